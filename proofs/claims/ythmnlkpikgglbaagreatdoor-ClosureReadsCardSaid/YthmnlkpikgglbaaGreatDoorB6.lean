/- Part 6 of the texts of this claim, one behind the other. -/
import Derived.Test.YthmnlkpikgglbaaGreatDoorB5
import Derived.Test.YthmnlkpikgglbaaGreatDoorRows
set_option linter.unusedVariables false
set_option linter.unusedSimpArgs false
set_option linter.unusedVariables false
set_option linter.unusedSimpArgs false
namespace Go.Proofs.YthmnlkpikgglbaaGreatDoor
open Go.Px
def len8L : List Nat := (List.range 256).map fun c => if c = 0 then 0 else c.log2 + 1
theorem len8_256 : ∀ x ∈ len8L, x < 256 := by decide +kernel
set_option maxRecDepth 10000 in
theorem len8_law : ∀ c : Fin 256, c.val < 2 ^ (len8L.getD c 0) ∧ len8L.getD c 0 ≤ 8 ∧ (0 < c.val → 2 ^ (len8L.getD c 0 - 1) ≤ c.val) := by decide +kernel
theorem len_part {x y n T : Nat} (h : x / 2 ^ n = y) (h1 : y < 2 ^ T) : x < 2 ^ (n + T) := by
  rw [Nat.pow_add]
  have := (Nat.div_lt_iff_lt_mul (Nat.two_pow_pos n)).1 (h ▸ h1)
  rwa [Nat.mul_comm] at this
theorem len_part2 {x y n T : Nat} (h : x / 2 ^ n = y) (hy : 0 < y) (hT : 2 ^ (T - 1) ≤ y) (h1 : y < 2 ^ T) : 2 ^ (n + T - 1) ≤ x := by
  have h0 : T ≠ 0 := by rintro rfl; simp at h1; omega
  rw [show n + T - 1 = n + (T - 1) by omega, Nat.pow_add]
  have := Nat.div_mul_le_self x (2 ^ n)
  rw [h] at this
  exact Nat.le_trans (by rw [Nat.mul_comm]; exact Nat.mul_le_mul_right _ hT) this
def smallsL : List Nat := (List.range 100).flatMap fun p => [48 + p / 10, 48 + p % 10]
theorem smalls_256 : ∀ x ∈ smallsL, x < 256 := by decide +kernel
theorem smalls_law : ∀ p : Fin 100, smallsL.getD (2 * p.val) 0 = 48 + p.val / 10 ∧ smallsL.getD (2 * p.val + 1) 0 = 48 + p.val % 10 := by decide +kernel
theorem smalls_len : smallsL.length = 200 := by decide +kernel
def pow10T : List Nat := (List.range 20).map fun i => 10 ^ i
theorem log10_law : ∀ n : Fin 65, 2 ^ n.val ≤ 10 ^ (n.val * 78913 / 262144 + 1) ∧ n.val * 78913 / 262144 ≤ 19 ∧ (n.val * 78913 / 262144 = 0 ∨ 10 ^ (n.val * 78913 / 262144 - 1) ≤ 2 ^ (n.val - 1)) := by decide +kernel
theorem pow10_get : ∀ t : Fin 20, pow10T.getD t 0 = 10 ^ t.val := by decide +kernel
theorem nd_law {x n : Nat} (h0 : 0 < x) (hn : n ≤ 64) (h1 : x < 2 ^ n) (h2 : 2 ^ (n - 1) ≤ x) : n * 78913 / 262144 + (if 10 ^ (n * 78913 / 262144) ≤ x then 1 else 0) = nd10 x := by
  obtain ⟨a, b, c⟩ := log10_law ⟨n, by omega⟩
  simp only at a b c
  have hx : x < 18446744073709551616 := Nat.lt_of_lt_of_le h1 (Nat.pow_le_pow_right (by decide) hn : 2 ^ n ≤ 2 ^ 64)
  generalize n * 78913 / 262144 = t at *
  split
  · rename_i h
    exact (nd10_uniq (by omega) (Nat.lt_of_lt_of_le h1 a) (.inr (by simpa using h)) hx).symm
  · rename_i h
    have ht : t ≠ 0 := by rintro rfl; simp at h; omega
    rw [Nat.add_zero]
    refine (nd10_uniq (by omega) (by omega) (.inr ?_) hx).symm
    rcases c with c | c
    · exact absurd c ht
    · exact Nat.le_trans c h2
/-! ### Digits into a row -/
theorem dgs_cons (k u : Nat) : dgs (k + 1) u = (48 + u / 10 ^ k % 10) :: dgs k u := by
  unfold dgs
  rw [show List.range (k + 1) = 0 :: (List.range k).map (· + 1) from List.range_succ_eq_map, List.map_cons, List.map_map]
  congr 1
  apply List.map_congr_left
  intro j hj
  have := List.mem_range.1 hj
  simp only [Function.comp]
  congr 4; omega
theorem put_digit {xs r : List Nat} {o m k u : Nat} (hm : 0 < m) (hl : o + m ≤ xs.length) : (xs.take (o + m) ++ (dgs k u ++ r)).set (o + (m - 1)) (48 + u / 10 ^ k % 10) = xs.take (o + (m - 1)) ++ (dgs (k + 1) u ++ r) := by
  have e : xs.take (o + m) = xs.take (o + (m - 1)) ++ [xs[o + (m - 1)]'(by omega)] := by
    rw [show o + m = (o + (m - 1)) + 1 by omega, List.take_add_one, List.getElem?_eq_getElem (by omega)]; rfl
  rw [e, dgs_cons, List.append_assoc, List.set_append_right _ _ (by rw [List.length_take]; omega), List.length_take, Nat.min_eq_left (by omega), Nat.sub_self]
  simp
theorem put_two {xs r : List Nat} {o m k u p : Nat} (hm : 2 ≤ m) (hl : o + m ≤ xs.length) (hp : p = u / 10 ^ k % 100) : ((xs.take (o + m) ++ (dgs k u ++ r)).set (o + (m - 1)) (48 + p % 10)).set (o + (m - 2)) (48 + p / 10) = xs.take (o + (m - 2)) ++ (dgs (k + 2) u ++ r) := by
  have h1 := put_digit (xs := xs) (r := r) (o := o) (m := m) (k := k) (u := u) (by omega) hl
  have h2 := put_digit (xs := xs) (r := r) (o := o) (m := m - 1) (k := k + 1) (u := u) (by omega) (by omega)
  rw [show 48 + p % 10 = 48 + u / 10 ^ k % 10 by omega, h1]
  rw [show m - 1 - 1 = m - 2 by omega] at h2
  rw [show 48 + p / 10 = 48 + u / 10 ^ (k + 1) % 10 by rw [Nat.pow_succ, ← Nat.div_div_eq_div_mul]; omega, h2]
theorem row_len {xs r : List Nat} {o m k u : Nat} (hl : o + m ≤ xs.length) : (xs.take (o + m) ++ (dgs k u ++ r)).length = o + m + (k + r.length) := by simp [dgs_len]; omega

set_option maxRecDepth 100000 in
theorem len64_spec (x : Nat) (hx : x < 18446744073709551616) (A : Mem) : FnX Tryz.prog 146 [.int .u64 (x : Int)] [] A fun r M J => M = [] ∧ J = [] ∧ ∃ n : Nat, r = .int .i64 (n : Int) ∧ n ≤ 64 ∧ x < 2 ^ n ∧ (0 < x → 2 ^ (n - 1) ≤ x) := by
  refine FnX.enter (N := 25) Tryz.func146 rfl rfl rfl fun w => ?_
  refine XC.keep (kp 0 rfl kn) ?_
  refine XC.reg ?_
  refine XL.q (q_assign rfl) rfl ?_
  refine XL.fin (kp 0 rfl (kp 2 rfl kn)) ?_
  refine XC.join (α := Nat × Nat) (fun s => [(0, .int .u64 (s.1 : Int)), (2, .int .i64 (s.2 : Int))]) (fun _ => []) (fun _ => []) (fun s => x / 2 ^ s.2 = s.1 ∧ s.1 < 4294967296 ∧ s.2 ≤ 32 ∧ (s.2 = 0 ∨ 0 < s.1)) ?_ ?_
  ·
    refine XC.reg ?_
    refine XL.q (q_move rfl) rfl ?_
    refine XL.q (q_bin rfl rfl rfl) rfl ?_
    refine XL.fin (kp 0 rfl (kp 2 rfl (kp 4 rfl kn))) ?_
    refine XC.cond rfl (fun hc => ?_) (fun hc => ?_)
    ·
      have hge : 4294967296 ≤ x := by simp at hc; omega
      refine XC.reg ?_
      refine XL.q (q_move rfl) rfl ?_
      refine XL.q (q_shrD 32 4294967296 rfl rfl rfl rfl (by decide)) rfl ?_
      refine XL.q (q_assign rfl) rfl ?_
      refine XL.fin (kp 0 rfl kn) ?_
      refine XC.reg1 ?_
      refine XL.q (q_assign rfl) rfl ?_
      refine XL.nil ?_
      exact jn (x / 4294967296, 32) ⟨rfl, by dsimp only; omega, by dsimp only; omega, .inr (by dsimp only; omega)⟩ (kp 0 rfl (kp 2 rfl kn)) .rfl (fun _ h => h)
    ·
      have hlt : x < 4294967296 := by simp at hc; omega
      refine XC.skip ?_
      exact jn (x, 0) ⟨by simp, hlt, by dsimp only; omega, .inl rfl⟩ (kp 0 rfl (kp 2 rfl kn)) .rfl (fun _ h => h)
  ·
    rintro ⟨y, n⟩ ⟨hy, hyb, hn, h0⟩
    dsimp only at hy hyb hn h0 ⊢
    refine XC.join (α := Nat × Nat) (fun s => [(0, .int .u64 (s.1 : Int)), (2, .int .i64 (s.2 : Int))]) (fun _ => []) (fun _ => []) (fun s => x / 2 ^ s.2 = s.1 ∧ s.1 < 65536 ∧ s.2 ≤ 48 ∧ (s.2 = 0 ∨ 0 < s.1)) ?_ ?_
    ·
      refine XC.reg ?_
      refine XL.q (q_move rfl) rfl ?_
      refine XL.q (q_bin rfl rfl rfl) rfl ?_
      refine XL.fin (kp 0 rfl (kp 2 rfl (kp 8 rfl kn))) ?_
      refine XC.cond rfl (fun hc => ?_) (fun hc => ?_)
      ·
        have hge : 65536 ≤ y := by simp at hc; omega
        refine XC.reg ?_
        refine XL.q (q_move rfl) rfl ?_
        refine XL.q (q_shrD 16 65536 rfl rfl rfl rfl (by decide)) rfl ?_
        refine XL.q (q_assign rfl) rfl ?_
        refine XL.fin (kp 0 rfl (kp 2 rfl kn)) ?_
        refine XC.reg1 ?_
        refine XL.q (q_move rfl) rfl ?_
        refine XL.q (q_addI (b := 16) rfl rfl rfl rfl (by omega)) rfl ?_
        refine XL.q (q_assign rfl) rfl ?_
        refine XL.nil ?_
        exact jn (y / 65536, n + 16) ⟨by dsimp only; rw [Nat.pow_add, ← Nat.div_div_eq_div_mul, hy], by dsimp only; omega, by dsimp only; omega, .inr (by dsimp only; omega)⟩ (kp 0 rfl (kp 2 rfl kn)) .rfl (fun _ h => h)
      ·
        have hlt : y < 65536 := by simp at hc; omega
        refine XC.skip ?_
        exact jn (y, n) ⟨hy, hlt, by dsimp only; omega, h0⟩ (kp 0 rfl (kp 2 rfl kn)) .rfl (fun _ h => h)
    ·
      clear hy hyb hn h0
      rintro ⟨y, n⟩ ⟨hy, hyb, hn, h0⟩
      dsimp only at hy hyb hn h0 ⊢
      refine XC.join (α := Nat × Nat) (fun s => [(0, .int .u64 (s.1 : Int)), (2, .int .i64 (s.2 : Int))]) (fun _ => []) (fun _ => []) (fun s => x / 2 ^ s.2 = s.1 ∧ s.1 < 256 ∧ s.2 ≤ 56 ∧ (s.2 = 0 ∨ 0 < s.1)) ?_ ?_
      ·
        refine XC.reg ?_
        refine XL.q (q_move rfl) rfl ?_
        refine XL.q (q_bin rfl rfl rfl) rfl ?_
        refine XL.fin (kp 0 rfl (kp 2 rfl (kp 14 rfl kn))) ?_
        refine XC.cond rfl (fun hc => ?_) (fun hc => ?_)
        ·
          have hge : 256 ≤ y := by simp at hc; omega
          refine XC.reg ?_
          refine XL.q (q_move rfl) rfl ?_
          refine XL.q (q_shrD 8 256 rfl rfl rfl rfl (by decide)) rfl ?_
          refine XL.q (q_assign rfl) rfl ?_
          refine XL.fin (kp 0 rfl (kp 2 rfl kn)) ?_
          refine XC.reg1 ?_
          refine XL.q (q_move rfl) rfl ?_
          refine XL.q (q_addI (b := 8) rfl rfl rfl rfl (by omega)) rfl ?_
          refine XL.q (q_assign rfl) rfl ?_
          refine XL.nil ?_
          exact jn (y / 256, n + 8) ⟨by dsimp only; rw [Nat.pow_add, ← Nat.div_div_eq_div_mul, hy], by dsimp only; omega, by dsimp only; omega, .inr (by dsimp only; omega)⟩ (kp 0 rfl (kp 2 rfl kn)) .rfl (fun _ h => h)
        ·
          have hlt : y < 256 := by simp at hc; omega
          refine XC.skip ?_
          exact jn (y, n) ⟨hy, hlt, by dsimp only; omega, h0⟩ (kp 0 rfl (kp 2 rfl kn)) .rfl (fun _ h => h)
      ·
        clear hy hyb hn h0
        rintro ⟨y, n⟩ ⟨hy, hyb, hn, h0⟩
        dsimp only at hy hyb hn h0 ⊢
        obtain ⟨k1, k2, k3⟩ := len8_law ⟨y, hyb⟩
        simp only at k1 k2 k3
        refine XC.reg ?_
        refine XL.q (q_move rfl) rfl ?_
        refine XL.q (q_move rfl) rfl ?_
        refine XL.q ((Nat.mod_eq_of_lt hyb : y % 256 = y) ▸ q_to8 rfl (by kernel_rfl)) rfl ?_
        refine XL.q (q_sAt (ws := len8L) (a := y) rfl (by kernel_rfl) len8_256 rfl (by kernel_rfl) rfl (by show _ < 256; omega)) rfl ?_
        refine XL.q (q_same (k' := .i64) rfl (by kernel_rfl) (by show _ < 9223372036854775808; omega)) rfl ?_
        refine XL.q (q_addI rfl rfl rfl rfl (by omega)) rfl ?_
        refine XL.q (q_assign rfl) rfl ?_
        refine XL.fin (kp 2 rfl kn) ?_
        refine XC.ret ?_
        refine ⟨_, [], [], res1 rfl rfl, List.nil_sublist _, by simp, rfl, rfl, n + len8L.getD y 0, rfl, by omega, len_part hy k1, fun hx => ?_⟩
        have hy0 : 0 < y := by
          rcases h0 with rfl | h0
          · rw [← hy]; simpa using hx
          · exact h0
        exact len_part2 hy hy0 (k3 hy0) k1

set_option maxRecDepth 100000 in
theorem log10_spec (n : Nat) (hn : n ≤ 64) (A : Mem) : FnV Tryz.prog 168 [.int .i64 (n : Int)] A (.int .i64 ((n * 78913 / 2 ^ 18 : Nat) : Int)) := by
  refine FnX.enter (N := 6) Tryz.func168 rfl rfl rfl fun w => ?_
  refine XC.keep (kp 0 rfl kn) ?_
  refine XC.reg ?_
  refine XL.q (q_assign rfl) rfl ?_
  refine XL.fin (kp 0 rfl kn) ?_
  refine XC.reg ?_
  refine XL.q (q_move rfl) rfl ?_
  refine XL.q (q_mulI (b := 78913) rfl rfl rfl rfl (by omega)) rfl ?_
  refine XL.q (q_shrI (b := 18) rfl rfl rfl rfl (by show _ ≤ 64; omega)) rfl ?_
  refine XL.q (q_assign rfl) rfl ?_
  refine XL.fin (kp 2 rfl kn) ?_
  refine XC.ret ?_
  exact ⟨_, [], [], res1 rfl rfl, List.nil_sublist _, by simp, rfl, rfl, rfl⟩

set_option maxRecDepth 100000 in
theorem bool2_spec (b : Bool) (A : Mem) : FnV Tryz.prog 169 [.bool b] A (.int .i64 ((if b = true then 1 else 0 : Nat) : Int)) := by
  refine FnX.enter (N := 4) Tryz.func169 rfl rfl rfl fun w => ?_
  refine XC.keep (kp 0 rfl kn) ?_
  refine XC.reg ?_
  refine XL.q (q_assign rfl) rfl ?_
  refine XL.fin (kp 0 rfl kn) ?_
  refine XC.seq ?_
  refine XC.reg ?_
  refine XL.q (q_move rfl) rfl ?_
  refine XL.fin (kp 3 rfl kn) ?_
  refine XC.cond rfl (fun hc => ?_) (fun hc => ?_)
  ·
    subst hc
    refine XC.reg ?_
    refine XL.q (q_assign rfl) rfl ?_
    refine XL.fin (kp 2 rfl kn) ?_
    refine XC.ret ?_
    refine tr ?_
    exact ⟨_, [], [], res1 rfl rfl, List.nil_sublist _, by simp, rfl, rfl, rfl⟩
  ·
    subst hc
    refine XC.skip ?_
    refine nx kn ?_
    refine XC.reg ?_
    refine XL.q (q_assign rfl) rfl ?_
    refine XL.fin (kp 2 rfl kn) ?_
    refine XC.ret ?_
    exact ⟨_, [], [], res1 rfl rfl, List.nil_sublist _, by simp, rfl, rfl, rfl⟩

set_option maxRecDepth 100000 in
theorem numDigits_spec (x : Nat) (h0 : 0 < x) (hx : x < 18446744073709551616) (A : Mem) {e4 : TypeId} {f4 : Nat × Nat} (h4 : (4, Obj.cells (nums .u64 pow10T).toArray e4 f4) ∈ A) : FnV Tryz.prog 154 [.int .u64 (x : Int)] A (.int .i64 ((nd10 x : Nat) : Int)) := by
  refine FnX.enter (N := 15) Tryz.func154 rfl rfl rfl fun w => ?_
  refine XC.keep (kp 0 rfl kn) ?_
  refine XC.reg ?_
  refine XL.q (q_assign rfl) rfl ?_
  refine XL.fin (kp 0 rfl kn) ?_
  refine XC.reg ?_
  refine XL.q (q_move rfl) rfl ?_
  refine XL.call (aS rfl a0) (by kernel_rfl) (len64_spec x hx _) rfl ?_
  rintro r5 M5 J5 ⟨rfl, rfl, n, rfl, hn, h1, h2⟩
  replace h2 := h2 h0
  have hnd := nd_law h0 hn h1 h2
  obtain ⟨-, k2, -⟩ := log10_law ⟨n, by omega⟩
  simp only at k2
  refine XL.callV (aS rfl a0) (by kernel_rfl) (log10_spec n hn _) rfl ?_
  rw [show (2 : Nat) ^ 18 = 262144 from rfl]
  have k4 := pow10_get ⟨n * 78913 / 262144, by omega⟩
  simp only at k4
  generalize n * 78913 / 262144 = t at *
  refine XL.q (q_assign rfl) rfl ?_
  refine XL.fin (kp 0 rfl (kp 3 rfl kn)) ?_
  refine XC.reg ?_
  refine XL.q (q_move rfl) rfl ?_
  refine XL.q (q_move rfl) rfl ?_
  refine XL.q (q_move rfl) rfl ?_
  refine XL.q (q_idxA (e := 85) (n := 20) (sz := 1) (i := t) rfl rfl (by kernel_rfl) (by kernel_rfl) rfl (by omega)) rfl ?_
  refine XL.q (q_ldN t rfl (by kernel_rfl) (mA h4) (by omega) (by show _ < 20; omega)) rfl ?_
  refine XL.q (q_cmp (decide (10 ^ t ≤ x)) rfl rfl (by rw [k4, ← decide_eq_decide.2 (show (((10 ^ t : Nat) : Int) ≤ (x : Int)) ↔ 10 ^ t ≤ x from Int.ofNat_le)]; rfl)) rfl ?_
  refine XL.callV (aS rfl a0) (by kernel_rfl) (bool2_spec _ _) rfl ?_
  refine XL.q (q_addI rfl rfl rfl rfl (by split <;> omega)) rfl ?_
  refine XL.q (q_assign rfl) rfl ?_
  refine XL.fin (kp 2 rfl kn) ?_
  refine XC.ret ?_
  refine ⟨_, [], [], res1 rfl rfl, List.nil_sublist _, by simp, ?_, rfl, rfl⟩
  rw [← hnd]; simp only [decide_eq_true_eq]

section
variable {P : Program} {R : Mem} {l : Env} {d : Option Nat} {ty t : TypeId} {pos : String} {af : Array Edge} {g : Option (Nat × Bool)} {x y : Operand} {S : ByteArray} {k : IntKind} {i : Int} {p : Nat}
theorem q_small0 (hx : ev l x = some (.string S)) (hS : S = txt smallsL) (hy : ev l y = some (.int k i)) (hu : P.underlying t = some .string) (hi : i = ((2 * p : Nat) : Int)) (hp : p < 100) : OpQ P R ⟨d, .index t x y, ty, pos, af, g⟩ l (.int .u8 ((48 + p / 10 : Nat) : Int)) :=
  (smalls_law ⟨p, hp⟩).1 ▸ q_sAt hx hS smalls_256 hy hu hi (by rw [smalls_len]; omega)
theorem q_small1 (hx : ev l x = some (.string S)) (hS : S = txt smallsL) (hy : ev l y = some (.int k i)) (hu : P.underlying t = some .string) (hi : i = ((2 * p + 1 : Nat) : Int)) (hp : p < 100) : OpQ P R ⟨d, .index t x y, ty, pos, af, g⟩ l (.int .u8 ((48 + p % 10 : Nat) : Int)) :=
  (smalls_law ⟨p, hp⟩).2 ▸ q_sAt hx hS smalls_256 hy hu hi (by rw [smalls_len]; omega)
end
theorem div_add (u a b : Nat) : u / 10 ^ (a + b) = u / 10 ^ a / 10 ^ b := by rw [Nat.pow_add, Nat.div_div_eq_div_mul]

theorem div10_lt {u n m : Nat} (hu : u < 10 ^ n) (hm : m ≤ n) : u / 10 ^ (n - m) < 10 ^ m := by
  rw [Nat.div_lt_iff_lt_mul (Nat.pow_pos (by decide)), ← Nat.pow_add]
  rwa [show m + (n - m) = n by omega]

set_option maxRecDepth 100000 in
theorem fb10_spec (b o n cap u : Nat) (xs : List Nat) (e : TypeId) (hn : 0 < n) (hn20 : n ≤ 20) (hxs : o + n ≤ xs.length) (hu : u < 10 ^ n) (hu64 : u < 18446744073709551616) (A : Mem) : FnX Tryz.prog 155 [.slice (some ⟨b, o, none⟩) n cap, .int .u64 (u : Int)] [(b, blk (nums .u8 xs) e)] A fun r M J => J = [] ∧ M = [(b, blk (nums .u8 (xs.take o ++ (dgs n u ++ xs.drop (o + n)))) e)] := by
  refine FnX.enter (N := 167) Tryz.func155 rfl rfl rfl fun w => ?_
  refine XC.keep (kp 0 rfl (kp 1 rfl kn)) ?_
  refine XC.reg ?_
  refine XL.q (q_move rfl) rfl ?_
  refine XL.q (q_lenS (e := 5) rfl (by kernel_rfl)) rfl ?_
  refine XL.q (q_assign rfl) rfl ?_
  refine XL.fin (kp 0 rfl (kp 1 rfl (kp 4 rfl kn))) ?_
  refine XC.seq ?_
  refine XC.block ?_
  refine XC.loop (α := Nat) (fun m => [(0, .slice (some ⟨b, o, none⟩) n cap), (1, .int .u64 ((u / 10 ^ (n - m) : Nat) : Int)), (4, .int .i64 (m : Int))]) (fun m => [(b, blk (nums .u8 (xs.take (o + m) ++ (dgs (n - m) u ++ xs.drop (o + n)))) e)]) (fun _ => []) (fun m => m ≤ n) (fun m => m) n (Nat.le_refl _) (kp 0 rfl (kp 1 (by rw [Nat.sub_self, Nat.pow_zero, Nat.div_one]; rfl) (kp 4 rfl kn))) (Fit.eq (by simp [dgs])) (fun _ h => h) ?_
  rintro m hm
  have hb := div10_lt hu hm
  refine XC.seq ?_
  refine XC.reg ?_
  refine XL.q (q_move rfl) rfl ?_
  refine XL.q (q_bin rfl rfl rfl) rfl ?_
  refine XL.fin (kp 0 rfl (kp 1 rfl (kp 4 rfl (kp 20 rfl kn)))) ?_
  refine XC.cond rfl (fun hc => ?_) (fun hc => ?_)
  ·
    have hm8 : 8 ≤ m := by simp at hc; omega
    obtain ⟨k, hk⟩ : ∃ k, k = n - m := ⟨_, rfl⟩
    rw [← hk]
    have hkm : k + m = n := by omega
    obtain ⟨v, hv⟩ : ∃ v, v = u / 10 ^ k := ⟨_, rfl⟩
    rw [← hv]
    have hv64 : v < 18446744073709551616 := by rw [hv]; exact Nat.lt_of_le_of_lt (Nat.div_le_self _ _) hu64
    refine XC.skip ?_
    refine nx (kp 0 rfl (kp 1 rfl (kp 4 rfl kn))) ?_
    refine XC.block ?_
    refine XC.reg ?_
    refine XL.q (q_move rfl) rfl ?_
    refine XL.q (q_remI (b := 100000000) rfl rfl rfl rfl (by omega)) rfl ?_
    refine XL.q (q_to32 rfl (by kernel_rfl)) rfl ?_
    rw [show v % 100000000 % 4294967296 = v % 100000000 by omega]
    obtain ⟨y, hy⟩ : ∃ y, y = v % 100000000 := ⟨_, rfl⟩
    rw [← hy]
    have hy8 : y < 100000000 := by omega
    refine XL.q (q_assign rfl) rfl ?_
    refine XL.fin (kp 0 rfl (kp 1 rfl (kp 4 rfl (kp 5 rfl kn)))) ?_
    refine XC.reg ?_
    refine XL.q (q_move rfl) rfl ?_
    refine XL.q (q_quoU (b := 100000000) (m := 18446744073709551616) rfl rfl rfl rfl rfl rfl (by omega) (by omega)) rfl ?_
    refine XL.q (q_assign rfl) rfl ?_
    refine XL.fin (kp 0 rfl (kp 1 rfl (kp 4 rfl (kp 5 rfl kn)))) ?_
    refine XC.reg ?_
    refine XL.q (q_move rfl) rfl ?_
    refine XL.q (q_quoU (b := 10000) (m := 4294967296) rfl rfl rfl rfl rfl rfl (by omega) (by omega)) rfl ?_
    refine XL.q (q_move rfl) rfl ?_
    refine XL.q (q_remI (b := 10000) rfl rfl rfl rfl (by omega)) rfl ?_
    refine XL.q (q_assign rfl) rfl ?_
    refine XL.q (q_assign rfl) rfl ?_
    refine XL.fin (kp 0 rfl (kp 1 rfl (kp 4 rfl (kp 6 rfl (kp 7 rfl kn))))) ?_
    refine XC.reg ?_
    refine XL.q (q_move rfl) rfl ?_
    refine XL.q (q_quoU (b := 100) (m := 4294967296) rfl rfl rfl rfl rfl rfl (by omega) (by omega)) rfl ?_
    refine XL.q (q_mulM 4294967296 (b := 2) rfl rfl rfl rfl rfl rfl) rfl ?_
    refine XL.q (q_move rfl) rfl ?_
    refine XL.q (q_remI (b := 100) rfl rfl rfl rfl (by omega)) rfl ?_
    refine XL.q (q_mulM 4294967296 (b := 2) rfl rfl rfl rfl rfl rfl) rfl ?_
    refine XL.q (q_assign rfl) rfl ?_
    refine XL.q (q_assign rfl) rfl ?_
    refine XL.fin (kp 0 rfl (kp 1 rfl (kp 4 rfl (kp 6 rfl (kp 8 rfl (kp 9 rfl kn)))))) ?_
    refine XC.reg ?_
    refine XL.q (q_move rfl) rfl ?_
    refine XL.q (q_quoU (b := 100) (m := 4294967296) rfl rfl rfl rfl rfl rfl (by omega) (by omega)) rfl ?_
    refine XL.q (q_mulM 4294967296 (b := 2) rfl rfl rfl rfl rfl rfl) rfl ?_
    refine XL.q (q_move rfl) rfl ?_
    refine XL.q (q_remI (b := 100) rfl rfl rfl rfl (by omega)) rfl ?_
    refine XL.q (q_mulM 4294967296 (b := 2) rfl rfl rfl rfl rfl rfl) rfl ?_
    refine XL.q (q_assign rfl) rfl ?_
    refine XL.q (q_assign rfl) rfl ?_
    refine XL.fin (kp 0 rfl (kp 1 rfl (kp 4 rfl (kp 8 rfl (kp 9 rfl (kp 10 rfl (kp 11 rfl kn))))))) ?_
    refine XC.drawF [0, 1, 2, 3, 4, 5, 6, 7, 8, 9, 10, 11, 13] [(0, 0), (1, 0), (2, 0), (3, 0), (4, 0), (5, 0), (6, 0), (7, 0), (8, 0), (9, 0), (10, 0), (11, 0), (12, 2), (13, 0), (14, 2)] (by kernel_rfl) (by kernel_rfl) fun hs => ?_
    refine XF.q hs rfl (q_move rfl) rfl ?_
    refine XF.q hs rfl (q_move rfl) rfl ?_
    refine XF.q hs rfl (q_subI (b := 1) rfl rfl rfl rfl (by omega) (by omega)) rfl ?_
    refine XF.q hs rfl (q_move rfl) rfl ?_
    refine XF.q hs rfl (q_move rfl) rfl ?_
    refine XF.q hs rfl (q_subI (b := 2) rfl rfl rfl rfl (by omega) (by omega)) rfl ?_
    refine XF.q hs rfl (q_move rfl) rfl ?_
    refine XF.q hs rfl (q_addM 4294967296 (b := 1) rfl rfl rfl rfl rfl rfl) rfl ?_
    refine XF.q hs rfl (q_small1 (p := (y % 10000 % 100)) rfl (by kernel_rfl) rfl (by kernel_rfl) (by omega) (by omega)) rfl ?_
    refine XF.q hs rfl (q_move rfl) rfl ?_
    refine XF.q hs rfl (q_small0 (p := (y % 10000 % 100)) rfl (by kernel_rfl) rfl (by kernel_rfl) (by omega) (by omega)) rfl ?_
    refine XF.q hs rfl (q_idxS (e := 5) (sz := 1) (i := m - 1) rfl rfl (by kernel_rfl) (by kernel_rfl) (by omega) (by omega)) rfl ?_
    refine XF.tl rfl rfl rfl (l_stN (o + (m - 1)) rfl rfl (by kernel_rfl) (by omega) (by rw [row_len (by omega)]; omega) UpC.upd ?_)
    refine XF.q hs rfl (q_idxS (e := 5) (sz := 1) (i := m - 2) rfl rfl (by kernel_rfl) (by kernel_rfl) (by omega) (by omega)) rfl ?_
    refine XF.tl rfl rfl rfl (l_stN (o + (m - 2)) rfl rfl (by kernel_rfl) (by omega) (by rw [List.length_set, row_len (by omega)]; omega) UpC.upd ?_)
    rw [put_two (by omega) (by omega) (by rw [← hv]; omega)]
    refine XF.fin (kp 0 rfl (kp 1 rfl (kp 4 rfl (kp 8 rfl (kp 10 rfl (kp 11 rfl kn)))))) ?_
    refine XC.drawF [0, 1, 2, 3, 4, 5, 6, 7, 8, 9, 10, 11, 13] [(0, 0), (1, 0), (2, 0), (3, 0), (4, 0), (5, 0), (6, 0), (7, 0), (8, 0), (9, 0), (10, 0), (11, 0), (12, 2), (13, 0), (14, 2)] (by kernel_rfl) (by kernel_rfl) fun hs => ?_
    refine XF.q hs rfl (q_move rfl) rfl ?_
    refine XF.q hs rfl (q_move rfl) rfl ?_
    refine XF.q hs rfl (q_subI (b := 3) rfl rfl rfl rfl (by omega) (by omega)) rfl ?_
    refine XF.q hs rfl (q_move rfl) rfl ?_
    refine XF.q hs rfl (q_move rfl) rfl ?_
    refine XF.q hs rfl (q_subI (b := 4) rfl rfl rfl rfl (by omega) (by omega)) rfl ?_
    refine XF.q hs rfl (q_move rfl) rfl ?_
    refine XF.q hs rfl (q_addM 4294967296 (b := 1) rfl rfl rfl rfl rfl rfl) rfl ?_
    refine XF.q hs rfl (q_small1 (p := (y % 10000 / 100)) rfl (by kernel_rfl) rfl (by kernel_rfl) (by omega) (by omega)) rfl ?_
    refine XF.q hs rfl (q_move rfl) rfl ?_
    refine XF.q hs rfl (q_small0 (p := (y % 10000 / 100)) rfl (by kernel_rfl) rfl (by kernel_rfl) (by omega) (by omega)) rfl ?_
    refine XF.q hs rfl (q_idxS (e := 5) (sz := 1) (i := (m - 2) - 1) rfl rfl (by kernel_rfl) (by kernel_rfl) (by omega) (by omega)) rfl ?_
    refine XF.tl rfl rfl rfl (l_stN (o + ((m - 2) - 1)) rfl rfl (by kernel_rfl) (by omega) (by rw [row_len (by omega)]; omega) UpC.upd ?_)
    refine XF.q hs rfl (q_idxS (e := 5) (sz := 1) (i := (m - 2) - 2) rfl rfl (by kernel_rfl) (by kernel_rfl) (by omega) (by omega)) rfl ?_
    refine XF.tl rfl rfl rfl (l_stN (o + ((m - 2) - 2)) rfl rfl (by kernel_rfl) (by omega) (by rw [List.length_set, row_len (by omega)]; omega) UpC.upd ?_)
    rw [put_two (by omega) (by omega) (by rw [div_add, ← hv]; omega)]
    refine XF.fin (kp 0 rfl (kp 1 rfl (kp 4 rfl (kp 10 rfl (kp 11 rfl kn))))) ?_
    refine XC.drawF [0, 1, 2, 3, 4, 5, 6, 7, 8, 9, 10, 11, 13] [(0, 0), (1, 0), (2, 0), (3, 0), (4, 0), (5, 0), (6, 0), (7, 0), (8, 0), (9, 0), (10, 0), (11, 0), (12, 2), (13, 0), (14, 2)] (by kernel_rfl) (by kernel_rfl) fun hs => ?_
    refine XF.q hs rfl (q_move rfl) rfl ?_
    refine XF.q hs rfl (q_move rfl) rfl ?_
    refine XF.q hs rfl (q_subI (b := 5) rfl rfl rfl rfl (by omega) (by omega)) rfl ?_
    refine XF.q hs rfl (q_move rfl) rfl ?_
    refine XF.q hs rfl (q_move rfl) rfl ?_
    refine XF.q hs rfl (q_subI (b := 6) rfl rfl rfl rfl (by omega) (by omega)) rfl ?_
    refine XF.q hs rfl (q_move rfl) rfl ?_
    refine XF.q hs rfl (q_addM 4294967296 (b := 1) rfl rfl rfl rfl rfl rfl) rfl ?_
    refine XF.q hs rfl (q_small1 (p := (y / 10000 % 100)) rfl (by kernel_rfl) rfl (by kernel_rfl) (by omega) (by omega)) rfl ?_
    refine XF.q hs rfl (q_move rfl) rfl ?_
    refine XF.q hs rfl (q_small0 (p := (y / 10000 % 100)) rfl (by kernel_rfl) rfl (by kernel_rfl) (by omega) (by omega)) rfl ?_
    refine XF.q hs rfl (q_idxS (e := 5) (sz := 1) (i := (m - 2 - 2) - 1) rfl rfl (by kernel_rfl) (by kernel_rfl) (by omega) (by omega)) rfl ?_
    refine XF.tl rfl rfl rfl (l_stN (o + ((m - 2 - 2) - 1)) rfl rfl (by kernel_rfl) (by omega) (by rw [row_len (by omega)]; omega) UpC.upd ?_)
    refine XF.q hs rfl (q_idxS (e := 5) (sz := 1) (i := (m - 2 - 2) - 2) rfl rfl (by kernel_rfl) (by kernel_rfl) (by omega) (by omega)) rfl ?_
    refine XF.tl rfl rfl rfl (l_stN (o + ((m - 2 - 2) - 2)) rfl rfl (by kernel_rfl) (by omega) (by rw [List.length_set, row_len (by omega)]; omega) UpC.upd ?_)
    rw [put_two (by omega) (by omega) (by rw [show k + 2 + 2 = k + 4 by omega, div_add, ← hv]; omega)]
    refine XF.fin (kp 0 rfl (kp 1 rfl (kp 4 rfl (kp 10 rfl kn)))) ?_
    refine XC.drawF [0, 1, 2, 3, 4, 5, 6, 7, 8, 9, 10, 11, 13] [(0, 0), (1, 0), (2, 0), (3, 0), (4, 0), (5, 0), (6, 0), (7, 0), (8, 0), (9, 0), (10, 0), (11, 0), (12, 2), (13, 0), (14, 2)] (by kernel_rfl) (by kernel_rfl) fun hs => ?_
    refine XF.q hs rfl (q_move rfl) rfl ?_
    refine XF.q hs rfl (q_move rfl) rfl ?_
    refine XF.q hs rfl (q_subI (b := 7) rfl rfl rfl rfl (by omega) (by omega)) rfl ?_
    refine XF.q hs rfl (q_move rfl) rfl ?_
    refine XF.q hs rfl (q_move rfl) rfl ?_
    refine XF.q hs rfl (q_subI (b := 8) rfl rfl rfl rfl (by omega) (by omega)) rfl ?_
    refine XF.q hs rfl (q_move rfl) rfl ?_
    refine XF.q hs rfl (q_addM 4294967296 (b := 1) rfl rfl rfl rfl rfl rfl) rfl ?_
    refine XF.q hs rfl (q_small1 (p := (y / 10000 / 100)) rfl (by kernel_rfl) rfl (by kernel_rfl) (by omega) (by omega)) rfl ?_
    refine XF.q hs rfl (q_move rfl) rfl ?_
    refine XF.q hs rfl (q_small0 (p := (y / 10000 / 100)) rfl (by kernel_rfl) rfl (by kernel_rfl) (by omega) (by omega)) rfl ?_
    refine XF.q hs rfl (q_idxS (e := 5) (sz := 1) (i := (m - 2 - 2 - 2) - 1) rfl rfl (by kernel_rfl) (by kernel_rfl) (by omega) (by omega)) rfl ?_
    refine XF.tl rfl rfl rfl (l_stN (o + ((m - 2 - 2 - 2) - 1)) rfl rfl (by kernel_rfl) (by omega) (by rw [row_len (by omega)]; omega) UpC.upd ?_)
    refine XF.q hs rfl (q_idxS (e := 5) (sz := 1) (i := (m - 2 - 2 - 2) - 2) rfl rfl (by kernel_rfl) (by kernel_rfl) (by omega) (by omega)) rfl ?_
    refine XF.tl rfl rfl rfl (l_stN (o + ((m - 2 - 2 - 2) - 2)) rfl rfl (by kernel_rfl) (by omega) (by rw [List.length_set, row_len (by omega)]; omega) UpC.upd ?_)
    rw [put_two (by omega) (by omega) (by rw [show k + 2 + 2 + 2 = k + 6 by omega, div_add, ← hv]; omega)]
    refine XF.fin (kp 0 rfl (kp 1 rfl (kp 4 rfl kn))) ?_
    refine XC.reg1 ?_
    refine XL.q (q_move rfl) rfl ?_
    refine XL.q (q_subI (b := 8) rfl rfl rfl rfl (by omega) (by omega)) rfl ?_
    refine XL.q (q_assign rfl) rfl ?_
    refine XL.nil ?_
    refine nb ?_
    exact rn (m - 8) (by omega) (by omega) (kp 0 rfl (kp 1 (by rw [show n - (m - 8) = k + 8 by omega, div_add, ← hv]; rfl) (kp 4 rfl kn))) (Fit.eq (by rw [show n - (m - 8) = k + 8 by omega, show m - 2 - 2 - 2 - 2 = m - 8 by omega, show k + 2 + 2 + 2 + 2 = k + 8 by omega])) (fun _ h => h)
  ·
    have hm8 : m < 8 := by simp at hc; omega
    refine XC.exit ?_
    refine te ?_
    refine re ?_
    refine be rfl ?_
    refine nx (kp 0 rfl (kp 1 rfl (kp 4 rfl kn))) ?_
    obtain ⟨k, hk⟩ : ∃ k, k = n - m := ⟨_, rfl⟩
    rw [← hk]
    have hkm : k + m = n := by omega
    obtain ⟨v, hv⟩ : ∃ v, v = u / 10 ^ k := ⟨_, rfl⟩
    rw [← hv]
    rw [← hk, ← hv] at hb
    have hb7 : v < 10000000 := Nat.lt_of_lt_of_le hb (Nat.pow_le_pow_right (by decide) (by omega) : 10 ^ m ≤ 10 ^ 7)
    refine XC.reg ?_
    refine XL.q (q_move rfl) rfl ?_
    refine XL.q (q_to32 rfl (by kernel_rfl)) rfl ?_
    refine XL.q (q_assign rfl) rfl ?_
    rw [show v % 4294967296 = v by omega]
    refine XL.fin (kp 0 rfl (kp 4 rfl (kp 12 rfl kn))) ?_
    refine XC.join (α := Nat) (fun m => [(0, .slice (some ⟨b, o, none⟩) n cap), (4, .int .i64 (m : Int)), (12, .int .u32 ((u / 10 ^ (n - m) : Nat) : Int))]) (fun m => [(b, blk (nums .u8 (xs.take (o + m) ++ (dgs (n - m) u ++ xs.drop (o + n)))) e)]) (fun _ => []) (fun m => m ≤ n ∧ m < 4) ?_ ?_
    ·
      refine XC.reg ?_
      refine XL.q (q_move rfl) rfl ?_
      refine XL.q (q_bin rfl rfl rfl) rfl ?_
      refine XL.fin (kp 0 rfl (kp 4 rfl (kp 12 rfl (kp 99 rfl kn)))) ?_
      refine XC.cond rfl (fun hc => ?_) (fun hc => ?_)
      ·
        have hm4 : 4 ≤ m := by simp at hc; omega
        refine XC.reg ?_
        refine XL.q (q_move rfl) rfl ?_
        refine XL.q (q_remI (b := 10000) rfl rfl rfl rfl (by omega)) rfl ?_
        refine XL.q (q_assign rfl) rfl ?_
        refine XL.fin (kp 0 rfl (kp 4 rfl (kp 12 rfl (kp 13 rfl kn)))) ?_
        refine XC.reg ?_
        refine XL.q (q_move rfl) rfl ?_
        refine XL.q (q_quoU (b := 10000) (m := 4294967296) rfl rfl rfl rfl rfl rfl (by omega) (by omega)) rfl ?_
        refine XL.q (q_assign rfl) rfl ?_
        refine XL.fin (kp 0 rfl (kp 4 rfl (kp 12 rfl (kp 13 rfl kn)))) ?_
        refine XC.reg ?_
        refine XL.q (q_move rfl) rfl ?_
        refine XL.q (q_quoU (b := 100) (m := 4294967296) rfl rfl rfl rfl rfl rfl (by omega) (by omega)) rfl ?_
        refine XL.q (q_mulM 4294967296 (b := 2) rfl rfl rfl rfl rfl rfl) rfl ?_
        refine XL.q (q_move rfl) rfl ?_
        refine XL.q (q_remI (b := 100) rfl rfl rfl rfl (by omega)) rfl ?_
        refine XL.q (q_mulM 4294967296 (b := 2) rfl rfl rfl rfl rfl rfl) rfl ?_
        refine XL.q (q_assign rfl) rfl ?_
        refine XL.q (q_assign rfl) rfl ?_
        refine XL.fin (kp 0 rfl (kp 4 rfl (kp 12 rfl (kp 14 rfl (kp 15 rfl kn))))) ?_
        refine XC.drawF [0, 1, 2, 3, 4, 5, 6, 7, 8, 9, 10, 11, 13] [(0, 0), (1, 0), (2, 0), (3, 0), (4, 0), (5, 0), (6, 0), (7, 0), (8, 0), (9, 0), (10, 0), (11, 0), (12, 2), (13, 0), (14, 2)] (by kernel_rfl) (by kernel_rfl) fun hs => ?_
        refine XF.q hs rfl (q_move rfl) rfl ?_
        refine XF.q hs rfl (q_move rfl) rfl ?_
        refine XF.q hs rfl (q_subI (b := 1) rfl rfl rfl rfl (by omega) (by omega)) rfl ?_
        refine XF.q hs rfl (q_move rfl) rfl ?_
        refine XF.q hs rfl (q_move rfl) rfl ?_
        refine XF.q hs rfl (q_subI (b := 2) rfl rfl rfl rfl (by omega) (by omega)) rfl ?_
        refine XF.q hs rfl (q_move rfl) rfl ?_
        refine XF.q hs rfl (q_addM 4294967296 (b := 1) rfl rfl rfl rfl rfl rfl) rfl ?_
        refine XF.q hs rfl (q_small1 (p := (v % 10000 % 100)) rfl (by kernel_rfl) rfl (by kernel_rfl) (by omega) (by omega)) rfl ?_
        refine XF.q hs rfl (q_move rfl) rfl ?_
        refine XF.q hs rfl (q_small0 (p := (v % 10000 % 100)) rfl (by kernel_rfl) rfl (by kernel_rfl) (by omega) (by omega)) rfl ?_
        refine XF.q hs rfl (q_idxS (e := 5) (sz := 1) (i := m - 1) rfl rfl (by kernel_rfl) (by kernel_rfl) (by omega) (by omega)) rfl ?_
        refine XF.tl rfl rfl rfl (l_stN (o + (m - 1)) rfl rfl (by kernel_rfl) (by omega) (by rw [row_len (by omega)]; omega) UpC.upd ?_)
        refine XF.q hs rfl (q_idxS (e := 5) (sz := 1) (i := m - 2) rfl rfl (by kernel_rfl) (by kernel_rfl) (by omega) (by omega)) rfl ?_
        refine XF.tl rfl rfl rfl (l_stN (o + (m - 2)) rfl rfl (by kernel_rfl) (by omega) (by rw [List.length_set, row_len (by omega)]; omega) UpC.upd ?_)
        rw [put_two (by omega) (by omega) (by rw [← hv]; omega)]
        refine XF.fin (kp 0 rfl (kp 4 rfl (kp 12 rfl (kp 14 rfl kn)))) ?_
        refine XC.drawF [0, 1, 2, 3, 4, 5, 6, 7, 8, 9, 10, 11, 13] [(0, 0), (1, 0), (2, 0), (3, 0), (4, 0), (5, 0), (6, 0), (7, 0), (8, 0), (9, 0), (10, 0), (11, 0), (12, 2), (13, 0), (14, 2)] (by kernel_rfl) (by kernel_rfl) fun hs => ?_
        refine XF.q hs rfl (q_move rfl) rfl ?_
        refine XF.q hs rfl (q_move rfl) rfl ?_
        refine XF.q hs rfl (q_subI (b := 3) rfl rfl rfl rfl (by omega) (by omega)) rfl ?_
        refine XF.q hs rfl (q_move rfl) rfl ?_
        refine XF.q hs rfl (q_move rfl) rfl ?_
        refine XF.q hs rfl (q_subI (b := 4) rfl rfl rfl rfl (by omega) (by omega)) rfl ?_
        refine XF.q hs rfl (q_move rfl) rfl ?_
        refine XF.q hs rfl (q_addM 4294967296 (b := 1) rfl rfl rfl rfl rfl rfl) rfl ?_
        refine XF.q hs rfl (q_small1 (p := (v % 10000 / 100)) rfl (by kernel_rfl) rfl (by kernel_rfl) (by omega) (by omega)) rfl ?_
        refine XF.q hs rfl (q_move rfl) rfl ?_
        refine XF.q hs rfl (q_small0 (p := (v % 10000 / 100)) rfl (by kernel_rfl) rfl (by kernel_rfl) (by omega) (by omega)) rfl ?_
        refine XF.q hs rfl (q_idxS (e := 5) (sz := 1) (i := (m - 2) - 1) rfl rfl (by kernel_rfl) (by kernel_rfl) (by omega) (by omega)) rfl ?_
        refine XF.tl rfl rfl rfl (l_stN (o + ((m - 2) - 1)) rfl rfl (by kernel_rfl) (by omega) (by rw [row_len (by omega)]; omega) UpC.upd ?_)
        refine XF.q hs rfl (q_idxS (e := 5) (sz := 1) (i := (m - 2) - 2) rfl rfl (by kernel_rfl) (by kernel_rfl) (by omega) (by omega)) rfl ?_
        refine XF.tl rfl rfl rfl (l_stN (o + ((m - 2) - 2)) rfl rfl (by kernel_rfl) (by omega) (by rw [List.length_set, row_len (by omega)]; omega) UpC.upd ?_)
        rw [put_two (by omega) (by omega) (by rw [div_add, ← hv]; omega)]
        refine XF.fin (kp 0 rfl (kp 4 rfl (kp 12 rfl kn))) ?_
        refine XC.reg1 ?_
        refine XL.q (q_move rfl) rfl ?_
        refine XL.q (q_subI (b := 4) rfl rfl rfl rfl (by omega) (by omega)) rfl ?_
        refine XL.q (q_assign rfl) rfl ?_
        refine XL.nil ?_
        exact jn (m - 4) ⟨by omega, by omega⟩ (kp 0 rfl (kp 4 rfl (kp 12 (by rw [show n - (m - 4) = k + 4 by omega, div_add, ← hv]; rfl) kn))) (Fit.eq (by rw [show n - (m - 4) = k + 4 by omega, show m - 2 - 2 = m - 4 by omega, show k + 2 + 2 = k + 4 by omega])) (fun _ h => h)
      ·
        have hm4 : m < 4 := by simp at hc; omega
        refine XC.skip ?_
        exact jn m ⟨hm, hm4⟩ (kp 0 rfl (kp 4 rfl (kp 12 (by rw [← hk, ← hv]; rfl) kn))) (Fit.eq (by rw [← hk])) (fun _ h => h)
    ·
      rintro m2 ⟨hm2, hm24⟩
      have hb2 := div10_lt hu hm2
      obtain ⟨k2, hk2⟩ : ∃ k, k = n - m2 := ⟨_, rfl⟩
      rw [← hk2]
      have hkm2 : k2 + m2 = n := by omega
      obtain ⟨v2, hv2⟩ : ∃ v, v = u / 10 ^ k2 := ⟨_, rfl⟩
      rw [← hv2]
      rw [← hk2, ← hv2] at hb2
      have hb27 : v2 < 1000 := Nat.lt_of_lt_of_le hb2 (Nat.pow_le_pow_right (by decide) (by omega) : 10 ^ m2 ≤ 10 ^ 3)
      refine XC.join (α := Nat) (fun m => [(0, .slice (some ⟨b, o, none⟩) n cap), (4, .int .i64 (m : Int)), (12, .int .u32 ((u / 10 ^ (n - m) : Nat) : Int))]) (fun m => [(b, blk (nums .u8 (xs.take (o + m) ++ (dgs (n - m) u ++ xs.drop (o + n)))) e)]) (fun _ => []) (fun m => m ≤ n ∧ m < 2) ?_ ?_
      ·
        refine XC.reg ?_
        refine XL.q (q_move rfl) rfl ?_
        refine XL.q (q_bin rfl rfl rfl) rfl ?_
        refine XL.fin (kp 0 rfl (kp 4 rfl (kp 12 rfl (kp 139 rfl kn)))) ?_
        refine XC.cond rfl (fun hc => ?_) (fun hc => ?_)
        ·
          have hm22 : 2 ≤ m2 := by simp at hc; omega
          refine XC.reg ?_
          refine XL.q (q_move rfl) rfl ?_
          refine XL.q (q_remI (b := 100) rfl rfl rfl rfl (by omega)) rfl ?_
          refine XL.q (q_mulM 4294967296 (b := 2) rfl rfl rfl rfl rfl rfl) rfl ?_
          refine XL.q (q_assign rfl) rfl ?_
          refine XL.fin (kp 0 rfl (kp 4 rfl (kp 12 rfl (kp 16 rfl kn)))) ?_
          refine XC.reg ?_
          refine XL.q (q_move rfl) rfl ?_
          refine XL.q (q_quoU (b := 100) (m := 4294967296) rfl rfl rfl rfl rfl rfl (by omega) (by omega)) rfl ?_
          refine XL.q (q_assign rfl) rfl ?_
          refine XL.fin (kp 0 rfl (kp 4 rfl (kp 12 rfl (kp 16 rfl kn)))) ?_
          refine XC.drawF [0, 1, 2, 3, 4, 5, 6, 7, 8, 9, 10, 11, 13] [(0, 0), (1, 0), (2, 0), (3, 0), (4, 0), (5, 0), (6, 0), (7, 0), (8, 0), (9, 0), (10, 0), (11, 0), (12, 2), (13, 0), (14, 2)] (by kernel_rfl) (by kernel_rfl) fun hs => ?_
          refine XF.q hs rfl (q_move rfl) rfl ?_
          refine XF.q hs rfl (q_move rfl) rfl ?_
          refine XF.q hs rfl (q_subI (b := 1) rfl rfl rfl rfl (by omega) (by omega)) rfl ?_
          refine XF.q hs rfl (q_move rfl) rfl ?_
          refine XF.q hs rfl (q_move rfl) rfl ?_
          refine XF.q hs rfl (q_subI (b := 2) rfl rfl rfl rfl (by omega) (by omega)) rfl ?_
          refine XF.q hs rfl (q_move rfl) rfl ?_
          refine XF.q hs rfl (q_addM 4294967296 (b := 1) rfl rfl rfl rfl rfl rfl) rfl ?_
          refine XF.q hs rfl (q_small1 (p := (v2 % 100)) rfl (by kernel_rfl) rfl (by kernel_rfl) (by omega) (by omega)) rfl ?_
          refine XF.q hs rfl (q_move rfl) rfl ?_
          refine XF.q hs rfl (q_small0 (p := (v2 % 100)) rfl (by kernel_rfl) rfl (by kernel_rfl) (by omega) (by omega)) rfl ?_
          refine XF.q hs rfl (q_idxS (e := 5) (sz := 1) (i := m2 - 1) rfl rfl (by kernel_rfl) (by kernel_rfl) (by omega) (by omega)) rfl ?_
          refine XF.tl rfl rfl rfl (l_stN (o + (m2 - 1)) rfl rfl (by kernel_rfl) (by omega) (by rw [row_len (by omega)]; omega) UpC.upd ?_)
          refine XF.q hs rfl (q_idxS (e := 5) (sz := 1) (i := m2 - 2) rfl rfl (by kernel_rfl) (by kernel_rfl) (by omega) (by omega)) rfl ?_
          refine XF.tl rfl rfl rfl (l_stN (o + (m2 - 2)) rfl rfl (by kernel_rfl) (by omega) (by rw [List.length_set, row_len (by omega)]; omega) UpC.upd ?_)
          rw [put_two (by omega) (by omega) (by rw [← hv2])]
          refine XF.fin (kp 0 rfl (kp 4 rfl (kp 12 rfl kn))) ?_
          refine XC.reg1 ?_
          refine XL.q (q_move rfl) rfl ?_
          refine XL.q (q_subI (b := 2) rfl rfl rfl rfl (by omega) (by omega)) rfl ?_
          refine XL.q (q_assign rfl) rfl ?_
          refine XL.nil ?_
          exact jn (m2 - 2) ⟨by omega, by omega⟩ (kp 0 rfl (kp 4 rfl (kp 12 (by rw [show n - (m2 - 2) = k2 + 2 by omega, div_add, ← hv2]; rfl) kn))) (Fit.eq (by rw [show n - (m2 - 2) = k2 + 2 by omega])) (fun _ h => h)
        ·
          have hm22 : m2 < 2 := by simp at hc; omega
          refine XC.skip ?_
          exact jn m2 ⟨hm2, hm22⟩ (kp 0 rfl (kp 4 rfl (kp 12 (by rw [← hk2, ← hv2]; rfl) kn))) (Fit.eq (by rw [← hk2])) (fun _ h => h)
      ·
        rintro m3 ⟨hm3, hm32⟩
        have hb3 := div10_lt hu hm3
        refine XC.reg ?_
        refine XL.q (q_move rfl) rfl ?_
        refine XL.q (q_bin rfl rfl rfl) rfl ?_
        refine XL.fin (kp 0 rfl (kp 12 rfl (kp 161 rfl kn))) ?_
        refine XC.cond rfl (fun hc => ?_) (fun hc => ?_)
        ·
          obtain rfl : m3 = 1 := by simp at hc; omega
          obtain ⟨k3, hk3⟩ : ∃ k, k = n - 1 := ⟨_, rfl⟩
          rw [← hk3]
          have hkm3 : k3 + 1 = n := by omega
          obtain ⟨v3, hv3⟩ : ∃ v, v = u / 10 ^ k3 := ⟨_, rfl⟩
          rw [← hv3]
          rw [← hk3, ← hv3] at hb3
          have hb37 : v3 < 10 := by simpa using hb3
          refine XC.reg1 ?_
          refine XL.q (q_move rfl) rfl ?_
          refine XL.q (q_move rfl) rfl ?_
          refine XL.q (q_addM 4294967296 (a := 48) rfl rfl rfl rfl rfl rfl) rfl ?_
          refine XL.q (q_to8 rfl (by kernel_rfl)) rfl ?_
          rw [show (48 + v3) % 4294967296 % 256 = 48 + u / 10 ^ k3 % 10 by rw [← hv3]; omega]
          refine XL.q (q_idxS (e := 5) (sz := 1) (i := 0) rfl rfl (by kernel_rfl) (by kernel_rfl) rfl (by omega)) rfl ?_
          refine XL.lo rfl (l_stN (o + (1 - 1)) rfl rfl (by kernel_rfl) (by omega) (by rw [row_len (by omega)]; omega) UpC.upd ?_)
          rw [put_digit (by omega) (by omega)]
          refine XL.nil ?_
          exact ⟨_, [(b, _)], [], res0 rfl, List.Sublist.refl _, by simp, rfl, by rw [hkm3]; rfl⟩
        ·
          obtain rfl : m3 = 0 := by simp at hc; omega
          refine XC.skip ?_
          exact ⟨_, [(b, _)], [], res0 rfl, List.Sublist.refl _, by simp, rfl, rfl⟩

end Go.Proofs.YthmnlkpikgglbaaGreatDoor
/- The walks of strconv.Itoa. -/
set_option linter.unusedVariables false
set_option linter.unusedSimpArgs false
namespace Go.Proofs.YthmnlkpikgglbaaGreatDoor
open Go.Px
def digitsL : List Nat := [48, 49, 50, 51, 52, 53, 54, 55, 56, 57, 97, 98, 99, 100, 101, 102, 103, 104, 105, 106, 107, 108, 109, 110, 111, 112, 113, 114, 115, 116, 117, 118, 119, 120, 121, 122]
theorem digits_law : ∀ i : Fin 10, (digitsL.take (i.val + 1)).drop i.val = dec i.val := by decide +kernel
theorem smalls2_law : ∀ i : Fin 100, 10 ≤ i.val → (smallsL.take (i.val * 2 + 2)).drop (i.val * 2) = dec i.val := by decide +kernel
theorem wrap_neg {n : Nat} (h0 : 0 < n) (h : n ≤ 9223372036854775808) : IntKind.u64.wrap (-(n : Int)) = ((18446744073709551616 - n : Nat) : Int) := by
  simp [IntKind.wrap, IntKind.bits, IntKind.signed]; omega
theorem wrap_neg2 {n : Nat} (h0 : 0 < n) (h : n ≤ 9223372036854775808) : IntKind.u64.wrap (0 - ((18446744073709551616 - n : Nat) : Int)) = (n : Int) := by
  simp [IntKind.wrap, IntKind.bits, IntKind.signed]; omega
theorem row_pos {n : Nat} (h : nd10 n ≤ 20) : (((List.replicate 24 0).take 1 ++ (dgs (nd10 n) n ++ (List.replicate 24 0).drop (1 + nd10 n))).drop 1).take (nd10 n) = dec n := by
  rw [List.drop_append_of_le_length (by simp)]
  simp [dec]
  rw [List.take_append_of_le_length (by rw [dgs_len]; omega), List.take_of_length_le (by rw [dgs_len]; omega)]
theorem row_neg {n : Nat} (h : nd10 n ≤ 20) : (((List.replicate 24 0).take 1 ++ (dgs (nd10 n) n ++ (List.replicate 24 0).drop (1 + nd10 n))).set 0 45).take (1 + nd10 n) = 45 :: dec n := by
  simp only [List.replicate, List.take, List.cons_append, List.nil_append, List.set_cons_zero]
  rw [Nat.add_comm 1, List.take_succ_cons, List.take_append_of_le_length (by rw [dgs_len]; omega), List.take_of_length_le (by rw [dgs_len]; omega)]
  rfl
theorem nums_mid {k : IntKind} (ws : List Nat) (o n : Nat) : ((nums k ws).drop o).take n = nums k ((ws.drop o).take n) := by simp [nums, List.map_drop, List.map_take]
theorem row_len24 {n : Nat} (h : nd10 n ≤ 20) : ((List.replicate 24 0).take 1 ++ (dgs (nd10 n) n ++ (List.replicate 24 0).drop (1 + nd10 n))).length = 24 := by
  simp [dgs_len]; omega

set_option maxRecDepth 100000 in
theorem small10_spec (i : Nat) (hi : i < 100) (A : Mem) : FnV Tryz.prog 153 [.int .i64 (i : Int)] A (.string (txt (dec i))) := by
  refine FnX.enter (N := 15) Tryz.func153 rfl rfl rfl fun w => ?_
  refine XC.keep (kp 0 rfl kn) ?_
  refine XC.reg ?_
  refine XL.q (q_assign rfl) rfl ?_
  refine XL.fin (kp 0 rfl kn) ?_
  refine XC.seq ?_
  refine XC.reg ?_
  refine XL.q (q_move rfl) rfl ?_
  refine XL.q (q_bin rfl rfl rfl) rfl ?_
  refine XL.fin (kp 0 rfl (kp 4 rfl kn)) ?_
  refine XC.cond rfl (fun hc => ?_) (fun hc => ?_)
  ·
    have hlt : i < 10 := by simp at hc; omega
    refine XC.reg ?_
    refine XL.q (q_move rfl) rfl ?_
    refine XL.q (q_move rfl) rfl ?_
    refine XL.q (q_addI (b := 1) rfl rfl rfl rfl (by omega)) rfl ?_
    refine XL.q (digits_law ⟨i, hlt⟩ ▸ q_sLH (ws := digitsL) (a := i) (b := i + 1) rfl (by kernel_rfl) rfl rfl (by kernel_rfl) rfl rfl (by omega) (by show _ ≤ 36; omega)) rfl ?_
    refine XL.q (q_assign rfl) rfl ?_
    refine XL.fin (kp 2 rfl kn) ?_
    refine XC.ret ?_
    refine tr ?_
    exact ⟨_, [], [], res1 rfl rfl, List.nil_sublist _, by simp, rfl, rfl, rfl⟩
  ·
    have hge : 10 ≤ i := by simp at hc; omega
    refine XC.skip ?_
    refine nx (kp 0 rfl kn) ?_
    refine XC.reg ?_
    refine XL.q (q_move rfl) rfl ?_
    refine XL.q (q_mulI (b := 2) rfl rfl rfl rfl (by omega)) rfl ?_
    refine XL.q (q_move rfl) rfl ?_
    refine XL.q (q_mulI (b := 2) rfl rfl rfl rfl (by omega)) rfl ?_
    refine XL.q (q_addI (b := 2) rfl rfl rfl rfl (by omega)) rfl ?_
    refine XL.q (smalls2_law ⟨i, hi⟩ hge ▸ q_sLH (ws := smallsL) (a := i * 2) (b := i * 2 + 2) rfl (by kernel_rfl) rfl rfl (by kernel_rfl) rfl rfl (by omega) (by rw [smalls_len]; omega)) rfl ?_
    refine XL.q (q_assign rfl) rfl ?_
    refine XL.fin (kp 2 rfl kn) ?_
    refine XC.ret ?_
    exact ⟨_, [], [], res1 rfl rfl, List.nil_sublist _, by simp, rfl, rfl, rfl⟩

set_option maxRecDepth 100000 in
theorem formatInt_spec (i : Int) (hmin : -9223372036854775808 ≤ i) (hmax : i ≤ 9223372036854775807) (A : Mem) {e4 : TypeId} {f4 : Nat × Nat} (h4 : (4, Obj.cells (nums .u64 pow10T).toArray e4 f4) ∈ A) : FnV Tryz.prog 127 [.int .i64 i, .int .i64 10] A (.string (txt (decI i))) := by
  refine FnX.enter (N := 54) Tryz.func127 rfl rfl rfl fun w => ?_
  refine XC.keep (kp 0 rfl (kp 1 rfl kn)) ?_
  refine XC.reg ?_
  refine XL.q (q_assign rfl) rfl ?_
  refine XL.fin (kp 0 rfl (kp 1 rfl kn)) ?_
  refine XC.seq ?_
  refine XC.reg ?_
  refine XL.q (q_move rfl) rfl ?_
  refine XL.q (q_cmp true rfl rfl (eqT rfl)) rfl ?_
  refine XL.fin (kp 0 rfl (kp 1 rfl (kp 11 rfl kn))) ?_
  refine XC.condT rfl ?_
  refine XC.seq ?_
  refine XC.reg ?_
  refine XL.q (q_move rfl) rfl ?_
  refine XL.q (q_bin rfl rfl rfl) rfl ?_
  refine XL.q (q_move rfl) rfl ?_
  refine XL.split (t := 14) rfl (fun hb => ?_) (fun hb => ?_)
  ·
    obtain ⟨n, rfl⟩ := Int.eq_ofNat_of_zero_le (show 0 ≤ i by simpa using hb)
    clear hb hmin
    rw [show decI ((n : Nat) : Int) = dec n by simp [decI]]
    refine XL.gy rfl rfl (OpQ.opL (q_move rfl) rfl ?_)
    refine XL.gy rfl rfl (OpQ.opL (q_bin rfl rfl rfl) rfl ?_)
    refine XL.q (q_pickT rfl rfl) rfl ?_
    refine XL.fin (kp 0 rfl (kp 17 rfl kn)) ?_
    refine XC.cond rfl (fun hc => ?_) (fun hc => ?_)
    ·
      have hlt : n < 100 := by simp at hc; omega
      refine XC.reg ?_
      refine XL.q (q_move rfl) rfl ?_
      refine XL.callV (aS rfl a0) (by kernel_rfl) (small10_spec n hlt _) rfl ?_
      refine XL.q (q_assign rfl) rfl ?_
      refine XL.fin (kp 4 rfl kn) ?_
      refine XC.ret ?_
      refine tr ?_
      refine tr ?_
      exact ⟨_, [], [], res1 rfl rfl, List.nil_sublist _, by simp, rfl, rfl, rfl⟩
    ·
      have hge : 100 ≤ n := by simp at hc; omega
      refine XC.skip ?_
      refine nx (kp 0 rfl kn) ?_
      refine XC.reg ?_
      refine XL.lo rfl (l_alloc (cs := [.int .u8 0, .int .u8 0, .int .u8 0, .int .u8 0, .int .u8 0, .int .u8 0, .int .u8 0, .int .u8 0, .int .u8 0, .int .u8 0, .int .u8 0, .int .u8 0, .int .u8 0, .int .u8 0, .int .u8 0, .int .u8 0, .int .u8 0, .int .u8 0, .int .u8 0, .int .u8 0, .int .u8 0, .int .u8 0, .int .u8 0, .int .u8 0]) (by kernel_rfl) rfl fun b5 => ?_)
      refine XL.fin (kp 0 rfl (kp 5 rfl kn)) ?_
      have hnd := nd10_le (u := n) (by omega)
      have hnd1 : 1 ≤ nd10 n := ndF_pos 64 n
      have hlt10 : n < 10 ^ nd10 n := ndF_lt 64 n (Nat.lt_trans (show n < 18446744073709551616 by omega) (by decide))
      refine XC.fit (M' := [(b5, blk (nums .u8 (List.replicate 24 0)) 205)]) (Fit.eq (by rfl)) (fun _ h => h) ?_
      refine XC.reg ?_
      refine XL.q (q_move rfl) rfl ?_
      refine XL.q ((Nat.mod_eq_of_lt (show n < 18446744073709551616 by omega)) ▸ q_to64 rfl (by kernel_rfl)) rfl ?_
      refine XL.q (q_assign rfl) rfl ?_
      refine XL.fin (kp 0 rfl (kp 5 rfl (kp 6 rfl kn))) ?_
      refine XC.seq ?_
      refine XC.reg ?_
      refine XL.q (q_move rfl) rfl ?_
      refine XL.q (q_bin rfl rfl rfl) rfl ?_
      refine XL.fin (kp 0 rfl (kp 5 rfl (kp 6 rfl (kp 23 rfl kn)))) ?_
      refine XC.cond rfl (fun hc => ?_) (fun hc => ?_)
      ·
        exfalso
        simp at hc
        omega
      ·
        refine XC.skip ?_
        refine nx (kp 0 rfl (kp 5 rfl (kp 6 rfl kn))) ?_
        refine XC.reg ?_
        refine XL.q (q_move rfl) rfl ?_
        refine XL.callV (aS rfl a0) (by kernel_rfl) (numDigits_spec n (by omega) (by omega) _ (mA h4)) rfl ?_
        refine XL.q (q_assign rfl) rfl ?_
        refine XL.fin (kp 0 rfl (kp 5 rfl (kp 6 rfl (kp 7 rfl kn)))) ?_
        refine XC.reg ?_
        refine XL.q (q_move rfl) rfl ?_
        refine XL.q (q_addI (a := 1) rfl rfl rfl rfl (by omega)) rfl ?_
        refine XL.q (q_slALH (sz := 1) (n := 24) (e := 5) 1 (1 + nd10 n) rfl (by kernel_rfl) (by kernel_rfl) rfl rfl rfl rfl (by omega) (by omega) (by omega)) rfl ?_
        refine XL.q (q_move rfl) rfl ?_
        refine XL.lo rfl (l_callB (Mc := [(b5, blk (nums .u8 (List.replicate 24 0)) 205)]) (aS rfl (aS rfl a0)) (by kernel_rfl) (fb10_spec b5 (0 + 1 * 1) (1 + nd10 n - 1) (24 - 1) n (List.replicate 24 0) _ (by omega) (by omega) (by simp; omega) (by rw [Nat.add_sub_cancel_left]; exact hlt10) (by omega) _) PickC.perm rfl ?_)
        rintro r32 M32 J32 ⟨rfl, rfl⟩
        rw [Nat.add_sub_cancel_left]
        dsimp only [List.cons_append, List.nil_append]
        refine XL.fin (kp 0 rfl (kp 5 rfl (kp 7 rfl kn))) ?_
        refine XC.seq ?_
        refine XC.reg ?_
        refine XL.q (q_move rfl) rfl ?_
        refine XL.q (q_bin rfl rfl rfl) rfl ?_
        refine XL.fin (kp 5 rfl (kp 7 rfl (kp 34 rfl kn))) ?_
        refine XC.cond rfl (fun hc => ?_) (fun hc => ?_)
        ·
          exfalso
          simp at hc
          omega
        ·
          refine XC.skip ?_
          refine nx (kp 5 rfl (kp 7 rfl kn)) ?_
          refine XC.reg ?_
          refine XL.q (q_move rfl) rfl ?_
          refine XL.q (q_addI (a := 1) rfl rfl rfl rfl (by omega)) rfl ?_
          refine XL.q (q_slALH (sz := 1) (n := 24) (e := 5) 1 (1 + nd10 n) rfl (by kernel_rfl) (by kernel_rfl) rfl rfl rfl rfl (by omega) (by omega) (by omega)) rfl ?_
          refine XL.q (q_toStr (ws := dec n) (n := 1 + nd10 n - 1) (rd_eq (Rd.mid (o := 0 + 1 * 1) (n := 1 + nd10 n - 1) (cap := 24 - 1) At.mem (by rw [nums_len, row_len24 hnd]; omega) (by omega)) rfl (by rw [nums_mid, Nat.add_sub_cancel_left, show 0 + 1 * 1 = 1 from rfl, row_pos hnd])) rfl (by kernel_rfl)) rfl ?_
          refine XL.q (q_assign rfl) rfl ?_
          refine XL.fin (kp 4 rfl kn) ?_
          refine XC.ret ?_
          refine tr ?_
          exact ⟨_, [], [], res1 rfl rfl, List.nil_sublist _, by simp, rfl, rfl, rfl⟩
  ·
    obtain ⟨n, hn0, rfl⟩ : ∃ n : Nat, 0 < n ∧ i = -(n : Int) := ⟨i.natAbs, by simp at hb; omega, by simp at hb; omega⟩
    clear hb
    rw [show decI (-(n : Int)) = 45 :: dec n by simp [decI]; omega]
    refine XL.gn rfl rfl rfl rfl ?_
    refine XL.gn rfl rfl rfl rfl ?_
    refine XL.q (q_pickF rfl rfl) rfl ?_
    refine XL.fin (kp 0 rfl (kp 17 rfl kn)) ?_
    refine XC.condF rfl ?_
    refine XC.skip ?_
    refine nx (kp 0 rfl kn) ?_
    refine XC.reg ?_
    refine XL.lo rfl (l_alloc (cs := [.int .u8 0, .int .u8 0, .int .u8 0, .int .u8 0, .int .u8 0, .int .u8 0, .int .u8 0, .int .u8 0, .int .u8 0, .int .u8 0, .int .u8 0, .int .u8 0, .int .u8 0, .int .u8 0, .int .u8 0, .int .u8 0, .int .u8 0, .int .u8 0, .int .u8 0, .int .u8 0, .int .u8 0, .int .u8 0, .int .u8 0, .int .u8 0]) (by kernel_rfl) rfl fun b5 => ?_)
    refine XL.fin (kp 0 rfl (kp 5 rfl kn)) ?_
    have hnd := nd10_le (u := n) (by omega)
    have hnd1 : 1 ≤ nd10 n := ndF_pos 64 n
    have hlt10 : n < 10 ^ nd10 n := ndF_lt 64 n (Nat.lt_trans (show n < 18446744073709551616 by omega) (by decide))
    refine XC.fit (M' := [(b5, blk (nums .u8 (List.replicate 24 0)) 205)]) (Fit.eq (by rfl)) (fun _ h => h) ?_
    refine XC.reg ?_
    refine XL.q (q_move rfl) rfl ?_
    refine XL.q (wrap_neg hn0 (by omega) ▸ q_conv (k' := .u64) rfl (by kernel_rfl)) rfl ?_
    refine XL.q (q_assign rfl) rfl ?_
    refine XL.fin (kp 0 rfl (kp 5 rfl (kp 6 rfl kn))) ?_
    refine XC.seq ?_
    refine XC.reg ?_
    refine XL.q (q_move rfl) rfl ?_
    refine XL.q (q_bin rfl rfl rfl) rfl ?_
    refine XL.fin (kp 0 rfl (kp 5 rfl (kp 6 rfl (kp 23 rfl kn)))) ?_
    refine XC.cond rfl (fun hc => ?_) (fun hc => ?_)
    ·
      refine XC.reg1 ?_
      refine XL.q (q_move rfl) rfl ?_
      refine XL.q (wrap_neg2 hn0 (by omega) ▸ q_neg rfl) rfl ?_
      refine XL.q (q_assign rfl) rfl ?_
      refine XL.fin (kp 0 rfl (kp 5 rfl (kp 6 rfl kn))) ?_
      refine XC.reg ?_
      refine XL.q (q_move rfl) rfl ?_
      refine XL.callV (aS rfl a0) (by kernel_rfl) (numDigits_spec n (by omega) (by omega) _ (mA h4)) rfl ?_
      refine XL.q (q_assign rfl) rfl ?_
      refine XL.fin (kp 0 rfl (kp 5 rfl (kp 6 rfl (kp 7 rfl kn)))) ?_
      refine XC.reg ?_
      refine XL.q (q_move rfl) rfl ?_
      refine XL.q (q_addI (a := 1) rfl rfl rfl rfl (by omega)) rfl ?_
      refine XL.q (q_slALH (sz := 1) (n := 24) (e := 5) 1 (1 + nd10 n) rfl (by kernel_rfl) (by kernel_rfl) rfl rfl rfl rfl (by omega) (by omega) (by omega)) rfl ?_
      refine XL.q (q_move rfl) rfl ?_
      refine XL.lo rfl (l_callB (Mc := [(b5, blk (nums .u8 (List.replicate 24 0)) 205)]) (aS rfl (aS rfl a0)) (by kernel_rfl) (fb10_spec b5 (0 + 1 * 1) (1 + nd10 n - 1) (24 - 1) n (List.replicate 24 0) _ (by omega) (by omega) (by simp; omega) (by rw [Nat.add_sub_cancel_left]; exact hlt10) (by omega) _) PickC.perm rfl ?_)
      rintro r32 M32 J32 ⟨rfl, rfl⟩
      rw [Nat.add_sub_cancel_left]
      dsimp only [List.cons_append, List.nil_append]
      refine XL.fin (kp 0 rfl (kp 5 rfl (kp 7 rfl kn))) ?_
      refine XC.seq ?_
      refine XC.reg ?_
      refine XL.q (q_move rfl) rfl ?_
      refine XL.q (q_bin rfl rfl rfl) rfl ?_
      refine XL.fin (kp 5 rfl (kp 7 rfl (kp 34 rfl kn))) ?_
      refine XC.cond rfl (fun hc => ?_) (fun hc => ?_)
      ·
        refine XC.reg ?_
        refine XL.q (q_idxAN 0 (e := 5) (n := 24) (sz := 1) (i := 0) rfl rfl (by kernel_rfl) (by kernel_rfl) rfl (by decide) rfl) rfl ?_
        refine XL.lo rfl (l_stN 0 rfl rfl (by kernel_rfl) rfl (by rw [row_len24 hnd]; omega) UpC.upd ?_)
        refine XL.fin (kp 5 rfl (kp 7 rfl kn)) ?_
        refine XC.reg ?_
        refine XL.q (q_move rfl) rfl ?_
        refine XL.q (q_addI (a := 1) rfl rfl rfl rfl (by omega)) rfl ?_
        refine XL.q (q_slAHi (sz := 1) (n := 24) (e := 5) (1 + nd10 n) rfl (by kernel_rfl) (by kernel_rfl) rfl rfl (by omega)) rfl ?_
        refine XL.q (q_toStr (ws := 45 :: dec n) (n := 1 + nd10 n) (rd_eq (Rd.mid (o := 0) (n := 1 + nd10 n) (cap := 24) At.mem (by rw [nums_len, List.length_set, row_len24 hnd]; omega) (by omega)) rfl (by rw [nums_mid, List.drop_zero, row_neg hnd])) rfl (by kernel_rfl)) rfl ?_
        refine XL.q (q_assign rfl) rfl ?_
        refine XL.fin (kp 4 rfl kn) ?_
        refine XC.ret ?_
        refine tr ?_
        refine tr ?_
        exact ⟨_, [], [], res1 rfl rfl, List.nil_sublist _, by simp, rfl, rfl, rfl⟩
      ·
        exfalso
        simp at hc
        omega
    ·
      exfalso
      simp at hc
      omega

set_option maxRecDepth 100000 in
theorem itoa0_spec (i : Int) (hmin : -9223372036854775808 ≤ i) (hmax : i ≤ 9223372036854775807) (A : Mem) {e4 : TypeId} {f4 : Nat × Nat} (h4 : (4, Obj.cells (nums .u64 pow10T).toArray e4 f4) ∈ A) : FnV Tryz.prog 96 [.int .i64 i] A (.string (txt (decI i))) := by
  refine FnX.enter (N := 5) Tryz.func96 rfl rfl rfl fun w => ?_
  refine XC.keep (kp 0 rfl kn) ?_
  refine XC.reg ?_
  refine XL.q (q_assign rfl) rfl ?_
  refine XL.fin (kp 0 rfl kn) ?_
  refine XC.reg ?_
  refine XL.q (q_move rfl) rfl ?_
  refine XL.callV (aS rfl (aS rfl a0)) (by kernel_rfl) (formatInt_spec i hmin hmax _ (mA h4)) rfl ?_
  refine XL.q (q_assign rfl) rfl ?_
  refine XL.fin (kp 2 rfl kn) ?_
  refine XC.ret ?_
  exact ⟨_, [], [], res1 rfl rfl, List.nil_sublist _, by simp, rfl, rfl, rfl⟩

set_option maxRecDepth 100000 in
theorem itoa_spec (i : Int) (hmin : -9223372036854775808 ≤ i) (hmax : i ≤ 9223372036854775807) (A : Mem) {e4 : TypeId} {f4 : Nat × Nat} (h4 : (4, Obj.cells (nums .u64 pow10T).toArray e4 f4) ∈ A) : FnV Tryz.prog 63 [.int .i64 i] A (.string (txt (decI i))) := by
  refine FnX.enter (N := 5) Tryz.func63 rfl rfl rfl fun w => ?_
  refine XC.keep (kp 0 rfl kn) ?_
  refine XC.reg ?_
  refine XL.q (q_assign rfl) rfl ?_
  refine XL.fin (kp 0 rfl kn) ?_
  refine XC.reg ?_
  refine XL.q (q_move rfl) rfl ?_
  refine XL.callV (aS rfl a0) (by kernel_rfl) (itoa0_spec i hmin hmax _ (mA h4)) rfl ?_
  refine XL.q (q_assign rfl) rfl ?_
  refine XL.fin (kp 2 rfl kn) ?_
  refine XC.ret ?_
  exact ⟨_, [], [], res1 rfl rfl, List.nil_sublist _, by simp, rfl, rfl, rfl⟩

end Go.Proofs.YthmnlkpikgglbaaGreatDoor
