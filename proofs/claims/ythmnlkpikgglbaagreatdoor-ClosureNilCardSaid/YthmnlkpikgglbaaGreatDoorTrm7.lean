/- Bytes that stand for a place in a table: Bytes, Place, Read. -/
import Derived.Test.YthmnlkpikgglbaaGreatDoorTrm6
set_option linter.unusedVariables false
set_option linter.unusedSimpArgs false
namespace Go.Proofs.YthmnlkpikgglbaaGreatDoor
open Go.Px
/-- A number's bits, its bytes. -/
def u64 (i : Int) : Nat := (i % 18446744073709551616).toNat
def byt (i : Int) (k : Nat) : Nat := (i / ((256 ^ k : Nat) : Int) % 256).toNat
theorem byt_u (i : Int) {k : Nat} (hk : k < 8) : byt i k = u64 i / 256 ^ k % 256 := by
  unfold byt u64
  rcases (show k = 0 ∨ k = 1 ∨ k = 2 ∨ k = 3 ∨ k = 4 ∨ k = 5 ∨ k = 6 ∨ k = 7 by omega) with rfl | rfl | rfl | rfl | rfl | rfl | rfl | rfl <;> simp only [Nat.reducePow] <;> omega
theorem byt_lt (i : Int) (k : Nat) : byt i k < 256 := by unfold byt; omega
theorem u64_lt (i : Int) : u64 i < 18446744073709551616 := by unfold u64; omega
/-- The bytes that stand for a place, when so many of the number's are laid. -/
def btk (i : Int) (k : Nat) : List Nat := 84 :: ((List.range k).map (byt i) ++ List.replicate (31 - k) 0)
def bts (i : Int) : List Nat := btk i 8
theorem btk_len (i : Int) {k : Nat} (h : k ≤ 31) : (btk i k).length = 32 := by simp [btk]; omega
theorem btk_succ (i : Int) {k : Nat} (h : k < 31) : (btk i k).set (1 + k) (byt i k) = btk i (k + 1) := by
  unfold btk
  rw [show 1 + k = k + 1 by omega, List.set_cons_succ, List.set_append_right _ _ (by simp), List.range_succ, List.map_append]
  simp only [List.length_map, List.length_range, Nat.sub_self]
  rw [show 31 - k = (31 - (k + 1)) + 1 by omega, List.replicate_succ, List.set_cons_zero]
  simp
theorem bts_get (i : Int) {k : Nat} (h : k < 8) : (bts i).getD (1 + k) 0 = byt i k := by
  unfold bts btk
  rw [show 1 + k = k + 1 by omega, List.getD_cons_succ, List.getD_eq_getElem?_getD, List.getElem?_append_left (by simpa using h)]
  simp [h]
theorem bts_b (i : Int) : ∀ x ∈ bts i, x < 256 := by
  intro x hx
  simp only [bts, btk, List.mem_cons, List.mem_append, List.mem_map, List.mem_replicate] at hx
  rcases hx with rfl | ⟨k, _, rfl⟩ | ⟨_, rfl⟩
  · decide
  · exact byt_lt i k
  · decide
/-- The number of the eight bytes behind the first one. -/
def le8 (ws : List Nat) : Nat → Nat
  | 0 => 0
  | k + 1 => le8 ws k + ws.getD (1 + k) 0 * 256 ^ k
theorem getD_lt {ws : List Nat} (h : ∀ x ∈ ws, x < 256) (j : Nat) : ws.getD j 0 < 256 := by
  rw [List.getD_eq_getElem?_getD]
  cases hj : ws[j]? with
  | none => decide
  | some x => exact h x (List.mem_of_getElem? hj)
theorem le8_lt {ws : List Nat} (h : ∀ x ∈ ws, x < 256) : ∀ k, le8 ws k < 256 ^ k
  | 0 => by show 0 < 1; decide
  | k + 1 => by
    have h1 := le8_lt h k
    have h2 := getD_lt h (1 + k)
    have h3 : ws.getD (1 + k) 0 * 256 ^ k ≤ 255 * 256 ^ k := Nat.mul_le_mul_right _ (by omega)
    unfold le8
    rw [Nat.pow_succ]; omega
theorem le8_bts (i : Int) : ∀ k, k ≤ 8 → le8 (bts i) k = u64 i % 256 ^ k
  | 0, _ => by simp [le8, Nat.mod_one]
  | k + 1, h => by
    rw [le8, le8_bts i k (by omega), bts_get i (by omega), byt_u i (by omega), Nat.pow_succ, Nat.mod_mul, Nat.mul_comm (256 ^ k)]
/-- The place for which bytes stand, of so many. -/
def plc (ws : List Nat) (n : Nat) : Option Nat := if 32 ≤ ws.length ∧ ws.getD 0 0 = 84 ∧ (∀ c ∈ ws.drop 9, c = 0) ∧ le8 ws 8 < n then some (le8 ws 8) else none
theorem plc_no {ws : List Nat} {n : Nat} (h : ¬ (32 ≤ ws.length ∧ ws.getD 0 0 = 84 ∧ (∀ c ∈ ws.drop 9, c = 0) ∧ le8 ws 8 < n)) : plc ws n = none := if_neg h
theorem plc_yes {ws : List Nat} {n : Nat} (h : 32 ≤ ws.length ∧ ws.getD 0 0 = 84 ∧ (∀ c ∈ ws.drop 9, c = 0) ∧ le8 ws 8 < n) : plc ws n = some (le8 ws 8) := if_pos h
theorem plc_r0 {ws : List Nat} {n : Nat} (h : plc ws n = none) : Value.tuple #[.int .i64 0, .bool false] = .tuple #[.int .i64 (((plc ws n).getD 0 : Nat) : Int), .bool (plc ws n).isSome] := by rw [h]; rfl
theorem plc_r1 {ws : List Nat} {n m : Nat} (h : plc ws n = some m) : Value.tuple #[.int .i64 (m : Int), .bool true] = .tuple #[.int .i64 (((plc ws n).getD 0 : Nat) : Int), .bool (plc ws n).isSome] := by rw [h]; rfl
theorem plc_len {ws : List Nat} {n : Nat} (h : ws.length < 32) : plc ws n = none := plc_no fun h' => absurd h'.1 (by omega)
theorem plc_84 {ws : List Nat} {n : Nat} (h : ws.getD 0 0 ≠ 84) : plc ws n = none := plc_no fun h' => h h'.2.1
theorem plc_nz {ws : List Nat} {n j : Nat} (hj : j < (ws.drop 9).length) (h : (ws.drop 9).getD j 0 ≠ 0) : plc ws n = none := plc_no fun h' => h (h'.2.2.1 _ (by rw [List.getD_eq_getElem?_getD, List.getElem?_eq_getElem hj]; exact List.getElem_mem hj))
theorem plc_ge {ws : List Nat} {n m : Nat} (h8 : le8 ws 8 = m) (h : n ≤ m) : plc ws n = none := plc_no fun h' => by
  have := h'.2.2.2
  rw [h8] at this
  exact absurd this (Nat.not_lt.2 h)
theorem plc_some {ws : List Nat} {n m : Nat} (h8 : le8 ws 8 = m) (h1 : 32 ≤ ws.length) (h2 : ws.getD 0 0 = 84) (h3 : ∀ c ∈ ws.drop 9, c = 0) (h : m < n) : plc ws n = some m := by
  rw [plc_yes ⟨h1, h2, h3, by rw [h8]; exact h⟩, h8]
theorem plc_bts (i : Int) (n : Nat) : plc (bts i) n = if u64 i < n then some (u64 i) else none := by
  have e : le8 (bts i) 8 = u64 i := by rw [le8_bts i 8 (by omega)]; exact Nat.mod_eq_of_lt (u64_lt i)
  have hd : ∀ c ∈ (bts i).drop 9, c = 0 := by
    intro c hc
    unfold bts btk at hc
    rw [List.drop_succ_cons, List.drop_append_of_le_length (by simp)] at hc
    simp only [List.mem_append] at hc
    rcases hc with hc | hc
    · rw [List.drop_of_length_le (by simp)] at hc; cases hc
    · exact (List.mem_replicate.1 hc).2
  unfold plc
  rw [e, btk_len i (k := 8) (by omega) |> (fun h => (h : (bts i).length = 32))]
  by_cases h : u64 i < n
  · rw [if_pos h, if_pos ⟨by omega, rfl, hd, h⟩]
  · rw [if_neg h, if_neg (fun h' => h h'.2.2.2)]
theorem or_add {n w k : Nat} (h : n < 2 ^ k) : n ||| w * 2 ^ k = n + w * 2 ^ k := by
  have := Nat.two_pow_add_eq_or_of_lt h w
  rw [Nat.mul_comm w, Nat.or_comm, Nat.add_comm n]; exact this.symm
theorem le8_w {ws : List Nat} (h : ∀ x ∈ ws, x < 256) {k : Nat} (hk : k < 8) : ws.getD (1 + k) 0 * 2 ^ (8 * k) < 18446744073709551616 := by
  have h2 := getD_lt h (1 + k)
  have hpk : (256 : Nat) ^ k ≤ 256 ^ 7 := Nat.pow_le_pow_right (by decide) (by omega)
  have hmk : ws.getD (1 + k) 0 * 256 ^ k ≤ 255 * 256 ^ 7 := Nat.mul_le_mul (by omega) hpk
  rw [Nat.pow_mul]
  exact Nat.lt_of_le_of_lt hmk (by decide)
theorem le8_n {ws : List Nat} (h : ∀ x ∈ ws, x < 256) {k : Nat} (hk : k < 8) : le8 ws k < 18446744073709551616 :=
  Nat.lt_of_lt_of_le (le8_lt h k) (Nat.le_trans (Nat.pow_le_pow_right (by decide) (show k ≤ 7 by omega)) (by decide))
theorem le8_or {ws : List Nat} (h : ∀ x ∈ ws, x < 256) (k : Nat) : le8 ws k ||| ws.getD (1 + k) 0 * 2 ^ (8 * k) = le8 ws (k + 1) := by
  rw [or_add (by rw [Nat.pow_mul]; exact le8_lt h k), Nat.pow_mul]; rfl
end Go.Proofs.YthmnlkpikgglbaaGreatDoor
namespace Go.Px
theorem q_or64 {P : Program} {R : Mem} {l : Env} {d : Option Nat} {ty t t' : TypeId} {pos : String} {af : Array Edge} {g : Option (Nat × Bool)} {x y : Operand} {a b : Nat} (hx : ev l x = some (.int .u64 (a : Int))) (hy : ev l y = some (.int .u64 (b : Int))) (ha : a < 18446744073709551616) (hb : b < 18446744073709551616) : OpQ P R ⟨d, .binOp .or t x y t', ty, pos, af, g⟩ l (.int .u64 ((a ||| b : Nat) : Int)) := q_or rfl hx hy ha hb
section
variable {P : Program} {R R' : Mem} {l : Env} {d : Option Nat} {ty t t' : TypeId} {pos : String} {af : Array Edge} {g : Option (Nat × Bool)} {x y : Operand} {i j : Int} {k : Nat}
theorem q_shr8 (hx : ev l x = some (.int .i64 i)) (hy : ev l y = some (.int .i64 j)) (hj : j = ((8 * k : Nat) : Int)) (hk : k < 8) : OpQ P R ⟨d, .binOp .shr t x y t', ty, pos, af, g⟩ l (.int .i64 (i / ((256 ^ k : Nat) : Int))) := by
  subst hj
  have h := q_shr (P := P) (R := R) (d := d) (ty := ty) (pos := pos) (af := af) (g := g) (t := t) (t' := t') hx hy (by omega)
  rw [Int.toNat_natCast, Nat.min_eq_left (show 8 * k ≤ IntKind.i64.bits by show 8 * k ≤ 64; omega)] at h
  rw [show (256 ^ k : Nat) = 2 ^ (8 * k) by rw [Nat.pow_mul], Int.natCast_pow, ← Int.fdiv_eq_ediv_of_nonneg _ (Int.pow_nonneg (by decide))]
  exact h
theorem q_to8i {s : TypeId} (hx : ev l x = some (.int .i64 i)) (hc : convI P s t = some .u8) : OpQ P R ⟨d, .convert s t x, ty, pos, af, g⟩ l (.int .u8 (((i % 256).toNat : Nat) : Int)) := by
  refine q_convR _ hx hc ?_
  unfold IntKind.wrap
  simp only [IntKind.signed, IntKind.bits, Bool.false_and, Bool.false_eq_true, if_false]
  omega
end
end Go.Px
namespace Go.Proofs.YthmnlkpikgglbaaGreatDoor
open Go.Px

set_option maxRecDepth 100000 in
theorem bytes_spec (i : Int) (A : Mem) : FnX Tryz.prog 19 [.int .i64 i] [] A fun r M J => J = [] ∧ Sl 1 r 32 (nums .u8 (bts i)) M := by
  skip
  refine FnX.enter (N := 22) Tryz.func19 rfl rfl rfl fun w => ?_
  refine XC.keep (kp 0 rfl kn) ?_
  refine XC.reg ?_
  refine XL.q (q_assign rfl) rfl ?_
  refine XL.fin (kp 0 rfl kn) ?_
  refine XC.reg ?_
  refine XL.lo rfl (l_makeV (a := 32) (e := 5) (k := .u8) (by_ := 1) rfl rfl (by kernel_rfl) rfl rfl (by omega) (by omega) rfl fun v5 B5 hs5 => ?_)
  refine XL.q (q_assign rfl) rfl ?_
  refine XL.fin (kp 0 rfl (kp 3 rfl kn)) ?_
  refine XC.reg ?_
  refine XL.q (q_move rfl) rfl ?_
  refine XL.q (q_atV2 (sz := 1) (a := 0) rfl rfl (by kernel_rfl) rfl (by first | assumption | exact Sl.rd (by assumption) (fun _ h => h) | exact By.rd (by assumption)) (by omega)) rfl ?_
  refine XL.lo rfl (l_stV2 (u := 84) rfl rfl rfl (by kernel_rfl) hs5 (by decide) PickC.perm fun B5b hs5b => ?_)
  refine XL.fin (kp 0 rfl (kp 3 rfl kn)) ?_
  refine XC.seq ?_
  refine XC.reg ?_
  refine XL.q (q_move rfl) rfl ?_
  refine XL.fin (kp 0 rfl (kp 3 rfl (kp 8 rfl kn))) ?_
  refine XC.block ?_
  refine XC.loop (α := Nat × Mem) (fun s => [(0, .int .i64 i), (3, v5), (8, .int .i64 (s.1 : Int))]) (fun s => s.2) (fun _ => []) (fun s => s.1 ≤ 8 ∧ Sl 1 v5 32 (nums .u8 (btk i s.1)) s.2) (fun s => 8 - s.1) ⟨0, B5b⟩ ⟨Nat.zero_le _, hs5b⟩ (kp 0 rfl (kp 3 rfl (kp 8 rfl kn))) (Fit.eq (by simp)) (fun _ h => h) ?_
  rintro ⟨k, B⟩ ⟨hk, hs⟩
  dsimp only at hk hs ⊢
  haveI := hs.cel
  refine XC.reg ?_
  refine XL.q (q_bin rfl rfl rfl) rfl ?_
  refine XL.fin (kp 0 rfl (kp 3 rfl (kp 8 rfl (kp 9 rfl kn)))) ?_
  refine XC.seq ?_
  refine XC.cond rfl (fun hc => ?_) (fun hc => ?_)
  ·
    have hlt : k < 8 := by simp at hc; omega
    refine XC.skip ?_
    refine nx (kp 0 rfl (kp 3 rfl (kp 8 rfl kn))) ?_
    refine XC.seq ?_
    refine XC.block ?_
    refine XC.reg ?_
    refine XL.q (q_move rfl) rfl ?_
    refine XL.q (q_assign rfl) rfl ?_
    refine XL.fin (kp 0 rfl (kp 3 rfl (kp 4 rfl (kp 8 rfl kn)))) ?_
    refine XC.reg1 ?_
    refine XL.q (q_move rfl) rfl ?_
    refine XL.q (q_move rfl) rfl ?_
    refine XL.q (q_addI (a := 1) rfl rfl rfl rfl (by omega)) rfl ?_
    refine XL.q (q_move rfl) rfl ?_
    refine XL.q (q_move rfl) rfl ?_
    refine XL.q (q_mulI (a := 8) rfl rfl rfl rfl (by omega)) rfl ?_
    refine XL.q (q_shr8 (k := k) rfl rfl rfl hlt) rfl ?_
    refine XL.q (q_to8i rfl (by kernel_rfl)) rfl ?_
    refine XL.q (q_atV2 (sz := 1) rfl rfl (by kernel_rfl) rfl (by first | assumption | exact Sl.rd (by assumption) (fun _ h => h) | exact By.rd (by assumption)) (by omega)) rfl ?_
    refine XL.lo rfl (l_stV2 (u := byt i k) rfl rfl rfl (by kernel_rfl) hs (by omega) PickC.perm fun B6 hs6 => ?_)
    rw [btk_succ i (by omega)] at hs6
    refine XL.nil ?_
    refine nb ?_
    refine nx (kp 0 rfl (kp 3 rfl (kp 8 rfl kn))) ?_
    refine XC.reg1 ?_
    refine XL.q (q_addI (b := 1) rfl rfl rfl rfl (by omega)) rfl ?_
    refine XL.q (q_move rfl) rfl ?_
    refine XL.nil ?_
    exact rn ⟨k + 1, B6⟩ ⟨by dsimp only; omega, hs6⟩ (by dsimp only; omega) (kp 0 rfl (kp 3 rfl (kp 8 rfl kn))) (Fit.eq (by simp)) (fun _ h => h)
  ·
    have hge : k = 8 := by simp at hc; omega
    subst hge
    refine XC.exit ?_
    refine te ?_
    refine re ?_
    refine be rfl ?_
    refine nx (kp 3 rfl kn) ?_
    refine XC.reg ?_
    refine XL.q (q_move rfl) rfl ?_
    refine XL.q (q_assign rfl) rfl ?_
    refine XL.fin (kp 2 rfl kn) ?_
    refine XC.ret ?_
    exact ⟨_, B, [], res1 rfl rfl, by first | exact List.Sublist.refl _ | simp, by simp, rfl, hs⟩

set_option maxRecDepth 100000 in
theorem place_spec (bt bm : Nat) (ts : List Tm) (vp : Value) (ws : List Nat) (MT A : Mem) (hT : Tab bt bm ts MT) (hsub : ∀ x, x ∈ MT → x ∈ A) (hn : ts.length ≤ 1048576) (hp : Rd A 1 vp ws.length (nums .u8 ws)) (hw : ∀ x ∈ ws, x < 256) (hl : ws.length ≤ maxLen) : FnV Tryz.prog 14 [.pointer (some ⟨bt, 0, none⟩), vp] A (.tuple #[.int .i64 (((plc ws ts.length).getD 0 : Nat) : Int), .bool (plc ws ts.length).isSome]) := by
  haveI := hp.cel
  have hmx : maxLen < 9223372036854775808 := by unfold maxLen; omega
  refine FnX.enter (N := 51) Tryz.func14 rfl rfl rfl fun w => ?_
  refine XC.keep (kp 0 rfl (kp 1 rfl kn)) ?_
  refine XC.reg ?_
  refine XL.q (q_assign rfl) rfl ?_
  refine XL.q (q_assign rfl) rfl ?_
  refine XL.fin (kp 0 rfl (kp 1 rfl kn)) ?_
  refine XC.seq ?_
  refine XC.reg ?_
  refine XL.q (q_move rfl) rfl ?_
  refine XL.q (q_lenV2 (sz := 1) rfl (by kernel_rfl) hp) rfl ?_
  refine XL.q (q_bin rfl rfl rfl) rfl ?_
  refine XL.q (q_move rfl) rfl ?_
  refine XL.split (t := 13) rfl (fun hb => ?_) (fun hb => ?_)
  ·
    refine XL.gn rfl rfl rfl rfl ?_
    refine XL.gn rfl rfl rfl rfl ?_
    refine XL.gn rfl rfl rfl rfl ?_
    refine XL.gn rfl rfl rfl rfl ?_
    refine XL.q (q_pickT rfl rfl) rfl ?_
    refine XL.fin (kp 0 rfl (kp 1 rfl (kp 18 rfl kn))) ?_
    refine XC.condT rfl ?_
    refine XC.reg ?_
    refine XL.q (q_assign rfl) rfl ?_
    refine XL.q (q_assign rfl) rfl ?_
    refine XL.fin (kp 4 rfl (kp 5 rfl kn)) ?_
    refine XC.ret ?_
    refine tr ?_
    refine ⟨_, [], [], res2 rfl rfl rfl, List.nil_sublist _, by simp, plc_r0 (plc_len (by simp at hb; omega)), rfl, rfl⟩
  ·
    have h32 : 32 ≤ ws.length := by simp at hb; omega
    have h0 : ws.getD 0 0 = (ws.getD 0 0) := rfl
    refine XL.gy rfl rfl (OpQ.opL (q_move rfl) rfl ?_)
    refine XL.gy rfl rfl (OpQ.opL (q_atV2 (sz := 1) (a := 0) rfl rfl (by kernel_rfl) rfl hp (by omega)) rfl ?_)
    refine XL.gy rfl rfl (OpQ.opL (q_ldVN (j := 0) (Rd.mono hp SubC.sub) rfl (by kernel_rfl) (by omega)) rfl ?_)
    refine XL.gy rfl rfl (OpQ.opL (q_bin rfl rfl rfl) rfl ?_)
    refine XL.q (q_pickF rfl rfl) rfl ?_
    refine XL.fin (kp 0 rfl (kp 1 rfl (kp 18 rfl kn))) ?_
    refine XC.cond rfl (fun hc => ?_) (fun hc => ?_)
    ·
      have h84 : ws.getD 0 0 ≠ 84 := by have := bne_iff_ne.1 hc; omega
      refine XC.reg ?_
      refine XL.q (q_assign rfl) rfl ?_
      refine XL.q (q_assign rfl) rfl ?_
      refine XL.fin (kp 4 rfl (kp 5 rfl kn)) ?_
      refine XC.ret ?_
      refine tr ?_
      refine ⟨_, [], [], res2 rfl rfl rfl, List.nil_sublist _, by simp, plc_r0 (plc_84 h84), rfl, rfl⟩
    ·
      have h84 : ws.getD 0 0 = 84 := by have h := hc; rw [bne_eq_false_iff_eq] at h; omega
      refine XC.skip ?_
      refine nx (kp 0 rfl (kp 1 rfl kn)) ?_
      refine XC.reg ?_
      refine XL.q (q_assign rfl) rfl ?_
      refine XL.fin (kp 0 rfl (kp 1 rfl (kp 6 rfl kn))) ?_
      refine XC.seq ?_
      refine XC.reg ?_
      refine XL.q (q_move rfl) rfl ?_
      refine XL.fin (kp 0 rfl (kp 1 rfl (kp 6 rfl (kp 19 rfl kn)))) ?_
      refine XC.block ?_
      refine XC.loop (α := Nat) (fun k => [(0, .pointer (some ⟨bt, 0, none⟩)), (1, vp), (6, .int .u64 ((le8 ws k : Nat) : Int)), (19, .int .i64 (k : Int))]) (fun _ => []) (fun _ => []) (fun k => k ≤ 8) (fun k => 8 - k) 0 (by decide) (kp 0 rfl (kp 1 rfl (kp 6 rfl (kp 19 rfl kn)))) (Fit.eq (by simp)) (fun _ h => h) ?_
      rintro k hk
      refine XC.reg ?_
      refine XL.q (q_bin rfl rfl rfl) rfl ?_
      refine XL.fin (kp 0 rfl (kp 1 rfl (kp 6 rfl (kp 19 rfl (kp 20 rfl kn))))) ?_
      refine XC.seq ?_
      refine XC.cond rfl (fun hc => ?_) (fun hc => ?_)
      ·
        have hlt : k < 8 := by simp at hc; omega
        have hwk := getD_lt hw (1 + k)
        have h8w := le8_w hw hlt
        have h8n := le8_n hw hlt
        refine XC.skip ?_
        refine nx (kp 0 rfl (kp 1 rfl (kp 6 rfl (kp 19 rfl kn)))) ?_
        refine XC.seq ?_
        refine XC.block ?_
        refine XC.reg ?_
        refine XL.q (q_move rfl) rfl ?_
        refine XL.q (q_assign rfl) rfl ?_
        refine XL.fin (kp 0 rfl (kp 1 rfl (kp 6 rfl (kp 7 rfl (kp 19 rfl kn))))) ?_
        refine XC.reg1 ?_
        refine XL.q (q_move rfl) rfl ?_
        refine XL.q (q_move rfl) rfl ?_
        refine XL.q (q_move rfl) rfl ?_
        refine XL.q (q_addI (a := 1) rfl rfl rfl rfl (by omega)) rfl ?_
        refine XL.q (q_atV2 (sz := 1) rfl rfl (by kernel_rfl) rfl hp (by omega)) rfl ?_
        refine XL.q (q_ldVN (Rd.mono hp SubC.sub) rfl (by kernel_rfl) (by omega)) rfl ?_
        refine XL.q (q_convN (ws.getD (1 + k) 0) rfl (by kernel_rfl) (by rw [wrap64, Nat.mod_eq_of_lt (by omega)])) rfl ?_
        refine XL.q (q_move rfl) rfl ?_
        refine XL.q (q_mulI (a := 8) rfl rfl rfl rfl (by omega)) rfl ?_
        refine XL.q (q_shlI 18446744073709551616 rfl (by decide) rfl rfl rfl rfl (by show 8 * k ≤ 64; omega)) rfl ?_
        rw [Nat.mod_eq_of_lt h8w]
        refine XL.q (q_or64 rfl rfl h8n h8w) rfl ?_
        rw [le8_or hw k]
        refine XL.q (q_assign rfl) rfl ?_
        refine XL.nil ?_
        refine nb ?_
        refine nx (kp 0 rfl (kp 1 rfl (kp 6 rfl (kp 19 rfl kn)))) ?_
        refine XC.reg1 ?_
        refine XL.q (q_addI (b := 1) rfl rfl rfl rfl (by omega)) rfl ?_
        refine XL.q (q_move rfl) rfl ?_
        refine XL.nil ?_
        exact rn (k + 1) (by omega) (by omega) (kp 0 rfl (kp 1 rfl (kp 6 rfl (kp 19 rfl kn)))) (Fit.eq (by simp)) (fun _ h => h)
      ·
        have hge : k = 8 := by simp at hc; omega
        subst hge
        generalize h8 : le8 ws 8 = n8
        refine XC.exit ?_
        refine te ?_
        refine re ?_
        refine be rfl ?_
        refine nx (kp 0 rfl (kp 1 rfl (kp 6 rfl kn))) ?_
        refine XC.seq ?_
        refine XC.reg ?_
        refine XL.q (q_move rfl) rfl ?_
        refine XL.q (q_loV2 (sz := 1) (a := 9) rfl rfl (by kernel_rfl) rfl hp (by omega)) rfl ?_
        have hq := hp.loV 9 (by omega)
        rw [Nat.mul_one, ← nums_drop] at hq
        generalize vLo 9 1 vp = vq at *
        haveI := hq.cel
        refine XL.q (q_lenV2 (sz := 1) rfl (by kernel_rfl) hq) rfl ?_
        refine XL.q (q_move rfl) rfl ?_
        refine XL.fin (kp 0 rfl (kp 6 rfl (kp 35 rfl (kp 36 rfl (kp 37 rfl kn))))) ?_
        refine XC.block ?_
        refine XC.loop (α := Nat) (fun j => [(0, .pointer (some ⟨bt, 0, none⟩)), (6, .int .u64 ((n8 : Nat) : Int)), (35, vq), (36, .int .i64 ((ws.length - 9 : Nat) : Int)), (37, .int .i64 (j : Int))]) (fun _ => []) (fun _ => []) (fun j => j ≤ ws.length - 9 ∧ ∀ c ∈ (ws.drop 9).take j, c = 0) (fun j => ws.length - 9 - j) 0 ⟨Nat.zero_le _, fun c h => by simp at h⟩ (kp 0 rfl (kp 6 rfl (kp 35 rfl (kp 36 rfl (kp 37 rfl kn))))) (Fit.eq (by simp)) (fun _ h => h) ?_
        rintro j ⟨hj, hz⟩
        refine XC.reg ?_
        refine XL.q (q_bin rfl rfl rfl) rfl ?_
        refine XL.fin (kp 0 rfl (kp 6 rfl (kp 35 rfl (kp 36 rfl (kp 37 rfl (kp 38 rfl kn)))))) ?_
        refine XC.seq ?_
        refine XC.cond rfl (fun hc => ?_) (fun hc => ?_)
        ·
          have hlt : j < ws.length - 9 := by simp at hc; omega
          have hjw : j < (ws.drop 9).length := by rw [List.length_drop]; exact hlt
          have hwj := getD_lt (ws := ws.drop 9) (fun x hx => hw x (List.mem_of_mem_drop hx)) j
          refine XC.skip ?_
          refine nx (kp 0 rfl (kp 6 rfl (kp 35 rfl (kp 36 rfl (kp 37 rfl kn))))) ?_
          refine XC.seq ?_
          refine XC.block ?_
          refine XC.reg ?_
          refine XL.q (q_atV2 (sz := 1) rfl rfl (by kernel_rfl) rfl hq hlt) rfl ?_
          refine XL.q (q_ldVN (Rd.mono hq SubC.sub) rfl (by kernel_rfl) hlt) rfl ?_
          refine XL.q (q_assign rfl) rfl ?_
          refine XL.fin (kp 0 rfl (kp 6 rfl (kp 9 rfl (kp 35 rfl (kp 36 rfl (kp 37 rfl kn)))))) ?_
          refine XC.reg ?_
          refine XL.q (q_move rfl) rfl ?_
          refine XL.q (q_bin rfl rfl rfl) rfl ?_
          refine XL.fin (kp 0 rfl (kp 6 rfl (kp 35 rfl (kp 36 rfl (kp 37 rfl (kp 42 rfl kn)))))) ?_
          refine XC.cond rfl (fun hc => ?_) (fun hc => ?_)
          ·
            have hne : (ws.drop 9).getD j 0 ≠ 0 := by have := bne_iff_ne.1 hc; omega
            refine XC.reg ?_
            refine XL.q (q_assign rfl) rfl ?_
            refine XL.q (q_assign rfl) rfl ?_
            refine XL.fin (kp 4 rfl (kp 5 rfl kn)) ?_
            refine XC.ret ?_
            refine br ?_
            refine tr ?_
            refine rr ?_
            refine br ?_
            refine tr ?_
            refine ⟨_, [], [], res2 rfl rfl rfl, List.nil_sublist _, by simp, plc_r0 (plc_nz hjw hne), rfl, rfl⟩
          ·
            have he0 : (ws.drop 9).getD j 0 = 0 := by have h := hc; rw [bne_eq_false_iff_eq] at h; omega
            refine XC.skip ?_
            refine nb ?_
            refine nx (kp 0 rfl (kp 6 rfl (kp 35 rfl (kp 36 rfl (kp 37 rfl kn))))) ?_
            refine XC.reg1 ?_
            refine XL.q (q_addI (b := 1) rfl rfl rfl rfl (by omega)) rfl ?_
            refine XL.q (q_move rfl) rfl ?_
            refine XL.nil ?_
            exact rn (j + 1) ⟨by omega, fun c h => by rw [List.take_add_one, List.getElem?_eq_getElem hjw] at h; rcases List.mem_append.1 h with h | h; exact hz c h; simp at h; rw [List.getD_eq_getElem?_getD, List.getElem?_eq_getElem hjw] at he0; simp at he0; omega⟩ (by omega) (kp 0 rfl (kp 6 rfl (kp 35 rfl (kp 36 rfl (kp 37 rfl kn))))) (Fit.eq (by simp)) (fun _ h => h)
        ·
          have hge : j = ws.length - 9 := by simp at hc; omega
          subst hge
          have hzz : ∀ c ∈ ws.drop 9, c = 0 := by rwa [List.take_of_length_le (by rw [List.length_drop]; exact Nat.le_refl _)] at hz
          refine XC.exit ?_
          refine te ?_
          refine re ?_
          refine be rfl ?_
          refine nx (kp 0 rfl (kp 6 rfl kn)) ?_
          refine XC.seq ?_
          refine XC.reg ?_
          refine XL.q (q_move rfl) rfl ?_
          refine XL.q (q_move rfl) rfl ?_
          refine XL.callV (aS rfl a0) (by kernel_rfl) (lenT_spec bt bm ts MT _ hT (fun x hx => mA (hsub x hx))) rfl ?_
          refine XL.q (q_convN ts.length rfl (by kernel_rfl) (by rw [wrap64, Nat.mod_eq_of_lt (by omega)])) rfl ?_
          refine XL.q (q_bin rfl rfl rfl) rfl ?_
          refine XL.fin (kp 6 rfl (kp 48 rfl kn)) ?_
          refine XC.cond rfl (fun hc => ?_) (fun hc => ?_)
          ·
            have hge : ts.length ≤ n8 := by simp at hc; omega
            refine XC.reg ?_
            refine XL.q (q_assign rfl) rfl ?_
            refine XL.q (q_assign rfl) rfl ?_
            refine XL.fin (kp 4 rfl (kp 5 rfl kn)) ?_
            refine XC.ret ?_
            refine tr ?_
            refine ⟨_, [], [], res2 rfl rfl rfl, List.nil_sublist _, by simp, plc_r0 (plc_ge h8 hge), rfl, rfl⟩
          ·
            have hltn : n8 < ts.length := by simp at hc; omega
            refine XC.skip ?_
            refine nx (kp 6 rfl kn) ?_
            refine XC.reg ?_
            refine XL.q (q_move rfl) rfl ?_
            refine XL.q (q_convN n8 rfl (by kernel_rfl) (wrapI (by omega))) rfl ?_
            refine XL.q (q_assign rfl) rfl ?_
            refine XL.q (q_assign rfl) rfl ?_
            refine XL.fin (kp 4 rfl (kp 5 rfl kn)) ?_
            refine XC.ret ?_
            refine ⟨_, [], [], res2 rfl rfl rfl, List.nil_sublist _, by simp, plc_r1 (plc_some h8 h32 h84 hzz hltn), rfl, rfl⟩
