/- Part 12 of the texts of this claim, one behind the other. -/
import Derived.Test.YtphcaiplgpmnnaaGreatDoorB11
import Derived.Test.YtphcaiplgpmnnaaGreatDoorRows
import Derived.Laws.StructEq
import Derived.Laws.Cover3
set_option linter.unusedVariables false
set_option linter.unusedSimpArgs false
set_option maxRecDepth 100000
namespace Go.Px
theorem xp_two (n : Nat) : xp n = 2 ^ (32 * n) := by rw [xp, Nat.pow_mul]
theorem nv_word {ws : List Nat} (h : w32 ws) (i : Nat) : nv ws / xp i % 4294967296 = ws.getD i 0 := by
  induction ws generalizing i with
  | nil => simp [nv]
  | cons b r ih =>
    have h1 := h b (by simp)
    cases i with
    | zero => simp only [nv, xp0, Nat.div_one, List.getD_cons_zero]; omega
    | succ i =>
      rw [List.getD_cons_succ, ← ih (fun x hx => h x (by simp [hx])) i, xpS, Nat.mul_comm, ← Nat.div_div_eq_div_mul]
      congr 2
      simp only [nv]; omega
/-- So many bytes of a number, the lowest first. -/
def digs (x n : Nat) : List Nat := (List.range n).map fun i => x / 256 ^ i % 256
theorem digs_len (x n : Nat) : (digs x n).length = n := by simp [digs]
theorem digs_lt (x n : Nat) : ∀ y ∈ digs x n, y < 256 := fun y hy => by
  simp only [digs, List.mem_map] at hy
  obtain ⟨i, _, rfl⟩ := hy
  exact Nat.mod_lt _ (by decide)
theorem digs_succ (x n : Nat) : digs x (n + 1) = digs x n ++ [x / 256 ^ n % 256] := by simp [digs, List.range_succ]
theorem bv_digs (x n : Nat) : bv (digs x n) = x % 256 ^ n := by
  have := bv_digits x n
  rw [show (256 : Nat) ^ n = 2 ^ (8 * n) by rw [Nat.pow_mul], ← this]
  congr 1
  unfold digs
  apply List.map_congr_left
  intro j _
  rw [Nat.pow_mul]
theorem word_byte {ws : List Nat} (h : w32 ws) (i : Nat) : ws.getD (i / 4) 0 / 2 ^ (8 * (i % 4)) % 256 = nv ws / 256 ^ i % 256 := by
  rw [← nv_word h, show (256 : Nat) ^ i = 2 ^ (8 * i) by rw [Nat.pow_mul], xp_two, show (4294967296 : Nat) = 2 ^ (8 * (i % 4)) * 2 ^ (32 - 8 * (i % 4)) by rw [← Nat.pow_add, show 8 * (i % 4) + (32 - 8 * (i % 4)) = 32 by omega], Nat.mod_mul_right_div_self,
    show (2 : Nat) ^ (32 - 8 * (i % 4)) = 256 * 2 ^ (24 - 8 * (i % 4)) by rw [show (256 : Nat) = 2 ^ 8 from rfl, ← Nat.pow_add]; congr 1; omega, Nat.mod_mul_right_mod, Nat.div_div_eq_div_mul, ← Nat.pow_add]
  congr 3; omega
theorem word_bit {ws : List Nat} (h : w32 ws) (i : Nat) : ws.getD (i / 32) 0 / 2 ^ (i % 32) % 2 = nv ws / 2 ^ i % 2 := by
  rw [← nv_word h, xp_two, show (4294967296 : Nat) = 2 ^ (i % 32) * 2 ^ (32 - i % 32) by rw [← Nat.pow_add, show i % 32 + (32 - i % 32) = 32 by omega], Nat.mod_mul_right_div_self,
    show (2 : Nat) ^ (32 - i % 32) = 2 * 2 ^ (31 - i % 32) by rw [← Nat.pow_succ']; congr 1; omega, Nat.mod_mul_right_mod, Nat.div_div_eq_div_mul, ← Nat.pow_add]
  congr 3; omega
theorem getD_high {ws : List Nat} {i : Nat} (h : ws.length ≤ i) : ws.getD i 0 = 0 := by simp [List.getD, List.getElem?_eq_none h]
theorem nv_take_succ' (ws : List Nat) (j : Nat) : nv (ws.take (j + 1)) = nv (ws.take j) + xp j * ws.getD j 0 := by
  by_cases h : j < ws.length
  · exact nv_take_succ h
  · rw [getD_high (by omega), List.take_of_length_le (by omega), List.take_of_length_le (by omega), Nat.mul_zero, Nat.add_zero]
theorem plus_step {o a b : List Nat} {i c x : Nat} (hl : o.length = i) (h : nv o + xp i * c = nv (a.take i) + nv (b.take i)) (hx : x = c + a.getD i 0 + b.getD i 0) :
    nv (o ++ [x % 4294967296]) + xp (i + 1) * (x / 4294967296) = nv (a.take (i + 1)) + nv (b.take (i + 1)) := by
  rw [nv_append, hl, nv_take_succ', nv_take_succ', xpS]
  have e : xp i * (x % 4294967296) + xp i * 4294967296 * (x / 4294967296) = xp i * x := by
    rw [Nat.mul_assoc, ← Nat.mul_add, Nat.mod_add_div]
  have e2 : xp i * x = xp i * c + xp i * a.getD i 0 + xp i * b.getD i 0 := by rw [hx, Nat.mul_add, Nat.mul_add]
  simp only [nv, Nat.mul_zero, Nat.add_zero]
  omega
theorem nv_take_le (ws : List Nat) (n : Nat) : nv (ws.take n) ≤ nv ws := by
  by_cases h : n ≤ ws.length
  · rw [nv_split ws n h]; omega
  · rw [List.take_of_length_le (by omega)]; exact Nat.le_refl _
theorem less_next {o a b : List Nat} {i c c' d : Nat} (hl : o.length = i) (h : nv o + nv (b.take i) = nv (a.take i) + xp i * c) (hd : d + b.getD i 0 + c = a.getD i 0 + 4294967296 * c') :
    nv (o ++ [d]) + nv (b.take (i + 1)) = nv (a.take (i + 1)) + xp (i + 1) * c' := by
  rw [nv_append, hl, nv_take_succ', nv_take_succ', xpS]
  have e : xp i * d + xp i * b.getD i 0 + xp i * c = xp i * a.getD i 0 + xp i * 4294967296 * c' := by
    rw [← Nat.mul_add, ← Nat.mul_add, hd, Nat.mul_add, Nat.mul_assoc]
  simp only [nv, Nat.mul_zero, Nat.add_zero]
  omega
theorem less_end {o a b : List Nat} {c : Nat} (hl : o.length = a.length) (ho : w32 o) (ha : w32 a) (h : nv o + nv (b.take a.length) = nv (a.take a.length) + xp a.length * c) (hle : nv b ≤ nv a) : nv o = nv a - nv b := by
  have h1 := nv_lt ho
  have h2 := nv_lt ha
  have h3 := nv_take_le b a.length
  rw [List.take_length] at h
  rw [hl] at h1
  have hc : c = 0 := by
    rcases Nat.eq_zero_or_pos c with h0 | h0
    · exact h0
    · have := Nat.le_mul_of_pos_right (xp a.length) h0
      omega
  subst hc
  have h4 : nv (b.take a.length) = nv b := by
    by_cases hb : a.length ≤ b.length
    · have h5 := nv_split b a.length hb
      have h6 : nv (b.drop a.length) = 0 := by
        rcases Nat.eq_zero_or_pos (nv (b.drop a.length)) with h0 | h0
        · exact h0
        · have := Nat.le_mul_of_pos_right (xp a.length) h0
          omega
      rw [h6] at h5; omega
    · rw [List.take_of_length_le (by omega)]
  omega
/-- So many words of a number. -/
def wrds (x n : Nat) : List Nat := (List.range n).map fun i => x / xp i % 4294967296
end Go.Px

/- The walks of package sign: order, less, add. -/
namespace Go.Proofs.YtphcaiplgpmnnaaGreatDoor
open Go.Px
/-- How often the first point is added till it is the origin. -/
def ordW : List Nat := [1559614445, 1477600026, 2734136534, 350157278, 0, 0, 0, 268435456]
def lN : Nat := 7237005577332262213973186563042994240857116359379907606001950938285454250989
theorem ord_nv : nv ordW = lN := by decide +kernel
theorem ord_32 : w32 ordW := by unfold w32 ordW; decide
/-- The value of a scalar. -/
def Sc (v : Value) (n : Nat) : Prop := ∃ ws, v = .agg (nums .u32 ws).toArray ∧ ws.length = 8 ∧ w32 ws ∧ nv ws = n
theorem xp8 : xp 8 = 115792089237316195423570985008687907853269984665640564039457584007913129639936 := by decide +kernel
theorem top_eq {a b : List Nat} {i : Nat} (h1 : a.drop (i + 1) = b.drop (i + 1)) (hi : i < a.length) (hj : i < b.length) (h2 : a.getD i 0 = b.getD i 0) : a.drop i = b.drop i := by
  rw [List.getD_eq_getElem?_getD, List.getElem?_eq_getElem hi, List.getD_eq_getElem?_getD, List.getElem?_eq_getElem hj] at h2
  rw [List.drop_eq_getElem_cons hi, List.drop_eq_getElem_cons hj, h1]
  exact congrArg (· :: _) h2
theorem part_get {o a : List Nat} {i : Nat} (hl : o.length = i) : (o ++ a.drop i).getD i 0 = a.getD i 0 := by
  rw [List.getD_eq_getElem?_getD, List.getElem?_append_right (by omega), List.getElem?_drop, List.getD_eq_getElem?_getD]
  congr 2; omega
theorem part_set {o a : List Nat} {i x : Nat} (hl : o.length = i) (hi : i < a.length) : (o ++ a.drop i).set i x = (o ++ [x]) ++ a.drop (i + 1) := by
  rw [List.set_append_right _ _ (by omega), hl, Nat.sub_self, List.drop_eq_getElem_cons hi, List.set_cons_zero, List.append_assoc]; rfl
theorem part_len {o a : List Nat} {i n : Nat} (hl : o.length = i) (ha : a.length = n) (hi : i ≤ n) : (o ++ a.drop i).length = n := by
  rw [List.length_append, List.length_drop]; omega
theorem add_low {a b c : Nat} (ha : a < lN) (hb : b < lN) (h : c * xp 8 ≤ a + b) : c = 0 := by
  rcases Nat.eq_zero_or_pos c with h0 | h0
  · exact h0
  · have h1 := Nat.le_mul_of_pos_left (xp 8) h0
    rw [xp8] at h1 h
    unfold lN at ha hb
    omega
theorem sub_borrow {x y c d e : Nat} (hx : x < 4294967296) (hy : y < 4294967296) (hc : c ≤ 1) (hd : d = (x + (18446744073709551616 - y)) % 18446744073709551616) (he : e = (d + (18446744073709551616 - c)) % 18446744073709551616) :
    e % 4294967296 + y + c = x + 4294967296 * (e / 9223372036854775808) ∧ e / 9223372036854775808 ≤ 1 := by
  by_cases h : y + c ≤ x
  · have e1 : e = x - y - c := by omega
    have e2 : e < 4294967296 := by omega
    rw [Nat.mod_eq_of_lt e2, Nat.div_eq_of_lt (by omega)]
    omega
  · have e1 : e = 18446744073709551616 - (y + c - x) := by omega
    omega

theorem cmp_lss {k : IntKind} (x y : Nat) : arith .lss k (x : Int) (y : Int) = some (.bool (decide (x < y))) := by
  by_cases h : x < y
  · rw [decide_eq_true h]; exact ltT (by omega)
  · rw [decide_eq_false h]; exact ltF (by omega)
theorem less_at {a b : List Nat} (ha : w32 a) (hb : w32 b) {i : Nat} (hi : i < a.length) (hl : a.length = b.length) (hd : a.drop (i + 1) = b.drop (i + 1)) (hne : a.getD i 0 ≠ b.getD i 0) : nv a < nv b ↔ a.getD i 0 < b.getD i 0 := by
  constructor
  · intro h
    rcases Nat.lt_or_gt_of_ne hne with h1 | h1
    · exact h1
    · have := nv_lt_at hb (by omega) hl.symm h1 hd.symm; omega
  · intro h; exact nv_lt_at ha hi hl h hd
theorem wrap64n {n : Nat} (h : n < 18446744073709551616) : IntKind.u64.wrap (n : Int) = (n : Int) := wrap_u64 (by omega) (by omega)

theorem order_f (A : Mem) : FnV Tryz.prog 147 [] A (.agg (nums .u32 ordW).toArray) := by
 refine FnX.enter (N := 2) Tryz.func147 rfl rfl rfl fun w => ?_
 refine XC.keep kn ?_
 refine XC.reg ?_
 refine XL.lo rfl (l_alloc (cs := [.int .u32 0, .int .u32 0, .int .u32 0, .int .u32 0, .int .u32 0, .int .u32 0, .int .u32 0, .int .u32 0]) (by kernel_rfl) rfl fun b0 => ?_)
 refine XL.fin (kq 0 kn) ?_
 refine XC.reg ?_
 refine XL.q (q_build (place := fun i => some (i * 1, 1)) (z := [.int .u32 0, .int .u32 0, .int .u32 0, .int .u32 0, .int .u32 0, .int .u32 0, .int .u32 0, .int .u32 0]) (fun _ => by kernel_rfl) (eS rfl (eS rfl (eS rfl (eS rfl (eS rfl (eS rfl (eS rfl (eS rfl e0)))))))) (bdS 0 1 rfl (by rfl) (bdS 1 1 rfl (by rfl) (bdS 2 1 rfl (by rfl) (bdS 3 1 rfl (by rfl) (bdS 4 1 rfl (by rfl) (bdS 5 1 rfl (by rfl) (bdS 6 1 rfl (by rfl) (bdS 7 1 rfl (by rfl) bd0))))))))) rfl ?_
 refine XL.lo rfl (l_storeW rfl rfl Cel.cel (by kernel_rfl) (lnS (lnS (lnS (lnS (lnS (lnS (lnS (lnS (ln0))))))))) (allS rfl (allS rfl (allS rfl (allS rfl (allS rfl (allS rfl (allS rfl (allS rfl (all0))))))))) UpC.upd ?_)
 refine XL.fin (kq 0 kn) ?_
 refine XC.ret ?_
 exact ⟨_, [], [], resC rfl rfl (by kernel_rfl) At.mem (by rfl), List.nil_sublist _, by simp, rfl, rfl, rfl⟩

theorem less_f (v u : Value) (x y : Nat) (hv : Sc v x) (hu : Sc u y) (A : Mem) : FnV Tryz.prog 148 [v, u] A (.bool (decide (x < y))) := by
 obtain ⟨a, rfl, a8, a32, rfl⟩ := hv
 obtain ⟨b, rfl, b8, b32, rfl⟩ := hu
 refine FnX.enter (N := 24) Tryz.func148 rfl rfl rfl fun w => ?_
 refine XC.keep (kq 0 (kq 1 kn)) ?_
 refine XC.reg ?_
 refine XL.lo rfl (bx_ fun b2 => ?_)
 refine XL.lo rfl (bx_ fun b3 => ?_)
 refine as_ ?_
 refine XL.fin (kq 2 (kq 3 kn)) ?_
 refine XC.seq ?_
 refine XC.reg ?_
 refine as_ ?_
 refine XL.fin (kq 2 (kq 3 (kq 5 kn))) ?_
 refine XC.block ?_
 refine XC.loop (α := Nat) (fun j => [(2, .pointer (some ⟨b2, 0, none⟩)), (3, .pointer (some ⟨b3, 0, none⟩)), (5, .int .i64 ((j : Int) - 1))]) (fun _ => [(b3, blk (nums .u32 b) 160), (b2, blk (nums .u32 a) 160)]) (fun _ => []) (fun j => j ≤ 8 ∧ a.drop j = b.drop j) (fun j => j) 8 ⟨Nat.le_refl _, by rw [List.drop_of_length_le (by omega), List.drop_of_length_le (by omega)]⟩ (kq 2 (kq 3 (kq 5 kn))) .rfl (fun _ h => h) ?_
 rintro j ⟨hj, hd⟩
 refine XC.seq ?_
 refine XC.reg ?_
 refine mv_ ?_
 refine XL.q (q_bin rfl rfl rfl) rfl ?_
 refine XL.fin (kq 2 (kq 3 (kq 5 (kq 7 kn)))) ?_
 refine XC.cond rfl (fun hc => ?_) (fun hc => ?_)
 ·
  have hj0 : 0 < j := by simp at hc; omega
  obtain ⟨i, rfl⟩ : ∃ i, j = i + 1 := ⟨j - 1, by omega⟩
  rw [show (((i + 1 : Nat) : Int) - 1) = (i : Int) by omega]
  refine XC.skip ?_
  refine nx (kq 2 (kq 3 (kq 5 kn))) ?_
  refine XC.seq ?_
  refine XC.block ?_
  refine XC.drawF [0, 1, 2, 3, 4, 5, 6] [(0, 0), (1, 0), (2, 1), (3, 0), (4, 0), (5, 1), (6, 0)] (by kernel_rfl) (by kernel_rfl) fun hs => ?_
  refine XF.q hs rfl qm_ rfl ?_
  refine XF.q hs rfl (q_idxA (e := 22) (n := 8) (sz := 1) (i := i) rfl rfl (by kernel_rfl) (by kernel_rfl) rfl (by omega)) rfl ?_
  refine XF.r hs rfl (q_ldN (i) rfl (by kernel_rfl) At.mem (by omega) (by first | omega | (rw [a8]; omega))) rfl ?_
  refine XF.q hs rfl qm_ rfl ?_
  refine XF.q hs rfl (q_idxA (e := 22) (n := 8) (sz := 1) (i := i) rfl rfl (by kernel_rfl) (by kernel_rfl) rfl (by omega)) rfl ?_
  refine XF.r hs rfl (q_ldN (i) rfl (by kernel_rfl) At.mem (by omega) (by first | omega | (rw [b8]; omega))) rfl ?_
  refine XF.q hs rfl (q_bin rfl rfl rfl) rfl ?_
  refine XF.fin (kq 2 (kq 3 (kq 5 (kq 16 kn)))) ?_
  refine XC.cond rfl (fun hc => ?_) (fun hc => ?_)
  ·
   have hne : a.getD i 0 ≠ b.getD i 0 := by simp at hc ⊢; omega
   refine XC.drawF [0, 1, 2, 3, 4, 5, 6, 7] [(0, 0), (1, 0), (2, 1), (3, 0), (4, 0), (5, 1), (6, 0), (7, 0)] (by kernel_rfl) (by kernel_rfl) fun hs => ?_
   refine XF.q hs rfl qm_ rfl ?_
   refine XF.q hs rfl (q_idxA (e := 22) (n := 8) (sz := 1) (i := i) rfl rfl (by kernel_rfl) (by kernel_rfl) rfl (by omega)) rfl ?_
   refine XF.r hs rfl (q_ldN (i) rfl (by kernel_rfl) At.mem (by omega) (by first | omega | (rw [a8]; omega))) rfl ?_
   refine XF.q hs rfl qm_ rfl ?_
   refine XF.q hs rfl (q_idxA (e := 22) (n := 8) (sz := 1) (i := i) rfl rfl (by kernel_rfl) (by kernel_rfl) rfl (by omega)) rfl ?_
   refine XF.r hs rfl (q_ldN (i) rfl (by kernel_rfl) At.mem (by omega) (by first | omega | (rw [b8]; omega))) rfl ?_
   refine XF.q hs rfl (q_cmp (decide (a.getD i 0 < b.getD i 0)) rfl rfl (cmp_lss _ _)) rfl ?_
   refine XF.q hs rfl (q_assign rfl) rfl ?_
   refine XF.fin (kq 4 kn) ?_
   refine XC.ret ?_
   refine br ?_
   refine tr ?_
   refine rr ?_
   refine br ?_
   refine tr ?_
   exact ⟨_, [], [], res1 rfl rfl, List.nil_sublist _, by simp, by rw [show decide (nv a < nv b) = decide (a.getD i 0 < b.getD i 0) from decide_eq_decide.2 (less_at a32 b32 (by omega) (by omega) hd hne)], rfl, rfl⟩
  ·
   have hne : a.getD i 0 = b.getD i 0 := by simp at hc ⊢; omega
   refine XC.skip ?_
   refine nb ?_
   refine nx (kq 2 (kq 3 (kq 5 kn))) ?_
   refine XC.reg1 ?_
   refine mv_ ?_
   refine XL.q (q_num ((i : Int) - 1) rfl rfl (sub64 rfl (by omega) (by omega))) rfl ?_
   refine as_ ?_
   refine XL.nil ?_
   exact rn i ⟨by omega, top_eq hd (by omega) (by omega) hne⟩ (by omega) (kq 2 (kq 3 (kq 5 kn))) .rfl (fun _ h => h)
 ·
  have hj0 : j = 0 := by simp at hc; omega
  subst hj0
  rw [List.drop_zero, List.drop_zero] at hd
  refine XC.exit ?_
  refine te ?_
  refine re ?_
  refine be rfl ?_
  refine nx kn ?_
  refine XC.reg ?_
  refine as_ ?_
  refine XL.fin (kq 4 kn) ?_
  refine XC.ret ?_
  exact ⟨_, [], [], res1 rfl rfl, List.nil_sublist _, by simp, by rw [hd, decide_eq_false (Nat.lt_irrefl _)], rfl, rfl⟩

theorem sadd_f (v u : Value) (x y : Nat) (hv : Sc v x) (hu : Sc u y) (hx : x < lN) (hy : y < lN) (A : Mem) : FnX Tryz.prog 125 [v, u] [] A fun r M J => M = [] ∧ J = [] ∧ Sc r ((x + y) % lN) := by
 obtain ⟨a, rfl, a8, a32, rfl⟩ := hv
 obtain ⟨b, rfl, b8, b32, rfl⟩ := hu
 refine FnX.enter (N := 58) Tryz.func125 rfl rfl rfl fun w => ?_
 refine XC.keep (kq 0 (kq 1 kn)) ?_
 refine XC.reg ?_
 refine XL.lo rfl (bx_ fun b2 => ?_)
 refine XL.lo rfl (bx_ fun b3 => ?_)
 refine XL.lo rfl (l_alloc (cs := [.int .u32 0, .int .u32 0, .int .u32 0, .int .u32 0, .int .u32 0, .int .u32 0, .int .u32 0, .int .u32 0]) (by kernel_rfl) rfl fun b4 => ?_)
 refine XL.fin (kq 2 (kq 3 (kq 4 kn))) ?_
 refine XC.reg ?_
 refine as_ ?_
 refine XL.fin (kq 2 (kq 3 (kq 4 (kq 5 kn)))) ?_
 refine XC.seq ?_
 refine XC.reg ?_
 refine mv_ ?_
 refine XL.fin (kq 2 (kq 3 (kq 4 (kq 5 (kq 10 kn))))) ?_
 refine XC.block ?_
 refine XC.loop (α := Nat × List Nat × Nat) (fun x => [(2, .pointer (some ⟨b2, 0, none⟩)), (3, .pointer (some ⟨b3, 0, none⟩)), (4, .pointer (some ⟨b4, 0, none⟩)), (5, .int .u64 (x.2.2 : Int)), (10, .int .i64 (x.1 : Int))]) (fun x => [(b4, blk [.int .u32 0, .int .u32 0, .int .u32 0, .int .u32 0, .int .u32 0, .int .u32 0, .int .u32 0, .int .u32 0] 160), (b3, blk (nums .u32 b) 160), (b2, blk (nums .u32 (x.2.1 ++ a.drop x.1)) 160)]) (fun _ => []) (fun x => x.1 ≤ 8 ∧ x.2.1.length = x.1 ∧ w32 x.2.1 ∧ x.2.2 ≤ 1 ∧ nv x.2.1 + xp x.1 * x.2.2 = nv (a.take x.1) + nv (b.take x.1)) (fun x => 8 - x.1) ⟨0, [], 0⟩ ⟨Nat.zero_le _, rfl, (fun x hx => by cases hx), by decide, rfl⟩ (kq 2 (kq 3 (kq 4 (kq 5 (kq 10 kn))))) .rfl (fun _ h => h) ?_
 rintro ⟨i, o, c⟩ ⟨hi, hol, ho32, hc1, hnv⟩
 dsimp only at hi hol ho32 hc1 hnv ⊢
 refine XC.reg ?_
 refine XL.q (q_bin rfl rfl rfl) rfl ?_
 refine XL.fin (kq 2 (kq 3 (kq 4 (kq 5 (kq 10 (kq 11 kn)))))) ?_
 refine XC.seq ?_
 refine XC.cond rfl (fun hc => ?_) (fun hc => ?_)
 ·
  have hlt : i < 8 := by simp at hc; omega
  have hpl := part_len (o := o) (a := a) hol a8 hi
  have hpg := part_get (a := a) hol
  have hps := fun x => part_set (x := x) hol (show i < a.length by omega)
  have hst := plus_step (x := c + (a.getD i 0 + b.getD i 0)) hol hnv (by omega)
  have ha0 := a32.get i
  have hb0 := b32.get i
  refine XC.skip ?_
  refine nx (kq 2 (kq 3 (kq 4 (kq 5 (kq 10 kn))))) ?_
  refine XC.seq ?_
  refine XC.block ?_
  refine XC.reg ?_
  refine mv_ (as_ ?_)
  refine XL.fin (kq 2 (kq 3 (kq 4 (kq 5 (kq 6 (kq 10 kn)))))) ?_
  refine XC.drawF [0, 1, 2, 3, 4, 5, 6, 7, 8, 9, 10, 11] [(0, 0), (1, 0), (2, 0), (3, 1), (4, 0), (5, 0), (6, 0), (7, 1), (8, 0), (9, 0), (10, 0), (11, 0)] (by kernel_rfl) (by kernel_rfl) fun hs => ?_
  refine XF.q hs rfl qm_ rfl ?_
  refine XF.q hs rfl qm_ rfl ?_
  refine XF.q hs rfl (q_idxA (e := 22) (n := 8) (sz := 1) (i := i) rfl rfl (by kernel_rfl) (by kernel_rfl) rfl (by omega)) rfl ?_
  refine XF.r hs rfl (hpg ▸ q_ldN i rfl (by kernel_rfl) At.mem (by omega) (by omega)) rfl ?_
  refine XF.q hs rfl (q_convN (k' := .u64) (a.getD i 0) rfl (by kernel_rfl) (wrap64n (by omega))) rfl ?_
  refine XF.q hs rfl qm_ rfl ?_
  refine XF.q hs rfl (q_idxA (e := 22) (n := 8) (sz := 1) (i := i) rfl rfl (by kernel_rfl) (by kernel_rfl) rfl (by omega)) rfl ?_
  refine XF.r hs rfl (q_ldN (i) rfl (by kernel_rfl) At.mem (by omega) (by first | omega | (rw [b8]; omega))) rfl ?_
  refine XF.q hs rfl (q_convN (k' := .u64) (b.getD i 0) rfl (by kernel_rfl) (wrap64n (by omega))) rfl ?_
  refine XF.q hs rfl (q_addS 18446744073709551616 (a := a.getD i 0) (b := b.getD i 0) rfl rfl rfl rfl rfl rfl (by omega)) rfl ?_
  refine XF.q hs rfl (q_addS 18446744073709551616 (a := c) (b := a.getD i 0 + b.getD i 0) rfl rfl rfl rfl rfl rfl (by omega)) rfl ?_
  refine XF.q hs rfl (q_assign rfl) rfl ?_
  refine XF.fin (kq 2 (kq 3 (kq 4 (kq 5 (kq 6 (kq 10 kn)))))) ?_
  refine XC.reg ?_
  refine mv_ (mv_ ?_)
  refine XL.q (q_to32 rfl (by kernel_rfl)) rfl ?_
  refine XL.q (q_idxA (e := 22) (n := 8) (sz := 1) (i := i) rfl rfl (by kernel_rfl) (by kernel_rfl) rfl (by omega)) rfl ?_
  refine XL.lo rfl (l_stN i rfl rfl (by kernel_rfl) (by omega) (by omega) UpC.upd ?_)
  refine XL.fin (kq 2 (kq 3 (kq 4 (kq 5 (kq 10 kn))))) ?_
  refine XC.reg1 ?_
  refine mv_ ?_
  refine XL.q (q_shrD 32 4294967296 rfl rfl rfl rfl (by decide)) rfl ?_
  refine as_ ?_
  refine XL.nil ?_
  refine nb ?_
  refine nx (kq 2 (kq 3 (kq 4 (kq 5 (kq 10 kn))))) ?_
  refine XC.reg1 ?_
  refine XL.q (q_num ((i + 1 : Nat) : Int) rfl rfl (add64 (by omega) (by omega) (by omega))) rfl ?_
  refine mv_ ?_
  refine XL.nil ?_
  exact rn ⟨i + 1, o ++ [(c + (a.getD i 0 + b.getD i 0)) % 4294967296], (c + (a.getD i 0 + b.getD i 0)) / 4294967296⟩ ⟨by dsimp only; omega, by simp [hol], ho32.app (fun x hx => by rw [List.mem_singleton.1 hx]; exact Nat.mod_lt _ (by decide)), by dsimp only; omega, hst⟩ (by dsimp only; omega) (kq 2 (kq 3 (kq 4 (kq 5 (kq 10 kn))))) (Fit.eq (by rw [hps])) (fun _ h => h)
 ·
  have hge : i = 8 := by simp at hc; omega
  subst hge
  rw [List.take_of_length_le (by omega), List.take_of_length_le (by omega)] at hnv
  have hc0 := add_low hx hy (c := c) (by rw [Nat.mul_comm]; omega)
  subst hc0
  rw [Nat.mul_zero, Nat.add_zero] at hnv
  rw [List.drop_of_length_le (by omega), List.append_nil]
  refine XC.exit ?_
  refine te ?_
  refine re ?_
  refine be rfl ?_
  refine nx (kq 2 (kq 4 kn)) ?_
  refine XC.reg ?_
  refine XL.callV a0 (by kernel_rfl) (order_f _) rfl ?_
  refine XL.lo rfl (l_alloc (cs := [.int .u32 0, .int .u32 0, .int .u32 0, .int .u32 0, .int .u32 0, .int .u32 0, .int .u32 0, .int .u32 0]) (by kernel_rfl) rfl fun b7 => ?_)
  refine XL.lo rfl (l_storeW rfl rfl Cel.cel (by kernel_rfl) (lnS (lnS (lnS (lnS (lnS (lnS (lnS (lnS (ln0))))))))) (allS rfl (allS rfl (allS rfl (allS rfl (allS rfl (allS rfl (allS rfl (allS rfl (all0))))))))) UpC.upd ?_)
  refine XL.fin (kq 2 (kq 4 (kq 7 kn))) ?_
  refine XC.seq ?_
  refine XC.reg ?_
  refine XL.q (q_loadW (n := 8) (cs := nums .u32 o) rfl (by kernel_rfl) At.mem (by rw [nums_len]; omega)) rfl ?_
  refine XL.q (q_loadW (n := 8) (cs := nums .u32 ordW) rfl (by kernel_rfl) At.mem (by rfl)) rfl ?_
  refine XL.callV (aS rfl (aS rfl a0)) (by kernel_rfl) (less_f _ _ (nv o) lN ⟨o, rfl, hol, ho32, rfl⟩ ⟨ordW, rfl, rfl, ord_32, ord_nv⟩ _) rfl ?_
  refine XL.fin (kq 2 (kq 4 (kq 7 (kq 34 kn)))) ?_
  refine XC.cond rfl (fun hc => ?_) (fun hc => ?_)
  ·
   have hlt : nv o < lN := by simpa using hc
   refine XC.reg ?_
   refine XL.q (q_loadW (n := 8) (cs := nums .u32 o) rfl (by kernel_rfl) At.mem (by rw [nums_len]; omega)) rfl ?_
   refine XL.lo rfl (l_storeW (vs := nums .u32 o) rfl rfl rfl (by rw [nums_len, hol]; kernel_rfl) (by rw [nums_len, hol]; rfl) nums_one UpC.upd ?_)
   refine XL.fin (kq 4 kn) ?_
   refine XC.ret ?_
   refine tr ?_
   exact ⟨_, [], [], resC (n := 8) rfl rfl (by kernel_rfl) At.mem (by rw [nums_len]; omega), List.nil_sublist _, by simp, rfl, rfl, o, rfl, hol, ho32, by rw [hnv, Nat.mod_eq_of_lt (by omega)]⟩
  ·
   have hge : lN ≤ nv o := by simpa using hc
   refine XC.skip ?_
   refine nx (kq 2 (kq 4 (kq 7 kn))) ?_
   refine XC.reg ?_
   refine as_ ?_
   refine XL.fin (kq 2 (kq 4 (kq 5 (kq 7 kn)))) ?_
   refine XC.seq ?_
   refine XC.reg ?_
   refine mv_ ?_
   refine XL.fin (kq 2 (kq 4 (kq 5 (kq 7 (kq 36 kn))))) ?_
   refine XC.block ?_
   refine XC.loop (α := Nat × List Nat × Nat) (fun x => [(2, .pointer (some ⟨b2, 0, none⟩)), (4, .pointer (some ⟨b4, 0, none⟩)), (5, .int .u64 (x.2.2 : Int)), (7, .pointer (some ⟨b7, 0, none⟩)), (36, .int .i64 (x.1 : Int))]) (fun x => (b7, blk (nums .u32 ordW) 160) :: [(b4, blk [.int .u32 0, .int .u32 0, .int .u32 0, .int .u32 0, .int .u32 0, .int .u32 0, .int .u32 0, .int .u32 0] 160), (b3, blk (nums .u32 b) 160), (b2, blk (nums .u32 (x.2.1 ++ o.drop x.1)) 160)]) (fun _ => []) (fun x => x.1 ≤ 8 ∧ x.2.1.length = x.1 ∧ w32 x.2.1 ∧ x.2.2 ≤ 1 ∧ nv x.2.1 + nv (ordW.take x.1) = nv (o.take x.1) + xp x.1 * x.2.2) (fun x => 8 - x.1) ⟨0, [], 0⟩ ⟨Nat.zero_le _, rfl, (fun x hx => by cases hx), by decide, rfl⟩ (kq 2 (kq 4 (kq 5 (kq 7 (kq 36 kn))))) .rfl (fun _ h => h) ?_
   rintro ⟨i, q, c⟩ ⟨hi, hql, hq32, hc1, hnw⟩
   dsimp only at hi hql hq32 hc1 hnw ⊢
   refine XC.reg ?_
   refine XL.q (q_bin rfl rfl rfl) rfl ?_
   refine XL.fin (kq 2 (kq 4 (kq 5 (kq 7 (kq 36 (kq 37 kn)))))) ?_
   refine XC.seq ?_
   refine XC.cond rfl (fun hc => ?_) (fun hc => ?_)
   ·
    have hlt : i < 8 := by simp at hc; omega
    have hpl := part_len (o := q) (a := o) hql hol hi
    have hpg := part_get (a := o) hql
    have hps := fun x => part_set (x := x) hql (show i < o.length by omega)
    have ha0 := ho32.get i
    have hb0 := ord_32.get i
    have ho8 : ordW.length = 8 := rfl
    have hsb := sub_borrow (c := c) ha0 hb0 hc1 rfl rfl
    generalize hdd : (o.getD i 0 + (18446744073709551616 - ordW.getD i 0)) % 18446744073709551616 = dd at *
    generalize hee : (dd + (18446744073709551616 - c)) % 18446744073709551616 = ee at *
    have hst := less_next hql hnw hsb.1
    refine XC.skip ?_
    refine nx (kq 2 (kq 4 (kq 5 (kq 7 (kq 36 kn))))) ?_
    refine XC.seq ?_
    refine XC.block ?_
    refine XC.reg ?_
    refine mv_ (as_ ?_)
    refine XL.fin (kq 2 (kq 4 (kq 5 (kq 7 (kq 8 (kq 36 kn)))))) ?_
    refine XC.drawF [0, 1, 2, 3, 4, 5, 6, 7, 8, 9, 10, 11] [(0, 0), (1, 0), (2, 1), (3, 0), (4, 0), (5, 0), (6, 1), (7, 0), (8, 0), (9, 0), (10, 0), (11, 0)] (by kernel_rfl) (by kernel_rfl) fun hs => ?_
    refine XF.q hs rfl qm_ rfl ?_
    refine XF.q hs rfl (q_idxA (e := 22) (n := 8) (sz := 1) (i := i) rfl rfl (by kernel_rfl) (by kernel_rfl) rfl (by omega)) rfl ?_
    refine XF.r hs rfl (hpg ▸ q_ldN i rfl (by kernel_rfl) At.mem (by omega) (by omega)) rfl ?_
    refine XF.q hs rfl (q_convN (k' := .u64) (o.getD i 0) rfl (by kernel_rfl) (wrap64n (by omega))) rfl ?_
    refine XF.q hs rfl qm_ rfl ?_
    refine XF.q hs rfl (q_idxA (e := 22) (n := 8) (sz := 1) (i := i) rfl rfl (by kernel_rfl) (by kernel_rfl) rfl (by omega)) rfl ?_
    refine XF.r hs rfl (q_ldN i rfl (by kernel_rfl) At.mem (by omega) (by omega)) rfl ?_
    refine XF.q hs rfl (q_convN (k' := .u64) (ordW.getD i 0) rfl (by kernel_rfl) (wrap64n (by omega))) rfl ?_
    refine XF.q hs rfl (hdd ▸ q_subM 18446744073709551616 (a := o.getD i 0) (b := ordW.getD i 0) rfl rfl rfl rfl rfl rfl (by omega)) rfl ?_
    refine XF.q hs rfl qm_ rfl ?_
    refine XF.q hs rfl (hee ▸ q_subM 18446744073709551616 (a := dd) (b := c) rfl rfl rfl rfl rfl rfl (by omega)) rfl ?_
    refine XF.q hs rfl (q_assign rfl) rfl ?_
    refine XF.fin (kq 2 (kq 4 (kq 7 (kq 8 (kq 9 (kq 36 kn)))))) ?_
    refine XC.reg ?_
    refine mv_ (mv_ ?_)
    refine XL.q (q_to32 rfl (by kernel_rfl)) rfl ?_
    refine XL.q (q_idxA (e := 22) (n := 8) (sz := 1) (i := i) rfl rfl (by kernel_rfl) (by kernel_rfl) rfl (by omega)) rfl ?_
    refine XL.lo rfl (l_stN i rfl rfl (by kernel_rfl) (by omega) (by omega) UpC.upd ?_)
    refine XL.fin (kq 2 (kq 4 (kq 7 (kq 9 (kq 36 kn))))) ?_
    refine XC.reg1 ?_
    refine mv_ ?_
    refine XL.q (q_shrD 63 9223372036854775808 rfl rfl rfl rfl (by decide)) rfl ?_
    refine as_ ?_
    refine XL.nil ?_
    refine nb ?_
    refine nx (kq 2 (kq 4 (kq 5 (kq 7 (kq 36 kn))))) ?_
    refine XC.reg1 ?_
    refine XL.q (q_num ((i + 1 : Nat) : Int) rfl rfl (add64 (by omega) (by omega) (by omega))) rfl ?_
    refine mv_ ?_
    refine XL.nil ?_
    exact rn ⟨i + 1, q ++ [ee % 4294967296], ee / 9223372036854775808⟩ ⟨by dsimp only; omega, by simp [hql], hq32.app (fun x hx => by rw [List.mem_singleton.1 hx]; exact Nat.mod_lt _ (by decide)), hsb.2, hst⟩ (by dsimp only; omega) (kq 2 (kq 4 (kq 5 (kq 7 (kq 36 kn))))) (Fit.eq (by rw [hps])) (fun _ h => h)
   ·
    have hge8 : i = 8 := by simp at hc; omega
    subst hge8
    have hfin := less_end (o := q) (a := o) (b := ordW) (c := c) (by omega) hq32 ho32 (by rw [hol]; exact hnw) (by rw [ord_nv]; exact hge)
    rw [List.drop_of_length_le (by omega), List.append_nil]
    refine XC.exit ?_
    refine te ?_
    refine re ?_
    refine be rfl ?_
    refine nx (kq 2 (kq 4 kn)) ?_
    refine XC.reg ?_
    refine XL.q (q_loadW (n := 8) (cs := nums .u32 q) rfl (by kernel_rfl) At.mem (by rw [nums_len]; omega)) rfl ?_
    refine XL.lo rfl (l_storeW (vs := nums .u32 q) rfl rfl rfl (by rw [nums_len, hql]; kernel_rfl) (by rw [nums_len, hql]; rfl) nums_one UpC.upd ?_)
    refine XL.fin (kq 4 kn) ?_
    refine XC.ret ?_
    exact ⟨_, [], [], resC (n := 8) rfl rfl (by kernel_rfl) At.mem (by rw [nums_len]; omega), List.nil_sublist _, by simp, rfl, rfl, q, rfl, hql, hq32, by rw [hfin, hnv, ord_nv, Nat.mod_eq_sub_mod (by omega), Nat.mod_eq_of_lt (by omega)]⟩

end Go.Proofs.YtphcaiplgpmnnaaGreatDoor
/- The walks of package sign: times, number, bytes. -/
namespace Go.Proofs.YtphcaiplgpmnnaaGreatDoor
open Go.Px
/-- So many times a number, as told by the bits from i on. -/
def tmN (X Y i : Nat) : Nat := X / 2 ^ i * Y % lN
theorem tm_step (X Y i : Nat) : tmN X Y i = (if X / 2 ^ i % 2 = 1 then ((tmN X Y (i + 1) + tmN X Y (i + 1)) % lN + Y) % lN else (tmN X Y (i + 1) + tmN X Y (i + 1)) % lN) := by
  have h : X / 2 ^ i = 2 * (X / 2 ^ (i + 1)) + X / 2 ^ i % 2 := by
    rw [Nat.pow_succ, ← Nat.div_div_eq_div_mul]; omega
  unfold tmN
  generalize lN = L
  have hb : X / 2 ^ i % 2 = 0 ∨ X / 2 ^ i % 2 = 1 := by omega
  rcases hb with hb | hb
  · rw [if_neg (by omega)]
    conv => lhs; rw [h, hb, Nat.add_zero, Nat.two_mul, Nat.add_mul, Nat.add_mod]
  · rw [if_pos hb]
    conv => lhs; rw [h, hb, Nat.add_mul, Nat.one_mul, Nat.two_mul, Nat.add_mul]
    rw [← Nat.add_mod, Nat.mod_add_mod]
theorem w32_z : w32 [0, 0, 0, 0, 0, 0, 0, 0] := by unfold w32; decide
theorem w32_o : w32 [1, 0, 0, 0, 0, 0, 0, 0] := by unfold w32; decide
theorem tmN_lt (X Y i : Nat) : tmN X Y i < lN := Nat.mod_lt _ (by decide)
theorem nums_inj {k : IntKind} {a b : List Nat} (h : nums k a = nums k b) : a = b := by
  unfold nums at h
  induction a generalizing b with
  | nil => cases b with
    | nil => rfl
    | cons y b => simp at h
  | cons x a ih => cases b with
    | nil => simp at h
    | cons y b =>
      simp only [List.map_cons, List.cons.injEq, Value.int.injEq, true_and] at h
      rw [ih h.2, Int.ofNat.inj h.1]

theorem stimes_f (v u : Value) (x y0 : Nat) (hv : Sc v x) (hu : Sc u y0) (hy : y0 < lN) (A : Mem) : FnX Tryz.prog 124 [v, u] [] A fun r M J => M = [] ∧ J = [] ∧ Sc r (x * y0 % lN) := by
 obtain ⟨a, rfl, a8, a32, av⟩ := hv
 obtain ⟨b, rfl, b8, b32, bv_⟩ := hu
 refine FnX.enter (N := 27) Tryz.func124 rfl rfl rfl fun w => ?_
 refine XC.keep (kq 0 (kq 1 kn)) ?_
 refine XC.reg ?_
 refine XL.lo rfl (bx_ fun b2 => ?_)
 refine XL.lo rfl (bx_ fun b3 => ?_)
 refine XL.lo rfl (l_alloc (cs := [.int .u32 0, .int .u32 0, .int .u32 0, .int .u32 0, .int .u32 0, .int .u32 0, .int .u32 0, .int .u32 0]) (by kernel_rfl) rfl fun b4 => ?_)
 refine XL.fin (kq 2 (kq 3 (kq 4 kn))) ?_
 refine XC.reg ?_
 refine XL.lo rfl (l_alloc (cs := [.int .u32 0, .int .u32 0, .int .u32 0, .int .u32 0, .int .u32 0, .int .u32 0, .int .u32 0, .int .u32 0]) (by kernel_rfl) rfl fun b5 => ?_)
 refine XL.fin (kq 2 (kq 3 (kq 4 (kq 5 kn)))) ?_
 refine XC.seq ?_
 refine XC.reg ?_
 refine as_ ?_
 refine XL.fin (kq 2 (kq 3 (kq 4 (kq 5 (kq 6 kn))))) ?_
 refine XC.block ?_
 refine XC.fit (M' := [(b5, blk (nums .u32 [0, 0, 0, 0, 0, 0, 0, 0]) 160), (b4, blk [.int .u32 0, .int .u32 0, .int .u32 0, .int .u32 0, .int .u32 0, .int .u32 0, .int .u32 0, .int .u32 0] 160), (b3, blk (nums .u32 b) 160), (b2, blk (nums .u32 a) 160)]) (Fit.eq rfl) (fun _ h => h) ?_
 refine XC.loop (α := Nat × List Nat) (fun y => [(2, .pointer (some ⟨b2, 0, none⟩)), (3, .pointer (some ⟨b3, 0, none⟩)), (4, .pointer (some ⟨b4, 0, none⟩)), (5, .pointer (some ⟨b5, 0, none⟩)), (6, .int .i64 ((y.1 : Int) - 1))]) (fun y => [(b5, blk (nums .u32 y.2) 160), (b4, blk [.int .u32 0, .int .u32 0, .int .u32 0, .int .u32 0, .int .u32 0, .int .u32 0, .int .u32 0, .int .u32 0] 160), (b3, blk (nums .u32 b) 160), (b2, blk (nums .u32 a) 160)]) (fun _ => []) (fun y => y.1 ≤ 256 ∧ Sc (.agg (nums .u32 y.2).toArray) (tmN x y0 y.1)) (fun y => y.1) (256, [0, 0, 0, 0, 0, 0, 0, 0]) ⟨Nat.le_refl _, _, rfl, rfl, w32_z, by unfold tmN; rw [Nat.div_eq_of_lt (by have := nv_lt a32; rw [a8, xp8] at this; rw [← av]; exact this), Nat.zero_mul, Nat.zero_mod]; rfl⟩ (kq 2 (kq 3 (kq 4 (kq 5 (kq 6 kn))))) .rfl (fun _ h => h) ?_
 rintro ⟨j, o⟩ ⟨hj, ho⟩
 dsimp only at hj ho ⊢
 have ho0 := ho
 obtain ⟨o_, e_, o8, o32, ov⟩ := ho
 obtain rfl : o = o_ := nums_inj (by simpa using e_)
 refine XC.seq ?_
 refine XC.reg ?_
 refine mv_ ?_
 refine XL.q (q_bin rfl rfl rfl) rfl ?_
 refine XL.fin (kq 2 (kq 3 (kq 4 (kq 5 (kq 6 (kq 8 kn)))))) ?_
 refine XC.cond rfl (fun hc => ?_) (fun hc => ?_)
 ·
  have hj0 : 0 < j := by simp at hc; omega
  obtain ⟨i, rfl⟩ : ∃ i, j = i + 1 := ⟨j - 1, by omega⟩
  rw [show (((i + 1 : Nat) : Int) - 1) = (i : Int) by omega]
  have hts := tm_step x y0 i
  have hwb := word_bit a32 i
  rw [av] at hwb
  have htl := tmN_lt x y0 (i + 1)
  refine XC.skip ?_
  refine nx (kq 2 (kq 3 (kq 4 (kq 5 (kq 6 kn))))) ?_
  refine XC.seq ?_
  refine XC.block ?_
  refine XC.reg ?_
  refine XL.q (q_loadW (n := 8) (cs := nums .u32 o) rfl (by kernel_rfl) At.mem (by rw [nums_len]; omega)) rfl ?_
  refine XL.q (q_loadW (n := 8) (cs := nums .u32 o) rfl (by kernel_rfl) At.mem (by rw [nums_len]; omega)) rfl ?_
  refine XL.call (aS rfl (aS rfl a0)) (by kernel_rfl) (sadd_f _ _ _ _ ho0 ho0 htl htl _) rfl ?_
  rintro r1 M1 J1 ⟨rfl, rfl, k1⟩
  have h1 := k1
  obtain ⟨s, rfl, s8, s32, sv⟩ := k1
  refine XL.lo rfl (l_storeW (vs := nums .u32 s) rfl rfl rfl (by rw [nums_len, s8]; kernel_rfl) (by rw [nums_len, nums_len, o8, s8]) nums_one UpC.upd ?_)
  refine XL.fin (kq 2 (kq 3 (kq 4 (kq 5 (kq 6 kn))))) ?_
  refine XC.reg ?_
  refine mv_ ?_
  refine XL.q (q_quoD 32 rfl rfl rfl (by decide) (wrapI (by omega))) rfl ?_
  refine XL.q (q_idxA (e := 22) (n := 8) (sz := 1) (i := i / 32) rfl rfl (by kernel_rfl) (by kernel_rfl) rfl (by omega)) rfl ?_
  refine XL.q (q_ldN (i / 32) rfl (by kernel_rfl) At.mem (by omega) (by omega)) rfl ?_
  refine mv_ ?_
  refine XL.q (q_remD 32 rfl rfl rfl (by decide)) rfl ?_
  refine XL.q (q_shrI (a := a.getD (i / 32) 0) (b := i % 32) rfl rfl rfl rfl (by show _ ≤ 32; omega)) rfl ?_
  refine XL.q (hwb ▸ q_andD 1 2 rfl rfl rfl rfl rfl (by show _ < 4294967296; exact Nat.lt_of_le_of_lt (Nat.div_le_self _ _) (a32.get _)) (by decide)) rfl ?_
  refine XL.q (q_bin rfl rfl rfl) rfl ?_
  refine XL.fin (kq 2 (kq 3 (kq 4 (kq 5 (kq 6 (kq 22 kn)))))) ?_
  refine XC.cond rfl (fun hc => ?_) (fun hc => ?_)
  ·
   have hb1 : x / 2 ^ i % 2 = 1 := by revert hc; generalize x / 2 ^ i % 2 = z; intro hc; simp at hc; omega
   rw [if_pos hb1] at hts
   refine XC.reg1 ?_
   refine XL.q (q_loadW (n := 8) (cs := nums .u32 s) rfl (by kernel_rfl) At.mem (by rw [nums_len]; omega)) rfl ?_
   refine XL.q (q_loadW (n := 8) (cs := nums .u32 b) rfl (by kernel_rfl) At.mem (by rw [nums_len]; omega)) rfl ?_
   refine XL.call (aS rfl (aS rfl a0)) (by kernel_rfl) (sadd_f _ _ _ _ h1 ⟨b, rfl, b8, b32, bv_⟩ (Nat.mod_lt _ (by decide)) hy _) rfl ?_
   rintro r2 M2 J2 ⟨rfl, rfl, k2⟩
   rw [← hts] at k2
   have h2 := k2
   obtain ⟨t, rfl, t8, t32, tv⟩ := k2
   refine XL.lo rfl (l_storeW (vs := nums .u32 t) rfl rfl rfl (by rw [nums_len, t8]; kernel_rfl) (by rw [nums_len, nums_len, s8, t8]) nums_one UpC.upd ?_)
   refine XL.nil ?_
   refine nb ?_
   refine nx (kq 2 (kq 3 (kq 4 (kq 5 (kq 6 kn))))) ?_
   refine XC.reg1 ?_
   refine mv_ ?_
   refine XL.q (q_num ((i : Int) - 1) rfl rfl (sub64 rfl (by omega) (by omega))) rfl ?_
   refine as_ ?_
   refine XL.nil ?_
   exact rn (i, t) ⟨by dsimp only; omega, h2⟩ (by dsimp only; omega) (kq 2 (kq 3 (kq 4 (kq 5 (kq 6 kn))))) .rfl (fun _ h => h)
  ·
   have hb1 : ¬ x / 2 ^ i % 2 = 1 := by revert hc; generalize x / 2 ^ i % 2 = z; intro hc; simp at hc; omega
   rw [if_neg hb1] at hts
   refine XC.skip ?_
   refine nb ?_
   refine nx (kq 2 (kq 3 (kq 4 (kq 5 (kq 6 kn))))) ?_
   refine XC.reg1 ?_
   refine mv_ ?_
   refine XL.q (q_num ((i : Int) - 1) rfl rfl (sub64 rfl (by omega) (by omega))) rfl ?_
   refine as_ ?_
   refine XL.nil ?_
   exact rn (i, s) ⟨by dsimp only; omega, by dsimp only; rw [hts]; exact h1⟩ (by dsimp only; omega) (kq 2 (kq 3 (kq 4 (kq 5 (kq 6 kn))))) .rfl (fun _ h => h)
 ·
  have hj0 : j = 0 := by simp at hc; omega
  subst hj0
  refine XC.exit ?_
  refine te ?_
  refine re ?_
  refine be rfl ?_
  refine nx (kq 4 (kq 5 kn)) ?_
  refine XC.reg ?_
  refine XL.q (q_loadW (n := 8) (cs := nums .u32 o) rfl (by kernel_rfl) At.mem (by rw [nums_len]; omega)) rfl ?_
  refine XL.lo rfl (l_storeW (vs := nums .u32 o) rfl rfl rfl (by rw [nums_len, o8]; kernel_rfl) (by rw [nums_len, o8]; rfl) nums_one UpC.upd ?_)
  refine XL.fin (kq 4 kn) ?_
  refine XC.ret ?_
  exact ⟨_, [], [], resC (n := 8) rfl rfl (by kernel_rfl) At.mem (by rw [nums_len]; omega), List.nil_sublist _, by simp, rfl, rfl, by rw [show x * y0 % lN = tmN x y0 0 by unfold tmN; rw [Nat.pow_zero, Nat.div_one]]; exact ho0⟩

theorem snumber_f (pv : Value) (p : List Nat) (A : Mem) (hp : Rd A 1 pv p.length (nums .u8 p)) (hp256 : ∀ x ∈ p, x < 256) (hpl : p.length ≤ 1000000) : FnX Tryz.prog 114 [pv] [] A fun r M J => M = [] ∧ J = [] ∧ Sc r (bv p % lN) := by
 haveI := hp.cel
 refine FnX.enter (N := 30) Tryz.func114 rfl rfl rfl fun w => ?_
 refine XC.keep (kq 0 kn) ?_
 refine XC.reg ?_
 refine XL.lo rfl (l_alloc (cs := [.int .u32 0, .int .u32 0, .int .u32 0, .int .u32 0, .int .u32 0, .int .u32 0, .int .u32 0, .int .u32 0]) (by kernel_rfl) rfl fun b2 => ?_)
 refine XL.fin (kq 0 (kq 2 kn)) ?_
 refine XC.reg ?_
 refine XL.lo rfl (l_alloc (cs := [.int .u32 0, .int .u32 0, .int .u32 0, .int .u32 0, .int .u32 0, .int .u32 0, .int .u32 0, .int .u32 0]) (by kernel_rfl) rfl fun b3 => ?_)
 refine XL.fin (kq 0 (kq 2 (kq 3 kn))) ?_
 refine XC.seq ?_
 refine XC.reg ?_
 refine mv_ ?_
 refine XL.q (q_lenV2 (sz := 1) rfl (by kernel_rfl) hp) rfl ?_
 refine XL.q (q_num ((8 * p.length : Nat) : Int) rfl rfl (mul64 (by omega) (by omega) (by omega))) rfl ?_
 refine XL.q (q_num (((8 * p.length : Nat) : Int) - 1) rfl rfl (sub64 rfl (by omega) (by omega))) rfl ?_
 refine as_ ?_
 refine XL.fin (kq 0 (kq 2 (kq 3 (kq 4 kn)))) ?_
 refine XC.block ?_
 refine XC.fit (M' := [(b3, blk (nums .u32 [0, 0, 0, 0, 0, 0, 0, 0]) 160), (b2, blk [.int .u32 0, .int .u32 0, .int .u32 0, .int .u32 0, .int .u32 0, .int .u32 0, .int .u32 0, .int .u32 0] 160)]) (Fit.eq rfl) (fun _ h => h) ?_
 refine XC.loop (α := Nat × List Nat) (fun y => [(0, pv), (2, .pointer (some ⟨b2, 0, none⟩)), (3, .pointer (some ⟨b3, 0, none⟩)), (4, .int .i64 ((y.1 : Int) - 1))]) (fun y => [(b3, blk (nums .u32 y.2) 160), (b2, blk [.int .u32 0, .int .u32 0, .int .u32 0, .int .u32 0, .int .u32 0, .int .u32 0, .int .u32 0, .int .u32 0] 160)]) (fun _ => []) (fun y => y.1 ≤ 8 * p.length ∧ Sc (.agg (nums .u32 y.2).toArray) (tmN (bv p) 1 y.1)) (fun y => y.1) (8 * p.length, [0, 0, 0, 0, 0, 0, 0, 0]) ⟨Nat.le_refl _, _, rfl, rfl, w32_z, by unfold tmN; rw [Nat.div_eq_of_lt (by have := bv_lt hp256; rwa [show 256 ^ p.length = 2 ^ (8 * p.length) by rw [Nat.pow_mul]] at this), Nat.zero_mul, Nat.zero_mod]; rfl⟩ (kq 0 (kq 2 (kq 3 (kq 4 kn)))) .rfl (fun _ h => h) ?_
 rintro ⟨j, o⟩ ⟨hj, ho⟩
 dsimp only at hj ho ⊢
 have ho0 := ho
 obtain ⟨o_, e_, o8, o32, ov⟩ := ho
 obtain rfl : o = o_ := nums_inj (by simpa using e_)
 refine XC.seq ?_
 refine XC.reg ?_
 refine mv_ ?_
 refine XL.q (q_bin rfl rfl rfl) rfl ?_
 refine XL.fin (kq 0 (kq 2 (kq 3 (kq 4 (kq 10 kn))))) ?_
 refine XC.cond rfl (fun hc => ?_) (fun hc => ?_)
 ·
  have hj0 : 0 < j := by simp at hc; omega
  obtain ⟨i, rfl⟩ : ∃ i, j = i + 1 := ⟨j - 1, by omega⟩
  rw [show (((i + 1 : Nat) : Int) - 1) = (i : Int) by omega]
  have hts := tm_step (bv p) 1 i
  have hwb := bv_bit hp256 i
  have htl := tmN_lt (bv p) 1 (i + 1)
  have hpb : p.getD (i / 8) 0 < 256 := getD_lt hp256 (by decide)
  refine XC.skip ?_
  refine nx (kq 0 (kq 2 (kq 3 (kq 4 kn)))) ?_
  refine XC.seq ?_
  refine XC.block ?_
  refine XC.reg ?_
  refine XL.q (q_loadW (n := 8) (cs := nums .u32 o) rfl (by kernel_rfl) At.mem (by rw [nums_len]; omega)) rfl ?_
  refine XL.q (q_loadW (n := 8) (cs := nums .u32 o) rfl (by kernel_rfl) At.mem (by rw [nums_len]; omega)) rfl ?_
  refine XL.call (aS rfl (aS rfl a0)) (by kernel_rfl) (sadd_f _ _ _ _ ho0 ho0 htl htl _) rfl ?_
  rintro r1 M1 J1 ⟨rfl, rfl, k1⟩
  have h1 := k1
  obtain ⟨s, rfl, s8, s32, sv⟩ := k1
  refine XL.lo rfl (l_storeW (vs := nums .u32 s) rfl rfl rfl (by rw [nums_len, s8]; kernel_rfl) (by rw [nums_len, nums_len, o8, s8]) nums_one UpC.upd ?_)
  refine XL.fin (kq 0 (kq 2 (kq 3 (kq 4 kn)))) ?_
  refine XC.reg ?_
  refine mv_ (mv_ ?_)
  refine XL.q (q_quoD 8 rfl rfl rfl (by decide) (wrapI (by omega))) rfl ?_
  refine XL.q (q_atV2 (sz := 1) (a := i / 8) rfl rfl (by kernel_rfl) rfl hp (by omega)) rfl ?_
  refine XL.q (q_ldV (j := i / 8) (u := .int .u8 ((p.getD (i / 8) 0 : Nat) : Int)) (hp.mono SubC.sub) rfl (by kernel_rfl) (nums_get (by omega))) rfl ?_
  refine mv_ ?_
  refine XL.q (q_remD 8 rfl rfl rfl (by decide)) rfl ?_
  refine XL.q (q_shrI (a := p.getD (i / 8) 0) (b := i % 8) rfl rfl rfl rfl (by show _ ≤ 8; omega)) rfl ?_
  refine XL.q (hwb ▸ q_andD 1 2 rfl rfl rfl rfl rfl (by show _ < 256; exact Nat.lt_of_le_of_lt (Nat.div_le_self _ _) hpb) (by decide)) rfl ?_
  refine XL.q (q_bin rfl rfl rfl) rfl ?_
  refine XL.fin (kq 0 (kq 2 (kq 3 (kq 4 (kq 25 kn))))) ?_
  refine XC.cond rfl (fun hc => ?_) (fun hc => ?_)
  ·
   have hb1 : bv p / 2 ^ i % 2 = 1 := by revert hc; generalize bv p / 2 ^ i % 2 = z; intro hc; simp at hc; omega
   rw [if_pos hb1] at hts
   refine XC.reg1 ?_
   refine XL.q (q_loadW (n := 8) (cs := nums .u32 s) rfl (by kernel_rfl) At.mem (by rw [nums_len]; omega)) rfl ?_
   refine XL.q (q_build (place := fun i => some (i * 1, 1)) (z := [.int .u32 0, .int .u32 0, .int .u32 0, .int .u32 0, .int .u32 0, .int .u32 0, .int .u32 0, .int .u32 0]) (fun _ => by kernel_rfl) (eS rfl e0) (bdS 0 1 rfl (by rfl) bd0)) rfl ?_
   refine XL.call (aS rfl (aS rfl a0)) (by kernel_rfl) (sadd_f _ _ _ 1 h1 ⟨[1, 0, 0, 0, 0, 0, 0, 0], rfl, rfl, w32_o, by decide⟩ (Nat.mod_lt _ (by decide)) (by decide) _) rfl ?_
   rintro r2 M2 J2 ⟨rfl, rfl, k2⟩
   rw [← hts] at k2
   have h2 := k2
   obtain ⟨t, rfl, t8, t32, tv⟩ := k2
   refine XL.lo rfl (l_storeW (vs := nums .u32 t) rfl rfl rfl (by rw [nums_len, t8]; kernel_rfl) (by rw [nums_len, nums_len, s8, t8]) nums_one UpC.upd ?_)
   refine XL.nil ?_
   refine nb ?_
   refine nx (kq 0 (kq 2 (kq 3 (kq 4 kn)))) ?_
   refine XC.reg1 ?_
   refine mv_ ?_
   refine XL.q (q_num ((i : Int) - 1) rfl rfl (sub64 rfl (by omega) (by omega))) rfl ?_
   refine as_ ?_
   refine XL.nil ?_
   exact rn (i, t) ⟨by dsimp only; omega, h2⟩ (by dsimp only; omega) (kq 0 (kq 2 (kq 3 (kq 4 kn)))) .rfl (fun _ h => h)
  ·
   have hb1 : ¬ bv p / 2 ^ i % 2 = 1 := by revert hc; generalize bv p / 2 ^ i % 2 = z; intro hc; simp at hc; omega
   rw [if_neg hb1] at hts
   refine XC.skip ?_
   refine nb ?_
   refine nx (kq 0 (kq 2 (kq 3 (kq 4 kn)))) ?_
   refine XC.reg1 ?_
   refine mv_ ?_
   refine XL.q (q_num ((i : Int) - 1) rfl rfl (sub64 rfl (by omega) (by omega))) rfl ?_
   refine as_ ?_
   refine XL.nil ?_
   exact rn (i, s) ⟨by dsimp only; omega, by dsimp only; rw [hts]; exact h1⟩ (by dsimp only; omega) (kq 0 (kq 2 (kq 3 (kq 4 kn)))) .rfl (fun _ h => h)
 ·
  have hj0 : j = 0 := by simp at hc; omega
  subst hj0
  refine XC.exit ?_
  refine te ?_
  refine re ?_
  refine be rfl ?_
  refine nx (kq 2 (kq 3 kn)) ?_
  refine XC.reg ?_
  refine XL.q (q_loadW (n := 8) (cs := nums .u32 o) rfl (by kernel_rfl) At.mem (by rw [nums_len]; omega)) rfl ?_
  refine XL.lo rfl (l_storeW (vs := nums .u32 o) rfl rfl rfl (by rw [nums_len, o8]; kernel_rfl) (by rw [nums_len, o8]; rfl) nums_one UpC.upd ?_)
  refine XL.fin (kq 2 kn) ?_
  refine XC.ret ?_
  exact ⟨_, [], [], resC (n := 8) rfl rfl (by kernel_rfl) At.mem (by rw [nums_len]; omega), List.nil_sublist _, by simp, rfl, rfl, by rw [show bv p % lN = tmN (bv p) 1 0 by unfold tmN; rw [Nat.pow_zero, Nat.div_one, Nat.mul_one]]; exact ho0⟩

theorem sbytes_f (v : Value) (n : Nat) (hv : Sc v n) (A : Mem) : FnV Tryz.prog 111 [v] A (.agg (nums .u8 (digs n 32)).toArray) := by
 obtain ⟨a, rfl, a8, a32, av⟩ := hv
 refine FnX.enter (N := 21) Tryz.func111 rfl rfl rfl fun w => ?_
 refine XC.keep (kq 0 kn) ?_
 refine XC.reg ?_
 refine XL.lo rfl (bx_ fun b1 => ?_)
 refine XL.lo rfl (l_alloc (cs := [.int .u8 0, .int .u8 0, .int .u8 0, .int .u8 0, .int .u8 0, .int .u8 0, .int .u8 0, .int .u8 0, .int .u8 0, .int .u8 0, .int .u8 0, .int .u8 0, .int .u8 0, .int .u8 0, .int .u8 0, .int .u8 0, .int .u8 0, .int .u8 0, .int .u8 0, .int .u8 0, .int .u8 0, .int .u8 0, .int .u8 0, .int .u8 0, .int .u8 0, .int .u8 0, .int .u8 0, .int .u8 0, .int .u8 0, .int .u8 0, .int .u8 0, .int .u8 0]) (by kernel_rfl) rfl fun b2 => ?_)
 refine XL.fin (kq 1 (kq 2 kn)) ?_
 refine XC.reg ?_
 refine XL.lo rfl (l_alloc (cs := [.int .u8 0, .int .u8 0, .int .u8 0, .int .u8 0, .int .u8 0, .int .u8 0, .int .u8 0, .int .u8 0, .int .u8 0, .int .u8 0, .int .u8 0, .int .u8 0, .int .u8 0, .int .u8 0, .int .u8 0, .int .u8 0, .int .u8 0, .int .u8 0, .int .u8 0, .int .u8 0, .int .u8 0, .int .u8 0, .int .u8 0, .int .u8 0, .int .u8 0, .int .u8 0, .int .u8 0, .int .u8 0, .int .u8 0, .int .u8 0, .int .u8 0, .int .u8 0]) (by kernel_rfl) rfl fun b3 => ?_)
 refine XL.fin (kq 1 (kq 2 (kq 3 kn))) ?_
 refine XC.seq ?_
 refine XC.reg ?_
 refine mv_ ?_
 refine XL.fin (kq 1 (kq 2 (kq 3 (kq 5 kn)))) ?_
 refine XC.block ?_
 refine XC.fit (M' := [(b3, blk (nums .u8 (digs n 0 ++ (List.replicate 32 0).drop 0)) 157), (b2, blk [.int .u8 0, .int .u8 0, .int .u8 0, .int .u8 0, .int .u8 0, .int .u8 0, .int .u8 0, .int .u8 0, .int .u8 0, .int .u8 0, .int .u8 0, .int .u8 0, .int .u8 0, .int .u8 0, .int .u8 0, .int .u8 0, .int .u8 0, .int .u8 0, .int .u8 0, .int .u8 0, .int .u8 0, .int .u8 0, .int .u8 0, .int .u8 0, .int .u8 0, .int .u8 0, .int .u8 0, .int .u8 0, .int .u8 0, .int .u8 0, .int .u8 0, .int .u8 0] 157), (b1, blk (nums .u32 a) 160)]) (Fit.eq rfl) (fun _ h => h) ?_
 refine XC.loop (α := Nat) (fun i => [(1, .pointer (some ⟨b1, 0, none⟩)), (2, .pointer (some ⟨b2, 0, none⟩)), (3, .pointer (some ⟨b3, 0, none⟩)), (5, .int .i64 (i : Int))]) (fun i => [(b3, blk (nums .u8 (digs n i ++ (List.replicate 32 0).drop i)) 157), (b2, blk [.int .u8 0, .int .u8 0, .int .u8 0, .int .u8 0, .int .u8 0, .int .u8 0, .int .u8 0, .int .u8 0, .int .u8 0, .int .u8 0, .int .u8 0, .int .u8 0, .int .u8 0, .int .u8 0, .int .u8 0, .int .u8 0, .int .u8 0, .int .u8 0, .int .u8 0, .int .u8 0, .int .u8 0, .int .u8 0, .int .u8 0, .int .u8 0, .int .u8 0, .int .u8 0, .int .u8 0, .int .u8 0, .int .u8 0, .int .u8 0, .int .u8 0, .int .u8 0] 157), (b1, blk (nums .u32 a) 160)]) (fun _ => []) (fun i => i ≤ 32) (fun i => 32 - i) 0 (Nat.zero_le _) (kq 1 (kq 2 (kq 3 (kq 5 kn)))) .rfl (fun _ h => h) ?_
 rintro i hi
 have hdl := digs_len n i
 have hpl : (digs n i ++ (List.replicate 32 0).drop i).length = 32 := part_len hdl (by simp) hi
 refine XC.reg ?_
 refine XL.q (q_bin rfl rfl rfl) rfl ?_
 refine XL.fin (kq 1 (kq 2 (kq 3 (kq 5 (kq 6 kn))))) ?_
 refine XC.seq ?_
 refine XC.cond rfl (fun hc => ?_) (fun hc => ?_)
 ·
  have hlt : i < 32 := by simp at hc; omega
  have hwb := word_byte a32 i
  rw [av] at hwb
  refine XC.skip ?_
  refine nx (kq 1 (kq 2 (kq 3 (kq 5 kn)))) ?_
  refine XC.seq ?_
  refine XC.block ?_
  refine XC.reg ?_
  refine mv_ (as_ ?_)
  refine XL.fin (kq 1 (kq 2 (kq 3 (kq 4 (kq 5 kn))))) ?_
  refine XC.reg1 ?_
  refine mv_ (mv_ ?_)
  refine XL.q (q_quoD 4 rfl rfl rfl (by decide) (wrapI (by omega))) rfl ?_
  refine XL.q (q_idxA (e := 22) (n := 8) (sz := 1) (i := i / 4) rfl rfl (by kernel_rfl) (by kernel_rfl) rfl (by omega)) rfl ?_
  refine XL.q (q_ldN (i / 4) rfl (by kernel_rfl) At.mem (by omega) (by omega)) rfl ?_
  refine mv_ ?_
  refine XL.q (q_remD 4 rfl rfl rfl (by decide)) rfl ?_
  refine XL.q (q_num ((8 * (i % 4) : Nat) : Int) rfl rfl (mul64 (by omega) (by omega) (by omega))) rfl ?_
  refine XL.q (q_shrI (a := a.getD (i / 4) 0) (b := 8 * (i % 4)) rfl rfl rfl rfl (by show _ ≤ 32; omega)) rfl ?_
  refine XL.q (hwb ▸ q_to8 rfl (by kernel_rfl)) rfl ?_
  refine XL.q (q_idxA (e := 5) (n := 32) (sz := 1) (i := i) rfl rfl (by kernel_rfl) (by kernel_rfl) rfl (by omega)) rfl ?_
  refine XL.lo rfl (l_stN i rfl rfl (by kernel_rfl) (by omega) (by omega) UpC.upd ?_)
  refine XL.nil ?_
  refine nb ?_
  refine nx (kq 1 (kq 2 (kq 3 (kq 5 kn)))) ?_
  refine XC.reg1 ?_
  refine XL.q (q_num ((i + 1 : Nat) : Int) rfl rfl (add64 (by omega) (by omega) (by omega))) rfl ?_
  refine mv_ ?_
  refine XL.nil ?_
  exact rn (i + 1) (by omega) (by omega) (kq 1 (kq 2 (kq 3 (kq 5 kn)))) (Fit.eq (by rw [part_set hdl (by simpa using hlt), digs_succ])) (fun _ h => h)
 ·
  have hge : i = 32 := by simp at hc; omega
  subst hge
  rw [show (List.replicate 32 0).drop 32 = ([] : List Nat) from rfl, List.append_nil] at *
  refine XC.exit ?_
  refine te ?_
  refine re ?_
  refine be rfl ?_
  refine nx (kq 2 (kq 3 kn)) ?_
  refine XC.reg ?_
  refine XL.q (q_loadW (n := 32) (cs := nums .u8 (digs n 32)) rfl (by kernel_rfl) At.mem (by rw [nums_len]; omega)) rfl ?_
  refine XL.lo rfl (l_storeW (vs := nums .u8 (digs n 32)) rfl rfl rfl (by rw [nums_len, digs_len]; kernel_rfl) (by rw [nums_len, digs_len]; rfl) nums_one UpC.upd ?_)
  refine XL.fin (kq 2 kn) ?_
  refine XC.ret ?_
  exact ⟨_, [], [], resC (n := 32) rfl rfl (by kernel_rfl) At.mem (by rw [nums_len, digs_len]), List.nil_sublist _, by simp, rfl, rfl, rfl⟩

end Go.Proofs.YtphcaiplgpmnnaaGreatDoor
/-
  The twisted curve -x^2 + y^2 = 1 + d x^2 y^2 over numbers modulo n: sums of points. No program in sight.
-/
set_option maxRecDepth 10000
namespace Go.Ed
variable {n : Nat} [NeZero n]
/-- What is known of the numbers modulo n, and of d: a prime's field, in which -1 is a square and d isn't. -/
structure Fld (n : Nat) [NeZero n] (d : Fin n) where
  inv : Fin n → Fin n
  ii : Fin n
  mul0 : ∀ a b : Fin n, a * b = 0 → a = 0 ∨ b = 0
  one : (1 : Fin n) ≠ 0
  two : (2 : Fin n) ≠ 0
  hinv : ∀ a : Fin n, a ≠ 0 → a * inv a = 1
  hii : ii * ii = -1
  hd : ∀ s t : Fin n, s * s = d * (t * t) → t = 0
variable {d : Fin n} (F : Fld n d)
structure On (d : Fin n) (P : Fin n × Fin n) : Prop where
  eq : P.2*P.2 - P.1*P.1 = 1 + d*P.1*P.1*P.2*P.2
include F
theorem Fld.cancel {a b c : Fin n} (ha : a ≠ 0) (h : a * b = a * c) : b = c := by
  have : a * (b - c) = 0 := by grind
  rcases F.mul0 _ _ this with h1 | h1
  · exact absurd h1 ha
  · grind
theorem Fld.mul_ne {a b : Fin n} (ha : a ≠ 0) (hb : b ≠ 0) : a * b ≠ 0 := fun h => (F.mul0 _ _ h).elim ha hb
/-- The denominators of a sum aren't 0. -/
theorem Fld.complete {P Q : Fin n × Fin n} (hP : On d P) (hQ : On d Q) : 1 + d*P.1*Q.1*P.2*Q.2 ≠ 0 ∧ 1 - d*P.1*Q.1*P.2*Q.2 ≠ 0 := by
  obtain ⟨x1, y1⟩ := P
  obtain ⟨x2, y2⟩ := Q
  have h1 := hP.eq
  have h2 := hQ.eq
  dsimp only at h1 h2 ⊢
  have hii := F.hii
  have hd := F.hd
  have key : ∀ e : Fin n, d*x1*x2*y1*y2 = e → e * e = 1 → False := by
    intro e he hee
    have he0 : e ≠ 0 := fun h => F.one (by rw [h] at hee; grind)
    generalize F.ii = i at *
    have q1 : (i*x1 + e*y1) * (i*x1 + e*y1) = d * ((x1*y1*(i*x2+y2)) * (x1*y1*(i*x2+y2))) := by
      have a1 : x2*x2 = y2*y2 - 1 - d*x2*x2*y2*y2 := by grind
      have a2 : y1*y1 - x1*x1 = 1 + d*x1*x1*y1*y1 := h1
      have a3 : (d*x1*x2*y1*y2) * (d*x1*x2*y1*y2) = 1 := by rw [he]; exact hee
      grind
    have q2 : (i*x1 - e*y1) * (i*x1 - e*y1) = d * ((x1*y1*(i*x2-y2)) * (x1*y1*(i*x2-y2))) := by
      have a3 : (d*x1*x2*y1*y2) * (d*x1*x2*y1*y2) = 1 := by rw [he]; exact hee
      grind
    have z1 := hd _ _ q1
    have z2 := hd _ _ q2
    have hx1 : x1 ≠ 0 := fun h => he0 (by rw [← he, h]; grind)
    have hy1 : y1 ≠ 0 := fun h => he0 (by rw [← he, h]; grind)
    have hx2 : x2 ≠ 0 := fun h => he0 (by rw [← he, h]; grind)
    have hxy := F.mul_ne hx1 hy1
    have w1 : i*x2+y2 = 0 := (F.mul0 _ _ z1).resolve_left hxy
    have w2 : i*x2-y2 = 0 := (F.mul0 _ _ z2).resolve_left hxy
    have w3 : 2 * (i * x2) = 0 := by grind
    have w4 : i * x2 = 0 := (F.mul0 _ _ w3).resolve_left F.two
    have w5 : i = 0 := (F.mul0 _ _ w4).resolve_right hx2
    rw [w5] at hii
    exact F.one (by grind)
  refine ⟨fun h => key (-1) (by grind) (by grind), fun h => key 1 (by grind) (by grind)⟩

def Fld.add (P Q : Fin n × Fin n) : Fin n × Fin n :=
  ((P.1*Q.2 + Q.1*P.2) * F.inv (1 + d*P.1*Q.1*P.2*Q.2), (P.2*Q.2 + P.1*Q.1) * F.inv (1 - d*P.1*Q.1*P.2*Q.2))
theorem Fld.add_spec {P Q : Fin n × Fin n} (hP : On d P) (hQ : On d Q) : (F.add P Q).1 * (1 + d*P.1*Q.1*P.2*Q.2) = P.1*Q.2 + Q.1*P.2 ∧ (F.add P Q).2 * (1 - d*P.1*Q.1*P.2*Q.2) = P.2*Q.2 + P.1*Q.1 := by
  obtain ⟨h1, h2⟩ := F.complete hP hQ
  have i1 := F.hinv _ h1
  have i2 := F.hinv _ h2
  unfold Fld.add
  dsimp only
  generalize F.inv (1 + d*P.1*Q.1*P.2*Q.2) = a at *
  generalize F.inv (1 - d*P.1*Q.1*P.2*Q.2) = b at *
  generalize P.1*Q.2 + Q.1*P.2 = u
  generalize P.2*Q.2 + P.1*Q.1 = v
  generalize 1 + d*P.1*Q.1*P.2*Q.2 = w at *
  generalize 1 - d*P.1*Q.1*P.2*Q.2 = z at *
  exact ⟨by grind, by grind⟩
theorem Fld.add_comm (P Q : Fin n × Fin n) : F.add P Q = F.add Q P := by
  unfold Fld.add
  have e1 : d*P.1*Q.1*P.2*Q.2 = d*Q.1*P.1*Q.2*P.2 := by grind
  have e2 : P.1*Q.2 + Q.1*P.2 = Q.1*P.2 + P.1*Q.2 := by grind
  have e3 : P.2*Q.2 + P.1*Q.1 = Q.2*P.2 + Q.1*P.1 := by grind
  rw [e1, e2, e3]
def Fld.nsm (k : Nat) (P : Fin n × Fin n) : Fin n × Fin n := Nat.rec ((0 : Fin n), (1 : Fin n)) (fun _ Q => F.add Q P) k
/-- A point told by four numbers: both coordinates and their product, over a third one. -/
structure Rep (X Y Z T : Fin n) (P : Fin n × Fin n) : Prop where
  z : Z ≠ 0
  x : X = P.1 * Z
  y : Y = P.2 * Z
  t : T = P.1 * P.2 * Z
theorem Fld.rep_add {X1 Y1 Z1 T1 X2 Y2 Z2 T2 : Fin n} {P Q : Fin n × Fin n} (hP : On d P) (hQ : On d Q) (h1 : Rep X1 Y1 Z1 T1 P) (h2 : Rep X2 Y2 Z2 T2 Q) {a b c z e f g h : Fin n}
    (ha : a = (Y1 - X1) * (Y2 - X2)) (hb : b = (Y1 + X1) * (Y2 + X2)) (hc : c = T1 * (2 * d) * T2) (hz : z = Z1 * Z2 + Z1 * Z2) (he : e = b - a) (hf : f = z - c) (hg : g = z + c) (hh : h = b + a) :
    Rep (e * f) (g * h) (f * g) (e * h) (F.add P Q) := by
  obtain ⟨c1, c2⟩ := F.complete hP hQ
  obtain ⟨s1, s2⟩ := F.add_spec hP hQ
  obtain ⟨z1, rfl, rfl, rfl⟩ := h1
  obtain ⟨z2, rfl, rfl, rfl⟩ := h2
  generalize F.add P Q = R at *
  obtain ⟨x1, y1⟩ := P
  obtain ⟨x2, y2⟩ := Q
  obtain ⟨u, v⟩ := R
  dsimp only at *
  have hzz := F.mul_ne z1 z2
  have e1 : e = 2 * (Z1 * Z2) * (u * (1 + d*x1*x2*y1*y2)) := by rw [s1, he, hb, ha]; grind
  have e2 : h = 2 * (Z1 * Z2) * (v * (1 - d*x1*x2*y1*y2)) := by rw [s2, hh, hb, ha]; grind
  have e3 : f = 2 * (Z1 * Z2) * (1 - d*x1*x2*y1*y2) := by rw [hf, hz, hc]; grind
  have e4 : g = 2 * (Z1 * Z2) * (1 + d*x1*x2*y1*y2) := by rw [hg, hz, hc]; grind
  clear he hf hg hh ha hb hc hz s1 s2
  generalize 1 + d*x1*x2*y1*y2 = H at *
  generalize 1 - d*x1*x2*y1*y2 = G at *
  subst e1 e2 e3 e4
  exact ⟨F.mul_ne (F.mul_ne (F.mul_ne F.two hzz) c2) (F.mul_ne (F.mul_ne F.two hzz) c1), by grind, by grind, by grind⟩
/-- Two that are told are one just if they are told the same, over either's third number. -/
theorem Fld.rep_same {X1 Y1 Z1 T1 X2 Y2 Z2 T2 : Fin n} {P Q : Fin n × Fin n} (h1 : Rep X1 Y1 Z1 T1 P) (h2 : Rep X2 Y2 Z2 T2 Q) : (X1 * Z2 = X2 * Z1 ∧ Y1 * Z2 = Y2 * Z1) ↔ P = Q := by
  obtain ⟨z1, rfl, rfl, -⟩ := h1
  obtain ⟨z2, rfl, rfl, -⟩ := h2
  constructor
  · rintro ⟨a, b⟩
    refine Prod.ext (F.cancel (F.mul_ne z1 z2) (by grind)) (F.cancel (F.mul_ne z1 z2) (by grind))
  · rintro rfl
    exact ⟨by grind, by grind⟩
end Go.Ed

/- Plain laws of the curve: what the points that package curve computes are. No program in sight. -/
namespace Go.Proofs.YtphcaiplgpmnnaaGreatDoor
open Go.Px Go.Ed
instance : NeZero p25 := ⟨by decide⟩
theorem p25_pos : 0 < p25 := by decide
/-- A number, modulo p. -/
def fF (x : Nat) : Fin p25 := ⟨x % p25, Nat.mod_lt _ p25_pos⟩
theorem fF_val (x : Nat) : (fF x).val = x % p25 := rfl
theorem fF_A (x y : Nat) : fF (fA x y) = fF x + fF y := by
  apply Fin.ext
  rw [Fin.val_add, fF_val, fF_val, fF_val]
  unfold fA
  rw [Nat.mod_mod, Nat.add_mod]
theorem fF_M (x y : Nat) : fF (fM x y) = fF x * fF y := by
  apply Fin.ext
  rw [Fin.val_mul, fF_val, fF_val, fF_val]
  unfold fM
  rw [Nat.mod_mod, Nat.mul_mod]
theorem fF_S {x y : Nat} (hy : y < p25) : fF (fS x y) = fF x - fF y := by
  apply Fin.ext
  rw [Fin.sub_def, fF_val]
  show fS x y % p25 = (p25 - y % p25 + x % p25) % p25
  unfold fS
  rw [Nat.mod_mod, Nat.mod_eq_of_lt hy, Nat.add_mod_mod]
  congr 1; omega
theorem fF_inj {x y : Nat} (hx : x < p25) (hy : y < p25) (h : fF x = fF y) : x = y := by
  have := congrArg Fin.val h
  rwa [fF_val, fF_val, Nat.mod_eq_of_lt hx, Nat.mod_eq_of_lt hy] at this
theorem fF_zero {x : Nat} : fF x = 0 ↔ x % p25 = 0 := by
  constructor
  · intro h; exact congrArg Fin.val h
  · intro h; exact Fin.ext h
theorem fM_lt (x y : Nat) : fM x y < p25 := Nat.mod_lt _ p25_pos
theorem fI_mul {x : Nat} (h : x % p25 ≠ 0) : fM x (fI x) = 1 := by
  have h1 := fermat1 pr25 (a := x) (fun hd => h (Nat.mod_eq_zero_of_dvd hd))
  rw [fI_eq]
  unfold fM rtp
  rw [Nat.mul_mod, Nat.mod_mod, ← Nat.mul_mod, ← Nat.pow_succ']
  exact h1
theorem fF_I {x : Nat} (h : fF x ≠ 0) : fF x * fF (fI x) = 1 := by
  rw [← fF_M, fI_mul (fun h0 => h (fF_zero.2 h0))]
  rfl
/-! ### For the kernel: powers -/

def dLit : Nat := 37095705934669439343138083508754565189542113879843219016388785533085940283555
def iLit : Nat := 19681161376707505956807079304988542015446066515923890162744021073123829784752
theorem dN_val : dN = dLit := rfl
theorem d_half : dLit ^ ((p25 - 1) / 2) % p25 = p25 - 1 := by
  rw [pm_pow (by decide) 256 _ _ (by decide)]
  decide +kernel
theorem mul0F (a b : Fin p25) (h : a * b = 0) : a = 0 ∨ b = 0 := by
  have h1 := congrArg Fin.val h
  rw [Fin.val_mul] at h1
  have h2 : p25 ∣ a.val * b.val := Nat.dvd_of_mod_eq_zero h1
  rcases pr25.mul h2 with h3 | h3
  · exact .inl (Fin.ext (Nat.eq_zero_of_dvd_of_lt h3 a.isLt))
  · exact .inr (Fin.ext (Nat.eq_zero_of_dvd_of_lt h3 b.isLt))
theorem fF_of (a : Fin p25) : fF a.val = a := Fin.ext (Nat.mod_eq_of_lt a.isLt)
/-- d has no root. -/
theorem d_non (s t : Fin p25) (h : s * s = fF dN * (t * t)) : t = 0 := by
  rw [dN_val] at h
  apply Decidable.byContradiction
  intro ht
  have h1 := congrArg Fin.val h
  rw [Fin.val_mul, Fin.val_mul, Fin.val_mul, fF_val, Nat.mod_eq_of_lt (show dLit < p25 by decide)] at h1
  rw [Nat.mul_mod_mod] at h1
  have ht' : ¬ p25 ∣ t.val := fun hd => ht (Fin.ext (Nat.eq_zero_of_dvd_of_lt hd t.isLt))
  have e2 : (p25 - 1) / 2 * 2 = p25 - 1 := by decide
  have key : ∀ m : Nat, (s.val * s.val) ^ m % p25 = (dLit * (t.val * t.val)) ^ m % p25 := fun m => by
    rw [Nat.pow_mod, h1, ← Nat.pow_mod]
  have k1 := key ((p25 - 1) / 2)
  generalize hm : (p25 - 1) / 2 = m at *
  have hd := d_half
  rw [hm] at hd
  have hft := fermat1 pr25 ht'
  have q1 : ∀ x : Nat, (x * x) ^ m = x ^ (p25 - 1) := fun x => by rw [← Nat.pow_two, ← Nat.pow_mul, Nat.mul_comm 2 m, e2]
  rw [q1, Nat.mul_pow, q1, Nat.mul_mod, hd, hft, Nat.mul_one] at k1
  by_cases hs : p25 ∣ s.val
  · have : s.val = 0 := Nat.eq_zero_of_dvd_of_lt hs s.isLt
    rw [this] at h1
    have hz : p25 ∣ dLit * (t.val * t.val) := Nat.dvd_of_mod_eq_zero (by rw [← h1]; rfl)
    rcases pr25.mul hz with h3 | h3
    · exact absurd h3 (by decide)
    · rcases pr25.mul h3 with h4 | h4 <;> exact ht' h4
  · rw [fermat1 pr25 hs] at k1
    exact absurd k1 (by decide)
/-- The field of the curve. -/
noncomputable def FF : Fld p25 (fF dN) where
  inv a := fF (fI a.val)
  ii := fF iLit
  mul0 := mul0F
  one := by decide
  two := by decide
  hinv a ha := by
    have h := fF_I (x := a.val) (by rw [fF_of]; exact ha)
    rwa [fF_of] at h
  hii := by decide +kernel
  hd := d_non
/-- Four numbers that tell a point. -/
structure PR (P : Pt) (Q : Fin p25 × Fin p25) : Prop where
  rep : Rep (fF P.X) (fF P.Y) (fF P.Z) (fF P.T) Q
  x : P.X < p25
  y : P.Y < p25
  z : P.Z < p25
  t : P.T < p25
theorem d2_val : fF d2N = 2 * fF dN := by rw [← d2_eq, fF_M]; rfl
theorem PR.add {P1 P2 : Pt} {Q1 Q2 : Fin p25 × Fin p25} (h1 : PR P1 Q1) (h2 : PR P2 Q2) (o1 : On (fF dN) Q1) (o2 : On (fF dN) Q2) : PR (pAdd d2N P1 P2) (FF.add Q1 Q2) := by
  refine ⟨?_, fM_lt _ _, fM_lt _ _, fM_lt _ _, fM_lt _ _⟩
  unfold pAdd
  dsimp only
  rw [fF_M, fF_M, fF_M, fF_M]
  exact FF.rep_add o1 o2 h1.rep h2.rep (a := fF (fM (fS P1.Y P1.X) (fS P2.Y P2.X))) (b := fF (fM (fA P1.Y P1.X) (fA P2.Y P2.X))) (c := fF (fM (fM P1.T d2N) P2.T)) (z := fF (fA (fM P1.Z P2.Z) (fM P1.Z P2.Z)))
    (by rw [fF_M, fF_S h1.x, fF_S h2.x]) (by rw [fF_M, fF_A, fF_A]) (by rw [fF_M, fF_M, d2_val]) (by rw [fF_A, fF_M])
    (by rw [fF_S (fM_lt _ _)]) (by rw [fF_S (fM_lt _ _)]) (by rw [fF_A]) (by rw [fF_A])
end Go.Proofs.YtphcaiplgpmnnaaGreatDoor
/- The plain law of roots: which numbers have one. -/
namespace Go.Proofs.YtphcaiplgpmnnaaGreatDoor
open Go.Px
end Go.Proofs.YtphcaiplgpmnnaaGreatDoor
/- Plain laws of the curve: a point's bytes, and back. -/
namespace Go.Proofs.YtphcaiplgpmnnaaGreatDoor
open Go.Px Go.Ed
/-- A point's bytes, by its two numbers. -/
def encN (x y : Nat) : List Nat := if x % 2 = 1 then (prts 8 32 y 255).set 31 ((prts 8 32 y 255).getD 31 0 ||| 128) else prts 8 32 y 255
theorem pB_enc (P : Pt) : pB P = encN (fM P.X (fI P.Z)) (fM P.Y (fI P.Z)) := rfl
/-- Bytes as a point. -/
noncomputable def pRead (b : List Nat) : Option Pt := if b.length = 32 then (match atN (rdN b) (decide (128 ≤ b.getD 31 0)) with
  | some x => if pB (pAt x (rdN b)) = b then some (pAt x (rdN b)) else none
  | none => none) else none
theorem PR.at {Q : Fin p25 × Fin p25} : PR (pAt Q.1.val Q.2.val) Q := by
  refine ⟨⟨?_, ?_, ?_, ?_⟩, Q.1.isLt, Q.2.isLt, show 1 < p25 by decide, fM_lt _ _⟩
  · exact FF.one
  · show fF Q.1.val = Q.1 * fF 1
    rw [fF_of, show fF 1 = 1 from rfl]; grind
  · show fF Q.2.val = Q.2 * fF 1
    rw [fF_of, show fF 1 = 1 from rfl]; grind
  · show fF (fM Q.1.val Q.2.val) = Q.1 * Q.2 * fF 1
    rw [fF_M, fF_of, fF_of, show fF 1 = 1 from rfl]; grind
theorem PR.aff {P : Pt} {Q : Fin p25 × Fin p25} (h : PR P Q) : fM P.X (fI P.Z) = Q.1.val ∧ fM P.Y (fI P.Z) = Q.2.val := by
  have hi := fF_I h.rep.z
  have hx := h.rep.x
  have hy := h.rep.y
  constructor
  · apply fF_inj (fM_lt _ _) Q.1.isLt
    rw [fF_M, fF_of, hx]; grind
  · apply fF_inj (fM_lt _ _) Q.2.isLt
    rw [fF_M, fF_of, hy]; grind
theorem PR.bytes {P : Pt} {Q : Fin p25 × Fin p25} (h : PR P Q) : pB P = encN Q.1.val Q.2.val := by rw [pB_enc, h.aff.1, h.aff.2]
/-- Are two points one? -/
def pSame (P Q : Pt) : Bool := decide (fM P.X Q.Z = fM Q.X P.Z) && decide (fM P.Y Q.Z = fM Q.Y P.Z)
theorem PR.same {P P' : Pt} {Q : Fin p25 × Fin p25} (h : PR P Q) (h' : PR P' Q) : pSame P P' = true := by
  have hr := (FF.rep_same h.rep h'.rep).2 rfl
  unfold pSame
  rw [decide_eq_true (fF_inj (fM_lt _ _) (fM_lt _ _) (by rw [fF_M, fF_M, hr.1])), decide_eq_true (fF_inj (fM_lt _ _) (fM_lt _ _) (by rw [fF_M, fF_M, hr.2]))]
  rfl

end Go.Proofs.YtphcaiplgpmnnaaGreatDoor
/-
  SHA-256 in a form that the kernel computes fast: numbers are forced, the operations are Nat's own. Equal to sha256.
-/
namespace Go.Px
/-- The number is computed ahead of what goes on with it. -/
noncomputable def force {α : Type} (x : Nat) (f : Nat → α) : α := Nat.rec (motive := fun _ => α) (f 0) (fun n _ => f (Nat.succ n)) x
def rotF (x n m : Nat) : Nat := Nat.lor (Nat.shiftRight x n) (Nat.mod (Nat.shiftLeft x m) 4294967296)
def rF : List Nat → List Nat → S8 → S8
  | k :: ks, w :: ws, s => rF ks ws (s.step k w)
  | _, _, s => s
/-- The sum that both ends of a round take. -/
def t1F (e f g h k w : Nat) : Nat :=
  Nat.mod (Nat.add (Nat.mod (Nat.add (Nat.mod (Nat.add (Nat.mod (Nat.add h (Nat.xor (Nat.xor (rotF e 6 26) (rotF e 11 21)) (rotF e 25 7))) 4294967296) (Nat.xor (Nat.land e f) (Nat.land (Nat.xor 4294967295 e) g))) 4294967296) k) 4294967296) w) 4294967296
def aF (t a b c : Nat) : Nat :=
  Nat.mod (Nat.add (Nat.mod (Nat.add t (Nat.xor (Nat.xor (rotF a 2 30) (rotF a 13 19)) (rotF a 22 10))) 4294967296) (Nat.xor (Nat.xor (Nat.land a b) (Nat.land a c)) (Nat.land b c))) 4294967296
noncomputable def rFF (ks : List Nat) : List Nat → Nat → Nat → Nat → Nat → Nat → Nat → Nat → Nat → S8 :=
  List.rec (motive := fun _ => List Nat → Nat → Nat → Nat → Nat → Nat → Nat → Nat → Nat → S8) (fun _ a b c d e f g h => ⟨a, b, c, d, e, f, g, h⟩)
    (fun k _ ih ws => List.rec (motive := fun _ => Nat → Nat → Nat → Nat → Nat → Nat → Nat → Nat → S8) (fun a b c d e f g h => ⟨a, b, c, d, e, f, g, h⟩)
      (fun w ws _ a b c d e f g h => force (t1F e f g h k w) fun t => force (aF t a b c) fun a' => force (Nat.mod (Nat.add d t) 4294967296) fun e' => ih ws a' a b c e' e f g) ws) ks
/-- The words, the last first. -/
noncomputable def nthF : Nat → List Nat → Nat := fun n => Nat.rec (motive := fun _ => List Nat → Nat) (fun l => List.rec (motive := fun _ => Nat) 0 (fun x _ _ => x) l) (fun _ ih l => List.rec (motive := fun _ => Nat) 0 (fun _ r _ => ih r) l) n
def wnF (w16 w15 w7 w2 : Nat) : Nat :=
  Nat.mod (Nat.add (Nat.mod (Nat.add (Nat.mod (Nat.add w16 (Nat.xor (Nat.xor (rotF w15 7 25) (rotF w15 18 14)) (Nat.shiftRight w15 3))) 4294967296) w7) 4294967296) (Nat.xor (Nat.xor (rotF w2 17 15) (rotF w2 19 13)) (Nat.shiftRight w2 10))) 4294967296
noncomputable def wF (n : Nat) : List Nat → List Nat :=
  Nat.rec (motive := fun _ => List Nat → List Nat) (fun r => r) (fun _ ih r => force (wnF (nthF 15 r) (nthF 14 r) (nthF 6 r) (nthF 1 r)) fun x => ih (x :: r)) n
/-- Four bytes each as a word. -/
def wordF (a b c d : Nat) : Nat := Nat.add (Nat.mul (Nat.add (Nat.mul (Nat.add (Nat.mul a 256) b) 256) c) 256) d
noncomputable def wordsF : Nat → List Nat → List Nat → List Nat
  | 0, _, r => r
  | n + 1, a :: b :: c :: d :: p, r => force (wordF a b c d) fun x => wordsF n p (x :: r)
  | _ + 1, _, r => r
noncomputable def blkF (a b c d e f g h : Nat) (p : List Nat) (k : Nat → Nat → Nat → Nat → Nat → Nat → Nat → Nat → List Nat) : List Nat :=
  match rFF kTab (wF 48 (wordsF 16 p [])).reverse a b c d e f g h with
  | ⟨a1, b1, c1, d1, e1, f1, g1, h1⟩ =>
    force (Nat.mod (Nat.add a a1) 4294967296) fun a => force (Nat.mod (Nat.add b b1) 4294967296) fun b => force (Nat.mod (Nat.add c c1) 4294967296) fun c => force (Nat.mod (Nat.add d d1) 4294967296) fun d =>
    force (Nat.mod (Nat.add e e1) 4294967296) fun e => force (Nat.mod (Nat.add f f1) 4294967296) fun f => force (Nat.mod (Nat.add g g1) 4294967296) fun g => force (Nat.mod (Nat.add h h1) 4294967296) fun h => k a b c d e f g h
/-- So many blocks; the sum's bytes. -/
noncomputable def shaBF : Nat → Nat → Nat → Nat → Nat → Nat → Nat → Nat → Nat → List Nat → List Nat
  | 0, a, b, c, d, e, f, g, h, _ => [a, b, c, d, e, f, g, h].flatMap out4
  | n + 1, a, b, c, d, e, f, g, h, p => blkF a b c d e f g h p fun a b c d e f g h => shaBF n a b c d e f g h (p.drop 64)
noncomputable def sha256F (p : List Nat) : List Nat := shaBF ((padded p).length / 64) 1779033703 3144134277 1013904242 2773480762 1359893119 2600822924 528734635 1541459225 (padded p)
noncomputable def hmacF (key p : List Nat) : List Nat := sha256F (keyPad (if 64 < key.length then sha256F key else key) 92 ++ sha256F (keyPad (if 64 < key.length then sha256F key else key) 54 ++ p))
end Go.Px

/- The first point, and how often it is added till it is the origin: by the kernel. -/
namespace Go.Proofs.YtphcaiplgpmnnaaGreatDoor
open Go.Px Go.Ed
def bxLit : Nat := bxN
def byLit : Nat := s45
def d2Lit : Nat := d2N
def bPt : Fin p25 × Fin p25 := (fF bxLit, fF byLit)
theorem bx_val : bPt.1.val = bxLit := by decide +kernel
theorem by_val : bPt.2.val = byLit := by decide +kernel
theorem pS_val : pS = pAt bxLit byLit := rfl
theorem PR.s : PR pS bPt := by
  have h := PR.at (Q := bPt)
  rw [bx_val, by_val] at h
  rw [pS_val]; exact h
/-! ### Sums for the kernel -/
def kM (x y : Nat) : Nat := Nat.mod (Nat.mul x y) 57896044618658097711785492504343953926634992332820282019728792003956564819949
def kA (x y : Nat) : Nat := Nat.mod (Nat.add x y) 57896044618658097711785492504343953926634992332820282019728792003956564819949
def kS (x y : Nat) : Nat := Nat.mod (Nat.sub (Nat.add x 57896044618658097711785492504343953926634992332820282019728792003956564819949) y) 57896044618658097711785492504343953926634992332820282019728792003956564819949
noncomputable def addF {α : Type} (X1 Y1 Z1 T1 X2 Y2 Z2 T2 : Nat) (k : Nat → Nat → Nat → Nat → α) : α :=
  force (kM (kS Y1 X1) (kS Y2 X2)) fun a => force (kM (kA Y1 X1) (kA Y2 X2)) fun b => force (kM (kM T1 16295367250680780974490674513165176452449235426866156013048779062215315747161) T2) fun c => force (kM Z1 Z2) fun z0 => force (kA z0 z0) fun z =>
  force (kS b a) fun e => force (kS z c) fun f => force (kA z c) fun g => force (kA b a) fun h => force (kM e f) fun x => force (kM g h) fun y => force (kM f g) fun z => force (kM e h) fun t => k x y z t
noncomputable def tF (n : Nat) (P : Pt) : Nat → Nat → Nat → Nat → Nat → Pt := fun k =>
  Nat.rec (motive := fun _ => Nat → Nat → Nat → Nat → Pt) (fun X Y Z T => ⟨X, Y, Z, T⟩)
    (fun i ih X Y Z T => addF X Y Z T X Y Z T fun X Y Z T => Nat.rec (motive := fun _ => Pt) (ih X Y Z T) (fun _ _ => addF X Y Z T P.X P.Y P.Z P.T fun X Y Z T => ih X Y Z T) (Nat.mod (Nat.shiftRight n i) 2)) k
end Go.Proofs.YtphcaiplgpmnnaaGreatDoor
/- Plain laws of signatures: what is signed is, by whose that public one is. -/
namespace Go.Proofs.YtphcaiplgpmnnaaGreatDoor
open Go.Px Go.Ed
def secN (seed : List Nat) : Nat := bv (wide ([115, 101, 99, 114, 101, 116] ++ seed)) % lN
def nonN (seed msg : List Nat) : Nat := bv (wide ([110, 111, 110, 99, 101] ++ seed ++ msg)) % lN
def chlN (r p msg : List Nat) : Nat := bv (wide ([99, 104, 97, 108, 108, 101, 110, 103, 101] ++ r ++ p ++ msg)) % lN
noncomputable def pubB (seed : List Nat) : List Nat := pB (pTimes pS (secN seed))
noncomputable def rB (seed msg : List Nat) : List Nat := pB (pTimes pS (nonN seed msg))
noncomputable def sN (seed msg : List Nat) : Nat := (chlN (rB seed msg) (pubB seed) msg * secN seed % lN + nonN seed msg) % lN
noncomputable def sigB (seed msg : List Nat) : List Nat := rB seed msg ++ digs (sN seed msg) 32
def chkO (oa ob : Option Pt) (f : Pt → Pt → Bool) : Bool := match oa, ob with
  | some a, some r => f a r
  | _, _ => false
noncomputable def chkB (p msg sig : List Nat) : Bool := decide (sig.length = 64) && chkO (pRead p) (pRead (sig.take 32)) fun a r => decide (digs (bv (sig.drop 32) % lN) 32 = sig.drop 32) && pSame (pTimes pS (bv (sig.drop 32) % lN)) (pAdd d2N r (pTimes a (chlN (sig.take 32) p msg)))
theorem lN_pos : 0 < lN := by decide
theorem secN_lt (s : List Nat) : secN s < lN := Nat.mod_lt _ lN_pos
theorem nonN_lt (s m : List Nat) : nonN s m < lN := Nat.mod_lt _ lN_pos
theorem pubB_len (s : List Nat) : (pubB s).length = 32 := pB_len _
theorem rB_len (s m : List Nat) : (rB s m).length = 32 := pB_len _
theorem sigB_len (s m : List Nat) : (sigB s m).length = 64 := by simp [sigB, rB_len, digs_len]
/-! ### The example whose bit is turned -/
def kLit : Nat := 4928719331454755403606303759647346995543222500395151019611105437466400029446
def rLit : List Nat := [158, 126, 43, 192, 36, 223, 93, 133, 238, 222, 103, 118, 108, 52, 17, 7, 171, 37, 142, 21, 42, 169, 185, 35, 17, 77, 225, 83, 3, 28, 151, 170]
end Go.Proofs.YtphcaiplgpmnnaaGreatDoor
/-
  Rows of numbers that are arrays: are two one? A slice as an array.
-/
namespace Go.Px
open Go
def arrT (P : Program) (t : TypeId) : Option (Nat × IntKind) := match P.underlying t with
  | some (.array n e) => match P.underlying e with
    | some (.int k) => if sizeT P e = some 1 then some (n, k) else none
    | _ => none
  | _ => none
section
variable {P : Program} {R : Mem} {l : Env} {d : Option Nat} {ty t : TypeId} {pos : String} {af : Array Edge} {g : Option (Nat × Bool)} {x y : Operand} {k : IntKind}
end
end Go.Px

/-
  The same, where what is said of a value may name the values of operations for which it waits.
-/
namespace Go.Px
structure Gx where
  i : Nat
  d : Nat
  us : List Nat
  φ : List Value → Value → Mem → Mem → Prop
def gEnvX (G : List Gx) (vs : Nat → Value) : Env := G.map fun g => (g.d, vs g.i)
def GrowsX (φ : List Value → Value → Mem → Mem → Prop) : Prop := ∀ us v B R R', (∀ x ∈ R, x ∈ R') → φ us v B R → φ us v B R'
def toGx (G : List Gx) : List Gm := G.map fun g => ⟨g.i, g.d, fun _ _ => True⟩
section group
variable {C : Cx} {Q : XQ} {l : Env} {M J : Mem} {os : List Oper} {K : Nat → Prop} {n0 : Nat} {nd : List Nat} {plan : List (Nat × Nat)}
def OwesX (C : Cx) (os : List Oper) (l : Env) (M J : Mem) (G : List Gx) (g : Gx) : Prop :=
  ∃ o, nth os g.i = some o ∧ ∀ (vs : Nat → Value) (bs : Nat → Mem) (R : Mem) (w : World), (∀ x ∈ M ++ (J ++ C.A), x ∈ R) → (∀ g' ∈ G, anc os.toArray os.toArray.size g.i g'.i = true → g'.φ (g'.us.map vs) (vs g'.i) (bs g'.i) R) →
    Asked os (gEnvX G vs ++ l) o ∧ OpL ⟨C.P, w, [], R, C.N⟩ o (gEnvX G vs ++ l) [] [] (fun l' M' J' => ∃ v, l' = (g.d, v) :: (gEnvX G vs ++ l) ∧ g.φ (g.us.map vs) v M' (M' ++ (J' ++ R)))
end group
end Go.Px

/- The walks of package curve: Add, Same, Read; of package sign: secret, challenge, Public, Sign. -/
namespace Go.Proofs.YtphcaiplgpmnnaaGreatDoor
open Go.Px
/-- What the package variables of sha hold. -/
structure GlS (A : Mem) : Prop where
  first : ∃ e f, (0, Obj.cells (nums .u32 hFirst.list).toArray e f) ∈ A
  round : ∃ e f, (1, Obj.cells (nums .u32 kTab).toArray e f) ∈ A
theorem GlS.sub {A A' : Mem} (h : GlS A) (hs : ∀ x, x ∈ A → x ∈ A') : GlS A' := by
  obtain ⟨⟨a, b, c⟩, ⟨d, e, f⟩⟩ := h
  exact ⟨⟨a, b, hs _ c⟩, ⟨d, e, hs _ f⟩⟩
theorem GlS.up {M J A : Mem} (h : GlS A) : GlS (M ++ (J ++ A)) := h.sub fun _ h => mA h
theorem wide_len (p : List Nat) : (wide p).length = 64 := by simp [wide, sha256_len]
theorem wide_lt (p : List Nat) : ∀ x ∈ wide p, x < 256 := by
  intro x hx
  rcases List.mem_append.1 hx with h | h <;> exact sha_lt _ x h
theorem sl_by {R B : Mem} {v : Value} {w : List Nat} {n : Nat} (h : Sl 1 v n (nums .u8 w) B) (hn : n = w.length) (hlt : ∀ x ∈ w, x < 256) (hl : w.length ≤ 16777216) (hR : ∀ x, x ∈ B → x ∈ R) : By R v w := ⟨hn ▸ h.rd hR, hlt, hl⟩
theorem dg_bv {n : Nat} (h : n < lN) : bv (digs n 32) = n := by rw [bv_digs, Nat.mod_eq_of_lt (Nat.lt_trans h (by decide))]
/-- What Read answers. -/
def RdR (r : Value) (w : List Nat) : Prop := ∃ V b, r = .tuple #[V, .bool b] ∧ ((∃ P, pRead w = some P ∧ b = true ∧ FeP V P) ∨ (pRead w = none ∧ b = false ∧ FeP V pZ))
end Go.Proofs.YtphcaiplgpmnnaaGreatDoor
