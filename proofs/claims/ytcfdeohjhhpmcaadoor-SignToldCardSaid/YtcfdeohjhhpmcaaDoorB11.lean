/- Part 11 of the texts of this claim, one behind the other. -/
import Derived.Test.YtcfdeohjhhpmcaaDoorB10
import Derived.Test.YtcfdeohjhhpmcaaDoorRows
set_option linter.unusedVariables false
set_option linter.unusedSimpArgs false
set_option linter.unusedVariables false
set_option linter.unusedSimpArgs false
namespace Go.Px
theorem xp_two (n : Nat) : xp n = 2 ^ (32 * n) := by rw [xp, Nat.pow_mul]
theorem bv_take_succ {p : List Nat} {j : Nat} (h : j < p.length) : bv (p.take (j + 1)) = bv (p.take j) + 256 ^ j * p.getD j 0 := by
  rw [List.take_add_one, List.getElem?_eq_getElem h, bv_append, List.length_take, Nat.min_eq_left (by omega), List.getD, List.getElem?_eq_getElem h]
  simp [bv]
theorem nv_word {ws : List Nat} (h : w32 ws) (i : Nat) : nv ws / xp i % 4294967296 = ws.getD i 0 := by
  induction ws generalizing i with
  | nil => simp [nv]
  | cons b r ih =>
    have h1 := h b (by simp)
    cases i with
    | zero => simp only [nv, xp0, Nat.div_one, List.getD_cons_zero]; omega
    | succ i =>
      rw [List.getD_cons_succ, ← ih (fun x hx => h x (by simp [hx])) i, xpS, Nat.mul_comm, ← Nat.div_div_eq_div_mul]
      congr 2
      simp only [nv]; omega
theorem or_add {a b r : Nat} (h : a < 2 ^ r) : (a ||| b * 2 ^ r) = a + b * 2 ^ r := by
  rw [Nat.or_comm, ← Nat.shiftLeft_eq, ← Nat.shiftLeft_add_eq_or_of_lt h, Nat.add_comm]
theorem low_step {ws p : List Nat} {i : Nat} (hp : i < p.length) (hl : i / 4 < ws.length) (h32 : w32 ws) (hb : p.getD i 0 < 256) (hnv : nv ws = bv (p.take i)) (h1 : ws.getD (i / 4) 0 < 256 ^ (i % 4)) (h2 : ∀ j, i / 4 < j → ws.getD j 0 = 0) :
    w32 (ws.set (i / 4) (ws.getD (i / 4) 0 ||| p.getD i 0 * 2 ^ (8 * (i % 4)) % 4294967296)) ∧ nv (ws.set (i / 4) (ws.getD (i / 4) 0 ||| p.getD i 0 * 2 ^ (8 * (i % 4)) % 4294967296)) = bv (p.take (i + 1)) ∧
    (ws.set (i / 4) (ws.getD (i / 4) 0 ||| p.getD i 0 * 2 ^ (8 * (i % 4)) % 4294967296)).getD ((i + 1) / 4) 0 < 256 ^ ((i + 1) % 4) ∧ ∀ j, (i + 1) / 4 < j → (ws.set (i / 4) (ws.getD (i / 4) 0 ||| p.getD i 0 * 2 ^ (8 * (i % 4)) % 4294967296)).getD j 0 = 0 := by
  have hr : i % 4 < 4 := Nat.mod_lt _ (by decide)
  have e256 : ∀ n, 256 ^ n = 2 ^ (8 * n) := fun n => by rw [Nat.pow_mul]
  rw [e256] at h1
  generalize hx : ws.getD (i / 4) 0 = x at *
  generalize hbb : p.getD i 0 = b at *
  have hpow : 2 ^ (8 * (i % 4)) * 256 ≤ 4294967296 := by
    rw [show (256 : Nat) = 2 ^ 8 from rfl, show (4294967296 : Nat) = 2 ^ 32 from rfl, ← Nat.pow_add]
    exact Nat.pow_le_pow_right (by decide) (by omega)
  have hpos := Nat.two_pow_pos (8 * (i % 4))
  have hbm : b * 2 ^ (8 * (i % 4)) ≤ 255 * 2 ^ (8 * (i % 4)) := Nat.mul_le_mul_right _ (by omega)
  rw [Nat.mod_eq_of_lt (by omega), or_add h1]
  have hlt : x + b * 2 ^ (8 * (i % 4)) < 2 ^ (8 * (i % 4)) * 256 := by omega
  refine ⟨h32.set (by omega), ?_, ?_, ?_⟩
  · have h3 := nv_set (ws := ws) (j := i / 4) (x := x + b * 2 ^ (8 * (i % 4))) hl
    rw [hx, hnv] at h3
    rw [bv_take_succ hp, hbb]
    have e : 256 ^ i * b = xp (i / 4) * (b * 2 ^ (8 * (i % 4))) := by
      rw [e256, xp_two, Nat.mul_comm b, ← Nat.mul_assoc, ← Nat.pow_add]
      congr 2; omega
    rw [e]
    rw [Nat.mul_add] at h3
    omega
  · rw [e256]
    by_cases hc : (i + 1) / 4 = i / 4
    · rw [hc, List.getD, List.getElem?_set_self hl, Option.getD_some]
      refine Nat.lt_of_lt_of_le hlt ?_
      rw [show (256 : Nat) = 2 ^ 8 from rfl, ← Nat.pow_add]
      exact Nat.pow_le_pow_right (by decide) (by omega)
    · have := h2 ((i + 1) / 4) (by omega)
      rw [List.getD, List.getElem?_set_ne (by omega), ← List.getD, this]
      exact Nat.two_pow_pos _
  · intro j hj
    rw [List.getD, List.getElem?_set_ne (by omega), ← List.getD]
    exact h2 j (by omega)
/-- So many bytes of a number, the lowest first. -/
def digs (x n : Nat) : List Nat := (List.range n).map fun i => x / 256 ^ i % 256
theorem digs_len (x n : Nat) : (digs x n).length = n := by simp [digs]
theorem digs_lt (x n : Nat) : ∀ y ∈ digs x n, y < 256 := fun y hy => by
  simp only [digs, List.mem_map] at hy
  obtain ⟨i, _, rfl⟩ := hy
  exact Nat.mod_lt _ (by decide)
theorem digs_succ (x n : Nat) : digs x (n + 1) = digs x n ++ [x / 256 ^ n % 256] := by simp [digs, List.range_succ]
theorem digs_zero {x i : Nat} (h : x < 256 ^ i) : ∀ n, i ≤ n → digs x n = digs x i ++ List.replicate (n - i) 0
  | 0, hn => by obtain rfl : i = 0 := by omega
                simp
  | n + 1, hn => by
    by_cases e : i = n + 1
    · subst e; simp
    · have hle : i ≤ n := by omega
      rw [digs_succ, digs_zero h n hle, Nat.div_eq_of_lt (Nat.lt_of_lt_of_le h (Nat.pow_le_pow_right (by decide) hle)), show n + 1 - i = (n - i) + 1 by omega, List.replicate_succ', List.append_assoc]
theorem bv_digs (x n : Nat) : bv (digs x n) = x % 256 ^ n := by
  have := bv_digits x n
  rw [show (256 : Nat) ^ n = 2 ^ (8 * n) by rw [Nat.pow_mul], ← this]
  congr 1
  unfold digs
  apply List.map_congr_left
  intro j _
  rw [Nat.pow_mul]
theorem word_byte {ws : List Nat} (h : w32 ws) (i : Nat) : ws.getD (i / 4) 0 / 2 ^ (8 * (i % 4)) % 256 = nv ws / 256 ^ i % 256 := by
  rw [← nv_word h, show (256 : Nat) ^ i = 2 ^ (8 * i) by rw [Nat.pow_mul], xp_two, show (4294967296 : Nat) = 2 ^ (8 * (i % 4)) * 2 ^ (32 - 8 * (i % 4)) by rw [← Nat.pow_add, show 8 * (i % 4) + (32 - 8 * (i % 4)) = 32 by omega], Nat.mod_mul_right_div_self,
    show (2 : Nat) ^ (32 - 8 * (i % 4)) = 256 * 2 ^ (24 - 8 * (i % 4)) by rw [show (256 : Nat) = 2 ^ 8 from rfl, ← Nat.pow_add]; congr 1; omega, Nat.mod_mul_right_mod, Nat.div_div_eq_div_mul, ← Nat.pow_add]
  congr 3; omega
theorem word_bit {ws : List Nat} (h : w32 ws) (i : Nat) : ws.getD (i / 32) 0 / 2 ^ (i % 32) % 2 = nv ws / 2 ^ i % 2 := by
  rw [← nv_word h, xp_two, show (4294967296 : Nat) = 2 ^ (i % 32) * 2 ^ (32 - i % 32) by rw [← Nat.pow_add, show i % 32 + (32 - i % 32) = 32 by omega], Nat.mod_mul_right_div_self,
    show (2 : Nat) ^ (32 - i % 32) = 2 * 2 ^ (31 - i % 32) by rw [← Nat.pow_succ']; congr 1; omega, Nat.mod_mul_right_mod, Nat.div_div_eq_div_mul, ← Nat.pow_add]
  congr 3; omega
theorem nv_bit_high {ws : List Nat} (h : w32 ws) {i : Nat} (hi : ws.length ≤ i / 32) : nv ws / 2 ^ i % 2 = 0 := by
  have h1 := nv_lt h
  rw [xp_two] at h1
  rw [Nat.div_eq_of_lt (Nat.lt_of_lt_of_le h1 (Nat.pow_le_pow_right (by decide) (by omega)))]
theorem getD_high {ws : List Nat} {i : Nat} (h : ws.length ≤ i) : ws.getD i 0 = 0 := by simp [List.getD, List.getElem?_eq_none h]
theorem nv_take_succ' (ws : List Nat) (j : Nat) : nv (ws.take (j + 1)) = nv (ws.take j) + xp j * ws.getD j 0 := by
  by_cases h : j < ws.length
  · exact nv_take_succ h
  · rw [getD_high (by omega), List.take_of_length_le (by omega), List.take_of_length_le (by omega), Nat.mul_zero, Nat.add_zero]
theorem plus_step {o a b : List Nat} {i c x : Nat} (hl : o.length = i) (h : nv o + xp i * c = nv (a.take i) + nv (b.take i)) (hx : x = c + a.getD i 0 + b.getD i 0) :
    nv (o ++ [x % 4294967296]) + xp (i + 1) * (x / 4294967296) = nv (a.take (i + 1)) + nv (b.take (i + 1)) := by
  rw [nv_append, hl, nv_take_succ', nv_take_succ', xpS]
  have e : xp i * (x % 4294967296) + xp i * 4294967296 * (x / 4294967296) = xp i * x := by
    rw [Nat.mul_assoc, ← Nat.mul_add, Nat.mod_add_div]
  have e2 : xp i * x = xp i * c + xp i * a.getD i 0 + xp i * b.getD i 0 := by rw [hx, Nat.mul_add, Nat.mul_add]
  simp only [nv, Nat.mul_zero, Nat.add_zero]
  omega
theorem nv_take_le (ws : List Nat) (n : Nat) : nv (ws.take n) ≤ nv ws := by
  by_cases h : n ≤ ws.length
  · rw [nv_split ws n h]; omega
  · rw [List.take_of_length_le (by omega)]; exact Nat.le_refl _
theorem less_next {o a b : List Nat} {i c c' d : Nat} (hl : o.length = i) (h : nv o + nv (b.take i) = nv (a.take i) + xp i * c) (hd : d + b.getD i 0 + c = a.getD i 0 + 4294967296 * c') :
    nv (o ++ [d]) + nv (b.take (i + 1)) = nv (a.take (i + 1)) + xp (i + 1) * c' := by
  rw [nv_append, hl, nv_take_succ', nv_take_succ', xpS]
  have e : xp i * d + xp i * b.getD i 0 + xp i * c = xp i * a.getD i 0 + xp i * 4294967296 * c' := by
    rw [← Nat.mul_add, ← Nat.mul_add, hd, Nat.mul_add, Nat.mul_assoc]
  simp only [nv, Nat.mul_zero, Nat.add_zero]
  omega
theorem less_end {o a b : List Nat} {c : Nat} (hl : o.length = a.length) (ho : w32 o) (ha : w32 a) (h : nv o + nv (b.take a.length) = nv (a.take a.length) + xp a.length * c) (hle : nv b ≤ nv a) : nv o = nv a - nv b := by
  have h1 := nv_lt ho
  have h2 := nv_lt ha
  have h3 := nv_take_le b a.length
  rw [List.take_length] at h
  rw [hl] at h1
  have hc : c = 0 := by
    rcases Nat.eq_zero_or_pos c with h0 | h0
    · exact h0
    · have := Nat.le_mul_of_pos_right (xp a.length) h0
      omega
  subst hc
  have h4 : nv (b.take a.length) = nv b := by
    by_cases hb : a.length ≤ b.length
    · have h5 := nv_split b a.length hb
      have h6 : nv (b.drop a.length) = 0 := by
        rcases Nat.eq_zero_or_pos (nv (b.drop a.length)) with h0 | h0
        · exact h0
        · have := Nat.le_mul_of_pos_right (xp a.length) h0
          omega
      rw [h6] at h5; omega
    · rw [List.take_of_length_le (by omega)]
  omega
/-- So many words of a number. -/
def wrds (x n : Nat) : List Nat := (List.range n).map fun i => x / xp i % 4294967296
theorem wrds_len (x n : Nat) : (wrds x n).length = n := by simp [wrds]
theorem wrds_succ (x n : Nat) : wrds x (n + 1) = wrds x n ++ [x / xp n % 4294967296] := by simp [wrds, List.range_succ]
theorem wrds_w32 (x n : Nat) : w32 (wrds x n) := fun y hy => by
  simp only [wrds, List.mem_map] at hy
  obtain ⟨i, _, rfl⟩ := hy
  exact Nat.mod_lt _ (by decide)
theorem nv_wrds (x : Nat) : ∀ n, nv (wrds x n) = x % xp n
  | 0 => by simp [wrds, nv, xp0, Nat.mod_one]
  | n + 1 => by
    rw [wrds_succ, nv_append, nv_wrds x n, wrds_len, xpS]
    simp only [nv, Nat.mul_zero, Nat.add_zero]
    rw [Nat.mod_mul]
/-- One word of a number that is shifted down. -/
theorem down_word {a : List Nat} (ha : w32 a) {n i : Nat} (hi : n / 32 ≤ i) : (a.getD i 0 ||| a.getD (i + 1) 0 * 4294967296) / 2 ^ (n % 32) % 4294967296 = nv a / 2 ^ n / xp (i - n / 32) % 4294967296 := by
  have h1 := ha.get i
  rw [show (4294967296 : Nat) = 2 ^ 32 from rfl] at h1 ⊢
  rw [or_add h1]
  have e : a.getD i 0 + a.getD (i + 1) 0 * 2 ^ 32 = nv a / xp i % 2 ^ 64 := by
    rw [← nv_word ha i, ← nv_word ha (i + 1), xpS, show (2 : Nat) ^ 64 = 4294967296 * 4294967296 from rfl, Nat.mod_mul, Nat.div_div_eq_div_mul]
    omega
  rw [e, xp_two, xp_two, Nat.div_div_eq_div_mul, ← Nat.pow_add]
  have hm : n % 32 < 32 := Nat.mod_lt _ (by decide)
  rw [show (2 : Nat) ^ 64 = 2 ^ (n % 32) * (2 ^ 32 * 2 ^ (32 - n % 32)) by rw [← Nat.pow_add, ← Nat.pow_add]; congr 1; omega, Nat.mod_mul_right_div_self, Nat.mod_mul_right_mod, Nat.div_div_eq_div_mul, ← Nat.pow_add]
  congr 3; omega
end Go.Px

/- The walks of package sign: order, less, add. -/
set_option linter.unusedVariables false
set_option linter.unusedSimpArgs false
namespace Go.Proofs.YtcfdeohjhhpmcaaDoor
open Go.Px
/-- How often the first point is added till it is the origin. -/
def ordW : List Nat := [1559614445, 1477600026, 2734136534, 350157278, 0, 0, 0, 268435456]
def lN : Nat := 7237005577332262213973186563042994240857116359379907606001950938285454250989
theorem ord_nv : nv ordW = lN := by decide +kernel
theorem ord_32 : w32 ordW := by unfold w32 ordW; decide
/-- The value of a scalar. -/
def Sc (v : Value) (n : Nat) : Prop := ∃ ws, v = .agg (nums .u32 ws).toArray ∧ ws.length = 8 ∧ w32 ws ∧ nv ws = n
theorem xp8 : xp 8 = 115792089237316195423570985008687907853269984665640564039457584007913129639936 := by decide +kernel
theorem top_eq {a b : List Nat} {i : Nat} (h1 : a.drop (i + 1) = b.drop (i + 1)) (hi : i < a.length) (hj : i < b.length) (h2 : a.getD i 0 = b.getD i 0) : a.drop i = b.drop i := by
  rw [List.getD_eq_getElem?_getD, List.getElem?_eq_getElem hi, List.getD_eq_getElem?_getD, List.getElem?_eq_getElem hj] at h2
  rw [List.drop_eq_getElem_cons hi, List.drop_eq_getElem_cons hj, h1]
  exact congrArg (· :: _) h2
theorem part_get {o a : List Nat} {i : Nat} (hl : o.length = i) : (o ++ a.drop i).getD i 0 = a.getD i 0 := by
  rw [List.getD_eq_getElem?_getD, List.getElem?_append_right (by omega), List.getElem?_drop, List.getD_eq_getElem?_getD]
  congr 2; omega
theorem part_set {o a : List Nat} {i x : Nat} (hl : o.length = i) (hi : i < a.length) : (o ++ a.drop i).set i x = (o ++ [x]) ++ a.drop (i + 1) := by
  rw [List.set_append_right _ _ (by omega), hl, Nat.sub_self, List.drop_eq_getElem_cons hi, List.set_cons_zero, List.append_assoc]; rfl
theorem part_len {o a : List Nat} {i n : Nat} (hl : o.length = i) (ha : a.length = n) (hi : i ≤ n) : (o ++ a.drop i).length = n := by
  rw [List.length_append, List.length_drop]; omega
theorem add_low {a b c : Nat} (ha : a < lN) (hb : b < lN) (h : c * xp 8 ≤ a + b) : c = 0 := by
  rcases Nat.eq_zero_or_pos c with h0 | h0
  · exact h0
  · have h1 := Nat.le_mul_of_pos_left (xp 8) h0
    rw [xp8] at h1 h
    unfold lN at ha hb
    omega
theorem sub_borrow {x y c d e : Nat} (hx : x < 4294967296) (hy : y < 4294967296) (hc : c ≤ 1) (hd : d = (x + (18446744073709551616 - y)) % 18446744073709551616) (he : e = (d + (18446744073709551616 - c)) % 18446744073709551616) :
    e % 4294967296 + y + c = x + 4294967296 * (e / 9223372036854775808) ∧ e / 9223372036854775808 ≤ 1 := by
  by_cases h : y + c ≤ x
  · have e1 : e = x - y - c := by omega
    have e2 : e < 4294967296 := by omega
    rw [Nat.mod_eq_of_lt e2, Nat.div_eq_of_lt (by omega)]
    omega
  · have e1 : e = 18446744073709551616 - (y + c - x) := by omega
    omega

theorem cmp_lss {k : IntKind} (x y : Nat) : arith .lss k (x : Int) (y : Int) = some (.bool (decide (x < y))) := by
  by_cases h : x < y
  · rw [decide_eq_true h]; exact ltT (by omega)
  · rw [decide_eq_false h]; exact ltF (by omega)
theorem less_at {a b : List Nat} (ha : w32 a) (hb : w32 b) {i : Nat} (hi : i < a.length) (hl : a.length = b.length) (hd : a.drop (i + 1) = b.drop (i + 1)) (hne : a.getD i 0 ≠ b.getD i 0) : nv a < nv b ↔ a.getD i 0 < b.getD i 0 := by
  constructor
  · intro h
    rcases Nat.lt_or_gt_of_ne hne with h1 | h1
    · exact h1
    · have := nv_lt_at hb (by omega) hl.symm h1 hd.symm; omega
  · intro h; exact nv_lt_at ha hi hl h hd
theorem wrap64n {n : Nat} (h : n < 18446744073709551616) : IntKind.u64.wrap (n : Int) = (n : Int) := wrap_u64 (by omega) (by omega)

set_option maxRecDepth 100000 in
theorem order_f (A : Mem) : FnV Tryd.prog 54 [] A (.agg (nums .u32 ordW).toArray) := by
  refine FnX.enter (N := 2) Tryd.func54 rfl rfl rfl fun w => ?_
  refine XC.keep kn ?_
  refine XC.reg ?_
  refine XL.lo rfl (l_alloc (cs := [.int .u32 0, .int .u32 0, .int .u32 0, .int .u32 0, .int .u32 0, .int .u32 0, .int .u32 0, .int .u32 0]) (by kernel_rfl) rfl fun b0 => ?_)
  refine XL.fin (kp 0 rfl kn) ?_
  refine XC.reg ?_
  refine XL.q (q_build (place := fun i => some (i * 1, 1)) (z := [.int .u32 0, .int .u32 0, .int .u32 0, .int .u32 0, .int .u32 0, .int .u32 0, .int .u32 0, .int .u32 0]) (fun _ => by kernel_rfl) (eS rfl (eS rfl (eS rfl (eS rfl (eS rfl (eS rfl (eS rfl (eS rfl e0)))))))) (bdS 0 1 rfl (by rfl) (bdS 1 1 rfl (by rfl) (bdS 2 1 rfl (by rfl) (bdS 3 1 rfl (by rfl) (bdS 4 1 rfl (by rfl) (bdS 5 1 rfl (by rfl) (bdS 6 1 rfl (by rfl) (bdS 7 1 rfl (by rfl) bd0))))))))) rfl ?_
  refine XL.lo rfl (l_storeW rfl rfl Cel.cel (by kernel_rfl) (lnS (lnS (lnS (lnS (lnS (lnS (lnS (lnS (ln0))))))))) (allS rfl (allS rfl (allS rfl (allS rfl (allS rfl (allS rfl (allS rfl (allS rfl (all0))))))))) UpC.upd ?_)
  refine XL.fin (kp 0 rfl kn) ?_
  refine XC.ret ?_
  exact ⟨_, [], [], resC rfl rfl (by kernel_rfl) At.mem (by rfl), List.nil_sublist _, by simp, rfl, rfl, rfl⟩

set_option maxRecDepth 100000 in
theorem less_f (v u : Value) (x y : Nat) (hv : Sc v x) (hu : Sc u y) (A : Mem) : FnV Tryd.prog 55 [v, u] A (.bool (decide (x < y))) := by
  obtain ⟨a, rfl, a8, a32, rfl⟩ := hv
  obtain ⟨b, rfl, b8, b32, rfl⟩ := hu
  refine FnX.enter (N := 24) Tryd.func55 rfl rfl rfl fun w => ?_
  refine XC.keep (kp 0 rfl (kp 1 rfl kn)) ?_
  refine XC.reg ?_
  refine XL.lo rfl (l_box rfl (by first | exact Cel.cel | rfl) rfl fun b2 => ?_)
  refine XL.lo rfl (l_box rfl (by first | exact Cel.cel | rfl) rfl fun b3 => ?_)
  refine XL.q (q_assign rfl) rfl ?_
  refine XL.fin (kp 2 rfl (kp 3 rfl kn)) ?_
  refine XC.seq ?_
  refine XC.reg ?_
  refine XL.q (q_assign rfl) rfl ?_
  refine XL.fin (kp 2 rfl (kp 3 rfl (kp 5 rfl kn))) ?_
  refine XC.block ?_
  refine XC.loop (α := Nat) (fun j => [(2, .pointer (some ⟨b2, 0, none⟩)), (3, .pointer (some ⟨b3, 0, none⟩)), (5, .int .i64 ((j : Int) - 1))]) (fun _ => [(b3, blk (nums .u32 b) 51), (b2, blk (nums .u32 a) 51)]) (fun _ => []) (fun j => j ≤ 8 ∧ a.drop j = b.drop j) (fun j => j) 8 ⟨Nat.le_refl _, by rw [List.drop_of_length_le (by omega), List.drop_of_length_le (by omega)]⟩ (kp 2 rfl (kp 3 rfl (kp 5 rfl kn))) .rfl (fun _ h => h) ?_
  rintro j ⟨hj, hd⟩
  refine XC.seq ?_
  refine XC.reg ?_
  refine XL.q (q_move rfl) rfl ?_
  refine XL.q (q_bin rfl rfl rfl) rfl ?_
  refine XL.fin (kp 2 rfl (kp 3 rfl (kp 5 rfl (kp 7 rfl kn)))) ?_
  refine XC.cond rfl (fun hc => ?_) (fun hc => ?_)
  ·
    have hj0 : 0 < j := by simp at hc; omega
    obtain ⟨i, rfl⟩ : ∃ i, j = i + 1 := ⟨j - 1, by omega⟩
    rw [show (((i + 1 : Nat) : Int) - 1) = (i : Int) by omega]
    refine XC.skip ?_
    refine nx (kp 2 rfl (kp 3 rfl (kp 5 rfl kn))) ?_
    refine XC.seq ?_
    refine XC.block ?_
    refine XC.drawF [0, 1, 2, 3, 4, 5, 6] [(0, 0), (1, 0), (2, 1), (3, 0), (4, 0), (5, 1), (6, 0)] (by kernel_rfl) (by kernel_rfl) fun hs => ?_
    refine XF.q hs rfl (q_move rfl) rfl ?_
    refine XF.q hs rfl (q_idxA (e := 49) (n := 8) (sz := 1) (i := i) rfl rfl (by kernel_rfl) (by kernel_rfl) rfl (by omega)) rfl ?_
    refine XF.r hs rfl (q_ldN (i) rfl (by kernel_rfl) At.mem (by omega) (by first | omega | (rw [a8]; omega))) rfl ?_
    refine XF.q hs rfl (q_move rfl) rfl ?_
    refine XF.q hs rfl (q_idxA (e := 49) (n := 8) (sz := 1) (i := i) rfl rfl (by kernel_rfl) (by kernel_rfl) rfl (by omega)) rfl ?_
    refine XF.r hs rfl (q_ldN (i) rfl (by kernel_rfl) At.mem (by omega) (by first | omega | (rw [b8]; omega))) rfl ?_
    refine XF.q hs rfl (q_bin rfl rfl rfl) rfl ?_
    refine XF.fin (kp 2 rfl (kp 3 rfl (kp 5 rfl (kp 16 rfl kn)))) ?_
    refine XC.cond rfl (fun hc => ?_) (fun hc => ?_)
    ·
      have hne : a.getD i 0 ≠ b.getD i 0 := by simp at hc ⊢; omega
      refine XC.drawF [0, 1, 2, 3, 4, 5, 6, 7] [(0, 0), (1, 0), (2, 1), (3, 0), (4, 0), (5, 1), (6, 0), (7, 0)] (by kernel_rfl) (by kernel_rfl) fun hs => ?_
      refine XF.q hs rfl (q_move rfl) rfl ?_
      refine XF.q hs rfl (q_idxA (e := 49) (n := 8) (sz := 1) (i := i) rfl rfl (by kernel_rfl) (by kernel_rfl) rfl (by omega)) rfl ?_
      refine XF.r hs rfl (q_ldN (i) rfl (by kernel_rfl) At.mem (by omega) (by first | omega | (rw [a8]; omega))) rfl ?_
      refine XF.q hs rfl (q_move rfl) rfl ?_
      refine XF.q hs rfl (q_idxA (e := 49) (n := 8) (sz := 1) (i := i) rfl rfl (by kernel_rfl) (by kernel_rfl) rfl (by omega)) rfl ?_
      refine XF.r hs rfl (q_ldN (i) rfl (by kernel_rfl) At.mem (by omega) (by first | omega | (rw [b8]; omega))) rfl ?_
      refine XF.q hs rfl (q_cmp (decide (a.getD i 0 < b.getD i 0)) rfl rfl (cmp_lss _ _)) rfl ?_
      refine XF.q hs rfl (q_assign rfl) rfl ?_
      refine XF.fin (kp 4 rfl kn) ?_
      refine XC.ret ?_
      refine br ?_
      refine tr ?_
      refine rr ?_
      refine br ?_
      refine tr ?_
      exact ⟨_, [], [], res1 rfl rfl, List.nil_sublist _, by simp, by rw [show decide (nv a < nv b) = decide (a.getD i 0 < b.getD i 0) from decide_eq_decide.2 (less_at a32 b32 (by omega) (by omega) hd hne)], rfl, rfl⟩
    ·
      have hne : a.getD i 0 = b.getD i 0 := by simp at hc ⊢; omega
      refine XC.skip ?_
      refine nb ?_
      refine nx (kp 2 rfl (kp 3 rfl (kp 5 rfl kn))) ?_
      refine XC.reg1 ?_
      refine XL.q (q_move rfl) rfl ?_
      refine XL.q (q_num ((i : Int) - 1) rfl rfl (sub64 rfl (by omega) (by omega))) rfl ?_
      refine XL.q (q_assign rfl) rfl ?_
      refine XL.nil ?_
      exact rn i ⟨by omega, top_eq hd (by omega) (by omega) hne⟩ (by omega) (kp 2 rfl (kp 3 rfl (kp 5 rfl kn))) .rfl (fun _ h => h)
  ·
    have hj0 : j = 0 := by simp at hc; omega
    subst hj0
    rw [List.drop_zero, List.drop_zero] at hd
    refine XC.exit ?_
    refine te ?_
    refine re ?_
    refine be rfl ?_
    refine nx kn ?_
    refine XC.reg ?_
    refine XL.q (q_assign rfl) rfl ?_
    refine XL.fin (kp 4 rfl kn) ?_
    refine XC.ret ?_
    exact ⟨_, [], [], res1 rfl rfl, List.nil_sublist _, by simp, by rw [hd, decide_eq_false (Nat.lt_irrefl _)], rfl, rfl⟩

set_option maxRecDepth 100000 in
theorem sadd_f (v u : Value) (x y : Nat) (hv : Sc v x) (hu : Sc u y) (hx : x < lN) (hy : y < lN) (A : Mem) : FnX Tryd.prog 27 [v, u] [] A fun r M J => M = [] ∧ J = [] ∧ Sc r ((x + y) % lN) := by
  obtain ⟨a, rfl, a8, a32, rfl⟩ := hv
  obtain ⟨b, rfl, b8, b32, rfl⟩ := hu
  refine FnX.enter (N := 58) Tryd.func27 rfl rfl rfl fun w => ?_
  refine XC.keep (kp 0 rfl (kp 1 rfl kn)) ?_
  refine XC.reg ?_
  refine XL.lo rfl (l_box rfl (by first | exact Cel.cel | rfl) rfl fun b2 => ?_)
  refine XL.lo rfl (l_box rfl (by first | exact Cel.cel | rfl) rfl fun b3 => ?_)
  refine XL.lo rfl (l_alloc (cs := [.int .u32 0, .int .u32 0, .int .u32 0, .int .u32 0, .int .u32 0, .int .u32 0, .int .u32 0, .int .u32 0]) (by kernel_rfl) rfl fun b4 => ?_)
  refine XL.fin (kp 2 rfl (kp 3 rfl (kp 4 rfl kn))) ?_
  refine XC.reg ?_
  refine XL.q (q_assign rfl) rfl ?_
  refine XL.fin (kp 2 rfl (kp 3 rfl (kp 4 rfl (kp 5 rfl kn)))) ?_
  refine XC.seq ?_
  refine XC.reg ?_
  refine XL.q (q_move rfl) rfl ?_
  refine XL.fin (kp 2 rfl (kp 3 rfl (kp 4 rfl (kp 5 rfl (kp 10 rfl kn))))) ?_
  refine XC.block ?_
  refine XC.loop (α := Nat × List Nat × Nat) (fun x => [(2, .pointer (some ⟨b2, 0, none⟩)), (3, .pointer (some ⟨b3, 0, none⟩)), (4, .pointer (some ⟨b4, 0, none⟩)), (5, .int .u64 (x.2.2 : Int)), (10, .int .i64 (x.1 : Int))]) (fun x => [(b4, blk [.int .u32 0, .int .u32 0, .int .u32 0, .int .u32 0, .int .u32 0, .int .u32 0, .int .u32 0, .int .u32 0] 51), (b3, blk (nums .u32 b) 51), (b2, blk (nums .u32 (x.2.1 ++ a.drop x.1)) 51)]) (fun _ => []) (fun x => x.1 ≤ 8 ∧ x.2.1.length = x.1 ∧ w32 x.2.1 ∧ x.2.2 ≤ 1 ∧ nv x.2.1 + xp x.1 * x.2.2 = nv (a.take x.1) + nv (b.take x.1)) (fun x => 8 - x.1) ⟨0, [], 0⟩ ⟨Nat.zero_le _, rfl, (fun x hx => by cases hx), by decide, rfl⟩ (kp 2 rfl (kp 3 rfl (kp 4 rfl (kp 5 rfl (kp 10 rfl kn))))) .rfl (fun _ h => h) ?_
  rintro ⟨i, o, c⟩ ⟨hi, hol, ho32, hc1, hnv⟩
  dsimp only at hi hol ho32 hc1 hnv ⊢
  refine XC.reg ?_
  refine XL.q (q_bin rfl rfl rfl) rfl ?_
  refine XL.fin (kp 2 rfl (kp 3 rfl (kp 4 rfl (kp 5 rfl (kp 10 rfl (kp 11 rfl kn)))))) ?_
  refine XC.seq ?_
  refine XC.cond rfl (fun hc => ?_) (fun hc => ?_)
  ·
    have hlt : i < 8 := by simp at hc; omega
    have hpl := part_len (o := o) (a := a) hol a8 hi
    have hpg := part_get (a := a) hol
    have hps := fun x => part_set (x := x) hol (show i < a.length by omega)
    have hst := plus_step (x := c + (a.getD i 0 + b.getD i 0)) hol hnv (by omega)
    have ha0 := a32.get i
    have hb0 := b32.get i
    refine XC.skip ?_
    refine nx (kp 2 rfl (kp 3 rfl (kp 4 rfl (kp 5 rfl (kp 10 rfl kn))))) ?_
    refine XC.seq ?_
    refine XC.block ?_
    refine XC.reg ?_
    refine XL.q (q_move rfl) rfl ?_
    refine XL.q (q_assign rfl) rfl ?_
    refine XL.fin (kp 2 rfl (kp 3 rfl (kp 4 rfl (kp 5 rfl (kp 6 rfl (kp 10 rfl kn)))))) ?_
    refine XC.drawF [0, 1, 2, 3, 4, 5, 6, 7, 8, 9, 10, 11] [(0, 0), (1, 0), (2, 0), (3, 1), (4, 0), (5, 0), (6, 0), (7, 1), (8, 0), (9, 0), (10, 0), (11, 0)] (by kernel_rfl) (by kernel_rfl) fun hs => ?_
    refine XF.q hs rfl (q_move rfl) rfl ?_
    refine XF.q hs rfl (q_move rfl) rfl ?_
    refine XF.q hs rfl (q_idxA (e := 49) (n := 8) (sz := 1) (i := i) rfl rfl (by kernel_rfl) (by kernel_rfl) rfl (by omega)) rfl ?_
    refine XF.r hs rfl (hpg ▸ q_ldN i rfl (by kernel_rfl) At.mem (by omega) (by omega)) rfl ?_
    refine XF.q hs rfl (q_convN (k' := .u64) (a.getD i 0) rfl (by kernel_rfl) (wrap64n (by omega))) rfl ?_
    refine XF.q hs rfl (q_move rfl) rfl ?_
    refine XF.q hs rfl (q_idxA (e := 49) (n := 8) (sz := 1) (i := i) rfl rfl (by kernel_rfl) (by kernel_rfl) rfl (by omega)) rfl ?_
    refine XF.r hs rfl (q_ldN (i) rfl (by kernel_rfl) At.mem (by omega) (by first | omega | (rw [b8]; omega))) rfl ?_
    refine XF.q hs rfl (q_convN (k' := .u64) (b.getD i 0) rfl (by kernel_rfl) (wrap64n (by omega))) rfl ?_
    refine XF.q hs rfl (q_addS 18446744073709551616 (a := a.getD i 0) (b := b.getD i 0) rfl rfl rfl rfl rfl rfl (by omega)) rfl ?_
    refine XF.q hs rfl (q_addS 18446744073709551616 (a := c) (b := a.getD i 0 + b.getD i 0) rfl rfl rfl rfl rfl rfl (by omega)) rfl ?_
    refine XF.q hs rfl (q_assign rfl) rfl ?_
    refine XF.fin (kp 2 rfl (kp 3 rfl (kp 4 rfl (kp 5 rfl (kp 6 rfl (kp 10 rfl kn)))))) ?_
    refine XC.reg ?_
    refine XL.q (q_move rfl) rfl ?_
    refine XL.q (q_move rfl) rfl ?_
    refine XL.q (q_to32 rfl (by kernel_rfl)) rfl ?_
    refine XL.q (q_idxA (e := 49) (n := 8) (sz := 1) (i := i) rfl rfl (by kernel_rfl) (by kernel_rfl) rfl (by omega)) rfl ?_
    refine XL.lo rfl (l_stN i rfl rfl (by kernel_rfl) (by omega) (by omega) UpC.upd ?_)
    refine XL.fin (kp 2 rfl (kp 3 rfl (kp 4 rfl (kp 5 rfl (kp 10 rfl kn))))) ?_
    refine XC.reg1 ?_
    refine XL.q (q_move rfl) rfl ?_
    refine XL.q (q_shrD 32 4294967296 rfl rfl rfl rfl (by decide)) rfl ?_
    refine XL.q (q_assign rfl) rfl ?_
    refine XL.nil ?_
    refine nb ?_
    refine nx (kp 2 rfl (kp 3 rfl (kp 4 rfl (kp 5 rfl (kp 10 rfl kn))))) ?_
    refine XC.reg1 ?_
    refine XL.q (q_num ((i + 1 : Nat) : Int) rfl rfl (add64 (by omega) (by omega) (by omega))) rfl ?_
    refine XL.q (q_move rfl) rfl ?_
    refine XL.nil ?_
    exact rn ⟨i + 1, o ++ [(c + (a.getD i 0 + b.getD i 0)) % 4294967296], (c + (a.getD i 0 + b.getD i 0)) / 4294967296⟩ ⟨by dsimp only; omega, by simp [hol], ho32.app (fun x hx => by rw [List.mem_singleton.1 hx]; exact Nat.mod_lt _ (by decide)), by dsimp only; omega, hst⟩ (by dsimp only; omega) (kp 2 rfl (kp 3 rfl (kp 4 rfl (kp 5 rfl (kp 10 rfl kn))))) (Fit.eq (by rw [hps])) (fun _ h => h)
  ·
    have hge : i = 8 := by simp at hc; omega
    subst hge
    rw [List.take_of_length_le (by omega), List.take_of_length_le (by omega)] at hnv
    have hc0 := add_low hx hy (c := c) (by rw [Nat.mul_comm]; omega)
    subst hc0
    rw [Nat.mul_zero, Nat.add_zero] at hnv
    rw [List.drop_of_length_le (by omega), List.append_nil]
    refine XC.exit ?_
    refine te ?_
    refine re ?_
    refine be rfl ?_
    refine nx (kp 2 rfl (kp 4 rfl kn)) ?_
    refine XC.reg ?_
    refine XL.callV a0 (by kernel_rfl) (order_f _) rfl ?_
    refine XL.lo rfl (l_alloc (cs := [.int .u32 0, .int .u32 0, .int .u32 0, .int .u32 0, .int .u32 0, .int .u32 0, .int .u32 0, .int .u32 0]) (by kernel_rfl) rfl fun b7 => ?_)
    refine XL.lo rfl (l_storeW rfl rfl Cel.cel (by kernel_rfl) (lnS (lnS (lnS (lnS (lnS (lnS (lnS (lnS (ln0))))))))) (allS rfl (allS rfl (allS rfl (allS rfl (allS rfl (allS rfl (allS rfl (allS rfl (all0))))))))) UpC.upd ?_)
    refine XL.fin (kp 2 rfl (kp 4 rfl (kp 7 rfl kn))) ?_
    refine XC.seq ?_
    refine XC.reg ?_
    refine XL.q (q_loadW (n := 8) (cs := nums .u32 o) rfl (by kernel_rfl) At.mem (by rw [nums_len]; omega)) rfl ?_
    refine XL.q (q_loadW (n := 8) (cs := nums .u32 ordW) rfl (by kernel_rfl) At.mem (by rfl)) rfl ?_
    refine XL.callV (aS rfl (aS rfl a0)) (by kernel_rfl) (less_f _ _ (nv o) lN ⟨o, rfl, hol, ho32, rfl⟩ ⟨ordW, rfl, rfl, ord_32, ord_nv⟩ _) rfl ?_
    refine XL.fin (kp 2 rfl (kp 4 rfl (kp 7 rfl (kp 34 rfl kn)))) ?_
    refine XC.cond rfl (fun hc => ?_) (fun hc => ?_)
    ·
      have hlt : nv o < lN := by simpa using hc
      refine XC.reg ?_
      refine XL.q (q_loadW (n := 8) (cs := nums .u32 o) rfl (by kernel_rfl) At.mem (by rw [nums_len]; omega)) rfl ?_
      refine XL.lo rfl (l_storeW (vs := nums .u32 o) rfl rfl rfl (by rw [nums_len, hol]; kernel_rfl) (by rw [nums_len, hol]; rfl) nums_one UpC.upd ?_)
      refine XL.fin (kp 4 rfl kn) ?_
      refine XC.ret ?_
      refine tr ?_
      exact ⟨_, [], [], resC (n := 8) rfl rfl (by kernel_rfl) At.mem (by rw [nums_len]; omega), List.nil_sublist _, by simp, rfl, rfl, o, rfl, hol, ho32, by rw [hnv, Nat.mod_eq_of_lt (by omega)]⟩
    ·
      have hge : lN ≤ nv o := by simpa using hc
      refine XC.skip ?_
      refine nx (kp 2 rfl (kp 4 rfl (kp 7 rfl kn))) ?_
      refine XC.reg ?_
      refine XL.q (q_assign rfl) rfl ?_
      refine XL.fin (kp 2 rfl (kp 4 rfl (kp 5 rfl (kp 7 rfl kn)))) ?_
      refine XC.seq ?_
      refine XC.reg ?_
      refine XL.q (q_move rfl) rfl ?_
      refine XL.fin (kp 2 rfl (kp 4 rfl (kp 5 rfl (kp 7 rfl (kp 36 rfl kn))))) ?_
      refine XC.block ?_
      refine XC.loop (α := Nat × List Nat × Nat) (fun x => [(2, .pointer (some ⟨b2, 0, none⟩)), (4, .pointer (some ⟨b4, 0, none⟩)), (5, .int .u64 (x.2.2 : Int)), (7, .pointer (some ⟨b7, 0, none⟩)), (36, .int .i64 (x.1 : Int))]) (fun x => (b7, blk (nums .u32 ordW) 51) :: [(b4, blk [.int .u32 0, .int .u32 0, .int .u32 0, .int .u32 0, .int .u32 0, .int .u32 0, .int .u32 0, .int .u32 0] 51), (b3, blk (nums .u32 b) 51), (b2, blk (nums .u32 (x.2.1 ++ o.drop x.1)) 51)]) (fun _ => []) (fun x => x.1 ≤ 8 ∧ x.2.1.length = x.1 ∧ w32 x.2.1 ∧ x.2.2 ≤ 1 ∧ nv x.2.1 + nv (ordW.take x.1) = nv (o.take x.1) + xp x.1 * x.2.2) (fun x => 8 - x.1) ⟨0, [], 0⟩ ⟨Nat.zero_le _, rfl, (fun x hx => by cases hx), by decide, rfl⟩ (kp 2 rfl (kp 4 rfl (kp 5 rfl (kp 7 rfl (kp 36 rfl kn))))) .rfl (fun _ h => h) ?_
      rintro ⟨i, q, c⟩ ⟨hi, hql, hq32, hc1, hnw⟩
      dsimp only at hi hql hq32 hc1 hnw ⊢
      refine XC.reg ?_
      refine XL.q (q_bin rfl rfl rfl) rfl ?_
      refine XL.fin (kp 2 rfl (kp 4 rfl (kp 5 rfl (kp 7 rfl (kp 36 rfl (kp 37 rfl kn)))))) ?_
      refine XC.seq ?_
      refine XC.cond rfl (fun hc => ?_) (fun hc => ?_)
      ·
        have hlt : i < 8 := by simp at hc; omega
        have hpl := part_len (o := q) (a := o) hql hol hi
        have hpg := part_get (a := o) hql
        have hps := fun x => part_set (x := x) hql (show i < o.length by omega)
        have ha0 := ho32.get i
        have hb0 := ord_32.get i
        have ho8 : ordW.length = 8 := rfl
        have hsb := sub_borrow (c := c) ha0 hb0 hc1 rfl rfl
        generalize hdd : (o.getD i 0 + (18446744073709551616 - ordW.getD i 0)) % 18446744073709551616 = dd at *
        generalize hee : (dd + (18446744073709551616 - c)) % 18446744073709551616 = ee at *
        have hst := less_next hql hnw hsb.1
        refine XC.skip ?_
        refine nx (kp 2 rfl (kp 4 rfl (kp 5 rfl (kp 7 rfl (kp 36 rfl kn))))) ?_
        refine XC.seq ?_
        refine XC.block ?_
        refine XC.reg ?_
        refine XL.q (q_move rfl) rfl ?_
        refine XL.q (q_assign rfl) rfl ?_
        refine XL.fin (kp 2 rfl (kp 4 rfl (kp 5 rfl (kp 7 rfl (kp 8 rfl (kp 36 rfl kn)))))) ?_
        refine XC.drawF [0, 1, 2, 3, 4, 5, 6, 7, 8, 9, 10, 11] [(0, 0), (1, 0), (2, 1), (3, 0), (4, 0), (5, 0), (6, 1), (7, 0), (8, 0), (9, 0), (10, 0), (11, 0)] (by kernel_rfl) (by kernel_rfl) fun hs => ?_
        refine XF.q hs rfl (q_move rfl) rfl ?_
        refine XF.q hs rfl (q_idxA (e := 49) (n := 8) (sz := 1) (i := i) rfl rfl (by kernel_rfl) (by kernel_rfl) rfl (by omega)) rfl ?_
        refine XF.r hs rfl (hpg ▸ q_ldN i rfl (by kernel_rfl) At.mem (by omega) (by omega)) rfl ?_
        refine XF.q hs rfl (q_convN (k' := .u64) (o.getD i 0) rfl (by kernel_rfl) (wrap64n (by omega))) rfl ?_
        refine XF.q hs rfl (q_move rfl) rfl ?_
        refine XF.q hs rfl (q_idxA (e := 49) (n := 8) (sz := 1) (i := i) rfl rfl (by kernel_rfl) (by kernel_rfl) rfl (by omega)) rfl ?_
        refine XF.r hs rfl (q_ldN i rfl (by kernel_rfl) At.mem (by omega) (by omega)) rfl ?_
        refine XF.q hs rfl (q_convN (k' := .u64) (ordW.getD i 0) rfl (by kernel_rfl) (wrap64n (by omega))) rfl ?_
        refine XF.q hs rfl (hdd ▸ q_subM 18446744073709551616 (a := o.getD i 0) (b := ordW.getD i 0) rfl rfl rfl rfl rfl rfl (by omega)) rfl ?_
        refine XF.q hs rfl (q_move rfl) rfl ?_
        refine XF.q hs rfl (hee ▸ q_subM 18446744073709551616 (a := dd) (b := c) rfl rfl rfl rfl rfl rfl (by omega)) rfl ?_
        refine XF.q hs rfl (q_assign rfl) rfl ?_
        refine XF.fin (kp 2 rfl (kp 4 rfl (kp 7 rfl (kp 8 rfl (kp 9 rfl (kp 36 rfl kn)))))) ?_
        refine XC.reg ?_
        refine XL.q (q_move rfl) rfl ?_
        refine XL.q (q_move rfl) rfl ?_
        refine XL.q (q_to32 rfl (by kernel_rfl)) rfl ?_
        refine XL.q (q_idxA (e := 49) (n := 8) (sz := 1) (i := i) rfl rfl (by kernel_rfl) (by kernel_rfl) rfl (by omega)) rfl ?_
        refine XL.lo rfl (l_stN i rfl rfl (by kernel_rfl) (by omega) (by omega) UpC.upd ?_)
        refine XL.fin (kp 2 rfl (kp 4 rfl (kp 7 rfl (kp 9 rfl (kp 36 rfl kn))))) ?_
        refine XC.reg1 ?_
        refine XL.q (q_move rfl) rfl ?_
        refine XL.q (q_shrD 63 9223372036854775808 rfl rfl rfl rfl (by decide)) rfl ?_
        refine XL.q (q_assign rfl) rfl ?_
        refine XL.nil ?_
        refine nb ?_
        refine nx (kp 2 rfl (kp 4 rfl (kp 5 rfl (kp 7 rfl (kp 36 rfl kn))))) ?_
        refine XC.reg1 ?_
        refine XL.q (q_num ((i + 1 : Nat) : Int) rfl rfl (add64 (by omega) (by omega) (by omega))) rfl ?_
        refine XL.q (q_move rfl) rfl ?_
        refine XL.nil ?_
        exact rn ⟨i + 1, q ++ [ee % 4294967296], ee / 9223372036854775808⟩ ⟨by dsimp only; omega, by simp [hql], hq32.app (fun x hx => by rw [List.mem_singleton.1 hx]; exact Nat.mod_lt _ (by decide)), hsb.2, hst⟩ (by dsimp only; omega) (kp 2 rfl (kp 4 rfl (kp 5 rfl (kp 7 rfl (kp 36 rfl kn))))) (Fit.eq (by rw [hps])) (fun _ h => h)
      ·
        have hge8 : i = 8 := by simp at hc; omega
        subst hge8
        have hfin := less_end (o := q) (a := o) (b := ordW) (c := c) (by omega) hq32 ho32 (by rw [hol]; exact hnw) (by rw [ord_nv]; exact hge)
        rw [List.drop_of_length_le (by omega), List.append_nil]
        refine XC.exit ?_
        refine te ?_
        refine re ?_
        refine be rfl ?_
        refine nx (kp 2 rfl (kp 4 rfl kn)) ?_
        refine XC.reg ?_
        refine XL.q (q_loadW (n := 8) (cs := nums .u32 q) rfl (by kernel_rfl) At.mem (by rw [nums_len]; omega)) rfl ?_
        refine XL.lo rfl (l_storeW (vs := nums .u32 q) rfl rfl rfl (by rw [nums_len, hql]; kernel_rfl) (by rw [nums_len, hql]; rfl) nums_one UpC.upd ?_)
        refine XL.fin (kp 4 rfl kn) ?_
        refine XC.ret ?_
        exact ⟨_, [], [], resC (n := 8) rfl rfl (by kernel_rfl) At.mem (by rw [nums_len]; omega), List.nil_sublist _, by simp, rfl, rfl, q, rfl, hql, hq32, by rw [hfin, hnv, ord_nv, Nat.mod_eq_sub_mod (by omega), Nat.mod_eq_of_lt (by omega)]⟩

end Go.Proofs.YtcfdeohjhhpmcaaDoor
/- The walks of package sign: times, number, bytes. -/
set_option linter.unusedVariables false
set_option linter.unusedSimpArgs false
namespace Go.Proofs.YtcfdeohjhhpmcaaDoor
open Go.Px
/-- So many times a number, as told by the bits from i on. -/
def tmN (X Y i : Nat) : Nat := X / 2 ^ i * Y % lN
theorem tm_step (X Y i : Nat) : tmN X Y i = (if X / 2 ^ i % 2 = 1 then ((tmN X Y (i + 1) + tmN X Y (i + 1)) % lN + Y) % lN else (tmN X Y (i + 1) + tmN X Y (i + 1)) % lN) := by
  have h : X / 2 ^ i = 2 * (X / 2 ^ (i + 1)) + X / 2 ^ i % 2 := by
    rw [Nat.pow_succ, ← Nat.div_div_eq_div_mul]; omega
  unfold tmN
  generalize lN = L
  have hb : X / 2 ^ i % 2 = 0 ∨ X / 2 ^ i % 2 = 1 := by omega
  rcases hb with hb | hb
  · rw [if_neg (by omega)]
    conv => lhs; rw [h, hb, Nat.add_zero, Nat.two_mul, Nat.add_mul, Nat.add_mod]
  · rw [if_pos hb]
    conv => lhs; rw [h, hb, Nat.add_mul, Nat.one_mul, Nat.two_mul, Nat.add_mul]
    rw [← Nat.add_mod, Nat.mod_add_mod]
theorem w32_z : w32 [0, 0, 0, 0, 0, 0, 0, 0] := by unfold w32; decide
theorem w32_o : w32 [1, 0, 0, 0, 0, 0, 0, 0] := by unfold w32; decide
theorem tmN_lt (X Y i : Nat) : tmN X Y i < lN := Nat.mod_lt _ (by decide)
theorem Sc.lt_of {v : Value} {n m : Nat} (h : Sc v n) (e : n = m) : Sc v m := e ▸ h

theorem nums_inj {k : IntKind} {a b : List Nat} (h : nums k a = nums k b) : a = b := by
  unfold nums at h
  induction a generalizing b with
  | nil => cases b with
    | nil => rfl
    | cons y b => simp at h
  | cons x a ih => cases b with
    | nil => simp at h
    | cons y b =>
      simp only [List.map_cons, List.cons.injEq, Value.int.injEq, true_and] at h
      rw [ih h.2, Int.ofNat.inj h.1]

set_option maxRecDepth 100000 in
theorem stimes_f (v u : Value) (x y0 : Nat) (hv : Sc v x) (hu : Sc u y0) (hy : y0 < lN) (A : Mem) : FnX Tryd.prog 26 [v, u] [] A fun r M J => M = [] ∧ J = [] ∧ Sc r (x * y0 % lN) := by
  obtain ⟨a, rfl, a8, a32, av⟩ := hv
  obtain ⟨b, rfl, b8, b32, bv_⟩ := hu
  refine FnX.enter (N := 27) Tryd.func26 rfl rfl rfl fun w => ?_
  refine XC.keep (kp 0 rfl (kp 1 rfl kn)) ?_
  refine XC.reg ?_
  refine XL.lo rfl (l_box rfl (by first | exact Cel.cel | rfl) rfl fun b2 => ?_)
  refine XL.lo rfl (l_box rfl (by first | exact Cel.cel | rfl) rfl fun b3 => ?_)
  refine XL.lo rfl (l_alloc (cs := [.int .u32 0, .int .u32 0, .int .u32 0, .int .u32 0, .int .u32 0, .int .u32 0, .int .u32 0, .int .u32 0]) (by kernel_rfl) rfl fun b4 => ?_)
  refine XL.fin (kp 2 rfl (kp 3 rfl (kp 4 rfl kn))) ?_
  refine XC.reg ?_
  refine XL.lo rfl (l_alloc (cs := [.int .u32 0, .int .u32 0, .int .u32 0, .int .u32 0, .int .u32 0, .int .u32 0, .int .u32 0, .int .u32 0]) (by kernel_rfl) rfl fun b5 => ?_)
  refine XL.fin (kp 2 rfl (kp 3 rfl (kp 4 rfl (kp 5 rfl kn)))) ?_
  refine XC.seq ?_
  refine XC.reg ?_
  refine XL.q (q_assign rfl) rfl ?_
  refine XL.fin (kp 2 rfl (kp 3 rfl (kp 4 rfl (kp 5 rfl (kp 6 rfl kn))))) ?_
  refine XC.block ?_
  refine XC.fit (M' := [(b5, blk (nums .u32 [0, 0, 0, 0, 0, 0, 0, 0]) 51), (b4, blk [.int .u32 0, .int .u32 0, .int .u32 0, .int .u32 0, .int .u32 0, .int .u32 0, .int .u32 0, .int .u32 0] 51), (b3, blk (nums .u32 b) 51), (b2, blk (nums .u32 a) 51)]) (Fit.eq rfl) (fun _ h => h) ?_
  refine XC.loop (α := Nat × List Nat) (fun y => [(2, .pointer (some ⟨b2, 0, none⟩)), (3, .pointer (some ⟨b3, 0, none⟩)), (4, .pointer (some ⟨b4, 0, none⟩)), (5, .pointer (some ⟨b5, 0, none⟩)), (6, .int .i64 ((y.1 : Int) - 1))]) (fun y => [(b5, blk (nums .u32 y.2) 51), (b4, blk [.int .u32 0, .int .u32 0, .int .u32 0, .int .u32 0, .int .u32 0, .int .u32 0, .int .u32 0, .int .u32 0] 51), (b3, blk (nums .u32 b) 51), (b2, blk (nums .u32 a) 51)]) (fun _ => []) (fun y => y.1 ≤ 256 ∧ Sc (.agg (nums .u32 y.2).toArray) (tmN x y0 y.1)) (fun y => y.1) (256, [0, 0, 0, 0, 0, 0, 0, 0]) ⟨Nat.le_refl _, _, rfl, rfl, w32_z, by unfold tmN; rw [Nat.div_eq_of_lt (by have := nv_lt a32; rw [a8, xp8] at this; rw [← av]; exact this), Nat.zero_mul, Nat.zero_mod]; rfl⟩ (kp 2 rfl (kp 3 rfl (kp 4 rfl (kp 5 rfl (kp 6 rfl kn))))) .rfl (fun _ h => h) ?_
  rintro ⟨j, o⟩ ⟨hj, ho⟩
  dsimp only at hj ho ⊢
  have ho0 := ho
  obtain ⟨o_, e_, o8, o32, ov⟩ := ho
  obtain rfl : o = o_ := nums_inj (by simpa using e_)
  refine XC.seq ?_
  refine XC.reg ?_
  refine XL.q (q_move rfl) rfl ?_
  refine XL.q (q_bin rfl rfl rfl) rfl ?_
  refine XL.fin (kp 2 rfl (kp 3 rfl (kp 4 rfl (kp 5 rfl (kp 6 rfl (kp 8 rfl kn)))))) ?_
  refine XC.cond rfl (fun hc => ?_) (fun hc => ?_)
  ·
    have hj0 : 0 < j := by simp at hc; omega
    obtain ⟨i, rfl⟩ : ∃ i, j = i + 1 := ⟨j - 1, by omega⟩
    rw [show (((i + 1 : Nat) : Int) - 1) = (i : Int) by omega]
    have hts := tm_step x y0 i
    have hwb := word_bit a32 i
    rw [av] at hwb
    have htl := tmN_lt x y0 (i + 1)
    refine XC.skip ?_
    refine nx (kp 2 rfl (kp 3 rfl (kp 4 rfl (kp 5 rfl (kp 6 rfl kn))))) ?_
    refine XC.seq ?_
    refine XC.block ?_
    refine XC.reg ?_
    refine XL.q (q_loadW (n := 8) (cs := nums .u32 o) rfl (by kernel_rfl) At.mem (by rw [nums_len]; omega)) rfl ?_
    refine XL.q (q_loadW (n := 8) (cs := nums .u32 o) rfl (by kernel_rfl) At.mem (by rw [nums_len]; omega)) rfl ?_
    refine XL.call (aS rfl (aS rfl a0)) (by kernel_rfl) (sadd_f _ _ _ _ ho0 ho0 htl htl _) rfl ?_
    rintro r1 M1 J1 ⟨rfl, rfl, k1⟩
    have h1 := k1
    obtain ⟨s, rfl, s8, s32, sv⟩ := k1
    refine XL.lo rfl (l_storeW (vs := nums .u32 s) rfl rfl rfl (by rw [nums_len, s8]; kernel_rfl) (by rw [nums_len, nums_len, o8, s8]) nums_one UpC.upd ?_)
    refine XL.fin (kp 2 rfl (kp 3 rfl (kp 4 rfl (kp 5 rfl (kp 6 rfl kn))))) ?_
    refine XC.reg ?_
    refine XL.q (q_move rfl) rfl ?_
    refine XL.q (q_quoD 32 rfl rfl rfl (by decide) (wrapI (by omega))) rfl ?_
    refine XL.q (q_idxA (e := 49) (n := 8) (sz := 1) (i := i / 32) rfl rfl (by kernel_rfl) (by kernel_rfl) rfl (by omega)) rfl ?_
    refine XL.q (q_ldN (i / 32) rfl (by kernel_rfl) At.mem (by omega) (by omega)) rfl ?_
    refine XL.q (q_move rfl) rfl ?_
    refine XL.q (q_remD 32 rfl rfl rfl (by decide)) rfl ?_
    refine XL.q (q_shrI (a := a.getD (i / 32) 0) (b := i % 32) rfl rfl rfl rfl (by show _ ≤ 32; omega)) rfl ?_
    refine XL.q (hwb ▸ q_andD 1 2 rfl rfl rfl rfl rfl (by show _ < 4294967296; exact Nat.lt_of_le_of_lt (Nat.div_le_self _ _) (a32.get _)) (by decide)) rfl ?_
    refine XL.q (q_bin rfl rfl rfl) rfl ?_
    refine XL.fin (kp 2 rfl (kp 3 rfl (kp 4 rfl (kp 5 rfl (kp 6 rfl (kp 22 rfl kn)))))) ?_
    refine XC.cond rfl (fun hc => ?_) (fun hc => ?_)
    ·
      have hb1 : x / 2 ^ i % 2 = 1 := by revert hc; generalize x / 2 ^ i % 2 = z; intro hc; simp at hc; omega
      rw [if_pos hb1] at hts
      refine XC.reg1 ?_
      refine XL.q (q_loadW (n := 8) (cs := nums .u32 s) rfl (by kernel_rfl) At.mem (by rw [nums_len]; omega)) rfl ?_
      refine XL.q (q_loadW (n := 8) (cs := nums .u32 b) rfl (by kernel_rfl) At.mem (by rw [nums_len]; omega)) rfl ?_
      refine XL.call (aS rfl (aS rfl a0)) (by kernel_rfl) (sadd_f _ _ _ _ h1 ⟨b, rfl, b8, b32, bv_⟩ (Nat.mod_lt _ (by decide)) hy _) rfl ?_
      rintro r2 M2 J2 ⟨rfl, rfl, k2⟩
      rw [← hts] at k2
      have h2 := k2
      obtain ⟨t, rfl, t8, t32, tv⟩ := k2
      refine XL.lo rfl (l_storeW (vs := nums .u32 t) rfl rfl rfl (by rw [nums_len, t8]; kernel_rfl) (by rw [nums_len, nums_len, s8, t8]) nums_one UpC.upd ?_)
      refine XL.nil ?_
      refine nb ?_
      refine nx (kp 2 rfl (kp 3 rfl (kp 4 rfl (kp 5 rfl (kp 6 rfl kn))))) ?_
      refine XC.reg1 ?_
      refine XL.q (q_move rfl) rfl ?_
      refine XL.q (q_num ((i : Int) - 1) rfl rfl (sub64 rfl (by omega) (by omega))) rfl ?_
      refine XL.q (q_assign rfl) rfl ?_
      refine XL.nil ?_
      exact rn (i, t) ⟨by dsimp only; omega, h2⟩ (by dsimp only; omega) (kp 2 rfl (kp 3 rfl (kp 4 rfl (kp 5 rfl (kp 6 rfl kn))))) .rfl (fun _ h => h)
    ·
      have hb1 : ¬ x / 2 ^ i % 2 = 1 := by revert hc; generalize x / 2 ^ i % 2 = z; intro hc; simp at hc; omega
      rw [if_neg hb1] at hts
      refine XC.skip ?_
      refine nb ?_
      refine nx (kp 2 rfl (kp 3 rfl (kp 4 rfl (kp 5 rfl (kp 6 rfl kn))))) ?_
      refine XC.reg1 ?_
      refine XL.q (q_move rfl) rfl ?_
      refine XL.q (q_num ((i : Int) - 1) rfl rfl (sub64 rfl (by omega) (by omega))) rfl ?_
      refine XL.q (q_assign rfl) rfl ?_
      refine XL.nil ?_
      exact rn (i, s) ⟨by dsimp only; omega, by dsimp only; rw [hts]; exact h1⟩ (by dsimp only; omega) (kp 2 rfl (kp 3 rfl (kp 4 rfl (kp 5 rfl (kp 6 rfl kn))))) .rfl (fun _ h => h)
  ·
    have hj0 : j = 0 := by simp at hc; omega
    subst hj0
    refine XC.exit ?_
    refine te ?_
    refine re ?_
    refine be rfl ?_
    refine nx (kp 4 rfl (kp 5 rfl kn)) ?_
    refine XC.reg ?_
    refine XL.q (q_loadW (n := 8) (cs := nums .u32 o) rfl (by kernel_rfl) At.mem (by rw [nums_len]; omega)) rfl ?_
    refine XL.lo rfl (l_storeW (vs := nums .u32 o) rfl rfl rfl (by rw [nums_len, o8]; kernel_rfl) (by rw [nums_len, o8]; rfl) nums_one UpC.upd ?_)
    refine XL.fin (kp 4 rfl kn) ?_
    refine XC.ret ?_
    exact ⟨_, [], [], resC (n := 8) rfl rfl (by kernel_rfl) At.mem (by rw [nums_len]; omega), List.nil_sublist _, by simp, rfl, rfl, by rw [show x * y0 % lN = tmN x y0 0 by unfold tmN; rw [Nat.pow_zero, Nat.div_one]]; exact ho0⟩

set_option maxRecDepth 100000 in
theorem snumber_f (pv : Value) (p : List Nat) (A : Mem) (hp : Rd A 1 pv p.length (nums .u8 p)) (hp256 : ∀ x ∈ p, x < 256) (hpl : p.length ≤ 1000000) : FnX Tryd.prog 23 [pv] [] A fun r M J => M = [] ∧ J = [] ∧ Sc r (bv p % lN) := by
  haveI := hp.cel
  refine FnX.enter (N := 30) Tryd.func23 rfl rfl rfl fun w => ?_
  refine XC.keep (kp 0 rfl kn) ?_
  refine XC.reg ?_
  refine XL.lo rfl (l_alloc (cs := [.int .u32 0, .int .u32 0, .int .u32 0, .int .u32 0, .int .u32 0, .int .u32 0, .int .u32 0, .int .u32 0]) (by kernel_rfl) rfl fun b2 => ?_)
  refine XL.fin (kp 0 rfl (kp 2 rfl kn)) ?_
  refine XC.reg ?_
  refine XL.lo rfl (l_alloc (cs := [.int .u32 0, .int .u32 0, .int .u32 0, .int .u32 0, .int .u32 0, .int .u32 0, .int .u32 0, .int .u32 0]) (by kernel_rfl) rfl fun b3 => ?_)
  refine XL.fin (kp 0 rfl (kp 2 rfl (kp 3 rfl kn))) ?_
  refine XC.seq ?_
  refine XC.reg ?_
  refine XL.q (q_move rfl) rfl ?_
  refine XL.q (q_lenV2 (sz := 1) rfl (by kernel_rfl) hp) rfl ?_
  refine XL.q (q_num ((8 * p.length : Nat) : Int) rfl rfl (mul64 (by omega) (by omega) (by omega))) rfl ?_
  refine XL.q (q_num (((8 * p.length : Nat) : Int) - 1) rfl rfl (sub64 rfl (by omega) (by omega))) rfl ?_
  refine XL.q (q_assign rfl) rfl ?_
  refine XL.fin (kp 0 rfl (kp 2 rfl (kp 3 rfl (kp 4 rfl kn)))) ?_
  refine XC.block ?_
  refine XC.fit (M' := [(b3, blk (nums .u32 [0, 0, 0, 0, 0, 0, 0, 0]) 51), (b2, blk [.int .u32 0, .int .u32 0, .int .u32 0, .int .u32 0, .int .u32 0, .int .u32 0, .int .u32 0, .int .u32 0] 51)]) (Fit.eq rfl) (fun _ h => h) ?_
  refine XC.loop (α := Nat × List Nat) (fun y => [(0, pv), (2, .pointer (some ⟨b2, 0, none⟩)), (3, .pointer (some ⟨b3, 0, none⟩)), (4, .int .i64 ((y.1 : Int) - 1))]) (fun y => [(b3, blk (nums .u32 y.2) 51), (b2, blk [.int .u32 0, .int .u32 0, .int .u32 0, .int .u32 0, .int .u32 0, .int .u32 0, .int .u32 0, .int .u32 0] 51)]) (fun _ => []) (fun y => y.1 ≤ 8 * p.length ∧ Sc (.agg (nums .u32 y.2).toArray) (tmN (bv p) 1 y.1)) (fun y => y.1) (8 * p.length, [0, 0, 0, 0, 0, 0, 0, 0]) ⟨Nat.le_refl _, _, rfl, rfl, w32_z, by unfold tmN; rw [Nat.div_eq_of_lt (by have := bv_lt hp256; rwa [show 256 ^ p.length = 2 ^ (8 * p.length) by rw [Nat.pow_mul]] at this), Nat.zero_mul, Nat.zero_mod]; rfl⟩ (kp 0 rfl (kp 2 rfl (kp 3 rfl (kp 4 rfl kn)))) .rfl (fun _ h => h) ?_
  rintro ⟨j, o⟩ ⟨hj, ho⟩
  dsimp only at hj ho ⊢
  have ho0 := ho
  obtain ⟨o_, e_, o8, o32, ov⟩ := ho
  obtain rfl : o = o_ := nums_inj (by simpa using e_)
  refine XC.seq ?_
  refine XC.reg ?_
  refine XL.q (q_move rfl) rfl ?_
  refine XL.q (q_bin rfl rfl rfl) rfl ?_
  refine XL.fin (kp 0 rfl (kp 2 rfl (kp 3 rfl (kp 4 rfl (kp 10 rfl kn))))) ?_
  refine XC.cond rfl (fun hc => ?_) (fun hc => ?_)
  ·
    have hj0 : 0 < j := by simp at hc; omega
    obtain ⟨i, rfl⟩ : ∃ i, j = i + 1 := ⟨j - 1, by omega⟩
    rw [show (((i + 1 : Nat) : Int) - 1) = (i : Int) by omega]
    have hts := tm_step (bv p) 1 i
    have hwb := bv_bit hp256 i
    have htl := tmN_lt (bv p) 1 (i + 1)
    have hpb : p.getD (i / 8) 0 < 256 := getD_lt hp256 (by decide)
    refine XC.skip ?_
    refine nx (kp 0 rfl (kp 2 rfl (kp 3 rfl (kp 4 rfl kn)))) ?_
    refine XC.seq ?_
    refine XC.block ?_
    refine XC.reg ?_
    refine XL.q (q_loadW (n := 8) (cs := nums .u32 o) rfl (by kernel_rfl) At.mem (by rw [nums_len]; omega)) rfl ?_
    refine XL.q (q_loadW (n := 8) (cs := nums .u32 o) rfl (by kernel_rfl) At.mem (by rw [nums_len]; omega)) rfl ?_
    refine XL.call (aS rfl (aS rfl a0)) (by kernel_rfl) (sadd_f _ _ _ _ ho0 ho0 htl htl _) rfl ?_
    rintro r1 M1 J1 ⟨rfl, rfl, k1⟩
    have h1 := k1
    obtain ⟨s, rfl, s8, s32, sv⟩ := k1
    refine XL.lo rfl (l_storeW (vs := nums .u32 s) rfl rfl rfl (by rw [nums_len, s8]; kernel_rfl) (by rw [nums_len, nums_len, o8, s8]) nums_one UpC.upd ?_)
    refine XL.fin (kp 0 rfl (kp 2 rfl (kp 3 rfl (kp 4 rfl kn)))) ?_
    refine XC.reg ?_
    refine XL.q (q_move rfl) rfl ?_
    refine XL.q (q_move rfl) rfl ?_
    refine XL.q (q_quoD 8 rfl rfl rfl (by decide) (wrapI (by omega))) rfl ?_
    refine XL.q (q_atV2 (sz := 1) (a := i / 8) rfl rfl (by kernel_rfl) rfl hp (by omega)) rfl ?_
    refine XL.q (q_ldV (j := i / 8) (u := .int .u8 ((p.getD (i / 8) 0 : Nat) : Int)) (hp.mono SubC.sub) rfl (by kernel_rfl) (nums_get (by omega))) rfl ?_
    refine XL.q (q_move rfl) rfl ?_
    refine XL.q (q_remD 8 rfl rfl rfl (by decide)) rfl ?_
    refine XL.q (q_shrI (a := p.getD (i / 8) 0) (b := i % 8) rfl rfl rfl rfl (by show _ ≤ 8; omega)) rfl ?_
    refine XL.q (hwb ▸ q_andD 1 2 rfl rfl rfl rfl rfl (by show _ < 256; exact Nat.lt_of_le_of_lt (Nat.div_le_self _ _) hpb) (by decide)) rfl ?_
    refine XL.q (q_bin rfl rfl rfl) rfl ?_
    refine XL.fin (kp 0 rfl (kp 2 rfl (kp 3 rfl (kp 4 rfl (kp 25 rfl kn))))) ?_
    refine XC.cond rfl (fun hc => ?_) (fun hc => ?_)
    ·
      have hb1 : bv p / 2 ^ i % 2 = 1 := by revert hc; generalize bv p / 2 ^ i % 2 = z; intro hc; simp at hc; omega
      rw [if_pos hb1] at hts
      refine XC.reg1 ?_
      refine XL.q (q_loadW (n := 8) (cs := nums .u32 s) rfl (by kernel_rfl) At.mem (by rw [nums_len]; omega)) rfl ?_
      refine XL.q (q_build (place := fun i => some (i * 1, 1)) (z := [.int .u32 0, .int .u32 0, .int .u32 0, .int .u32 0, .int .u32 0, .int .u32 0, .int .u32 0, .int .u32 0]) (fun _ => by kernel_rfl) (eS rfl e0) (bdS 0 1 rfl (by rfl) bd0)) rfl ?_
      refine XL.call (aS rfl (aS rfl a0)) (by kernel_rfl) (sadd_f _ _ _ 1 h1 ⟨[1, 0, 0, 0, 0, 0, 0, 0], rfl, rfl, w32_o, by decide⟩ (Nat.mod_lt _ (by decide)) (by decide) _) rfl ?_
      rintro r2 M2 J2 ⟨rfl, rfl, k2⟩
      rw [← hts] at k2
      have h2 := k2
      obtain ⟨t, rfl, t8, t32, tv⟩ := k2
      refine XL.lo rfl (l_storeW (vs := nums .u32 t) rfl rfl rfl (by rw [nums_len, t8]; kernel_rfl) (by rw [nums_len, nums_len, s8, t8]) nums_one UpC.upd ?_)
      refine XL.nil ?_
      refine nb ?_
      refine nx (kp 0 rfl (kp 2 rfl (kp 3 rfl (kp 4 rfl kn)))) ?_
      refine XC.reg1 ?_
      refine XL.q (q_move rfl) rfl ?_
      refine XL.q (q_num ((i : Int) - 1) rfl rfl (sub64 rfl (by omega) (by omega))) rfl ?_
      refine XL.q (q_assign rfl) rfl ?_
      refine XL.nil ?_
      exact rn (i, t) ⟨by dsimp only; omega, h2⟩ (by dsimp only; omega) (kp 0 rfl (kp 2 rfl (kp 3 rfl (kp 4 rfl kn)))) .rfl (fun _ h => h)
    ·
      have hb1 : ¬ bv p / 2 ^ i % 2 = 1 := by revert hc; generalize bv p / 2 ^ i % 2 = z; intro hc; simp at hc; omega
      rw [if_neg hb1] at hts
      refine XC.skip ?_
      refine nb ?_
      refine nx (kp 0 rfl (kp 2 rfl (kp 3 rfl (kp 4 rfl kn)))) ?_
      refine XC.reg1 ?_
      refine XL.q (q_move rfl) rfl ?_
      refine XL.q (q_num ((i : Int) - 1) rfl rfl (sub64 rfl (by omega) (by omega))) rfl ?_
      refine XL.q (q_assign rfl) rfl ?_
      refine XL.nil ?_
      exact rn (i, s) ⟨by dsimp only; omega, by dsimp only; rw [hts]; exact h1⟩ (by dsimp only; omega) (kp 0 rfl (kp 2 rfl (kp 3 rfl (kp 4 rfl kn)))) .rfl (fun _ h => h)
  ·
    have hj0 : j = 0 := by simp at hc; omega
    subst hj0
    refine XC.exit ?_
    refine te ?_
    refine re ?_
    refine be rfl ?_
    refine nx (kp 2 rfl (kp 3 rfl kn)) ?_
    refine XC.reg ?_
    refine XL.q (q_loadW (n := 8) (cs := nums .u32 o) rfl (by kernel_rfl) At.mem (by rw [nums_len]; omega)) rfl ?_
    refine XL.lo rfl (l_storeW (vs := nums .u32 o) rfl rfl rfl (by rw [nums_len, o8]; kernel_rfl) (by rw [nums_len, o8]; rfl) nums_one UpC.upd ?_)
    refine XL.fin (kp 2 rfl kn) ?_
    refine XC.ret ?_
    exact ⟨_, [], [], resC (n := 8) rfl rfl (by kernel_rfl) At.mem (by rw [nums_len]; omega), List.nil_sublist _, by simp, rfl, rfl, by rw [show bv p % lN = tmN (bv p) 1 0 by unfold tmN; rw [Nat.pow_zero, Nat.div_one, Nat.mul_one]]; exact ho0⟩

set_option maxRecDepth 100000 in
theorem sbytes_f (v : Value) (n : Nat) (hv : Sc v n) (A : Mem) : FnV Tryd.prog 21 [v] A (.agg (nums .u8 (digs n 32)).toArray) := by
  obtain ⟨a, rfl, a8, a32, av⟩ := hv
  refine FnX.enter (N := 21) Tryd.func21 rfl rfl rfl fun w => ?_
  refine XC.keep (kp 0 rfl kn) ?_
  refine XC.reg ?_
  refine XL.lo rfl (l_box rfl (by first | exact Cel.cel | rfl) rfl fun b1 => ?_)
  refine XL.lo rfl (l_alloc (cs := [.int .u8 0, .int .u8 0, .int .u8 0, .int .u8 0, .int .u8 0, .int .u8 0, .int .u8 0, .int .u8 0, .int .u8 0, .int .u8 0, .int .u8 0, .int .u8 0, .int .u8 0, .int .u8 0, .int .u8 0, .int .u8 0, .int .u8 0, .int .u8 0, .int .u8 0, .int .u8 0, .int .u8 0, .int .u8 0, .int .u8 0, .int .u8 0, .int .u8 0, .int .u8 0, .int .u8 0, .int .u8 0, .int .u8 0, .int .u8 0, .int .u8 0, .int .u8 0]) (by kernel_rfl) rfl fun b2 => ?_)
  refine XL.fin (kp 1 rfl (kp 2 rfl kn)) ?_
  refine XC.reg ?_
  refine XL.lo rfl (l_alloc (cs := [.int .u8 0, .int .u8 0, .int .u8 0, .int .u8 0, .int .u8 0, .int .u8 0, .int .u8 0, .int .u8 0, .int .u8 0, .int .u8 0, .int .u8 0, .int .u8 0, .int .u8 0, .int .u8 0, .int .u8 0, .int .u8 0, .int .u8 0, .int .u8 0, .int .u8 0, .int .u8 0, .int .u8 0, .int .u8 0, .int .u8 0, .int .u8 0, .int .u8 0, .int .u8 0, .int .u8 0, .int .u8 0, .int .u8 0, .int .u8 0, .int .u8 0, .int .u8 0]) (by kernel_rfl) rfl fun b3 => ?_)
  refine XL.fin (kp 1 rfl (kp 2 rfl (kp 3 rfl kn))) ?_
  refine XC.seq ?_
  refine XC.reg ?_
  refine XL.q (q_move rfl) rfl ?_
  refine XL.fin (kp 1 rfl (kp 2 rfl (kp 3 rfl (kp 5 rfl kn)))) ?_
  refine XC.block ?_
  refine XC.fit (M' := [(b3, blk (nums .u8 (digs n 0 ++ (List.replicate 32 0).drop 0)) 47), (b2, blk [.int .u8 0, .int .u8 0, .int .u8 0, .int .u8 0, .int .u8 0, .int .u8 0, .int .u8 0, .int .u8 0, .int .u8 0, .int .u8 0, .int .u8 0, .int .u8 0, .int .u8 0, .int .u8 0, .int .u8 0, .int .u8 0, .int .u8 0, .int .u8 0, .int .u8 0, .int .u8 0, .int .u8 0, .int .u8 0, .int .u8 0, .int .u8 0, .int .u8 0, .int .u8 0, .int .u8 0, .int .u8 0, .int .u8 0, .int .u8 0, .int .u8 0, .int .u8 0] 47), (b1, blk (nums .u32 a) 51)]) (Fit.eq rfl) (fun _ h => h) ?_
  refine XC.loop (α := Nat) (fun i => [(1, .pointer (some ⟨b1, 0, none⟩)), (2, .pointer (some ⟨b2, 0, none⟩)), (3, .pointer (some ⟨b3, 0, none⟩)), (5, .int .i64 (i : Int))]) (fun i => [(b3, blk (nums .u8 (digs n i ++ (List.replicate 32 0).drop i)) 47), (b2, blk [.int .u8 0, .int .u8 0, .int .u8 0, .int .u8 0, .int .u8 0, .int .u8 0, .int .u8 0, .int .u8 0, .int .u8 0, .int .u8 0, .int .u8 0, .int .u8 0, .int .u8 0, .int .u8 0, .int .u8 0, .int .u8 0, .int .u8 0, .int .u8 0, .int .u8 0, .int .u8 0, .int .u8 0, .int .u8 0, .int .u8 0, .int .u8 0, .int .u8 0, .int .u8 0, .int .u8 0, .int .u8 0, .int .u8 0, .int .u8 0, .int .u8 0, .int .u8 0] 47), (b1, blk (nums .u32 a) 51)]) (fun _ => []) (fun i => i ≤ 32) (fun i => 32 - i) 0 (Nat.zero_le _) (kp 1 rfl (kp 2 rfl (kp 3 rfl (kp 5 rfl kn)))) .rfl (fun _ h => h) ?_
  rintro i hi
  have hdl := digs_len n i
  have hpl : (digs n i ++ (List.replicate 32 0).drop i).length = 32 := part_len hdl (by simp) hi
  refine XC.reg ?_
  refine XL.q (q_bin rfl rfl rfl) rfl ?_
  refine XL.fin (kp 1 rfl (kp 2 rfl (kp 3 rfl (kp 5 rfl (kp 6 rfl kn))))) ?_
  refine XC.seq ?_
  refine XC.cond rfl (fun hc => ?_) (fun hc => ?_)
  ·
    have hlt : i < 32 := by simp at hc; omega
    have hwb := word_byte a32 i
    rw [av] at hwb
    refine XC.skip ?_
    refine nx (kp 1 rfl (kp 2 rfl (kp 3 rfl (kp 5 rfl kn)))) ?_
    refine XC.seq ?_
    refine XC.block ?_
    refine XC.reg ?_
    refine XL.q (q_move rfl) rfl ?_
    refine XL.q (q_assign rfl) rfl ?_
    refine XL.fin (kp 1 rfl (kp 2 rfl (kp 3 rfl (kp 4 rfl (kp 5 rfl kn))))) ?_
    refine XC.reg1 ?_
    refine XL.q (q_move rfl) rfl ?_
    refine XL.q (q_move rfl) rfl ?_
    refine XL.q (q_quoD 4 rfl rfl rfl (by decide) (wrapI (by omega))) rfl ?_
    refine XL.q (q_idxA (e := 49) (n := 8) (sz := 1) (i := i / 4) rfl rfl (by kernel_rfl) (by kernel_rfl) rfl (by omega)) rfl ?_
    refine XL.q (q_ldN (i / 4) rfl (by kernel_rfl) At.mem (by omega) (by omega)) rfl ?_
    refine XL.q (q_move rfl) rfl ?_
    refine XL.q (q_remD 4 rfl rfl rfl (by decide)) rfl ?_
    refine XL.q (q_num ((8 * (i % 4) : Nat) : Int) rfl rfl (mul64 (by omega) (by omega) (by omega))) rfl ?_
    refine XL.q (q_shrI (a := a.getD (i / 4) 0) (b := 8 * (i % 4)) rfl rfl rfl rfl (by show _ ≤ 32; omega)) rfl ?_
    refine XL.q (hwb ▸ q_to8 rfl (by kernel_rfl)) rfl ?_
    refine XL.q (q_idxA (e := 5) (n := 32) (sz := 1) (i := i) rfl rfl (by kernel_rfl) (by kernel_rfl) rfl (by omega)) rfl ?_
    refine XL.lo rfl (l_stN i rfl rfl (by kernel_rfl) (by omega) (by omega) UpC.upd ?_)
    refine XL.nil ?_
    refine nb ?_
    refine nx (kp 1 rfl (kp 2 rfl (kp 3 rfl (kp 5 rfl kn)))) ?_
    refine XC.reg1 ?_
    refine XL.q (q_num ((i + 1 : Nat) : Int) rfl rfl (add64 (by omega) (by omega) (by omega))) rfl ?_
    refine XL.q (q_move rfl) rfl ?_
    refine XL.nil ?_
    exact rn (i + 1) (by omega) (by omega) (kp 1 rfl (kp 2 rfl (kp 3 rfl (kp 5 rfl kn)))) (Fit.eq (by rw [part_set hdl (by simpa using hlt), digs_succ])) (fun _ h => h)
  ·
    have hge : i = 32 := by simp at hc; omega
    subst hge
    rw [show (List.replicate 32 0).drop 32 = ([] : List Nat) from rfl, List.append_nil] at *
    refine XC.exit ?_
    refine te ?_
    refine re ?_
    refine be rfl ?_
    refine nx (kp 2 rfl (kp 3 rfl kn)) ?_
    refine XC.reg ?_
    refine XL.q (q_loadW (n := 32) (cs := nums .u8 (digs n 32)) rfl (by kernel_rfl) At.mem (by rw [nums_len]; omega)) rfl ?_
    refine XL.lo rfl (l_storeW (vs := nums .u8 (digs n 32)) rfl rfl rfl (by rw [nums_len, digs_len]; kernel_rfl) (by rw [nums_len, digs_len]; rfl) nums_one UpC.upd ?_)
    refine XL.fin (kp 2 rfl kn) ?_
    refine XC.ret ?_
    exact ⟨_, [], [], resC (n := 32) rfl rfl (by kernel_rfl) At.mem (by rw [nums_len, digs_len]), List.nil_sublist _, by simp, rfl, rfl, rfl⟩

end Go.Proofs.YtcfdeohjhhpmcaaDoor
