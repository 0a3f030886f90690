/-
  Rows of words and rows of bytes as numbers: what Low, Bytes, Bit, Plus, Less and Down do. No program in sight.
-/
import Derived.Test.YtkoaheaahbnmfaaNatL
import Derived.Test.YtkoaheaahbnmfaaFldB
set_option linter.unusedVariables false
set_option linter.unusedSimpArgs false
namespace Go.Px
theorem xp_two (n : Nat) : xp n = 2 ^ (32 * n) := by rw [xp, Nat.pow_mul]
theorem bv_take_succ {p : List Nat} {j : Nat} (h : j < p.length) : bv (p.take (j + 1)) = bv (p.take j) + 256 ^ j * p.getD j 0 := by
  rw [List.take_add_one, List.getElem?_eq_getElem h, bv_append, List.length_take, Nat.min_eq_left (by omega), List.getD, List.getElem?_eq_getElem h]
  simp [bv]
theorem nv_word {ws : List Nat} (h : w32 ws) (i : Nat) : nv ws / xp i % 4294967296 = ws.getD i 0 := by
  induction ws generalizing i with
  | nil => simp [nv]
  | cons b r ih =>
    have h1 := h b (by simp)
    cases i with
    | zero => simp only [nv, xp0, Nat.div_one, List.getD_cons_zero]; omega
    | succ i =>
      rw [List.getD_cons_succ, ← ih (fun x hx => h x (by simp [hx])) i, xpS, Nat.mul_comm, ← Nat.div_div_eq_div_mul]
      congr 2
      simp only [nv]; omega
theorem or_add {a b r : Nat} (h : a < 2 ^ r) : (a ||| b * 2 ^ r) = a + b * 2 ^ r := by
  rw [Nat.or_comm, ← Nat.shiftLeft_eq, ← Nat.shiftLeft_add_eq_or_of_lt h, Nat.add_comm]
theorem low_step {ws p : List Nat} {i : Nat} (hp : i < p.length) (hl : i / 4 < ws.length) (h32 : w32 ws) (hb : p.getD i 0 < 256) (hnv : nv ws = bv (p.take i)) (h1 : ws.getD (i / 4) 0 < 256 ^ (i % 4)) (h2 : ∀ j, i / 4 < j → ws.getD j 0 = 0) :
    w32 (ws.set (i / 4) (ws.getD (i / 4) 0 ||| p.getD i 0 * 2 ^ (8 * (i % 4)) % 4294967296)) ∧ nv (ws.set (i / 4) (ws.getD (i / 4) 0 ||| p.getD i 0 * 2 ^ (8 * (i % 4)) % 4294967296)) = bv (p.take (i + 1)) ∧
    (ws.set (i / 4) (ws.getD (i / 4) 0 ||| p.getD i 0 * 2 ^ (8 * (i % 4)) % 4294967296)).getD ((i + 1) / 4) 0 < 256 ^ ((i + 1) % 4) ∧ ∀ j, (i + 1) / 4 < j → (ws.set (i / 4) (ws.getD (i / 4) 0 ||| p.getD i 0 * 2 ^ (8 * (i % 4)) % 4294967296)).getD j 0 = 0 := by
  have hr : i % 4 < 4 := Nat.mod_lt _ (by decide)
  have e256 : ∀ n, 256 ^ n = 2 ^ (8 * n) := fun n => by rw [Nat.pow_mul]
  rw [e256] at h1
  generalize hx : ws.getD (i / 4) 0 = x at *
  generalize hbb : p.getD i 0 = b at *
  have hpow : 2 ^ (8 * (i % 4)) * 256 ≤ 4294967296 := by
    rw [show (256 : Nat) = 2 ^ 8 from rfl, show (4294967296 : Nat) = 2 ^ 32 from rfl, ← Nat.pow_add]
    exact Nat.pow_le_pow_right (by decide) (by omega)
  have hpos := Nat.two_pow_pos (8 * (i % 4))
  have hbm : b * 2 ^ (8 * (i % 4)) ≤ 255 * 2 ^ (8 * (i % 4)) := Nat.mul_le_mul_right _ (by omega)
  rw [Nat.mod_eq_of_lt (by omega), or_add h1]
  have hlt : x + b * 2 ^ (8 * (i % 4)) < 2 ^ (8 * (i % 4)) * 256 := by omega
  refine ⟨h32.set (by omega), ?_, ?_, ?_⟩
  · have h3 := nv_set (ws := ws) (j := i / 4) (x := x + b * 2 ^ (8 * (i % 4))) hl
    rw [hx, hnv] at h3
    rw [bv_take_succ hp, hbb]
    have e : 256 ^ i * b = xp (i / 4) * (b * 2 ^ (8 * (i % 4))) := by
      rw [e256, xp_two, Nat.mul_comm b, ← Nat.mul_assoc, ← Nat.pow_add]
      congr 2; omega
    rw [e]
    rw [Nat.mul_add] at h3
    omega
  · rw [e256]
    by_cases hc : (i + 1) / 4 = i / 4
    · rw [hc, List.getD, List.getElem?_set_self hl, Option.getD_some]
      refine Nat.lt_of_lt_of_le hlt ?_
      rw [show (256 : Nat) = 2 ^ 8 from rfl, ← Nat.pow_add]
      exact Nat.pow_le_pow_right (by decide) (by omega)
    · have := h2 ((i + 1) / 4) (by omega)
      rw [List.getD, List.getElem?_set_ne (by omega), ← List.getD, this]
      exact Nat.two_pow_pos _
  · intro j hj
    rw [List.getD, List.getElem?_set_ne (by omega), ← List.getD]
    exact h2 j (by omega)
/-- So many bytes of a number, the lowest first. -/
def digs (x n : Nat) : List Nat := (List.range n).map fun i => x / 256 ^ i % 256
theorem digs_len (x n : Nat) : (digs x n).length = n := by simp [digs]
theorem digs_lt (x n : Nat) : ∀ y ∈ digs x n, y < 256 := fun y hy => by
  simp only [digs, List.mem_map] at hy
  obtain ⟨i, _, rfl⟩ := hy
  exact Nat.mod_lt _ (by decide)
theorem digs_succ (x n : Nat) : digs x (n + 1) = digs x n ++ [x / 256 ^ n % 256] := by simp [digs, List.range_succ]
theorem digs_zero {x i : Nat} (h : x < 256 ^ i) : ∀ n, i ≤ n → digs x n = digs x i ++ List.replicate (n - i) 0
  | 0, hn => by obtain rfl : i = 0 := by omega
                simp
  | n + 1, hn => by
    by_cases e : i = n + 1
    · subst e; simp
    · have hle : i ≤ n := by omega
      rw [digs_succ, digs_zero h n hle, Nat.div_eq_of_lt (Nat.lt_of_lt_of_le h (Nat.pow_le_pow_right (by decide) hle)), show n + 1 - i = (n - i) + 1 by omega, List.replicate_succ', List.append_assoc]
theorem bv_digs (x n : Nat) : bv (digs x n) = x % 256 ^ n := by
  have := bv_digits x n
  rw [show (256 : Nat) ^ n = 2 ^ (8 * n) by rw [Nat.pow_mul], ← this]
  congr 1
  unfold digs
  apply List.map_congr_left
  intro j _
  rw [Nat.pow_mul]
theorem word_byte {ws : List Nat} (h : w32 ws) (i : Nat) : ws.getD (i / 4) 0 / 2 ^ (8 * (i % 4)) % 256 = nv ws / 256 ^ i % 256 := by
  rw [← nv_word h, show (256 : Nat) ^ i = 2 ^ (8 * i) by rw [Nat.pow_mul], xp_two, show (4294967296 : Nat) = 2 ^ (8 * (i % 4)) * 2 ^ (32 - 8 * (i % 4)) by rw [← Nat.pow_add, show 8 * (i % 4) + (32 - 8 * (i % 4)) = 32 by omega], Nat.mod_mul_right_div_self,
    show (2 : Nat) ^ (32 - 8 * (i % 4)) = 256 * 2 ^ (24 - 8 * (i % 4)) by rw [show (256 : Nat) = 2 ^ 8 from rfl, ← Nat.pow_add]; congr 1; omega, Nat.mod_mul_right_mod, Nat.div_div_eq_div_mul, ← Nat.pow_add]
  congr 3; omega
theorem word_bit {ws : List Nat} (h : w32 ws) (i : Nat) : ws.getD (i / 32) 0 / 2 ^ (i % 32) % 2 = nv ws / 2 ^ i % 2 := by
  rw [← nv_word h, xp_two, show (4294967296 : Nat) = 2 ^ (i % 32) * 2 ^ (32 - i % 32) by rw [← Nat.pow_add, show i % 32 + (32 - i % 32) = 32 by omega], Nat.mod_mul_right_div_self,
    show (2 : Nat) ^ (32 - i % 32) = 2 * 2 ^ (31 - i % 32) by rw [← Nat.pow_succ']; congr 1; omega, Nat.mod_mul_right_mod, Nat.div_div_eq_div_mul, ← Nat.pow_add]
  congr 3; omega
theorem nv_bit_high {ws : List Nat} (h : w32 ws) {i : Nat} (hi : ws.length ≤ i / 32) : nv ws / 2 ^ i % 2 = 0 := by
  have h1 := nv_lt h
  rw [xp_two] at h1
  rw [Nat.div_eq_of_lt (Nat.lt_of_lt_of_le h1 (Nat.pow_le_pow_right (by decide) (by omega)))]
theorem getD_high {ws : List Nat} {i : Nat} (h : ws.length ≤ i) : ws.getD i 0 = 0 := by simp [List.getD, List.getElem?_eq_none h]
theorem nv_take_succ' (ws : List Nat) (j : Nat) : nv (ws.take (j + 1)) = nv (ws.take j) + xp j * ws.getD j 0 := by
  by_cases h : j < ws.length
  · exact nv_take_succ h
  · rw [getD_high (by omega), List.take_of_length_le (by omega), List.take_of_length_le (by omega), Nat.mul_zero, Nat.add_zero]
theorem plus_step {o a b : List Nat} {i c x : Nat} (hl : o.length = i) (h : nv o + xp i * c = nv (a.take i) + nv (b.take i)) (hx : x = c + a.getD i 0 + b.getD i 0) :
    nv (o ++ [x % 4294967296]) + xp (i + 1) * (x / 4294967296) = nv (a.take (i + 1)) + nv (b.take (i + 1)) := by
  rw [nv_append, hl, nv_take_succ', nv_take_succ', xpS]
  have e : xp i * (x % 4294967296) + xp i * 4294967296 * (x / 4294967296) = xp i * x := by
    rw [Nat.mul_assoc, ← Nat.mul_add, Nat.mod_add_div]
  have e2 : xp i * x = xp i * c + xp i * a.getD i 0 + xp i * b.getD i 0 := by rw [hx, Nat.mul_add, Nat.mul_add]
  simp only [nv, Nat.mul_zero, Nat.add_zero]
  omega
theorem nv_take_le (ws : List Nat) (n : Nat) : nv (ws.take n) ≤ nv ws := by
  by_cases h : n ≤ ws.length
  · rw [nv_split ws n h]; omega
  · rw [List.take_of_length_le (by omega)]; exact Nat.le_refl _
theorem less_next {o a b : List Nat} {i c c' d : Nat} (hl : o.length = i) (h : nv o + nv (b.take i) = nv (a.take i) + xp i * c) (hd : d + b.getD i 0 + c = a.getD i 0 + 4294967296 * c') :
    nv (o ++ [d]) + nv (b.take (i + 1)) = nv (a.take (i + 1)) + xp (i + 1) * c' := by
  rw [nv_append, hl, nv_take_succ', nv_take_succ', xpS]
  have e : xp i * d + xp i * b.getD i 0 + xp i * c = xp i * a.getD i 0 + xp i * 4294967296 * c' := by
    rw [← Nat.mul_add, ← Nat.mul_add, hd, Nat.mul_add, Nat.mul_assoc]
  simp only [nv, Nat.mul_zero, Nat.add_zero]
  omega
theorem less_end {o a b : List Nat} {c : Nat} (hl : o.length = a.length) (ho : w32 o) (ha : w32 a) (h : nv o + nv (b.take a.length) = nv (a.take a.length) + xp a.length * c) (hle : nv b ≤ nv a) : nv o = nv a - nv b := by
  have h1 := nv_lt ho
  have h2 := nv_lt ha
  have h3 := nv_take_le b a.length
  rw [List.take_length] at h
  rw [hl] at h1
  have hc : c = 0 := by
    rcases Nat.eq_zero_or_pos c with h0 | h0
    · exact h0
    · have := Nat.le_mul_of_pos_right (xp a.length) h0
      omega
  subst hc
  have h4 : nv (b.take a.length) = nv b := by
    by_cases hb : a.length ≤ b.length
    · have h5 := nv_split b a.length hb
      have h6 : nv (b.drop a.length) = 0 := by
        rcases Nat.eq_zero_or_pos (nv (b.drop a.length)) with h0 | h0
        · exact h0
        · have := Nat.le_mul_of_pos_right (xp a.length) h0
          omega
      rw [h6] at h5; omega
    · rw [List.take_of_length_le (by omega)]
  omega
/-- So many words of a number. -/
def wrds (x n : Nat) : List Nat := (List.range n).map fun i => x / xp i % 4294967296
theorem wrds_len (x n : Nat) : (wrds x n).length = n := by simp [wrds]
theorem wrds_succ (x n : Nat) : wrds x (n + 1) = wrds x n ++ [x / xp n % 4294967296] := by simp [wrds, List.range_succ]
theorem wrds_w32 (x n : Nat) : w32 (wrds x n) := fun y hy => by
  simp only [wrds, List.mem_map] at hy
  obtain ⟨i, _, rfl⟩ := hy
  exact Nat.mod_lt _ (by decide)
theorem nv_wrds (x : Nat) : ∀ n, nv (wrds x n) = x % xp n
  | 0 => by simp [wrds, nv, xp0, Nat.mod_one]
  | n + 1 => by
    rw [wrds_succ, nv_append, nv_wrds x n, wrds_len, xpS]
    simp only [nv, Nat.mul_zero, Nat.add_zero]
    rw [Nat.mod_mul]
/-- One word of a number that is shifted down. -/
theorem down_word {a : List Nat} (ha : w32 a) {n i : Nat} (hi : n / 32 ≤ i) : (a.getD i 0 ||| a.getD (i + 1) 0 * 4294967296) / 2 ^ (n % 32) % 4294967296 = nv a / 2 ^ n / xp (i - n / 32) % 4294967296 := by
  have h1 := ha.get i
  rw [show (4294967296 : Nat) = 2 ^ 32 from rfl] at h1 ⊢
  rw [or_add h1]
  have e : a.getD i 0 + a.getD (i + 1) 0 * 2 ^ 32 = nv a / xp i % 2 ^ 64 := by
    rw [← nv_word ha i, ← nv_word ha (i + 1), xpS, show (2 : Nat) ^ 64 = 4294967296 * 4294967296 from rfl, Nat.mod_mul, Nat.div_div_eq_div_mul]
    omega
  rw [e, xp_two, xp_two, Nat.div_div_eq_div_mul, ← Nat.pow_add]
  have hm : n % 32 < 32 := Nat.mod_lt _ (by decide)
  rw [show (2 : Nat) ^ 64 = 2 ^ (n % 32) * (2 ^ 32 * 2 ^ (32 - n % 32)) by rw [← Nat.pow_add, ← Nat.pow_add]; congr 1; omega, Nat.mod_mul_right_div_self, Nat.mod_mul_right_mod, Nat.div_div_eq_div_mul, ← Nat.pow_add]
  congr 3; omega
end Go.Px
