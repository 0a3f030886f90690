/-
  Numbers as rows of words of 32 bits, the lowest first. No program in sight.
-/
import Derived.Test.YthmnlkpikgglbaaGreatDoorEx
set_option linter.unusedVariables false
set_option linter.unusedSimpArgs false
namespace Go.Px

def nv : List Nat → Nat
  | [] => 0
  | w :: r => w + 4294967296 * nv r
def w32 (ws : List Nat) : Prop := ∀ x ∈ ws, x < 4294967296
def xp (n : Nat) : Nat := 4294967296 ^ n
theorem xp0 : xp 0 = 1 := rfl
theorem xpS (n : Nat) : xp (n + 1) = xp n * 4294967296 := Nat.pow_succ _ _
theorem xpA (n m : Nat) : xp (n + m) = xp n * xp m := Nat.pow_add _ _ _
theorem xp_pos (n : Nat) : 0 < xp n := Nat.pow_pos (by decide)
theorem nv_append (a b : List Nat) : nv (a ++ b) = nv a + xp a.length * nv b := by
  induction a with
  | nil => simp [nv, xp0]
  | cons x a ih => simp only [List.cons_append, nv, ih, List.length_cons, xpS]; grind
theorem nv_repl (n : Nat) : nv (List.replicate n 0) = 0 := by
  induction n with
  | zero => rfl
  | succ n ih => simp [List.replicate_succ, nv, ih]
theorem nv_split (ws : List Nat) (j : Nat) (h : j ≤ ws.length) : nv ws = nv (ws.take j) + xp j * nv (ws.drop j) := by
  conv => lhs; rw [← List.take_append_drop j ws, nv_append, List.length_take, Nat.min_eq_left h]
theorem nv_take_succ {ws : List Nat} {j : Nat} (h : j < ws.length) : nv (ws.take (j + 1)) = nv (ws.take j) + xp j * ws.getD j 0 := by
  rw [List.take_add_one, List.getElem?_eq_getElem h, nv_append, List.length_take, Nat.min_eq_left (by omega), List.getD, List.getElem?_eq_getElem h]
  simp [nv]
theorem nv_lt {ws : List Nat} (h : w32 ws) : nv ws < xp ws.length := by
  induction ws with
  | nil => simp [nv, xp0]
  | cons x ws ih =>
    have h1 := h x (by simp)
    have h2 := ih (fun y hy => h y (by simp [hy]))
    simp only [nv, List.length_cons, xpS]
    omega
theorem w32.take {ws : List Nat} (h : w32 ws) (n : Nat) : w32 (ws.take n) := fun x hx => h x (List.mem_of_mem_take hx)
theorem w32.drop {ws : List Nat} (h : w32 ws) (n : Nat) : w32 (ws.drop n) := fun x hx => h x (List.mem_of_mem_drop hx)
theorem w32.get {ws : List Nat} (h : w32 ws) (n : Nat) : ws.getD n 0 < 4294967296 := getD_lt h (by decide)
theorem w32.set {ws : List Nat} (h : w32 ws) {n x : Nat} (hx : x < 4294967296) : w32 (ws.set n x) := fun y hy => by
  rcases List.mem_or_eq_of_mem_set hy with h1 | rfl
  · exact h y h1
  · exact hx
theorem w32.app {a b : List Nat} (ha : w32 a) (hb : w32 b) : w32 (a ++ b) := fun x hx => (List.mem_append.1 hx).elim (ha x) (hb x)
theorem w32_repl (n : Nat) : w32 (List.replicate n 0) := fun x hx => by rw [(List.mem_replicate.1 hx).2]; decide
theorem nv_set {ws : List Nat} {j x : Nat} (h : j < ws.length) : nv (ws.set j x) + xp j * ws.getD j 0 = nv ws + xp j * x := by
  induction ws generalizing j with
  | nil => simp at h
  | cons y ws ih =>
    cases j with
    | zero => simp [nv, xp0]; omega
    | succ j =>
      have := ih (j := j) (by simpa using h)
      simp only [List.set_cons_succ, nv, xpS, List.getD_cons_succ]
      grind

/-! ### Without noughts behind -/
def tl (ws : List Nat) : Nat → Nat
  | 0 => 0
  | n + 1 => if ws.getD n 0 = 0 then tl ws n else n + 1
theorem tl_le (ws : List Nat) : ∀ n, tl ws n ≤ n
  | 0 => Nat.le_refl _
  | n + 1 => by
    rw [tl]; split
    · have := tl_le ws n; omega
    · exact Nat.le_refl _
theorem tl_nv (ws : List Nat) : ∀ n, n ≤ ws.length → nv (ws.take (tl ws n)) = nv (ws.take n)
  | 0, _ => rfl
  | n + 1, h => by
    rw [tl]; split
    · rename_i h0
      rw [tl_nv ws n (by omega), nv_take_succ (by omega), h0]; simp
    · rfl
theorem tl_top (ws : List Nat) : ∀ n k, tl ws n = k + 1 → ws.getD k 0 ≠ 0
  | 0, k, h => by simp [tl] at h
  | n + 1, k, h => by
    rw [tl] at h
    split at h
    · exact tl_top ws n k h
    · rename_i h0
      obtain rfl : n = k := by omega
      exact h0
def trim (ws : List Nat) : List Nat := ws.take (tl ws ws.length)
theorem trim_len (ws : List Nat) : (trim ws).length = tl ws ws.length := by
  have := tl_le ws ws.length
  simp [trim]; omega
theorem trim_nv (ws : List Nat) : nv (trim ws) = nv ws := by
  unfold trim; rw [tl_nv ws _ (Nat.le_refl _), List.take_length]
theorem trim_w32 {ws : List Nat} (h : w32 ws) : w32 (trim ws) := h.take _
theorem trim_top {ws : List Nat} {k : Nat} (h : (trim ws).length = k + 1) : (trim ws).getD k 0 ≠ 0 := by
  rw [trim_len] at h
  have := tl_top ws _ k h
  unfold trim
  rw [h]
  simpa [List.getD, List.getElem?_take] using this
/-- No nought behind. -/
def nrm (ws : List Nat) : Prop := ∀ k, ws.length = k + 1 → ws.getD k 0 ≠ 0
theorem trim_nrm (ws : List Nat) : nrm (trim ws) := fun k h => trim_top h
theorem nrm_le {ws : List Nat} (h : nrm ws) (h0 : ws ≠ []) : xp (ws.length - 1) ≤ nv ws := by
  cases hl : ws.length with
  | zero => exact absurd (List.eq_nil_of_length_eq_zero hl) h0
  | succ k =>
    have h1 := h k hl
    have h2 := nv_take_succ (ws := ws) (j := k) (by omega)
    rw [show k + 1 = ws.length from hl.symm, List.take_length] at h2
    have : xp k * 1 ≤ xp k * ws.getD k 0 := Nat.mul_le_mul_left _ (by omega)
    simp only [Nat.add_sub_cancel]
    omega
theorem xp_mono {a b : Nat} (h : a ≤ b) : xp a ≤ xp b := Nat.pow_le_pow_right (by decide) h
theorem nv_lt_len {a b : List Nat} (ha : w32 a) (hb : nrm b) (h : a.length < b.length) : nv a < nv b := by
  have h1 := nv_lt ha
  have h2 := nrm_le hb (by rintro rfl; simp at h)
  have := xp_mono (show a.length ≤ b.length - 1 by omega)
  omega
theorem nv_lt_at {a b : List Nat} (ha : w32 a) {j : Nat} (hj : j < a.length) (hl : a.length = b.length) (hlt : a.getD j 0 < b.getD j 0) (he : a.drop (j + 1) = b.drop (j + 1)) : nv a < nv b := by
  have h1 := nv_split a (j + 1) (by omega)
  have h2 := nv_split b (j + 1) (by omega)
  rw [nv_take_succ hj, he] at h1
  rw [nv_take_succ (by omega)] at h2
  have h3 := nv_lt (ha.take j)
  rw [List.length_take, Nat.min_eq_left (by omega)] at h3
  have h4 : xp j * (a.getD j 0 + 1) ≤ xp j * b.getD j 0 := Nat.mul_le_mul_left _ hlt
  rw [Nat.mul_add, Nat.mul_one] at h4
  omega
theorem nv_inj_nrm {a b : List Nat} (ha : w32 a) (hb : w32 b) (na : nrm a) (nb : nrm b) (h : nv a = nv b) : a = b := by
  have hl : a.length = b.length := by
    rcases Nat.lt_trichotomy a.length b.length with h1 | h1 | h1
    · have := nv_lt_len ha nb h1; omega
    · exact h1
    · have := nv_lt_len hb na h1; omega
  clear na nb
  induction a generalizing b with
  | nil => exact (List.eq_nil_of_length_eq_zero (by simpa using hl.symm)).symm
  | cons x a ih =>
    cases b with
    | nil => simp at hl
    | cons y b =>
      simp only [nv] at h
      have hx := ha x (by simp)
      have hy := hb y (by simp)
      have h1 : x = y := by omega
      have h2 : nv a = nv b := by omega
      rw [h1, ih (fun z hz => ha z (by simp [hz])) (fun z hz => hb z (by simp [hz])) h2 (by simpa using hl)]

/-! ### The product, word by word -/
theorem times_step {os b : List Nat} {i k c ai n0 x : Nat} (hk : k < b.length) (hlen : i + k < os.length) (h : nv os + c * xp (i + k) = n0 + xp i * (ai * nv (b.take k))) (hx : x = ai * b.getD k 0 + os.getD (i + k) 0 + c) :
    nv (os.set (i + k) (x % 4294967296)) + (x >>> 32) * xp (i + (k + 1)) = n0 + xp i * (ai * nv (b.take (k + 1))) := by
  have h1 := nv_set (x := x % 4294967296) hlen
  have h2 := Nat.mod_add_div x 4294967296
  rw [Nat.shiftRight_eq_div_pow, nv_take_succ hk, ← Nat.add_assoc, xpS, show (2 : Nat) ^ 32 = 4294967296 from rfl]
  generalize x % 4294967296 = r at *
  generalize x / 4294967296 = q at *
  generalize nv (os.set (i + k) r) = n1 at *
  generalize nv os = n2 at *
  generalize os.getD (i + k) 0 = o at *
  generalize b.getD k 0 = bk at *
  generalize nv (b.take k) = nb at *
  rw [xpA] at *
  generalize xp i = X at *
  generalize xp k = Y at *
  grind
theorem times_end {os a : List Nat} {i lb c n0 nb : Nat} (hi : i < a.length) (hlen : i + lb < os.length) (h : nv os + c * xp (i + lb) = n0 + xp i * (a.getD i 0 * nb)) (h0 : os.getD (i + lb) 0 = 0) (hn : n0 = nv (a.take i) * nb) :
    nv (os.set (i + lb) c) = nv (a.take (i + 1)) * nb := by
  have h1 := nv_set (x := c) hlen
  rw [h0] at h1
  rw [nv_take_succ hi]
  grind
end Go.Px
