/-
  The numbers of the rounds from the roots of primes. No program in sight.
-/
import Derived.Test.YthmnlkpikgglbaaGreatDoorNatL
import Derived.Test.YthmnlkpikgglbaaGreatDoorShaL
set_option linter.unusedVariables false
set_option linter.unusedSimpArgs false
namespace Go.Px

def isPr (n : Nat) : Bool := decide (1 < n) && (List.range n).all fun i => decide (i < 2) || n % i != 0
theorem isPr_no {n i : Nat} (h2 : 2 ≤ i) (hi : i < n) (h : n % i = 0) : isPr n = false := by
  rw [isPr, Bool.and_eq_false_iff]
  right
  rw [List.all_eq_false]
  exact ⟨i, List.mem_range.2 hi, by simp [h]; omega⟩
theorem isPr_yes {n : Nat} (h : ∀ j, 2 ≤ j → j < n → n % j ≠ 0) : isPr n = decide (1 < n) := by
  have : ((List.range n).all fun i => decide (i < 2) || n % i != 0) = true := by
    rw [List.all_eq_true]
    intro j hj
    have := List.mem_range.1 hj
    by_cases h2 : j < 2
    · simp [h2]
    · simp [h2]; exact h j (by omega) this
  rw [isPr, this, Bool.and_true]
def rootStep (k p lo b : Nat) : Nat := if (lo + 2 ^ b) ^ k ≤ p * xp k then lo + 2 ^ b else lo
def rootD (k p : Nat) : Nat → Nat → Nat
  | 0, lo => lo
  | j + 1, lo => rootD k p j (rootStep k p lo j)
def root (k p : Nat) : Nat := rootD k p 40 0 % 4294967296
def rl (k n : Nat) : List Nat := ((List.range n).filter isPr).map (root k)
theorem rl_no {k p : Nat} (h : isPr p = false) : rl k (p + 1) = rl k p := by
  simp [rl, List.range_succ, h]
theorem rl_yes {k p : Nat} (h : isPr p = true) : rl k (p + 1) = rl k p ++ [root k p] := by
  simp [rl, List.range_succ, h]
theorem rl_pre (k p : Nat) : ∀ d, ∃ t, rl k (p + d) = rl k p ++ t
  | 0 => ⟨[], by simp⟩
  | d + 1 => by
    obtain ⟨t, ht⟩ := rl_pre k p d
    cases h : isPr (p + d) with
    | false => exact ⟨t, by rw [← Nat.add_assoc, rl_no h, ht]⟩
    | true => exact ⟨t ++ [root k (p + d)], by rw [← Nat.add_assoc, rl_yes h, ht, List.append_assoc]⟩
theorem rl_take {k p : Nat} (h : p ≤ 312) : (rl k 312).take (rl k p).length = rl k p := by
  obtain ⟨t, ht⟩ := rl_pre k p (312 - p)
  rw [show p + (312 - p) = 312 by omega] at ht
  rw [ht, List.take_left]
theorem rl_count (k : Nat) : (rl k 312).length = 64 := by
  unfold rl
  rw [List.length_map]
  decide +kernel
theorem rl_lt (k n : Nat) : ∀ x ∈ rl k n, x < 4294967296 := by
  intro x hx
  obtain ⟨y, _, rfl⟩ := List.mem_map.1 hx
  exact Nat.mod_lt _ (by decide)
theorem add_shl {lo j : Nat} (hj : j < 40) (h : lo + 2 ^ (j + 1) ≤ 1099511627776) : (lo + (1 <<< j) % 18446744073709551616) % 18446744073709551616 = lo + 2 ^ j := by
  rw [Nat.shiftLeft_eq, Nat.one_mul]
  have : 2 ^ (j + 1) = 2 * 2 ^ j := by rw [Nat.pow_succ]; omega
  rw [Nat.mod_eq_of_lt (show 2 ^ j < 18446744073709551616 by omega)]
  exact Nat.mod_eq_of_lt (by omega)
theorem rootStep_le {k p lo j : Nat} (h : lo + 2 ^ (j + 1) ≤ 1099511627776) : rootStep k p lo j + 2 ^ j ≤ 1099511627776 := by
  have : 2 ^ (j + 1) = 2 * 2 ^ j := by rw [Nat.pow_succ]; omega
  unfold rootStep; split <;> omega
theorem roots_k : (rl 3 312).take 64 = kTab := by decide +kernel
theorem roots_h : (rl 2 312).take 8 = hFirst.list := by decide +kernel

/-! ### The words of a block, one by one -/
def pw (P : List Nat) (i : Nat) : Nat → Nat
  | 0 => 0
  | j + 1 => pw P i j * 256 + P.getD (4 * i + j) 0
theorem pw_four (P : List Nat) (i : Nat) : pw P i 4 = word P i := by simp [pw, word]
theorem pw_lt {P : List Nat} (h : ∀ j, P.getD j 0 < 256) (i : Nat) : ∀ j, pw P i j < 256 ^ j
  | 0 => by simp [pw]
  | j + 1 => by
    have h1 := pw_lt h i j
    have h2 := h (4 * i + j)
    rw [pw, Nat.pow_succ]
    omega
def wAt (P : List Nat) (i : Nat) : List Nat := wx (words P (min i 16)) (i - 16)
theorem wAt_len (P : List Nat) (i : Nat) : (wAt P i).length = i := by
  unfold wAt; rw [wx_len, words_len]; omega
theorem wAt_low {P : List Nat} {i : Nat} (h : i < 16) : wAt P (i + 1) = wAt P i ++ [word P i] := by
  unfold wAt
  rw [show min (i + 1) 16 = i + 1 by omega, show min i 16 = i by omega, show i + 1 - 16 = 0 by omega, show i - 16 = 0 by omega]
  exact words_succ P i
theorem wAt_high {P : List Nat} {i : Nat} (h : 16 ≤ i) : wAt P (i + 1) = wAt P i ++ [wnext (wAt P i) i] := by
  unfold wAt
  rw [show min (i + 1) 16 = 16 by omega, show min i 16 = 16 by omega, show i + 1 - 16 = (i - 16) + 1 by omega, wx, words_len, show 16 + (i - 16) = i by omega]
theorem wAt_lt {P : List Nat} (h : ∀ x ∈ P, x < 256) (i : Nat) : ∀ x ∈ wAt P i, x < 4294967296 := wx_lt (words_lt h _) _
theorem blockP_get {m : List Nat} {a k : Nat} (h : k < 64) : ((m.drop a).take 64).getD k 0 = m.getD (a + k) 0 := by
  simp [List.getD, List.getElem?_take, h]
theorem step_alt (s : S8) (k w : Nat) : (tmp1 s k w + (bs0 s.a + maj s.a s.b s.c) % 4294967296) % 4294967296 = (s.step k w).a := by
  simp only [S8.step]; omega
theorem plus_list (s r : S8) (i : Nat) (h : i < 8) : (s.plus r).list.getD i 0 = (s.list.getD i 0 + r.list.getD i 0) % 4294967296 := by
  have : i = 0 ∨ i = 1 ∨ i = 2 ∨ i = 3 ∨ i = 4 ∨ i = 5 ∨ i = 6 ∨ i = 7 := by omega
  rcases this with rfl | rfl | rfl | rfl | rfl | rfl | rfl | rfl <;> rfl
end Go.Px
