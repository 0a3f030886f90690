/- The plain law of roots: which numbers have one. -/
import Derived.Test.YtkoaheaahbnmfaaFld6
import Derived.Test.YtkoaheaahbnmfaaPrm
set_option linter.unusedVariables false
set_option linter.unusedSimpArgs false
namespace Go.Proofs.Ytkoaheaahbnmfaa
open Go.Px
theorem modEq_dvd {a b p : Nat} (h : a % p = b % p) (hle : b ≤ a) : p ∣ a - b := Nat.dvd_of_mod_eq_zero (Nat.sub_mod_eq_zero_of_mod_eq h)
/-- Two squares that are one: the roots are the same, or one is the other's opposite. -/
theorem sq_cases {s x : Nat} (hs : s < p25) (hx : x < p25) (h : s * s % p25 = x * x % p25) : s = x ∨ s + x = p25 := by
  have key : p25 ∣ (s + x) * (s + (p25 - x)) := by
    have e : (s + x) * (s + (p25 - x)) + x * x = s * s + p25 * (s + x) := by
      obtain ⟨d, hd⟩ : ∃ d, p25 = x + d := ⟨p25 - x, by omega⟩
      rw [hd, Nat.add_sub_cancel_left]
      grind
    have e2 : ((s + x) * (s + (p25 - x)) + x * x) % p25 = (x * x) % p25 := by rw [e, Nat.add_mul_mod_self_left, h]
    have := modEq_dvd e2 (Nat.le_add_left _ _)
    rwa [Nat.add_sub_cancel] at this
  rcases pr25.mul key with ⟨c, hc⟩ | ⟨c, hc⟩
  · have : c < 2 := by
      rcases Nat.lt_or_ge c 2 with h | h
      · exact h
      · have := Nat.mul_le_mul_left p25 h; omega
    rcases (show c = 0 ∨ c = 1 by omega) with rfl | rfl
    · left; omega
    · right; omega
  · have : c < 2 := by
      rcases Nat.lt_or_ge c 2 with h | h
      · exact h
      · have := Nat.mul_le_mul_left p25 h; omega
    rcases (show c = 0 ∨ c = 1 by omega) with rfl | rfl
    · left; omega
    · left; omega
theorem sq_pow (x n : Nat) : x ^ n % p25 * (x ^ n % p25) % p25 = x ^ (2 * n) % p25 := by rw [← Nat.mul_mod, ← Nat.pow_add, Nat.two_mul]
theorem i_sq : rtp 2 (2 ^ 253 - 5) * rtp 2 (2 ^ 253 - 5) % p25 = p25 - 1 := by
  have h : ∀ n, n = 2 ^ 253 - 5 → rtp 2 n * rtp 2 n % p25 = p25 - 1 := by
    intro n hn
    unfold rtp
    rw [sq_pow, pm_pow (by decide) 256 2 (2 * n) (by omega)]
    subst hn
    decide +kernel
  exact h _ rfl
theorem rt1_sq4 (x : Nat) : ∃ n, 2 * n = p25 - 1 ∧ rt1 x * rt1 x % p25 * (rt1 x * rt1 x % p25) % p25 = x ^ n * (x * x) % p25 := by
  obtain ⟨m, hm⟩ : ∃ m, m = 2 ^ 252 - 2 := ⟨_, rfl⟩
  refine ⟨4 * m - 2, by unfold p25; omega, ?_⟩
  rw [← rt1_eq hm, sq_pow, sq_pow, ← Nat.pow_two, ← Nat.pow_add]
  congr 2
  omega
theorem not_dvd {x : Nat} (h0 : x ≠ 0) (hx : x < p25) : ¬ p25 ∣ x := fun h => by have := Nat.le_of_dvd (by omega) h; omega
theorem pow_half {y n : Nat} (hn : 2 * n = p25 - 1) (hy : ¬ p25 ∣ y) : (y * y % p25) ^ n % p25 = 1 := by
  rw [← Nat.pow_mod, ← Nat.pow_two, ← Nat.pow_mul, hn]
  exact fermat1 pr25 hy
/-- Root answers a root where there is one. -/
theorem rt_law {r : Value} {x n : Nat} (hx : x < p25) (hn : 2 * n = p25 - 1) (h : Rt r x) : ∃ u b y, r = .tuple #[u, .bool b] ∧ Fe u y ∧ b = decide (x = 0 ∨ x ^ n % p25 = 1) ∧ (b = true → y * y % p25 = x) := by
  have conv : ∀ y, y * y % p25 = x → (x = 0 ∨ x ^ n % p25 = 1) := by
    intro y hy
    by_cases h0 : x = 0
    · exact .inl h0
    · right
      rw [← hy]
      refine pow_half hn fun hd => h0 ?_
      obtain ⟨c, rfl⟩ := hd
      rw [← hy, Nat.mul_assoc, Nat.mul_mod_right]
  obtain ⟨u, b, rfl, h⟩ := h
  rcases h with ⟨h1, rfl, hu⟩ | ⟨h1, h2, rfl, hu⟩ | ⟨h1, h2, rfl, hu⟩
  · exact ⟨u, true, _, rfl, hu, by rw [decide_eq_true (conv _ h1)], fun _ => h1⟩
  · exact ⟨u, true, _, rfl, hu, by rw [decide_eq_true (conv _ h2)], fun _ => h2⟩
  · refine ⟨u, false, 0, rfl, hu, ?_, fun h => by cases h⟩
    symm
    rw [decide_eq_false_iff_not]
    intro hc
    obtain ⟨m, hm, h4⟩ := rt1_sq4 x
    obtain rfl : m = n := by omega
    have h5 : rt1 x * rt1 x % p25 * (rt1 x * rt1 x % p25) % p25 = x * x % p25 := by
      rw [h4]
      rcases hc with rfl | hc
      · rw [Nat.mul_zero, Nat.mul_zero]
      · rw [Nat.mul_mod, hc, Nat.one_mul, Nat.mod_mod]
    rcases sq_cases (Nat.mod_lt _ (by decide)) hx h5 with h6 | h6
    · exact h1 h6
    · apply h2
      unfold rt2
      rw [← Nat.mul_mod, show rt1 x * rtp 2 (2 ^ 253 - 5) * (rt1 x * rtp 2 (2 ^ 253 - 5)) = (rt1 x * rt1 x) * (rtp 2 (2 ^ 253 - 5) * rtp 2 (2 ^ 253 - 5)) by generalize rtp 2 (2 ^ 253 - 5) = i; grind, Nat.mul_mod, i_sq]
      generalize rt1 x * rt1 x % p25 = s at *
      have e : s * (p25 - 1) = x + p25 * (s - 1) := by
        obtain rfl : x = p25 - s := by omega
        rw [Nat.mul_sub, Nat.mul_sub, Nat.mul_one, Nat.mul_one, Nat.mul_comm]
        have : p25 ≤ p25 * s := Nat.le_mul_of_pos_right _ (by omega)
        omega
      rw [e, Nat.add_mul_mod_self_left, Nat.mod_eq_of_lt hx]
theorem sq_has {a n : Nat} (hn : 2 * n = p25 - 1) : (a * a % p25 = 0 ∨ (a * a % p25) ^ n % p25 = 1) := by
  by_cases h : p25 ∣ a
  · obtain ⟨c, rfl⟩ := h
    exact .inl (by rw [Nat.mul_assoc, Nat.mul_mod_right])
  · exact .inr (pow_half hn h)
