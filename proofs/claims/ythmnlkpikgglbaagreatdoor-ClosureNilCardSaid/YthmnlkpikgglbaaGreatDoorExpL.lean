/-
  HKDF's expand, in plain lists. No program in sight.
-/
import Derived.Test.YthmnlkpikgglbaaGreatDoorRootL
set_option linter.unusedVariables false
set_option linter.unusedSimpArgs false
namespace Go.Px

def exp (key info : List Nat) : Nat → List Nat × List Nat
  | 0 => ([], [])
  | i + 1 => ((exp key info i).1 ++ hmac key ((exp key info i).2 ++ (info ++ [(i + 1) % 256])), hmac key ((exp key info i).2 ++ (info ++ [(i + 1) % 256])))
theorem sha256_len (p : List Nat) : (sha256 p).length = 32 := by simp [sha256, S8.bytes, S8.list, out4]
theorem exp_len (key info : List Nat) : ∀ i, (exp key info i).1.length = 32 * i
  | 0 => rfl
  | i + 1 => by rw [exp, List.length_append, exp_len key info i, hmac, sha256_len]; omega
theorem exp_pre (key info : List Nat) (i : Nat) : ∀ d, ∃ t, (exp key info (i + d)).1 = (exp key info i).1 ++ t
  | 0 => ⟨[], by simp⟩
  | d + 1 => by
    obtain ⟨t, ht⟩ := exp_pre key info i d
    exact ⟨_, by rw [← Nat.add_assoc, exp]; simp only; rw [ht, List.append_assoc]⟩
def rds (n : Int) : Nat := min 255 ((n.toNat + 31) / 32)
def expand (key info : List Nat) (n : Int) : List Nat := (exp key info (rds n)).1.take n.toNat
theorem expand_len (key info : List Nat) (n : Int) : (expand key info n).length = min n.toNat 8160 := by
  unfold expand; rw [List.length_take, exp_len]; unfold rds; omega
theorem exp_take (key info : List Nat) {i j k : Nat} (h : i ≤ j) (hk : k ≤ 32 * i) : (exp key info j).1.take k = (exp key info i).1.take k := by
  obtain ⟨t, ht⟩ := exp_pre key info i (j - i)
  rw [show i + (j - i) = j by omega] at ht
  rw [ht, List.take_append_of_le_length (by rw [exp_len]; exact hk)]
/-- The first bytes are the same, however many are asked. -/
theorem expand_same (key info : List Nat) (n m : Int) (k : Nat) (h1 : k ≤ (expand key info n).length) (h2 : k ≤ (expand key info m).length) : (expand key info n).take k = (expand key info m).take k := by
  rw [expand_len] at h1 h2
  unfold expand
  rw [List.take_take, List.take_take, Nat.min_eq_left (by omega), Nat.min_eq_left (by omega)]
  rcases Nat.le_total (rds n) (rds m) with h | h
  · exact (exp_take key info h (by unfold rds; omega)).symm
  · exact exp_take key info h (by unfold rds; omega)
end Go.Px
