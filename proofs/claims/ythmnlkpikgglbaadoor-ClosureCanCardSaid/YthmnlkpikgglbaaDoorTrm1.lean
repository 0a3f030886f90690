/- The walks of strconv.Atoi (of a number's text), term.Mark, term.Parts (of what was marked), and the examples of pawllaw07. -/
import Derived.Test.YthmnlkpikgglbaaDoorStc2
set_option linter.unusedVariables false
set_option linter.unusedSimpArgs false
namespace Go.Proofs.YthmnlkpikgglbaaDoor
open Go.Px
theorem dv_cons_le (l : List Nat) (r : List Nat) : dv l ≤ dv (l ++ r) := by
  have key : ∀ (r : List Nat) (a : Nat), a ≤ r.foldl (fun a c => a * 10 + (c - 48)) a := by
    intro r
    induction r with
    | nil => intro a; exact Nat.le_refl _
    | cons c r ih => intro a; exact Nat.le_trans (show a ≤ a * 10 + (c - 48) by omega) (ih _)
  unfold dv
  rw [List.foldl_append]
  exact key r _
theorem dv_take_succ {l : List Nat} {i : Nat} (h : i < l.length) : dv (l.take (i + 1)) = dv (l.take i) * 10 + (l.getD i 0 - 48) := by
  rw [List.take_add_one, List.getElem?_eq_getElem h]
  simp only [Option.toList_some, dv_app, List.getD, List.getElem?_eq_getElem h, Option.getD_some]
theorem dv_take_le (l : List Nat) (i : Nat) : dv (l.take i) ≤ dv l := by
  conv => rhs; rw [← List.take_append_drop i l]
  exact dv_cons_le _ _
theorem getD_mem' {l : List Nat} {i : Nat} (h : i < l.length) : l.getD i 0 ∈ l := by
  simp [List.getD, List.getElem?_eq_getElem h]
instance B256.dec {u : Nat} : B256 (dec u) := ⟨fun x h => by have := dec_mem h; omega⟩
instance B256.decI {i : Int} : B256 (decI i) := ⟨fun x h => by have := decI_mem h; omega⟩
theorem nd10_18 {m : Nat} (h : m < 1000000000000000000) : 0 < nd10 m ∧ nd10 m < 19 := by
  refine ⟨ndF_pos 64 m, ?_⟩
  by_cases h10 : 10 ≤ m
  · have h3 : 10 ^ (nd10 m - 1) ≤ m := ndF_ge 64 m h10
    have : 10 ^ (nd10 m - 1) < 10 ^ 18 := Nat.lt_of_le_of_lt h3 h
    have := (Nat.pow_lt_pow_iff_right (by decide : 1 < 10)).1 this
    omega
  · have hd : nd10 m = 1 := by unfold nd10 ndF; rw [if_pos (by omega)]
    omega

/-! ### What is marked -/
def mark (p : List Nat) : List Nat := dec p.length ++ 58 :: p
def marks (l : List (List Nat)) : List Nat := l.flatMap mark
theorem mark_len (p : List Nat) (h : p.length < 18446744073709551616) : (mark p).length ≤ p.length + 21 := by
  have := nd10_le h
  simp [mark, dec_len]; omega
instance B256.mark {p : List Nat} [h : B256 p] : B256 (mark p) := by unfold Go.Proofs.YthmnlkpikgglbaaDoor.mark; exact @B256.app _ _ _ (B256.cons (by decide) h)

theorem marks_cons (p : List Nat) (l : List (List Nat)) : marks (p :: l) = dec p.length ++ 58 :: (p ++ marks l) := by simp [marks, mark]
/-- What stands in a text that begins with something marked. -/
theorem mark_facts {p R s : List Nat} (h : s = dec p.length ++ 58 :: (p ++ R)) : s.length = (dec p.length).length + 1 + p.length + R.length ∧ s.getD (dec p.length).length 0 = 58 ∧ (∀ k, k < (dec p.length).length → s.getD k 0 ≠ 58) ∧ s.take (dec p.length).length = dec p.length ∧ (s.take ((dec p.length).length + 1 + p.length)).drop ((dec p.length).length + 1) = p ∧ s.drop ((dec p.length).length + 1 + p.length) = R := by
  have e : s = (dec p.length ++ [58] ++ p) ++ R := by rw [h]; simp
  have e2 : (dec p.length ++ [58] ++ p).length = (dec p.length).length + 1 + p.length := by simp; omega
  refine ⟨?_, ?_, ?_, ?_, ?_, ?_⟩
  · rw [e]; simp; omega
  · rw [h]; simp [List.getD]
  · intro k hk
    have : s.getD k 0 = (dec p.length).getD k 0 := by rw [h]; simp only [List.getD]; rw [List.getElem?_append_left hk]
    rw [this]
    have := dec_mem (getD_mem' hk); omega
  · rw [h]; simp
  · rw [e, ← e2, List.take_left, show (dec p.length).length + 1 = (dec p.length ++ [58]).length by simp, List.drop_left]
  · rw [e, ← e2, List.drop_left]
def strs (l : List (List Nat)) : List Value := l.map fun p => .string (txt p)
theorem strs_len (l : List (List Nat)) : (strs l).length = l.length := by simp [strs]
