/- Parts of any text: the plain law. -/
import Derived.Test.YtibemhcnjdgemaaDoorPrs3
import Derived.Test.YtibemhcnjdgemaaDoorTrm1
set_option linter.unusedVariables false
set_option linter.unusedSimpArgs false
namespace Go.Proofs.YtibemhcnjdgemaaDoor
open Go.Px
theorem marks_snoc (l : List (List Nat)) (p : List Nat) : marks (l ++ [p]) = marks l ++ mark p := by simp [marks]
/-- What was cut off is what was marked. -/
theorem cut_back {s : List Nat} {k : Nat} {n : Int} (hk : k < s.length) (h58 : s.getD k 0 = 58) (ht : s.take k = decI n) (hn : 0 ≤ n) (hle : n ≤ (s.length : Int) - k - 1) :
    s = mark ((s.take (k + 1 + n.toNat)).drop (k + 1)) ++ s.drop (k + 1 + n.toNat) := by
  have hp : ((s.take (k + 1 + n.toNat)).drop (k + 1)).length = n.toNat := by
    rw [List.length_drop, List.length_take]; omega
  have hd : decI n = dec n.toNat := by
    unfold decI
    rw [if_neg (by omega), show n.natAbs = n.toNat by omega]
  have h1 : s = s.take k ++ s.drop k := (List.take_append_drop k s).symm
  have h2 : s.drop k = 58 :: s.drop (k + 1) := by
    rw [List.drop_eq_getElem_cons hk]
    rw [List.getD_eq_getElem?_getD, List.getElem?_eq_getElem hk] at h58
    rw [show s[k] = 58 from h58]
  have h3 : s.drop (k + 1) = (s.take (k + 1 + n.toNat)).drop (k + 1) ++ s.drop (k + 1 + n.toNat) := by
    have h4 := List.take_append_drop (k + 1 + n.toNat) s
    have h5 : s.drop (k + 1) = (s.take (k + 1 + n.toNat) ++ s.drop (k + 1 + n.toNat)).drop (k + 1) := by rw [h4]
    rw [h5, List.drop_append_of_le_length (by rw [List.length_take]; omega)]
  unfold mark
  rw [hp, ← hd, ← ht]
  simp only [List.append_assoc, List.cons_append]
  rw [← h3, ← h2]
  exact h1
