/- What the rows' lists give: the two tables of package sha. -/
import Derived.Test.YtkoaheaahbnmfaaDoorShaLaw
import Derived.Test.YtkoaheaahbnmfaaDoorRows
import Derived.Test.YtkoaheaahbnmfaaDoorIn
import Derived.Lib.LaidTab
import Derived.Stop.LaidErr
set_option linter.unusedVariables false
namespace Go.Proofs.YtkoaheaahbnmfaaDoor
open Go.Px
theorem var_heap {P : Program} {W : World} {name : String} {g : Nat} {cs : Array Value} (hg : P.globalNamed name = some g) (h : W.var? P name = some cs) : ∃ e fr, W.heap[g]? = some (.cells cs e fr) := by
  unfold World.var? at h
  rw [hg] at h
  simp only [Option.bind_some] at h
  split at h
  · rename_i c e fr hh
    cases h
    exact ⟨e, fr, hh⟩
  · cases h
def ints (ws : List Nat) : List Int := ws.map fun n : Nat => (n : Int)
theorem ints_nums (k : IntKind) (ws : List Nat) : ((ints ws).map fun z => Value.int k z).toArray = (nums k ws).toArray := by simp [ints, nums]
set_option maxRecDepth 100000 in
theorem sha_tabs {W : World} (h : laidMetH Tryd.prog [("pawl/sha.round", Rows.laid_pawl_sha_round), ("pawl/sha.first", Rows.laid_pawl_sha_first)] W) :
    ∃ ef ff ek fk, W.heap[0]? = some (Obj.cells (nums .u32 hFirst.list).toArray ef ff) ∧ W.heap[1]? = some (Obj.cells (nums .u32 kTab).toArray ek fk) := by
  have h' : laidMet Tryd.prog (("pawl/sha.round", Lib.tabData .u32 (ints kTab)) :: ("pawl/sha.first", Lib.tabData .u32 (ints hFirst.list)) :: []) W := h
  have h1 := Lib.tabIs_of_head (g := 1) (t := 45) (e := 36) (n := 64) (by kernel_rfl) (by kernel_rfl) (by kernel_rfl) (by kernel_rfl) (by kernel_rfl) (by kernel_rfl) h'
  have h2 := Lib.tabIs_of_head (g := 0) (t := 37) (e := 36) (n := 8) (by kernel_rfl) (by kernel_rfl) (by kernel_rfl) (by kernel_rfl) (by kernel_rfl) (by kernel_rfl) h'.tail
  obtain ⟨ek, fk, h3⟩ := var_heap (g := 1) (by kernel_rfl) h1
  obtain ⟨ef, ff, h4⟩ := var_heap (g := 0) (by kernel_rfl) h2
  rw [ints_nums] at h3 h4
  exact ⟨ef, ff, ek, fk, h4, h3⟩
end Go.Proofs.YtkoaheaahbnmfaaDoor
