/- What the rows' lists give of strconv's two errors: their variables hold an interface. -/
import Derived.Test.YtibemhcnjdgemaaDoorTrmIn
set_option linter.unusedVariables false
namespace Go.Proofs.YtibemhcnjdgemaaDoor
open Go.Px Go.ChangeShapes Go.WideShapes Go.ChangeAt Go.RowKit
theorem star : "*" ++ "errors.errorString" = "*errors.errorString" := by decide
theorem rowErr (u : TypeId) (h : Tryd.prog.typeName? 3 u = some "*errors.errorString") : u = 160 :=
  typeName_ptr_named (nm := "errors.errorString") (by rw [star]; kernel_rfl) (by kernel_rfl) (by decide) u (by rw [star]; exact h)
set_option maxRecDepth 100000 in
theorem sent_range {W : World} {rest : List (String × DataW Unit)} (h : laidMet Tryd.prog (("strconv.ErrRange", Rows.laid_strconv_ErrRange) :: rest) W) : ∃ x e fr, W.heap[2]? = some (Obj.cells [Value.iface 160 x].toArray e fr) := by
  obtain ⟨a1, s1, hv1, _⟩ := laid_sentinel (g := 2) (ti := 93) (tp := 160) (te := 162) (ts := 9) h (by kernel_rfl) (by kernel_rfl) Tryd.underlying93 rowErr (by kernel_rfl) Tryd.underlying162 rfl rfl (by kernel_rfl) (by kernel_rfl) (by kernel_rfl)
  obtain ⟨e, fr, h3⟩ := var_heap (g := 2) (by kernel_rfl) hv1
  exact ⟨_, e, fr, h3⟩
set_option maxRecDepth 100000 in
theorem sent_syntax {W : World} {rest : List (String × DataW Unit)} (h : laidMet Tryd.prog (("strconv.ErrSyntax", Rows.laid_strconv_ErrSyntax) :: rest) W) : ∃ x e fr, W.heap[1]? = some (Obj.cells [Value.iface 160 x].toArray e fr) := by
  obtain ⟨a1, s1, hv1, _⟩ := laid_sentinel (g := 1) (ti := 93) (tp := 160) (te := 162) (ts := 9) h (by kernel_rfl) (by kernel_rfl) Tryd.underlying93 rowErr (by kernel_rfl) Tryd.underlying162 rfl rfl (by kernel_rfl) (by kernel_rfl) (by kernel_rfl)
  obtain ⟨e, fr, h3⟩ := var_heap (g := 1) (by kernel_rfl) hv1
  exact ⟨_, e, fr, h3⟩
end Go.Proofs.YtibemhcnjdgemaaDoor
