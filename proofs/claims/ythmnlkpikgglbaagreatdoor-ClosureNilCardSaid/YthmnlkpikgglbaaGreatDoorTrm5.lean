/- The walks of the term laws: same; terms that are put. -/
import Derived.Test.YthmnlkpikgglbaaGreatDoorTrm4
set_option linter.unusedVariables false
set_option linter.unusedSimpArgs false
namespace Go.Proofs.YthmnlkpikgglbaaGreatDoor
open Go.Px
/-- Are two terms one? -/
def tmEq (a b : Tm) : Bool := a.kind == b.kind && a.n == b.n && a.text == b.text && a.of == b.of
theorem tmEq_iff {a b : Tm} : tmEq a b = true ↔ a = b := by
  cases a; cases b
  simp only [tmEq, Bool.and_eq_true, beq_iff_eq, Tm.mk.injEq]
  constructor
  · rintro ⟨⟨⟨a, b⟩, c⟩, d⟩; exact ⟨a, d, c, b⟩
  · rintro ⟨a, d, c, b⟩; exact ⟨⟨⟨a, b⟩, c⟩, d⟩
