/-
  DERIVED. GIVEN WITH THE SEED: THE CARDS: each row of YthmnlkpikgglbaaGreatDoorRows.lean that lists a variable, with what it lists TIED to the program's text (the seventh form; the later family's looks); each row that meets fmt, with fmt's text TOLD by the authors' own Lean function (tested against real Go, not proved from fmt's source: count such statements apart). THE CARD IS WHAT COUNTS. Prove the row's statement (the work); the ties are given (YthmnlkpikgglbaaGreatDoorTie.lean); close each card by the builder's one call (the guide's Derived/Test/ToyasCard.lean, 'card_holds'). Laid BY PROGRAM, IN A SANDBOX (cutbox-door.mjs). By AI agents, Wed Nov 11 2026. No macro, syntax, notation, axiom, sorry.
-/
import Derived.Test.YthmnlkpikgglbaaGreatDoorRows
import GoSem.ClaimSeven
namespace Go.Proofs.YthmnlkpikgglbaaGreatDoor
namespace Rows

/-- THE TIED CARD OF 'pawllaw22.ClosureKnows'. -/
def closureKnowsCard : Claim7 := { stood := { row := closureKnowsRow, standIns := [], harness := (true, "3f19eaede879c69ec362d4dbd2a7ffaab269a4e3de519ce21cda357731e0dd1c"), looks := true }, kinds := [], alts := [], laidByText := true, laidKinds := [.data, .data, .data, .data, .data], laidTests := true, laidLooks := .later }
def ClosureKnowsCardSaid : Prop := Claim7.holds Tryz.pinned (.plain (OpenSpec.ofChange closureKnowsSpec)) closureKnowsCard

/-- THE TIED CARD OF 'pawllaw22.ClosureRises'. -/
def closureRisesCard : Claim7 := { stood := { row := closureRisesRow, standIns := [], harness := (true, "3f19eaede879c69ec362d4dbd2a7ffaab269a4e3de519ce21cda357731e0dd1c"), looks := true }, kinds := [], alts := [], laidByText := true, laidKinds := [.data, .data, .data, .data, .data], laidTests := true, laidLooks := .later }
def ClosureRisesCardSaid : Prop := Claim7.holds Tryz.pinned (.plain (OpenSpec.ofChange closureRisesSpec)) closureRisesCard

/-- THE TIED CARD OF 'pawllaw22.ClosureNil'. -/
def closureNilCard : Claim7 := { stood := { row := closureNilRow, standIns := [], harness := (true, "3f19eaede879c69ec362d4dbd2a7ffaab269a4e3de519ce21cda357731e0dd1c"), looks := true }, kinds := [], alts := [], laidByText := true, laidKinds := [.data, .data, .data, .data, .data, .sentinel, .sentinel], laidTests := true, laidLooks := .later }
def ClosureNilCardSaid : Prop := Claim7.holds Tryz.pinned (.plain (OpenSpec.ofChange closureNilSpec)) closureNilCard

/-- THE TIED CARD OF 'pawllaw22.ClosureReads'. -/
def closureReadsCard : Claim7 := { stood := { row := closureReadsRow, standIns := [], harness := (true, "3f19eaede879c69ec362d4dbd2a7ffaab269a4e3de519ce21cda357731e0dd1c"), looks := true }, kinds := [], alts := [], laidByText := true, laidKinds := [.data, .data, .data, .data, .data, .sentinel, .sentinel], laidTests := true, laidLooks := .later }
def ClosureReadsCardSaid : Prop := Claim7.holds Tryz.pinned (.plain (OpenSpec.ofChange closureReadsSpec)) closureReadsCard

/-- THE SECOND FORM's CARD OF 'pawllaw22.ClosureKnows'. -/
def closureKnowsUptoCard : Claim7 := { stood := { row := closureKnowsUptoRow, standIns := [], harness := (true, "3f19eaede879c69ec362d4dbd2a7ffaab269a4e3de519ce21cda357731e0dd1c"), looks := true }, kinds := [], alts := [], laidByText := true, laidKinds := [.data, .data, .data, .data, .data], laidTests := true, laidLooks := .later }
def ClosureKnowsUptoCardSaid : Prop := Claim7.holds Tryz.pinned (.plain (OpenSpec.upto closureKnowsSpec)) closureKnowsUptoCard

/-- THE SECOND FORM's CARD OF 'pawllaw22.ClosureRises'. -/
def closureRisesUptoCard : Claim7 := { stood := { row := closureRisesUptoRow, standIns := [], harness := (true, "3f19eaede879c69ec362d4dbd2a7ffaab269a4e3de519ce21cda357731e0dd1c"), looks := true }, kinds := [], alts := [], laidByText := true, laidKinds := [.data, .data, .data, .data, .data], laidTests := true, laidLooks := .later }
def ClosureRisesUptoCardSaid : Prop := Claim7.holds Tryz.pinned (.plain (OpenSpec.upto closureRisesSpec)) closureRisesUptoCard

/-- THE SECOND FORM's CARD OF 'pawllaw22.ClosureNil'. -/
def closureNilUptoCard : Claim7 := { stood := { row := closureNilUptoRow, standIns := [], harness := (true, "3f19eaede879c69ec362d4dbd2a7ffaab269a4e3de519ce21cda357731e0dd1c"), looks := true }, kinds := [], alts := [], laidByText := true, laidKinds := [.data, .data, .data, .data, .data, .sentinel, .sentinel], laidTests := true, laidLooks := .later }
def ClosureNilUptoCardSaid : Prop := Claim7.holds Tryz.pinned (.plain (OpenSpec.upto closureNilSpec)) closureNilUptoCard

/-- THE SECOND FORM's CARD OF 'pawllaw22.ClosureReads'. -/
def closureReadsUptoCard : Claim7 := { stood := { row := closureReadsUptoRow, standIns := [], harness := (true, "3f19eaede879c69ec362d4dbd2a7ffaab269a4e3de519ce21cda357731e0dd1c"), looks := true }, kinds := [], alts := [], laidByText := true, laidKinds := [.data, .data, .data, .data, .data, .sentinel, .sentinel], laidTests := true, laidLooks := .later }
def ClosureReadsUptoCardSaid : Prop := Claim7.holds Tryz.pinned (.plain (OpenSpec.upto closureReadsSpec)) closureReadsUptoCard
end Rows
end Go.Proofs.YthmnlkpikgglbaaGreatDoor
