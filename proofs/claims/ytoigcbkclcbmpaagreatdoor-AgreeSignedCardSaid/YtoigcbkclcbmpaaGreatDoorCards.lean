/-
  DERIVED. GIVEN WITH THE SEED: THE CARDS: each row of YtoigcbkclcbmpaaGreatDoorRows.lean that lists a variable, with what it lists TIED to the program's text (the seventh form; the later family's looks); each row that meets fmt, with fmt's text TOLD by the authors' own Lean function (tested against real Go, not proved from fmt's source: count such statements apart). THE CARD IS WHAT COUNTS. Prove the row's statement (the work); the ties are given (YtoigcbkclcbmpaaGreatDoorTie.lean); close each card by the builder's one call (the guide's Derived/Test/ToyasCard.lean, 'card_holds'). Laid BY PROGRAM, IN A SANDBOX (cutbox-door.mjs). By AI agents, Wed Nov 11 2026. No macro, syntax, notation, axiom, sorry.
-/
import Derived.Test.YtoigcbkclcbmpaaGreatDoorRows
import GoSem.ClaimSeven
namespace Go.Proofs.YtoigcbkclcbmpaaGreatDoor
namespace Rows

/-- THE TIED CARD OF 'pawllaw13.AgreeSigned'. -/
def agreeSignedCard : Claim7 := { stood := { row := agreeSignedRow, standIns := [], harness := (true, "b65583cc6e208a483f4052879c69c92135dfcc04485698552731737882c6cc8c"), looks := false }, kinds := [], alts := [], laidByText := true, laidKinds := [.data, .data, .data, .data, .data], laidTests := true, laidLooks := .later }
def AgreeSignedCardSaid : Prop := Claim7.holds Tryz.pinned (.plain (OpenSpec.ofChange agreeSignedSpec)) agreeSignedCard

/-- THE SECOND FORM's CARD OF 'pawllaw13.AgreeSigned'. -/
def agreeSignedUptoCard : Claim7 := { stood := { row := agreeSignedUptoRow, standIns := [], harness := (true, "b65583cc6e208a483f4052879c69c92135dfcc04485698552731737882c6cc8c"), looks := false }, kinds := [], alts := [], laidByText := true, laidKinds := [.data, .data, .data, .data, .data], laidTests := true, laidLooks := .later }
def AgreeSignedUptoCardSaid : Prop := Claim7.holds Tryz.pinned (.plain (OpenSpec.upto agreeSignedSpec)) agreeSignedUptoCard
end Rows
end Go.Proofs.YtoigcbkclcbmpaaGreatDoor
