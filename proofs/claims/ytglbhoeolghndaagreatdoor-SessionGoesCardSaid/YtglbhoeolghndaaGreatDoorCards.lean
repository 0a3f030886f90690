/-
  DERIVED. GIVEN WITH THE SEED: THE CARDS: each row of YtglbhoeolghndaaGreatDoorRows.lean that lists a variable, with what it lists TIED to the program's text (the seventh form; the later family's looks); each row that meets fmt, with fmt's text TOLD by the authors' own Lean function (tested against real Go, not proved from fmt's source: count such statements apart). THE CARD IS WHAT COUNTS. Prove the row's statement (the work); the ties are given (YtglbhoeolghndaaGreatDoorTie.lean); close each card by the builder's one call (the guide's Derived/Test/ToyasCard.lean, 'card_holds'). Laid BY PROGRAM, IN A SANDBOX (cutbox-door.mjs). By AI agents, Wed Nov 11 2026. No macro, syntax, notation, axiom, sorry.
-/
import Derived.Test.YtglbhoeolghndaaGreatDoorRows
import GoSem.ClaimSeven
namespace Go.Proofs.YtglbhoeolghndaaGreatDoor
namespace Rows

/-- THE TIED CARD OF 'pawllaw15.SessionGoes'. -/
def sessionGoesCard : Claim7 := { stood := { row := sessionGoesRow, standIns := [], harness := (true, "c19c7fb8310a73e38bb65053bf64b40c743181beb3ab215ee13db46b280a2df4"), looks := true }, kinds := [], alts := [], laidByText := true, laidKinds := [.data, .data, .data, .data, .data, .sentinel, .sentinel], laidTests := true, laidLooks := .later }
def SessionGoesCardSaid : Prop := Claim7.holds Tryz.pinned (.plain (OpenSpec.ofChange sessionGoesSpec)) sessionGoesCard

/-- THE SECOND FORM's CARD OF 'pawllaw15.SessionGoes'. -/
def sessionGoesUptoCard : Claim7 := { stood := { row := sessionGoesUptoRow, standIns := [], harness := (true, "c19c7fb8310a73e38bb65053bf64b40c743181beb3ab215ee13db46b280a2df4"), looks := true }, kinds := [], alts := [], laidByText := true, laidKinds := [.data, .data, .data, .data, .data, .sentinel, .sentinel], laidTests := true, laidLooks := .later }
def SessionGoesUptoCardSaid : Prop := Claim7.holds Tryz.pinned (.plain (OpenSpec.upto sessionGoesSpec)) sessionGoesUptoCard
end Rows
end Go.Proofs.YtglbhoeolghndaaGreatDoor
