/-
  DERIVED. GIVEN WITH THE SEED: THE CARDS: each row of YtpemeceacdhacaaGreatDoorRows.lean that lists a variable, with what it lists TIED to the program's text (the seventh form; the later family's looks); each row that meets fmt, with fmt's text TOLD by the authors' own Lean function (tested against real Go, not proved from fmt's source: count such statements apart). THE CARD IS WHAT COUNTS. Prove the row's statement (the work); the ties are given (YtpemeceacdhacaaGreatDoorTie.lean); close each card by the builder's one call (the guide's Derived/Test/ToyasCard.lean, 'card_holds'). Laid BY PROGRAM, IN A SANDBOX (cutbox-door.mjs). By AI agents, Wed Nov 11 2026. No macro, syntax, notation, axiom, sorry.
-/
import Derived.Test.YtpemeceacdhacaaGreatDoorRows
import GoSem.ClaimSeven
namespace Go.Proofs.YtpemeceacdhacaaGreatDoor
namespace Rows

/-- THE TIED CARD OF 'pawllaw15.SessionQueues'. -/
def sessionQueuesCard : Claim7 := { stood := { row := sessionQueuesRow, standIns := [], harness := (true, "8b936c26f70a52f9e7d27b72c083ceb8abe5bcf82797d139013523ce7ff12f4b"), looks := true }, kinds := [], alts := [], laidByText := true, laidKinds := [.data, .data, .data, .data, .data, .sentinel, .sentinel], laidTests := true, laidLooks := .later }
def SessionQueuesCardSaid : Prop := Claim7.holds Tryz.pinned (.plain (OpenSpec.ofChange sessionQueuesSpec)) sessionQueuesCard

/-- THE SECOND FORM's CARD OF 'pawllaw15.SessionQueues'. -/
def sessionQueuesUptoCard : Claim7 := { stood := { row := sessionQueuesUptoRow, standIns := [], harness := (true, "8b936c26f70a52f9e7d27b72c083ceb8abe5bcf82797d139013523ce7ff12f4b"), looks := true }, kinds := [], alts := [], laidByText := true, laidKinds := [.data, .data, .data, .data, .data, .sentinel, .sentinel], laidTests := true, laidLooks := .later }
def SessionQueuesUptoCardSaid : Prop := Claim7.holds Tryz.pinned (.plain (OpenSpec.upto sessionQueuesSpec)) sessionQueuesUptoCard
end Rows
end Go.Proofs.YtpemeceacdhacaaGreatDoor
