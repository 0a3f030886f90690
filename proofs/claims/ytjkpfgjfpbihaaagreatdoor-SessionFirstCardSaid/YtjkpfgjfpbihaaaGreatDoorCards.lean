/-
  DERIVED. GIVEN WITH THE SEED: THE CARDS: each row of YtjkpfgjfpbihaaaGreatDoorRows.lean that lists a variable, with what it lists TIED to the program's text (the seventh form; the later family's looks); each row that meets fmt, with fmt's text TOLD by the authors' own Lean function (tested against real Go, not proved from fmt's source: count such statements apart). THE CARD IS WHAT COUNTS. Prove the row's statement (the work); the ties are given (YtjkpfgjfpbihaaaGreatDoorTie.lean); close each card by the builder's one call (the guide's Derived/Test/ToyasCard.lean, 'card_holds'). Laid BY PROGRAM, IN A SANDBOX (cutbox-door.mjs). By AI agents, Wed Nov 11 2026. No macro, syntax, notation, axiom, sorry.
-/
import Derived.Test.YtjkpfgjfpbihaaaGreatDoorRows
import GoSem.ClaimSeven
namespace Go.Proofs.YtjkpfgjfpbihaaaGreatDoor
namespace Rows

/-- THE TIED CARD OF 'pawllaw15.SessionFirst'. -/
def sessionFirstCard : Claim7 := { stood := { row := sessionFirstRow, standIns := [], harness := (true, "482277bcde07b8ca90a2041bbaafe9461887d6fd39c3cad42112d21204600039"), looks := true }, kinds := [], alts := [], laidByText := true, laidKinds := [.data, .data, .data, .data, .data, .sentinel, .sentinel], laidTests := true, laidLooks := .later }
def SessionFirstCardSaid : Prop := Claim7.holds Tryz.pinned (.plain (OpenSpec.ofChange sessionFirstSpec)) sessionFirstCard

/-- THE TIED CARD OF 'pawllaw15.SessionRaces'. -/
def sessionRacesCard : Claim7 := { stood := { row := sessionRacesRow, standIns := [], harness := (true, "482277bcde07b8ca90a2041bbaafe9461887d6fd39c3cad42112d21204600039"), looks := true }, kinds := [], alts := [], laidByText := true, laidKinds := [.data, .data, .data, .data, .data, .sentinel, .sentinel], laidTests := true, laidLooks := .later }
def SessionRacesCardSaid : Prop := Claim7.holds Tryz.pinned (.plain (OpenSpec.ofChange sessionRacesSpec)) sessionRacesCard

/-- THE SECOND FORM's CARD OF 'pawllaw15.SessionFirst'. -/
def sessionFirstUptoCard : Claim7 := { stood := { row := sessionFirstUptoRow, standIns := [], harness := (true, "482277bcde07b8ca90a2041bbaafe9461887d6fd39c3cad42112d21204600039"), looks := true }, kinds := [], alts := [], laidByText := true, laidKinds := [.data, .data, .data, .data, .data, .sentinel, .sentinel], laidTests := true, laidLooks := .later }
def SessionFirstUptoCardSaid : Prop := Claim7.holds Tryz.pinned (.plain (OpenSpec.upto sessionFirstSpec)) sessionFirstUptoCard

/-- THE SECOND FORM's CARD OF 'pawllaw15.SessionRaces'. -/
def sessionRacesUptoCard : Claim7 := { stood := { row := sessionRacesUptoRow, standIns := [], harness := (true, "482277bcde07b8ca90a2041bbaafe9461887d6fd39c3cad42112d21204600039"), looks := true }, kinds := [], alts := [], laidByText := true, laidKinds := [.data, .data, .data, .data, .data, .sentinel, .sentinel], laidTests := true, laidLooks := .later }
def SessionRacesUptoCardSaid : Prop := Claim7.holds Tryz.pinned (.plain (OpenSpec.upto sessionRacesSpec)) sessionRacesUptoCard
end Rows
end Go.Proofs.YtjkpfgjfpbihaaaGreatDoor
