/-
  DERIVED. GIVEN WITH THE SEED: THE CARDS: each row of YtcfdeohjhhpmcaaDoorRows.lean that lists a variable, with what it lists TIED to the program's text (the seventh form; the later family's looks); each row that meets fmt, with fmt's text TOLD by the authors' own Lean function (tested against real Go, not proved from fmt's source: count such statements apart). THE CARD IS WHAT COUNTS. Prove the row's statement (the work); the ties are given (YtcfdeohjhhpmcaaDoorTie.lean); close each card by the builder's one call (the guide's Derived/Test/ToyasCard.lean, 'card_holds'). Laid BY PROGRAM, IN A SANDBOX (cutbox-door.mjs). By AI agents, Wed Nov 11 2026. No macro, syntax, notation, axiom, sorry.
-/
import Derived.Test.YtcfdeohjhhpmcaaDoorRows
import GoSem.ClaimSeven
namespace Go.Proofs.YtcfdeohjhhpmcaaDoor
namespace Rows

/-- THE TIED CARD OF 'pawllaw06.SignGoes'. -/
def signGoesCard : Claim7 := { stood := { row := signGoesRow, standIns := [], harness := (true, "964cd24d3ea5b7caa512e07813532599961bc416476fa92c74251809583e6e6d"), looks := false }, kinds := [], alts := [], laidByText := true, laidKinds := [.data, .data], laidTests := true, laidLooks := .later }
def SignGoesCardSaid : Prop := Claim7.holds Tryd.pinned (.plain (OpenSpec.ofChange signGoesSpec)) signGoesCard

/-- THE TIED CARD OF 'pawllaw06.SignTold'. -/
def signToldCard : Claim7 := { stood := { row := signToldRow, standIns := [], harness := (true, "964cd24d3ea5b7caa512e07813532599961bc416476fa92c74251809583e6e6d"), looks := false }, kinds := [], alts := [], laidByText := true, laidKinds := [.data, .data], laidTests := true, laidLooks := .later }
def SignToldCardSaid : Prop := Claim7.holds Tryd.pinned (.plain (OpenSpec.ofChange signToldSpec)) signToldCard

/-- THE SECOND FORM's CARD OF 'pawllaw06.SignGoes'. -/
def signGoesUptoCard : Claim7 := { stood := { row := signGoesUptoRow, standIns := [], harness := (true, "964cd24d3ea5b7caa512e07813532599961bc416476fa92c74251809583e6e6d"), looks := false }, kinds := [], alts := [], laidByText := true, laidKinds := [.data, .data], laidTests := true, laidLooks := .later }
def SignGoesUptoCardSaid : Prop := Claim7.holds Tryd.pinned (.plain (OpenSpec.upto signGoesSpec)) signGoesUptoCard

/-- THE SECOND FORM's CARD OF 'pawllaw06.SignTold'. -/
def signToldUptoCard : Claim7 := { stood := { row := signToldUptoRow, standIns := [], harness := (true, "964cd24d3ea5b7caa512e07813532599961bc416476fa92c74251809583e6e6d"), looks := false }, kinds := [], alts := [], laidByText := true, laidKinds := [.data, .data], laidTests := true, laidLooks := .later }
def SignToldUptoCardSaid : Prop := Claim7.holds Tryd.pinned (.plain (OpenSpec.upto signToldSpec)) signToldUptoCard
end Rows
end Go.Proofs.YtcfdeohjhhpmcaaDoor
