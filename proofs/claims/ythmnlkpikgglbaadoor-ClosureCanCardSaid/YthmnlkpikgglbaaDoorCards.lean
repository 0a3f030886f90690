/-
  DERIVED. GIVEN WITH THE SEED: THE CARDS: each row of YthmnlkpikgglbaaDoorRows.lean that lists a variable, with what it lists TIED to the program's text (the seventh form; the later family's looks); each row that meets fmt, with fmt's text TOLD by the authors' own Lean function (tested against real Go, not proved from fmt's source: count such statements apart). THE CARD IS WHAT COUNTS. Prove the row's statement (the work); the ties are given (YthmnlkpikgglbaaDoorTie.lean); close each card by the builder's one call (the guide's Derived/Test/ToyasCard.lean, 'card_holds'). Laid BY PROGRAM, IN A SANDBOX (cutbox-door.mjs). By AI agents, Wed Nov 11 2026. No macro, syntax, notation, axiom, sorry.
-/
import Derived.Test.YthmnlkpikgglbaaDoorRows
import GoSem.ClaimSeven
namespace Go.Proofs.YthmnlkpikgglbaaDoor
namespace Rows

/-- THE TIED CARD OF 'pawllaw22.ClosureShown'. -/
def closureShownCard : Claim7 := { stood := { row := closureShownRow, standIns := [], harness := (true, "8c8bae655452a4454da05d0906654120e42ffc59d90921a246f24dcc7f6e6764"), looks := false }, kinds := [], alts := [], laidByText := true, laidKinds := [.data, .data, .data, .data, .data], laidTests := true, laidLooks := .later }
def ClosureShownCardSaid : Prop := Claim7.holds Tryd.pinned (.plain (OpenSpec.ofChange closureShownSpec)) closureShownCard

/-- THE TIED CARD OF 'pawllaw22.ClosureCan'. -/
def closureCanCard : Claim7 := { stood := { row := closureCanRow, standIns := [], harness := (true, "8c8bae655452a4454da05d0906654120e42ffc59d90921a246f24dcc7f6e6764"), looks := false }, kinds := [], alts := [], laidByText := true, laidKinds := [.data, .data, .data, .data, .data], laidTests := true, laidLooks := .later }
def ClosureCanCardSaid : Prop := Claim7.holds Tryd.pinned (.plain (OpenSpec.ofChange closureCanSpec)) closureCanCard

/-- THE SECOND FORM's CARD OF 'pawllaw22.ClosureShown'. -/
def closureShownUptoCard : Claim7 := { stood := { row := closureShownUptoRow, standIns := [], harness := (true, "8c8bae655452a4454da05d0906654120e42ffc59d90921a246f24dcc7f6e6764"), looks := false }, kinds := [], alts := [], laidByText := true, laidKinds := [.data, .data, .data, .data, .data], laidTests := true, laidLooks := .later }
def ClosureShownUptoCardSaid : Prop := Claim7.holds Tryd.pinned (.plain (OpenSpec.upto closureShownSpec)) closureShownUptoCard

/-- THE SECOND FORM's CARD OF 'pawllaw22.ClosureCan'. -/
def closureCanUptoCard : Claim7 := { stood := { row := closureCanUptoRow, standIns := [], harness := (true, "8c8bae655452a4454da05d0906654120e42ffc59d90921a246f24dcc7f6e6764"), looks := false }, kinds := [], alts := [], laidByText := true, laidKinds := [.data, .data, .data, .data, .data], laidTests := true, laidLooks := .later }
def ClosureCanUptoCardSaid : Prop := Claim7.holds Tryd.pinned (.plain (OpenSpec.upto closureCanSpec)) closureCanUptoCard
end Rows
end Go.Proofs.YthmnlkpikgglbaaDoor
