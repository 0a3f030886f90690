/-
  DERIVED. GIVEN WITH THE SEED: THE CARDS: each row of YtoameenjkiaefaaGreatDoorRows.lean that lists a variable, with what it lists TIED to the program's text (the seventh form; the later family's looks); each row that meets fmt, with fmt's text TOLD by the authors' own Lean function (tested against real Go, not proved from fmt's source: count such statements apart). THE CARD IS WHAT COUNTS. Prove the row's statement (the work); the ties are given (YtoameenjkiaefaaGreatDoorTie.lean); close each card by the builder's one call (the guide's Derived/Test/ToyasCard.lean, 'card_holds'). Laid BY PROGRAM, IN A SANDBOX (cutbox-door.mjs). By AI agents, Wed Nov 11 2026. No macro, syntax, notation, axiom, sorry.
-/
import Derived.Test.YtoameenjkiaefaaGreatDoorRows
import GoSem.ClaimSeven
namespace Go.Proofs.YtoameenjkiaefaaGreatDoor
namespace Rows

/-- THE TIED CARD OF 'pawllaw23.AttackSees'. -/
def attackSeesCard : Claim7 := { stood := { row := attackSeesRow, standIns := [], harness := (true, "37897a5099c8b127905b70ea92088eafce65eb8e8419c1ade54c931a78b83d1f"), looks := true }, kinds := [], alts := [], laidByText := true, laidKinds := [.data, .data, .data, .data, .data, .sentinel, .sentinel], laidTests := true, laidLooks := .later }
def AttackSeesCardSaid : Prop := Claim7.holds Tryz.pinned (.plain (OpenSpec.ofChange attackSeesSpec)) attackSeesCard

/-- THE TIED CARD OF 'pawllaw23.AttackAgain'. -/
def attackAgainCard : Claim7 := { stood := { row := attackAgainRow, standIns := [], harness := (true, "37897a5099c8b127905b70ea92088eafce65eb8e8419c1ade54c931a78b83d1f"), looks := true }, kinds := [], alts := [], laidByText := true, laidKinds := [.data, .data, .data, .data, .data, .sentinel, .sentinel], laidTests := true, laidLooks := .later }
def AttackAgainCardSaid : Prop := Claim7.holds Tryz.pinned (.plain (OpenSpec.ofChange attackAgainSpec)) attackAgainCard

/-- THE TIED CARD OF 'pawllaw23.AttackReveals'. -/
def attackRevealsCard : Claim7 := { stood := { row := attackRevealsRow, standIns := [], harness := (true, "37897a5099c8b127905b70ea92088eafce65eb8e8419c1ade54c931a78b83d1f"), looks := true }, kinds := [], alts := [], laidByText := true, laidKinds := [.data, .data, .data, .data, .data, .sentinel, .sentinel], laidTests := true, laidLooks := .later }
def AttackRevealsCardSaid : Prop := Claim7.holds Tryz.pinned (.plain (OpenSpec.ofChange attackRevealsSpec)) attackRevealsCard

/-- THE TIED CARD OF 'pawllaw23.AttackStarts'. -/
def attackStartsCard : Claim7 := { stood := { row := attackStartsRow, standIns := [], harness := (true, "37897a5099c8b127905b70ea92088eafce65eb8e8419c1ade54c931a78b83d1f"), looks := true }, kinds := [], alts := [], laidByText := true, laidKinds := [.data, .data, .data, .data, .data, .sentinel, .sentinel], laidTests := true, laidLooks := .later }
def AttackStartsCardSaid : Prop := Claim7.holds Tryz.pinned (.plain (OpenSpec.ofChange attackStartsSpec)) attackStartsCard

/-- THE SECOND FORM's CARD OF 'pawllaw23.AttackSees'. -/
def attackSeesUptoCard : Claim7 := { stood := { row := attackSeesUptoRow, standIns := [], harness := (true, "37897a5099c8b127905b70ea92088eafce65eb8e8419c1ade54c931a78b83d1f"), looks := true }, kinds := [], alts := [], laidByText := true, laidKinds := [.data, .data, .data, .data, .data, .sentinel, .sentinel], laidTests := true, laidLooks := .later }
def AttackSeesUptoCardSaid : Prop := Claim7.holds Tryz.pinned (.plain (OpenSpec.upto attackSeesSpec)) attackSeesUptoCard

/-- THE SECOND FORM's CARD OF 'pawllaw23.AttackAgain'. -/
def attackAgainUptoCard : Claim7 := { stood := { row := attackAgainUptoRow, standIns := [], harness := (true, "37897a5099c8b127905b70ea92088eafce65eb8e8419c1ade54c931a78b83d1f"), looks := true }, kinds := [], alts := [], laidByText := true, laidKinds := [.data, .data, .data, .data, .data, .sentinel, .sentinel], laidTests := true, laidLooks := .later }
def AttackAgainUptoCardSaid : Prop := Claim7.holds Tryz.pinned (.plain (OpenSpec.upto attackAgainSpec)) attackAgainUptoCard

/-- THE SECOND FORM's CARD OF 'pawllaw23.AttackReveals'. -/
def attackRevealsUptoCard : Claim7 := { stood := { row := attackRevealsUptoRow, standIns := [], harness := (true, "37897a5099c8b127905b70ea92088eafce65eb8e8419c1ade54c931a78b83d1f"), looks := true }, kinds := [], alts := [], laidByText := true, laidKinds := [.data, .data, .data, .data, .data, .sentinel, .sentinel], laidTests := true, laidLooks := .later }
def AttackRevealsUptoCardSaid : Prop := Claim7.holds Tryz.pinned (.plain (OpenSpec.upto attackRevealsSpec)) attackRevealsUptoCard

/-- THE SECOND FORM's CARD OF 'pawllaw23.AttackStarts'. -/
def attackStartsUptoCard : Claim7 := { stood := { row := attackStartsUptoRow, standIns := [], harness := (true, "37897a5099c8b127905b70ea92088eafce65eb8e8419c1ade54c931a78b83d1f"), looks := true }, kinds := [], alts := [], laidByText := true, laidKinds := [.data, .data, .data, .data, .data, .sentinel, .sentinel], laidTests := true, laidLooks := .later }
def AttackStartsUptoCardSaid : Prop := Claim7.holds Tryz.pinned (.plain (OpenSpec.upto attackStartsSpec)) attackStartsUptoCard
end Rows
end Go.Proofs.YtoameenjkiaefaaGreatDoor
