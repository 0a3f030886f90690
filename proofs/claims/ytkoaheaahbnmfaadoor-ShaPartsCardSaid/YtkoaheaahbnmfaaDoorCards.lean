/-
  DERIVED. GIVEN WITH THE SEED: THE CARDS: each row of YtkoaheaahbnmfaaDoorRows.lean that lists a variable, with what it lists TIED to the program's text (the seventh form; the later family's looks); each row that meets fmt, with fmt's text TOLD by the authors' own Lean function (tested against real Go, not proved from fmt's source: count such statements apart). THE CARD IS WHAT COUNTS. Prove the row's statement (the work); the ties are given (YtkoaheaahbnmfaaDoorTie.lean); close each card by the builder's one call (the guide's Derived/Test/ToyasCard.lean, 'card_holds'). Laid BY PROGRAM, IN A SANDBOX (cutbox-door.mjs). By AI agents, Wed Nov 11 2026. No macro, syntax, notation, axiom, sorry.
-/
import Derived.Test.YtkoaheaahbnmfaaDoorRows
import GoSem.ClaimSeven
namespace Go.Proofs.YtkoaheaahbnmfaaDoor
namespace Rows

/-- THE TIED CARD OF 'pawllaw02.ShaSums'. -/
def shaSumsCard : Claim7 := { stood := { row := shaSumsRow, standIns := [], harness := (true, "ae0aa56079a801b74fe7fb556b87fa562d47916ce63f610d9d230c9bf2f7ca8c"), looks := false }, kinds := [], alts := [], laidByText := true, laidKinds := [.data, .data], laidTests := true, laidLooks := .later }
def ShaSumsCardSaid : Prop := Claim7.holds Tryd.pinned (.plain (OpenSpec.ofChange shaSumsSpec)) shaSumsCard

/-- THE TIED CARD OF 'pawllaw02.ShaMacs'. -/
def shaMacsCard : Claim7 := { stood := { row := shaMacsRow, standIns := [], harness := (true, "ae0aa56079a801b74fe7fb556b87fa562d47916ce63f610d9d230c9bf2f7ca8c"), looks := false }, kinds := [], alts := [], laidByText := true, laidKinds := [.data, .data], laidTests := true, laidLooks := .later }
def ShaMacsCardSaid : Prop := Claim7.holds Tryd.pinned (.plain (OpenSpec.ofChange shaMacsSpec)) shaMacsCard

/-- THE TIED CARD OF 'pawllaw02.ShaParts'. -/
def shaPartsCard : Claim7 := { stood := { row := shaPartsRow, standIns := [], harness := (true, "ae0aa56079a801b74fe7fb556b87fa562d47916ce63f610d9d230c9bf2f7ca8c"), looks := false }, kinds := [], alts := [], laidByText := true, laidKinds := [.data, .data], laidTests := true, laidLooks := .later }
def ShaPartsCardSaid : Prop := Claim7.holds Tryd.pinned (.plain (OpenSpec.ofChange shaPartsSpec)) shaPartsCard

/-- THE TIED CARD OF 'pawllaw02.ShaWides'. -/
def shaWidesCard : Claim7 := { stood := { row := shaWidesRow, standIns := [], harness := (true, "ae0aa56079a801b74fe7fb556b87fa562d47916ce63f610d9d230c9bf2f7ca8c"), looks := false }, kinds := [], alts := [], laidByText := true, laidKinds := [.data, .data], laidTests := true, laidLooks := .later }
def ShaWidesCardSaid : Prop := Claim7.holds Tryd.pinned (.plain (OpenSpec.ofChange shaWidesSpec)) shaWidesCard

/-- THE TIED CARD OF 'pawllaw02.ShaExpands'. -/
def shaExpandsCard : Claim7 := { stood := { row := shaExpandsRow, standIns := [], harness := (true, "ae0aa56079a801b74fe7fb556b87fa562d47916ce63f610d9d230c9bf2f7ca8c"), looks := false }, kinds := [], alts := [], laidByText := true, laidKinds := [.data, .data], laidTests := true, laidLooks := .later }
def ShaExpandsCardSaid : Prop := Claim7.holds Tryd.pinned (.plain (OpenSpec.ofChange shaExpandsSpec)) shaExpandsCard

/-- THE SECOND FORM's CARD OF 'pawllaw02.ShaSums'. -/
def shaSumsUptoCard : Claim7 := { stood := { row := shaSumsUptoRow, standIns := [], harness := (true, "ae0aa56079a801b74fe7fb556b87fa562d47916ce63f610d9d230c9bf2f7ca8c"), looks := false }, kinds := [], alts := [], laidByText := true, laidKinds := [.data, .data], laidTests := true, laidLooks := .later }
def ShaSumsUptoCardSaid : Prop := Claim7.holds Tryd.pinned (.plain (OpenSpec.upto shaSumsSpec)) shaSumsUptoCard

/-- THE SECOND FORM's CARD OF 'pawllaw02.ShaMacs'. -/
def shaMacsUptoCard : Claim7 := { stood := { row := shaMacsUptoRow, standIns := [], harness := (true, "ae0aa56079a801b74fe7fb556b87fa562d47916ce63f610d9d230c9bf2f7ca8c"), looks := false }, kinds := [], alts := [], laidByText := true, laidKinds := [.data, .data], laidTests := true, laidLooks := .later }
def ShaMacsUptoCardSaid : Prop := Claim7.holds Tryd.pinned (.plain (OpenSpec.upto shaMacsSpec)) shaMacsUptoCard

/-- THE SECOND FORM's CARD OF 'pawllaw02.ShaParts'. -/
def shaPartsUptoCard : Claim7 := { stood := { row := shaPartsUptoRow, standIns := [], harness := (true, "ae0aa56079a801b74fe7fb556b87fa562d47916ce63f610d9d230c9bf2f7ca8c"), looks := false }, kinds := [], alts := [], laidByText := true, laidKinds := [.data, .data], laidTests := true, laidLooks := .later }
def ShaPartsUptoCardSaid : Prop := Claim7.holds Tryd.pinned (.plain (OpenSpec.upto shaPartsSpec)) shaPartsUptoCard

/-- THE SECOND FORM's CARD OF 'pawllaw02.ShaWides'. -/
def shaWidesUptoCard : Claim7 := { stood := { row := shaWidesUptoRow, standIns := [], harness := (true, "ae0aa56079a801b74fe7fb556b87fa562d47916ce63f610d9d230c9bf2f7ca8c"), looks := false }, kinds := [], alts := [], laidByText := true, laidKinds := [.data, .data], laidTests := true, laidLooks := .later }
def ShaWidesUptoCardSaid : Prop := Claim7.holds Tryd.pinned (.plain (OpenSpec.upto shaWidesSpec)) shaWidesUptoCard

/-- THE SECOND FORM's CARD OF 'pawllaw02.ShaExpands'. -/
def shaExpandsUptoCard : Claim7 := { stood := { row := shaExpandsUptoRow, standIns := [], harness := (true, "ae0aa56079a801b74fe7fb556b87fa562d47916ce63f610d9d230c9bf2f7ca8c"), looks := false }, kinds := [], alts := [], laidByText := true, laidKinds := [.data, .data], laidTests := true, laidLooks := .later }
def ShaExpandsUptoCardSaid : Prop := Claim7.holds Tryd.pinned (.plain (OpenSpec.upto shaExpandsSpec)) shaExpandsUptoCard
end Rows
end Go.Proofs.YtkoaheaahbnmfaaDoor
