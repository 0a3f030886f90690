/-
  DERIVED. GIVEN WITH THE SEED: THE CARDS: each row of YtphcaiplgpmnnaaGreatDoorRows.lean that lists a variable, with what it lists TIED to the program's text (the seventh form; the later family's looks); each row that meets fmt, with fmt's text TOLD by the authors' own Lean function (tested against real Go, not proved from fmt's source: count such statements apart). THE CARD IS WHAT COUNTS. Prove the row's statement (the work); the ties are given (YtphcaiplgpmnnaaGreatDoorTie.lean); close each card by the builder's one call (the guide's Derived/Test/ToyasCard.lean, 'card_holds'). Laid BY PROGRAM, IN A SANDBOX (cutbox-door.mjs). By AI agents, Wed Nov 11 2026. No macro, syntax, notation, axiom, sorry.
-/
import Derived.Test.YtphcaiplgpmnnaaGreatDoorRows
import GoSem.ClaimSeven
namespace Go.Proofs.YtphcaiplgpmnnaaGreatDoor
namespace Rows

/-- THE TIED CARD OF 'pawllaw12.KeysMessages'. -/
def keysMessagesCard : Claim7 := { stood := { row := keysMessagesRow, standIns := [], harness := (true, "c2afa6573170bab49d76824707c774a2d77ce417786b5eb6f2769757395acdf0"), looks := true }, kinds := [], alts := [], laidByText := true, laidKinds := [.data, .data, .data, .data, .data], laidTests := true, laidLooks := .later }
def KeysMessagesCardSaid : Prop := Claim7.holds Tryz.pinned (.plain (OpenSpec.ofChange keysMessagesSpec)) keysMessagesCard

/-- THE TIED CARD OF 'pawllaw12.KeysTurns'. -/
def keysTurnsCard : Claim7 := { stood := { row := keysTurnsRow, standIns := [], harness := (true, "c2afa6573170bab49d76824707c774a2d77ce417786b5eb6f2769757395acdf0"), looks := true }, kinds := [], alts := [], laidByText := true, laidKinds := [.data, .data, .data, .data, .data], laidTests := true, laidLooks := .later }
def KeysTurnsCardSaid : Prop := Claim7.holds Tryz.pinned (.plain (OpenSpec.ofChange keysTurnsSpec)) keysTurnsCard

/-- THE TIED CARD OF 'pawllaw12.KeysSecrets'. -/
def keysSecretsCard : Claim7 := { stood := { row := keysSecretsRow, standIns := [], harness := (true, "c2afa6573170bab49d76824707c774a2d77ce417786b5eb6f2769757395acdf0"), looks := true }, kinds := [], alts := [], laidByText := true, laidKinds := [.data, .data, .data, .data, .data], laidTests := true, laidLooks := .later }
def KeysSecretsCardSaid : Prop := Claim7.holds Tryz.pinned (.plain (OpenSpec.ofChange keysSecretsSpec)) keysSecretsCard

/-- THE TIED CARD OF 'pawllaw12.KeysMeets'. -/
def keysMeetsCard : Claim7 := { stood := { row := keysMeetsRow, standIns := [], harness := (true, "c2afa6573170bab49d76824707c774a2d77ce417786b5eb6f2769757395acdf0"), looks := true }, kinds := [], alts := [], laidByText := true, laidKinds := [.data, .data, .data, .data, .data], laidTests := true, laidLooks := .later }
def KeysMeetsCardSaid : Prop := Claim7.holds Tryz.pinned (.plain (OpenSpec.ofChange keysMeetsSpec)) keysMeetsCard

/-- THE TIED CARD OF 'pawllaw12.KeysBundles'. -/
def keysBundlesCard : Claim7 := { stood := { row := keysBundlesRow, standIns := [], harness := (true, "c2afa6573170bab49d76824707c774a2d77ce417786b5eb6f2769757395acdf0"), looks := true }, kinds := [], alts := [], laidByText := true, laidKinds := [.data, .data, .data, .data, .data], laidTests := true, laidLooks := .later }
def KeysBundlesCardSaid : Prop := Claim7.holds Tryz.pinned (.plain (OpenSpec.ofChange keysBundlesSpec)) keysBundlesCard

/-- THE TIED CARD OF 'pawllaw12.KeysNil'. -/
def keysNilCard : Claim7 := { stood := { row := keysNilRow, standIns := [], harness := (true, "c2afa6573170bab49d76824707c774a2d77ce417786b5eb6f2769757395acdf0"), looks := true }, kinds := [], alts := [], laidByText := true, laidKinds := [.data, .data, .data, .data, .data], laidTests := true, laidLooks := .later }
def KeysNilCardSaid : Prop := Claim7.holds Tryz.pinned (.plain (OpenSpec.ofChange keysNilSpec)) keysNilCard

/-- THE TIED CARD OF 'pawllaw12.KeysBytes'. -/
def keysBytesCard : Claim7 := { stood := { row := keysBytesRow, standIns := [], harness := (true, "c2afa6573170bab49d76824707c774a2d77ce417786b5eb6f2769757395acdf0"), looks := true }, kinds := [], alts := [], laidByText := true, laidKinds := [.data, .data, .data, .data, .data], laidTests := true, laidLooks := .later }
def KeysBytesCardSaid : Prop := Claim7.holds Tryz.pinned (.plain (OpenSpec.ofChange keysBytesSpec)) keysBytesCard

/-- THE TIED CARD OF 'pawllaw08.PrimTerms'. -/
def primTermsCard : Claim7 := { stood := { row := primTermsRow, standIns := [], harness := (true, "c2afa6573170bab49d76824707c774a2d77ce417786b5eb6f2769757395acdf0"), looks := true }, kinds := [], alts := [], laidByText := true, laidKinds := [.data, .data, .data, .data, .data], laidTests := true, laidLooks := .later }
def PrimTermsCardSaid : Prop := Claim7.holds Tryz.pinned (.plain (OpenSpec.ofChange primTermsSpec)) primTermsCard

/-- THE TIED CARD OF 'pawllaw08.PrimNil'. -/
def primNilCard : Claim7 := { stood := { row := primNilRow, standIns := [], harness := (true, "c2afa6573170bab49d76824707c774a2d77ce417786b5eb6f2769757395acdf0"), looks := true }, kinds := [], alts := [], laidByText := true, laidKinds := [.data, .data, .data, .data, .data, .sentinel, .sentinel], laidTests := true, laidLooks := .later }
def PrimNilCardSaid : Prop := Claim7.holds Tryz.pinned (.plain (OpenSpec.ofChange primNilSpec)) primNilCard

/-- THE SECOND FORM's CARD OF 'pawllaw12.KeysMessages'. -/
def keysMessagesUptoCard : Claim7 := { stood := { row := keysMessagesUptoRow, standIns := [], harness := (true, "c2afa6573170bab49d76824707c774a2d77ce417786b5eb6f2769757395acdf0"), looks := true }, kinds := [], alts := [], laidByText := true, laidKinds := [.data, .data, .data, .data, .data], laidTests := true, laidLooks := .later }
def KeysMessagesUptoCardSaid : Prop := Claim7.holds Tryz.pinned (.plain (OpenSpec.upto keysMessagesSpec)) keysMessagesUptoCard

/-- THE SECOND FORM's CARD OF 'pawllaw12.KeysTurns'. -/
def keysTurnsUptoCard : Claim7 := { stood := { row := keysTurnsUptoRow, standIns := [], harness := (true, "c2afa6573170bab49d76824707c774a2d77ce417786b5eb6f2769757395acdf0"), looks := true }, kinds := [], alts := [], laidByText := true, laidKinds := [.data, .data, .data, .data, .data], laidTests := true, laidLooks := .later }
def KeysTurnsUptoCardSaid : Prop := Claim7.holds Tryz.pinned (.plain (OpenSpec.upto keysTurnsSpec)) keysTurnsUptoCard

/-- THE SECOND FORM's CARD OF 'pawllaw12.KeysSecrets'. -/
def keysSecretsUptoCard : Claim7 := { stood := { row := keysSecretsUptoRow, standIns := [], harness := (true, "c2afa6573170bab49d76824707c774a2d77ce417786b5eb6f2769757395acdf0"), looks := true }, kinds := [], alts := [], laidByText := true, laidKinds := [.data, .data, .data, .data, .data], laidTests := true, laidLooks := .later }
def KeysSecretsUptoCardSaid : Prop := Claim7.holds Tryz.pinned (.plain (OpenSpec.upto keysSecretsSpec)) keysSecretsUptoCard

/-- THE SECOND FORM's CARD OF 'pawllaw12.KeysMeets'. -/
def keysMeetsUptoCard : Claim7 := { stood := { row := keysMeetsUptoRow, standIns := [], harness := (true, "c2afa6573170bab49d76824707c774a2d77ce417786b5eb6f2769757395acdf0"), looks := true }, kinds := [], alts := [], laidByText := true, laidKinds := [.data, .data, .data, .data, .data], laidTests := true, laidLooks := .later }
def KeysMeetsUptoCardSaid : Prop := Claim7.holds Tryz.pinned (.plain (OpenSpec.upto keysMeetsSpec)) keysMeetsUptoCard

/-- THE SECOND FORM's CARD OF 'pawllaw12.KeysBundles'. -/
def keysBundlesUptoCard : Claim7 := { stood := { row := keysBundlesUptoRow, standIns := [], harness := (true, "c2afa6573170bab49d76824707c774a2d77ce417786b5eb6f2769757395acdf0"), looks := true }, kinds := [], alts := [], laidByText := true, laidKinds := [.data, .data, .data, .data, .data], laidTests := true, laidLooks := .later }
def KeysBundlesUptoCardSaid : Prop := Claim7.holds Tryz.pinned (.plain (OpenSpec.upto keysBundlesSpec)) keysBundlesUptoCard

/-- THE SECOND FORM's CARD OF 'pawllaw12.KeysNil'. -/
def keysNilUptoCard : Claim7 := { stood := { row := keysNilUptoRow, standIns := [], harness := (true, "c2afa6573170bab49d76824707c774a2d77ce417786b5eb6f2769757395acdf0"), looks := true }, kinds := [], alts := [], laidByText := true, laidKinds := [.data, .data, .data, .data, .data], laidTests := true, laidLooks := .later }
def KeysNilUptoCardSaid : Prop := Claim7.holds Tryz.pinned (.plain (OpenSpec.upto keysNilSpec)) keysNilUptoCard

/-- THE SECOND FORM's CARD OF 'pawllaw12.KeysBytes'. -/
def keysBytesUptoCard : Claim7 := { stood := { row := keysBytesUptoRow, standIns := [], harness := (true, "c2afa6573170bab49d76824707c774a2d77ce417786b5eb6f2769757395acdf0"), looks := true }, kinds := [], alts := [], laidByText := true, laidKinds := [.data, .data, .data, .data, .data], laidTests := true, laidLooks := .later }
def KeysBytesUptoCardSaid : Prop := Claim7.holds Tryz.pinned (.plain (OpenSpec.upto keysBytesSpec)) keysBytesUptoCard

/-- THE SECOND FORM's CARD OF 'pawllaw08.PrimTerms'. -/
def primTermsUptoCard : Claim7 := { stood := { row := primTermsUptoRow, standIns := [], harness := (true, "c2afa6573170bab49d76824707c774a2d77ce417786b5eb6f2769757395acdf0"), looks := true }, kinds := [], alts := [], laidByText := true, laidKinds := [.data, .data, .data, .data, .data], laidTests := true, laidLooks := .later }
def PrimTermsUptoCardSaid : Prop := Claim7.holds Tryz.pinned (.plain (OpenSpec.upto primTermsSpec)) primTermsUptoCard

/-- THE SECOND FORM's CARD OF 'pawllaw08.PrimNil'. -/
def primNilUptoCard : Claim7 := { stood := { row := primNilUptoRow, standIns := [], harness := (true, "c2afa6573170bab49d76824707c774a2d77ce417786b5eb6f2769757395acdf0"), looks := true }, kinds := [], alts := [], laidByText := true, laidKinds := [.data, .data, .data, .data, .data, .sentinel, .sentinel], laidTests := true, laidLooks := .later }
def PrimNilUptoCardSaid : Prop := Claim7.holds Tryz.pinned (.plain (OpenSpec.upto primNilSpec)) primNilUptoCard
end Rows
end Go.Proofs.YtphcaiplgpmnnaaGreatDoor
