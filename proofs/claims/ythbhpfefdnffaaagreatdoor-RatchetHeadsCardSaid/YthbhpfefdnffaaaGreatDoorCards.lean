/-
  DERIVED. GIVEN WITH THE SEED: THE CARDS: each row of YthbhpfefdnffaaaGreatDoorRows.lean that lists a variable, with what it lists TIED to the program's text (the seventh form; the later family's looks); each row that meets fmt, with fmt's text TOLD by the authors' own Lean function (tested against real Go, not proved from fmt's source: count such statements apart). THE CARD IS WHAT COUNTS. Prove the row's statement (the work); the ties are given (YthbhpfefdnffaaaGreatDoorTie.lean); close each card by the builder's one call (the guide's Derived/Test/ToyasCard.lean, 'card_holds'). Laid BY PROGRAM, IN A SANDBOX (cutbox-door.mjs). By AI agents, Wed Nov 11 2026. No macro, syntax, notation, axiom, sorry.
-/
import Derived.Test.YthbhpfefdnffaaaGreatDoorRows
import GoSem.ClaimSeven
namespace Go.Proofs.YthbhpfefdnffaaaGreatDoor
namespace Rows

/-- THE TIED CARD OF 'pawllaw13.AgreeSigned'. -/
def agreeSignedCard : Claim7 := { stood := { row := agreeSignedRow, standIns := [], harness := (true, "7defb836ec030e4b9686381a181e9680f6e2a6358f9f3cfe34ef1115f27dea30"), looks := true }, kinds := [], alts := [], laidByText := true, laidKinds := [.data, .data, .data, .data, .data], laidTests := true, laidLooks := .later }
def AgreeSignedCardSaid : Prop := Claim7.holds Tryz.pinned (.plain (OpenSpec.ofChange agreeSignedSpec)) agreeSignedCard

/-- THE TIED CARD OF 'pawllaw13.AgreeOthers'. -/
def agreeOthersCard : Claim7 := { stood := { row := agreeOthersRow, standIns := [], harness := (true, "7defb836ec030e4b9686381a181e9680f6e2a6358f9f3cfe34ef1115f27dea30"), looks := true }, kinds := [], alts := [], laidByText := true, laidKinds := [.data, .data, .data, .data, .data], laidTests := true, laidLooks := .later }
def AgreeOthersCardSaid : Prop := Claim7.holds Tryz.pinned (.plain (OpenSpec.ofChange agreeOthersSpec)) agreeOthersCard

/-- THE TIED CARD OF 'pawllaw13.AgreeNil'. -/
def agreeNilCard : Claim7 := { stood := { row := agreeNilRow, standIns := [], harness := (true, "7defb836ec030e4b9686381a181e9680f6e2a6358f9f3cfe34ef1115f27dea30"), looks := true }, kinds := [], alts := [], laidByText := true, laidKinds := [.data, .data, .data, .data, .data], laidTests := true, laidLooks := .later }
def AgreeNilCardSaid : Prop := Claim7.holds Tryz.pinned (.plain (OpenSpec.ofChange agreeNilSpec)) agreeNilCard

/-- THE TIED CARD OF 'pawllaw13.AgreeGoes'. -/
def agreeGoesCard : Claim7 := { stood := { row := agreeGoesRow, standIns := [], harness := (true, "7defb836ec030e4b9686381a181e9680f6e2a6358f9f3cfe34ef1115f27dea30"), looks := true }, kinds := [], alts := [], laidByText := true, laidKinds := [.data, .data, .data, .data, .data], laidTests := true, laidLooks := .later }
def AgreeGoesCardSaid : Prop := Claim7.holds Tryz.pinned (.plain (OpenSpec.ofChange agreeGoesSpec)) agreeGoesCard

/-- THE TIED CARD OF 'pawllaw13.AgreeGone'. -/
def agreeGoneCard : Claim7 := { stood := { row := agreeGoneRow, standIns := [], harness := (true, "7defb836ec030e4b9686381a181e9680f6e2a6358f9f3cfe34ef1115f27dea30"), looks := true }, kinds := [], alts := [], laidByText := true, laidKinds := [.data, .data, .data, .data, .data], laidTests := true, laidLooks := .later }
def AgreeGoneCardSaid : Prop := Claim7.holds Tryz.pinned (.plain (OpenSpec.ofChange agreeGoneSpec)) agreeGoneCard

/-- THE TIED CARD OF 'pawllaw13.AgreeWiths'. -/
def agreeWithsCard : Claim7 := { stood := { row := agreeWithsRow, standIns := [], harness := (true, "7defb836ec030e4b9686381a181e9680f6e2a6358f9f3cfe34ef1115f27dea30"), looks := true }, kinds := [], alts := [], laidByText := true, laidKinds := [.data, .data, .data, .data, .data], laidTests := true, laidLooks := .later }
def AgreeWithsCardSaid : Prop := Claim7.holds Tryz.pinned (.plain (OpenSpec.ofChange agreeWithsSpec)) agreeWithsCard

/-- THE TIED CARD OF 'pawllaw11.RatchetHeads'. -/
def ratchetHeadsCard : Claim7 := { stood := { row := ratchetHeadsRow, standIns := [], harness := (true, "7defb836ec030e4b9686381a181e9680f6e2a6358f9f3cfe34ef1115f27dea30"), looks := true }, kinds := [], alts := [], laidByText := true, laidKinds := [.data, .data, .data, .data, .data, .sentinel, .sentinel], laidTests := true, laidLooks := .later }
def RatchetHeadsCardSaid : Prop := Claim7.holds Tryz.pinned (.plain (OpenSpec.ofChange ratchetHeadsSpec)) ratchetHeadsCard

/-- THE TIED CARD OF 'pawllaw11.RatchetSkips'. -/
def ratchetSkipsCard : Claim7 := { stood := { row := ratchetSkipsRow, standIns := [], harness := (true, "7defb836ec030e4b9686381a181e9680f6e2a6358f9f3cfe34ef1115f27dea30"), looks := true }, kinds := [], alts := [], laidByText := true, laidKinds := [.data, .data, .data, .data, .data, .sentinel, .sentinel], laidTests := true, laidLooks := .later }
def RatchetSkipsCardSaid : Prop := Claim7.holds Tryz.pinned (.plain (OpenSpec.ofChange ratchetSkipsSpec)) ratchetSkipsCard

/-- THE TIED CARD OF 'pawllaw11.RatchetTurns'. -/
def ratchetTurnsCard : Claim7 := { stood := { row := ratchetTurnsRow, standIns := [], harness := (true, "7defb836ec030e4b9686381a181e9680f6e2a6358f9f3cfe34ef1115f27dea30"), looks := true }, kinds := [], alts := [], laidByText := true, laidKinds := [.data, .data, .data, .data, .data, .sentinel, .sentinel], laidTests := true, laidLooks := .later }
def RatchetTurnsCardSaid : Prop := Claim7.holds Tryz.pinned (.plain (OpenSpec.ofChange ratchetTurnsSpec)) ratchetTurnsCard

/-- THE TIED CARD OF 'pawllaw11.RatchetApart'. -/
def ratchetApartCard : Claim7 := { stood := { row := ratchetApartRow, standIns := [], harness := (true, "7defb836ec030e4b9686381a181e9680f6e2a6358f9f3cfe34ef1115f27dea30"), looks := true }, kinds := [], alts := [], laidByText := true, laidKinds := [.data, .data, .data, .data, .data, .sentinel, .sentinel], laidTests := true, laidLooks := .later }
def RatchetApartCardSaid : Prop := Claim7.holds Tryz.pinned (.plain (OpenSpec.ofChange ratchetApartSpec)) ratchetApartCard

/-- THE TIED CARD OF 'pawllaw11.RatchetBytes'. -/
def ratchetBytesCard : Claim7 := { stood := { row := ratchetBytesRow, standIns := [], harness := (true, "7defb836ec030e4b9686381a181e9680f6e2a6358f9f3cfe34ef1115f27dea30"), looks := true }, kinds := [], alts := [], laidByText := true, laidKinds := [.data, .data, .data, .data, .data, .sentinel, .sentinel], laidTests := true, laidLooks := .later }
def RatchetBytesCardSaid : Prop := Claim7.holds Tryz.pinned (.plain (OpenSpec.ofChange ratchetBytesSpec)) ratchetBytesCard

/-- THE SECOND FORM's CARD OF 'pawllaw13.AgreeSigned'. -/
def agreeSignedUptoCard : Claim7 := { stood := { row := agreeSignedUptoRow, standIns := [], harness := (true, "7defb836ec030e4b9686381a181e9680f6e2a6358f9f3cfe34ef1115f27dea30"), looks := true }, kinds := [], alts := [], laidByText := true, laidKinds := [.data, .data, .data, .data, .data], laidTests := true, laidLooks := .later }
def AgreeSignedUptoCardSaid : Prop := Claim7.holds Tryz.pinned (.plain (OpenSpec.upto agreeSignedSpec)) agreeSignedUptoCard

/-- THE SECOND FORM's CARD OF 'pawllaw13.AgreeOthers'. -/
def agreeOthersUptoCard : Claim7 := { stood := { row := agreeOthersUptoRow, standIns := [], harness := (true, "7defb836ec030e4b9686381a181e9680f6e2a6358f9f3cfe34ef1115f27dea30"), looks := true }, kinds := [], alts := [], laidByText := true, laidKinds := [.data, .data, .data, .data, .data], laidTests := true, laidLooks := .later }
def AgreeOthersUptoCardSaid : Prop := Claim7.holds Tryz.pinned (.plain (OpenSpec.upto agreeOthersSpec)) agreeOthersUptoCard

/-- THE SECOND FORM's CARD OF 'pawllaw13.AgreeNil'. -/
def agreeNilUptoCard : Claim7 := { stood := { row := agreeNilUptoRow, standIns := [], harness := (true, "7defb836ec030e4b9686381a181e9680f6e2a6358f9f3cfe34ef1115f27dea30"), looks := true }, kinds := [], alts := [], laidByText := true, laidKinds := [.data, .data, .data, .data, .data], laidTests := true, laidLooks := .later }
def AgreeNilUptoCardSaid : Prop := Claim7.holds Tryz.pinned (.plain (OpenSpec.upto agreeNilSpec)) agreeNilUptoCard

/-- THE SECOND FORM's CARD OF 'pawllaw13.AgreeGoes'. -/
def agreeGoesUptoCard : Claim7 := { stood := { row := agreeGoesUptoRow, standIns := [], harness := (true, "7defb836ec030e4b9686381a181e9680f6e2a6358f9f3cfe34ef1115f27dea30"), looks := true }, kinds := [], alts := [], laidByText := true, laidKinds := [.data, .data, .data, .data, .data], laidTests := true, laidLooks := .later }
def AgreeGoesUptoCardSaid : Prop := Claim7.holds Tryz.pinned (.plain (OpenSpec.upto agreeGoesSpec)) agreeGoesUptoCard

/-- THE SECOND FORM's CARD OF 'pawllaw13.AgreeGone'. -/
def agreeGoneUptoCard : Claim7 := { stood := { row := agreeGoneUptoRow, standIns := [], harness := (true, "7defb836ec030e4b9686381a181e9680f6e2a6358f9f3cfe34ef1115f27dea30"), looks := true }, kinds := [], alts := [], laidByText := true, laidKinds := [.data, .data, .data, .data, .data], laidTests := true, laidLooks := .later }
def AgreeGoneUptoCardSaid : Prop := Claim7.holds Tryz.pinned (.plain (OpenSpec.upto agreeGoneSpec)) agreeGoneUptoCard

/-- THE SECOND FORM's CARD OF 'pawllaw13.AgreeWiths'. -/
def agreeWithsUptoCard : Claim7 := { stood := { row := agreeWithsUptoRow, standIns := [], harness := (true, "7defb836ec030e4b9686381a181e9680f6e2a6358f9f3cfe34ef1115f27dea30"), looks := true }, kinds := [], alts := [], laidByText := true, laidKinds := [.data, .data, .data, .data, .data], laidTests := true, laidLooks := .later }
def AgreeWithsUptoCardSaid : Prop := Claim7.holds Tryz.pinned (.plain (OpenSpec.upto agreeWithsSpec)) agreeWithsUptoCard

/-- THE SECOND FORM's CARD OF 'pawllaw11.RatchetHeads'. -/
def ratchetHeadsUptoCard : Claim7 := { stood := { row := ratchetHeadsUptoRow, standIns := [], harness := (true, "7defb836ec030e4b9686381a181e9680f6e2a6358f9f3cfe34ef1115f27dea30"), looks := true }, kinds := [], alts := [], laidByText := true, laidKinds := [.data, .data, .data, .data, .data, .sentinel, .sentinel], laidTests := true, laidLooks := .later }
def RatchetHeadsUptoCardSaid : Prop := Claim7.holds Tryz.pinned (.plain (OpenSpec.upto ratchetHeadsSpec)) ratchetHeadsUptoCard

/-- THE SECOND FORM's CARD OF 'pawllaw11.RatchetSkips'. -/
def ratchetSkipsUptoCard : Claim7 := { stood := { row := ratchetSkipsUptoRow, standIns := [], harness := (true, "7defb836ec030e4b9686381a181e9680f6e2a6358f9f3cfe34ef1115f27dea30"), looks := true }, kinds := [], alts := [], laidByText := true, laidKinds := [.data, .data, .data, .data, .data, .sentinel, .sentinel], laidTests := true, laidLooks := .later }
def RatchetSkipsUptoCardSaid : Prop := Claim7.holds Tryz.pinned (.plain (OpenSpec.upto ratchetSkipsSpec)) ratchetSkipsUptoCard

/-- THE SECOND FORM's CARD OF 'pawllaw11.RatchetTurns'. -/
def ratchetTurnsUptoCard : Claim7 := { stood := { row := ratchetTurnsUptoRow, standIns := [], harness := (true, "7defb836ec030e4b9686381a181e9680f6e2a6358f9f3cfe34ef1115f27dea30"), looks := true }, kinds := [], alts := [], laidByText := true, laidKinds := [.data, .data, .data, .data, .data, .sentinel, .sentinel], laidTests := true, laidLooks := .later }
def RatchetTurnsUptoCardSaid : Prop := Claim7.holds Tryz.pinned (.plain (OpenSpec.upto ratchetTurnsSpec)) ratchetTurnsUptoCard

/-- THE SECOND FORM's CARD OF 'pawllaw11.RatchetApart'. -/
def ratchetApartUptoCard : Claim7 := { stood := { row := ratchetApartUptoRow, standIns := [], harness := (true, "7defb836ec030e4b9686381a181e9680f6e2a6358f9f3cfe34ef1115f27dea30"), looks := true }, kinds := [], alts := [], laidByText := true, laidKinds := [.data, .data, .data, .data, .data, .sentinel, .sentinel], laidTests := true, laidLooks := .later }
def RatchetApartUptoCardSaid : Prop := Claim7.holds Tryz.pinned (.plain (OpenSpec.upto ratchetApartSpec)) ratchetApartUptoCard

/-- THE SECOND FORM's CARD OF 'pawllaw11.RatchetBytes'. -/
def ratchetBytesUptoCard : Claim7 := { stood := { row := ratchetBytesUptoRow, standIns := [], harness := (true, "7defb836ec030e4b9686381a181e9680f6e2a6358f9f3cfe34ef1115f27dea30"), looks := true }, kinds := [], alts := [], laidByText := true, laidKinds := [.data, .data, .data, .data, .data, .sentinel, .sentinel], laidTests := true, laidLooks := .later }
def RatchetBytesUptoCardSaid : Prop := Claim7.holds Tryz.pinned (.plain (OpenSpec.upto ratchetBytesSpec)) ratchetBytesUptoCard
end Rows
end Go.Proofs.YthbhpfefdnffaaaGreatDoor
