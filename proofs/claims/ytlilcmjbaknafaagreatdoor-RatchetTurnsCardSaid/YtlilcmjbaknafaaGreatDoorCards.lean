/-
  DERIVED. GIVEN WITH THE SEED: THE CARDS: each row of YtlilcmjbaknafaaGreatDoorRows.lean that lists a variable, with what it lists TIED to the program's text (the seventh form; the later family's looks); each row that meets fmt, with fmt's text TOLD by the authors' own Lean function (tested against real Go, not proved from fmt's source: count such statements apart). THE CARD IS WHAT COUNTS. Prove the row's statement (the work); the ties are given (YtlilcmjbaknafaaGreatDoorTie.lean); close each card by the builder's one call (the guide's Derived/Test/ToyasCard.lean, 'card_holds'). Laid BY PROGRAM, IN A SANDBOX (cutbox-door.mjs). By AI agents, Wed Nov 11 2026. No macro, syntax, notation, axiom, sorry.
-/
import Derived.Test.YtlilcmjbaknafaaGreatDoorRows
import GoSem.ClaimSeven
namespace Go.Proofs.YtlilcmjbaknafaaGreatDoor
namespace Rows

/-- THE TIED CARD OF 'pawllaw11.RatchetSkips'. -/
def ratchetSkipsCard : Claim7 := { stood := { row := ratchetSkipsRow, standIns := [], harness := (true, "934db06cfbb297e123bc2721ebacff51785470ab149c00bcbaaa89bac6840a88"), looks := true }, kinds := [], alts := [], laidByText := true, laidKinds := [.data, .data, .data, .data, .data, .sentinel, .sentinel], laidTests := true, laidLooks := .later }
def RatchetSkipsCardSaid : Prop := Claim7.holds Tryz.pinned (.plain (OpenSpec.ofChange ratchetSkipsSpec)) ratchetSkipsCard

/-- THE TIED CARD OF 'pawllaw11.RatchetTurns'. -/
def ratchetTurnsCard : Claim7 := { stood := { row := ratchetTurnsRow, standIns := [], harness := (true, "934db06cfbb297e123bc2721ebacff51785470ab149c00bcbaaa89bac6840a88"), looks := true }, kinds := [], alts := [], laidByText := true, laidKinds := [.data, .data, .data, .data, .data, .sentinel, .sentinel], laidTests := true, laidLooks := .later }
def RatchetTurnsCardSaid : Prop := Claim7.holds Tryz.pinned (.plain (OpenSpec.ofChange ratchetTurnsSpec)) ratchetTurnsCard

/-- THE TIED CARD OF 'pawllaw11.RatchetApart'. -/
def ratchetApartCard : Claim7 := { stood := { row := ratchetApartRow, standIns := [], harness := (true, "934db06cfbb297e123bc2721ebacff51785470ab149c00bcbaaa89bac6840a88"), looks := true }, kinds := [], alts := [], laidByText := true, laidKinds := [.data, .data, .data, .data, .data, .sentinel, .sentinel], laidTests := true, laidLooks := .later }
def RatchetApartCardSaid : Prop := Claim7.holds Tryz.pinned (.plain (OpenSpec.ofChange ratchetApartSpec)) ratchetApartCard

/-- THE TIED CARD OF 'pawllaw11.RatchetBytes'. -/
def ratchetBytesCard : Claim7 := { stood := { row := ratchetBytesRow, standIns := [], harness := (true, "934db06cfbb297e123bc2721ebacff51785470ab149c00bcbaaa89bac6840a88"), looks := true }, kinds := [], alts := [], laidByText := true, laidKinds := [.data, .data, .data, .data, .data, .sentinel, .sentinel], laidTests := true, laidLooks := .later }
def RatchetBytesCardSaid : Prop := Claim7.holds Tryz.pinned (.plain (OpenSpec.ofChange ratchetBytesSpec)) ratchetBytesCard

/-- THE SECOND FORM's CARD OF 'pawllaw11.RatchetSkips'. -/
def ratchetSkipsUptoCard : Claim7 := { stood := { row := ratchetSkipsUptoRow, standIns := [], harness := (true, "934db06cfbb297e123bc2721ebacff51785470ab149c00bcbaaa89bac6840a88"), looks := true }, kinds := [], alts := [], laidByText := true, laidKinds := [.data, .data, .data, .data, .data, .sentinel, .sentinel], laidTests := true, laidLooks := .later }
def RatchetSkipsUptoCardSaid : Prop := Claim7.holds Tryz.pinned (.plain (OpenSpec.upto ratchetSkipsSpec)) ratchetSkipsUptoCard

/-- THE SECOND FORM's CARD OF 'pawllaw11.RatchetTurns'. -/
def ratchetTurnsUptoCard : Claim7 := { stood := { row := ratchetTurnsUptoRow, standIns := [], harness := (true, "934db06cfbb297e123bc2721ebacff51785470ab149c00bcbaaa89bac6840a88"), looks := true }, kinds := [], alts := [], laidByText := true, laidKinds := [.data, .data, .data, .data, .data, .sentinel, .sentinel], laidTests := true, laidLooks := .later }
def RatchetTurnsUptoCardSaid : Prop := Claim7.holds Tryz.pinned (.plain (OpenSpec.upto ratchetTurnsSpec)) ratchetTurnsUptoCard

/-- THE SECOND FORM's CARD OF 'pawllaw11.RatchetApart'. -/
def ratchetApartUptoCard : Claim7 := { stood := { row := ratchetApartUptoRow, standIns := [], harness := (true, "934db06cfbb297e123bc2721ebacff51785470ab149c00bcbaaa89bac6840a88"), looks := true }, kinds := [], alts := [], laidByText := true, laidKinds := [.data, .data, .data, .data, .data, .sentinel, .sentinel], laidTests := true, laidLooks := .later }
def RatchetApartUptoCardSaid : Prop := Claim7.holds Tryz.pinned (.plain (OpenSpec.upto ratchetApartSpec)) ratchetApartUptoCard

/-- THE SECOND FORM's CARD OF 'pawllaw11.RatchetBytes'. -/
def ratchetBytesUptoCard : Claim7 := { stood := { row := ratchetBytesUptoRow, standIns := [], harness := (true, "934db06cfbb297e123bc2721ebacff51785470ab149c00bcbaaa89bac6840a88"), looks := true }, kinds := [], alts := [], laidByText := true, laidKinds := [.data, .data, .data, .data, .data, .sentinel, .sentinel], laidTests := true, laidLooks := .later }
def RatchetBytesUptoCardSaid : Prop := Claim7.holds Tryz.pinned (.plain (OpenSpec.upto ratchetBytesSpec)) ratchetBytesUptoCard
end Rows
end Go.Proofs.YtlilcmjbaknafaaGreatDoor
