/-
  DERIVED. GIVEN WITH THE SEED: THE CARDS: each row of YtibemhcnjdgemaaDoorRows.lean that lists a variable, with what it lists TIED to the program's text (the seventh form; the later family's looks); each row that meets fmt, with fmt's text TOLD by the authors' own Lean function (tested against real Go, not proved from fmt's source: count such statements apart). THE CARD IS WHAT COUNTS. Prove the row's statement (the work); the ties are given (YtibemhcnjdgemaaDoorTie.lean); close each card by the builder's one call (the guide's Derived/Test/ToyasCard.lean, 'card_holds'). Laid BY PROGRAM, IN A SANDBOX (cutbox-door.mjs). By AI agents, Wed Nov 11 2026. No macro, syntax, notation, axiom, sorry.
-/
import Derived.Test.YtibemhcnjdgemaaDoorRows
import GoSem.ClaimSeven
namespace Go.Proofs.YtibemhcnjdgemaaDoor
namespace Rows

/-- THE TIED CARD OF 'pawllaw10.ChainSteps'. -/
def chainStepsCard : Claim7 := { stood := { row := chainStepsRow, standIns := [], harness := (true, "d2da7ee791d461c8c405064a8b179e7526cde061163b3f9aac58f92e5b3e57b8"), looks := true }, kinds := [], alts := [], laidByText := true, laidKinds := [.data, .data, .data, .data, .data], laidTests := true, laidLooks := .later }
def ChainStepsCardSaid : Prop := Claim7.holds Tryd.pinned (.plain (OpenSpec.ofChange chainStepsSpec)) chainStepsCard

/-- THE TIED CARD OF 'pawllaw10.ChainAhead'. -/
def chainAheadCard : Claim7 := { stood := { row := chainAheadRow, standIns := [], harness := (true, "d2da7ee791d461c8c405064a8b179e7526cde061163b3f9aac58f92e5b3e57b8"), looks := true }, kinds := [], alts := [], laidByText := true, laidKinds := [.data, .data, .data, .data, .data], laidTests := true, laidLooks := .later }
def ChainAheadCardSaid : Prop := Claim7.holds Tryd.pinned (.plain (OpenSpec.ofChange chainAheadSpec)) chainAheadCard

/-- THE TIED CARD OF 'pawllaw07.TermMarks'. -/
def termMarksCard : Claim7 := { stood := { row := termMarksRow, standIns := [], harness := (true, "d2da7ee791d461c8c405064a8b179e7526cde061163b3f9aac58f92e5b3e57b8"), looks := true }, kinds := [], alts := [], laidByText := true, laidKinds := [.data, .data, .data, .sentinel, .sentinel], laidTests := true, laidLooks := .later }
def TermMarksCardSaid : Prop := Claim7.holds Tryd.pinned (.plain (OpenSpec.ofChange termMarksSpec)) termMarksCard

/-- THE TIED CARD OF 'pawllaw10.ChainStores'. -/
def chainStoresCard : Claim7 := { stood := { row := chainStoresRow, standIns := [], harness := (true, "d2da7ee791d461c8c405064a8b179e7526cde061163b3f9aac58f92e5b3e57b8"), looks := true }, kinds := [], alts := [], laidByText := true, laidKinds := [.data, .data, .data, .data, .data], laidTests := true, laidLooks := .later }
def ChainStoresCardSaid : Prop := Claim7.holds Tryd.pinned (.plain (OpenSpec.ofChange chainStoresSpec)) chainStoresCard

/-- THE TIED CARD OF 'pawllaw10.ChainNil'. -/
def chainNilCard : Claim7 := { stood := { row := chainNilRow, standIns := [], harness := (true, "d2da7ee791d461c8c405064a8b179e7526cde061163b3f9aac58f92e5b3e57b8"), looks := true }, kinds := [], alts := [], laidByText := true, laidKinds := [.data, .data, .data, .data, .data], laidTests := true, laidLooks := .later }
def ChainNilCardSaid : Prop := Claim7.holds Tryd.pinned (.plain (OpenSpec.ofChange chainNilSpec)) chainNilCard

/-- THE TIED CARD OF 'pawllaw07.TermNil'. -/
def termNilCard : Claim7 := { stood := { row := termNilRow, standIns := [], harness := (true, "d2da7ee791d461c8c405064a8b179e7526cde061163b3f9aac58f92e5b3e57b8"), looks := true }, kinds := [], alts := [], laidByText := true, laidKinds := [.data, .data, .data, .sentinel, .sentinel], laidTests := true, laidLooks := .later }
def TermNilCardSaid : Prop := Claim7.holds Tryd.pinned (.plain (OpenSpec.ofChange termNilSpec)) termNilCard

/-- THE TIED CARD OF 'pawllaw07.TermPuts'. -/
def termPutsCard : Claim7 := { stood := { row := termPutsRow, standIns := [], harness := (true, "d2da7ee791d461c8c405064a8b179e7526cde061163b3f9aac58f92e5b3e57b8"), looks := true }, kinds := [], alts := [], laidByText := true, laidKinds := [.data, .data, .data, .sentinel, .sentinel], laidTests := true, laidLooks := .later }
def TermPutsCardSaid : Prop := Claim7.holds Tryd.pinned (.plain (OpenSpec.ofChange termPutsSpec)) termPutsCard

/-- THE TIED CARD OF 'pawllaw07.TermBytes'. -/
def termBytesCard : Claim7 := { stood := { row := termBytesRow, standIns := [], harness := (true, "d2da7ee791d461c8c405064a8b179e7526cde061163b3f9aac58f92e5b3e57b8"), looks := true }, kinds := [], alts := [], laidByText := true, laidKinds := [.data, .data, .data, .sentinel, .sentinel], laidTests := true, laidLooks := .later }
def TermBytesCardSaid : Prop := Claim7.holds Tryd.pinned (.plain (OpenSpec.ofChange termBytesSpec)) termBytesCard

/-- THE TIED CARD OF 'pawllaw07.TermAgree'. -/
def termAgreeCard : Claim7 := { stood := { row := termAgreeRow, standIns := [], harness := (true, "d2da7ee791d461c8c405064a8b179e7526cde061163b3f9aac58f92e5b3e57b8"), looks := true }, kinds := [], alts := [], laidByText := true, laidKinds := [.data, .data, .data, .sentinel, .sentinel], laidTests := true, laidLooks := .later }
def TermAgreeCardSaid : Prop := Claim7.holds Tryd.pinned (.plain (OpenSpec.ofChange termAgreeSpec)) termAgreeCard

/-- THE SECOND FORM's CARD OF 'pawllaw10.ChainSteps'. -/
def chainStepsUptoCard : Claim7 := { stood := { row := chainStepsUptoRow, standIns := [], harness := (true, "d2da7ee791d461c8c405064a8b179e7526cde061163b3f9aac58f92e5b3e57b8"), looks := true }, kinds := [], alts := [], laidByText := true, laidKinds := [.data, .data, .data, .data, .data], laidTests := true, laidLooks := .later }
def ChainStepsUptoCardSaid : Prop := Claim7.holds Tryd.pinned (.plain (OpenSpec.upto chainStepsSpec)) chainStepsUptoCard

/-- THE SECOND FORM's CARD OF 'pawllaw10.ChainAhead'. -/
def chainAheadUptoCard : Claim7 := { stood := { row := chainAheadUptoRow, standIns := [], harness := (true, "d2da7ee791d461c8c405064a8b179e7526cde061163b3f9aac58f92e5b3e57b8"), looks := true }, kinds := [], alts := [], laidByText := true, laidKinds := [.data, .data, .data, .data, .data], laidTests := true, laidLooks := .later }
def ChainAheadUptoCardSaid : Prop := Claim7.holds Tryd.pinned (.plain (OpenSpec.upto chainAheadSpec)) chainAheadUptoCard

/-- THE SECOND FORM's CARD OF 'pawllaw07.TermMarks'. -/
def termMarksUptoCard : Claim7 := { stood := { row := termMarksUptoRow, standIns := [], harness := (true, "d2da7ee791d461c8c405064a8b179e7526cde061163b3f9aac58f92e5b3e57b8"), looks := true }, kinds := [], alts := [], laidByText := true, laidKinds := [.data, .data, .data, .sentinel, .sentinel], laidTests := true, laidLooks := .later }
def TermMarksUptoCardSaid : Prop := Claim7.holds Tryd.pinned (.plain (OpenSpec.upto termMarksSpec)) termMarksUptoCard

/-- THE SECOND FORM's CARD OF 'pawllaw10.ChainStores'. -/
def chainStoresUptoCard : Claim7 := { stood := { row := chainStoresUptoRow, standIns := [], harness := (true, "d2da7ee791d461c8c405064a8b179e7526cde061163b3f9aac58f92e5b3e57b8"), looks := true }, kinds := [], alts := [], laidByText := true, laidKinds := [.data, .data, .data, .data, .data], laidTests := true, laidLooks := .later }
def ChainStoresUptoCardSaid : Prop := Claim7.holds Tryd.pinned (.plain (OpenSpec.upto chainStoresSpec)) chainStoresUptoCard

/-- THE SECOND FORM's CARD OF 'pawllaw10.ChainNil'. -/
def chainNilUptoCard : Claim7 := { stood := { row := chainNilUptoRow, standIns := [], harness := (true, "d2da7ee791d461c8c405064a8b179e7526cde061163b3f9aac58f92e5b3e57b8"), looks := true }, kinds := [], alts := [], laidByText := true, laidKinds := [.data, .data, .data, .data, .data], laidTests := true, laidLooks := .later }
def ChainNilUptoCardSaid : Prop := Claim7.holds Tryd.pinned (.plain (OpenSpec.upto chainNilSpec)) chainNilUptoCard

/-- THE SECOND FORM's CARD OF 'pawllaw07.TermNil'. -/
def termNilUptoCard : Claim7 := { stood := { row := termNilUptoRow, standIns := [], harness := (true, "d2da7ee791d461c8c405064a8b179e7526cde061163b3f9aac58f92e5b3e57b8"), looks := true }, kinds := [], alts := [], laidByText := true, laidKinds := [.data, .data, .data, .sentinel, .sentinel], laidTests := true, laidLooks := .later }
def TermNilUptoCardSaid : Prop := Claim7.holds Tryd.pinned (.plain (OpenSpec.upto termNilSpec)) termNilUptoCard

/-- THE SECOND FORM's CARD OF 'pawllaw07.TermPuts'. -/
def termPutsUptoCard : Claim7 := { stood := { row := termPutsUptoRow, standIns := [], harness := (true, "d2da7ee791d461c8c405064a8b179e7526cde061163b3f9aac58f92e5b3e57b8"), looks := true }, kinds := [], alts := [], laidByText := true, laidKinds := [.data, .data, .data, .sentinel, .sentinel], laidTests := true, laidLooks := .later }
def TermPutsUptoCardSaid : Prop := Claim7.holds Tryd.pinned (.plain (OpenSpec.upto termPutsSpec)) termPutsUptoCard

/-- THE SECOND FORM's CARD OF 'pawllaw07.TermBytes'. -/
def termBytesUptoCard : Claim7 := { stood := { row := termBytesUptoRow, standIns := [], harness := (true, "d2da7ee791d461c8c405064a8b179e7526cde061163b3f9aac58f92e5b3e57b8"), looks := true }, kinds := [], alts := [], laidByText := true, laidKinds := [.data, .data, .data, .sentinel, .sentinel], laidTests := true, laidLooks := .later }
def TermBytesUptoCardSaid : Prop := Claim7.holds Tryd.pinned (.plain (OpenSpec.upto termBytesSpec)) termBytesUptoCard

/-- THE SECOND FORM's CARD OF 'pawllaw07.TermAgree'. -/
def termAgreeUptoCard : Claim7 := { stood := { row := termAgreeUptoRow, standIns := [], harness := (true, "d2da7ee791d461c8c405064a8b179e7526cde061163b3f9aac58f92e5b3e57b8"), looks := true }, kinds := [], alts := [], laidByText := true, laidKinds := [.data, .data, .data, .sentinel, .sentinel], laidTests := true, laidLooks := .later }
def TermAgreeUptoCardSaid : Prop := Claim7.holds Tryd.pinned (.plain (OpenSpec.upto termAgreeSpec)) termAgreeUptoCard
end Rows
end Go.Proofs.YtibemhcnjdgemaaDoor
