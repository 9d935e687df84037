/-
  DERIVED. GIVEN WITH THE SEED: THE CARDS: each row of YtgcfomhlgipllaaGreatDoorRows.lean that lists a variable, with what it lists TIED to the program's text (the seventh form; the later family's looks); each row that meets fmt, with fmt's text TOLD by the authors' own Lean function (tested against real Go, not proved from fmt's source: count such statements apart). THE CARD IS WHAT COUNTS. Prove the row's statement (the work); the ties are given (YtgcfomhlgipllaaGreatDoorTie.lean); close each card by the builder's one call (the guide's Derived/Test/ToyasCard.lean, 'card_holds'). Laid BY PROGRAM, IN A SANDBOX (cutbox-door.mjs). By AI agents, Wed Nov 11 2026. No macro, syntax, notation, axiom, sorry.
-/
import Derived.Test.YtgcfomhlgipllaaGreatDoorRows
import GoSem.ClaimSeven
namespace Go.Proofs.YtgcfomhlgipllaaGreatDoor
namespace Rows

/-- THE TIED CARD OF 'hindcastlaw07.CodeChecks'. -/
def codeChecksCard : Claim7 := { stood := { row := codeChecksRow, standIns := [], harness := (true, "314cf81aeb29fd8f19ba63644923c96eb9a7670a7d3ef0b97a45f39572c645d6"), looks := true }, kinds := [], alts := [], laidByText := true, laidKinds := [.data, .data, .data, .data, .data, .data], laidTests := true, laidLooks := .later }
def CodeChecksCardSaid : Prop := Claim7.holds Tryz.pinned (.plain (OpenSpec.ofChange codeChecksSpec)) codeChecksCard

/-- THE TIED CARD OF 'hindcastlaw07.CodeWrites'. -/
def codeWritesCard : Claim7 := { stood := { row := codeWritesRow, standIns := [], harness := (true, "314cf81aeb29fd8f19ba63644923c96eb9a7670a7d3ef0b97a45f39572c645d6"), looks := true }, kinds := [], alts := [], laidByText := true, laidKinds := [.data, .data, .data, .data, .data, .data], laidTests := true, laidLooks := .later }
def CodeWritesCardSaid : Prop := Claim7.holds Tryz.pinned (.plain (OpenSpec.ofChange codeWritesSpec)) codeWritesCard

/-- THE TIED CARD OF 'hindcastlaw07.CodeReads'. -/
def codeReadsCard : Claim7 := { stood := { row := codeReadsRow, standIns := [], harness := (true, "314cf81aeb29fd8f19ba63644923c96eb9a7670a7d3ef0b97a45f39572c645d6"), looks := true }, kinds := [], alts := [], laidByText := true, laidKinds := [.data, .data, .data, .data, .data, .data], laidTests := true, laidLooks := .later }
def CodeReadsCardSaid : Prop := Claim7.holds Tryz.pinned (.plain (OpenSpec.ofChange codeReadsSpec)) codeReadsCard

/-- THE TIED CARD OF 'hindcastlaw07.CodeBack'. -/
def codeBackCard : Claim7 := { stood := { row := codeBackRow, standIns := [], harness := (true, "314cf81aeb29fd8f19ba63644923c96eb9a7670a7d3ef0b97a45f39572c645d6"), looks := true }, kinds := [], alts := [], laidByText := true, laidKinds := [.data, .data, .data, .data, .data, .data], laidTests := true, laidLooks := .later }
def CodeBackCardSaid : Prop := Claim7.holds Tryz.pinned (.plain (OpenSpec.ofChange codeBackSpec)) codeBackCard

/-- THE TIED CARD OF 'hindcastlaw07.CodeHeights'. -/
def codeHeightsCard : Claim7 := { stood := { row := codeHeightsRow, standIns := [], harness := (true, "314cf81aeb29fd8f19ba63644923c96eb9a7670a7d3ef0b97a45f39572c645d6"), looks := true }, kinds := [], alts := [], laidByText := true, laidKinds := [.data, .data, .data, .data, .data, .data], laidTests := true, laidLooks := .later }
def CodeHeightsCardSaid : Prop := Claim7.holds Tryz.pinned (.plain (OpenSpec.ofChange codeHeightsSpec)) codeHeightsCard

/-- THE TIED CARD OF 'hindcastlaw07.CodeCut'. -/
def codeCutCard : Claim7 := { stood := { row := codeCutRow, standIns := [], harness := (true, "314cf81aeb29fd8f19ba63644923c96eb9a7670a7d3ef0b97a45f39572c645d6"), looks := true }, kinds := [], alts := [], laidByText := true, laidKinds := [.data, .data, .data, .data, .data, .data], laidTests := true, laidLooks := .later }
def CodeCutCardSaid : Prop := Claim7.holds Tryz.pinned (.plain (OpenSpec.ofChange codeCutSpec)) codeCutCard

/-- THE TIED CARD OF 'hindcastlaw16.ShowFaults'. -/
def showFaultsCard : Claim7 := { stood := { row := showFaultsRow, standIns := [], harness := (true, "314cf81aeb29fd8f19ba63644923c96eb9a7670a7d3ef0b97a45f39572c645d6"), looks := true }, kinds := [], alts := [], laidByText := true, laidKinds := [.data, .data, .data, .data, .data, .data, .pinned], laidTests := true, laidLooks := .later }
def ShowFaultsCardSaid : Prop := Claim7.holds Tryz.pinned (.plain (OpenSpec.ofChange showFaultsSpec)) showFaultsCard

/-- THE TIED CARD OF 'hindcastlaw16.ShowNil'. -/
def showNilCard : Claim7 := { stood := { row := showNilRow, standIns := [], harness := (true, "314cf81aeb29fd8f19ba63644923c96eb9a7670a7d3ef0b97a45f39572c645d6"), looks := true }, kinds := [], alts := [], laidByText := true, laidKinds := [.data, .data, .data, .data, .data, .data, .pinned], laidTests := true, laidLooks := .later }
def ShowNilCardSaid : Prop := Claim7.holds Tryz.pinned (.plain (OpenSpec.ofChange showNilSpec)) showNilCard

/-- THE TIED CARD OF 'hindcastlaw16.ShowSame'. -/
def showSameCard : Claim7 := { stood := { row := showSameRow, standIns := [], harness := (true, "314cf81aeb29fd8f19ba63644923c96eb9a7670a7d3ef0b97a45f39572c645d6"), looks := true }, kinds := [], alts := [], laidByText := true, laidKinds := [.data, .data, .data, .data, .data, .data, .pinned], laidTests := true, laidLooks := .later }
def ShowSameCardSaid : Prop := Claim7.holds Tryz.pinned (.plain (OpenSpec.ofChange showSameSpec)) showSameCard

/-- THE TIED CARD OF 'hindcastlaw16.ShowSelects'. -/
def showSelectsCard : Claim7 := { stood := { row := showSelectsRow, standIns := [], harness := (true, "314cf81aeb29fd8f19ba63644923c96eb9a7670a7d3ef0b97a45f39572c645d6"), looks := true }, kinds := [], alts := [], laidByText := true, laidKinds := [.data, .data, .data, .data, .data, .data, .pinned], laidTests := true, laidLooks := .later }
def ShowSelectsCardSaid : Prop := Claim7.holds Tryz.pinned (.plain (OpenSpec.ofChange showSelectsSpec)) showSelectsCard

/-- THE TIED CARD OF 'hindcastlaw16.ShowEach'. -/
def showEachCard : Claim7 := { stood := { row := showEachRow, standIns := [], harness := (true, "314cf81aeb29fd8f19ba63644923c96eb9a7670a7d3ef0b97a45f39572c645d6"), looks := true }, kinds := [], alts := [], laidByText := true, laidKinds := [.data, .data, .data, .data, .data, .data, .pinned], laidTests := true, laidLooks := .later }
def ShowEachCardSaid : Prop := Claim7.holds Tryz.pinned (.plain (OpenSpec.ofChange showEachSpec)) showEachCard

/-- THE SECOND FORM's CARD OF 'hindcastlaw07.CodeChecks'. -/
def codeChecksUptoCard : Claim7 := { stood := { row := codeChecksUptoRow, standIns := [], harness := (true, "314cf81aeb29fd8f19ba63644923c96eb9a7670a7d3ef0b97a45f39572c645d6"), looks := true }, kinds := [], alts := [], laidByText := true, laidKinds := [.data, .data, .data, .data, .data, .data], laidTests := true, laidLooks := .later }
def CodeChecksUptoCardSaid : Prop := Claim7.holds Tryz.pinned (.plain (OpenSpec.upto codeChecksSpec)) codeChecksUptoCard

/-- THE SECOND FORM's CARD OF 'hindcastlaw07.CodeWrites'. -/
def codeWritesUptoCard : Claim7 := { stood := { row := codeWritesUptoRow, standIns := [], harness := (true, "314cf81aeb29fd8f19ba63644923c96eb9a7670a7d3ef0b97a45f39572c645d6"), looks := true }, kinds := [], alts := [], laidByText := true, laidKinds := [.data, .data, .data, .data, .data, .data], laidTests := true, laidLooks := .later }
def CodeWritesUptoCardSaid : Prop := Claim7.holds Tryz.pinned (.plain (OpenSpec.upto codeWritesSpec)) codeWritesUptoCard

/-- THE SECOND FORM's CARD OF 'hindcastlaw07.CodeReads'. -/
def codeReadsUptoCard : Claim7 := { stood := { row := codeReadsUptoRow, standIns := [], harness := (true, "314cf81aeb29fd8f19ba63644923c96eb9a7670a7d3ef0b97a45f39572c645d6"), looks := true }, kinds := [], alts := [], laidByText := true, laidKinds := [.data, .data, .data, .data, .data, .data], laidTests := true, laidLooks := .later }
def CodeReadsUptoCardSaid : Prop := Claim7.holds Tryz.pinned (.plain (OpenSpec.upto codeReadsSpec)) codeReadsUptoCard

/-- THE SECOND FORM's CARD OF 'hindcastlaw07.CodeBack'. -/
def codeBackUptoCard : Claim7 := { stood := { row := codeBackUptoRow, standIns := [], harness := (true, "314cf81aeb29fd8f19ba63644923c96eb9a7670a7d3ef0b97a45f39572c645d6"), looks := true }, kinds := [], alts := [], laidByText := true, laidKinds := [.data, .data, .data, .data, .data, .data], laidTests := true, laidLooks := .later }
def CodeBackUptoCardSaid : Prop := Claim7.holds Tryz.pinned (.plain (OpenSpec.upto codeBackSpec)) codeBackUptoCard

/-- THE SECOND FORM's CARD OF 'hindcastlaw07.CodeHeights'. -/
def codeHeightsUptoCard : Claim7 := { stood := { row := codeHeightsUptoRow, standIns := [], harness := (true, "314cf81aeb29fd8f19ba63644923c96eb9a7670a7d3ef0b97a45f39572c645d6"), looks := true }, kinds := [], alts := [], laidByText := true, laidKinds := [.data, .data, .data, .data, .data, .data], laidTests := true, laidLooks := .later }
def CodeHeightsUptoCardSaid : Prop := Claim7.holds Tryz.pinned (.plain (OpenSpec.upto codeHeightsSpec)) codeHeightsUptoCard

/-- THE SECOND FORM's CARD OF 'hindcastlaw07.CodeCut'. -/
def codeCutUptoCard : Claim7 := { stood := { row := codeCutUptoRow, standIns := [], harness := (true, "314cf81aeb29fd8f19ba63644923c96eb9a7670a7d3ef0b97a45f39572c645d6"), looks := true }, kinds := [], alts := [], laidByText := true, laidKinds := [.data, .data, .data, .data, .data, .data], laidTests := true, laidLooks := .later }
def CodeCutUptoCardSaid : Prop := Claim7.holds Tryz.pinned (.plain (OpenSpec.upto codeCutSpec)) codeCutUptoCard

/-- THE SECOND FORM's CARD OF 'hindcastlaw16.ShowFaults'. -/
def showFaultsUptoCard : Claim7 := { stood := { row := showFaultsUptoRow, standIns := [], harness := (true, "314cf81aeb29fd8f19ba63644923c96eb9a7670a7d3ef0b97a45f39572c645d6"), looks := true }, kinds := [], alts := [], laidByText := true, laidKinds := [.data, .data, .data, .data, .data, .data, .pinned], laidTests := true, laidLooks := .later }
def ShowFaultsUptoCardSaid : Prop := Claim7.holds Tryz.pinned (.plain (OpenSpec.upto showFaultsSpec)) showFaultsUptoCard

/-- THE SECOND FORM's CARD OF 'hindcastlaw16.ShowNil'. -/
def showNilUptoCard : Claim7 := { stood := { row := showNilUptoRow, standIns := [], harness := (true, "314cf81aeb29fd8f19ba63644923c96eb9a7670a7d3ef0b97a45f39572c645d6"), looks := true }, kinds := [], alts := [], laidByText := true, laidKinds := [.data, .data, .data, .data, .data, .data, .pinned], laidTests := true, laidLooks := .later }
def ShowNilUptoCardSaid : Prop := Claim7.holds Tryz.pinned (.plain (OpenSpec.upto showNilSpec)) showNilUptoCard

/-- THE SECOND FORM's CARD OF 'hindcastlaw16.ShowSame'. -/
def showSameUptoCard : Claim7 := { stood := { row := showSameUptoRow, standIns := [], harness := (true, "314cf81aeb29fd8f19ba63644923c96eb9a7670a7d3ef0b97a45f39572c645d6"), looks := true }, kinds := [], alts := [], laidByText := true, laidKinds := [.data, .data, .data, .data, .data, .data, .pinned], laidTests := true, laidLooks := .later }
def ShowSameUptoCardSaid : Prop := Claim7.holds Tryz.pinned (.plain (OpenSpec.upto showSameSpec)) showSameUptoCard

/-- THE SECOND FORM's CARD OF 'hindcastlaw16.ShowSelects'. -/
def showSelectsUptoCard : Claim7 := { stood := { row := showSelectsUptoRow, standIns := [], harness := (true, "314cf81aeb29fd8f19ba63644923c96eb9a7670a7d3ef0b97a45f39572c645d6"), looks := true }, kinds := [], alts := [], laidByText := true, laidKinds := [.data, .data, .data, .data, .data, .data, .pinned], laidTests := true, laidLooks := .later }
def ShowSelectsUptoCardSaid : Prop := Claim7.holds Tryz.pinned (.plain (OpenSpec.upto showSelectsSpec)) showSelectsUptoCard

/-- THE SECOND FORM's CARD OF 'hindcastlaw16.ShowEach'. -/
def showEachUptoCard : Claim7 := { stood := { row := showEachUptoRow, standIns := [], harness := (true, "314cf81aeb29fd8f19ba63644923c96eb9a7670a7d3ef0b97a45f39572c645d6"), looks := true }, kinds := [], alts := [], laidByText := true, laidKinds := [.data, .data, .data, .data, .data, .data, .pinned], laidTests := true, laidLooks := .later }
def ShowEachUptoCardSaid : Prop := Claim7.holds Tryz.pinned (.plain (OpenSpec.upto showEachSpec)) showEachUptoCard
end Rows
end Go.Proofs.YtgcfomhlgipllaaGreatDoor
