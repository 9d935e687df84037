/-
  DERIVED. GIVEN WITH THE SEED: THE CARDS: each row of YtpfhleghgkeemaaGreatDoorRows.lean that lists a variable, with what it lists TIED to the program's text (the seventh form; the later family's looks); each row that meets fmt, with fmt's text TOLD by the authors' own Lean function (tested against real Go, not proved from fmt's source: count such statements apart). THE CARD IS WHAT COUNTS. Prove the row's statement (the work); the ties are given (YtpfhleghgkeemaaGreatDoorTie.lean); close each card by the builder's one call (the guide's Derived/Test/ToyasCard.lean, 'card_holds'). Laid BY PROGRAM, IN A SANDBOX (cutbox-door.mjs). By AI agents, Wed Nov 11 2026. No macro, syntax, notation, axiom, sorry.
-/
import Derived.Test.YtpfhleghgkeemaaGreatDoorRows
import GoSem.ClaimSeven
namespace Go.Proofs.YtpfhleghgkeemaaGreatDoor
namespace Rows

/-- THE TIED CARD OF 'hindcastlaw06.HeapFull'. -/
def heapFullCard : Claim7 := { stood := { row := heapFullRow, standIns := [], harness := (true, "6efc7731f48af2ff4a2333721cc5b17b67812201929b4c70b9a2ded6b1a87bc7"), looks := true }, kinds := [], alts := [], laidByText := true, laidKinds := [.data, .data, .data, .data, .data], laidTests := true, laidLooks := .later }
def HeapFullCardSaid : Prop := Claim7.holds Tryz.pinned (.plain (OpenSpec.ofChange heapFullSpec)) heapFullCard

/-- THE TIED CARD OF 'hindcastlaw06.HeapSet'. -/
def heapSetCard : Claim7 := { stood := { row := heapSetRow, standIns := [], harness := (true, "6efc7731f48af2ff4a2333721cc5b17b67812201929b4c70b9a2ded6b1a87bc7"), looks := true }, kinds := [], alts := [], laidByText := true, laidKinds := [.data, .data, .data, .data, .data], laidTests := true, laidLooks := .later }
def HeapSetCardSaid : Prop := Claim7.holds Tryz.pinned (.plain (OpenSpec.ofChange heapSetSpec)) heapSetCard

/-- THE TIED CARD OF 'hindcastlaw06.HeapShows'. -/
def heapShowsCard : Claim7 := { stood := { row := heapShowsRow, standIns := [], harness := (true, "6efc7731f48af2ff4a2333721cc5b17b67812201929b4c70b9a2ded6b1a87bc7"), looks := true }, kinds := [], alts := [], laidByText := true, laidKinds := [.data, .data, .data, .data, .data], laidTests := true, laidLooks := .later }
def HeapShowsCardSaid : Prop := Claim7.holds Tryz.pinned (.plain (OpenSpec.ofChange heapShowsSpec)) heapShowsCard

/-- THE TIED CARD OF 'hindcastlaw06.HeapLoads'. -/
def heapLoadsCard : Claim7 := { stood := { row := heapLoadsRow, standIns := [], harness := (true, "6efc7731f48af2ff4a2333721cc5b17b67812201929b4c70b9a2ded6b1a87bc7"), looks := true }, kinds := [], alts := [], laidByText := true, laidKinds := [.data, .data, .data, .data, .data], laidTests := true, laidLooks := .later }
def HeapLoadsCardSaid : Prop := Claim7.holds Tryz.pinned (.plain (OpenSpec.ofChange heapLoadsSpec)) heapLoadsCard

/-- THE TIED CARD OF 'hindcastlaw06.HeapBack'. -/
def heapBackCard : Claim7 := { stood := { row := heapBackRow, standIns := [], harness := (true, "6efc7731f48af2ff4a2333721cc5b17b67812201929b4c70b9a2ded6b1a87bc7"), looks := true }, kinds := [], alts := [], laidByText := true, laidKinds := [.data, .data, .data, .data, .data], laidTests := true, laidLooks := .later }
def HeapBackCardSaid : Prop := Claim7.holds Tryz.pinned (.plain (OpenSpec.ofChange heapBackSpec)) heapBackCard

/-- THE TIED CARD OF 'hindcastlaw06.HeapNil'. -/
def heapNilCard : Claim7 := { stood := { row := heapNilRow, standIns := [], harness := (true, "6efc7731f48af2ff4a2333721cc5b17b67812201929b4c70b9a2ded6b1a87bc7"), looks := true }, kinds := [], alts := [], laidByText := true, laidKinds := [.data, .data, .data, .data, .data], laidTests := true, laidLooks := .later }
def HeapNilCardSaid : Prop := Claim7.holds Tryz.pinned (.plain (OpenSpec.ofChange heapNilSpec)) heapNilCard

/-- THE TIED CARD OF 'hindcastlaw06.HeapPlays'. -/
def heapPlaysCard : Claim7 := { stood := { row := heapPlaysRow, standIns := [], harness := (true, "6efc7731f48af2ff4a2333721cc5b17b67812201929b4c70b9a2ded6b1a87bc7"), looks := true }, kinds := [], alts := [], laidByText := true, laidKinds := [.data, .data, .data, .data, .data], laidTests := true, laidLooks := .later }
def HeapPlaysCardSaid : Prop := Claim7.holds Tryz.pinned (.plain (OpenSpec.ofChange heapPlaysSpec)) heapPlaysCard

/-- THE TIED CARD OF 'hindcastlaw10.SnapWrites'. -/
def snapWritesCard : Claim7 := { stood := { row := snapWritesRow, standIns := [], harness := (true, "6efc7731f48af2ff4a2333721cc5b17b67812201929b4c70b9a2ded6b1a87bc7"), looks := true }, kinds := [], alts := [], laidByText := true, laidKinds := [.data, .data, .data, .data, .data], laidTests := true, laidLooks := .later }
def SnapWritesCardSaid : Prop := Claim7.holds Tryz.pinned (.plain (OpenSpec.ofChange snapWritesSpec)) snapWritesCard

/-- THE TIED CARD OF 'hindcastlaw10.SnapReads'. -/
def snapReadsCard : Claim7 := { stood := { row := snapReadsRow, standIns := [], harness := (true, "6efc7731f48af2ff4a2333721cc5b17b67812201929b4c70b9a2ded6b1a87bc7"), looks := true }, kinds := [], alts := [], laidByText := true, laidKinds := [.data, .data, .data, .data, .data], laidTests := true, laidLooks := .later }
def SnapReadsCardSaid : Prop := Claim7.holds Tryz.pinned (.plain (OpenSpec.ofChange snapReadsSpec)) snapReadsCard

/-- THE TIED CARD OF 'hindcastlaw10.SnapBack'. -/
def snapBackCard : Claim7 := { stood := { row := snapBackRow, standIns := [], harness := (true, "6efc7731f48af2ff4a2333721cc5b17b67812201929b4c70b9a2ded6b1a87bc7"), looks := true }, kinds := [], alts := [], laidByText := true, laidKinds := [.data, .data, .data, .data, .data], laidTests := true, laidLooks := .later }
def SnapBackCardSaid : Prop := Claim7.holds Tryz.pinned (.plain (OpenSpec.ofChange snapBackSpec)) snapBackCard

/-- THE TIED CARD OF 'hindcastlaw10.SnapCut'. -/
def snapCutCard : Claim7 := { stood := { row := snapCutRow, standIns := [], harness := (true, "6efc7731f48af2ff4a2333721cc5b17b67812201929b4c70b9a2ded6b1a87bc7"), looks := true }, kinds := [], alts := [], laidByText := true, laidKinds := [.data, .data, .data, .data, .data], laidTests := true, laidLooks := .later }
def SnapCutCardSaid : Prop := Claim7.holds Tryz.pinned (.plain (OpenSpec.ofChange snapCutSpec)) snapCutCard

/-- THE TIED CARD OF 'hindcastlaw10.SnapApart'. -/
def snapApartCard : Claim7 := { stood := { row := snapApartRow, standIns := [], harness := (true, "6efc7731f48af2ff4a2333721cc5b17b67812201929b4c70b9a2ded6b1a87bc7"), looks := true }, kinds := [], alts := [], laidByText := true, laidKinds := [.data, .data, .data, .data, .data], laidTests := true, laidLooks := .later }
def SnapApartCardSaid : Prop := Claim7.holds Tryz.pinned (.plain (OpenSpec.ofChange snapApartSpec)) snapApartCard

/-- THE SECOND FORM's CARD OF 'hindcastlaw06.HeapFull'. -/
def heapFullUptoCard : Claim7 := { stood := { row := heapFullUptoRow, standIns := [], harness := (true, "6efc7731f48af2ff4a2333721cc5b17b67812201929b4c70b9a2ded6b1a87bc7"), looks := true }, kinds := [], alts := [], laidByText := true, laidKinds := [.data, .data, .data, .data, .data], laidTests := true, laidLooks := .later }
def HeapFullUptoCardSaid : Prop := Claim7.holds Tryz.pinned (.plain (OpenSpec.upto heapFullSpec)) heapFullUptoCard

/-- THE SECOND FORM's CARD OF 'hindcastlaw06.HeapSet'. -/
def heapSetUptoCard : Claim7 := { stood := { row := heapSetUptoRow, standIns := [], harness := (true, "6efc7731f48af2ff4a2333721cc5b17b67812201929b4c70b9a2ded6b1a87bc7"), looks := true }, kinds := [], alts := [], laidByText := true, laidKinds := [.data, .data, .data, .data, .data], laidTests := true, laidLooks := .later }
def HeapSetUptoCardSaid : Prop := Claim7.holds Tryz.pinned (.plain (OpenSpec.upto heapSetSpec)) heapSetUptoCard

/-- THE SECOND FORM's CARD OF 'hindcastlaw06.HeapShows'. -/
def heapShowsUptoCard : Claim7 := { stood := { row := heapShowsUptoRow, standIns := [], harness := (true, "6efc7731f48af2ff4a2333721cc5b17b67812201929b4c70b9a2ded6b1a87bc7"), looks := true }, kinds := [], alts := [], laidByText := true, laidKinds := [.data, .data, .data, .data, .data], laidTests := true, laidLooks := .later }
def HeapShowsUptoCardSaid : Prop := Claim7.holds Tryz.pinned (.plain (OpenSpec.upto heapShowsSpec)) heapShowsUptoCard

/-- THE SECOND FORM's CARD OF 'hindcastlaw06.HeapLoads'. -/
def heapLoadsUptoCard : Claim7 := { stood := { row := heapLoadsUptoRow, standIns := [], harness := (true, "6efc7731f48af2ff4a2333721cc5b17b67812201929b4c70b9a2ded6b1a87bc7"), looks := true }, kinds := [], alts := [], laidByText := true, laidKinds := [.data, .data, .data, .data, .data], laidTests := true, laidLooks := .later }
def HeapLoadsUptoCardSaid : Prop := Claim7.holds Tryz.pinned (.plain (OpenSpec.upto heapLoadsSpec)) heapLoadsUptoCard

/-- THE SECOND FORM's CARD OF 'hindcastlaw06.HeapBack'. -/
def heapBackUptoCard : Claim7 := { stood := { row := heapBackUptoRow, standIns := [], harness := (true, "6efc7731f48af2ff4a2333721cc5b17b67812201929b4c70b9a2ded6b1a87bc7"), looks := true }, kinds := [], alts := [], laidByText := true, laidKinds := [.data, .data, .data, .data, .data], laidTests := true, laidLooks := .later }
def HeapBackUptoCardSaid : Prop := Claim7.holds Tryz.pinned (.plain (OpenSpec.upto heapBackSpec)) heapBackUptoCard

/-- THE SECOND FORM's CARD OF 'hindcastlaw06.HeapNil'. -/
def heapNilUptoCard : Claim7 := { stood := { row := heapNilUptoRow, standIns := [], harness := (true, "6efc7731f48af2ff4a2333721cc5b17b67812201929b4c70b9a2ded6b1a87bc7"), looks := true }, kinds := [], alts := [], laidByText := true, laidKinds := [.data, .data, .data, .data, .data], laidTests := true, laidLooks := .later }
def HeapNilUptoCardSaid : Prop := Claim7.holds Tryz.pinned (.plain (OpenSpec.upto heapNilSpec)) heapNilUptoCard

/-- THE SECOND FORM's CARD OF 'hindcastlaw06.HeapPlays'. -/
def heapPlaysUptoCard : Claim7 := { stood := { row := heapPlaysUptoRow, standIns := [], harness := (true, "6efc7731f48af2ff4a2333721cc5b17b67812201929b4c70b9a2ded6b1a87bc7"), looks := true }, kinds := [], alts := [], laidByText := true, laidKinds := [.data, .data, .data, .data, .data], laidTests := true, laidLooks := .later }
def HeapPlaysUptoCardSaid : Prop := Claim7.holds Tryz.pinned (.plain (OpenSpec.upto heapPlaysSpec)) heapPlaysUptoCard

/-- THE SECOND FORM's CARD OF 'hindcastlaw10.SnapWrites'. -/
def snapWritesUptoCard : Claim7 := { stood := { row := snapWritesUptoRow, standIns := [], harness := (true, "6efc7731f48af2ff4a2333721cc5b17b67812201929b4c70b9a2ded6b1a87bc7"), looks := true }, kinds := [], alts := [], laidByText := true, laidKinds := [.data, .data, .data, .data, .data], laidTests := true, laidLooks := .later }
def SnapWritesUptoCardSaid : Prop := Claim7.holds Tryz.pinned (.plain (OpenSpec.upto snapWritesSpec)) snapWritesUptoCard

/-- THE SECOND FORM's CARD OF 'hindcastlaw10.SnapReads'. -/
def snapReadsUptoCard : Claim7 := { stood := { row := snapReadsUptoRow, standIns := [], harness := (true, "6efc7731f48af2ff4a2333721cc5b17b67812201929b4c70b9a2ded6b1a87bc7"), looks := true }, kinds := [], alts := [], laidByText := true, laidKinds := [.data, .data, .data, .data, .data], laidTests := true, laidLooks := .later }
def SnapReadsUptoCardSaid : Prop := Claim7.holds Tryz.pinned (.plain (OpenSpec.upto snapReadsSpec)) snapReadsUptoCard

/-- THE SECOND FORM's CARD OF 'hindcastlaw10.SnapBack'. -/
def snapBackUptoCard : Claim7 := { stood := { row := snapBackUptoRow, standIns := [], harness := (true, "6efc7731f48af2ff4a2333721cc5b17b67812201929b4c70b9a2ded6b1a87bc7"), looks := true }, kinds := [], alts := [], laidByText := true, laidKinds := [.data, .data, .data, .data, .data], laidTests := true, laidLooks := .later }
def SnapBackUptoCardSaid : Prop := Claim7.holds Tryz.pinned (.plain (OpenSpec.upto snapBackSpec)) snapBackUptoCard

/-- THE SECOND FORM's CARD OF 'hindcastlaw10.SnapCut'. -/
def snapCutUptoCard : Claim7 := { stood := { row := snapCutUptoRow, standIns := [], harness := (true, "6efc7731f48af2ff4a2333721cc5b17b67812201929b4c70b9a2ded6b1a87bc7"), looks := true }, kinds := [], alts := [], laidByText := true, laidKinds := [.data, .data, .data, .data, .data], laidTests := true, laidLooks := .later }
def SnapCutUptoCardSaid : Prop := Claim7.holds Tryz.pinned (.plain (OpenSpec.upto snapCutSpec)) snapCutUptoCard

/-- THE SECOND FORM's CARD OF 'hindcastlaw10.SnapApart'. -/
def snapApartUptoCard : Claim7 := { stood := { row := snapApartUptoRow, standIns := [], harness := (true, "6efc7731f48af2ff4a2333721cc5b17b67812201929b4c70b9a2ded6b1a87bc7"), looks := true }, kinds := [], alts := [], laidByText := true, laidKinds := [.data, .data, .data, .data, .data], laidTests := true, laidLooks := .later }
def SnapApartUptoCardSaid : Prop := Claim7.holds Tryz.pinned (.plain (OpenSpec.upto snapApartSpec)) snapApartUptoCard
end Rows
end Go.Proofs.YtpfhleghgkeemaaGreatDoor
