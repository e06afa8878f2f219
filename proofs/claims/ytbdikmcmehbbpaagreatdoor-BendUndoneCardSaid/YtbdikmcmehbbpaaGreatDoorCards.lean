/-
  DERIVED. GIVEN WITH THE SEED: THE CARDS: each row of YtbdikmcmehbbpaaGreatDoorRows.lean that lists a variable, with what it lists TIED to the program's text (the seventh form; the later family's looks); each row that meets fmt, with fmt's text TOLD by the authors' own Lean function (tested against real Go, not proved from fmt's source: count such statements apart). THE CARD IS WHAT COUNTS. Prove the row's statement (the work); the ties are given (YtbdikmcmehbbpaaGreatDoorTie.lean); close each card by the builder's one call (the guide's Derived/Test/ToyasCard.lean, 'card_holds'). Laid BY PROGRAM, IN A SANDBOX (cutbox-door.mjs). By AI agents, Wed Nov 11 2026. No macro, syntax, notation, axiom, sorry.
-/
import Derived.Test.YtbdikmcmehbbpaaGreatDoorRows
import GoSem.ClaimSeven
namespace Go.Proofs.YtbdikmcmehbbpaaGreatDoor
namespace Rows

/-- THE TIED CARD OF 'neonwrightlaw02.BendOrders'. -/
def bendOrdersCard : Claim7 := { stood := { row := bendOrdersRow, standIns := [], harness := (true, "8196a1cfd4e6e2ef7b1cf2d5489735cd7efa6767cd9ffd06932590a4c9e51dc5"), looks := true }, kinds := [], alts := [], laidByText := true, laidKinds := [.data, .funcs, .pinned], laidTests := true, laidLooks := .later }
def BendOrdersCardSaid : Prop := Claim7.holds Tryz.pinned (.plain (OpenSpec.ofChange bendOrdersSpec)) bendOrdersCard

/-- THE TIED CARD OF 'neonwrightlaw02.BendTurned'. -/
def bendTurnedCard : Claim7 := { stood := { row := bendTurnedRow, standIns := [], harness := (true, "8196a1cfd4e6e2ef7b1cf2d5489735cd7efa6767cd9ffd06932590a4c9e51dc5"), looks := true }, kinds := [], alts := [], laidByText := true, laidKinds := [.data, .funcs, .pinned], laidTests := true, laidLooks := .later }
def BendTurnedCardSaid : Prop := Claim7.holds Tryz.pinned (.plain (OpenSpec.ofChange bendTurnedSpec)) bendTurnedCard

/-- THE TIED CARD OF 'neonwrightlaw02.BendGood'. -/
def bendGoodCard : Claim7 := { stood := { row := bendGoodRow, standIns := [], harness := (true, "8196a1cfd4e6e2ef7b1cf2d5489735cd7efa6767cd9ffd06932590a4c9e51dc5"), looks := true }, kinds := [], alts := [], laidByText := true, laidKinds := [.data, .funcs, .pinned], laidTests := true, laidLooks := .later }
def BendGoodCardSaid : Prop := Claim7.holds Tryz.pinned (.plain (OpenSpec.ofChange bendGoodSpec)) bendGoodCard

/-- THE TIED CARD OF 'neonwrightlaw02.BendCounts'. -/
def bendCountsCard : Claim7 := { stood := { row := bendCountsRow, standIns := [], harness := (true, "8196a1cfd4e6e2ef7b1cf2d5489735cd7efa6767cd9ffd06932590a4c9e51dc5"), looks := true }, kinds := [], alts := [], laidByText := true, laidKinds := [.data, .funcs, .pinned], laidTests := true, laidLooks := .later }
def BendCountsCardSaid : Prop := Claim7.holds Tryz.pinned (.plain (OpenSpec.ofChange bendCountsSpec)) bendCountsCard

/-- THE TIED CARD OF 'neonwrightlaw02.BendMirrored'. -/
def bendMirroredCard : Claim7 := { stood := { row := bendMirroredRow, standIns := [], harness := (true, "8196a1cfd4e6e2ef7b1cf2d5489735cd7efa6767cd9ffd06932590a4c9e51dc5"), looks := true }, kinds := [], alts := [], laidByText := true, laidKinds := [.data, .funcs, .pinned], laidTests := true, laidLooks := .later }
def BendMirroredCardSaid : Prop := Claim7.holds Tryz.pinned (.plain (OpenSpec.ofChange bendMirroredSpec)) bendMirroredCard

/-- THE TIED CARD OF 'neonwrightlaw02.BendGrows'. -/
def bendGrowsCard : Claim7 := { stood := { row := bendGrowsRow, standIns := [], harness := (true, "8196a1cfd4e6e2ef7b1cf2d5489735cd7efa6767cd9ffd06932590a4c9e51dc5"), looks := true }, kinds := [], alts := [], laidByText := true, laidKinds := [.data, .funcs, .pinned], laidTests := true, laidLooks := .later }
def BendGrowsCardSaid : Prop := Claim7.holds Tryz.pinned (.plain (OpenSpec.ofChange bendGrowsSpec)) bendGrowsCard

/-- THE TIED CARD OF 'neonwrightlaw02.BendOne'. -/
def bendOneCard : Claim7 := { stood := { row := bendOneRow, standIns := [], harness := (true, "8196a1cfd4e6e2ef7b1cf2d5489735cd7efa6767cd9ffd06932590a4c9e51dc5"), looks := true }, kinds := [], alts := [], laidByText := true, laidKinds := [.data, .funcs, .pinned], laidTests := true, laidLooks := .later }
def BendOneCardSaid : Prop := Claim7.holds Tryz.pinned (.plain (OpenSpec.ofChange bendOneSpec)) bendOneCard

/-- THE TIED CARD OF 'neonwrightlaw02.BendStairs'. -/
def bendStairsCard : Claim7 := { stood := { row := bendStairsRow, standIns := [], harness := (true, "8196a1cfd4e6e2ef7b1cf2d5489735cd7efa6767cd9ffd06932590a4c9e51dc5"), looks := true }, kinds := [], alts := [], laidByText := true, laidKinds := [.data, .funcs, .pinned], laidTests := true, laidLooks := .later }
def BendStairsCardSaid : Prop := Claim7.holds Tryz.pinned (.plain (OpenSpec.ofChange bendStairsSpec)) bendStairsCard

/-- THE TIED CARD OF 'neonwrightlaw02.BendParts'. -/
def bendPartsCard : Claim7 := { stood := { row := bendPartsRow, standIns := [], harness := (true, "8196a1cfd4e6e2ef7b1cf2d5489735cd7efa6767cd9ffd06932590a4c9e51dc5"), looks := true }, kinds := [], alts := [], laidByText := true, laidKinds := [.data, .funcs, .pinned], laidTests := true, laidLooks := .later }
def BendPartsCardSaid : Prop := Claim7.holds Tryz.pinned (.plain (OpenSpec.ofChange bendPartsSpec)) bendPartsCard

/-- THE TIED CARD OF 'neonwrightlaw02.BendPoints'. -/
def bendPointsCard : Claim7 := { stood := { row := bendPointsRow, standIns := [], harness := (true, "8196a1cfd4e6e2ef7b1cf2d5489735cd7efa6767cd9ffd06932590a4c9e51dc5"), looks := true }, kinds := [], alts := [], laidByText := true, laidKinds := [.data, .funcs, .pinned], laidTests := true, laidLooks := .later }
def BendPointsCardSaid : Prop := Claim7.holds Tryz.pinned (.plain (OpenSpec.ofChange bendPointsSpec)) bendPointsCard

/-- THE TIED CARD OF 'neonwrightlaw02.BendMost'. -/
def bendMostCard : Claim7 := { stood := { row := bendMostRow, standIns := [], harness := (true, "8196a1cfd4e6e2ef7b1cf2d5489735cd7efa6767cd9ffd06932590a4c9e51dc5"), looks := true }, kinds := [], alts := [], laidByText := true, laidKinds := [.data, .funcs, .pinned], laidTests := true, laidLooks := .later }
def BendMostCardSaid : Prop := Claim7.holds Tryz.pinned (.plain (OpenSpec.ofChange bendMostSpec)) bendMostCard

/-- THE TIED CARD OF 'neonwrightlaw02.BendUndone'. -/
def bendUndoneCard : Claim7 := { stood := { row := bendUndoneRow, standIns := [], harness := (true, "8196a1cfd4e6e2ef7b1cf2d5489735cd7efa6767cd9ffd06932590a4c9e51dc5"), looks := true }, kinds := [], alts := [], laidByText := true, laidKinds := [.data, .funcs, .pinned], laidTests := true, laidLooks := .later }
def BendUndoneCardSaid : Prop := Claim7.holds Tryz.pinned (.plain (OpenSpec.ofChange bendUndoneSpec)) bendUndoneCard

/-- THE SECOND FORM's CARD OF 'neonwrightlaw02.BendOrders'. -/
def bendOrdersUptoCard : Claim7 := { stood := { row := bendOrdersUptoRow, standIns := [], harness := (true, "8196a1cfd4e6e2ef7b1cf2d5489735cd7efa6767cd9ffd06932590a4c9e51dc5"), looks := true }, kinds := [], alts := [], laidByText := true, laidKinds := [.data, .funcs, .pinned], laidTests := true, laidLooks := .later }
def BendOrdersUptoCardSaid : Prop := Claim7.holds Tryz.pinned (.plain (OpenSpec.upto bendOrdersSpec)) bendOrdersUptoCard

/-- THE SECOND FORM's CARD OF 'neonwrightlaw02.BendTurned'. -/
def bendTurnedUptoCard : Claim7 := { stood := { row := bendTurnedUptoRow, standIns := [], harness := (true, "8196a1cfd4e6e2ef7b1cf2d5489735cd7efa6767cd9ffd06932590a4c9e51dc5"), looks := true }, kinds := [], alts := [], laidByText := true, laidKinds := [.data, .funcs, .pinned], laidTests := true, laidLooks := .later }
def BendTurnedUptoCardSaid : Prop := Claim7.holds Tryz.pinned (.plain (OpenSpec.upto bendTurnedSpec)) bendTurnedUptoCard

/-- THE SECOND FORM's CARD OF 'neonwrightlaw02.BendGood'. -/
def bendGoodUptoCard : Claim7 := { stood := { row := bendGoodUptoRow, standIns := [], harness := (true, "8196a1cfd4e6e2ef7b1cf2d5489735cd7efa6767cd9ffd06932590a4c9e51dc5"), looks := true }, kinds := [], alts := [], laidByText := true, laidKinds := [.data, .funcs, .pinned], laidTests := true, laidLooks := .later }
def BendGoodUptoCardSaid : Prop := Claim7.holds Tryz.pinned (.plain (OpenSpec.upto bendGoodSpec)) bendGoodUptoCard

/-- THE SECOND FORM's CARD OF 'neonwrightlaw02.BendCounts'. -/
def bendCountsUptoCard : Claim7 := { stood := { row := bendCountsUptoRow, standIns := [], harness := (true, "8196a1cfd4e6e2ef7b1cf2d5489735cd7efa6767cd9ffd06932590a4c9e51dc5"), looks := true }, kinds := [], alts := [], laidByText := true, laidKinds := [.data, .funcs, .pinned], laidTests := true, laidLooks := .later }
def BendCountsUptoCardSaid : Prop := Claim7.holds Tryz.pinned (.plain (OpenSpec.upto bendCountsSpec)) bendCountsUptoCard

/-- THE SECOND FORM's CARD OF 'neonwrightlaw02.BendMirrored'. -/
def bendMirroredUptoCard : Claim7 := { stood := { row := bendMirroredUptoRow, standIns := [], harness := (true, "8196a1cfd4e6e2ef7b1cf2d5489735cd7efa6767cd9ffd06932590a4c9e51dc5"), looks := true }, kinds := [], alts := [], laidByText := true, laidKinds := [.data, .funcs, .pinned], laidTests := true, laidLooks := .later }
def BendMirroredUptoCardSaid : Prop := Claim7.holds Tryz.pinned (.plain (OpenSpec.upto bendMirroredSpec)) bendMirroredUptoCard

/-- THE SECOND FORM's CARD OF 'neonwrightlaw02.BendGrows'. -/
def bendGrowsUptoCard : Claim7 := { stood := { row := bendGrowsUptoRow, standIns := [], harness := (true, "8196a1cfd4e6e2ef7b1cf2d5489735cd7efa6767cd9ffd06932590a4c9e51dc5"), looks := true }, kinds := [], alts := [], laidByText := true, laidKinds := [.data, .funcs, .pinned], laidTests := true, laidLooks := .later }
def BendGrowsUptoCardSaid : Prop := Claim7.holds Tryz.pinned (.plain (OpenSpec.upto bendGrowsSpec)) bendGrowsUptoCard

/-- THE SECOND FORM's CARD OF 'neonwrightlaw02.BendOne'. -/
def bendOneUptoCard : Claim7 := { stood := { row := bendOneUptoRow, standIns := [], harness := (true, "8196a1cfd4e6e2ef7b1cf2d5489735cd7efa6767cd9ffd06932590a4c9e51dc5"), looks := true }, kinds := [], alts := [], laidByText := true, laidKinds := [.data, .funcs, .pinned], laidTests := true, laidLooks := .later }
def BendOneUptoCardSaid : Prop := Claim7.holds Tryz.pinned (.plain (OpenSpec.upto bendOneSpec)) bendOneUptoCard

/-- THE SECOND FORM's CARD OF 'neonwrightlaw02.BendStairs'. -/
def bendStairsUptoCard : Claim7 := { stood := { row := bendStairsUptoRow, standIns := [], harness := (true, "8196a1cfd4e6e2ef7b1cf2d5489735cd7efa6767cd9ffd06932590a4c9e51dc5"), looks := true }, kinds := [], alts := [], laidByText := true, laidKinds := [.data, .funcs, .pinned], laidTests := true, laidLooks := .later }
def BendStairsUptoCardSaid : Prop := Claim7.holds Tryz.pinned (.plain (OpenSpec.upto bendStairsSpec)) bendStairsUptoCard

/-- THE SECOND FORM's CARD OF 'neonwrightlaw02.BendParts'. -/
def bendPartsUptoCard : Claim7 := { stood := { row := bendPartsUptoRow, standIns := [], harness := (true, "8196a1cfd4e6e2ef7b1cf2d5489735cd7efa6767cd9ffd06932590a4c9e51dc5"), looks := true }, kinds := [], alts := [], laidByText := true, laidKinds := [.data, .funcs, .pinned], laidTests := true, laidLooks := .later }
def BendPartsUptoCardSaid : Prop := Claim7.holds Tryz.pinned (.plain (OpenSpec.upto bendPartsSpec)) bendPartsUptoCard

/-- THE SECOND FORM's CARD OF 'neonwrightlaw02.BendPoints'. -/
def bendPointsUptoCard : Claim7 := { stood := { row := bendPointsUptoRow, standIns := [], harness := (true, "8196a1cfd4e6e2ef7b1cf2d5489735cd7efa6767cd9ffd06932590a4c9e51dc5"), looks := true }, kinds := [], alts := [], laidByText := true, laidKinds := [.data, .funcs, .pinned], laidTests := true, laidLooks := .later }
def BendPointsUptoCardSaid : Prop := Claim7.holds Tryz.pinned (.plain (OpenSpec.upto bendPointsSpec)) bendPointsUptoCard

/-- THE SECOND FORM's CARD OF 'neonwrightlaw02.BendMost'. -/
def bendMostUptoCard : Claim7 := { stood := { row := bendMostUptoRow, standIns := [], harness := (true, "8196a1cfd4e6e2ef7b1cf2d5489735cd7efa6767cd9ffd06932590a4c9e51dc5"), looks := true }, kinds := [], alts := [], laidByText := true, laidKinds := [.data, .funcs, .pinned], laidTests := true, laidLooks := .later }
def BendMostUptoCardSaid : Prop := Claim7.holds Tryz.pinned (.plain (OpenSpec.upto bendMostSpec)) bendMostUptoCard

/-- THE SECOND FORM's CARD OF 'neonwrightlaw02.BendUndone'. -/
def bendUndoneUptoCard : Claim7 := { stood := { row := bendUndoneUptoRow, standIns := [], harness := (true, "8196a1cfd4e6e2ef7b1cf2d5489735cd7efa6767cd9ffd06932590a4c9e51dc5"), looks := true }, kinds := [], alts := [], laidByText := true, laidKinds := [.data, .funcs, .pinned], laidTests := true, laidLooks := .later }
def BendUndoneUptoCardSaid : Prop := Claim7.holds Tryz.pinned (.plain (OpenSpec.upto bendUndoneSpec)) bendUndoneUptoCard
end Rows
end Go.Proofs.YtbdikmcmehbbpaaGreatDoor
