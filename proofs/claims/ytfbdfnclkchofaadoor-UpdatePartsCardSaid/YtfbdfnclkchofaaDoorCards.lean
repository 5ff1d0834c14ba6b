/-
  DERIVED. GIVEN WITH THE SEED: THE CARDS: each row of YtfbdfnclkchofaaDoorRows.lean that lists a variable, with what it lists TIED to the program's text (the seventh form; the later family's looks); each row that meets fmt, with fmt's text TOLD by the authors' own Lean function (tested against real Go, not proved from fmt's source: count such statements apart). THE CARD IS WHAT COUNTS. Prove the row's statement (the work); the ties are given (YtfbdfnclkchofaaDoorTie.lean); close each card by the builder's one call (the guide's Derived/Test/ToyasCard.lean, 'card_holds'). Laid BY PROGRAM, IN A SANDBOX (cutbox-door.mjs). By AI agents, Wed Nov 11 2026. No macro, syntax, notation, axiom, sorry.
-/
import Derived.Test.YtfbdfnclkchofaaDoorRows
import GoSem.ClaimSeven
namespace Go.Proofs.YtfbdfnclkchofaaDoor
namespace Rows

/-- THE TIED CARD OF 'chapbooklaw03.PackBounds'. -/
def packBoundsCard : Claim7 := { stood := { row := packBoundsRow, standIns := [], harness := (true, "4c5ec600e33dce78d2d8d6cc9708e07974a83c654fafccc23726136a1f703426"), looks := false }, kinds := [], alts := [], laidByText := true, laidKinds := [.data], laidTests := true, laidLooks := .later }
def PackBoundsCardSaid : Prop := Claim7.holds Tryd.pinned (.plain (OpenSpec.ofChange packBoundsSpec)) packBoundsCard

/-- THE TIED CARD OF 'chapbooklaw03.PackReads'. -/
def packReadsCard : Claim7 := { stood := { row := packReadsRow, standIns := [], harness := (true, "4c5ec600e33dce78d2d8d6cc9708e07974a83c654fafccc23726136a1f703426"), looks := false }, kinds := [], alts := [], laidByText := true, laidKinds := [.data], laidTests := true, laidLooks := .later }
def PackReadsCardSaid : Prop := Claim7.holds Tryd.pinned (.plain (OpenSpec.ofChange packReadsSpec)) packReadsCard

/-- THE TIED CARD OF 'chapbooklaw03.PackStops'. -/
def packStopsCard : Claim7 := { stood := { row := packStopsRow, standIns := [], harness := (true, "4c5ec600e33dce78d2d8d6cc9708e07974a83c654fafccc23726136a1f703426"), looks := false }, kinds := [], alts := [], laidByText := true, laidKinds := [.data], laidTests := true, laidLooks := .later }
def PackStopsCardSaid : Prop := Claim7.holds Tryd.pinned (.plain (OpenSpec.ofChange packStopsSpec)) packStopsCard

/-- THE TIED CARD OF 'chapbooklaw03.PackWrites'. -/
def packWritesCard : Claim7 := { stood := { row := packWritesRow, standIns := [], harness := (true, "4c5ec600e33dce78d2d8d6cc9708e07974a83c654fafccc23726136a1f703426"), looks := false }, kinds := [], alts := [], laidByText := true, laidKinds := [.data], laidTests := true, laidLooks := .later }
def PackWritesCardSaid : Prop := Claim7.holds Tryd.pinned (.plain (OpenSpec.ofChange packWritesSpec)) packWritesCard

/-- THE TIED CARD OF 'chapbooklaw03.PackBack'. -/
def packBackCard : Claim7 := { stood := { row := packBackRow, standIns := [], harness := (true, "4c5ec600e33dce78d2d8d6cc9708e07974a83c654fafccc23726136a1f703426"), looks := false }, kinds := [], alts := [], laidByText := true, laidKinds := [.data], laidTests := true, laidLooks := .later }
def PackBackCardSaid : Prop := Claim7.holds Tryd.pinned (.plain (OpenSpec.ofChange packBackSpec)) packBackCard

/-- THE TIED CARD OF 'chapbooklaw06.UpdatePuts'. -/
def updatePutsCard : Claim7 := { stood := { row := updatePutsRow, standIns := [], harness := (true, "4c5ec600e33dce78d2d8d6cc9708e07974a83c654fafccc23726136a1f703426"), looks := false }, kinds := [], alts := [], laidByText := true, laidKinds := [.data], laidTests := true, laidLooks := .later }
def UpdatePutsCardSaid : Prop := Claim7.holds Tryd.pinned (.plain (OpenSpec.ofChange updatePutsSpec)) updatePutsCard

/-- THE TIED CARD OF 'chapbooklaw06.UpdateGets'. -/
def updateGetsCard : Claim7 := { stood := { row := updateGetsRow, standIns := [], harness := (true, "4c5ec600e33dce78d2d8d6cc9708e07974a83c654fafccc23726136a1f703426"), looks := false }, kinds := [], alts := [], laidByText := true, laidKinds := [.data], laidTests := true, laidLooks := .later }
def UpdateGetsCardSaid : Prop := Claim7.holds Tryd.pinned (.plain (OpenSpec.ofChange updateGetsSpec)) updateGetsCard

/-- THE TIED CARD OF 'chapbooklaw06.UpdateBack'. -/
def updateBackCard : Claim7 := { stood := { row := updateBackRow, standIns := [], harness := (true, "4c5ec600e33dce78d2d8d6cc9708e07974a83c654fafccc23726136a1f703426"), looks := false }, kinds := [], alts := [], laidByText := true, laidKinds := [.data], laidTests := true, laidLooks := .later }
def UpdateBackCardSaid : Prop := Claim7.holds Tryd.pinned (.plain (OpenSpec.ofChange updateBackSpec)) updateBackCard

/-- THE TIED CARD OF 'chapbooklaw06.UpdateOne'. -/
def updateOneCard : Claim7 := { stood := { row := updateOneRow, standIns := [], harness := (true, "4c5ec600e33dce78d2d8d6cc9708e07974a83c654fafccc23726136a1f703426"), looks := false }, kinds := [], alts := [], laidByText := true, laidKinds := [.data], laidTests := true, laidLooks := .later }
def UpdateOneCardSaid : Prop := Claim7.holds Tryd.pinned (.plain (OpenSpec.ofChange updateOneSpec)) updateOneCard

/-- THE TIED CARD OF 'chapbooklaw06.UpdateParts'. -/
def updatePartsCard : Claim7 := { stood := { row := updatePartsRow, standIns := [], harness := (true, "4c5ec600e33dce78d2d8d6cc9708e07974a83c654fafccc23726136a1f703426"), looks := false }, kinds := [], alts := [], laidByText := true, laidKinds := [.data], laidTests := true, laidLooks := .later }
def UpdatePartsCardSaid : Prop := Claim7.holds Tryd.pinned (.plain (OpenSpec.ofChange updatePartsSpec)) updatePartsCard

/-- THE TIED CARD OF 'chapbooklaw06.UpdateFront'. -/
def updateFrontCard : Claim7 := { stood := { row := updateFrontRow, standIns := [], harness := (true, "4c5ec600e33dce78d2d8d6cc9708e07974a83c654fafccc23726136a1f703426"), looks := false }, kinds := [], alts := [], laidByText := true, laidKinds := [.data], laidTests := true, laidLooks := .later }
def UpdateFrontCardSaid : Prop := Claim7.holds Tryd.pinned (.plain (OpenSpec.ofChange updateFrontSpec)) updateFrontCard

/-- THE SECOND FORM's CARD OF 'chapbooklaw03.PackBounds'. -/
def packBoundsUptoCard : Claim7 := { stood := { row := packBoundsUptoRow, standIns := [], harness := (true, "4c5ec600e33dce78d2d8d6cc9708e07974a83c654fafccc23726136a1f703426"), looks := false }, kinds := [], alts := [], laidByText := true, laidKinds := [.data], laidTests := true, laidLooks := .later }
def PackBoundsUptoCardSaid : Prop := Claim7.holds Tryd.pinned (.plain (OpenSpec.upto packBoundsSpec)) packBoundsUptoCard

/-- THE SECOND FORM's CARD OF 'chapbooklaw03.PackReads'. -/
def packReadsUptoCard : Claim7 := { stood := { row := packReadsUptoRow, standIns := [], harness := (true, "4c5ec600e33dce78d2d8d6cc9708e07974a83c654fafccc23726136a1f703426"), looks := false }, kinds := [], alts := [], laidByText := true, laidKinds := [.data], laidTests := true, laidLooks := .later }
def PackReadsUptoCardSaid : Prop := Claim7.holds Tryd.pinned (.plain (OpenSpec.upto packReadsSpec)) packReadsUptoCard

/-- THE SECOND FORM's CARD OF 'chapbooklaw03.PackStops'. -/
def packStopsUptoCard : Claim7 := { stood := { row := packStopsUptoRow, standIns := [], harness := (true, "4c5ec600e33dce78d2d8d6cc9708e07974a83c654fafccc23726136a1f703426"), looks := false }, kinds := [], alts := [], laidByText := true, laidKinds := [.data], laidTests := true, laidLooks := .later }
def PackStopsUptoCardSaid : Prop := Claim7.holds Tryd.pinned (.plain (OpenSpec.upto packStopsSpec)) packStopsUptoCard

/-- THE SECOND FORM's CARD OF 'chapbooklaw03.PackWrites'. -/
def packWritesUptoCard : Claim7 := { stood := { row := packWritesUptoRow, standIns := [], harness := (true, "4c5ec600e33dce78d2d8d6cc9708e07974a83c654fafccc23726136a1f703426"), looks := false }, kinds := [], alts := [], laidByText := true, laidKinds := [.data], laidTests := true, laidLooks := .later }
def PackWritesUptoCardSaid : Prop := Claim7.holds Tryd.pinned (.plain (OpenSpec.upto packWritesSpec)) packWritesUptoCard

/-- THE SECOND FORM's CARD OF 'chapbooklaw03.PackBack'. -/
def packBackUptoCard : Claim7 := { stood := { row := packBackUptoRow, standIns := [], harness := (true, "4c5ec600e33dce78d2d8d6cc9708e07974a83c654fafccc23726136a1f703426"), looks := false }, kinds := [], alts := [], laidByText := true, laidKinds := [.data], laidTests := true, laidLooks := .later }
def PackBackUptoCardSaid : Prop := Claim7.holds Tryd.pinned (.plain (OpenSpec.upto packBackSpec)) packBackUptoCard

/-- THE SECOND FORM's CARD OF 'chapbooklaw06.UpdatePuts'. -/
def updatePutsUptoCard : Claim7 := { stood := { row := updatePutsUptoRow, standIns := [], harness := (true, "4c5ec600e33dce78d2d8d6cc9708e07974a83c654fafccc23726136a1f703426"), looks := false }, kinds := [], alts := [], laidByText := true, laidKinds := [.data], laidTests := true, laidLooks := .later }
def UpdatePutsUptoCardSaid : Prop := Claim7.holds Tryd.pinned (.plain (OpenSpec.upto updatePutsSpec)) updatePutsUptoCard

/-- THE SECOND FORM's CARD OF 'chapbooklaw06.UpdateGets'. -/
def updateGetsUptoCard : Claim7 := { stood := { row := updateGetsUptoRow, standIns := [], harness := (true, "4c5ec600e33dce78d2d8d6cc9708e07974a83c654fafccc23726136a1f703426"), looks := false }, kinds := [], alts := [], laidByText := true, laidKinds := [.data], laidTests := true, laidLooks := .later }
def UpdateGetsUptoCardSaid : Prop := Claim7.holds Tryd.pinned (.plain (OpenSpec.upto updateGetsSpec)) updateGetsUptoCard

/-- THE SECOND FORM's CARD OF 'chapbooklaw06.UpdateBack'. -/
def updateBackUptoCard : Claim7 := { stood := { row := updateBackUptoRow, standIns := [], harness := (true, "4c5ec600e33dce78d2d8d6cc9708e07974a83c654fafccc23726136a1f703426"), looks := false }, kinds := [], alts := [], laidByText := true, laidKinds := [.data], laidTests := true, laidLooks := .later }
def UpdateBackUptoCardSaid : Prop := Claim7.holds Tryd.pinned (.plain (OpenSpec.upto updateBackSpec)) updateBackUptoCard

/-- THE SECOND FORM's CARD OF 'chapbooklaw06.UpdateOne'. -/
def updateOneUptoCard : Claim7 := { stood := { row := updateOneUptoRow, standIns := [], harness := (true, "4c5ec600e33dce78d2d8d6cc9708e07974a83c654fafccc23726136a1f703426"), looks := false }, kinds := [], alts := [], laidByText := true, laidKinds := [.data], laidTests := true, laidLooks := .later }
def UpdateOneUptoCardSaid : Prop := Claim7.holds Tryd.pinned (.plain (OpenSpec.upto updateOneSpec)) updateOneUptoCard

/-- THE SECOND FORM's CARD OF 'chapbooklaw06.UpdateParts'. -/
def updatePartsUptoCard : Claim7 := { stood := { row := updatePartsUptoRow, standIns := [], harness := (true, "4c5ec600e33dce78d2d8d6cc9708e07974a83c654fafccc23726136a1f703426"), looks := false }, kinds := [], alts := [], laidByText := true, laidKinds := [.data], laidTests := true, laidLooks := .later }
def UpdatePartsUptoCardSaid : Prop := Claim7.holds Tryd.pinned (.plain (OpenSpec.upto updatePartsSpec)) updatePartsUptoCard

/-- THE SECOND FORM's CARD OF 'chapbooklaw06.UpdateFront'. -/
def updateFrontUptoCard : Claim7 := { stood := { row := updateFrontUptoRow, standIns := [], harness := (true, "4c5ec600e33dce78d2d8d6cc9708e07974a83c654fafccc23726136a1f703426"), looks := false }, kinds := [], alts := [], laidByText := true, laidKinds := [.data], laidTests := true, laidLooks := .later }
def UpdateFrontUptoCardSaid : Prop := Claim7.holds Tryd.pinned (.plain (OpenSpec.upto updateFrontSpec)) updateFrontUptoCard
end Rows
end Go.Proofs.YtfbdfnclkchofaaDoor
