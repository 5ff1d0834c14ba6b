/-
  DERIVED. GIVEN WITH THE SEED: THE CARDS: each row of YtfpegjdplggkpaaDoorRows.lean that lists a variable, with what it lists TIED to the program's text (the seventh form; the later family's looks); each row that meets fmt, with fmt's text TOLD by the authors' own Lean function (tested against real Go, not proved from fmt's source: count such statements apart). THE CARD IS WHAT COUNTS. Prove the row's statement (the work); the ties are given (YtfpegjdplggkpaaDoorTie.lean); close each card by the builder's one call (the guide's Derived/Test/ToyasCard.lean, 'card_holds'). Laid BY PROGRAM, IN A SANDBOX (cutbox-door.mjs). By AI agents, Wed Nov 11 2026. No macro, syntax, notation, axiom, sorry.
-/
import Derived.Test.YtfpegjdplggkpaaDoorRows
import GoSem.ClaimSeven
namespace Go.Proofs.YtfpegjdplggkpaaDoor
namespace Rows

/-- THE TIED CARD OF 'chapbooklaw07.RoundPuts'. -/
def roundPutsCard : Claim7 := { stood := { row := roundPutsRow, standIns := [], harness := (true, "6e001c0209925146c87b1b7e61cc3a0150d977e5999501d07eac4793fe281814"), looks := false }, kinds := [], alts := [], laidByText := true, laidKinds := [.data], laidTests := true, laidLooks := .later }
def RoundPutsCardSaid : Prop := Claim7.holds Tryd.pinned (.plain (OpenSpec.ofChange roundPutsSpec)) roundPutsCard

/-- THE TIED CARD OF 'chapbooklaw07.RoundGets'. -/
def roundGetsCard : Claim7 := { stood := { row := roundGetsRow, standIns := [], harness := (true, "6e001c0209925146c87b1b7e61cc3a0150d977e5999501d07eac4793fe281814"), looks := false }, kinds := [], alts := [], laidByText := true, laidKinds := [.data], laidTests := true, laidLooks := .later }
def RoundGetsCardSaid : Prop := Claim7.holds Tryd.pinned (.plain (OpenSpec.ofChange roundGetsSpec)) roundGetsCard

/-- THE TIED CARD OF 'chapbooklaw07.RoundBack'. -/
def roundBackCard : Claim7 := { stood := { row := roundBackRow, standIns := [], harness := (true, "6e001c0209925146c87b1b7e61cc3a0150d977e5999501d07eac4793fe281814"), looks := false }, kinds := [], alts := [], laidByText := true, laidKinds := [.data], laidTests := true, laidLooks := .later }
def RoundBackCardSaid : Prop := Claim7.holds Tryd.pinned (.plain (OpenSpec.ofChange roundBackSpec)) roundBackCard

/-- THE TIED CARD OF 'chapbooklaw07.RoundOne'. -/
def roundOneCard : Claim7 := { stood := { row := roundOneRow, standIns := [], harness := (true, "6e001c0209925146c87b1b7e61cc3a0150d977e5999501d07eac4793fe281814"), looks := false }, kinds := [], alts := [], laidByText := true, laidKinds := [.data], laidTests := true, laidLooks := .later }
def RoundOneCardSaid : Prop := Claim7.holds Tryd.pinned (.plain (OpenSpec.ofChange roundOneSpec)) roundOneCard

/-- THE TIED CARD OF 'chapbooklaw07.RoundFits'. -/
def roundFitsCard : Claim7 := { stood := { row := roundFitsRow, standIns := [], harness := (true, "6e001c0209925146c87b1b7e61cc3a0150d977e5999501d07eac4793fe281814"), looks := false }, kinds := [], alts := [], laidByText := true, laidKinds := [.data], laidTests := true, laidLooks := .later }
def RoundFitsCardSaid : Prop := Claim7.holds Tryd.pinned (.plain (OpenSpec.ofChange roundFitsSpec)) roundFitsCard

/-- THE TIED CARD OF 'chapbooklaw07.RoundFront'. -/
def roundFrontCard : Claim7 := { stood := { row := roundFrontRow, standIns := [], harness := (true, "6e001c0209925146c87b1b7e61cc3a0150d977e5999501d07eac4793fe281814"), looks := false }, kinds := [], alts := [], laidByText := true, laidKinds := [.data], laidTests := true, laidLooks := .later }
def RoundFrontCardSaid : Prop := Claim7.holds Tryd.pinned (.plain (OpenSpec.ofChange roundFrontSpec)) roundFrontCard

/-- THE TIED CARD OF 'chapbooklaw07.RoundSame'. -/
def roundSameCard : Claim7 := { stood := { row := roundSameRow, standIns := [], harness := (true, "6e001c0209925146c87b1b7e61cc3a0150d977e5999501d07eac4793fe281814"), looks := false }, kinds := [], alts := [], laidByText := true, laidKinds := [.data], laidTests := true, laidLooks := .later }
def RoundSameCardSaid : Prop := Claim7.holds Tryd.pinned (.plain (OpenSpec.ofChange roundSameSpec)) roundSameCard

/-- THE SECOND FORM's CARD OF 'chapbooklaw07.RoundPuts'. -/
def roundPutsUptoCard : Claim7 := { stood := { row := roundPutsUptoRow, standIns := [], harness := (true, "6e001c0209925146c87b1b7e61cc3a0150d977e5999501d07eac4793fe281814"), looks := false }, kinds := [], alts := [], laidByText := true, laidKinds := [.data], laidTests := true, laidLooks := .later }
def RoundPutsUptoCardSaid : Prop := Claim7.holds Tryd.pinned (.plain (OpenSpec.upto roundPutsSpec)) roundPutsUptoCard

/-- THE SECOND FORM's CARD OF 'chapbooklaw07.RoundGets'. -/
def roundGetsUptoCard : Claim7 := { stood := { row := roundGetsUptoRow, standIns := [], harness := (true, "6e001c0209925146c87b1b7e61cc3a0150d977e5999501d07eac4793fe281814"), looks := false }, kinds := [], alts := [], laidByText := true, laidKinds := [.data], laidTests := true, laidLooks := .later }
def RoundGetsUptoCardSaid : Prop := Claim7.holds Tryd.pinned (.plain (OpenSpec.upto roundGetsSpec)) roundGetsUptoCard

/-- THE SECOND FORM's CARD OF 'chapbooklaw07.RoundBack'. -/
def roundBackUptoCard : Claim7 := { stood := { row := roundBackUptoRow, standIns := [], harness := (true, "6e001c0209925146c87b1b7e61cc3a0150d977e5999501d07eac4793fe281814"), looks := false }, kinds := [], alts := [], laidByText := true, laidKinds := [.data], laidTests := true, laidLooks := .later }
def RoundBackUptoCardSaid : Prop := Claim7.holds Tryd.pinned (.plain (OpenSpec.upto roundBackSpec)) roundBackUptoCard

/-- THE SECOND FORM's CARD OF 'chapbooklaw07.RoundOne'. -/
def roundOneUptoCard : Claim7 := { stood := { row := roundOneUptoRow, standIns := [], harness := (true, "6e001c0209925146c87b1b7e61cc3a0150d977e5999501d07eac4793fe281814"), looks := false }, kinds := [], alts := [], laidByText := true, laidKinds := [.data], laidTests := true, laidLooks := .later }
def RoundOneUptoCardSaid : Prop := Claim7.holds Tryd.pinned (.plain (OpenSpec.upto roundOneSpec)) roundOneUptoCard

/-- THE SECOND FORM's CARD OF 'chapbooklaw07.RoundFits'. -/
def roundFitsUptoCard : Claim7 := { stood := { row := roundFitsUptoRow, standIns := [], harness := (true, "6e001c0209925146c87b1b7e61cc3a0150d977e5999501d07eac4793fe281814"), looks := false }, kinds := [], alts := [], laidByText := true, laidKinds := [.data], laidTests := true, laidLooks := .later }
def RoundFitsUptoCardSaid : Prop := Claim7.holds Tryd.pinned (.plain (OpenSpec.upto roundFitsSpec)) roundFitsUptoCard

/-- THE SECOND FORM's CARD OF 'chapbooklaw07.RoundFront'. -/
def roundFrontUptoCard : Claim7 := { stood := { row := roundFrontUptoRow, standIns := [], harness := (true, "6e001c0209925146c87b1b7e61cc3a0150d977e5999501d07eac4793fe281814"), looks := false }, kinds := [], alts := [], laidByText := true, laidKinds := [.data], laidTests := true, laidLooks := .later }
def RoundFrontUptoCardSaid : Prop := Claim7.holds Tryd.pinned (.plain (OpenSpec.upto roundFrontSpec)) roundFrontUptoCard

/-- THE SECOND FORM's CARD OF 'chapbooklaw07.RoundSame'. -/
def roundSameUptoCard : Claim7 := { stood := { row := roundSameUptoRow, standIns := [], harness := (true, "6e001c0209925146c87b1b7e61cc3a0150d977e5999501d07eac4793fe281814"), looks := false }, kinds := [], alts := [], laidByText := true, laidKinds := [.data], laidTests := true, laidLooks := .later }
def RoundSameUptoCardSaid : Prop := Claim7.holds Tryd.pinned (.plain (OpenSpec.upto roundSameSpec)) roundSameUptoCard
end Rows
end Go.Proofs.YtfpegjdplggkpaaDoor
