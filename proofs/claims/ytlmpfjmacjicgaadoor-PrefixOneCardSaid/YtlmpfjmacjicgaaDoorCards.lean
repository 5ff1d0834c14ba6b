/-
  DERIVED. GIVEN WITH THE SEED: THE CARDS: each row of YtlmpfjmacjicgaaDoorRows.lean that lists a variable, with what it lists TIED to the program's text (the seventh form; the later family's looks); each row that meets fmt, with fmt's text TOLD by the authors' own Lean function (tested against real Go, not proved from fmt's source: count such statements apart). THE CARD IS WHAT COUNTS. Prove the row's statement (the work); the ties are given (YtlmpfjmacjicgaaDoorTie.lean); close each card by the builder's one call (the guide's Derived/Test/ToyasCard.lean, 'card_holds'). Laid BY PROGRAM, IN A SANDBOX (cutbox-door.mjs). By AI agents, Wed Nov 11 2026. No macro, syntax, notation, axiom, sorry.
-/
import Derived.Test.YtlmpfjmacjicgaaDoorRows
import GoSem.ClaimSeven
namespace Go.Proofs.YtlmpfjmacjicgaaDoor
namespace Rows

/-- THE TIED CARD OF 'chapbooklaw01.PrefixPuts'. -/
def prefixPutsCard : Claim7 := { stood := { row := prefixPutsRow, standIns := [], harness := (true, "86c52741cb74b2809dd84d2f584e465ce3d51e35a1a2cc11ace70cac3c97ba3f"), looks := false }, kinds := [], alts := [], laidByText := true, laidKinds := [.data], laidTests := true, laidLooks := .later }
def PrefixPutsCardSaid : Prop := Claim7.holds Tryd.pinned (.plain (OpenSpec.ofChange prefixPutsSpec)) prefixPutsCard

/-- THE TIED CARD OF 'chapbooklaw01.PrefixGets'. -/
def prefixGetsCard : Claim7 := { stood := { row := prefixGetsRow, standIns := [], harness := (true, "86c52741cb74b2809dd84d2f584e465ce3d51e35a1a2cc11ace70cac3c97ba3f"), looks := false }, kinds := [], alts := [], laidByText := true, laidKinds := [.data], laidTests := true, laidLooks := .later }
def PrefixGetsCardSaid : Prop := Claim7.holds Tryd.pinned (.plain (OpenSpec.ofChange prefixGetsSpec)) prefixGetsCard

/-- THE TIED CARD OF 'chapbooklaw01.PrefixBack'. -/
def prefixBackCard : Claim7 := { stood := { row := prefixBackRow, standIns := [], harness := (true, "86c52741cb74b2809dd84d2f584e465ce3d51e35a1a2cc11ace70cac3c97ba3f"), looks := false }, kinds := [], alts := [], laidByText := true, laidKinds := [.data], laidTests := true, laidLooks := .later }
def PrefixBackCardSaid : Prop := Claim7.holds Tryd.pinned (.plain (OpenSpec.ofChange prefixBackSpec)) prefixBackCard

/-- THE TIED CARD OF 'chapbooklaw01.PrefixOne'. -/
def prefixOneCard : Claim7 := { stood := { row := prefixOneRow, standIns := [], harness := (true, "86c52741cb74b2809dd84d2f584e465ce3d51e35a1a2cc11ace70cac3c97ba3f"), looks := false }, kinds := [], alts := [], laidByText := true, laidKinds := [.data], laidTests := true, laidLooks := .later }
def PrefixOneCardSaid : Prop := Claim7.holds Tryd.pinned (.plain (OpenSpec.ofChange prefixOneSpec)) prefixOneCard

/-- THE TIED CARD OF 'chapbooklaw01.PrefixSizes'. -/
def prefixSizesCard : Claim7 := { stood := { row := prefixSizesRow, standIns := [], harness := (true, "86c52741cb74b2809dd84d2f584e465ce3d51e35a1a2cc11ace70cac3c97ba3f"), looks := false }, kinds := [], alts := [], laidByText := true, laidKinds := [.data], laidTests := true, laidLooks := .later }
def PrefixSizesCardSaid : Prop := Claim7.holds Tryd.pinned (.plain (OpenSpec.ofChange prefixSizesSpec)) prefixSizesCard

/-- THE TIED CARD OF 'chapbooklaw01.PrefixSigned'. -/
def prefixSignedCard : Claim7 := { stood := { row := prefixSignedRow, standIns := [], harness := (true, "86c52741cb74b2809dd84d2f584e465ce3d51e35a1a2cc11ace70cac3c97ba3f"), looks := false }, kinds := [], alts := [], laidByText := true, laidKinds := [.data], laidTests := true, laidLooks := .later }
def PrefixSignedCardSaid : Prop := Claim7.holds Tryd.pinned (.plain (OpenSpec.ofChange prefixSignedSpec)) prefixSignedCard

/-- THE TIED CARD OF 'chapbooklaw01.PrefixFront'. -/
def prefixFrontCard : Claim7 := { stood := { row := prefixFrontRow, standIns := [], harness := (true, "86c52741cb74b2809dd84d2f584e465ce3d51e35a1a2cc11ace70cac3c97ba3f"), looks := false }, kinds := [], alts := [], laidByText := true, laidKinds := [.data], laidTests := true, laidLooks := .later }
def PrefixFrontCardSaid : Prop := Claim7.holds Tryd.pinned (.plain (OpenSpec.ofChange prefixFrontSpec)) prefixFrontCard

/-- THE TIED CARD OF 'chapbooklaw01.PrefixTwo'. -/
def prefixTwoCard : Claim7 := { stood := { row := prefixTwoRow, standIns := [], harness := (true, "86c52741cb74b2809dd84d2f584e465ce3d51e35a1a2cc11ace70cac3c97ba3f"), looks := false }, kinds := [], alts := [], laidByText := true, laidKinds := [.data], laidTests := true, laidLooks := .later }
def PrefixTwoCardSaid : Prop := Claim7.holds Tryd.pinned (.plain (OpenSpec.ofChange prefixTwoSpec)) prefixTwoCard

/-- THE SECOND FORM's CARD OF 'chapbooklaw01.PrefixPuts'. -/
def prefixPutsUptoCard : Claim7 := { stood := { row := prefixPutsUptoRow, standIns := [], harness := (true, "86c52741cb74b2809dd84d2f584e465ce3d51e35a1a2cc11ace70cac3c97ba3f"), looks := false }, kinds := [], alts := [], laidByText := true, laidKinds := [.data], laidTests := true, laidLooks := .later }
def PrefixPutsUptoCardSaid : Prop := Claim7.holds Tryd.pinned (.plain (OpenSpec.upto prefixPutsSpec)) prefixPutsUptoCard

/-- THE SECOND FORM's CARD OF 'chapbooklaw01.PrefixGets'. -/
def prefixGetsUptoCard : Claim7 := { stood := { row := prefixGetsUptoRow, standIns := [], harness := (true, "86c52741cb74b2809dd84d2f584e465ce3d51e35a1a2cc11ace70cac3c97ba3f"), looks := false }, kinds := [], alts := [], laidByText := true, laidKinds := [.data], laidTests := true, laidLooks := .later }
def PrefixGetsUptoCardSaid : Prop := Claim7.holds Tryd.pinned (.plain (OpenSpec.upto prefixGetsSpec)) prefixGetsUptoCard

/-- THE SECOND FORM's CARD OF 'chapbooklaw01.PrefixBack'. -/
def prefixBackUptoCard : Claim7 := { stood := { row := prefixBackUptoRow, standIns := [], harness := (true, "86c52741cb74b2809dd84d2f584e465ce3d51e35a1a2cc11ace70cac3c97ba3f"), looks := false }, kinds := [], alts := [], laidByText := true, laidKinds := [.data], laidTests := true, laidLooks := .later }
def PrefixBackUptoCardSaid : Prop := Claim7.holds Tryd.pinned (.plain (OpenSpec.upto prefixBackSpec)) prefixBackUptoCard

/-- THE SECOND FORM's CARD OF 'chapbooklaw01.PrefixOne'. -/
def prefixOneUptoCard : Claim7 := { stood := { row := prefixOneUptoRow, standIns := [], harness := (true, "86c52741cb74b2809dd84d2f584e465ce3d51e35a1a2cc11ace70cac3c97ba3f"), looks := false }, kinds := [], alts := [], laidByText := true, laidKinds := [.data], laidTests := true, laidLooks := .later }
def PrefixOneUptoCardSaid : Prop := Claim7.holds Tryd.pinned (.plain (OpenSpec.upto prefixOneSpec)) prefixOneUptoCard

/-- THE SECOND FORM's CARD OF 'chapbooklaw01.PrefixSizes'. -/
def prefixSizesUptoCard : Claim7 := { stood := { row := prefixSizesUptoRow, standIns := [], harness := (true, "86c52741cb74b2809dd84d2f584e465ce3d51e35a1a2cc11ace70cac3c97ba3f"), looks := false }, kinds := [], alts := [], laidByText := true, laidKinds := [.data], laidTests := true, laidLooks := .later }
def PrefixSizesUptoCardSaid : Prop := Claim7.holds Tryd.pinned (.plain (OpenSpec.upto prefixSizesSpec)) prefixSizesUptoCard

/-- THE SECOND FORM's CARD OF 'chapbooklaw01.PrefixSigned'. -/
def prefixSignedUptoCard : Claim7 := { stood := { row := prefixSignedUptoRow, standIns := [], harness := (true, "86c52741cb74b2809dd84d2f584e465ce3d51e35a1a2cc11ace70cac3c97ba3f"), looks := false }, kinds := [], alts := [], laidByText := true, laidKinds := [.data], laidTests := true, laidLooks := .later }
def PrefixSignedUptoCardSaid : Prop := Claim7.holds Tryd.pinned (.plain (OpenSpec.upto prefixSignedSpec)) prefixSignedUptoCard

/-- THE SECOND FORM's CARD OF 'chapbooklaw01.PrefixFront'. -/
def prefixFrontUptoCard : Claim7 := { stood := { row := prefixFrontUptoRow, standIns := [], harness := (true, "86c52741cb74b2809dd84d2f584e465ce3d51e35a1a2cc11ace70cac3c97ba3f"), looks := false }, kinds := [], alts := [], laidByText := true, laidKinds := [.data], laidTests := true, laidLooks := .later }
def PrefixFrontUptoCardSaid : Prop := Claim7.holds Tryd.pinned (.plain (OpenSpec.upto prefixFrontSpec)) prefixFrontUptoCard

/-- THE SECOND FORM's CARD OF 'chapbooklaw01.PrefixTwo'. -/
def prefixTwoUptoCard : Claim7 := { stood := { row := prefixTwoUptoRow, standIns := [], harness := (true, "86c52741cb74b2809dd84d2f584e465ce3d51e35a1a2cc11ace70cac3c97ba3f"), looks := false }, kinds := [], alts := [], laidByText := true, laidKinds := [.data], laidTests := true, laidLooks := .later }
def PrefixTwoUptoCardSaid : Prop := Claim7.holds Tryd.pinned (.plain (OpenSpec.upto prefixTwoSpec)) prefixTwoUptoCard
end Rows
end Go.Proofs.YtlmpfjmacjicgaaDoor
