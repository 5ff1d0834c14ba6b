/-
  DERIVED. GIVEN WITH THE SEED: THE CARDS: each row of YtjmoncfgoaaekaaDoorRows.lean that lists a variable, with what it lists TIED to the program's text (the seventh form; the later family's looks); each row that meets fmt, with fmt's text TOLD by the authors' own Lean function (tested against real Go, not proved from fmt's source: count such statements apart). THE CARD IS WHAT COUNTS. Prove the row's statement (the work); the ties are given (YtjmoncfgoaaekaaDoorTie.lean); close each card by the builder's one call (the guide's Derived/Test/ToyasCard.lean, 'card_holds'). Laid BY PROGRAM, IN A SANDBOX (cutbox-door.mjs). By AI agents, Wed Nov 11 2026. No macro, syntax, notation, axiom, sorry.
-/
import Derived.Test.YtjmoncfgoaaekaaDoorRows
import GoSem.ClaimSeven
namespace Go.Proofs.YtjmoncfgoaaekaaDoor
namespace Rows

/-- THE TIED CARD OF 'chapbooklaw15.FeedPlays'. -/
def feedPlaysCard : Claim7 := { stood := { row := feedPlaysRow, standIns := [], harness := (true, "5dd9426a8969e864d87e937c85093ae6cb4fec6351f839879632dc93ae392192"), looks := false }, kinds := [], alts := [], laidByText := true, laidKinds := [.data], laidTests := true, laidLooks := .later }
def FeedPlaysCardSaid : Prop := Claim7.holds Tryd.pinned (.plain (OpenSpec.ofChange feedPlaysSpec)) feedPlaysCard

/-- THE TIED CARD OF 'chapbooklaw15.FeedAgain'. -/
def feedAgainCard : Claim7 := { stood := { row := feedAgainRow, standIns := [], harness := (true, "5dd9426a8969e864d87e937c85093ae6cb4fec6351f839879632dc93ae392192"), looks := false }, kinds := [], alts := [], laidByText := true, laidKinds := [.data], laidTests := true, laidLooks := .later }
def FeedAgainCardSaid : Prop := Claim7.holds Tryd.pinned (.plain (OpenSpec.ofChange feedAgainSpec)) feedAgainCard

/-- THE TIED CARD OF 'chapbooklaw15.FeedApart'. -/
def feedApartCard : Claim7 := { stood := { row := feedApartRow, standIns := [], harness := (true, "5dd9426a8969e864d87e937c85093ae6cb4fec6351f839879632dc93ae392192"), looks := false }, kinds := [], alts := [], laidByText := true, laidKinds := [.data], laidTests := true, laidLooks := .later }
def FeedApartCardSaid : Prop := Claim7.holds Tryd.pinned (.plain (OpenSpec.ofChange feedApartSpec)) feedApartCard

/-- THE TIED CARD OF 'chapbooklaw15.FeedOrder'. -/
def feedOrderCard : Claim7 := { stood := { row := feedOrderRow, standIns := [], harness := (true, "5dd9426a8969e864d87e937c85093ae6cb4fec6351f839879632dc93ae392192"), looks := false }, kinds := [], alts := [], laidByText := true, laidKinds := [.data], laidTests := true, laidLooks := .later }
def FeedOrderCardSaid : Prop := Claim7.holds Tryd.pinned (.plain (OpenSpec.ofChange feedOrderSpec)) feedOrderCard

/-- THE SECOND FORM's CARD OF 'chapbooklaw15.FeedPlays'. -/
def feedPlaysUptoCard : Claim7 := { stood := { row := feedPlaysUptoRow, standIns := [], harness := (true, "5dd9426a8969e864d87e937c85093ae6cb4fec6351f839879632dc93ae392192"), looks := false }, kinds := [], alts := [], laidByText := true, laidKinds := [.data], laidTests := true, laidLooks := .later }
def FeedPlaysUptoCardSaid : Prop := Claim7.holds Tryd.pinned (.plain (OpenSpec.upto feedPlaysSpec)) feedPlaysUptoCard

/-- THE SECOND FORM's CARD OF 'chapbooklaw15.FeedAgain'. -/
def feedAgainUptoCard : Claim7 := { stood := { row := feedAgainUptoRow, standIns := [], harness := (true, "5dd9426a8969e864d87e937c85093ae6cb4fec6351f839879632dc93ae392192"), looks := false }, kinds := [], alts := [], laidByText := true, laidKinds := [.data], laidTests := true, laidLooks := .later }
def FeedAgainUptoCardSaid : Prop := Claim7.holds Tryd.pinned (.plain (OpenSpec.upto feedAgainSpec)) feedAgainUptoCard

/-- THE SECOND FORM's CARD OF 'chapbooklaw15.FeedApart'. -/
def feedApartUptoCard : Claim7 := { stood := { row := feedApartUptoRow, standIns := [], harness := (true, "5dd9426a8969e864d87e937c85093ae6cb4fec6351f839879632dc93ae392192"), looks := false }, kinds := [], alts := [], laidByText := true, laidKinds := [.data], laidTests := true, laidLooks := .later }
def FeedApartUptoCardSaid : Prop := Claim7.holds Tryd.pinned (.plain (OpenSpec.upto feedApartSpec)) feedApartUptoCard

/-- THE SECOND FORM's CARD OF 'chapbooklaw15.FeedOrder'. -/
def feedOrderUptoCard : Claim7 := { stood := { row := feedOrderUptoRow, standIns := [], harness := (true, "5dd9426a8969e864d87e937c85093ae6cb4fec6351f839879632dc93ae392192"), looks := false }, kinds := [], alts := [], laidByText := true, laidKinds := [.data], laidTests := true, laidLooks := .later }
def FeedOrderUptoCardSaid : Prop := Claim7.holds Tryd.pinned (.plain (OpenSpec.upto feedOrderSpec)) feedOrderUptoCard
end Rows
end Go.Proofs.YtjmoncfgoaaekaaDoor
