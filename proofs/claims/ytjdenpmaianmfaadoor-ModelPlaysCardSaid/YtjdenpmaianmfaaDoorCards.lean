/-
  DERIVED. GIVEN WITH THE SEED: THE CARDS: each row of YtjdenpmaianmfaaDoorRows.lean that lists a variable, with what it lists TIED to the program's text (the seventh form; the later family's looks); each row that meets fmt, with fmt's text TOLD by the authors' own Lean function (tested against real Go, not proved from fmt's source: count such statements apart). THE CARD IS WHAT COUNTS. Prove the row's statement (the work); the ties are given (YtjdenpmaianmfaaDoorTie.lean); close each card by the builder's one call (the guide's Derived/Test/ToyasCard.lean, 'card_holds'). Laid BY PROGRAM, IN A SANDBOX (cutbox-door.mjs). By AI agents, Wed Nov 11 2026. No macro, syntax, notation, axiom, sorry.
-/
import Derived.Test.YtjdenpmaianmfaaDoorRows
import GoSem.ClaimSeven
namespace Go.Proofs.YtjdenpmaianmfaaDoor
namespace Rows

/-- THE TIED CARD OF 'chapbooklaw17.ClientPlays'. -/
def clientPlaysCard : Claim7 := { stood := { row := clientPlaysRow, standIns := [], harness := (true, "fe19536a88da5669b80a6dfebae095c798f20d1b39cfa8f0035771abd93e99a7"), looks := false }, kinds := [], alts := [], laidByText := true, laidKinds := [.data], laidTests := true, laidLooks := .later }
def ClientPlaysCardSaid : Prop := Claim7.holds Tryd.pinned (.plain (OpenSpec.ofChange clientPlaysSpec)) clientPlaysCard

/-- THE TIED CARD OF 'chapbooklaw17.ClientReads'. -/
def clientReadsCard : Claim7 := { stood := { row := clientReadsRow, standIns := [], harness := (true, "fe19536a88da5669b80a6dfebae095c798f20d1b39cfa8f0035771abd93e99a7"), looks := false }, kinds := [], alts := [], laidByText := true, laidKinds := [.data], laidTests := true, laidLooks := .later }
def ClientReadsCardSaid : Prop := Claim7.holds Tryd.pinned (.plain (OpenSpec.ofChange clientReadsSpec)) clientReadsCard

/-- THE TIED CARD OF 'chapbooklaw17.ClientPushes'. -/
def clientPushesCard : Claim7 := { stood := { row := clientPushesRow, standIns := [], harness := (true, "fe19536a88da5669b80a6dfebae095c798f20d1b39cfa8f0035771abd93e99a7"), looks := false }, kinds := [], alts := [], laidByText := true, laidKinds := [.data], laidTests := true, laidLooks := .later }
def ClientPushesCardSaid : Prop := Claim7.holds Tryd.pinned (.plain (OpenSpec.ofChange clientPushesSpec)) clientPushesCard

/-- THE TIED CARD OF 'chapbooklaw17.ClientEchoes'. -/
def clientEchoesCard : Claim7 := { stood := { row := clientEchoesRow, standIns := [], harness := (true, "fe19536a88da5669b80a6dfebae095c798f20d1b39cfa8f0035771abd93e99a7"), looks := false }, kinds := [], alts := [], laidByText := true, laidKinds := [.data], laidTests := true, laidLooks := .later }
def ClientEchoesCardSaid : Prop := Claim7.holds Tryd.pinned (.plain (OpenSpec.ofChange clientEchoesSpec)) clientEchoesCard

/-- THE TIED CARD OF 'chapbooklaw17.ClientResumes'. -/
def clientResumesCard : Claim7 := { stood := { row := clientResumesRow, standIns := [], harness := (true, "fe19536a88da5669b80a6dfebae095c798f20d1b39cfa8f0035771abd93e99a7"), looks := false }, kinds := [], alts := [], laidByText := true, laidKinds := [.data], laidTests := true, laidLooks := .later }
def ClientResumesCardSaid : Prop := Claim7.holds Tryd.pinned (.plain (OpenSpec.ofChange clientResumesSpec)) clientResumesCard

/-- THE TIED CARD OF 'chapbooklaw17.ClientWaits'. -/
def clientWaitsCard : Claim7 := { stood := { row := clientWaitsRow, standIns := [], harness := (true, "fe19536a88da5669b80a6dfebae095c798f20d1b39cfa8f0035771abd93e99a7"), looks := false }, kinds := [], alts := [], laidByText := true, laidKinds := [.data], laidTests := true, laidLooks := .later }
def ClientWaitsCardSaid : Prop := Claim7.holds Tryd.pinned (.plain (OpenSpec.ofChange clientWaitsSpec)) clientWaitsCard

/-- THE TIED CARD OF 'chapbooklaw21.ModelResets'. -/
def modelResetsCard : Claim7 := { stood := { row := modelResetsRow, standIns := [], harness := (true, "fe19536a88da5669b80a6dfebae095c798f20d1b39cfa8f0035771abd93e99a7"), looks := false }, kinds := [], alts := [], laidByText := true, laidKinds := [.data], laidTests := true, laidLooks := .later }
def ModelResetsCardSaid : Prop := Claim7.holds Tryd.pinned (.plain (OpenSpec.ofChange modelResetsSpec)) modelResetsCard

/-- THE TIED CARD OF 'chapbooklaw21.ModelOwn'. -/
def modelOwnCard : Claim7 := { stood := { row := modelOwnRow, standIns := [], harness := (true, "fe19536a88da5669b80a6dfebae095c798f20d1b39cfa8f0035771abd93e99a7"), looks := false }, kinds := [], alts := [], laidByText := true, laidKinds := [.data], laidTests := true, laidLooks := .later }
def ModelOwnCardSaid : Prop := Claim7.holds Tryd.pinned (.plain (OpenSpec.ofChange modelOwnSpec)) modelOwnCard

/-- THE TIED CARD OF 'chapbooklaw21.ModelPlays'. -/
def modelPlaysCard : Claim7 := { stood := { row := modelPlaysRow, standIns := [], harness := (true, "fe19536a88da5669b80a6dfebae095c798f20d1b39cfa8f0035771abd93e99a7"), looks := false }, kinds := [], alts := [], laidByText := true, laidKinds := [.data], laidTests := true, laidLooks := .later }
def ModelPlaysCardSaid : Prop := Claim7.holds Tryd.pinned (.plain (OpenSpec.ofChange modelPlaysSpec)) modelPlaysCard

/-- THE TIED CARD OF 'chapbooklaw21.ModelPrefix'. -/
def modelPrefixCard : Claim7 := { stood := { row := modelPrefixRow, standIns := [], harness := (true, "fe19536a88da5669b80a6dfebae095c798f20d1b39cfa8f0035771abd93e99a7"), looks := false }, kinds := [], alts := [], laidByText := true, laidKinds := [.data], laidTests := true, laidLooks := .later }
def ModelPrefixCardSaid : Prop := Claim7.holds Tryd.pinned (.plain (OpenSpec.ofChange modelPrefixSpec)) modelPrefixCard

/-- THE TIED CARD OF 'chapbooklaw21.ModelSteps'. -/
def modelStepsCard : Claim7 := { stood := { row := modelStepsRow, standIns := [], harness := (true, "fe19536a88da5669b80a6dfebae095c798f20d1b39cfa8f0035771abd93e99a7"), looks := false }, kinds := [], alts := [], laidByText := true, laidKinds := [.data], laidTests := true, laidLooks := .later }
def ModelStepsCardSaid : Prop := Claim7.holds Tryd.pinned (.plain (OpenSpec.ofChange modelStepsSpec)) modelStepsCard

/-- THE TIED CARD OF 'chapbooklaw21.ModelReads'. -/
def modelReadsCard : Claim7 := { stood := { row := modelReadsRow, standIns := [], harness := (true, "fe19536a88da5669b80a6dfebae095c798f20d1b39cfa8f0035771abd93e99a7"), looks := false }, kinds := [], alts := [], laidByText := true, laidKinds := [.data], laidTests := true, laidLooks := .later }
def ModelReadsCardSaid : Prop := Claim7.holds Tryd.pinned (.plain (OpenSpec.ofChange modelReadsSpec)) modelReadsCard

/-- THE SECOND FORM's CARD OF 'chapbooklaw17.ClientPlays'. -/
def clientPlaysUptoCard : Claim7 := { stood := { row := clientPlaysUptoRow, standIns := [], harness := (true, "fe19536a88da5669b80a6dfebae095c798f20d1b39cfa8f0035771abd93e99a7"), looks := false }, kinds := [], alts := [], laidByText := true, laidKinds := [.data], laidTests := true, laidLooks := .later }
def ClientPlaysUptoCardSaid : Prop := Claim7.holds Tryd.pinned (.plain (OpenSpec.upto clientPlaysSpec)) clientPlaysUptoCard

/-- THE SECOND FORM's CARD OF 'chapbooklaw17.ClientReads'. -/
def clientReadsUptoCard : Claim7 := { stood := { row := clientReadsUptoRow, standIns := [], harness := (true, "fe19536a88da5669b80a6dfebae095c798f20d1b39cfa8f0035771abd93e99a7"), looks := false }, kinds := [], alts := [], laidByText := true, laidKinds := [.data], laidTests := true, laidLooks := .later }
def ClientReadsUptoCardSaid : Prop := Claim7.holds Tryd.pinned (.plain (OpenSpec.upto clientReadsSpec)) clientReadsUptoCard

/-- THE SECOND FORM's CARD OF 'chapbooklaw17.ClientPushes'. -/
def clientPushesUptoCard : Claim7 := { stood := { row := clientPushesUptoRow, standIns := [], harness := (true, "fe19536a88da5669b80a6dfebae095c798f20d1b39cfa8f0035771abd93e99a7"), looks := false }, kinds := [], alts := [], laidByText := true, laidKinds := [.data], laidTests := true, laidLooks := .later }
def ClientPushesUptoCardSaid : Prop := Claim7.holds Tryd.pinned (.plain (OpenSpec.upto clientPushesSpec)) clientPushesUptoCard

/-- THE SECOND FORM's CARD OF 'chapbooklaw17.ClientEchoes'. -/
def clientEchoesUptoCard : Claim7 := { stood := { row := clientEchoesUptoRow, standIns := [], harness := (true, "fe19536a88da5669b80a6dfebae095c798f20d1b39cfa8f0035771abd93e99a7"), looks := false }, kinds := [], alts := [], laidByText := true, laidKinds := [.data], laidTests := true, laidLooks := .later }
def ClientEchoesUptoCardSaid : Prop := Claim7.holds Tryd.pinned (.plain (OpenSpec.upto clientEchoesSpec)) clientEchoesUptoCard

/-- THE SECOND FORM's CARD OF 'chapbooklaw17.ClientResumes'. -/
def clientResumesUptoCard : Claim7 := { stood := { row := clientResumesUptoRow, standIns := [], harness := (true, "fe19536a88da5669b80a6dfebae095c798f20d1b39cfa8f0035771abd93e99a7"), looks := false }, kinds := [], alts := [], laidByText := true, laidKinds := [.data], laidTests := true, laidLooks := .later }
def ClientResumesUptoCardSaid : Prop := Claim7.holds Tryd.pinned (.plain (OpenSpec.upto clientResumesSpec)) clientResumesUptoCard

/-- THE SECOND FORM's CARD OF 'chapbooklaw17.ClientWaits'. -/
def clientWaitsUptoCard : Claim7 := { stood := { row := clientWaitsUptoRow, standIns := [], harness := (true, "fe19536a88da5669b80a6dfebae095c798f20d1b39cfa8f0035771abd93e99a7"), looks := false }, kinds := [], alts := [], laidByText := true, laidKinds := [.data], laidTests := true, laidLooks := .later }
def ClientWaitsUptoCardSaid : Prop := Claim7.holds Tryd.pinned (.plain (OpenSpec.upto clientWaitsSpec)) clientWaitsUptoCard

/-- THE SECOND FORM's CARD OF 'chapbooklaw21.ModelResets'. -/
def modelResetsUptoCard : Claim7 := { stood := { row := modelResetsUptoRow, standIns := [], harness := (true, "fe19536a88da5669b80a6dfebae095c798f20d1b39cfa8f0035771abd93e99a7"), looks := false }, kinds := [], alts := [], laidByText := true, laidKinds := [.data], laidTests := true, laidLooks := .later }
def ModelResetsUptoCardSaid : Prop := Claim7.holds Tryd.pinned (.plain (OpenSpec.upto modelResetsSpec)) modelResetsUptoCard

/-- THE SECOND FORM's CARD OF 'chapbooklaw21.ModelOwn'. -/
def modelOwnUptoCard : Claim7 := { stood := { row := modelOwnUptoRow, standIns := [], harness := (true, "fe19536a88da5669b80a6dfebae095c798f20d1b39cfa8f0035771abd93e99a7"), looks := false }, kinds := [], alts := [], laidByText := true, laidKinds := [.data], laidTests := true, laidLooks := .later }
def ModelOwnUptoCardSaid : Prop := Claim7.holds Tryd.pinned (.plain (OpenSpec.upto modelOwnSpec)) modelOwnUptoCard

/-- THE SECOND FORM's CARD OF 'chapbooklaw21.ModelPlays'. -/
def modelPlaysUptoCard : Claim7 := { stood := { row := modelPlaysUptoRow, standIns := [], harness := (true, "fe19536a88da5669b80a6dfebae095c798f20d1b39cfa8f0035771abd93e99a7"), looks := false }, kinds := [], alts := [], laidByText := true, laidKinds := [.data], laidTests := true, laidLooks := .later }
def ModelPlaysUptoCardSaid : Prop := Claim7.holds Tryd.pinned (.plain (OpenSpec.upto modelPlaysSpec)) modelPlaysUptoCard

/-- THE SECOND FORM's CARD OF 'chapbooklaw21.ModelPrefix'. -/
def modelPrefixUptoCard : Claim7 := { stood := { row := modelPrefixUptoRow, standIns := [], harness := (true, "fe19536a88da5669b80a6dfebae095c798f20d1b39cfa8f0035771abd93e99a7"), looks := false }, kinds := [], alts := [], laidByText := true, laidKinds := [.data], laidTests := true, laidLooks := .later }
def ModelPrefixUptoCardSaid : Prop := Claim7.holds Tryd.pinned (.plain (OpenSpec.upto modelPrefixSpec)) modelPrefixUptoCard

/-- THE SECOND FORM's CARD OF 'chapbooklaw21.ModelSteps'. -/
def modelStepsUptoCard : Claim7 := { stood := { row := modelStepsUptoRow, standIns := [], harness := (true, "fe19536a88da5669b80a6dfebae095c798f20d1b39cfa8f0035771abd93e99a7"), looks := false }, kinds := [], alts := [], laidByText := true, laidKinds := [.data], laidTests := true, laidLooks := .later }
def ModelStepsUptoCardSaid : Prop := Claim7.holds Tryd.pinned (.plain (OpenSpec.upto modelStepsSpec)) modelStepsUptoCard

/-- THE SECOND FORM's CARD OF 'chapbooklaw21.ModelReads'. -/
def modelReadsUptoCard : Claim7 := { stood := { row := modelReadsUptoRow, standIns := [], harness := (true, "fe19536a88da5669b80a6dfebae095c798f20d1b39cfa8f0035771abd93e99a7"), looks := false }, kinds := [], alts := [], laidByText := true, laidKinds := [.data], laidTests := true, laidLooks := .later }
def ModelReadsUptoCardSaid : Prop := Claim7.holds Tryd.pinned (.plain (OpenSpec.upto modelReadsSpec)) modelReadsUptoCard
end Rows
end Go.Proofs.YtjdenpmaianmfaaDoor
