/-
  NARROWER THAN 'FOR EVERY INPUT', by the rows' own cells (each row's printed sentence says how): PackBounds: laid · PackReads: laid · PackStops: laid · PackWrites: laid · PackBack: laid · UpdatePuts: laid · UpdateGets: laid · UpdateBack: laid · UpdateOne: laid · UpdateParts: laid · UpdateFront: laid.
  DERIVED. THE GIVEN ROWS OF THIS SEAT. 11 by the template 'for every input the law returns true; each argument reads behind the call as it read before'; 0 by the template 'total and deterministic' (their statements: YtfbdfnclkchofaaDoorTotals.lean).
  GIVEN WITH THE SEED: the statements are not yours to turn. If you find one false, say at which input.
  Laid BY PROGRAM, IN A SANDBOX (cutbox-rows.mjs): the forced cells as the released guide's own fill.sh prints them over the translation 6d9cb26c36431c1f… (all of the seat's roots in one cut). By AI agents, Wed Nov 11 2026. No macro, syntax, notation, axiom, sorry.
-/
import Derived.Test.YtfbdfnclkchofaaDoorChecked
import GoSem.Claim
import GoSem.ClaimJoined
import GoSem.ClaimMapViews
import Derived.JoinedTies
import Derived.KernelRfl
namespace Go.Proofs.YtfbdfnclkchofaaDoor
/- THE CELL 'sum', in the pinned program and in every row, IS THE sha256 OF THE DUMP (.gsa) THAT YtfbdfnclkchofaaDoorProg.lean LOADS. Nothing in Lean hashes anything: it is a label: what it is worth is what the hold of that sum in a sandbox is worth. -/
noncomputable def Tryd.pinned : Pinned := { name := "ytfbdfnclkchofaadoor", sum := "6d9cb26c36431c1ff6c245d174efab6192b6c1dc2fe4a3cb648f9688e2a42c37", checked := Tryd.checked }
namespace Rows
def none {H : Type} : Left H := { results := [], args := [] }

/- WHAT THE LISTED PACKAGE-LEVEL VARIABLES READ AS WHEN THE CALL BEGINS. Each datum BY PROGRAM (the guide's laid-datum.mjs) off the statement by which the dump's own 'gosem.cut.vars' lays the variable. In a bare row this is a premise. The card (YtfbdfnclkchofaaDoorCards.lean) ties it to the program's text. -/
def laid_chapbook_prefix_bits {H : Type} : DataW H := .agg [.lit (.int .u64 6), .lit (.int .u64 14), .lit (.int .u64 30), .lit (.int .u64 62)]

/-- 'chapbooklaw03.PackBounds': WHATEVER THE INPUT: true; the input reads as it did. -/
def packBoundsSpec : ChangeSpec := { name := "packBounds", fn := fun _ => fun
  | [d1, d2, d3] => { results := [.lit (.bool true)], args := [d1, d2, d3] }
  | _ => none }
def packBoundsRow : OpenClaim := { program := "ytfbdfnclkchofaadoor", sum := "6d9cb26c36431c1ff6c245d174efab6192b6c1dc2fe4a3cb648f9688e2a42c37", func := "chapbook/chapbooklaw03.PackBounds", spec := "packBounds", inPlace := ["internal/abi.NoEscape"], named := ["chapbook/prefix.bits"], apart := false, laid := [("chapbook/prefix.bits", laid_chapbook_prefix_bits)] }
def PackBoundsSaid : Prop := packBoundsRow.holds Tryd.pinned (OpenSpec.ofChange packBoundsSpec)

/-- ITS FALSE NEIGHBOUR: 'it returns false'. Refute it at one input. -/
def packBoundsWrong : ChangeSpec := { name := "packBounds", fn := fun _ => fun
  | [d1, d2, d3] => { results := [.lit (.bool false)], args := [d1, d2, d3] }
  | _ => none }
def PackBoundsWrongFalsely : Prop := packBoundsRow.holds Tryd.pinned (OpenSpec.ofChange packBoundsWrong)

/-- 'chapbooklaw03.PackReads': WHATEVER THE INPUT: true; the input reads as it did. -/
def packReadsSpec : ChangeSpec := { name := "packReads", fn := fun _ => fun
  | [d1, d2] => { results := [.lit (.bool true)], args := [d1, d2] }
  | _ => none }
def packReadsRow : OpenClaim := { program := "ytfbdfnclkchofaadoor", sum := "6d9cb26c36431c1ff6c245d174efab6192b6c1dc2fe4a3cb648f9688e2a42c37", func := "chapbook/chapbooklaw03.PackReads", spec := "packReads", inPlace := ["internal/abi.NoEscape"], named := ["chapbook/prefix.bits"], apart := false, laid := [("chapbook/prefix.bits", laid_chapbook_prefix_bits)] }
def PackReadsSaid : Prop := packReadsRow.holds Tryd.pinned (OpenSpec.ofChange packReadsSpec)

/-- ITS FALSE NEIGHBOUR: 'it returns false'. Refute it at one input. -/
def packReadsWrong : ChangeSpec := { name := "packReads", fn := fun _ => fun
  | [d1, d2] => { results := [.lit (.bool false)], args := [d1, d2] }
  | _ => none }
def PackReadsWrongFalsely : Prop := packReadsRow.holds Tryd.pinned (OpenSpec.ofChange packReadsWrong)

/-- 'chapbooklaw03.PackStops': WHATEVER THE INPUT: true; the input reads as it did. -/
def packStopsSpec : ChangeSpec := { name := "packStops", fn := fun _ => fun
  | [d1, d2, d3] => { results := [.lit (.bool true)], args := [d1, d2, d3] }
  | _ => none }
def packStopsRow : OpenClaim := { program := "ytfbdfnclkchofaadoor", sum := "6d9cb26c36431c1ff6c245d174efab6192b6c1dc2fe4a3cb648f9688e2a42c37", func := "chapbook/chapbooklaw03.PackStops", spec := "packStops", inPlace := ["internal/abi.NoEscape"], named := ["chapbook/prefix.bits"], apart := false, laid := [("chapbook/prefix.bits", laid_chapbook_prefix_bits)] }
def PackStopsSaid : Prop := packStopsRow.holds Tryd.pinned (OpenSpec.ofChange packStopsSpec)

/-- ITS FALSE NEIGHBOUR: 'it returns false'. Refute it at one input. -/
def packStopsWrong : ChangeSpec := { name := "packStops", fn := fun _ => fun
  | [d1, d2, d3] => { results := [.lit (.bool false)], args := [d1, d2, d3] }
  | _ => none }
def PackStopsWrongFalsely : Prop := packStopsRow.holds Tryd.pinned (OpenSpec.ofChange packStopsWrong)

/-- 'chapbooklaw03.PackWrites': WHATEVER THE INPUT: true; the input reads as it did. -/
def packWritesSpec : ChangeSpec := { name := "packWrites", fn := fun _ => fun
  | [d] => { results := [.lit (.bool true)], args := [d] }
  | _ => none }
def packWritesRow : OpenClaim := { program := "ytfbdfnclkchofaadoor", sum := "6d9cb26c36431c1ff6c245d174efab6192b6c1dc2fe4a3cb648f9688e2a42c37", func := "chapbook/chapbooklaw03.PackWrites", spec := "packWrites", inPlace := ["internal/abi.NoEscape"], named := ["chapbook/prefix.bits"], apart := false, laid := [("chapbook/prefix.bits", laid_chapbook_prefix_bits)] }
def PackWritesSaid : Prop := packWritesRow.holds Tryd.pinned (OpenSpec.ofChange packWritesSpec)

/-- ITS FALSE NEIGHBOUR: 'it returns false'. Refute it at one input. -/
def packWritesWrong : ChangeSpec := { name := "packWrites", fn := fun _ => fun
  | [d] => { results := [.lit (.bool false)], args := [d] }
  | _ => none }
def PackWritesWrongFalsely : Prop := packWritesRow.holds Tryd.pinned (OpenSpec.ofChange packWritesWrong)

/-- 'chapbooklaw03.PackBack': WHATEVER THE INPUT: true; the input reads as it did. -/
def packBackSpec : ChangeSpec := { name := "packBack", fn := fun _ => fun
  | [d] => { results := [.lit (.bool true)], args := [d] }
  | _ => none }
def packBackRow : OpenClaim := { program := "ytfbdfnclkchofaadoor", sum := "6d9cb26c36431c1ff6c245d174efab6192b6c1dc2fe4a3cb648f9688e2a42c37", func := "chapbook/chapbooklaw03.PackBack", spec := "packBack", inPlace := ["internal/abi.NoEscape"], named := ["chapbook/prefix.bits"], apart := false, laid := [("chapbook/prefix.bits", laid_chapbook_prefix_bits)] }
def PackBackSaid : Prop := packBackRow.holds Tryd.pinned (OpenSpec.ofChange packBackSpec)

/-- ITS FALSE NEIGHBOUR: 'it returns false'. Refute it at one input. -/
def packBackWrong : ChangeSpec := { name := "packBack", fn := fun _ => fun
  | [d] => { results := [.lit (.bool false)], args := [d] }
  | _ => none }
def PackBackWrongFalsely : Prop := packBackRow.holds Tryd.pinned (OpenSpec.ofChange packBackWrong)

/-- 'chapbooklaw06.UpdatePuts': WHATEVER THE INPUT: true; the input reads as it did. -/
def updatePutsSpec : ChangeSpec := { name := "updatePuts", fn := fun _ => fun
  | [d] => { results := [.lit (.bool true)], args := [d] }
  | _ => none }
def updatePutsRow : OpenClaim := { program := "ytfbdfnclkchofaadoor", sum := "6d9cb26c36431c1ff6c245d174efab6192b6c1dc2fe4a3cb648f9688e2a42c37", func := "chapbook/chapbooklaw06.UpdatePuts", spec := "updatePuts", inPlace := ["internal/abi.NoEscape"], named := ["chapbook/prefix.bits"], apart := false, laid := [("chapbook/prefix.bits", laid_chapbook_prefix_bits)] }
def UpdatePutsSaid : Prop := updatePutsRow.holds Tryd.pinned (OpenSpec.ofChange updatePutsSpec)

/-- ITS FALSE NEIGHBOUR: 'it returns false'. Refute it at one input. -/
def updatePutsWrong : ChangeSpec := { name := "updatePuts", fn := fun _ => fun
  | [d] => { results := [.lit (.bool false)], args := [d] }
  | _ => none }
def UpdatePutsWrongFalsely : Prop := updatePutsRow.holds Tryd.pinned (OpenSpec.ofChange updatePutsWrong)

/-- 'chapbooklaw06.UpdateGets': WHATEVER THE INPUT: true; the input reads as it did. -/
def updateGetsSpec : ChangeSpec := { name := "updateGets", fn := fun _ => fun
  | [d] => { results := [.lit (.bool true)], args := [d] }
  | _ => none }
def updateGetsRow : OpenClaim := { program := "ytfbdfnclkchofaadoor", sum := "6d9cb26c36431c1ff6c245d174efab6192b6c1dc2fe4a3cb648f9688e2a42c37", func := "chapbook/chapbooklaw06.UpdateGets", spec := "updateGets", inPlace := ["internal/abi.NoEscape"], named := ["chapbook/prefix.bits"], apart := false, laid := [("chapbook/prefix.bits", laid_chapbook_prefix_bits)] }
def UpdateGetsSaid : Prop := updateGetsRow.holds Tryd.pinned (OpenSpec.ofChange updateGetsSpec)

/-- ITS FALSE NEIGHBOUR: 'it returns false'. Refute it at one input. -/
def updateGetsWrong : ChangeSpec := { name := "updateGets", fn := fun _ => fun
  | [d] => { results := [.lit (.bool false)], args := [d] }
  | _ => none }
def UpdateGetsWrongFalsely : Prop := updateGetsRow.holds Tryd.pinned (OpenSpec.ofChange updateGetsWrong)

/-- 'chapbooklaw06.UpdateBack': WHATEVER THE INPUT: true; the input reads as it did. -/
def updateBackSpec : ChangeSpec := { name := "updateBack", fn := fun _ => fun
  | [d] => { results := [.lit (.bool true)], args := [d] }
  | _ => none }
def updateBackRow : OpenClaim := { program := "ytfbdfnclkchofaadoor", sum := "6d9cb26c36431c1ff6c245d174efab6192b6c1dc2fe4a3cb648f9688e2a42c37", func := "chapbook/chapbooklaw06.UpdateBack", spec := "updateBack", inPlace := ["internal/abi.NoEscape"], named := ["chapbook/prefix.bits"], apart := false, laid := [("chapbook/prefix.bits", laid_chapbook_prefix_bits)] }
def UpdateBackSaid : Prop := updateBackRow.holds Tryd.pinned (OpenSpec.ofChange updateBackSpec)

/-- ITS FALSE NEIGHBOUR: 'it returns false'. Refute it at one input. -/
def updateBackWrong : ChangeSpec := { name := "updateBack", fn := fun _ => fun
  | [d] => { results := [.lit (.bool false)], args := [d] }
  | _ => none }
def UpdateBackWrongFalsely : Prop := updateBackRow.holds Tryd.pinned (OpenSpec.ofChange updateBackWrong)

/-- 'chapbooklaw06.UpdateOne': WHATEVER THE INPUT: true; the input reads as it did. -/
def updateOneSpec : ChangeSpec := { name := "updateOne", fn := fun _ => fun
  | [d] => { results := [.lit (.bool true)], args := [d] }
  | _ => none }
def updateOneRow : OpenClaim := { program := "ytfbdfnclkchofaadoor", sum := "6d9cb26c36431c1ff6c245d174efab6192b6c1dc2fe4a3cb648f9688e2a42c37", func := "chapbook/chapbooklaw06.UpdateOne", spec := "updateOne", inPlace := ["internal/abi.NoEscape"], named := ["chapbook/prefix.bits"], apart := false, laid := [("chapbook/prefix.bits", laid_chapbook_prefix_bits)] }
def UpdateOneSaid : Prop := updateOneRow.holds Tryd.pinned (OpenSpec.ofChange updateOneSpec)

/-- ITS FALSE NEIGHBOUR: 'it returns false'. Refute it at one input. -/
def updateOneWrong : ChangeSpec := { name := "updateOne", fn := fun _ => fun
  | [d] => { results := [.lit (.bool false)], args := [d] }
  | _ => none }
def UpdateOneWrongFalsely : Prop := updateOneRow.holds Tryd.pinned (OpenSpec.ofChange updateOneWrong)

/-- 'chapbooklaw06.UpdateParts': WHATEVER THE INPUT: true; the input reads as it did. -/
def updatePartsSpec : ChangeSpec := { name := "updateParts", fn := fun _ => fun
  | [d1, d2] => { results := [.lit (.bool true)], args := [d1, d2] }
  | _ => none }
def updatePartsRow : OpenClaim := { program := "ytfbdfnclkchofaadoor", sum := "6d9cb26c36431c1ff6c245d174efab6192b6c1dc2fe4a3cb648f9688e2a42c37", func := "chapbook/chapbooklaw06.UpdateParts", spec := "updateParts", inPlace := ["internal/abi.NoEscape"], named := ["chapbook/prefix.bits"], apart := false, laid := [("chapbook/prefix.bits", laid_chapbook_prefix_bits)] }
def UpdatePartsSaid : Prop := updatePartsRow.holds Tryd.pinned (OpenSpec.ofChange updatePartsSpec)

/-- ITS FALSE NEIGHBOUR: 'it returns false'. Refute it at one input. -/
def updatePartsWrong : ChangeSpec := { name := "updateParts", fn := fun _ => fun
  | [d1, d2] => { results := [.lit (.bool false)], args := [d1, d2] }
  | _ => none }
def UpdatePartsWrongFalsely : Prop := updatePartsRow.holds Tryd.pinned (OpenSpec.ofChange updatePartsWrong)

/-- 'chapbooklaw06.UpdateFront': WHATEVER THE INPUT: true; the input reads as it did. -/
def updateFrontSpec : ChangeSpec := { name := "updateFront", fn := fun _ => fun
  | [d1, d2] => { results := [.lit (.bool true)], args := [d1, d2] }
  | _ => none }
def updateFrontRow : OpenClaim := { program := "ytfbdfnclkchofaadoor", sum := "6d9cb26c36431c1ff6c245d174efab6192b6c1dc2fe4a3cb648f9688e2a42c37", func := "chapbook/chapbooklaw06.UpdateFront", spec := "updateFront", inPlace := ["internal/abi.NoEscape"], named := ["chapbook/prefix.bits"], apart := false, laid := [("chapbook/prefix.bits", laid_chapbook_prefix_bits)] }
def UpdateFrontSaid : Prop := updateFrontRow.holds Tryd.pinned (OpenSpec.ofChange updateFrontSpec)

/-- ITS FALSE NEIGHBOUR: 'it returns false'. Refute it at one input. -/
def updateFrontWrong : ChangeSpec := { name := "updateFront", fn := fun _ => fun
  | [d1, d2] => { results := [.lit (.bool false)], args := [d1, d2] }
  | _ => none }
def UpdateFrontWrongFalsely : Prop := updateFrontRow.holds Tryd.pinned (OpenSpec.ofChange updateFrontWrong)

/- THE SECOND FORM. 'bulk': how many values and letters a reading holds, each counted each time it is reached (what is shared counts as often as it is met; a slice's spare places count too). A statement '..UptoSaid' is the law's where the arguments, and the package variables that the reading takes, are together of bulk at most 1048576: NARROWER than '..Said'. Prove '..Said' where nothing that the law and all that it calls make is longer than what came in: it says more and counts as full. Else prove '..UptoSaid'. A law counts once. -/
mutual
def uptoBulk {H : Type} : DataW H → Nat
  | .lit (.string bytes) => bytes.length + 1
  | .lit _ => 1
  | .nil => 1
  | .ptr d => uptoBulk d + 1
  | .slice elems spare => uptoBulkAll elems + uptoBulkAll spare + 1
  | .agg parts => uptoBulkAll parts + 1
  | .iface _ d => uptoBulk d + 1
  | .map entries => uptoBulkEntries entries + 1
  | .held _ => 1
def uptoBulkAll {H : Type} : List (DataW H) → Nat
  | [] => 0
  | d :: r => uptoBulk d + uptoBulkAll r
def uptoBulkEntries {H : Type} : List (Lit × DataW H) → Nat
  | [] => 0
  | x :: r => uptoBulkEntry x + uptoBulkEntries r
def uptoBulkEntry {H : Type} : Lit × DataW H → Nat
  | (.string bytes, d) => bytes.length + uptoBulk d + 1
  | (_, d) => uptoBulk d + 1
 end
def uptoSmall : (H : Type) → List (DataW H) → Bool := fun _ ds => decide (uptoBulkAll ds ≤ 1048576)
def OpenSpec.upto (s : _root_.Go.ChangeSpec) : _root_.Go.OpenSpec := { _root_.Go.OpenSpec.ofChange s with cond := some uptoSmall }

/-- 'chapbooklaw03.PackBounds', WHERE WHAT IT READS IS OF BULK AT MOST 1048576: true; the input reads as it did. -/
def packBoundsUptoRow : OpenClaim := { program := "ytfbdfnclkchofaadoor", sum := "6d9cb26c36431c1ff6c245d174efab6192b6c1dc2fe4a3cb648f9688e2a42c37", func := "chapbook/chapbooklaw03.PackBounds", spec := "packBounds", inPlace := ["internal/abi.NoEscape"], named := ["chapbook/prefix.bits"], apart := false, laid := [("chapbook/prefix.bits", laid_chapbook_prefix_bits)], narrowed := true }
def PackBoundsUptoSaid : Prop := packBoundsUptoRow.holds Tryd.pinned (OpenSpec.upto packBoundsSpec)

/-- 'chapbooklaw03.PackReads', WHERE WHAT IT READS IS OF BULK AT MOST 1048576: true; the input reads as it did. -/
def packReadsUptoRow : OpenClaim := { program := "ytfbdfnclkchofaadoor", sum := "6d9cb26c36431c1ff6c245d174efab6192b6c1dc2fe4a3cb648f9688e2a42c37", func := "chapbook/chapbooklaw03.PackReads", spec := "packReads", inPlace := ["internal/abi.NoEscape"], named := ["chapbook/prefix.bits"], apart := false, laid := [("chapbook/prefix.bits", laid_chapbook_prefix_bits)], narrowed := true }
def PackReadsUptoSaid : Prop := packReadsUptoRow.holds Tryd.pinned (OpenSpec.upto packReadsSpec)

/-- 'chapbooklaw03.PackStops', WHERE WHAT IT READS IS OF BULK AT MOST 1048576: true; the input reads as it did. -/
def packStopsUptoRow : OpenClaim := { program := "ytfbdfnclkchofaadoor", sum := "6d9cb26c36431c1ff6c245d174efab6192b6c1dc2fe4a3cb648f9688e2a42c37", func := "chapbook/chapbooklaw03.PackStops", spec := "packStops", inPlace := ["internal/abi.NoEscape"], named := ["chapbook/prefix.bits"], apart := false, laid := [("chapbook/prefix.bits", laid_chapbook_prefix_bits)], narrowed := true }
def PackStopsUptoSaid : Prop := packStopsUptoRow.holds Tryd.pinned (OpenSpec.upto packStopsSpec)

/-- 'chapbooklaw03.PackWrites', WHERE WHAT IT READS IS OF BULK AT MOST 1048576: true; the input reads as it did. -/
def packWritesUptoRow : OpenClaim := { program := "ytfbdfnclkchofaadoor", sum := "6d9cb26c36431c1ff6c245d174efab6192b6c1dc2fe4a3cb648f9688e2a42c37", func := "chapbook/chapbooklaw03.PackWrites", spec := "packWrites", inPlace := ["internal/abi.NoEscape"], named := ["chapbook/prefix.bits"], apart := false, laid := [("chapbook/prefix.bits", laid_chapbook_prefix_bits)], narrowed := true }
def PackWritesUptoSaid : Prop := packWritesUptoRow.holds Tryd.pinned (OpenSpec.upto packWritesSpec)

/-- 'chapbooklaw03.PackBack', WHERE WHAT IT READS IS OF BULK AT MOST 1048576: true; the input reads as it did. -/
def packBackUptoRow : OpenClaim := { program := "ytfbdfnclkchofaadoor", sum := "6d9cb26c36431c1ff6c245d174efab6192b6c1dc2fe4a3cb648f9688e2a42c37", func := "chapbook/chapbooklaw03.PackBack", spec := "packBack", inPlace := ["internal/abi.NoEscape"], named := ["chapbook/prefix.bits"], apart := false, laid := [("chapbook/prefix.bits", laid_chapbook_prefix_bits)], narrowed := true }
def PackBackUptoSaid : Prop := packBackUptoRow.holds Tryd.pinned (OpenSpec.upto packBackSpec)

/-- 'chapbooklaw06.UpdatePuts', WHERE WHAT IT READS IS OF BULK AT MOST 1048576: true; the input reads as it did. -/
def updatePutsUptoRow : OpenClaim := { program := "ytfbdfnclkchofaadoor", sum := "6d9cb26c36431c1ff6c245d174efab6192b6c1dc2fe4a3cb648f9688e2a42c37", func := "chapbook/chapbooklaw06.UpdatePuts", spec := "updatePuts", inPlace := ["internal/abi.NoEscape"], named := ["chapbook/prefix.bits"], apart := false, laid := [("chapbook/prefix.bits", laid_chapbook_prefix_bits)], narrowed := true }
def UpdatePutsUptoSaid : Prop := updatePutsUptoRow.holds Tryd.pinned (OpenSpec.upto updatePutsSpec)

/-- 'chapbooklaw06.UpdateGets', WHERE WHAT IT READS IS OF BULK AT MOST 1048576: true; the input reads as it did. -/
def updateGetsUptoRow : OpenClaim := { program := "ytfbdfnclkchofaadoor", sum := "6d9cb26c36431c1ff6c245d174efab6192b6c1dc2fe4a3cb648f9688e2a42c37", func := "chapbook/chapbooklaw06.UpdateGets", spec := "updateGets", inPlace := ["internal/abi.NoEscape"], named := ["chapbook/prefix.bits"], apart := false, laid := [("chapbook/prefix.bits", laid_chapbook_prefix_bits)], narrowed := true }
def UpdateGetsUptoSaid : Prop := updateGetsUptoRow.holds Tryd.pinned (OpenSpec.upto updateGetsSpec)

/-- 'chapbooklaw06.UpdateBack', WHERE WHAT IT READS IS OF BULK AT MOST 1048576: true; the input reads as it did. -/
def updateBackUptoRow : OpenClaim := { program := "ytfbdfnclkchofaadoor", sum := "6d9cb26c36431c1ff6c245d174efab6192b6c1dc2fe4a3cb648f9688e2a42c37", func := "chapbook/chapbooklaw06.UpdateBack", spec := "updateBack", inPlace := ["internal/abi.NoEscape"], named := ["chapbook/prefix.bits"], apart := false, laid := [("chapbook/prefix.bits", laid_chapbook_prefix_bits)], narrowed := true }
def UpdateBackUptoSaid : Prop := updateBackUptoRow.holds Tryd.pinned (OpenSpec.upto updateBackSpec)

/-- 'chapbooklaw06.UpdateOne', WHERE WHAT IT READS IS OF BULK AT MOST 1048576: true; the input reads as it did. -/
def updateOneUptoRow : OpenClaim := { program := "ytfbdfnclkchofaadoor", sum := "6d9cb26c36431c1ff6c245d174efab6192b6c1dc2fe4a3cb648f9688e2a42c37", func := "chapbook/chapbooklaw06.UpdateOne", spec := "updateOne", inPlace := ["internal/abi.NoEscape"], named := ["chapbook/prefix.bits"], apart := false, laid := [("chapbook/prefix.bits", laid_chapbook_prefix_bits)], narrowed := true }
def UpdateOneUptoSaid : Prop := updateOneUptoRow.holds Tryd.pinned (OpenSpec.upto updateOneSpec)

/-- 'chapbooklaw06.UpdateParts', WHERE WHAT IT READS IS OF BULK AT MOST 1048576: true; the input reads as it did. -/
def updatePartsUptoRow : OpenClaim := { program := "ytfbdfnclkchofaadoor", sum := "6d9cb26c36431c1ff6c245d174efab6192b6c1dc2fe4a3cb648f9688e2a42c37", func := "chapbook/chapbooklaw06.UpdateParts", spec := "updateParts", inPlace := ["internal/abi.NoEscape"], named := ["chapbook/prefix.bits"], apart := false, laid := [("chapbook/prefix.bits", laid_chapbook_prefix_bits)], narrowed := true }
def UpdatePartsUptoSaid : Prop := updatePartsUptoRow.holds Tryd.pinned (OpenSpec.upto updatePartsSpec)

/-- 'chapbooklaw06.UpdateFront', WHERE WHAT IT READS IS OF BULK AT MOST 1048576: true; the input reads as it did. -/
def updateFrontUptoRow : OpenClaim := { program := "ytfbdfnclkchofaadoor", sum := "6d9cb26c36431c1ff6c245d174efab6192b6c1dc2fe4a3cb648f9688e2a42c37", func := "chapbook/chapbooklaw06.UpdateFront", spec := "updateFront", inPlace := ["internal/abi.NoEscape"], named := ["chapbook/prefix.bits"], apart := false, laid := [("chapbook/prefix.bits", laid_chapbook_prefix_bits)], narrowed := true }
def UpdateFrontUptoSaid : Prop := updateFrontUptoRow.holds Tryd.pinned (OpenSpec.upto updateFrontSpec)

end Rows
end Go.Proofs.YtfbdfnclkchofaaDoor
