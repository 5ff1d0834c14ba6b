/-
  NARROWER THAN 'FOR EVERY INPUT', by the rows' own cells (each row's printed sentence says how): PrefixPuts: laid · PrefixGets: laid · PrefixBack: laid · PrefixOne: laid · PrefixSizes: laid · PrefixSigned: laid · PrefixFront: laid · PrefixTwo: laid.
  DERIVED. THE GIVEN ROWS OF THIS SEAT. 8 by the template 'for every input the law returns true; each argument reads behind the call as it read before'; 0 by the template 'total and deterministic' (their statements: YtlmpfjmacjicgaaDoorTotals.lean).
  GIVEN WITH THE SEED: the statements are not yours to turn. If you find one false, say at which input.
  Laid BY PROGRAM, IN A SANDBOX (cutbox-rows.mjs): the forced cells as the released guide's own fill.sh prints them over the translation 1be849fab240e4d6… (all of the seat's roots in one cut). By AI agents, Wed Nov 11 2026. No macro, syntax, notation, axiom, sorry.
-/
import Derived.Test.YtlmpfjmacjicgaaDoorChecked
import GoSem.Claim
import GoSem.ClaimJoined
import GoSem.ClaimMapViews
import Derived.JoinedTies
import Derived.KernelRfl
namespace Go.Proofs.YtlmpfjmacjicgaaDoor
/- THE CELL 'sum', in the pinned program and in every row, IS THE sha256 OF THE DUMP (.gsa) THAT YtlmpfjmacjicgaaDoorProg.lean LOADS. Nothing in Lean hashes anything: it is a label: what it is worth is what the hold of that sum in a sandbox is worth. -/
noncomputable def Tryd.pinned : Pinned := { name := "ytlmpfjmacjicgaadoor", sum := "1be849fab240e4d695fc0e53ba8e43e3985cfdd2caceb7377e8c94f10b851b52", checked := Tryd.checked }
namespace Rows
def none {H : Type} : Left H := { results := [], args := [] }

/- WHAT THE LISTED PACKAGE-LEVEL VARIABLES READ AS WHEN THE CALL BEGINS. Each datum BY PROGRAM (the guide's laid-datum.mjs) off the statement by which the dump's own 'gosem.cut.vars' lays the variable. In a bare row this is a premise. The card (YtlmpfjmacjicgaaDoorCards.lean) ties it to the program's text. -/
def laid_chapbook_prefix_bits {H : Type} : DataW H := .agg [.lit (.int .u64 6), .lit (.int .u64 14), .lit (.int .u64 30), .lit (.int .u64 62)]

/-- 'chapbooklaw01.PrefixPuts': WHATEVER THE INPUT: true; the input reads as it did. -/
def prefixPutsSpec : ChangeSpec := { name := "prefixPuts", fn := fun _ => fun
  | [d] => { results := [.lit (.bool true)], args := [d] }
  | _ => none }
def prefixPutsRow : OpenClaim := { program := "ytlmpfjmacjicgaadoor", sum := "1be849fab240e4d695fc0e53ba8e43e3985cfdd2caceb7377e8c94f10b851b52", func := "chapbook/chapbooklaw01.PrefixPuts", spec := "prefixPuts", named := ["chapbook/prefix.bits"], apart := false, laid := [("chapbook/prefix.bits", laid_chapbook_prefix_bits)] }
def PrefixPutsSaid : Prop := prefixPutsRow.holds Tryd.pinned (OpenSpec.ofChange prefixPutsSpec)

/-- ITS FALSE NEIGHBOUR: 'it returns false'. Refute it at one input. -/
def prefixPutsWrong : ChangeSpec := { name := "prefixPuts", fn := fun _ => fun
  | [d] => { results := [.lit (.bool false)], args := [d] }
  | _ => none }
def PrefixPutsWrongFalsely : Prop := prefixPutsRow.holds Tryd.pinned (OpenSpec.ofChange prefixPutsWrong)

/-- 'chapbooklaw01.PrefixGets': WHATEVER THE INPUT: true; the input reads as it did. -/
def prefixGetsSpec : ChangeSpec := { name := "prefixGets", fn := fun _ => fun
  | [d1, d2] => { results := [.lit (.bool true)], args := [d1, d2] }
  | _ => none }
def prefixGetsRow : OpenClaim := { program := "ytlmpfjmacjicgaadoor", sum := "1be849fab240e4d695fc0e53ba8e43e3985cfdd2caceb7377e8c94f10b851b52", func := "chapbook/chapbooklaw01.PrefixGets", spec := "prefixGets", named := ["chapbook/prefix.bits"], apart := false, laid := [("chapbook/prefix.bits", laid_chapbook_prefix_bits)] }
def PrefixGetsSaid : Prop := prefixGetsRow.holds Tryd.pinned (OpenSpec.ofChange prefixGetsSpec)

/-- ITS FALSE NEIGHBOUR: 'it returns false'. Refute it at one input. -/
def prefixGetsWrong : ChangeSpec := { name := "prefixGets", fn := fun _ => fun
  | [d1, d2] => { results := [.lit (.bool false)], args := [d1, d2] }
  | _ => none }
def PrefixGetsWrongFalsely : Prop := prefixGetsRow.holds Tryd.pinned (OpenSpec.ofChange prefixGetsWrong)

/-- 'chapbooklaw01.PrefixBack': WHATEVER THE INPUT: true; the input reads as it did. -/
def prefixBackSpec : ChangeSpec := { name := "prefixBack", fn := fun _ => fun
  | [d1, d2] => { results := [.lit (.bool true)], args := [d1, d2] }
  | _ => none }
def prefixBackRow : OpenClaim := { program := "ytlmpfjmacjicgaadoor", sum := "1be849fab240e4d695fc0e53ba8e43e3985cfdd2caceb7377e8c94f10b851b52", func := "chapbook/chapbooklaw01.PrefixBack", spec := "prefixBack", named := ["chapbook/prefix.bits"], apart := false, laid := [("chapbook/prefix.bits", laid_chapbook_prefix_bits)] }
def PrefixBackSaid : Prop := prefixBackRow.holds Tryd.pinned (OpenSpec.ofChange prefixBackSpec)

/-- ITS FALSE NEIGHBOUR: 'it returns false'. Refute it at one input. -/
def prefixBackWrong : ChangeSpec := { name := "prefixBack", fn := fun _ => fun
  | [d1, d2] => { results := [.lit (.bool false)], args := [d1, d2] }
  | _ => none }
def PrefixBackWrongFalsely : Prop := prefixBackRow.holds Tryd.pinned (OpenSpec.ofChange prefixBackWrong)

/-- 'chapbooklaw01.PrefixOne': WHATEVER THE INPUT: true; the input reads as it did. -/
def prefixOneSpec : ChangeSpec := { name := "prefixOne", fn := fun _ => fun
  | [d] => { results := [.lit (.bool true)], args := [d] }
  | _ => none }
def prefixOneRow : OpenClaim := { program := "ytlmpfjmacjicgaadoor", sum := "1be849fab240e4d695fc0e53ba8e43e3985cfdd2caceb7377e8c94f10b851b52", func := "chapbook/chapbooklaw01.PrefixOne", spec := "prefixOne", named := ["chapbook/prefix.bits"], apart := false, laid := [("chapbook/prefix.bits", laid_chapbook_prefix_bits)] }
def PrefixOneSaid : Prop := prefixOneRow.holds Tryd.pinned (OpenSpec.ofChange prefixOneSpec)

/-- ITS FALSE NEIGHBOUR: 'it returns false'. Refute it at one input. -/
def prefixOneWrong : ChangeSpec := { name := "prefixOne", fn := fun _ => fun
  | [d] => { results := [.lit (.bool false)], args := [d] }
  | _ => none }
def PrefixOneWrongFalsely : Prop := prefixOneRow.holds Tryd.pinned (OpenSpec.ofChange prefixOneWrong)

/-- 'chapbooklaw01.PrefixSizes': WHATEVER THE INPUT: true; the input reads as it did. -/
def prefixSizesSpec : ChangeSpec := { name := "prefixSizes", fn := fun _ => fun
  | [d1, d2] => { results := [.lit (.bool true)], args := [d1, d2] }
  | _ => none }
def prefixSizesRow : OpenClaim := { program := "ytlmpfjmacjicgaadoor", sum := "1be849fab240e4d695fc0e53ba8e43e3985cfdd2caceb7377e8c94f10b851b52", func := "chapbook/chapbooklaw01.PrefixSizes", spec := "prefixSizes", named := ["chapbook/prefix.bits"], apart := false, laid := [("chapbook/prefix.bits", laid_chapbook_prefix_bits)] }
def PrefixSizesSaid : Prop := prefixSizesRow.holds Tryd.pinned (OpenSpec.ofChange prefixSizesSpec)

/-- ITS FALSE NEIGHBOUR: 'it returns false'. Refute it at one input. -/
def prefixSizesWrong : ChangeSpec := { name := "prefixSizes", fn := fun _ => fun
  | [d1, d2] => { results := [.lit (.bool false)], args := [d1, d2] }
  | _ => none }
def PrefixSizesWrongFalsely : Prop := prefixSizesRow.holds Tryd.pinned (OpenSpec.ofChange prefixSizesWrong)

/-- 'chapbooklaw01.PrefixSigned': WHATEVER THE INPUT: true; the input reads as it did. -/
def prefixSignedSpec : ChangeSpec := { name := "prefixSigned", fn := fun _ => fun
  | [d1, d2] => { results := [.lit (.bool true)], args := [d1, d2] }
  | _ => none }
def prefixSignedRow : OpenClaim := { program := "ytlmpfjmacjicgaadoor", sum := "1be849fab240e4d695fc0e53ba8e43e3985cfdd2caceb7377e8c94f10b851b52", func := "chapbook/chapbooklaw01.PrefixSigned", spec := "prefixSigned", named := ["chapbook/prefix.bits"], apart := false, laid := [("chapbook/prefix.bits", laid_chapbook_prefix_bits)] }
def PrefixSignedSaid : Prop := prefixSignedRow.holds Tryd.pinned (OpenSpec.ofChange prefixSignedSpec)

/-- ITS FALSE NEIGHBOUR: 'it returns false'. Refute it at one input. -/
def prefixSignedWrong : ChangeSpec := { name := "prefixSigned", fn := fun _ => fun
  | [d1, d2] => { results := [.lit (.bool false)], args := [d1, d2] }
  | _ => none }
def PrefixSignedWrongFalsely : Prop := prefixSignedRow.holds Tryd.pinned (OpenSpec.ofChange prefixSignedWrong)

/-- 'chapbooklaw01.PrefixFront': WHATEVER THE INPUT: true; the input reads as it did. -/
def prefixFrontSpec : ChangeSpec := { name := "prefixFront", fn := fun _ => fun
  | [d1, d2, d3] => { results := [.lit (.bool true)], args := [d1, d2, d3] }
  | _ => none }
def prefixFrontRow : OpenClaim := { program := "ytlmpfjmacjicgaadoor", sum := "1be849fab240e4d695fc0e53ba8e43e3985cfdd2caceb7377e8c94f10b851b52", func := "chapbook/chapbooklaw01.PrefixFront", spec := "prefixFront", named := ["chapbook/prefix.bits"], apart := false, laid := [("chapbook/prefix.bits", laid_chapbook_prefix_bits)] }
def PrefixFrontSaid : Prop := prefixFrontRow.holds Tryd.pinned (OpenSpec.ofChange prefixFrontSpec)

/-- ITS FALSE NEIGHBOUR: 'it returns false'. Refute it at one input. -/
def prefixFrontWrong : ChangeSpec := { name := "prefixFront", fn := fun _ => fun
  | [d1, d2, d3] => { results := [.lit (.bool false)], args := [d1, d2, d3] }
  | _ => none }
def PrefixFrontWrongFalsely : Prop := prefixFrontRow.holds Tryd.pinned (OpenSpec.ofChange prefixFrontWrong)

/-- 'chapbooklaw01.PrefixTwo': WHATEVER THE INPUT: true; the input reads as it did. -/
def prefixTwoSpec : ChangeSpec := { name := "prefixTwo", fn := fun _ => fun
  | [d] => { results := [.lit (.bool true)], args := [d] }
  | _ => none }
def prefixTwoRow : OpenClaim := { program := "ytlmpfjmacjicgaadoor", sum := "1be849fab240e4d695fc0e53ba8e43e3985cfdd2caceb7377e8c94f10b851b52", func := "chapbook/chapbooklaw01.PrefixTwo", spec := "prefixTwo", named := ["chapbook/prefix.bits"], apart := false, laid := [("chapbook/prefix.bits", laid_chapbook_prefix_bits)] }
def PrefixTwoSaid : Prop := prefixTwoRow.holds Tryd.pinned (OpenSpec.ofChange prefixTwoSpec)

/-- ITS FALSE NEIGHBOUR: 'it returns false'. Refute it at one input. -/
def prefixTwoWrong : ChangeSpec := { name := "prefixTwo", fn := fun _ => fun
  | [d] => { results := [.lit (.bool false)], args := [d] }
  | _ => none }
def PrefixTwoWrongFalsely : Prop := prefixTwoRow.holds Tryd.pinned (OpenSpec.ofChange prefixTwoWrong)

/- THE SECOND FORM. 'bulk': how many values and letters a reading holds, each counted each time it is reached (what is shared counts as often as it is met; a slice's spare places count too). A statement '..UptoSaid' is the law's where the arguments, and the package variables that the reading takes, are together of bulk at most 1048576: NARROWER than '..Said'. Prove '..Said' where nothing that the law and all that it calls make is longer than what came in: it says more and counts as full. Else prove '..UptoSaid'. A law counts once. -/
mutual
def uptoBulk {H : Type} : DataW H → Nat
  | .lit (.string bytes) => bytes.length + 1
  | .lit _ => 1
  | .nil => 1
  | .ptr d => uptoBulk d + 1
  | .slice elems spare => uptoBulkAll elems + uptoBulkAll spare + 1
  | .agg parts => uptoBulkAll parts + 1
  | .iface _ d => uptoBulk d + 1
  | .map entries => uptoBulkEntries entries + 1
  | .held _ => 1
def uptoBulkAll {H : Type} : List (DataW H) → Nat
  | [] => 0
  | d :: r => uptoBulk d + uptoBulkAll r
def uptoBulkEntries {H : Type} : List (Lit × DataW H) → Nat
  | [] => 0
  | x :: r => uptoBulkEntry x + uptoBulkEntries r
def uptoBulkEntry {H : Type} : Lit × DataW H → Nat
  | (.string bytes, d) => bytes.length + uptoBulk d + 1
  | (_, d) => uptoBulk d + 1
 end
def uptoSmall : (H : Type) → List (DataW H) → Bool := fun _ ds => decide (uptoBulkAll ds ≤ 1048576)
def OpenSpec.upto (s : _root_.Go.ChangeSpec) : _root_.Go.OpenSpec := { _root_.Go.OpenSpec.ofChange s with cond := some uptoSmall }

/-- 'chapbooklaw01.PrefixPuts', WHERE WHAT IT READS IS OF BULK AT MOST 1048576: true; the input reads as it did. -/
def prefixPutsUptoRow : OpenClaim := { program := "ytlmpfjmacjicgaadoor", sum := "1be849fab240e4d695fc0e53ba8e43e3985cfdd2caceb7377e8c94f10b851b52", func := "chapbook/chapbooklaw01.PrefixPuts", spec := "prefixPuts", named := ["chapbook/prefix.bits"], apart := false, laid := [("chapbook/prefix.bits", laid_chapbook_prefix_bits)], narrowed := true }
def PrefixPutsUptoSaid : Prop := prefixPutsUptoRow.holds Tryd.pinned (OpenSpec.upto prefixPutsSpec)

/-- 'chapbooklaw01.PrefixGets', WHERE WHAT IT READS IS OF BULK AT MOST 1048576: true; the input reads as it did. -/
def prefixGetsUptoRow : OpenClaim := { program := "ytlmpfjmacjicgaadoor", sum := "1be849fab240e4d695fc0e53ba8e43e3985cfdd2caceb7377e8c94f10b851b52", func := "chapbook/chapbooklaw01.PrefixGets", spec := "prefixGets", named := ["chapbook/prefix.bits"], apart := false, laid := [("chapbook/prefix.bits", laid_chapbook_prefix_bits)], narrowed := true }
def PrefixGetsUptoSaid : Prop := prefixGetsUptoRow.holds Tryd.pinned (OpenSpec.upto prefixGetsSpec)

/-- 'chapbooklaw01.PrefixBack', WHERE WHAT IT READS IS OF BULK AT MOST 1048576: true; the input reads as it did. -/
def prefixBackUptoRow : OpenClaim := { program := "ytlmpfjmacjicgaadoor", sum := "1be849fab240e4d695fc0e53ba8e43e3985cfdd2caceb7377e8c94f10b851b52", func := "chapbook/chapbooklaw01.PrefixBack", spec := "prefixBack", named := ["chapbook/prefix.bits"], apart := false, laid := [("chapbook/prefix.bits", laid_chapbook_prefix_bits)], narrowed := true }
def PrefixBackUptoSaid : Prop := prefixBackUptoRow.holds Tryd.pinned (OpenSpec.upto prefixBackSpec)

/-- 'chapbooklaw01.PrefixOne', WHERE WHAT IT READS IS OF BULK AT MOST 1048576: true; the input reads as it did. -/
def prefixOneUptoRow : OpenClaim := { program := "ytlmpfjmacjicgaadoor", sum := "1be849fab240e4d695fc0e53ba8e43e3985cfdd2caceb7377e8c94f10b851b52", func := "chapbook/chapbooklaw01.PrefixOne", spec := "prefixOne", named := ["chapbook/prefix.bits"], apart := false, laid := [("chapbook/prefix.bits", laid_chapbook_prefix_bits)], narrowed := true }
def PrefixOneUptoSaid : Prop := prefixOneUptoRow.holds Tryd.pinned (OpenSpec.upto prefixOneSpec)

/-- 'chapbooklaw01.PrefixSizes', WHERE WHAT IT READS IS OF BULK AT MOST 1048576: true; the input reads as it did. -/
def prefixSizesUptoRow : OpenClaim := { program := "ytlmpfjmacjicgaadoor", sum := "1be849fab240e4d695fc0e53ba8e43e3985cfdd2caceb7377e8c94f10b851b52", func := "chapbook/chapbooklaw01.PrefixSizes", spec := "prefixSizes", named := ["chapbook/prefix.bits"], apart := false, laid := [("chapbook/prefix.bits", laid_chapbook_prefix_bits)], narrowed := true }
def PrefixSizesUptoSaid : Prop := prefixSizesUptoRow.holds Tryd.pinned (OpenSpec.upto prefixSizesSpec)

/-- 'chapbooklaw01.PrefixSigned', WHERE WHAT IT READS IS OF BULK AT MOST 1048576: true; the input reads as it did. -/
def prefixSignedUptoRow : OpenClaim := { program := "ytlmpfjmacjicgaadoor", sum := "1be849fab240e4d695fc0e53ba8e43e3985cfdd2caceb7377e8c94f10b851b52", func := "chapbook/chapbooklaw01.PrefixSigned", spec := "prefixSigned", named := ["chapbook/prefix.bits"], apart := false, laid := [("chapbook/prefix.bits", laid_chapbook_prefix_bits)], narrowed := true }
def PrefixSignedUptoSaid : Prop := prefixSignedUptoRow.holds Tryd.pinned (OpenSpec.upto prefixSignedSpec)

/-- 'chapbooklaw01.PrefixFront', WHERE WHAT IT READS IS OF BULK AT MOST 1048576: true; the input reads as it did. -/
def prefixFrontUptoRow : OpenClaim := { program := "ytlmpfjmacjicgaadoor", sum := "1be849fab240e4d695fc0e53ba8e43e3985cfdd2caceb7377e8c94f10b851b52", func := "chapbook/chapbooklaw01.PrefixFront", spec := "prefixFront", named := ["chapbook/prefix.bits"], apart := false, laid := [("chapbook/prefix.bits", laid_chapbook_prefix_bits)], narrowed := true }
def PrefixFrontUptoSaid : Prop := prefixFrontUptoRow.holds Tryd.pinned (OpenSpec.upto prefixFrontSpec)

/-- 'chapbooklaw01.PrefixTwo', WHERE WHAT IT READS IS OF BULK AT MOST 1048576: true; the input reads as it did. -/
def prefixTwoUptoRow : OpenClaim := { program := "ytlmpfjmacjicgaadoor", sum := "1be849fab240e4d695fc0e53ba8e43e3985cfdd2caceb7377e8c94f10b851b52", func := "chapbook/chapbooklaw01.PrefixTwo", spec := "prefixTwo", named := ["chapbook/prefix.bits"], apart := false, laid := [("chapbook/prefix.bits", laid_chapbook_prefix_bits)], narrowed := true }
def PrefixTwoUptoSaid : Prop := prefixTwoUptoRow.holds Tryd.pinned (OpenSpec.upto prefixTwoSpec)

end Rows
end Go.Proofs.YtlmpfjmacjicgaaDoor
