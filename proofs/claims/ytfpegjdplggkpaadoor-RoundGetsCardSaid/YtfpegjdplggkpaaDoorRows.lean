/-
  NARROWER THAN 'FOR EVERY INPUT', by the rows' own cells (each row's printed sentence says how): RoundPuts: laid · RoundGets: laid · RoundBack: laid · RoundOne: laid · RoundFits: laid · RoundFront: laid · RoundSame: laid.
  DERIVED. THE GIVEN ROWS OF THIS SEAT. 7 by the template 'for every input the law returns true; each argument reads behind the call as it read before'; 0 by the template 'total and deterministic' (their statements: YtfpegjdplggkpaaDoorTotals.lean).
  GIVEN WITH THE SEED: the statements are not yours to turn. If you find one false, say at which input.
  Laid BY PROGRAM, IN A SANDBOX (cutbox-rows.mjs): the forced cells as the released guide's own fill.sh prints them over the translation 080fda0a0807755d… (all of the seat's roots in one cut). By AI agents, Wed Nov 11 2026. No macro, syntax, notation, axiom, sorry.
-/
import Derived.Test.YtfpegjdplggkpaaDoorChecked
import GoSem.Claim
import GoSem.ClaimJoined
import GoSem.ClaimMapViews
import Derived.JoinedTies
import Derived.KernelRfl
namespace Go.Proofs.YtfpegjdplggkpaaDoor
/- THE CELL 'sum', in the pinned program and in every row, IS THE sha256 OF THE DUMP (.gsa) THAT YtfpegjdplggkpaaDoorProg.lean LOADS. Nothing in Lean hashes anything: it is a label: what it is worth is what the hold of that sum in a sandbox is worth. -/
noncomputable def Tryd.pinned : Pinned := { name := "ytfpegjdplggkpaadoor", sum := "080fda0a0807755ded20e331bbfcfd27ee7aaa886ffb7939c094dd6340e7862d", checked := Tryd.checked }
namespace Rows
def none {H : Type} : Left H := { results := [], args := [] }

/- WHAT THE LISTED PACKAGE-LEVEL VARIABLES READ AS WHEN THE CALL BEGINS. Each datum BY PROGRAM (the guide's laid-datum.mjs) off the statement by which the dump's own 'gosem.cut.vars' lays the variable. In a bare row this is a premise. The card (YtfpegjdplggkpaaDoorCards.lean) ties it to the program's text. -/
def laid_chapbook_prefix_bits {H : Type} : DataW H := .agg [.lit (.int .u64 6), .lit (.int .u64 14), .lit (.int .u64 30), .lit (.int .u64 62)]

/-- 'chapbooklaw07.RoundPuts': WHATEVER THE INPUT: true; the input reads as it did. -/
def roundPutsSpec : ChangeSpec := { name := "roundPuts", fn := fun _ => fun
  | [d] => { results := [.lit (.bool true)], args := [d] }
  | _ => none }
def roundPutsRow : OpenClaim := { program := "ytfpegjdplggkpaadoor", sum := "080fda0a0807755ded20e331bbfcfd27ee7aaa886ffb7939c094dd6340e7862d", func := "chapbook/chapbooklaw07.RoundPuts", spec := "roundPuts", inPlace := ["internal/abi.NoEscape"], named := ["chapbook/prefix.bits"], apart := false, laid := [("chapbook/prefix.bits", laid_chapbook_prefix_bits)] }
def RoundPutsSaid : Prop := roundPutsRow.holds Tryd.pinned (OpenSpec.ofChange roundPutsSpec)

/-- ITS FALSE NEIGHBOUR: 'it returns false'. Refute it at one input. -/
def roundPutsWrong : ChangeSpec := { name := "roundPuts", fn := fun _ => fun
  | [d] => { results := [.lit (.bool false)], args := [d] }
  | _ => none }
def RoundPutsWrongFalsely : Prop := roundPutsRow.holds Tryd.pinned (OpenSpec.ofChange roundPutsWrong)

/-- 'chapbooklaw07.RoundGets': WHATEVER THE INPUT: true; the input reads as it did. -/
def roundGetsSpec : ChangeSpec := { name := "roundGets", fn := fun _ => fun
  | [d] => { results := [.lit (.bool true)], args := [d] }
  | _ => none }
def roundGetsRow : OpenClaim := { program := "ytfpegjdplggkpaadoor", sum := "080fda0a0807755ded20e331bbfcfd27ee7aaa886ffb7939c094dd6340e7862d", func := "chapbook/chapbooklaw07.RoundGets", spec := "roundGets", inPlace := ["internal/abi.NoEscape"], named := ["chapbook/prefix.bits"], apart := false, laid := [("chapbook/prefix.bits", laid_chapbook_prefix_bits)] }
def RoundGetsSaid : Prop := roundGetsRow.holds Tryd.pinned (OpenSpec.ofChange roundGetsSpec)

/-- ITS FALSE NEIGHBOUR: 'it returns false'. Refute it at one input. -/
def roundGetsWrong : ChangeSpec := { name := "roundGets", fn := fun _ => fun
  | [d] => { results := [.lit (.bool false)], args := [d] }
  | _ => none }
def RoundGetsWrongFalsely : Prop := roundGetsRow.holds Tryd.pinned (OpenSpec.ofChange roundGetsWrong)

/-- 'chapbooklaw07.RoundBack': WHATEVER THE INPUT: true; the input reads as it did. -/
def roundBackSpec : ChangeSpec := { name := "roundBack", fn := fun _ => fun
  | [d] => { results := [.lit (.bool true)], args := [d] }
  | _ => none }
def roundBackRow : OpenClaim := { program := "ytfpegjdplggkpaadoor", sum := "080fda0a0807755ded20e331bbfcfd27ee7aaa886ffb7939c094dd6340e7862d", func := "chapbook/chapbooklaw07.RoundBack", spec := "roundBack", inPlace := ["internal/abi.NoEscape"], named := ["chapbook/prefix.bits"], apart := false, laid := [("chapbook/prefix.bits", laid_chapbook_prefix_bits)] }
def RoundBackSaid : Prop := roundBackRow.holds Tryd.pinned (OpenSpec.ofChange roundBackSpec)

/-- ITS FALSE NEIGHBOUR: 'it returns false'. Refute it at one input. -/
def roundBackWrong : ChangeSpec := { name := "roundBack", fn := fun _ => fun
  | [d] => { results := [.lit (.bool false)], args := [d] }
  | _ => none }
def RoundBackWrongFalsely : Prop := roundBackRow.holds Tryd.pinned (OpenSpec.ofChange roundBackWrong)

/-- 'chapbooklaw07.RoundOne': WHATEVER THE INPUT: true; the input reads as it did. -/
def roundOneSpec : ChangeSpec := { name := "roundOne", fn := fun _ => fun
  | [d] => { results := [.lit (.bool true)], args := [d] }
  | _ => none }
def roundOneRow : OpenClaim := { program := "ytfpegjdplggkpaadoor", sum := "080fda0a0807755ded20e331bbfcfd27ee7aaa886ffb7939c094dd6340e7862d", func := "chapbook/chapbooklaw07.RoundOne", spec := "roundOne", inPlace := ["internal/abi.NoEscape"], named := ["chapbook/prefix.bits"], apart := false, laid := [("chapbook/prefix.bits", laid_chapbook_prefix_bits)] }
def RoundOneSaid : Prop := roundOneRow.holds Tryd.pinned (OpenSpec.ofChange roundOneSpec)

/-- ITS FALSE NEIGHBOUR: 'it returns false'. Refute it at one input. -/
def roundOneWrong : ChangeSpec := { name := "roundOne", fn := fun _ => fun
  | [d] => { results := [.lit (.bool false)], args := [d] }
  | _ => none }
def RoundOneWrongFalsely : Prop := roundOneRow.holds Tryd.pinned (OpenSpec.ofChange roundOneWrong)

/-- 'chapbooklaw07.RoundFits': WHATEVER THE INPUT: true; the input reads as it did. -/
def roundFitsSpec : ChangeSpec := { name := "roundFits", fn := fun _ => fun
  | [d1, d2, d3] => { results := [.lit (.bool true)], args := [d1, d2, d3] }
  | _ => none }
def roundFitsRow : OpenClaim := { program := "ytfpegjdplggkpaadoor", sum := "080fda0a0807755ded20e331bbfcfd27ee7aaa886ffb7939c094dd6340e7862d", func := "chapbook/chapbooklaw07.RoundFits", spec := "roundFits", inPlace := ["internal/abi.NoEscape"], named := ["chapbook/prefix.bits"], apart := false, laid := [("chapbook/prefix.bits", laid_chapbook_prefix_bits)] }
def RoundFitsSaid : Prop := roundFitsRow.holds Tryd.pinned (OpenSpec.ofChange roundFitsSpec)

/-- ITS FALSE NEIGHBOUR: 'it returns false'. Refute it at one input. -/
def roundFitsWrong : ChangeSpec := { name := "roundFits", fn := fun _ => fun
  | [d1, d2, d3] => { results := [.lit (.bool false)], args := [d1, d2, d3] }
  | _ => none }
def RoundFitsWrongFalsely : Prop := roundFitsRow.holds Tryd.pinned (OpenSpec.ofChange roundFitsWrong)

/-- 'chapbooklaw07.RoundFront': WHATEVER THE INPUT: true; the input reads as it did. -/
def roundFrontSpec : ChangeSpec := { name := "roundFront", fn := fun _ => fun
  | [d1, d2, d3] => { results := [.lit (.bool true)], args := [d1, d2, d3] }
  | _ => none }
def roundFrontRow : OpenClaim := { program := "ytfpegjdplggkpaadoor", sum := "080fda0a0807755ded20e331bbfcfd27ee7aaa886ffb7939c094dd6340e7862d", func := "chapbook/chapbooklaw07.RoundFront", spec := "roundFront", inPlace := ["internal/abi.NoEscape"], named := ["chapbook/prefix.bits"], apart := false, laid := [("chapbook/prefix.bits", laid_chapbook_prefix_bits)] }
def RoundFrontSaid : Prop := roundFrontRow.holds Tryd.pinned (OpenSpec.ofChange roundFrontSpec)

/-- ITS FALSE NEIGHBOUR: 'it returns false'. Refute it at one input. -/
def roundFrontWrong : ChangeSpec := { name := "roundFront", fn := fun _ => fun
  | [d1, d2, d3] => { results := [.lit (.bool false)], args := [d1, d2, d3] }
  | _ => none }
def RoundFrontWrongFalsely : Prop := roundFrontRow.holds Tryd.pinned (OpenSpec.ofChange roundFrontWrong)

/-- 'chapbooklaw07.RoundSame': WHATEVER THE INPUT: true; the input reads as it did. -/
def roundSameSpec : ChangeSpec := { name := "roundSame", fn := fun _ => fun
  | [d1, d2] => { results := [.lit (.bool true)], args := [d1, d2] }
  | _ => none }
def roundSameRow : OpenClaim := { program := "ytfpegjdplggkpaadoor", sum := "080fda0a0807755ded20e331bbfcfd27ee7aaa886ffb7939c094dd6340e7862d", func := "chapbook/chapbooklaw07.RoundSame", spec := "roundSame", inPlace := ["internal/abi.NoEscape"], named := ["chapbook/prefix.bits"], apart := false, laid := [("chapbook/prefix.bits", laid_chapbook_prefix_bits)] }
def RoundSameSaid : Prop := roundSameRow.holds Tryd.pinned (OpenSpec.ofChange roundSameSpec)

/-- ITS FALSE NEIGHBOUR: 'it returns false'. Refute it at one input. -/
def roundSameWrong : ChangeSpec := { name := "roundSame", fn := fun _ => fun
  | [d1, d2] => { results := [.lit (.bool false)], args := [d1, d2] }
  | _ => none }
def RoundSameWrongFalsely : Prop := roundSameRow.holds Tryd.pinned (OpenSpec.ofChange roundSameWrong)

/- THE SECOND FORM. 'bulk': how many values and letters a reading holds, each counted each time it is reached (what is shared counts as often as it is met; a slice's spare places count too). A statement '..UptoSaid' is the law's where the arguments, and the package variables that the reading takes, are together of bulk at most 1048576: NARROWER than '..Said'. Prove '..Said' where nothing that the law and all that it calls make is longer than what came in: it says more and counts as full. Else prove '..UptoSaid'. A law counts once. -/
mutual
def uptoBulk {H : Type} : DataW H → Nat
  | .lit (.string bytes) => bytes.length + 1
  | .lit _ => 1
  | .nil => 1
  | .ptr d => uptoBulk d + 1
  | .slice elems spare => uptoBulkAll elems + uptoBulkAll spare + 1
  | .agg parts => uptoBulkAll parts + 1
  | .iface _ d => uptoBulk d + 1
  | .map entries => uptoBulkEntries entries + 1
  | .held _ => 1
def uptoBulkAll {H : Type} : List (DataW H) → Nat
  | [] => 0
  | d :: r => uptoBulk d + uptoBulkAll r
def uptoBulkEntries {H : Type} : List (Lit × DataW H) → Nat
  | [] => 0
  | x :: r => uptoBulkEntry x + uptoBulkEntries r
def uptoBulkEntry {H : Type} : Lit × DataW H → Nat
  | (.string bytes, d) => bytes.length + uptoBulk d + 1
  | (_, d) => uptoBulk d + 1
 end
def uptoSmall : (H : Type) → List (DataW H) → Bool := fun _ ds => decide (uptoBulkAll ds ≤ 1048576)
def OpenSpec.upto (s : _root_.Go.ChangeSpec) : _root_.Go.OpenSpec := { _root_.Go.OpenSpec.ofChange s with cond := some uptoSmall }

/-- 'chapbooklaw07.RoundPuts', WHERE WHAT IT READS IS OF BULK AT MOST 1048576: true; the input reads as it did. -/
def roundPutsUptoRow : OpenClaim := { program := "ytfpegjdplggkpaadoor", sum := "080fda0a0807755ded20e331bbfcfd27ee7aaa886ffb7939c094dd6340e7862d", func := "chapbook/chapbooklaw07.RoundPuts", spec := "roundPuts", inPlace := ["internal/abi.NoEscape"], named := ["chapbook/prefix.bits"], apart := false, laid := [("chapbook/prefix.bits", laid_chapbook_prefix_bits)], narrowed := true }
def RoundPutsUptoSaid : Prop := roundPutsUptoRow.holds Tryd.pinned (OpenSpec.upto roundPutsSpec)

/-- 'chapbooklaw07.RoundGets', WHERE WHAT IT READS IS OF BULK AT MOST 1048576: true; the input reads as it did. -/
def roundGetsUptoRow : OpenClaim := { program := "ytfpegjdplggkpaadoor", sum := "080fda0a0807755ded20e331bbfcfd27ee7aaa886ffb7939c094dd6340e7862d", func := "chapbook/chapbooklaw07.RoundGets", spec := "roundGets", inPlace := ["internal/abi.NoEscape"], named := ["chapbook/prefix.bits"], apart := false, laid := [("chapbook/prefix.bits", laid_chapbook_prefix_bits)], narrowed := true }
def RoundGetsUptoSaid : Prop := roundGetsUptoRow.holds Tryd.pinned (OpenSpec.upto roundGetsSpec)

/-- 'chapbooklaw07.RoundBack', WHERE WHAT IT READS IS OF BULK AT MOST 1048576: true; the input reads as it did. -/
def roundBackUptoRow : OpenClaim := { program := "ytfpegjdplggkpaadoor", sum := "080fda0a0807755ded20e331bbfcfd27ee7aaa886ffb7939c094dd6340e7862d", func := "chapbook/chapbooklaw07.RoundBack", spec := "roundBack", inPlace := ["internal/abi.NoEscape"], named := ["chapbook/prefix.bits"], apart := false, laid := [("chapbook/prefix.bits", laid_chapbook_prefix_bits)], narrowed := true }
def RoundBackUptoSaid : Prop := roundBackUptoRow.holds Tryd.pinned (OpenSpec.upto roundBackSpec)

/-- 'chapbooklaw07.RoundOne', WHERE WHAT IT READS IS OF BULK AT MOST 1048576: true; the input reads as it did. -/
def roundOneUptoRow : OpenClaim := { program := "ytfpegjdplggkpaadoor", sum := "080fda0a0807755ded20e331bbfcfd27ee7aaa886ffb7939c094dd6340e7862d", func := "chapbook/chapbooklaw07.RoundOne", spec := "roundOne", inPlace := ["internal/abi.NoEscape"], named := ["chapbook/prefix.bits"], apart := false, laid := [("chapbook/prefix.bits", laid_chapbook_prefix_bits)], narrowed := true }
def RoundOneUptoSaid : Prop := roundOneUptoRow.holds Tryd.pinned (OpenSpec.upto roundOneSpec)

/-- 'chapbooklaw07.RoundFits', WHERE WHAT IT READS IS OF BULK AT MOST 1048576: true; the input reads as it did. -/
def roundFitsUptoRow : OpenClaim := { program := "ytfpegjdplggkpaadoor", sum := "080fda0a0807755ded20e331bbfcfd27ee7aaa886ffb7939c094dd6340e7862d", func := "chapbook/chapbooklaw07.RoundFits", spec := "roundFits", inPlace := ["internal/abi.NoEscape"], named := ["chapbook/prefix.bits"], apart := false, laid := [("chapbook/prefix.bits", laid_chapbook_prefix_bits)], narrowed := true }
def RoundFitsUptoSaid : Prop := roundFitsUptoRow.holds Tryd.pinned (OpenSpec.upto roundFitsSpec)

/-- 'chapbooklaw07.RoundFront', WHERE WHAT IT READS IS OF BULK AT MOST 1048576: true; the input reads as it did. -/
def roundFrontUptoRow : OpenClaim := { program := "ytfpegjdplggkpaadoor", sum := "080fda0a0807755ded20e331bbfcfd27ee7aaa886ffb7939c094dd6340e7862d", func := "chapbook/chapbooklaw07.RoundFront", spec := "roundFront", inPlace := ["internal/abi.NoEscape"], named := ["chapbook/prefix.bits"], apart := false, laid := [("chapbook/prefix.bits", laid_chapbook_prefix_bits)], narrowed := true }
def RoundFrontUptoSaid : Prop := roundFrontUptoRow.holds Tryd.pinned (OpenSpec.upto roundFrontSpec)

/-- 'chapbooklaw07.RoundSame', WHERE WHAT IT READS IS OF BULK AT MOST 1048576: true; the input reads as it did. -/
def roundSameUptoRow : OpenClaim := { program := "ytfpegjdplggkpaadoor", sum := "080fda0a0807755ded20e331bbfcfd27ee7aaa886ffb7939c094dd6340e7862d", func := "chapbook/chapbooklaw07.RoundSame", spec := "roundSame", inPlace := ["internal/abi.NoEscape"], named := ["chapbook/prefix.bits"], apart := false, laid := [("chapbook/prefix.bits", laid_chapbook_prefix_bits)], narrowed := true }
def RoundSameUptoSaid : Prop := roundSameUptoRow.holds Tryd.pinned (OpenSpec.upto roundSameSpec)

end Rows
end Go.Proofs.YtfpegjdplggkpaaDoor
