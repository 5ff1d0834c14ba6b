/-
  No cell of these rows narrows 'for every input' (looked for: loops, veiled, ifaces, maps, wideKeys, modest, calm, conditions, laid).
  DERIVED. THE GIVEN ROWS OF THIS SEAT. 5 by the template 'for every input the law returns true; each argument reads behind the call as it read before'; 0 by the template 'total and deterministic' (their statements: YtcmldinhecjcmaaTotals.lean).
  GIVEN WITH THE SEED: the statements are not yours to turn. If you find one false, say at which input.
  Laid BY PROGRAM, IN A SANDBOX (cutbox-rows.mjs): the forced cells as the released guide's own fill.sh prints them over the translation 01a7b08183e93fe0… (all of the seat's roots in one cut). By AI agents, Wed Nov 11 2026. No macro, syntax, notation, axiom, sorry.
-/
import Derived.Test.YtcmldinhecjcmaaChecked
import GoSem.Claim
import GoSem.ClaimJoined
import GoSem.ClaimMapViews
import Derived.JoinedTies
import Derived.KernelRfl
namespace Go.Proofs.Ytcmldinhecjcmaa
/- THE CELL 'sum', in the pinned program and in every row, IS THE sha256 OF THE DUMP (.gsa) THAT YtcmldinhecjcmaaProg.lean LOADS. Nothing in Lean hashes anything: it is a label: what it is worth is what the hold of that sum in a sandbox is worth. -/
noncomputable def Try.pinned : Pinned := { name := "ytcmldinhecjcmaa", sum := "01a7b08183e93fe0867988f2eb9d0743ef90ab78889a9600f621212b01a3702c", checked := Try.checked }
namespace Rows
def none {H : Type} : Left H := { results := [], args := [] }

/-- 'chapbooklaw04.ValueApplies': WHATEVER THE INPUT: true; the input reads as it did. -/
def valueAppliesSpec : ChangeSpec := { name := "valueApplies", fn := fun _ => fun
  | [d1, d2] => { results := [.lit (.bool true)], args := [d1, d2] }
  | _ => none }
def valueAppliesRow : OpenClaim := { program := "ytcmldinhecjcmaa", sum := "01a7b08183e93fe0867988f2eb9d0743ef90ab78889a9600f621212b01a3702c", func := "chapbook/chapbooklaw04.ValueApplies", spec := "valueApplies", apart := false }
def ValueAppliesSaid : Prop := valueAppliesRow.holds Try.pinned (OpenSpec.ofChange valueAppliesSpec)

/-- ITS FALSE NEIGHBOUR: 'it returns false'. Refute it at one input. -/
def valueAppliesWrong : ChangeSpec := { name := "valueApplies", fn := fun _ => fun
  | [d1, d2] => { results := [.lit (.bool false)], args := [d1, d2] }
  | _ => none }
def ValueAppliesWrongFalsely : Prop := valueAppliesRow.holds Try.pinned (OpenSpec.ofChange valueAppliesWrong)

/-- 'chapbooklaw04.ValueMay': WHATEVER THE INPUT: true; the input reads as it did. -/
def valueMaySpec : ChangeSpec := { name := "valueMay", fn := fun _ => fun
  | [d] => { results := [.lit (.bool true)], args := [d] }
  | _ => none }
def valueMayRow : OpenClaim := { program := "ytcmldinhecjcmaa", sum := "01a7b08183e93fe0867988f2eb9d0743ef90ab78889a9600f621212b01a3702c", func := "chapbook/chapbooklaw04.ValueMay", spec := "valueMay", apart := false }
def ValueMaySaid : Prop := valueMayRow.holds Try.pinned (OpenSpec.ofChange valueMaySpec)

/-- ITS FALSE NEIGHBOUR: 'it returns false'. Refute it at one input. -/
def valueMayWrong : ChangeSpec := { name := "valueMay", fn := fun _ => fun
  | [d] => { results := [.lit (.bool false)], args := [d] }
  | _ => none }
def ValueMayWrongFalsely : Prop := valueMayRow.holds Try.pinned (OpenSpec.ofChange valueMayWrong)

/-- 'chapbooklaw04.ValueAll': WHATEVER THE INPUT: true; the input reads as it did. -/
def valueAllSpec : ChangeSpec := { name := "valueAll", fn := fun _ => fun
  | [d1, d2, d3] => { results := [.lit (.bool true)], args := [d1, d2, d3] }
  | _ => none }
def valueAllRow : OpenClaim := { program := "ytcmldinhecjcmaa", sum := "01a7b08183e93fe0867988f2eb9d0743ef90ab78889a9600f621212b01a3702c", func := "chapbook/chapbooklaw04.ValueAll", spec := "valueAll", apart := false }
def ValueAllSaid : Prop := valueAllRow.holds Try.pinned (OpenSpec.ofChange valueAllSpec)

/-- ITS FALSE NEIGHBOUR: 'it returns false'. Refute it at one input. -/
def valueAllWrong : ChangeSpec := { name := "valueAll", fn := fun _ => fun
  | [d1, d2, d3] => { results := [.lit (.bool false)], args := [d1, d2, d3] }
  | _ => none }
def ValueAllWrongFalsely : Prop := valueAllRow.holds Try.pinned (OpenSpec.ofChange valueAllWrong)

/-- 'chapbooklaw04.ValueLast': WHATEVER THE INPUT: true; the input reads as it did. -/
def valueLastSpec : ChangeSpec := { name := "valueLast", fn := fun _ => fun
  | [d1, d2, d3] => { results := [.lit (.bool true)], args := [d1, d2, d3] }
  | _ => none }
def valueLastRow : OpenClaim := { program := "ytcmldinhecjcmaa", sum := "01a7b08183e93fe0867988f2eb9d0743ef90ab78889a9600f621212b01a3702c", func := "chapbook/chapbooklaw04.ValueLast", spec := "valueLast", apart := false }
def ValueLastSaid : Prop := valueLastRow.holds Try.pinned (OpenSpec.ofChange valueLastSpec)

/-- ITS FALSE NEIGHBOUR: 'it returns false'. Refute it at one input. -/
def valueLastWrong : ChangeSpec := { name := "valueLast", fn := fun _ => fun
  | [d1, d2, d3] => { results := [.lit (.bool false)], args := [d1, d2, d3] }
  | _ => none }
def ValueLastWrongFalsely : Prop := valueLastRow.holds Try.pinned (OpenSpec.ofChange valueLastWrong)

/-- 'chapbooklaw04.ValueSteady': WHATEVER THE INPUT: true; the input reads as it did. -/
def valueSteadySpec : ChangeSpec := { name := "valueSteady", fn := fun _ => fun
  | [d1, d2] => { results := [.lit (.bool true)], args := [d1, d2] }
  | _ => none }
def valueSteadyRow : OpenClaim := { program := "ytcmldinhecjcmaa", sum := "01a7b08183e93fe0867988f2eb9d0743ef90ab78889a9600f621212b01a3702c", func := "chapbook/chapbooklaw04.ValueSteady", spec := "valueSteady", apart := false }
def ValueSteadySaid : Prop := valueSteadyRow.holds Try.pinned (OpenSpec.ofChange valueSteadySpec)

/-- ITS FALSE NEIGHBOUR: 'it returns false'. Refute it at one input. -/
def valueSteadyWrong : ChangeSpec := { name := "valueSteady", fn := fun _ => fun
  | [d1, d2] => { results := [.lit (.bool false)], args := [d1, d2] }
  | _ => none }
def ValueSteadyWrongFalsely : Prop := valueSteadyRow.holds Try.pinned (OpenSpec.ofChange valueSteadyWrong)

/- THE SECOND FORM. 'bulk': how many values and letters a reading holds, each counted each time it is reached (what is shared counts as often as it is met; a slice's spare places count too). A statement '..UptoSaid' is the law's where the arguments, and the package variables that the reading takes, are together of bulk at most 1048576: NARROWER than '..Said'. Prove '..Said' where nothing that the law and all that it calls make is longer than what came in: it says more and counts as full. Else prove '..UptoSaid'. A law counts once. -/
mutual
def uptoBulk {H : Type} : DataW H → Nat
  | .lit (.string bytes) => bytes.length + 1
  | .lit _ => 1
  | .nil => 1
  | .ptr d => uptoBulk d + 1
  | .slice elems spare => uptoBulkAll elems + uptoBulkAll spare + 1
  | .agg parts => uptoBulkAll parts + 1
  | .iface _ d => uptoBulk d + 1
  | .map entries => uptoBulkEntries entries + 1
  | .held _ => 1
def uptoBulkAll {H : Type} : List (DataW H) → Nat
  | [] => 0
  | d :: r => uptoBulk d + uptoBulkAll r
def uptoBulkEntries {H : Type} : List (Lit × DataW H) → Nat
  | [] => 0
  | x :: r => uptoBulkEntry x + uptoBulkEntries r
def uptoBulkEntry {H : Type} : Lit × DataW H → Nat
  | (.string bytes, d) => bytes.length + uptoBulk d + 1
  | (_, d) => uptoBulk d + 1
 end
def uptoSmall : (H : Type) → List (DataW H) → Bool := fun _ ds => decide (uptoBulkAll ds ≤ 1048576)
def OpenSpec.upto (s : _root_.Go.ChangeSpec) : _root_.Go.OpenSpec := { _root_.Go.OpenSpec.ofChange s with cond := some uptoSmall }

/-- 'chapbooklaw04.ValueApplies', WHERE WHAT IT READS IS OF BULK AT MOST 1048576: true; the input reads as it did. -/
def valueAppliesUptoRow : OpenClaim := { program := "ytcmldinhecjcmaa", sum := "01a7b08183e93fe0867988f2eb9d0743ef90ab78889a9600f621212b01a3702c", func := "chapbook/chapbooklaw04.ValueApplies", spec := "valueApplies", apart := false, narrowed := true }
def ValueAppliesUptoSaid : Prop := valueAppliesUptoRow.holds Try.pinned (OpenSpec.upto valueAppliesSpec)

/-- 'chapbooklaw04.ValueMay', WHERE WHAT IT READS IS OF BULK AT MOST 1048576: true; the input reads as it did. -/
def valueMayUptoRow : OpenClaim := { program := "ytcmldinhecjcmaa", sum := "01a7b08183e93fe0867988f2eb9d0743ef90ab78889a9600f621212b01a3702c", func := "chapbook/chapbooklaw04.ValueMay", spec := "valueMay", apart := false, narrowed := true }
def ValueMayUptoSaid : Prop := valueMayUptoRow.holds Try.pinned (OpenSpec.upto valueMaySpec)

/-- 'chapbooklaw04.ValueAll', WHERE WHAT IT READS IS OF BULK AT MOST 1048576: true; the input reads as it did. -/
def valueAllUptoRow : OpenClaim := { program := "ytcmldinhecjcmaa", sum := "01a7b08183e93fe0867988f2eb9d0743ef90ab78889a9600f621212b01a3702c", func := "chapbook/chapbooklaw04.ValueAll", spec := "valueAll", apart := false, narrowed := true }
def ValueAllUptoSaid : Prop := valueAllUptoRow.holds Try.pinned (OpenSpec.upto valueAllSpec)

/-- 'chapbooklaw04.ValueLast', WHERE WHAT IT READS IS OF BULK AT MOST 1048576: true; the input reads as it did. -/
def valueLastUptoRow : OpenClaim := { program := "ytcmldinhecjcmaa", sum := "01a7b08183e93fe0867988f2eb9d0743ef90ab78889a9600f621212b01a3702c", func := "chapbook/chapbooklaw04.ValueLast", spec := "valueLast", apart := false, narrowed := true }
def ValueLastUptoSaid : Prop := valueLastUptoRow.holds Try.pinned (OpenSpec.upto valueLastSpec)

/-- 'chapbooklaw04.ValueSteady', WHERE WHAT IT READS IS OF BULK AT MOST 1048576: true; the input reads as it did. -/
def valueSteadyUptoRow : OpenClaim := { program := "ytcmldinhecjcmaa", sum := "01a7b08183e93fe0867988f2eb9d0743ef90ab78889a9600f621212b01a3702c", func := "chapbook/chapbooklaw04.ValueSteady", spec := "valueSteady", apart := false, narrowed := true }
def ValueSteadyUptoSaid : Prop := valueSteadyUptoRow.holds Try.pinned (OpenSpec.upto valueSteadySpec)

end Rows
end Go.Proofs.Ytcmldinhecjcmaa
