/-
  No cell of these rows narrows 'for every input' (looked for: loops, veiled, ifaces, maps, wideKeys, modest, calm, conditions, laid).
  DERIVED. THE GIVEN ROWS OF THIS SEAT. 6 by the template 'for every input the law returns true; each argument reads behind the call as it read before'; 0 by the template 'total and deterministic' (their statements: YtjmoncfgoaaekaaTotals.lean).
  GIVEN WITH THE SEED: the statements are not yours to turn. If you find one false, say at which input.
  Laid BY PROGRAM, IN A SANDBOX (cutbox-rows.mjs): the forced cells as the released guide's own fill.sh prints them over the translation 11e3548266d43e1e… (all of the seat's roots in one cut). By AI agents, Wed Nov 11 2026. No macro, syntax, notation, axiom, sorry.
-/
import Derived.Test.YtjmoncfgoaaekaaChecked
import GoSem.Claim
import GoSem.ClaimJoined
import GoSem.ClaimMapViews
import Derived.JoinedTies
import Derived.KernelRfl
namespace Go.Proofs.Ytjmoncfgoaaekaa
/- THE CELL 'sum', in the pinned program and in every row, IS THE sha256 OF THE DUMP (.gsa) THAT YtjmoncfgoaaekaaProg.lean LOADS. Nothing in Lean hashes anything: it is a label: what it is worth is what the hold of that sum in a sandbox is worth. -/
noncomputable def Try.pinned : Pinned := { name := "ytjmoncfgoaaekaa", sum := "11e3548266d43e1e6158e0bbbd38e4cf8b2570ccb470210c136a172bf4f570f0", checked := Try.checked }
namespace Rows
def none {H : Type} : Left H := { results := [], args := [] }

/-- 'chapbooklaw14.CommitPlays': WHATEVER THE INPUT: true; the input reads as it did. -/
def commitPlaysSpec : ChangeSpec := { name := "commitPlays", fn := fun _ => fun
  | [d1, d2] => { results := [.lit (.bool true)], args := [d1, d2] }
  | _ => none }
def commitPlaysRow : OpenClaim := { program := "ytjmoncfgoaaekaa", sum := "11e3548266d43e1e6158e0bbbd38e4cf8b2570ccb470210c136a172bf4f570f0", func := "chapbook/chapbooklaw14.CommitPlays", spec := "commitPlays", apart := false }
def CommitPlaysSaid : Prop := commitPlaysRow.holds Try.pinned (OpenSpec.ofChange commitPlaysSpec)

/-- ITS FALSE NEIGHBOUR: 'it returns false'. Refute it at one input. -/
def commitPlaysWrong : ChangeSpec := { name := "commitPlays", fn := fun _ => fun
  | [d1, d2] => { results := [.lit (.bool false)], args := [d1, d2] }
  | _ => none }
def CommitPlaysWrongFalsely : Prop := commitPlaysRow.holds Try.pinned (OpenSpec.ofChange commitPlaysWrong)

/-- 'chapbooklaw14.CommitRounds': WHATEVER THE INPUT: true; the input reads as it did. -/
def commitRoundsSpec : ChangeSpec := { name := "commitRounds", fn := fun _ => fun
  | [d1, d2, d3] => { results := [.lit (.bool true)], args := [d1, d2, d3] }
  | _ => none }
def commitRoundsRow : OpenClaim := { program := "ytjmoncfgoaaekaa", sum := "11e3548266d43e1e6158e0bbbd38e4cf8b2570ccb470210c136a172bf4f570f0", func := "chapbook/chapbooklaw14.CommitRounds", spec := "commitRounds", apart := false }
def CommitRoundsSaid : Prop := commitRoundsRow.holds Try.pinned (OpenSpec.ofChange commitRoundsSpec)

/-- ITS FALSE NEIGHBOUR: 'it returns false'. Refute it at one input. -/
def commitRoundsWrong : ChangeSpec := { name := "commitRounds", fn := fun _ => fun
  | [d1, d2, d3] => { results := [.lit (.bool false)], args := [d1, d2, d3] }
  | _ => none }
def CommitRoundsWrongFalsely : Prop := commitRoundsRow.holds Try.pinned (OpenSpec.ofChange commitRoundsWrong)

/-- 'chapbooklaw14.CommitOnce': WHATEVER THE INPUT: true; the input reads as it did. -/
def commitOnceSpec : ChangeSpec := { name := "commitOnce", fn := fun _ => fun
  | [d1, d2] => { results := [.lit (.bool true)], args := [d1, d2] }
  | _ => none }
def commitOnceRow : OpenClaim := { program := "ytjmoncfgoaaekaa", sum := "11e3548266d43e1e6158e0bbbd38e4cf8b2570ccb470210c136a172bf4f570f0", func := "chapbook/chapbooklaw14.CommitOnce", spec := "commitOnce", apart := false }
def CommitOnceSaid : Prop := commitOnceRow.holds Try.pinned (OpenSpec.ofChange commitOnceSpec)

/-- ITS FALSE NEIGHBOUR: 'it returns false'. Refute it at one input. -/
def commitOnceWrong : ChangeSpec := { name := "commitOnce", fn := fun _ => fun
  | [d1, d2] => { results := [.lit (.bool false)], args := [d1, d2] }
  | _ => none }
def CommitOnceWrongFalsely : Prop := commitOnceRow.holds Try.pinned (OpenSpec.ofChange commitOnceWrong)

/-- 'chapbooklaw14.CommitOrder': WHATEVER THE INPUT: true; the input reads as it did. -/
def commitOrderSpec : ChangeSpec := { name := "commitOrder", fn := fun _ => fun
  | [d1, d2] => { results := [.lit (.bool true)], args := [d1, d2] }
  | _ => none }
def commitOrderRow : OpenClaim := { program := "ytjmoncfgoaaekaa", sum := "11e3548266d43e1e6158e0bbbd38e4cf8b2570ccb470210c136a172bf4f570f0", func := "chapbook/chapbooklaw14.CommitOrder", spec := "commitOrder", apart := false }
def CommitOrderSaid : Prop := commitOrderRow.holds Try.pinned (OpenSpec.ofChange commitOrderSpec)

/-- ITS FALSE NEIGHBOUR: 'it returns false'. Refute it at one input. -/
def commitOrderWrong : ChangeSpec := { name := "commitOrder", fn := fun _ => fun
  | [d1, d2] => { results := [.lit (.bool false)], args := [d1, d2] }
  | _ => none }
def CommitOrderWrongFalsely : Prop := commitOrderRow.holds Try.pinned (OpenSpec.ofChange commitOrderWrong)

/-- 'chapbooklaw14.CommitGrows': WHATEVER THE INPUT: true; the input reads as it did. -/
def commitGrowsSpec : ChangeSpec := { name := "commitGrows", fn := fun _ => fun
  | [d1, d2] => { results := [.lit (.bool true)], args := [d1, d2] }
  | _ => none }
def commitGrowsRow : OpenClaim := { program := "ytjmoncfgoaaekaa", sum := "11e3548266d43e1e6158e0bbbd38e4cf8b2570ccb470210c136a172bf4f570f0", func := "chapbook/chapbooklaw14.CommitGrows", spec := "commitGrows", apart := false }
def CommitGrowsSaid : Prop := commitGrowsRow.holds Try.pinned (OpenSpec.ofChange commitGrowsSpec)

/-- ITS FALSE NEIGHBOUR: 'it returns false'. Refute it at one input. -/
def commitGrowsWrong : ChangeSpec := { name := "commitGrows", fn := fun _ => fun
  | [d1, d2] => { results := [.lit (.bool false)], args := [d1, d2] }
  | _ => none }
def CommitGrowsWrongFalsely : Prop := commitGrowsRow.holds Try.pinned (OpenSpec.ofChange commitGrowsWrong)

/-- 'chapbooklaw14.CommitMix': WHATEVER THE INPUT: true; the input reads as it did. -/
def commitMixSpec : ChangeSpec := { name := "commitMix", fn := fun _ => fun
  | [d1, d2] => { results := [.lit (.bool true)], args := [d1, d2] }
  | _ => none }
def commitMixRow : OpenClaim := { program := "ytjmoncfgoaaekaa", sum := "11e3548266d43e1e6158e0bbbd38e4cf8b2570ccb470210c136a172bf4f570f0", func := "chapbook/chapbooklaw14.CommitMix", spec := "commitMix", apart := false }
def CommitMixSaid : Prop := commitMixRow.holds Try.pinned (OpenSpec.ofChange commitMixSpec)

/-- ITS FALSE NEIGHBOUR: 'it returns false'. Refute it at one input. -/
def commitMixWrong : ChangeSpec := { name := "commitMix", fn := fun _ => fun
  | [d1, d2] => { results := [.lit (.bool false)], args := [d1, d2] }
  | _ => none }
def CommitMixWrongFalsely : Prop := commitMixRow.holds Try.pinned (OpenSpec.ofChange commitMixWrong)

/- THE SECOND FORM. 'bulk': how many values and letters a reading holds, each counted each time it is reached (what is shared counts as often as it is met; a slice's spare places count too). A statement '..UptoSaid' is the law's where the arguments, and the package variables that the reading takes, are together of bulk at most 1048576: NARROWER than '..Said'. Prove '..Said' where nothing that the law and all that it calls make is longer than what came in: it says more and counts as full. Else prove '..UptoSaid'. A law counts once. -/
mutual
def uptoBulk {H : Type} : DataW H → Nat
  | .lit (.string bytes) => bytes.length + 1
  | .lit _ => 1
  | .nil => 1
  | .ptr d => uptoBulk d + 1
  | .slice elems spare => uptoBulkAll elems + uptoBulkAll spare + 1
  | .agg parts => uptoBulkAll parts + 1
  | .iface _ d => uptoBulk d + 1
  | .map entries => uptoBulkEntries entries + 1
  | .held _ => 1
def uptoBulkAll {H : Type} : List (DataW H) → Nat
  | [] => 0
  | d :: r => uptoBulk d + uptoBulkAll r
def uptoBulkEntries {H : Type} : List (Lit × DataW H) → Nat
  | [] => 0
  | x :: r => uptoBulkEntry x + uptoBulkEntries r
def uptoBulkEntry {H : Type} : Lit × DataW H → Nat
  | (.string bytes, d) => bytes.length + uptoBulk d + 1
  | (_, d) => uptoBulk d + 1
 end
def uptoSmall : (H : Type) → List (DataW H) → Bool := fun _ ds => decide (uptoBulkAll ds ≤ 1048576)
def OpenSpec.upto (s : _root_.Go.ChangeSpec) : _root_.Go.OpenSpec := { _root_.Go.OpenSpec.ofChange s with cond := some uptoSmall }

/-- 'chapbooklaw14.CommitPlays', WHERE WHAT IT READS IS OF BULK AT MOST 1048576: true; the input reads as it did. -/
def commitPlaysUptoRow : OpenClaim := { program := "ytjmoncfgoaaekaa", sum := "11e3548266d43e1e6158e0bbbd38e4cf8b2570ccb470210c136a172bf4f570f0", func := "chapbook/chapbooklaw14.CommitPlays", spec := "commitPlays", apart := false, narrowed := true }
def CommitPlaysUptoSaid : Prop := commitPlaysUptoRow.holds Try.pinned (OpenSpec.upto commitPlaysSpec)

/-- 'chapbooklaw14.CommitRounds', WHERE WHAT IT READS IS OF BULK AT MOST 1048576: true; the input reads as it did. -/
def commitRoundsUptoRow : OpenClaim := { program := "ytjmoncfgoaaekaa", sum := "11e3548266d43e1e6158e0bbbd38e4cf8b2570ccb470210c136a172bf4f570f0", func := "chapbook/chapbooklaw14.CommitRounds", spec := "commitRounds", apart := false, narrowed := true }
def CommitRoundsUptoSaid : Prop := commitRoundsUptoRow.holds Try.pinned (OpenSpec.upto commitRoundsSpec)

/-- 'chapbooklaw14.CommitOnce', WHERE WHAT IT READS IS OF BULK AT MOST 1048576: true; the input reads as it did. -/
def commitOnceUptoRow : OpenClaim := { program := "ytjmoncfgoaaekaa", sum := "11e3548266d43e1e6158e0bbbd38e4cf8b2570ccb470210c136a172bf4f570f0", func := "chapbook/chapbooklaw14.CommitOnce", spec := "commitOnce", apart := false, narrowed := true }
def CommitOnceUptoSaid : Prop := commitOnceUptoRow.holds Try.pinned (OpenSpec.upto commitOnceSpec)

/-- 'chapbooklaw14.CommitOrder', WHERE WHAT IT READS IS OF BULK AT MOST 1048576: true; the input reads as it did. -/
def commitOrderUptoRow : OpenClaim := { program := "ytjmoncfgoaaekaa", sum := "11e3548266d43e1e6158e0bbbd38e4cf8b2570ccb470210c136a172bf4f570f0", func := "chapbook/chapbooklaw14.CommitOrder", spec := "commitOrder", apart := false, narrowed := true }
def CommitOrderUptoSaid : Prop := commitOrderUptoRow.holds Try.pinned (OpenSpec.upto commitOrderSpec)

/-- 'chapbooklaw14.CommitGrows', WHERE WHAT IT READS IS OF BULK AT MOST 1048576: true; the input reads as it did. -/
def commitGrowsUptoRow : OpenClaim := { program := "ytjmoncfgoaaekaa", sum := "11e3548266d43e1e6158e0bbbd38e4cf8b2570ccb470210c136a172bf4f570f0", func := "chapbook/chapbooklaw14.CommitGrows", spec := "commitGrows", apart := false, narrowed := true }
def CommitGrowsUptoSaid : Prop := commitGrowsUptoRow.holds Try.pinned (OpenSpec.upto commitGrowsSpec)

/-- 'chapbooklaw14.CommitMix', WHERE WHAT IT READS IS OF BULK AT MOST 1048576: true; the input reads as it did. -/
def commitMixUptoRow : OpenClaim := { program := "ytjmoncfgoaaekaa", sum := "11e3548266d43e1e6158e0bbbd38e4cf8b2570ccb470210c136a172bf4f570f0", func := "chapbook/chapbooklaw14.CommitMix", spec := "commitMix", apart := false, narrowed := true }
def CommitMixUptoSaid : Prop := commitMixUptoRow.holds Try.pinned (OpenSpec.upto commitMixSpec)

end Rows
end Go.Proofs.Ytjmoncfgoaaekaa
