/-
  NARROWER THAN 'FOR EVERY INPUT', by the rows' own cells (each row's printed sentence says how): FeedPlays: laid · FeedAgain: laid · FeedApart: laid · FeedOrder: laid.
  DERIVED. THE GIVEN ROWS OF THIS SEAT. 4 by the template 'for every input the law returns true; each argument reads behind the call as it read before'; 0 by the template 'total and deterministic' (their statements: YtjmoncfgoaaekaaDoorTotals.lean).
  GIVEN WITH THE SEED: the statements are not yours to turn. If you find one false, say at which input.
  Laid BY PROGRAM, IN A SANDBOX (cutbox-rows.mjs): the forced cells as the released guide's own fill.sh prints them over the translation 7d85f033b35ea724… (all of the seat's roots in one cut). By AI agents, Wed Nov 11 2026. No macro, syntax, notation, axiom, sorry.
-/
import Derived.Test.YtjmoncfgoaaekaaDoorChecked
import GoSem.Claim
import GoSem.ClaimJoined
import GoSem.ClaimMapViews
import Derived.JoinedTies
import Derived.KernelRfl
namespace Go.Proofs.YtjmoncfgoaaekaaDoor
/- THE CELL 'sum', in the pinned program and in every row, IS THE sha256 OF THE DUMP (.gsa) THAT YtjmoncfgoaaekaaDoorProg.lean LOADS. Nothing in Lean hashes anything: it is a label: what it is worth is what the hold of that sum in a sandbox is worth. -/
noncomputable def Tryd.pinned : Pinned := { name := "ytjmoncfgoaaekaadoor", sum := "7d85f033b35ea724c82496bb5f0295409e09b64c8a8de696402a4ab02acdfb31", checked := Tryd.checked }
namespace Rows
def none {H : Type} : Left H := { results := [], args := [] }

/- WHAT THE LISTED PACKAGE-LEVEL VARIABLES READ AS WHEN THE CALL BEGINS. Each datum BY PROGRAM (the guide's laid-datum.mjs) off the statement by which the dump's own 'gosem.cut.vars' lays the variable. In a bare row this is a premise. The card (YtjmoncfgoaaekaaDoorCards.lean) ties it to the program's text. -/
def laid_chapbook_prefix_bits {H : Type} : DataW H := .agg [.lit (.int .u64 6), .lit (.int .u64 14), .lit (.int .u64 30), .lit (.int .u64 62)]

/-- 'chapbooklaw15.FeedPlays': WHATEVER THE INPUT: true; the input reads as it did. -/
def feedPlaysSpec : ChangeSpec := { name := "feedPlays", fn := fun _ => fun
  | [d1, d2] => { results := [.lit (.bool true)], args := [d1, d2] }
  | _ => none }
def feedPlaysRow : OpenClaim := { program := "ytjmoncfgoaaekaadoor", sum := "7d85f033b35ea724c82496bb5f0295409e09b64c8a8de696402a4ab02acdfb31", func := "chapbook/chapbooklaw15.FeedPlays", spec := "feedPlays", inPlace := ["internal/abi.NoEscape"], named := ["chapbook/prefix.bits"], apart := false, laid := [("chapbook/prefix.bits", laid_chapbook_prefix_bits)] }
def FeedPlaysSaid : Prop := feedPlaysRow.holds Tryd.pinned (OpenSpec.ofChange feedPlaysSpec)

/-- ITS FALSE NEIGHBOUR: 'it returns false'. Refute it at one input. -/
def feedPlaysWrong : ChangeSpec := { name := "feedPlays", fn := fun _ => fun
  | [d1, d2] => { results := [.lit (.bool false)], args := [d1, d2] }
  | _ => none }
def FeedPlaysWrongFalsely : Prop := feedPlaysRow.holds Tryd.pinned (OpenSpec.ofChange feedPlaysWrong)

/-- 'chapbooklaw15.FeedAgain': WHATEVER THE INPUT: true; the input reads as it did. -/
def feedAgainSpec : ChangeSpec := { name := "feedAgain", fn := fun _ => fun
  | [d1, d2] => { results := [.lit (.bool true)], args := [d1, d2] }
  | _ => none }
def feedAgainRow : OpenClaim := { program := "ytjmoncfgoaaekaadoor", sum := "7d85f033b35ea724c82496bb5f0295409e09b64c8a8de696402a4ab02acdfb31", func := "chapbook/chapbooklaw15.FeedAgain", spec := "feedAgain", inPlace := ["internal/abi.NoEscape"], named := ["chapbook/prefix.bits"], apart := false, laid := [("chapbook/prefix.bits", laid_chapbook_prefix_bits)] }
def FeedAgainSaid : Prop := feedAgainRow.holds Tryd.pinned (OpenSpec.ofChange feedAgainSpec)

/-- ITS FALSE NEIGHBOUR: 'it returns false'. Refute it at one input. -/
def feedAgainWrong : ChangeSpec := { name := "feedAgain", fn := fun _ => fun
  | [d1, d2] => { results := [.lit (.bool false)], args := [d1, d2] }
  | _ => none }
def FeedAgainWrongFalsely : Prop := feedAgainRow.holds Tryd.pinned (OpenSpec.ofChange feedAgainWrong)

/-- 'chapbooklaw15.FeedApart': WHATEVER THE INPUT: true; the input reads as it did. -/
def feedApartSpec : ChangeSpec := { name := "feedApart", fn := fun _ => fun
  | [d1, d2] => { results := [.lit (.bool true)], args := [d1, d2] }
  | _ => none }
def feedApartRow : OpenClaim := { program := "ytjmoncfgoaaekaadoor", sum := "7d85f033b35ea724c82496bb5f0295409e09b64c8a8de696402a4ab02acdfb31", func := "chapbook/chapbooklaw15.FeedApart", spec := "feedApart", inPlace := ["internal/abi.NoEscape"], named := ["chapbook/prefix.bits"], apart := false, laid := [("chapbook/prefix.bits", laid_chapbook_prefix_bits)] }
def FeedApartSaid : Prop := feedApartRow.holds Tryd.pinned (OpenSpec.ofChange feedApartSpec)

/-- ITS FALSE NEIGHBOUR: 'it returns false'. Refute it at one input. -/
def feedApartWrong : ChangeSpec := { name := "feedApart", fn := fun _ => fun
  | [d1, d2] => { results := [.lit (.bool false)], args := [d1, d2] }
  | _ => none }
def FeedApartWrongFalsely : Prop := feedApartRow.holds Tryd.pinned (OpenSpec.ofChange feedApartWrong)

/-- 'chapbooklaw15.FeedOrder': WHATEVER THE INPUT: true; the input reads as it did. -/
def feedOrderSpec : ChangeSpec := { name := "feedOrder", fn := fun _ => fun
  | [d1, d2, d3] => { results := [.lit (.bool true)], args := [d1, d2, d3] }
  | _ => none }
def feedOrderRow : OpenClaim := { program := "ytjmoncfgoaaekaadoor", sum := "7d85f033b35ea724c82496bb5f0295409e09b64c8a8de696402a4ab02acdfb31", func := "chapbook/chapbooklaw15.FeedOrder", spec := "feedOrder", inPlace := ["internal/abi.NoEscape"], named := ["chapbook/prefix.bits"], apart := false, laid := [("chapbook/prefix.bits", laid_chapbook_prefix_bits)] }
def FeedOrderSaid : Prop := feedOrderRow.holds Tryd.pinned (OpenSpec.ofChange feedOrderSpec)

/-- ITS FALSE NEIGHBOUR: 'it returns false'. Refute it at one input. -/
def feedOrderWrong : ChangeSpec := { name := "feedOrder", fn := fun _ => fun
  | [d1, d2, d3] => { results := [.lit (.bool false)], args := [d1, d2, d3] }
  | _ => none }
def FeedOrderWrongFalsely : Prop := feedOrderRow.holds Tryd.pinned (OpenSpec.ofChange feedOrderWrong)

/- THE SECOND FORM. 'bulk': how many values and letters a reading holds, each counted each time it is reached (what is shared counts as often as it is met; a slice's spare places count too). A statement '..UptoSaid' is the law's where the arguments, and the package variables that the reading takes, are together of bulk at most 1048576: NARROWER than '..Said'. Prove '..Said' where nothing that the law and all that it calls make is longer than what came in: it says more and counts as full. Else prove '..UptoSaid'. A law counts once. -/
mutual
def uptoBulk {H : Type} : DataW H → Nat
  | .lit (.string bytes) => bytes.length + 1
  | .lit _ => 1
  | .nil => 1
  | .ptr d => uptoBulk d + 1
  | .slice elems spare => uptoBulkAll elems + uptoBulkAll spare + 1
  | .agg parts => uptoBulkAll parts + 1
  | .iface _ d => uptoBulk d + 1
  | .map entries => uptoBulkEntries entries + 1
  | .held _ => 1
def uptoBulkAll {H : Type} : List (DataW H) → Nat
  | [] => 0
  | d :: r => uptoBulk d + uptoBulkAll r
def uptoBulkEntries {H : Type} : List (Lit × DataW H) → Nat
  | [] => 0
  | x :: r => uptoBulkEntry x + uptoBulkEntries r
def uptoBulkEntry {H : Type} : Lit × DataW H → Nat
  | (.string bytes, d) => bytes.length + uptoBulk d + 1
  | (_, d) => uptoBulk d + 1
 end
def uptoSmall : (H : Type) → List (DataW H) → Bool := fun _ ds => decide (uptoBulkAll ds ≤ 1048576)
def OpenSpec.upto (s : _root_.Go.ChangeSpec) : _root_.Go.OpenSpec := { _root_.Go.OpenSpec.ofChange s with cond := some uptoSmall }

/-- 'chapbooklaw15.FeedPlays', WHERE WHAT IT READS IS OF BULK AT MOST 1048576: true; the input reads as it did. -/
def feedPlaysUptoRow : OpenClaim := { program := "ytjmoncfgoaaekaadoor", sum := "7d85f033b35ea724c82496bb5f0295409e09b64c8a8de696402a4ab02acdfb31", func := "chapbook/chapbooklaw15.FeedPlays", spec := "feedPlays", inPlace := ["internal/abi.NoEscape"], named := ["chapbook/prefix.bits"], apart := false, laid := [("chapbook/prefix.bits", laid_chapbook_prefix_bits)], narrowed := true }
def FeedPlaysUptoSaid : Prop := feedPlaysUptoRow.holds Tryd.pinned (OpenSpec.upto feedPlaysSpec)

/-- 'chapbooklaw15.FeedAgain', WHERE WHAT IT READS IS OF BULK AT MOST 1048576: true; the input reads as it did. -/
def feedAgainUptoRow : OpenClaim := { program := "ytjmoncfgoaaekaadoor", sum := "7d85f033b35ea724c82496bb5f0295409e09b64c8a8de696402a4ab02acdfb31", func := "chapbook/chapbooklaw15.FeedAgain", spec := "feedAgain", inPlace := ["internal/abi.NoEscape"], named := ["chapbook/prefix.bits"], apart := false, laid := [("chapbook/prefix.bits", laid_chapbook_prefix_bits)], narrowed := true }
def FeedAgainUptoSaid : Prop := feedAgainUptoRow.holds Tryd.pinned (OpenSpec.upto feedAgainSpec)

/-- 'chapbooklaw15.FeedApart', WHERE WHAT IT READS IS OF BULK AT MOST 1048576: true; the input reads as it did. -/
def feedApartUptoRow : OpenClaim := { program := "ytjmoncfgoaaekaadoor", sum := "7d85f033b35ea724c82496bb5f0295409e09b64c8a8de696402a4ab02acdfb31", func := "chapbook/chapbooklaw15.FeedApart", spec := "feedApart", inPlace := ["internal/abi.NoEscape"], named := ["chapbook/prefix.bits"], apart := false, laid := [("chapbook/prefix.bits", laid_chapbook_prefix_bits)], narrowed := true }
def FeedApartUptoSaid : Prop := feedApartUptoRow.holds Tryd.pinned (OpenSpec.upto feedApartSpec)

/-- 'chapbooklaw15.FeedOrder', WHERE WHAT IT READS IS OF BULK AT MOST 1048576: true; the input reads as it did. -/
def feedOrderUptoRow : OpenClaim := { program := "ytjmoncfgoaaekaadoor", sum := "7d85f033b35ea724c82496bb5f0295409e09b64c8a8de696402a4ab02acdfb31", func := "chapbook/chapbooklaw15.FeedOrder", spec := "feedOrder", inPlace := ["internal/abi.NoEscape"], named := ["chapbook/prefix.bits"], apart := false, laid := [("chapbook/prefix.bits", laid_chapbook_prefix_bits)], narrowed := true }
def FeedOrderUptoSaid : Prop := feedOrderUptoRow.holds Tryd.pinned (OpenSpec.upto feedOrderSpec)

end Rows
end Go.Proofs.YtjmoncfgoaaekaaDoor
