/-
  NARROWER THAN 'FOR EVERY INPUT', by the rows' own cells (each row's printed sentence says how): ClientPlays: laid · ClientReads: laid · ClientPushes: laid · ClientEchoes: laid · ClientResumes: laid · ClientWaits: laid · ModelResets: laid · ModelOwn: laid · ModelPlays: laid · ModelPrefix: laid · ModelSteps: laid · ModelReads: laid.
  DERIVED. THE GIVEN ROWS OF THIS SEAT. 12 by the template 'for every input the law returns true; each argument reads behind the call as it read before'; 0 by the template 'total and deterministic' (their statements: YtjdenpmaianmfaaDoorTotals.lean).
  GIVEN WITH THE SEED: the statements are not yours to turn. If you find one false, say at which input.
  Laid BY PROGRAM, IN A SANDBOX (cutbox-rows.mjs): the forced cells as the released guide's own fill.sh prints them over the translation 151140228ffe3424… (all of the seat's roots in one cut). By AI agents, Wed Nov 11 2026. No macro, syntax, notation, axiom, sorry.
-/
import Derived.Test.YtjdenpmaianmfaaDoorChecked
import GoSem.Claim
import GoSem.ClaimJoined
import GoSem.ClaimMapViews
import Derived.JoinedTies
import Derived.KernelRfl
namespace Go.Proofs.YtjdenpmaianmfaaDoor
/- THE CELL 'sum', in the pinned program and in every row, IS THE sha256 OF THE DUMP (.gsa) THAT YtjdenpmaianmfaaDoorProg.lean LOADS. Nothing in Lean hashes anything: it is a label: what it is worth is what the hold of that sum in a sandbox is worth. -/
noncomputable def Tryd.pinned : Pinned := { name := "ytjdenpmaianmfaadoor", sum := "151140228ffe3424f448062aef2d83678676c6e13aab8de61afcd97cbed14779", checked := Tryd.checked }
namespace Rows
def none {H : Type} : Left H := { results := [], args := [] }

/- WHAT THE LISTED PACKAGE-LEVEL VARIABLES READ AS WHEN THE CALL BEGINS. Each datum BY PROGRAM (the guide's laid-datum.mjs) off the statement by which the dump's own 'gosem.cut.vars' lays the variable. In a bare row this is a premise. The card (YtjdenpmaianmfaaDoorCards.lean) ties it to the program's text. -/
def laid_chapbook_prefix_bits {H : Type} : DataW H := .agg [.lit (.int .u64 6), .lit (.int .u64 14), .lit (.int .u64 30), .lit (.int .u64 62)]

/-- 'chapbooklaw17.ClientPlays': WHATEVER THE INPUT: true; the input reads as it did. -/
def clientPlaysSpec : ChangeSpec := { name := "clientPlays", fn := fun _ => fun
  | [d1, d2] => { results := [.lit (.bool true)], args := [d1, d2] }
  | _ => none }
def clientPlaysRow : OpenClaim := { program := "ytjdenpmaianmfaadoor", sum := "151140228ffe3424f448062aef2d83678676c6e13aab8de61afcd97cbed14779", func := "chapbook/chapbooklaw17.ClientPlays", spec := "clientPlays", inPlace := ["internal/abi.NoEscape"], named := ["chapbook/prefix.bits"], apart := false, laid := [("chapbook/prefix.bits", laid_chapbook_prefix_bits)] }
def ClientPlaysSaid : Prop := clientPlaysRow.holds Tryd.pinned (OpenSpec.ofChange clientPlaysSpec)

/-- ITS FALSE NEIGHBOUR: 'it returns false'. Refute it at one input. -/
def clientPlaysWrong : ChangeSpec := { name := "clientPlays", fn := fun _ => fun
  | [d1, d2] => { results := [.lit (.bool false)], args := [d1, d2] }
  | _ => none }
def ClientPlaysWrongFalsely : Prop := clientPlaysRow.holds Tryd.pinned (OpenSpec.ofChange clientPlaysWrong)

/-- 'chapbooklaw17.ClientReads': WHATEVER THE INPUT: true; the input reads as it did. -/
def clientReadsSpec : ChangeSpec := { name := "clientReads", fn := fun _ => fun
  | [d1, d2, d3] => { results := [.lit (.bool true)], args := [d1, d2, d3] }
  | _ => none }
def clientReadsRow : OpenClaim := { program := "ytjdenpmaianmfaadoor", sum := "151140228ffe3424f448062aef2d83678676c6e13aab8de61afcd97cbed14779", func := "chapbook/chapbooklaw17.ClientReads", spec := "clientReads", inPlace := ["internal/abi.NoEscape"], named := ["chapbook/prefix.bits"], apart := false, laid := [("chapbook/prefix.bits", laid_chapbook_prefix_bits)] }
def ClientReadsSaid : Prop := clientReadsRow.holds Tryd.pinned (OpenSpec.ofChange clientReadsSpec)

/-- ITS FALSE NEIGHBOUR: 'it returns false'. Refute it at one input. -/
def clientReadsWrong : ChangeSpec := { name := "clientReads", fn := fun _ => fun
  | [d1, d2, d3] => { results := [.lit (.bool false)], args := [d1, d2, d3] }
  | _ => none }
def ClientReadsWrongFalsely : Prop := clientReadsRow.holds Tryd.pinned (OpenSpec.ofChange clientReadsWrong)

/-- 'chapbooklaw17.ClientPushes': WHATEVER THE INPUT: true; the input reads as it did. -/
def clientPushesSpec : ChangeSpec := { name := "clientPushes", fn := fun _ => fun
  | [d1, d2, d3] => { results := [.lit (.bool true)], args := [d1, d2, d3] }
  | _ => none }
def clientPushesRow : OpenClaim := { program := "ytjdenpmaianmfaadoor", sum := "151140228ffe3424f448062aef2d83678676c6e13aab8de61afcd97cbed14779", func := "chapbook/chapbooklaw17.ClientPushes", spec := "clientPushes", inPlace := ["internal/abi.NoEscape"], named := ["chapbook/prefix.bits"], apart := false, laid := [("chapbook/prefix.bits", laid_chapbook_prefix_bits)] }
def ClientPushesSaid : Prop := clientPushesRow.holds Tryd.pinned (OpenSpec.ofChange clientPushesSpec)

/-- ITS FALSE NEIGHBOUR: 'it returns false'. Refute it at one input. -/
def clientPushesWrong : ChangeSpec := { name := "clientPushes", fn := fun _ => fun
  | [d1, d2, d3] => { results := [.lit (.bool false)], args := [d1, d2, d3] }
  | _ => none }
def ClientPushesWrongFalsely : Prop := clientPushesRow.holds Tryd.pinned (OpenSpec.ofChange clientPushesWrong)

/-- 'chapbooklaw17.ClientEchoes': WHATEVER THE INPUT: true; the input reads as it did. -/
def clientEchoesSpec : ChangeSpec := { name := "clientEchoes", fn := fun _ => fun
  | [d1, d2, d3] => { results := [.lit (.bool true)], args := [d1, d2, d3] }
  | _ => none }
def clientEchoesRow : OpenClaim := { program := "ytjdenpmaianmfaadoor", sum := "151140228ffe3424f448062aef2d83678676c6e13aab8de61afcd97cbed14779", func := "chapbook/chapbooklaw17.ClientEchoes", spec := "clientEchoes", inPlace := ["internal/abi.NoEscape"], named := ["chapbook/prefix.bits"], apart := false, laid := [("chapbook/prefix.bits", laid_chapbook_prefix_bits)] }
def ClientEchoesSaid : Prop := clientEchoesRow.holds Tryd.pinned (OpenSpec.ofChange clientEchoesSpec)

/-- ITS FALSE NEIGHBOUR: 'it returns false'. Refute it at one input. -/
def clientEchoesWrong : ChangeSpec := { name := "clientEchoes", fn := fun _ => fun
  | [d1, d2, d3] => { results := [.lit (.bool false)], args := [d1, d2, d3] }
  | _ => none }
def ClientEchoesWrongFalsely : Prop := clientEchoesRow.holds Tryd.pinned (OpenSpec.ofChange clientEchoesWrong)

/-- 'chapbooklaw17.ClientResumes': WHATEVER THE INPUT: true; the input reads as it did. -/
def clientResumesSpec : ChangeSpec := { name := "clientResumes", fn := fun _ => fun
  | [d1, d2] => { results := [.lit (.bool true)], args := [d1, d2] }
  | _ => none }
def clientResumesRow : OpenClaim := { program := "ytjdenpmaianmfaadoor", sum := "151140228ffe3424f448062aef2d83678676c6e13aab8de61afcd97cbed14779", func := "chapbook/chapbooklaw17.ClientResumes", spec := "clientResumes", inPlace := ["internal/abi.NoEscape"], named := ["chapbook/prefix.bits"], apart := false, laid := [("chapbook/prefix.bits", laid_chapbook_prefix_bits)] }
def ClientResumesSaid : Prop := clientResumesRow.holds Tryd.pinned (OpenSpec.ofChange clientResumesSpec)

/-- ITS FALSE NEIGHBOUR: 'it returns false'. Refute it at one input. -/
def clientResumesWrong : ChangeSpec := { name := "clientResumes", fn := fun _ => fun
  | [d1, d2] => { results := [.lit (.bool false)], args := [d1, d2] }
  | _ => none }
def ClientResumesWrongFalsely : Prop := clientResumesRow.holds Tryd.pinned (OpenSpec.ofChange clientResumesWrong)

/-- 'chapbooklaw17.ClientWaits': WHATEVER THE INPUT: true; the input reads as it did. -/
def clientWaitsSpec : ChangeSpec := { name := "clientWaits", fn := fun _ => fun
  | [d1, d2, d3] => { results := [.lit (.bool true)], args := [d1, d2, d3] }
  | _ => none }
def clientWaitsRow : OpenClaim := { program := "ytjdenpmaianmfaadoor", sum := "151140228ffe3424f448062aef2d83678676c6e13aab8de61afcd97cbed14779", func := "chapbook/chapbooklaw17.ClientWaits", spec := "clientWaits", inPlace := ["internal/abi.NoEscape"], named := ["chapbook/prefix.bits"], apart := false, laid := [("chapbook/prefix.bits", laid_chapbook_prefix_bits)] }
def ClientWaitsSaid : Prop := clientWaitsRow.holds Tryd.pinned (OpenSpec.ofChange clientWaitsSpec)

/-- ITS FALSE NEIGHBOUR: 'it returns false'. Refute it at one input. -/
def clientWaitsWrong : ChangeSpec := { name := "clientWaits", fn := fun _ => fun
  | [d1, d2, d3] => { results := [.lit (.bool false)], args := [d1, d2, d3] }
  | _ => none }
def ClientWaitsWrongFalsely : Prop := clientWaitsRow.holds Tryd.pinned (OpenSpec.ofChange clientWaitsWrong)

/-- 'chapbooklaw21.ModelResets': WHATEVER THE INPUT: true; the input reads as it did. -/
def modelResetsSpec : ChangeSpec := { name := "modelResets", fn := fun _ => fun
  | [d1, d2, d3] => { results := [.lit (.bool true)], args := [d1, d2, d3] }
  | _ => none }
def modelResetsRow : OpenClaim := { program := "ytjdenpmaianmfaadoor", sum := "151140228ffe3424f448062aef2d83678676c6e13aab8de61afcd97cbed14779", func := "chapbook/chapbooklaw21.ModelResets", spec := "modelResets", inPlace := ["internal/abi.NoEscape"], named := ["chapbook/prefix.bits"], apart := false, laid := [("chapbook/prefix.bits", laid_chapbook_prefix_bits)] }
def ModelResetsSaid : Prop := modelResetsRow.holds Tryd.pinned (OpenSpec.ofChange modelResetsSpec)

/-- ITS FALSE NEIGHBOUR: 'it returns false'. Refute it at one input. -/
def modelResetsWrong : ChangeSpec := { name := "modelResets", fn := fun _ => fun
  | [d1, d2, d3] => { results := [.lit (.bool false)], args := [d1, d2, d3] }
  | _ => none }
def ModelResetsWrongFalsely : Prop := modelResetsRow.holds Tryd.pinned (OpenSpec.ofChange modelResetsWrong)

/-- 'chapbooklaw21.ModelOwn': WHATEVER THE INPUT: true; the input reads as it did. -/
def modelOwnSpec : ChangeSpec := { name := "modelOwn", fn := fun _ => fun
  | [d1, d2, d3] => { results := [.lit (.bool true)], args := [d1, d2, d3] }
  | _ => none }
def modelOwnRow : OpenClaim := { program := "ytjdenpmaianmfaadoor", sum := "151140228ffe3424f448062aef2d83678676c6e13aab8de61afcd97cbed14779", func := "chapbook/chapbooklaw21.ModelOwn", spec := "modelOwn", inPlace := ["internal/abi.NoEscape"], named := ["chapbook/prefix.bits"], apart := false, laid := [("chapbook/prefix.bits", laid_chapbook_prefix_bits)] }
def ModelOwnSaid : Prop := modelOwnRow.holds Tryd.pinned (OpenSpec.ofChange modelOwnSpec)

/-- ITS FALSE NEIGHBOUR: 'it returns false'. Refute it at one input. -/
def modelOwnWrong : ChangeSpec := { name := "modelOwn", fn := fun _ => fun
  | [d1, d2, d3] => { results := [.lit (.bool false)], args := [d1, d2, d3] }
  | _ => none }
def ModelOwnWrongFalsely : Prop := modelOwnRow.holds Tryd.pinned (OpenSpec.ofChange modelOwnWrong)

/-- 'chapbooklaw21.ModelPlays': WHATEVER THE INPUT: true; the input reads as it did. -/
def modelPlaysSpec : ChangeSpec := { name := "modelPlays", fn := fun _ => fun
  | [d1, d2] => { results := [.lit (.bool true)], args := [d1, d2] }
  | _ => none }
def modelPlaysRow : OpenClaim := { program := "ytjdenpmaianmfaadoor", sum := "151140228ffe3424f448062aef2d83678676c6e13aab8de61afcd97cbed14779", func := "chapbook/chapbooklaw21.ModelPlays", spec := "modelPlays", inPlace := ["internal/abi.NoEscape"], named := ["chapbook/prefix.bits"], apart := false, laid := [("chapbook/prefix.bits", laid_chapbook_prefix_bits)] }
def ModelPlaysSaid : Prop := modelPlaysRow.holds Tryd.pinned (OpenSpec.ofChange modelPlaysSpec)

/-- ITS FALSE NEIGHBOUR: 'it returns false'. Refute it at one input. -/
def modelPlaysWrong : ChangeSpec := { name := "modelPlays", fn := fun _ => fun
  | [d1, d2] => { results := [.lit (.bool false)], args := [d1, d2] }
  | _ => none }
def ModelPlaysWrongFalsely : Prop := modelPlaysRow.holds Tryd.pinned (OpenSpec.ofChange modelPlaysWrong)

/-- 'chapbooklaw21.ModelPrefix': WHATEVER THE INPUT: true; the input reads as it did. -/
def modelPrefixSpec : ChangeSpec := { name := "modelPrefix", fn := fun _ => fun
  | [d1, d2] => { results := [.lit (.bool true)], args := [d1, d2] }
  | _ => none }
def modelPrefixRow : OpenClaim := { program := "ytjdenpmaianmfaadoor", sum := "151140228ffe3424f448062aef2d83678676c6e13aab8de61afcd97cbed14779", func := "chapbook/chapbooklaw21.ModelPrefix", spec := "modelPrefix", inPlace := ["internal/abi.NoEscape"], named := ["chapbook/prefix.bits"], apart := false, laid := [("chapbook/prefix.bits", laid_chapbook_prefix_bits)] }
def ModelPrefixSaid : Prop := modelPrefixRow.holds Tryd.pinned (OpenSpec.ofChange modelPrefixSpec)

/-- ITS FALSE NEIGHBOUR: 'it returns false'. Refute it at one input. -/
def modelPrefixWrong : ChangeSpec := { name := "modelPrefix", fn := fun _ => fun
  | [d1, d2] => { results := [.lit (.bool false)], args := [d1, d2] }
  | _ => none }
def ModelPrefixWrongFalsely : Prop := modelPrefixRow.holds Tryd.pinned (OpenSpec.ofChange modelPrefixWrong)

/-- 'chapbooklaw21.ModelSteps': WHATEVER THE INPUT: true; the input reads as it did. -/
def modelStepsSpec : ChangeSpec := { name := "modelSteps", fn := fun _ => fun
  | [d1, d2, d3] => { results := [.lit (.bool true)], args := [d1, d2, d3] }
  | _ => none }
def modelStepsRow : OpenClaim := { program := "ytjdenpmaianmfaadoor", sum := "151140228ffe3424f448062aef2d83678676c6e13aab8de61afcd97cbed14779", func := "chapbook/chapbooklaw21.ModelSteps", spec := "modelSteps", inPlace := ["internal/abi.NoEscape"], named := ["chapbook/prefix.bits"], apart := false, laid := [("chapbook/prefix.bits", laid_chapbook_prefix_bits)] }
def ModelStepsSaid : Prop := modelStepsRow.holds Tryd.pinned (OpenSpec.ofChange modelStepsSpec)

/-- ITS FALSE NEIGHBOUR: 'it returns false'. Refute it at one input. -/
def modelStepsWrong : ChangeSpec := { name := "modelSteps", fn := fun _ => fun
  | [d1, d2, d3] => { results := [.lit (.bool false)], args := [d1, d2, d3] }
  | _ => none }
def ModelStepsWrongFalsely : Prop := modelStepsRow.holds Tryd.pinned (OpenSpec.ofChange modelStepsWrong)

/-- 'chapbooklaw21.ModelReads': WHATEVER THE INPUT: true; the input reads as it did. -/
def modelReadsSpec : ChangeSpec := { name := "modelReads", fn := fun _ => fun
  | [d1, d2, d3] => { results := [.lit (.bool true)], args := [d1, d2, d3] }
  | _ => none }
def modelReadsRow : OpenClaim := { program := "ytjdenpmaianmfaadoor", sum := "151140228ffe3424f448062aef2d83678676c6e13aab8de61afcd97cbed14779", func := "chapbook/chapbooklaw21.ModelReads", spec := "modelReads", inPlace := ["internal/abi.NoEscape"], named := ["chapbook/prefix.bits"], apart := false, laid := [("chapbook/prefix.bits", laid_chapbook_prefix_bits)] }
def ModelReadsSaid : Prop := modelReadsRow.holds Tryd.pinned (OpenSpec.ofChange modelReadsSpec)

/-- ITS FALSE NEIGHBOUR: 'it returns false'. Refute it at one input. -/
def modelReadsWrong : ChangeSpec := { name := "modelReads", fn := fun _ => fun
  | [d1, d2, d3] => { results := [.lit (.bool false)], args := [d1, d2, d3] }
  | _ => none }
def ModelReadsWrongFalsely : Prop := modelReadsRow.holds Tryd.pinned (OpenSpec.ofChange modelReadsWrong)

/- THE SECOND FORM. 'bulk': how many values and letters a reading holds, each counted each time it is reached (what is shared counts as often as it is met; a slice's spare places count too). A statement '..UptoSaid' is the law's where the arguments, and the package variables that the reading takes, are together of bulk at most 1048576: NARROWER than '..Said'. Prove '..Said' where nothing that the law and all that it calls make is longer than what came in: it says more and counts as full. Else prove '..UptoSaid'. A law counts once. -/
mutual
def uptoBulk {H : Type} : DataW H → Nat
  | .lit (.string bytes) => bytes.length + 1
  | .lit _ => 1
  | .nil => 1
  | .ptr d => uptoBulk d + 1
  | .slice elems spare => uptoBulkAll elems + uptoBulkAll spare + 1
  | .agg parts => uptoBulkAll parts + 1
  | .iface _ d => uptoBulk d + 1
  | .map entries => uptoBulkEntries entries + 1
  | .held _ => 1
def uptoBulkAll {H : Type} : List (DataW H) → Nat
  | [] => 0
  | d :: r => uptoBulk d + uptoBulkAll r
def uptoBulkEntries {H : Type} : List (Lit × DataW H) → Nat
  | [] => 0
  | x :: r => uptoBulkEntry x + uptoBulkEntries r
def uptoBulkEntry {H : Type} : Lit × DataW H → Nat
  | (.string bytes, d) => bytes.length + uptoBulk d + 1
  | (_, d) => uptoBulk d + 1
 end
def uptoSmall : (H : Type) → List (DataW H) → Bool := fun _ ds => decide (uptoBulkAll ds ≤ 1048576)
def OpenSpec.upto (s : _root_.Go.ChangeSpec) : _root_.Go.OpenSpec := { _root_.Go.OpenSpec.ofChange s with cond := some uptoSmall }

/-- 'chapbooklaw17.ClientPlays', WHERE WHAT IT READS IS OF BULK AT MOST 1048576: true; the input reads as it did. -/
def clientPlaysUptoRow : OpenClaim := { program := "ytjdenpmaianmfaadoor", sum := "151140228ffe3424f448062aef2d83678676c6e13aab8de61afcd97cbed14779", func := "chapbook/chapbooklaw17.ClientPlays", spec := "clientPlays", inPlace := ["internal/abi.NoEscape"], named := ["chapbook/prefix.bits"], apart := false, laid := [("chapbook/prefix.bits", laid_chapbook_prefix_bits)], narrowed := true }
def ClientPlaysUptoSaid : Prop := clientPlaysUptoRow.holds Tryd.pinned (OpenSpec.upto clientPlaysSpec)

/-- 'chapbooklaw17.ClientReads', WHERE WHAT IT READS IS OF BULK AT MOST 1048576: true; the input reads as it did. -/
def clientReadsUptoRow : OpenClaim := { program := "ytjdenpmaianmfaadoor", sum := "151140228ffe3424f448062aef2d83678676c6e13aab8de61afcd97cbed14779", func := "chapbook/chapbooklaw17.ClientReads", spec := "clientReads", inPlace := ["internal/abi.NoEscape"], named := ["chapbook/prefix.bits"], apart := false, laid := [("chapbook/prefix.bits", laid_chapbook_prefix_bits)], narrowed := true }
def ClientReadsUptoSaid : Prop := clientReadsUptoRow.holds Tryd.pinned (OpenSpec.upto clientReadsSpec)

/-- 'chapbooklaw17.ClientPushes', WHERE WHAT IT READS IS OF BULK AT MOST 1048576: true; the input reads as it did. -/
def clientPushesUptoRow : OpenClaim := { program := "ytjdenpmaianmfaadoor", sum := "151140228ffe3424f448062aef2d83678676c6e13aab8de61afcd97cbed14779", func := "chapbook/chapbooklaw17.ClientPushes", spec := "clientPushes", inPlace := ["internal/abi.NoEscape"], named := ["chapbook/prefix.bits"], apart := false, laid := [("chapbook/prefix.bits", laid_chapbook_prefix_bits)], narrowed := true }
def ClientPushesUptoSaid : Prop := clientPushesUptoRow.holds Tryd.pinned (OpenSpec.upto clientPushesSpec)

/-- 'chapbooklaw17.ClientEchoes', WHERE WHAT IT READS IS OF BULK AT MOST 1048576: true; the input reads as it did. -/
def clientEchoesUptoRow : OpenClaim := { program := "ytjdenpmaianmfaadoor", sum := "151140228ffe3424f448062aef2d83678676c6e13aab8de61afcd97cbed14779", func := "chapbook/chapbooklaw17.ClientEchoes", spec := "clientEchoes", inPlace := ["internal/abi.NoEscape"], named := ["chapbook/prefix.bits"], apart := false, laid := [("chapbook/prefix.bits", laid_chapbook_prefix_bits)], narrowed := true }
def ClientEchoesUptoSaid : Prop := clientEchoesUptoRow.holds Tryd.pinned (OpenSpec.upto clientEchoesSpec)

/-- 'chapbooklaw17.ClientResumes', WHERE WHAT IT READS IS OF BULK AT MOST 1048576: true; the input reads as it did. -/
def clientResumesUptoRow : OpenClaim := { program := "ytjdenpmaianmfaadoor", sum := "151140228ffe3424f448062aef2d83678676c6e13aab8de61afcd97cbed14779", func := "chapbook/chapbooklaw17.ClientResumes", spec := "clientResumes", inPlace := ["internal/abi.NoEscape"], named := ["chapbook/prefix.bits"], apart := false, laid := [("chapbook/prefix.bits", laid_chapbook_prefix_bits)], narrowed := true }
def ClientResumesUptoSaid : Prop := clientResumesUptoRow.holds Tryd.pinned (OpenSpec.upto clientResumesSpec)

/-- 'chapbooklaw17.ClientWaits', WHERE WHAT IT READS IS OF BULK AT MOST 1048576: true; the input reads as it did. -/
def clientWaitsUptoRow : OpenClaim := { program := "ytjdenpmaianmfaadoor", sum := "151140228ffe3424f448062aef2d83678676c6e13aab8de61afcd97cbed14779", func := "chapbook/chapbooklaw17.ClientWaits", spec := "clientWaits", inPlace := ["internal/abi.NoEscape"], named := ["chapbook/prefix.bits"], apart := false, laid := [("chapbook/prefix.bits", laid_chapbook_prefix_bits)], narrowed := true }
def ClientWaitsUptoSaid : Prop := clientWaitsUptoRow.holds Tryd.pinned (OpenSpec.upto clientWaitsSpec)

/-- 'chapbooklaw21.ModelResets', WHERE WHAT IT READS IS OF BULK AT MOST 1048576: true; the input reads as it did. -/
def modelResetsUptoRow : OpenClaim := { program := "ytjdenpmaianmfaadoor", sum := "151140228ffe3424f448062aef2d83678676c6e13aab8de61afcd97cbed14779", func := "chapbook/chapbooklaw21.ModelResets", spec := "modelResets", inPlace := ["internal/abi.NoEscape"], named := ["chapbook/prefix.bits"], apart := false, laid := [("chapbook/prefix.bits", laid_chapbook_prefix_bits)], narrowed := true }
def ModelResetsUptoSaid : Prop := modelResetsUptoRow.holds Tryd.pinned (OpenSpec.upto modelResetsSpec)

/-- 'chapbooklaw21.ModelOwn', WHERE WHAT IT READS IS OF BULK AT MOST 1048576: true; the input reads as it did. -/
def modelOwnUptoRow : OpenClaim := { program := "ytjdenpmaianmfaadoor", sum := "151140228ffe3424f448062aef2d83678676c6e13aab8de61afcd97cbed14779", func := "chapbook/chapbooklaw21.ModelOwn", spec := "modelOwn", inPlace := ["internal/abi.NoEscape"], named := ["chapbook/prefix.bits"], apart := false, laid := [("chapbook/prefix.bits", laid_chapbook_prefix_bits)], narrowed := true }
def ModelOwnUptoSaid : Prop := modelOwnUptoRow.holds Tryd.pinned (OpenSpec.upto modelOwnSpec)

/-- 'chapbooklaw21.ModelPlays', WHERE WHAT IT READS IS OF BULK AT MOST 1048576: true; the input reads as it did. -/
def modelPlaysUptoRow : OpenClaim := { program := "ytjdenpmaianmfaadoor", sum := "151140228ffe3424f448062aef2d83678676c6e13aab8de61afcd97cbed14779", func := "chapbook/chapbooklaw21.ModelPlays", spec := "modelPlays", inPlace := ["internal/abi.NoEscape"], named := ["chapbook/prefix.bits"], apart := false, laid := [("chapbook/prefix.bits", laid_chapbook_prefix_bits)], narrowed := true }
def ModelPlaysUptoSaid : Prop := modelPlaysUptoRow.holds Tryd.pinned (OpenSpec.upto modelPlaysSpec)

/-- 'chapbooklaw21.ModelPrefix', WHERE WHAT IT READS IS OF BULK AT MOST 1048576: true; the input reads as it did. -/
def modelPrefixUptoRow : OpenClaim := { program := "ytjdenpmaianmfaadoor", sum := "151140228ffe3424f448062aef2d83678676c6e13aab8de61afcd97cbed14779", func := "chapbook/chapbooklaw21.ModelPrefix", spec := "modelPrefix", inPlace := ["internal/abi.NoEscape"], named := ["chapbook/prefix.bits"], apart := false, laid := [("chapbook/prefix.bits", laid_chapbook_prefix_bits)], narrowed := true }
def ModelPrefixUptoSaid : Prop := modelPrefixUptoRow.holds Tryd.pinned (OpenSpec.upto modelPrefixSpec)

/-- 'chapbooklaw21.ModelSteps', WHERE WHAT IT READS IS OF BULK AT MOST 1048576: true; the input reads as it did. -/
def modelStepsUptoRow : OpenClaim := { program := "ytjdenpmaianmfaadoor", sum := "151140228ffe3424f448062aef2d83678676c6e13aab8de61afcd97cbed14779", func := "chapbook/chapbooklaw21.ModelSteps", spec := "modelSteps", inPlace := ["internal/abi.NoEscape"], named := ["chapbook/prefix.bits"], apart := false, laid := [("chapbook/prefix.bits", laid_chapbook_prefix_bits)], narrowed := true }
def ModelStepsUptoSaid : Prop := modelStepsUptoRow.holds Tryd.pinned (OpenSpec.upto modelStepsSpec)

/-- 'chapbooklaw21.ModelReads', WHERE WHAT IT READS IS OF BULK AT MOST 1048576: true; the input reads as it did. -/
def modelReadsUptoRow : OpenClaim := { program := "ytjdenpmaianmfaadoor", sum := "151140228ffe3424f448062aef2d83678676c6e13aab8de61afcd97cbed14779", func := "chapbook/chapbooklaw21.ModelReads", spec := "modelReads", inPlace := ["internal/abi.NoEscape"], named := ["chapbook/prefix.bits"], apart := false, laid := [("chapbook/prefix.bits", laid_chapbook_prefix_bits)], narrowed := true }
def ModelReadsUptoSaid : Prop := modelReadsUptoRow.holds Tryd.pinned (OpenSpec.upto modelReadsSpec)

end Rows
end Go.Proofs.YtjdenpmaianmfaaDoor
