/- Contracts of the seat's functions, as my driver over the kit's print has written them: if the Lean function comes to a value, the Go function returns it. -/
import Derived.Test.YtlmpfjmacjicgaaDoorProg
import Derived.Below
import Derived.Deep.Draws
import Derived.Deep.AppendLies
import Derived.Maps.AppendAt
import Derived.OwnWalk
import Derived.Laws.BytesArg
import Derived.Laws.MakeOwn
import Derived.Laws.OwnMore
import Derived.Deep.OwnRows
import Derived.Tactics
import Derived.Lib.ConvBytes
import Derived.Laws.Slices
import Derived.WalkKit
import Derived.KernelRfl
import Derived.RowKit3
import Derived.Deep.LoopGhost
import Derived.Deep.QuietTactic
import Derived.BigQuiet
import Derived.WideLaws
import Derived.Deep.DeepCutAuto
import Derived.Deep.CutBlock
import Derived.Deep.RegionHeld3
import Derived.Laws.Rows
import Derived.Lib.AppendStr
import Derived.ArgAppend
import Derived.Laws.IdiomCopy
import Derived.OrdersHeld
import Derived.Laws.BitsLemmas
import Derived.RowKit
import Derived.Test.YtlmpfjmacjicgaaDoorWWords
import Derived.Test.YtlmpfjmacjicgaaDoorWLast
import Derived.Test.YtlmpfjmacjicgaaDoorWTab
import Derived.Test.YtlmpfjmacjicgaaDoorWFour
import Derived.Test.YtlmpfjmacjicgaaDoorWQPut
import Derived.Test.YtlmpfjmacjicgaaDoorWApart
import Derived.Test.YtlmpfjmacjicgaaDoorWArr
import Derived.Test.YtlmpfjmacjicgaaDoorWZeros
import Derived.Test.YtlmpfjmacjicgaaDoorWFoot
import Derived.Test.YtlmpfjmacjicgaaDoorWKept
import Derived.Test.YtlmpfjmacjicgaaDoorWShare
import Derived.Test.YtlmpfjmacjicgaaDoorWN
import Derived.Test.YtlmpfjmacjicgaaDoorWFootNe
import Derived.Test.YtlmpfjmacjicgaaDoorWAt
import Derived.Test.YtlmpfjmacjicgaaDoorWEqStruct
import Derived.Test.YtlmpfjmacjicgaaDoorWRepsOne
import Derived.Test.YtlmpfjmacjicgaaDoorWInv
import Derived.Test.YtlmpfjmacjicgaaDoorWInvWords
import Derived.Test.YtlmpfjmacjicgaaDoorWGuard
import Derived.Test.YtlmpfjmacjicgaaDoorWNEv
import Derived.Test.YtlmpfjmacjicgaaDoorWMore
namespace Go.Proofs.YtlmpfjmacjicgaaDoor.Q
open Go.RowKit Go.Proofs.YtlmpfjmacjicgaaDoorW.PrintWords Go.Proofs.YtlmpfjmacjicgaaDoorW.PrintLast Go.Proofs.YtlmpfjmacjicgaaDoorW.PrintMore
attribute [local go_sem] max2_int min2_int max_two min_two max_three min_three max_four min_four   -- for this text's walks alone
set_option linter.unusedVariables false
set_option linter.unusedSimpArgs false



def errW : Option Int → Value
  | none => .nilIface
  | some c => .iface 0 (.int .i64 c)
theorem errW_none : errW none = .nilIface := rfl
theorem errW_some (c : Int) : errW (some c) = .iface 0 (.int .i64 c) := rfl

theorem info5 : (Tryd.prog.info? 5).map (fun i => (i.zero, i.size, i.bytes)) = some (some (.int .u8 0), 1, 1) := by kernel_rfl
theorem info22 : (Tryd.prog.info? 22).map (fun i => (i.zero, i.size, i.bytes)) = some (some (.int .u64 0), 1, 8) := by kernel_rfl
-- the values' own types

end Go.Proofs.YtlmpfjmacjicgaaDoor.Q
