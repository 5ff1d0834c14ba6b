/- chapbookref04.Apply: what it makes of a value. -/
import Derived.Test.YtjdenpmaianmfaaDoorYModelStepsSz
import Derived.Test.YtjdenpmaianmfaaDoorYModelStepsSq
import Derived.Test.YtjdenpmaianmfaaDoorYModelStepsVA0
import Derived.Test.YtjdenpmaianmfaaDoorYModelStepsEv
import Derived.Test.YtjdenpmaianmfaaDoorProg
namespace Go.Proofs.YtjdenpmaianmfaaDoor.Q
set_option maxHeartbeats 16000000
set_option maxRecDepth 100000
set_option linter.unusedSimpArgs false
set_option linter.unusedVariables false
open Go Go.RowKit Go.Proofs.YtjdenpmaianmfaaDoorW.PrintWords Go.Proofs.YtjdenpmaianmfaaDoorW.PrintLast Go.Proofs.YtjdenpmaianmfaaDoorW.PrintMore Go.Proofs.YtjdenpmaianmfaaDoor.Sep Go.Proofs.YtjdenpmaianmfaaDoor.J
theorem field_V (a b : Int) (c : ByteArray) (W : World) : (Instr.field 49 (.agg #[.int .i64 a, .int .i64 b, .string c]) 0).run Tryd.prog W = .ok (.int .i64 a) W := by kernel_rfl
end Go.Proofs.YtjdenpmaianmfaaDoor.Q
