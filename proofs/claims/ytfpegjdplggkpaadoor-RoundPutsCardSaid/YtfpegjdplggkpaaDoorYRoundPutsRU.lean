/- What reading an update comes to, for the program and for the reference: one plain function of the bytes, the place and the error. -/
import Derived.Test.YtfpegjdplggkpaaDoorYRoundPutsUA
import Derived.Test.YtfpegjdplggkpaaDoorYRoundPutsPre1
import Derived.Test.YtfpegjdplggkpaaDoorYRoundPutsPre2
import Derived.Test.YtfpegjdplggkpaaDoorYRoundPutsQ5
import Derived.Test.YtfpegjdplggkpaaDoorYRoundPutsQ15
import Derived.Test.YtfpegjdplggkpaaDoorYRoundPutsQ6
import Derived.Test.YtfpegjdplggkpaaDoorYRoundPutsQ16
namespace Go.Proofs.YtfpegjdplggkpaaDoor.Pure
set_option linter.unusedSimpArgs false
open Go Go.RowKit Go.Proofs.YtfpegjdplggkpaaDoorW.PrintWords Go.Proofs.YtfpegjdplggkpaaDoorW.PrintLast Go.Proofs.YtfpegjdplggkpaaDoorW.PrintMore Go.Proofs.YtfpegjdplggkpaaDoor.Q
theorem nil_list : (nil' : ByteArray).toList = [] := by rw [ByteArray.toList_eq]
end Go.Proofs.YtfpegjdplggkpaaDoor.Pure
