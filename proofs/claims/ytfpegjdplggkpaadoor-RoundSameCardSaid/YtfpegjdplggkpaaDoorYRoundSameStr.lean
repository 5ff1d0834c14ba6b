/- Bytes that stand at a place of other bytes; what a Reader reads of them; what stands there if it reads without an error; what it tells at a beginning of them that is cut off. -/
import Derived.Test.YtfpegjdplggkpaaDoorYRoundSameUA
import Derived.Test.YtfpegjdplggkpaaDoorYRoundSamePre1
import Derived.Test.YtfpegjdplggkpaaDoorYRoundSamePre0
import Derived.Test.YtfpegjdplggkpaaDoorYRoundSameQ12
import Derived.Test.YtfpegjdplggkpaaDoorYRoundSameQ14
import Derived.Test.YtfpegjdplggkpaaDoorYRoundSameQ13
import Derived.Test.YtfpegjdplggkpaaDoorYRoundSameQ15
import Derived.Test.YtfpegjdplggkpaaDoorYRoundSameQ5
import Derived.Test.YtfpegjdplggkpaaDoorYRoundSameWr3
namespace Go.Proofs.YtfpegjdplggkpaaDoor.Pure
set_option linter.unusedSimpArgs false
set_option linter.unusedVariables false
open Go Go.RowKit Go.Proofs.YtfpegjdplggkpaaDoorW.PrintWords Go.Proofs.YtfpegjdplggkpaaDoorW.PrintLast Go.Proofs.YtfpegjdplggkpaaDoorW.PrintMore Go.Proofs.YtfpegjdplggkpaaDoor.Q
abbrev enc (n : Int) : ByteArray := strOfNums (encL n)
end Go.Proofs.YtfpegjdplggkpaaDoor.Pure
