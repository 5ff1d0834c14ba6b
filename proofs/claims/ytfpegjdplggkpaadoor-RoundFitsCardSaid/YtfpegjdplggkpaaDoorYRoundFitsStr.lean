/- Bytes that stand at a place of other bytes; what a Reader reads of them; what stands there if it reads without an error; what it tells at a beginning of them that is cut off. -/
import Derived.Test.YtfpegjdplggkpaaDoorYRoundFitsUA
import Derived.Test.YtfpegjdplggkpaaDoorYRoundFitsPre1
import Derived.Test.YtfpegjdplggkpaaDoorYRoundFitsPre2
import Derived.Test.YtfpegjdplggkpaaDoorYRoundFitsQ5
import Derived.Test.YtfpegjdplggkpaaDoorYRoundFitsQ15
import Derived.Test.YtfpegjdplggkpaaDoorYRoundFitsWr3
namespace Go.Proofs.YtfpegjdplggkpaaDoor.Pure
set_option linter.unusedSimpArgs false
set_option linter.unusedVariables false
open Go Go.RowKit Go.Proofs.YtfpegjdplggkpaaDoorW.PrintWords Go.Proofs.YtfpegjdplggkpaaDoorW.PrintLast Go.Proofs.YtfpegjdplggkpaaDoorW.PrintMore Go.Proofs.YtfpegjdplggkpaaDoor.Q
abbrev enc (n : Int) : ByteArray := strOfNums (encL n)
theorem enc_sz (n : Int) : ((enc n).size : Int) = szL n := by rw [strOfNums_size, encL_len]
end Go.Proofs.YtfpegjdplggkpaaDoor.Pure
