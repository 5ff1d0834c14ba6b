/- Bytes that stand at a place of other bytes; what a Reader reads of them; what stands there if it reads without an error; what it tells at a beginning of them that is cut off. -/
import Derived.Test.YtfbdfnclkchofaaDoorYPackWritesRd
import Derived.Test.YtfbdfnclkchofaaDoorYPackWritesWr3
namespace Go.Proofs.YtfbdfnclkchofaaDoor.Pure
set_option linter.unusedSimpArgs false
set_option linter.unusedVariables false
open Go Go.RowKit Go.Proofs.YtfbdfnclkchofaaDoorW.PrintWords Go.Proofs.YtfbdfnclkchofaaDoorW.PrintLast Go.Proofs.YtfbdfnclkchofaaDoorW.PrintMore Go.Proofs.YtfbdfnclkchofaaDoor.Q
abbrev enc (n : Int) : ByteArray := strOfNums (encL n)
theorem txtP_sz (s : ByteArray) : (Wr.txtP s).size = (enc s.size).size + s.size := by unfold Wr.txtP; rw [ByteArray.size_append]
end Go.Proofs.YtfbdfnclkchofaaDoor.Pure
