/- The answers that the document fixes for layer 3: awake returns true. Under the condition that the table 'bits' of package prefix is laid. -/
import Derived.Test.YtfbdfnclkchofaaDoorYUpdatePartsWr3
import Derived.Test.YtfbdfnclkchofaaDoorYUpdatePartsQ3
namespace Go.Proofs.YtfbdfnclkchofaaDoor.Q
set_option linter.unusedSimpArgs false
set_option linter.unusedVariables false
open Go Go.RowKit Go.Proofs.YtfbdfnclkchofaaDoorW.PrintWords Go.Proofs.YtfbdfnclkchofaaDoorW.PrintLast Go.Proofs.YtfbdfnclkchofaaDoorW.PrintMore Go.Proofs.YtfbdfnclkchofaaDoor.Wr
attribute [local go_sem] max2_int min2_int max_two min_two max_three min_three max_four min_four
end Go.Proofs.YtfbdfnclkchofaaDoor.Q
