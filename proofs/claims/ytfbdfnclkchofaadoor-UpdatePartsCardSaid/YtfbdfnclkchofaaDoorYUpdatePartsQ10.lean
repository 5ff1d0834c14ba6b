/- Contracts of the seat's functions, as my driver over the kit's print has written them: if the Lean function comes to a value, the Go function returns it. -/
import Derived.Test.YtfbdfnclkchofaaDoorYUpdatePartsUPut
import Derived.Test.YtfbdfnclkchofaaDoorYUpdatePartsSpell
import Derived.Test.YtfbdfnclkchofaaDoorYUpdatePartsQ7
import Derived.Test.YtfbdfnclkchofaaDoorYUpdatePartsQ8
import Derived.Test.YtfbdfnclkchofaaDoorYUpdatePartsQ9
namespace Go.Proofs.YtfbdfnclkchofaaDoor.Q
open Go.RowKit Go.Proofs.YtfbdfnclkchofaaDoorW.PrintWords Go.Proofs.YtfbdfnclkchofaaDoorW.PrintLast Go.Proofs.YtfbdfnclkchofaaDoorW.PrintMore
attribute [local go_sem] max2_int min2_int max_two min_two max_three min_three max_four min_four   -- for this text's walks alone
set_option linter.unusedVariables false
set_option linter.unusedSimpArgs false
end Go.Proofs.YtfbdfnclkchofaaDoor.Q
