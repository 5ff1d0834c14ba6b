/- Contracts of the seat's functions, as my driver over the kit's print has written them: if the Lean function comes to a value, the Go function returns it. -/
import Derived.Test.YtlmpfjmacjicgaaDoorQ0
import Derived.Test.YtlmpfjmacjicgaaDoorQ1
import Derived.Test.YtlmpfjmacjicgaaDoorQ2
import Derived.Test.YtlmpfjmacjicgaaDoorQ3
import Derived.Test.YtlmpfjmacjicgaaDoorQ4
import Derived.Test.YtlmpfjmacjicgaaDoorQ5
import Derived.Test.YtlmpfjmacjicgaaDoorQ6
namespace Go.Proofs.YtlmpfjmacjicgaaDoor.Q
open Go.RowKit Go.Proofs.YtlmpfjmacjicgaaDoorW.PrintWords Go.Proofs.YtlmpfjmacjicgaaDoorW.PrintLast Go.Proofs.YtlmpfjmacjicgaaDoorW.PrintMore
attribute [local go_sem] max2_int min2_int max_two min_two max_three min_three max_four min_four   -- for this text's walks alone
set_option linter.unusedVariables false
set_option linter.unusedSimpArgs false

end Go.Proofs.YtlmpfjmacjicgaaDoor.Q
