/- What the reference's Get of an update answers: what Read reads, if nothing is left behind it. -/
import Derived.Test.YtfbdfnclkchofaaDoorYUpdateFrontQ11
import Derived.Test.YtfbdfnclkchofaaDoorYUpdateFrontQ5
import Derived.WalkKit
namespace Go.Proofs.YtfbdfnclkchofaaDoor.Q
set_option linter.unusedSimpArgs false
set_option linter.unusedVariables false
open Go Go.RowKit Go.Proofs.YtfbdfnclkchofaaDoorW.PrintWords Go.Proofs.YtfbdfnclkchofaaDoorW.PrintLast Go.Proofs.YtfbdfnclkchofaaDoorW.PrintMore
attribute [local go_sem] max2_int min2_int max_two min_two max_three min_three max_four min_four
end Go.Proofs.YtfbdfnclkchofaaDoor.Q
