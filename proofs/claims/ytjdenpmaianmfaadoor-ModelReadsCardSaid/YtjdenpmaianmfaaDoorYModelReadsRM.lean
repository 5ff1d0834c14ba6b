/- Lists of rounds are the same as themselves; the texts on rounds in one. -/
import Derived.Test.YtjdenpmaianmfaaDoorYModelReadsRM0
import Derived.Test.YtjdenpmaianmfaaDoorYModelReadsQ6
import Derived.Test.YtjdenpmaianmfaaDoorYModelReadsQ7
namespace Go.Proofs.YtjdenpmaianmfaaDoor.Pure
set_option linter.unusedSimpArgs false
set_option linter.unusedVariables false
open Go Go.RowKit Go.Proofs.YtjdenpmaianmfaaDoorW.PrintWords Go.Proofs.YtjdenpmaianmfaaDoorW.PrintLast Go.Proofs.YtjdenpmaianmfaaDoorW.PrintMore Go.Proofs.YtjdenpmaianmfaaDoor.Q
abbrev Rnd := S35
end Go.Proofs.YtjdenpmaianmfaaDoor.Pure
