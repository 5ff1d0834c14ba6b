/- Lists of rounds are the same as themselves; the texts on rounds in one. -/
import Derived.Test.YtjmoncfgoaaekaaDoorYFeedAgainRM0
import Derived.Test.YtjmoncfgoaaekaaDoorYFeedAgainQ7
import Derived.Test.YtjmoncfgoaaekaaDoorYFeedAgainQ8
namespace Go.Proofs.YtjmoncfgoaaekaaDoor.Pure
set_option linter.unusedSimpArgs false
set_option linter.unusedVariables false
open Go Go.RowKit Go.Proofs.YtjmoncfgoaaekaaDoorW.PrintWords Go.Proofs.YtjmoncfgoaaekaaDoorW.PrintLast Go.Proofs.YtjmoncfgoaaekaaDoorW.PrintMore Go.Proofs.YtjmoncfgoaaekaaDoor.Q
abbrev Rnd := S43
end Go.Proofs.YtjmoncfgoaaekaaDoor.Pure
