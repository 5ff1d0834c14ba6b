/- Contracts of the seat's functions, printed: if the Lean function comes to a value, the Go function returns it. -/
import Derived.Test.YtjmoncfgoaaekaaYCommitOrderAid
import Derived.Test.YtjmoncfgoaaekaaYCommitOrderQ1
import Derived.Test.YtjmoncfgoaaekaaYCommitOrderQ4
namespace Go.Proofs.Ytjmoncfgoaaekaa.Q
open Go.RowKit Go.Proofs.YtjmoncfgoaaekaaW.PrintWords Go.Proofs.YtjmoncfgoaaekaaW.PrintLast Go.Proofs.YtjmoncfgoaaekaaW.PrintMore
attribute [local go_sem] max2_int min2_int max_two min_two max_three min_three max_four min_four   -- for this text's walks alone
set_option linter.unusedVariables false
set_option linter.unusedSimpArgs false
attribute [local go_sem high] eqA47
end Go.Proofs.Ytjmoncfgoaaekaa.Q
