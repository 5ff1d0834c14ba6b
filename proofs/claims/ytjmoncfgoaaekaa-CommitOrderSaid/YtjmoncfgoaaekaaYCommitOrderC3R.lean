/- What the given program's Log tells, once more: its rounds' rows are one's own, and may be written. -/
import Derived.Test.YtjmoncfgoaaekaaYCommitOrderC6
import Derived.Test.YtjmoncfgoaaekaaYCommitOrderEv
import Derived.Test.YtjmoncfgoaaekaaYCommitOrderQ0
namespace Go.Proofs.Ytjmoncfgoaaekaa.J
set_option linter.unusedSimpArgs false
set_option linter.unusedVariables false
open Go Go.RowKit Go.Proofs.YtjmoncfgoaaekaaW.PrintWords Go.Proofs.YtjmoncfgoaaekaaW.PrintLast Go.Proofs.YtjmoncfgoaaekaaW.PrintMore Go.Proofs.Ytjmoncfgoaaekaa.Q Go.Proofs.Ytjmoncfgoaaekaa.Sep Go.Proofs.Ytjmoncfgoaaekaa.Pure
attribute [local go_sem] max2_int min2_int max_two min_two max_three min_three max_four min_four
end Go.Proofs.Ytjmoncfgoaaekaa.J
