/- What the reference's Get of an update answers: what Read reads, if nothing is left behind it. -/
import Derived.Test.YtfbdfnclkchofaaDoorYUpdatePartsQ11
import Derived.Test.YtfbdfnclkchofaaDoorYUpdatePartsQ5
import Derived.WalkKit
namespace Go.Proofs.YtfbdfnclkchofaaDoor.Q
set_option linter.unusedSimpArgs false
set_option linter.unusedVariables false
open Go Go.RowKit Go.Proofs.YtfbdfnclkchofaaDoorW.PrintWords Go.Proofs.YtfbdfnclkchofaaDoorW.PrintLast Go.Proofs.YtfbdfnclkchofaaDoorW.PrintMore
attribute [local go_sem] max2_int min2_int max_two min_two max_three min_three max_four min_four
abbrev upd (k : ByteArray) (c n : Int) (s : ByteArray) : Obj := .cells #[.string k, .int .i64 c, .int .i64 n, .string s] 58 (0, 0)
end Go.Proofs.YtfbdfnclkchofaaDoor.Q
