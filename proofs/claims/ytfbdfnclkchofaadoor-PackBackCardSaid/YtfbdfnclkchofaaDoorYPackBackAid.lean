/- Small plain lemmas that this seat's walks want: orders of texts, empty texts. -/
import Derived.Test.YtfbdfnclkchofaaDoorYPackBackQ0
import Derived.WalkLawsBesides
namespace Go.Proofs.YtfbdfnclkchofaaDoor.Q
open Go Go.RowKit
theorem isEmpty_bne (l : List UInt8) : l.isEmpty = !(l != []) := by cases l <;> rfl
end Go.Proofs.YtfbdfnclkchofaaDoor.Q
