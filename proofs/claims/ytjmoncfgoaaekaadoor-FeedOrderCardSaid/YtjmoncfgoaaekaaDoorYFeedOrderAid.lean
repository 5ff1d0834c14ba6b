/- Small plain lemmas that this seat's walks want: orders of texts, empty texts. -/
import Derived.Test.YtjmoncfgoaaekaaDoorYFeedOrderQ0
import Derived.WalkLawsBesides
namespace Go.Proofs.YtjmoncfgoaaekaaDoor.Q
open Go Go.RowKit
theorem isEmpty_bne (l : List UInt8) : l.isEmpty = !(l != []) := by cases l <;> rfl
theorem beq_nil (l : List UInt8) : (l == []) = l.isEmpty := by cases l <;> rfl
end Go.Proofs.YtjmoncfgoaaekaaDoor.Q
