/- The plain part of the law UpdateParts: its contract says true at once. -/
import Derived.Test.YtfbdfnclkchofaaDoorYUpdatePartsHParts
namespace Go.Proofs.YtfbdfnclkchofaaDoor.Pure
set_option linter.unusedVariables false
open Go Go.RowKit Go.Proofs.YtfbdfnclkchofaaDoorW.PrintWords Go.Proofs.YtfbdfnclkchofaaDoor.Q Go.Proofs.YtfbdfnclkchofaaDoor.J
theorem UpdateParts (x0 : List (S58)) (g0 : (x0.length * 48 ≤ 140737488351232 ∧ x0.length ≤ maxLen ∧ ∀ z ∈ x0, G58 z)) (x1 : ByteArray) (g1 : x1.size ≤ 140737488351232) : ∃ k, chapbooklaw06_UpdateParts.f k x0 x1 = some true := by
  refine ⟨0, ?_⟩
  unfold chapbooklaw06_UpdateParts.f
  rw [if_pos ⟨g0.2.2, by omega, g1⟩]
end Go.Proofs.YtfbdfnclkchofaaDoor.Pure
