/- The plain part of the law PackBack: its contract says true at once. -/
import Derived.Test.YtfbdfnclkchofaaDoorYPackBackHBack
namespace Go.Proofs.YtfbdfnclkchofaaDoor.Pure
set_option linter.unusedVariables false
open Go Go.RowKit Go.Proofs.YtfbdfnclkchofaaDoorW.PrintWords Go.Proofs.YtfbdfnclkchofaaDoor.Q Go.Proofs.YtfbdfnclkchofaaDoor.J
theorem PackBack (x0 : List Fld) (g0 : (x0.length * 32 ≤ 140737488351232 ∧ x0.length ≤ maxLen ∧ ∀ z ∈ x0, G46 z)) : ∃ k, chapbooklaw03_PackBack.f k x0 = some true := by
  refine ⟨0, ?_⟩
  unfold chapbooklaw03_PackBack.f
  rw [if_pos ⟨g0.2.2, by omega⟩]
end Go.Proofs.YtfbdfnclkchofaaDoor.Pure
