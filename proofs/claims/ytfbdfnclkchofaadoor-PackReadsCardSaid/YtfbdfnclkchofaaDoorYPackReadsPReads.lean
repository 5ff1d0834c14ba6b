/- The plain part of the law PackReads: its contract says true at once. -/
import Derived.Test.YtfbdfnclkchofaaDoorYPackReadsHReads
namespace Go.Proofs.YtfbdfnclkchofaaDoor.Pure
set_option linter.unusedVariables false
open Go Go.RowKit Go.Proofs.YtfbdfnclkchofaaDoorW.PrintWords Go.Proofs.YtfbdfnclkchofaaDoor.Q Go.Proofs.YtfbdfnclkchofaaDoor.J
theorem PackReads (x0 : ByteArray) (g0 : x0.size ≤ 140737488351232) (x1 : List Fld) (g1 : (x1.length * 32 ≤ 140737488351232 ∧ x1.length ≤ maxLen ∧ ∀ z ∈ x1, G46 z)) : ∃ k, chapbooklaw03_PackReads.f k x0 x1 = some true := by
  refine ⟨0, ?_⟩
  unfold chapbooklaw03_PackReads.f
  rw [if_pos ⟨g0, by omega⟩]
end Go.Proofs.YtfbdfnclkchofaaDoor.Pure
