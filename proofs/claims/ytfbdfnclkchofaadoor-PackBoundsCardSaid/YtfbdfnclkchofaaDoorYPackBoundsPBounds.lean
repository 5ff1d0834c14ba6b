/- The plain part of the law PackBounds: its contract says true at once. -/
import Derived.Test.YtfbdfnclkchofaaDoorYPackBoundsHBounds
namespace Go.Proofs.YtfbdfnclkchofaaDoor.Pure
set_option linter.unusedVariables false
open Go Go.RowKit Go.Proofs.YtfbdfnclkchofaaDoorW.PrintWords Go.Proofs.YtfbdfnclkchofaaDoor.Q Go.Proofs.YtfbdfnclkchofaaDoor.J
theorem PackBounds (x0 : Int) (g0 : (Lit.int .i64 x0).wf = true) (x1 : Int) (g1 : (Lit.int .i64 x1).wf = true) (x2 : ByteArray) (g2 : x2.size ≤ 140737488351232) : ∃ k, chapbooklaw03_PackBounds.f k x0 x1 x2 = some true := by
  refine ⟨0, ?_⟩
  unfold chapbooklaw03_PackBounds.f
  rw [if_pos ⟨g0, g2⟩]
end Go.Proofs.YtfbdfnclkchofaaDoor.Pure
