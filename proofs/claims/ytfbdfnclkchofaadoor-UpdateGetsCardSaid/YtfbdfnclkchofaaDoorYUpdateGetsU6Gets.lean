/- The plain law UpdateGets. -/
import Derived.Test.YtfbdfnclkchofaaDoorYUpdateGetsU6
import Derived.Test.YtfbdfnclkchofaaDoorYUpdateGetsQ12
namespace Go.Proofs.YtfbdfnclkchofaaDoor.Pure
set_option linter.unusedSimpArgs false
open Go Go.RowKit Go.Proofs.YtfbdfnclkchofaaDoorW.PrintWords Go.Proofs.YtfbdfnclkchofaaDoorW.PrintLast Go.Proofs.YtfbdfnclkchofaaDoorW.PrintMore Go.Proofs.YtfbdfnclkchofaaDoor.Q
theorem UpdateGets (x0 : ByteArray) (g0 : x0.size ≤ 140737488351232) : ∃ k, chapbooklaw06_UpdateGets.f k x0 = some true := by
  refine ⟨60, ?_⟩
  unfold chapbooklaw06_UpdateGets.f
  rw [awake60, Option.bind_some, if_pos rfl]
  simp only [chapbooklaw06_UpdateGets.j0]
  by_cases h : (x0.size : Int) > 300
  · rw [if_pos (decide_eq_true h), awake59]; rfl
  · rw [if_neg (by simpa using h), pgot 41 x0 g0, Option.bind_some, rgot 34 x0 g0, Option.bind_some]
    simp
end Go.Proofs.YtfbdfnclkchofaaDoor.Pure
