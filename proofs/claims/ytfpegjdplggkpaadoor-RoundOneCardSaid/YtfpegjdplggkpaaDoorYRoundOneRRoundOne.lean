/- The plain law RoundOne. -/
import Derived.Test.YtfpegjdplggkpaaDoorYRoundOneR7B
import Derived.Test.YtfpegjdplggkpaaDoorYRoundOneQ17
namespace Go.Proofs.YtfpegjdplggkpaaDoor.Pure
set_option linter.unusedSimpArgs false
set_option linter.unusedVariables false
open Go Go.RowKit Go.Proofs.YtfpegjdplggkpaaDoorW.PrintWords Go.Proofs.YtfpegjdplggkpaaDoorW.PrintLast Go.Proofs.YtfpegjdplggkpaaDoorW.PrintMore Go.Proofs.YtfpegjdplggkpaaDoor.Q
theorem RoundOne (x0 : ByteArray) (g0 : x0.size ≤ 140737488351232) : ∃ k, chapbooklaw07_RoundOne.f k x0 = some true := by
  refine ⟨300, ?_⟩
  unfold chapbooklaw07_RoundOne.f
  rw [awake300, Option.bind_some, if_pos rfl]
  simp only [chapbooklaw07_RoundOne.j0]
  by_cases h : (x0.size : Int) > 800
  · rw [if_pos (decide_eq_true h), awake299]; rfl
  · rw [if_neg (by simpa using h), pgetR 259 x0 g0, Option.bind_some]
    by_cases he : (getR x0).2.2.2 = 0
    · obtain ⟨h1, h2⟩ := getR_inv he
      rw [if_pos he, pputR, Option.bind_some]
      unfold putR
      rw [if_pos h1, h2]
      simp
    · rw [if_neg he, getR_no he]
      simp only [noR]
      rw [psame 299 _ _ _ (by simp) (by simp), Option.bind_some]
end Go.Proofs.YtfpegjdplggkpaaDoor.Pure
