/- The plain law UpdateFront. -/
import Derived.Test.YtfbdfnclkchofaaDoorYUpdateFrontU6C
import Derived.Test.YtfbdfnclkchofaaDoorYUpdateFrontQ13
namespace Go.Proofs.YtfbdfnclkchofaaDoor.Pure
set_option linter.unusedSimpArgs false
set_option linter.unusedVariables false
open Go Go.RowKit Go.Proofs.YtfbdfnclkchofaaDoorW.PrintWords Go.Proofs.YtfbdfnclkchofaaDoorW.PrintLast Go.Proofs.YtfbdfnclkchofaaDoorW.PrintMore Go.Proofs.YtfbdfnclkchofaaDoor.Q
theorem UpdateFront (x0 : S58) (g0 : G58 x0) (x1 : Int) (g1 : (Lit.int .i64 x1).wf = true) : ∃ k, chapbooklaw06_UpdateFront.f k x0.f0 x0.f1 x0.f2 x0.f3 x1 = some true := by
  obtain ⟨g, hg, hb⟩ := great_ok x0.f0 x0.f1 x0.f2 x0.f3
  refine ⟨60, ?_⟩
  unfold chapbooklaw06_UpdateFront.f
  rw [awake60, Option.bind_some, if_pos rfl, hg, Option.bind_some]
  simp only [chapbooklaw06_UpdateFront.j0]
  by_cases h : g = true
  · rw [if_pos h, awake59]; rfl
  · have := hb (by simpa using h)
    rw [if_neg h, pput _ _ _ _ (by omega) g0.2.1 g0.2.2.1, Option.bind_some]
    unfold putU
    by_cases hm : may x0.f0 x0.f1 x0.f2 x0.f3 = 0
    · rw [if_pos hm]
      simp only
      have hz := bytesU_size hm
      rw [if_pos trivial]
      by_cases c0 : x1 < 0
      · rw [if_pos c0]
      rw [if_neg c0]
      by_cases c1 : x1 ≥ ((bytesU x0.f0 x0.f1 x0.f2 x0.f3).size : Int)
      · rw [if_pos c1]
      rw [if_neg c1, if_pos (by omega), if_pos (by omega)]
      have hc := gotU_cut hm (cut := x1.toNat) (by omega)
      rw [pgot 41 _ (by rw [ByteArray.size_extract]; omega), Option.bind_some, hc]
      simp [nil_list]
    · rw [if_neg hm]
      simp only
      rw [if_neg hm]
end Go.Proofs.YtfbdfnclkchofaaDoor.Pure
