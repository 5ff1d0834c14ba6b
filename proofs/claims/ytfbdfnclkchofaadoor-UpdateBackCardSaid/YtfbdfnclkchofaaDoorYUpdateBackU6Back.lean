/- The plain law UpdateBack. -/
import Derived.Test.YtfbdfnclkchofaaDoorYUpdateBackU6C
import Derived.Test.YtfbdfnclkchofaaDoorYUpdateBackQ12
namespace Go.Proofs.YtfbdfnclkchofaaDoor.Pure
set_option linter.unusedSimpArgs false
open Go Go.RowKit Go.Proofs.YtfbdfnclkchofaaDoorW.PrintWords Go.Proofs.YtfbdfnclkchofaaDoorW.PrintLast Go.Proofs.YtfbdfnclkchofaaDoorW.PrintMore Go.Proofs.YtfbdfnclkchofaaDoor.Q
theorem UpdateBack (x0 : S58) (g0 : G58 x0) : ∃ k, chapbooklaw06_UpdateBack.f k x0.f0 x0.f1 x0.f2 x0.f3 = some true := by
  obtain ⟨g, hg, hb⟩ := great_ok x0.f0 x0.f1 x0.f2 x0.f3
  refine ⟨60, ?_⟩
  unfold chapbooklaw06_UpdateBack.f
  rw [awake60, Option.bind_some, if_pos rfl, hg, Option.bind_some]
  simp only [chapbooklaw06_UpdateBack.j0]
  by_cases h : g = true
  · rw [if_pos h, awake59]; rfl
  · have := hb (by simpa using h)
    rw [if_neg h, pput _ _ _ _ (by omega) g0.2.1 g0.2.2.1, Option.bind_some]
    unfold putU
    by_cases hm : may x0.f0 x0.f1 x0.f2 x0.f3 = 0
    · rw [if_pos hm]
      simp only
      have hz := bytesU_size hm
      rw [if_pos trivial, pgot 41 _ (by omega), Option.bind_some, gotU_put hm]
      simp
      omega
    · rw [if_neg hm]
      simp only
      rw [if_neg hm, nil_list]
      rfl
end Go.Proofs.YtfbdfnclkchofaaDoor.Pure
