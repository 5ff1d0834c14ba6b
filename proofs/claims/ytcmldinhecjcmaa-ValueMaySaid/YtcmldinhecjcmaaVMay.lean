/- The plain law ValueMay. -/
import Derived.Test.YtcmldinhecjcmaaVB
import Derived.Test.YtcmldinhecjcmaaQ7
import Derived.OpenShut
namespace Go.Proofs.Ytcmldinhecjcmaa.Pure
set_option linter.unusedSimpArgs false
open Go Go.RowKit Go.Proofs.YtcmldinhecjcmaaW.PrintWords Go.Proofs.YtcmldinhecjcmaaW.PrintLast Go.Proofs.YtcmldinhecjcmaaW.PrintMore Go.Proofs.Ytcmldinhecjcmaa.Q

theorem ValueMay (x0 : S25) (_g0 : G25 x0) : ∃ k, chapbooklaw04_ValueMay.f k x0.f0 x0.f1 x0.f2 x0.f3 = some true := by
  refine ⟨20, ?_⟩
  unfold chapbooklaw04_ValueMay.f
  obtain ⟨c, hc⟩ := great_ok x0.f0 x0.f1 x0.f2 x0.f3
  rw [awake_ge (by decide), hc]
  simp only [Option.bind_some, if_true]
  show chapbooklaw04_ValueMay.j0 (19 + 1) c _ _ _ _ = _
  simp only [chapbooklaw04_ValueMay.j0]
  cases c with
  | true => rw [if_pos rfl, awake_ge (by decide)]; rfl
  | false => rw [if_neg (by decide), may_ok 15, rmay_ok 13]; simp
end Go.Proofs.Ytcmldinhecjcmaa.Pure
