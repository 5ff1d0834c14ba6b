/- The plain law ValueApplies. -/
import Derived.Test.YtcmldinhecjcmaaVB
import Derived.Test.YtcmldinhecjcmaaQ5
import Derived.OpenShut
namespace Go.Proofs.Ytcmldinhecjcmaa.Pure
set_option linter.unusedSimpArgs false
open Go Go.RowKit Go.Proofs.YtcmldinhecjcmaaW.PrintWords Go.Proofs.YtcmldinhecjcmaaW.PrintLast Go.Proofs.YtcmldinhecjcmaaW.PrintMore Go.Proofs.Ytcmldinhecjcmaa.Q

theorem ValueApplies (x0 : (Int) × (Int) × (ByteArray)) (g0 : G23 x0) (x1 : S25) (g1 : G25 x1) : ∃ k, chapbooklaw04_ValueApplies.f k x0.1 x0.2.1 x0.2.2 x1.f0 x1.f1 x1.f2 x1.f3 = some true := by
  refine ⟨20, ?_⟩
  have out : ∀ k, 9 ≤ k → chapbooklaw04_ValueApplies.j0 k true x0.1 x0.2.1 x0.2.2 x1.f0 x1.f1 x1.f2 x1.f3 = some true := by
    intro k hk
    obtain ⟨k, rfl⟩ : ∃ m, k = m + 1 := ⟨k - 1, by omega⟩
    simp only [chapbooklaw04_ValueApplies.j0, if_true]
    rw [awake_ge (by omega)]; rfl
  unfold chapbooklaw04_ValueApplies.f
  rw [awake_ge (by decide)]
  obtain ⟨b, hb, hi⟩ := is_ok x0
  obtain ⟨c, hc⟩ := great_ok x1.f0 x1.f1 x1.f2 x1.f3
  rw [hb]
  simp only [Option.bind_some, if_true]
  cases b with
  | false => simpa using out 20 (by decide)
  | true =>
    rw [hc]
    simp only [Option.bind_some, if_true]
    cases c with
    | true => exact out 20 (by decide)
    | false =>
      show chapbooklaw04_ValueApplies.j0 (19 + 1) false _ _ _ _ _ _ _ = _
      simp only [chapbooklaw04_ValueApplies.j0]
      have hv : Ok x0 := ⟨(hi rfl).1, (hi rfl).2, g0.2.2, g0.2.1⟩
      rw [if_neg (by decide), apply_ok x0 _ _ _ _ g0.2.2 g1.2.2.2, rapply_ok 11 x0 _ _ _ _ hv g1.2.2.2 g1.2.2.1]
      simp
end Go.Proofs.Ytcmldinhecjcmaa.Pure
