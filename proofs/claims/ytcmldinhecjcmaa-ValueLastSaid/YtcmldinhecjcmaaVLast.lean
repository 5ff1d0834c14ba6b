/- The plain law ValueLast. -/
import Derived.Test.YtcmldinhecjcmaaVB
import Derived.Test.YtcmldinhecjcmaaQ9
import Derived.OpenShut
namespace Go.Proofs.Ytcmldinhecjcmaa.Pure
set_option linter.unusedSimpArgs false
open Go Go.RowKit Go.Proofs.YtcmldinhecjcmaaW.PrintWords Go.Proofs.YtcmldinhecjcmaaW.PrintLast Go.Proofs.YtcmldinhecjcmaaW.PrintMore Go.Proofs.Ytcmldinhecjcmaa.Q

theorem app_last (v w : Val) (c n : Int) (s : ByteArray) (h : c = 1 ∨ c = 2 ∨ c = 5) : app v c n s = app w c n s := by
  rcases h with rfl | rfl | rfl <;> simp [app]
theorem app_size (v : Val) (c n : Int) (s : ByteArray) (h : c = 1 ∨ c = 2 ∨ c = 5) (hs : s.size ≤ 140737488351232) : (app v c n s).2.2.size ≤ 140737488351232 := by
  rcases h with rfl | rfl | rfl
  · exact Nat.zero_le _
  · exact hs
  · exact Nat.zero_le _
theorem ValueLast (x0 : (Int) × (Int) × (ByteArray)) (g0 : G23 x0) (x1 : (Int) × (Int) × (ByteArray)) (g1 : G23 x1) (x2 : S25) (g2 : G25 x2) : ∃ k, chapbooklaw04_ValueLast.f k x0.1 x0.2.1 x0.2.2 x1.1 x1.2.1 x1.2.2 x2.f0 x2.f1 x2.f2 x2.f3 = some true := by
  refine ⟨20, ?_⟩
  have out : chapbooklaw04_ValueLast.j0 20 true x0.1 x0.2.1 x0.2.2 x1.1 x1.2.1 x1.2.2 x2.f0 x2.f1 x2.f2 x2.f3 = some true := by
    show chapbooklaw04_ValueLast.j0 (19 + 1) true _ _ _ _ _ _ _ _ _ _ = _
    simp only [chapbooklaw04_ValueLast.j0, if_true]
    rw [awake_ge (by decide)]; rfl
  have main : x2.f1 = 1 ∨ x2.f1 = 2 ∨ x2.f1 = 5 → chapbooklaw04_ValueLast.j0 20 false x0.1 x0.2.1 x0.2.2 x1.1 x1.2.1 x1.2.2 x2.f0 x2.f1 x2.f2 x2.f3 = some true := by
    intro h
    show chapbooklaw04_ValueLast.j0 (19 + 1) false _ _ _ _ _ _ _ _ _ _ = _
    simp only [chapbooklaw04_ValueLast.j0]
    rw [if_neg (by decide), apply_ok x0 _ _ _ _ g0.2.2 g2.2.2.2, apply_ok x1 _ _ _ _ g1.2.2 g2.2.2.2]
    simp only [Option.bind_some]
    rw [app_last x1 x0 _ _ _ h, apply_ok (app x0 x2.f1 x2.f2 x2.f3) _ _ _ _ (app_size _ _ _ _ h g2.2.2.2) g2.2.2.2]
    simp only [Option.bind_some]
    rw [app_last (app x0 x2.f1 x2.f2 x2.f3) x0 _ _ _ h]
    simp
  unfold chapbooklaw04_ValueLast.f
  obtain ⟨b, hb, _⟩ := is_ok x0
  obtain ⟨b2, hb2, _⟩ := is_ok x1
  obtain ⟨c, hc⟩ := great_ok x2.f0 x2.f1 x2.f2 x2.f3
  rw [awake_ge (by decide), hb]
  simp only [Option.bind_some, if_true]
  cases b with
  | false => simpa using out
  | true =>
    rw [hb2]
    simp only [Option.bind_some, if_true]
    cases b2 with
    | false => simpa using out
    | true =>
      rw [hc]
      simp only [Option.bind_some, if_true]
      cases c with
      | true => simpa using out
      | false =>
        by_cases h1 : x2.f1 = 1
        · simpa [h1] using main (Or.inl h1)
        by_cases h2 : x2.f1 = 2
        · simpa [h2] using main (Or.inr (Or.inl h2))
        by_cases h5 : x2.f1 = 5
        · simpa [h5] using main (Or.inr (Or.inr h5))
        · have : (x2.f1 != 5) = true := by simpa using h5
          simpa [h1, h2, this] using out
end Go.Proofs.Ytcmldinhecjcmaa.Pure
