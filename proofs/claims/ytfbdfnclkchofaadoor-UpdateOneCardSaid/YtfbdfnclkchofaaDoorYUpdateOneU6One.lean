/- The plain law UpdateOne. -/
import Derived.Test.YtfbdfnclkchofaaDoorYUpdateOneU6C
import Derived.WalkArith
import Derived.Test.YtfbdfnclkchofaaDoorYUpdateOneQ12
namespace Go.Proofs.YtfbdfnclkchofaaDoor.Pure
set_option linter.unusedSimpArgs false
open Go Go.RowKit Go.Proofs.YtfbdfnclkchofaaDoorW.PrintWords Go.Proofs.YtfbdfnclkchofaaDoorW.PrintLast Go.Proofs.YtfbdfnclkchofaaDoorW.PrintMore Go.Proofs.YtfbdfnclkchofaaDoor.Q
theorem wf64 {n : Int} (h0 : -9223372036854775808 ≤ n) (h1 : n ≤ 9223372036854775807) : (Lit.int .i64 n).wf = true := WalkArith.wf_i64 ⟨h0, h1⟩
theorem UpdateOne (x0 : ByteArray) (g0 : x0.size ≤ 140737488351232) : ∃ k, chapbooklaw06_UpdateOne.f k x0 = some true := by
  refine ⟨60, ?_⟩
  unfold chapbooklaw06_UpdateOne.f
  rw [awake60, Option.bind_some, if_pos rfl]
  simp only [chapbooklaw06_UpdateOne.j0]
  by_cases h : (x0.size : Int) > 300
  · rw [if_pos (decide_eq_true h), awake59]; rfl
  · rw [if_neg (by simpa using h), pgot 41 x0 g0, Option.bind_some]
    by_cases he : (gotU x0).2.2.2.2 = 0
    · obtain ⟨h1, h2⟩ := gotU_ok he
      obtain ⟨m1, m2, m3, m4, m5, m6, m7⟩ := may_zero h1
      have hs : (gotU x0).2.2.2.1.size ≤ 32 := by
        by_cases c13 : (gotU x0).2.1 = 1 ∨ (gotU x0).2.1 = 3
        · have := (m5 c13).1; omega
        · by_cases c24 : (gotU x0).2.1 = 2 ∨ (gotU x0).2.1 = 4
          · have := (m6 c24).2; omega
          · have := (m7 (by omega)).2; omega
      have hn : -2305843009213693952 ≤ (gotU x0).2.2.1 ∧ (gotU x0).2.2.1 < 2305843009213693952 := by
        by_cases c13 : (gotU x0).2.1 = 1 ∨ (gotU x0).2.1 = 3
        · have := m5 c13; omega
        · by_cases c24 : (gotU x0).2.1 = 2 ∨ (gotU x0).2.1 = 4
          · have := (m6 c24).1; omega
          · have := (m7 (by omega)).1; omega
      rw [if_pos he, pput _ _ _ _ (by omega) (wf64 (by omega) (by omega)) (wf64 (by omega) (by omega)), Option.bind_some]
      unfold putU
      rw [if_pos h1, h2]
      simp only
      rw [if_pos trivial, if_pos trivial, rmay_ok 53, h1]
      rfl
    · rw [if_neg he, gotU_no he]
      simp [nil_list]
end Go.Proofs.YtfbdfnclkchofaaDoor.Pure
