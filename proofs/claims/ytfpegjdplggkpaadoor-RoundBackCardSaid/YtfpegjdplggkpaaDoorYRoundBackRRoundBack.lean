/- The plain law RoundBack. -/
import Derived.Test.YtfpegjdplggkpaaDoorYRoundBackR7B
import Derived.Test.YtfpegjdplggkpaaDoorYRoundBackQ17
namespace Go.Proofs.YtfpegjdplggkpaaDoor.Pure
set_option linter.unusedSimpArgs false
set_option linter.unusedVariables false
open Go Go.RowKit Go.Proofs.YtfpegjdplggkpaaDoorW.PrintWords Go.Proofs.YtfpegjdplggkpaaDoorW.PrintLast Go.Proofs.YtfpegjdplggkpaaDoorW.PrintMore Go.Proofs.YtfpegjdplggkpaaDoor.Q
def G47 (x : S47) : Prop := (x.f0.size ≤ 140737488351232) ∧ ((Lit.int .i64 x.f1).wf = true) ∧ ((Lit.int .i64 x.f2).wf = true) ∧ (x.f3.size ≤ 140737488351232)
def G24 (x : (Int) × (Int) × (List (S47))) : Prop := ((Lit.int .i64 x.1).wf = true) ∧ ((Lit.int .i64 x.2.1).wf = true) ∧ ((x.2.2.length * 48 ≤ 140737488351232 ∧ x.2.2.length ≤ maxLen ∧ ∀ z ∈ x.2.2, G47 z))
theorem RoundBack (x0 : (Int) × (Int) × (List (S47))) (g0 : G24 x0) : ∃ k, chapbooklaw07_RoundBack.f k x0.1 x0.2.1 x0.2.2 = some true := by
  obtain ⟨g, hg, hb⟩ := greatR_ok 300 x0.1 x0.2.1 x0.2.2 (by decide)
  refine ⟨300, ?_⟩
  unfold chapbooklaw07_RoundBack.f
  rw [awake300, Option.bind_some, if_pos rfl, hg, Option.bind_some]
  simp only [chapbooklaw07_RoundBack.j0]
  by_cases h : g = true
  · rw [if_pos h, awake299]; rfl
  have hl := hb (by simpa using h)
  rw [if_neg h]
  rw [pputR, Option.bind_some]
  unfold putR
  by_cases hm : mayR x0.1 x0.2.1 x0.2.2 = 0
  · have hz := bytesR_size hm
    rw [if_pos hm]
    simp only
    rw [if_pos trivial, pgetR 259 _ (by omega), Option.bind_some, getR_bytes hm]
    simp only
    rw [psame 299 _ _ _ (by omega) (by omega), Option.bind_some, if_pos rfl]
    rfl
  · rw [if_neg hm]
    simp only
    rw [if_neg hm, nil_list]
    rfl
end Go.Proofs.YtfpegjdplggkpaaDoor.Pure
