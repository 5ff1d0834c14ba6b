/- The plain law RoundFront. -/
import Derived.Test.YtfpegjdplggkpaaDoorYRoundFrontR7B
import Derived.Test.YtfpegjdplggkpaaDoorYRoundFrontQ18
namespace Go.Proofs.YtfpegjdplggkpaaDoor.Pure
set_option linter.unusedSimpArgs false
set_option linter.unusedVariables false
open Go Go.RowKit Go.Proofs.YtfpegjdplggkpaaDoorW.PrintWords Go.Proofs.YtfpegjdplggkpaaDoorW.PrintLast Go.Proofs.YtfpegjdplggkpaaDoorW.PrintMore Go.Proofs.YtfpegjdplggkpaaDoor.Q
def G47 (x : S47) : Prop := (x.f0.size ≤ 140737488351232) ∧ ((Lit.int .i64 x.f1).wf = true) ∧ ((Lit.int .i64 x.f2).wf = true) ∧ (x.f3.size ≤ 140737488351232)
def G24 (x : (Int) × (Int) × (List (S47))) : Prop := ((Lit.int .i64 x.1).wf = true) ∧ ((Lit.int .i64 x.2.1).wf = true) ∧ ((x.2.2.length * 48 ≤ 140737488351232 ∧ x.2.2.length ≤ maxLen ∧ ∀ z ∈ x.2.2, G47 z))
theorem RoundFront (x0 : (Int) × (Int) × (List (S47))) (g0 : G24 x0) (x1 : Int) (g1 : (Lit.int .i64 x1).wf = true) (x2 : Int) (g2 : (Lit.int .u8 x2).wf = true) : ∃ k, chapbooklaw07_RoundFront.f k x0.1 x0.2.1 x0.2.2 x1 x2 = some true := by
  obtain ⟨g, hg, hb⟩ := greatR_ok 300 x0.1 x0.2.1 x0.2.2 (by decide)
  refine ⟨300, ?_⟩
  unfold chapbooklaw07_RoundFront.f
  rw [awake300, Option.bind_some, if_pos rfl, hg, Option.bind_some]
  simp only [chapbooklaw07_RoundFront.j0]
  by_cases h : g = true
  · rw [if_pos h, awake299]; rfl
  have hl := hb (by simpa using h)
  rw [if_neg h]
  rw [pputR, Option.bind_some]
  unfold putR
  have j1 : ∀ b, chapbooklaw07_RoundFront.j1 299 x1 x2 b true = some true := fun b => by simp only [chapbooklaw07_RoundFront.j1]; rw [if_pos trivial]
  by_cases hm : mayR x0.1 x0.2.1 x0.2.2 = 0
  · have hz := bytesR_size hm
    rw [if_pos hm]
    simp only
    rw [if_pos trivial]
    by_cases c0 : x1 < 0
    · rw [if_pos c0, j1]
    rw [if_neg c0]
    by_cases c1 : x1 ≥ ((bytesR x0.1 x0.2.1 x0.2.2).size : Int)
    · rw [decide_eq_true c1, j1]
    rw [decide_eq_false c1]
    simp only [chapbooklaw07_RoundFront.j1]
    have hone : (strOfNums [x2]).size = 1 := by have := strOfNums_size [x2]; simpa using this
    rw [if_neg (by decide), if_pos (by omega), if_pos (by omega), pgetR 258 _ (by rw [ByteArray.size_extract]; omega), Option.bind_some, Option.bind_some, if_pos (by omega), pgetR 258 _ (by rw [ByteArray.size_append]; omega), Option.bind_some, getR_cut hm (cut := x1.toNat) (by omega), getR_more hm, if_neg (show ¬ (strOfNums [x2]).size = 0 by omega)]
    rfl
  · rw [if_neg hm]
    simp only
    rw [if_neg hm, j1]
end Go.Proofs.YtfpegjdplggkpaaDoor.Pure
