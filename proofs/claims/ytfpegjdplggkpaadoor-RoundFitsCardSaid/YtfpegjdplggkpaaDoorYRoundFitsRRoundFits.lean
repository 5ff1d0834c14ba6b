/- The plain law RoundFits. -/
import Derived.Test.YtfpegjdplggkpaaDoorYRoundFitsR7A
import Derived.Test.YtfpegjdplggkpaaDoorYRoundFitsStr
import Derived.Test.YtfpegjdplggkpaaDoorYRoundFitsUA
import Derived.Test.YtfpegjdplggkpaaDoorYRoundFitsPre1
import Derived.Test.YtfpegjdplggkpaaDoorYRoundFitsPre2
import Derived.Test.YtfpegjdplggkpaaDoorYRoundFitsQ5
import Derived.Test.YtfpegjdplggkpaaDoorYRoundFitsQ15
import Derived.Test.YtfpegjdplggkpaaDoorYRoundFitsQ6
import Derived.Test.YtfpegjdplggkpaaDoorYRoundFitsQ16
import Derived.Test.YtfpegjdplggkpaaDoorYRoundFitsQ18
namespace Go.Proofs.YtfpegjdplggkpaaDoor.Pure
set_option linter.unusedSimpArgs false
set_option linter.unusedVariables false
open Go Go.RowKit Go.Proofs.YtfpegjdplggkpaaDoorW.PrintWords Go.Proofs.YtfpegjdplggkpaaDoorW.PrintLast Go.Proofs.YtfpegjdplggkpaaDoorW.PrintMore Go.Proofs.YtfpegjdplggkpaaDoor.Q
theorem headB_eq (o n m : Int) : headB o n m = enc o ++ enc n ++ enc m := rfl
end Go.Proofs.YtfpegjdplggkpaaDoor.Pure
namespace Go.Proofs.YtfpegjdplggkpaaDoor.Pure
set_option linter.unusedSimpArgs false
set_option linter.unusedVariables false
open Go Go.RowKit Go.Proofs.YtfpegjdplggkpaaDoorW.PrintWords Go.Proofs.YtfpegjdplggkpaaDoorW.PrintLast Go.Proofs.YtfpegjdplggkpaaDoorW.PrintMore Go.Proofs.YtfpegjdplggkpaaDoor.Q
def G47 (x : S47) : Prop := (x.f0.size ≤ 140737488351232) ∧ ((Lit.int .i64 x.f1).wf = true) ∧ ((Lit.int .i64 x.f2).wf = true) ∧ (x.f3.size ≤ 140737488351232)
def G39 (x : (Int) × (Int)) : Prop := ((Lit.int .i64 x.1).wf = true) ∧ ((Lit.int .i64 x.2).wf = true)
theorem szL_mono {a b : Int} (h : a ≤ b) : szL a ≤ szL b := by unfold szL; (repeat' split) <;> omega
theorem fits_le {o n : Int} {l : List Upd} (h : mayR o n l = 0) : (bytesR o n l).size ≤ (bytesR 64 1099511627776 l).size := by
  obtain ⟨h1, h2, h3, h4, h5, h6, h7⟩ := mayR_zero h
  unfold bytesR
  rw [headB_eq, headB_eq, ByteArray.size_append, ByteArray.size_append, ByteArray.size_append, ByteArray.size_append, ByteArray.size_append, ByteArray.size_append]
  have e1 := enc_sz o
  have e2 := enc_sz 64
  have e3 := enc_sz n
  have e4 := enc_sz 1099511627776
  have e5 := szL_mono h2
  have e6 := szL_mono h4
  omega
theorem RoundFits (x0 : List (S47)) (g0 : (x0.length * 48 ≤ 140737488351232 ∧ x0.length ≤ maxLen ∧ ∀ z ∈ x0, G47 z)) (x1 : Int) (g1 : (Lit.int .i64 x1).wf = true) (x2 : (Int) × (Int)) (g2 : G39 x2) : ∃ k, chapbooklaw07_RoundFits.f k x0 x1 x2.1 x2.2 = some true := by
  obtain ⟨g, hg, hb⟩ := greatA_ok 300 x0 (by decide)
  refine ⟨300, ?_⟩
  have yes : chapbooklaw07_RoundFits.j0 300 x0 x1 true x2.1 x2.2 = some true := by
    simp only [chapbooklaw07_RoundFits.j0]
    rw [if_pos trivial, awake299]; rfl
  unfold chapbooklaw07_RoundFits.f
  rw [awake300, Option.bind_some, if_pos rfl, hg, Option.bind_some]
  by_cases h : g = true
  · rw [if_pos h, yes]
  rw [if_neg h]
  by_cases c : (x0.length : Int) > 20
  · rw [decide_eq_true c, yes]
  rw [decide_eq_false c]
  simp only [chapbooklaw07_RoundFits.j0]
  rw [if_neg (by decide), Option.bind_some, if_pos (by simp; omega), List.nil_append]
  -- both answer the same
  have h1 : round_Fits.f x0 x1 = some (decide (mayR 64 1099511627776 x0 = 0 ∧ 64 ≤ x1 ∧ x1 ≤ 1400 ∧ ((bytesR 64 1099511627776 x0).size : Int) ≤ x1 - 40)) := by
    unfold round_Fits.f
    rw [pputR, Option.bind_some]
    unfold putR
    by_cases hm : mayR 64 1099511627776 x0 = 0
    · rw [if_pos hm]
      simp only
      rw [if_pos trivial, in_ok, Option.bind_some]
      by_cases hx : x1 ≥ 64 ∧ x1 ≤ 1400
      · rw [if_pos (decide_eq_true hx), show wrap64 (x1 - 40) = x1 - 40 by unfold wrap64; omega]
        simp [hm, hx.1, hx.2]
      · rw [if_neg (by simpa using hx)]
        have : ¬ (64 ≤ x1 ∧ x1 ≤ 1400 ∧ ((bytesR 64 1099511627776 x0).size : Int) ≤ x1 - 40) := fun q => hx ⟨q.1, q.2.1⟩
        simp [this]
    · rw [if_neg hm]
      simp only
      rw [if_neg hm]
      simp [hm]
  have h2 : chapbookref07_Fits.f 299 x0 x1 = some (decide (mayR 64 1099511627776 x0 = 0 ∧ 64 ≤ x1 ∧ x1 ≤ 1400 ∧ ((bytesR 64 1099511627776 x0).size : Int) ≤ x1 - 40)) := by
    unfold chapbookref07_Fits.f
    by_cases c1 : x1 ≥ 64
    case neg => rw [if_neg c1]; have : ¬ (64 ≤ x1) := c1; simp [this]
    rw [if_pos c1]
    by_cases c2 : x1 ≤ 1400
    case neg => rw [if_neg c2]; simp [c2]
    rw [if_pos c2, rmayR 279, Option.bind_some]
    by_cases hm : mayR 64 1099511627776 x0 = 0
    · rw [if_pos hm, rbytesR 259 hm, Option.bind_some, show wrap64 (x1 - 40) = x1 - 40 by unfold wrap64; omega]
      have c1' : 64 ≤ x1 := c1
      simp [hm, c1', c2]
    · rw [if_neg hm]; simp [hm]
  rw [h1, Option.bind_some, h2, Option.bind_some, if_neg (by simp), pputR, Option.bind_some]
  by_cases hq : mayR 64 1099511627776 x0 = 0 ∧ 64 ≤ x1 ∧ x1 ≤ 1400 ∧ ((bytesR 64 1099511627776 x0).size : Int) ≤ x1 - 40
  · rw [if_pos (decide_eq_true hq)]
    unfold putR
    by_cases hm : mayR x2.1 x2.2 x0 = 0
    · rw [if_pos hm]
      simp only
      rw [if_pos trivial, show wrap64 (x1 - 40) = x1 - 40 by unfold wrap64; omega]
      have := fits_le hm
      exact congrArg some (decide_eq_true (by omega))
    · rw [if_neg hm]
      simp only
      rw [if_neg hm]
  · rw [if_neg (by simpa using hq)]
end Go.Proofs.YtfpegjdplggkpaaDoor.Pure
