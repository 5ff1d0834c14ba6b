/- The plain law RoundSame. -/
import Derived.Test.YtfpegjdplggkpaaDoorYRoundSameR7A
import Derived.Test.YtfpegjdplggkpaaDoorYRoundSameStr
import Derived.Test.YtfpegjdplggkpaaDoorYRoundSameUA
import Derived.Test.YtfpegjdplggkpaaDoorYRoundSamePre1
import Derived.Test.YtfpegjdplggkpaaDoorYRoundSamePre0
import Derived.Test.YtfpegjdplggkpaaDoorYRoundSameQ12
import Derived.Test.YtfpegjdplggkpaaDoorYRoundSameQ14
import Derived.Test.YtfpegjdplggkpaaDoorYRoundSameQ13
import Derived.Test.YtfpegjdplggkpaaDoorYRoundSameQ15
import Derived.Test.YtfpegjdplggkpaaDoorYRoundSameQ5
import Derived.Test.YtfpegjdplggkpaaDoorYRoundSameQ6
import Derived.Test.YtfpegjdplggkpaaDoorYRoundSameQ16
import Derived.Test.YtfpegjdplggkpaaDoorYRoundSameQ19
namespace Go.Proofs.YtfpegjdplggkpaaDoor.Pure
set_option linter.unusedSimpArgs false
set_option linter.unusedVariables false
open Go Go.RowKit Go.Proofs.YtfpegjdplggkpaaDoorW.PrintWords Go.Proofs.YtfpegjdplggkpaaDoorW.PrintLast Go.Proofs.YtfpegjdplggkpaaDoorW.PrintMore Go.Proofs.YtfpegjdplggkpaaDoor.Q
def G47 (x : S47) : Prop := (x.f0.size ≤ 140737488351232) ∧ ((Lit.int .i64 x.f1).wf = true) ∧ ((Lit.int .i64 x.f2).wf = true) ∧ (x.f3.size ≤ 140737488351232)
def G24 (x : (Int) × (Int) × (List (S47))) : Prop := ((Lit.int .i64 x.1).wf = true) ∧ ((Lit.int .i64 x.2.1).wf = true) ∧ ((x.2.2.length * 48 ≤ 140737488351232 ∧ x.2.2.length ≤ maxLen ∧ ∀ z ∈ x.2.2, G47 z))
theorem same_l0 (w : List Upd) (a b a' b' : Int) (l : List Upd) (hl : l.length ≤ 20) (hw : w = l) : ∀ (d k : Nat) (x : Int) (c : List Upd), c.length = l.length → 0 ≤ x → x ≤ l.length → (l.length : Int) - x = d → d + 30 ≤ k → chapbooklaw07_RoundSame.l0 k w (l.length : Int) x a b l a' b' c = some true := by
  intro d
  induction d with
  | zero =>
    intro k x c hc h0 h1 hd hk
    obtain ⟨k, rfl⟩ : ∃ m, k = m + 1 := ⟨k - 1, by omega⟩
    simp only [chapbooklaw07_RoundSame.l0]
    rw [if_neg (by omega), hw, psame k a b l (by omega) (by omega), Option.bind_some]
  | succ d ih =>
    intro k x c hc h0 h1 hd hk
    obtain ⟨k, rfl⟩ : ∃ m, k = m + 1 := ⟨k - 1, by omega⟩
    simp only [chapbooklaw07_RoundSame.l0]
    rw [if_pos (by omega), if_pos h0, if_pos (by omega), w64s (n := l.length) h0 (by omega) (by omega)]
    exact ih k (x + 1) _ (by rw [List.length_set]; exact hc) (by omega) (by omega) (by omega) (by omega)
theorem RoundSame (x0 : (Int) × (Int) × (List (S47))) (g0 : G24 x0) (x1 : (Int) × (Int) × (List (S47))) (g1 : G24 x1) : ∃ k, chapbooklaw07_RoundSame.f k x0.1 x0.2.1 x0.2.2 x1.1 x1.2.1 x1.2.2 = some true := by
  obtain ⟨g, hg, hb⟩ := greatR_ok 300 x0.1 x0.2.1 x0.2.2 (by decide)
  obtain ⟨g', hg', hb'⟩ := greatR_ok 300 x1.1 x1.2.1 x1.2.2 (by decide)
  refine ⟨300, ?_⟩
  have yes : chapbooklaw07_RoundSame.j0 300 true x0.1 x0.2.1 x0.2.2 x1.1 x1.2.1 x1.2.2 = some true := by
    simp only [chapbooklaw07_RoundSame.j0]
    rw [if_pos trivial, awake299]; rfl
  unfold chapbooklaw07_RoundSame.f
  rw [awake300, Option.bind_some, if_pos rfl, hg, Option.bind_some]
  by_cases h : g = true
  · rw [if_pos h, yes]
  rw [if_neg h, hg', Option.bind_some]
  by_cases h2 : g' = true
  · rw [h2, yes]
  have hl := hb (by simpa using h)
  have hl' := hb' (by simpa using h2)
  simp only [chapbooklaw07_RoundSame.j0]
  rw [if_neg h2]
  have hcp : round_Copy.f x0.1 x0.2.1 x0.2.2 = some (x0.1, x0.2.1, x0.2.2) := by
    unfold round_Copy.f api_Update_40.f
    rw [if_pos (by omega)]
    rfl
  obtain ⟨q, e1, q1⟩ := psameR 299 x0.1 x0.2.1 x1.1 x1.2.1 x0.2.2 x1.2.2 (by omega) (by omega)
  obtain ⟨q', e2, q2⟩ := psameG 299 x0.1 x0.2.1 x1.1 x1.2.1 x0.2.2 x1.2.2 (by omega) (by omega)
  have hqq : q = q' := by
    have := q1.trans q2.symm
    cases q <;> cases q' <;> simp_all
  rw [hcp, Option.bind_some, e1, Option.bind_some, e2, Option.bind_some, hqq, if_neg (by simp)]
  simp only
  rw [psame 299 _ _ _ (by omega) (by omega), Option.bind_some]
  simp only [chapbooklaw07_RoundSame.j1]
  rw [if_neg (by decide), Option.bind_some, if_pos (by simp; omega), List.nil_append]
  exact same_l0 x0.2.2 x0.1 x0.2.1 x0.1 x0.2.1 x0.2.2 hl rfl x0.2.2.length 298 0 x0.2.2 rfl (by omega) (by omega) (by omega) (by omega)
end Go.Proofs.YtfpegjdplggkpaaDoor.Pure
