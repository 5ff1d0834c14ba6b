/- The plain part of the law ModelPlays: its contract says true at once. -/
import Derived.Test.YtjdenpmaianmfaaDoorY6HMPlays
namespace Go.Proofs.YtjdenpmaianmfaaDoor.Pure
set_option linter.unusedVariables false
open Go RowKit YtjdenpmaianmfaaDoorW.PrintWords Q J
def G68 (x : (Int) × (Int) × (Int) × (Int) × (Int) × (Int)) : Prop := ((Lit.int .i64 x.1).wf = true) ∧ ((Lit.int .i64 x.2.1).wf = true) ∧ ((Lit.int .i64 x.2.2.1).wf = true) ∧ ((Lit.int .i64 x.2.2.2.1).wf = true) ∧ ((Lit.int .i64 x.2.2.2.2.1).wf = true) ∧ ((Lit.int .i64 x.2.2.2.2.2).wf = true)
def G32 (x : S32) : Prop := (x.f0.size ≤ 140737488351232) ∧ ((Lit.int .i64 x.f1).wf = true) ∧ ((Lit.int .i64 x.f2).wf = true) ∧ (x.f3.size ≤ 140737488351232)
def G83 (x : S83) : Prop := ((Lit.int .i64 x.f0).wf = true) ∧ ((Lit.int .i64 x.f1).wf = true) ∧ (G32 x.f2) ∧ (x.f3.size ≤ 140737488351232) ∧ ((Lit.int .i64 x.f4).wf = true) ∧ ((Lit.int .i64 x.f5).wf = true) ∧ ((Lit.int .u32 x.f6).wf = true)
def G88 (x : S88) : Prop := (G83 x.f0) ∧ ((Lit.int .i64 x.f1).wf = true) ∧ ((Lit.int .i64 x.f2).wf = true)
theorem ModelPlays (x0 : (Int) × (Int) × (Int) × (Int) × (Int) × (Int)) (g0 : G68 x0) (x1 : List (S88)) (g1 : (x1.length * 120 ≤ 140737488351232 ∧ x1.length ≤ maxLen ∧ ∀ z ∈ x1, G88 z)) : chapbooklaw21_ModelPlays.f x0.1 x0.2.1 x0.2.2.1 x0.2.2.2.1 x0.2.2.2.2.1 x0.2.2.2.2.2 x1 = some true := rfl
end Go.Proofs.YtjdenpmaianmfaaDoor.Pure
