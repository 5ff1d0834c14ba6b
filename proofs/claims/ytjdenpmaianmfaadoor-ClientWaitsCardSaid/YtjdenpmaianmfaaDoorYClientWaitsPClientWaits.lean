/- The plain part of the law ClientWaits: its contract says true at once. -/
import Derived.Test.YtjdenpmaianmfaaDoorYClientWaitsHCWaits
namespace Go.Proofs.YtjdenpmaianmfaaDoor.Pure
set_option linter.unusedVariables false
open Go Go.RowKit Go.Proofs.YtjdenpmaianmfaaDoorW.PrintWords Go.Proofs.YtjdenpmaianmfaaDoor.Q Go.Proofs.YtjdenpmaianmfaaDoor.J
def G22 (x : (Int) × (Int) × (Int) × (Int)) : Prop := ((Lit.int .i64 x.1).wf = true) ∧ ((Lit.int .i64 x.2.1).wf = true) ∧ ((Lit.int .i64 x.2.2.1).wf = true) ∧ ((Lit.int .i64 x.2.2.2).wf = true)
def G32 (x : S32) : Prop := (x.f0.size ≤ 140737488351232) ∧ ((Lit.int .i64 x.f1).wf = true) ∧ ((Lit.int .i64 x.f2).wf = true) ∧ (x.f3.size ≤ 140737488351232)
def G35 (x : S35) : Prop := ((Lit.int .i64 x.f0).wf = true) ∧ ((Lit.int .i64 x.f1).wf = true) ∧ ((x.f2.length * 48 ≤ 140737488351232 ∧ x.f2.length ≤ maxLen ∧ ∀ z ∈ x.f2, G32 z))
def G37 (x : S37) : Prop := ((Lit.int .i64 x.f0).wf = true) ∧ (G32 x.f1) ∧ (G35 x.f2)
theorem ClientWaits (x0 : (Int) × (Int) × (Int) × (Int)) (g0 : G22 x0) (x1 : List (S37)) (g1 : (x1.length * 96 ≤ 140737488351232 ∧ x1.length ≤ maxLen ∧ ∀ z ∈ x1, G37 z)) (x2 : S35) (g2 : G35 x2) : chapbooklaw17_ClientWaits.f x0.1 x0.2.1 x0.2.2.1 x0.2.2.2 x1 x2.f0 x2.f1 x2.f2 = some true := rfl
end Go.Proofs.YtjdenpmaianmfaaDoor.Pure
