/- The plain part of the law FeedPlays: its contract says true at once. -/
import Derived.Test.YtjmoncfgoaaekaaDoorYFeedPlaysHFPlays
namespace Go.Proofs.YtjmoncfgoaaekaaDoor.Pure
set_option linter.unusedVariables false
open Go Go.RowKit Go.Proofs.YtjmoncfgoaaekaaDoorW.PrintWords Go.Proofs.YtjmoncfgoaaekaaDoor.Q Go.Proofs.YtjmoncfgoaaekaaDoor.J
def G22 (x : (Int) × (Int)) : Prop := ((Lit.int .i64 x.1).wf = true) ∧ ((Lit.int .i64 x.2).wf = true)
def G40 (x : S40) : Prop := ((Lit.int .i64 x.f0).wf = true) ∧ ((Lit.int .i64 x.f1).wf = true) ∧ ((Lit.int .i64 x.f2).wf = true) ∧ (x.f3.size ≤ 140737488351232)
def G114 (x : S114) : Prop := (x.f0.size ≤ 140737488351232) ∧ ((Lit.int .i64 x.f1).wf = true) ∧ ((Lit.int .i64 x.f2).wf = true) ∧ (x.f3.size ≤ 140737488351232)
def G43 (x : S43) : Prop := ((Lit.int .i64 x.f0).wf = true) ∧ ((Lit.int .i64 x.f1).wf = true) ∧ ((x.f2.length * 48 ≤ 140737488351232 ∧ x.f2.length ≤ maxLen ∧ ∀ z ∈ x.f2, G114 z))
def G45 (x : S45) : Prop := ((Lit.int .i64 x.f0).wf = true) ∧ (G40 x.f1) ∧ (G43 x.f2)
theorem FeedPlays (x0 : (Int) × (Int)) (g0 : G22 x0) (x1 : List (S45)) (g1 : (x1.length * 88 ≤ 140737488351232 ∧ x1.length ≤ maxLen ∧ ∀ z ∈ x1, G45 z)) : chapbooklaw15_FeedPlays.f x0.1 x0.2 x1 = some true := rfl
end Go.Proofs.YtjmoncfgoaaekaaDoor.Pure
