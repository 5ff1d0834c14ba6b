/- The plain part of the law FeedAgain: its contract says true at once. -/
import Derived.Test.YtjmoncfgoaaekaaDoorYFeedAgainHFAgain
namespace Go.Proofs.YtjmoncfgoaaekaaDoor.Pure
set_option linter.unusedVariables false
open Go Go.RowKit Go.Proofs.YtjmoncfgoaaekaaDoorW.PrintWords Go.Proofs.YtjmoncfgoaaekaaDoor.Q Go.Proofs.YtjmoncfgoaaekaaDoor.J
def G114 (x : S114) : Prop := (x.f0.size ≤ 140737488351232) ∧ ((Lit.int .i64 x.f1).wf = true) ∧ ((Lit.int .i64 x.f2).wf = true) ∧ (x.f3.size ≤ 140737488351232)
def G43 (x : S43) : Prop := ((Lit.int .i64 x.f0).wf = true) ∧ ((Lit.int .i64 x.f1).wf = true) ∧ ((x.f2.length * 48 ≤ 140737488351232 ∧ x.f2.length ≤ maxLen ∧ ∀ z ∈ x.f2, G114 z))
theorem FeedAgain (x0 : List (S43)) (g0 : (x0.length * 40 ≤ 140737488351232 ∧ x0.length ≤ maxLen ∧ ∀ z ∈ x0, G43 z)) (x1 : Int) (g1 : (Lit.int .i64 x1).wf = true) : chapbooklaw15_FeedAgain.f x0 x1 = some true := rfl
end Go.Proofs.YtjmoncfgoaaekaaDoor.Pure
