/- The plain part of the law FeedOrder: its contract says true at once. -/
import Derived.Test.YtjmoncfgoaaekaaDoorYFeedOrderHFOrder
namespace Go.Proofs.YtjmoncfgoaaekaaDoor.Pure
set_option linter.unusedVariables false
open Go Go.RowKit Go.Proofs.YtjmoncfgoaaekaaDoorW.PrintWords Go.Proofs.YtjmoncfgoaaekaaDoor.Q Go.Proofs.YtjmoncfgoaaekaaDoor.J
def G114 (x : S114) : Prop := (x.f0.size ≤ 140737488351232) ∧ ((Lit.int .i64 x.f1).wf = true) ∧ ((Lit.int .i64 x.f2).wf = true) ∧ (x.f3.size ≤ 140737488351232)
def G43 (x : S43) : Prop := ((Lit.int .i64 x.f0).wf = true) ∧ ((Lit.int .i64 x.f1).wf = true) ∧ ((x.f2.length * 48 ≤ 140737488351232 ∧ x.f2.length ≤ maxLen ∧ ∀ z ∈ x.f2, G114 z))
theorem FeedOrder (x0 : Int) (g0 : (Lit.int .i64 x0).wf = true) (x1 : List (S43)) (g1 : (x1.length * 40 ≤ 140737488351232 ∧ x1.length ≤ maxLen ∧ ∀ z ∈ x1, G43 z)) (x2 : List (Int)) (g2 : (x2.length * 1 ≤ 140737488351232 ∧ x2.length ≤ maxLen ∧ ∀ z ∈ x2, (Lit.int .u8 z).wf = true)) : chapbooklaw15_FeedOrder.f x0 x1 x2 = some true := rfl
end Go.Proofs.YtjmoncfgoaaekaaDoor.Pure
