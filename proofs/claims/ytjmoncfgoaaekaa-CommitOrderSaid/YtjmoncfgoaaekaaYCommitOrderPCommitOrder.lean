/- The plain part of the law CommitOrder: its contract says true at once. -/
import Derived.Test.YtjmoncfgoaaekaaYCommitOrderHOrder
namespace Go.Proofs.Ytjmoncfgoaaekaa.Pure
set_option linter.unusedVariables false
open Go Go.RowKit Go.Proofs.YtjmoncfgoaaekaaW.PrintWords Go.Proofs.Ytjmoncfgoaaekaa.Q Go.Proofs.Ytjmoncfgoaaekaa.J
def G47 (x : S47) : Prop := (x.f0.size ≤ 140737488351232) ∧ ((Lit.int .i64 x.f1).wf = true) ∧ ((Lit.int .i64 x.f2).wf = true) ∧ (x.f3.size ≤ 140737488351232)
def G31 (x : S31) : Prop := ((Lit.int .i64 x.f0).wf = true) ∧ ((Lit.int .i64 x.f1).wf = true) ∧ ((x.f2.length * 48 ≤ 140737488351232 ∧ x.f2.length ≤ maxLen ∧ ∀ z ∈ x.f2, G47 z))
theorem CommitOrder (x0 : Int) (g0 : (Lit.int .i64 x0).wf = true) (x1 : List (S31)) (g1 : (x1.length * 40 ≤ 140737488351232 ∧ x1.length ≤ maxLen ∧ ∀ z ∈ x1, G31 z)) : chapbooklaw14_CommitOrder.f x0 x1 = some true := rfl
end Go.Proofs.Ytjmoncfgoaaekaa.Pure
