/- The plain part of the law CommitMix: its contract says true at once. -/
import Derived.Test.YtjmoncfgoaaekaaYCommitMixHMix
namespace Go.Proofs.Ytjmoncfgoaaekaa.Pure
set_option linter.unusedVariables false
open Go Go.RowKit Go.Proofs.YtjmoncfgoaaekaaW.PrintWords Go.Proofs.Ytjmoncfgoaaekaa.Q Go.Proofs.Ytjmoncfgoaaekaa.J
def G47 (x : S47) : Prop := (x.f0.size ≤ 140737488351232) ∧ ((Lit.int .i64 x.f1).wf = true) ∧ ((Lit.int .i64 x.f2).wf = true) ∧ (x.f3.size ≤ 140737488351232)
def G31 (x : S31) : Prop := ((Lit.int .i64 x.f0).wf = true) ∧ ((Lit.int .i64 x.f1).wf = true) ∧ ((x.f2.length * 48 ≤ 140737488351232 ∧ x.f2.length ≤ maxLen ∧ ∀ z ∈ x.f2, G47 z))
theorem CommitMix (x0 : List (S31)) (g0 : (x0.length * 40 ≤ 140737488351232 ∧ x0.length ≤ maxLen ∧ ∀ z ∈ x0, G31 z)) (x1 : Int) (g1 : (Lit.int .u8 x1).wf = true) : chapbooklaw14_CommitMix.f x0 x1 = some true := by unfold chapbooklaw14_CommitMix.f; rw [if_pos g1]
end Go.Proofs.Ytjmoncfgoaaekaa.Pure
