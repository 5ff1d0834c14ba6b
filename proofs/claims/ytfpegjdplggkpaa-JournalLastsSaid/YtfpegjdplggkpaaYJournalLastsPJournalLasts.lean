/- The plain part of the law JournalLasts: its contract says true at once. -/
import Derived.Test.YtfpegjdplggkpaaYJournalLastsHLasts
namespace Go.Proofs.Ytfpegjdplggkpaa.Pure
set_option linter.unusedVariables false
open Go Go.RowKit Go.Proofs.YtfpegjdplggkpaaW.PrintWords Go.Proofs.Ytfpegjdplggkpaa.Q Go.Proofs.Ytfpegjdplggkpaa.J
def G50 (x : S50) : Prop := (x.f0.size ≤ 140737488351232) ∧ ((Lit.int .i64 x.f1).wf = true) ∧ ((Lit.int .i64 x.f2).wf = true) ∧ (x.f3.size ≤ 140737488351232)
theorem JournalLasts (x0 : List (List (S50))) (g0 : (x0.length * 24 ≤ 140737488351232 ∧ x0.length ≤ maxLen ∧ ∀ z ∈ x0, (z.length * 48 ≤ 140737488351232 ∧ z.length ≤ maxLen ∧ ∀ zz ∈ z, G50 zz))) : chapbooklaw13_JournalLasts.f x0 = some true := rfl
end Go.Proofs.Ytfpegjdplggkpaa.Pure
