/- The plain part of the law JournalNumbers: its contract says true at once. -/
import Derived.Test.YtfpegjdplggkpaaYJournalNumbersHNumbers
namespace Go.Proofs.Ytfpegjdplggkpaa.Pure
set_option linter.unusedVariables false
open Go Go.RowKit Go.Proofs.YtfpegjdplggkpaaW.PrintWords Go.Proofs.Ytfpegjdplggkpaa.Q Go.Proofs.Ytfpegjdplggkpaa.J
def G22 (x : (Int) × (Int)) : Prop := ((Lit.int .i64 x.1).wf = true) ∧ ((Lit.int .i64 x.2).wf = true)
def G50 (x : S50) : Prop := (x.f0.size ≤ 140737488351232) ∧ ((Lit.int .i64 x.f1).wf = true) ∧ ((Lit.int .i64 x.f2).wf = true) ∧ (x.f3.size ≤ 140737488351232)
theorem JournalNumbers (x0 : (Int) × (Int)) (g0 : G22 x0) (x1 : List (List (S50))) (g1 : (x1.length * 24 ≤ 140737488351232 ∧ x1.length ≤ maxLen ∧ ∀ z ∈ x1, (z.length * 48 ≤ 140737488351232 ∧ z.length ≤ maxLen ∧ ∀ zz ∈ z, G50 zz))) (x2 : Int) (g2 : (Lit.int .i64 x2).wf = true) : chapbooklaw13_JournalNumbers.f x0.1 x0.2 x1 x2 = some true := rfl
end Go.Proofs.Ytfpegjdplggkpaa.Pure
