/- The plain part of the law ValueSteady: its contract says true at once. -/
import Derived.Test.YtcmldinhecjcmaaYValueSteadyHSteady
namespace Go.Proofs.Ytcmldinhecjcmaa.Pure
set_option linter.unusedVariables false
open Go Go.RowKit Go.Proofs.YtcmldinhecjcmaaW.PrintWords Go.Proofs.Ytcmldinhecjcmaa.Q Go.Proofs.Ytcmldinhecjcmaa.J
def G39 (x : (Int) × (Int) × (Int)) : Prop := ((Lit.int .i64 x.1).wf = true) ∧ ((Lit.int .i64 x.2.1).wf = true) ∧ ((Lit.int .i64 x.2.2).wf = true)
def G40 (x : (ByteArray) × (ByteArray) × (ByteArray)) : Prop := (x.1.size ≤ 140737488351232) ∧ (x.2.1.size ≤ 140737488351232) ∧ (x.2.2.size ≤ 140737488351232)
theorem ValueSteady (x0 : (Int) × (Int) × (Int)) (g0 : G39 x0) (x1 : (ByteArray) × (ByteArray) × (ByteArray)) (g1 : G40 x1) : chapbooklaw04_ValueSteady.f x0.1 x0.2.1 x0.2.2 x1.1 x1.2.1 x1.2.2 = some true := by unfold chapbooklaw04_ValueSteady.f; exact if_pos g0
end Go.Proofs.Ytcmldinhecjcmaa.Pure
