/- The law ValueSteady of the given program returns true for every input, and leaves its arguments as they were. -/
import Derived.Test.YtcmldinhecjcmaaRows
import Derived.Test.YtcmldinhecjcmaaYValueSteadyHSteady
import Derived.Test.YtcmldinhecjcmaaYValueSteadyOpn
import Derived.Test.YtcmldinhecjcmaaYValueSteadyPValueSteady
import Derived.WalkKit
import Derived.ProofKit
import Derived.OpenShut
import Derived.ShutString
import Derived.ChangeOld
import Derived.Below
import Derived.SizedLaws
namespace Go.Proofs.Ytcmldinhecjcmaa.valueSteady
open Go.ChangeShapes Go.WideShapes Go.ChangeAt Go.RowKit Go.Proofs.Ytcmldinhecjcmaa Go.Proofs.YtcmldinhecjcmaaW.PrintWords Go.Proofs.Ytcmldinhecjcmaa.J Go.Proofs.Ytcmldinhecjcmaa.Q Go.Proofs.Ytcmldinhecjcmaa.Pure
open Go.ChangeMaps (open_string shut_string)
set_option linter.unusedVariables false
theorem ownKnobs : ownKnob Try.prog.godebug = none := by kernel_rfl
theorem laidOut : laidOutB Try.prog = true := by kernel_rfl
theorem op39 : Opn.Opens Try.prog 39 (Kd.iso (Kd.pair (Kd.int .i64) (Kd.pair (Kd.int .i64) (Kd.int .i64))) (fun x : (Int) × (Int) × (Int) => x)) (fun x => G39 x) :=
  Opn.opens_array Try.underlying39 (by kernel_rfl) (by kernel_rfl) (Opn.opensF_cons (by kernel_rfl) rfl (Opn.opens_int Try.underlying2) (Opn.opensF_cons (by kernel_rfl) rfl (Opn.opens_int Try.underlying2) (Opn.opensF_last (by kernel_rfl) (Opn.opens_int Try.underlying2)))) (fun x : (Int) × (Int) × (Int) => x) (fun y => y) (fun _ => rfl)
theorem op40 : Opn.Opens Try.prog 40 (Kd.iso (Kd.pair Kd.string (Kd.pair Kd.string Kd.string)) (fun x : (ByteArray) × (ByteArray) × (ByteArray) => x)) (fun x => G40 x) :=
  Opn.opens_array Try.underlying40 (by kernel_rfl) (by kernel_rfl) (Opn.opensF_cons (by kernel_rfl) rfl (Opn.opens_string Try.underlying9) (Opn.opensF_cons (by kernel_rfl) rfl (Opn.opens_string Try.underlying9) (Opn.opensF_last (by kernel_rfl) (Opn.opens_string Try.underlying9)))) (fun x : (ByteArray) × (ByteArray) × (ByteArray) => x) (fun y => y) (fun _ => rfl)
set_option maxRecDepth 100000 in
theorem lifted (os : Os) (started : os.Started) (H : Type) (enc : TypeId × Value → H) :
    ReturnsInHanded {} Try.checked os 7 .any (Rows.valueSteadySpec.pre6 enc Try.prog Try.f7 Rows.valueSteadyRow.domain false) (Rows.valueSteadySpec.post enc Try.prog Try.f7 false true false false) := by
  refine returnsInHanded_of_change_sized (C := Try.checked) ownKnobs started (by kernel_rfl) Try.func7
    (ChangeSpec.witness6 (enc := enc) (C := Try.checked) false ⟨#[], #[.agg #[.int .i64 0, .int .i64 0, .int .i64 0], .agg #[.string ByteArray.empty, .string ByteArray.empty, .string ByteArray.empty]], []⟩ 8 (by kernel_rfl) (by kernel_rfl) (by kernel_rfl) (by kernel_rfl)) ?_
  intro W base args ds gs before hval0 hW hcnd hsz0 _
  have hsz : (DataW.weightsEach Try.prog (Try.f7.params.toList ++ Rows.valueSteadySpec.plain.varTypes Try.prog) (ds ++ gs)).all (· ≤ reachBytes) = true := hsz0
  have hval : ∀ (j : Nat) t v, Try.f7.params[j]? = some t → args[j]? = some v → Value.okWide Try.prog W .any base t v := hval0
  have hW' := hW
  obtain ⟨p, q, hA0, hV, rfl, hfz, hnd⟩ := hW
  have hA : DataW.TrodAll enc Try.prog W 0 (fun _ => true) true Try.f7.params.toList args.toList ds p := hA0
  rw [Try.params7] at hA hval hsz
  obtain ⟨v0, vs0, d0, ds0, p0, q0, hargs, rfl, rfl, h0, r0⟩ := trodAll_cons hA
  obtain ⟨v1, vs1, d1, ds1, p1, q1, rfl, rfl, rfl, h1, r1⟩ := trodAll_cons r0
  obtain ⟨rfl, rfl, rfl⟩ := trodAll_nil r1
  obtain rfl : args = #[v0, v1] := by cases args; simp_all
  obtain ⟨rfl, rfl⟩ := trodVars_none hV
  have trod0 := h0
  have lt0 : ∀ x ∈ p0, x.block < W.heap.size := by obtain ⟨m, hm⟩ := trod0; exact DataW.trod_lt m _ _ _ hm
  obtain ⟨x0, K0, g0⟩ := Opn.arg_open op39 h0 hsz (j := 0) rfl rfl
  obtain e0 : v0.cells.toList = [.int .i64 x0.1, .int .i64 x0.2.1, .int .i64 x0.2.2] := by
    generalize v0.cells.toList = cs at K0 ⊢
    obtain ⟨_, _, rfl, rfl, ⟨_, _, rfl, rfl, rfl⟩⟩ := K0
    exact rfl
  obtain rfl := Opn.agg_of_array Try.underlying39 (hval 0 39 v0 rfl rfl) e0
  have trod1 := h1
  have lt1 : ∀ x ∈ p1, x.block < W.heap.size := by obtain ⟨m, hm⟩ := trod1; exact DataW.trod_lt m _ _ _ hm
  obtain ⟨x1, K1, g1⟩ := Opn.arg_open op40 h1 hsz (j := 1) rfl rfl
  obtain e1 : v1.cells.toList = [.string x1.1, .string x1.2.1, .string x1.2.2] := by
    generalize v1.cells.toList = cs at K1 ⊢
    obtain ⟨_, _, rfl, rfl, ⟨_, _, rfl, rfl, rfl⟩⟩ := K1
    exact rfl
  obtain rfl := Opn.agg_of_array Try.underlying40 (hval 1 40 v1 rfl rfl) e1
  clear hA0 hval0 hsz0 hsz
  have h := Pure.ValueSteady x0 g0 x1 g1
  refine (J.chapbooklaw04_ValueSteady.calls x0.1 x0.2.1 x0.2.2 x1.1 x1.2.1 x1.2.2 true W h).mono fun e W' ⟨he, bel⟩ => ?_
  subst he
  exact ⟨_, rfl, _, _, _, [], _, [], hW', trodAll_mk1 (shut_bool Try.underlying4 _), (trodAll_cons_mk (Below.trod laidOut (by kernel_rfl) (of_decide_eq_true (by kernel_rfl)) trod0 bel lt0) (trodAll_cons_mk (Below.trod laidOut (by kernel_rfl) (of_decide_eq_true (by kernel_rfl)) trod1 bel lt1) trodAll_mk0)), rfl, bel.frame _, fun h => by cases h⟩
theorem over : Rows.valueSteadyRow.holds Try.pinned (OpenSpec.ofChange Rows.valueSteadySpec) :=
  OpenClaim.holds_of_wide 7 Try.f7 rfl rfl rfl rfl rfl rfl rfl ⟨rfl, rfl, rfl, rfl, rfl⟩ rfl rfl rfl rfl rfl (by kernel_rfl) Try.func7 (by kernel_rfl)
    (of_decide_eq_true (by kernel_rfl)) (by unfold Func.isWrapper; first | (rw [if_pos (by decide +kernel)]; kernel_rfl) | (rw [if_neg (by decide +kernel)]; exact ⟨rfl, rfl⟩))
    (fun os started H enc _ => lifted os started H enc)
end Go.Proofs.Ytcmldinhecjcmaa.valueSteady
namespace Go.Proofs.Ytcmldinhecjcmaa
theorem valueSteady_holds : Rows.ValueSteadySaid := valueSteady.over
#print axioms valueSteady_holds
end Go.Proofs.Ytcmldinhecjcmaa
