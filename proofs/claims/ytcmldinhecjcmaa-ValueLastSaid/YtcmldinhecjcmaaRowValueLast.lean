/- The law ValueLast of the given program returns true for every input, and leaves its arguments as they were. -/
import Derived.Test.YtcmldinhecjcmaaRows
import Derived.Test.YtcmldinhecjcmaaQ9
import Derived.Test.YtcmldinhecjcmaaOpn
import Derived.Test.YtcmldinhecjcmaaVLast
import Derived.WalkKit
import Derived.ProofKit
import Derived.OpenShut
import Derived.ShutString
import Derived.ChangeOld
import Derived.Below
import Derived.SizedLaws
namespace Go.Proofs.Ytcmldinhecjcmaa.valueLast
open Go.ChangeShapes Go.WideShapes Go.ChangeAt Go.RowKit Go.Proofs.Ytcmldinhecjcmaa Go.Proofs.YtcmldinhecjcmaaW.PrintWords Go.Proofs.Ytcmldinhecjcmaa.Q Go.Proofs.Ytcmldinhecjcmaa.Pure
open Go.ChangeMaps (open_string shut_string)
set_option linter.unusedVariables false
theorem ownKnobs : ownKnob Try.prog.godebug = none := by kernel_rfl
theorem laidOut : laidOutB Try.prog = true := by kernel_rfl
theorem op23 : Opn.Opens Try.prog 23 (Kd.iso (Kd.pair (Kd.int .i64) (Kd.pair (Kd.int .i64) Kd.string)) (fun x : (Int) × (Int) × (ByteArray) => x)) (fun x => G23 x) :=
  Opn.opens_struct Try.underlying23 rfl (by kernel_rfl) (Opn.opensF_cons (by kernel_rfl) rfl (Opn.opens_int Try.underlying3) (Opn.opensF_cons (by kernel_rfl) rfl (Opn.opens_int Try.underlying2) (Opn.opensF_last (by kernel_rfl) (Opn.opens_string Try.underlying9)))) (fun x : (Int) × (Int) × (ByteArray) => x) (fun y => y) (fun _ => rfl)
theorem op25 : Opn.Opens Try.prog 25 k25 (fun x => G25 x) :=
  Opn.opens_struct Try.underlying25 rfl (by kernel_rfl) (Opn.opensF_cons (by kernel_rfl) rfl (Opn.opens_string Try.underlying9) (Opn.opensF_cons (by kernel_rfl) rfl (Opn.opens_int Try.underlying3) (Opn.opensF_cons (by kernel_rfl) rfl (Opn.opens_int Try.underlying2) (Opn.opensF_last (by kernel_rfl) (Opn.opens_string Try.underlying9))))) (fun x : S25 => (x.f0, x.f1, x.f2, x.f3)) (fun y => ⟨y.1, y.2.1, y.2.2.1, y.2.2.2⟩) (fun _ => rfl)
set_option maxRecDepth 100000 in
theorem lifted (os : Os) (started : os.Started) (H : Type) (enc : TypeId × Value → H) :
    ReturnsInHanded {} Try.checked os 6 .any (Rows.valueLastSpec.pre6 enc Try.prog Try.f6 Rows.valueLastRow.domain false) (Rows.valueLastSpec.post enc Try.prog Try.f6 false true false false) := by
  refine returnsInHanded_of_change_sized (C := Try.checked) ownKnobs started (by kernel_rfl) Try.func6
    (ChangeSpec.witness6 (enc := enc) (C := Try.checked) false ⟨#[], #[.agg #[.int .i64 0, .int .i64 0, .string ByteArray.empty], .agg #[.int .i64 0, .int .i64 0, .string ByteArray.empty], .agg #[.string ByteArray.empty, .int .i64 0, .int .i64 0, .string ByteArray.empty]], []⟩ 8 (by kernel_rfl) (by kernel_rfl) (by kernel_rfl) (by kernel_rfl)) ?_
  intro W base args ds gs before hval0 hW hcnd hsz0 _
  have hsz : (DataW.weightsEach Try.prog (Try.f6.params.toList ++ Rows.valueLastSpec.plain.varTypes Try.prog) (ds ++ gs)).all (· ≤ reachBytes) = true := hsz0
  have hval : ∀ (j : Nat) t v, Try.f6.params[j]? = some t → args[j]? = some v → Value.okWide Try.prog W .any base t v := hval0
  have hW' := hW
  obtain ⟨p, q, hA0, hV, rfl, hfz, hnd⟩ := hW
  have hA : DataW.TrodAll enc Try.prog W 0 (fun _ => true) true Try.f6.params.toList args.toList ds p := hA0
  rw [Try.params6] at hA hval hsz
  obtain ⟨v0, vs0, d0, ds0, p0, q0, hargs, rfl, rfl, h0, r0⟩ := trodAll_cons hA
  obtain ⟨v1, vs1, d1, ds1, p1, q1, rfl, rfl, rfl, h1, r1⟩ := trodAll_cons r0
  obtain ⟨v2, vs2, d2, ds2, p2, q2, rfl, rfl, rfl, h2, r2⟩ := trodAll_cons r1
  obtain ⟨rfl, rfl, rfl⟩ := trodAll_nil r2
  obtain rfl : args = #[v0, v1, v2] := by cases args; simp_all
  obtain ⟨rfl, rfl⟩ := trodVars_none hV
  have trod0 := h0
  have lt0 : ∀ x ∈ p0, x.block < W.heap.size := by obtain ⟨m, hm⟩ := trod0; exact DataW.trod_lt m _ _ _ hm
  obtain ⟨x0, K0, g0⟩ := Opn.arg_open op23 h0 hsz (j := 0) rfl rfl
  obtain e0 : v0.cells.toList = [.int .i64 x0.1, .int .i64 x0.2.1, .string x0.2.2] := by
    generalize v0.cells.toList = cs at K0 ⊢
    obtain ⟨_, _, rfl, rfl, ⟨_, _, rfl, rfl, rfl⟩⟩ := K0
    exact rfl
  obtain rfl := Opn.agg_of Try.underlying23 (hval 0 23 v0 rfl rfl) e0
  have trod1 := h1
  have lt1 : ∀ x ∈ p1, x.block < W.heap.size := by obtain ⟨m, hm⟩ := trod1; exact DataW.trod_lt m _ _ _ hm
  obtain ⟨x1, K1, g1⟩ := Opn.arg_open op23 h1 hsz (j := 1) rfl rfl
  obtain e1 : v1.cells.toList = [.int .i64 x1.1, .int .i64 x1.2.1, .string x1.2.2] := by
    generalize v1.cells.toList = cs at K1 ⊢
    obtain ⟨_, _, rfl, rfl, ⟨_, _, rfl, rfl, rfl⟩⟩ := K1
    exact rfl
  obtain rfl := Opn.agg_of Try.underlying23 (hval 1 23 v1 rfl rfl) e1
  have trod2 := h2
  have lt2 : ∀ x ∈ p2, x.block < W.heap.size := by obtain ⟨m, hm⟩ := trod2; exact DataW.trod_lt m _ _ _ hm
  obtain ⟨x2, K2, g2⟩ := Opn.arg_open op25 h2 hsz (j := 2) rfl rfl
  obtain e2 : v2.cells.toList = [.string x2.f0, .int .i64 x2.f1, .int .i64 x2.f2, .string x2.f3] := by
    generalize v2.cells.toList = cs at K2 ⊢
    obtain ⟨_, _, rfl, rfl, ⟨_, _, rfl, rfl, ⟨_, _, rfl, rfl, rfl⟩⟩⟩ := K2
    exact rfl
  obtain rfl := Opn.agg_of Try.underlying25 (hval 2 25 v2 rfl rfl) e2
  clear hA0 hval0 hsz0 hsz
  obtain ⟨k, h⟩ := Pure.ValueLast x0 g0 x1 g1 x2 g2
  refine (Q.chapbooklaw04_ValueLast.calls k x0.1 x0.2.1 x0.2.2 x1.1 x1.2.1 x1.2.2 x2.f0 x2.f1 x2.f2 x2.f3 true W h).mono fun e W' ⟨he, bel⟩ => ?_
  subst he
  exact ⟨_, rfl, _, _, _, [], _, [], hW', trodAll_mk1 (shut_bool Try.underlying4 _), (trodAll_cons_mk (Below.trod laidOut (by kernel_rfl) (of_decide_eq_true (by kernel_rfl)) trod0 bel lt0) (trodAll_cons_mk (Below.trod laidOut (by kernel_rfl) (of_decide_eq_true (by kernel_rfl)) trod1 bel lt1) (trodAll_cons_mk (Below.trod laidOut (by kernel_rfl) (of_decide_eq_true (by kernel_rfl)) trod2 bel lt2) trodAll_mk0))), rfl, bel.frame _, fun h => by cases h⟩
theorem over : Rows.valueLastRow.holds Try.pinned (OpenSpec.ofChange Rows.valueLastSpec) :=
  OpenClaim.holds_of_wide 6 Try.f6 rfl rfl rfl rfl rfl rfl rfl ⟨rfl, rfl, rfl, rfl, rfl⟩ rfl rfl rfl rfl rfl (by kernel_rfl) Try.func6 (by kernel_rfl)
    (of_decide_eq_true (by kernel_rfl)) (by unfold Func.isWrapper; first | (rw [if_pos (by decide +kernel)]; kernel_rfl) | (rw [if_neg (by decide +kernel)]; exact ⟨rfl, rfl⟩))
    (fun os started H enc _ => lifted os started H enc)
end Go.Proofs.Ytcmldinhecjcmaa.valueLast
namespace Go.Proofs.Ytcmldinhecjcmaa
/-- The row, under a short name, for the claim. -/
theorem valueLast_holds : Rows.ValueLastSaid := valueLast.over
#print axioms valueLast_holds
end Go.Proofs.Ytcmldinhecjcmaa
