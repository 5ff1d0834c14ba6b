/- The law CommitOrder of the given program returns true for every input, and leaves its arguments as they were. -/
import Derived.Test.YtjmoncfgoaaekaaRows
import Derived.Test.YtjmoncfgoaaekaaYCommitOrderHOrder
import Derived.Test.YtjmoncfgoaaekaaYCommitOrderOpn
import Derived.Test.YtjmoncfgoaaekaaYCommitOrderPCommitOrder
import Derived.WalkKit
import Derived.ProofKit
import Derived.OpenShut
import Derived.ShutString
import Derived.ChangeOld
import Derived.Below
import Derived.SizedLaws
namespace Go.Proofs.Ytjmoncfgoaaekaa.commitOrder
open Go.ChangeShapes Go.WideShapes Go.ChangeAt Go.RowKit Go.Proofs.Ytjmoncfgoaaekaa Go.Proofs.YtjmoncfgoaaekaaW.PrintWords Go.Proofs.Ytjmoncfgoaaekaa.J Go.Proofs.Ytjmoncfgoaaekaa.Q Go.Proofs.Ytjmoncfgoaaekaa.Pure
open Go.ChangeMaps (open_string shut_string)
set_option linter.unusedVariables false
theorem ownKnobs : ownKnob Try.prog.godebug = none := by kernel_rfl
theorem laidOut : laidOutB Try.prog = true := by kernel_rfl
theorem op47 : Opn.Opens Try.prog 47 k47 (fun x => G47 x) :=
  Opn.opens_struct Try.underlying47 rfl (by kernel_rfl) (Opn.opensF_cons (by kernel_rfl) rfl (Opn.opens_string Try.underlying9) (Opn.opensF_cons (by kernel_rfl) rfl (Opn.opens_int Try.underlying3) (Opn.opensF_cons (by kernel_rfl) rfl (Opn.opens_int Try.underlying2) (Opn.opensF_last (by kernel_rfl) (Opn.opens_string Try.underlying9))))) (fun x : S47 => (x.f0, x.f1, x.f2, x.f3)) (fun y => ⟨y.1, y.2.1, y.2.2.1, y.2.2.2⟩) (fun _ => rfl)
theorem op31 : Opn.Opens Try.prog 31 k31 (fun x => G31 x) :=
  Opn.opens_struct Try.underlying31 rfl (by kernel_rfl) (Opn.opensF_cons (by kernel_rfl) rfl (Opn.opens_int Try.underlying3) (Opn.opensF_cons (by kernel_rfl) rfl (Opn.opens_int Try.underlying3) (Opn.opensF_last (by kernel_rfl) (Opn.opens_slice Try.underlying29 (by kernel_rfl) (B := 48) (by kernel_rfl) op47)))) (fun x : S31 => (x.f0, x.f1, x.f2)) (fun y => ⟨y.1, y.2.1, y.2.2⟩) (fun _ => rfl)
set_option maxRecDepth 100000 in
theorem lifted (os : Os) (started : os.Started) (H : Type) (enc : TypeId × Value → H) :
    ReturnsInHanded {} Try.checked os 6 .any (Rows.commitOrderSpec.pre6 enc Try.prog Try.f6 Rows.commitOrderRow.domain false) (Rows.commitOrderSpec.post enc Try.prog Try.f6 false true false false) := by
  refine returnsInHanded_of_change_sized (C := Try.checked) ownKnobs started (by kernel_rfl) Try.func6
    (ChangeSpec.witness6 (enc := enc) (C := Try.checked) false ⟨#[], #[.int .i64 0, .slice none 0 0], []⟩ 8 (by kernel_rfl) (by kernel_rfl) (by kernel_rfl) (by kernel_rfl)) ?_
  intro W base args ds gs before hval0 hW hcnd hsz0 _
  have hsz : (DataW.weightsEach Try.prog (Try.f6.params.toList ++ Rows.commitOrderSpec.plain.varTypes Try.prog) (ds ++ gs)).all (· ≤ reachBytes) = true := hsz0
  have hval : ∀ (j : Nat) t v, Try.f6.params[j]? = some t → args[j]? = some v → Value.okWide Try.prog W .any base t v := hval0
  have hW' := hW
  obtain ⟨p, q, hA0, hV, rfl, hfz, hnd⟩ := hW
  have hA : DataW.TrodAll enc Try.prog W 0 (fun _ => true) true Try.f6.params.toList args.toList ds p := hA0
  rw [Try.params6] at hA hval hsz
  obtain ⟨v0, vs0, d0, ds0, p0, q0, hargs, rfl, rfl, h0, r0⟩ := trodAll_cons hA
  obtain ⟨v1, vs1, d1, ds1, p1, q1, rfl, rfl, rfl, h1, r1⟩ := trodAll_cons r0
  obtain ⟨rfl, rfl, rfl⟩ := trodAll_nil r1
  obtain rfl : args = #[v0, v1] := by cases args; simp_all
  obtain ⟨rfl, rfl⟩ := trodVars_none hV
  have trod0 := h0
  have lt0 : ∀ x ∈ p0, x.block < W.heap.size := by obtain ⟨m, hm⟩ := trod0; exact DataW.trod_lt m _ _ _ hm
  obtain ⟨x0, K0, g0⟩ := Opn.arg_open (Opn.opens_int Try.underlying3) h0 hsz (j := 0) rfl rfl
  obtain rfl := Opn.int_of Try.underlying3 (hval 0 3 v0 rfl rfl) K0
  have trod1 := h1
  have lt1 : ∀ x ∈ p1, x.block < W.heap.size := by obtain ⟨m, hm⟩ := trod1; exact DataW.trod_lt m _ _ _ hm
  obtain ⟨x1, K1, g1⟩ := Opn.arg_open (Opn.opens_slice Try.underlying22 (by kernel_rfl) (B := 40) (by kernel_rfl) op31) h1 hsz (j := 1) rfl rfl
  obtain ⟨A1_0, c1_0, e1, l1_0, C1_0⟩ := K1
  obtain rfl := Opn.slice_of Try.underlying22 (hval 1 22 v1 rfl rfl) e1
  clear hA0 hval0 hsz0 hsz
  have h := Pure.CommitOrder x0 g0 x1 g1
  refine (J.chapbooklaw14_CommitOrder.calls x0 A1_0 c1_0 x1 true W C1_0 l1_0 h).mono fun e W' ⟨he, bel⟩ => ?_
  subst he
  exact ⟨_, rfl, _, _, _, [], _, [], hW', trodAll_mk1 (shut_bool Try.underlying4 _), (trodAll_cons_mk (Below.trod laidOut (by kernel_rfl) (of_decide_eq_true (by kernel_rfl)) trod0 bel lt0) (trodAll_cons_mk (Below.trod laidOut (by kernel_rfl) (of_decide_eq_true (by kernel_rfl)) trod1 bel lt1) trodAll_mk0)), rfl, bel.frame _, fun h => by cases h⟩
theorem over : Rows.commitOrderRow.holds Try.pinned (OpenSpec.ofChange Rows.commitOrderSpec) :=
  OpenClaim.holds_of_wide 6 Try.f6 rfl rfl rfl rfl rfl rfl rfl ⟨rfl, rfl, rfl, rfl, rfl⟩ rfl rfl rfl rfl rfl (by kernel_rfl) Try.func6 (by kernel_rfl)
    (of_decide_eq_true (by kernel_rfl)) (by unfold Func.isWrapper; first | (rw [if_pos (by decide +kernel)]; kernel_rfl) | (rw [if_neg (by decide +kernel)]; exact ⟨rfl, rfl⟩))
    (fun os started H enc _ => lifted os started H enc)
end Go.Proofs.Ytjmoncfgoaaekaa.commitOrder
namespace Go.Proofs.Ytjmoncfgoaaekaa
theorem commitOrder_holds : Rows.CommitOrderSaid := commitOrder.over
#print axioms commitOrder_holds
end Go.Proofs.Ytjmoncfgoaaekaa
