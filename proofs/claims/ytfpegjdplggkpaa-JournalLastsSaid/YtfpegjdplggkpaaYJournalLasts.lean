/- The law JournalLasts of the given program returns true for every input, and leaves its arguments as they were. -/
import Derived.Test.YtfpegjdplggkpaaRows
import Derived.Test.YtfpegjdplggkpaaYJournalLastsHLasts
import Derived.Test.YtfpegjdplggkpaaYJournalLastsOpn
import Derived.Test.YtfpegjdplggkpaaYJournalLastsPJournalLasts
import Derived.WalkKit
import Derived.ProofKit
import Derived.OpenShut
import Derived.ShutString
import Derived.ChangeOld
import Derived.Below
import Derived.SizedLaws
namespace Go.Proofs.Ytfpegjdplggkpaa.journalLasts
open Go.ChangeShapes Go.WideShapes Go.ChangeAt Go.RowKit Go.Proofs.Ytfpegjdplggkpaa Go.Proofs.YtfpegjdplggkpaaW.PrintWords Go.Proofs.Ytfpegjdplggkpaa.J Go.Proofs.Ytfpegjdplggkpaa.Q Go.Proofs.Ytfpegjdplggkpaa.Pure
open Go.ChangeMaps (open_string shut_string)
set_option linter.unusedVariables false
theorem ownKnobs : ownKnob Try.prog.godebug = none := by kernel_rfl
theorem laidOut : laidOutB Try.prog = true := by kernel_rfl
theorem op50 : Opn.Opens Try.prog 50 k50 (fun x => G50 x) :=
  Opn.opens_struct Try.underlying50 rfl (by kernel_rfl) (Opn.opensF_cons (by kernel_rfl) rfl (Opn.opens_string Try.underlying9) (Opn.opensF_cons (by kernel_rfl) rfl (Opn.opens_int Try.underlying3) (Opn.opensF_cons (by kernel_rfl) rfl (Opn.opens_int Try.underlying2) (Opn.opensF_last (by kernel_rfl) (Opn.opens_string Try.underlying9))))) (fun x : S50 => (x.f0, x.f1, x.f2, x.f3)) (fun y => ⟨y.1, y.2.1, y.2.2.1, y.2.2.2⟩) (fun _ => rfl)
set_option maxRecDepth 100000 in
theorem lifted (os : Os) (started : os.Started) (H : Type) (enc : TypeId × Value → H) :
    ReturnsInHanded {} Try.checked os 5 .any (Rows.journalLastsSpec.pre6 enc Try.prog Try.f5 Rows.journalLastsRow.domain false) (Rows.journalLastsSpec.post enc Try.prog Try.f5 false true false false) := by
  refine returnsInHanded_of_change_sized (C := Try.checked) ownKnobs started (by kernel_rfl) Try.func5
    (ChangeSpec.witness6 (enc := enc) (C := Try.checked) false ⟨#[], #[.slice none 0 0], []⟩ 8 (by kernel_rfl) (by kernel_rfl) (by kernel_rfl) (by kernel_rfl)) ?_
  intro W base args ds gs before hval0 hW hcnd hsz0 _
  have hsz : (DataW.weightsEach Try.prog (Try.f5.params.toList ++ Rows.journalLastsSpec.plain.varTypes Try.prog) (ds ++ gs)).all (· ≤ reachBytes) = true := hsz0
  have hval : ∀ (j : Nat) t v, Try.f5.params[j]? = some t → args[j]? = some v → Value.okWide Try.prog W .any base t v := hval0
  have hW' := hW
  obtain ⟨p, q, hA0, hV, rfl, hfz, hnd⟩ := hW
  have hA : DataW.TrodAll enc Try.prog W 0 (fun _ => true) true Try.f5.params.toList args.toList ds p := hA0
  rw [Try.params5] at hA hval hsz
  obtain ⟨v0, vs0, d0, ds0, p0, q0, hargs, rfl, rfl, h0, r0⟩ := trodAll_cons hA
  obtain ⟨rfl, rfl, rfl⟩ := trodAll_nil r0
  obtain rfl : args = #[v0] := by cases args; simp_all
  obtain ⟨rfl, rfl⟩ := trodVars_none hV
  have trod0 := h0
  have lt0 : ∀ x ∈ p0, x.block < W.heap.size := by obtain ⟨m, hm⟩ := trod0; exact DataW.trod_lt m _ _ _ hm
  obtain ⟨x0, K0, g0⟩ := Opn.arg_open (Opn.opens_slice Try.underlying23 (by kernel_rfl) (B := 24) (by kernel_rfl) (Opn.opens_slice Try.underlying30 (by kernel_rfl) (B := 48) (by kernel_rfl) op50)) h0 hsz (j := 0) rfl rfl
  obtain ⟨A0_0, c0_0, e0, l0_0, C0_0⟩ := K0
  obtain rfl := Opn.slice_of Try.underlying23 (hval 0 23 v0 rfl rfl) e0
  clear hA0 hval0 hsz0 hsz
  have h := Pure.JournalLasts x0 g0
  refine (J.chapbooklaw13_JournalLasts.calls A0_0 c0_0 x0 true W C0_0 l0_0 h).mono fun e W' ⟨he, bel⟩ => ?_
  subst he
  exact ⟨_, rfl, _, _, _, [], _, [], hW', trodAll_mk1 (shut_bool Try.underlying4 _), (trodAll_cons_mk (Below.trod laidOut (by kernel_rfl) (of_decide_eq_true (by kernel_rfl)) trod0 bel lt0) trodAll_mk0), rfl, bel.frame _, fun h => by cases h⟩
theorem over : Rows.journalLastsRow.holds Try.pinned (OpenSpec.ofChange Rows.journalLastsSpec) :=
  OpenClaim.holds_of_wide 5 Try.f5 rfl rfl rfl rfl rfl rfl rfl ⟨rfl, rfl, rfl, rfl, rfl⟩ rfl rfl rfl rfl rfl (by kernel_rfl) Try.func5 (by kernel_rfl)
    (of_decide_eq_true (by kernel_rfl)) (by unfold Func.isWrapper; first | (rw [if_pos (by decide +kernel)]; kernel_rfl) | (rw [if_neg (by decide +kernel)]; exact ⟨rfl, rfl⟩))
    (fun os started H enc _ => lifted os started H enc)
end Go.Proofs.Ytfpegjdplggkpaa.journalLasts
namespace Go.Proofs.Ytfpegjdplggkpaa
theorem journalLasts_holds : Rows.JournalLastsSaid := journalLasts.over
#print axioms journalLasts_holds
end Go.Proofs.Ytfpegjdplggkpaa
