/- The law RoundFront of the given program returns true for every input, and leaves its arguments as they were. Condition: the table 'bits' of package prefix holds, when the call begins, what the program's text lays in it (tied by the card). -/
import Derived.Test.YtfpegjdplggkpaaDoorRows
import Derived.Test.YtfpegjdplggkpaaDoorYRoundFrontQ18
import Derived.Test.YtfpegjdplggkpaaDoorYRoundFrontOpn
import Derived.Test.YtfpegjdplggkpaaDoorYRoundFrontRRoundFront
import Derived.Test.YtfpegjdplggkpaaDoorYRoundFrontLaidTab
import Derived.Test.YtfpegjdplggkpaaDoorCards
import Derived.SevenTiedAt
import Derived.WalkKit
import Derived.ProofKit
import Derived.OpenShut
import Derived.ShutString
import Derived.ChangeOld
import Derived.Below
import Derived.SizedLaws
namespace Go.Proofs.YtfpegjdplggkpaaDoor.roundFront
open Go.ChangeShapes Go.WideShapes Go.ChangeAt Go.RowKit Go.Proofs.YtfpegjdplggkpaaDoor Go.Proofs.YtfpegjdplggkpaaDoorW.PrintWords Go.Proofs.YtfpegjdplggkpaaDoor.Q Go.Proofs.YtfpegjdplggkpaaDoor.Q Go.Proofs.YtfpegjdplggkpaaDoor.Pure
open Go.ChangeMaps (open_string shut_string)
set_option linter.unusedVariables false
theorem laidOut : laidOutB Tryd.prog = true := by kernel_rfl
theorem op47 : Opn.Opens Tryd.prog 47 k47 (fun x => G47 x) :=
  Opn.opens_struct Tryd.underlying47 rfl (by kernel_rfl) (Opn.opensF_cons (by kernel_rfl) rfl (Opn.opens_string Tryd.underlying9) (Opn.opensF_cons (by kernel_rfl) rfl (Opn.opens_int Tryd.underlying3) (Opn.opensF_cons (by kernel_rfl) rfl (Opn.opens_int Tryd.underlying2) (Opn.opensF_last (by kernel_rfl) (Opn.opens_string Tryd.underlying9))))) (fun x : S47 => (x.f0, x.f1, x.f2, x.f3)) (fun y => ⟨y.1, y.2.1, y.2.2.1, y.2.2.2⟩) (fun _ => rfl)
theorem op24 : Opn.Opens Tryd.prog 24 (Kd.iso (Kd.pair (Kd.int .i64) (Kd.pair (Kd.int .i64) (Kd.slice 47 k47))) (fun x : (Int) × (Int) × (List (S47)) => x)) (fun x => G24 x) :=
  Opn.opens_struct Tryd.underlying24 rfl (by kernel_rfl) (Opn.opensF_cons (by kernel_rfl) rfl (Opn.opens_int Tryd.underlying3) (Opn.opensF_cons (by kernel_rfl) rfl (Opn.opens_int Tryd.underlying3) (Opn.opensF_last (by kernel_rfl) (Opn.opens_slice Tryd.underlying22 (by kernel_rfl) (B := 48) (by kernel_rfl) op47)))) (fun x : (Int) × (Int) × (List (S47)) => x) (fun y => y) (fun _ => rfl)
set_option maxRecDepth 100000 in
theorem lifted (os : Os) (started : os.Started) (H : Type) (enc : TypeId × Value → H) :
    ReturnsInHanded {} Tryd.checked os 8 .any (fun w args => (Rows.roundFrontSpec.pre enc Tryd.prog Tryd.f8 [] false w args ∧ laidMetH Tryd.prog laid1 w) ∧ sizedMet enc Tryd.prog Tryd.f8 (OpenSpec.ofChange Rows.roundFrontSpec) false w args) (Rows.roundFrontSpec.post enc Tryd.prog Tryd.f8 false true false false) := by
  refine returnsInHanded_of_change_and (C := Tryd.checked) (X := fun w _ => laidMetH Tryd.prog laid1 w) (fun _ _ _ hh h => h.of_heap hh) ownKnobs started (by kernel_rfl) Tryd.func8
    (ChangeSpec.witness_shaped (enc := enc) (C := Tryd.checked) (os := os) (X := fun w _ => laidMetH Tryd.prog laid1 w) false (World.doorLaid Tryd.prog 14 os) #[.agg #[.int .i64 0, .int .i64 0, .slice none 0 0], .int .i64 0, .int .u8 0] 8 rfl (World.shaped_of_RefB (by kernel_rfl) (by kernel_rfl)) (by kernel_rfl) (by kernel_rfl) (by kernel_rfl) (door_met os _)) ?_
  intro W base args ds gs before hval0 hW hcnd hsz0 hL _
  have hsz : (DataW.weightsEach Tryd.prog (Tryd.f8.params.toList ++ Rows.roundFrontSpec.plain.varTypes Tryd.prog) (ds ++ gs)).all (· ≤ reachBytes) = true := hsz0
  have hval : ∀ (j : Nat) t v, Tryd.f8.params[j]? = some t → args[j]? = some v → Value.okWide Tryd.prog W .any base t v := hval0
  have hW' := hW
  obtain ⟨p, q, hA0, hV, rfl, hfz, hnd⟩ := hW
  have hA : DataW.TrodAll enc Tryd.prog W 0 (fun _ => true) true Tryd.f8.params.toList args.toList ds p := hA0
  rw [Tryd.params8] at hA hval hsz
  obtain ⟨v0, vs0, d0, ds0, p0, q0, hargs, rfl, rfl, h0, r0⟩ := trodAll_cons hA
  obtain ⟨v1, vs1, d1, ds1, p1, q1, rfl, rfl, rfl, h1, r1⟩ := trodAll_cons r0
  obtain ⟨v2, vs2, d2, ds2, p2, q2, rfl, rfl, rfl, h2, r2⟩ := trodAll_cons r1
  obtain ⟨rfl, rfl, rfl⟩ := trodAll_nil r2
  obtain rfl : args = #[v0, v1, v2] := by cases args; simp_all
  obtain ⟨rfl, rfl⟩ := trodVars_none hV
  have trod0 := h0
  have lt0 : ∀ x ∈ p0, x.block < W.heap.size := by obtain ⟨m, hm⟩ := trod0; exact DataW.trod_lt m _ _ _ hm
  obtain ⟨x0, K0, g0⟩ := Opn.arg_open op24 h0 hsz (j := 0) rfl rfl
  obtain ⟨A0_2, c0_2, e0, l0_2, C0_2⟩ : ∃ A0_2 c0_2, v0.cells.toList = [.int .i64 x0.1, .int .i64 x0.2.1, .slice A0_2 x0.2.2.length c0_2] ∧ x0.2.2.length ≤ c0_2 ∧ Kd.C k47 W A0_2 x0.2.2.length x0.2.2 := by
    generalize v0.cells.toList = cs at K0 ⊢
    obtain ⟨_, _, rfl, rfl, ⟨_, _, rfl, rfl, ⟨A0_2, c0_2, rfl, l0_2, C0_2⟩⟩⟩ := K0
    exact ⟨A0_2, c0_2, rfl, l0_2, C0_2⟩
  obtain rfl := Opn.agg_of Tryd.underlying24 (hval 0 24 v0 rfl rfl) e0
  have trod1 := h1
  have lt1 : ∀ x ∈ p1, x.block < W.heap.size := by obtain ⟨m, hm⟩ := trod1; exact DataW.trod_lt m _ _ _ hm
  obtain ⟨x1, K1, g1⟩ := Opn.arg_open (Opn.opens_int Tryd.underlying3) h1 hsz (j := 1) rfl rfl
  obtain rfl := Opn.int_of Tryd.underlying3 (hval 1 3 v1 rfl rfl) K1
  have trod2 := h2
  have lt2 : ∀ x ∈ p2, x.block < W.heap.size := by obtain ⟨m, hm⟩ := trod2; exact DataW.trod_lt m _ _ _ hm
  obtain ⟨x2, K2, g2⟩ := Opn.arg_open (Opn.opens_int Tryd.underlying5) h2 hsz (j := 2) rfl rfl
  obtain rfl := Opn.int_of Tryd.underlying5 (hval 2 5 v2 rfl rfl) K2
  clear hA0 hval0 hsz0 hsz
  obtain ⟨k, h⟩ := Pure.RoundFront x0 g0 x1 g1 x2 g2
  refine (Q.chapbooklaw07_RoundFront.calls k x0.1 x0.2.1 A0_2 c0_2 x0.2.2 x1 x2 true W (Aside0.mk (tab_of_laid hL)) C0_2 l0_2 h).mono fun e W' ⟨he, bel⟩ => ?_
  subst he
  exact ⟨_, rfl, _, _, _, [], _, [], hW', trodAll_mk1 (shut_bool Tryd.underlying4 _), (trodAll_cons_mk (Below.trod laidOut (by kernel_rfl) (of_decide_eq_true (by kernel_rfl)) trod0 bel lt0) (trodAll_cons_mk (Below.trod laidOut (by kernel_rfl) (of_decide_eq_true (by kernel_rfl)) trod1 bel lt1) (trodAll_cons_mk (Below.trod laidOut (by kernel_rfl) (of_decide_eq_true (by kernel_rfl)) trod2 bel lt2) trodAll_mk0))), rfl, bel.frame _, fun h => by cases h⟩
theorem over : Rows.roundFrontRow.holds Tryd.pinned (OpenSpec.ofChange Rows.roundFrontSpec) :=
  OpenClaim.holds_of_wide 8 Tryd.f8 rfl rfl rfl rfl rfl rfl rfl ⟨rfl, rfl, rfl, rfl, rfl⟩ rfl rfl rfl rfl rfl (by kernel_rfl) Tryd.func8 (by kernel_rfl)
    (of_decide_eq_true (by kernel_rfl)) (by unfold Func.isWrapper; first | (rw [if_pos (by decide +kernel)]; kernel_rfl) | (rw [if_neg (by decide +kernel)]; exact ⟨rfl, rfl⟩))
    (fun os started H enc _ => lifted os started H enc)
theorem card : Rows.RoundFrontCardSaid :=
  Claim7.holds_tied_plain_at .later [] [.data] true (true, "6e001c0209925146c87b1b7e61cc3a0150d977e5999501d07eac4793fe281814") false
    over (fun _ h => by cases h) (by kernel_rfl) (fun _ h => by cases h) roundFront_row_tie rfl ⟨rfl, rfl⟩ (by kernel_rfl) rfl
    (fun f fn hf hfn => by
      obtain rfl : f = 8 := Option.some.inj ((show Tryd.prog.funcNamed Rows.roundFrontRow.func = some 8 by kernel_rfl).symm.trans hf) |>.symm
      obtain rfl : fn = Tryd.f8 := (Option.some.inj (Tryd.func8.symm.trans hfn)).symm
      refine ⟨by kernel_rfl, fun j t ht => ?_⟩
      have hall : (Tryd.f8.params.toList.all fun t => !Tryd.prog.wantsStandIn t) = true := by kernel_rfl
      have := List.all_eq_true.1 hall t (List.mem_of_getElem? (by simpa using ht))
      exact (Bool.not_eq_true' _).mp this)
    (by kernel_rfl)
end Go.Proofs.YtfpegjdplggkpaaDoor.roundFront
namespace Go.Proofs.YtfpegjdplggkpaaDoor
theorem roundFront_card : Rows.RoundFrontCardSaid := roundFront.card
#print axioms roundFront_card
end Go.Proofs.YtfpegjdplggkpaaDoor
