/- The law RoundSame of the given program returns true for every input, and leaves its arguments as they were. Condition: the table 'bits' of package prefix holds, when the call begins, what the program's text lays in it (tied by the card). -/
import Derived.Test.YtfpegjdplggkpaaDoorRows
import Derived.Test.YtfpegjdplggkpaaDoorYRoundSameQ19
import Derived.Test.YtfpegjdplggkpaaDoorYRoundSameOpn
import Derived.Test.YtfpegjdplggkpaaDoorYRoundSameRRoundSame
import Derived.Test.YtfpegjdplggkpaaDoorYRoundSameLaidTab
import Derived.Test.YtfpegjdplggkpaaDoorCards
import Derived.SevenTiedAt
import Derived.WalkKit
import Derived.ProofKit
import Derived.OpenShut
import Derived.ShutString
import Derived.ChangeOld
import Derived.Below
import Derived.SizedLaws
namespace Go.Proofs.YtfpegjdplggkpaaDoor.roundSame
open Go.ChangeShapes Go.WideShapes Go.ChangeAt Go.RowKit Go.Proofs.YtfpegjdplggkpaaDoor Go.Proofs.YtfpegjdplggkpaaDoorW.PrintWords Go.Proofs.YtfpegjdplggkpaaDoor.Q Go.Proofs.YtfpegjdplggkpaaDoor.Q Go.Proofs.YtfpegjdplggkpaaDoor.Pure
open Go.ChangeMaps (open_string shut_string)
set_option linter.unusedVariables false
theorem laidOut : laidOutB Tryd.prog = true := by kernel_rfl
theorem op47 : Opn.Opens Tryd.prog 47 k47 (fun x => G47 x) :=
  Opn.opens_struct Tryd.underlying47 rfl (by kernel_rfl) (Opn.opensF_cons (by kernel_rfl) rfl (Opn.opens_string Tryd.underlying9) (Opn.opensF_cons (by kernel_rfl) rfl (Opn.opens_int Tryd.underlying3) (Opn.opensF_cons (by kernel_rfl) rfl (Opn.opens_int Tryd.underlying2) (Opn.opensF_last (by kernel_rfl) (Opn.opens_string Tryd.underlying9))))) (fun x : S47 => (x.f0, x.f1, x.f2, x.f3)) (fun y => ⟨y.1, y.2.1, y.2.2.1, y.2.2.2⟩) (fun _ => rfl)
theorem op24 : Opn.Opens Tryd.prog 24 (Kd.iso (Kd.pair (Kd.int .i64) (Kd.pair (Kd.int .i64) (Kd.slice 47 k47))) (fun x : (Int) × (Int) × (List (S47)) => x)) (fun x => G24 x) :=
  Opn.opens_struct Tryd.underlying24 rfl (by kernel_rfl) (Opn.opensF_cons (by kernel_rfl) rfl (Opn.opens_int Tryd.underlying3) (Opn.opensF_cons (by kernel_rfl) rfl (Opn.opens_int Tryd.underlying3) (Opn.opensF_last (by kernel_rfl) (Opn.opens_slice Tryd.underlying22 (by kernel_rfl) (B := 48) (by kernel_rfl) op47)))) (fun x : (Int) × (Int) × (List (S47)) => x) (fun y => y) (fun _ => rfl)
set_option maxRecDepth 100000 in
theorem lifted (os : Os) (started : os.Started) (H : Type) (enc : TypeId × Value → H) :
    ReturnsInHanded {} Tryd.checked os 9 .any (fun w args => (Rows.roundSameSpec.pre enc Tryd.prog Tryd.f9 [] false w args ∧ laidMetH Tryd.prog laid1 w) ∧ sizedMet enc Tryd.prog Tryd.f9 (OpenSpec.ofChange Rows.roundSameSpec) false w args) (Rows.roundSameSpec.post enc Tryd.prog Tryd.f9 false true false false) := by
  refine returnsInHanded_of_change_and (C := Tryd.checked) (X := fun w _ => laidMetH Tryd.prog laid1 w) (fun _ _ _ hh h => h.of_heap hh) ownKnobs started (by kernel_rfl) Tryd.func9
    (ChangeSpec.witness_shaped (enc := enc) (C := Tryd.checked) (os := os) (X := fun w _ => laidMetH Tryd.prog laid1 w) false (World.doorLaid Tryd.prog 14 os) #[.agg #[.int .i64 0, .int .i64 0, .slice none 0 0], .agg #[.int .i64 0, .int .i64 0, .slice none 0 0]] 8 rfl (World.shaped_of_RefB (by kernel_rfl) (by kernel_rfl)) (by kernel_rfl) (by kernel_rfl) (by kernel_rfl) (door_met os _)) ?_
  intro W base args ds gs before hval0 hW hcnd hsz0 hL _
  have hsz : (DataW.weightsEach Tryd.prog (Tryd.f9.params.toList ++ Rows.roundSameSpec.plain.varTypes Tryd.prog) (ds ++ gs)).all (· ≤ reachBytes) = true := hsz0
  have hval : ∀ (j : Nat) t v, Tryd.f9.params[j]? = some t → args[j]? = some v → Value.okWide Tryd.prog W .any base t v := hval0
  have hW' := hW
  obtain ⟨p, q, hA0, hV, rfl, hfz, hnd⟩ := hW
  have hA : DataW.TrodAll enc Tryd.prog W 0 (fun _ => true) true Tryd.f9.params.toList args.toList ds p := hA0
  rw [Tryd.params9] at hA hval hsz
  obtain ⟨v0, vs0, d0, ds0, p0, q0, hargs, rfl, rfl, h0, r0⟩ := trodAll_cons hA
  obtain ⟨v1, vs1, d1, ds1, p1, q1, rfl, rfl, rfl, h1, r1⟩ := trodAll_cons r0
  obtain ⟨rfl, rfl, rfl⟩ := trodAll_nil r1
  obtain rfl : args = #[v0, v1] := by cases args; simp_all
  obtain ⟨rfl, rfl⟩ := trodVars_none hV
  have trod0 := h0
  have lt0 : ∀ x ∈ p0, x.block < W.heap.size := by obtain ⟨m, hm⟩ := trod0; exact DataW.trod_lt m _ _ _ hm
  obtain ⟨x0, K0, g0⟩ := Opn.arg_open op24 h0 hsz (j := 0) rfl rfl
  obtain ⟨A0_2, c0_2, e0, l0_2, C0_2⟩ : ∃ A0_2 c0_2, v0.cells.toList = [.int .i64 x0.1, .int .i64 x0.2.1, .slice A0_2 x0.2.2.length c0_2] ∧ x0.2.2.length ≤ c0_2 ∧ Kd.C k47 W A0_2 x0.2.2.length x0.2.2 := by
    generalize v0.cells.toList = cs at K0 ⊢
    obtain ⟨_, _, rfl, rfl, ⟨_, _, rfl, rfl, ⟨A0_2, c0_2, rfl, l0_2, C0_2⟩⟩⟩ := K0
    exact ⟨A0_2, c0_2, rfl, l0_2, C0_2⟩
  obtain rfl := Opn.agg_of Tryd.underlying24 (hval 0 24 v0 rfl rfl) e0
  have trod1 := h1
  have lt1 : ∀ x ∈ p1, x.block < W.heap.size := by obtain ⟨m, hm⟩ := trod1; exact DataW.trod_lt m _ _ _ hm
  obtain ⟨x1, K1, g1⟩ := Opn.arg_open op24 h1 hsz (j := 1) rfl rfl
  obtain ⟨A1_2, c1_2, e1, l1_2, C1_2⟩ : ∃ A1_2 c1_2, v1.cells.toList = [.int .i64 x1.1, .int .i64 x1.2.1, .slice A1_2 x1.2.2.length c1_2] ∧ x1.2.2.length ≤ c1_2 ∧ Kd.C k47 W A1_2 x1.2.2.length x1.2.2 := by
    generalize v1.cells.toList = cs at K1 ⊢
    obtain ⟨_, _, rfl, rfl, ⟨_, _, rfl, rfl, ⟨A1_2, c1_2, rfl, l1_2, C1_2⟩⟩⟩ := K1
    exact ⟨A1_2, c1_2, rfl, l1_2, C1_2⟩
  obtain rfl := Opn.agg_of Tryd.underlying24 (hval 1 24 v1 rfl rfl) e1
  clear hA0 hval0 hsz0 hsz
  obtain ⟨k, h⟩ := Pure.RoundSame x0 g0 x1 g1
  refine (Q.chapbooklaw07_RoundSame.calls k x0.1 x0.2.1 A0_2 c0_2 x0.2.2 x1.1 x1.2.1 A1_2 c1_2 x1.2.2 true W (Aside0.mk (tab_of_laid hL)) C0_2 l0_2 C1_2 l1_2 h).mono fun e W' ⟨he, bel⟩ => ?_
  subst he
  exact ⟨_, rfl, _, _, _, [], _, [], hW', trodAll_mk1 (shut_bool Tryd.underlying4 _), (trodAll_cons_mk (Below.trod laidOut (by kernel_rfl) (of_decide_eq_true (by kernel_rfl)) trod0 bel lt0) (trodAll_cons_mk (Below.trod laidOut (by kernel_rfl) (of_decide_eq_true (by kernel_rfl)) trod1 bel lt1) trodAll_mk0)), rfl, bel.frame _, fun h => by cases h⟩
theorem over : Rows.roundSameRow.holds Tryd.pinned (OpenSpec.ofChange Rows.roundSameSpec) :=
  OpenClaim.holds_of_wide 9 Tryd.f9 rfl rfl rfl rfl rfl rfl rfl ⟨rfl, rfl, rfl, rfl, rfl⟩ rfl rfl rfl rfl rfl (by kernel_rfl) Tryd.func9 (by kernel_rfl)
    (of_decide_eq_true (by kernel_rfl)) (by unfold Func.isWrapper; first | (rw [if_pos (by decide +kernel)]; kernel_rfl) | (rw [if_neg (by decide +kernel)]; exact ⟨rfl, rfl⟩))
    (fun os started H enc _ => lifted os started H enc)
theorem card : Rows.RoundSameCardSaid :=
  Claim7.holds_tied_plain_at .later [] [.data] true (true, "6e001c0209925146c87b1b7e61cc3a0150d977e5999501d07eac4793fe281814") false
    over (fun _ h => by cases h) (by kernel_rfl) (fun _ h => by cases h) roundSame_row_tie rfl ⟨rfl, rfl⟩ (by kernel_rfl) rfl
    (fun f fn hf hfn => by
      obtain rfl : f = 9 := Option.some.inj ((show Tryd.prog.funcNamed Rows.roundSameRow.func = some 9 by kernel_rfl).symm.trans hf) |>.symm
      obtain rfl : fn = Tryd.f9 := (Option.some.inj (Tryd.func9.symm.trans hfn)).symm
      refine ⟨by kernel_rfl, fun j t ht => ?_⟩
      have hall : (Tryd.f9.params.toList.all fun t => !Tryd.prog.wantsStandIn t) = true := by kernel_rfl
      have := List.all_eq_true.1 hall t (List.mem_of_getElem? (by simpa using ht))
      exact (Bool.not_eq_true' _).mp this)
    (by kernel_rfl)
end Go.Proofs.YtfpegjdplggkpaaDoor.roundSame
namespace Go.Proofs.YtfpegjdplggkpaaDoor
theorem roundSame_card : Rows.RoundSameCardSaid := roundSame.card
#print axioms roundSame_card
end Go.Proofs.YtfpegjdplggkpaaDoor
