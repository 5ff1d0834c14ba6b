/- The law ModelPlays of the given program returns true for every input, and leaves its arguments as they were. Condition: the table 'bits' of package prefix holds, when the call begins, what the program's text lays in it (tied by the card). -/
import Derived.Test.YtjdenpmaianmfaaDoorY6Opn
import Derived.Test.YtjdenpmaianmfaaDoorY6PModelPlays
import Derived.Test.YtjdenpmaianmfaaDoorY6LaidTab
import Derived.Test.YtjdenpmaianmfaaDoorCards
import Derived.SevenTiedAt
import Derived.ShutString
import Derived.ChangeOld
namespace Go.Proofs.YtjdenpmaianmfaaDoor.modelPlays
open Go.ChangeShapes Go.WideShapes Go.ChangeAt RowKit YtjdenpmaianmfaaDoor YtjdenpmaianmfaaDoorW.PrintWords J Q YtjdenpmaianmfaaDoor.Pure
open Go.ChangeMaps (open_string shut_string)
set_option linter.unusedVariables false
theorem laidOut : laidOutB Tryd.prog = true := by kernel_rfl
theorem op68 : Opn.Opens Tryd.prog 68 (Kd.iso (Kd.pair (Kd.int .i64) (Kd.pair (Kd.int .i64) (Kd.pair (Kd.int .i64) (Kd.pair (Kd.int .i64) (Kd.pair (Kd.int .i64) (Kd.int .i64)))))) (fun x : (Int) × (Int) × (Int) × (Int) × (Int) × (Int) => x)) (fun x => G68 x) :=
 Opn.opens_struct Tryd.underlying68 rfl (by kernel_rfl) (Opn.opensF_cons (by kernel_rfl) rfl (Opn.opens_int Tryd.underlying3) (Opn.opensF_cons (by kernel_rfl) rfl (Opn.opens_int Tryd.underlying3) (Opn.opensF_cons (by kernel_rfl) rfl (Opn.opens_int Tryd.underlying3) (Opn.opensF_cons (by kernel_rfl) rfl (Opn.opens_int Tryd.underlying3) (Opn.opensF_cons (by kernel_rfl) rfl (Opn.opens_int Tryd.underlying3) (Opn.opensF_last (by kernel_rfl) (Opn.opens_int Tryd.underlying3))))))) (fun x : (Int) × (Int) × (Int) × (Int) × (Int) × (Int) => x) (fun y => y) (fun _ => rfl)
theorem op32 : Opn.Opens Tryd.prog 32 k32 (fun x => G32 x) :=
 Opn.opens_struct Tryd.underlying32 rfl (by kernel_rfl) (Opn.opensF_cons (by kernel_rfl) rfl (Opn.opens_string Tryd.underlying9) (Opn.opensF_cons (by kernel_rfl) rfl (Opn.opens_int Tryd.underlying3) (Opn.opensF_cons (by kernel_rfl) rfl (Opn.opens_int Tryd.underlying2) (Opn.opensF_last (by kernel_rfl) (Opn.opens_string Tryd.underlying9))))) (fun x : S32 => (x.f0, x.f1, x.f2, x.f3)) (fun y => ⟨y.1, y.2.1, y.2.2.1, y.2.2.2⟩) (fun _ => rfl)
theorem op83 : Opn.Opens Tryd.prog 83 k83 (fun x => G83 x) :=
 Opn.opens_struct Tryd.underlying83 rfl (by kernel_rfl) (Opn.opensF_cons (by kernel_rfl) rfl (Opn.opens_int Tryd.underlying3) (Opn.opensF_cons (by kernel_rfl) rfl (Opn.opens_int Tryd.underlying3) (Opn.opensF_cons (by kernel_rfl) rfl op32 (Opn.opensF_cons (by kernel_rfl) rfl (Opn.opens_string Tryd.underlying9) (Opn.opensF_cons (by kernel_rfl) rfl (Opn.opens_int Tryd.underlying3) (Opn.opensF_cons (by kernel_rfl) rfl (Opn.opens_int Tryd.underlying3) (Opn.opensF_last (by kernel_rfl) (Opn.opens_int Tryd.underlying81)))))))) (fun x : S83 => (x.f0, x.f1, x.f2, x.f3, x.f4, x.f5, x.f6)) (fun y => ⟨y.1, y.2.1, y.2.2.1, y.2.2.2.1, y.2.2.2.2.1, y.2.2.2.2.2.1, y.2.2.2.2.2.2⟩) (fun _ => rfl)
theorem op88 : Opn.Opens Tryd.prog 88 k88 (fun x => G88 x) :=
 Opn.opens_struct Tryd.underlying88 rfl (by kernel_rfl) (Opn.opensF_cons (by kernel_rfl) rfl op83 (Opn.opensF_cons (by kernel_rfl) rfl (Opn.opens_int Tryd.underlying3) (Opn.opensF_last (by kernel_rfl) (Opn.opens_int Tryd.underlying3)))) (fun x : S88 => (x.f0, x.f1, x.f2)) (fun y => ⟨y.1, y.2.1, y.2.2⟩) (fun _ => rfl)
set_option maxRecDepth 100000 in
theorem lifted (os : Os) (started : os.Started) (H : Type) (enc : TypeId × Value → H) :
  ReturnsInHanded {} Tryd.checked os 11 .any (fun w args => (Rows.modelPlaysSpec.pre enc Tryd.prog Tryd.f11 [] false w args ∧ laidMetH Tryd.prog laid1 w) ∧ sizedMet enc Tryd.prog Tryd.f11 (OpenSpec.ofChange Rows.modelPlaysSpec) false w args) (Rows.modelPlaysSpec.post enc Tryd.prog Tryd.f11 false true false false) := by
 refine returnsInHanded_of_change_and (C := Tryd.checked) (X := fun w _ => laidMetH Tryd.prog laid1 w) (fun _ _ _ hh h => h.of_heap hh) ownKnobs started (by kernel_rfl) Tryd.func11
  (ChangeSpec.witness_shaped (enc := enc) (C := Tryd.checked) (os := os) (X := fun w _ => laidMetH Tryd.prog laid1 w) false (World.doorLaid Tryd.prog 14 os) #[.agg #[.int .i64 0, .int .i64 0, .int .i64 0, .int .i64 0, .int .i64 0, .int .i64 0], .slice none 0 0] 8 rfl (World.shaped_of_RefB (by kernel_rfl) (by kernel_rfl)) (by kernel_rfl) (by kernel_rfl) (by kernel_rfl) (door_met os _)) ?_
 intro W base args ds gs before hval0 hW hcnd hsz0 hL _
 have hsz : (DataW.weightsEach Tryd.prog (Tryd.f11.params.toList ++ Rows.modelPlaysSpec.plain.varTypes Tryd.prog) (ds ++ gs)).all (· ≤ reachBytes) = true := hsz0
 have hval : ∀ (j : Nat) t v, Tryd.f11.params[j]? = some t → args[j]? = some v → Value.okWide Tryd.prog W .any base t v := hval0
 have hW' := hW
 obtain ⟨p, q, hA0, hV, rfl, hfz, hnd⟩ := hW
 have hA : DataW.TrodAll enc Tryd.prog W 0 (fun _ => true) true Tryd.f11.params.toList args.toList ds p := hA0
 rw [Tryd.params11] at hA hval hsz
 obtain ⟨v0, vs0, d0, ds0, p0, q0, hargs, rfl, rfl, h0, r0⟩ := trodAll_cons hA
 obtain ⟨v1, vs1, d1, ds1, p1, q1, rfl, rfl, rfl, h1, r1⟩ := trodAll_cons r0
 obtain ⟨rfl, rfl, rfl⟩ := trodAll_nil r1
 obtain rfl : args = #[v0, v1] := by cases args; simp_all
 obtain ⟨rfl, rfl⟩ := trodVars_none hV
 have trod0 := h0
 have lt0 : ∀ x ∈ p0, x.block < W.heap.size := by obtain ⟨m, hm⟩ := trod0; exact DataW.trod_lt m _ _ _ hm
 obtain ⟨x0, K0, g0⟩ := Opn.arg_open op68 h0 hsz (j := 0) rfl rfl
 obtain e0 : v0.cells.toList = [.int .i64 x0.1, .int .i64 x0.2.1, .int .i64 x0.2.2.1, .int .i64 x0.2.2.2.1, .int .i64 x0.2.2.2.2.1, .int .i64 x0.2.2.2.2.2] := by
  generalize v0.cells.toList = cs at K0 ⊢
  obtain ⟨_, _, rfl, rfl, ⟨_, _, rfl, rfl, ⟨_, _, rfl, rfl, ⟨_, _, rfl, rfl, ⟨_, _, rfl, rfl, rfl⟩⟩⟩⟩⟩ := K0
  exact rfl
 obtain rfl := Opn.agg_of Tryd.underlying68 (hval 0 68 v0 rfl rfl) e0
 have trod1 := h1
 have lt1 : ∀ x ∈ p1, x.block < W.heap.size := by obtain ⟨m, hm⟩ := trod1; exact DataW.trod_lt m _ _ _ hm
 obtain ⟨x1, K1, g1⟩ := Opn.arg_open (Opn.opens_slice Tryd.underlying69 (by kernel_rfl) (B := 120) (by kernel_rfl) op88) h1 hsz (j := 1) rfl rfl
 obtain ⟨A1_0, c1_0, e1, l1_0, C1_0⟩ := K1
 obtain rfl := Opn.slice_of Tryd.underlying69 (hval 1 69 v1 rfl rfl) e1
 clear hA0 hval0 hsz0 hsz
 have h := Pure.ModelPlays x0 g0 x1 g1
 refine (J.chapbooklaw21_ModelPlays.calls x0.1 x0.2.1 x0.2.2.1 x0.2.2.2.1 x0.2.2.2.2.1 x0.2.2.2.2.2 A1_0 c1_0 x1 true W (Am (tab_of_laid hL)) C1_0 l1_0 h).mono fun e W' ⟨he, bel⟩ => ?_
 subst he
 exact ⟨_, rfl, _, _, _, [], _, [], hW', trodAll_mk1 (shut_bool Tryd.underlying4 _), (trodAll_cons_mk (Below.trod laidOut (by kernel_rfl) (of_decide_eq_true (by kernel_rfl)) trod0 bel lt0) (trodAll_cons_mk (Below.trod laidOut (by kernel_rfl) (of_decide_eq_true (by kernel_rfl)) trod1 bel lt1) trodAll_mk0)), rfl, bel.frame _, fun h => by cases h⟩
theorem over : Rows.modelPlaysRow.holds Tryd.pinned (OpenSpec.ofChange Rows.modelPlaysSpec) :=
 OpenClaim.holds_of_wide 11 Tryd.f11 rfl rfl rfl rfl rfl rfl rfl ⟨rfl, rfl, rfl, rfl, rfl⟩ rfl rfl rfl rfl rfl (by kernel_rfl) Tryd.func11 (by kernel_rfl)
  (of_decide_eq_true (by kernel_rfl)) (by unfold Func.isWrapper; first | (rw [if_pos (by decide +kernel)]; kernel_rfl) | (rw [if_neg (by decide +kernel)]; exact ⟨rfl, rfl⟩))
  (fun os started H enc _ => lifted os started H enc)
theorem card : Rows.ModelPlaysCardSaid :=
 Claim7.holds_tied_plain_at .later [] [.data] true (true, "fe19536a88da5669b80a6dfebae095c798f20d1b39cfa8f0035771abd93e99a7") false
  over (fun _ h => by cases h) (by kernel_rfl) (fun _ h => by cases h) modelPlays_row_tie rfl ⟨rfl, rfl⟩ (by kernel_rfl) rfl
  (fun f fn hf hfn => by
   obtain rfl : f = 11 := Option.some.inj ((show Tryd.prog.funcNamed Rows.modelPlaysRow.func = some 11 by kernel_rfl).symm.trans hf) |>.symm
   obtain rfl : fn = Tryd.f11 := (Option.some.inj (Tryd.func11.symm.trans hfn)).symm
   refine ⟨by kernel_rfl, fun j t ht => ?_⟩
   have hall : (Tryd.f11.params.toList.all fun t => !Tryd.prog.wantsStandIn t) = true := by kernel_rfl
   have := List.all_eq_true.1 hall t (List.mem_of_getElem? (by simpa using ht))
   exact (Bool.not_eq_true' _).mp this)
  (by kernel_rfl)
end Go.Proofs.YtjdenpmaianmfaaDoor.modelPlays
namespace Go.Proofs.YtjdenpmaianmfaaDoor
theorem modelPlays_card : Rows.ModelPlaysCardSaid := modelPlays.card
#print axioms modelPlays_card
end Go.Proofs.YtjdenpmaianmfaaDoor
