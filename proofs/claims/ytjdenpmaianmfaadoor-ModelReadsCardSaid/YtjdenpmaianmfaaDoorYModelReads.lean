/- The law ModelReads of the given program returns true for every input, and leaves its arguments as they were. Condition: the table 'bits' of package prefix holds, when the call begins, what the program's text lays in it (tied by the card). -/
import Derived.Test.YtjdenpmaianmfaaDoorRows
import Derived.Test.YtjdenpmaianmfaaDoorYModelReadsHMReads
import Derived.Test.YtjdenpmaianmfaaDoorYModelReadsOpn
import Derived.Test.YtjdenpmaianmfaaDoorYModelReadsPModelReads
import Derived.Test.YtjdenpmaianmfaaDoorYModelReadsLaidTab
import Derived.Test.YtjdenpmaianmfaaDoorCards
import Derived.SevenTiedAt
import Derived.WalkKit
import Derived.ProofKit
import Derived.OpenShut
import Derived.ShutString
import Derived.ChangeOld
import Derived.Below
import Derived.SizedLaws
namespace Go.Proofs.YtjdenpmaianmfaaDoor.modelReads
open Go.ChangeShapes Go.WideShapes Go.ChangeAt Go.RowKit Go.Proofs.YtjdenpmaianmfaaDoor Go.Proofs.YtjdenpmaianmfaaDoorW.PrintWords Go.Proofs.YtjdenpmaianmfaaDoor.J Go.Proofs.YtjdenpmaianmfaaDoor.Q Go.Proofs.YtjdenpmaianmfaaDoor.Pure
open Go.ChangeMaps (open_string shut_string)
set_option linter.unusedVariables false
theorem laidOut : laidOutB Tryd.prog = true := by kernel_rfl
theorem op68 : Opn.Opens Tryd.prog 68 (Kd.iso (Kd.pair (Kd.int .i64) (Kd.pair (Kd.int .i64) (Kd.pair (Kd.int .i64) (Kd.pair (Kd.int .i64) (Kd.pair (Kd.int .i64) (Kd.int .i64)))))) (fun x : (Int) × (Int) × (Int) × (Int) × (Int) × (Int) => x)) (fun x => G68 x) :=
 Opn.opens_struct Tryd.underlying68 rfl (by kernel_rfl) (Opn.opensF_cons (by kernel_rfl) rfl (Opn.opens_int Tryd.underlying3) (Opn.opensF_cons (by kernel_rfl) rfl (Opn.opens_int Tryd.underlying3) (Opn.opensF_cons (by kernel_rfl) rfl (Opn.opens_int Tryd.underlying3) (Opn.opensF_cons (by kernel_rfl) rfl (Opn.opens_int Tryd.underlying3) (Opn.opensF_cons (by kernel_rfl) rfl (Opn.opens_int Tryd.underlying3) (Opn.opensF_last (by kernel_rfl) (Opn.opens_int Tryd.underlying3))))))) (fun x : (Int) × (Int) × (Int) × (Int) × (Int) × (Int) => x) (fun y => y) (fun _ => rfl)
theorem op32 : Opn.Opens Tryd.prog 32 k32 (fun x => G32 x) :=
 Opn.opens_struct Tryd.underlying32 rfl (by kernel_rfl) (Opn.opensF_cons (by kernel_rfl) rfl (Opn.opens_string Tryd.underlying9) (Opn.opensF_cons (by kernel_rfl) rfl (Opn.opens_int Tryd.underlying3) (Opn.opensF_cons (by kernel_rfl) rfl (Opn.opens_int Tryd.underlying2) (Opn.opensF_last (by kernel_rfl) (Opn.opens_string Tryd.underlying9))))) (fun x : S32 => (x.f0, x.f1, x.f2, x.f3)) (fun y => ⟨y.1, y.2.1, y.2.2.1, y.2.2.2⟩) (fun _ => rfl)
theorem op83 : Opn.Opens Tryd.prog 83 k83 (fun x => G83 x) :=
 Opn.opens_struct Tryd.underlying83 rfl (by kernel_rfl) (Opn.opensF_cons (by kernel_rfl) rfl (Opn.opens_int Tryd.underlying3) (Opn.opensF_cons (by kernel_rfl) rfl (Opn.opens_int Tryd.underlying3) (Opn.opensF_cons (by kernel_rfl) rfl op32 (Opn.opensF_cons (by kernel_rfl) rfl (Opn.opens_string Tryd.underlying9) (Opn.opensF_cons (by kernel_rfl) rfl (Opn.opens_int Tryd.underlying3) (Opn.opensF_cons (by kernel_rfl) rfl (Opn.opens_int Tryd.underlying3) (Opn.opensF_last (by kernel_rfl) (Opn.opens_int Tryd.underlying81)))))))) (fun x : S83 => (x.f0, x.f1, x.f2, x.f3, x.f4, x.f5, x.f6)) (fun y => ⟨y.1, y.2.1, y.2.2.1, y.2.2.2.1, y.2.2.2.2.1, y.2.2.2.2.2.1, y.2.2.2.2.2.2⟩) (fun _ => rfl)
theorem op88 : Opn.Opens Tryd.prog 88 k88 (fun x => G88 x) :=
 Opn.opens_struct Tryd.underlying88 rfl (by kernel_rfl) (Opn.opensF_cons (by kernel_rfl) rfl op83 (Opn.opensF_cons (by kernel_rfl) rfl (Opn.opens_int Tryd.underlying3) (Opn.opensF_last (by kernel_rfl) (Opn.opens_int Tryd.underlying3)))) (fun x : S88 => (x.f0, x.f1, x.f2)) (fun y => ⟨y.1, y.2.1, y.2.2⟩) (fun _ => rfl)
set_option maxRecDepth 100000 in
theorem lifted (os : Os) (started : os.Started) (H : Type) (enc : TypeId × Value → H) :
  ReturnsInHanded {} Tryd.checked os 14 .any (fun w args => (Rows.modelReadsSpec.pre enc Tryd.prog Tryd.f14 [] false w args ∧ laidMetH Tryd.prog laid1 w) ∧ sizedMet enc Tryd.prog Tryd.f14 (OpenSpec.ofChange Rows.modelReadsSpec) false w args) (Rows.modelReadsSpec.post enc Tryd.prog Tryd.f14 false true false false) := by
 refine returnsInHanded_of_change_and (C := Tryd.checked) (X := fun w _ => laidMetH Tryd.prog laid1 w) (fun _ _ _ hh h => h.of_heap hh) ownKnobs started (by kernel_rfl) Tryd.func14
  (ChangeSpec.witness_shaped (enc := enc) (C := Tryd.checked) (os := os) (X := fun w _ => laidMetH Tryd.prog laid1 w) false (World.doorLaid Tryd.prog 14 os) #[.agg #[.int .i64 0, .int .i64 0, .int .i64 0, .int .i64 0, .int .i64 0, .int .i64 0], .slice none 0 0, .string ByteArray.empty] 8 rfl (World.shaped_of_RefB (by kernel_rfl) (by kernel_rfl)) (by kernel_rfl) (by kernel_rfl) (by kernel_rfl) (door_met os _)) ?_
 intro W base args ds gs before hval0 hW hcnd hsz0 hL _
 have hsz : (DataW.weightsEach Tryd.prog (Tryd.f14.params.toList ++ Rows.modelReadsSpec.plain.varTypes Tryd.prog) (ds ++ gs)).all (· ≤ reachBytes) = true := hsz0
 have hval : ∀ (j : Nat) t v, Tryd.f14.params[j]? = some t → args[j]? = some v → Value.okWide Tryd.prog W .any base t v := hval0
 have hW' := hW
 obtain ⟨p, q, hA0, hV, rfl, hfz, hnd⟩ := hW
 have hA : DataW.TrodAll enc Tryd.prog W 0 (fun _ => true) true Tryd.f14.params.toList args.toList ds p := hA0
 rw [Tryd.params14] at hA hval hsz
 obtain ⟨v0, vs0, d0, ds0, p0, q0, hargs, rfl, rfl, h0, r0⟩ := trodAll_cons hA
 obtain ⟨v1, vs1, d1, ds1, p1, q1, rfl, rfl, rfl, h1, r1⟩ := trodAll_cons r0
 obtain ⟨v2, vs2, d2, ds2, p2, q2, rfl, rfl, rfl, h2, r2⟩ := trodAll_cons r1
 obtain ⟨rfl, rfl, rfl⟩ := trodAll_nil r2
 obtain rfl : args = #[v0, v1, v2] := by cases args; simp_all
 obtain ⟨rfl, rfl⟩ := trodVars_none hV
 have trod0 := h0
 have lt0 : ∀ x ∈ p0, x.block < W.heap.size := by obtain ⟨m, hm⟩ := trod0; exact DataW.trod_lt m _ _ _ hm
 obtain ⟨x0, K0, g0⟩ := Opn.arg_open op68 h0 hsz (j := 0) rfl rfl
 obtain e0 : v0.cells.toList = [.int .i64 x0.1, .int .i64 x0.2.1, .int .i64 x0.2.2.1, .int .i64 x0.2.2.2.1, .int .i64 x0.2.2.2.2.1, .int .i64 x0.2.2.2.2.2] := by
  generalize v0.cells.toList = cs at K0 ⊢
  obtain ⟨_, _, rfl, rfl, ⟨_, _, rfl, rfl, ⟨_, _, rfl, rfl, ⟨_, _, rfl, rfl, ⟨_, _, rfl, rfl, rfl⟩⟩⟩⟩⟩ := K0
  exact rfl
 obtain rfl := Opn.agg_of Tryd.underlying68 (hval 0 68 v0 rfl rfl) e0
 have trod1 := h1
 have lt1 : ∀ x ∈ p1, x.block < W.heap.size := by obtain ⟨m, hm⟩ := trod1; exact DataW.trod_lt m _ _ _ hm
 obtain ⟨x1, K1, g1⟩ := Opn.arg_open (Opn.opens_slice Tryd.underlying69 (by kernel_rfl) (B := 120) (by kernel_rfl) op88) h1 hsz (j := 1) rfl rfl
 obtain ⟨A1_0, c1_0, e1, l1_0, C1_0⟩ := K1
 obtain rfl := Opn.slice_of Tryd.underlying69 (hval 1 69 v1 rfl rfl) e1
 have trod2 := h2
 have lt2 : ∀ x ∈ p2, x.block < W.heap.size := by obtain ⟨m, hm⟩ := trod2; exact DataW.trod_lt m _ _ _ hm
 obtain ⟨x2, K2, g2⟩ := Opn.arg_open (Opn.opens_string Tryd.underlying9) h2 hsz (j := 2) rfl rfl
 obtain rfl := Opn.string_of Tryd.underlying9 (hval 2 9 v2 rfl rfl) K2
 clear hA0 hval0 hsz0 hsz
 have h := Pure.ModelReads x0 g0 x1 g1 x2 g2
 refine (J.chapbooklaw21_ModelReads.calls x0.1 x0.2.1 x0.2.2.1 x0.2.2.2.1 x0.2.2.2.2.1 x0.2.2.2.2.2 A1_0 c1_0 x1 x2 true W (Aside0.mk (tab_of_laid hL)) C1_0 l1_0 h).mono fun e W' ⟨he, bel⟩ => ?_
 subst he
 exact ⟨_, rfl, _, _, _, [], _, [], hW', trodAll_mk1 (shut_bool Tryd.underlying4 _), (trodAll_cons_mk (Below.trod laidOut (by kernel_rfl) (of_decide_eq_true (by kernel_rfl)) trod0 bel lt0) (trodAll_cons_mk (Below.trod laidOut (by kernel_rfl) (of_decide_eq_true (by kernel_rfl)) trod1 bel lt1) (trodAll_cons_mk (Below.trod laidOut (by kernel_rfl) (of_decide_eq_true (by kernel_rfl)) trod2 bel lt2) trodAll_mk0))), rfl, bel.frame _, fun h => by cases h⟩
theorem over : Rows.modelReadsRow.holds Tryd.pinned (OpenSpec.ofChange Rows.modelReadsSpec) :=
 OpenClaim.holds_of_wide 14 Tryd.f14 rfl rfl rfl rfl rfl rfl rfl ⟨rfl, rfl, rfl, rfl, rfl⟩ rfl rfl rfl rfl rfl (by kernel_rfl) Tryd.func14 (by kernel_rfl)
  (of_decide_eq_true (by kernel_rfl)) (by unfold Func.isWrapper; first | (rw [if_pos (by decide +kernel)]; kernel_rfl) | (rw [if_neg (by decide +kernel)]; exact ⟨rfl, rfl⟩))
  (fun os started H enc _ => lifted os started H enc)
theorem card : Rows.ModelReadsCardSaid :=
 Claim7.holds_tied_plain_at .later [] [.data] true (true, "fe19536a88da5669b80a6dfebae095c798f20d1b39cfa8f0035771abd93e99a7") false
  over (fun _ h => by cases h) (by kernel_rfl) (fun _ h => by cases h) modelReads_row_tie rfl ⟨rfl, rfl⟩ (by kernel_rfl) rfl
  (fun f fn hf hfn => by
   obtain rfl : f = 14 := Option.some.inj ((show Tryd.prog.funcNamed Rows.modelReadsRow.func = some 14 by kernel_rfl).symm.trans hf) |>.symm
   obtain rfl : fn = Tryd.f14 := (Option.some.inj (Tryd.func14.symm.trans hfn)).symm
   refine ⟨by kernel_rfl, fun j t ht => ?_⟩
   have hall : (Tryd.f14.params.toList.all fun t => !Tryd.prog.wantsStandIn t) = true := by kernel_rfl
   have := List.all_eq_true.1 hall t (List.mem_of_getElem? (by simpa using ht))
   exact (Bool.not_eq_true' _).mp this)
  (by kernel_rfl)
end Go.Proofs.YtjdenpmaianmfaaDoor.modelReads
namespace Go.Proofs.YtjdenpmaianmfaaDoor
theorem modelReads_card : Rows.ModelReadsCardSaid := modelReads.card
#print axioms modelReads_card
end Go.Proofs.YtjdenpmaianmfaaDoor
