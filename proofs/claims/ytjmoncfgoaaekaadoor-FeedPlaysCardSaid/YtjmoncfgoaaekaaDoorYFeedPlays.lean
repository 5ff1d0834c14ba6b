/- The law FeedPlays of the given program returns true for every input, and leaves its arguments as they were. Condition: the table 'bits' of package prefix holds, when the call begins, what the program's text lays in it (tied by the card). -/
import Derived.Test.YtjmoncfgoaaekaaDoorRows
import Derived.Test.YtjmoncfgoaaekaaDoorYFeedPlaysHFPlays
import Derived.Test.YtjmoncfgoaaekaaDoorYFeedPlaysOpn
import Derived.Test.YtjmoncfgoaaekaaDoorYFeedPlaysPFeedPlays
import Derived.Test.YtjmoncfgoaaekaaDoorYFeedPlaysLaidTab
import Derived.Test.YtjmoncfgoaaekaaDoorCards
import Derived.SevenTiedAt
import Derived.WalkKit
import Derived.ProofKit
import Derived.OpenShut
import Derived.ShutString
import Derived.ChangeOld
import Derived.Below
import Derived.SizedLaws
namespace Go.Proofs.YtjmoncfgoaaekaaDoor.feedPlays
open Go.ChangeShapes Go.WideShapes Go.ChangeAt Go.RowKit Go.Proofs.YtjmoncfgoaaekaaDoor Go.Proofs.YtjmoncfgoaaekaaDoorW.PrintWords Go.Proofs.YtjmoncfgoaaekaaDoor.J Go.Proofs.YtjmoncfgoaaekaaDoor.Q Go.Proofs.YtjmoncfgoaaekaaDoor.Pure
open Go.ChangeMaps (open_string shut_string)
set_option linter.unusedVariables false
theorem laidOut : laidOutB Tryd.prog = true := by kernel_rfl
theorem op22 : Opn.Opens Tryd.prog 22 (Kd.iso (Kd.pair (Kd.int .i64) (Kd.int .i64)) (fun x : (Int) × (Int) => x)) (fun x => G22 x) :=
 Opn.opens_array Tryd.underlying22 (by kernel_rfl) (by kernel_rfl) (Opn.opensF_cons (by kernel_rfl) rfl (Opn.opens_int Tryd.underlying3) (Opn.opensF_last (by kernel_rfl) (Opn.opens_int Tryd.underlying3))) (fun x : (Int) × (Int) => x) (fun y => y) (fun _ => rfl)
theorem op40 : Opn.Opens Tryd.prog 40 k40 (fun x => G40 x) :=
 Opn.opens_struct Tryd.underlying40 rfl (by kernel_rfl) (Opn.opensF_cons (by kernel_rfl) rfl (Opn.opens_int Tryd.underlying3) (Opn.opensF_cons (by kernel_rfl) rfl (Opn.opens_int Tryd.underlying3) (Opn.opensF_cons (by kernel_rfl) rfl (Opn.opens_int Tryd.underlying3) (Opn.opensF_last (by kernel_rfl) (Opn.opens_string Tryd.underlying9))))) (fun x : S40 => (x.f0, x.f1, x.f2, x.f3)) (fun y => ⟨y.1, y.2.1, y.2.2.1, y.2.2.2⟩) (fun _ => rfl)
theorem op114 : Opn.Opens Tryd.prog 114 k114 (fun x => G114 x) :=
 Opn.opens_struct Tryd.underlying114 rfl (by kernel_rfl) (Opn.opensF_cons (by kernel_rfl) rfl (Opn.opens_string Tryd.underlying9) (Opn.opensF_cons (by kernel_rfl) rfl (Opn.opens_int Tryd.underlying3) (Opn.opensF_cons (by kernel_rfl) rfl (Opn.opens_int Tryd.underlying2) (Opn.opensF_last (by kernel_rfl) (Opn.opens_string Tryd.underlying9))))) (fun x : S114 => (x.f0, x.f1, x.f2, x.f3)) (fun y => ⟨y.1, y.2.1, y.2.2.1, y.2.2.2⟩) (fun _ => rfl)
theorem op43 : Opn.Opens Tryd.prog 43 k43 (fun x => G43 x) :=
 Opn.opens_struct Tryd.underlying43 rfl (by kernel_rfl) (Opn.opensF_cons (by kernel_rfl) rfl (Opn.opens_int Tryd.underlying3) (Opn.opensF_cons (by kernel_rfl) rfl (Opn.opens_int Tryd.underlying3) (Opn.opensF_last (by kernel_rfl) (Opn.opens_slice Tryd.underlying41 (by kernel_rfl) (B := 48) (by kernel_rfl) op114)))) (fun x : S43 => (x.f0, x.f1, x.f2)) (fun y => ⟨y.1, y.2.1, y.2.2⟩) (fun _ => rfl)
theorem op45 : Opn.Opens Tryd.prog 45 k45 (fun x => G45 x) :=
 Opn.opens_struct Tryd.underlying45 rfl (by kernel_rfl) (Opn.opensF_cons (by kernel_rfl) rfl (Opn.opens_int Tryd.underlying3) (Opn.opensF_cons (by kernel_rfl) rfl op40 (Opn.opensF_last (by kernel_rfl) op43))) (fun x : S45 => (x.f0, x.f1, x.f2)) (fun y => ⟨y.1, y.2.1, y.2.2⟩) (fun _ => rfl)
set_option maxRecDepth 100000 in
theorem lifted (os : Os) (started : os.Started) (H : Type) (enc : TypeId × Value → H) :
  ReturnsInHanded {} Tryd.checked os 3 .any (fun w args => (Rows.feedPlaysSpec.pre enc Tryd.prog Tryd.f3 [] false w args ∧ laidMetH Tryd.prog laid1 w) ∧ sizedMet enc Tryd.prog Tryd.f3 (OpenSpec.ofChange Rows.feedPlaysSpec) false w args) (Rows.feedPlaysSpec.post enc Tryd.prog Tryd.f3 false true false false) := by
 refine returnsInHanded_of_change_and (C := Tryd.checked) (X := fun w _ => laidMetH Tryd.prog laid1 w) (fun _ _ _ hh h => h.of_heap hh) ownKnobs started (by kernel_rfl) Tryd.func3
  (ChangeSpec.witness_shaped (enc := enc) (C := Tryd.checked) (os := os) (X := fun w _ => laidMetH Tryd.prog laid1 w) false (World.doorLaid Tryd.prog 14 os) #[.agg #[.int .i64 0, .int .i64 0], .slice none 0 0] 8 rfl (World.shaped_of_RefB (by kernel_rfl) (by kernel_rfl)) (by kernel_rfl) (by kernel_rfl) (by kernel_rfl) (door_met os _)) ?_
 intro W base args ds gs before hval0 hW hcnd hsz0 hL _
 have hsz : (DataW.weightsEach Tryd.prog (Tryd.f3.params.toList ++ Rows.feedPlaysSpec.plain.varTypes Tryd.prog) (ds ++ gs)).all (· ≤ reachBytes) = true := hsz0
 have hval : ∀ (j : Nat) t v, Tryd.f3.params[j]? = some t → args[j]? = some v → Value.okWide Tryd.prog W .any base t v := hval0
 have hW' := hW
 obtain ⟨p, q, hA0, hV, rfl, hfz, hnd⟩ := hW
 have hA : DataW.TrodAll enc Tryd.prog W 0 (fun _ => true) true Tryd.f3.params.toList args.toList ds p := hA0
 rw [Tryd.params3] at hA hval hsz
 obtain ⟨v0, vs0, d0, ds0, p0, q0, hargs, rfl, rfl, h0, r0⟩ := trodAll_cons hA
 obtain ⟨v1, vs1, d1, ds1, p1, q1, rfl, rfl, rfl, h1, r1⟩ := trodAll_cons r0
 obtain ⟨rfl, rfl, rfl⟩ := trodAll_nil r1
 obtain rfl : args = #[v0, v1] := by cases args; simp_all
 obtain ⟨rfl, rfl⟩ := trodVars_none hV
 have trod0 := h0
 have lt0 : ∀ x ∈ p0, x.block < W.heap.size := by obtain ⟨m, hm⟩ := trod0; exact DataW.trod_lt m _ _ _ hm
 obtain ⟨x0, K0, g0⟩ := Opn.arg_open op22 h0 hsz (j := 0) rfl rfl
 obtain e0 : v0.cells.toList = [.int .i64 x0.1, .int .i64 x0.2] := by
  generalize v0.cells.toList = cs at K0 ⊢
  obtain ⟨_, _, rfl, rfl, rfl⟩ := K0
  exact rfl
 obtain rfl := Opn.agg_of_array Tryd.underlying22 (hval 0 22 v0 rfl rfl) e0
 have trod1 := h1
 have lt1 : ∀ x ∈ p1, x.block < W.heap.size := by obtain ⟨m, hm⟩ := trod1; exact DataW.trod_lt m _ _ _ hm
 obtain ⟨x1, K1, g1⟩ := Opn.arg_open (Opn.opens_slice Tryd.underlying23 (by kernel_rfl) (B := 88) (by kernel_rfl) op45) h1 hsz (j := 1) rfl rfl
 obtain ⟨A1_0, c1_0, e1, l1_0, C1_0⟩ := K1
 obtain rfl := Opn.slice_of Tryd.underlying23 (hval 1 23 v1 rfl rfl) e1
 clear hA0 hval0 hsz0 hsz
 have h := Pure.FeedPlays x0 g0 x1 g1
 refine (J.chapbooklaw15_FeedPlays.calls x0.1 x0.2 A1_0 c1_0 x1 true W (Aside0.mk (tab_of_laid hL)) C1_0 l1_0 h).mono fun e W' ⟨he, bel⟩ => ?_
 subst he
 exact ⟨_, rfl, _, _, _, [], _, [], hW', trodAll_mk1 (shut_bool Tryd.underlying4 _), (trodAll_cons_mk (Below.trod laidOut (by kernel_rfl) (of_decide_eq_true (by kernel_rfl)) trod0 bel lt0) (trodAll_cons_mk (Below.trod laidOut (by kernel_rfl) (of_decide_eq_true (by kernel_rfl)) trod1 bel lt1) trodAll_mk0)), rfl, bel.frame _, fun h => by cases h⟩
theorem over : Rows.feedPlaysRow.holds Tryd.pinned (OpenSpec.ofChange Rows.feedPlaysSpec) :=
 OpenClaim.holds_of_wide 3 Tryd.f3 rfl rfl rfl rfl rfl rfl rfl ⟨rfl, rfl, rfl, rfl, rfl⟩ rfl rfl rfl rfl rfl (by kernel_rfl) Tryd.func3 (by kernel_rfl)
  (of_decide_eq_true (by kernel_rfl)) (by unfold Func.isWrapper; first | (rw [if_pos (by decide +kernel)]; kernel_rfl) | (rw [if_neg (by decide +kernel)]; exact ⟨rfl, rfl⟩))
  (fun os started H enc _ => lifted os started H enc)
theorem card : Rows.FeedPlaysCardSaid :=
 Claim7.holds_tied_plain_at .later [] [.data] true (true, "5dd9426a8969e864d87e937c85093ae6cb4fec6351f839879632dc93ae392192") false
  over (fun _ h => by cases h) (by kernel_rfl) (fun _ h => by cases h) feedPlays_row_tie rfl ⟨rfl, rfl⟩ (by kernel_rfl) rfl
  (fun f fn hf hfn => by
   obtain rfl : f = 3 := Option.some.inj ((show Tryd.prog.funcNamed Rows.feedPlaysRow.func = some 3 by kernel_rfl).symm.trans hf) |>.symm
   obtain rfl : fn = Tryd.f3 := (Option.some.inj (Tryd.func3.symm.trans hfn)).symm
   refine ⟨by kernel_rfl, fun j t ht => ?_⟩
   have hall : (Tryd.f3.params.toList.all fun t => !Tryd.prog.wantsStandIn t) = true := by kernel_rfl
   have := List.all_eq_true.1 hall t (List.mem_of_getElem? (by simpa using ht))
   exact (Bool.not_eq_true' _).mp this)
  (by kernel_rfl)
end Go.Proofs.YtjmoncfgoaaekaaDoor.feedPlays
namespace Go.Proofs.YtjmoncfgoaaekaaDoor
theorem feedPlays_card : Rows.FeedPlaysCardSaid := feedPlays.card
#print axioms feedPlays_card
end Go.Proofs.YtjmoncfgoaaekaaDoor
