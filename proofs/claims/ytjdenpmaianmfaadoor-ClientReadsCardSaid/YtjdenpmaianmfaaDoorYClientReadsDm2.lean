/- The document's Client over raw rows: New, Resume. -/
import Derived.Test.YtjdenpmaianmfaaDoorYClientReadsSq
import Derived.Test.YtjdenpmaianmfaaDoorYClientReadsCl2
import Derived.Test.YtjdenpmaianmfaaDoorYClientReadsJ3
import Derived.Test.YtjdenpmaianmfaaDoorYClientReadsRM
import Derived.Test.YtjdenpmaianmfaaDoorProg
namespace Go.Proofs.YtjdenpmaianmfaaDoor.J
set_option maxHeartbeats 16000000
set_option maxRecDepth 100000
set_option linter.unusedSimpArgs false
set_option linter.unusedVariables false
open Go Go.RowKit Go.Proofs.YtjdenpmaianmfaaDoorW.PrintWords Go.Proofs.YtjdenpmaianmfaaDoorW.PrintLast Go.Proofs.YtjdenpmaianmfaaDoorW.PrintMore Go.Proofs.YtjdenpmaianmfaaDoor.Q Go.Proofs.YtjdenpmaianmfaaDoor.Sep Go.Proofs.YtjdenpmaianmfaaDoor.Pure
abbrev rw3 (o n : Int) (v : Value) : List Value := [.int .i64 o, .int .i64 n, v]
theorem repW (W : World) (o n : Int) (A : Option Addr) (m c : Nat) : Reps (Kd.FK (Kd.raw 3) W (fun _ => False)) 3 [rw3 o n (.slice A m c)] [.int .i64 o, .int .i64 n, .slice A m c] := by
 refine (Reps.none _ 3).snoc (p := rw3 o n (.slice A m c)) (c := rw3 o n (.slice A m c)) (flatRaw.FK (w := W) ⟨rfl, rfl, fun u hu => ?_⟩) rfl
 simp only [rw3, List.mem_cons, List.not_mem_nil, or_false] at hu
 rcases hu with rfl | rfl | rfl <;> rfl
theorem DJNew_low {N : Nat → Prop} {w : World} (o m : Int) (h : Own N w []) (hm : m < 1) :
  Calls Tryd.prog 55 #[.int .i64 o, .int .i64 m] w fun e w' => ∃ g, e = .returned (.pointer (some ⟨g, 0, none⟩)) ∧ Own N w' [cells g #[.int .i64 o, .int .i64 1, .slice none 0 0] 64] ∧ KeepS N w w' := by
 have O0 : Aside0 (Own N w []) := ⟨h⟩
 have K0 : Aside0 (KeepS N w w) := ⟨KeepS.refl _ _⟩
 have d1 : decide (m < 1) = true := decide_eq_true hm
 have d2 : decide ((1 : Int) > 1099511627776) = false := by decide
 clear h hm
 go_enter Tryd.func55, Tryd.ntmps55
 go_wp2_with (first | ((with_reducible refine gD 12 rfl ?_); refine bP 12 #[.int .i64 o, .int .i64 1, .slice none 0 0] 64 O0.out ?_; intro g w1 o_ k_; obtain ⟨O1, K1⟩ := ok_ K0 o_ k_; clear O0 K0 o_ k_; have a0 := k3_ O1 0))
 go_ret
 exact ⟨g, rfl, O1.out, K1.out⟩
theorem DJNew_high {N : Nat → Prop} {w : World} (o m : Int) (h : Own N w []) (hm : 1099511627776 < m) :
  Calls Tryd.prog 55 #[.int .i64 o, .int .i64 m] w fun e w' => ∃ g, e = .returned (.pointer (some ⟨g, 0, none⟩)) ∧ Own N w' [cells g #[.int .i64 o, .int .i64 1099511627776, .slice none 0 0] 64] ∧ KeepS N w w' := by
 have O0 : Aside0 (Own N w []) := ⟨h⟩
 have K0 : Aside0 (KeepS N w w) := ⟨KeepS.refl _ _⟩
 have d1 : decide (m < 1) = false := decide_eq_false (by omega)
 have d2 : decide (m > 1099511627776) = true := decide_eq_true hm
 have d3 : decide (1099511627776 < m) = true := d2
 clear h hm
 go_enter Tryd.func55, Tryd.ntmps55
 go_wp2_with (first | ((with_reducible refine gD 12 rfl ?_); refine bP 12 #[.int .i64 o, .int .i64 1099511627776, .slice none 0 0] 64 O0.out ?_; intro g w1 o_ k_; obtain ⟨O1, K1⟩ := ok_ K0 o_ k_; clear O0 K0 o_ k_; have a0 := k3_ O1 0))
 go_ret
 exact ⟨g, rfl, O1.out, K1.out⟩
theorem DJNew_mid {N : Nat → Prop} {w : World} (o m : Int) (h : Own N w []) (hm : 1 ≤ m) (hm2 : m ≤ 1099511627776) :
  Calls Tryd.prog 55 #[.int .i64 o, .int .i64 m] w fun e w' => ∃ g, e = .returned (.pointer (some ⟨g, 0, none⟩)) ∧ Own N w' [cells g #[.int .i64 o, .int .i64 m, .slice none 0 0] 64] ∧ KeepS N w w' := by
 have O0 : Aside0 (Own N w []) := ⟨h⟩
 have K0 : Aside0 (KeepS N w w) := ⟨KeepS.refl _ _⟩
 have d1 : decide (m < 1) = false := decide_eq_false (by omega)
 have d2 : decide (m > 1099511627776) = false := decide_eq_false (by omega)
 have d3 : decide (1099511627776 < m) = false := d2
 clear h hm hm2
 go_enter Tryd.func55, Tryd.ntmps55
 go_wp2_with (first | ((with_reducible refine gD 12 rfl ?_); refine bP 12 #[.int .i64 o, .int .i64 m, .slice none 0 0] 64 O0.out ?_; intro g w1 o_ k_; obtain ⟨O1, K1⟩ := ok_ K0 o_ k_; clear O0 K0 o_ k_; have a0 := k3_ O1 0))
 go_ret
 exact ⟨g, rfl, O1.out, K1.out⟩
theorem DJNew {N : Nat → Prop} {w : World} (o m : Int) (h : Own N w []) :
  Calls Tryd.prog 55 #[.int .i64 o, .int .i64 m] w fun e w' => ∃ g, e = .returned (.pointer (some ⟨g, 0, none⟩)) ∧ Own N w' [cells g #[.int .i64 o, .int .i64 (mn (mx m 1) 1099511627776), .slice none 0 0] 64] ∧ KeepS N w w' := by
 by_cases h1 : m < 1
 ·rw [show mn (mx m 1) 1099511627776 = 1 by unfold mn mx; (repeat' split) <;> omega]
  exact DJNew_low o m h h1
 by_cases h2 : 1099511627776 < m
 ·rw [show mn (mx m 1) 1099511627776 = 1099511627776 by unfold mn mx; (repeat' split) <;> omega]
  exact DJNew_high o m h h2
 ·rw [show mn (mx m 1) 1099511627776 = m by unfold mn mx; (repeat' split) <;> omega]
  exact DJNew_mid o m h (by omega) (by omega)
theorem DJAdd_full {N : Nat → Prop} {w : World} {g : Nat} {o m : Int} {A0 : Option Addr} {c0 : Nat} {rJ : List (List Value)} (B : Option Addr) (c : Nat) (ups : List Upd7) (h : Own N w [cells g #[.int .i64 o, .int .i64 m, .slice A0 rJ.length c0] 64, nrow (Kd.raw 3) 35 (.slice A0 rJ.length c0) rJ]) (hr : Kd.F k32 w N B ups.length ups) (hc : ups.length ≤ c) (hL : rJ.length ≤ 1000000) (hu : ups.length ≤ 1000000) (hq : (rJ.length : Int) ≥ m) :
  Calls Tryd.prog 89 #[.pointer (some ⟨g, 0, none⟩), .slice B ups.length c] w fun e_ w' => e_ = .returned (.tuple #[.agg #[.int .i64 0, .int .i64 0, .slice none 0 0], .int .i64 8]) ∧ Own N w' [cells g #[.int .i64 o, .int .i64 m, .slice A0 rJ.length c0] 64, nrow (Kd.raw 3) 35 (.slice A0 rJ.length c0) rJ] ∧ KeepS N w w' := by
 have d1 : decide ((rJ.length : Int) ≥ m) = true := decide_eq_true hq
 have d2 : decide (m ≤ (rJ.length : Int)) = true := d1
 have HR_0 : Aside0 (Kd.F k32 w N B ups.length ups) := ⟨hr⟩
 have HC := Aside0.mk hc
 have HL := Aside0.mk hL
 have HU := Aside0.mk hu
 have hs1 : IntKind.i64.wrap ((rJ.length : Int) + 1) = (rJ.length : Int) + 1 := by rw [IntKind.wrap_i64]; omega
 have hs2 : wrap64 ((rJ.length : Int) + 1) = (rJ.length : Int) + 1 := by unfold wrap64; omega
 have O0 : Aside0 (Own N w [cells g #[.int .i64 o, .int .i64 m, .slice A0 rJ.length c0] 64, nrow (Kd.raw 3) 35 (.slice A0 rJ.length c0) rJ]) := ⟨h⟩
 have K0 : Aside0 (KeepS N w w) := ⟨KeepS.refl _ _⟩
 have a0 := k3_ O0 0
 clear h hr hc hL hu hq
 go_enter Tryd.func89, Tryd.ntmps89
 go_wp2_with (first | ((with_reducible refine gD 4 rfl ?_); refine bP 4 #[.int .i64 0, .int .i64 0, .slice none 0 0] 35 O0.out ?_; intro gz w1 o_ k_; obtain ⟨O1, K1⟩ := ok_ K0 o_ k_; have HR_1 := Aside0.mk (keepF HR_0.out k_); clear a0 O0 K0 HR_0 o_ k_; have a0 := k3_ O1 0; have a2 := k3_ O1 2))
 refine sP (n := 10) (S := c3_ g (.int .i64 o) (.int .i64 m) (.slice A0 rJ.length c0)) (ds := []) (p3_ a0) (fun hHeld => ?_)
 obtain ⟨w2, hw_⟩ : ∃ W, W = w1.drew := ⟨_, rfl⟩
 have o_ := O1.out.drew
 have k_ : KeepS N w1 w1.drew := KeepS.drew
 rw [← hw_] at o_ k_ hHeld ⊢
 clear hw_
 obtain ⟨O2, K2⟩ := ok_ K1 o_ k_
 have HR_2 := Aside0.mk (keepF HR_1.out k_)
 clear a0 a2 O1 K1 HR_1 o_ k_
 have a0 := k3_ O2 0
 have a2 := k3_ O2 2
 refine pP 0 (some 8) ?_
 refine pP 1 (some 9) ?_
 refine pP 2 (some 10) ?_
 refine pP 5 (some 13) ?_
 refine pP 6 (some 14) ?_
 refine pP 7 (some 15) ?_
 refine tP 3 (some 11) hHeld ?_
 refine pP 4 (some 12) ?_
 refine tP 8 (some 16) hHeld ?_
 refine pP 9 (some 17) ?_
 refine done_ (by kernel_rfl) ?_
 clear hHeld
 go_wp2_with (first | ((with_reducible refine gT 35 4 rfl ?_); refine wS 2 0 [.int .i64 0, .int .i64 0, .slice none 0 0] O2 ?_; intro w3 o_ k_; obtain ⟨O3, K3⟩ := ok_ K2 o_ k_; have HR_3 := Aside0.mk (keepF HR_2.out k_); clear a0 a2 O2 K2 HR_2 o_ k_; have a0 := k3_ O3 0; have a2 := k3_ O3 2))
 refine bodyPost_ret (results_ct rfl _ _ gz 35 #[.int .i64 0, .int .i64 0, .slice none 0 0] (0, 0) _ rfl (O3.out.blk (i := 2) rfl) Tryd.underlying35 rfl (by kernel_rfl)) rfl ?_
 exact ⟨rfl, O3.out.take 2, K3.out⟩
theorem DJAdd_no {N : Nat → Prop} {w : World} {g : Nat} {o m : Int} {A0 : Option Addr} {c0 : Nat} {rJ : List (List Value)} (B : Option Addr) (c : Nat) (ups : List Upd7) (h : Own N w [cells g #[.int .i64 o, .int .i64 m, .slice A0 rJ.length c0] 64, nrow (Kd.raw 3) 35 (.slice A0 rJ.length c0) rJ]) (hr : Kd.F k32 w N B ups.length ups) (hc : ups.length ≤ c) (hL : rJ.length ≤ 1000000) (hu : ups.length ≤ 1000000) (hq : ¬ (rJ.length : Int) ≥ m) (he : mayR o ((rJ.length : Int) + 1) ups ≠ 0) :
  Calls Tryd.prog 89 #[.pointer (some ⟨g, 0, none⟩), .slice B ups.length c] w fun e_ w' => e_ = .returned (.tuple #[.agg #[.int .i64 0, .int .i64 0, .slice none 0 0], .int .i64 (mayR o ((rJ.length : Int) + 1) ups)]) ∧ Own N w' [cells g #[.int .i64 o, .int .i64 m, .slice A0 rJ.length c0] 64, nrow (Kd.raw 3) 35 (.slice A0 rJ.length c0) rJ] ∧ KeepS N w w' := by
 have d1 : decide ((rJ.length : Int) ≥ m) = false := decide_eq_false hq
 have d2 : decide (m ≤ (rJ.length : Int)) = false := d1
 have HR_0 : Aside0 (Kd.F k32 w N B ups.length ups) := ⟨hr⟩
 have HC := Aside0.mk hc
 have HL := Aside0.mk hL
 have HU := Aside0.mk hu
 have hs1 : IntKind.i64.wrap ((rJ.length : Int) + 1) = (rJ.length : Int) + 1 := by rw [IntKind.wrap_i64]; omega
 have hs2 : wrap64 ((rJ.length : Int) + 1) = (rJ.length : Int) + 1 := by unfold wrap64; omega
 obtain ⟨n1, hn1⟩ : ∃ n : Int, n = (rJ.length : Int) + 1 := ⟨_, rfl⟩
 have HN1 := Aside0.mk hn1
 replace hs1 := hs1.trans hn1.symm
 replace hs2 := hs2.trans hn1.symm
 rw [← hn1] at he
 have d4 : (mayR o n1 ups != 0) = true := bne_iff_ne.mpr he
 clear hn1 he
 have O0 : Aside0 (Own N w [cells g #[.int .i64 o, .int .i64 m, .slice A0 rJ.length c0] 64, nrow (Kd.raw 3) 35 (.slice A0 rJ.length c0) rJ]) := ⟨h⟩
 have K0 : Aside0 (KeepS N w w) := ⟨KeepS.refl _ _⟩
 have a0 := k3_ O0 0
 clear h hr hc hL hu hq
 go_enter Tryd.func89, Tryd.ntmps89
 go_wp2_with (first | ((with_reducible refine gD 4 rfl ?_); refine bP 4 #[.int .i64 0, .int .i64 0, .slice none 0 0] 35 O0.out ?_; intro gz w1 o_ k_; obtain ⟨O1, K1⟩ := ok_ K0 o_ k_; have HR_1 := Aside0.mk (keepF HR_0.out k_); clear a0 O0 K0 HR_0 o_ k_; have a0 := k3_ O1 0; have a2 := k3_ O1 2))
 refine sP (n := 10) (S := c3_ g (.int .i64 o) (.int .i64 m) (.slice A0 rJ.length c0)) (ds := []) (p3_ a0) (fun hHeld => ?_)
 obtain ⟨w2, hw_⟩ : ∃ W, W = w1.drew := ⟨_, rfl⟩
 have o_ := O1.out.drew
 have k_ : KeepS N w1 w1.drew := KeepS.drew
 rw [← hw_] at o_ k_ hHeld ⊢
 clear hw_
 obtain ⟨O2, K2⟩ := ok_ K1 o_ k_
 have HR_2 := Aside0.mk (keepF HR_1.out k_)
 clear a0 a2 O1 K1 HR_1 o_ k_
 have a0 := k3_ O2 0
 have a2 := k3_ O2 2
 refine pP 0 (some 8) ?_
 refine pP 1 (some 9) ?_
 refine pP 2 (some 10) ?_
 refine pP 5 (some 13) ?_
 refine pP 6 (some 14) ?_
 refine pP 7 (some 15) ?_
 refine tP 3 (some 11) hHeld ?_
 refine pP 4 (some 12) ?_
 refine tP 8 (some 16) hHeld ?_
 refine pP 9 (some 17) ?_
 refine done_ (by kernel_rfl) ?_
 clear hHeld
 go_wp2
 refine sP (n := 16) (S := c3_ g (.int .i64 o) (.int .i64 m) (.slice A0 rJ.length c0)) (ds := []) (p3_ a0) (fun hHeld => ?_)
 obtain ⟨w3, hw_⟩ : ∃ W, W = w2.drew := ⟨_, rfl⟩
 have o_ := O2.out.drew
 have k_ : KeepS N w2 w2.drew := KeepS.drew
 rw [← hw_] at o_ k_ hHeld ⊢
 clear hw_
 obtain ⟨O3, K3⟩ := ok_ K2 o_ k_
 have HR_3 := Aside0.mk (keepF HR_2.out k_)
 clear a0 a2 O2 K2 HR_2 o_ k_
 have a0 := k3_ O3 0
 have a2 := k3_ O3 2
 refine pP 0 (some 19) ?_
 refine pP 1 (some 20) ?_
 refine pP 2 (some 21) ?_
 refine pP 4 (some 23) ?_
 refine pP 5 (some 24) ?_
 refine pP 6 (some 25) ?_
 refine pP 11 (some 30) ?_
 refine tP 3 (some 22) hHeld ?_
 refine tP 7 (some 26) hHeld ?_
 refine pP 8 (some 27) ?_
 refine pP 9 (some 28) ?_
 refine join_ (σ := Option Addr × Nat × Option Addr × Nat × Nat) 1 #[true, true, true, true, true, true, true, true, true, true, true, true, true, true, true, false] (fun ⟨C1, e1, B1, b1_, gx⟩ => [(29, .slice C1 0 e1), (31, .slice B1 ups.length b1_), (32, .agg #[.int .i64 o, .int .i64 n1, .slice B1 ups.length b1_]), (6, .pointer (some ⟨gx, 0, none⟩))]) (fun ⟨C1, e1, B1, b1_, gx⟩ w' => Own N w' [cells g #[.int .i64 o, .int .i64 m, .slice A0 rJ.length c0] 64, nrow (Kd.raw 3) 35 (.slice A0 rJ.length c0) rJ, cells gz #[.int .i64 0, .int .i64 0, .slice none 0 0] 35, nrow k32 32 (.slice B1 ups.length b1_) ups, cells gx #[.int .i64 0, .int .i64 0, .slice none 0 0] 35] ∧ KeepS N w3 w') ?hcont ?hways
 case hways =>
  intro hc_
  have K4 : Aside0 (KeepS N w3 w3) := ⟨KeepS.refl _ _⟩
  have O4 : Aside0 (Own N w3 [cells g #[.int .i64 o, .int .i64 m, .slice A0 rJ.length c0] 64, nrow (Kd.raw 3) 35 (.slice A0 rJ.length c0) rJ, cells gz #[.int .i64 0, .int .i64 0, .slice none 0 0] 35]) := O3
  refine tW_ 10 14 (some 29) (some 6) (fun K_ hK_ => ?_) (fun K_ hK_ => ?_)
  ·skip
   refine own_lit_step k32 (N := N) (e := 32) (xs := []) (inner := []) rfl rfl gs_ (Reps.none _ _) (by decide) O4.out ?_
   intro C1 e1 w5 o_ k_
   obtain ⟨O5, K5⟩ := ok_ K4 o_ k_
   have HR_5 := Aside0.mk (keepF HR_3.out k_)
   clear a0 a2 O4 K4 HR_3 o_ k_
   have a0 := k3_ O5 0
   have a2 := k3_ O5 2
   clear hHeld
   refine hK_.out _ _ (p3_ a0) (fun hHeld => ?_)
   clear hK_ K_
   refine nR_ ?_
   refine tW_ 12 14 (some 31) (some 6) (fun K_ hK_ => ?_) (fun K_ hK_ => ?_)
   ·skip
    refine Own.append_flat_step k32 flatU O5.out (i := 3) rfl (Kd.F_now HR_5.out) rfl (by rfl) (.tmp 29) (.tmp 30) 33 (.agg #[.string ⟨#[]⟩, .int .i64 0, .int .i64 0, .string ⟨#[]⟩]) 48 rfl Tryd.underlying33 infoU7 rfl (by decide) (by decide) rfl rfl (by have := HU.out; simp only [List.length_nil]; omega) ?_
    intro B1 b1_ w6 o_ k_
    obtain ⟨O6, K6⟩ := ok_ K5 o_ k_
    have HR_6 := Aside0.mk (keepF HR_5.out k_)
    clear a0 a2 O5 K5 HR_5 o_ k_
    have a0 := k3_ O6 0
    have a2 := k3_ O6 2
    clear hHeld
    refine hK_.out _ _ (p3_ a0) (fun hHeld => ?_)
    clear hK_ K_
    refine nR_ ?_
    refine pP 13 (some 32) ?_
    refine oP 14 (some 6) (fun K_ hK_ => ?_)
    refine cP #[.int .i64 0, .int .i64 0, .slice none 0 0] 35 O6.out ?_
    intro gx w7 o_ k_
    obtain ⟨O7, K7⟩ := ok_ K6 o_ k_
    have HR_7 := Aside0.mk (keepF HR_6.out k_)
    clear a0 a2 O6 K6 HR_6 o_ k_
    have a0 := k3_ O7 0
    have a2 := k3_ O7 2
    have a4 := k3_ O7 4
    clear hHeld
    refine hK_.out _ _ (p3_ a0) (fun hHeld => ?_)
    clear hK_ K_
    refine nR_ ?_
    refine norm_ (a' := _) ?_ (hc_ ⟨C1, e1, B1, b1_, gx⟩ _ ⟨?_, K7.out⟩)
    ·simp only [putAll, Act.put, List.setIfInBounds_toArray, List.set_cons_zero, List.set_cons_succ]
     try rfl
    ·exact O7.out.pickL [0, 1, 2, 3, 4] (by decide) (by simp)
   ·skip
    refine cP #[.int .i64 0, .int .i64 0, .slice none 0 0] 35 O5.out ?_
    intro gx w6 o_ k_
    obtain ⟨O6, K6⟩ := ok_ K5 o_ k_
    have HR_6 := Aside0.mk (keepF HR_5.out k_)
    clear a0 a2 O5 K5 HR_5 o_ k_
    have a0 := k3_ O6 0
    have a2 := k3_ O6 2
    have a4 := k3_ O6 4
    clear hHeld
    refine hK_.out _ _ (p3_ a0) (fun hHeld => ?_)
    clear hK_ K_
    refine nR_ ?_
    refine oP 12 (some 31) (fun K_ hK_ => ?_)
    refine Own.append_flat_step k32 flatU O6.out (i := 3) rfl (Kd.F_now HR_6.out) rfl (by rfl) (.tmp 29) (.tmp 30) 33 (.agg #[.string ⟨#[]⟩, .int .i64 0, .int .i64 0, .string ⟨#[]⟩]) 48 rfl Tryd.underlying33 infoU7 rfl (by decide) (by decide) rfl rfl (by have := HU.out; simp only [List.length_nil]; omega) ?_
    intro B1 b1_ w7 o_ k_
    obtain ⟨O7, K7⟩ := ok_ K6 o_ k_
    have HR_7 := Aside0.mk (keepF HR_6.out k_)
    clear a0 a2 a4 O6 K6 HR_6 o_ k_
    have a0 := k3_ O7 0
    have a2 := k3_ O7 2
    have a4 := k3_ O7 4
    clear hHeld
    refine hK_.out _ _ (p3_ a0) (fun hHeld => ?_)
    clear hK_ K_
    refine nR_ ?_
    refine pP 13 (some 32) ?_
    refine norm_ (a' := _) ?_ (hc_ ⟨C1, e1, B1, b1_, gx⟩ _ ⟨?_, K7.out⟩)
    ·simp only [putAll, Act.put, List.setIfInBounds_toArray, List.set_cons_zero, List.set_cons_succ]
     try rfl
    ·exact O7.out.pickL [0, 1, 2, 3, 4] (by decide) (by simp)
  ·skip
   refine cP #[.int .i64 0, .int .i64 0, .slice none 0 0] 35 O4.out ?_
   intro gx w5 o_ k_
   obtain ⟨O5, K5⟩ := ok_ K4 o_ k_
   have HR_5 := Aside0.mk (keepF HR_3.out k_)
   clear a0 a2 O4 K4 HR_3 o_ k_
   have a0 := k3_ O5 0
   have a2 := k3_ O5 2
   have a3 := k3_ O5 3
   clear hHeld
   refine hK_.out _ _ (p3_ a0) (fun hHeld => ?_)
   clear hK_ K_
   refine nR_ ?_
   refine oP 10 (some 29) (fun K_ hK_ => ?_)
   refine own_lit_step k32 (N := N) (e := 32) (xs := []) (inner := []) rfl rfl gs_ (Reps.none _ _) (by decide) O5.out ?_
   intro C1 e1 w6 o_ k_
   obtain ⟨O6, K6⟩ := ok_ K5 o_ k_
   have HR_6 := Aside0.mk (keepF HR_5.out k_)
   clear a0 a2 a3 O5 K5 HR_5 o_ k_
   have a0 := k3_ O6 0
   have a2 := k3_ O6 2
   have a3 := k3_ O6 3
   clear hHeld
   refine hK_.out _ _ (p3_ a0) (fun hHeld => ?_)
   clear hK_ K_
   refine nR_ ?_
   refine oP 12 (some 31) (fun K_ hK_ => ?_)
   refine Own.append_flat_step k32 flatU O6.out (i := 4) rfl (Kd.F_now HR_6.out) rfl (by rfl) (.tmp 29) (.tmp 30) 33 (.agg #[.string ⟨#[]⟩, .int .i64 0, .int .i64 0, .string ⟨#[]⟩]) 48 rfl Tryd.underlying33 infoU7 rfl (by decide) (by decide) rfl rfl (by have := HU.out; simp only [List.length_nil]; omega) ?_
   intro B1 b1_ w7 o_ k_
   obtain ⟨O7, K7⟩ := ok_ K6 o_ k_
   have HR_7 := Aside0.mk (keepF HR_6.out k_)
   clear a0 a2 a3 O6 K6 HR_6 o_ k_
   have a0 := k3_ O7 0
   have a2 := k3_ O7 2
   have a3 := k3_ O7 3
   clear hHeld
   refine hK_.out _ _ (p3_ a0) (fun hHeld => ?_)
   clear hK_ K_
   refine nR_ ?_
   refine pP 13 (some 32) ?_
   refine norm_ (a' := _) ?_ (hc_ ⟨C1, e1, B1, b1_, gx⟩ _ ⟨?_, K7.out⟩)
   ·simp only [putAll, Act.put, List.setIfInBounds_toArray, List.set_cons_zero, List.set_cons_succ]
    try rfl
   ·exact O7.out.pickL [0, 1, 2, 4, 3] (by decide) (by simp)
 case hcont =>
  clear hHeld
  rintro ⟨C1, e1, B1, b1_, gx⟩ w4 ⟨o_, k_⟩
  obtain ⟨O4, K4⟩ := ok_ K3 o_ k_
  have HR_4 := Aside0.mk (keepF HR_3.out k_)
  clear a0 a2 O3 K3 HR_3 o_ k_
  have a0 := k3_ O4 0
  have a2 := k3_ O4 2
  have a4 := k3_ O4 4
  refine nA_ ?_
  have hHeld : w4.cell? ⟨g, 0, none⟩ = some (.int .i64 o) ∧ w4.cell? ⟨g, 1, none⟩ = some (.int .i64 m) ∧ w4.cell? ⟨g, 2, none⟩ = some (.slice A0 rJ.length c0) := (p3_ a0)
  refine oP 15 none (fun K_ hK_ => ?_)
  refine xS 4 0 [.int .i64 o, .int .i64 n1, .slice B1 ups.length b1_] O4 ?_
  intro w5 o_ k_
  obtain ⟨O5, K5⟩ := ok_ K4 o_ k_
  have HR_5 := Aside0.mk (keepF HR_4.out k_)
  clear a0 a2 a4 O4 K4 HR_4 o_ k_
  have a0 := k3_ O5 0
  have a2 := k3_ O5 2
  have a4 := k3_ O5 4
  clear hHeld
  refine hK_.out _ _ (p3_ a0) (fun hHeld => ?_)
  clear hK_ K_
  refine done_ (by kernel_rfl) ?_
  clear hHeld
  go_wp2_with (first | ((with_reducible refine gC 100 rfl ?_); refine gP (some 34) Tryd.func100 #[.agg #[.int .i64 o, .int .i64 n1, .slice B1 ups.length b1_]] ?_; refine (chapbookref07_May.calls 40 _ _ _ _ ups (mayR o n1 ups) _ (O5.out.nreads (i := 3) rfl).2.2 (O5.out.nreads (i := 3) rfl).2.1 (rmayR 20 _ _ _)).mono ?_; rintro e_ w6 ⟨rfl, hb_⟩; refine ⟨_, rfl, ?_⟩; have o_ := O5.out.below hb_; have k_ := KeepS.of_below (N := N) hb_; obtain ⟨O6, K6⟩ := ok_ K5 o_ k_; have HR_6 := Aside0.mk (keepF HR_5.out k_); clear a0 a2 a4 O5 K5 HR_5 o_ k_ hb_; have a0 := k3_ O6 0; have a2 := k3_ O6 2; have a4 := k3_ O6 4) | ((with_reducible refine gT 35 4 rfl ?_); refine wS 2 0 [.int .i64 0, .int .i64 0, .slice none 0 0] O6 ?_; intro w7 o_ k_; obtain ⟨O7, K7⟩ := ok_ K6 o_ k_; have HR_7 := Aside0.mk (keepF HR_6.out k_); clear a0 a2 a4 O6 K6 HR_6 o_ k_; have a0 := k3_ O7 0; have a2 := k3_ O7 2; have a4 := k3_ O7 4))
  refine bodyPost_ret (results_ct rfl _ _ gz 35 #[.int .i64 0, .int .i64 0, .slice none 0 0] (0, 0) _ rfl (O7.out.blk (i := 2) rfl) Tryd.underlying35 rfl (by kernel_rfl)) rfl ?_
  exact ⟨by rw [← HN1.out]; rfl, O7.out.take 2, K7.out⟩
theorem DJAdd_ok {N : Nat → Prop} {w : World} {g : Nat} {o m : Int} {A0 : Option Addr} {c0 : Nat} {rJ : List (List Value)} (B : Option Addr) (c : Nat) (ups : List Upd7) (h : Own N w [cells g #[.int .i64 o, .int .i64 m, .slice A0 rJ.length c0] 64, nrow (Kd.raw 3) 35 (.slice A0 rJ.length c0) rJ]) (hr : Kd.F k32 w N B ups.length ups) (hc : ups.length ≤ c) (hL : rJ.length ≤ 1000000) (hu : ups.length ≤ 1000000) (hq : ¬ (rJ.length : Int) ≥ m) (he : mayR o ((rJ.length : Int) + 1) ups = 0) :
  Calls Tryd.prog 89 #[.pointer (some ⟨g, 0, none⟩), .slice B ups.length c] w fun e_ w' => ∃ B1 b1_ C4 e4, e_ = .returned (.tuple #[.agg #[.int .i64 o, .int .i64 ((rJ.length : Int) + 1), .slice B1 ups.length b1_], .int .i64 0]) ∧ ups.length ≤ b1_ ∧ Own N w' [cells g #[.int .i64 o, .int .i64 m, .slice C4 (rJ ++ [rw3 o ((rJ.length : Int) + 1) (.slice B1 ups.length b1_)]).length e4] 64, nrow (Kd.raw 3) 35 (.slice C4 (rJ ++ [rw3 o ((rJ.length : Int) + 1) (.slice B1 ups.length b1_)]).length e4) (rJ ++ [rw3 o ((rJ.length : Int) + 1) (.slice B1 ups.length b1_)]), nrow k32 32 (.slice B1 ups.length b1_) ups] ∧ KeepS N w w' := by
 have d1 : decide ((rJ.length : Int) ≥ m) = false := decide_eq_false hq
 have d2 : decide (m ≤ (rJ.length : Int)) = false := d1
 have HR_0 : Aside0 (Kd.F k32 w N B ups.length ups) := ⟨hr⟩
 have HC := Aside0.mk hc
 have HL := Aside0.mk hL
 have HU := Aside0.mk hu
 have hs1 : IntKind.i64.wrap ((rJ.length : Int) + 1) = (rJ.length : Int) + 1 := by rw [IntKind.wrap_i64]; omega
 have hs2 : wrap64 ((rJ.length : Int) + 1) = (rJ.length : Int) + 1 := by unfold wrap64; omega
 obtain ⟨n1, hn1⟩ : ∃ n : Int, n = (rJ.length : Int) + 1 := ⟨_, rfl⟩
 have HN1 := Aside0.mk hn1
 replace hs1 := hs1.trans hn1.symm
 replace hs2 := hs2.trans hn1.symm
 rw [← hn1] at he
 have d4 : ((0 : Int) != 0) = false := by decide
 have HE := Aside0.mk he
 clear hn1 he
 have O0 : Aside0 (Own N w [cells g #[.int .i64 o, .int .i64 m, .slice A0 rJ.length c0] 64, nrow (Kd.raw 3) 35 (.slice A0 rJ.length c0) rJ]) := ⟨h⟩
 have K0 : Aside0 (KeepS N w w) := ⟨KeepS.refl _ _⟩
 have a0 := k3_ O0 0
 clear h hr hc hL hu hq
 go_enter Tryd.func89, Tryd.ntmps89
 go_wp2_with (first | ((with_reducible refine gD 4 rfl ?_); refine bP 4 #[.int .i64 0, .int .i64 0, .slice none 0 0] 35 O0.out ?_; intro gz w1 o_ k_; obtain ⟨O1, K1⟩ := ok_ K0 o_ k_; have HR_1 := Aside0.mk (keepF HR_0.out k_); clear a0 O0 K0 HR_0 o_ k_; have a0 := k3_ O1 0; have a2 := k3_ O1 2))
 refine sP (n := 10) (S := c3_ g (.int .i64 o) (.int .i64 m) (.slice A0 rJ.length c0)) (ds := []) (p3_ a0) (fun hHeld => ?_)
 obtain ⟨w2, hw_⟩ : ∃ W, W = w1.drew := ⟨_, rfl⟩
 have o_ := O1.out.drew
 have k_ : KeepS N w1 w1.drew := KeepS.drew
 rw [← hw_] at o_ k_ hHeld ⊢
 clear hw_
 obtain ⟨O2, K2⟩ := ok_ K1 o_ k_
 have HR_2 := Aside0.mk (keepF HR_1.out k_)
 clear a0 a2 O1 K1 HR_1 o_ k_
 have a0 := k3_ O2 0
 have a2 := k3_ O2 2
 refine pP 0 (some 8) ?_
 refine pP 1 (some 9) ?_
 refine pP 2 (some 10) ?_
 refine pP 5 (some 13) ?_
 refine pP 6 (some 14) ?_
 refine pP 7 (some 15) ?_
 refine tP 3 (some 11) hHeld ?_
 refine pP 4 (some 12) ?_
 refine tP 8 (some 16) hHeld ?_
 refine pP 9 (some 17) ?_
 refine done_ (by kernel_rfl) ?_
 clear hHeld
 go_wp2
 refine sP (n := 16) (S := c3_ g (.int .i64 o) (.int .i64 m) (.slice A0 rJ.length c0)) (ds := []) (p3_ a0) (fun hHeld => ?_)
 obtain ⟨w3, hw_⟩ : ∃ W, W = w2.drew := ⟨_, rfl⟩
 have o_ := O2.out.drew
 have k_ : KeepS N w2 w2.drew := KeepS.drew
 rw [← hw_] at o_ k_ hHeld ⊢
 clear hw_
 obtain ⟨O3, K3⟩ := ok_ K2 o_ k_
 have HR_3 := Aside0.mk (keepF HR_2.out k_)
 clear a0 a2 O2 K2 HR_2 o_ k_
 have a0 := k3_ O3 0
 have a2 := k3_ O3 2
 refine pP 0 (some 19) ?_
 refine pP 1 (some 20) ?_
 refine pP 2 (some 21) ?_
 refine pP 4 (some 23) ?_
 refine pP 5 (some 24) ?_
 refine pP 6 (some 25) ?_
 refine pP 11 (some 30) ?_
 refine tP 3 (some 22) hHeld ?_
 refine tP 7 (some 26) hHeld ?_
 refine pP 8 (some 27) ?_
 refine pP 9 (some 28) ?_
 refine join_ (σ := Option Addr × Nat × Option Addr × Nat × Nat) 1 #[true, true, true, true, true, true, true, true, true, true, true, true, true, true, true, false] (fun ⟨C1, e1, B1, b1_, gx⟩ => [(29, .slice C1 0 e1), (31, .slice B1 ups.length b1_), (32, .agg #[.int .i64 o, .int .i64 n1, .slice B1 ups.length b1_]), (6, .pointer (some ⟨gx, 0, none⟩))]) (fun ⟨C1, e1, B1, b1_, gx⟩ w' => Own N w' [cells g #[.int .i64 o, .int .i64 m, .slice A0 rJ.length c0] 64, nrow (Kd.raw 3) 35 (.slice A0 rJ.length c0) rJ, cells gz #[.int .i64 0, .int .i64 0, .slice none 0 0] 35, nrow k32 32 (.slice B1 ups.length b1_) ups, cells gx #[.int .i64 0, .int .i64 0, .slice none 0 0] 35] ∧ KeepS N w3 w') ?hcont ?hways
 case hways =>
  intro hc_
  have K4 : Aside0 (KeepS N w3 w3) := ⟨KeepS.refl _ _⟩
  have O4 : Aside0 (Own N w3 [cells g #[.int .i64 o, .int .i64 m, .slice A0 rJ.length c0] 64, nrow (Kd.raw 3) 35 (.slice A0 rJ.length c0) rJ, cells gz #[.int .i64 0, .int .i64 0, .slice none 0 0] 35]) := O3
  refine tW_ 10 14 (some 29) (some 6) (fun K_ hK_ => ?_) (fun K_ hK_ => ?_)
  ·skip
   refine own_lit_step k32 (N := N) (e := 32) (xs := []) (inner := []) rfl rfl gs_ (Reps.none _ _) (by decide) O4.out ?_
   intro C1 e1 w5 o_ k_
   obtain ⟨O5, K5⟩ := ok_ K4 o_ k_
   have HR_5 := Aside0.mk (keepF HR_3.out k_)
   clear a0 a2 O4 K4 HR_3 o_ k_
   have a0 := k3_ O5 0
   have a2 := k3_ O5 2
   clear hHeld
   refine hK_.out _ _ (p3_ a0) (fun hHeld => ?_)
   clear hK_ K_
   refine nR_ ?_
   refine tW_ 12 14 (some 31) (some 6) (fun K_ hK_ => ?_) (fun K_ hK_ => ?_)
   ·skip
    refine Own.append_flat_step k32 flatU O5.out (i := 3) rfl (Kd.F_now HR_5.out) rfl (by rfl) (.tmp 29) (.tmp 30) 33 (.agg #[.string ⟨#[]⟩, .int .i64 0, .int .i64 0, .string ⟨#[]⟩]) 48 rfl Tryd.underlying33 infoU7 rfl (by decide) (by decide) rfl rfl (by have := HU.out; simp only [List.length_nil]; omega) ?_
    intro B1 b1_ w6 o_ k_
    obtain ⟨O6, K6⟩ := ok_ K5 o_ k_
    have HR_6 := Aside0.mk (keepF HR_5.out k_)
    clear a0 a2 O5 K5 HR_5 o_ k_
    have a0 := k3_ O6 0
    have a2 := k3_ O6 2
    clear hHeld
    refine hK_.out _ _ (p3_ a0) (fun hHeld => ?_)
    clear hK_ K_
    refine nR_ ?_
    refine pP 13 (some 32) ?_
    refine oP 14 (some 6) (fun K_ hK_ => ?_)
    refine cP #[.int .i64 0, .int .i64 0, .slice none 0 0] 35 O6.out ?_
    intro gx w7 o_ k_
    obtain ⟨O7, K7⟩ := ok_ K6 o_ k_
    have HR_7 := Aside0.mk (keepF HR_6.out k_)
    clear a0 a2 O6 K6 HR_6 o_ k_
    have a0 := k3_ O7 0
    have a2 := k3_ O7 2
    have a4 := k3_ O7 4
    clear hHeld
    refine hK_.out _ _ (p3_ a0) (fun hHeld => ?_)
    clear hK_ K_
    refine nR_ ?_
    refine norm_ (a' := _) ?_ (hc_ ⟨C1, e1, B1, b1_, gx⟩ _ ⟨?_, K7.out⟩)
    ·simp only [putAll, Act.put, List.setIfInBounds_toArray, List.set_cons_zero, List.set_cons_succ]
     try rfl
    ·exact O7.out.pickL [0, 1, 2, 3, 4] (by decide) (by simp)
   ·skip
    refine cP #[.int .i64 0, .int .i64 0, .slice none 0 0] 35 O5.out ?_
    intro gx w6 o_ k_
    obtain ⟨O6, K6⟩ := ok_ K5 o_ k_
    have HR_6 := Aside0.mk (keepF HR_5.out k_)
    clear a0 a2 O5 K5 HR_5 o_ k_
    have a0 := k3_ O6 0
    have a2 := k3_ O6 2
    have a4 := k3_ O6 4
    clear hHeld
    refine hK_.out _ _ (p3_ a0) (fun hHeld => ?_)
    clear hK_ K_
    refine nR_ ?_
    refine oP 12 (some 31) (fun K_ hK_ => ?_)
    refine Own.append_flat_step k32 flatU O6.out (i := 3) rfl (Kd.F_now HR_6.out) rfl (by rfl) (.tmp 29) (.tmp 30) 33 (.agg #[.string ⟨#[]⟩, .int .i64 0, .int .i64 0, .string ⟨#[]⟩]) 48 rfl Tryd.underlying33 infoU7 rfl (by decide) (by decide) rfl rfl (by have := HU.out; simp only [List.length_nil]; omega) ?_
    intro B1 b1_ w7 o_ k_
    obtain ⟨O7, K7⟩ := ok_ K6 o_ k_
    have HR_7 := Aside0.mk (keepF HR_6.out k_)
    clear a0 a2 a4 O6 K6 HR_6 o_ k_
    have a0 := k3_ O7 0
    have a2 := k3_ O7 2
    have a4 := k3_ O7 4
    clear hHeld
    refine hK_.out _ _ (p3_ a0) (fun hHeld => ?_)
    clear hK_ K_
    refine nR_ ?_
    refine pP 13 (some 32) ?_
    refine norm_ (a' := _) ?_ (hc_ ⟨C1, e1, B1, b1_, gx⟩ _ ⟨?_, K7.out⟩)
    ·simp only [putAll, Act.put, List.setIfInBounds_toArray, List.set_cons_zero, List.set_cons_succ]
     try rfl
    ·exact O7.out.pickL [0, 1, 2, 3, 4] (by decide) (by simp)
  ·skip
   refine cP #[.int .i64 0, .int .i64 0, .slice none 0 0] 35 O4.out ?_
   intro gx w5 o_ k_
   obtain ⟨O5, K5⟩ := ok_ K4 o_ k_
   have HR_5 := Aside0.mk (keepF HR_3.out k_)
   clear a0 a2 O4 K4 HR_3 o_ k_
   have a0 := k3_ O5 0
   have a2 := k3_ O5 2
   have a3 := k3_ O5 3
   clear hHeld
   refine hK_.out _ _ (p3_ a0) (fun hHeld => ?_)
   clear hK_ K_
   refine nR_ ?_
   refine oP 10 (some 29) (fun K_ hK_ => ?_)
   refine own_lit_step k32 (N := N) (e := 32) (xs := []) (inner := []) rfl rfl gs_ (Reps.none _ _) (by decide) O5.out ?_
   intro C1 e1 w6 o_ k_
   obtain ⟨O6, K6⟩ := ok_ K5 o_ k_
   have HR_6 := Aside0.mk (keepF HR_5.out k_)
   clear a0 a2 a3 O5 K5 HR_5 o_ k_
   have a0 := k3_ O6 0
   have a2 := k3_ O6 2
   have a3 := k3_ O6 3
   clear hHeld
   refine hK_.out _ _ (p3_ a0) (fun hHeld => ?_)
   clear hK_ K_
   refine nR_ ?_
   refine oP 12 (some 31) (fun K_ hK_ => ?_)
   refine Own.append_flat_step k32 flatU O6.out (i := 4) rfl (Kd.F_now HR_6.out) rfl (by rfl) (.tmp 29) (.tmp 30) 33 (.agg #[.string ⟨#[]⟩, .int .i64 0, .int .i64 0, .string ⟨#[]⟩]) 48 rfl Tryd.underlying33 infoU7 rfl (by decide) (by decide) rfl rfl (by have := HU.out; simp only [List.length_nil]; omega) ?_
   intro B1 b1_ w7 o_ k_
   obtain ⟨O7, K7⟩ := ok_ K6 o_ k_
   have HR_7 := Aside0.mk (keepF HR_6.out k_)
   clear a0 a2 a3 O6 K6 HR_6 o_ k_
   have a0 := k3_ O7 0
   have a2 := k3_ O7 2
   have a3 := k3_ O7 3
   clear hHeld
   refine hK_.out _ _ (p3_ a0) (fun hHeld => ?_)
   clear hK_ K_
   refine nR_ ?_
   refine pP 13 (some 32) ?_
   refine norm_ (a' := _) ?_ (hc_ ⟨C1, e1, B1, b1_, gx⟩ _ ⟨?_, K7.out⟩)
   ·simp only [putAll, Act.put, List.setIfInBounds_toArray, List.set_cons_zero, List.set_cons_succ]
    try rfl
   ·exact O7.out.pickL [0, 1, 2, 4, 3] (by decide) (by simp)
 case hcont =>
  clear hHeld
  rintro ⟨C1, e1, B1, b1_, gx⟩ w4 ⟨o_, k_⟩
  obtain ⟨O4, K4⟩ := ok_ K3 o_ k_
  have HR_4 := Aside0.mk (keepF HR_3.out k_)
  clear a0 a2 O3 K3 HR_3 o_ k_
  have a0 := k3_ O4 0
  have a2 := k3_ O4 2
  have a4 := k3_ O4 4
  refine nA_ ?_
  have hHeld : w4.cell? ⟨g, 0, none⟩ = some (.int .i64 o) ∧ w4.cell? ⟨g, 1, none⟩ = some (.int .i64 m) ∧ w4.cell? ⟨g, 2, none⟩ = some (.slice A0 rJ.length c0) := (p3_ a0)
  refine oP 15 none (fun K_ hK_ => ?_)
  refine xS 4 0 [.int .i64 o, .int .i64 n1, .slice B1 ups.length b1_] O4 ?_
  intro w5 o_ k_
  obtain ⟨O5, K5⟩ := ok_ K4 o_ k_
  have HR_5 := Aside0.mk (keepF HR_4.out k_)
  clear a0 a2 a4 O4 K4 HR_4 o_ k_
  have a0 := k3_ O5 0
  have a2 := k3_ O5 2
  have a4 := k3_ O5 4
  clear hHeld
  refine hK_.out _ _ (p3_ a0) (fun hHeld => ?_)
  clear hK_ K_
  refine done_ (by kernel_rfl) ?_
  clear hHeld
  go_wp2_with (first | ((with_reducible refine gC 100 rfl ?_); refine gP (some 34) Tryd.func100 #[.agg #[.int .i64 o, .int .i64 n1, .slice B1 ups.length b1_]] ?_; refine (chapbookref07_May.calls 40 _ _ _ _ ups 0 _ (O5.out.nreads (i := 3) rfl).2.2 (O5.out.nreads (i := 3) rfl).2.1 ((rmayR 20 _ _ _).trans (by rw [HE.out]))).mono ?_; rintro e_ w6 ⟨rfl, hb_⟩; refine ⟨_, rfl, ?_⟩; have o_ := O5.out.below hb_; have k_ := KeepS.of_below (N := N) hb_; obtain ⟨O6, K6⟩ := ok_ K5 o_ k_; have HR_6 := Aside0.mk (keepF HR_5.out k_); clear a0 a2 a4 O5 K5 HR_5 o_ k_ hb_; have a0 := k3_ O6 0; have a2 := k3_ O6 2; have a4 := k3_ O6 4))
  refine sP (n := 13) (S := d3_ g (.int .i64 o) (.int .i64 m) (.slice A0 rJ.length c0) (c3_ gx (.int .i64 o) (.int .i64 n1) (.slice B1 ups.length b1_))) (ds := [12]) (j3_ a0 (p3_ a4)) (fun hHeld => ?_)
  obtain ⟨w7, hw_⟩ : ∃ W, W = w6.drew := ⟨_, rfl⟩
  have o_ := O6.out.drew
  have k_ : KeepS N w6 w6.drew := KeepS.drew
  rw [← hw_] at o_ k_ hHeld ⊢
  clear hw_
  obtain ⟨O7, K7⟩ := ok_ K6 o_ k_
  have HR_7 := Aside0.mk (keepF HR_6.out k_)
  clear a0 a2 a4 O6 K6 HR_6 o_ k_
  have a0 := k3_ O7 0
  have a2 := k3_ O7 2
  have a4 := k3_ O7 4
  refine pP 0 (some 39) ?_
  refine pP 2 (some 41) ?_
  refine pP 3 (some 42) ?_
  refine pP 4 (some 43) ?_
  refine tP 5 (some 44) hHeld ?_
  refine tP 7 (some 46) hHeld ?_
  refine join_ (σ := Option Addr × Nat × Option Addr × Nat × Option Addr × Nat) 4 #[true, true, true, true, true, true, true, true, true, false, false, false, false] (fun ⟨C2, e2, C3, e3, D1, h1_⟩ => [(40, .slice C2 0 e2), (45, .slice C3 rJ.length e3), (47, .slice D1 1 h1_)]) (fun ⟨C2, e2, C3, e3, D1, h1_⟩ w' => Own N w' [cells g #[.int .i64 o, .int .i64 m, .slice A0 rJ.length c0] 64, nrow (Kd.raw 3) 35 (.slice A0 rJ.length c0) rJ, cells gz #[.int .i64 0, .int .i64 0, .slice none 0 0] 35, nrow k32 32 (.slice B1 ups.length b1_) ups, cells gx #[.int .i64 o, .int .i64 n1, .slice B1 ups.length b1_] 35, nrow (Kd.raw 3) 35 (.slice C3 rJ.length e3) rJ, nrow (Kd.raw 3) 35 (.slice D1 1 h1_) [rw3 o n1 (.slice B1 ups.length b1_)]] ∧ KeepS N w7 w') ?hcont ?hways
  case hways =>
   intro hc_
   have K8 : Aside0 (KeepS N w7 w7) := ⟨KeepS.refl _ _⟩
   have O8 : Aside0 (Own N w7 [cells g #[.int .i64 o, .int .i64 m, .slice A0 rJ.length c0] 64, nrow (Kd.raw 3) 35 (.slice A0 rJ.length c0) rJ, cells gz #[.int .i64 0, .int .i64 0, .slice none 0 0] 35, nrow k32 32 (.slice B1 ups.length b1_) ups, cells gx #[.int .i64 o, .int .i64 n1, .slice B1 ups.length b1_] 35]) := O7
   refine tW_ 1 8 (some 40) (some 47) (fun K_ hK_ => ?_) (fun K_ hK_ => ?_)
   ·skip
    refine own_lit_step (Kd.raw 3) (N := N) (e := 35) (xs := []) (inner := []) rfl rfl gs_ (Reps.none _ _) (by decide) O8.out ?_
    intro C2 e2 w9 o_ k_
    obtain ⟨O9, K9⟩ := ok_ K8 o_ k_
    have HR_9 := Aside0.mk (keepF HR_7.out k_)
    clear a0 a2 a4 O8 K8 HR_7 o_ k_
    have a0 := k3_ O9 0
    have a2 := k3_ O9 2
    have a4 := k3_ O9 4
    clear hHeld
    refine hK_.out _ _ (j3_ a0 (p3_ a4)) (fun hHeld => ?_)
    clear hK_ K_
    refine nR_ ?_
    refine tW_ 6 8 (some 45) (some 47) (fun K_ hK_ => ?_) (fun K_ hK_ => ?_)
    ·skip
     refine Own.append_flat_step (Kd.raw 3) flatRaw O9.out (i := 5) rfl (O9.out.nreads (i := 1) rfl).2.2 rfl (by rfl) (.tmp 40) (.tmp 44) 40 (.agg #[.int .i64 0, .int .i64 0, .slice none 0 0]) 40 rfl Tryd.underlying40 infoR rfl (by decide) (by decide) rfl rfl (by have := HL.out; simp only [List.length_nil]; omega) ?_
     intro C3 e3 w10 o_ k_
     obtain ⟨O10, K10⟩ := ok_ K9 o_ k_
     have HR_10 := Aside0.mk (keepF HR_9.out k_)
     clear a0 a2 a4 O9 K9 HR_9 o_ k_
     have a0 := k3_ O10 0
     have a2 := k3_ O10 2
     have a4 := k3_ O10 4
     clear hHeld
     refine hK_.out _ _ (j3_ a0 (p3_ a4)) (fun hHeld => ?_)
     clear hK_ K_
     refine nR_ ?_
     refine oP 8 (some 47) (fun K_ hK_ => ?_)
     refine own_lit_step (Kd.raw 3) (N := N) (e := 35) (xs := [rw3 o n1 (.slice B1 ups.length b1_)]) (inner := [.int .i64 o, .int .i64 n1, .slice B1 ups.length b1_]) rfl rfl gs_ (repW _ o n1 B1 ups.length b1_) (by show 1 ≤ 9223372036854775807; decide) O10.out ?_
     intro D1 h1_ w11 o_ k_
     obtain ⟨O11, K11⟩ := ok_ K10 o_ k_
     have HR_11 := Aside0.mk (keepF HR_10.out k_)
     clear a0 a2 a4 O10 K10 HR_10 o_ k_
     have a0 := k3_ O11 0
     have a2 := k3_ O11 2
     have a4 := k3_ O11 4
     clear hHeld
     refine hK_.out _ _ (j3_ a0 (p3_ a4)) (fun hHeld => ?_)
     clear hK_ K_
     refine nR_ ?_
     refine norm_ (a' := _) ?_ (hc_ ⟨C2, e2, C3, e3, D1, h1_⟩ _ ⟨?_, K11.out⟩)
     ·simp only [putAll, Act.put, List.setIfInBounds_toArray, List.set_cons_zero, List.set_cons_succ]
      try rfl
     ·exact O11.out.pickL [0, 1, 2, 3, 4, 5, 6] (by decide) (by simp)
    ·skip
     refine own_lit_step (Kd.raw 3) (N := N) (e := 35) (xs := [rw3 o n1 (.slice B1 ups.length b1_)]) (inner := [.int .i64 o, .int .i64 n1, .slice B1 ups.length b1_]) rfl rfl gs_ (repW _ o n1 B1 ups.length b1_) (by show 1 ≤ 9223372036854775807; decide) O9.out ?_
     intro D1 h1_ w10 o_ k_
     obtain ⟨O10, K10⟩ := ok_ K9 o_ k_
     have HR_10 := Aside0.mk (keepF HR_9.out k_)
     clear a0 a2 a4 O9 K9 HR_9 o_ k_
     have a0 := k3_ O10 0
     have a2 := k3_ O10 2
     have a4 := k3_ O10 4
     clear hHeld
     refine hK_.out _ _ (j3_ a0 (p3_ a4)) (fun hHeld => ?_)
     clear hK_ K_
     refine nR_ ?_
     refine oP 6 (some 45) (fun K_ hK_ => ?_)
     refine Own.append_flat_step (Kd.raw 3) flatRaw O10.out (i := 5) rfl (O10.out.nreads (i := 1) rfl).2.2 rfl (by rfl) (.tmp 40) (.tmp 44) 40 (.agg #[.int .i64 0, .int .i64 0, .slice none 0 0]) 40 rfl Tryd.underlying40 infoR rfl (by decide) (by decide) rfl rfl (by have := HL.out; simp only [List.length_nil]; omega) ?_
     intro C3 e3 w11 o_ k_
     obtain ⟨O11, K11⟩ := ok_ K10 o_ k_
     have HR_11 := Aside0.mk (keepF HR_10.out k_)
     clear a0 a2 a4 O10 K10 HR_10 o_ k_
     have a0 := k3_ O11 0
     have a2 := k3_ O11 2
     have a4 := k3_ O11 4
     clear hHeld
     refine hK_.out _ _ (j3_ a0 (p3_ a4)) (fun hHeld => ?_)
     clear hK_ K_
     refine nR_ ?_
     refine norm_ (a' := _) ?_ (hc_ ⟨C2, e2, C3, e3, D1, h1_⟩ _ ⟨?_, K11.out⟩)
     ·simp only [putAll, Act.put, List.setIfInBounds_toArray, List.set_cons_zero, List.set_cons_succ]
      try rfl
     ·exact O11.out.pickL [0, 1, 2, 3, 4, 5, 6] (by decide) (by simp)
   ·skip
    refine own_lit_step (Kd.raw 3) (N := N) (e := 35) (xs := [rw3 o n1 (.slice B1 ups.length b1_)]) (inner := [.int .i64 o, .int .i64 n1, .slice B1 ups.length b1_]) rfl rfl gs_ (repW _ o n1 B1 ups.length b1_) (by show 1 ≤ 9223372036854775807; decide) O8.out ?_
    intro D1 h1_ w9 o_ k_
    obtain ⟨O9, K9⟩ := ok_ K8 o_ k_
    have HR_9 := Aside0.mk (keepF HR_7.out k_)
    clear a0 a2 a4 O8 K8 HR_7 o_ k_
    have a0 := k3_ O9 0
    have a2 := k3_ O9 2
    have a4 := k3_ O9 4
    clear hHeld
    refine hK_.out _ _ (j3_ a0 (p3_ a4)) (fun hHeld => ?_)
    clear hK_ K_
    refine nR_ ?_
    refine oP 1 (some 40) (fun K_ hK_ => ?_)
    refine own_lit_step (Kd.raw 3) (N := N) (e := 35) (xs := []) (inner := []) rfl rfl gs_ (Reps.none _ _) (by decide) O9.out ?_
    intro C2 e2 w10 o_ k_
    obtain ⟨O10, K10⟩ := ok_ K9 o_ k_
    have HR_10 := Aside0.mk (keepF HR_9.out k_)
    clear a0 a2 a4 O9 K9 HR_9 o_ k_
    have a0 := k3_ O10 0
    have a2 := k3_ O10 2
    have a4 := k3_ O10 4
    clear hHeld
    refine hK_.out _ _ (j3_ a0 (p3_ a4)) (fun hHeld => ?_)
    clear hK_ K_
    refine nR_ ?_
    refine oP 6 (some 45) (fun K_ hK_ => ?_)
    refine Own.append_flat_step (Kd.raw 3) flatRaw O10.out (i := 6) rfl (O10.out.nreads (i := 1) rfl).2.2 rfl (by rfl) (.tmp 40) (.tmp 44) 40 (.agg #[.int .i64 0, .int .i64 0, .slice none 0 0]) 40 rfl Tryd.underlying40 infoR rfl (by decide) (by decide) rfl rfl (by have := HL.out; simp only [List.length_nil]; omega) ?_
    intro C3 e3 w11 o_ k_
    obtain ⟨O11, K11⟩ := ok_ K10 o_ k_
    have HR_11 := Aside0.mk (keepF HR_10.out k_)
    clear a0 a2 a4 O10 K10 HR_10 o_ k_
    have a0 := k3_ O11 0
    have a2 := k3_ O11 2
    have a4 := k3_ O11 4
    clear hHeld
    refine hK_.out _ _ (j3_ a0 (p3_ a4)) (fun hHeld => ?_)
    clear hK_ K_
    refine nR_ ?_
    refine norm_ (a' := _) ?_ (hc_ ⟨C2, e2, C3, e3, D1, h1_⟩ _ ⟨?_, K11.out⟩)
    ·simp only [putAll, Act.put, List.setIfInBounds_toArray, List.set_cons_zero, List.set_cons_succ]
     try rfl
    ·exact O11.out.pickL [0, 1, 2, 3, 4, 6, 5] (by decide) (by simp)
  case hcont =>
   clear hHeld
   rintro ⟨C2, e2, C3, e3, D1, h1_⟩ w8 ⟨o_, k_⟩
   obtain ⟨O8, K8⟩ := ok_ K7 o_ k_
   have HR_8 := Aside0.mk (keepF HR_7.out k_)
   clear a0 a2 a4 O7 K7 HR_7 o_ k_
   have a0 := k3_ O8 0
   have a2 := k3_ O8 2
   have a4 := k3_ O8 4
   refine nA_ ?_
   have hHeld : w8.cell? ⟨g, 0, none⟩ = some (.int .i64 o) ∧ w8.cell? ⟨g, 1, none⟩ = some (.int .i64 m) ∧ w8.cell? ⟨g, 2, none⟩ = some (.slice A0 rJ.length c0) ∧ w8.cell? ⟨gx, 0, none⟩ = some (.int .i64 o) ∧ w8.cell? ⟨gx, 1, none⟩ = some (.int .i64 n1) ∧ w8.cell? ⟨gx, 2, none⟩ = some (.slice B1 ups.length b1_) := (j3_ a0 (p3_ a4))
   refine oP 9 (some 48) (fun K_ hK_ => ?_)
   refine Own.append_flat_step (Kd.raw 3) flatRaw O8.out (i := 5) rfl (O8.out.nreads (i := 6) rfl).2.2 rfl (by rfl) (.tmp 45) (.tmp 47) 40 (.agg #[.int .i64 0, .int .i64 0, .slice none 0 0]) 40 rfl Tryd.underlying40 infoR rfl (by decide) (by decide) rfl rfl (by have := HL.out; omega) ?_
   intro C4 e4 w9 o_ k_
   obtain ⟨O9, K9⟩ := ok_ K8 o_ k_
   have HR_9 := Aside0.mk (keepF HR_8.out k_)
   clear a0 a2 a4 O8 K8 HR_8 o_ k_
   have a0 := k3_ O9 0
   have a2 := k3_ O9 2
   have a4 := k3_ O9 4
   clear hHeld
   refine hK_.out _ _ (j3_ a0 (p3_ a4)) (fun hHeld => ?_)
   clear hK_ K_
   refine nP ?_
   refine pP 10 (some 49) ?_
   refine pP 11 (some 50) ?_
   refine lP 12 none (fun K_ hK_ => ?_)
   refine xS 0 2 [.slice C4 (rJ ++ [rw3 o n1 (.slice B1 ups.length b1_)]).length e4] O9 ?_
   intro w10 o_ k_
   obtain ⟨O10, K10⟩ := ok_ K9 o_ k_
   have HR_10 := Aside0.mk (keepF HR_9.out k_)
   clear a0 a2 a4 O9 K9 HR_9 o_ k_
   have a0 := k3_ O10 0
   have a2 := k3_ O10 2
   have a4 := k3_ O10 4
   refine hK_.out _ _ ?_
   clear hK_ K_
   refine done_ (by kernel_rfl) ?_
   clear hHeld
   go_wp2_with (first | ((with_reducible refine gT 35 4 rfl ?_); refine wS 2 0 [.int .i64 o, .int .i64 n1, .slice B1 ups.length b1_] O10 ?_; intro w11 o_ k_; obtain ⟨O11, K11⟩ := ok_ K10 o_ k_; have HR_11 := Aside0.mk (keepF HR_10.out k_); clear a0 a2 a4 O10 K10 HR_10 o_ k_; have a0 := k3_ O11 0; have a2 := k3_ O11 2; have a4 := k3_ O11 4))
   refine bodyPost_ret (results_ct rfl _ _ gz 35 #[.int .i64 o, .int .i64 n1, .slice B1 ups.length b1_] (0, 0) _ rfl (O11.out.blk (i := 2) rfl) Tryd.underlying35 rfl (by kernel_rfl)) rfl ?_
   exact ⟨B1, b1_, C4, e4, by rw [← HN1.out]; rfl, (O11.out.nreads (i := 3) rfl).2.1, (by rw [← HN1.out]; exact O11.out.pickL [0, 5, 3] (by decide) (by simp)), K11.out⟩
theorem DNew_low {N : Nat → Prop} {w : World} {gj : Nat} {jo jm : Int} {AJ : Option Addr} {cJ : Nat} {rJ : List (List Value)} (o mtu a3 : Int) (h : Own N w [cells gj #[.int .i64 jo, .int .i64 jm, .slice AJ rJ.length cJ] 64, nrow (Kd.raw 3) 35 (.slice AJ rJ.length cJ) rJ]) (hL : rJ.length ≤ 1000000) (hm : a3 < 1) :
  Calls Tryd.prog 54 #[.pointer (some ⟨gj, 0, none⟩), .int .i64 o, .int .i64 mtu, .int .i64 a3] w fun e w' => ∃ g A5 c5, e = .returned (.pointer (some ⟨g, 0, none⟩)) ∧ Own N w' [cells gj #[.int .i64 jo, .int .i64 jm, .slice AJ rJ.length cJ] 64, nrow (Kd.raw 3) 35 (.slice AJ rJ.length cJ) rJ, cells g #[.pointer (some ⟨gj, 0, none⟩), .int .i64 o, .int .i64 mtu, .int .i64 1, .slice none 0 0, .slice A5 rJ.length c5, .slice none 0 0] 44, nrow (Kd.raw 3) 35 (.slice A5 rJ.length c5) rJ] ∧ KeepS N w w' := by
 have HL := Aside0.mk hL
 have O0 : Aside0 (Own N w [cells gj #[.int .i64 jo, .int .i64 jm, .slice AJ rJ.length cJ] 64, nrow (Kd.raw 3) 35 (.slice AJ rJ.length cJ) rJ]) := ⟨h⟩
 have K0 : Aside0 (KeepS N w w) := ⟨KeepS.refl _ _⟩
 have a0 := k3_ O0 0
 have d1 : decide (a3 < 1) = true := decide_eq_true hm
 have d2 : decide ((1 : Int) > 16) = false := by decide
 clear h hL hm
 go_enter Tryd.func54, Tryd.ntmps54
 go_wp2_with (first | ((with_reducible refine gD 17 rfl ?_); refine own_lit (Kd.raw 3) (N := N) (e := 35) (xs := []) (inner := []) rfl (D := 17) rfl gs_ (Reps.none _ _) (by simp) O0.out ?_; intro A0 c0 w1 o_ k_; obtain ⟨O1, K1⟩ := ok_ K0 o_ k_; clear a0 O0 K0 o_ k_; have a0 := k3_ O1 0) | ((with_reducible refine gate_builtin (b := .append) (xs := #[.tmp 17, .tmp 21]) rfl ?_); at_builtin; refine Own.append_flat (Kd.raw 3) flatRaw O1.out (i := 2) (ys := rJ) rfl ((O1.out.nreads (i := 1) rfl).2.2) rfl (.tmp 17) (.tmp 21) 40 ((.agg #[.int .i64 0, .int .i64 0, .slice none 0 0])) 40 rfl Tryd.underlying40 infoR rfl (by decide) (by decide) rfl rfl (by have := HL.out; simp only [List.length_nil]; omega) ?_; intro A5 c5 w2 o_ k_; obtain ⟨O2, K2⟩ := ok_ K1 o_ k_; clear a0 O1 K1 o_ k_; have a0 := k3_ O2 0) | ((with_reducible refine gD 24 rfl ?_); refine bP 24 #[.pointer (some ⟨gj, 0, none⟩), .int .i64 o, .int .i64 mtu, .int .i64 1, .slice none 0 0, .slice A5 rJ.length c5, .slice none 0 0] 44 O2.out ?_; intro g w3 o_ k_; obtain ⟨O3, K3⟩ := ok_ K2 o_ k_; clear a0 O2 K2 o_ k_; have a0 := k3_ O3 0; have a3 := k7_ O3 3))
 go_ret
 exact ⟨g, A5, c5, rfl, O3.out.pickL [0, 1, 3, 2] (by decide) (by simp), K3.out⟩
theorem DNew_high {N : Nat → Prop} {w : World} {gj : Nat} {jo jm : Int} {AJ : Option Addr} {cJ : Nat} {rJ : List (List Value)} (o mtu a3 : Int) (h : Own N w [cells gj #[.int .i64 jo, .int .i64 jm, .slice AJ rJ.length cJ] 64, nrow (Kd.raw 3) 35 (.slice AJ rJ.length cJ) rJ]) (hL : rJ.length ≤ 1000000) (hm : 16 < a3) :
  Calls Tryd.prog 54 #[.pointer (some ⟨gj, 0, none⟩), .int .i64 o, .int .i64 mtu, .int .i64 a3] w fun e w' => ∃ g A5 c5, e = .returned (.pointer (some ⟨g, 0, none⟩)) ∧ Own N w' [cells gj #[.int .i64 jo, .int .i64 jm, .slice AJ rJ.length cJ] 64, nrow (Kd.raw 3) 35 (.slice AJ rJ.length cJ) rJ, cells g #[.pointer (some ⟨gj, 0, none⟩), .int .i64 o, .int .i64 mtu, .int .i64 16, .slice none 0 0, .slice A5 rJ.length c5, .slice none 0 0] 44, nrow (Kd.raw 3) 35 (.slice A5 rJ.length c5) rJ] ∧ KeepS N w w' := by
 have HL := Aside0.mk hL
 have O0 : Aside0 (Own N w [cells gj #[.int .i64 jo, .int .i64 jm, .slice AJ rJ.length cJ] 64, nrow (Kd.raw 3) 35 (.slice AJ rJ.length cJ) rJ]) := ⟨h⟩
 have K0 : Aside0 (KeepS N w w) := ⟨KeepS.refl _ _⟩
 have a0 := k3_ O0 0
 have d1 : decide (a3 < 1) = false := decide_eq_false (by omega)
 have d2 : decide (a3 > 16) = true := decide_eq_true hm
 have d3 : decide (16 < a3) = true := d2
 clear h hL hm
 go_enter Tryd.func54, Tryd.ntmps54
 go_wp2_with (first | ((with_reducible refine gD 17 rfl ?_); refine own_lit (Kd.raw 3) (N := N) (e := 35) (xs := []) (inner := []) rfl (D := 17) rfl gs_ (Reps.none _ _) (by simp) O0.out ?_; intro A0 c0 w1 o_ k_; obtain ⟨O1, K1⟩ := ok_ K0 o_ k_; clear a0 O0 K0 o_ k_; have a0 := k3_ O1 0) | ((with_reducible refine gate_builtin (b := .append) (xs := #[.tmp 17, .tmp 21]) rfl ?_); at_builtin; refine Own.append_flat (Kd.raw 3) flatRaw O1.out (i := 2) (ys := rJ) rfl ((O1.out.nreads (i := 1) rfl).2.2) rfl (.tmp 17) (.tmp 21) 40 ((.agg #[.int .i64 0, .int .i64 0, .slice none 0 0])) 40 rfl Tryd.underlying40 infoR rfl (by decide) (by decide) rfl rfl (by have := HL.out; simp only [List.length_nil]; omega) ?_; intro A5 c5 w2 o_ k_; obtain ⟨O2, K2⟩ := ok_ K1 o_ k_; clear a0 O1 K1 o_ k_; have a0 := k3_ O2 0) | ((with_reducible refine gD 24 rfl ?_); refine bP 24 #[.pointer (some ⟨gj, 0, none⟩), .int .i64 o, .int .i64 mtu, .int .i64 16, .slice none 0 0, .slice A5 rJ.length c5, .slice none 0 0] 44 O2.out ?_; intro g w3 o_ k_; obtain ⟨O3, K3⟩ := ok_ K2 o_ k_; clear a0 O2 K2 o_ k_; have a0 := k3_ O3 0; have a3 := k7_ O3 3))
 go_ret
 exact ⟨g, A5, c5, rfl, O3.out.pickL [0, 1, 3, 2] (by decide) (by simp), K3.out⟩
theorem DNew_mid {N : Nat → Prop} {w : World} {gj : Nat} {jo jm : Int} {AJ : Option Addr} {cJ : Nat} {rJ : List (List Value)} (o mtu a3 : Int) (h : Own N w [cells gj #[.int .i64 jo, .int .i64 jm, .slice AJ rJ.length cJ] 64, nrow (Kd.raw 3) 35 (.slice AJ rJ.length cJ) rJ]) (hL : rJ.length ≤ 1000000) (hm : 1 ≤ a3) (hm2 : a3 ≤ 16) :
  Calls Tryd.prog 54 #[.pointer (some ⟨gj, 0, none⟩), .int .i64 o, .int .i64 mtu, .int .i64 a3] w fun e w' => ∃ g A5 c5, e = .returned (.pointer (some ⟨g, 0, none⟩)) ∧ Own N w' [cells gj #[.int .i64 jo, .int .i64 jm, .slice AJ rJ.length cJ] 64, nrow (Kd.raw 3) 35 (.slice AJ rJ.length cJ) rJ, cells g #[.pointer (some ⟨gj, 0, none⟩), .int .i64 o, .int .i64 mtu, .int .i64 a3, .slice none 0 0, .slice A5 rJ.length c5, .slice none 0 0] 44, nrow (Kd.raw 3) 35 (.slice A5 rJ.length c5) rJ] ∧ KeepS N w w' := by
 have HL := Aside0.mk hL
 have O0 : Aside0 (Own N w [cells gj #[.int .i64 jo, .int .i64 jm, .slice AJ rJ.length cJ] 64, nrow (Kd.raw 3) 35 (.slice AJ rJ.length cJ) rJ]) := ⟨h⟩
 have K0 : Aside0 (KeepS N w w) := ⟨KeepS.refl _ _⟩
 have a0 := k3_ O0 0
 have d1 : decide (a3 < 1) = false := decide_eq_false (by omega)
 have d2 : decide (a3 > 16) = false := decide_eq_false (by omega)
 have d3 : decide (16 < a3) = false := d2
 clear h hL hm hm2
 go_enter Tryd.func54, Tryd.ntmps54
 go_wp2_with (first | ((with_reducible refine gD 17 rfl ?_); refine own_lit (Kd.raw 3) (N := N) (e := 35) (xs := []) (inner := []) rfl (D := 17) rfl gs_ (Reps.none _ _) (by simp) O0.out ?_; intro A0 c0 w1 o_ k_; obtain ⟨O1, K1⟩ := ok_ K0 o_ k_; clear a0 O0 K0 o_ k_; have a0 := k3_ O1 0) | ((with_reducible refine gate_builtin (b := .append) (xs := #[.tmp 17, .tmp 21]) rfl ?_); at_builtin; refine Own.append_flat (Kd.raw 3) flatRaw O1.out (i := 2) (ys := rJ) rfl ((O1.out.nreads (i := 1) rfl).2.2) rfl (.tmp 17) (.tmp 21) 40 ((.agg #[.int .i64 0, .int .i64 0, .slice none 0 0])) 40 rfl Tryd.underlying40 infoR rfl (by decide) (by decide) rfl rfl (by have := HL.out; simp only [List.length_nil]; omega) ?_; intro A5 c5 w2 o_ k_; obtain ⟨O2, K2⟩ := ok_ K1 o_ k_; clear a0 O1 K1 o_ k_; have a0 := k3_ O2 0) | ((with_reducible refine gD 24 rfl ?_); refine bP 24 #[.pointer (some ⟨gj, 0, none⟩), .int .i64 o, .int .i64 mtu, .int .i64 a3, .slice none 0 0, .slice A5 rJ.length c5, .slice none 0 0] 44 O2.out ?_; intro g w3 o_ k_; obtain ⟨O3, K3⟩ := ok_ K2 o_ k_; clear a0 O2 K2 o_ k_; have a0 := k3_ O3 0; have a3 := k7_ O3 3))
 go_ret
 exact ⟨g, A5, c5, rfl, O3.out.pickL [0, 1, 3, 2] (by decide) (by simp), K3.out⟩
theorem DResume {N : Nat → Prop} {w : World} {gj : Nat} {jo jm : Int} {AJ : Option Addr} {cJ : Nat} {rJ : List (List Value)} {g : Nat} {o mtu push : Int} {vk vp vo : Value} (h : Own N w [cells gj #[.int .i64 jo, .int .i64 jm, .slice AJ rJ.length cJ] 64, nrow (Kd.raw 3) 35 (.slice AJ rJ.length cJ) rJ, cells g #[.pointer (some ⟨gj, 0, none⟩), .int .i64 o, .int .i64 mtu, .int .i64 push, vk, vp, vo] 44]) (hL : rJ.length ≤ 1000000) :
  Calls Tryd.prog 61 #[.pointer (some ⟨g, 0, none⟩)] w fun e w' => ∃ A5 c5, e = .returned (.tuple #[]) ∧ Own N w' [cells gj #[.int .i64 jo, .int .i64 jm, .slice AJ rJ.length cJ] 64, nrow (Kd.raw 3) 35 (.slice AJ rJ.length cJ) rJ, cells g #[.pointer (some ⟨gj, 0, none⟩), .int .i64 o, .int .i64 mtu, .int .i64 push, .slice none 0 0, .slice A5 rJ.length c5, .slice none 0 0] 44, nrow (Kd.raw 3) 35 (.slice A5 rJ.length c5) rJ] ∧ KeepS N w w' := by
 have HL := Aside0.mk hL
 have O0 : Aside0 (Own N w [cells gj #[.int .i64 jo, .int .i64 jm, .slice AJ rJ.length cJ] 64, nrow (Kd.raw 3) 35 (.slice AJ rJ.length cJ) rJ, cells g #[.pointer (some ⟨gj, 0, none⟩), .int .i64 o, .int .i64 mtu, .int .i64 push, vk, vp, vo] 44]) := ⟨h⟩
 have K0 : Aside0 (KeepS N w w) := ⟨KeepS.refl _ _⟩
 have a0 := k3_ O0 0
 have a2 := k7_ O0 2
 clear h hL
 go_enter Tryd.func61, Tryd.ntmps61
 go_wp2_with (first | ((with_reducible refine gT 40 4 rfl ?_); refine wS 2 4 [.slice none 0 0] O0 ?_; intro w1 o_ k_; obtain ⟨O1, K1⟩ := ok_ K0 o_ k_; clear a0 a2 O0 K0 o_ k_; have a0 := k3_ O1 0; have a2 := k7_ O1 2) | ((with_reducible refine gT 33 7 rfl ?_); refine wS 2 6 [.slice none 0 0] O1 ?_; intro w2 o_ k_; obtain ⟨O2, K2⟩ := ok_ K1 o_ k_; clear a0 a2 O1 K1 o_ k_; have a0 := k3_ O2 0; have a2 := k7_ O2 2) | ((with_reducible refine gD 9 rfl ?_); refine own_lit (Kd.raw 3) (N := N) (e := 35) (xs := []) (inner := []) rfl (D := 9) rfl gs_ (Reps.none _ _) (by simp) O2.out ?_; intro A0 c0 w3 o_ k_; obtain ⟨O3, K3⟩ := ok_ K2 o_ k_; clear a0 a2 O2 K2 o_ k_; have a0 := k3_ O3 0; have a2 := k7_ O3 2) | ((with_reducible refine gate_builtin (b := .append) (xs := #[.tmp 9, .tmp 16]) rfl ?_); at_builtin; refine Own.append_flat (Kd.raw 3) flatRaw O3.out (i := 3) (ys := rJ) rfl ((O3.out.nreads (i := 1) rfl).2.2) rfl (.tmp 9) (.tmp 16) 40 ((.agg #[.int .i64 0, .int .i64 0, .slice none 0 0])) 40 rfl Tryd.underlying40 infoR rfl (by decide) (by decide) rfl rfl (by have := HL.out; simp only [List.length_nil]; omega) ?_; intro A5 c5 w4 o_ k_; obtain ⟨O4, K4⟩ := ok_ K3 o_ k_; clear a0 a2 O3 K3 o_ k_; have a0 := k3_ O4 0; have a2 := k7_ O4 2) | ((with_reducible refine gT 40 19 rfl ?_); refine wS 2 5 [.slice A5 rJ.length c5] O4 ?_; intro w5 o_ k_; obtain ⟨O5, K5⟩ := ok_ K4 o_ k_; clear a0 a2 O4 K4 o_ k_; have a0 := k3_ O5 0; have a2 := k7_ O5 2))
 first | go_end0 | go_ret
 exact ⟨A5, c5, rfl, O5.out, K5.out⟩
theorem DSeen {N : Nat → Prop} {w : World} {g gj : Nat} {o mtu push : Int} {A4 A5 : Option Addr} {c4 c5 : Nat} {rK rP : List (List Value)} {vo : Value} (h : Own N w [cells g #[.pointer (some ⟨gj, 0, none⟩), .int .i64 o, .int .i64 mtu, .int .i64 push, .slice A4 rK.length c4, .slice A5 rP.length c5, vo] 44, nrow (Kd.raw 3) 35 (.slice A4 rK.length c4) rK, nrow (Kd.raw 3) 35 (.slice A5 rP.length c5) rP]) (hL : rK.length + rP.length ≤ 1000000) :
  Calls Tryd.prog 65 #[.pointer (some ⟨g, 0, none⟩)] w fun e w' => ∃ A1 c1, e = .returned (.slice A1 (rK ++ rP).length c1) ∧ Own N w' [cells g #[.pointer (some ⟨gj, 0, none⟩), .int .i64 o, .int .i64 mtu, .int .i64 push, .slice A4 rK.length c4, .slice A5 rP.length c5, vo] 44, nrow (Kd.raw 3) 35 (.slice A4 rK.length c4) rK, nrow (Kd.raw 3) 35 (.slice A5 rP.length c5) rP, nrow (Kd.raw 3) 35 (.slice A1 (rK ++ rP).length c1) (rK ++ rP)] ∧ KeepS N w w' := by
 have HL := Aside0.mk hL
 obtain ⟨V, hV⟩ : ∃ V, rK ++ rP = V := ⟨_, rfl⟩
 have HV := Aside0.mk hV
 have O0 : Aside0 (Own N w [cells g #[.pointer (some ⟨gj, 0, none⟩), .int .i64 o, .int .i64 mtu, .int .i64 push, .slice A4 rK.length c4, .slice A5 rP.length c5, vo] 44, nrow (Kd.raw 3) 35 (.slice A4 rK.length c4) rK, nrow (Kd.raw 3) 35 (.slice A5 rP.length c5) rP]) := ⟨h⟩
 have K0 : Aside0 (KeepS N w w) := ⟨KeepS.refl _ _⟩
 have a0 := k7_ O0 0
 clear h hL hV
 go_enter Tryd.func65, Tryd.ntmps65
 go_wp2
 refine sP (n := 12) (S := c7_ g (.pointer (some ⟨gj, 0, none⟩)) (.int .i64 o) (.int .i64 mtu) (.int .i64 push) (.slice A4 rK.length c4) (.slice A5 rP.length c5) (vo)) (ds := [10]) (p7_ a0) (fun hHeld => ?_)
 obtain ⟨w1, hw_⟩ : ∃ W, W = w.drew := ⟨_, rfl⟩
 have o_ := O0.out.drew
 have k_ : KeepS N w w.drew := KeepS.drew
 rw [← hw_] at o_ k_ hHeld ⊢
 clear hw_
 obtain ⟨O1, K1⟩ := ok_ K0 o_ k_
 clear a0 O0 K0 o_ k_
 have a0 := k7_ O1 0
 refine pP 1 (some 4) ?_
 refine pP 2 (some 5) ?_
 refine pP 3 (some 6) ?_
 refine pP 6 (some 9) ?_
 refine pP 7 (some 10) ?_
 refine pP 8 (some 11) ?_
 refine tP 4 (some 7) hHeld ?_
 refine tP 9 (some 12) hHeld ?_
 refine oP 0 (some 3) (fun K_ hK_ => ?_)
 refine own_lit_step (Kd.raw 3) (N := N) (e := 35) (xs := []) (inner := []) rfl rfl gs_ (Reps.none _ _) (by decide) O1.out ?_
 intro A7 c7 w2 o_ k_
 obtain ⟨O2, K2⟩ := ok_ K1 o_ k_
 clear a0 O1 K1 o_ k_
 have a0 := k7_ O2 0
 clear hHeld
 refine hK_.out _ _ (p7_ a0) (fun hHeld => ?_)
 clear hK_ K_
 refine nP ?_
 refine oP 5 (some 8) (fun K_ hK_ => ?_)
 refine Own.append_flat_step (Kd.raw 3) flatRaw O2.out (i := 3) rfl (O2.out.nreads (i := 1) rfl).2.2 rfl (by rfl) (.tmp 3) (.tmp 7) 40 (.agg #[.int .i64 0, .int .i64 0, .slice none 0 0]) 40 rfl Tryd.underlying40 infoR rfl (by decide) (by decide) rfl rfl (by have := HL.out; simp only [List.length_nil]; omega) ?_
 intro A8 c8 w3 o_ k_
 obtain ⟨O3, K3⟩ := ok_ K2 o_ k_
 clear a0 O2 K2 o_ k_
 have a0 := k7_ O3 0
 clear hHeld
 refine hK_.out _ _ (p7_ a0) (fun hHeld => ?_)
 clear hK_ K_
 refine nP ?_
 refine lP 10 (some 13) (fun K_ hK_ => ?_)
 refine Own.append_flat_step (Kd.raw 3) flatRaw O3.out (i := 3) rfl (O3.out.nreads (i := 2) rfl).2.2 rfl (by rfl) (.tmp 8) (.tmp 12) 40 (.agg #[.int .i64 0, .int .i64 0, .slice none 0 0]) 40 rfl Tryd.underlying40 infoR rfl (by decide) (by decide) rfl rfl (by have := HL.out; omega) ?_
 rw [HV.out]
 intro A9 c9 w4 o_ k_
 obtain ⟨O4, K4⟩ := ok_ K3 o_ k_
 clear a0 O3 K3 o_ k_
 have a0 := k7_ O4 0
 refine hK_.out _ _ ?_
 clear hK_ K_
 refine nP ?_
 refine pP 11 (some 2) ?_
 refine done_ (by kernel_rfl) ?_
 clear hHeld
 go_wp2
 go_ret
 rw [HV.out]
 exact ⟨A9, c9, rfl, O4.out, K4.out⟩
end Go.Proofs.YtjdenpmaianmfaaDoor.J
