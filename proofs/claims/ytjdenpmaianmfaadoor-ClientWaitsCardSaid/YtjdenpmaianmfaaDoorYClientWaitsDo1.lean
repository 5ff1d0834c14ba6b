/- The document's Client and its Journal as one resource; its turns, and the program's, each in all cases at once. -/
import Derived.Test.YtjdenpmaianmfaaDoorYClientWaitsSq
import Derived.Test.YtjdenpmaianmfaaDoorYClientWaitsCl2
import Derived.Test.YtjdenpmaianmfaaDoorYClientWaitsJ3
import Derived.Test.YtjdenpmaianmfaaDoorYClientWaitsRM
import Derived.Test.YtjdenpmaianmfaaDoorProg
import Derived.Test.YtjdenpmaianmfaaDoorYClientWaitsSepL
import Derived.Test.YtjdenpmaianmfaaDoorYClientWaitsPre0
import Derived.Test.YtjdenpmaianmfaaDoorYClientWaitsQ8
import Derived.Test.YtjdenpmaianmfaaDoorYClientWaitsQ9
import Derived.Test.YtjdenpmaianmfaaDoorYClientWaitsUA
import Derived.Test.YtjdenpmaianmfaaDoorYClientWaitsRPut
import Derived.Test.YtjdenpmaianmfaaDoorYClientWaitsQ10
import Derived.Test.YtjdenpmaianmfaaDoorYClientWaitsSz
import Derived.Test.YtjdenpmaianmfaaDoorYClientWaitsKy0
namespace Go.Proofs.YtjdenpmaianmfaaDoor.J
set_option maxHeartbeats 16000000
set_option maxRecDepth 100000
set_option linter.unusedSimpArgs false
set_option linter.unusedVariables false
open Go Go.RowKit Go.Proofs.YtjdenpmaianmfaaDoorW.PrintWords Go.Proofs.YtjdenpmaianmfaaDoorW.PrintLast Go.Proofs.YtjdenpmaianmfaaDoorW.PrintMore Go.Proofs.YtjdenpmaianmfaaDoor.Q Go.Proofs.YtjdenpmaianmfaaDoor.Sep Go.Proofs.YtjdenpmaianmfaaDoor.Pure
abbrev rw3 (o n : Int) (v : Value) : List Value := [.int .i64 o, .int .i64 n, v]
theorem repW (W : World) (o n : Int) (A : Option Addr) (m c : Nat) : Reps (Kd.FK (Kd.raw 3) W (fun _ => False)) 3 [rw3 o n (.slice A m c)] [.int .i64 o, .int .i64 n, .slice A m c] := by
 refine (Reps.none _ 3).snoc (p := rw3 o n (.slice A m c)) (c := rw3 o n (.slice A m c)) (flatRaw.FK (w := W) ⟨rfl, rfl, fun u hu => ?_⟩) rfl
 simp only [rw3, List.mem_cons, List.not_mem_nil, or_false] at hu
 rcases hu with rfl | rfl | rfl <;> rfl
theorem DJNew_low {N : Nat → Prop} {w : World} (o m : Int) (h : Own N w []) (hm : m < 1) :
  Calls Tryd.prog 55 #[.int .i64 o, .int .i64 m] w fun e w' => ∃ g, e = .returned (.pointer (some ⟨g, 0, none⟩)) ∧ Own N w' [cells g #[.int .i64 o, .int .i64 1, .slice none 0 0] 64] ∧ KeepS N w w' := by
 have O0 : Aside0 (Own N w []) := ⟨h⟩
 have K0 : Aside0 (KeepS N w w) := ⟨KeepS.refl _ _⟩
 have d1 : decide (m < 1) = true := decide_eq_true hm
 have d2 : decide ((1 : Int) > 1099511627776) = false := by decide
 clear h hm
 go_enter Tryd.func55, Tryd.ntmps55
 go_wp2_with (first | ((with_reducible refine gD 12 rfl ?_); refine bP 12 #[.int .i64 o, .int .i64 1, .slice none 0 0] 64 O0.out ?_; intro g w1 o_ k_; obtain ⟨O1, K1⟩ := ok_ K0 o_ k_; clear O0 K0 o_ k_; have a0 := k3_ O1 0))
 go_ret
 exact ⟨g, rfl, O1.out, K1.out⟩
theorem DJNew_high {N : Nat → Prop} {w : World} (o m : Int) (h : Own N w []) (hm : 1099511627776 < m) :
  Calls Tryd.prog 55 #[.int .i64 o, .int .i64 m] w fun e w' => ∃ g, e = .returned (.pointer (some ⟨g, 0, none⟩)) ∧ Own N w' [cells g #[.int .i64 o, .int .i64 1099511627776, .slice none 0 0] 64] ∧ KeepS N w w' := by
 have O0 : Aside0 (Own N w []) := ⟨h⟩
 have K0 : Aside0 (KeepS N w w) := ⟨KeepS.refl _ _⟩
 have d1 : decide (m < 1) = false := decide_eq_false (by omega)
 have d2 : decide (m > 1099511627776) = true := decide_eq_true hm
 have d3 : decide (1099511627776 < m) = true := d2
 clear h hm
 go_enter Tryd.func55, Tryd.ntmps55
 go_wp2_with (first | ((with_reducible refine gD 12 rfl ?_); refine bP 12 #[.int .i64 o, .int .i64 1099511627776, .slice none 0 0] 64 O0.out ?_; intro g w1 o_ k_; obtain ⟨O1, K1⟩ := ok_ K0 o_ k_; clear O0 K0 o_ k_; have a0 := k3_ O1 0))
 go_ret
 exact ⟨g, rfl, O1.out, K1.out⟩
theorem DJNew_mid {N : Nat → Prop} {w : World} (o m : Int) (h : Own N w []) (hm : 1 ≤ m) (hm2 : m ≤ 1099511627776) :
  Calls Tryd.prog 55 #[.int .i64 o, .int .i64 m] w fun e w' => ∃ g, e = .returned (.pointer (some ⟨g, 0, none⟩)) ∧ Own N w' [cells g #[.int .i64 o, .int .i64 m, .slice none 0 0] 64] ∧ KeepS N w w' := by
 have O0 : Aside0 (Own N w []) := ⟨h⟩
 have K0 : Aside0 (KeepS N w w) := ⟨KeepS.refl _ _⟩
 have d1 : decide (m < 1) = false := decide_eq_false (by omega)
 have d2 : decide (m > 1099511627776) = false := decide_eq_false (by omega)
 have d3 : decide (1099511627776 < m) = false := d2
 clear h hm hm2
 go_enter Tryd.func55, Tryd.ntmps55
 go_wp2_with (first | ((with_reducible refine gD 12 rfl ?_); refine bP 12 #[.int .i64 o, .int .i64 m, .slice none 0 0] 64 O0.out ?_; intro g w1 o_ k_; obtain ⟨O1, K1⟩ := ok_ K0 o_ k_; clear O0 K0 o_ k_; have a0 := k3_ O1 0))
 go_ret
 exact ⟨g, rfl, O1.out, K1.out⟩
theorem DJNew {N : Nat → Prop} {w : World} (o m : Int) (h : Own N w []) :
  Calls Tryd.prog 55 #[.int .i64 o, .int .i64 m] w fun e w' => ∃ g, e = .returned (.pointer (some ⟨g, 0, none⟩)) ∧ Own N w' [cells g #[.int .i64 o, .int .i64 (mn (mx m 1) 1099511627776), .slice none 0 0] 64] ∧ KeepS N w w' := by
 by_cases h1 : m < 1
 ·rw [show mn (mx m 1) 1099511627776 = 1 by unfold mn mx; (repeat' split) <;> omega]
  exact DJNew_low o m h h1
 by_cases h2 : 1099511627776 < m
 ·rw [show mn (mx m 1) 1099511627776 = 1099511627776 by unfold mn mx; (repeat' split) <;> omega]
  exact DJNew_high o m h h2
 ·rw [show mn (mx m 1) 1099511627776 = m by unfold mn mx; (repeat' split) <;> omega]
  exact DJNew_mid o m h (by omega) (by omega)
theorem DJAdd_full {N : Nat → Prop} {w : World} {g : Nat} {o m : Int} {A0 : Option Addr} {c0 : Nat} {rJ : List (List Value)} (B : Option Addr) (c : Nat) (ups : List Upd7) (h : Own N w [cells g #[.int .i64 o, .int .i64 m, .slice A0 rJ.length c0] 64, nrow (Kd.raw 3) 35 (.slice A0 rJ.length c0) rJ]) (hr : Kd.F k32 w N B ups.length ups) (hc : ups.length ≤ c) (hL : rJ.length ≤ 1000000) (hu : ups.length ≤ 1000000) (hq : (rJ.length : Int) ≥ m) :
  Calls Tryd.prog 89 #[.pointer (some ⟨g, 0, none⟩), .slice B ups.length c] w fun e_ w' => e_ = .returned (.tuple #[.agg #[.int .i64 0, .int .i64 0, .slice none 0 0], .int .i64 8]) ∧ Own N w' [cells g #[.int .i64 o, .int .i64 m, .slice A0 rJ.length c0] 64, nrow (Kd.raw 3) 35 (.slice A0 rJ.length c0) rJ] ∧ KeepS N w w' := by
 have d1 : decide ((rJ.length : Int) ≥ m) = true := decide_eq_true hq
 have d2 : decide (m ≤ (rJ.length : Int)) = true := d1
 have HR_0 : Aside0 (Kd.F k32 w N B ups.length ups) := ⟨hr⟩
 have HC := Aside0.mk hc
 have HL := Aside0.mk hL
 have HU := Aside0.mk hu
 have hs1 : IntKind.i64.wrap ((rJ.length : Int) + 1) = (rJ.length : Int) + 1 := by rw [IntKind.wrap_i64]; omega
 have hs2 : wrap64 ((rJ.length : Int) + 1) = (rJ.length : Int) + 1 := by unfold wrap64; omega
 have O0 : Aside0 (Own N w [cells g #[.int .i64 o, .int .i64 m, .slice A0 rJ.length c0] 64, nrow (Kd.raw 3) 35 (.slice A0 rJ.length c0) rJ]) := ⟨h⟩
 have K0 : Aside0 (KeepS N w w) := ⟨KeepS.refl _ _⟩
 have a0 := k3_ O0 0
 clear h hr hc hL hu hq
 go_enter Tryd.func89, Tryd.ntmps89
 go_wp2_with (first | ((with_reducible refine gD 4 rfl ?_); refine bP 4 #[.int .i64 0, .int .i64 0, .slice none 0 0] 35 O0.out ?_; intro gz w1 o_ k_; obtain ⟨O1, K1⟩ := ok_ K0 o_ k_; have HR_1 := Aside0.mk (keepF HR_0.out k_); clear a0 O0 K0 HR_0 o_ k_; have a0 := k3_ O1 0; have a2 := k3_ O1 2))
 refine sP (n := 10) (S := c3_ g (.int .i64 o) (.int .i64 m) (.slice A0 rJ.length c0)) (ds := []) (p3_ a0) (fun hHeld => ?_)
 obtain ⟨w2, hw_⟩ : ∃ W, W = w1.drew := ⟨_, rfl⟩
 have o_ := O1.out.drew
 have k_ : KeepS N w1 w1.drew := KeepS.drew
 rw [← hw_] at o_ k_ hHeld ⊢
 clear hw_
 obtain ⟨O2, K2⟩ := ok_ K1 o_ k_
 have HR_2 := Aside0.mk (keepF HR_1.out k_)
 clear a0 a2 O1 K1 HR_1 o_ k_
 have a0 := k3_ O2 0
 have a2 := k3_ O2 2
 refine pP 0 (some 8) ?_
 refine pP 1 (some 9) ?_
 refine pP 2 (some 10) ?_
 refine pP 5 (some 13) ?_
 refine pP 6 (some 14) ?_
 refine pP 7 (some 15) ?_
 refine tP 3 (some 11) hHeld ?_
 refine pP 4 (some 12) ?_
 refine tP 8 (some 16) hHeld ?_
 refine pP 9 (some 17) ?_
 refine done_ (by kernel_rfl) ?_
 clear hHeld
 go_wp2_with (first | ((with_reducible refine gT 35 4 rfl ?_); refine wS 2 0 [.int .i64 0, .int .i64 0, .slice none 0 0] O2 ?_; intro w3 o_ k_; obtain ⟨O3, K3⟩ := ok_ K2 o_ k_; have HR_3 := Aside0.mk (keepF HR_2.out k_); clear a0 a2 O2 K2 HR_2 o_ k_; have a0 := k3_ O3 0; have a2 := k3_ O3 2))
 refine bodyPost_ret (results_ct rfl _ _ gz 35 #[.int .i64 0, .int .i64 0, .slice none 0 0] (0, 0) _ rfl (O3.out.blk (i := 2) rfl) Tryd.underlying35 rfl (by kernel_rfl)) rfl ?_
 exact ⟨rfl, O3.out.take 2, K3.out⟩
theorem DJAdd_no {N : Nat → Prop} {w : World} {g : Nat} {o m : Int} {A0 : Option Addr} {c0 : Nat} {rJ : List (List Value)} (B : Option Addr) (c : Nat) (ups : List Upd7) (h : Own N w [cells g #[.int .i64 o, .int .i64 m, .slice A0 rJ.length c0] 64, nrow (Kd.raw 3) 35 (.slice A0 rJ.length c0) rJ]) (hr : Kd.F k32 w N B ups.length ups) (hc : ups.length ≤ c) (hL : rJ.length ≤ 1000000) (hu : ups.length ≤ 1000000) (hq : ¬ (rJ.length : Int) ≥ m) (he : mayR o ((rJ.length : Int) + 1) ups ≠ 0) :
  Calls Tryd.prog 89 #[.pointer (some ⟨g, 0, none⟩), .slice B ups.length c] w fun e_ w' => e_ = .returned (.tuple #[.agg #[.int .i64 0, .int .i64 0, .slice none 0 0], .int .i64 (mayR o ((rJ.length : Int) + 1) ups)]) ∧ Own N w' [cells g #[.int .i64 o, .int .i64 m, .slice A0 rJ.length c0] 64, nrow (Kd.raw 3) 35 (.slice A0 rJ.length c0) rJ] ∧ KeepS N w w' := by
 have d1 : decide ((rJ.length : Int) ≥ m) = false := decide_eq_false hq
 have d2 : decide (m ≤ (rJ.length : Int)) = false := d1
 have HR_0 : Aside0 (Kd.F k32 w N B ups.length ups) := ⟨hr⟩
 have HC := Aside0.mk hc
 have HL := Aside0.mk hL
 have HU := Aside0.mk hu
 have hs1 : IntKind.i64.wrap ((rJ.length : Int) + 1) = (rJ.length : Int) + 1 := by rw [IntKind.wrap_i64]; omega
 have hs2 : wrap64 ((rJ.length : Int) + 1) = (rJ.length : Int) + 1 := by unfold wrap64; omega
 obtain ⟨n1, hn1⟩ : ∃ n : Int, n = (rJ.length : Int) + 1 := ⟨_, rfl⟩
 have HN1 := Aside0.mk hn1
 replace hs1 := hs1.trans hn1.symm
 replace hs2 := hs2.trans hn1.symm
 rw [← hn1] at he
 have d4 : (mayR o n1 ups != 0) = true := bne_iff_ne.mpr he
 clear hn1 he
 have O0 : Aside0 (Own N w [cells g #[.int .i64 o, .int .i64 m, .slice A0 rJ.length c0] 64, nrow (Kd.raw 3) 35 (.slice A0 rJ.length c0) rJ]) := ⟨h⟩
 have K0 : Aside0 (KeepS N w w) := ⟨KeepS.refl _ _⟩
 have a0 := k3_ O0 0
 clear h hr hc hL hu hq
 go_enter Tryd.func89, Tryd.ntmps89
 go_wp2_with (first | ((with_reducible refine gD 4 rfl ?_); refine bP 4 #[.int .i64 0, .int .i64 0, .slice none 0 0] 35 O0.out ?_; intro gz w1 o_ k_; obtain ⟨O1, K1⟩ := ok_ K0 o_ k_; have HR_1 := Aside0.mk (keepF HR_0.out k_); clear a0 O0 K0 HR_0 o_ k_; have a0 := k3_ O1 0; have a2 := k3_ O1 2))
 refine sP (n := 10) (S := c3_ g (.int .i64 o) (.int .i64 m) (.slice A0 rJ.length c0)) (ds := []) (p3_ a0) (fun hHeld => ?_)
 obtain ⟨w2, hw_⟩ : ∃ W, W = w1.drew := ⟨_, rfl⟩
 have o_ := O1.out.drew
 have k_ : KeepS N w1 w1.drew := KeepS.drew
 rw [← hw_] at o_ k_ hHeld ⊢
 clear hw_
 obtain ⟨O2, K2⟩ := ok_ K1 o_ k_
 have HR_2 := Aside0.mk (keepF HR_1.out k_)
 clear a0 a2 O1 K1 HR_1 o_ k_
 have a0 := k3_ O2 0
 have a2 := k3_ O2 2
 refine pP 0 (some 8) ?_
 refine pP 1 (some 9) ?_
 refine pP 2 (some 10) ?_
 refine pP 5 (some 13) ?_
 refine pP 6 (some 14) ?_
 refine pP 7 (some 15) ?_
 refine tP 3 (some 11) hHeld ?_
 refine pP 4 (some 12) ?_
 refine tP 8 (some 16) hHeld ?_
 refine pP 9 (some 17) ?_
 refine done_ (by kernel_rfl) ?_
 clear hHeld
 go_wp2
 refine sP (n := 16) (S := c3_ g (.int .i64 o) (.int .i64 m) (.slice A0 rJ.length c0)) (ds := []) (p3_ a0) (fun hHeld => ?_)
 obtain ⟨w3, hw_⟩ : ∃ W, W = w2.drew := ⟨_, rfl⟩
 have o_ := O2.out.drew
 have k_ : KeepS N w2 w2.drew := KeepS.drew
 rw [← hw_] at o_ k_ hHeld ⊢
 clear hw_
 obtain ⟨O3, K3⟩ := ok_ K2 o_ k_
 have HR_3 := Aside0.mk (keepF HR_2.out k_)
 clear a0 a2 O2 K2 HR_2 o_ k_
 have a0 := k3_ O3 0
 have a2 := k3_ O3 2
 refine pP 0 (some 19) ?_
 refine pP 1 (some 20) ?_
 refine pP 2 (some 21) ?_
 refine pP 4 (some 23) ?_
 refine pP 5 (some 24) ?_
 refine pP 6 (some 25) ?_
 refine pP 11 (some 30) ?_
 refine tP 3 (some 22) hHeld ?_
 refine tP 7 (some 26) hHeld ?_
 refine pP 8 (some 27) ?_
 refine pP 9 (some 28) ?_
 refine join_ (σ := Option Addr × Nat × Option Addr × Nat × Nat) 1 #[true, true, true, true, true, true, true, true, true, true, true, true, true, true, true, false] (fun ⟨C1, e1, B1, b1_, gx⟩ => [(29, .slice C1 0 e1), (31, .slice B1 ups.length b1_), (32, .agg #[.int .i64 o, .int .i64 n1, .slice B1 ups.length b1_]), (6, .pointer (some ⟨gx, 0, none⟩))]) (fun ⟨C1, e1, B1, b1_, gx⟩ w' => Own N w' [cells g #[.int .i64 o, .int .i64 m, .slice A0 rJ.length c0] 64, nrow (Kd.raw 3) 35 (.slice A0 rJ.length c0) rJ, cells gz #[.int .i64 0, .int .i64 0, .slice none 0 0] 35, nrow k32 32 (.slice B1 ups.length b1_) ups, cells gx #[.int .i64 0, .int .i64 0, .slice none 0 0] 35] ∧ KeepS N w3 w') ?hcont ?hways
 case hways =>
  intro hc_
  have K4 : Aside0 (KeepS N w3 w3) := ⟨KeepS.refl _ _⟩
  have O4 : Aside0 (Own N w3 [cells g #[.int .i64 o, .int .i64 m, .slice A0 rJ.length c0] 64, nrow (Kd.raw 3) 35 (.slice A0 rJ.length c0) rJ, cells gz #[.int .i64 0, .int .i64 0, .slice none 0 0] 35]) := O3
  refine tW_ 10 14 (some 29) (some 6) (fun K_ hK_ => ?_) (fun K_ hK_ => ?_)
  ·skip
   refine own_lit_step k32 (N := N) (e := 32) (xs := []) (inner := []) rfl rfl gs_ (Reps.none _ _) (by decide) O4.out ?_
   intro C1 e1 w5 o_ k_
   obtain ⟨O5, K5⟩ := ok_ K4 o_ k_
   have HR_5 := Aside0.mk (keepF HR_3.out k_)
   clear a0 a2 O4 K4 HR_3 o_ k_
   have a0 := k3_ O5 0
   have a2 := k3_ O5 2
   clear hHeld
   refine hK_.out _ _ (p3_ a0) (fun hHeld => ?_)
   clear hK_ K_
   refine nR_ ?_
   refine tW_ 12 14 (some 31) (some 6) (fun K_ hK_ => ?_) (fun K_ hK_ => ?_)
   ·skip
    refine Own.append_flat_step k32 flatU O5.out (i := 3) rfl (Kd.F_now HR_5.out) rfl (by rfl) (.tmp 29) (.tmp 30) 33 (.agg #[.string ⟨#[]⟩, .int .i64 0, .int .i64 0, .string ⟨#[]⟩]) 48 rfl Tryd.underlying33 infoU7 rfl (by decide) (by decide) rfl rfl (by have := HU.out; simp only [List.length_nil]; omega) ?_
    intro B1 b1_ w6 o_ k_
    obtain ⟨O6, K6⟩ := ok_ K5 o_ k_
    have HR_6 := Aside0.mk (keepF HR_5.out k_)
    clear a0 a2 O5 K5 HR_5 o_ k_
    have a0 := k3_ O6 0
    have a2 := k3_ O6 2
    clear hHeld
    refine hK_.out _ _ (p3_ a0) (fun hHeld => ?_)
    clear hK_ K_
    refine nR_ ?_
    refine pP 13 (some 32) ?_
    refine oP 14 (some 6) (fun K_ hK_ => ?_)
    refine cP #[.int .i64 0, .int .i64 0, .slice none 0 0] 35 O6.out ?_
    intro gx w7 o_ k_
    obtain ⟨O7, K7⟩ := ok_ K6 o_ k_
    have HR_7 := Aside0.mk (keepF HR_6.out k_)
    clear a0 a2 O6 K6 HR_6 o_ k_
    have a0 := k3_ O7 0
    have a2 := k3_ O7 2
    have a4 := k3_ O7 4
    clear hHeld
    refine hK_.out _ _ (p3_ a0) (fun hHeld => ?_)
    clear hK_ K_
    refine nR_ ?_
    refine norm_ (a' := _) ?_ (hc_ ⟨C1, e1, B1, b1_, gx⟩ _ ⟨?_, K7.out⟩)
    ·simp only [putAll, Act.put, List.setIfInBounds_toArray, List.set_cons_zero, List.set_cons_succ]
     try rfl
    ·exact O7.out.pickL [0, 1, 2, 3, 4] (by decide) (by simp)
   ·skip
    refine cP #[.int .i64 0, .int .i64 0, .slice none 0 0] 35 O5.out ?_
    intro gx w6 o_ k_
    obtain ⟨O6, K6⟩ := ok_ K5 o_ k_
    have HR_6 := Aside0.mk (keepF HR_5.out k_)
    clear a0 a2 O5 K5 HR_5 o_ k_
    have a0 := k3_ O6 0
    have a2 := k3_ O6 2
    have a4 := k3_ O6 4
    clear hHeld
    refine hK_.out _ _ (p3_ a0) (fun hHeld => ?_)
    clear hK_ K_
    refine nR_ ?_
    refine oP 12 (some 31) (fun K_ hK_ => ?_)
    refine Own.append_flat_step k32 flatU O6.out (i := 3) rfl (Kd.F_now HR_6.out) rfl (by rfl) (.tmp 29) (.tmp 30) 33 (.agg #[.string ⟨#[]⟩, .int .i64 0, .int .i64 0, .string ⟨#[]⟩]) 48 rfl Tryd.underlying33 infoU7 rfl (by decide) (by decide) rfl rfl (by have := HU.out; simp only [List.length_nil]; omega) ?_
    intro B1 b1_ w7 o_ k_
    obtain ⟨O7, K7⟩ := ok_ K6 o_ k_
    have HR_7 := Aside0.mk (keepF HR_6.out k_)
    clear a0 a2 a4 O6 K6 HR_6 o_ k_
    have a0 := k3_ O7 0
    have a2 := k3_ O7 2
    have a4 := k3_ O7 4
    clear hHeld
    refine hK_.out _ _ (p3_ a0) (fun hHeld => ?_)
    clear hK_ K_
    refine nR_ ?_
    refine pP 13 (some 32) ?_
    refine norm_ (a' := _) ?_ (hc_ ⟨C1, e1, B1, b1_, gx⟩ _ ⟨?_, K7.out⟩)
    ·simp only [putAll, Act.put, List.setIfInBounds_toArray, List.set_cons_zero, List.set_cons_succ]
     try rfl
    ·exact O7.out.pickL [0, 1, 2, 3, 4] (by decide) (by simp)
  ·skip
   refine cP #[.int .i64 0, .int .i64 0, .slice none 0 0] 35 O4.out ?_
   intro gx w5 o_ k_
   obtain ⟨O5, K5⟩ := ok_ K4 o_ k_
   have HR_5 := Aside0.mk (keepF HR_3.out k_)
   clear a0 a2 O4 K4 HR_3 o_ k_
   have a0 := k3_ O5 0
   have a2 := k3_ O5 2
   have a3 := k3_ O5 3
   clear hHeld
   refine hK_.out _ _ (p3_ a0) (fun hHeld => ?_)
   clear hK_ K_
   refine nR_ ?_
   refine oP 10 (some 29) (fun K_ hK_ => ?_)
   refine own_lit_step k32 (N := N) (e := 32) (xs := []) (inner := []) rfl rfl gs_ (Reps.none _ _) (by decide) O5.out ?_
   intro C1 e1 w6 o_ k_
   obtain ⟨O6, K6⟩ := ok_ K5 o_ k_
   have HR_6 := Aside0.mk (keepF HR_5.out k_)
   clear a0 a2 a3 O5 K5 HR_5 o_ k_
   have a0 := k3_ O6 0
   have a2 := k3_ O6 2
   have a3 := k3_ O6 3
   clear hHeld
   refine hK_.out _ _ (p3_ a0) (fun hHeld => ?_)
   clear hK_ K_
   refine nR_ ?_
   refine oP 12 (some 31) (fun K_ hK_ => ?_)
   refine Own.append_flat_step k32 flatU O6.out (i := 4) rfl (Kd.F_now HR_6.out) rfl (by rfl) (.tmp 29) (.tmp 30) 33 (.agg #[.string ⟨#[]⟩, .int .i64 0, .int .i64 0, .string ⟨#[]⟩]) 48 rfl Tryd.underlying33 infoU7 rfl (by decide) (by decide) rfl rfl (by have := HU.out; simp only [List.length_nil]; omega) ?_
   intro B1 b1_ w7 o_ k_
   obtain ⟨O7, K7⟩ := ok_ K6 o_ k_
   have HR_7 := Aside0.mk (keepF HR_6.out k_)
   clear a0 a2 a3 O6 K6 HR_6 o_ k_
   have a0 := k3_ O7 0
   have a2 := k3_ O7 2
   have a3 := k3_ O7 3
   clear hHeld
   refine hK_.out _ _ (p3_ a0) (fun hHeld => ?_)
   clear hK_ K_
   refine nR_ ?_
   refine pP 13 (some 32) ?_
   refine norm_ (a' := _) ?_ (hc_ ⟨C1, e1, B1, b1_, gx⟩ _ ⟨?_, K7.out⟩)
   ·simp only [putAll, Act.put, List.setIfInBounds_toArray, List.set_cons_zero, List.set_cons_succ]
    try rfl
   ·exact O7.out.pickL [0, 1, 2, 4, 3] (by decide) (by simp)
 case hcont =>
  clear hHeld
  rintro ⟨C1, e1, B1, b1_, gx⟩ w4 ⟨o_, k_⟩
  obtain ⟨O4, K4⟩ := ok_ K3 o_ k_
  have HR_4 := Aside0.mk (keepF HR_3.out k_)
  clear a0 a2 O3 K3 HR_3 o_ k_
  have a0 := k3_ O4 0
  have a2 := k3_ O4 2
  have a4 := k3_ O4 4
  refine nA_ ?_
  have hHeld : w4.cell? ⟨g, 0, none⟩ = some (.int .i64 o) ∧ w4.cell? ⟨g, 1, none⟩ = some (.int .i64 m) ∧ w4.cell? ⟨g, 2, none⟩ = some (.slice A0 rJ.length c0) := (p3_ a0)
  refine oP 15 none (fun K_ hK_ => ?_)
  refine xS 4 0 [.int .i64 o, .int .i64 n1, .slice B1 ups.length b1_] O4 ?_
  intro w5 o_ k_
  obtain ⟨O5, K5⟩ := ok_ K4 o_ k_
  have HR_5 := Aside0.mk (keepF HR_4.out k_)
  clear a0 a2 a4 O4 K4 HR_4 o_ k_
  have a0 := k3_ O5 0
  have a2 := k3_ O5 2
  have a4 := k3_ O5 4
  clear hHeld
  refine hK_.out _ _ (p3_ a0) (fun hHeld => ?_)
  clear hK_ K_
  refine done_ (by kernel_rfl) ?_
  clear hHeld
  go_wp2_with (first | ((with_reducible refine gC 100 rfl ?_); refine gP (some 34) Tryd.func100 #[.agg #[.int .i64 o, .int .i64 n1, .slice B1 ups.length b1_]] ?_; refine (chapbookref07_May.calls 40 _ _ _ _ ups (mayR o n1 ups) _ (O5.out.nreads (i := 3) rfl).2.2 (O5.out.nreads (i := 3) rfl).2.1 (rmayR 20 _ _ _)).mono ?_; rintro e_ w6 ⟨rfl, hb_⟩; refine ⟨_, rfl, ?_⟩; have o_ := O5.out.below hb_; have k_ := KeepS.of_below (N := N) hb_; obtain ⟨O6, K6⟩ := ok_ K5 o_ k_; have HR_6 := Aside0.mk (keepF HR_5.out k_); clear a0 a2 a4 O5 K5 HR_5 o_ k_ hb_; have a0 := k3_ O6 0; have a2 := k3_ O6 2; have a4 := k3_ O6 4) | ((with_reducible refine gT 35 4 rfl ?_); refine wS 2 0 [.int .i64 0, .int .i64 0, .slice none 0 0] O6 ?_; intro w7 o_ k_; obtain ⟨O7, K7⟩ := ok_ K6 o_ k_; have HR_7 := Aside0.mk (keepF HR_6.out k_); clear a0 a2 a4 O6 K6 HR_6 o_ k_; have a0 := k3_ O7 0; have a2 := k3_ O7 2; have a4 := k3_ O7 4))
  refine bodyPost_ret (results_ct rfl _ _ gz 35 #[.int .i64 0, .int .i64 0, .slice none 0 0] (0, 0) _ rfl (O7.out.blk (i := 2) rfl) Tryd.underlying35 rfl (by kernel_rfl)) rfl ?_
  exact ⟨by rw [← HN1.out]; rfl, O7.out.take 2, K7.out⟩
theorem DJAdd_ok {N : Nat → Prop} {w : World} {g : Nat} {o m : Int} {A0 : Option Addr} {c0 : Nat} {rJ : List (List Value)} (B : Option Addr) (c : Nat) (ups : List Upd7) (h : Own N w [cells g #[.int .i64 o, .int .i64 m, .slice A0 rJ.length c0] 64, nrow (Kd.raw 3) 35 (.slice A0 rJ.length c0) rJ]) (hr : Kd.F k32 w N B ups.length ups) (hc : ups.length ≤ c) (hL : rJ.length ≤ 1000000) (hu : ups.length ≤ 1000000) (hq : ¬ (rJ.length : Int) ≥ m) (he : mayR o ((rJ.length : Int) + 1) ups = 0) :
  Calls Tryd.prog 89 #[.pointer (some ⟨g, 0, none⟩), .slice B ups.length c] w fun e_ w' => ∃ B1 b1_ C4 e4, e_ = .returned (.tuple #[.agg #[.int .i64 o, .int .i64 ((rJ.length : Int) + 1), .slice B1 ups.length b1_], .int .i64 0]) ∧ ups.length ≤ b1_ ∧ Own N w' [cells g #[.int .i64 o, .int .i64 m, .slice C4 (rJ ++ [rw3 o ((rJ.length : Int) + 1) (.slice B1 ups.length b1_)]).length e4] 64, nrow (Kd.raw 3) 35 (.slice C4 (rJ ++ [rw3 o ((rJ.length : Int) + 1) (.slice B1 ups.length b1_)]).length e4) (rJ ++ [rw3 o ((rJ.length : Int) + 1) (.slice B1 ups.length b1_)]), nrow k32 32 (.slice B1 ups.length b1_) ups] ∧ KeepS N w w' := by
 have d1 : decide ((rJ.length : Int) ≥ m) = false := decide_eq_false hq
 have d2 : decide (m ≤ (rJ.length : Int)) = false := d1
 have HR_0 : Aside0 (Kd.F k32 w N B ups.length ups) := ⟨hr⟩
 have HC := Aside0.mk hc
 have HL := Aside0.mk hL
 have HU := Aside0.mk hu
 have hs1 : IntKind.i64.wrap ((rJ.length : Int) + 1) = (rJ.length : Int) + 1 := by rw [IntKind.wrap_i64]; omega
 have hs2 : wrap64 ((rJ.length : Int) + 1) = (rJ.length : Int) + 1 := by unfold wrap64; omega
 obtain ⟨n1, hn1⟩ : ∃ n : Int, n = (rJ.length : Int) + 1 := ⟨_, rfl⟩
 have HN1 := Aside0.mk hn1
 replace hs1 := hs1.trans hn1.symm
 replace hs2 := hs2.trans hn1.symm
 rw [← hn1] at he
 have d4 : ((0 : Int) != 0) = false := by decide
 have HE := Aside0.mk he
 clear hn1 he
 have O0 : Aside0 (Own N w [cells g #[.int .i64 o, .int .i64 m, .slice A0 rJ.length c0] 64, nrow (Kd.raw 3) 35 (.slice A0 rJ.length c0) rJ]) := ⟨h⟩
 have K0 : Aside0 (KeepS N w w) := ⟨KeepS.refl _ _⟩
 have a0 := k3_ O0 0
 clear h hr hc hL hu hq
 go_enter Tryd.func89, Tryd.ntmps89
 go_wp2_with (first | ((with_reducible refine gD 4 rfl ?_); refine bP 4 #[.int .i64 0, .int .i64 0, .slice none 0 0] 35 O0.out ?_; intro gz w1 o_ k_; obtain ⟨O1, K1⟩ := ok_ K0 o_ k_; have HR_1 := Aside0.mk (keepF HR_0.out k_); clear a0 O0 K0 HR_0 o_ k_; have a0 := k3_ O1 0; have a2 := k3_ O1 2))
 refine sP (n := 10) (S := c3_ g (.int .i64 o) (.int .i64 m) (.slice A0 rJ.length c0)) (ds := []) (p3_ a0) (fun hHeld => ?_)
 obtain ⟨w2, hw_⟩ : ∃ W, W = w1.drew := ⟨_, rfl⟩
 have o_ := O1.out.drew
 have k_ : KeepS N w1 w1.drew := KeepS.drew
 rw [← hw_] at o_ k_ hHeld ⊢
 clear hw_
 obtain ⟨O2, K2⟩ := ok_ K1 o_ k_
 have HR_2 := Aside0.mk (keepF HR_1.out k_)
 clear a0 a2 O1 K1 HR_1 o_ k_
 have a0 := k3_ O2 0
 have a2 := k3_ O2 2
 refine pP 0 (some 8) ?_
 refine pP 1 (some 9) ?_
 refine pP 2 (some 10) ?_
 refine pP 5 (some 13) ?_
 refine pP 6 (some 14) ?_
 refine pP 7 (some 15) ?_
 refine tP 3 (some 11) hHeld ?_
 refine pP 4 (some 12) ?_
 refine tP 8 (some 16) hHeld ?_
 refine pP 9 (some 17) ?_
 refine done_ (by kernel_rfl) ?_
 clear hHeld
 go_wp2
 refine sP (n := 16) (S := c3_ g (.int .i64 o) (.int .i64 m) (.slice A0 rJ.length c0)) (ds := []) (p3_ a0) (fun hHeld => ?_)
 obtain ⟨w3, hw_⟩ : ∃ W, W = w2.drew := ⟨_, rfl⟩
 have o_ := O2.out.drew
 have k_ : KeepS N w2 w2.drew := KeepS.drew
 rw [← hw_] at o_ k_ hHeld ⊢
 clear hw_
 obtain ⟨O3, K3⟩ := ok_ K2 o_ k_
 have HR_3 := Aside0.mk (keepF HR_2.out k_)
 clear a0 a2 O2 K2 HR_2 o_ k_
 have a0 := k3_ O3 0
 have a2 := k3_ O3 2
 refine pP 0 (some 19) ?_
 refine pP 1 (some 20) ?_
 refine pP 2 (some 21) ?_
 refine pP 4 (some 23) ?_
 refine pP 5 (some 24) ?_
 refine pP 6 (some 25) ?_
 refine pP 11 (some 30) ?_
 refine tP 3 (some 22) hHeld ?_
 refine tP 7 (some 26) hHeld ?_
 refine pP 8 (some 27) ?_
 refine pP 9 (some 28) ?_
 refine join_ (σ := Option Addr × Nat × Option Addr × Nat × Nat) 1 #[true, true, true, true, true, true, true, true, true, true, true, true, true, true, true, false] (fun ⟨C1, e1, B1, b1_, gx⟩ => [(29, .slice C1 0 e1), (31, .slice B1 ups.length b1_), (32, .agg #[.int .i64 o, .int .i64 n1, .slice B1 ups.length b1_]), (6, .pointer (some ⟨gx, 0, none⟩))]) (fun ⟨C1, e1, B1, b1_, gx⟩ w' => Own N w' [cells g #[.int .i64 o, .int .i64 m, .slice A0 rJ.length c0] 64, nrow (Kd.raw 3) 35 (.slice A0 rJ.length c0) rJ, cells gz #[.int .i64 0, .int .i64 0, .slice none 0 0] 35, nrow k32 32 (.slice B1 ups.length b1_) ups, cells gx #[.int .i64 0, .int .i64 0, .slice none 0 0] 35] ∧ KeepS N w3 w') ?hcont ?hways
 case hways =>
  intro hc_
  have K4 : Aside0 (KeepS N w3 w3) := ⟨KeepS.refl _ _⟩
  have O4 : Aside0 (Own N w3 [cells g #[.int .i64 o, .int .i64 m, .slice A0 rJ.length c0] 64, nrow (Kd.raw 3) 35 (.slice A0 rJ.length c0) rJ, cells gz #[.int .i64 0, .int .i64 0, .slice none 0 0] 35]) := O3
  refine tW_ 10 14 (some 29) (some 6) (fun K_ hK_ => ?_) (fun K_ hK_ => ?_)
  ·skip
   refine own_lit_step k32 (N := N) (e := 32) (xs := []) (inner := []) rfl rfl gs_ (Reps.none _ _) (by decide) O4.out ?_
   intro C1 e1 w5 o_ k_
   obtain ⟨O5, K5⟩ := ok_ K4 o_ k_
   have HR_5 := Aside0.mk (keepF HR_3.out k_)
   clear a0 a2 O4 K4 HR_3 o_ k_
   have a0 := k3_ O5 0
   have a2 := k3_ O5 2
   clear hHeld
   refine hK_.out _ _ (p3_ a0) (fun hHeld => ?_)
   clear hK_ K_
   refine nR_ ?_
   refine tW_ 12 14 (some 31) (some 6) (fun K_ hK_ => ?_) (fun K_ hK_ => ?_)
   ·skip
    refine Own.append_flat_step k32 flatU O5.out (i := 3) rfl (Kd.F_now HR_5.out) rfl (by rfl) (.tmp 29) (.tmp 30) 33 (.agg #[.string ⟨#[]⟩, .int .i64 0, .int .i64 0, .string ⟨#[]⟩]) 48 rfl Tryd.underlying33 infoU7 rfl (by decide) (by decide) rfl rfl (by have := HU.out; simp only [List.length_nil]; omega) ?_
    intro B1 b1_ w6 o_ k_
    obtain ⟨O6, K6⟩ := ok_ K5 o_ k_
    have HR_6 := Aside0.mk (keepF HR_5.out k_)
    clear a0 a2 O5 K5 HR_5 o_ k_
    have a0 := k3_ O6 0
    have a2 := k3_ O6 2
    clear hHeld
    refine hK_.out _ _ (p3_ a0) (fun hHeld => ?_)
    clear hK_ K_
    refine nR_ ?_
    refine pP 13 (some 32) ?_
    refine oP 14 (some 6) (fun K_ hK_ => ?_)
    refine cP #[.int .i64 0, .int .i64 0, .slice none 0 0] 35 O6.out ?_
    intro gx w7 o_ k_
    obtain ⟨O7, K7⟩ := ok_ K6 o_ k_
    have HR_7 := Aside0.mk (keepF HR_6.out k_)
    clear a0 a2 O6 K6 HR_6 o_ k_
    have a0 := k3_ O7 0
    have a2 := k3_ O7 2
    have a4 := k3_ O7 4
    clear hHeld
    refine hK_.out _ _ (p3_ a0) (fun hHeld => ?_)
    clear hK_ K_
    refine nR_ ?_
    refine norm_ (a' := _) ?_ (hc_ ⟨C1, e1, B1, b1_, gx⟩ _ ⟨?_, K7.out⟩)
    ·simp only [putAll, Act.put, List.setIfInBounds_toArray, List.set_cons_zero, List.set_cons_succ]
     try rfl
    ·exact O7.out.pickL [0, 1, 2, 3, 4] (by decide) (by simp)
   ·skip
    refine cP #[.int .i64 0, .int .i64 0, .slice none 0 0] 35 O5.out ?_
    intro gx w6 o_ k_
    obtain ⟨O6, K6⟩ := ok_ K5 o_ k_
    have HR_6 := Aside0.mk (keepF HR_5.out k_)
    clear a0 a2 O5 K5 HR_5 o_ k_
    have a0 := k3_ O6 0
    have a2 := k3_ O6 2
    have a4 := k3_ O6 4
    clear hHeld
    refine hK_.out _ _ (p3_ a0) (fun hHeld => ?_)
    clear hK_ K_
    refine nR_ ?_
    refine oP 12 (some 31) (fun K_ hK_ => ?_)
    refine Own.append_flat_step k32 flatU O6.out (i := 3) rfl (Kd.F_now HR_6.out) rfl (by rfl) (.tmp 29) (.tmp 30) 33 (.agg #[.string ⟨#[]⟩, .int .i64 0, .int .i64 0, .string ⟨#[]⟩]) 48 rfl Tryd.underlying33 infoU7 rfl (by decide) (by decide) rfl rfl (by have := HU.out; simp only [List.length_nil]; omega) ?_
    intro B1 b1_ w7 o_ k_
    obtain ⟨O7, K7⟩ := ok_ K6 o_ k_
    have HR_7 := Aside0.mk (keepF HR_6.out k_)
    clear a0 a2 a4 O6 K6 HR_6 o_ k_
    have a0 := k3_ O7 0
    have a2 := k3_ O7 2
    have a4 := k3_ O7 4
    clear hHeld
    refine hK_.out _ _ (p3_ a0) (fun hHeld => ?_)
    clear hK_ K_
    refine nR_ ?_
    refine pP 13 (some 32) ?_
    refine norm_ (a' := _) ?_ (hc_ ⟨C1, e1, B1, b1_, gx⟩ _ ⟨?_, K7.out⟩)
    ·simp only [putAll, Act.put, List.setIfInBounds_toArray, List.set_cons_zero, List.set_cons_succ]
     try rfl
    ·exact O7.out.pickL [0, 1, 2, 3, 4] (by decide) (by simp)
  ·skip
   refine cP #[.int .i64 0, .int .i64 0, .slice none 0 0] 35 O4.out ?_
   intro gx w5 o_ k_
   obtain ⟨O5, K5⟩ := ok_ K4 o_ k_
   have HR_5 := Aside0.mk (keepF HR_3.out k_)
   clear a0 a2 O4 K4 HR_3 o_ k_
   have a0 := k3_ O5 0
   have a2 := k3_ O5 2
   have a3 := k3_ O5 3
   clear hHeld
   refine hK_.out _ _ (p3_ a0) (fun hHeld => ?_)
   clear hK_ K_
   refine nR_ ?_
   refine oP 10 (some 29) (fun K_ hK_ => ?_)
   refine own_lit_step k32 (N := N) (e := 32) (xs := []) (inner := []) rfl rfl gs_ (Reps.none _ _) (by decide) O5.out ?_
   intro C1 e1 w6 o_ k_
   obtain ⟨O6, K6⟩ := ok_ K5 o_ k_
   have HR_6 := Aside0.mk (keepF HR_5.out k_)
   clear a0 a2 a3 O5 K5 HR_5 o_ k_
   have a0 := k3_ O6 0
   have a2 := k3_ O6 2
   have a3 := k3_ O6 3
   clear hHeld
   refine hK_.out _ _ (p3_ a0) (fun hHeld => ?_)
   clear hK_ K_
   refine nR_ ?_
   refine oP 12 (some 31) (fun K_ hK_ => ?_)
   refine Own.append_flat_step k32 flatU O6.out (i := 4) rfl (Kd.F_now HR_6.out) rfl (by rfl) (.tmp 29) (.tmp 30) 33 (.agg #[.string ⟨#[]⟩, .int .i64 0, .int .i64 0, .string ⟨#[]⟩]) 48 rfl Tryd.underlying33 infoU7 rfl (by decide) (by decide) rfl rfl (by have := HU.out; simp only [List.length_nil]; omega) ?_
   intro B1 b1_ w7 o_ k_
   obtain ⟨O7, K7⟩ := ok_ K6 o_ k_
   have HR_7 := Aside0.mk (keepF HR_6.out k_)
   clear a0 a2 a3 O6 K6 HR_6 o_ k_
   have a0 := k3_ O7 0
   have a2 := k3_ O7 2
   have a3 := k3_ O7 3
   clear hHeld
   refine hK_.out _ _ (p3_ a0) (fun hHeld => ?_)
   clear hK_ K_
   refine nR_ ?_
   refine pP 13 (some 32) ?_
   refine norm_ (a' := _) ?_ (hc_ ⟨C1, e1, B1, b1_, gx⟩ _ ⟨?_, K7.out⟩)
   ·simp only [putAll, Act.put, List.setIfInBounds_toArray, List.set_cons_zero, List.set_cons_succ]
    try rfl
   ·exact O7.out.pickL [0, 1, 2, 4, 3] (by decide) (by simp)
 case hcont =>
  clear hHeld
  rintro ⟨C1, e1, B1, b1_, gx⟩ w4 ⟨o_, k_⟩
  obtain ⟨O4, K4⟩ := ok_ K3 o_ k_
  have HR_4 := Aside0.mk (keepF HR_3.out k_)
  clear a0 a2 O3 K3 HR_3 o_ k_
  have a0 := k3_ O4 0
  have a2 := k3_ O4 2
  have a4 := k3_ O4 4
  refine nA_ ?_
  have hHeld : w4.cell? ⟨g, 0, none⟩ = some (.int .i64 o) ∧ w4.cell? ⟨g, 1, none⟩ = some (.int .i64 m) ∧ w4.cell? ⟨g, 2, none⟩ = some (.slice A0 rJ.length c0) := (p3_ a0)
  refine oP 15 none (fun K_ hK_ => ?_)
  refine xS 4 0 [.int .i64 o, .int .i64 n1, .slice B1 ups.length b1_] O4 ?_
  intro w5 o_ k_
  obtain ⟨O5, K5⟩ := ok_ K4 o_ k_
  have HR_5 := Aside0.mk (keepF HR_4.out k_)
  clear a0 a2 a4 O4 K4 HR_4 o_ k_
  have a0 := k3_ O5 0
  have a2 := k3_ O5 2
  have a4 := k3_ O5 4
  clear hHeld
  refine hK_.out _ _ (p3_ a0) (fun hHeld => ?_)
  clear hK_ K_
  refine done_ (by kernel_rfl) ?_
  clear hHeld
  go_wp2_with (first | ((with_reducible refine gC 100 rfl ?_); refine gP (some 34) Tryd.func100 #[.agg #[.int .i64 o, .int .i64 n1, .slice B1 ups.length b1_]] ?_; refine (chapbookref07_May.calls 40 _ _ _ _ ups 0 _ (O5.out.nreads (i := 3) rfl).2.2 (O5.out.nreads (i := 3) rfl).2.1 ((rmayR 20 _ _ _).trans (by rw [HE.out]))).mono ?_; rintro e_ w6 ⟨rfl, hb_⟩; refine ⟨_, rfl, ?_⟩; have o_ := O5.out.below hb_; have k_ := KeepS.of_below (N := N) hb_; obtain ⟨O6, K6⟩ := ok_ K5 o_ k_; have HR_6 := Aside0.mk (keepF HR_5.out k_); clear a0 a2 a4 O5 K5 HR_5 o_ k_ hb_; have a0 := k3_ O6 0; have a2 := k3_ O6 2; have a4 := k3_ O6 4))
  refine sP (n := 13) (S := d3_ g (.int .i64 o) (.int .i64 m) (.slice A0 rJ.length c0) (c3_ gx (.int .i64 o) (.int .i64 n1) (.slice B1 ups.length b1_))) (ds := [12]) (j3_ a0 (p3_ a4)) (fun hHeld => ?_)
  obtain ⟨w7, hw_⟩ : ∃ W, W = w6.drew := ⟨_, rfl⟩
  have o_ := O6.out.drew
  have k_ : KeepS N w6 w6.drew := KeepS.drew
  rw [← hw_] at o_ k_ hHeld ⊢
  clear hw_
  obtain ⟨O7, K7⟩ := ok_ K6 o_ k_
  have HR_7 := Aside0.mk (keepF HR_6.out k_)
  clear a0 a2 a4 O6 K6 HR_6 o_ k_
  have a0 := k3_ O7 0
  have a2 := k3_ O7 2
  have a4 := k3_ O7 4
  refine pP 0 (some 39) ?_
  refine pP 2 (some 41) ?_
  refine pP 3 (some 42) ?_
  refine pP 4 (some 43) ?_
  refine tP 5 (some 44) hHeld ?_
  refine tP 7 (some 46) hHeld ?_
  refine join_ (σ := Option Addr × Nat × Option Addr × Nat × Option Addr × Nat) 4 #[true, true, true, true, true, true, true, true, true, false, false, false, false] (fun ⟨C2, e2, C3, e3, D1, h1_⟩ => [(40, .slice C2 0 e2), (45, .slice C3 rJ.length e3), (47, .slice D1 1 h1_)]) (fun ⟨C2, e2, C3, e3, D1, h1_⟩ w' => Own N w' [cells g #[.int .i64 o, .int .i64 m, .slice A0 rJ.length c0] 64, nrow (Kd.raw 3) 35 (.slice A0 rJ.length c0) rJ, cells gz #[.int .i64 0, .int .i64 0, .slice none 0 0] 35, nrow k32 32 (.slice B1 ups.length b1_) ups, cells gx #[.int .i64 o, .int .i64 n1, .slice B1 ups.length b1_] 35, nrow (Kd.raw 3) 35 (.slice C3 rJ.length e3) rJ, nrow (Kd.raw 3) 35 (.slice D1 1 h1_) [rw3 o n1 (.slice B1 ups.length b1_)]] ∧ KeepS N w7 w') ?hcont ?hways
  case hways =>
   intro hc_
   have K8 : Aside0 (KeepS N w7 w7) := ⟨KeepS.refl _ _⟩
   have O8 : Aside0 (Own N w7 [cells g #[.int .i64 o, .int .i64 m, .slice A0 rJ.length c0] 64, nrow (Kd.raw 3) 35 (.slice A0 rJ.length c0) rJ, cells gz #[.int .i64 0, .int .i64 0, .slice none 0 0] 35, nrow k32 32 (.slice B1 ups.length b1_) ups, cells gx #[.int .i64 o, .int .i64 n1, .slice B1 ups.length b1_] 35]) := O7
   refine tW_ 1 8 (some 40) (some 47) (fun K_ hK_ => ?_) (fun K_ hK_ => ?_)
   ·skip
    refine own_lit_step (Kd.raw 3) (N := N) (e := 35) (xs := []) (inner := []) rfl rfl gs_ (Reps.none _ _) (by decide) O8.out ?_
    intro C2 e2 w9 o_ k_
    obtain ⟨O9, K9⟩ := ok_ K8 o_ k_
    have HR_9 := Aside0.mk (keepF HR_7.out k_)
    clear a0 a2 a4 O8 K8 HR_7 o_ k_
    have a0 := k3_ O9 0
    have a2 := k3_ O9 2
    have a4 := k3_ O9 4
    clear hHeld
    refine hK_.out _ _ (j3_ a0 (p3_ a4)) (fun hHeld => ?_)
    clear hK_ K_
    refine nR_ ?_
    refine tW_ 6 8 (some 45) (some 47) (fun K_ hK_ => ?_) (fun K_ hK_ => ?_)
    ·skip
     refine Own.append_flat_step (Kd.raw 3) flatRaw O9.out (i := 5) rfl (O9.out.nreads (i := 1) rfl).2.2 rfl (by rfl) (.tmp 40) (.tmp 44) 40 (.agg #[.int .i64 0, .int .i64 0, .slice none 0 0]) 40 rfl Tryd.underlying40 infoR rfl (by decide) (by decide) rfl rfl (by have := HL.out; simp only [List.length_nil]; omega) ?_
     intro C3 e3 w10 o_ k_
     obtain ⟨O10, K10⟩ := ok_ K9 o_ k_
     have HR_10 := Aside0.mk (keepF HR_9.out k_)
     clear a0 a2 a4 O9 K9 HR_9 o_ k_
     have a0 := k3_ O10 0
     have a2 := k3_ O10 2
     have a4 := k3_ O10 4
     clear hHeld
     refine hK_.out _ _ (j3_ a0 (p3_ a4)) (fun hHeld => ?_)
     clear hK_ K_
     refine nR_ ?_
     refine oP 8 (some 47) (fun K_ hK_ => ?_)
     refine own_lit_step (Kd.raw 3) (N := N) (e := 35) (xs := [rw3 o n1 (.slice B1 ups.length b1_)]) (inner := [.int .i64 o, .int .i64 n1, .slice B1 ups.length b1_]) rfl rfl gs_ (repW _ o n1 B1 ups.length b1_) (by show 1 ≤ 9223372036854775807; decide) O10.out ?_
     intro D1 h1_ w11 o_ k_
     obtain ⟨O11, K11⟩ := ok_ K10 o_ k_
     have HR_11 := Aside0.mk (keepF HR_10.out k_)
     clear a0 a2 a4 O10 K10 HR_10 o_ k_
     have a0 := k3_ O11 0
     have a2 := k3_ O11 2
     have a4 := k3_ O11 4
     clear hHeld
     refine hK_.out _ _ (j3_ a0 (p3_ a4)) (fun hHeld => ?_)
     clear hK_ K_
     refine nR_ ?_
     refine norm_ (a' := _) ?_ (hc_ ⟨C2, e2, C3, e3, D1, h1_⟩ _ ⟨?_, K11.out⟩)
     ·simp only [putAll, Act.put, List.setIfInBounds_toArray, List.set_cons_zero, List.set_cons_succ]
      try rfl
     ·exact O11.out.pickL [0, 1, 2, 3, 4, 5, 6] (by decide) (by simp)
    ·skip
     refine own_lit_step (Kd.raw 3) (N := N) (e := 35) (xs := [rw3 o n1 (.slice B1 ups.length b1_)]) (inner := [.int .i64 o, .int .i64 n1, .slice B1 ups.length b1_]) rfl rfl gs_ (repW _ o n1 B1 ups.length b1_) (by show 1 ≤ 9223372036854775807; decide) O9.out ?_
     intro D1 h1_ w10 o_ k_
     obtain ⟨O10, K10⟩ := ok_ K9 o_ k_
     have HR_10 := Aside0.mk (keepF HR_9.out k_)
     clear a0 a2 a4 O9 K9 HR_9 o_ k_
     have a0 := k3_ O10 0
     have a2 := k3_ O10 2
     have a4 := k3_ O10 4
     clear hHeld
     refine hK_.out _ _ (j3_ a0 (p3_ a4)) (fun hHeld => ?_)
     clear hK_ K_
     refine nR_ ?_
     refine oP 6 (some 45) (fun K_ hK_ => ?_)
     refine Own.append_flat_step (Kd.raw 3) flatRaw O10.out (i := 5) rfl (O10.out.nreads (i := 1) rfl).2.2 rfl (by rfl) (.tmp 40) (.tmp 44) 40 (.agg #[.int .i64 0, .int .i64 0, .slice none 0 0]) 40 rfl Tryd.underlying40 infoR rfl (by decide) (by decide) rfl rfl (by have := HL.out; simp only [List.length_nil]; omega) ?_
     intro C3 e3 w11 o_ k_
     obtain ⟨O11, K11⟩ := ok_ K10 o_ k_
     have HR_11 := Aside0.mk (keepF HR_10.out k_)
     clear a0 a2 a4 O10 K10 HR_10 o_ k_
     have a0 := k3_ O11 0
     have a2 := k3_ O11 2
     have a4 := k3_ O11 4
     clear hHeld
     refine hK_.out _ _ (j3_ a0 (p3_ a4)) (fun hHeld => ?_)
     clear hK_ K_
     refine nR_ ?_
     refine norm_ (a' := _) ?_ (hc_ ⟨C2, e2, C3, e3, D1, h1_⟩ _ ⟨?_, K11.out⟩)
     ·simp only [putAll, Act.put, List.setIfInBounds_toArray, List.set_cons_zero, List.set_cons_succ]
      try rfl
     ·exact O11.out.pickL [0, 1, 2, 3, 4, 5, 6] (by decide) (by simp)
   ·skip
    refine own_lit_step (Kd.raw 3) (N := N) (e := 35) (xs := [rw3 o n1 (.slice B1 ups.length b1_)]) (inner := [.int .i64 o, .int .i64 n1, .slice B1 ups.length b1_]) rfl rfl gs_ (repW _ o n1 B1 ups.length b1_) (by show 1 ≤ 9223372036854775807; decide) O8.out ?_
    intro D1 h1_ w9 o_ k_
    obtain ⟨O9, K9⟩ := ok_ K8 o_ k_
    have HR_9 := Aside0.mk (keepF HR_7.out k_)
    clear a0 a2 a4 O8 K8 HR_7 o_ k_
    have a0 := k3_ O9 0
    have a2 := k3_ O9 2
    have a4 := k3_ O9 4
    clear hHeld
    refine hK_.out _ _ (j3_ a0 (p3_ a4)) (fun hHeld => ?_)
    clear hK_ K_
    refine nR_ ?_
    refine oP 1 (some 40) (fun K_ hK_ => ?_)
    refine own_lit_step (Kd.raw 3) (N := N) (e := 35) (xs := []) (inner := []) rfl rfl gs_ (Reps.none _ _) (by decide) O9.out ?_
    intro C2 e2 w10 o_ k_
    obtain ⟨O10, K10⟩ := ok_ K9 o_ k_
    have HR_10 := Aside0.mk (keepF HR_9.out k_)
    clear a0 a2 a4 O9 K9 HR_9 o_ k_
    have a0 := k3_ O10 0
    have a2 := k3_ O10 2
    have a4 := k3_ O10 4
    clear hHeld
    refine hK_.out _ _ (j3_ a0 (p3_ a4)) (fun hHeld => ?_)
    clear hK_ K_
    refine nR_ ?_
    refine oP 6 (some 45) (fun K_ hK_ => ?_)
    refine Own.append_flat_step (Kd.raw 3) flatRaw O10.out (i := 6) rfl (O10.out.nreads (i := 1) rfl).2.2 rfl (by rfl) (.tmp 40) (.tmp 44) 40 (.agg #[.int .i64 0, .int .i64 0, .slice none 0 0]) 40 rfl Tryd.underlying40 infoR rfl (by decide) (by decide) rfl rfl (by have := HL.out; simp only [List.length_nil]; omega) ?_
    intro C3 e3 w11 o_ k_
    obtain ⟨O11, K11⟩ := ok_ K10 o_ k_
    have HR_11 := Aside0.mk (keepF HR_10.out k_)
    clear a0 a2 a4 O10 K10 HR_10 o_ k_
    have a0 := k3_ O11 0
    have a2 := k3_ O11 2
    have a4 := k3_ O11 4
    clear hHeld
    refine hK_.out _ _ (j3_ a0 (p3_ a4)) (fun hHeld => ?_)
    clear hK_ K_
    refine nR_ ?_
    refine norm_ (a' := _) ?_ (hc_ ⟨C2, e2, C3, e3, D1, h1_⟩ _ ⟨?_, K11.out⟩)
    ·simp only [putAll, Act.put, List.setIfInBounds_toArray, List.set_cons_zero, List.set_cons_succ]
     try rfl
    ·exact O11.out.pickL [0, 1, 2, 3, 4, 6, 5] (by decide) (by simp)
  case hcont =>
   clear hHeld
   rintro ⟨C2, e2, C3, e3, D1, h1_⟩ w8 ⟨o_, k_⟩
   obtain ⟨O8, K8⟩ := ok_ K7 o_ k_
   have HR_8 := Aside0.mk (keepF HR_7.out k_)
   clear a0 a2 a4 O7 K7 HR_7 o_ k_
   have a0 := k3_ O8 0
   have a2 := k3_ O8 2
   have a4 := k3_ O8 4
   refine nA_ ?_
   have hHeld : w8.cell? ⟨g, 0, none⟩ = some (.int .i64 o) ∧ w8.cell? ⟨g, 1, none⟩ = some (.int .i64 m) ∧ w8.cell? ⟨g, 2, none⟩ = some (.slice A0 rJ.length c0) ∧ w8.cell? ⟨gx, 0, none⟩ = some (.int .i64 o) ∧ w8.cell? ⟨gx, 1, none⟩ = some (.int .i64 n1) ∧ w8.cell? ⟨gx, 2, none⟩ = some (.slice B1 ups.length b1_) := (j3_ a0 (p3_ a4))
   refine oP 9 (some 48) (fun K_ hK_ => ?_)
   refine Own.append_flat_step (Kd.raw 3) flatRaw O8.out (i := 5) rfl (O8.out.nreads (i := 6) rfl).2.2 rfl (by rfl) (.tmp 45) (.tmp 47) 40 (.agg #[.int .i64 0, .int .i64 0, .slice none 0 0]) 40 rfl Tryd.underlying40 infoR rfl (by decide) (by decide) rfl rfl (by have := HL.out; omega) ?_
   intro C4 e4 w9 o_ k_
   obtain ⟨O9, K9⟩ := ok_ K8 o_ k_
   have HR_9 := Aside0.mk (keepF HR_8.out k_)
   clear a0 a2 a4 O8 K8 HR_8 o_ k_
   have a0 := k3_ O9 0
   have a2 := k3_ O9 2
   have a4 := k3_ O9 4
   clear hHeld
   refine hK_.out _ _ (j3_ a0 (p3_ a4)) (fun hHeld => ?_)
   clear hK_ K_
   refine nP ?_
   refine pP 10 (some 49) ?_
   refine pP 11 (some 50) ?_
   refine lP 12 none (fun K_ hK_ => ?_)
   refine xS 0 2 [.slice C4 (rJ ++ [rw3 o n1 (.slice B1 ups.length b1_)]).length e4] O9 ?_
   intro w10 o_ k_
   obtain ⟨O10, K10⟩ := ok_ K9 o_ k_
   have HR_10 := Aside0.mk (keepF HR_9.out k_)
   clear a0 a2 a4 O9 K9 HR_9 o_ k_
   have a0 := k3_ O10 0
   have a2 := k3_ O10 2
   have a4 := k3_ O10 4
   refine hK_.out _ _ ?_
   clear hK_ K_
   refine done_ (by kernel_rfl) ?_
   clear hHeld
   go_wp2_with (first | ((with_reducible refine gT 35 4 rfl ?_); refine wS 2 0 [.int .i64 o, .int .i64 n1, .slice B1 ups.length b1_] O10 ?_; intro w11 o_ k_; obtain ⟨O11, K11⟩ := ok_ K10 o_ k_; have HR_11 := Aside0.mk (keepF HR_10.out k_); clear a0 a2 a4 O10 K10 HR_10 o_ k_; have a0 := k3_ O11 0; have a2 := k3_ O11 2; have a4 := k3_ O11 4))
   refine bodyPost_ret (results_ct rfl _ _ gz 35 #[.int .i64 o, .int .i64 n1, .slice B1 ups.length b1_] (0, 0) _ rfl (O11.out.blk (i := 2) rfl) Tryd.underlying35 rfl (by kernel_rfl)) rfl ?_
   exact ⟨B1, b1_, C4, e4, by rw [← HN1.out]; rfl, (O11.out.nreads (i := 3) rfl).2.1, (by rw [← HN1.out]; exact O11.out.pickL [0, 5, 3] (by decide) (by simp)), K11.out⟩
theorem DNew_low {N : Nat → Prop} {w : World} {gj : Nat} {jo jm : Int} {AJ : Option Addr} {cJ : Nat} {rJ : List (List Value)} (o mtu a3 : Int) (h : Own N w [cells gj #[.int .i64 jo, .int .i64 jm, .slice AJ rJ.length cJ] 64, nrow (Kd.raw 3) 35 (.slice AJ rJ.length cJ) rJ]) (hL : rJ.length ≤ 1000000) (hm : a3 < 1) :
  Calls Tryd.prog 54 #[.pointer (some ⟨gj, 0, none⟩), .int .i64 o, .int .i64 mtu, .int .i64 a3] w fun e w' => ∃ g A5 c5, e = .returned (.pointer (some ⟨g, 0, none⟩)) ∧ Own N w' [cells gj #[.int .i64 jo, .int .i64 jm, .slice AJ rJ.length cJ] 64, nrow (Kd.raw 3) 35 (.slice AJ rJ.length cJ) rJ, cells g #[.pointer (some ⟨gj, 0, none⟩), .int .i64 o, .int .i64 mtu, .int .i64 1, .slice none 0 0, .slice A5 rJ.length c5, .slice none 0 0] 44, nrow (Kd.raw 3) 35 (.slice A5 rJ.length c5) rJ] ∧ KeepS N w w' := by
 have HL := Aside0.mk hL
 have O0 : Aside0 (Own N w [cells gj #[.int .i64 jo, .int .i64 jm, .slice AJ rJ.length cJ] 64, nrow (Kd.raw 3) 35 (.slice AJ rJ.length cJ) rJ]) := ⟨h⟩
 have K0 : Aside0 (KeepS N w w) := ⟨KeepS.refl _ _⟩
 have a0 := k3_ O0 0
 have d1 : decide (a3 < 1) = true := decide_eq_true hm
 have d2 : decide ((1 : Int) > 16) = false := by decide
 clear h hL hm
 go_enter Tryd.func54, Tryd.ntmps54
 go_wp2_with (first | ((with_reducible refine gD 17 rfl ?_); refine own_lit (Kd.raw 3) (N := N) (e := 35) (xs := []) (inner := []) rfl (D := 17) rfl gs_ (Reps.none _ _) (by simp) O0.out ?_; intro A0 c0 w1 o_ k_; obtain ⟨O1, K1⟩ := ok_ K0 o_ k_; clear a0 O0 K0 o_ k_; have a0 := k3_ O1 0) | ((with_reducible refine gate_builtin (b := .append) (xs := #[.tmp 17, .tmp 21]) rfl ?_); at_builtin; refine Own.append_flat (Kd.raw 3) flatRaw O1.out (i := 2) (ys := rJ) rfl ((O1.out.nreads (i := 1) rfl).2.2) rfl (.tmp 17) (.tmp 21) 40 ((.agg #[.int .i64 0, .int .i64 0, .slice none 0 0])) 40 rfl Tryd.underlying40 infoR rfl (by decide) (by decide) rfl rfl (by have := HL.out; simp only [List.length_nil]; omega) ?_; intro A5 c5 w2 o_ k_; obtain ⟨O2, K2⟩ := ok_ K1 o_ k_; clear a0 O1 K1 o_ k_; have a0 := k3_ O2 0) | ((with_reducible refine gD 24 rfl ?_); refine bP 24 #[.pointer (some ⟨gj, 0, none⟩), .int .i64 o, .int .i64 mtu, .int .i64 1, .slice none 0 0, .slice A5 rJ.length c5, .slice none 0 0] 44 O2.out ?_; intro g w3 o_ k_; obtain ⟨O3, K3⟩ := ok_ K2 o_ k_; clear a0 O2 K2 o_ k_; have a0 := k3_ O3 0; have a3 := k7_ O3 3))
 go_ret
 exact ⟨g, A5, c5, rfl, O3.out.pickL [0, 1, 3, 2] (by decide) (by simp), K3.out⟩
theorem DNew_high {N : Nat → Prop} {w : World} {gj : Nat} {jo jm : Int} {AJ : Option Addr} {cJ : Nat} {rJ : List (List Value)} (o mtu a3 : Int) (h : Own N w [cells gj #[.int .i64 jo, .int .i64 jm, .slice AJ rJ.length cJ] 64, nrow (Kd.raw 3) 35 (.slice AJ rJ.length cJ) rJ]) (hL : rJ.length ≤ 1000000) (hm : 16 < a3) :
  Calls Tryd.prog 54 #[.pointer (some ⟨gj, 0, none⟩), .int .i64 o, .int .i64 mtu, .int .i64 a3] w fun e w' => ∃ g A5 c5, e = .returned (.pointer (some ⟨g, 0, none⟩)) ∧ Own N w' [cells gj #[.int .i64 jo, .int .i64 jm, .slice AJ rJ.length cJ] 64, nrow (Kd.raw 3) 35 (.slice AJ rJ.length cJ) rJ, cells g #[.pointer (some ⟨gj, 0, none⟩), .int .i64 o, .int .i64 mtu, .int .i64 16, .slice none 0 0, .slice A5 rJ.length c5, .slice none 0 0] 44, nrow (Kd.raw 3) 35 (.slice A5 rJ.length c5) rJ] ∧ KeepS N w w' := by
 have HL := Aside0.mk hL
 have O0 : Aside0 (Own N w [cells gj #[.int .i64 jo, .int .i64 jm, .slice AJ rJ.length cJ] 64, nrow (Kd.raw 3) 35 (.slice AJ rJ.length cJ) rJ]) := ⟨h⟩
 have K0 : Aside0 (KeepS N w w) := ⟨KeepS.refl _ _⟩
 have a0 := k3_ O0 0
 have d1 : decide (a3 < 1) = false := decide_eq_false (by omega)
 have d2 : decide (a3 > 16) = true := decide_eq_true hm
 have d3 : decide (16 < a3) = true := d2
 clear h hL hm
 go_enter Tryd.func54, Tryd.ntmps54
 go_wp2_with (first | ((with_reducible refine gD 17 rfl ?_); refine own_lit (Kd.raw 3) (N := N) (e := 35) (xs := []) (inner := []) rfl (D := 17) rfl gs_ (Reps.none _ _) (by simp) O0.out ?_; intro A0 c0 w1 o_ k_; obtain ⟨O1, K1⟩ := ok_ K0 o_ k_; clear a0 O0 K0 o_ k_; have a0 := k3_ O1 0) | ((with_reducible refine gate_builtin (b := .append) (xs := #[.tmp 17, .tmp 21]) rfl ?_); at_builtin; refine Own.append_flat (Kd.raw 3) flatRaw O1.out (i := 2) (ys := rJ) rfl ((O1.out.nreads (i := 1) rfl).2.2) rfl (.tmp 17) (.tmp 21) 40 ((.agg #[.int .i64 0, .int .i64 0, .slice none 0 0])) 40 rfl Tryd.underlying40 infoR rfl (by decide) (by decide) rfl rfl (by have := HL.out; simp only [List.length_nil]; omega) ?_; intro A5 c5 w2 o_ k_; obtain ⟨O2, K2⟩ := ok_ K1 o_ k_; clear a0 O1 K1 o_ k_; have a0 := k3_ O2 0) | ((with_reducible refine gD 24 rfl ?_); refine bP 24 #[.pointer (some ⟨gj, 0, none⟩), .int .i64 o, .int .i64 mtu, .int .i64 16, .slice none 0 0, .slice A5 rJ.length c5, .slice none 0 0] 44 O2.out ?_; intro g w3 o_ k_; obtain ⟨O3, K3⟩ := ok_ K2 o_ k_; clear a0 O2 K2 o_ k_; have a0 := k3_ O3 0; have a3 := k7_ O3 3))
 go_ret
 exact ⟨g, A5, c5, rfl, O3.out.pickL [0, 1, 3, 2] (by decide) (by simp), K3.out⟩
theorem DNew_mid {N : Nat → Prop} {w : World} {gj : Nat} {jo jm : Int} {AJ : Option Addr} {cJ : Nat} {rJ : List (List Value)} (o mtu a3 : Int) (h : Own N w [cells gj #[.int .i64 jo, .int .i64 jm, .slice AJ rJ.length cJ] 64, nrow (Kd.raw 3) 35 (.slice AJ rJ.length cJ) rJ]) (hL : rJ.length ≤ 1000000) (hm : 1 ≤ a3) (hm2 : a3 ≤ 16) :
  Calls Tryd.prog 54 #[.pointer (some ⟨gj, 0, none⟩), .int .i64 o, .int .i64 mtu, .int .i64 a3] w fun e w' => ∃ g A5 c5, e = .returned (.pointer (some ⟨g, 0, none⟩)) ∧ Own N w' [cells gj #[.int .i64 jo, .int .i64 jm, .slice AJ rJ.length cJ] 64, nrow (Kd.raw 3) 35 (.slice AJ rJ.length cJ) rJ, cells g #[.pointer (some ⟨gj, 0, none⟩), .int .i64 o, .int .i64 mtu, .int .i64 a3, .slice none 0 0, .slice A5 rJ.length c5, .slice none 0 0] 44, nrow (Kd.raw 3) 35 (.slice A5 rJ.length c5) rJ] ∧ KeepS N w w' := by
 have HL := Aside0.mk hL
 have O0 : Aside0 (Own N w [cells gj #[.int .i64 jo, .int .i64 jm, .slice AJ rJ.length cJ] 64, nrow (Kd.raw 3) 35 (.slice AJ rJ.length cJ) rJ]) := ⟨h⟩
 have K0 : Aside0 (KeepS N w w) := ⟨KeepS.refl _ _⟩
 have a0 := k3_ O0 0
 have d1 : decide (a3 < 1) = false := decide_eq_false (by omega)
 have d2 : decide (a3 > 16) = false := decide_eq_false (by omega)
 have d3 : decide (16 < a3) = false := d2
 clear h hL hm hm2
 go_enter Tryd.func54, Tryd.ntmps54
 go_wp2_with (first | ((with_reducible refine gD 17 rfl ?_); refine own_lit (Kd.raw 3) (N := N) (e := 35) (xs := []) (inner := []) rfl (D := 17) rfl gs_ (Reps.none _ _) (by simp) O0.out ?_; intro A0 c0 w1 o_ k_; obtain ⟨O1, K1⟩ := ok_ K0 o_ k_; clear a0 O0 K0 o_ k_; have a0 := k3_ O1 0) | ((with_reducible refine gate_builtin (b := .append) (xs := #[.tmp 17, .tmp 21]) rfl ?_); at_builtin; refine Own.append_flat (Kd.raw 3) flatRaw O1.out (i := 2) (ys := rJ) rfl ((O1.out.nreads (i := 1) rfl).2.2) rfl (.tmp 17) (.tmp 21) 40 ((.agg #[.int .i64 0, .int .i64 0, .slice none 0 0])) 40 rfl Tryd.underlying40 infoR rfl (by decide) (by decide) rfl rfl (by have := HL.out; simp only [List.length_nil]; omega) ?_; intro A5 c5 w2 o_ k_; obtain ⟨O2, K2⟩ := ok_ K1 o_ k_; clear a0 O1 K1 o_ k_; have a0 := k3_ O2 0) | ((with_reducible refine gD 24 rfl ?_); refine bP 24 #[.pointer (some ⟨gj, 0, none⟩), .int .i64 o, .int .i64 mtu, .int .i64 a3, .slice none 0 0, .slice A5 rJ.length c5, .slice none 0 0] 44 O2.out ?_; intro g w3 o_ k_; obtain ⟨O3, K3⟩ := ok_ K2 o_ k_; clear a0 O2 K2 o_ k_; have a0 := k3_ O3 0; have a3 := k7_ O3 3))
 go_ret
 exact ⟨g, A5, c5, rfl, O3.out.pickL [0, 1, 3, 2] (by decide) (by simp), K3.out⟩
theorem DResume {N : Nat → Prop} {w : World} {gj : Nat} {jo jm : Int} {AJ : Option Addr} {cJ : Nat} {rJ : List (List Value)} {g : Nat} {o mtu push : Int} {vk vp vo : Value} (h : Own N w [cells gj #[.int .i64 jo, .int .i64 jm, .slice AJ rJ.length cJ] 64, nrow (Kd.raw 3) 35 (.slice AJ rJ.length cJ) rJ, cells g #[.pointer (some ⟨gj, 0, none⟩), .int .i64 o, .int .i64 mtu, .int .i64 push, vk, vp, vo] 44]) (hL : rJ.length ≤ 1000000) :
  Calls Tryd.prog 61 #[.pointer (some ⟨g, 0, none⟩)] w fun e w' => ∃ A5 c5, e = .returned (.tuple #[]) ∧ Own N w' [cells gj #[.int .i64 jo, .int .i64 jm, .slice AJ rJ.length cJ] 64, nrow (Kd.raw 3) 35 (.slice AJ rJ.length cJ) rJ, cells g #[.pointer (some ⟨gj, 0, none⟩), .int .i64 o, .int .i64 mtu, .int .i64 push, .slice none 0 0, .slice A5 rJ.length c5, .slice none 0 0] 44, nrow (Kd.raw 3) 35 (.slice A5 rJ.length c5) rJ] ∧ KeepS N w w' := by
 have HL := Aside0.mk hL
 have O0 : Aside0 (Own N w [cells gj #[.int .i64 jo, .int .i64 jm, .slice AJ rJ.length cJ] 64, nrow (Kd.raw 3) 35 (.slice AJ rJ.length cJ) rJ, cells g #[.pointer (some ⟨gj, 0, none⟩), .int .i64 o, .int .i64 mtu, .int .i64 push, vk, vp, vo] 44]) := ⟨h⟩
 have K0 : Aside0 (KeepS N w w) := ⟨KeepS.refl _ _⟩
 have a0 := k3_ O0 0
 have a2 := k7_ O0 2
 clear h hL
 go_enter Tryd.func61, Tryd.ntmps61
 go_wp2_with (first | ((with_reducible refine gT 40 4 rfl ?_); refine wS 2 4 [.slice none 0 0] O0 ?_; intro w1 o_ k_; obtain ⟨O1, K1⟩ := ok_ K0 o_ k_; clear a0 a2 O0 K0 o_ k_; have a0 := k3_ O1 0; have a2 := k7_ O1 2) | ((with_reducible refine gT 33 7 rfl ?_); refine wS 2 6 [.slice none 0 0] O1 ?_; intro w2 o_ k_; obtain ⟨O2, K2⟩ := ok_ K1 o_ k_; clear a0 a2 O1 K1 o_ k_; have a0 := k3_ O2 0; have a2 := k7_ O2 2) | ((with_reducible refine gD 9 rfl ?_); refine own_lit (Kd.raw 3) (N := N) (e := 35) (xs := []) (inner := []) rfl (D := 9) rfl gs_ (Reps.none _ _) (by simp) O2.out ?_; intro A0 c0 w3 o_ k_; obtain ⟨O3, K3⟩ := ok_ K2 o_ k_; clear a0 a2 O2 K2 o_ k_; have a0 := k3_ O3 0; have a2 := k7_ O3 2) | ((with_reducible refine gate_builtin (b := .append) (xs := #[.tmp 9, .tmp 16]) rfl ?_); at_builtin; refine Own.append_flat (Kd.raw 3) flatRaw O3.out (i := 3) (ys := rJ) rfl ((O3.out.nreads (i := 1) rfl).2.2) rfl (.tmp 9) (.tmp 16) 40 ((.agg #[.int .i64 0, .int .i64 0, .slice none 0 0])) 40 rfl Tryd.underlying40 infoR rfl (by decide) (by decide) rfl rfl (by have := HL.out; simp only [List.length_nil]; omega) ?_; intro A5 c5 w4 o_ k_; obtain ⟨O4, K4⟩ := ok_ K3 o_ k_; clear a0 a2 O3 K3 o_ k_; have a0 := k3_ O4 0; have a2 := k7_ O4 2) | ((with_reducible refine gT 40 19 rfl ?_); refine wS 2 5 [.slice A5 rJ.length c5] O4 ?_; intro w5 o_ k_; obtain ⟨O5, K5⟩ := ok_ K4 o_ k_; clear a0 a2 O4 K4 o_ k_; have a0 := k3_ O5 0; have a2 := k7_ O5 2))
 first | go_end0 | go_ret
 exact ⟨A5, c5, rfl, O5.out, K5.out⟩
theorem cut1 (A : Option Addr) (n c : Nat) (h : 1 ≤ n) : ∀ W : World, (Instr.slice 40 (.slice A n c) (some (.int .i64 1)) none none).run Tryd.prog W = .ok (.slice (if c = 1 then A else A.map (·.add (1 * 3))) (n - 1) (c - 1)) W := by
 obtain ⟨i0, hi0, hz⟩ := Option.map_eq_some_iff.1 infoR
 have hsz : i0.size = 3 := by
  simp only [Prod.mk.injEq] at hz
  exact hz.2.1
 exact cut_from 40 35 .i64 Tryd.underlying40 hi0 3 hsz A n c 1 (by decide) (by omega)
theorem headN {w : World} {ad : Addr} {P : List Rnd7} (h : Kd.C k35 w (some ad) P.length P) (hp : P.length ≠ 0) : w.cell? ⟨ad.block, ad.off + 1, none⟩ = some (.int .i64 (rd_T35 P 0).f1) := by
 obtain ⟨ad', A2, c2, e, y0, y1, y2⟩ := at_T35 h 0 (by decide) (by omega)
 cases e
 have e0 : (ad.add ((0 : Int).toNat * 3)) = ad := by
  show ad.add 0 = ad
  simp [Addr.add]
 rw [e0] at y1
 exact y1
theorem CTake_none {N : Nat → Prop} {w : World} {g : Nat} {jp : Value} {o mtu push : Int} {K P : List Rnd7} {U : List Upd7} (r0 r1 : Int) (B : Option Addr) (cb : Nat) (us : List Upd7) (h : Own N w [CliO g jp o mtu push K P U]) (hr : Kd.F k32 w N B us.length us) (hc : us.length ≤ cb) (hu : us.length ≤ 1000000) (hL : K.length ≤ 1000000) (ho : r0 = o) (hp : P.length = 0) :
  Calls Tryd.prog 32 #[.pointer (some ⟨g, 0, none⟩), .agg #[.int .i64 r0, .int .i64 r1, .slice B us.length cb]] w fun e_ w' => e_ = .returned (.int .i64 10) ∧ Own N w' [CliO g jp o mtu push K P U] ∧ KeepS N w w' := by
 have d1 : (r0 == o) = true := beq_iff_eq.mpr ho
 have d2 : ((P.length : Int) == 0) = true := by simp [hp]
 have HR_0 : Aside0 (Kd.F k32 w N B us.length us) := ⟨hr⟩
 have HC := Aside0.mk hc
 have HU := Aside0.mk hu
 have HL := Aside0.mk hL
 obtain ⟨A4, c4, A5, c5, A6, c6, hcap, h2⟩ := CliO.open_ h
 have HCAP := Aside0.mk hcap
 have O0 : Aside0 (Own N w [cells g #[jp, .int .i64 o, .int .i64 mtu, .int .i64 push, .slice A4 K.length c4, .slice A5 P.length c5, .slice A6 U.length c6] 111, nrow k32 32 (.slice A6 U.length c6) U, qrow k35 35 (.slice A5 P.length c5) P, qrow k35 35 (.slice A4 K.length c4) K]) := ⟨h2⟩
 have K0 : Aside0 (KeepS N w w) := ⟨KeepS.refl _ _⟩
 have a0 := k7_ O0 0
 clear h2 h hr hc hu hL hcap ho hp
 go_enter Tryd.func32, Tryd.ntmps32
 go_wp2_with (first | ((with_reducible refine gD 3 rfl ?_); refine bP 3 #[.int .i64 r0, .int .i64 r1, .slice B us.length cb] 35 O0.out ?_; intro gr w1 o_ k_; obtain ⟨O1, K1⟩ := ok_ K0 o_ k_; have HR_1 := Aside0.mk (keepF HR_0.out k_); clear a0 O0 K0 HR_0 o_ k_; have a0 := k7_ O1 0; have a4 := k3_ O1 4))
 refine sP (n := 7) (S := d7_ g (jp) (.int .i64 o) (.int .i64 mtu) (.int .i64 push) (.slice A4 K.length c4) (.slice A5 P.length c5) (.slice A6 U.length c6) (c3_ gr (.int .i64 r0) (.int .i64 r1) (.slice B us.length cb))) (ds := []) (j7_ a0 (p3_ a4)) (fun hHeld => ?_)
 obtain ⟨w2, hw_⟩ : ∃ W, W = w1.drew := ⟨_, rfl⟩
 have o_ := O1.out.drew
 have k_ : KeepS N w1 w1.drew := KeepS.drew
 rw [← hw_] at o_ k_ hHeld ⊢
 clear hw_
 obtain ⟨O2, K2⟩ := ok_ K1 o_ k_
 have HR_2 := Aside0.mk (keepF HR_1.out k_)
 clear a0 a4 O1 K1 HR_1 o_ k_
 have a0 := k7_ O2 0
 have a4 := k3_ O2 4
 refine pP 0 (some 5) ?_
 refine pP 2 (some 7) ?_
 refine pP 3 (some 8) ?_
 refine pP 4 (some 9) ?_
 refine tP 1 (some 6) hHeld ?_
 refine tP 5 (some 10) hHeld ?_
 refine pP 6 (some 11) ?_
 refine done_ (by kernel_rfl) ?_
 clear hHeld
 go_wp2
 refine sP (n := 18) (S := d7_ g (jp) (.int .i64 o) (.int .i64 mtu) (.int .i64 push) (.slice A4 K.length c4) (.slice A5 P.length c5) (.slice A6 U.length c6) (c3_ gr (.int .i64 r0) (.int .i64 r1) (.slice B us.length cb))) (ds := []) (j7_ a0 (p3_ a4)) (fun hHeld => ?_)
 obtain ⟨w3, hw_⟩ : ∃ W, W = w2.drew := ⟨_, rfl⟩
 have o_ := O2.out.drew
 have k_ : KeepS N w2 w2.drew := KeepS.drew
 rw [← hw_] at o_ k_ hHeld ⊢
 clear hw_
 obtain ⟨O3, K3⟩ := ok_ K2 o_ k_
 have HR_3 := Aside0.mk (keepF HR_2.out k_)
 clear a0 a4 O2 K2 HR_2 o_ k_
 have a0 := k7_ O3 0
 have a4 := k3_ O3 4
 refine pP 0 (some 12) ?_
 refine pP 1 (some 13) ?_
 refine pP 2 (some 14) ?_
 refine tP 3 (some 15) hHeld ?_
 refine pP 4 (some 16) ?_
 refine pP 5 (some 17) ?_
 refine pP 6 (some 18) ?_
 refine pS 7 (some 19) ?_
 refine pS 8 (some 20) ?_
 refine pS 9 (some 21) ?_
 refine pS 14 (some 26) ?_
 refine tS 10 (some 22) hHeld ?_
 refine pS 11 (some 23) ?_
 refine pS 12 (some 24) ?_
 refine tS 13 (some 25) hHeld ?_
 refine tS 15 (some 27) hHeld ?_
 refine pS 16 (some 28) ?_
 refine pP 17 (some 29) ?_
 refine done_ (by kernel_rfl) ?_
 clear hHeld
 go_wp2
 go_ret
 exact ⟨rfl, (CliO.shut (O3.out.pickL [0, 3, 2, 1] (by decide) (by simp))).take 1, K3.out⟩
theorem CTake_wrong {N : Nat → Prop} {w : World} {g : Nat} {jp : Value} {o mtu push : Int} {K P : List Rnd7} {U : List Upd7} (r0 r1 : Int) (B : Option Addr) (cb : Nat) (us : List Upd7) (h : Own N w [CliO g jp o mtu push K P U]) (hr : Kd.F k32 w N B us.length us) (hc : us.length ≤ cb) (hu : us.length ≤ 1000000) (hL : K.length ≤ 1000000) (ho : r0 = o) (hp : P.length ≠ 0) (hn : (rd_T35 P 0).f1 ≠ r1) :
  Calls Tryd.prog 32 #[.pointer (some ⟨g, 0, none⟩), .agg #[.int .i64 r0, .int .i64 r1, .slice B us.length cb]] w fun e_ w' => e_ = .returned (.int .i64 10) ∧ Own N w' [CliO g jp o mtu push K P U] ∧ KeepS N w w' := by
 have d1 : (r0 == o) = true := beq_iff_eq.mpr ho
 have d2 : ((P.length : Int) == 0) = false := beq_eq_false_iff_ne.mpr (by omega)
 have d3 : ((rd_T35 P 0).f1 != r1) = true := bne_iff_ne.mpr hn
 have HR_0 : Aside0 (Kd.F k32 w N B us.length us) := ⟨hr⟩
 have HC := Aside0.mk hc
 have HU := Aside0.mk hu
 have HL := Aside0.mk hL
 obtain ⟨A4, c4, A5, c5, A6, c6, hcap, h2⟩ := CliO.open_ h
 have HCAP := Aside0.mk hcap
 have hq_ := (h2.qreads (i := 2) rfl).2.2
 obtain ⟨ad, Ah, ch, e5, y0, y1, y2⟩ := at_T35 hq_ 0 (by decide) (by omega)
 cases e5
 clear hq_ y0 y1 y2
 have hq1 : ((0 : Int) < (P.length : Int)) = True := eq_true (by omega)
 have hq2 : (0 < P.length) = True := eq_true (by omega)
 have O0 : Aside0 (Own N w [cells g #[jp, .int .i64 o, .int .i64 mtu, .int .i64 push, .slice A4 K.length c4, .slice (some ad) P.length c5, .slice A6 U.length c6] 111, nrow k32 32 (.slice A6 U.length c6) U, qrow k35 35 (.slice (some ad) P.length c5) P, qrow k35 35 (.slice A4 K.length c4) K]) := ⟨h2⟩
 have K0 : Aside0 (KeepS N w w) := ⟨KeepS.refl _ _⟩
 have a0 := k7_ O0 0
 clear h2 h hr hc hu hL hcap ho
 have HPN := Aside0.mk hp
 clear hp hn
 go_enter Tryd.func32, Tryd.ntmps32
 go_wp2_with (first | ((with_reducible refine gD 3 rfl ?_); refine bP 3 #[.int .i64 r0, .int .i64 r1, .slice B us.length cb] 35 O0.out ?_; intro gr w1 o_ k_; obtain ⟨O1, K1⟩ := ok_ K0 o_ k_; have HR_1 := Aside0.mk (keepF HR_0.out k_); clear a0 O0 K0 HR_0 o_ k_; have a0 := k7_ O1 0; have a4 := k3_ O1 4))
 refine sP (n := 7) (S := d7_ g (jp) (.int .i64 o) (.int .i64 mtu) (.int .i64 push) (.slice A4 K.length c4) (.slice (some ad) P.length c5) (.slice A6 U.length c6) (c3_ gr (.int .i64 r0) (.int .i64 r1) (.slice B us.length cb))) (ds := []) (j7_ a0 (p3_ a4)) (fun hHeld => ?_)
 obtain ⟨w2, hw_⟩ : ∃ W, W = w1.drew := ⟨_, rfl⟩
 have o_ := O1.out.drew
 have k_ : KeepS N w1 w1.drew := KeepS.drew
 rw [← hw_] at o_ k_ hHeld ⊢
 clear hw_
 obtain ⟨O2, K2⟩ := ok_ K1 o_ k_
 have HR_2 := Aside0.mk (keepF HR_1.out k_)
 clear a0 a4 O1 K1 HR_1 o_ k_
 have a0 := k7_ O2 0
 have a4 := k3_ O2 4
 refine pP 0 (some 5) ?_
 refine pP 2 (some 7) ?_
 refine pP 3 (some 8) ?_
 refine pP 4 (some 9) ?_
 refine tP 1 (some 6) hHeld ?_
 refine tP 5 (some 10) hHeld ?_
 refine pP 6 (some 11) ?_
 refine done_ (by kernel_rfl) ?_
 clear hHeld
 go_wp2
 refine sP (n := 18) (S := fun w' => w'.cell? ⟨g, 0, none⟩ = some (jp) ∧ w'.cell? ⟨g, 1, none⟩ = some (.int .i64 o) ∧ w'.cell? ⟨g, 2, none⟩ = some (.int .i64 mtu) ∧ w'.cell? ⟨g, 3, none⟩ = some (.int .i64 push) ∧ w'.cell? ⟨g, 4, none⟩ = some (.slice A4 K.length c4) ∧ w'.cell? ⟨g, 5, none⟩ = some (.slice (some ad) P.length c5) ∧ w'.cell? ⟨g, 6, none⟩ = some (.slice A6 U.length c6) ∧ w'.cell? ⟨gr, 0, none⟩ = some (.int .i64 r0) ∧ w'.cell? ⟨gr, 1, none⟩ = some (.int .i64 r1) ∧ w'.cell? ⟨gr, 2, none⟩ = some (.slice B us.length cb) ∧ w'.cell? ⟨ad.block, ad.off + 1, none⟩ = some (.int .i64 (rd_T35 P 0).f1)) (ds := []) ⟨a0.1, a0.2.1, a0.2.2.1, a0.2.2.2.1, a0.2.2.2.2.1, a0.2.2.2.2.2.1, a0.2.2.2.2.2.2.1, a4.1, a4.2.1, a4.2.2.1, (headN (O2.out.drew.qreads (i := 2) rfl).2.2 HPN.out)⟩ (fun hHeld => ?_)
 obtain ⟨w3, hw_⟩ : ∃ W, W = w2.drew := ⟨_, rfl⟩
 have o_ := O2.out.drew
 have k_ : KeepS N w2 w2.drew := KeepS.drew
 rw [← hw_] at o_ k_ hHeld ⊢
 clear hw_
 obtain ⟨O3, K3⟩ := ok_ K2 o_ k_
 have HR_3 := Aside0.mk (keepF HR_2.out k_)
 clear a0 a4 O2 K2 HR_2 o_ k_
 have a0 := k7_ O3 0
 have a4 := k3_ O3 4
 refine pP 0 (some 12) ?_
 refine pP 1 (some 13) ?_
 refine pP 2 (some 14) ?_
 refine tP 3 (some 15) hHeld ?_
 refine pP 4 (some 16) ?_
 refine pP 5 (some 17) ?_
 refine pP 6 (some 18) ?_
 refine pP 7 (some 19) ?_
 refine pP 8 (some 20) ?_
 refine pP 9 (some 21) ?_
 refine pP 14 (some 26) ?_
 refine tP 10 (some 22) hHeld ?_
 refine pP 11 (some 23) ?_
 refine pP 12 (some 24) ?_
 refine tP 13 (some 25) hHeld ?_
 refine tP 15 (some 27) hHeld ?_
 refine pP 16 (some 28) ?_
 refine pP 17 (some 29) ?_
 refine done_ (by kernel_rfl) ?_
 clear hHeld
 go_wp2
 go_ret
 exact ⟨rfl, (CliO.shut (O3.out.pickL [0, 3, 2, 1] (by decide) (by simp))).take 1, K3.out⟩
theorem CTake_own {N : Nat → Prop} {w : World} {g : Nat} {jp : Value} {o mtu push : Int} {K P : List Rnd7} {U : List Upd7} (r0 r1 : Int) (B : Option Addr) (cb : Nat) (us : List Upd7) (h : Own N w [CliO g jp o mtu push K P U]) (hr : Kd.F k32 w N B us.length us) (hc : us.length ≤ cb) (hu : us.length ≤ 1000000) (hL : K.length ≤ 1000000) (ho : r0 = o) (hp : P.length ≠ 0) (hn : (rd_T35 P 0).f1 = r1) :
  Calls Tryd.prog 32 #[.pointer (some ⟨g, 0, none⟩), .agg #[.int .i64 r0, .int .i64 r1, .slice B us.length cb]] w fun e_ w' => e_ = .returned (.int .i64 0) ∧ Own N w' [CliO g jp o mtu push (K ++ [(⟨r0, r1, us⟩ : Rnd7)]) (P.drop 1) U] ∧ KeepS N w w' := by
 have d1 : (r0 == o) = true := beq_iff_eq.mpr ho
 have d2 : ((P.length : Int) == 0) = false := beq_eq_false_iff_ne.mpr (by omega)
 have d3 : ((rd_T35 P 0).f1 != r1) = false := by simp [hn]
 have HR_0 : Aside0 (Kd.F k32 w N B us.length us) := ⟨hr⟩
 have HC := Aside0.mk hc
 have HU := Aside0.mk hu
 have HL := Aside0.mk hL
 obtain ⟨A4, c4, A5, c5, A6, c6, hcap, h2⟩ := CliO.open_ h
 have HCAP := Aside0.mk hcap
 have hq_ := (h2.qreads (i := 2) rfl).2.2
 obtain ⟨ad, Ah, ch, e5, y0, y1, y2⟩ := at_T35 hq_ 0 (by decide) (by omega)
 cases e5
 clear hq_ y0 y1 y2
 have hq1 : ((0 : Int) < (P.length : Int)) = True := eq_true (by omega)
 have hq2 : (0 < P.length) = True := eq_true (by omega)
 have O0 : Aside0 (Own N w [cells g #[jp, .int .i64 o, .int .i64 mtu, .int .i64 push, .slice A4 K.length c4, .slice (some ad) P.length c5, .slice A6 U.length c6] 111, nrow k32 32 (.slice A6 U.length c6) U, qrow k35 35 (.slice (some ad) P.length c5) P, qrow k35 35 (.slice A4 K.length c4) K]) := ⟨h2⟩
 have K0 : Aside0 (KeepS N w w) := ⟨KeepS.refl _ _⟩
 have a0 := k7_ O0 0
 clear h2 h hr hc hu hL hcap ho
 have HPN := Aside0.mk hp
 clear hp hn
 go_enter Tryd.func32, Tryd.ntmps32
 go_wp2_with (first | ((with_reducible refine gD 3 rfl ?_); refine bP 3 #[.int .i64 r0, .int .i64 r1, .slice B us.length cb] 35 O0.out ?_; intro gr w1 o_ k_; obtain ⟨O1, K1⟩ := ok_ K0 o_ k_; have HR_1 := Aside0.mk (keepF HR_0.out k_); clear a0 O0 K0 HR_0 o_ k_; have a0 := k7_ O1 0; have a4 := k3_ O1 4))
 refine sP (n := 7) (S := d7_ g (jp) (.int .i64 o) (.int .i64 mtu) (.int .i64 push) (.slice A4 K.length c4) (.slice (some ad) P.length c5) (.slice A6 U.length c6) (c3_ gr (.int .i64 r0) (.int .i64 r1) (.slice B us.length cb))) (ds := []) (j7_ a0 (p3_ a4)) (fun hHeld => ?_)
 obtain ⟨w2, hw_⟩ : ∃ W, W = w1.drew := ⟨_, rfl⟩
 have o_ := O1.out.drew
 have k_ : KeepS N w1 w1.drew := KeepS.drew
 rw [← hw_] at o_ k_ hHeld ⊢
 clear hw_
 obtain ⟨O2, K2⟩ := ok_ K1 o_ k_
 have HR_2 := Aside0.mk (keepF HR_1.out k_)
 clear a0 a4 O1 K1 HR_1 o_ k_
 have a0 := k7_ O2 0
 have a4 := k3_ O2 4
 refine pP 0 (some 5) ?_
 refine pP 2 (some 7) ?_
 refine pP 3 (some 8) ?_
 refine pP 4 (some 9) ?_
 refine tP 1 (some 6) hHeld ?_
 refine tP 5 (some 10) hHeld ?_
 refine pP 6 (some 11) ?_
 refine done_ (by kernel_rfl) ?_
 clear hHeld
 go_wp2
 refine sP (n := 18) (S := fun w' => w'.cell? ⟨g, 0, none⟩ = some (jp) ∧ w'.cell? ⟨g, 1, none⟩ = some (.int .i64 o) ∧ w'.cell? ⟨g, 2, none⟩ = some (.int .i64 mtu) ∧ w'.cell? ⟨g, 3, none⟩ = some (.int .i64 push) ∧ w'.cell? ⟨g, 4, none⟩ = some (.slice A4 K.length c4) ∧ w'.cell? ⟨g, 5, none⟩ = some (.slice (some ad) P.length c5) ∧ w'.cell? ⟨g, 6, none⟩ = some (.slice A6 U.length c6) ∧ w'.cell? ⟨gr, 0, none⟩ = some (.int .i64 r0) ∧ w'.cell? ⟨gr, 1, none⟩ = some (.int .i64 r1) ∧ w'.cell? ⟨gr, 2, none⟩ = some (.slice B us.length cb) ∧ w'.cell? ⟨ad.block, ad.off + 1, none⟩ = some (.int .i64 (rd_T35 P 0).f1)) (ds := []) ⟨a0.1, a0.2.1, a0.2.2.1, a0.2.2.2.1, a0.2.2.2.2.1, a0.2.2.2.2.2.1, a0.2.2.2.2.2.2.1, a4.1, a4.2.1, a4.2.2.1, (headN (O2.out.drew.qreads (i := 2) rfl).2.2 HPN.out)⟩ (fun hHeld => ?_)
 obtain ⟨w3, hw_⟩ : ∃ W, W = w2.drew := ⟨_, rfl⟩
 have o_ := O2.out.drew
 have k_ : KeepS N w2 w2.drew := KeepS.drew
 rw [← hw_] at o_ k_ hHeld ⊢
 clear hw_
 obtain ⟨O3, K3⟩ := ok_ K2 o_ k_
 have HR_3 := Aside0.mk (keepF HR_2.out k_)
 clear a0 a4 O2 K2 HR_2 o_ k_
 have a0 := k7_ O3 0
 have a4 := k3_ O3 4
 refine pP 0 (some 12) ?_
 refine pP 1 (some 13) ?_
 refine pP 2 (some 14) ?_
 refine tP 3 (some 15) hHeld ?_
 refine pP 4 (some 16) ?_
 refine pP 5 (some 17) ?_
 refine pP 6 (some 18) ?_
 refine pP 7 (some 19) ?_
 refine pP 8 (some 20) ?_
 refine pP 9 (some 21) ?_
 refine pP 14 (some 26) ?_
 refine tP 10 (some 22) hHeld ?_
 refine pP 11 (some 23) ?_
 refine pP 12 (some 24) ?_
 refine tP 13 (some 25) hHeld ?_
 refine tP 15 (some 27) hHeld ?_
 refine pP 16 (some 28) ?_
 refine pP 17 (some 29) ?_
 refine done_ (by kernel_rfl) ?_
 clear hHeld
 obtain ⟨A9, hA9⟩ : ∃ A9, A9 = (if c5 = 1 then (some ad : Option Addr) else (some ad : Option Addr).map (·.add (1 * 3))) := ⟨_, rfl⟩
 have HCUT : ∀ W_ : World, (Instr.slice 40 (.slice (some ad) P.length c5) (some (.int .i64 1)) none none).run Tryd.prog W_ = .ok (.slice A9 (P.length - 1) (c5 - 1)) W_ := by rw [hA9]; exact cut1 _ _ _ (by have := HPN.out; omega)
 have o9_ := O3.out.qdrop (i := 2) rfl 1 (by have := HPN.out; omega)
 rw [show k35.sz = 3 from rfl, ← hA9] at o9_
 have O4 : Aside0 (Own N w3 [cells g #[jp, .int .i64 o, .int .i64 mtu, .int .i64 push, .slice A4 K.length c4, .slice (some ad) P.length c5, .slice A6 U.length c6] 111, nrow k32 32 (.slice A6 U.length c6) U, qrow k35 35 (.slice A9 (P.length - 1) (c5 - 1)) (P.drop 1), qrow k35 35 (.slice A4 K.length c4) K, cells gr #[.int .i64 r0, .int .i64 r1, .slice B us.length cb] 35]) := ⟨o9_⟩
 clear o9_ hA9 O3
 go_wp2_with (first | ((with_reducible refine gT 40 37 rfl ?_); refine wS 0 5 [.slice A9 (P.length - 1) (c5 - 1)] O4 ?_; intro w5 o_ k_; obtain ⟨O5, K5⟩ := ok_ K3 o_ k_; have HR_5 := Aside0.mk (keepF HR_3.out k_); clear a0 a4 O4 K3 HR_3 o_ k_; have a0 := k7_ O5 0; have a4 := k3_ O5 4))
 refine sP (n := 12) (S := d7_ g (jp) (.int .i64 o) (.int .i64 mtu) (.int .i64 push) (.slice A4 K.length c4) (.slice A9 (P.length - 1) (c5 - 1)) (.slice A6 U.length c6) (c3_ gr (.int .i64 r0) (.int .i64 r1) (.slice B us.length cb))) (ds := [8, 11]) (j7_ a0 (p3_ a4)) (fun hHeld => ?_)
 obtain ⟨w6, hw_⟩ : ∃ W, W = w5.drew := ⟨_, rfl⟩
 have o_ := O5.out.drew
 have k_ : KeepS N w5 w5.drew := KeepS.drew
 rw [← hw_] at o_ k_ hHeld ⊢
 clear hw_
 obtain ⟨O6, K6⟩ := ok_ K5 o_ k_
 have HR_6 := Aside0.mk (keepF HR_5.out k_)
 clear a0 a4 O5 K5 HR_5 o_ k_
 have a0 := k7_ O6 0
 have a4 := k3_ O6 4
 refine pP 0 (some 38) ?_
 refine pP 1 (some 39) ?_
 refine pP 2 (some 40) ?_
 refine pP 3 (some 41) ?_
 refine tP 4 (some 42) hHeld ?_
 refine tP 5 (some 43) hHeld ?_
 refine oP 6 (some 44) (fun K_ hK_ => ?_)
 refine hP Tryd.func72 #[.agg #[.int .i64 r0, .int .i64 r1, .slice B us.length cb]] ?_
 refine (round_Copy.calls r0 r1 _ _ us r0 r1 us _ (Kd.F_now HR_6.out) HC.out (copyC _ _ _ HU.out)).mono ?_
 rintro e_ w7 ⟨v_, rfl, hR_, hb_⟩
 obtain ⟨A1, c1, e__⟩ := Kd.R_slice hR_
 subst e__
 refine ⟨_, rfl, ?_⟩
 have o_ := O6.out.pushW hb_ (Nat.le_refl _) hR_
 have k_ := KeepS.of_below (N := N) hb_
 have o2_ := rowElem (⟨r0, r1, us⟩ : Rnd7) (i := 5) o_ rfl
 obtain ⟨O7, K7⟩ := ok_ K6 o2_ k_
 have HR_7 := Aside0.mk (keepF HR_6.out k_)
 clear a0 a4 O6 K6 HR_6 o_ k_ hb_ hR_ o2_
 have a0 := k7_ O7 0
 have a4 := k3_ O7 4
 clear hHeld
 refine hK_.out _ _ (j7_ a0 (p3_ a4)) (fun hHeld => ?_)
 clear hK_ K_
 refine nP ?_
 refine oP 7 (some 45) (fun K_ hK_ => ?_)
 refine value_ rfl rfl (w1 := (World.alloc w7 (.cells [.int .i64 ((⟨r0, r1, us⟩ : Rnd7)).f0, .int .i64 ((⟨r0, r1, us⟩ : Rnd7)).f1, .slice A1 us.length c1].toArray 35))) (v := .slice (some ⟨w7.heap.size, 0, none⟩) 1 1) gs_ ?_
 clear hHeld
 refine hK_.out _ _ ⟨(pw_cell_below ((Below.refl _ _).alloc (Nat.le_refl _) _) a0.1), (pw_cell_below ((Below.refl _ _).alloc (Nat.le_refl _) _) a0.2.1), (pw_cell_below ((Below.refl _ _).alloc (Nat.le_refl _) _) a0.2.2.1), (pw_cell_below ((Below.refl _ _).alloc (Nat.le_refl _) _) a0.2.2.2.1), (pw_cell_below ((Below.refl _ _).alloc (Nat.le_refl _) _) a0.2.2.2.2.1), (pw_cell_below ((Below.refl _ _).alloc (Nat.le_refl _) _) a0.2.2.2.2.2.1), (pw_cell_below ((Below.refl _ _).alloc (Nat.le_refl _) _) a0.2.2.2.2.2.2.1), (pw_cell_below ((Below.refl _ _).alloc (Nat.le_refl _) _) a4.1), (pw_cell_below ((Below.refl _ _).alloc (Nat.le_refl _) _) a4.2.1), (pw_cell_below ((Below.refl _ _).alloc (Nat.le_refl _) _) a4.2.2.1)⟩ (fun hHeld => ?_)
 clear hK_ K_
 refine nP ?_
 refine lP 8 (some 46) (fun K_ hK_ => ?_)
 refine appendQ_step k35 O7.out (i := 3) (j := 5) rfl rfl (by decide) rfl rfl (.tmp 42) (.tmp 45) 40 (.agg #[.int .i64 0, .int .i64 0, .slice none 0 0]) 40 rfl Tryd.underlying40 infoR rfl (by decide) (by decide) rfl rfl (by have := HL.out; omega) ?_
 intro A2 c2 w8 o_ k_
 obtain ⟨O8, K8⟩ := ok_ K7 o_ k_
 have HR_8 := Aside0.mk (keepF HR_7.out k_)
 clear a0 a4 O7 K7 HR_7 o_ k_
 have a0 := k7_ O8 0
 have a4 := k3_ O8 4
 refine hK_.out _ _ ?_
 clear hK_ K_
 refine nP ?_
 refine pP 9 (some 47) ?_
 refine pP 10 (some 48) ?_
 refine lP 11 none (fun K_ hK_ => ?_)
 refine xS 0 4 [.slice A2 (K.length + 1) c2] O8 ?_
 intro w9 o_ k_
 obtain ⟨O9, K9⟩ := ok_ K8 o_ k_
 have HR_9 := Aside0.mk (keepF HR_8.out k_)
 clear a0 a4 O8 K8 HR_8 o_ k_
 have a0 := k7_ O9 0
 have a4 := k3_ O9 4
 refine hK_.out _ _ ?_
 clear hK_ K_
 refine done_ (by kernel_rfl) ?_
 clear hHeld
 go_wp2
 go_ret
 exact ⟨rfl, (CliO.shut (O9.out.pickL [0, 3, 2, 1] (by decide) (by simp))).take 1, K9.out⟩
theorem CTake_other {N : Nat → Prop} {w : World} {g : Nat} {jp : Value} {o mtu push : Int} {K P : List Rnd7} {U : List Upd7} (r0 r1 : Int) (B : Option Addr) (cb : Nat) (us : List Upd7) (h : Own N w [CliO g jp o mtu push K P U]) (hr : Kd.F k32 w N B us.length us) (hc : us.length ≤ cb) (hu : us.length ≤ 1000000) (hL : K.length ≤ 1000000) (ho : r0 ≠ o) :
  Calls Tryd.prog 32 #[.pointer (some ⟨g, 0, none⟩), .agg #[.int .i64 r0, .int .i64 r1, .slice B us.length cb]] w fun e_ w' => e_ = .returned (.int .i64 0) ∧ Own N w' [CliO g jp o mtu push (K ++ [(⟨r0, r1, us⟩ : Rnd7)]) P U] ∧ KeepS N w w' := by
 have d1 : (r0 == o) = false := beq_eq_false_iff_ne.mpr ho
 have HR_0 : Aside0 (Kd.F k32 w N B us.length us) := ⟨hr⟩
 have HC := Aside0.mk hc
 have HU := Aside0.mk hu
 have HL := Aside0.mk hL
 obtain ⟨A4, c4, A5, c5, A6, c6, hcap, h2⟩ := CliO.open_ h
 have HCAP := Aside0.mk hcap
 have O0 : Aside0 (Own N w [cells g #[jp, .int .i64 o, .int .i64 mtu, .int .i64 push, .slice A4 K.length c4, .slice A5 P.length c5, .slice A6 U.length c6] 111, nrow k32 32 (.slice A6 U.length c6) U, qrow k35 35 (.slice A5 P.length c5) P, qrow k35 35 (.slice A4 K.length c4) K]) := ⟨h2⟩
 have K0 : Aside0 (KeepS N w w) := ⟨KeepS.refl _ _⟩
 have a0 := k7_ O0 0
 clear h2 h hr hc hu hL hcap ho
 go_enter Tryd.func32, Tryd.ntmps32
 go_wp2_with (first | ((with_reducible refine gD 3 rfl ?_); refine bP 3 #[.int .i64 r0, .int .i64 r1, .slice B us.length cb] 35 O0.out ?_; intro gr w1 o_ k_; obtain ⟨O1, K1⟩ := ok_ K0 o_ k_; have HR_1 := Aside0.mk (keepF HR_0.out k_); clear a0 O0 K0 HR_0 o_ k_; have a0 := k7_ O1 0; have a4 := k3_ O1 4))
 refine sP (n := 7) (S := d7_ g (jp) (.int .i64 o) (.int .i64 mtu) (.int .i64 push) (.slice A4 K.length c4) (.slice A5 P.length c5) (.slice A6 U.length c6) (c3_ gr (.int .i64 r0) (.int .i64 r1) (.slice B us.length cb))) (ds := []) (j7_ a0 (p3_ a4)) (fun hHeld => ?_)
 obtain ⟨w2, hw_⟩ : ∃ W, W = w1.drew := ⟨_, rfl⟩
 have o_ := O1.out.drew
 have k_ : KeepS N w1 w1.drew := KeepS.drew
 rw [← hw_] at o_ k_ hHeld ⊢
 clear hw_
 obtain ⟨O2, K2⟩ := ok_ K1 o_ k_
 have HR_2 := Aside0.mk (keepF HR_1.out k_)
 clear a0 a4 O1 K1 HR_1 o_ k_
 have a0 := k7_ O2 0
 have a4 := k3_ O2 4
 refine pP 0 (some 5) ?_
 refine pP 2 (some 7) ?_
 refine pP 3 (some 8) ?_
 refine pP 4 (some 9) ?_
 refine tP 1 (some 6) hHeld ?_
 refine tP 5 (some 10) hHeld ?_
 refine pP 6 (some 11) ?_
 refine done_ (by kernel_rfl) ?_
 clear hHeld
 go_wp2
 refine sP (n := 12) (S := d7_ g (jp) (.int .i64 o) (.int .i64 mtu) (.int .i64 push) (.slice A4 K.length c4) (.slice A5 P.length c5) (.slice A6 U.length c6) (c3_ gr (.int .i64 r0) (.int .i64 r1) (.slice B us.length cb))) (ds := [8, 11]) (j7_ a0 (p3_ a4)) (fun hHeld => ?_)
 obtain ⟨w3, hw_⟩ : ∃ W, W = w2.drew := ⟨_, rfl⟩
 have o_ := O2.out.drew
 have k_ : KeepS N w2 w2.drew := KeepS.drew
 rw [← hw_] at o_ k_ hHeld ⊢
 clear hw_
 obtain ⟨O3, K3⟩ := ok_ K2 o_ k_
 have HR_3 := Aside0.mk (keepF HR_2.out k_)
 clear a0 a4 O2 K2 HR_2 o_ k_
 have a0 := k7_ O3 0
 have a4 := k3_ O3 4
 refine pP 0 (some 38) ?_
 refine pP 1 (some 39) ?_
 refine pP 2 (some 40) ?_
 refine pP 3 (some 41) ?_
 refine tP 4 (some 42) hHeld ?_
 refine tP 5 (some 43) hHeld ?_
 refine oP 6 (some 44) (fun K_ hK_ => ?_)
 refine hP Tryd.func72 #[.agg #[.int .i64 r0, .int .i64 r1, .slice B us.length cb]] ?_
 refine (round_Copy.calls r0 r1 _ _ us r0 r1 us _ (Kd.F_now HR_3.out) HC.out (copyC _ _ _ HU.out)).mono ?_
 rintro e_ w4 ⟨v_, rfl, hR_, hb_⟩
 obtain ⟨A1, c1, e__⟩ := Kd.R_slice hR_
 subst e__
 refine ⟨_, rfl, ?_⟩
 have o_ := O3.out.pushW hb_ (Nat.le_refl _) hR_
 have k_ := KeepS.of_below (N := N) hb_
 have o2_ := rowElem (⟨r0, r1, us⟩ : Rnd7) (i := 5) o_ rfl
 obtain ⟨O4, K4⟩ := ok_ K3 o2_ k_
 have HR_4 := Aside0.mk (keepF HR_3.out k_)
 clear a0 a4 O3 K3 HR_3 o_ k_ hb_ hR_ o2_
 have a0 := k7_ O4 0
 have a4 := k3_ O4 4
 clear hHeld
 refine hK_.out _ _ (j7_ a0 (p3_ a4)) (fun hHeld => ?_)
 clear hK_ K_
 refine nP ?_
 refine oP 7 (some 45) (fun K_ hK_ => ?_)
 refine value_ rfl rfl (w1 := (World.alloc w4 (.cells [.int .i64 ((⟨r0, r1, us⟩ : Rnd7)).f0, .int .i64 ((⟨r0, r1, us⟩ : Rnd7)).f1, .slice A1 us.length c1].toArray 35))) (v := .slice (some ⟨w4.heap.size, 0, none⟩) 1 1) gs_ ?_
 clear hHeld
 refine hK_.out _ _ ⟨(pw_cell_below ((Below.refl _ _).alloc (Nat.le_refl _) _) a0.1), (pw_cell_below ((Below.refl _ _).alloc (Nat.le_refl _) _) a0.2.1), (pw_cell_below ((Below.refl _ _).alloc (Nat.le_refl _) _) a0.2.2.1), (pw_cell_below ((Below.refl _ _).alloc (Nat.le_refl _) _) a0.2.2.2.1), (pw_cell_below ((Below.refl _ _).alloc (Nat.le_refl _) _) a0.2.2.2.2.1), (pw_cell_below ((Below.refl _ _).alloc (Nat.le_refl _) _) a0.2.2.2.2.2.1), (pw_cell_below ((Below.refl _ _).alloc (Nat.le_refl _) _) a0.2.2.2.2.2.2.1), (pw_cell_below ((Below.refl _ _).alloc (Nat.le_refl _) _) a4.1), (pw_cell_below ((Below.refl _ _).alloc (Nat.le_refl _) _) a4.2.1), (pw_cell_below ((Below.refl _ _).alloc (Nat.le_refl _) _) a4.2.2.1)⟩ (fun hHeld => ?_)
 clear hK_ K_
 refine nP ?_
 refine lP 8 (some 46) (fun K_ hK_ => ?_)
 refine appendQ_step k35 O4.out (i := 3) (j := 5) rfl rfl (by decide) rfl rfl (.tmp 42) (.tmp 45) 40 (.agg #[.int .i64 0, .int .i64 0, .slice none 0 0]) 40 rfl Tryd.underlying40 infoR rfl (by decide) (by decide) rfl rfl (by have := HL.out; omega) ?_
 intro A2 c2 w5 o_ k_
 obtain ⟨O5, K5⟩ := ok_ K4 o_ k_
 have HR_5 := Aside0.mk (keepF HR_4.out k_)
 clear a0 a4 O4 K4 HR_4 o_ k_
 have a0 := k7_ O5 0
 have a4 := k3_ O5 4
 refine hK_.out _ _ ?_
 clear hK_ K_
 refine nP ?_
 refine pP 9 (some 47) ?_
 refine pP 10 (some 48) ?_
 refine lP 11 none (fun K_ hK_ => ?_)
 refine xS 0 4 [.slice A2 (K.length + 1) c2] O5 ?_
 intro w6 o_ k_
 obtain ⟨O6, K6⟩ := ok_ K5 o_ k_
 have HR_6 := Aside0.mk (keepF HR_5.out k_)
 clear a0 a4 O5 K5 HR_5 o_ k_
 have a0 := k7_ O6 0
 have a4 := k3_ O6 4
 refine hK_.out _ _ ?_
 clear hK_ K_
 refine done_ (by kernel_rfl) ?_
 clear hHeld
 go_wp2
 go_ret
 exact ⟨rfl, (CliO.shut (O6.out.pickL [0, 3, 2, 1] (by decide) (by simp))).take 1, K6.out⟩
theorem raw_at {w : World} {A : Option Addr} {n : Nat} {rows : List (List Value)} {p0 p1 : Int} {pv : Value} (h : Kd.C (Kd.raw 3) w A n rows) (hh : rows[0]? = some (rw3 p0 p1 pv)) : ∃ ad, A = some ad ∧ w.cell? ⟨ad.block, ad.off + 1, none⟩ = some (.int .i64 p1) := by
 have hl : 0 < rows.length := (List.getElem?_eq_some_iff.1 hh).1
 have hn : n = rows.length := h.1.symm
 obtain ⟨ad, c, e, hcl, hk, hc⟩ := ReadsRow.get_ h ([] : List Value) 0 (by omega) (by omega)
 have e0 : rows.getD ((0 : Int).toNat) ([] : List Value) = rw3 p0 p1 pv := by
  show rows.getD 0 [] = _
  rw [List.getD_eq_getElem?_getD, hh]
  rfl
 rw [e0] at hk
 have hc1 : c = rw3 p0 p1 pv := hk.1
 subst hc1
 refine ⟨ad, e, ?_⟩
 have q := hc 1 (.int .i64 p1) rfl
 rw [add_field _ _ 1 (by omega)] at q
 have e1 : ad.add ((0 : Int).toNat * 3) = ad := by
  show ad.add 0 = ad
  simp [Addr.add]
 have e2 : (Kd.raw 3).sz = 3 := rfl
 rw [e2, e1] at q
 exact q
theorem head1 {w : World} {ad : Addr} {n : Nat} {rows : List (List Value)} {p0 p1 : Int} {pv : Value} (h : Kd.C (Kd.raw 3) w (some ad) n rows) (hh : rows[0]? = some (rw3 p0 p1 pv)) : w.cell? ⟨ad.block, ad.off + 1, none⟩ = some (.int .i64 p1) := by
 obtain ⟨ad', e, q⟩ := raw_at h hh
 cases e
 exact q
theorem cutR {w : World} {A : Option Addr} {n c : Nat} {rows : List (List Value)} (h : Kd.C (Kd.raw 3) w A n rows) (h1 : 1 ≤ rows.length) (hc : n ≤ c) : Kd.C (Kd.raw 3) w (if c = 1 then A else A.map (·.add (1 * 3))) (n - 1) (rows.drop 1) := by
 have e : n = rows.length := h.1.symm
 subst e
 have q := Kd.C_drop (m := 1) h h1 hc
 rw [List.length_drop] at q
 exact q
def dE (jo jm : Int) (n : Nat) (ups : List Upd7) : Int := if (n : Int) ≥ jm then 8 else mayR jo ((n : Int) + 1) ups
theorem DTake_none {N : Nat → Prop} {w : World} {g : Nat} {jp vo : Value} {o mtu push : Int} {A4 A5 : Option Addr} {c4 c5 : Nat} {rK rP : List (List Value)} (r0 r1 : Int) (B : Option Addr) (nb cb : Nat) (h : Own N w [cells g #[jp, .int .i64 o, .int .i64 mtu, .int .i64 push, .slice A4 rK.length c4, .slice A5 rP.length c5, vo] 44, nrow (Kd.raw 3) 35 (.slice A4 rK.length c4) rK, nrow (Kd.raw 3) 35 (.slice A5 rP.length c5) rP]) (hL : rK.length + rP.length ≤ 1000000) (ho : r0 = o) (hp : rP.length = 0) :
  Calls Tryd.prog 60 #[.pointer (some ⟨g, 0, none⟩), .agg #[.int .i64 r0, .int .i64 r1, .slice B nb cb]] w fun e_ w' => e_ = .returned (.int .i64 10) ∧ Own N w' [cells g #[jp, .int .i64 o, .int .i64 mtu, .int .i64 push, .slice A4 rK.length c4, .slice A5 rP.length c5, vo] 44, nrow (Kd.raw 3) 35 (.slice A4 rK.length c4) rK, nrow (Kd.raw 3) 35 (.slice A5 rP.length c5) rP] ∧ KeepS N w w' := by
 have d1 : (r0 == o) = true := beq_iff_eq.mpr ho
 have d2 : ((rP.length : Int) == 0) = true := by simp [hp]
 have HL := Aside0.mk hL
 have O0 : Aside0 (Own N w [cells g #[jp, .int .i64 o, .int .i64 mtu, .int .i64 push, .slice A4 rK.length c4, .slice A5 rP.length c5, vo] 44, nrow (Kd.raw 3) 35 (.slice A4 rK.length c4) rK, nrow (Kd.raw 3) 35 (.slice A5 rP.length c5) rP]) := ⟨h⟩
 have K0 : Aside0 (KeepS N w w) := ⟨KeepS.refl _ _⟩
 have a0 := k7_ O0 0
 clear h hL hp ho
 go_enter Tryd.func60, Tryd.ntmps60
 go_wp2_with (first | ((with_reducible refine gD 3 rfl ?_); refine bP 3 #[.int .i64 r0, .int .i64 r1, .slice B nb cb] 35 O0.out ?_; intro gr w1 o_ k_; obtain ⟨O1, K1⟩ := ok_ K0 o_ k_; clear a0 O0 K0 o_ k_; have a0 := k7_ O1 0; have a3 := k3_ O1 3))
 refine sP (n := 7) (S := d7_ g (jp) (.int .i64 o) (.int .i64 mtu) (.int .i64 push) (.slice A4 rK.length c4) (.slice A5 rP.length c5) (vo) (c3_ gr (.int .i64 r0) (.int .i64 r1) (.slice B nb cb))) (ds := []) (j7_ a0 (p3_ a3)) (fun hHeld => ?_)
 obtain ⟨w2, hw_⟩ : ∃ W, W = w1.drew := ⟨_, rfl⟩
 have o_ := O1.out.drew
 have k_ : KeepS N w1 w1.drew := KeepS.drew
 rw [← hw_] at o_ k_ hHeld ⊢
 clear hw_
 obtain ⟨O2, K2⟩ := ok_ K1 o_ k_
 clear a0 a3 O1 K1 o_ k_
 have a0 := k7_ O2 0
 have a3 := k3_ O2 3
 refine pP 0 (some 5) ?_
 refine pP 2 (some 7) ?_
 refine pP 3 (some 8) ?_
 refine pP 4 (some 9) ?_
 refine tP 1 (some 6) hHeld ?_
 refine tP 5 (some 10) hHeld ?_
 refine pP 6 (some 11) ?_
 refine done_ (by kernel_rfl) ?_
 clear hHeld
 go_wp2
 refine sP (n := 18) (S := d7_ g (jp) (.int .i64 o) (.int .i64 mtu) (.int .i64 push) (.slice A4 rK.length c4) (.slice A5 rP.length c5) (vo) (c3_ gr (.int .i64 r0) (.int .i64 r1) (.slice B nb cb))) (ds := []) (j7_ a0 (p3_ a3)) (fun hHeld => ?_)
 obtain ⟨w3, hw_⟩ : ∃ W, W = w2.drew := ⟨_, rfl⟩
 have o_ := O2.out.drew
 have k_ : KeepS N w2 w2.drew := KeepS.drew
 rw [← hw_] at o_ k_ hHeld ⊢
 clear hw_
 obtain ⟨O3, K3⟩ := ok_ K2 o_ k_
 clear a0 a3 O2 K2 o_ k_
 have a0 := k7_ O3 0
 have a3 := k3_ O3 3
 refine pP 0 (some 12) ?_
 refine pP 1 (some 13) ?_
 refine pP 2 (some 14) ?_
 refine tP 3 (some 15) hHeld ?_
 refine pP 4 (some 16) ?_
 refine pP 5 (some 17) ?_
 refine pP 6 (some 18) ?_
 refine pS 7 (some 19) ?_
 refine pS 8 (some 20) ?_
 refine pS 9 (some 21) ?_
 refine pS 14 (some 26) ?_
 refine tS 10 (some 22) hHeld ?_
 refine pS 11 (some 23) ?_
 refine pS 12 (some 24) ?_
 refine tS 13 (some 25) hHeld ?_
 refine tS 15 (some 27) hHeld ?_
 refine pS 16 (some 28) ?_
 refine pP 17 (some 29) ?_
 refine done_ (by kernel_rfl) ?_
 clear hHeld
 go_wp2
 go_ret
 exact ⟨rfl, O3.out.take 3, K3.out⟩
theorem DTake_wrong {N : Nat → Prop} {w : World} {g : Nat} {jp vo : Value} {o mtu push : Int} {A4 A5 : Option Addr} {c4 c5 : Nat} {rK rP : List (List Value)} (r0 r1 : Int) (B : Option Addr) (nb cb : Nat) (h : Own N w [cells g #[jp, .int .i64 o, .int .i64 mtu, .int .i64 push, .slice A4 rK.length c4, .slice A5 rP.length c5, vo] 44, nrow (Kd.raw 3) 35 (.slice A4 rK.length c4) rK, nrow (Kd.raw 3) 35 (.slice A5 rP.length c5) rP]) (hL : rK.length + rP.length ≤ 1000000) {p0 p1 : Int} {pv : Value} (ho : r0 = o) (hh : rP[0]? = some (rw3 p0 p1 pv)) (hn : p1 ≠ r1) :
  Calls Tryd.prog 60 #[.pointer (some ⟨g, 0, none⟩), .agg #[.int .i64 r0, .int .i64 r1, .slice B nb cb]] w fun e_ w' => e_ = .returned (.int .i64 10) ∧ Own N w' [cells g #[jp, .int .i64 o, .int .i64 mtu, .int .i64 push, .slice A4 rK.length c4, .slice A5 rP.length c5, vo] 44, nrow (Kd.raw 3) 35 (.slice A4 rK.length c4) rK, nrow (Kd.raw 3) 35 (.slice A5 rP.length c5) rP] ∧ KeepS N w w' := by
 have d1 : (r0 == o) = true := beq_iff_eq.mpr ho
 have hp := (List.getElem?_eq_some_iff.1 hh).1
 have HPL := Aside0.mk hp
 have HH := Aside0.mk hh
 have d2 : ((rP.length : Int) == 0) = false := beq_eq_false_iff_ne.mpr (by omega)
 have d3 : (p1 != r1) = true := bne_iff_ne.mpr hn
 have HL := Aside0.mk hL
 obtain ⟨ad, eA, _⟩ := raw_at (h.nreads (i := 2) rfl).2.2 hh
 cases eA
 have hq1 : ((0 : Int) < (rP.length : Int)) = True := eq_true (by omega)
 have hq2 : (0 < rP.length) = True := eq_true (by omega)
 have O0 : Aside0 (Own N w [cells g #[jp, .int .i64 o, .int .i64 mtu, .int .i64 push, .slice A4 rK.length c4, .slice (some ad) rP.length c5, vo] 44, nrow (Kd.raw 3) 35 (.slice A4 rK.length c4) rK, nrow (Kd.raw 3) 35 (.slice (some ad) rP.length c5) rP]) := ⟨h⟩
 have K0 : Aside0 (KeepS N w w) := ⟨KeepS.refl _ _⟩
 have a0 := k7_ O0 0
 clear h hL hp hh hn ho
 go_enter Tryd.func60, Tryd.ntmps60
 go_wp2_with (first | ((with_reducible refine gD 3 rfl ?_); refine bP 3 #[.int .i64 r0, .int .i64 r1, .slice B nb cb] 35 O0.out ?_; intro gr w1 o_ k_; obtain ⟨O1, K1⟩ := ok_ K0 o_ k_; clear a0 O0 K0 o_ k_; have a0 := k7_ O1 0; have a3 := k3_ O1 3))
 refine sP (n := 7) (S := d7_ g (jp) (.int .i64 o) (.int .i64 mtu) (.int .i64 push) (.slice A4 rK.length c4) (.slice (some ad) rP.length c5) (vo) (c3_ gr (.int .i64 r0) (.int .i64 r1) (.slice B nb cb))) (ds := []) (j7_ a0 (p3_ a3)) (fun hHeld => ?_)
 obtain ⟨w2, hw_⟩ : ∃ W, W = w1.drew := ⟨_, rfl⟩
 have o_ := O1.out.drew
 have k_ : KeepS N w1 w1.drew := KeepS.drew
 rw [← hw_] at o_ k_ hHeld ⊢
 clear hw_
 obtain ⟨O2, K2⟩ := ok_ K1 o_ k_
 clear a0 a3 O1 K1 o_ k_
 have a0 := k7_ O2 0
 have a3 := k3_ O2 3
 refine pP 0 (some 5) ?_
 refine pP 2 (some 7) ?_
 refine pP 3 (some 8) ?_
 refine pP 4 (some 9) ?_
 refine tP 1 (some 6) hHeld ?_
 refine tP 5 (some 10) hHeld ?_
 refine pP 6 (some 11) ?_
 refine done_ (by kernel_rfl) ?_
 clear hHeld
 go_wp2
 refine sP (n := 18) (S := fun w' => w'.cell? ⟨g, 0, none⟩ = some (jp) ∧ w'.cell? ⟨g, 1, none⟩ = some (.int .i64 o) ∧ w'.cell? ⟨g, 2, none⟩ = some (.int .i64 mtu) ∧ w'.cell? ⟨g, 3, none⟩ = some (.int .i64 push) ∧ w'.cell? ⟨g, 4, none⟩ = some (.slice A4 rK.length c4) ∧ w'.cell? ⟨g, 5, none⟩ = some (.slice (some ad) rP.length c5) ∧ w'.cell? ⟨g, 6, none⟩ = some (vo) ∧ w'.cell? ⟨gr, 0, none⟩ = some (.int .i64 r0) ∧ w'.cell? ⟨gr, 1, none⟩ = some (.int .i64 r1) ∧ w'.cell? ⟨gr, 2, none⟩ = some (.slice B nb cb) ∧ w'.cell? ⟨ad.block, ad.off + 1, none⟩ = some (.int .i64 p1)) (ds := []) ⟨a0.1, a0.2.1, a0.2.2.1, a0.2.2.2.1, a0.2.2.2.2.1, a0.2.2.2.2.2.1, a0.2.2.2.2.2.2.1, a3.1, a3.2.1, a3.2.2.1, (head1 (O2.out.drew.nreads (i := 2) rfl).2.2 HH.out)⟩ (fun hHeld => ?_)
 obtain ⟨w3, hw_⟩ : ∃ W, W = w2.drew := ⟨_, rfl⟩
 have o_ := O2.out.drew
 have k_ : KeepS N w2 w2.drew := KeepS.drew
 rw [← hw_] at o_ k_ hHeld ⊢
 clear hw_
 obtain ⟨O3, K3⟩ := ok_ K2 o_ k_
 clear a0 a3 O2 K2 o_ k_
 have a0 := k7_ O3 0
 have a3 := k3_ O3 3
 refine pP 0 (some 12) ?_
 refine pP 1 (some 13) ?_
 refine pP 2 (some 14) ?_
 refine tP 3 (some 15) hHeld ?_
 refine pP 4 (some 16) ?_
 refine pP 5 (some 17) ?_
 refine pP 6 (some 18) ?_
 refine pP 7 (some 19) ?_
 refine pP 8 (some 20) ?_
 refine pP 9 (some 21) ?_
 refine pP 14 (some 26) ?_
 refine tP 10 (some 22) hHeld ?_
 refine pP 11 (some 23) ?_
 refine pP 12 (some 24) ?_
 refine tP 13 (some 25) hHeld ?_
 refine tP 15 (some 27) hHeld ?_
 refine pP 16 (some 28) ?_
 refine pP 17 (some 29) ?_
 refine done_ (by kernel_rfl) ?_
 clear hHeld
 go_wp2
 go_ret
 exact ⟨rfl, O3.out.take 3, K3.out⟩
theorem DTake_own {N : Nat → Prop} {w : World} {g : Nat} {jp vo : Value} {o mtu push : Int} {A4 A5 : Option Addr} {c4 c5 : Nat} {rK rP : List (List Value)} (r0 r1 : Int) (B : Option Addr) (nb cb : Nat) (h : Own N w [cells g #[jp, .int .i64 o, .int .i64 mtu, .int .i64 push, .slice A4 rK.length c4, .slice A5 rP.length c5, vo] 44, nrow (Kd.raw 3) 35 (.slice A4 rK.length c4) rK, nrow (Kd.raw 3) 35 (.slice A5 rP.length c5) rP]) (hL : rK.length + rP.length ≤ 1000000) {p0 p1 : Int} {pv : Value} (ho : r0 = o) (hh : rP[0]? = some (rw3 p0 p1 pv)) (hn : p1 = r1) :
  Calls Tryd.prog 60 #[.pointer (some ⟨g, 0, none⟩), .agg #[.int .i64 r0, .int .i64 r1, .slice B nb cb]] w fun e_ w' => ∃ C4 e4 A7 c7, e_ = .returned (.int .i64 0) ∧ Own N w' [cells g #[jp, .int .i64 o, .int .i64 mtu, .int .i64 push, .slice C4 (rK ++ [rw3 r0 r1 (.slice B nb cb)]).length e4, .slice A7 (rP.drop 1).length c7, vo] 44, nrow (Kd.raw 3) 35 (.slice C4 (rK ++ [rw3 r0 r1 (.slice B nb cb)]).length e4) (rK ++ [rw3 r0 r1 (.slice B nb cb)]), nrow (Kd.raw 3) 35 (.slice A7 (rP.drop 1).length c7) (rP.drop 1)] ∧ KeepS N w w' := by
 have d1 : (r0 == o) = true := beq_iff_eq.mpr ho
 have hp := (List.getElem?_eq_some_iff.1 hh).1
 have HPL := Aside0.mk hp
 have HH := Aside0.mk hh
 have d2 : ((rP.length : Int) == 0) = false := beq_eq_false_iff_ne.mpr (by omega)
 have d3 : (p1 != r1) = false := by simp [hn]
 have HL := Aside0.mk hL
 obtain ⟨ad, eA, _⟩ := raw_at (h.nreads (i := 2) rfl).2.2 hh
 cases eA
 have hq1 : ((0 : Int) < (rP.length : Int)) = True := eq_true (by omega)
 have hq2 : (0 < rP.length) = True := eq_true (by omega)
 have O0 : Aside0 (Own N w [cells g #[jp, .int .i64 o, .int .i64 mtu, .int .i64 push, .slice A4 rK.length c4, .slice (some ad) rP.length c5, vo] 44, nrow (Kd.raw 3) 35 (.slice A4 rK.length c4) rK, nrow (Kd.raw 3) 35 (.slice (some ad) rP.length c5) rP]) := ⟨h⟩
 have K0 : Aside0 (KeepS N w w) := ⟨KeepS.refl _ _⟩
 have a0 := k7_ O0 0
 clear h hL hp hh hn ho
 go_enter Tryd.func60, Tryd.ntmps60
 go_wp2_with (first | ((with_reducible refine gD 3 rfl ?_); refine bP 3 #[.int .i64 r0, .int .i64 r1, .slice B nb cb] 35 O0.out ?_; intro gr w1 o_ k_; obtain ⟨O1, K1⟩ := ok_ K0 o_ k_; clear a0 O0 K0 o_ k_; have a0 := k7_ O1 0; have a3 := k3_ O1 3))
 refine sP (n := 7) (S := d7_ g (jp) (.int .i64 o) (.int .i64 mtu) (.int .i64 push) (.slice A4 rK.length c4) (.slice (some ad) rP.length c5) (vo) (c3_ gr (.int .i64 r0) (.int .i64 r1) (.slice B nb cb))) (ds := []) (j7_ a0 (p3_ a3)) (fun hHeld => ?_)
 obtain ⟨w2, hw_⟩ : ∃ W, W = w1.drew := ⟨_, rfl⟩
 have o_ := O1.out.drew
 have k_ : KeepS N w1 w1.drew := KeepS.drew
 rw [← hw_] at o_ k_ hHeld ⊢
 clear hw_
 obtain ⟨O2, K2⟩ := ok_ K1 o_ k_
 clear a0 a3 O1 K1 o_ k_
 have a0 := k7_ O2 0
 have a3 := k3_ O2 3
 refine pP 0 (some 5) ?_
 refine pP 2 (some 7) ?_
 refine pP 3 (some 8) ?_
 refine pP 4 (some 9) ?_
 refine tP 1 (some 6) hHeld ?_
 refine tP 5 (some 10) hHeld ?_
 refine pP 6 (some 11) ?_
 refine done_ (by kernel_rfl) ?_
 clear hHeld
 go_wp2
 refine sP (n := 18) (S := fun w' => w'.cell? ⟨g, 0, none⟩ = some (jp) ∧ w'.cell? ⟨g, 1, none⟩ = some (.int .i64 o) ∧ w'.cell? ⟨g, 2, none⟩ = some (.int .i64 mtu) ∧ w'.cell? ⟨g, 3, none⟩ = some (.int .i64 push) ∧ w'.cell? ⟨g, 4, none⟩ = some (.slice A4 rK.length c4) ∧ w'.cell? ⟨g, 5, none⟩ = some (.slice (some ad) rP.length c5) ∧ w'.cell? ⟨g, 6, none⟩ = some (vo) ∧ w'.cell? ⟨gr, 0, none⟩ = some (.int .i64 r0) ∧ w'.cell? ⟨gr, 1, none⟩ = some (.int .i64 r1) ∧ w'.cell? ⟨gr, 2, none⟩ = some (.slice B nb cb) ∧ w'.cell? ⟨ad.block, ad.off + 1, none⟩ = some (.int .i64 p1)) (ds := []) ⟨a0.1, a0.2.1, a0.2.2.1, a0.2.2.2.1, a0.2.2.2.2.1, a0.2.2.2.2.2.1, a0.2.2.2.2.2.2.1, a3.1, a3.2.1, a3.2.2.1, (head1 (O2.out.drew.nreads (i := 2) rfl).2.2 HH.out)⟩ (fun hHeld => ?_)
 obtain ⟨w3, hw_⟩ : ∃ W, W = w2.drew := ⟨_, rfl⟩
 have o_ := O2.out.drew
 have k_ : KeepS N w2 w2.drew := KeepS.drew
 rw [← hw_] at o_ k_ hHeld ⊢
 clear hw_
 obtain ⟨O3, K3⟩ := ok_ K2 o_ k_
 clear a0 a3 O2 K2 o_ k_
 have a0 := k7_ O3 0
 have a3 := k3_ O3 3
 refine pP 0 (some 12) ?_
 refine pP 1 (some 13) ?_
 refine pP 2 (some 14) ?_
 refine tP 3 (some 15) hHeld ?_
 refine pP 4 (some 16) ?_
 refine pP 5 (some 17) ?_
 refine pP 6 (some 18) ?_
 refine pP 7 (some 19) ?_
 refine pP 8 (some 20) ?_
 refine pP 9 (some 21) ?_
 refine pP 14 (some 26) ?_
 refine tP 10 (some 22) hHeld ?_
 refine pP 11 (some 23) ?_
 refine pP 12 (some 24) ?_
 refine tP 13 (some 25) hHeld ?_
 refine tP 15 (some 27) hHeld ?_
 refine pP 16 (some 28) ?_
 refine pP 17 (some 29) ?_
 refine done_ (by kernel_rfl) ?_
 clear hHeld
 obtain ⟨A9, hA9⟩ : ∃ A9, A9 = (if c5 = 1 then (some ad : Option Addr) else (some ad : Option Addr).map (·.add (1 * 3))) := ⟨_, rfl⟩
 have HCUT : ∀ W_ : World, (Instr.slice 40 (.slice (some ad) rP.length c5) (some (.int .i64 1)) none none).run Tryd.prog W_ = .ok (.slice A9 (rP.length - 1) (c5 - 1)) W_ := by rw [hA9]; exact cut1 _ _ _ HPL.out
 have HA9 := Aside0.mk hA9
 have HL2 : Aside0 (rP.length ≤ 1000000) := ⟨by have := HL.out; omega⟩
 clear hA9
 go_wp2_with (first | ((with_reducible refine gD 31 rfl ?_); refine own_lit (Kd.raw 3) (N := N) (e := 35) (xs := []) (inner := []) rfl (D := 31) rfl gs_ (Reps.none _ _) (by simp) O3.out ?_; intro A6 c6 w4 o_ k_; obtain ⟨O4, K4⟩ := ok_ K3 o_ k_; clear a0 a3 O3 K3 o_ k_; have a0 := k7_ O4 0; have a3 := k3_ O4 3) | ((with_reducible refine gate_builtin (b := .append) (xs := #[.tmp 31, .tmp 36]) rfl ?_); at_builtin; refine Own.append_flat (Kd.raw 3) flatRaw O4.out (i := 4) (ys := (rP.drop 1)) rfl ((by rw [HA9.out]; exact cutR (O4.out.nreads (i := 2) rfl).2.2 HPL.out (O4.out.nreads (i := 2) rfl).2.1)) rfl (.tmp 31) (.tmp 36) 40 ((.agg #[.int .i64 0, .int .i64 0, .slice none 0 0])) 40 rfl Tryd.underlying40 infoR rfl (by decide) (by decide) rfl rfl (by have := HL2.out; simp only [List.length_nil]; omega) ?_; intro A7 c7 w5 o_ k_; obtain ⟨O5, K5⟩ := ok_ K4 o_ k_; clear a0 a3 O4 K4 o_ k_; have a0 := k7_ O5 0; have a3 := k3_ O5 3) | ((with_reducible refine gT 40 39 rfl ?_); refine wS 0 5 [.slice A7 (rP.drop 1).length c7] O5 ?_; intro w6 o_ k_; obtain ⟨O6, K6⟩ := ok_ K5 o_ k_; clear a0 a3 O5 K5 o_ k_; have a0 := k7_ O6 0; have a3 := k3_ O6 3))
 refine sP (n := 13) (S := d7_ g (jp) (.int .i64 o) (.int .i64 mtu) (.int .i64 push) (.slice A4 rK.length c4) (.slice A7 (rP.drop 1).length c7) (vo) (c3_ gr (.int .i64 r0) (.int .i64 r1) (.slice B nb cb))) (ds := [12]) (j7_ a0 (p3_ a3)) (fun hHeld => ?_)
 obtain ⟨w7, hw_⟩ : ∃ W, W = w6.drew := ⟨_, rfl⟩
 have o_ := O6.out.drew
 have k_ : KeepS N w6 w6.drew := KeepS.drew
 rw [← hw_] at o_ k_ hHeld ⊢
 clear hw_
 obtain ⟨O7, K7⟩ := ok_ K6 o_ k_
 clear a0 a3 O6 K6 o_ k_
 have a0 := k7_ O7 0
 have a3 := k3_ O7 3
 refine pP 0 (some 40) ?_
 refine pP 2 (some 42) ?_
 refine pP 3 (some 43) ?_
 refine pP 4 (some 44) ?_
 refine tP 5 (some 45) hHeld ?_
 refine tP 7 (some 47) hHeld ?_
 refine join_ (σ := Option Addr × Nat × Option Addr × Nat × Option Addr × Nat) 4 #[true, true, true, true, true, true, true, true, true, false, false, false, false] (fun ⟨C2, e2, C3, e3, D1, h1_⟩ => [(41, .slice C2 0 e2), (46, .slice C3 rK.length e3), (48, .slice D1 1 h1_)]) (fun ⟨C2, e2, C3, e3, D1, h1_⟩ w' => Own N w' [cells g #[jp, .int .i64 o, .int .i64 mtu, .int .i64 push, .slice A4 rK.length c4, .slice A7 (rP.drop 1).length c7, vo] 44, nrow (Kd.raw 3) 35 (.slice A4 rK.length c4) rK, nrow (Kd.raw 3) 35 (.slice (some ad) rP.length c5) rP, cells gr #[.int .i64 r0, .int .i64 r1, .slice B nb cb] 35, nrow (Kd.raw 3) 35 (.slice A7 ((rP.drop 1)).length c7) ((rP.drop 1)), nrow (Kd.raw 3) 35 (.slice C3 rK.length e3) rK, nrow (Kd.raw 3) 35 (.slice D1 1 h1_) [rw3 r0 r1 (.slice B nb cb)]] ∧ KeepS N w7 w') ?hcont ?hways
 case hways =>
  intro hc_
  have K8 : Aside0 (KeepS N w7 w7) := ⟨KeepS.refl _ _⟩
  have O8 : Aside0 (Own N w7 [cells g #[jp, .int .i64 o, .int .i64 mtu, .int .i64 push, .slice A4 rK.length c4, .slice A7 (rP.drop 1).length c7, vo] 44, nrow (Kd.raw 3) 35 (.slice A4 rK.length c4) rK, nrow (Kd.raw 3) 35 (.slice (some ad) rP.length c5) rP, cells gr #[.int .i64 r0, .int .i64 r1, .slice B nb cb] 35, nrow (Kd.raw 3) 35 (.slice A7 ((rP.drop 1)).length c7) ((rP.drop 1))]) := O7
  refine tW_ 1 8 (some 41) (some 48) (fun K_ hK_ => ?_) (fun K_ hK_ => ?_)
  ·skip
   refine own_lit_step (Kd.raw 3) (N := N) (e := 35) (xs := []) (inner := []) rfl rfl gs_ (Reps.none _ _) (by decide) O8.out ?_
   intro C2 e2 w9 o_ k_
   obtain ⟨O9, K9⟩ := ok_ K8 o_ k_
   clear a0 a3 O8 K8 o_ k_
   have a0 := k7_ O9 0
   have a3 := k3_ O9 3
   clear hHeld
   refine hK_.out _ _ (j7_ a0 (p3_ a3)) (fun hHeld => ?_)
   clear hK_ K_
   refine nR_ ?_
   refine tW_ 6 8 (some 46) (some 48) (fun K_ hK_ => ?_) (fun K_ hK_ => ?_)
   ·skip
    refine Own.append_flat_step (Kd.raw 3) flatRaw O9.out (i := 5) rfl (O9.out.nreads (i := 1) rfl).2.2 rfl (by rfl) (.tmp 41) (.tmp 45) 40 (.agg #[.int .i64 0, .int .i64 0, .slice none 0 0]) 40 rfl Tryd.underlying40 infoR rfl (by decide) (by decide) rfl rfl (by have := HL.out; simp only [List.length_nil]; omega) ?_
    intro C3 e3 w10 o_ k_
    obtain ⟨O10, K10⟩ := ok_ K9 o_ k_
    clear a0 a3 O9 K9 o_ k_
    have a0 := k7_ O10 0
    have a3 := k3_ O10 3
    clear hHeld
    refine hK_.out _ _ (j7_ a0 (p3_ a3)) (fun hHeld => ?_)
    clear hK_ K_
    refine nR_ ?_
    refine oP 8 (some 48) (fun K_ hK_ => ?_)
    refine own_lit_step (Kd.raw 3) (N := N) (e := 35) (xs := [rw3 r0 r1 (.slice B nb cb)]) (inner := [.int .i64 r0, .int .i64 r1, .slice B nb cb]) rfl rfl gs_ (repW _ r0 r1 B nb cb) (by show 1 ≤ 9223372036854775807; decide) O10.out ?_
    intro D1 h1_ w11 o_ k_
    obtain ⟨O11, K11⟩ := ok_ K10 o_ k_
    clear a0 a3 O10 K10 o_ k_
    have a0 := k7_ O11 0
    have a3 := k3_ O11 3
    clear hHeld
    refine hK_.out _ _ (j7_ a0 (p3_ a3)) (fun hHeld => ?_)
    clear hK_ K_
    refine nR_ ?_
    refine norm_ (a' := _) ?_ (hc_ ⟨C2, e2, C3, e3, D1, h1_⟩ _ ⟨?_, K11.out⟩)
    ·simp only [putAll, Act.put, List.setIfInBounds_toArray, List.set_cons_zero, List.set_cons_succ]
     try rfl
    ·exact O11.out.pickL [0, 1, 2, 3, 4, 5, 6] (by decide) (by simp)
   ·skip
    refine own_lit_step (Kd.raw 3) (N := N) (e := 35) (xs := [rw3 r0 r1 (.slice B nb cb)]) (inner := [.int .i64 r0, .int .i64 r1, .slice B nb cb]) rfl rfl gs_ (repW _ r0 r1 B nb cb) (by show 1 ≤ 9223372036854775807; decide) O9.out ?_
    intro D1 h1_ w10 o_ k_
    obtain ⟨O10, K10⟩ := ok_ K9 o_ k_
    clear a0 a3 O9 K9 o_ k_
    have a0 := k7_ O10 0
    have a3 := k3_ O10 3
    clear hHeld
    refine hK_.out _ _ (j7_ a0 (p3_ a3)) (fun hHeld => ?_)
    clear hK_ K_
    refine nR_ ?_
    refine oP 6 (some 46) (fun K_ hK_ => ?_)
    refine Own.append_flat_step (Kd.raw 3) flatRaw O10.out (i := 5) rfl (O10.out.nreads (i := 1) rfl).2.2 rfl (by rfl) (.tmp 41) (.tmp 45) 40 (.agg #[.int .i64 0, .int .i64 0, .slice none 0 0]) 40 rfl Tryd.underlying40 infoR rfl (by decide) (by decide) rfl rfl (by have := HL.out; simp only [List.length_nil]; omega) ?_
    intro C3 e3 w11 o_ k_
    obtain ⟨O11, K11⟩ := ok_ K10 o_ k_
    clear a0 a3 O10 K10 o_ k_
    have a0 := k7_ O11 0
    have a3 := k3_ O11 3
    clear hHeld
    refine hK_.out _ _ (j7_ a0 (p3_ a3)) (fun hHeld => ?_)
    clear hK_ K_
    refine nR_ ?_
    refine norm_ (a' := _) ?_ (hc_ ⟨C2, e2, C3, e3, D1, h1_⟩ _ ⟨?_, K11.out⟩)
    ·simp only [putAll, Act.put, List.setIfInBounds_toArray, List.set_cons_zero, List.set_cons_succ]
     try rfl
    ·exact O11.out.pickL [0, 1, 2, 3, 4, 5, 6] (by decide) (by simp)
  ·skip
   refine own_lit_step (Kd.raw 3) (N := N) (e := 35) (xs := [rw3 r0 r1 (.slice B nb cb)]) (inner := [.int .i64 r0, .int .i64 r1, .slice B nb cb]) rfl rfl gs_ (repW _ r0 r1 B nb cb) (by show 1 ≤ 9223372036854775807; decide) O8.out ?_
   intro D1 h1_ w9 o_ k_
   obtain ⟨O9, K9⟩ := ok_ K8 o_ k_
   clear a0 a3 O8 K8 o_ k_
   have a0 := k7_ O9 0
   have a3 := k3_ O9 3
   clear hHeld
   refine hK_.out _ _ (j7_ a0 (p3_ a3)) (fun hHeld => ?_)
   clear hK_ K_
   refine nR_ ?_
   refine oP 1 (some 41) (fun K_ hK_ => ?_)
   refine own_lit_step (Kd.raw 3) (N := N) (e := 35) (xs := []) (inner := []) rfl rfl gs_ (Reps.none _ _) (by decide) O9.out ?_
   intro C2 e2 w10 o_ k_
   obtain ⟨O10, K10⟩ := ok_ K9 o_ k_
   clear a0 a3 O9 K9 o_ k_
   have a0 := k7_ O10 0
   have a3 := k3_ O10 3
   clear hHeld
   refine hK_.out _ _ (j7_ a0 (p3_ a3)) (fun hHeld => ?_)
   clear hK_ K_
   refine nR_ ?_
   refine oP 6 (some 46) (fun K_ hK_ => ?_)
   refine Own.append_flat_step (Kd.raw 3) flatRaw O10.out (i := 6) rfl (O10.out.nreads (i := 1) rfl).2.2 rfl (by rfl) (.tmp 41) (.tmp 45) 40 (.agg #[.int .i64 0, .int .i64 0, .slice none 0 0]) 40 rfl Tryd.underlying40 infoR rfl (by decide) (by decide) rfl rfl (by have := HL.out; simp only [List.length_nil]; omega) ?_
   intro C3 e3 w11 o_ k_
   obtain ⟨O11, K11⟩ := ok_ K10 o_ k_
   clear a0 a3 O10 K10 o_ k_
   have a0 := k7_ O11 0
   have a3 := k3_ O11 3
   clear hHeld
   refine hK_.out _ _ (j7_ a0 (p3_ a3)) (fun hHeld => ?_)
   clear hK_ K_
   refine nR_ ?_
   refine norm_ (a' := _) ?_ (hc_ ⟨C2, e2, C3, e3, D1, h1_⟩ _ ⟨?_, K11.out⟩)
   ·simp only [putAll, Act.put, List.setIfInBounds_toArray, List.set_cons_zero, List.set_cons_succ]
    try rfl
   ·exact O11.out.pickL [0, 1, 2, 3, 4, 6, 5] (by decide) (by simp)
 case hcont =>
  clear hHeld
  rintro ⟨C2, e2, C3, e3, D1, h1_⟩ w8 ⟨o_, k_⟩
  obtain ⟨O8, K8⟩ := ok_ K7 o_ k_
  clear a0 a3 O7 K7 o_ k_
  have a0 := k7_ O8 0
  have a3 := k3_ O8 3
  refine nA_ ?_
  have hHeld : w8.cell? ⟨g, 0, none⟩ = some (jp) ∧ w8.cell? ⟨g, 1, none⟩ = some (.int .i64 o) ∧ w8.cell? ⟨g, 2, none⟩ = some (.int .i64 mtu) ∧ w8.cell? ⟨g, 3, none⟩ = some (.int .i64 push) ∧ w8.cell? ⟨g, 4, none⟩ = some (.slice A4 rK.length c4) ∧ w8.cell? ⟨g, 5, none⟩ = some (.slice A7 (rP.drop 1).length c7) ∧ w8.cell? ⟨g, 6, none⟩ = some (vo) ∧ w8.cell? ⟨gr, 0, none⟩ = some (.int .i64 r0) ∧ w8.cell? ⟨gr, 1, none⟩ = some (.int .i64 r1) ∧ w8.cell? ⟨gr, 2, none⟩ = some (.slice B nb cb) := (j7_ a0 (p3_ a3))
  refine oP 9 (some 49) (fun K_ hK_ => ?_)
  refine Own.append_flat_step (Kd.raw 3) flatRaw O8.out (i := 5) rfl (O8.out.nreads (i := 6) rfl).2.2 rfl (by rfl) (.tmp 46) (.tmp 48) 40 (.agg #[.int .i64 0, .int .i64 0, .slice none 0 0]) 40 rfl Tryd.underlying40 infoR rfl (by decide) (by decide) rfl rfl (by have := HL.out; omega) ?_
  intro C4 e4 w9 o_ k_
  obtain ⟨O9, K9⟩ := ok_ K8 o_ k_
  clear a0 a3 O8 K8 o_ k_
  have a0 := k7_ O9 0
  have a3 := k3_ O9 3
  clear hHeld
  refine hK_.out _ _ (j7_ a0 (p3_ a3)) (fun hHeld => ?_)
  clear hK_ K_
  refine nP ?_
  refine pP 10 (some 50) ?_
  refine pP 11 (some 51) ?_
  refine lP 12 none (fun K_ hK_ => ?_)
  refine xS 0 4 [.slice C4 (rK ++ [rw3 r0 r1 (.slice B nb cb)]).length e4] O9 ?_
  intro w10 o_ k_
  obtain ⟨O10, K10⟩ := ok_ K9 o_ k_
  clear a0 a3 O9 K9 o_ k_
  have a0 := k7_ O10 0
  have a3 := k3_ O10 3
  refine hK_.out _ _ ?_
  clear hK_ K_
  refine done_ (by kernel_rfl) ?_
  clear hHeld
  go_wp2
  go_ret
  exact ⟨C4, e4, A7, c7, rfl, O10.out.pickL [0, 5, 4] (by decide) (by simp), K10.out⟩
theorem DTake_other {N : Nat → Prop} {w : World} {g : Nat} {jp vo : Value} {o mtu push : Int} {A4 A5 : Option Addr} {c4 c5 : Nat} {rK rP : List (List Value)} (r0 r1 : Int) (B : Option Addr) (nb cb : Nat) (h : Own N w [cells g #[jp, .int .i64 o, .int .i64 mtu, .int .i64 push, .slice A4 rK.length c4, .slice A5 rP.length c5, vo] 44, nrow (Kd.raw 3) 35 (.slice A4 rK.length c4) rK, nrow (Kd.raw 3) 35 (.slice A5 rP.length c5) rP]) (hL : rK.length + rP.length ≤ 1000000) (ho : r0 ≠ o) :
  Calls Tryd.prog 60 #[.pointer (some ⟨g, 0, none⟩), .agg #[.int .i64 r0, .int .i64 r1, .slice B nb cb]] w fun e_ w' => ∃ C4 e4, e_ = .returned (.int .i64 0) ∧ Own N w' [cells g #[jp, .int .i64 o, .int .i64 mtu, .int .i64 push, .slice C4 (rK ++ [rw3 r0 r1 (.slice B nb cb)]).length e4, .slice A5 rP.length c5, vo] 44, nrow (Kd.raw 3) 35 (.slice C4 (rK ++ [rw3 r0 r1 (.slice B nb cb)]).length e4) (rK ++ [rw3 r0 r1 (.slice B nb cb)]), nrow (Kd.raw 3) 35 (.slice A5 rP.length c5) rP] ∧ KeepS N w w' := by
 have d1 : (r0 == o) = false := beq_eq_false_iff_ne.mpr ho
 have HL := Aside0.mk hL
 have O0 : Aside0 (Own N w [cells g #[jp, .int .i64 o, .int .i64 mtu, .int .i64 push, .slice A4 rK.length c4, .slice A5 rP.length c5, vo] 44, nrow (Kd.raw 3) 35 (.slice A4 rK.length c4) rK, nrow (Kd.raw 3) 35 (.slice A5 rP.length c5) rP]) := ⟨h⟩
 have K0 : Aside0 (KeepS N w w) := ⟨KeepS.refl _ _⟩
 have a0 := k7_ O0 0
 clear h hL ho
 go_enter Tryd.func60, Tryd.ntmps60
 go_wp2_with (first | ((with_reducible refine gD 3 rfl ?_); refine bP 3 #[.int .i64 r0, .int .i64 r1, .slice B nb cb] 35 O0.out ?_; intro gr w1 o_ k_; obtain ⟨O1, K1⟩ := ok_ K0 o_ k_; clear a0 O0 K0 o_ k_; have a0 := k7_ O1 0; have a3 := k3_ O1 3))
 refine sP (n := 7) (S := d7_ g (jp) (.int .i64 o) (.int .i64 mtu) (.int .i64 push) (.slice A4 rK.length c4) (.slice A5 rP.length c5) (vo) (c3_ gr (.int .i64 r0) (.int .i64 r1) (.slice B nb cb))) (ds := []) (j7_ a0 (p3_ a3)) (fun hHeld => ?_)
 obtain ⟨w2, hw_⟩ : ∃ W, W = w1.drew := ⟨_, rfl⟩
 have o_ := O1.out.drew
 have k_ : KeepS N w1 w1.drew := KeepS.drew
 rw [← hw_] at o_ k_ hHeld ⊢
 clear hw_
 obtain ⟨O2, K2⟩ := ok_ K1 o_ k_
 clear a0 a3 O1 K1 o_ k_
 have a0 := k7_ O2 0
 have a3 := k3_ O2 3
 refine pP 0 (some 5) ?_
 refine pP 2 (some 7) ?_
 refine pP 3 (some 8) ?_
 refine pP 4 (some 9) ?_
 refine tP 1 (some 6) hHeld ?_
 refine tP 5 (some 10) hHeld ?_
 refine pP 6 (some 11) ?_
 refine done_ (by kernel_rfl) ?_
 clear hHeld
 go_wp2
 refine sP (n := 13) (S := d7_ g (jp) (.int .i64 o) (.int .i64 mtu) (.int .i64 push) (.slice A4 rK.length c4) (.slice A5 rP.length c5) (vo) (c3_ gr (.int .i64 r0) (.int .i64 r1) (.slice B nb cb))) (ds := [12]) (j7_ a0 (p3_ a3)) (fun hHeld => ?_)
 obtain ⟨w3, hw_⟩ : ∃ W, W = w2.drew := ⟨_, rfl⟩
 have o_ := O2.out.drew
 have k_ : KeepS N w2 w2.drew := KeepS.drew
 rw [← hw_] at o_ k_ hHeld ⊢
 clear hw_
 obtain ⟨O3, K3⟩ := ok_ K2 o_ k_
 clear a0 a3 O2 K2 o_ k_
 have a0 := k7_ O3 0
 have a3 := k3_ O3 3
 refine pP 0 (some 40) ?_
 refine pP 2 (some 42) ?_
 refine pP 3 (some 43) ?_
 refine pP 4 (some 44) ?_
 refine tP 5 (some 45) hHeld ?_
 refine tP 7 (some 47) hHeld ?_
 refine join_ (σ := Option Addr × Nat × Option Addr × Nat × Option Addr × Nat) 4 #[true, true, true, true, true, true, true, true, true, false, false, false, false] (fun ⟨C2, e2, C3, e3, D1, h1_⟩ => [(41, .slice C2 0 e2), (46, .slice C3 rK.length e3), (48, .slice D1 1 h1_)]) (fun ⟨C2, e2, C3, e3, D1, h1_⟩ w' => Own N w' [cells g #[jp, .int .i64 o, .int .i64 mtu, .int .i64 push, .slice A4 rK.length c4, .slice A5 rP.length c5, vo] 44, nrow (Kd.raw 3) 35 (.slice A4 rK.length c4) rK, nrow (Kd.raw 3) 35 (.slice A5 rP.length c5) rP, cells gr #[.int .i64 r0, .int .i64 r1, .slice B nb cb] 35, nrow (Kd.raw 3) 35 (.slice C3 rK.length e3) rK, nrow (Kd.raw 3) 35 (.slice D1 1 h1_) [rw3 r0 r1 (.slice B nb cb)]] ∧ KeepS N w3 w') ?hcont ?hways
 case hways =>
  intro hc_
  have K4 : Aside0 (KeepS N w3 w3) := ⟨KeepS.refl _ _⟩
  have O4 : Aside0 (Own N w3 [cells g #[jp, .int .i64 o, .int .i64 mtu, .int .i64 push, .slice A4 rK.length c4, .slice A5 rP.length c5, vo] 44, nrow (Kd.raw 3) 35 (.slice A4 rK.length c4) rK, nrow (Kd.raw 3) 35 (.slice A5 rP.length c5) rP, cells gr #[.int .i64 r0, .int .i64 r1, .slice B nb cb] 35]) := O3
  refine tW_ 1 8 (some 41) (some 48) (fun K_ hK_ => ?_) (fun K_ hK_ => ?_)
  ·skip
   refine own_lit_step (Kd.raw 3) (N := N) (e := 35) (xs := []) (inner := []) rfl rfl gs_ (Reps.none _ _) (by decide) O4.out ?_
   intro C2 e2 w5 o_ k_
   obtain ⟨O5, K5⟩ := ok_ K4 o_ k_
   clear a0 a3 O4 K4 o_ k_
   have a0 := k7_ O5 0
   have a3 := k3_ O5 3
   clear hHeld
   refine hK_.out _ _ (j7_ a0 (p3_ a3)) (fun hHeld => ?_)
   clear hK_ K_
   refine nR_ ?_
   refine tW_ 6 8 (some 46) (some 48) (fun K_ hK_ => ?_) (fun K_ hK_ => ?_)
   ·skip
    refine Own.append_flat_step (Kd.raw 3) flatRaw O5.out (i := 4) rfl (O5.out.nreads (i := 1) rfl).2.2 rfl (by rfl) (.tmp 41) (.tmp 45) 40 (.agg #[.int .i64 0, .int .i64 0, .slice none 0 0]) 40 rfl Tryd.underlying40 infoR rfl (by decide) (by decide) rfl rfl (by have := HL.out; simp only [List.length_nil]; omega) ?_
    intro C3 e3 w6 o_ k_
    obtain ⟨O6, K6⟩ := ok_ K5 o_ k_
    clear a0 a3 O5 K5 o_ k_
    have a0 := k7_ O6 0
    have a3 := k3_ O6 3
    clear hHeld
    refine hK_.out _ _ (j7_ a0 (p3_ a3)) (fun hHeld => ?_)
    clear hK_ K_
    refine nR_ ?_
    refine oP 8 (some 48) (fun K_ hK_ => ?_)
    refine own_lit_step (Kd.raw 3) (N := N) (e := 35) (xs := [rw3 r0 r1 (.slice B nb cb)]) (inner := [.int .i64 r0, .int .i64 r1, .slice B nb cb]) rfl rfl gs_ (repW _ r0 r1 B nb cb) (by show 1 ≤ 9223372036854775807; decide) O6.out ?_
    intro D1 h1_ w7 o_ k_
    obtain ⟨O7, K7⟩ := ok_ K6 o_ k_
    clear a0 a3 O6 K6 o_ k_
    have a0 := k7_ O7 0
    have a3 := k3_ O7 3
    clear hHeld
    refine hK_.out _ _ (j7_ a0 (p3_ a3)) (fun hHeld => ?_)
    clear hK_ K_
    refine nR_ ?_
    refine norm_ (a' := _) ?_ (hc_ ⟨C2, e2, C3, e3, D1, h1_⟩ _ ⟨?_, K7.out⟩)
    ·simp only [putAll, Act.put, List.setIfInBounds_toArray, List.set_cons_zero, List.set_cons_succ]
     try rfl
    ·exact O7.out.pickL [0, 1, 2, 3, 4, 5] (by decide) (by simp)
   ·skip
    refine own_lit_step (Kd.raw 3) (N := N) (e := 35) (xs := [rw3 r0 r1 (.slice B nb cb)]) (inner := [.int .i64 r0, .int .i64 r1, .slice B nb cb]) rfl rfl gs_ (repW _ r0 r1 B nb cb) (by show 1 ≤ 9223372036854775807; decide) O5.out ?_
    intro D1 h1_ w6 o_ k_
    obtain ⟨O6, K6⟩ := ok_ K5 o_ k_
    clear a0 a3 O5 K5 o_ k_
    have a0 := k7_ O6 0
    have a3 := k3_ O6 3
    clear hHeld
    refine hK_.out _ _ (j7_ a0 (p3_ a3)) (fun hHeld => ?_)
    clear hK_ K_
    refine nR_ ?_
    refine oP 6 (some 46) (fun K_ hK_ => ?_)
    refine Own.append_flat_step (Kd.raw 3) flatRaw O6.out (i := 4) rfl (O6.out.nreads (i := 1) rfl).2.2 rfl (by rfl) (.tmp 41) (.tmp 45) 40 (.agg #[.int .i64 0, .int .i64 0, .slice none 0 0]) 40 rfl Tryd.underlying40 infoR rfl (by decide) (by decide) rfl rfl (by have := HL.out; simp only [List.length_nil]; omega) ?_
    intro C3 e3 w7 o_ k_
    obtain ⟨O7, K7⟩ := ok_ K6 o_ k_
    clear a0 a3 O6 K6 o_ k_
    have a0 := k7_ O7 0
    have a3 := k3_ O7 3
    clear hHeld
    refine hK_.out _ _ (j7_ a0 (p3_ a3)) (fun hHeld => ?_)
    clear hK_ K_
    refine nR_ ?_
    refine norm_ (a' := _) ?_ (hc_ ⟨C2, e2, C3, e3, D1, h1_⟩ _ ⟨?_, K7.out⟩)
    ·simp only [putAll, Act.put, List.setIfInBounds_toArray, List.set_cons_zero, List.set_cons_succ]
     try rfl
    ·exact O7.out.pickL [0, 1, 2, 3, 4, 5] (by decide) (by simp)
  ·skip
   refine own_lit_step (Kd.raw 3) (N := N) (e := 35) (xs := [rw3 r0 r1 (.slice B nb cb)]) (inner := [.int .i64 r0, .int .i64 r1, .slice B nb cb]) rfl rfl gs_ (repW _ r0 r1 B nb cb) (by show 1 ≤ 9223372036854775807; decide) O4.out ?_
   intro D1 h1_ w5 o_ k_
   obtain ⟨O5, K5⟩ := ok_ K4 o_ k_
   clear a0 a3 O4 K4 o_ k_
   have a0 := k7_ O5 0
   have a3 := k3_ O5 3
   clear hHeld
   refine hK_.out _ _ (j7_ a0 (p3_ a3)) (fun hHeld => ?_)
   clear hK_ K_
   refine nR_ ?_
   refine oP 1 (some 41) (fun K_ hK_ => ?_)
   refine own_lit_step (Kd.raw 3) (N := N) (e := 35) (xs := []) (inner := []) rfl rfl gs_ (Reps.none _ _) (by decide) O5.out ?_
   intro C2 e2 w6 o_ k_
   obtain ⟨O6, K6⟩ := ok_ K5 o_ k_
   clear a0 a3 O5 K5 o_ k_
   have a0 := k7_ O6 0
   have a3 := k3_ O6 3
   clear hHeld
   refine hK_.out _ _ (j7_ a0 (p3_ a3)) (fun hHeld => ?_)
   clear hK_ K_
   refine nR_ ?_
   refine oP 6 (some 46) (fun K_ hK_ => ?_)
   refine Own.append_flat_step (Kd.raw 3) flatRaw O6.out (i := 5) rfl (O6.out.nreads (i := 1) rfl).2.2 rfl (by rfl) (.tmp 41) (.tmp 45) 40 (.agg #[.int .i64 0, .int .i64 0, .slice none 0 0]) 40 rfl Tryd.underlying40 infoR rfl (by decide) (by decide) rfl rfl (by have := HL.out; simp only [List.length_nil]; omega) ?_
   intro C3 e3 w7 o_ k_
   obtain ⟨O7, K7⟩ := ok_ K6 o_ k_
   clear a0 a3 O6 K6 o_ k_
   have a0 := k7_ O7 0
   have a3 := k3_ O7 3
   clear hHeld
   refine hK_.out _ _ (j7_ a0 (p3_ a3)) (fun hHeld => ?_)
   clear hK_ K_
   refine nR_ ?_
   refine norm_ (a' := _) ?_ (hc_ ⟨C2, e2, C3, e3, D1, h1_⟩ _ ⟨?_, K7.out⟩)
   ·simp only [putAll, Act.put, List.setIfInBounds_toArray, List.set_cons_zero, List.set_cons_succ]
    try rfl
   ·exact O7.out.pickL [0, 1, 2, 3, 5, 4] (by decide) (by simp)
 case hcont =>
  clear hHeld
  rintro ⟨C2, e2, C3, e3, D1, h1_⟩ w4 ⟨o_, k_⟩
  obtain ⟨O4, K4⟩ := ok_ K3 o_ k_
  clear a0 a3 O3 K3 o_ k_
  have a0 := k7_ O4 0
  have a3 := k3_ O4 3
  refine nA_ ?_
  have hHeld : w4.cell? ⟨g, 0, none⟩ = some (jp) ∧ w4.cell? ⟨g, 1, none⟩ = some (.int .i64 o) ∧ w4.cell? ⟨g, 2, none⟩ = some (.int .i64 mtu) ∧ w4.cell? ⟨g, 3, none⟩ = some (.int .i64 push) ∧ w4.cell? ⟨g, 4, none⟩ = some (.slice A4 rK.length c4) ∧ w4.cell? ⟨g, 5, none⟩ = some (.slice A5 rP.length c5) ∧ w4.cell? ⟨g, 6, none⟩ = some (vo) ∧ w4.cell? ⟨gr, 0, none⟩ = some (.int .i64 r0) ∧ w4.cell? ⟨gr, 1, none⟩ = some (.int .i64 r1) ∧ w4.cell? ⟨gr, 2, none⟩ = some (.slice B nb cb) := (j7_ a0 (p3_ a3))
  refine oP 9 (some 49) (fun K_ hK_ => ?_)
  refine Own.append_flat_step (Kd.raw 3) flatRaw O4.out (i := 4) rfl (O4.out.nreads (i := 5) rfl).2.2 rfl (by rfl) (.tmp 46) (.tmp 48) 40 (.agg #[.int .i64 0, .int .i64 0, .slice none 0 0]) 40 rfl Tryd.underlying40 infoR rfl (by decide) (by decide) rfl rfl (by have := HL.out; omega) ?_
  intro C4 e4 w5 o_ k_
  obtain ⟨O5, K5⟩ := ok_ K4 o_ k_
  clear a0 a3 O4 K4 o_ k_
  have a0 := k7_ O5 0
  have a3 := k3_ O5 3
  clear hHeld
  refine hK_.out _ _ (j7_ a0 (p3_ a3)) (fun hHeld => ?_)
  clear hK_ K_
  refine nP ?_
  refine pP 10 (some 50) ?_
  refine pP 11 (some 51) ?_
  refine lP 12 none (fun K_ hK_ => ?_)
  refine xS 0 4 [.slice C4 (rK ++ [rw3 r0 r1 (.slice B nb cb)]).length e4] O5 ?_
  intro w6 o_ k_
  obtain ⟨O6, K6⟩ := ok_ K5 o_ k_
  clear a0 a3 O5 K5 o_ k_
  have a0 := k7_ O6 0
  have a3 := k3_ O6 3
  refine hK_.out _ _ ?_
  clear hK_ K_
  refine done_ (by kernel_rfl) ?_
  clear hHeld
  go_wp2
  go_ret
  exact ⟨C4, e4, rfl, O6.out.pickL [0, 4, 2] (by decide) (by simp), K6.out⟩
theorem DJAdd_E {N : Nat → Prop} {w : World} {gj : Nat} {jo jm : Int} {AJ : Option Addr} {cJ : Nat} {rJ : List (List Value)} (E : Int) (B : Option Addr) (c : Nat) (ups : List Upd7) (h : Own N w [cells gj #[.int .i64 jo, .int .i64 jm, .slice AJ rJ.length cJ] 64, nrow (Kd.raw 3) 35 (.slice AJ rJ.length cJ) rJ]) (hr : Kd.F k32 w N B ups.length ups) (hc : ups.length ≤ c) (hL : rJ.length ≤ 1000000) (hu : ups.length ≤ 1000000) (hE : dE jo jm rJ.length ups = E) (h0 : E ≠ 0) :
  Calls Tryd.prog 89 #[.pointer (some ⟨gj, 0, none⟩), .slice B ups.length c] w fun e_ w' => e_ = .returned (.tuple #[.agg #[.int .i64 0, .int .i64 0, .slice none 0 0], .int .i64 E]) ∧ Own N w' [cells gj #[.int .i64 jo, .int .i64 jm, .slice AJ rJ.length cJ] 64, nrow (Kd.raw 3) 35 (.slice AJ rJ.length cJ) rJ] ∧ KeepS N w w' := by
 subst hE
 unfold dE at h0 ⊢
 by_cases hq : (rJ.length : Int) ≥ jm
 ·rw [if_pos hq]
  exact DJAdd_full B c ups h hr hc hL hu hq
 ·rw [if_neg hq] at h0 ⊢
  exact DJAdd_no B c ups h hr hc hL hu hq h0
theorem DJAdd_y {N : Nat → Prop} {w : World} {gj : Nat} {jo jm : Int} {AJ : Option Addr} {cJ : Nat} {rJ : List (List Value)} (n1 : Int) (B : Option Addr) (c : Nat) (ups : List Upd7) (h : Own N w [cells gj #[.int .i64 jo, .int .i64 jm, .slice AJ rJ.length cJ] 64, nrow (Kd.raw 3) 35 (.slice AJ rJ.length cJ) rJ]) (hr : Kd.F k32 w N B ups.length ups) (hc : ups.length ≤ c) (hL : rJ.length ≤ 1000000) (hu : ups.length ≤ 1000000) (hE : dE jo jm rJ.length ups = 0) (hn : (rJ.length : Int) + 1 = n1) :
  Calls Tryd.prog 89 #[.pointer (some ⟨gj, 0, none⟩), .slice B ups.length c] w fun e_ w' => ∃ B1 b1_ C5 e5, e_ = .returned (.tuple #[.agg #[.int .i64 jo, .int .i64 n1, .slice B1 ups.length b1_], .int .i64 0]) ∧ ups.length ≤ b1_ ∧ Own N w' [cells gj #[.int .i64 jo, .int .i64 jm, .slice C5 (rJ ++ [rw3 jo n1 (.slice B1 ups.length b1_)]).length e5] 64, nrow (Kd.raw 3) 35 (.slice C5 (rJ ++ [rw3 jo n1 (.slice B1 ups.length b1_)]).length e5) (rJ ++ [rw3 jo n1 (.slice B1 ups.length b1_)]), nrow k32 32 (.slice B1 ups.length b1_) ups] ∧ KeepS N w w' := by
 subst hn
 unfold dE at hE
 by_cases hq : (rJ.length : Int) ≥ jm
 ·rw [if_pos hq] at hE
  cases hE
 ·rw [if_neg hq] at hE
  exact DJAdd_ok B c ups h hr hc hL hu hq hE
theorem DPush_none {N : Nat → Prop} {w : World} {g gj : Nat} {vk : Value} {o mtu push jo jm : Int} {AJ A5 A6 : Option Addr} {cJ c5 c6 : Nat} {rJ rP : List (List Value)} {U : List Upd7} (h : Own N w [cells gj #[.int .i64 jo, .int .i64 jm, .slice AJ rJ.length cJ] 64, nrow (Kd.raw 3) 35 (.slice AJ rJ.length cJ) rJ, cells g #[.pointer (some ⟨gj, 0, none⟩), .int .i64 o, .int .i64 mtu, .int .i64 push, vk, .slice A5 rP.length c5, .slice A6 U.length c6] 44, nrow (Kd.raw 3) 35 (.slice A5 rP.length c5) rP, nrow k32 32 (.slice A6 U.length c6) U]) (hu : U.length ≤ 1000000) (hL : rJ.length ≤ 1000000) (hP : rP.length ≤ 1000000) (hu0 : U.length = 0) :
  Calls Tryd.prog 59 #[.pointer (some ⟨g, 0, none⟩)] w fun e_ w' => e_ = .returned (.tuple #[.agg #[.int .i64 0, .int .i64 0, .slice none 0 0], .int .i64 11]) ∧ Own N w' [cells gj #[.int .i64 jo, .int .i64 jm, .slice AJ rJ.length cJ] 64, nrow (Kd.raw 3) 35 (.slice AJ rJ.length cJ) rJ, cells g #[.pointer (some ⟨gj, 0, none⟩), .int .i64 o, .int .i64 mtu, .int .i64 push, vk, .slice A5 rP.length c5, .slice A6 U.length c6] 44, nrow (Kd.raw 3) 35 (.slice A5 rP.length c5) rP, nrow k32 32 (.slice A6 U.length c6) U] ∧ KeepS N w w' := by
 have d1 : ((U.length : Int) == 0) = true := by simp [hu0]
 have HUL := Aside0.mk hu
 have HL := Aside0.mk hL
 have HP := Aside0.mk hP
 have O0 : Aside0 (Own N w [cells gj #[.int .i64 jo, .int .i64 jm, .slice AJ rJ.length cJ] 64, nrow (Kd.raw 3) 35 (.slice AJ rJ.length cJ) rJ, cells g #[.pointer (some ⟨gj, 0, none⟩), .int .i64 o, .int .i64 mtu, .int .i64 push, vk, .slice A5 rP.length c5, .slice A6 U.length c6] 44, nrow (Kd.raw 3) 35 (.slice A5 rP.length c5) rP, nrow k32 32 (.slice A6 U.length c6) U]) := ⟨h⟩
 have K0 : Aside0 (KeepS N w w) := ⟨KeepS.refl _ _⟩
 have a0 := k3_ O0 0
 have a2 := k7_ O0 2
 clear h hu hL hP hu0
 go_enter Tryd.func59, Tryd.ntmps59
 go_wp2_with (first | ((with_reducible refine gD 2 rfl ?_); refine bP 2 #[.int .i64 0, .int .i64 0, .slice none 0 0] 35 O0.out ?_; intro gz w1 o_ k_; obtain ⟨O1, K1⟩ := ok_ K0 o_ k_; clear a0 a2 O0 K0 o_ k_; have a0 := k3_ O1 0; have a2 := k7_ O1 2; have a5 := k3_ O1 5) | ((with_reducible refine gT 35 2 rfl ?_); refine wS 5 0 [.int .i64 0, .int .i64 0, .slice none 0 0] O1 ?_; intro w2 o_ k_; obtain ⟨O2, K2⟩ := ok_ K1 o_ k_; clear a0 a2 a5 O1 K1 o_ k_; have a0 := k3_ O2 0; have a2 := k7_ O2 2; have a5 := k3_ O2 5))
 refine bodyPost_ret (results_ct rfl _ _ gz 35 #[.int .i64 0, .int .i64 0, .slice none 0 0] (0, 0) _ rfl (O2.out.blk (i := 5) rfl) Tryd.underlying35 rfl (by kernel_rfl)) rfl ?_
 exact ⟨rfl, O2.out.take 5, K2.out⟩
theorem DPush_full {N : Nat → Prop} {w : World} {g gj : Nat} {vk : Value} {o mtu push jo jm : Int} {AJ A5 A6 : Option Addr} {cJ c5 c6 : Nat} {rJ rP : List (List Value)} {U : List Upd7} (h : Own N w [cells gj #[.int .i64 jo, .int .i64 jm, .slice AJ rJ.length cJ] 64, nrow (Kd.raw 3) 35 (.slice AJ rJ.length cJ) rJ, cells g #[.pointer (some ⟨gj, 0, none⟩), .int .i64 o, .int .i64 mtu, .int .i64 push, vk, .slice A5 rP.length c5, .slice A6 U.length c6] 44, nrow (Kd.raw 3) 35 (.slice A5 rP.length c5) rP, nrow k32 32 (.slice A6 U.length c6) U]) (hu : U.length ≤ 1000000) (hL : rJ.length ≤ 1000000) (hP : rP.length ≤ 1000000) (hu0 : U.length ≠ 0) (hp : (rP.length : Int) ≥ push) :
  Calls Tryd.prog 59 #[.pointer (some ⟨g, 0, none⟩)] w fun e_ w' => e_ = .returned (.tuple #[.agg #[.int .i64 0, .int .i64 0, .slice none 0 0], .int .i64 7]) ∧ Own N w' [cells gj #[.int .i64 jo, .int .i64 jm, .slice AJ rJ.length cJ] 64, nrow (Kd.raw 3) 35 (.slice AJ rJ.length cJ) rJ, cells g #[.pointer (some ⟨gj, 0, none⟩), .int .i64 o, .int .i64 mtu, .int .i64 push, vk, .slice A5 rP.length c5, .slice A6 U.length c6] 44, nrow (Kd.raw 3) 35 (.slice A5 rP.length c5) rP, nrow k32 32 (.slice A6 U.length c6) U] ∧ KeepS N w w' := by
 have d1 : ((U.length : Int) == 0) = false := beq_eq_false_iff_ne.mpr (by omega)
 have d2 : decide ((rP.length : Int) ≥ push) = true := decide_eq_true hp
 have d3 : decide (push ≤ (rP.length : Int)) = true := d2
 have HUL := Aside0.mk hu
 have HL := Aside0.mk hL
 have HP := Aside0.mk hP
 have O0 : Aside0 (Own N w [cells gj #[.int .i64 jo, .int .i64 jm, .slice AJ rJ.length cJ] 64, nrow (Kd.raw 3) 35 (.slice AJ rJ.length cJ) rJ, cells g #[.pointer (some ⟨gj, 0, none⟩), .int .i64 o, .int .i64 mtu, .int .i64 push, vk, .slice A5 rP.length c5, .slice A6 U.length c6] 44, nrow (Kd.raw 3) 35 (.slice A5 rP.length c5) rP, nrow k32 32 (.slice A6 U.length c6) U]) := ⟨h⟩
 have K0 : Aside0 (KeepS N w w) := ⟨KeepS.refl _ _⟩
 have a0 := k3_ O0 0
 have a2 := k7_ O0 2
 clear h hu hL hP hu0 hp
 go_enter Tryd.func59, Tryd.ntmps59
 go_wp2_with (first | ((with_reducible refine gD 2 rfl ?_); refine bP 2 #[.int .i64 0, .int .i64 0, .slice none 0 0] 35 O0.out ?_; intro gz w1 o_ k_; obtain ⟨O1, K1⟩ := ok_ K0 o_ k_; clear a0 a2 O0 K0 o_ k_; have a0 := k3_ O1 0; have a2 := k7_ O1 2; have a5 := k3_ O1 5))
 refine sP (n := 10) (S := c7_ g (.pointer (some ⟨gj, 0, none⟩)) (.int .i64 o) (.int .i64 mtu) (.int .i64 push) (vk) (.slice A5 rP.length c5) (.slice A6 U.length c6)) (ds := []) (p7_ a2) (fun hHeld => ?_)
 obtain ⟨w2, hw_⟩ : ∃ W, W = w1.drew := ⟨_, rfl⟩
 have o_ := O1.out.drew
 have k_ : KeepS N w1 w1.drew := KeepS.drew
 rw [← hw_] at o_ k_ hHeld ⊢
 clear hw_
 obtain ⟨O2, K2⟩ := ok_ K1 o_ k_
 clear a0 a2 a5 O1 K1 o_ k_
 have a0 := k3_ O2 0
 have a2 := k7_ O2 2
 have a5 := k3_ O2 5
 refine pP 0 (some 13) ?_
 refine pP 1 (some 14) ?_
 refine pP 2 (some 15) ?_
 refine pP 5 (some 18) ?_
 refine pP 6 (some 19) ?_
 refine pP 7 (some 20) ?_
 refine tP 3 (some 16) hHeld ?_
 refine pP 4 (some 17) ?_
 refine tP 8 (some 21) hHeld ?_
 refine pP 9 (some 22) ?_
 refine done_ (by kernel_rfl) ?_
 clear hHeld
 go_wp2_with (first | ((with_reducible refine gT 35 2 rfl ?_); refine wS 5 0 [.int .i64 0, .int .i64 0, .slice none 0 0] O2 ?_; intro w3 o_ k_; obtain ⟨O3, K3⟩ := ok_ K2 o_ k_; clear a0 a2 a5 O2 K2 o_ k_; have a0 := k3_ O3 0; have a2 := k7_ O3 2; have a5 := k3_ O3 5))
 refine bodyPost_ret (results_ct rfl _ _ gz 35 #[.int .i64 0, .int .i64 0, .slice none 0 0] (0, 0) _ rfl (O3.out.blk (i := 5) rfl) Tryd.underlying35 rfl (by kernel_rfl)) rfl ?_
 exact ⟨rfl, O3.out.take 5, K3.out⟩
theorem DPush_err {N : Nat → Prop} {w : World} {g gj : Nat} {vk : Value} {o mtu push jo jm : Int} {AJ A5 A6 : Option Addr} {cJ c5 c6 : Nat} {rJ rP : List (List Value)} {U : List Upd7} (h : Own N w [cells gj #[.int .i64 jo, .int .i64 jm, .slice AJ rJ.length cJ] 64, nrow (Kd.raw 3) 35 (.slice AJ rJ.length cJ) rJ, cells g #[.pointer (some ⟨gj, 0, none⟩), .int .i64 o, .int .i64 mtu, .int .i64 push, vk, .slice A5 rP.length c5, .slice A6 U.length c6] 44, nrow (Kd.raw 3) 35 (.slice A5 rP.length c5) rP, nrow k32 32 (.slice A6 U.length c6) U]) (hu : U.length ≤ 1000000) (hL : rJ.length ≤ 1000000) (hP : rP.length ≤ 1000000) (E : Int) (hu0 : U.length ≠ 0) (hp : ¬ (rP.length : Int) ≥ push) (hE : dE jo jm rJ.length U = E) (h0 : E ≠ 0) :
  Calls Tryd.prog 59 #[.pointer (some ⟨g, 0, none⟩)] w fun e_ w' => e_ = .returned (.tuple #[.agg #[.int .i64 0, .int .i64 0, .slice none 0 0], .int .i64 E]) ∧ Own N w' [cells gj #[.int .i64 jo, .int .i64 jm, .slice AJ rJ.length cJ] 64, nrow (Kd.raw 3) 35 (.slice AJ rJ.length cJ) rJ, cells g #[.pointer (some ⟨gj, 0, none⟩), .int .i64 o, .int .i64 mtu, .int .i64 push, vk, .slice A5 rP.length c5, .slice A6 U.length c6] 44, nrow (Kd.raw 3) 35 (.slice A5 rP.length c5) rP, nrow k32 32 (.slice A6 U.length c6) U] ∧ KeepS N w w' := by
 have d1 : ((U.length : Int) == 0) = false := beq_eq_false_iff_ne.mpr (by omega)
 have d2 : decide ((rP.length : Int) ≥ push) = false := decide_eq_false (by omega)
 have d3 : decide (push ≤ (rP.length : Int)) = false := d2
 have d4 : (E != 0) = true := bne_iff_ne.mpr h0
 have HE := Aside0.mk hE
 have HE0 := Aside0.mk h0
 have HUL := Aside0.mk hu
 have HL := Aside0.mk hL
 have HP := Aside0.mk hP
 have O0 : Aside0 (Own N w [cells gj #[.int .i64 jo, .int .i64 jm, .slice AJ rJ.length cJ] 64, nrow (Kd.raw 3) 35 (.slice AJ rJ.length cJ) rJ, cells g #[.pointer (some ⟨gj, 0, none⟩), .int .i64 o, .int .i64 mtu, .int .i64 push, vk, .slice A5 rP.length c5, .slice A6 U.length c6] 44, nrow (Kd.raw 3) 35 (.slice A5 rP.length c5) rP, nrow k32 32 (.slice A6 U.length c6) U]) := ⟨h⟩
 have K0 : Aside0 (KeepS N w w) := ⟨KeepS.refl _ _⟩
 have a0 := k3_ O0 0
 have a2 := k7_ O0 2
 clear h hu hL hP hu0 hp hE h0
 go_enter Tryd.func59, Tryd.ntmps59
 go_wp2_with (first | ((with_reducible refine gD 2 rfl ?_); refine bP 2 #[.int .i64 0, .int .i64 0, .slice none 0 0] 35 O0.out ?_; intro gz w1 o_ k_; obtain ⟨O1, K1⟩ := ok_ K0 o_ k_; clear a0 a2 O0 K0 o_ k_; have a0 := k3_ O1 0; have a2 := k7_ O1 2; have a5 := k3_ O1 5))
 refine sP (n := 10) (S := c7_ g (.pointer (some ⟨gj, 0, none⟩)) (.int .i64 o) (.int .i64 mtu) (.int .i64 push) (vk) (.slice A5 rP.length c5) (.slice A6 U.length c6)) (ds := []) (p7_ a2) (fun hHeld => ?_)
 obtain ⟨w2, hw_⟩ : ∃ W, W = w1.drew := ⟨_, rfl⟩
 have o_ := O1.out.drew
 have k_ : KeepS N w1 w1.drew := KeepS.drew
 rw [← hw_] at o_ k_ hHeld ⊢
 clear hw_
 obtain ⟨O2, K2⟩ := ok_ K1 o_ k_
 clear a0 a2 a5 O1 K1 o_ k_
 have a0 := k3_ O2 0
 have a2 := k7_ O2 2
 have a5 := k3_ O2 5
 refine pP 0 (some 13) ?_
 refine pP 1 (some 14) ?_
 refine pP 2 (some 15) ?_
 refine pP 5 (some 18) ?_
 refine pP 6 (some 19) ?_
 refine pP 7 (some 20) ?_
 refine tP 3 (some 16) hHeld ?_
 refine pP 4 (some 17) ?_
 refine tP 8 (some 21) hHeld ?_
 refine pP 9 (some 22) ?_
 refine done_ (by kernel_rfl) ?_
 clear hHeld
 go_wp2
 refine sP (n := 15) (S := c7_ g (.pointer (some ⟨gj, 0, none⟩)) (.int .i64 o) (.int .i64 mtu) (.int .i64 push) (vk) (.slice A5 rP.length c5) (.slice A6 U.length c6)) (ds := []) (p7_ a2) (fun hHeld => ?_)
 obtain ⟨w3, hw_⟩ : ∃ W, W = w2.drew := ⟨_, rfl⟩
 have o_ := O2.out.drew
 have k_ : KeepS N w2 w2.drew := KeepS.drew
 rw [← hw_] at o_ k_ hHeld ⊢
 clear hw_
 obtain ⟨O3, K3⟩ := ok_ K2 o_ k_
 clear a0 a2 a5 O2 K2 o_ k_
 have a0 := k3_ O3 0
 have a2 := k7_ O3 2
 have a5 := k3_ O3 5
 refine pP 0 (some 25) ?_
 refine pP 1 (some 26) ?_
 refine pP 2 (some 27) ?_
 refine pP 4 (some 29) ?_
 refine pP 5 (some 30) ?_
 refine pP 6 (some 31) ?_
 refine tP 3 (some 28) hHeld ?_
 refine tP 7 (some 32) hHeld ?_
 refine join_ (σ := Nat) 2 #[true, true, true, true, true, true, true, true, true, true, true, true, true, false, false] (fun gr => [(33, .tuple #[.agg #[.int .i64 0, .int .i64 0, .slice none 0 0], .int .i64 E]), (24, .tuple #[.agg #[.int .i64 0, .int .i64 0, .slice none 0 0], .int .i64 E]), (34, .agg #[.int .i64 0, .int .i64 0, .slice none 0 0]), (35, .int .i64 E), (4, .pointer (some ⟨gr, 0, none⟩))]) (fun gr w' => Own N w' [cells gj #[.int .i64 jo, .int .i64 jm, .slice AJ rJ.length cJ] 64, nrow (Kd.raw 3) 35 (.slice AJ rJ.length cJ) rJ, cells g #[.pointer (some ⟨gj, 0, none⟩), .int .i64 o, .int .i64 mtu, .int .i64 push, vk, .slice A5 rP.length c5, .slice A6 U.length c6] 44, nrow (Kd.raw 3) 35 (.slice A5 rP.length c5) rP, nrow k32 32 (.slice A6 U.length c6) U, cells gz #[.int .i64 0, .int .i64 0, .slice none 0 0] 35, cells gr #[.int .i64 0, .int .i64 0, .slice none 0 0] 35] ∧ KeepS N w3 w') ?hcont ?hways
 case hways =>
  intro hc_
  have K4 : Aside0 (KeepS N w3 w3) := ⟨KeepS.refl _ _⟩
  have O4 : Aside0 (Own N w3 [cells gj #[.int .i64 jo, .int .i64 jm, .slice AJ rJ.length cJ] 64, nrow (Kd.raw 3) 35 (.slice AJ rJ.length cJ) rJ, cells g #[.pointer (some ⟨gj, 0, none⟩), .int .i64 o, .int .i64 mtu, .int .i64 push, vk, .slice A5 rP.length c5, .slice A6 U.length c6] 44, nrow (Kd.raw 3) 35 (.slice A5 rP.length c5) rP, nrow k32 32 (.slice A6 U.length c6) U, cells gz #[.int .i64 0, .int .i64 0, .slice none 0 0] 35]) := O3
  refine tW_ 8 12 (some 33) (some 4) (fun K_ hK_ => ?_) (fun K_ hK_ => ?_)
  ·skip
   refine hP Tryd.func89 #[.pointer (some ⟨gj, 0, none⟩), .slice A6 U.length c6] ?_
   obtain ⟨N_, on_, nn_, rr_, bb_⟩ := O4.out.frameL [0, 1] (by decide) (by simp)
   have hu_ := Kd.N_F (rr_ 4 _ (by decide) rfl)
   have hc_ := (O4.out.nreads (i := 4) rfl).2.1
   refine (DJAdd_E E A6 c6 U on_ hu_ hc_ HL.out HUL.out HE.out HE0.out).mono ?_
   rintro e_ w5 ⟨rfl, oo_, kk_⟩
   obtain ⟨o_, k_⟩ := bb_ _ [cells gj #[.int .i64 jo, .int .i64 jm, .slice AJ rJ.length cJ] 64, nrow (Kd.raw 3) 35 (.slice AJ rJ.length cJ) rJ] [] rfl kk_ oo_
   refine ⟨_, rfl, ?_⟩
   obtain ⟨O5, K5⟩ := ok_ K4 o_ k_
   clear a0 a2 a5 O4 K4 o_ k_ oo_ kk_ on_ nn_ rr_ bb_ hu_ hc_
   have a0 := k3_ O5 0
   have a2 := k7_ O5 2
   have a5 := k3_ O5 5
   clear hHeld
   refine hK_.out _ _ (p7_ a2) (fun hHeld => ?_)
   clear hK_ K_
   refine nR_ ?_
   refine pP 9 (some 24) ?_
   refine pP 10 (some 34) ?_
   refine pP 11 (some 35) ?_
   refine oP 12 (some 4) (fun K_ hK_ => ?_)
   refine cP #[.int .i64 0, .int .i64 0, .slice none 0 0] 35 O5.out ?_
   intro gr w6 o_ k_
   obtain ⟨O6, K6⟩ := ok_ K5 o_ k_
   clear a0 a2 a5 O5 K5 o_ k_
   have a0 := k3_ O6 0
   have a2 := k7_ O6 2
   have a5 := k3_ O6 5
   have a6 := k3_ O6 6
   clear hHeld
   refine hK_.out _ _ (p7_ a2) (fun hHeld => ?_)
   clear hK_ K_
   refine nR_ ?_
   refine norm_ (a' := _) ?_ (hc_ gr _ ⟨?_, K6.out⟩)
   ·simp only [putAll, Act.put, List.setIfInBounds_toArray, List.set_cons_zero, List.set_cons_succ]
    try rfl
   ·exact O6.out.pickL [0, 1, 2, 3, 4, 5, 6] (by decide) (by simp)
  ·skip
   refine cP #[.int .i64 0, .int .i64 0, .slice none 0 0] 35 O4.out ?_
   intro gr w5 o_ k_
   obtain ⟨O5, K5⟩ := ok_ K4 o_ k_
   clear a0 a2 a5 O4 K4 o_ k_
   have a0 := k3_ O5 0
   have a2 := k7_ O5 2
   have a5 := k3_ O5 5
   have a6 := k3_ O5 6
   clear hHeld
   refine hK_.out _ _ (p7_ a2) (fun hHeld => ?_)
   clear hK_ K_
   refine nR_ ?_
   refine oP 8 (some 33) (fun K_ hK_ => ?_)
   refine hP Tryd.func89 #[.pointer (some ⟨gj, 0, none⟩), .slice A6 U.length c6] ?_
   obtain ⟨N_, on_, nn_, rr_, bb_⟩ := O5.out.frameL [0, 1] (by decide) (by simp)
   have hu_ := Kd.N_F (rr_ 4 _ (by decide) rfl)
   have hc_ := (O5.out.nreads (i := 4) rfl).2.1
   refine (DJAdd_E E A6 c6 U on_ hu_ hc_ HL.out HUL.out HE.out HE0.out).mono ?_
   rintro e_ w6 ⟨rfl, oo_, kk_⟩
   obtain ⟨o_, k_⟩ := bb_ _ [cells gj #[.int .i64 jo, .int .i64 jm, .slice AJ rJ.length cJ] 64, nrow (Kd.raw 3) 35 (.slice AJ rJ.length cJ) rJ] [] rfl kk_ oo_
   refine ⟨_, rfl, ?_⟩
   obtain ⟨O6, K6⟩ := ok_ K5 o_ k_
   clear a0 a2 a5 a6 O5 K5 o_ k_ oo_ kk_ on_ nn_ rr_ bb_ hu_ hc_
   have a0 := k3_ O6 0
   have a2 := k7_ O6 2
   have a5 := k3_ O6 5
   have a6 := k3_ O6 6
   clear hHeld
   refine hK_.out _ _ (p7_ a2) (fun hHeld => ?_)
   clear hK_ K_
   refine nR_ ?_
   refine pP 9 (some 24) ?_
   refine pP 10 (some 34) ?_
   refine pP 11 (some 35) ?_
   refine norm_ (a' := _) ?_ (hc_ gr _ ⟨?_, K6.out⟩)
   ·simp only [putAll, Act.put, List.setIfInBounds_toArray, List.set_cons_zero, List.set_cons_succ]
    try rfl
   ·exact O6.out.pickL [0, 1, 2, 3, 4, 5, 6] (by decide) (by simp)
 case hcont =>
  clear hHeld
  rintro gr w4 ⟨o_, k_⟩
  obtain ⟨O4, K4⟩ := ok_ K3 o_ k_
  clear a0 a2 a5 O3 K3 o_ k_
  have a0 := k3_ O4 0
  have a2 := k7_ O4 2
  have a5 := k3_ O4 5
  have a6 := k3_ O4 6
  refine nA_ ?_
  have hHeld : w4.cell? ⟨g, 0, none⟩ = some (.pointer (some ⟨gj, 0, none⟩)) ∧ w4.cell? ⟨g, 1, none⟩ = some (.int .i64 o) ∧ w4.cell? ⟨g, 2, none⟩ = some (.int .i64 mtu) ∧ w4.cell? ⟨g, 3, none⟩ = some (.int .i64 push) ∧ w4.cell? ⟨g, 4, none⟩ = some (vk) ∧ w4.cell? ⟨g, 5, none⟩ = some (.slice A5 rP.length c5) ∧ w4.cell? ⟨g, 6, none⟩ = some (.slice A6 U.length c6) := (p7_ a2)
  refine oP 13 none (fun K_ hK_ => ?_)
  refine xS 6 0 [.int .i64 0, .int .i64 0, .slice none 0 0] O4 ?_
  intro w5 o_ k_
  obtain ⟨O5, K5⟩ := ok_ K4 o_ k_
  clear a0 a2 a5 a6 O4 K4 o_ k_
  have a0 := k3_ O5 0
  have a2 := k7_ O5 2
  have a5 := k3_ O5 5
  have a6 := k3_ O5 6
  clear hHeld
  refine hK_.out _ _ (p7_ a2) (fun hHeld => ?_)
  clear hK_ K_
  refine pP 14 (some 5) ?_
  refine done_ (by kernel_rfl) ?_
  clear hHeld
  go_wp2_with (first | ((with_reducible refine gT 35 2 rfl ?_); refine wS 5 0 [.int .i64 0, .int .i64 0, .slice none 0 0] O5 ?_; intro w6 o_ k_; obtain ⟨O6, K6⟩ := ok_ K5 o_ k_; clear a0 a2 a5 a6 O5 K5 o_ k_; have a0 := k3_ O6 0; have a2 := k7_ O6 2; have a5 := k3_ O6 5; have a6 := k3_ O6 6))
  refine bodyPost_ret (results_ct rfl _ _ gz 35 #[.int .i64 0, .int .i64 0, .slice none 0 0] (0, 0) _ rfl (O6.out.blk (i := 5) rfl) Tryd.underlying35 rfl (by kernel_rfl)) rfl ?_
  exact ⟨rfl, O6.out.take 5, K6.out⟩
theorem DPush_ok {N : Nat → Prop} {w : World} {g gj : Nat} {vk : Value} {o mtu push jo jm : Int} {AJ A5 A6 : Option Addr} {cJ c5 c6 : Nat} {rJ rP : List (List Value)} {U : List Upd7} (h : Own N w [cells gj #[.int .i64 jo, .int .i64 jm, .slice AJ rJ.length cJ] 64, nrow (Kd.raw 3) 35 (.slice AJ rJ.length cJ) rJ, cells g #[.pointer (some ⟨gj, 0, none⟩), .int .i64 o, .int .i64 mtu, .int .i64 push, vk, .slice A5 rP.length c5, .slice A6 U.length c6] 44, nrow (Kd.raw 3) 35 (.slice A5 rP.length c5) rP, nrow k32 32 (.slice A6 U.length c6) U]) (hu : U.length ≤ 1000000) (hL : rJ.length ≤ 1000000) (hP : rP.length ≤ 1000000) (n1 : Int) (hu0 : U.length ≠ 0) (hp : ¬ (rP.length : Int) ≥ push) (hE : dE jo jm rJ.length U = 0) (hn : (rJ.length : Int) + 1 = n1) :
  Calls Tryd.prog 59 #[.pointer (some ⟨g, 0, none⟩)] w fun e_ w' => ∃ B1 b1_ C5 e5 C4 e4, e_ = .returned (.tuple #[.agg #[.int .i64 jo, .int .i64 n1, .slice B1 U.length b1_], .int .i64 0]) ∧ U.length ≤ b1_ ∧ Own N w' [cells gj #[.int .i64 jo, .int .i64 jm, .slice C5 (rJ ++ [rw3 jo n1 (.slice B1 U.length b1_)]).length e5] 64, nrow (Kd.raw 3) 35 (.slice C5 (rJ ++ [rw3 jo n1 (.slice B1 U.length b1_)]).length e5) (rJ ++ [rw3 jo n1 (.slice B1 U.length b1_)]), cells g #[.pointer (some ⟨gj, 0, none⟩), .int .i64 o, .int .i64 mtu, .int .i64 push, vk, .slice C4 (rP ++ [rw3 jo n1 (.slice B1 U.length b1_)]).length e4, .slice none 0 0] 44, nrow (Kd.raw 3) 35 (.slice C4 (rP ++ [rw3 jo n1 (.slice B1 U.length b1_)]).length e4) (rP ++ [rw3 jo n1 (.slice B1 U.length b1_)]), nrow k32 32 (.slice B1 U.length b1_) U] ∧ KeepS N w w' := by
 have d1 : ((U.length : Int) == 0) = false := beq_eq_false_iff_ne.mpr (by omega)
 have d2 : decide ((rP.length : Int) ≥ push) = false := decide_eq_false (by omega)
 have d3 : decide (push ≤ (rP.length : Int)) = false := d2
 have d4 : ((0 : Int) != 0) = false := by decide
 have HE := Aside0.mk hE
 have HN1 := Aside0.mk hn
 have HUL := Aside0.mk hu
 have HL := Aside0.mk hL
 have HP := Aside0.mk hP
 have O0 : Aside0 (Own N w [cells gj #[.int .i64 jo, .int .i64 jm, .slice AJ rJ.length cJ] 64, nrow (Kd.raw 3) 35 (.slice AJ rJ.length cJ) rJ, cells g #[.pointer (some ⟨gj, 0, none⟩), .int .i64 o, .int .i64 mtu, .int .i64 push, vk, .slice A5 rP.length c5, .slice A6 U.length c6] 44, nrow (Kd.raw 3) 35 (.slice A5 rP.length c5) rP, nrow k32 32 (.slice A6 U.length c6) U]) := ⟨h⟩
 have K0 : Aside0 (KeepS N w w) := ⟨KeepS.refl _ _⟩
 have a0 := k3_ O0 0
 have a2 := k7_ O0 2
 clear h hu hL hP hu0 hp hE hn
 go_enter Tryd.func59, Tryd.ntmps59
 go_wp2_with (first | ((with_reducible refine gD 2 rfl ?_); refine bP 2 #[.int .i64 0, .int .i64 0, .slice none 0 0] 35 O0.out ?_; intro gz w1 o_ k_; obtain ⟨O1, K1⟩ := ok_ K0 o_ k_; clear a0 a2 O0 K0 o_ k_; have a0 := k3_ O1 0; have a2 := k7_ O1 2; have a5 := k3_ O1 5))
 refine sP (n := 10) (S := c7_ g (.pointer (some ⟨gj, 0, none⟩)) (.int .i64 o) (.int .i64 mtu) (.int .i64 push) (vk) (.slice A5 rP.length c5) (.slice A6 U.length c6)) (ds := []) (p7_ a2) (fun hHeld => ?_)
 obtain ⟨w2, hw_⟩ : ∃ W, W = w1.drew := ⟨_, rfl⟩
 have o_ := O1.out.drew
 have k_ : KeepS N w1 w1.drew := KeepS.drew
 rw [← hw_] at o_ k_ hHeld ⊢
 clear hw_
 obtain ⟨O2, K2⟩ := ok_ K1 o_ k_
 clear a0 a2 a5 O1 K1 o_ k_
 have a0 := k3_ O2 0
 have a2 := k7_ O2 2
 have a5 := k3_ O2 5
 refine pP 0 (some 13) ?_
 refine pP 1 (some 14) ?_
 refine pP 2 (some 15) ?_
 refine pP 5 (some 18) ?_
 refine pP 6 (some 19) ?_
 refine pP 7 (some 20) ?_
 refine tP 3 (some 16) hHeld ?_
 refine pP 4 (some 17) ?_
 refine tP 8 (some 21) hHeld ?_
 refine pP 9 (some 22) ?_
 refine done_ (by kernel_rfl) ?_
 clear hHeld
 go_wp2
 refine sP (n := 15) (S := c7_ g (.pointer (some ⟨gj, 0, none⟩)) (.int .i64 o) (.int .i64 mtu) (.int .i64 push) (vk) (.slice A5 rP.length c5) (.slice A6 U.length c6)) (ds := []) (p7_ a2) (fun hHeld => ?_)
 obtain ⟨w3, hw_⟩ : ∃ W, W = w2.drew := ⟨_, rfl⟩
 have o_ := O2.out.drew
 have k_ : KeepS N w2 w2.drew := KeepS.drew
 rw [← hw_] at o_ k_ hHeld ⊢
 clear hw_
 obtain ⟨O3, K3⟩ := ok_ K2 o_ k_
 clear a0 a2 a5 O2 K2 o_ k_
 have a0 := k3_ O3 0
 have a2 := k7_ O3 2
 have a5 := k3_ O3 5
 refine pP 0 (some 25) ?_
 refine pP 1 (some 26) ?_
 refine pP 2 (some 27) ?_
 refine pP 4 (some 29) ?_
 refine pP 5 (some 30) ?_
 refine pP 6 (some 31) ?_
 refine tP 3 (some 28) hHeld ?_
 refine tP 7 (some 32) hHeld ?_
 refine join_ (σ := Option Addr × Nat × Option Addr × Nat × Nat) 2 #[true, true, true, true, true, true, true, true, true, true, true, true, true, false, false] (fun ⟨B1, b1_, C5, e5, gr⟩ => [(33, .tuple #[.agg #[.int .i64 jo, .int .i64 n1, .slice B1 U.length b1_], .int .i64 0]), (24, .tuple #[.agg #[.int .i64 jo, .int .i64 n1, .slice B1 U.length b1_], .int .i64 0]), (34, .agg #[.int .i64 jo, .int .i64 n1, .slice B1 U.length b1_]), (35, .int .i64 0), (4, .pointer (some ⟨gr, 0, none⟩))]) (fun ⟨B1, b1_, C5, e5, gr⟩ w' => Own N w' [cells gj #[.int .i64 jo, .int .i64 jm, .slice C5 (rJ ++ [rw3 jo n1 (.slice B1 U.length b1_)]).length e5] 64, nrow (Kd.raw 3) 35 (.slice C5 (rJ ++ [rw3 jo n1 (.slice B1 U.length b1_)]).length e5) (rJ ++ [rw3 jo n1 (.slice B1 U.length b1_)]), cells g #[.pointer (some ⟨gj, 0, none⟩), .int .i64 o, .int .i64 mtu, .int .i64 push, vk, .slice A5 rP.length c5, .slice A6 U.length c6] 44, nrow (Kd.raw 3) 35 (.slice A5 rP.length c5) rP, nrow k32 32 (.slice A6 U.length c6) U, cells gz #[.int .i64 0, .int .i64 0, .slice none 0 0] 35, nrow k32 32 (.slice B1 U.length b1_) U, cells gr #[.int .i64 0, .int .i64 0, .slice none 0 0] 35] ∧ KeepS N w3 w') ?hcont ?hways
 case hways =>
  intro hc_
  have K4 : Aside0 (KeepS N w3 w3) := ⟨KeepS.refl _ _⟩
  have O4 : Aside0 (Own N w3 [cells gj #[.int .i64 jo, .int .i64 jm, .slice AJ rJ.length cJ] 64, nrow (Kd.raw 3) 35 (.slice AJ rJ.length cJ) rJ, cells g #[.pointer (some ⟨gj, 0, none⟩), .int .i64 o, .int .i64 mtu, .int .i64 push, vk, .slice A5 rP.length c5, .slice A6 U.length c6] 44, nrow (Kd.raw 3) 35 (.slice A5 rP.length c5) rP, nrow k32 32 (.slice A6 U.length c6) U, cells gz #[.int .i64 0, .int .i64 0, .slice none 0 0] 35]) := O3
  refine tW_ 8 12 (some 33) (some 4) (fun K_ hK_ => ?_) (fun K_ hK_ => ?_)
  ·skip
   refine hP Tryd.func89 #[.pointer (some ⟨gj, 0, none⟩), .slice A6 U.length c6] ?_
   obtain ⟨N_, on_, nn_, rr_, bb_⟩ := O4.out.frameL [0, 1] (by decide) (by simp)
   have hu_ := Kd.N_F (rr_ 4 _ (by decide) rfl)
   have hc_ := (O4.out.nreads (i := 4) rfl).2.1
   refine (DJAdd_y n1 A6 c6 U on_ hu_ hc_ HL.out HUL.out HE.out HN1.out).mono ?_
   rintro e_ w5 ⟨B1, b1_, C5, e5, rfl, hb1_, oo_, kk_⟩
   obtain ⟨o_, k_⟩ := bb_ _ [cells gj #[.int .i64 jo, .int .i64 jm, .slice C5 (rJ ++ [rw3 jo n1 (.slice B1 U.length b1_)]).length e5] 64, nrow (Kd.raw 3) 35 (.slice C5 (rJ ++ [rw3 jo n1 (.slice B1 U.length b1_)]).length e5) (rJ ++ [rw3 jo n1 (.slice B1 U.length b1_)])] [nrow k32 32 (.slice B1 U.length b1_) U] rfl kk_ oo_
   refine ⟨_, rfl, ?_⟩
   obtain ⟨O5, K5⟩ := ok_ K4 o_ k_
   clear a0 a2 a5 O4 K4 o_ k_ oo_ kk_ on_ nn_ rr_ bb_ hu_ hc_ hb1_
   have a0 := k3_ O5 0
   have a2 := k7_ O5 2
   have a5 := k3_ O5 5
   clear hHeld
   refine hK_.out _ _ (p7_ a2) (fun hHeld => ?_)
   clear hK_ K_
   refine nR_ ?_
   refine pP 9 (some 24) ?_
   refine pP 10 (some 34) ?_
   refine pP 11 (some 35) ?_
   refine oP 12 (some 4) (fun K_ hK_ => ?_)
   refine cP #[.int .i64 0, .int .i64 0, .slice none 0 0] 35 O5.out ?_
   intro gr w6 o_ k_
   obtain ⟨O6, K6⟩ := ok_ K5 o_ k_
   clear a0 a2 a5 O5 K5 o_ k_
   have a0 := k3_ O6 0
   have a2 := k7_ O6 2
   have a5 := k3_ O6 5
   have a7 := k3_ O6 7
   clear hHeld
   refine hK_.out _ _ (p7_ a2) (fun hHeld => ?_)
   clear hK_ K_
   refine nR_ ?_
   refine norm_ (a' := _) ?_ (hc_ ⟨B1, b1_, C5, e5, gr⟩ _ ⟨?_, K6.out⟩)
   ·simp only [putAll, Act.put, List.setIfInBounds_toArray, List.set_cons_zero, List.set_cons_succ]
    try rfl
   ·exact O6.out.pickL [0, 1, 2, 3, 4, 5, 6, 7] (by decide) (by simp)
  ·skip
   refine cP #[.int .i64 0, .int .i64 0, .slice none 0 0] 35 O4.out ?_
   intro gr w5 o_ k_
   obtain ⟨O5, K5⟩ := ok_ K4 o_ k_
   clear a0 a2 a5 O4 K4 o_ k_
   have a0 := k3_ O5 0
   have a2 := k7_ O5 2
   have a5 := k3_ O5 5
   have a6 := k3_ O5 6
   clear hHeld
   refine hK_.out _ _ (p7_ a2) (fun hHeld => ?_)
   clear hK_ K_
   refine nR_ ?_
   refine oP 8 (some 33) (fun K_ hK_ => ?_)
   refine hP Tryd.func89 #[.pointer (some ⟨gj, 0, none⟩), .slice A6 U.length c6] ?_
   obtain ⟨N_, on_, nn_, rr_, bb_⟩ := O5.out.frameL [0, 1] (by decide) (by simp)
   have hu_ := Kd.N_F (rr_ 4 _ (by decide) rfl)
   have hc_ := (O5.out.nreads (i := 4) rfl).2.1
   refine (DJAdd_y n1 A6 c6 U on_ hu_ hc_ HL.out HUL.out HE.out HN1.out).mono ?_
   rintro e_ w6 ⟨B1, b1_, C5, e5, rfl, hb1_, oo_, kk_⟩
   obtain ⟨o_, k_⟩ := bb_ _ [cells gj #[.int .i64 jo, .int .i64 jm, .slice C5 (rJ ++ [rw3 jo n1 (.slice B1 U.length b1_)]).length e5] 64, nrow (Kd.raw 3) 35 (.slice C5 (rJ ++ [rw3 jo n1 (.slice B1 U.length b1_)]).length e5) (rJ ++ [rw3 jo n1 (.slice B1 U.length b1_)])] [nrow k32 32 (.slice B1 U.length b1_) U] rfl kk_ oo_
   refine ⟨_, rfl, ?_⟩
   obtain ⟨O6, K6⟩ := ok_ K5 o_ k_
   clear a0 a2 a5 a6 O5 K5 o_ k_ oo_ kk_ on_ nn_ rr_ bb_ hu_ hc_ hb1_
   have a0 := k3_ O6 0
   have a2 := k7_ O6 2
   have a5 := k3_ O6 5
   have a6 := k3_ O6 6
   clear hHeld
   refine hK_.out _ _ (p7_ a2) (fun hHeld => ?_)
   clear hK_ K_
   refine nR_ ?_
   refine pP 9 (some 24) ?_
   refine pP 10 (some 34) ?_
   refine pP 11 (some 35) ?_
   refine norm_ (a' := _) ?_ (hc_ ⟨B1, b1_, C5, e5, gr⟩ _ ⟨?_, K6.out⟩)
   ·simp only [putAll, Act.put, List.setIfInBounds_toArray, List.set_cons_zero, List.set_cons_succ]
    try rfl
   ·exact O6.out.pickL [0, 1, 2, 3, 4, 5, 7, 6] (by decide) (by simp)
 case hcont =>
  clear hHeld
  rintro ⟨B1, b1_, C5, e5, gr⟩ w4 ⟨o_, k_⟩
  obtain ⟨O4, K4⟩ := ok_ K3 o_ k_
  clear a0 a2 a5 O3 K3 o_ k_
  have a0 := k3_ O4 0
  have a2 := k7_ O4 2
  have a5 := k3_ O4 5
  have a7 := k3_ O4 7
  refine nA_ ?_
  have hHeld : w4.cell? ⟨g, 0, none⟩ = some (.pointer (some ⟨gj, 0, none⟩)) ∧ w4.cell? ⟨g, 1, none⟩ = some (.int .i64 o) ∧ w4.cell? ⟨g, 2, none⟩ = some (.int .i64 mtu) ∧ w4.cell? ⟨g, 3, none⟩ = some (.int .i64 push) ∧ w4.cell? ⟨g, 4, none⟩ = some (vk) ∧ w4.cell? ⟨g, 5, none⟩ = some (.slice A5 rP.length c5) ∧ w4.cell? ⟨g, 6, none⟩ = some (.slice A6 U.length c6) := (p7_ a2)
  refine oP 13 none (fun K_ hK_ => ?_)
  refine xS 7 0 [.int .i64 jo, .int .i64 n1, .slice B1 U.length b1_] O4 ?_
  intro w5 o_ k_
  obtain ⟨O5, K5⟩ := ok_ K4 o_ k_
  clear a0 a2 a5 a7 O4 K4 o_ k_
  have a0 := k3_ O5 0
  have a2 := k7_ O5 2
  have a5 := k3_ O5 5
  have a7 := k3_ O5 7
  clear hHeld
  refine hK_.out _ _ (p7_ a2) (fun hHeld => ?_)
  clear hK_ K_
  refine pP 14 (some 5) ?_
  refine done_ (by kernel_rfl) ?_
  clear hHeld
  go_wp2_with (first | ((with_reducible refine gT 33 42 rfl ?_); refine wS 2 6 [.slice none 0 0] O5 ?_; intro w6 o_ k_; obtain ⟨O6, K6⟩ := ok_ K5 o_ k_; clear a0 a2 a5 a7 O5 K5 o_ k_; have a0 := k3_ O6 0; have a2 := k7_ O6 2; have a5 := k3_ O6 5; have a7 := k3_ O6 7))
  refine sP (n := 13) (S := d7_ g (.pointer (some ⟨gj, 0, none⟩)) (.int .i64 o) (.int .i64 mtu) (.int .i64 push) (vk) (.slice A5 rP.length c5) (.slice none 0 0) (c3_ gr (.int .i64 jo) (.int .i64 n1) (.slice B1 U.length b1_))) (ds := [12]) (j7_ a2 (p3_ a7)) (fun hHeld => ?_)
  obtain ⟨w7, hw_⟩ : ∃ W, W = w6.drew := ⟨_, rfl⟩
  have o_ := O6.out.drew
  have k_ : KeepS N w6 w6.drew := KeepS.drew
  rw [← hw_] at o_ k_ hHeld ⊢
  clear hw_
  obtain ⟨O7, K7⟩ := ok_ K6 o_ k_
  clear a0 a2 a5 a7 O6 K6 o_ k_
  have a0 := k3_ O7 0
  have a2 := k7_ O7 2
  have a5 := k3_ O7 5
  have a7 := k3_ O7 7
  refine pP 0 (some 43) ?_
  refine pP 2 (some 45) ?_
  refine pP 3 (some 46) ?_
  refine pP 4 (some 47) ?_
  refine tP 5 (some 48) hHeld ?_
  refine tP 7 (some 50) hHeld ?_
  refine join_ (σ := Option Addr × Nat × Option Addr × Nat × Option Addr × Nat) 4 #[true, true, true, true, true, true, true, true, true, false, false, false, false] (fun ⟨C2, e2, C3, e3, D1, h1_⟩ => [(44, .slice C2 0 e2), (49, .slice C3 rP.length e3), (51, .slice D1 1 h1_)]) (fun ⟨C2, e2, C3, e3, D1, h1_⟩ w' => Own N w' [cells gj #[.int .i64 jo, .int .i64 jm, .slice C5 (rJ ++ [rw3 jo n1 (.slice B1 U.length b1_)]).length e5] 64, nrow (Kd.raw 3) 35 (.slice C5 (rJ ++ [rw3 jo n1 (.slice B1 U.length b1_)]).length e5) (rJ ++ [rw3 jo n1 (.slice B1 U.length b1_)]), cells g #[.pointer (some ⟨gj, 0, none⟩), .int .i64 o, .int .i64 mtu, .int .i64 push, vk, .slice A5 rP.length c5, .slice none 0 0] 44, nrow (Kd.raw 3) 35 (.slice A5 rP.length c5) rP, nrow k32 32 (.slice A6 U.length c6) U, cells gz #[.int .i64 0, .int .i64 0, .slice none 0 0] 35, nrow k32 32 (.slice B1 U.length b1_) U, cells gr #[.int .i64 jo, .int .i64 n1, .slice B1 U.length b1_] 35, nrow (Kd.raw 3) 35 (.slice C3 rP.length e3) rP, nrow (Kd.raw 3) 35 (.slice D1 1 h1_) [rw3 jo n1 (.slice B1 U.length b1_)]] ∧ KeepS N w7 w') ?hcont ?hways
  case hways =>
   intro hc_
   have K8 : Aside0 (KeepS N w7 w7) := ⟨KeepS.refl _ _⟩
   have O8 : Aside0 (Own N w7 [cells gj #[.int .i64 jo, .int .i64 jm, .slice C5 (rJ ++ [rw3 jo n1 (.slice B1 U.length b1_)]).length e5] 64, nrow (Kd.raw 3) 35 (.slice C5 (rJ ++ [rw3 jo n1 (.slice B1 U.length b1_)]).length e5) (rJ ++ [rw3 jo n1 (.slice B1 U.length b1_)]), cells g #[.pointer (some ⟨gj, 0, none⟩), .int .i64 o, .int .i64 mtu, .int .i64 push, vk, .slice A5 rP.length c5, .slice none 0 0] 44, nrow (Kd.raw 3) 35 (.slice A5 rP.length c5) rP, nrow k32 32 (.slice A6 U.length c6) U, cells gz #[.int .i64 0, .int .i64 0, .slice none 0 0] 35, nrow k32 32 (.slice B1 U.length b1_) U, cells gr #[.int .i64 jo, .int .i64 n1, .slice B1 U.length b1_] 35]) := O7
   refine tW_ 1 8 (some 44) (some 51) (fun K_ hK_ => ?_) (fun K_ hK_ => ?_)
   ·skip
    refine own_lit_step (Kd.raw 3) (N := N) (e := 35) (xs := []) (inner := []) rfl rfl gs_ (Reps.none _ _) (by decide) O8.out ?_
    intro C2 e2 w9 o_ k_
    obtain ⟨O9, K9⟩ := ok_ K8 o_ k_
    clear a0 a2 a5 a7 O8 K8 o_ k_
    have a0 := k3_ O9 0
    have a2 := k7_ O9 2
    have a5 := k3_ O9 5
    have a7 := k3_ O9 7
    clear hHeld
    refine hK_.out _ _ (j7_ a2 (p3_ a7)) (fun hHeld => ?_)
    clear hK_ K_
    refine nR_ ?_
    refine tW_ 6 8 (some 49) (some 51) (fun K_ hK_ => ?_) (fun K_ hK_ => ?_)
    ·skip
     refine Own.append_flat_step (Kd.raw 3) flatRaw O9.out (i := 8) rfl (O9.out.nreads (i := 3) rfl).2.2 rfl (by rfl) (.tmp 44) (.tmp 48) 40 (.agg #[.int .i64 0, .int .i64 0, .slice none 0 0]) 40 rfl Tryd.underlying40 infoR rfl (by decide) (by decide) rfl rfl (by have := HP.out; simp only [List.length_nil]; omega) ?_
     intro C3 e3 w10 o_ k_
     obtain ⟨O10, K10⟩ := ok_ K9 o_ k_
     clear a0 a2 a5 a7 O9 K9 o_ k_
     have a0 := k3_ O10 0
     have a2 := k7_ O10 2
     have a5 := k3_ O10 5
     have a7 := k3_ O10 7
     clear hHeld
     refine hK_.out _ _ (j7_ a2 (p3_ a7)) (fun hHeld => ?_)
     clear hK_ K_
     refine nR_ ?_
     refine oP 8 (some 51) (fun K_ hK_ => ?_)
     refine own_lit_step (Kd.raw 3) (N := N) (e := 35) (xs := [rw3 jo n1 (.slice B1 U.length b1_)]) (inner := [.int .i64 jo, .int .i64 n1, .slice B1 U.length b1_]) rfl rfl gs_ (repW _ jo n1 B1 U.length b1_) (by show 1 ≤ 9223372036854775807; decide) O10.out ?_
     intro D1 h1_ w11 o_ k_
     obtain ⟨O11, K11⟩ := ok_ K10 o_ k_
     clear a0 a2 a5 a7 O10 K10 o_ k_
     have a0 := k3_ O11 0
     have a2 := k7_ O11 2
     have a5 := k3_ O11 5
     have a7 := k3_ O11 7
     clear hHeld
     refine hK_.out _ _ (j7_ a2 (p3_ a7)) (fun hHeld => ?_)
     clear hK_ K_
     refine nR_ ?_
     refine norm_ (a' := _) ?_ (hc_ ⟨C2, e2, C3, e3, D1, h1_⟩ _ ⟨?_, K11.out⟩)
     ·simp only [putAll, Act.put, List.setIfInBounds_toArray, List.set_cons_zero, List.set_cons_succ]
      try rfl
     ·exact O11.out.pickL [0, 1, 2, 3, 4, 5, 6, 7, 8, 9] (by decide) (by simp)
    ·skip
     refine own_lit_step (Kd.raw 3) (N := N) (e := 35) (xs := [rw3 jo n1 (.slice B1 U.length b1_)]) (inner := [.int .i64 jo, .int .i64 n1, .slice B1 U.length b1_]) rfl rfl gs_ (repW _ jo n1 B1 U.length b1_) (by show 1 ≤ 9223372036854775807; decide) O9.out ?_
     intro D1 h1_ w10 o_ k_
     obtain ⟨O10, K10⟩ := ok_ K9 o_ k_
     clear a0 a2 a5 a7 O9 K9 o_ k_
     have a0 := k3_ O10 0
     have a2 := k7_ O10 2
     have a5 := k3_ O10 5
     have a7 := k3_ O10 7
     clear hHeld
     refine hK_.out _ _ (j7_ a2 (p3_ a7)) (fun hHeld => ?_)
     clear hK_ K_
     refine nR_ ?_
     refine oP 6 (some 49) (fun K_ hK_ => ?_)
     refine Own.append_flat_step (Kd.raw 3) flatRaw O10.out (i := 8) rfl (O10.out.nreads (i := 3) rfl).2.2 rfl (by rfl) (.tmp 44) (.tmp 48) 40 (.agg #[.int .i64 0, .int .i64 0, .slice none 0 0]) 40 rfl Tryd.underlying40 infoR rfl (by decide) (by decide) rfl rfl (by have := HP.out; simp only [List.length_nil]; omega) ?_
     intro C3 e3 w11 o_ k_
     obtain ⟨O11, K11⟩ := ok_ K10 o_ k_
     clear a0 a2 a5 a7 O10 K10 o_ k_
     have a0 := k3_ O11 0
     have a2 := k7_ O11 2
     have a5 := k3_ O11 5
     have a7 := k3_ O11 7
     clear hHeld
     refine hK_.out _ _ (j7_ a2 (p3_ a7)) (fun hHeld => ?_)
     clear hK_ K_
     refine nR_ ?_
     refine norm_ (a' := _) ?_ (hc_ ⟨C2, e2, C3, e3, D1, h1_⟩ _ ⟨?_, K11.out⟩)
     ·simp only [putAll, Act.put, List.setIfInBounds_toArray, List.set_cons_zero, List.set_cons_succ]
      try rfl
     ·exact O11.out.pickL [0, 1, 2, 3, 4, 5, 6, 7, 8, 9] (by decide) (by simp)
   ·skip
    refine own_lit_step (Kd.raw 3) (N := N) (e := 35) (xs := [rw3 jo n1 (.slice B1 U.length b1_)]) (inner := [.int .i64 jo, .int .i64 n1, .slice B1 U.length b1_]) rfl rfl gs_ (repW _ jo n1 B1 U.length b1_) (by show 1 ≤ 9223372036854775807; decide) O8.out ?_
    intro D1 h1_ w9 o_ k_
    obtain ⟨O9, K9⟩ := ok_ K8 o_ k_
    clear a0 a2 a5 a7 O8 K8 o_ k_
    have a0 := k3_ O9 0
    have a2 := k7_ O9 2
    have a5 := k3_ O9 5
    have a7 := k3_ O9 7
    clear hHeld
    refine hK_.out _ _ (j7_ a2 (p3_ a7)) (fun hHeld => ?_)
    clear hK_ K_
    refine nR_ ?_
    refine oP 1 (some 44) (fun K_ hK_ => ?_)
    refine own_lit_step (Kd.raw 3) (N := N) (e := 35) (xs := []) (inner := []) rfl rfl gs_ (Reps.none _ _) (by decide) O9.out ?_
    intro C2 e2 w10 o_ k_
    obtain ⟨O10, K10⟩ := ok_ K9 o_ k_
    clear a0 a2 a5 a7 O9 K9 o_ k_
    have a0 := k3_ O10 0
    have a2 := k7_ O10 2
    have a5 := k3_ O10 5
    have a7 := k3_ O10 7
    clear hHeld
    refine hK_.out _ _ (j7_ a2 (p3_ a7)) (fun hHeld => ?_)
    clear hK_ K_
    refine nR_ ?_
    refine oP 6 (some 49) (fun K_ hK_ => ?_)
    refine Own.append_flat_step (Kd.raw 3) flatRaw O10.out (i := 9) rfl (O10.out.nreads (i := 3) rfl).2.2 rfl (by rfl) (.tmp 44) (.tmp 48) 40 (.agg #[.int .i64 0, .int .i64 0, .slice none 0 0]) 40 rfl Tryd.underlying40 infoR rfl (by decide) (by decide) rfl rfl (by have := HP.out; simp only [List.length_nil]; omega) ?_
    intro C3 e3 w11 o_ k_
    obtain ⟨O11, K11⟩ := ok_ K10 o_ k_
    clear a0 a2 a5 a7 O10 K10 o_ k_
    have a0 := k3_ O11 0
    have a2 := k7_ O11 2
    have a5 := k3_ O11 5
    have a7 := k3_ O11 7
    clear hHeld
    refine hK_.out _ _ (j7_ a2 (p3_ a7)) (fun hHeld => ?_)
    clear hK_ K_
    refine nR_ ?_
    refine norm_ (a' := _) ?_ (hc_ ⟨C2, e2, C3, e3, D1, h1_⟩ _ ⟨?_, K11.out⟩)
    ·simp only [putAll, Act.put, List.setIfInBounds_toArray, List.set_cons_zero, List.set_cons_succ]
     try rfl
    ·exact O11.out.pickL [0, 1, 2, 3, 4, 5, 6, 7, 9, 8] (by decide) (by simp)
  case hcont =>
   clear hHeld
   rintro ⟨C2, e2, C3, e3, D1, h1_⟩ w8 ⟨o_, k_⟩
   obtain ⟨O8, K8⟩ := ok_ K7 o_ k_
   clear a0 a2 a5 a7 O7 K7 o_ k_
   have a0 := k3_ O8 0
   have a2 := k7_ O8 2
   have a5 := k3_ O8 5
   have a7 := k3_ O8 7
   refine nA_ ?_
   have hHeld : w8.cell? ⟨g, 0, none⟩ = some (.pointer (some ⟨gj, 0, none⟩)) ∧ w8.cell? ⟨g, 1, none⟩ = some (.int .i64 o) ∧ w8.cell? ⟨g, 2, none⟩ = some (.int .i64 mtu) ∧ w8.cell? ⟨g, 3, none⟩ = some (.int .i64 push) ∧ w8.cell? ⟨g, 4, none⟩ = some (vk) ∧ w8.cell? ⟨g, 5, none⟩ = some (.slice A5 rP.length c5) ∧ w8.cell? ⟨g, 6, none⟩ = some (.slice none 0 0) ∧ w8.cell? ⟨gr, 0, none⟩ = some (.int .i64 jo) ∧ w8.cell? ⟨gr, 1, none⟩ = some (.int .i64 n1) ∧ w8.cell? ⟨gr, 2, none⟩ = some (.slice B1 U.length b1_) := (j7_ a2 (p3_ a7))
   refine oP 9 (some 52) (fun K_ hK_ => ?_)
   refine Own.append_flat_step (Kd.raw 3) flatRaw O8.out (i := 8) rfl (O8.out.nreads (i := 9) rfl).2.2 rfl (by rfl) (.tmp 49) (.tmp 51) 40 (.agg #[.int .i64 0, .int .i64 0, .slice none 0 0]) 40 rfl Tryd.underlying40 infoR rfl (by decide) (by decide) rfl rfl (by have := HP.out; omega) ?_
   intro C4 e4 w9 o_ k_
   obtain ⟨O9, K9⟩ := ok_ K8 o_ k_
   clear a0 a2 a5 a7 O8 K8 o_ k_
   have a0 := k3_ O9 0
   have a2 := k7_ O9 2
   have a5 := k3_ O9 5
   have a7 := k3_ O9 7
   clear hHeld
   refine hK_.out _ _ (j7_ a2 (p3_ a7)) (fun hHeld => ?_)
   clear hK_ K_
   refine nP ?_
   refine pP 10 (some 53) ?_
   refine pP 11 (some 54) ?_
   refine lP 12 none (fun K_ hK_ => ?_)
   refine xS 2 5 [.slice C4 (rP ++ [rw3 jo n1 (.slice B1 U.length b1_)]).length e4] O9 ?_
   intro w10 o_ k_
   obtain ⟨O10, K10⟩ := ok_ K9 o_ k_
   clear a0 a2 a5 a7 O9 K9 o_ k_
   have a0 := k3_ O10 0
   have a2 := k7_ O10 2
   have a5 := k3_ O10 5
   have a7 := k3_ O10 7
   refine hK_.out _ _ ?_
   clear hK_ K_
   refine done_ (by kernel_rfl) ?_
   clear hHeld
   go_wp2_with (first | ((with_reducible refine gT 35 2 rfl ?_); refine wS 5 0 [.int .i64 jo, .int .i64 n1, .slice B1 U.length b1_] O10 ?_; intro w11 o_ k_; obtain ⟨O11, K11⟩ := ok_ K10 o_ k_; clear a0 a2 a5 a7 O10 K10 o_ k_; have a0 := k3_ O11 0; have a2 := k7_ O11 2; have a5 := k3_ O11 5; have a7 := k3_ O11 7))
   refine bodyPost_ret (results_ct rfl _ _ gz 35 #[.int .i64 jo, .int .i64 n1, .slice B1 U.length b1_] (0, 0) _ rfl (O11.out.blk (i := 5) rfl) Tryd.underlying35 rfl (by kernel_rfl)) rfl ?_
   exact ⟨B1, b1_, C5, e5, C4, e4, rfl, (O11.out.nreads (i := 6) rfl).2.1, O11.out.pickL [0, 1, 2, 8, 6] (by decide) (by simp), K11.out⟩
def Num (L : List Rnd) : Prop := ∀ x : Int, 0 ≤ x → x < L.length → (rd_T35 L x).f1 = x + 1
theorem num_nil : Num [] := fun x h0 h1 => by simp at h1; omega
theorem num_snoc {L : List Rnd} (o : Int) (ups : List Upd) (h : Num L) : Num (L ++ [⟨o, L.length + 1, ups⟩]) := fun x h0 h1 => by
 rw [rd_snoc _ _ x h0 h1]
 rw [List.length_append, List.length_singleton] at h1
 split
 ·exact h x h0 (by assumption)
 ·show (L.length : Int) + 1 = x + 1
  omega
theorem mem_rd {L : List Rnd} {r : Rnd} (h : r ∈ L) : ∃ x : Int, 0 ≤ x ∧ x < L.length ∧ rd_T35 L x = r := by
 obtain ⟨i, hi, rfl⟩ := List.mem_iff_getElem.1 h
 refine ⟨i, by omega, by omega, ?_⟩
 unfold rd_T35
 rw [List.getD_eq_getElem?_getD, Int.toNat_natCast, List.getElem?_eq_getElem hi]
 rfl
theorem from_all {L : List Rnd} (n : Int) (hn : n ≤ 0) (h : Num L) : fromL n L = L := by
 unfold fromL
 rw [List.filter_eq_self]
 intro r hr
 obtain ⟨x, h0, h1, rfl⟩ := mem_rd hr
 rw [h x h0 h1]
 simp
 omega
end Go.Proofs.YtjdenpmaianmfaaDoor.J
namespace Go.Proofs.YtjdenpmaianmfaaDoor.Pure
set_option linter.unusedSimpArgs false
open Go Go.RowKit Go.Proofs.YtjdenpmaianmfaaDoorW.PrintWords Go.Proofs.YtjdenpmaianmfaaDoorW.PrintLast Go.Proofs.YtjdenpmaianmfaaDoorW.PrintMore Go.Proofs.YtjdenpmaianmfaaDoor.Q
theorem rzig_ok (k : Nat) (n : Int) (h0 : -2305843009213693952 ≤ n) (h1 : n < 2305843009213693952) : chapbookref01_Zig.f (k + 1) n = some (if n < 0 then -2 * n - 1 else 2 * n, true) := by
 unfold chapbookref01_Zig.f
 rw [if_neg (by omega), decide_eq_false (by omega)]
 simp only [chapbookref01_Zig.j0]
 rw [if_neg (by decide)]
 by_cases hn : n < 0
 ·rw [if_pos hn, if_pos hn]
  have e1 : wrap64 (-(wrap64 (n + 1))) = -(n + 1) := by rw [w64 (n := n + 1) (by omega) (by omega), w64 (n := -(n + 1)) (by omega) (by omega)]
  rw [e1]
  have e2 : IntKind.u64.wrap (-(n + 1)) = -(n + 1) := u64in _ (by omega) (by omega)
  rw [e2, u64in (2 * -(n + 1)) (by omega) (by omega), u64in _ (by omega) (by omega)]
  congr 2; omega
 ·rw [if_neg hn, if_neg hn, u64in n (by omega) (by omega), u64in _ (by omega) (by omega)]
theorem rsize_ok (n : Int) (h1 : n < 4611686018427387904) : chapbookref01_Size.f n = some (szL n) := by
 unfold chapbookref01_Size.f szL; repeat' split
 all_goals first | rfl | omega
theorem rput_step (k : Nat) (x t i : Int) (l : List Int) (h0 : 0 ≤ x) (h1 : x < 2 ^ 64) (h2 : i < t) (h3 : 0 ≤ i) (h4 : t ≤ 8) (h5 : l.length ≤ 8) :
  chapbookref01_Put.l0 (k + 1) x t l i = chapbookref01_Put.l0 k (x / 256) t ([x % 256] ++ l) (i + 1) := by
 have t1 : Int.tmod x 256 % 256 = x % 256 := by rw [Int.tmod_eq_emod_of_nonneg h0]; omega
 have t2 : Int.tdiv x 256 = x / 256 := Int.tdiv_eq_ediv_of_nonneg h0
 simp only [chapbookref01_Put.l0, Option.bind_some]
 rw [if_pos h2, t1, t2, u64in _ (by omega) (by omega), w64 (n := i + 1) (by omega) (by omega), if_pos (by simp; omega)]
theorem rput_end (k : Nat) (x t : Int) (l : List Int) : chapbookref01_Put.l0 (k + 1) x t l t = if t = 2 then chapbookref01_Put.j1 k t l 64 else chapbookref01_Put.j1 k t l 0 := by
 simp only [chapbookref01_Put.l0]; rw [if_neg (by omega)]
theorem rput_fin (k : Nat) (t d m : Int) (l : List Int) (mark : Int) (hl : l.length ≤ 8) (hd : 0 ≤ d) (hd1 : d < 256) (hm : (t = 8 ∧ m = 192) ∨ (t = 4 ∧ m = 128) ∨ (t ≠ 4 ∧ t ≠ 8 ∧ m = mark)) (hm0 : 0 ≤ m) (hm1 : m < 256) :
  chapbookref01_Put.j1 (k + 1) t (d :: l) mark = some (strOfNums (((d + m) % 256) :: l), 0) := by
 have sz : ∀ a : Int, (strOfNums [a]).size + (strOfNums l).size ≤ 9223372036854775807 := fun a => by rw [strOfNums_size, strOfNums_size]; simp; omega
 have e1 : rd (d :: l) 0 = d := rfl
 have e2 : (d :: l).drop 1 = l := rfl
 have p1 : 0 < (((d :: l).length : Nat) : Int) := by rw [List.length_cons]; omega
 have p2 : 1 ≤ (((d :: l).length : Nat) : Int) := by rw [List.length_cons]; omega
 have w : ∀ q : Int, 0 ≤ q → q < 256 → wrap64 (wrap64 d + q) = d + q := fun q h0 h1 => by rw [w64 (n := d) (by omega) (by omega), w64 (by omega) (by omega)]
 have fin : ∀ q : Int, strOfNums [q] ++ strOfNums l = strOfNums (q :: l) := fun q => str_app [q] l
 simp only [chapbookref01_Put.j1, Option.bind_some, e1, e2]
 rcases hm with ⟨rfl, rfl⟩ | ⟨rfl, rfl⟩ | ⟨h4, h8, rfl⟩
 ·rw [if_neg (by decide), if_pos rfl, if_pos p1, if_pos p2, w 192 (by decide) (by decide), if_pos (sz _), fin]
 ·rw [if_pos rfl, if_neg (by decide), if_pos p1, if_pos p2, w 128 (by decide) (by decide), if_pos (sz _), fin]
 ·rw [if_neg h4, if_neg h8, if_pos p1, if_pos p2, w m hm0 hm1, if_pos (sz _), fin]
theorem rput_fill (t : Int) (ht : t ≤ 8) : ∀ (n k : Nat) (x : Int) (l : List Int) (i : Int), 0 ≤ x → x < 2 ^ 64 → 0 ≤ i → i + n = t → (l.length : Int) = i → ∃ x', chapbookref01_Put.l0 (k + n) x t l i = chapbookref01_Put.l0 k x' t (fillR n x l) t
 | 0, k, x, l, i, _, _, _, h1, _ => by
  have : i = t := by omega
  subst this
  exact ⟨x, rfl⟩
 | n + 1, k, x, l, i, g0, g1, h0, h1, h2 => by
  obtain ⟨x', hx⟩ := rput_fill t ht n k (x / 256) ([x % 256] ++ l) (i + 1) (by omega) (by omega) (by omega) (by omega) (by simp; omega)
  refine ⟨x', ?_⟩
  rw [show fillR (n + 1) x l = fillR n (x / 256) ([x % 256] ++ l) from rfl, ← hx]
  exact rput_step (k + n) x t i l g0 g1 (by omega) h0 ht (by omega)
theorem rput_ok (k : Nat) (n : Int) (h0 : 0 ≤ n) (h1 : n < 4611686018427387904) : chapbookref01_Put.f (k + 12) n = some (strOfNums (encL n), 0) := by
 unfold chapbookref01_Put.f
 rw [rsize_ok n h1]
 simp only [Option.bind_some]
 unfold szL encL
 by_cases a1 : n < 64
 ·simp only [if_pos a1]
  rw [if_neg (by decide)]
  obtain ⟨x', hx⟩ := rput_fill 1 (by decide) 1 (k + 11) n [] 0 h0 (by omega) (by decide) (by decide) rfl
  refine hx.trans ?_
  rw [rput_end, if_neg (by decide)]
  refine (rput_fin (k + 9) 1 (n % 256) 0 [] 0 (by decide) (by omega) (by omega) (by omega) (by decide) (by decide)).trans ?_
  rw [show (n % 256 + 0) % 256 = n from by omega]
 simp only [if_neg a1]
 by_cases a2 : n < 16384
 ·simp only [if_pos a2]
  rw [if_neg (by decide)]
  obtain ⟨x', hx⟩ := rput_fill 2 (by decide) 2 (k + 10) n [] 0 h0 (by omega) (by decide) (by decide) rfl
  refine hx.trans ?_
  rw [rput_end, if_pos rfl]
  refine (rput_fin (k + 8) 2 (n / 256 % 256) 64 [n % 256] 64 (by simp) (by omega) (by omega) (by omega) (by decide) (by decide)).trans ?_
  rw [show (n / 256 % 256 + 64) % 256 = n / 256 + 64 from by omega]
 simp only [if_neg a2]
 by_cases a3 : n < 1073741824
 ·simp only [if_pos a3]
  rw [if_neg (by decide)]
  obtain ⟨x', hx⟩ := rput_fill 4 (by decide) 4 (k + 8) n [] 0 h0 (by omega) (by decide) (by decide) rfl
  refine hx.trans ?_
  rw [rput_end, if_neg (by decide)]
  refine (rput_fin (k + 6) 4 (n / 256 / 256 / 256 % 256) 128 [n / 256 / 256 % 256, n / 256 % 256, n % 256] 0 (by simp) (by omega) (by omega) (by omega) (by decide) (by decide)).trans ?_
  rw [show (n / 256 / 256 / 256 % 256 + 128) % 256 = n / 16777216 + 128 from by omega, show n / 256 / 256 % 256 = n / 65536 % 256 from by omega]
 ·simp only [if_neg a3]
  rw [if_neg (by decide)]
  obtain ⟨x', hx⟩ := rput_fill 8 (by decide) 8 (k + 4) n [] 0 h0 (by omega) (by decide) (by decide) rfl
  refine hx.trans ?_
  rw [rput_end, if_neg (by decide)]
  refine (rput_fin (k + 2) 8 (n / 256 / 256 / 256 / 256 / 256 / 256 / 256 % 256) 192 [n / 256 / 256 / 256 / 256 / 256 / 256 % 256, n / 256 / 256 / 256 / 256 / 256 % 256, n / 256 / 256 / 256 / 256 % 256, n / 256 / 256 / 256 % 256, n / 256 / 256 % 256, n / 256 % 256, n % 256] 0 (by simp) (by omega) (by omega) (by omega) (by decide) (by decide)).trans ?_
  rw [show (n / 256 / 256 / 256 / 256 / 256 / 256 / 256 % 256 + 192) % 256 = n / 72057594037927936 + 192 from by omega, show n / 256 / 256 / 256 / 256 / 256 / 256 % 256 = n / 281474976710656 % 256 from by omega,
   show n / 256 / 256 / 256 / 256 / 256 % 256 = n / 1099511627776 % 256 from by omega, show n / 256 / 256 / 256 / 256 % 256 = n / 4294967296 % 256 from by omega,
   show n / 256 / 256 / 256 % 256 = n / 16777216 % 256 from by omega, show n / 256 / 256 % 256 = n / 65536 % 256 from by omega]
theorem rnumber (k : Nat) (n : Int) (h0 : 0 ≤ n) (h1 : n < 4611686018427387904) : chapbookref03_Number.f (k + 12) n = some (strOfNums (encL n), true) := by
 unfold chapbookref03_Number.f
 rw [if_neg (by omega), u64in n h0 (by omega), rput_ok k n h0 h1]
 rfl
theorem rtext (k : Nat) (s : ByteArray) (h : s.size ≤ 140737488354900) : chapbookref03_Text.f (k + 12) s = some (Wr.txtP s) := by
 unfold chapbookref03_Text.f
 have := Wr.enc_size s.size
 rw [rnumber k s.size (by omega) (by omega), Option.bind_some]
 simp only
 rw [if_pos (by omega)]
 rfl
theorem rsigned (k : Nat) (n : Int) (h0 : -2305843009213693952 ≤ n) (h1 : n < 2305843009213693952) : chapbookref03_Signed.f (k + 12) n = some (strOfNums (encL (zz n)), true) := by
 unfold chapbookref03_Signed.f
 have e : zz n = if n < 0 then -2 * n - 1 else 2 * n := rfl
 rw [rzig_ok (k + 11) n h0 h1, Option.bind_some]
 simp only [if_true]
 rw [← e, rput_ok k (zz n) (by unfold zz; split <;> omega) (by unfold zz; split <;> omega)]
 rfl
theorem rbytes (j : Nat) {k : ByteArray} {c n : Int} {s : ByteArray} (h : may k c n s = 0) : chapbookref06_Bytes.f (j + 13) k c n s = some (bytesU k c n s) := by
 obtain ⟨h1, h2, h3, h4, h5, h6, h7⟩ := may_zero h
 have e1 := Wr.enc_size c
 have e2 := txtP_size k
 have e3 := txtP_size s
 have e4 := Wr.enc_size (zz n)
 have e5 : (strOfNums (encL c) ++ Wr.txtP k).size = (strOfNums (encL c)).size + (Wr.txtP k).size := ByteArray.size_append
 unfold chapbookref06_Bytes.f bytesU
 rw [rnumber (j + 1) c (by omega) (by omega), Option.bind_some, rtext (j + 1) k (by omega), Option.bind_some]
 simp only
 rw [if_pos (by omega)]
 by_cases c1 : c = 1
 ·obtain ⟨a, b, d⟩ := h5 (Or.inl c1)
  rw [if_pos c1, if_pos (Or.inl c1)]
  simp only [chapbookref06_Bytes.j0]
  rw [if_pos trivial, rsigned j n b d, Option.bind_some]
  simp only
  rw [if_pos (by omega), if_neg (by omega), if_neg (by omega)]
 rw [if_neg c1]
 by_cases c3 : c = 3
 ·obtain ⟨a, b, d⟩ := h5 (Or.inr c3)
  rw [if_pos (Or.inr c3)]
  simp only [chapbookref06_Bytes.j0]
  rw [if_pos (show (c == 3) = true by simp [c3]), rsigned j n b d, Option.bind_some]
  simp only
  rw [if_pos (by omega), if_neg (by omega), if_neg (by omega)]
 rw [if_neg (show ¬ (c = 1 ∨ c = 3) by omega)]
 simp only [chapbookref06_Bytes.j0]
 rw [if_neg (show ¬ ((c == 3) = true) by simp [c3])]
 by_cases c2 : c = 2
 ·have := h6 (Or.inl c2)
  rw [if_pos c2, if_pos (Or.inl c2), rtext j s (by omega), Option.bind_some, if_pos (by omega)]
 rw [if_neg c2]
 by_cases c4 : c = 4
 ·have := h6 (Or.inr c4)
  rw [if_pos c4, if_pos (Or.inr c4), rtext j s (by omega), Option.bind_some, if_pos (by omega)]
 ·rw [if_neg c4, if_neg (show ¬ (c = 2 ∨ c = 4) by omega), app_nil]
set_option linter.unusedVariables false
def bytesR (o n : Int) (l : List Upd) : ByteArray := headB o n l.length ++ catB l
def putR (o n : Int) (l : List Upd) : ByteArray × Int := if mayR o n l = 0 then (bytesR o n l, 0) else (nil', mayR o n l)
theorem pputR (o n : Int) (l : List Upd) : round_Put.f o n l = some (putR o n l) := by
 unfold round_Put.f putR
 rw [pmay 0, Option.bind_some]
 by_cases h : mayR o n l = 0
 ·obtain ⟨h1, h2, h3, h4, h5, h6, h7⟩ := mayR_zero h
  rw [if_pos h, if_pos h, headW_ok (by omega) (by omega) (by omega) (by omega) (by omega) (by omega), addsW_ok _ _ h7]
  rfl
 ·rw [if_neg h, if_neg h]
theorem rbytes_loop (o n : Int) (l : List Upd) (hl : l.length ≤ 20) (hm : ∀ z ∈ l, mayU z = 0) : ∀ (d k : Nat) (x : Int) (acc : ByteArray), 0 ≤ x → x ≤ l.length → (l.length : Int) - x = d → d + 15 ≤ k → acc.size + 80 * d ≤ 1000000 → chapbookref07_Bytes.l0 k acc x o n l = some (acc ++ catB (l.drop x.toNat)) := by
 intro d
 induction d with
 | zero =>
  intro k x acc h0 h1 hd hk ha
  obtain ⟨k, rfl⟩ : ∃ m, k = m + 1 := ⟨k - 1, by omega⟩
  simp only [chapbookref07_Bytes.l0]
  rw [if_neg (by omega), List.drop_of_length_le (by omega)]
  show _ = some (acc ++ nil')
  rw [app_nil]
 | succ d ih =>
  intro k x acc h0 h1 hd hk ha
  obtain ⟨k, rfl⟩ : ∃ m, k = m + 1 := ⟨k - 1, by omega⟩
  simp only [chapbookref07_Bytes.l0]
  obtain ⟨k, rfl⟩ : ∃ m, k = m + 13 := ⟨k - 13, by omega⟩
  have hx := hm _ (rd_memP x h0 (by omega))
  have hz := bytesU_max hx
  rw [if_pos (by omega), if_pos h0, rbytes k hx, Option.bind_some, if_pos (by omega), w64s (n := l.length) h0 (by omega) (by omega), ih (k + 13) (x + 1) _ (by omega) (by omega) (by omega) (by omega) (by rw [ByteArray.size_append]; omega), rdU l x h0 (by omega)]
  show some (_ ++ _ ++ _) = some (_ ++ (_ ++ _))
  rw [ByteArray.append_assoc]
theorem rbytesR (k : Nat) {o n : Int} {l : List Upd} (h : mayR o n l = 0) : chapbookref07_Bytes.f (k + 40) o n l = some (bytesR o n l) := by
 obtain ⟨h1, h2, h3, h4, h5, h6, h7⟩ := mayR_zero h
 unfold chapbookref07_Bytes.f
 have e1 := Wr.enc_size o
 have e2 := Wr.enc_size n
 have e3 := Wr.enc_size (l.length : Int)
 rw [rnumber (k + 28) o (by omega) (by omega), Option.bind_some, rnumber (k + 28) n (by omega) (by omega), Option.bind_some, rnumber (k + 28) l.length (by omega) (by omega), Option.bind_some]
 simp only
 rw [if_pos (by omega), if_pos (by rw [ByteArray.size_append]; omega), rbytes_loop o n l (by omega) h7 l.length (k + 40) 0 _ (by omega) (by omega) (by omega) (by omega) (by rw [ByteArray.size_append, ByteArray.size_append]; omega)]
 rfl
def fitsB (l : List Upd) (m : Int) : Bool := decide (mayR 64 1099511627776 l = 0 ∧ 64 ≤ m ∧ m ≤ 1400 ∧ ((bytesR 64 1099511627776 l).size : Int) ≤ m - 40)
theorem in_ok7 (n a b : Int) : round_in.f n a b = some (decide (n ≥ a ∧ n ≤ b)) := by
 unfold round_in.f
 by_cases h1 : n ≥ a <;> by_cases h2 : n ≤ b <;> simp [h1, h2]
theorem pfits (l : List Upd) (m : Int) : round_Fits.f l m = some (fitsB l m) := by
 unfold fitsB
 unfold round_Fits.f
 rw [pputR, Option.bind_some]
 unfold putR
 by_cases hm : mayR 64 1099511627776 l = 0
 ·rw [if_pos hm]
  simp only
  rw [if_pos trivial, in_ok7, Option.bind_some]
  by_cases hx : m ≥ 64 ∧ m ≤ 1400
  ·rw [if_pos (decide_eq_true hx), show wrap64 (m - 40) = m - 40 by unfold wrap64; omega]
   simp [hm, hx.1, hx.2]
  ·rw [if_neg (by simpa using hx)]
   have : ¬ (64 ≤ m ∧ m ≤ 1400 ∧ ((bytesR 64 1099511627776 l).size : Int) ≤ m - 40) := fun q => hx ⟨q.1, q.2.1⟩
   simp [this]
 ·rw [if_neg hm]
  simp only
  rw [if_neg hm]
  simp [hm]
theorem rfits (l : List Upd) (m : Int) : chapbookref07_Fits.f 299 l m = some (fitsB l m) := by
 unfold fitsB
 unfold chapbookref07_Fits.f
 by_cases c1 : m ≥ 64
 case neg => rw [if_neg c1]; have : ¬ (64 ≤ m) := c1; simp [this]
 rw [if_pos c1]
 by_cases c2 : m ≤ 1400
 case neg => rw [if_neg c2]; simp [c2]
 rw [if_pos c2, rmayR 279, Option.bind_some]
 by_cases hm : mayR 64 1099511627776 l = 0
 ·rw [if_pos hm, rbytesR 259 hm, Option.bind_some, show wrap64 (m - 40) = m - 40 by unfold wrap64; omega]
  have c1' : 64 ≤ m := c1
  simp [hm, c1', c2]
 ·rw [if_neg hm]; simp [hm]
end Go.Proofs.YtjdenpmaianmfaaDoor.Pure
namespace Go.Proofs.YtjdenpmaianmfaaDoor.J
open Go Go.RowKit Go.Proofs.YtjdenpmaianmfaaDoorW.PrintWords Go.Proofs.YtjdenpmaianmfaaDoorW.PrintLast Go.Proofs.YtjdenpmaianmfaaDoorW.PrintMore Go.Proofs.YtjdenpmaianmfaaDoor.Q Go.Proofs.YtjdenpmaianmfaaDoor.Sep Go.Proofs.YtjdenpmaianmfaaDoor.Pure
def TabN (N : Nat → Prop) (w : World) : Prop := N 0 ∧ Tab w
theorem TabN.keep {N : Nat → Prop} {w w' : World} (h : TabN N w) (hk : KeepS N w w') : TabN N w' := by
 have one : ∀ {j : Nat} {v : Value}, w.cell? ⟨0, j, none⟩ = some v → w'.cell? ⟨0, j, none⟩ = some v := fun {j v} hc =>
  (World.cell?_of_block (w := w) (hk.block _ (World.block_lt_of_cell? w _ hc) h.1)).trans hc
 exact ⟨h.1, one h.2.1, one h.2.2.1, one h.2.2.2.1, one h.2.2.2.2⟩
theorem TabN.mono {N N' : Nat → Prop} {w : World} (h : TabN N w) (hn : ∀ k, N k → N' k) : TabN N' w := ⟨hn _ h.1, h.2⟩
set_option maxHeartbeats 16000000
set_option maxRecDepth 100000
set_option linter.unusedSimpArgs false
set_option linter.unusedVariables false
theorem repU1 (W : World) (u : Upd7) : Reps (Kd.FK k32 W (fun _ => False)) 4 [u] [.string u.f0, .int .i64 u.f1, .int .i64 u.f2, .string u.f3] := (Reps.none _ 4).snoc (flatU.FK (k32_mk W u)) rfl
theorem CUpd_may {N : Nat → Prop} {w : World} {g : Nat} {jp : Value} {o mtu push : Int} {K P : List Rnd7} {U : List Upd7} (key : ByteArray) (c n : Int) (s : ByteArray) (h : Own N w [CliO g jp o mtu push K P U]) (ht : TabN N w) (hL : U.length ≤ 1000000) (hm : may key c n s ≠ 0) :
  Calls Tryd.prog 30 #[.pointer (some ⟨g, 0, none⟩), .agg #[.string key, .int .i64 c, .int .i64 n, .string s]] w fun e_ w' => e_ = .returned (.int .i64 (may key c n s)) ∧ Own N w' [CliO g jp o mtu push K P U] ∧ KeepS N w w' := by
 have d1 : (may key c n s != 0) = true := bne_iff_ne.mpr hm
 have HT_0 := Aside0.mk ht
 have HL := Aside0.mk hL
 obtain ⟨A4, c4, A5, c5, A6, c6, hcap, h2⟩ := CliO.open_ h
 have O0 : Aside0 (Own N w [cells g #[jp, .int .i64 o, .int .i64 mtu, .int .i64 push, .slice A4 K.length c4, .slice A5 P.length c5, .slice A6 U.length c6] 111, nrow k32 32 (.slice A6 U.length c6) U, qrow k35 35 (.slice A5 P.length c5) P, qrow k35 35 (.slice A4 K.length c4) K]) := ⟨h2⟩
 have K0 : Aside0 (KeepS N w w) := ⟨KeepS.refl _ _⟩
 have a0 := k7_ O0 0
 clear h2 h ht hL hcap hm
 go_enter Tryd.func30, Tryd.ntmps30
 go_wp2_with (first | ((with_reducible refine gD 3 rfl ?_); refine bP 3 #[.string key, .int .i64 c, .int .i64 n, .string s] 32 O0.out ?_; intro ga w1 o_ k_; obtain ⟨O1, K1⟩ := ok_ K0 o_ k_; have HT_1 := Aside0.mk (TabN.keep HT_0.out k_); clear a0 O0 K0 HT_0 o_ k_; have a0 := k7_ O1 0; have a4 := k4_ O1 4) | ((with_reducible refine gC 69 rfl ?_); refine gP (some 8) Tryd.func69 #[.agg #[.string key, .int .i64 c, .int .i64 n, .string s]] ?_; refine (value_May.calls 4 key c n s (may key c n s) _ (may_ok 0 key c n s)).mono ?_; rintro e_ w2 ⟨rfl, hb_⟩; refine ⟨_, rfl, ?_⟩; have o_ := O1.out.below hb_; have k_ := KeepS.of_below (N := N) hb_; obtain ⟨O2, K2⟩ := ok_ K1 o_ k_; have HT_2 := Aside0.mk (TabN.keep HT_1.out k_); clear a0 a4 O1 K1 HT_1 o_ k_ hb_; have a0 := k7_ O2 0; have a4 := k4_ O2 4))
 go_ret
 exact ⟨rfl, (CliO.shut (O2.out.pickL [0, 3, 2, 1] (by decide) (by simp))).take 1, K2.out⟩
theorem CUpd_long {N : Nat → Prop} {w : World} {g : Nat} {jp : Value} {o mtu push : Int} {K P : List Rnd7} {U : List Upd7} (key : ByteArray) (c n : Int) (s : ByteArray) (h : Own N w [CliO g jp o mtu push K P U]) (ht : TabN N w) (hL : U.length ≤ 1000000) (hm : may key c n s = 0) (hf1 : fitsB [(⟨key, c, n, s⟩ : Upd7)] mtu = false) :
  Calls Tryd.prog 30 #[.pointer (some ⟨g, 0, none⟩), .agg #[.string key, .int .i64 c, .int .i64 n, .string s]] w fun e_ w' => e_ = .returned (.int .i64 3) ∧ Own N w' [CliO g jp o mtu push K P U] ∧ KeepS N w w' := by
 have d1 : ((0 : Int) != 0) = false := by decide
 have HM := Aside0.mk hm
 have HF1 := Aside0.mk hf1
 have HT_0 := Aside0.mk ht
 have HL := Aside0.mk hL
 obtain ⟨A4, c4, A5, c5, A6, c6, hcap, h2⟩ := CliO.open_ h
 have O0 : Aside0 (Own N w [cells g #[jp, .int .i64 o, .int .i64 mtu, .int .i64 push, .slice A4 K.length c4, .slice A5 P.length c5, .slice A6 U.length c6] 111, nrow k32 32 (.slice A6 U.length c6) U, qrow k35 35 (.slice A5 P.length c5) P, qrow k35 35 (.slice A4 K.length c4) K]) := ⟨h2⟩
 have K0 : Aside0 (KeepS N w w) := ⟨KeepS.refl _ _⟩
 have a0 := k7_ O0 0
 clear h2 h ht hL hcap hm hf1
 go_enter Tryd.func30, Tryd.ntmps30
 go_wp2_with (first | ((with_reducible refine gD 3 rfl ?_); refine bP 3 #[.string key, .int .i64 c, .int .i64 n, .string s] 32 O0.out ?_; intro ga w1 o_ k_; obtain ⟨O1, K1⟩ := ok_ K0 o_ k_; have HT_1 := Aside0.mk (TabN.keep HT_0.out k_); clear a0 O0 K0 HT_0 o_ k_; have a0 := k7_ O1 0; have a4 := k4_ O1 4) | ((with_reducible refine gC 69 rfl ?_); refine gP (some 8) Tryd.func69 #[.agg #[.string key, .int .i64 c, .int .i64 n, .string s]] ?_; refine (value_May.calls 4 key c n s 0 _ ((may_ok 0 key c n s).trans (by rw [HM.out]))).mono ?_; rintro e_ w2 ⟨rfl, hb_⟩; refine ⟨_, rfl, ?_⟩; have o_ := O1.out.below hb_; have k_ := KeepS.of_below (N := N) hb_; obtain ⟨O2, K2⟩ := ok_ K1 o_ k_; have HT_2 := Aside0.mk (TabN.keep HT_1.out k_); clear a0 a4 O1 K1 HT_1 o_ k_ hb_; have a0 := k7_ O2 0; have a4 := k4_ O2 4))
 refine sP (n := 8) (S := d7_ g (jp) (.int .i64 o) (.int .i64 mtu) (.int .i64 push) (.slice A4 K.length c4) (.slice A5 P.length c5) (.slice A6 U.length c6) (c4_ ga (.string key) (.int .i64 c) (.int .i64 n) (.string s))) (ds := []) (j7_ a0 (p4_ a4)) (fun hHeld => ?_)
 obtain ⟨w3, hw_⟩ : ∃ W, W = w2.drew := ⟨_, rfl⟩
 have o_ := O2.out.drew
 have k_ : KeepS N w2 w2.drew := KeepS.drew
 rw [← hw_] at o_ k_ hHeld ⊢
 clear hw_
 obtain ⟨O3, K3⟩ := ok_ K2 o_ k_
 have HT_3 := Aside0.mk (TabN.keep HT_2.out k_)
 clear a0 a4 O2 K2 HT_2 o_ k_
 have a0 := k7_ O3 0
 have a4 := k4_ O3 4
 refine pP 2 (some 14) ?_
 refine pP 3 (some 15) ?_
 refine pP 4 (some 16) ?_
 refine tP 0 (some 12) hHeld ?_
 refine tP 5 (some 17) hHeld ?_
 refine oP 1 (some 13) (fun K_ hK_ => ?_)
 refine own_lit_step k32 (N := N) (e := 32) (xs := [(⟨key, c, n, s⟩ : Upd7)]) (inner := [.string key, .int .i64 c, .int .i64 n, .string s]) rfl rfl gs_ (repU1 _ (⟨key, c, n, s⟩ : Upd7)) (by show 1 ≤ 9223372036854775807; decide) O3.out ?_
 intro B1 d1_ w4 o_ k_
 obtain ⟨O4, K4⟩ := ok_ K3 o_ k_
 have HT_4 := Aside0.mk (TabN.keep HT_3.out k_)
 clear a0 a4 O3 K3 HT_3 o_ k_
 have a0 := k7_ O4 0
 have a4 := k4_ O4 4
 clear hHeld
 refine hK_.out _ _ (j7_ a0 (p4_ a4)) (fun hHeld => ?_)
 clear hK_ K_
 refine nP ?_
 refine oP 6 (some 18) (fun K_ hK_ => ?_)
 refine hP Tryd.func70 #[.slice B1 1 d1_, .int .i64 mtu] ?_
 refine (round_Fits.calls _ _ [(⟨key, c, n, s⟩ : Upd7)] mtu false _ ⟨HT_4.out.2⟩ (O4.out.nreads (i := 5) rfl).2.2 (O4.out.nreads (i := 5) rfl).2.1 (by rw [pfits, HF1.out])).mono ?_
 rintro e_ w5 ⟨rfl, hb_⟩
 refine ⟨_, rfl, ?_⟩
 have o_ := O4.out.below hb_
 have k_ := KeepS.of_below (N := N) hb_
 obtain ⟨O5, K5⟩ := ok_ K4 o_ k_
 have HT_5 := Aside0.mk (TabN.keep HT_4.out k_)
 clear a0 a4 O4 K4 HT_4 o_ k_ hb_
 have a0 := k7_ O5 0
 have a4 := k4_ O5 4
 clear hHeld
 refine hK_.out _ _ (j7_ a0 (p4_ a4)) (fun hHeld => ?_)
 clear hK_ K_
 refine nP ?_
 refine pP 7 (some 19) ?_
 refine done_ (by kernel_rfl) ?_
 clear hHeld
 go_wp2
 go_ret
 exact ⟨rfl, (CliO.shut (O5.out.pickL [0, 3, 2, 1] (by decide) (by simp))).take 1, K5.out⟩
theorem CUpd_fo {N : Nat → Prop} {w : World} {g : Nat} {jp : Value} {o mtu push : Int} {K P : List Rnd7} {U : List Upd7} (key : ByteArray) (c n : Int) (s : ByteArray) (h : Own N w [CliO g jp o mtu push K P U]) (ht : TabN N w) (hL : U.length ≤ 1000000) (hm : may key c n s = 0) (hf1 : fitsB [(⟨key, c, n, s⟩ : Upd7)] mtu = true) {F : Bool} {Q_ : Ending → World → Prop} (hf2 : fitsB (U ++ [(⟨key, c, n, s⟩ : Upd7)]) mtu = F) (q0_ : F = false → ∀ e_ w', (e_ = .returned (.int .i64 7) ∧ Own N w' [CliO g jp o mtu push K P U] ∧ KeepS N w w') → Q_ e_ w') (q1_ : F = true → ∀ e_ w', (e_ = .returned (.int .i64 0) ∧ Own N w' [CliO g jp o mtu push K P (U ++ [(⟨key, c, n, s⟩ : Upd7)])] ∧ KeepS N w w') → Q_ e_ w') :
  Calls Tryd.prog 30 #[.pointer (some ⟨g, 0, none⟩), .agg #[.string key, .int .i64 c, .int .i64 n, .string s]] w Q_ := by
 have Q0_ := Aside0.mk q0_
 have Q1_ := Aside0.mk q1_
 clear q0_ q1_
 have d1 : ((0 : Int) != 0) = false := by decide
 have HM := Aside0.mk hm
 have HF1 := Aside0.mk hf1
 obtain ⟨V, hV⟩ : ∃ V, U ++ [(⟨key, c, n, s⟩ : Upd7)] = V := ⟨_, rfl⟩
 rw [hV] at hf2
 have HF2 := Aside0.mk hf2
 have HV := Aside0.mk hV
 clear hV hf2
 have HT_0 := Aside0.mk ht
 have HL := Aside0.mk hL
 obtain ⟨A4, c4, A5, c5, A6, c6, hcap, h2⟩ := CliO.open_ h
 have O0 : Aside0 (Own N w [cells g #[jp, .int .i64 o, .int .i64 mtu, .int .i64 push, .slice A4 K.length c4, .slice A5 P.length c5, .slice A6 U.length c6] 111, nrow k32 32 (.slice A6 U.length c6) U, qrow k35 35 (.slice A5 P.length c5) P, qrow k35 35 (.slice A4 K.length c4) K]) := ⟨h2⟩
 have K0 : Aside0 (KeepS N w w) := ⟨KeepS.refl _ _⟩
 have a0 := k7_ O0 0
 clear h2 h ht hL hcap hm hf1
 go_enter Tryd.func30, Tryd.ntmps30
 go_wp2_with (first | ((with_reducible refine gD 3 rfl ?_); refine bP 3 #[.string key, .int .i64 c, .int .i64 n, .string s] 32 O0.out ?_; intro ga w1 o_ k_; obtain ⟨O1, K1⟩ := ok_ K0 o_ k_; have HT_1 := Aside0.mk (TabN.keep HT_0.out k_); clear a0 O0 K0 HT_0 o_ k_; have a0 := k7_ O1 0; have a4 := k4_ O1 4) | ((with_reducible refine gC 69 rfl ?_); refine gP (some 8) Tryd.func69 #[.agg #[.string key, .int .i64 c, .int .i64 n, .string s]] ?_; refine (value_May.calls 4 key c n s 0 _ ((may_ok 0 key c n s).trans (by rw [HM.out]))).mono ?_; rintro e_ w2 ⟨rfl, hb_⟩; refine ⟨_, rfl, ?_⟩; have o_ := O1.out.below hb_; have k_ := KeepS.of_below (N := N) hb_; obtain ⟨O2, K2⟩ := ok_ K1 o_ k_; have HT_2 := Aside0.mk (TabN.keep HT_1.out k_); clear a0 a4 O1 K1 HT_1 o_ k_ hb_; have a0 := k7_ O2 0; have a4 := k4_ O2 4))
 refine sP (n := 8) (S := d7_ g (jp) (.int .i64 o) (.int .i64 mtu) (.int .i64 push) (.slice A4 K.length c4) (.slice A5 P.length c5) (.slice A6 U.length c6) (c4_ ga (.string key) (.int .i64 c) (.int .i64 n) (.string s))) (ds := []) (j7_ a0 (p4_ a4)) (fun hHeld => ?_)
 obtain ⟨w3, hw_⟩ : ∃ W, W = w2.drew := ⟨_, rfl⟩
 have o_ := O2.out.drew
 have k_ : KeepS N w2 w2.drew := KeepS.drew
 rw [← hw_] at o_ k_ hHeld ⊢
 clear hw_
 obtain ⟨O3, K3⟩ := ok_ K2 o_ k_
 have HT_3 := Aside0.mk (TabN.keep HT_2.out k_)
 clear a0 a4 O2 K2 HT_2 o_ k_
 have a0 := k7_ O3 0
 have a4 := k4_ O3 4
 refine pP 2 (some 14) ?_
 refine pP 3 (some 15) ?_
 refine pP 4 (some 16) ?_
 refine tP 0 (some 12) hHeld ?_
 refine tP 5 (some 17) hHeld ?_
 refine oP 1 (some 13) (fun K_ hK_ => ?_)
 refine own_lit_step k32 (N := N) (e := 32) (xs := [(⟨key, c, n, s⟩ : Upd7)]) (inner := [.string key, .int .i64 c, .int .i64 n, .string s]) rfl rfl gs_ (repU1 _ (⟨key, c, n, s⟩ : Upd7)) (by show 1 ≤ 9223372036854775807; decide) O3.out ?_
 intro B1 d1_ w4 o_ k_
 obtain ⟨O4, K4⟩ := ok_ K3 o_ k_
 have HT_4 := Aside0.mk (TabN.keep HT_3.out k_)
 clear a0 a4 O3 K3 HT_3 o_ k_
 have a0 := k7_ O4 0
 have a4 := k4_ O4 4
 clear hHeld
 refine hK_.out _ _ (j7_ a0 (p4_ a4)) (fun hHeld => ?_)
 clear hK_ K_
 refine nP ?_
 refine oP 6 (some 18) (fun K_ hK_ => ?_)
 refine hP Tryd.func70 #[.slice B1 1 d1_, .int .i64 mtu] ?_
 refine (round_Fits.calls _ _ [(⟨key, c, n, s⟩ : Upd7)] mtu true _ ⟨HT_4.out.2⟩ (O4.out.nreads (i := 5) rfl).2.2 (O4.out.nreads (i := 5) rfl).2.1 (by rw [pfits, HF1.out])).mono ?_
 rintro e_ w5 ⟨rfl, hb_⟩
 refine ⟨_, rfl, ?_⟩
 have o_ := O4.out.below hb_
 have k_ := KeepS.of_below (N := N) hb_
 obtain ⟨O5, K5⟩ := ok_ K4 o_ k_
 have HT_5 := Aside0.mk (TabN.keep HT_4.out k_)
 clear a0 a4 O4 K4 HT_4 o_ k_ hb_
 have a0 := k7_ O5 0
 have a4 := k4_ O5 4
 clear hHeld
 refine hK_.out _ _ (j7_ a0 (p4_ a4)) (fun hHeld => ?_)
 clear hK_ K_
 refine nP ?_
 refine pP 7 (some 19) ?_
 refine done_ (by kernel_rfl) ?_
 clear hHeld
 go_wp2
 refine sP (n := 10) (S := d7_ g (jp) (.int .i64 o) (.int .i64 mtu) (.int .i64 push) (.slice A4 K.length c4) (.slice A5 P.length c5) (.slice A6 U.length c6) (c4_ ga (.string key) (.int .i64 c) (.int .i64 n) (.string s))) (ds := []) (j7_ a0 (p4_ a4)) (fun hHeld => ?_)
 obtain ⟨w6, hw_⟩ : ∃ W, W = w5.drew := ⟨_, rfl⟩
 have o_ := O5.out.drew
 have k_ : KeepS N w5 w5.drew := KeepS.drew
 rw [← hw_] at o_ k_ hHeld ⊢
 clear hw_
 obtain ⟨O6, K6⟩ := ok_ K5 o_ k_
 have HT_6 := Aside0.mk (TabN.keep HT_5.out k_)
 clear a0 a4 O5 K5 HT_5 o_ k_
 have a0 := k7_ O6 0
 have a4 := k4_ O6 4
 refine pP 1 (some 21) ?_
 refine pP 2 (some 22) ?_
 refine pP 3 (some 23) ?_
 refine tP 4 (some 24) hHeld ?_
 refine tP 6 (some 26) hHeld ?_
 refine join_ (σ := Option Addr × Nat × Option Addr × Nat × Option Addr × Nat) 2 #[true, true, true, true, true, true, true, true, false, false] (fun ⟨C1, e1, C2, e2, D1, h1_⟩ => [(20, .slice C1 0 e1), (25, .slice C2 U.length e2), (27, .slice D1 1 h1_)]) (fun ⟨C1, e1, C2, e2, D1, h1_⟩ w' => Own N w' [cells g #[jp, .int .i64 o, .int .i64 mtu, .int .i64 push, .slice A4 K.length c4, .slice A5 P.length c5, .slice A6 U.length c6] 111, nrow k32 32 (.slice A6 U.length c6) U, qrow k35 35 (.slice A5 P.length c5) P, qrow k35 35 (.slice A4 K.length c4) K, cells ga #[.string key, .int .i64 c, .int .i64 n, .string s] 32, nrow k32 32 (.slice B1 1 d1_) [(⟨key, c, n, s⟩ : Upd7)], nrow k32 32 (.slice C2 U.length e2) U, nrow k32 32 (.slice D1 1 h1_) [(⟨key, c, n, s⟩ : Upd7)]] ∧ KeepS N w6 w') ?hcont ?hways
 case hways =>
  intro hc_
  have K7 : Aside0 (KeepS N w6 w6) := ⟨KeepS.refl _ _⟩
  have O7 : Aside0 (Own N w6 [cells g #[jp, .int .i64 o, .int .i64 mtu, .int .i64 push, .slice A4 K.length c4, .slice A5 P.length c5, .slice A6 U.length c6] 111, nrow k32 32 (.slice A6 U.length c6) U, qrow k35 35 (.slice A5 P.length c5) P, qrow k35 35 (.slice A4 K.length c4) K, cells ga #[.string key, .int .i64 c, .int .i64 n, .string s] 32, nrow k32 32 (.slice B1 1 d1_) [(⟨key, c, n, s⟩ : Upd7)]]) := O6
  refine tW_ 0 7 (some 20) (some 27) (fun K_ hK_ => ?_) (fun K_ hK_ => ?_)
  ·skip
   refine own_lit_step k32 (N := N) (e := 32) (xs := []) (inner := []) rfl rfl gs_ (Reps.none _ _) (by decide) O7.out ?_
   intro C1 e1 w8 o_ k_
   obtain ⟨O8, K8⟩ := ok_ K7 o_ k_
   have HT_8 := Aside0.mk (TabN.keep HT_6.out k_)
   clear a0 a4 O7 K7 HT_6 o_ k_
   have a0 := k7_ O8 0
   have a4 := k4_ O8 4
   clear hHeld
   refine hK_.out _ _ (j7_ a0 (p4_ a4)) (fun hHeld => ?_)
   clear hK_ K_
   refine nR_ ?_
   refine tW_ 5 7 (some 25) (some 27) (fun K_ hK_ => ?_) (fun K_ hK_ => ?_)
   ·skip
    refine Own.append_flat_step k32 flatU O8.out (i := 6) rfl (O8.out.nreads (i := 1) rfl).2.2 rfl (by rfl) (.tmp 20) (.tmp 24) 33 (.agg #[.string ⟨#[]⟩, .int .i64 0, .int .i64 0, .string ⟨#[]⟩]) 48 rfl Tryd.underlying33 infoU7 rfl (by decide) (by decide) rfl rfl (by have := HL.out; simp only [List.length_nil]; omega) ?_
    intro C2 e2 w9 o_ k_
    obtain ⟨O9, K9⟩ := ok_ K8 o_ k_
    have HT_9 := Aside0.mk (TabN.keep HT_8.out k_)
    clear a0 a4 O8 K8 HT_8 o_ k_
    have a0 := k7_ O9 0
    have a4 := k4_ O9 4
    clear hHeld
    refine hK_.out _ _ (j7_ a0 (p4_ a4)) (fun hHeld => ?_)
    clear hK_ K_
    refine nR_ ?_
    refine oP 7 (some 27) (fun K_ hK_ => ?_)
    refine own_lit_step k32 (N := N) (e := 32) (xs := [(⟨key, c, n, s⟩ : Upd7)]) (inner := [.string key, .int .i64 c, .int .i64 n, .string s]) rfl rfl gs_ (repU1 _ (⟨key, c, n, s⟩ : Upd7)) (by show 1 ≤ 9223372036854775807; decide) O9.out ?_
    intro D1 h1_ w10 o_ k_
    obtain ⟨O10, K10⟩ := ok_ K9 o_ k_
    have HT_10 := Aside0.mk (TabN.keep HT_9.out k_)
    clear a0 a4 O9 K9 HT_9 o_ k_
    have a0 := k7_ O10 0
    have a4 := k4_ O10 4
    clear hHeld
    refine hK_.out _ _ (j7_ a0 (p4_ a4)) (fun hHeld => ?_)
    clear hK_ K_
    refine nR_ ?_
    refine norm_ (a' := _) ?_ (hc_ ⟨C1, e1, C2, e2, D1, h1_⟩ _ ⟨?_, K10.out⟩)
    ·simp only [putAll, Act.put, List.setIfInBounds_toArray, List.set_cons_zero, List.set_cons_succ]
     try rfl
    ·exact O10.out.pickL [0, 1, 2, 3, 4, 5, 6, 7] (by decide) (by simp)
   ·skip
    refine own_lit_step k32 (N := N) (e := 32) (xs := [(⟨key, c, n, s⟩ : Upd7)]) (inner := [.string key, .int .i64 c, .int .i64 n, .string s]) rfl rfl gs_ (repU1 _ (⟨key, c, n, s⟩ : Upd7)) (by show 1 ≤ 9223372036854775807; decide) O8.out ?_
    intro D1 h1_ w9 o_ k_
    obtain ⟨O9, K9⟩ := ok_ K8 o_ k_
    have HT_9 := Aside0.mk (TabN.keep HT_8.out k_)
    clear a0 a4 O8 K8 HT_8 o_ k_
    have a0 := k7_ O9 0
    have a4 := k4_ O9 4
    clear hHeld
    refine hK_.out _ _ (j7_ a0 (p4_ a4)) (fun hHeld => ?_)
    clear hK_ K_
    refine nR_ ?_
    refine oP 5 (some 25) (fun K_ hK_ => ?_)
    refine Own.append_flat_step k32 flatU O9.out (i := 6) rfl (O9.out.nreads (i := 1) rfl).2.2 rfl (by rfl) (.tmp 20) (.tmp 24) 33 (.agg #[.string ⟨#[]⟩, .int .i64 0, .int .i64 0, .string ⟨#[]⟩]) 48 rfl Tryd.underlying33 infoU7 rfl (by decide) (by decide) rfl rfl (by have := HL.out; simp only [List.length_nil]; omega) ?_
    intro C2 e2 w10 o_ k_
    obtain ⟨O10, K10⟩ := ok_ K9 o_ k_
    have HT_10 := Aside0.mk (TabN.keep HT_9.out k_)
    clear a0 a4 O9 K9 HT_9 o_ k_
    have a0 := k7_ O10 0
    have a4 := k4_ O10 4
    clear hHeld
    refine hK_.out _ _ (j7_ a0 (p4_ a4)) (fun hHeld => ?_)
    clear hK_ K_
    refine nR_ ?_
    refine norm_ (a' := _) ?_ (hc_ ⟨C1, e1, C2, e2, D1, h1_⟩ _ ⟨?_, K10.out⟩)
    ·simp only [putAll, Act.put, List.setIfInBounds_toArray, List.set_cons_zero, List.set_cons_succ]
     try rfl
    ·exact O10.out.pickL [0, 1, 2, 3, 4, 5, 6, 7] (by decide) (by simp)
  ·skip
   refine own_lit_step k32 (N := N) (e := 32) (xs := [(⟨key, c, n, s⟩ : Upd7)]) (inner := [.string key, .int .i64 c, .int .i64 n, .string s]) rfl rfl gs_ (repU1 _ (⟨key, c, n, s⟩ : Upd7)) (by show 1 ≤ 9223372036854775807; decide) O7.out ?_
   intro D1 h1_ w8 o_ k_
   obtain ⟨O8, K8⟩ := ok_ K7 o_ k_
   have HT_8 := Aside0.mk (TabN.keep HT_6.out k_)
   clear a0 a4 O7 K7 HT_6 o_ k_
   have a0 := k7_ O8 0
   have a4 := k4_ O8 4
   clear hHeld
   refine hK_.out _ _ (j7_ a0 (p4_ a4)) (fun hHeld => ?_)
   clear hK_ K_
   refine nR_ ?_
   refine oP 0 (some 20) (fun K_ hK_ => ?_)
   refine own_lit_step k32 (N := N) (e := 32) (xs := []) (inner := []) rfl rfl gs_ (Reps.none _ _) (by decide) O8.out ?_
   intro C1 e1 w9 o_ k_
   obtain ⟨O9, K9⟩ := ok_ K8 o_ k_
   have HT_9 := Aside0.mk (TabN.keep HT_8.out k_)
   clear a0 a4 O8 K8 HT_8 o_ k_
   have a0 := k7_ O9 0
   have a4 := k4_ O9 4
   clear hHeld
   refine hK_.out _ _ (j7_ a0 (p4_ a4)) (fun hHeld => ?_)
   clear hK_ K_
   refine nR_ ?_
   refine oP 5 (some 25) (fun K_ hK_ => ?_)
   refine Own.append_flat_step k32 flatU O9.out (i := 7) rfl (O9.out.nreads (i := 1) rfl).2.2 rfl (by rfl) (.tmp 20) (.tmp 24) 33 (.agg #[.string ⟨#[]⟩, .int .i64 0, .int .i64 0, .string ⟨#[]⟩]) 48 rfl Tryd.underlying33 infoU7 rfl (by decide) (by decide) rfl rfl (by have := HL.out; simp only [List.length_nil]; omega) ?_
   intro C2 e2 w10 o_ k_
   obtain ⟨O10, K10⟩ := ok_ K9 o_ k_
   have HT_10 := Aside0.mk (TabN.keep HT_9.out k_)
   clear a0 a4 O9 K9 HT_9 o_ k_
   have a0 := k7_ O10 0
   have a4 := k4_ O10 4
   clear hHeld
   refine hK_.out _ _ (j7_ a0 (p4_ a4)) (fun hHeld => ?_)
   clear hK_ K_
   refine nR_ ?_
   refine norm_ (a' := _) ?_ (hc_ ⟨C1, e1, C2, e2, D1, h1_⟩ _ ⟨?_, K10.out⟩)
   ·simp only [putAll, Act.put, List.setIfInBounds_toArray, List.set_cons_zero, List.set_cons_succ]
    try rfl
   ·exact O10.out.pickL [0, 1, 2, 3, 4, 5, 7, 6] (by decide) (by simp)
 case hcont =>
  clear hHeld
  rintro ⟨C1, e1, C2, e2, D1, h1_⟩ w7 ⟨o_, k_⟩
  obtain ⟨O7, K7⟩ := ok_ K6 o_ k_
  have HT_7 := Aside0.mk (TabN.keep HT_6.out k_)
  clear a0 a4 O6 K6 HT_6 o_ k_
  have a0 := k7_ O7 0
  have a4 := k4_ O7 4
  refine nA_ ?_
  have hHeld : w7.cell? ⟨g, 0, none⟩ = some (jp) ∧ w7.cell? ⟨g, 1, none⟩ = some (.int .i64 o) ∧ w7.cell? ⟨g, 2, none⟩ = some (.int .i64 mtu) ∧ w7.cell? ⟨g, 3, none⟩ = some (.int .i64 push) ∧ w7.cell? ⟨g, 4, none⟩ = some (.slice A4 K.length c4) ∧ w7.cell? ⟨g, 5, none⟩ = some (.slice A5 P.length c5) ∧ w7.cell? ⟨g, 6, none⟩ = some (.slice A6 U.length c6) ∧ w7.cell? ⟨ga, 0, none⟩ = some (.string key) ∧ w7.cell? ⟨ga, 1, none⟩ = some (.int .i64 c) ∧ w7.cell? ⟨ga, 2, none⟩ = some (.int .i64 n) ∧ w7.cell? ⟨ga, 3, none⟩ = some (.string s) := (j7_ a0 (p4_ a4))
  refine oP 8 (some 28) (fun K_ hK_ => ?_)
  refine Own.append_flat_step k32 flatU O7.out (i := 6) (ys := [(⟨key, c, n, s⟩ : Upd7)]) rfl (O7.out.nreads (i := 7) rfl).2.2 rfl (by rfl) (.tmp 25) (.tmp 27) 33 (.agg #[.string ⟨#[]⟩, .int .i64 0, .int .i64 0, .string ⟨#[]⟩]) 48 rfl Tryd.underlying33 infoU7 rfl (by decide) (by decide) rfl rfl (by have := HL.out; omega) ?_
  rw [HV.out]
  intro C3 e3 w8 o_ k_
  obtain ⟨O8, K8⟩ := ok_ K7 o_ k_
  have HT_8 := Aside0.mk (TabN.keep HT_7.out k_)
  clear a0 a4 O7 K7 HT_7 o_ k_
  have a0 := k7_ O8 0
  have a4 := k4_ O8 4
  clear hHeld
  refine hK_.out _ _ (j7_ a0 (p4_ a4)) (fun hHeld => ?_)
  clear hK_ K_
  refine nP ?_
  refine pP 9 (some 6) ?_
  refine done_ (by kernel_rfl) ?_
  clear hHeld
  cases F
  ·go_wp2_with (first | ((with_reducible refine gC 70 rfl ?_); refine gP (some 34) Tryd.func70 #[.slice C3 V.length e3, .int .i64 mtu] ?_; refine (round_Fits.calls _ _ V mtu false _ ⟨HT_8.out.2⟩ (O8.out.nreads (i := 6) rfl).2.2 (O8.out.nreads (i := 6) rfl).2.1 (by rw [pfits, HF2.out])).mono ?_; rintro e_ w9 ⟨rfl, hb_⟩; refine ⟨_, rfl, ?_⟩; have o_ := O8.out.below hb_; have k_ := KeepS.of_below (N := N) hb_; obtain ⟨O9, K9⟩ := ok_ K8 o_ k_; have HT_9 := Aside0.mk (TabN.keep HT_8.out k_); clear a0 a4 O8 K8 HT_8 o_ k_ hb_; have a0 := k7_ O9 0; have a4 := k4_ O9 4))
   refine Q0_.out (by trivial) _ _ ?_
   exact ⟨rfl, (CliO.shut (O9.out.pickL [0, 3, 2, 1] (by decide) (by simp))).take 1, K9.out⟩
  ·go_wp2_with (first | ((with_reducible refine gC 70 rfl ?_); refine gP (some 34) Tryd.func70 #[.slice C3 V.length e3, .int .i64 mtu] ?_; refine (round_Fits.calls _ _ V mtu true _ ⟨HT_8.out.2⟩ (O8.out.nreads (i := 6) rfl).2.2 (O8.out.nreads (i := 6) rfl).2.1 (by rw [pfits, HF2.out])).mono ?_; rintro e_ w9 ⟨rfl, hb_⟩; refine ⟨_, rfl, ?_⟩; have o_ := O8.out.below hb_; have k_ := KeepS.of_below (N := N) hb_; obtain ⟨O9, K9⟩ := ok_ K8 o_ k_; have HT_9 := Aside0.mk (TabN.keep HT_8.out k_); clear a0 a4 O8 K8 HT_8 o_ k_ hb_; have a0 := k7_ O9 0; have a4 := k4_ O9 4) | ((with_reducible refine gT 33 39 rfl ?_); refine wS 0 6 [.slice C3 V.length e3] O9 ?_; intro w10 o_ k_; obtain ⟨O10, K10⟩ := ok_ K9 o_ k_; have HT_10 := Aside0.mk (TabN.keep HT_9.out k_); clear a0 a4 O9 K9 HT_9 o_ k_; have a0 := k7_ O10 0; have a4 := k4_ O10 4))
   refine Q1_.out (by trivial) _ _ ?_
   rw [HV.out]
   exact ⟨rfl, (CliO.shut (O10.out.pickL [0, 3, 2, 6] (by decide) (by simp))).take 1, K10.out⟩
theorem AddG {N : Nat → Prop} {w : World} {gj : Nat} {jo jm E : Int} {L LL : List Rnd7} {rr : Rnd7} (B : Option Addr) (c : Nat) (ups : List Upd7) (h : Own N w [Obj3 138 gj jo jm L]) (hr : Kd.F k32 w N B ups.length ups) (hc : ups.length ≤ c) (hL : L.length ≤ 1000000) (hu : ups.length ≤ 1000000) (h1 : addE jo jm L ups = E) (h2 : addR jo jm L ups = rr) (h3 : addL jo jm L ups = LL) :
  Calls Tryd.prog 71 #[.pointer (some ⟨gj, 0, none⟩), .slice B ups.length c] w fun e_ w' => ∃ A1 c1, e_ = .returned (.tuple #[.agg #[.int .i64 rr.f0, .int .i64 rr.f1, .slice A1 rr.f2.length c1], .int .i64 E]) ∧ Own N w' [Obj3 138 gj jo jm LL, nrow k32 32 (.slice A1 rr.f2.length c1) rr.f2] ∧ KeepS N w w' := by
 subst h1 h2 h3
 exact Add B c ups h hr hc hL hu
theorem addR_len {jo jm : Int} {L : List Rnd7} {ups : List Upd7} (hu : ups.length ≤ 1000000) : (addR jo jm L ups).f2.length ≤ 1000000 := by
 unfold addR
 split
 ·exact hu
 ·exact Nat.zero_le _
theorem CPush_none {N : Nat → Prop} {w : World} {g gj : Nat} {o mtu push jo jm : Int} {K P L : List Rnd7} {U : List Upd7} (h : Own N w [CliO g (.pointer (some ⟨gj, 0, none⟩)) o mtu push K P U, Obj3 138 gj jo jm L]) (hu : U.length ≤ 1000000) (hL : L.length ≤ 1000000) (hP : P.length ≤ 1000000) (hu0 : U.length = 0) :
  Calls Tryd.prog 31 #[.pointer (some ⟨g, 0, none⟩)] w fun e_ w' => ∃ A1 c1, e_ = .returned (.tuple #[.agg #[.int .i64 z35.f0, .int .i64 z35.f1, .slice A1 z35.f2.length c1], .int .i64 11]) ∧ Own N w' [CliO g (.pointer (some ⟨gj, 0, none⟩)) o mtu push K P U, Obj3 138 gj jo jm L, nrow k32 32 (.slice A1 z35.f2.length c1) z35.f2] ∧ KeepS N w w' := by
 have d1 : ((U.length : Int) == 0) = true := by simp [hu0]
 have HUL := Aside0.mk hu
 have HL := Aside0.mk hL
 have HP := Aside0.mk hP
 obtain ⟨A4, c4, A5, c5, A6, c6, hcap, h2⟩ := CliO.open_ h
 have HCAP := Aside0.mk hcap
 have O0 : Aside0 (Own N w [cells g #[.pointer (some ⟨gj, 0, none⟩), .int .i64 o, .int .i64 mtu, .int .i64 push, .slice A4 K.length c4, .slice A5 P.length c5, .slice A6 U.length c6] 111, Obj3 138 gj jo jm L, nrow k32 32 (.slice A6 U.length c6) U, qrow k35 35 (.slice A5 P.length c5) P, qrow k35 35 (.slice A4 K.length c4) K]) := ⟨h2⟩
 have K0 : Aside0 (KeepS N w w) := ⟨KeepS.refl _ _⟩
 have a0 := k7_ O0 0
 clear h2 h hu hL hP hcap hu0
 go_enter Tryd.func31, Tryd.ntmps31
 go_wp2_with (first | ((with_reducible refine gD 2 rfl ?_); refine bP 2 #[.int .i64 0, .int .i64 0, .slice none 0 0] 35 O0.out ?_; intro gz w1 o_ k_; obtain ⟨O1, K1⟩ := ok_ K0 o_ k_; clear a0 O0 K0 o_ k_; have a0 := k7_ O1 0; have a5 := k3_ O1 5) | ((with_reducible refine gT 35 2 rfl ?_); refine wS 5 0 [.int .i64 0, .int .i64 0, .slice none 0 0] O1 ?_; intro w2 o_ k_; obtain ⟨O2, K2⟩ := ok_ K1 o_ k_; clear a0 a5 O1 K1 o_ k_; have a0 := k7_ O2 0; have a5 := k3_ O2 5))
 refine bodyPost_ret (results_ct rfl _ _ gz 35 #[.int .i64 0, .int .i64 0, .slice none 0 0] (0, 0) _ rfl (O2.out.blk (i := 5) rfl) Tryd.underlying35 rfl (by kernel_rfl)) rfl ?_
 exact ⟨none, 0, rfl, ((CliO.shut (O2.out.pickL [0, 4, 3, 2, 1] (by decide) (by simp))).pickL [0, 4] (by decide) (by simp)).push_emp _ (fun w => Kd.N_nil _ _ _ _ _), K2.out⟩
theorem CPush_full {N : Nat → Prop} {w : World} {g gj : Nat} {o mtu push jo jm : Int} {K P L : List Rnd7} {U : List Upd7} (h : Own N w [CliO g (.pointer (some ⟨gj, 0, none⟩)) o mtu push K P U, Obj3 138 gj jo jm L]) (hu : U.length ≤ 1000000) (hL : L.length ≤ 1000000) (hP : P.length ≤ 1000000) (hu0 : U.length ≠ 0) (hp : (P.length : Int) ≥ push) :
  Calls Tryd.prog 31 #[.pointer (some ⟨g, 0, none⟩)] w fun e_ w' => ∃ A1 c1, e_ = .returned (.tuple #[.agg #[.int .i64 z35.f0, .int .i64 z35.f1, .slice A1 z35.f2.length c1], .int .i64 7]) ∧ Own N w' [CliO g (.pointer (some ⟨gj, 0, none⟩)) o mtu push K P U, Obj3 138 gj jo jm L, nrow k32 32 (.slice A1 z35.f2.length c1) z35.f2] ∧ KeepS N w w' := by
 have d1 : ((U.length : Int) == 0) = false := beq_eq_false_iff_ne.mpr (by omega)
 have d2 : decide ((P.length : Int) ≥ push) = true := decide_eq_true hp
 have d3 : decide (push ≤ (P.length : Int)) = true := d2
 have HUL := Aside0.mk hu
 have HL := Aside0.mk hL
 have HP := Aside0.mk hP
 obtain ⟨A4, c4, A5, c5, A6, c6, hcap, h2⟩ := CliO.open_ h
 have HCAP := Aside0.mk hcap
 have O0 : Aside0 (Own N w [cells g #[.pointer (some ⟨gj, 0, none⟩), .int .i64 o, .int .i64 mtu, .int .i64 push, .slice A4 K.length c4, .slice A5 P.length c5, .slice A6 U.length c6] 111, Obj3 138 gj jo jm L, nrow k32 32 (.slice A6 U.length c6) U, qrow k35 35 (.slice A5 P.length c5) P, qrow k35 35 (.slice A4 K.length c4) K]) := ⟨h2⟩
 have K0 : Aside0 (KeepS N w w) := ⟨KeepS.refl _ _⟩
 have a0 := k7_ O0 0
 clear h2 h hu hL hP hcap hu0 hp
 go_enter Tryd.func31, Tryd.ntmps31
 go_wp2_with (first | ((with_reducible refine gD 2 rfl ?_); refine bP 2 #[.int .i64 0, .int .i64 0, .slice none 0 0] 35 O0.out ?_; intro gz w1 o_ k_; obtain ⟨O1, K1⟩ := ok_ K0 o_ k_; clear a0 O0 K0 o_ k_; have a0 := k7_ O1 0; have a5 := k3_ O1 5))
 refine sP (n := 11) (S := c7_ g (.pointer (some ⟨gj, 0, none⟩)) (.int .i64 o) (.int .i64 mtu) (.int .i64 push) (.slice A4 K.length c4) (.slice A5 P.length c5) (.slice A6 U.length c6)) (ds := []) (p7_ a0) (fun hHeld => ?_)
 obtain ⟨w2, hw_⟩ : ∃ W, W = w1.drew := ⟨_, rfl⟩
 have o_ := O1.out.drew
 have k_ : KeepS N w1 w1.drew := KeepS.drew
 rw [← hw_] at o_ k_ hHeld ⊢
 clear hw_
 obtain ⟨O2, K2⟩ := ok_ K1 o_ k_
 clear a0 a5 O1 K1 o_ k_
 have a0 := k7_ O2 0
 have a5 := k3_ O2 5
 refine pP 0 (some 15) ?_
 refine pP 1 (some 16) ?_
 refine pP 2 (some 17) ?_
 refine pP 5 (some 20) ?_
 refine pP 6 (some 21) ?_
 refine pP 7 (some 22) ?_
 refine tP 3 (some 18) hHeld ?_
 refine pP 4 (some 19) ?_
 refine tP 8 (some 23) hHeld ?_
 refine pP 9 (some 24) ?_
 refine pP 10 (some 14) ?_
 refine done_ (by kernel_rfl) ?_
 clear hHeld
 go_wp2_with (first | ((with_reducible refine gT 35 2 rfl ?_); refine wS 5 0 [.int .i64 0, .int .i64 0, .slice none 0 0] O2 ?_; intro w3 o_ k_; obtain ⟨O3, K3⟩ := ok_ K2 o_ k_; clear a0 a5 O2 K2 o_ k_; have a0 := k7_ O3 0; have a5 := k3_ O3 5))
 refine bodyPost_ret (results_ct rfl _ _ gz 35 #[.int .i64 0, .int .i64 0, .slice none 0 0] (0, 0) _ rfl (O3.out.blk (i := 5) rfl) Tryd.underlying35 rfl (by kernel_rfl)) rfl ?_
 exact ⟨none, 0, rfl, ((CliO.shut (O3.out.pickL [0, 4, 3, 2, 1] (by decide) (by simp))).pickL [0, 4] (by decide) (by simp)).push_emp _ (fun w => Kd.N_nil _ _ _ _ _), K3.out⟩
theorem CPush_eo {N : Nat → Prop} {w : World} {g gj : Nat} {o mtu push jo jm : Int} {K P L : List Rnd7} {U : List Upd7} (h : Own N w [CliO g (.pointer (some ⟨gj, 0, none⟩)) o mtu push K P U, Obj3 138 gj jo jm L]) (hu : U.length ≤ 1000000) (hL : L.length ≤ 1000000) (hP : P.length ≤ 1000000) (hu0 : U.length ≠ 0) (hp : ¬ (P.length : Int) ≥ push) {Q_ : Ending → World → Prop} (q0_ : addE jo jm L U ≠ 0 → ∀ e_ w', (∃ A1 c1, e_ = .returned (.tuple #[.agg #[.int .i64 z35.f0, .int .i64 z35.f1, .slice A1 z35.f2.length c1], .int .i64 (addE jo jm L U)]) ∧ Own N w' [CliO g (.pointer (some ⟨gj, 0, none⟩)) o mtu push K P U, Obj3 138 gj jo jm (addL jo jm L U), nrow k32 32 (.slice A1 z35.f2.length c1) z35.f2] ∧ KeepS N w w') → Q_ e_ w') (q1_ : addE jo jm L U = 0 → ∀ e_ w', (∃ A1 c1, e_ = .returned (.tuple #[.agg #[.int .i64 (addR jo jm L U).f0, .int .i64 (addR jo jm L U).f1, .slice A1 (addR jo jm L U).f2.length c1], .int .i64 0]) ∧ Own N w' [CliO g (.pointer (some ⟨gj, 0, none⟩)) o mtu push K (P ++ [addR jo jm L U]) [], Obj3 138 gj jo jm (addL jo jm L U), nrow k32 32 (.slice A1 (addR jo jm L U).f2.length c1) (addR jo jm L U).f2] ∧ KeepS N w w') → Q_ e_ w') :
  Calls Tryd.prog 31 #[.pointer (some ⟨g, 0, none⟩)] w fun e_ w' => Q_ e_ w' ∧ True := by
 have Q0_ := Aside0.mk q0_
 have Q1_ := Aside0.mk q1_
 clear q0_ q1_
 have d1 : ((U.length : Int) == 0) = false := beq_eq_false_iff_ne.mpr (by omega)
 have d2 : decide ((P.length : Int) ≥ push) = false := decide_eq_false (by omega)
 have d3 : decide (push ≤ (P.length : Int)) = false := d2
 obtain ⟨E, hE⟩ : ∃ E, addE jo jm L U = E := ⟨_, rfl⟩
 obtain ⟨rr, hrr⟩ : ∃ r, addR jo jm L U = r := ⟨_, rfl⟩
 obtain ⟨LL, hLL⟩ : ∃ r, addL jo jm L U = r := ⟨_, rfl⟩
 have HRL : Aside0 (rr.f2.length ≤ 1000000) := ⟨by rw [← hrr]; exact addR_len hu⟩
 have HE := Aside0.mk hE
 have HRR := Aside0.mk hrr
 have HLL := Aside0.mk hLL
 clear hE hrr hLL
 have HUL := Aside0.mk hu
 have HL := Aside0.mk hL
 have HP := Aside0.mk hP
 obtain ⟨A4, c4, A5, c5, A6, c6, hcap, h2⟩ := CliO.open_ h
 have HCAP := Aside0.mk hcap
 have O0 : Aside0 (Own N w [cells g #[.pointer (some ⟨gj, 0, none⟩), .int .i64 o, .int .i64 mtu, .int .i64 push, .slice A4 K.length c4, .slice A5 P.length c5, .slice A6 U.length c6] 111, Obj3 138 gj jo jm L, nrow k32 32 (.slice A6 U.length c6) U, qrow k35 35 (.slice A5 P.length c5) P, qrow k35 35 (.slice A4 K.length c4) K]) := ⟨h2⟩
 have K0 : Aside0 (KeepS N w w) := ⟨KeepS.refl _ _⟩
 have a0 := k7_ O0 0
 clear h2 h hu hL hP hcap hu0 hp
 go_enter Tryd.func31, Tryd.ntmps31
 go_wp2_with (first | ((with_reducible refine gD 2 rfl ?_); refine bP 2 #[.int .i64 0, .int .i64 0, .slice none 0 0] 35 O0.out ?_; intro gz w1 o_ k_; obtain ⟨O1, K1⟩ := ok_ K0 o_ k_; clear a0 O0 K0 o_ k_; have a0 := k7_ O1 0; have a5 := k3_ O1 5))
 refine sP (n := 11) (S := c7_ g (.pointer (some ⟨gj, 0, none⟩)) (.int .i64 o) (.int .i64 mtu) (.int .i64 push) (.slice A4 K.length c4) (.slice A5 P.length c5) (.slice A6 U.length c6)) (ds := []) (p7_ a0) (fun hHeld => ?_)
 obtain ⟨w2, hw_⟩ : ∃ W, W = w1.drew := ⟨_, rfl⟩
 have o_ := O1.out.drew
 have k_ : KeepS N w1 w1.drew := KeepS.drew
 rw [← hw_] at o_ k_ hHeld ⊢
 clear hw_
 obtain ⟨O2, K2⟩ := ok_ K1 o_ k_
 clear a0 a5 O1 K1 o_ k_
 have a0 := k7_ O2 0
 have a5 := k3_ O2 5
 refine pP 0 (some 15) ?_
 refine pP 1 (some 16) ?_
 refine pP 2 (some 17) ?_
 refine pP 5 (some 20) ?_
 refine pP 6 (some 21) ?_
 refine pP 7 (some 22) ?_
 refine tP 3 (some 18) hHeld ?_
 refine pP 4 (some 19) ?_
 refine tP 8 (some 23) hHeld ?_
 refine pP 9 (some 24) ?_
 refine pP 10 (some 14) ?_
 refine done_ (by kernel_rfl) ?_
 clear hHeld
 go_wp2
 refine sP (n := 15) (S := c7_ g (.pointer (some ⟨gj, 0, none⟩)) (.int .i64 o) (.int .i64 mtu) (.int .i64 push) (.slice A4 K.length c4) (.slice A5 P.length c5) (.slice A6 U.length c6)) (ds := []) (p7_ a0) (fun hHeld => ?_)
 obtain ⟨w3, hw_⟩ : ∃ W, W = w2.drew := ⟨_, rfl⟩
 have o_ := O2.out.drew
 have k_ : KeepS N w2 w2.drew := KeepS.drew
 rw [← hw_] at o_ k_ hHeld ⊢
 clear hw_
 obtain ⟨O3, K3⟩ := ok_ K2 o_ k_
 clear a0 a5 O2 K2 o_ k_
 have a0 := k7_ O3 0
 have a5 := k3_ O3 5
 refine pP 0 (some 27) ?_
 refine pP 1 (some 28) ?_
 refine pP 2 (some 29) ?_
 refine pP 4 (some 31) ?_
 refine pP 5 (some 32) ?_
 refine pP 6 (some 33) ?_
 refine tP 3 (some 30) hHeld ?_
 refine tP 7 (some 34) hHeld ?_
 refine join_ (σ := Option Addr × Nat × Nat) 2 #[true, true, true, true, true, true, true, true, true, true, true, true, true, false, false] (fun ⟨A1, c1, gr⟩ => [(35, .tuple #[.agg #[.int .i64 rr.f0, .int .i64 rr.f1, .slice A1 rr.f2.length c1], .int .i64 E]), (26, .tuple #[.agg #[.int .i64 rr.f0, .int .i64 rr.f1, .slice A1 rr.f2.length c1], .int .i64 E]), (36, .agg #[.int .i64 rr.f0, .int .i64 rr.f1, .slice A1 rr.f2.length c1]), (37, .int .i64 E), (4, .pointer (some ⟨gr, 0, none⟩))]) (fun ⟨A1, c1, gr⟩ w' => Own N w' [cells g #[.pointer (some ⟨gj, 0, none⟩), .int .i64 o, .int .i64 mtu, .int .i64 push, .slice A4 K.length c4, .slice A5 P.length c5, .slice A6 U.length c6] 111, Obj3 138 gj jo jm LL, nrow k32 32 (.slice A6 U.length c6) U, qrow k35 35 (.slice A5 P.length c5) P, qrow k35 35 (.slice A4 K.length c4) K, cells gz #[.int .i64 0, .int .i64 0, .slice none 0 0] 35, nrow k32 32 (.slice A1 rr.f2.length c1) rr.f2, cells gr #[.int .i64 0, .int .i64 0, .slice none 0 0] 35] ∧ KeepS N w3 w') ?hcont ?hways
 case hways =>
  intro hc_
  have K4 : Aside0 (KeepS N w3 w3) := ⟨KeepS.refl _ _⟩
  have O4 : Aside0 (Own N w3 [cells g #[.pointer (some ⟨gj, 0, none⟩), .int .i64 o, .int .i64 mtu, .int .i64 push, .slice A4 K.length c4, .slice A5 P.length c5, .slice A6 U.length c6] 111, Obj3 138 gj jo jm L, nrow k32 32 (.slice A6 U.length c6) U, qrow k35 35 (.slice A5 P.length c5) P, qrow k35 35 (.slice A4 K.length c4) K, cells gz #[.int .i64 0, .int .i64 0, .slice none 0 0] 35]) := O3
  refine tW_ 8 12 (some 35) (some 4) (fun K_ hK_ => ?_) (fun K_ hK_ => ?_)
  ·skip
   refine hP Tryd.func71 #[.pointer (some ⟨gj, 0, none⟩), .slice A6 U.length c6] ?_
   obtain ⟨N_, on_, nn_, rr_, bb_⟩ := O4.out.frame1 (i := 1) rfl
   have hu_ := Kd.N_F (rr_ 2 _ (by decide) rfl)
   refine (AddG A6 c6 U on_ hu_ HCAP.out.2.2 HL.out HUL.out HE.out HRR.out HLL.out).mono ?_
   rintro e_ w5 ⟨A1, c1, rfl, oo_, kk_⟩
   obtain ⟨o_, k_⟩ := bb_ _ _ _ kk_ oo_
   refine ⟨_, rfl, ?_⟩
   obtain ⟨O5, K5⟩ := ok_ K4 o_ k_
   clear a0 a5 O4 K4 o_ k_ oo_ kk_ on_ nn_ rr_ bb_ hu_
   have a0 := k7_ O5 0
   have a5 := k3_ O5 5
   clear hHeld
   refine hK_.out _ _ (p7_ a0) (fun hHeld => ?_)
   clear hK_ K_
   refine nR_ ?_
   refine pP 9 (some 26) ?_
   refine pP 10 (some 36) ?_
   refine pP 11 (some 37) ?_
   refine oP 12 (some 4) (fun K_ hK_ => ?_)
   refine cP #[.int .i64 0, .int .i64 0, .slice none 0 0] 35 O5.out ?_
   intro gr w6 o_ k_
   obtain ⟨O6, K6⟩ := ok_ K5 o_ k_
   clear a0 a5 O5 K5 o_ k_
   have a0 := k7_ O6 0
   have a5 := k3_ O6 5
   have a7 := k3_ O6 7
   clear hHeld
   refine hK_.out _ _ (p7_ a0) (fun hHeld => ?_)
   clear hK_ K_
   refine nR_ ?_
   refine norm_ (a' := _) ?_ (hc_ ⟨A1, c1, gr⟩ _ ⟨?_, K6.out⟩)
   ·simp only [putAll, Act.put, List.setIfInBounds_toArray, List.set_cons_zero, List.set_cons_succ]
    try rfl
   ·exact O6.out.pickL [0, 1, 2, 3, 4, 5, 6, 7] (by decide) (by simp)
  ·skip
   refine cP #[.int .i64 0, .int .i64 0, .slice none 0 0] 35 O4.out ?_
   intro gr w5 o_ k_
   obtain ⟨O5, K5⟩ := ok_ K4 o_ k_
   clear a0 a5 O4 K4 o_ k_
   have a0 := k7_ O5 0
   have a5 := k3_ O5 5
   have a6 := k3_ O5 6
   clear hHeld
   refine hK_.out _ _ (p7_ a0) (fun hHeld => ?_)
   clear hK_ K_
   refine nR_ ?_
   refine oP 8 (some 35) (fun K_ hK_ => ?_)
   refine hP Tryd.func71 #[.pointer (some ⟨gj, 0, none⟩), .slice A6 U.length c6] ?_
   obtain ⟨N_, on_, nn_, rr_, bb_⟩ := O5.out.frame1 (i := 1) rfl
   have hu_ := Kd.N_F (rr_ 2 _ (by decide) rfl)
   refine (AddG A6 c6 U on_ hu_ HCAP.out.2.2 HL.out HUL.out HE.out HRR.out HLL.out).mono ?_
   rintro e_ w6 ⟨A1, c1, rfl, oo_, kk_⟩
   obtain ⟨o_, k_⟩ := bb_ _ _ _ kk_ oo_
   refine ⟨_, rfl, ?_⟩
   obtain ⟨O6, K6⟩ := ok_ K5 o_ k_
   clear a0 a5 a6 O5 K5 o_ k_ oo_ kk_ on_ nn_ rr_ bb_ hu_
   have a0 := k7_ O6 0
   have a5 := k3_ O6 5
   have a6 := k3_ O6 6
   clear hHeld
   refine hK_.out _ _ (p7_ a0) (fun hHeld => ?_)
   clear hK_ K_
   refine nR_ ?_
   refine pP 9 (some 26) ?_
   refine pP 10 (some 36) ?_
   refine pP 11 (some 37) ?_
   refine norm_ (a' := _) ?_ (hc_ ⟨A1, c1, gr⟩ _ ⟨?_, K6.out⟩)
   ·simp only [putAll, Act.put, List.setIfInBounds_toArray, List.set_cons_zero, List.set_cons_succ]
    try rfl
   ·exact O6.out.pickL [0, 1, 2, 3, 4, 5, 7, 6] (by decide) (by simp)
 case hcont =>
  clear hHeld
  rintro ⟨A1, c1, gr⟩ w4 ⟨o_, k_⟩
  obtain ⟨O4, K4⟩ := ok_ K3 o_ k_
  clear a0 a5 O3 K3 o_ k_
  have a0 := k7_ O4 0
  have a5 := k3_ O4 5
  have a7 := k3_ O4 7
  refine nA_ ?_
  have hHeld : w4.cell? ⟨g, 0, none⟩ = some (.pointer (some ⟨gj, 0, none⟩)) ∧ w4.cell? ⟨g, 1, none⟩ = some (.int .i64 o) ∧ w4.cell? ⟨g, 2, none⟩ = some (.int .i64 mtu) ∧ w4.cell? ⟨g, 3, none⟩ = some (.int .i64 push) ∧ w4.cell? ⟨g, 4, none⟩ = some (.slice A4 K.length c4) ∧ w4.cell? ⟨g, 5, none⟩ = some (.slice A5 P.length c5) ∧ w4.cell? ⟨g, 6, none⟩ = some (.slice A6 U.length c6) := (p7_ a0)
  refine oP 13 none (fun K_ hK_ => ?_)
  refine xS 7 0 [.int .i64 rr.f0, .int .i64 rr.f1, .slice A1 rr.f2.length c1] O4 ?_
  intro w5 o_ k_
  obtain ⟨O5, K5⟩ := ok_ K4 o_ k_
  clear a0 a5 a7 O4 K4 o_ k_
  have a0 := k7_ O5 0
  have a5 := k3_ O5 5
  have a7 := k3_ O5 7
  clear hHeld
  refine hK_.out _ _ (p7_ a0) (fun hHeld => ?_)
  clear hK_ K_
  refine pP 14 (some 5) ?_
  refine done_ (by kernel_rfl) ?_
  clear hHeld
  rcases Decidable.em (E = 0) with he | he
  ·subst he
   have d4 : ((0 : Int) != 0) = false := by decide
   go_wp2_with (first | ((with_reducible refine gT 33 44 rfl ?_); refine wS 0 6 [.slice none 0 0] O5 ?_; intro w6 o_ k_; obtain ⟨O6, K6⟩ := ok_ K5 o_ k_; clear a0 a5 a7 O5 K5 o_ k_; have a0 := k7_ O6 0; have a5 := k3_ O6 5; have a7 := k3_ O6 7))
   refine sP (n := 12) (S := d7_ g (.pointer (some ⟨gj, 0, none⟩)) (.int .i64 o) (.int .i64 mtu) (.int .i64 push) (.slice A4 K.length c4) (.slice A5 P.length c5) (.slice none 0 0) (c3_ gr (.int .i64 rr.f0) (.int .i64 rr.f1) (.slice A1 rr.f2.length c1))) (ds := [8, 11]) (j7_ a0 (p3_ a7)) (fun hHeld => ?_)
   obtain ⟨w7, hw_⟩ : ∃ W, W = w6.drew := ⟨_, rfl⟩
   have o_ := O6.out.drew
   have k_ : KeepS N w6 w6.drew := KeepS.drew
   rw [← hw_] at o_ k_ hHeld ⊢
   clear hw_
   obtain ⟨O7, K7⟩ := ok_ K6 o_ k_
   clear a0 a5 a7 O6 K6 o_ k_
   have a0 := k7_ O7 0
   have a5 := k3_ O7 5
   have a7 := k3_ O7 7
   refine pP 0 (some 45) ?_
   refine pP 1 (some 46) ?_
   refine pP 2 (some 47) ?_
   refine pP 3 (some 48) ?_
   refine tP 4 (some 49) hHeld ?_
   refine tP 5 (some 50) hHeld ?_
   refine oP 6 (some 51) (fun K_ hK_ => ?_)
   refine hP Tryd.func72 #[.agg #[.int .i64 rr.f0, .int .i64 rr.f1, .slice A1 rr.f2.length c1]] ?_
   refine (round_Copy.calls rr.f0 rr.f1 _ _ rr.f2 rr.f0 rr.f1 rr.f2 _ (O7.out.nreads (i := 6) rfl).2.2 (O7.out.nreads (i := 6) rfl).2.1 (copyC _ _ _ HRL.out)).mono ?_
   rintro e_ w8 ⟨v_, rfl, hR_, hb_⟩
   obtain ⟨A7, c7, e__⟩ := Kd.R_slice hR_
   subst e__
   refine ⟨_, rfl, ?_⟩
   have o_ := O7.out.pushW hb_ (Nat.le_refl _) hR_
   have k_ := KeepS.of_below (N := N) hb_
   have o2_ := rowElem rr (i := 8) o_ rfl
   obtain ⟨O8, K8⟩ := ok_ K7 o2_ k_
   clear a0 a5 a7 O7 K7 o_ k_ hb_ hR_ o2_
   have a0 := k7_ O8 0
   have a5 := k3_ O8 5
   have a7 := k3_ O8 7
   clear hHeld
   refine hK_.out _ _ (j7_ a0 (p3_ a7)) (fun hHeld => ?_)
   clear hK_ K_
   refine nP ?_
   refine oP 7 (some 52) (fun K_ hK_ => ?_)
   refine value_ rfl rfl (w1 := (World.alloc w8 (.cells [.int .i64 rr.f0, .int .i64 rr.f1, .slice A7 rr.f2.length c7].toArray 35))) (v := .slice (some ⟨w8.heap.size, 0, none⟩) 1 1) gs_ ?_
   clear hHeld
   refine hK_.out _ _ ⟨(pw_cell_below ((Below.refl _ _).alloc (Nat.le_refl _) _) a0.1), (pw_cell_below ((Below.refl _ _).alloc (Nat.le_refl _) _) a0.2.1), (pw_cell_below ((Below.refl _ _).alloc (Nat.le_refl _) _) a0.2.2.1), (pw_cell_below ((Below.refl _ _).alloc (Nat.le_refl _) _) a0.2.2.2.1), (pw_cell_below ((Below.refl _ _).alloc (Nat.le_refl _) _) a0.2.2.2.2.1), (pw_cell_below ((Below.refl _ _).alloc (Nat.le_refl _) _) a0.2.2.2.2.2.1), (pw_cell_below ((Below.refl _ _).alloc (Nat.le_refl _) _) a0.2.2.2.2.2.2.1), (pw_cell_below ((Below.refl _ _).alloc (Nat.le_refl _) _) a7.1), (pw_cell_below ((Below.refl _ _).alloc (Nat.le_refl _) _) a7.2.1), (pw_cell_below ((Below.refl _ _).alloc (Nat.le_refl _) _) a7.2.2.1)⟩ (fun hHeld => ?_)
   clear hK_ K_
   refine nP ?_
   refine lP 8 (some 53) (fun K_ hK_ => ?_)
   refine appendQ_step k35 O8.out (i := 3) (j := 8) rfl rfl (by decide) rfl rfl (.tmp 49) (.tmp 52) 40 (.agg #[.int .i64 0, .int .i64 0, .slice none 0 0]) 40 rfl Tryd.underlying40 infoR rfl (by decide) (by decide) rfl rfl (by have := HP.out; omega) ?_
   intro A8 c8 w9 o_ k_
   obtain ⟨O9, K9⟩ := ok_ K8 o_ k_
   clear a0 a5 a7 O8 K8 o_ k_
   have a0 := k7_ O9 0
   have a5 := k3_ O9 5
   have a7 := k3_ O9 7
   refine hK_.out _ _ ?_
   clear hK_ K_
   refine nP ?_
   refine pP 9 (some 54) ?_
   refine pP 10 (some 55) ?_
   refine lP 11 none (fun K_ hK_ => ?_)
   refine xS 0 5 [.slice A8 (P.length + 1) c8] O9 ?_
   intro w10 o_ k_
   obtain ⟨O10, K10⟩ := ok_ K9 o_ k_
   clear a0 a5 a7 O9 K9 o_ k_
   have a0 := k7_ O10 0
   have a5 := k3_ O10 5
   have a7 := k3_ O10 7
   refine hK_.out _ _ ?_
   clear hK_ K_
   refine done_ (by kernel_rfl) ?_
   clear hHeld
   go_wp2_with (first | ((with_reducible refine gT 35 2 rfl ?_); refine wS 5 0 [.int .i64 rr.f0, .int .i64 rr.f1, .slice A1 rr.f2.length c1] O10 ?_; intro w11 o_ k_; obtain ⟨O11, K11⟩ := ok_ K10 o_ k_; clear a0 a5 a7 O10 K10 o_ k_; have a0 := k7_ O11 0; have a5 := k3_ O11 5; have a7 := k3_ O11 7))
   refine bodyPost_ret (results_ct rfl _ _ gz 35 #[.int .i64 rr.f0, .int .i64 rr.f1, .slice A1 rr.f2.length c1] (0, 0) _ rfl (O11.out.blk (i := 5) rfl) Tryd.underlying35 rfl (by kernel_rfl)) rfl ?_
   refine ⟨Q1_.out HE.out _ _ ?_, trivial⟩
   exact ⟨A1, c1, by rw [HRR.out]; rfl, (by rw [HRR.out, HLL.out]; exact (CliO.shut ((O11.out.push_emp (nrow k32 32 (.slice none 0 0) []) (fun w => Kd.N_nil _ _ _ _ _)).pickL [0, 4, 3, 9, 1, 6] (by decide) (by simp))).pickL [0, 4, 5] (by decide) (by simp)), K11.out⟩
  ·have d4 : (E != 0) = true := bne_iff_ne.mpr he
   have H0_ := Aside0.mk he
   clear he
   go_wp2_with (first | ((with_reducible refine gT 35 2 rfl ?_); refine wS 5 0 [.int .i64 0, .int .i64 0, .slice none 0 0] O5 ?_; intro w6 o_ k_; obtain ⟨O6, K6⟩ := ok_ K5 o_ k_; clear a0 a5 a7 O5 K5 o_ k_; have a0 := k7_ O6 0; have a5 := k3_ O6 5; have a7 := k3_ O6 7))
   refine bodyPost_ret (results_ct rfl _ _ gz 35 #[.int .i64 0, .int .i64 0, .slice none 0 0] (0, 0) _ rfl (O6.out.blk (i := 5) rfl) Tryd.underlying35 rfl (by kernel_rfl)) rfl ?_
   refine ⟨Q0_.out (by rw [HE.out]; exact H0_.out) _ _ ?_, trivial⟩
   exact ⟨none, 0, by rw [HE.out]; rfl, (by rw [HLL.out]; exact ((CliO.shut (O6.out.pickL [0, 4, 3, 2, 1] (by decide) (by simp))).pickL [0, 4] (by decide) (by simp)).push_emp _ (fun w => Kd.N_nil _ _ _ _ _)), K6.out⟩
theorem DUpd_may {N : Nat → Prop} {w : World} {g : Nat} {jp vk vp : Value} {o mtu push : Int} {A6 : Option Addr} {c6 : Nat} {U : List Upd7} (key : ByteArray) (c n : Int) (s : ByteArray) (h : Own N w [cells g #[jp, .int .i64 o, .int .i64 mtu, .int .i64 push, vk, vp, .slice A6 U.length c6] 44, nrow k32 32 (.slice A6 U.length c6) U]) (hL : U.length ≤ 1000000) (hm : may key c n s ≠ 0) :
  Calls Tryd.prog 58 #[.pointer (some ⟨g, 0, none⟩), .agg #[.string key, .int .i64 c, .int .i64 n, .string s]] w fun e_ w' => e_ = .returned (.int .i64 (may key c n s)) ∧ Own N w' [cells g #[jp, .int .i64 o, .int .i64 mtu, .int .i64 push, vk, vp, .slice A6 U.length c6] 44, nrow k32 32 (.slice A6 U.length c6) U] ∧ KeepS N w w' := by
 have d1 : (may key c n s != 0) = true := bne_iff_ne.mpr hm
 have HL := Aside0.mk hL
 have O0 : Aside0 (Own N w [cells g #[jp, .int .i64 o, .int .i64 mtu, .int .i64 push, vk, vp, .slice A6 U.length c6] 44, nrow k32 32 (.slice A6 U.length c6) U]) := ⟨h⟩
 have K0 : Aside0 (KeepS N w w) := ⟨KeepS.refl _ _⟩
 have a0 := k7_ O0 0
 clear h hL hm
 go_enter Tryd.func58, Tryd.ntmps58
 go_wp2_with (first | ((with_reducible refine gD 3 rfl ?_); refine bP 3 #[.string key, .int .i64 c, .int .i64 n, .string s] 32 O0.out ?_; intro ga w1 o_ k_; obtain ⟨O1, K1⟩ := ok_ K0 o_ k_; clear a0 O0 K0 o_ k_; have a0 := k7_ O1 0; have a2 := k4_ O1 2) | ((with_reducible refine gC 86 rfl ?_); refine gP (some 8) Tryd.func86 #[.agg #[.string key, .int .i64 c, .int .i64 n, .string s]] ?_; refine (chapbookref04_May.calls 6 key c n s (may key c n s) _ (rmay_ok 0 key c n s)).mono ?_; rintro e_ w2 ⟨rfl, hb_⟩; refine ⟨_, rfl, ?_⟩; obtain ⟨O2, K2⟩ := ob_ K1 O1 hb_; clear a0 a2 O1 K1 hb_; have a0 := k7_ O2 0; have a2 := k4_ O2 2))
 go_ret
 exact ⟨rfl, O2.out.take 2, K2.out⟩
theorem DUpd_long {N : Nat → Prop} {w : World} {g : Nat} {jp vk vp : Value} {o mtu push : Int} {A6 : Option Addr} {c6 : Nat} {U : List Upd7} (key : ByteArray) (c n : Int) (s : ByteArray) (h : Own N w [cells g #[jp, .int .i64 o, .int .i64 mtu, .int .i64 push, vk, vp, .slice A6 U.length c6] 44, nrow k32 32 (.slice A6 U.length c6) U]) (hL : U.length ≤ 1000000) (hm : may key c n s = 0) (hf1 : fitsB [(⟨key, c, n, s⟩ : Upd7)] mtu = false) :
  Calls Tryd.prog 58 #[.pointer (some ⟨g, 0, none⟩), .agg #[.string key, .int .i64 c, .int .i64 n, .string s]] w fun e_ w' => e_ = .returned (.int .i64 3) ∧ Own N w' [cells g #[jp, .int .i64 o, .int .i64 mtu, .int .i64 push, vk, vp, .slice A6 U.length c6] 44, nrow k32 32 (.slice A6 U.length c6) U] ∧ KeepS N w w' := by
 have d1 : ((0 : Int) != 0) = false := by decide
 have HM := Aside0.mk hm
 have HF1 := Aside0.mk hf1
 have HL := Aside0.mk hL
 have O0 : Aside0 (Own N w [cells g #[jp, .int .i64 o, .int .i64 mtu, .int .i64 push, vk, vp, .slice A6 U.length c6] 44, nrow k32 32 (.slice A6 U.length c6) U]) := ⟨h⟩
 have K0 : Aside0 (KeepS N w w) := ⟨KeepS.refl _ _⟩
 have a0 := k7_ O0 0
 clear h hL hm hf1
 go_enter Tryd.func58, Tryd.ntmps58
 go_wp2_with (first | ((with_reducible refine gD 3 rfl ?_); refine bP 3 #[.string key, .int .i64 c, .int .i64 n, .string s] 32 O0.out ?_; intro ga w1 o_ k_; obtain ⟨O1, K1⟩ := ok_ K0 o_ k_; clear a0 O0 K0 o_ k_; have a0 := k7_ O1 0; have a2 := k4_ O1 2) | ((with_reducible refine gC 86 rfl ?_); refine gP (some 8) Tryd.func86 #[.agg #[.string key, .int .i64 c, .int .i64 n, .string s]] ?_; refine (chapbookref04_May.calls 6 key c n s 0 _ ((rmay_ok 0 key c n s).trans (by rw [HM.out]))).mono ?_; rintro e_ w2 ⟨rfl, hb_⟩; refine ⟨_, rfl, ?_⟩; obtain ⟨O2, K2⟩ := ob_ K1 O1 hb_; clear a0 a2 O1 K1 hb_; have a0 := k7_ O2 0; have a2 := k4_ O2 2))
 refine sP (n := 8) (S := d7_ g (jp) (.int .i64 o) (.int .i64 mtu) (.int .i64 push) (vk) (vp) (.slice A6 U.length c6) (c4_ ga (.string key) (.int .i64 c) (.int .i64 n) (.string s))) (ds := []) (j7_ a0 (p4_ a2)) (fun hHeld => ?_)
 obtain ⟨w3, hw_⟩ : ∃ W, W = w2.drew := ⟨_, rfl⟩
 have o_ := O2.out.drew
 have k_ : KeepS N w2 w2.drew := KeepS.drew
 rw [← hw_] at o_ k_ hHeld ⊢
 clear hw_
 obtain ⟨O3, K3⟩ := ok_ K2 o_ k_
 clear a0 a2 O2 K2 o_ k_
 have a0 := k7_ O3 0
 have a2 := k4_ O3 2
 refine pP 2 (some 14) ?_
 refine pP 3 (some 15) ?_
 refine pP 4 (some 16) ?_
 refine tP 0 (some 12) hHeld ?_
 refine tP 5 (some 17) hHeld ?_
 refine oP 1 (some 13) (fun K_ hK_ => ?_)
 refine own_lit_step k32 (N := N) (e := 32) (xs := [(⟨key, c, n, s⟩ : Upd7)]) (inner := [.string key, .int .i64 c, .int .i64 n, .string s]) rfl rfl gs_ (repU1 _ (⟨key, c, n, s⟩ : Upd7)) (by show 1 ≤ 9223372036854775807; decide) O3.out ?_
 intro B1 d1_ w4 o_ k_
 obtain ⟨O4, K4⟩ := ok_ K3 o_ k_
 clear a0 a2 O3 K3 o_ k_
 have a0 := k7_ O4 0
 have a2 := k4_ O4 2
 clear hHeld
 refine hK_.out _ _ (j7_ a0 (p4_ a2)) (fun hHeld => ?_)
 clear hK_ K_
 refine nP ?_
 refine oP 6 (some 18) (fun K_ hK_ => ?_)
 refine hP Tryd.func87 #[.slice B1 1 d1_, .int .i64 mtu] ?_
 refine (chapbookref07_Fits.calls 299 _ _ [(⟨key, c, n, s⟩ : Upd7)] mtu false _ (O4.out.nreads (i := 3) rfl).2.2 (O4.out.nreads (i := 3) rfl).2.1 (by rw [rfits, HF1.out])).mono ?_
 rintro e_ w5 ⟨rfl, hb_⟩
 refine ⟨_, rfl, ?_⟩
 obtain ⟨O5, K5⟩ := ob_ K4 O4 hb_
 clear a0 a2 O4 K4 hb_
 have a0 := k7_ O5 0
 have a2 := k4_ O5 2
 clear hHeld
 refine hK_.out _ _ (j7_ a0 (p4_ a2)) (fun hHeld => ?_)
 clear hK_ K_
 refine nP ?_
 refine pP 7 (some 19) ?_
 refine done_ (by kernel_rfl) ?_
 clear hHeld
 go_wp2
 go_ret
 exact ⟨rfl, O5.out.take 2, K5.out⟩
theorem DUpd_fo {N : Nat → Prop} {w : World} {g : Nat} {jp vk vp : Value} {o mtu push : Int} {A6 : Option Addr} {c6 : Nat} {U : List Upd7} (key : ByteArray) (c n : Int) (s : ByteArray) (h : Own N w [cells g #[jp, .int .i64 o, .int .i64 mtu, .int .i64 push, vk, vp, .slice A6 U.length c6] 44, nrow k32 32 (.slice A6 U.length c6) U]) (hL : U.length ≤ 1000000) (hm : may key c n s = 0) (hf1 : fitsB [(⟨key, c, n, s⟩ : Upd7)] mtu = true) {F : Bool} {Q_ : Ending → World → Prop} (hf2 : fitsB (U ++ [(⟨key, c, n, s⟩ : Upd7)]) mtu = F) (q0_ : F = false → ∀ e_ w', (e_ = .returned (.int .i64 7) ∧ Own N w' [cells g #[jp, .int .i64 o, .int .i64 mtu, .int .i64 push, vk, vp, .slice A6 U.length c6] 44, nrow k32 32 (.slice A6 U.length c6) U] ∧ KeepS N w w') → Q_ e_ w') (q1_ : F = true → ∀ e_ w', (∃ C3 e3, e_ = .returned (.int .i64 0) ∧ Own N w' [cells g #[jp, .int .i64 o, .int .i64 mtu, .int .i64 push, vk, vp, .slice C3 (U ++ [(⟨key, c, n, s⟩ : Upd7)]).length e3] 44, nrow k32 32 (.slice C3 (U ++ [(⟨key, c, n, s⟩ : Upd7)]).length e3) (U ++ [(⟨key, c, n, s⟩ : Upd7)])] ∧ KeepS N w w') → Q_ e_ w') :
  Calls Tryd.prog 58 #[.pointer (some ⟨g, 0, none⟩), .agg #[.string key, .int .i64 c, .int .i64 n, .string s]] w Q_ := by
 have Q0_ := Aside0.mk q0_
 have Q1_ := Aside0.mk q1_
 clear q0_ q1_
 have d1 : ((0 : Int) != 0) = false := by decide
 have HM := Aside0.mk hm
 have HF1 := Aside0.mk hf1
 obtain ⟨V, hV⟩ : ∃ V, U ++ [(⟨key, c, n, s⟩ : Upd7)] = V := ⟨_, rfl⟩
 rw [hV] at hf2
 have HF2 := Aside0.mk hf2
 have HV := Aside0.mk hV
 clear hV hf2
 have HL := Aside0.mk hL
 have O0 : Aside0 (Own N w [cells g #[jp, .int .i64 o, .int .i64 mtu, .int .i64 push, vk, vp, .slice A6 U.length c6] 44, nrow k32 32 (.slice A6 U.length c6) U]) := ⟨h⟩
 have K0 : Aside0 (KeepS N w w) := ⟨KeepS.refl _ _⟩
 have a0 := k7_ O0 0
 clear h hL hm hf1
 go_enter Tryd.func58, Tryd.ntmps58
 go_wp2_with (first | ((with_reducible refine gD 3 rfl ?_); refine bP 3 #[.string key, .int .i64 c, .int .i64 n, .string s] 32 O0.out ?_; intro ga w1 o_ k_; obtain ⟨O1, K1⟩ := ok_ K0 o_ k_; clear a0 O0 K0 o_ k_; have a0 := k7_ O1 0; have a2 := k4_ O1 2) | ((with_reducible refine gC 86 rfl ?_); refine gP (some 8) Tryd.func86 #[.agg #[.string key, .int .i64 c, .int .i64 n, .string s]] ?_; refine (chapbookref04_May.calls 6 key c n s 0 _ ((rmay_ok 0 key c n s).trans (by rw [HM.out]))).mono ?_; rintro e_ w2 ⟨rfl, hb_⟩; refine ⟨_, rfl, ?_⟩; obtain ⟨O2, K2⟩ := ob_ K1 O1 hb_; clear a0 a2 O1 K1 hb_; have a0 := k7_ O2 0; have a2 := k4_ O2 2))
 refine sP (n := 8) (S := d7_ g (jp) (.int .i64 o) (.int .i64 mtu) (.int .i64 push) (vk) (vp) (.slice A6 U.length c6) (c4_ ga (.string key) (.int .i64 c) (.int .i64 n) (.string s))) (ds := []) (j7_ a0 (p4_ a2)) (fun hHeld => ?_)
 obtain ⟨w3, hw_⟩ : ∃ W, W = w2.drew := ⟨_, rfl⟩
 have o_ := O2.out.drew
 have k_ : KeepS N w2 w2.drew := KeepS.drew
 rw [← hw_] at o_ k_ hHeld ⊢
 clear hw_
 obtain ⟨O3, K3⟩ := ok_ K2 o_ k_
 clear a0 a2 O2 K2 o_ k_
 have a0 := k7_ O3 0
 have a2 := k4_ O3 2
 refine pP 2 (some 14) ?_
 refine pP 3 (some 15) ?_
 refine pP 4 (some 16) ?_
 refine tP 0 (some 12) hHeld ?_
 refine tP 5 (some 17) hHeld ?_
 refine oP 1 (some 13) (fun K_ hK_ => ?_)
 refine own_lit_step k32 (N := N) (e := 32) (xs := [(⟨key, c, n, s⟩ : Upd7)]) (inner := [.string key, .int .i64 c, .int .i64 n, .string s]) rfl rfl gs_ (repU1 _ (⟨key, c, n, s⟩ : Upd7)) (by show 1 ≤ 9223372036854775807; decide) O3.out ?_
 intro B1 d1_ w4 o_ k_
 obtain ⟨O4, K4⟩ := ok_ K3 o_ k_
 clear a0 a2 O3 K3 o_ k_
 have a0 := k7_ O4 0
 have a2 := k4_ O4 2
 clear hHeld
 refine hK_.out _ _ (j7_ a0 (p4_ a2)) (fun hHeld => ?_)
 clear hK_ K_
 refine nP ?_
 refine oP 6 (some 18) (fun K_ hK_ => ?_)
 refine hP Tryd.func87 #[.slice B1 1 d1_, .int .i64 mtu] ?_
 refine (chapbookref07_Fits.calls 299 _ _ [(⟨key, c, n, s⟩ : Upd7)] mtu true _ (O4.out.nreads (i := 3) rfl).2.2 (O4.out.nreads (i := 3) rfl).2.1 (by rw [rfits, HF1.out])).mono ?_
 rintro e_ w5 ⟨rfl, hb_⟩
 refine ⟨_, rfl, ?_⟩
 obtain ⟨O5, K5⟩ := ob_ K4 O4 hb_
 clear a0 a2 O4 K4 hb_
 have a0 := k7_ O5 0
 have a2 := k4_ O5 2
 clear hHeld
 refine hK_.out _ _ (j7_ a0 (p4_ a2)) (fun hHeld => ?_)
 clear hK_ K_
 refine nP ?_
 refine pP 7 (some 19) ?_
 refine done_ (by kernel_rfl) ?_
 clear hHeld
 go_wp2
 refine sP (n := 10) (S := d7_ g (jp) (.int .i64 o) (.int .i64 mtu) (.int .i64 push) (vk) (vp) (.slice A6 U.length c6) (c4_ ga (.string key) (.int .i64 c) (.int .i64 n) (.string s))) (ds := []) (j7_ a0 (p4_ a2)) (fun hHeld => ?_)
 obtain ⟨w6, hw_⟩ : ∃ W, W = w5.drew := ⟨_, rfl⟩
 have o_ := O5.out.drew
 have k_ : KeepS N w5 w5.drew := KeepS.drew
 rw [← hw_] at o_ k_ hHeld ⊢
 clear hw_
 obtain ⟨O6, K6⟩ := ok_ K5 o_ k_
 clear a0 a2 O5 K5 o_ k_
 have a0 := k7_ O6 0
 have a2 := k4_ O6 2
 refine pP 1 (some 21) ?_
 refine pP 2 (some 22) ?_
 refine pP 3 (some 23) ?_
 refine tP 4 (some 24) hHeld ?_
 refine tP 6 (some 26) hHeld ?_
 refine join_ (σ := Option Addr × Nat × Option Addr × Nat × Option Addr × Nat) 2 #[true, true, true, true, true, true, true, true, false, false] (fun ⟨C1, e1, C2, e2, D1, h1_⟩ => [(20, .slice C1 0 e1), (25, .slice C2 U.length e2), (27, .slice D1 1 h1_)]) (fun ⟨C1, e1, C2, e2, D1, h1_⟩ w' => Own N w' [cells g #[jp, .int .i64 o, .int .i64 mtu, .int .i64 push, vk, vp, .slice A6 U.length c6] 44, nrow k32 32 (.slice A6 U.length c6) U, cells ga #[.string key, .int .i64 c, .int .i64 n, .string s] 32, nrow k32 32 (.slice B1 1 d1_) [(⟨key, c, n, s⟩ : Upd7)], nrow k32 32 (.slice C2 U.length e2) U, nrow k32 32 (.slice D1 1 h1_) [(⟨key, c, n, s⟩ : Upd7)]] ∧ KeepS N w6 w') ?hcont ?hways
 case hways =>
  intro hc_
  have K7 : Aside0 (KeepS N w6 w6) := ⟨KeepS.refl _ _⟩
  have O7 : Aside0 (Own N w6 [cells g #[jp, .int .i64 o, .int .i64 mtu, .int .i64 push, vk, vp, .slice A6 U.length c6] 44, nrow k32 32 (.slice A6 U.length c6) U, cells ga #[.string key, .int .i64 c, .int .i64 n, .string s] 32, nrow k32 32 (.slice B1 1 d1_) [(⟨key, c, n, s⟩ : Upd7)]]) := O6
  refine tW_ 0 7 (some 20) (some 27) (fun K_ hK_ => ?_) (fun K_ hK_ => ?_)
  ·skip
   refine own_lit_step k32 (N := N) (e := 32) (xs := []) (inner := []) rfl rfl gs_ (Reps.none _ _) (by decide) O7.out ?_
   intro C1 e1 w8 o_ k_
   obtain ⟨O8, K8⟩ := ok_ K7 o_ k_
   clear a0 a2 O7 K7 o_ k_
   have a0 := k7_ O8 0
   have a2 := k4_ O8 2
   clear hHeld
   refine hK_.out _ _ (j7_ a0 (p4_ a2)) (fun hHeld => ?_)
   clear hK_ K_
   refine nR_ ?_
   refine tW_ 5 7 (some 25) (some 27) (fun K_ hK_ => ?_) (fun K_ hK_ => ?_)
   ·skip
    refine Own.append_flat_step k32 flatU O8.out (i := 4) rfl (O8.out.nreads (i := 1) rfl).2.2 rfl (by rfl) (.tmp 20) (.tmp 24) 33 (.agg #[.string ⟨#[]⟩, .int .i64 0, .int .i64 0, .string ⟨#[]⟩]) 48 rfl Tryd.underlying33 infoU7 rfl (by decide) (by decide) rfl rfl (by have := HL.out; simp only [List.length_nil]; omega) ?_
    intro C2 e2 w9 o_ k_
    obtain ⟨O9, K9⟩ := ok_ K8 o_ k_
    clear a0 a2 O8 K8 o_ k_
    have a0 := k7_ O9 0
    have a2 := k4_ O9 2
    clear hHeld
    refine hK_.out _ _ (j7_ a0 (p4_ a2)) (fun hHeld => ?_)
    clear hK_ K_
    refine nR_ ?_
    refine oP 7 (some 27) (fun K_ hK_ => ?_)
    refine own_lit_step k32 (N := N) (e := 32) (xs := [(⟨key, c, n, s⟩ : Upd7)]) (inner := [.string key, .int .i64 c, .int .i64 n, .string s]) rfl rfl gs_ (repU1 _ (⟨key, c, n, s⟩ : Upd7)) (by show 1 ≤ 9223372036854775807; decide) O9.out ?_
    intro D1 h1_ w10 o_ k_
    obtain ⟨O10, K10⟩ := ok_ K9 o_ k_
    clear a0 a2 O9 K9 o_ k_
    have a0 := k7_ O10 0
    have a2 := k4_ O10 2
    clear hHeld
    refine hK_.out _ _ (j7_ a0 (p4_ a2)) (fun hHeld => ?_)
    clear hK_ K_
    refine nR_ ?_
    refine norm_ (a' := _) ?_ (hc_ ⟨C1, e1, C2, e2, D1, h1_⟩ _ ⟨?_, K10.out⟩)
    ·simp only [putAll, Act.put, List.setIfInBounds_toArray, List.set_cons_zero, List.set_cons_succ]
     try rfl
    ·exact O10.out.pickL [0, 1, 2, 3, 4, 5] (by decide) (by simp)
   ·skip
    refine own_lit_step k32 (N := N) (e := 32) (xs := [(⟨key, c, n, s⟩ : Upd7)]) (inner := [.string key, .int .i64 c, .int .i64 n, .string s]) rfl rfl gs_ (repU1 _ (⟨key, c, n, s⟩ : Upd7)) (by show 1 ≤ 9223372036854775807; decide) O8.out ?_
    intro D1 h1_ w9 o_ k_
    obtain ⟨O9, K9⟩ := ok_ K8 o_ k_
    clear a0 a2 O8 K8 o_ k_
    have a0 := k7_ O9 0
    have a2 := k4_ O9 2
    clear hHeld
    refine hK_.out _ _ (j7_ a0 (p4_ a2)) (fun hHeld => ?_)
    clear hK_ K_
    refine nR_ ?_
    refine oP 5 (some 25) (fun K_ hK_ => ?_)
    refine Own.append_flat_step k32 flatU O9.out (i := 4) rfl (O9.out.nreads (i := 1) rfl).2.2 rfl (by rfl) (.tmp 20) (.tmp 24) 33 (.agg #[.string ⟨#[]⟩, .int .i64 0, .int .i64 0, .string ⟨#[]⟩]) 48 rfl Tryd.underlying33 infoU7 rfl (by decide) (by decide) rfl rfl (by have := HL.out; simp only [List.length_nil]; omega) ?_
    intro C2 e2 w10 o_ k_
    obtain ⟨O10, K10⟩ := ok_ K9 o_ k_
    clear a0 a2 O9 K9 o_ k_
    have a0 := k7_ O10 0
    have a2 := k4_ O10 2
    clear hHeld
    refine hK_.out _ _ (j7_ a0 (p4_ a2)) (fun hHeld => ?_)
    clear hK_ K_
    refine nR_ ?_
    refine norm_ (a' := _) ?_ (hc_ ⟨C1, e1, C2, e2, D1, h1_⟩ _ ⟨?_, K10.out⟩)
    ·simp only [putAll, Act.put, List.setIfInBounds_toArray, List.set_cons_zero, List.set_cons_succ]
     try rfl
    ·exact O10.out.pickL [0, 1, 2, 3, 4, 5] (by decide) (by simp)
  ·skip
   refine own_lit_step k32 (N := N) (e := 32) (xs := [(⟨key, c, n, s⟩ : Upd7)]) (inner := [.string key, .int .i64 c, .int .i64 n, .string s]) rfl rfl gs_ (repU1 _ (⟨key, c, n, s⟩ : Upd7)) (by show 1 ≤ 9223372036854775807; decide) O7.out ?_
   intro D1 h1_ w8 o_ k_
   obtain ⟨O8, K8⟩ := ok_ K7 o_ k_
   clear a0 a2 O7 K7 o_ k_
   have a0 := k7_ O8 0
   have a2 := k4_ O8 2
   clear hHeld
   refine hK_.out _ _ (j7_ a0 (p4_ a2)) (fun hHeld => ?_)
   clear hK_ K_
   refine nR_ ?_
   refine oP 0 (some 20) (fun K_ hK_ => ?_)
   refine own_lit_step k32 (N := N) (e := 32) (xs := []) (inner := []) rfl rfl gs_ (Reps.none _ _) (by decide) O8.out ?_
   intro C1 e1 w9 o_ k_
   obtain ⟨O9, K9⟩ := ok_ K8 o_ k_
   clear a0 a2 O8 K8 o_ k_
   have a0 := k7_ O9 0
   have a2 := k4_ O9 2
   clear hHeld
   refine hK_.out _ _ (j7_ a0 (p4_ a2)) (fun hHeld => ?_)
   clear hK_ K_
   refine nR_ ?_
   refine oP 5 (some 25) (fun K_ hK_ => ?_)
   refine Own.append_flat_step k32 flatU O9.out (i := 5) rfl (O9.out.nreads (i := 1) rfl).2.2 rfl (by rfl) (.tmp 20) (.tmp 24) 33 (.agg #[.string ⟨#[]⟩, .int .i64 0, .int .i64 0, .string ⟨#[]⟩]) 48 rfl Tryd.underlying33 infoU7 rfl (by decide) (by decide) rfl rfl (by have := HL.out; simp only [List.length_nil]; omega) ?_
   intro C2 e2 w10 o_ k_
   obtain ⟨O10, K10⟩ := ok_ K9 o_ k_
   clear a0 a2 O9 K9 o_ k_
   have a0 := k7_ O10 0
   have a2 := k4_ O10 2
   clear hHeld
   refine hK_.out _ _ (j7_ a0 (p4_ a2)) (fun hHeld => ?_)
   clear hK_ K_
   refine nR_ ?_
   refine norm_ (a' := _) ?_ (hc_ ⟨C1, e1, C2, e2, D1, h1_⟩ _ ⟨?_, K10.out⟩)
   ·simp only [putAll, Act.put, List.setIfInBounds_toArray, List.set_cons_zero, List.set_cons_succ]
    try rfl
   ·exact O10.out.pickL [0, 1, 2, 3, 5, 4] (by decide) (by simp)
 case hcont =>
  clear hHeld
  rintro ⟨C1, e1, C2, e2, D1, h1_⟩ w7 ⟨o_, k_⟩
  obtain ⟨O7, K7⟩ := ok_ K6 o_ k_
  clear a0 a2 O6 K6 o_ k_
  have a0 := k7_ O7 0
  have a2 := k4_ O7 2
  refine nA_ ?_
  have hHeld : w7.cell? ⟨g, 0, none⟩ = some (jp) ∧ w7.cell? ⟨g, 1, none⟩ = some (.int .i64 o) ∧ w7.cell? ⟨g, 2, none⟩ = some (.int .i64 mtu) ∧ w7.cell? ⟨g, 3, none⟩ = some (.int .i64 push) ∧ w7.cell? ⟨g, 4, none⟩ = some (vk) ∧ w7.cell? ⟨g, 5, none⟩ = some (vp) ∧ w7.cell? ⟨g, 6, none⟩ = some (.slice A6 U.length c6) ∧ w7.cell? ⟨ga, 0, none⟩ = some (.string key) ∧ w7.cell? ⟨ga, 1, none⟩ = some (.int .i64 c) ∧ w7.cell? ⟨ga, 2, none⟩ = some (.int .i64 n) ∧ w7.cell? ⟨ga, 3, none⟩ = some (.string s) := (j7_ a0 (p4_ a2))
  refine oP 8 (some 28) (fun K_ hK_ => ?_)
  refine Own.append_flat_step k32 flatU O7.out (i := 4) (ys := [(⟨key, c, n, s⟩ : Upd7)]) rfl (O7.out.nreads (i := 5) rfl).2.2 rfl (by rfl) (.tmp 25) (.tmp 27) 33 (.agg #[.string ⟨#[]⟩, .int .i64 0, .int .i64 0, .string ⟨#[]⟩]) 48 rfl Tryd.underlying33 infoU7 rfl (by decide) (by decide) rfl rfl (by have := HL.out; omega) ?_
  rw [HV.out]
  intro C3 e3 w8 o_ k_
  obtain ⟨O8, K8⟩ := ok_ K7 o_ k_
  clear a0 a2 O7 K7 o_ k_
  have a0 := k7_ O8 0
  have a2 := k4_ O8 2
  clear hHeld
  refine hK_.out _ _ (j7_ a0 (p4_ a2)) (fun hHeld => ?_)
  clear hK_ K_
  refine nP ?_
  refine pP 9 (some 6) ?_
  refine done_ (by kernel_rfl) ?_
  clear hHeld
  cases F
  ·go_wp2_with (first | ((with_reducible refine gC 87 rfl ?_); refine gP (some 34) Tryd.func87 #[.slice C3 V.length e3, .int .i64 mtu] ?_; refine (chapbookref07_Fits.calls 299 _ _ V mtu false _ (O8.out.nreads (i := 4) rfl).2.2 (O8.out.nreads (i := 4) rfl).2.1 (by rw [rfits, HF2.out])).mono ?_; rintro e_ w9 ⟨rfl, hb_⟩; refine ⟨_, rfl, ?_⟩; obtain ⟨O9, K9⟩ := ob_ K8 O8 hb_; clear a0 a2 O8 K8 hb_; have a0 := k7_ O9 0; have a2 := k4_ O9 2))
   refine Q0_.out (by trivial) _ _ ?_
   exact ⟨rfl, O9.out.take 2, K9.out⟩
  ·go_wp2_with (first | ((with_reducible refine gC 87 rfl ?_); refine gP (some 34) Tryd.func87 #[.slice C3 V.length e3, .int .i64 mtu] ?_; refine (chapbookref07_Fits.calls 299 _ _ V mtu true _ (O8.out.nreads (i := 4) rfl).2.2 (O8.out.nreads (i := 4) rfl).2.1 (by rw [rfits, HF2.out])).mono ?_; rintro e_ w9 ⟨rfl, hb_⟩; refine ⟨_, rfl, ?_⟩; obtain ⟨O9, K9⟩ := ob_ K8 O8 hb_; clear a0 a2 O8 K8 hb_; have a0 := k7_ O9 0; have a2 := k4_ O9 2) | ((with_reducible refine gT 33 39 rfl ?_); refine wS 0 6 [.slice C3 V.length e3] O9 ?_; intro w10 o_ k_; obtain ⟨O10, K10⟩ := ok_ K9 o_ k_; clear a0 a2 O9 K9 o_ k_; have a0 := k7_ O10 0; have a2 := k4_ O10 2))
   refine Q1_.out (by trivial) _ _ ?_
   rw [HV.out]
   exact ⟨C3, e3, rfl, O10.out.pickL [0, 4] (by decide) (by simp), K10.out⟩
attribute [local go_sem] max2_int min2_int max_two min_two max_three min_three max_four min_four
theorem From0 {N : Nat → Prop} {w : World} {g : Nat} {o m : Int} {L : List Rnd7} (h : Own N w [Obj3 138 g o m L]) (hL : L.length ≤ 1000000) (HU : Aside0 (∀ x : Int, 0 ≤ x → x < L.length → (rd_T35 L x).f2.length ≤ 1000000)) (hn : Num L) :
  Calls Tryd.prog 73 #[.pointer (some ⟨g, 0, none⟩), .int .i64 0] w fun e_ w' => ∃ A1 c1, e_ = .returned (.slice A1 L.length c1) ∧ Own N w' [Obj3 138 g o m L, row k35 35 (.slice A1 L.length c1) L] ∧ KeepS N w w' := by
 have q := FromR 0 h hL HU
 rw [from_all 0 (Int.le_refl _) hn] at q
 exact q
theorem CNew {N : Nat → Prop} {w : World} {gj : Nat} {jo jm : Int} {L : List Rnd7} (o mtu a3 pp : Int) (hW : mn (mx a3 1) 16 = pp) (h : Own N w [Obj3 138 gj jo jm L]) (hL : L.length ≤ 1000000) (HU : Aside0 (∀ x : Int, 0 ≤ x → x < L.length → (rd_T35 L x).f2.length ≤ 1000000)) (hn : Num L) :
  Calls Tryd.prog 53 #[.pointer (some ⟨gj, 0, none⟩), .int .i64 o, .int .i64 mtu, .int .i64 a3] w fun e_ w' => ∃ g, e_ = .returned (.pointer (some ⟨g, 0, none⟩)) ∧ Own N w' [Obj3 138 gj jo jm L, CliO g (.pointer (some ⟨gj, 0, none⟩)) o mtu pp [] L []] ∧ KeepS N w w' := by
 have HL := Aside0.mk hL
 have HN := Aside0.mk hn
 have O0 : Aside0 (Own N w [Obj3 138 gj jo jm L]) := ⟨h⟩
 have K0 : Aside0 (KeepS N w w) := ⟨KeepS.refl _ _⟩
 clear h hL hn
 have w1 := hW
 have w2 : (if 16 < if a3 < 1 then 1 else a3 then 16 else if a3 < 1 then 1 else a3) = pp := by (have e_ := hW; simp only [mn, mx] at e_; (repeat' split at e_) <;> (repeat' split) <;> omega)
 go_enter Tryd.func53, Tryd.ntmps53
 go_wp2_with (first | ((with_reducible refine gC 73 rfl ?_); refine gP (some 16) Tryd.func73 #[.pointer (some ⟨gj, 0, none⟩), .int .i64 0] ?_; obtain ⟨N_, on_, nn_, rr_, bb_⟩ := O0.out.frame1 (i := 0) rfl; refine (From0 on_ HL.out HU HN.out).mono ?_; rintro e_ w1 ⟨A1, c1, rfl, oo_, kk_⟩; obtain ⟨o_, k_⟩ := bb_ _ _ _ kk_ oo_; refine ⟨_, rfl, ?_⟩; obtain ⟨O1, K1⟩ := ok_ K0 o_ k_; clear O0 K0 o_ k_ oo_ kk_ on_ nn_ rr_ bb_) | ((with_reducible refine gD 18 rfl ?_); refine bP 18 #[.pointer (some ⟨gj, 0, none⟩), .int .i64 o, .int .i64 mtu, .int .i64 pp, .slice none 0 0, .slice A1 L.length c1, .slice none 0 0] 111 O1.out ?_; intro g w2 o_ k_; obtain ⟨O2, K2⟩ := ok_ K1 o_ k_; clear O1 K1 o_ k_; have a2 := k7_ O2 2))
 all_goals go_ret
 all_goals exact ⟨g, rfl, (CliO.shut (((((O2.out.row_qrow (i := 1) rfl).qnil k35 35).push_emp (nrow k32 32 (.slice none 0 0) []) (fun w => Kd.N_nil _ _ _ _ _))).pickL [2, 3, 1, 4, 0] (by decide) (by simp))).pickL [4, 0] (by decide) (by simp), K2.out⟩
theorem CResume {N : Nat → Prop} {w : World} {g gj : Nat} {o mtu push jo jm : Int} {K P L : List Rnd7} {U : List Upd7} (h : Own N w [CliO g (.pointer (some ⟨gj, 0, none⟩)) o mtu push K P U, Obj3 138 gj jo jm L]) (hL : L.length ≤ 1000000) (HU : Aside0 (∀ x : Int, 0 ≤ x → x < L.length → (rd_T35 L x).f2.length ≤ 1000000)) (hn : Num L) :
  Calls Tryd.prog 33 #[.pointer (some ⟨g, 0, none⟩)] w fun e_ w' => e_ = .returned (.tuple #[]) ∧ Own N w' [CliO g (.pointer (some ⟨gj, 0, none⟩)) o mtu push [] L [], Obj3 138 gj jo jm L] ∧ KeepS N w w' := by
 have HL := Aside0.mk hL
 have HN := Aside0.mk hn
 obtain ⟨A4, c4, A5, c5, A6, c6, hcap, h2⟩ := CliO.open_ h
 have O0 : Aside0 (Own N w [cells g #[.pointer (some ⟨gj, 0, none⟩), .int .i64 o, .int .i64 mtu, .int .i64 push, .slice A4 K.length c4, .slice A5 P.length c5, .slice A6 U.length c6] 111, Obj3 138 gj jo jm L, nrow k32 32 (.slice A6 U.length c6) U, qrow k35 35 (.slice A5 P.length c5) P, qrow k35 35 (.slice A4 K.length c4) K]) := ⟨h2⟩
 have K0 : Aside0 (KeepS N w w) := ⟨KeepS.refl _ _⟩
 have a0 := k7_ O0 0
 clear h2 h hL hn hcap
 go_enter Tryd.func33, Tryd.ntmps33
 go_wp2_with (first | ((with_reducible refine gC 73 rfl ?_); refine gP (some 9) Tryd.func73 #[.pointer (some ⟨gj, 0, none⟩), .int .i64 0] ?_; obtain ⟨N_, on_, nn_, rr_, bb_⟩ := O0.out.frame1 (i := 1) rfl; refine (From0 on_ HL.out HU HN.out).mono ?_; rintro e_ w1 ⟨A1, c1, rfl, oo_, kk_⟩; obtain ⟨o_, k_⟩ := bb_ _ _ _ kk_ oo_; refine ⟨_, rfl, ?_⟩; obtain ⟨O1, K1⟩ := ok_ K0 o_ k_; clear a0 O0 K0 o_ k_ oo_ kk_ on_ nn_ rr_ bb_; have a0 := k7_ O1 0) | ((with_reducible refine gT 40 11 rfl ?_); refine wS 0 4 [.slice none 0 0] O1 ?_; intro w2 o_ k_; obtain ⟨O2, K2⟩ := ok_ K1 o_ k_; clear a0 O1 K1 o_ k_; have a0 := k7_ O2 0) | ((with_reducible refine gT 33 13 rfl ?_); refine wS 0 6 [.slice none 0 0] O2 ?_; intro w3 o_ k_; obtain ⟨O3, K3⟩ := ok_ K2 o_ k_; clear a0 O2 K2 o_ k_; have a0 := k7_ O3 0) | ((with_reducible refine gT 40 15 rfl ?_); refine wS 0 5 [.slice A1 L.length c1] O3 ?_; intro w4 o_ k_; obtain ⟨O4, K4⟩ := ok_ K3 o_ k_; clear a0 O3 K3 o_ k_; have a0 := k7_ O4 0))
 first | go_end0 | go_ret
 exact ⟨rfl, (CliO.shut (((((O4.out.row_qrow (i := 5) rfl).qnil k35 35).push_emp (nrow k32 32 (.slice none 0 0) []) (fun w => Kd.N_nil _ _ _ _ _))).pickL [0, 6, 5, 7, 1] (by decide) (by simp))).pickL [0, 4] (by decide) (by simp), K4.out⟩
end Go.Proofs.YtjdenpmaianmfaaDoor.J
namespace Go.Proofs.YtjdenpmaianmfaaDoor.J
set_option linter.unusedSimpArgs false
set_option linter.unusedVariables false
open Go Go.RowKit Go.Proofs.YtjdenpmaianmfaaDoorW.PrintWords Go.Proofs.YtjdenpmaianmfaaDoorW.PrintLast Go.Proofs.YtjdenpmaianmfaaDoorW.PrintMore Go.Proofs.YtjdenpmaianmfaaDoor.Q Go.Proofs.YtjdenpmaianmfaaDoor.Sep
section
variable {N : Nat → Prop} {w : World} {g : Nat} {jp : Value} {o mtu push : Int} {K P : List Rnd7} {U : List Upd7}
abbrev bnd (L : List Rnd7) : Prop := ∀ x : Int, 0 ≤ x → x < L.length → (rd_T35 L x).f2.length ≤ 1000000
theorem OKnown (h : Own N w [CliO g jp o mtu push K P U]) (hL : K.length ≤ 1000000) (HB : Aside0 (bnd K)) :
  Calls Tryd.prog 20 #[.pointer (some ⟨g, 0, none⟩)] w fun e_ w' => ∃ A1 c1, e_ = .returned (.slice A1 K.length c1) ∧ Own N w' [CliO g jp o mtu push K P U, row kR7 tR7 (.slice A1 K.length c1) K] ∧ KeepS N w w' := by
 obtain ⟨A4, c4, A5, c5, A6, c6, hcap, h2⟩ := CliO.open_ h
 obtain ⟨N_, on_, nn_, rr_, bb_⟩ := h2.frame0
 refine (CKnown on_ (rr_ 0 _ rfl) (Kd.Q_F (rr_ 3 _ rfl)) hL HB).mono ?_
 rintro e_ w' ⟨A1, c1, e1, oo_, kk_⟩
 obtain ⟨o_, k_⟩ := bb_ _ _ kk_ oo_
 exact ⟨A1, c1, e1, (CliO.shut (o_.pickL [0, 3, 2, 1, 4] (by decide) (by simp))).pickL [0, 4] (by decide) (by simp), k_⟩
theorem OPending (h : Own N w [CliO g jp o mtu push K P U]) (hL : P.length ≤ 1000000) (HB : Aside0 (bnd P)) :
  Calls Tryd.prog 21 #[.pointer (some ⟨g, 0, none⟩)] w fun e_ w' => ∃ A1 c1, e_ = .returned (.slice A1 P.length c1) ∧ Own N w' [CliO g jp o mtu push K P U, row kR7 tR7 (.slice A1 P.length c1) P] ∧ KeepS N w w' := by
 obtain ⟨A4, c4, A5, c5, A6, c6, hcap, h2⟩ := CliO.open_ h
 obtain ⟨N_, on_, nn_, rr_, bb_⟩ := h2.frame0
 refine (CPending on_ (rr_ 0 _ rfl) (Kd.Q_F (rr_ 2 _ rfl)) hL HB).mono ?_
 rintro e_ w' ⟨A1, c1, e1, oo_, kk_⟩
 obtain ⟨o_, k_⟩ := bb_ _ _ kk_ oo_
 exact ⟨A1, c1, e1, (CliO.shut (o_.pickL [0, 3, 2, 1, 4] (by decide) (by simp))).pickL [0, 4] (by decide) (by simp), k_⟩
theorem OOpen (h : Own N w [CliO g jp o mtu push K P U]) (hL : U.length ≤ 1000000) :
  Calls Tryd.prog 23 #[.pointer (some ⟨g, 0, none⟩)] w fun e_ w' => ∃ A1 c1, e_ = .returned (.slice A1 U.length c1) ∧ Own N w' [CliO g jp o mtu push K P U, nrow kU7 tU7 (.slice A1 U.length c1) U] ∧ KeepS N w w' := by
 obtain ⟨A4, c4, A5, c5, A6, c6, hcap, h2⟩ := CliO.open_ h
 obtain ⟨N_, on_, nn_, rr_, bb_⟩ := h2.frame0
 refine (COpen on_ (rr_ 0 _ rfl) (Kd.N_F (rr_ 1 _ rfl)) hL).mono ?_
 rintro e_ w' ⟨A1, c1, e1, oo_, kk_⟩
 obtain ⟨o_, k_⟩ := bb_ _ _ kk_ oo_
 exact ⟨A1, c1, e1, (CliO.shut (o_.pickL [0, 3, 2, 1, 4] (by decide) (by simp))).pickL [0, 4] (by decide) (by simp), k_⟩
theorem OConf (h : Own N w [CliO g jp o mtu push K P U])  :
  Calls Tryd.prog 24 #[.pointer (some ⟨g, 0, none⟩)] w fun e_ w' => e_ = .returned (.bool (decide (P.length = 0) && decide (U.length = 0))) ∧ Own N w' [CliO g jp o mtu push K P U] ∧ KeepS N w w' := by
 obtain ⟨A4, c4, A5, c5, A6, c6, hcap, h2⟩ := CliO.open_ h
 obtain ⟨N_, on_, nn_, rr_, bb_⟩ := h2.frame0
 refine (CConf on_ (rr_ 0 _ rfl)).mono ?_
 rintro e_ w' ⟨e1, oo_, kk_⟩
 obtain ⟨o_, k_⟩ := bb_ _ _ kk_ oo_
 exact ⟨e1, (CliO.shut (o_.pickL [0, 3, 2, 1] (by decide) (by simp))).pickL [0] (by decide) (by simp), k_⟩
theorem ORead (key : ByteArray) (hs : key.size ≤ maxLen) (h : Own N w [CliO g jp o mtu push K P U]) (hL : K.length + P.length ≤ 1000000) (hb : (flatR (K ++ P)).length + U.length < 1000000) :
  Calls Tryd.prog 25 #[.pointer (some ⟨g, 0, none⟩), .string key] w fun e_ w' => e_ = .returned (valV (stateOf U (K ++ P) key)) ∧ Own N w' [CliO g jp o mtu push K P U] ∧ KeepS N w w' := by
 obtain ⟨A4, c4, A5, c5, A6, c6, hcap, h2⟩ := CliO.open_ h
 obtain ⟨N_, on_, nn_, rr_, bb_⟩ := h2.frame0
 refine (CRead key hs on_ (rr_ 0 _ rfl) (Kd.Q_F (rr_ 3 _ rfl)) (Kd.Q_F (rr_ 2 _ rfl)) (Kd.N_F (rr_ 1 _ rfl)) hL hb).mono ?_
 rintro e_ w' ⟨e1, oo_, kk_⟩
 obtain ⟨o_, k_⟩ := bb_ _ _ kk_ oo_
 exact ⟨e1, (CliO.shut (o_.pickL [0, 3, 2, 1] (by decide) (by simp))).pickL [0] (by decide) (by simp), k_⟩
theorem OLen (h : Own N w [CliO g jp o mtu push K P U]) (hL : K.length + P.length ≤ 1000000) (hb : (flatR (K ++ P)).length + U.length < 1000000) :
  Calls Tryd.prog 27 #[.pointer (some ⟨g, 0, none⟩)] w fun e_ w' => e_ = .returned (.int .i64 (cntK (stateOf U (K ++ P)))) ∧ Own N w' [CliO g jp o mtu push K P U] ∧ KeepS N w w' := by
 obtain ⟨A4, c4, A5, c5, A6, c6, hcap, h2⟩ := CliO.open_ h
 obtain ⟨N_, on_, nn_, rr_, bb_⟩ := h2.frame0
 refine (CLen on_ (rr_ 0 _ rfl) (Kd.Q_F (rr_ 3 _ rfl)) (Kd.Q_F (rr_ 2 _ rfl)) (Kd.N_F (rr_ 1 _ rfl)) hL hb).mono ?_
 rintro e_ w' ⟨ks, k1, k2, e1, oo_, kk_⟩
 obtain ⟨o_, k_⟩ := bb_ _ _ kk_ oo_
 exact ⟨by rw [cntK_is k1 k2]; exact e1, (CliO.shut (o_.pickL [0, 3, 2, 1] (by decide) (by simp))).pickL [0] (by decide) (by simp), k_⟩
end
end Go.Proofs.YtjdenpmaianmfaaDoor.J
namespace Go.Proofs.YtjdenpmaianmfaaDoor.J
set_option linter.unusedSimpArgs false
set_option linter.unusedVariables false
open Go Go.RowKit Go.Proofs.YtjdenpmaianmfaaDoorW.PrintWords Go.Proofs.YtjdenpmaianmfaaDoorW.PrintLast Go.Proofs.YtjdenpmaianmfaaDoorW.PrintMore Go.Proofs.YtjdenpmaianmfaaDoor.Q Go.Proofs.YtjdenpmaianmfaaDoor.Sep Go.Proofs.YtjdenpmaianmfaaDoor.Pure
abbrev tDJ : TypeId := 64
abbrev tDC : TypeId := 44
abbrev jrC (jo jm : Int) (v : Value) : Array Value := #[.int .i64 jo, .int .i64 jm, v]
abbrev pt (g : Nat) : Value := .pointer (some ⟨g, 0, none⟩)
def DocO (gj gd : Nat) (jo jm o mtu push : Int) (rJ rK rP : List (List Value)) (U : List Upd7) : HP :=
 ex fun vJ : Value => ex fun vK : Value => ex fun vP : Value => ex fun vU : Value => star (star (star (star (star (cells gj (jrC jo jm vJ) tDJ) (nrow (Kd.raw 3) tR7 vJ rJ)) (cells gd (cliC (pt gj) o mtu push vK vP vU) tDC)) (nrow (Kd.raw 3) tR7 vK rK)) (nrow (Kd.raw 3) tR7 vP rP)) (nrow kU7 tU7 vU U)
section
variable {N : Nat → Prop} {w w' : World} {gj gd : Nat} {jo jm o mtu push : Int} {rJ rK rP : List (List Value)} {U : List Upd7} {r : List HP}
theorem DocO.open_ (h : Own N w (DocO gj gd jo jm o mtu push rJ rK rP U :: r)) : ∃ AJ cJ A4 c4 A5 c5 A6 c6,
  Own N w (cells gj (jrC jo jm (.slice AJ rJ.length cJ)) tDJ :: r ++ [nrow kU7 tU7 (.slice A6 U.length c6) U] ++ [nrow (Kd.raw 3) tR7 (.slice A5 rP.length c5) rP] ++ [nrow (Kd.raw 3) tR7 (.slice A4 rK.length c4) rK] ++ [cells gd (cliC (pt gj) o mtu push (.slice A4 rK.length c4) (.slice A5 rP.length c5) (.slice A6 U.length c6)) tDC] ++ [nrow (Kd.raw 3) tR7 (.slice AJ rJ.length cJ) rJ]) := by
 obtain ⟨vJ, h1⟩ := h.of_ex (i := 0) rfl
 obtain ⟨vK, h2⟩ := h1.of_ex (i := 0) rfl
 obtain ⟨vP, h3⟩ := h2.of_ex (i := 0) rfl
 obtain ⟨vU, h4⟩ := h3.of_ex (i := 0) rfl
 have h5 := h4.split (i := 0) rfl
 have h6 := h5.split (i := 0) rfl
 have h7 := h6.split (i := 0) rfl
 have h8 := h7.split (i := 0) rfl
 have h9 := h8.split (i := 0) rfl
 have hz : Own N w (cells gj (jrC jo jm vJ) tDJ :: r ++ [nrow kU7 tU7 vU U] ++ [nrow (Kd.raw 3) tR7 vP rP] ++ [nrow (Kd.raw 3) tR7 vK rK] ++ [cells gd (cliC (pt gj) o mtu push vK vP vU) tDC] ++ [nrow (Kd.raw 3) tR7 vJ rJ]) := h9
 obtain ⟨A6, c6, rfl⟩ := hz.nslice (i := r.length + 1) (e := tU7) (d := kU7) (xs := U) (v := vU) (by simp [List.getElem?_append])
 obtain ⟨A5, c5, rfl⟩ := hz.nslice (i := r.length + 2) (e := tR7) (d := Kd.raw 3) (xs := rP) (v := vP) (by simp [List.getElem?_append])
 obtain ⟨A4, c4, rfl⟩ := hz.nslice (i := r.length + 3) (e := tR7) (d := Kd.raw 3) (xs := rK) (v := vK) (by simp [List.getElem?_append])
 obtain ⟨AJ, cJ, rfl⟩ := hz.nslice (i := r.length + 5) (e := tR7) (d := Kd.raw 3) (xs := rJ) (v := vJ) (by simp [List.getElem?_append])
 exact ⟨AJ, cJ, A4, c4, A5, c5, A6, c6, hz⟩
theorem DocO.shut {vJ vK vP vU : Value} (h : Own N w (cells gj (jrC jo jm vJ) tDJ :: nrow (Kd.raw 3) tR7 vJ rJ :: cells gd (cliC (pt gj) o mtu push vK vP vU) tDC :: nrow (Kd.raw 3) tR7 vK rK :: nrow (Kd.raw 3) tR7 vP rP :: nrow kU7 tU7 vU U :: r)) : Own N w (DocO gj gd jo jm o mtu push rJ rK rP U :: emp :: emp :: emp :: emp :: emp :: r) := by
 have h1 := h.join (i := 0) (j := 1) rfl rfl (by decide)
 have h2 := h1.join (i := 0) (j := 2) rfl rfl (by decide)
 have h3 := h2.join (i := 0) (j := 3) rfl rfl (by decide)
 have h4 := h3.join (i := 0) (j := 4) rfl rfl (by decide)
 have h5 := h4.join (i := 0) (j := 5) rfl rfl (by decide)
 exact h5.conv (i := 0) rfl (DocO gj gd jo jm o mtu push rJ rK rP U) (fun F hp _ => ⟨vJ, vK, vP, vU, hp⟩)
end
theorem fk_of {N : Nat → Prop} {w : World} {r : Rnd7} {A : Option Addr} {c : Nat} (hl : r.f2.length ≤ c) (hF : Kd.F kU7 w N A r.f2.length r.f2) : Kd.FK kR7 w N r [.int .i64 r.f0, .int .i64 r.f1, .slice A r.f2.length c] := fun W' hW => k35_mk W' r hl (hF W' hW)
structure Led (N : Nat → Prop) (w : World) (rJ rK rP : List (List Value)) (L K P : List Rnd7) : Prop where
 j : Lead N w rJ L
 k : Lead N w rK K
 p : Lead N w rP P
theorem Led.keep {N : Nat → Prop} {w w' : World} {rJ rK rP : List (List Value)} {L K P : List Rnd7} (h : Led N w rJ rK rP L K P) (hk : KeepS N w w') : Led N w' rJ rK rP L K P := ⟨h.j.keep hk, h.k.keep hk, h.p.keep hk⟩
theorem Led.mono {N N' : Nat → Prop} {w : World} {rJ rK rP : List (List Value)} {L K P : List Rnd7} (h : Led N w rJ rK rP L K P) (hn : ∀ k, N k → N' k) : Led N' w rJ rK rP L K P := ⟨h.j.mono hn, h.k.mono hn, h.p.mono hn⟩
theorem Lead.one {N : Nat → Prop} {w : World} {r : Rnd7} {A : Option Addr} {c : Nat} (hl : r.f2.length ≤ c) (hF : Kd.F kU7 w N A r.f2.length r.f2) : Lead N w [rw3 r.f0 r.f1 (.slice A r.f2.length c)] [r] := by
 refine ⟨rfl, fun j x c' hx hc => ?_⟩
 cases j with
 | zero => simp only [List.getElem?_cons_zero, Option.some.injEq] at hx hc; subst hx hc; exact fk_of hl hF
 | succ j => simp at hx
theorem Lead.drop1 {N : Nat → Prop} {w : World} {rows : List (List Value)} {xs : List Rnd7} (h : Lead N w rows xs) : Lead N w (rows.drop 1) (xs.drop 1) := by
 refine ⟨by rw [List.length_drop, List.length_drop, h.1], fun j x c hx hc => ?_⟩
 rw [List.getElem?_drop] at hx hc
 exact h.2 _ x c hx hc
theorem Lead.first {N : Nat → Prop} {w : World} {rows : List (List Value)} {xs : List Rnd7} (h : Lead N w rows xs) (hp : xs.length ≠ 0) : ∃ A c, rows[0]? = some (rw3 (rd_T35 xs 0).f0 (rd_T35 xs 0).f1 (.slice A (rd_T35 xs 0).f2.length c)) ∧ (rd_T35 xs 0).f2.length ≤ c ∧ Kd.F kU7 w N A (rd_T35 xs 0).f2.length (rd_T35 xs 0).f2 := by
 have hx : xs[0]? = some (rd_T35 xs 0) := by
  show xs[0]? = some (xs.getD 0 _)
  rw [List.getD_eq_getElem?_getD, List.getElem?_eq_getElem (by omega)]
  rfl
 have hr : 0 < rows.length := by rw [h.1]; omega
 have hc := List.getElem?_eq_getElem hr
 have hk := h.2 0 _ _ hx hc
 obtain ⟨A, c, e, hl, _⟩ := k35_open (Kd.FK_now hk)
 refine ⟨A, c, by rw [hc, e], hl, fun W' hW => ?_⟩
 have hk2 := hk W' hW
 rw [e] at hk2
 obtain ⟨A', c', e', hl', hC⟩ := k35_open hk2
 injection e' with _ e'
 injection e' with _ e'
 injection e' with e' _
 injection e' with e1 _ e2
 subst e1
 exact hC
def updE (U : List Upd7) (key : ByteArray) (c n : Int) (s : ByteArray) (mtu : Int) : Int := if may key c n s ≠ 0 then may key c n s else if fitsB [(⟨key, c, n, s⟩ : Upd7)] mtu = false then 3 else if fitsB (U ++ [(⟨key, c, n, s⟩ : Upd7)]) mtu = false then 7 else 0
def updU (U : List Upd7) (key : ByteArray) (c n : Int) (s : ByteArray) (mtu : Int) : List Upd7 := if updE U key c n s mtu = 0 then U ++ [(⟨key, c, n, s⟩ : Upd7)] else U
theorem updU_no {U : List Upd7} {key : ByteArray} {c n : Int} {s : ByteArray} {mtu : Int} (h : updE U key c n s mtu ≠ 0) : updU U key c n s mtu = U := if_neg h
theorem upd_len (U : List Upd7) (key : ByteArray) (c n : Int) (s : ByteArray) (mtu : Int) : (updU U key c n s mtu).length ≤ U.length + 1 := by unfold updU; split <;> simp
theorem upd_cases (U : List Upd7) (key : ByteArray) (c n : Int) (s : ByteArray) (mtu : Int) :
  (may key c n s ≠ 0 ∧ updE U key c n s mtu = may key c n s ∧ updU U key c n s mtu = U) ∨ (may key c n s = 0 ∧ fitsB [(⟨key, c, n, s⟩ : Upd7)] mtu = false ∧ updE U key c n s mtu = 3 ∧ updU U key c n s mtu = U) ∨
  (may key c n s = 0 ∧ fitsB [(⟨key, c, n, s⟩ : Upd7)] mtu = true ∧ fitsB (U ++ [(⟨key, c, n, s⟩ : Upd7)]) mtu = false ∧ updE U key c n s mtu = 7 ∧ updU U key c n s mtu = U) ∨
  (may key c n s = 0 ∧ fitsB [(⟨key, c, n, s⟩ : Upd7)] mtu = true ∧ fitsB (U ++ [(⟨key, c, n, s⟩ : Upd7)]) mtu = true ∧ updE U key c n s mtu = 0 ∧ updU U key c n s mtu = U ++ [(⟨key, c, n, s⟩ : Upd7)]) := by
 by_cases h1 : may key c n s = 0
 ·by_cases h2 : fitsB [(⟨key, c, n, s⟩ : Upd7)] mtu = false
  ·have e : updE U key c n s mtu = 3 := by unfold updE; rw [if_neg (fun h => h h1), if_pos h2]
   exact .inr (.inl ⟨h1, h2, e, updU_no (by rw [e]; decide)⟩)
  ·by_cases h3 : fitsB (U ++ [(⟨key, c, n, s⟩ : Upd7)]) mtu = false
   ·have e : updE U key c n s mtu = 7 := by unfold updE; rw [if_neg (fun h => h h1), if_neg h2, if_pos h3]
    exact .inr (.inr (.inl ⟨h1, by simpa using h2, h3, e, updU_no (by rw [e]; decide)⟩))
   ·have e : updE U key c n s mtu = 0 := by unfold updE; rw [if_neg (fun h => h h1), if_neg h2, if_neg h3]
    exact .inr (.inr (.inr ⟨h1, by simpa using h2, by simpa using h3, e, if_pos e⟩))
 ·have e : updE U key c n s mtu = may key c n s := by unfold updE; rw [if_pos h1]
  exact .inl ⟨h1, e, updU_no (by rw [e]; exact h1)⟩
def takeE (o : Int) (P : List Rnd7) (r0 r1 : Int) : Int := if r0 = o then (if P.length = 0 ∨ (rd_T35 P 0).f1 ≠ r1 then 10 else 0) else 0
def takeK (o : Int) (K P : List Rnd7) (r : Rnd7) : List Rnd7 := if takeE o P r.f0 r.f1 = 0 then K ++ [r] else K
def takeP (o : Int) (P : List Rnd7) (r0 r1 : Int) : List Rnd7 := if r0 = o ∧ takeE o P r0 r1 = 0 then P.drop 1 else P
theorem takeK_len (o : Int) (K P : List Rnd7) (r : Rnd7) : K.length ≤ (takeK o K P r).length ∧ (takeK o K P r).length ≤ K.length + 1 := by unfold takeK; split <;> simp
theorem take_cases (o : Int) (P : List Rnd7) (r0 r1 : Int) :
  (r0 = o ∧ P.length = 0 ∧ takeE o P r0 r1 = 10 ∧ takeP o P r0 r1 = P) ∨ (r0 = o ∧ P.length ≠ 0 ∧ (rd_T35 P 0).f1 ≠ r1 ∧ takeE o P r0 r1 = 10 ∧ takeP o P r0 r1 = P) ∨
  (r0 = o ∧ P.length ≠ 0 ∧ (rd_T35 P 0).f1 = r1 ∧ takeE o P r0 r1 = 0 ∧ takeP o P r0 r1 = P.drop 1) ∨ (r0 ≠ o ∧ takeE o P r0 r1 = 0 ∧ takeP o P r0 r1 = P) := by
 by_cases h1 : r0 = o
 ·by_cases h2 : P.length = 0
  ·have e : takeE o P r0 r1 = 10 := by unfold takeE; rw [if_pos h1, if_pos (.inl h2)]
   exact .inl ⟨h1, h2, e, by unfold takeP; rw [e, if_neg (by simp)]⟩
  ·by_cases h3 : (rd_T35 P 0).f1 = r1
   ·have e : takeE o P r0 r1 = 0 := by unfold takeE; rw [if_pos h1, if_neg (fun h => h.elim h2 (fun h => h h3))]
    exact .inr (.inr (.inl ⟨h1, h2, h3, e, by unfold takeP; rw [e, if_pos ⟨h1, rfl⟩]⟩))
   ·have e : takeE o P r0 r1 = 10 := by unfold takeE; rw [if_pos h1, if_pos (.inr h3)]
    exact .inr (.inl ⟨h1, h2, h3, e, by unfold takeP; rw [e, if_neg (by simp)]⟩)
 ·have e : takeE o P r0 r1 = 0 := by unfold takeE; rw [if_neg h1]
  exact .inr (.inr (.inr ⟨h1, e, by unfold takeP; rw [if_neg (fun h => h1 h.1)]⟩))
theorem takeK_yes {o : Int} {K P : List Rnd7} {r : Rnd7} (h : takeE o P r.f0 r.f1 = 0) : takeK o K P r = K ++ [r] := if_pos h
theorem takeK_no {o : Int} {K P : List Rnd7} {r : Rnd7} (h : takeE o P r.f0 r.f1 = 10) : takeK o K P r = K := if_neg (by rw [h]; decide)
def pushE (jo jm push : Int) (L P : List Rnd7) (U : List Upd7) : Int := if U.length = 0 then 11 else if (P.length : Int) ≥ push then 7 else addE jo jm L U
def pushR (jo jm push : Int) (L P : List Rnd7) (U : List Upd7) : Rnd7 := if pushE jo jm push L P U = 0 then ⟨jo, L.length + 1, U⟩ else z35
def pushL (jo jm push : Int) (L P : List Rnd7) (U : List Upd7) : List Rnd7 := if pushE jo jm push L P U = 0 then L ++ [⟨jo, L.length + 1, U⟩] else L
def pushP (jo jm push : Int) (L P : List Rnd7) (U : List Upd7) : List Rnd7 := if pushE jo jm push L P U = 0 then P ++ [⟨jo, L.length + 1, U⟩] else P
def pushU (jo jm push : Int) (L P : List Rnd7) (U : List Upd7) : List Upd7 := if pushE jo jm push L P U = 0 then [] else U
theorem push_cases (jo jm push : Int) (L P : List Rnd7) (U : List Upd7) : (U.length = 0 ∧ pushE jo jm push L P U = 11) ∨ (U.length ≠ 0 ∧ (P.length : Int) ≥ push ∧ pushE jo jm push L P U = 7) ∨ (U.length ≠ 0 ∧ ¬ (P.length : Int) ≥ push ∧ addE jo jm L U ≠ 0 ∧ pushE jo jm push L P U = addE jo jm L U) ∨ (U.length ≠ 0 ∧ ¬ (P.length : Int) ≥ push ∧ addE jo jm L U = 0 ∧ pushE jo jm push L P U = 0) := by
 unfold pushE
 by_cases h1 : U.length = 0
 ·exact .inl ⟨h1, if_pos h1⟩
 ·rw [if_neg h1]
  by_cases h2 : (P.length : Int) ≥ push
  ·exact .inr (.inl ⟨h1, h2, if_pos h2⟩)
  ·rw [if_neg h2]
   by_cases h3 : addE jo jm L U = 0
   ·exact .inr (.inr (.inr ⟨h1, h2, h3, h3⟩))
   ·exact .inr (.inr (.inl ⟨h1, h2, h3, rfl⟩))
theorem push_no {jo jm push : Int} {L P : List Rnd7} {U : List Upd7} (h : pushE jo jm push L P U ≠ 0) : pushR jo jm push L P U = z35 ∧ pushL jo jm push L P U = L ∧ pushP jo jm push L P U = P ∧ pushU jo jm push L P U = U := ⟨if_neg h, if_neg h, if_neg h, if_neg h⟩
theorem push_yes {jo jm push : Int} {L P : List Rnd7} {U : List Upd7} (h : pushE jo jm push L P U = 0) : pushR jo jm push L P U = ⟨jo, L.length + 1, U⟩ ∧ pushL jo jm push L P U = L ++ [⟨jo, L.length + 1, U⟩] ∧ pushP jo jm push L P U = P ++ [⟨jo, L.length + 1, U⟩] ∧ pushU jo jm push L P U = [] := ⟨if_pos h, if_pos h, if_pos h, if_pos h⟩
theorem add_yes {jo jm : Int} {L : List Rnd7} {U : List Upd7} (h : addE jo jm L U = 0) : addR jo jm L U = ⟨jo, L.length + 1, U⟩ ∧ addL jo jm L U = L ++ [⟨jo, L.length + 1, U⟩] := ⟨if_pos h, if_pos h⟩
theorem dE_is {jo jm : Int} {L : List Rnd7} {U : List Upd7} (h : (L.length : Int) ≤ jm) : dE jo jm L.length U = addE jo jm L U := by
 unfold dE addE
 by_cases e : (L.length : Int) = jm
 ·rw [if_pos (by omega), if_pos e]
 ·rw [if_neg (by omega), if_neg e]
section
variable {N : Nat → Prop} {w : World} {g gj gd gp : Nat} {jp : Value} {jo jm o mtu push : Int} {rJ rK rP : List (List Value)} {L K P : List Rnd7} {U : List Upd7}
theorem CUpd (key : ByteArray) (c n : Int) (s : ByteArray) (h : Own N w [CliO g jp o mtu push K P U]) (ht : TabN N w) (hL : U.length ≤ 1000000) :
  Calls Tryd.prog 30 #[pt g, .agg #[.string key, .int .i64 c, .int .i64 n, .string s]] w fun e_ w' => e_ = .returned (.int .i64 (updE U key c n s mtu)) ∧ Own N w' [CliO g jp o mtu push K P (updU U key c n s mtu)] ∧ KeepS N w w' := by
 rcases upd_cases U key c n s mtu with ⟨h1, e1, e2⟩ | ⟨h1, h2, e1, e2⟩ | ⟨h1, h2, h3, e1, e2⟩ | ⟨h1, h2, h3, e1, e2⟩ <;> rw [e1, e2]
 ·exact CUpd_may key c n s h ht hL h1
 ·exact CUpd_long key c n s h ht hL h1 h2
 ·exact CUpd_fo key c n s h ht hL h1 h2 h3 (fun _ _ _ x => x) (fun f => nomatch f)
 ·exact CUpd_fo key c n s h ht hL h1 h2 h3 (fun f => nomatch f) (fun _ _ _ x => x)
theorem CTake (r : Rnd7) (B : Option Addr) (cb : Nat) (h : Own N w [CliO g jp o mtu push K P U]) (hr : Kd.F kU7 w N B r.f2.length r.f2) (hc : r.f2.length ≤ cb) (hu : r.f2.length ≤ 1000000) (hL : K.length ≤ 1000000) :
  Calls Tryd.prog 32 #[pt g, .agg #[.int .i64 r.f0, .int .i64 r.f1, .slice B r.f2.length cb]] w fun e_ w' => e_ = .returned (.int .i64 (takeE o P r.f0 r.f1)) ∧ Own N w' [CliO g jp o mtu push (takeK o K P r) (takeP o P r.f0 r.f1) U] ∧ KeepS N w w' := by
 rcases take_cases o P r.f0 r.f1 with ⟨h1, h2, e1, e2⟩ | ⟨h1, h2, h3, e1, e2⟩ | ⟨h1, h2, h3, e1, e2⟩ | ⟨h1, e1, e2⟩
 ·rw [takeK_no e1, e1, e2]
  exact CTake_none r.f0 r.f1 B cb r.f2 h hr hc hu hL h1 h2
 ·rw [takeK_no e1, e1, e2]
  exact CTake_wrong r.f0 r.f1 B cb r.f2 h hr hc hu hL h1 h2 h3
 ·rw [takeK_yes e1, e1, e2]
  exact CTake_own r.f0 r.f1 B cb r.f2 h hr hc hu hL h1 h2 h3
 ·rw [takeK_yes e1, e1, e2]
  exact CTake_other r.f0 r.f1 B cb r.f2 h hr hc hu hL h1
theorem CPush (h : Own N w [CliO g (pt gp) o mtu push K P U, Obj3 138 gp jo jm L]) (hu : U.length ≤ 1000000) (hL : L.length ≤ 1000000) (hP : P.length ≤ 1000000) :
  Calls Tryd.prog 31 #[pt g] w fun e_ w' => ∃ A1 c1, e_ = .returned (.tuple #[.agg #[.int .i64 (pushR jo jm push L P U).f0, .int .i64 (pushR jo jm push L P U).f1, .slice A1 (pushR jo jm push L P U).f2.length c1], .int .i64 (pushE jo jm push L P U)]) ∧ Own N w' [CliO g (pt gp) o mtu push K (pushP jo jm push L P U) (pushU jo jm push L P U), Obj3 138 gp jo jm (pushL jo jm push L P U), nrow kU7 tU7 (.slice A1 (pushR jo jm push L P U).f2.length c1) (pushR jo jm push L P U).f2] ∧ KeepS N w w' := by
 rcases push_cases jo jm push L P U with ⟨h1, e⟩ | ⟨h1, h2, e⟩ | ⟨h1, h2, h3, e⟩ | ⟨h1, h2, h3, e⟩
 ·obtain ⟨a, b, c, d⟩ := push_no (show pushE jo jm push L P U ≠ 0 by rw [e]; decide)
  rw [a, b, c, d, e]
  exact CPush_none h hu hL hP h1
 ·obtain ⟨a, b, c, d⟩ := push_no (show pushE jo jm push L P U ≠ 0 by rw [e]; decide)
  rw [a, b, c, d, e]
  exact CPush_full h hu hL hP h1 h2
 ·obtain ⟨a, b, c, d⟩ := push_no (show pushE jo jm push L P U ≠ 0 by rw [e]; exact h3)
  rw [a, b, c, d, e]
  refine (CPush_eo h hu hL hP h1 h2 (fun _ _ _ x => x) (fun f => absurd f h3)).mono fun e_ w' ⟨q, _⟩ => ?_
  rw [show addL jo jm L U = L from if_neg h3] at q
  exact q
 ·obtain ⟨a, b, c, d⟩ := push_yes e
  rw [a, b, c, d, e]
  refine (CPush_eo h hu hL hP h1 h2 (fun f => absurd h3 f) (fun _ _ _ x => x)).mono fun e_ w' ⟨q, _⟩ => ?_
  rw [(add_yes h3).1, (add_yes h3).2] at q
  exact q
theorem ODUpd (key : ByteArray) (c n : Int) (s : ByteArray) (h : Own N w [DocO gj gd jo jm o mtu push rJ rK rP U]) (hL : U.length ≤ 1000000) :
  Calls Tryd.prog 58 #[pt gd, .agg #[.string key, .int .i64 c, .int .i64 n, .string s]] w fun e_ w' => e_ = .returned (.int .i64 (updE U key c n s mtu)) ∧ Own N w' [DocO gj gd jo jm o mtu push rJ rK rP (updU U key c n s mtu)] ∧ KeepS N w w' := by
 obtain ⟨AJ, cJ, A4, c4, A5, c5, A6, c6, h2⟩ := DocO.open_ h
 obtain ⟨N_, on_, nn_, rr_, bb_⟩ := h2.frameL [4, 1] (by decide) (by simp)
 have back : ∀ (e' : Int) (V : List Upd7) (e_ : Ending) (w' : World) (vU : Value), e_ = .returned (.int .i64 e') → KeepS N_ w w' → Own N_ w' [cells gd (cliC (pt gj) o mtu push (.slice A4 rK.length c4) (.slice A5 rP.length c5) vU) tDC, nrow kU7 tU7 vU V] → e_ = .returned (.int .i64 e') ∧ Own N w' [DocO gj gd jo jm o mtu push rJ rK rP V] ∧ KeepS N w w' := by
  intro e' V e_ w' vU he kk_ oo_
  obtain ⟨o_, k_⟩ := bb_ w' [cells gd (cliC (pt gj) o mtu push (.slice A4 rK.length c4) (.slice A5 rP.length c5) vU) tDC, nrow kU7 tU7 vU V] [] rfl kk_ oo_
  exact ⟨he, (DocO.shut (o_.pickL [0, 5, 4, 3, 2, 1] (by decide) (by simp [setL]))).take 1, k_⟩
 rcases upd_cases U key c n s mtu with ⟨h1, e1, e2⟩ | ⟨h1, h2, e1, e2⟩ | ⟨h1, h2, h3, e1, e2⟩ | ⟨h1, h2, h3, e1, e2⟩ <;> rw [e1, e2]
 ·exact (DUpd_may key c n s on_ hL h1).mono fun e_ w' ⟨a, b, k⟩ => back _ _ e_ w' _ a k b
 ·exact (DUpd_long key c n s on_ hL h1 h2).mono fun e_ w' ⟨a, b, k⟩ => back _ _ e_ w' _ a k b
 ·exact DUpd_fo key c n s on_ hL h1 h2 h3 (fun _ e_ w' ⟨a, b, k⟩ => back _ _ e_ w' _ a k b) (fun f => nomatch f)
 ·exact DUpd_fo key c n s on_ hL h1 h2 h3 (fun f => nomatch f) (fun _ e_ w' ⟨_, _, a, b, k⟩ => back _ _ e_ w' _ a k b)
theorem ODTake (r : Rnd7) (B : Option Addr) (cb : Nat) (h : Own N w [DocO gj gd jo jm o mtu push rJ rK rP U]) (hd : Led N w rJ rK rP L K P) (hc : r.f2.length ≤ cb) (hL : K.length + P.length ≤ 1000000) :
  Calls Tryd.prog 60 #[pt gd, .agg #[.int .i64 r.f0, .int .i64 r.f1, .slice B r.f2.length cb]] w fun e_ w' => ∃ rK' rP', e_ = .returned (.int .i64 (takeE o P r.f0 r.f1)) ∧ (∀ (N0 : Nat → Prop) (w0 : World), Led N0 w0 rJ rK rP L K P → Kd.F kU7 w0 N0 B r.f2.length r.f2 → Led N0 w0 rJ rK' rP' L (takeK o K P r) (takeP o P r.f0 r.f1)) ∧ Own N w' [DocO gj gd jo jm o mtu push rJ rK' rP' U] ∧ KeepS N w w' := by
 obtain ⟨AJ, cJ, A4, c4, A5, c5, A6, c6, h2⟩ := DocO.open_ h
 obtain ⟨N_, on_, nn_, rr_, bb_⟩ := h2.frameL [4, 3, 2] (by decide) (by simp)
 have back : ∀ (e' : Int) (rK' rP' : List (List Value)) (K' P' : List Rnd7) (e_ : Ending) (w' : World) (vK vP : Value), e_ = .returned (.int .i64 e') → KeepS N_ w w' → Own N_ w' [cells gd (cliC (pt gj) o mtu push vK vP (.slice A6 U.length c6)) tDC, nrow (Kd.raw 3) tR7 vK rK', nrow (Kd.raw 3) tR7 vP rP'] → (∀ (N0 : Nat → Prop) (w0 : World), Led N0 w0 rJ rK rP L K P → Kd.F kU7 w0 N0 B r.f2.length r.f2 → Led N0 w0 rJ rK' rP' L K' P') → ∃ rK' rP', e_ = .returned (.int .i64 e') ∧ (∀ (N0 : Nat → Prop) (w0 : World), Led N0 w0 rJ rK rP L K P → Kd.F kU7 w0 N0 B r.f2.length r.f2 → Led N0 w0 rJ rK' rP' L K' P') ∧ Own N w' [DocO gj gd jo jm o mtu push rJ rK' rP' U] ∧ KeepS N w w' := by
  intro e' rK' rP' K' P' e_ w' vK vP he kk_ oo_ hl
  obtain ⟨o_, k_⟩ := bb_ w' [cells gd (cliC (pt gj) o mtu push vK vP (.slice A6 U.length c6)) tDC, nrow (Kd.raw 3) tR7 vK rK', nrow (Kd.raw 3) tR7 vP rP'] [] rfl kk_ oo_
  exact ⟨rK', rP', he, hl, (DocO.shut (o_.pickL [0, 5, 4, 3, 2, 1] (by decide) (by simp [setL]))).take 1, k_⟩
 have hll : rK.length + rP.length ≤ 1000000 := by rw [hd.k.1, hd.p.1]; exact hL
 rcases take_cases o P r.f0 r.f1 with ⟨h1, h2, e1, e2⟩ | ⟨h1, h2, h3, e1, e2⟩ | ⟨h1, h2, h3, e1, e2⟩ | ⟨h1, e1, e2⟩
 ·rw [takeK_no e1, e1, e2]
  exact (DTake_none r.f0 r.f1 B r.f2.length cb on_ hll h1 (by rw [hd.p.1]; exact h2)).mono fun e_ w' ⟨a, b, k⟩ => back _ _ _ _ _ e_ w' _ _ a k b (fun _ _ h _ => h)
 ·rw [takeK_no e1, e1, e2]
  obtain ⟨A, c, hh, _, _⟩ := hd.p.first h2
  exact (DTake_wrong r.f0 r.f1 B r.f2.length cb on_ hll h1 hh h3).mono fun e_ w' ⟨a, b, k⟩ => back _ _ _ _ _ e_ w' _ _ a k b (fun _ _ h _ => h)
 ·rw [takeK_yes e1, e1, e2]
  obtain ⟨A, c, hh, _, _⟩ := hd.p.first h2
  exact (DTake_own r.f0 r.f1 B r.f2.length cb on_ hll h1 hh h3).mono fun e_ w' ⟨_, _, _, _, a, b, k⟩ => back _ _ _ _ _ e_ w' _ _ a k b (fun _ _ h hF => ⟨h.j, h.k.append (Lead.one hc hF), h.p.drop1⟩)
 ·rw [takeK_yes e1, e1, e2]
  exact (DTake_other r.f0 r.f1 B r.f2.length cb on_ hll h1).mono fun e_ w' ⟨_, _, a, b, k⟩ => back _ _ _ _ _ e_ w' _ _ a k b (fun _ _ h hF => ⟨h.j, h.k.append (Lead.one hc hF), h.p⟩)
theorem ODPush_no (h : Own N w [DocO gj gd jo jm o mtu push rJ rK rP U]) (hd : Led N w rJ rK rP L K P) (hu : U.length ≤ 1000000) (hL : L.length ≤ 1000000) (hP : P.length ≤ 1000000) (hm : (L.length : Int) ≤ jm) (he : pushE jo jm push L P U ≠ 0) :
  Calls Tryd.prog 59 #[pt gd] w fun e_ w' => e_ = .returned (.tuple #[.agg #[.int .i64 0, .int .i64 0, .slice none 0 0], .int .i64 (pushE jo jm push L P U)]) ∧ Own N w' [DocO gj gd jo jm o mtu push rJ rK rP U] ∧ KeepS N w w' := by
 obtain ⟨AJ, cJ, A4, c4, A5, c5, A6, c6, h2⟩ := DocO.open_ h
 obtain ⟨N_, on_, nn_, rr_, bb_⟩ := h2.frameL [0, 5, 4, 2, 1] (by decide) (by simp)
 have hLr : rJ.length ≤ 1000000 := by rw [hd.j.1]; exact hL
 have hPr : rP.length ≤ 1000000 := by rw [hd.p.1]; exact hP
 have ePr : (rP.length : Int) = P.length := by rw [hd.p.1]
 have back : ∀ (e' : Int) (e_ : Ending) (w' : World), e_ = .returned (.tuple #[.agg #[.int .i64 0, .int .i64 0, .slice none 0 0], .int .i64 e']) → KeepS N_ w w' → Own N_ w' [cells gj (jrC jo jm (.slice AJ rJ.length cJ)) tDJ, nrow (Kd.raw 3) tR7 (.slice AJ rJ.length cJ) rJ, cells gd (cliC (pt gj) o mtu push (.slice A4 rK.length c4) (.slice A5 rP.length c5) (.slice A6 U.length c6)) tDC, nrow (Kd.raw 3) tR7 (.slice A5 rP.length c5) rP, nrow kU7 tU7 (.slice A6 U.length c6) U] → e_ = .returned (.tuple #[.agg #[.int .i64 0, .int .i64 0, .slice none 0 0], .int .i64 e']) ∧ Own N w' [DocO gj gd jo jm o mtu push rJ rK rP U] ∧ KeepS N w w' := by
  intro e' e_ w' he kk_ oo_
  obtain ⟨o_, k_⟩ := bb_ w' [cells gj (jrC jo jm (.slice AJ rJ.length cJ)) tDJ, nrow (Kd.raw 3) tR7 (.slice AJ rJ.length cJ) rJ, cells gd (cliC (pt gj) o mtu push (.slice A4 rK.length c4) (.slice A5 rP.length c5) (.slice A6 U.length c6)) tDC, nrow (Kd.raw 3) tR7 (.slice A5 rP.length c5) rP, nrow kU7 tU7 (.slice A6 U.length c6) U] [] rfl kk_ oo_
  exact ⟨he, (DocO.shut (o_.pickL [0, 5, 4, 3, 2, 1] (by decide) (by simp [setL]))).take 1, k_⟩
 rcases push_cases jo jm push L P U with ⟨h1, e⟩ | ⟨h1, h2, e⟩ | ⟨h1, h2, h3, e⟩ | ⟨h1, h2, h3, e⟩
 ·rw [e]
  exact (DPush_none on_ hu hLr hPr h1).mono fun e_ w' ⟨a, b, k⟩ => back _ e_ w' a k b
 ·rw [e]
  exact (DPush_full on_ hu hLr hPr h1 (by rw [ePr]; exact h2)).mono fun e_ w' ⟨a, b, k⟩ => back _ e_ w' a k b
 ·rw [e]
  exact (DPush_err on_ hu hLr hPr _ h1 (by rw [ePr]; exact h2) (by rw [hd.j.1]; exact dE_is hm) h3).mono fun e_ w' ⟨a, b, k⟩ => back _ e_ w' a k b
 ·exact (he e).elim
theorem ODPush_ok (h : Own N w [DocO gj gd jo jm o mtu push rJ rK rP U]) (hd : Led N w rJ rK rP L K P) (hu : U.length ≤ 1000000) (hL : L.length ≤ 1000000) (hP : P.length ≤ 1000000) (hm : (L.length : Int) ≤ jm) (he : pushE jo jm push L P U = 0) :
  Calls Tryd.prog 59 #[pt gd] w fun e_ w' => ∃ B1 b1, U.length ≤ b1 ∧ e_ = .returned (.tuple #[.agg #[.int .i64 jo, .int .i64 ((L.length : Int) + 1), .slice B1 U.length b1], .int .i64 0]) ∧ Own N w' [DocO gj gd jo jm o mtu push (rJ ++ [rw3 jo ((L.length : Int) + 1) (.slice B1 U.length b1)]) rK (rP ++ [rw3 jo ((L.length : Int) + 1) (.slice B1 U.length b1)]) [], nrow kU7 tU7 (.slice B1 U.length b1) U] ∧ KeepS N w w' := by
 obtain ⟨AJ, cJ, A4, c4, A5, c5, A6, c6, h2⟩ := DocO.open_ h
 obtain ⟨N_, on_, nn_, rr_, bb_⟩ := h2.frameL [0, 5, 4, 2, 1] (by decide) (by simp)
 have hLr : rJ.length ≤ 1000000 := by rw [hd.j.1]; exact hL
 have hPr : rP.length ≤ 1000000 := by rw [hd.p.1]; exact hP
 have ePr : (rP.length : Int) = P.length := by rw [hd.p.1]
 rcases push_cases jo jm push L P U with ⟨h1, e⟩ | ⟨h1, h2, e⟩ | ⟨h1, h2, h3, e⟩ | ⟨h1, h2, h3, e⟩
 ·rw [e] at he; cases he
 ·rw [e] at he; cases he
 ·exact (h3 (e ▸ he)).elim
 ·refine (DPush_ok on_ hu hLr hPr ((L.length : Int) + 1) h1 (by rw [ePr]; exact h2) (by rw [hd.j.1, dE_is hm]; exact h3) (by rw [hd.j.1])).mono ?_
  rintro e_ w' ⟨B1, b1, C5, e5, C4, e4, a, hb, oo_, kk_⟩
  obtain ⟨o_, k_⟩ := bb_ w' [cells gj (jrC jo jm (.slice C5 (rJ ++ [rw3 jo ((L.length : Int) + 1) (.slice B1 U.length b1)]).length e5)) tDJ, nrow (Kd.raw 3) tR7 (.slice C5 (rJ ++ [rw3 jo ((L.length : Int) + 1) (.slice B1 U.length b1)]).length e5) (rJ ++ [rw3 jo ((L.length : Int) + 1) (.slice B1 U.length b1)]), cells gd (cliC (pt gj) o mtu push (.slice A4 rK.length c4) (.slice C4 (rP ++ [rw3 jo ((L.length : Int) + 1) (.slice B1 U.length b1)]).length e4) (.slice none 0 0)) tDC, nrow (Kd.raw 3) tR7 (.slice C4 (rP ++ [rw3 jo ((L.length : Int) + 1) (.slice B1 U.length b1)]).length e4) (rP ++ [rw3 jo ((L.length : Int) + 1) (.slice B1 U.length b1)]), nrow kU7 tU7 (.slice B1 U.length b1) U] [] rfl kk_ oo_
  exact ⟨B1, b1, hb, a, (DocO.shut ((o_.push_emp (nrow kU7 tU7 (.slice none 0 0) []) (fun w => Kd.N_nil _ _ _ _ _)).pickL [0, 5, 4, 3, 2, 6, 1] (by decide) (by simp [setL]))).pickL [0, 6] (by decide) (by simp), k_⟩
theorem ODResume (h : Own N w [DocO gj gd jo jm o mtu push rJ rK rP U]) (hd : Led N w rJ rK rP L K P) (hL : L.length ≤ 1000000) :
  Calls Tryd.prog 61 #[pt gd] w fun e_ w' => e_ = .returned (.tuple #[]) ∧ Led N w' rJ [] rJ L [] L ∧ Own N w' [DocO gj gd jo jm o mtu push rJ [] rJ []] ∧ KeepS N w w' := by
 obtain ⟨AJ, cJ, A4, c4, A5, c5, A6, c6, h2⟩ := DocO.open_ h
 obtain ⟨N_, on_, nn_, rr_, bb_⟩ := h2.frameL [0, 5, 4] (by decide) (by simp)
 refine (DResume on_ (by rw [hd.j.1]; exact hL)).mono ?_
 rintro e_ w' ⟨B5, b5, a, oo_, kk_⟩
 obtain ⟨o_, k_⟩ := bb_ w' [cells gj (jrC jo jm (.slice AJ rJ.length cJ)) tDJ, nrow (Kd.raw 3) tR7 (.slice AJ rJ.length cJ) rJ, cells gd (cliC (pt gj) o mtu push (.slice none 0 0) (.slice B5 rJ.length b5) (.slice none 0 0)) tDC] [nrow (Kd.raw 3) tR7 (.slice B5 rJ.length b5) rJ] rfl kk_ oo_
 exact ⟨a, ⟨hd.j.keep k_, Lead.none _ _, hd.j.keep k_⟩, (DocO.shut (((o_.push_emp (nrow kU7 tU7 (.slice none 0 0) []) (fun w => Kd.N_nil _ _ _ _ _)).push_emp (nrow (Kd.raw 3) tR7 (.slice none 0 0) []) (fun w => Kd.N_nil _ _ _ _ _)).pickL [0, 5, 4, 8, 6, 7] (by decide) (by simp [setL]))).take 1, k_⟩
end
end Go.Proofs.YtjdenpmaianmfaaDoor.J
