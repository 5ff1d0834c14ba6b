/- Journal.Add in one word: what it answers, and what there is behind it. -/
import Derived.Test.YtjdenpmaianmfaaDoorYClientWaitsSq
import Derived.Test.YtjdenpmaianmfaaDoorYClientWaitsJ0
import Derived.Test.YtjdenpmaianmfaaDoorYClientWaitsQ4
import Derived.Test.YtjdenpmaianmfaaDoorYClientWaitsSt
import Derived.Test.YtjdenpmaianmfaaDoorYClientWaitsRM
namespace Go.Proofs.YtjdenpmaianmfaaDoor.J
set_option maxHeartbeats 16000000
set_option maxRecDepth 100000
set_option linter.unusedSimpArgs false
set_option linter.unusedVariables false
open Go Go.RowKit Go.Proofs.YtjdenpmaianmfaaDoorW.PrintWords Go.Proofs.YtjdenpmaianmfaaDoorW.PrintLast Go.Proofs.YtjdenpmaianmfaaDoorW.PrintMore Go.Proofs.YtjdenpmaianmfaaDoor.Q Go.Proofs.YtjdenpmaianmfaaDoor.Sep
attribute [local go_sem] max2_int min2_int max_two min_two max_three min_three max_four min_four
theorem New {N : Nat → Prop} {w : World} (o m : Int) (h : Own N w []) :
  Calls Tryd.prog 52 #[.int .i64 o, .int .i64 m] w fun e w' => ∃ g, e = .returned (.pointer (some ⟨g, 0, none⟩)) ∧ Own N w' [Obj3 138 g o (mn (mx m 1) 1099511627776) []] ∧ KeepS N w w' := by
 have O0 : Aside0 (Own N w []) := ⟨h⟩
 have K0 : Aside0 (KeepS N w w) := ⟨KeepS.refl _ _⟩
 go_enter Tryd.func52, Tryd.ntmps52
 go_wp2_with (first | ((with_reducible refine gD 10 rfl ?_); refine bP 10 #[.int .i64 o, .int .i64 (mn (mx m 1) 1099511627776), .slice none 0 0] 138 O0.out ?_; intro g1 w1 o_ k_; obtain ⟨O1, K1⟩ := ok_ K0 o_ k_; clear O0 K0 o_ k_; have a0 := k3_ O1 0))
 all_goals go_ret
 all_goals refine ⟨_, rfl, ?_, K1.out⟩
 all_goals exact (Obj3.shut (i := 0) (j := 1) (L := []) (O1.out.push_emp (nrow k35 35 (.slice none 0 0) []) (fun w => Kd.N_nil _ _ _ _ _)) rfl rfl (by decide)).take 1
theorem Add_full {N : Nat → Prop} {w : World} {g : Nat} {o m : Int} {L : List S35} (B : Option Addr) (c : Nat) (ups : List S32) (h : Own N w [Obj3 138 g o m L]) (hr : Kd.F k32 w N B ups.length ups) (hc : ups.length ≤ c) (hL : L.length ≤ 1000000) (hu : ups.length ≤ 1000000) (hq : ((L.length : Int) == m) = true) :
  Calls Tryd.prog 71 #[.pointer (some ⟨g, 0, none⟩), .slice B ups.length c] w fun e_ w' => ∃ A1 c1, e_ = .returned (.tuple #[.agg #[.int .i64 0, .int .i64 0, .slice A1 (([] : List S32)).length c1], .int .i64 8]) ∧ Own N w' [Obj3 138 g o m (L), nrow k32 32 (.slice A1 (([] : List S32)).length c1) (([] : List S32))] ∧ KeepS N w w' := by
 obtain ⟨A0, c0, h2⟩ := Obj3.open_ h (i := 0) rfl
 have HR_0 : Aside0 (Kd.F k32 w N B ups.length ups) := ⟨hr⟩
 have HC := Aside0.mk hc
 have O0 : Aside0 (Own N w [cells g #[.int .i64 o, .int .i64 m, .slice A0 L.length c0] 138, nrow k35 35 (.slice A0 L.length c0) L]) := ⟨h2⟩
 have K0 : Aside0 (KeepS N w w) := ⟨KeepS.refl _ _⟩
 have a0 := k3_ O0 0
 have hs1 : IntKind.i64.wrap ((L.length : Int) + 1) = (L.length : Int) + 1 := by rw [IntKind.wrap_i64]; omega
 have hs2 : wrap64 ((L.length : Int) + 1) = (L.length : Int) + 1 := by unfold wrap64; omega
 clear h2 h hr hc hL hu
 go_enter Tryd.func71, Tryd.ntmps71
 go_wp2_with (first | ((with_reducible refine gD 4 rfl ?_); refine bP 4 #[.int .i64 0, .int .i64 0, .slice none 0 0] 35 O0.out ?_; intro g1 w1 o_ k_; obtain ⟨O1, K1⟩ := ok_ K0 o_ k_; have HR_1 := Aside0.mk (keepF HR_0.out k_); clear a0 O0 K0 HR_0 o_ k_; have a0 := k3_ O1 0; have a2 := k3_ O1 2))
 refine sP (n := 10) (S := c3_ g (.int .i64 o) (.int .i64 m) (.slice A0 L.length c0)) (ds := []) (p3_ a0) (fun hHeld => ?_)
 obtain ⟨w2, hw_⟩ : ∃ W, W = w1.drew := ⟨_, rfl⟩
 have o_ := O1.out.drew
 have k_ : KeepS N w1 w1.drew := KeepS.drew
 rw [← hw_] at o_ k_ hHeld ⊢
 clear hw_
 obtain ⟨O2, K2⟩ := ok_ K1 o_ k_
 have HR_2 := Aside0.mk (keepF HR_1.out k_)
 clear a0 a2 O1 K1 HR_1 o_ k_
 have a0 := k3_ O2 0
 have a2 := k3_ O2 2
 refine pP 0 (some 8) ?_
 refine pP 1 (some 9) ?_
 refine pP 2 (some 10) ?_
 refine pP 5 (some 13) ?_
 refine pP 6 (some 14) ?_
 refine pP 7 (some 15) ?_
 refine tP 3 (some 11) hHeld ?_
 refine pP 4 (some 12) ?_
 refine tP 8 (some 16) hHeld ?_
 refine pP 9 (some 17) ?_
 refine done_ (by kernel_rfl) ?_
 clear hHeld
 clear HR_2 HC hs1 hs2
 go_wp2_with (first | ((with_reducible refine gT 35 4 rfl ?_); refine wS 2 0 [.int .i64 0, .int .i64 0, .slice none 0 0] O2 ?_; intro w3 o_ k_; obtain ⟨O3, K3⟩ := ok_ K2 o_ k_; clear a0 a2 O2 K2 o_ k_; have a0 := k3_ O3 0; have a2 := k3_ O3 2))
 refine bodyPost_ret (results_ct rfl _ _ g1 35 #[.int .i64 0, .int .i64 0, .slice none 0 0] (0, 0) _ rfl (O3.out.blk (i := 2) rfl) Tryd.underlying35 rfl (by kernel_rfl)) rfl ?_
 exact ⟨none, 0, rfl, ((Obj3.shut (i := 0) (j := 1) O3.out rfl rfl (by decide)).take 1).push_emp _ (fun w => Kd.N_nil _ _ _ _ _), K3.out⟩
theorem Add_no {N : Nat → Prop} {w : World} {g : Nat} {o m : Int} {L : List S35} (B : Option Addr) (c : Nat) (ups : List S32) (h : Own N w [Obj3 138 g o m L]) (hr : Kd.F k32 w N B ups.length ups) (hc : ups.length ≤ c) (hL : L.length ≤ 1000000) (hu : ups.length ≤ 1000000) (hq : ((L.length : Int) == m) = false) (k : Nat) (e : Int) (he : round_May.f k o ((L.length : Int) + 1) ups = some e) (hz : (e != 0) = true) :
  Calls Tryd.prog 71 #[.pointer (some ⟨g, 0, none⟩), .slice B ups.length c] w fun e_ w' => ∃ A1 c1, e_ = .returned (.tuple #[.agg #[.int .i64 0, .int .i64 0, .slice A1 (([] : List S32)).length c1], .int .i64 e]) ∧ Own N w' [Obj3 138 g o m (L), nrow k32 32 (.slice A1 (([] : List S32)).length c1) (([] : List S32))] ∧ KeepS N w w' := by
 obtain ⟨A0, c0, h2⟩ := Obj3.open_ h (i := 0) rfl
 have HR_0 : Aside0 (Kd.F k32 w N B ups.length ups) := ⟨hr⟩
 have HC := Aside0.mk hc
 have O0 : Aside0 (Own N w [cells g #[.int .i64 o, .int .i64 m, .slice A0 L.length c0] 138, nrow k35 35 (.slice A0 L.length c0) L]) := ⟨h2⟩
 have K0 : Aside0 (KeepS N w w) := ⟨KeepS.refl _ _⟩
 have a0 := k3_ O0 0
 have HE := Aside0.mk he
 clear he
 have hs1 : IntKind.i64.wrap ((L.length : Int) + 1) = (L.length : Int) + 1 := by rw [IntKind.wrap_i64]; omega
 have hs2 : wrap64 ((L.length : Int) + 1) = (L.length : Int) + 1 := by unfold wrap64; omega
 clear h2 h hr hc hL hu
 go_enter Tryd.func71, Tryd.ntmps71
 go_wp2_with (first | ((with_reducible refine gD 4 rfl ?_); refine bP 4 #[.int .i64 0, .int .i64 0, .slice none 0 0] 35 O0.out ?_; intro g1 w1 o_ k_; obtain ⟨O1, K1⟩ := ok_ K0 o_ k_; have HR_1 := Aside0.mk (keepF HR_0.out k_); clear a0 O0 K0 HR_0 o_ k_; have a0 := k3_ O1 0; have a2 := k3_ O1 2))
 refine sP (n := 10) (S := c3_ g (.int .i64 o) (.int .i64 m) (.slice A0 L.length c0)) (ds := []) (p3_ a0) (fun hHeld => ?_)
 obtain ⟨w2, hw_⟩ : ∃ W, W = w1.drew := ⟨_, rfl⟩
 have o_ := O1.out.drew
 have k_ : KeepS N w1 w1.drew := KeepS.drew
 rw [← hw_] at o_ k_ hHeld ⊢
 clear hw_
 obtain ⟨O2, K2⟩ := ok_ K1 o_ k_
 have HR_2 := Aside0.mk (keepF HR_1.out k_)
 clear a0 a2 O1 K1 HR_1 o_ k_
 have a0 := k3_ O2 0
 have a2 := k3_ O2 2
 refine pP 0 (some 8) ?_
 refine pP 1 (some 9) ?_
 refine pP 2 (some 10) ?_
 refine pP 5 (some 13) ?_
 refine pP 6 (some 14) ?_
 refine pP 7 (some 15) ?_
 refine tP 3 (some 11) hHeld ?_
 refine pP 4 (some 12) ?_
 refine tP 8 (some 16) hHeld ?_
 refine pP 9 (some 17) ?_
 refine done_ (by kernel_rfl) ?_
 clear hHeld
 go_wp2
 refine sP (n := 14) (S := c3_ g (.int .i64 o) (.int .i64 m) (.slice A0 L.length c0)) (ds := []) (p3_ a0) (fun hHeld => ?_)
 obtain ⟨w3, hw_⟩ : ∃ W, W = w2.drew := ⟨_, rfl⟩
 have o_ := O2.out.drew
 have k_ : KeepS N w2 w2.drew := KeepS.drew
 rw [← hw_] at o_ k_ hHeld ⊢
 clear hw_
 obtain ⟨O3, K3⟩ := ok_ K2 o_ k_
 have HR_3 := Aside0.mk (keepF HR_2.out k_)
 clear a0 a2 O2 K2 HR_2 o_ k_
 have a0 := k3_ O3 0
 have a2 := k3_ O3 2
 refine pP 0 (some 19) ?_
 refine pP 1 (some 20) ?_
 refine pP 2 (some 21) ?_
 refine pP 4 (some 23) ?_
 refine pP 5 (some 24) ?_
 refine pP 6 (some 25) ?_
 refine pP 10 (some 29) ?_
 refine tP 3 (some 22) hHeld ?_
 refine tP 7 (some 26) hHeld ?_
 refine pP 8 (some 27) ?_
 refine pP 9 (some 28) ?_
 refine pP 11 (some 30) ?_
 refine oP 12 (some 6) (fun K_ hK_ => ?_)
 refine cP #[.int .i64 0, .int .i64 0, .slice none 0 0] 35 O3.out ?_
 intro g4 w4 o_ k_
 obtain ⟨O4, K4⟩ := ok_ K3 o_ k_
 have HR_4 := Aside0.mk (keepF HR_3.out k_)
 clear a0 a2 O3 K3 HR_3 o_ k_
 have a0 := k3_ O4 0
 have a2 := k3_ O4 2
 have a3 := k3_ O4 3
 clear hHeld
 refine hK_.out _ _ (p3_ a0) (fun hHeld => ?_)
 clear hK_ K_
 refine nP ?_
 refine oP 13 none (fun K_ hK_ => ?_)
 refine xS 3 0 [.int .i64 o, .int .i64 ((L.length : Int) + 1), .slice B ups.length c] O4 ?_
 intro w5 o_ k_
 obtain ⟨O5, K5⟩ := ok_ K4 o_ k_
 have HR_5 := Aside0.mk (keepF HR_4.out k_)
 clear a0 a2 a3 O4 K4 HR_4 o_ k_
 have a0 := k3_ O5 0
 have a2 := k3_ O5 2
 have a3 := k3_ O5 3
 clear hHeld
 refine hK_.out _ _ (p3_ a0) (fun hHeld => ?_)
 clear hK_ K_
 refine done_ (by kernel_rfl) ?_
 clear hHeld
 go_wp2_with (first | ((with_reducible refine gC 96 rfl ?_); refine gP (some 32) Tryd.func96 #[.agg #[.int .i64 o, .int .i64 ((L.length : Int) + 1), .slice B ups.length c]] ?_; refine (round_May.calls k _ _ _ _ ups e _ (Kd.F_now HR_5.out) HC.out HE.out).mono ?_; rintro e_ w6 ⟨rfl, hb_⟩; refine ⟨_, rfl, ?_⟩; have o_ := O5.out.below hb_; have k_ := KeepS.of_below (N := N) hb_; obtain ⟨O6, K6⟩ := ok_ K5 o_ k_; have HR_6 := Aside0.mk (keepF HR_5.out k_); clear a0 a2 a3 O5 K5 HR_5 o_ k_ hb_; have a0 := k3_ O6 0; have a2 := k3_ O6 2; have a3 := k3_ O6 3) | ((with_reducible refine gT 35 4 rfl ?_); refine wS 2 0 [.int .i64 0, .int .i64 0, .slice none 0 0] O6 ?_; intro w7 o_ k_; obtain ⟨O7, K7⟩ := ok_ K6 o_ k_; have HR_7 := Aside0.mk (keepF HR_6.out k_); clear a0 a2 a3 O6 K6 HR_6 o_ k_; have a0 := k3_ O7 0; have a2 := k3_ O7 2; have a3 := k3_ O7 3))
 refine bodyPost_ret (results_ct rfl _ _ g1 35 #[.int .i64 0, .int .i64 0, .slice none 0 0] (0, 0) _ rfl (O7.out.blk (i := 2) rfl) Tryd.underlying35 rfl (by kernel_rfl)) rfl ?_
 exact ⟨none, 0, rfl, ((Obj3.shut (i := 0) (j := 1) O7.out rfl rfl (by decide)).take 1).push_emp _ (fun w => Kd.N_nil _ _ _ _ _), K7.out⟩
theorem copy_ok (o n : Int) (ups : List S32) (hu : ups.length ≤ 1000000) : round_Copy.f o n ups = some (o, n, ups) := by
 unfold round_Copy.f api_Update.f
 rw [if_pos (by omega)]
 rfl
theorem Add_ok {N : Nat → Prop} {w : World} {g : Nat} {o m : Int} {L : List S35} (B : Option Addr) (c : Nat) (ups : List S32) (h : Own N w [Obj3 138 g o m L]) (hr : Kd.F k32 w N B ups.length ups) (hc : ups.length ≤ c) (hL : L.length ≤ 1000000) (hu : ups.length ≤ 1000000) (hq : ((L.length : Int) == m) = false) (k : Nat) (he : round_May.f k o ((L.length : Int) + 1) ups = some 0) :
  Calls Tryd.prog 71 #[.pointer (some ⟨g, 0, none⟩), .slice B ups.length c] w fun e_ w' => ∃ A1 c1, e_ = .returned (.tuple #[.agg #[.int .i64 o, .int .i64 ((L.length : Int) + 1), .slice A1 (ups).length c1], .int .i64 0]) ∧ Own N w' [Obj3 138 g o m (L ++ [(⟨o, (L.length : Int) + 1, ups⟩ : S35)]), nrow k32 32 (.slice A1 (ups).length c1) (ups)] ∧ KeepS N w w' := by
 obtain ⟨A0, c0, h2⟩ := Obj3.open_ h (i := 0) rfl
 have HR_0 : Aside0 (Kd.F k32 w N B ups.length ups) := ⟨hr⟩
 have HC := Aside0.mk hc
 have O0 : Aside0 (Own N w [cells g #[.int .i64 o, .int .i64 m, .slice A0 L.length c0] 138, nrow k35 35 (.slice A0 L.length c0) L]) := ⟨h2⟩
 have K0 : Aside0 (KeepS N w w) := ⟨KeepS.refl _ _⟩
 have a0 := k3_ O0 0
 have HE := Aside0.mk he
 clear he
 have hs1 : IntKind.i64.wrap ((L.length : Int) + 1) = (L.length : Int) + 1 := by rw [IntKind.wrap_i64]; omega
 have hs2 : wrap64 ((L.length : Int) + 1) = (L.length : Int) + 1 := by unfold wrap64; omega
 have HL := Aside0.mk hL
 have HCP : Aside0 (round_Copy.f o ((L.length : Int) + 1) ups = some (o, (L.length : Int) + 1, ups)) := ⟨copy_ok _ _ _ hu⟩
 clear h2 h hr hc hL hu
 go_enter Tryd.func71, Tryd.ntmps71
 go_wp2_with (first | ((with_reducible refine gD 4 rfl ?_); refine bP 4 #[.int .i64 0, .int .i64 0, .slice none 0 0] 35 O0.out ?_; intro g1 w1 o_ k_; obtain ⟨O1, K1⟩ := ok_ K0 o_ k_; have HR_1 := Aside0.mk (keepF HR_0.out k_); clear a0 O0 K0 HR_0 o_ k_; have a0 := k3_ O1 0; have a2 := k3_ O1 2))
 refine sP (n := 10) (S := c3_ g (.int .i64 o) (.int .i64 m) (.slice A0 L.length c0)) (ds := []) (p3_ a0) (fun hHeld => ?_)
 obtain ⟨w2, hw_⟩ : ∃ W, W = w1.drew := ⟨_, rfl⟩
 have o_ := O1.out.drew
 have k_ : KeepS N w1 w1.drew := KeepS.drew
 rw [← hw_] at o_ k_ hHeld ⊢
 clear hw_
 obtain ⟨O2, K2⟩ := ok_ K1 o_ k_
 have HR_2 := Aside0.mk (keepF HR_1.out k_)
 clear a0 a2 O1 K1 HR_1 o_ k_
 have a0 := k3_ O2 0
 have a2 := k3_ O2 2
 refine pP 0 (some 8) ?_
 refine pP 1 (some 9) ?_
 refine pP 2 (some 10) ?_
 refine pP 5 (some 13) ?_
 refine pP 6 (some 14) ?_
 refine pP 7 (some 15) ?_
 refine tP 3 (some 11) hHeld ?_
 refine pP 4 (some 12) ?_
 refine tP 8 (some 16) hHeld ?_
 refine pP 9 (some 17) ?_
 refine done_ (by kernel_rfl) ?_
 clear hHeld
 go_wp2
 refine sP (n := 14) (S := c3_ g (.int .i64 o) (.int .i64 m) (.slice A0 L.length c0)) (ds := []) (p3_ a0) (fun hHeld => ?_)
 obtain ⟨w3, hw_⟩ : ∃ W, W = w2.drew := ⟨_, rfl⟩
 have o_ := O2.out.drew
 have k_ : KeepS N w2 w2.drew := KeepS.drew
 rw [← hw_] at o_ k_ hHeld ⊢
 clear hw_
 obtain ⟨O3, K3⟩ := ok_ K2 o_ k_
 have HR_3 := Aside0.mk (keepF HR_2.out k_)
 clear a0 a2 O2 K2 HR_2 o_ k_
 have a0 := k3_ O3 0
 have a2 := k3_ O3 2
 refine pP 0 (some 19) ?_
 refine pP 1 (some 20) ?_
 refine pP 2 (some 21) ?_
 refine pP 4 (some 23) ?_
 refine pP 5 (some 24) ?_
 refine pP 6 (some 25) ?_
 refine pP 10 (some 29) ?_
 refine tP 3 (some 22) hHeld ?_
 refine tP 7 (some 26) hHeld ?_
 refine pP 8 (some 27) ?_
 refine pP 9 (some 28) ?_
 refine pP 11 (some 30) ?_
 refine oP 12 (some 6) (fun K_ hK_ => ?_)
 refine cP #[.int .i64 0, .int .i64 0, .slice none 0 0] 35 O3.out ?_
 intro g4 w4 o_ k_
 obtain ⟨O4, K4⟩ := ok_ K3 o_ k_
 have HR_4 := Aside0.mk (keepF HR_3.out k_)
 clear a0 a2 O3 K3 HR_3 o_ k_
 have a0 := k3_ O4 0
 have a2 := k3_ O4 2
 have a3 := k3_ O4 3
 clear hHeld
 refine hK_.out _ _ (p3_ a0) (fun hHeld => ?_)
 clear hK_ K_
 refine nP ?_
 refine oP 13 none (fun K_ hK_ => ?_)
 refine xS 3 0 [.int .i64 o, .int .i64 ((L.length : Int) + 1), .slice B ups.length c] O4 ?_
 intro w5 o_ k_
 obtain ⟨O5, K5⟩ := ok_ K4 o_ k_
 have HR_5 := Aside0.mk (keepF HR_4.out k_)
 clear a0 a2 a3 O4 K4 HR_4 o_ k_
 have a0 := k3_ O5 0
 have a2 := k3_ O5 2
 have a3 := k3_ O5 3
 clear hHeld
 refine hK_.out _ _ (p3_ a0) (fun hHeld => ?_)
 clear hK_ K_
 refine done_ (by kernel_rfl) ?_
 clear hHeld
 go_wp2_with (first | ((with_reducible refine gC 96 rfl ?_); refine gP (some 32) Tryd.func96 #[.agg #[.int .i64 o, .int .i64 ((L.length : Int) + 1), .slice B ups.length c]] ?_; refine (round_May.calls k _ _ _ _ ups 0 _ (Kd.F_now HR_5.out) HC.out HE.out).mono ?_; rintro e_ w6 ⟨rfl, hb_⟩; refine ⟨_, rfl, ?_⟩; have o_ := O5.out.below hb_; have k_ := KeepS.of_below (N := N) hb_; obtain ⟨O6, K6⟩ := ok_ K5 o_ k_; have HR_6 := Aside0.mk (keepF HR_5.out k_); clear a0 a2 a3 O5 K5 HR_5 o_ k_ hb_; have a0 := k3_ O6 0; have a2 := k3_ O6 2; have a3 := k3_ O6 3))
 refine sP (n := 12) (S := d3_ g (.int .i64 o) (.int .i64 m) (.slice A0 L.length c0) (c3_ g4 (.int .i64 o) (.int .i64 ((L.length : Int) + 1)) (.slice B ups.length c))) (ds := [8, 11]) (j3_ a0 (p3_ a3)) (fun hHeld => ?_)
 obtain ⟨w7, hw_⟩ : ∃ W, W = w6.drew := ⟨_, rfl⟩
 have o_ := O6.out.drew
 have k_ : KeepS N w6 w6.drew := KeepS.drew
 rw [← hw_] at o_ k_ hHeld ⊢
 clear hw_
 obtain ⟨O7, K7⟩ := ok_ K6 o_ k_
 have HR_7 := Aside0.mk (keepF HR_6.out k_)
 clear a0 a2 a3 O6 K6 HR_6 o_ k_
 have a0 := k3_ O7 0
 have a2 := k3_ O7 2
 have a3 := k3_ O7 3
 refine pP 0 (some 37) ?_
 refine pP 1 (some 38) ?_
 refine pP 2 (some 39) ?_
 refine pP 3 (some 40) ?_
 refine tP 4 (some 41) hHeld ?_
 refine tP 5 (some 42) hHeld ?_
 refine oP 6 (some 43) (fun K_ hK_ => ?_)
 refine hP Tryd.func72 #[.agg #[.int .i64 o, .int .i64 ((L.length : Int) + 1), .slice B ups.length c]] ?_
 refine (round_Copy.calls o ((L.length : Int) + 1) _ _ ups o ((L.length : Int) + 1) ups _ (Kd.F_now HR_7.out) HC.out HCP.out).mono ?_
 rintro e_ w8 ⟨v_, rfl, hR_, hb_⟩
 obtain ⟨A1, c1, e__⟩ := Kd.R_slice hR_
 subst e__
 refine ⟨_, rfl, ?_⟩
 have o_ := O7.out.pushR hb_ (Nat.le_refl _) hR_
 have k_ := KeepS.of_below (N := N) hb_
 have o2_ := roundOf ((⟨o, (L.length : Int) + 1, ups⟩ : S35)) (i := 4) o_ rfl
 obtain ⟨O8, K8⟩ := ok_ K7 o2_ k_
 have HR_8 := Aside0.mk (keepF HR_7.out k_)
 clear a0 a2 a3 O7 K7 HR_7 o_ k_ hb_ hR_ o2_
 have a0 := k3_ O8 0
 have a2 := k3_ O8 2
 have a3 := k3_ O8 3
 clear hHeld
 refine hK_.out _ _ (j3_ a0 (p3_ a3)) (fun hHeld => ?_)
 clear hK_ K_
 refine nP ?_
 refine oP 7 (some 44) (fun K_ hK_ => ?_)
 refine value_ rfl rfl (w1 := (World.alloc w8 (.cells [.int .i64 ((⟨o, (L.length : Int) + 1, ups⟩ : S35)).f0, .int .i64 ((⟨o, (L.length : Int) + 1, ups⟩ : S35)).f1, .slice A1 ups.length c1].toArray 35))) (v := .slice (some ⟨w8.heap.size, 0, none⟩) 1 1) gs_ ?_
 clear hHeld
 refine hK_.out _ _ ⟨(pw_cell_below ((Below.refl _ _).alloc (Nat.le_refl _) _) a0.1), (pw_cell_below ((Below.refl _ _).alloc (Nat.le_refl _) _) a0.2.1), (pw_cell_below ((Below.refl _ _).alloc (Nat.le_refl _) _) a0.2.2.1), (pw_cell_below ((Below.refl _ _).alloc (Nat.le_refl _) _) a3.1), (pw_cell_below ((Below.refl _ _).alloc (Nat.le_refl _) _) a3.2.1), (pw_cell_below ((Below.refl _ _).alloc (Nat.le_refl _) _) a3.2.2.1)⟩ (fun hHeld => ?_)
 clear hK_ K_
 refine nP ?_
 refine lP 8 (some 45) (fun K_ hK_ => ?_)
 refine Own.append_step k35 O8.out (i := 1) (j := 4) rfl rfl (by decide) rfl rfl (.tmp 41) (.tmp 44) 40 (.agg #[.int .i64 0, .int .i64 0, .slice none 0 0]) 40 rfl Tryd.underlying40 infoR rfl (by decide) (by decide) rfl rfl (by have := HL.out; omega) ?_
 intro A2 c2 w9 o_ k_
 obtain ⟨O9, K9⟩ := ok_ K8 o_ k_
 have HR_9 := Aside0.mk (keepF HR_8.out k_)
 clear a0 a2 a3 O8 K8 HR_8 o_ k_
 have a0 := k3_ O9 0
 have a2 := k3_ O9 2
 have a3 := k3_ O9 3
 refine hK_.out _ _ ?_
 clear hK_ K_
 refine nP ?_
 refine pP 9 (some 46) ?_
 refine pP 10 (some 47) ?_
 refine lP 11 none (fun K_ hK_ => ?_)
 refine xS 0 2 [.slice A2 (L.length + 1) c2] O9 ?_
 intro w10 o_ k_
 obtain ⟨O10, K10⟩ := ok_ K9 o_ k_
 have HR_10 := Aside0.mk (keepF HR_9.out k_)
 clear a0 a2 a3 O9 K9 HR_9 o_ k_
 have a0 := k3_ O10 0
 have a2 := k3_ O10 2
 have a3 := k3_ O10 3
 refine hK_.out _ _ ?_
 clear hK_ K_
 refine done_ (by kernel_rfl) ?_
 clear hHeld
 go_wp2_with (first | ((with_reducible refine gC 72 rfl ?_); refine gP (some 49) Tryd.func72 #[.agg #[.int .i64 o, .int .i64 ((L.length : Int) + 1), .slice B ups.length c]] ?_; refine (round_Copy.calls o ((L.length : Int) + 1) _ _ ups o ((L.length : Int) + 1) ups _ (Kd.F_now HR_10.out) HC.out HCP.out).mono ?_; rintro e_ w11 ⟨v_, rfl, hR_, hb_⟩; obtain ⟨A3, c3, e__⟩ := Kd.R_slice hR_; subst e__; refine ⟨_, rfl, ?_⟩; have o_ := O10.out.pushR hb_ (Nat.le_refl _) hR_; have k_ := KeepS.of_below (N := N) hb_; obtain ⟨O11, K11⟩ := ok_ K10 o_ k_; have HR_11 := Aside0.mk (keepF HR_10.out k_); clear a0 a2 a3 O10 K10 HR_10 o_ k_ hb_ hR_; have a0 := k3_ O11 0; have a2 := k3_ O11 2; have a3 := k3_ O11 3) | ((with_reducible refine gT 35 4 rfl ?_); refine wS 2 0 [.int .i64 o, .int .i64 ((L.length : Int) + 1), .slice A3 ups.length c3] O11 ?_; intro w12 o_ k_; obtain ⟨O12, K12⟩ := ok_ K11 o_ k_; have HR_12 := Aside0.mk (keepF HR_11.out k_); clear a0 a2 a3 O11 K11 HR_11 o_ k_; have a0 := k3_ O12 0; have a2 := k3_ O12 2; have a3 := k3_ O12 3))
 refine bodyPost_ret (results_ct rfl _ _ g1 35 #[.int .i64 o, .int .i64 ((L.length : Int) + 1), .slice A3 ups.length c3] (0, 0) _ rfl (O12.out.blk (i := 2) rfl) Tryd.underlying35 rfl (by kernel_rfl)) rfl ?_
 exact ⟨A3, c3, rfl, (Obj3.shut (i := 0) (j := 1) O12.out rfl rfl (by decide)).pick2 (a := 0) (b := 5) rfl rfl (by decide), K12.out⟩
end Go.Proofs.YtjdenpmaianmfaaDoor.J
namespace Go.Proofs.YtjdenpmaianmfaaDoor.J
set_option maxHeartbeats 16000000
set_option maxRecDepth 100000
set_option linter.unusedSimpArgs false
set_option linter.unusedVariables false
open Go Go.RowKit Go.Proofs.YtjdenpmaianmfaaDoorW.PrintWords Go.Proofs.YtjdenpmaianmfaaDoorW.PrintLast Go.Proofs.YtjdenpmaianmfaaDoorW.PrintMore Go.Proofs.YtjdenpmaianmfaaDoor.Q Go.Proofs.YtjdenpmaianmfaaDoor.Sep
attribute [local go_sem] max2_int min2_int max_two min_two max_three min_three max_four min_four
def fromL (n : Int) (L : List S35) : List S35 := L.filter fun r => decide (r.f1 > n)
theorem take_snoc {α : Type} (L : List α) (d : α) (x : Int) (h0 : 0 ≤ x) (h1 : x < L.length) : L.take (x + 1).toNat = L.take x.toNat ++ [L.getD x.toNat d] := by
 have e : (x + 1).toNat = x.toNat + 1 := by omega
 have hl : x.toNat < L.length := by omega
 rw [e, List.take_succ_eq_append_getElem hl, List.getD_eq_getElem?_getD, List.getElem?_eq_getElem hl]
 rfl
theorem fromL_yes (n : Int) (L : List S35) (x : Int) (h0 : 0 ≤ x) (h1 : x < L.length) (h : (rd_T35 L x).f1 > n) : fromL n (L.take (x + 1).toNat) = fromL n (L.take x.toNat) ++ [rd_T35 L x] := by
 unfold fromL
 rw [take_snoc L z35 x h0 h1, List.filter_append]
 congr 1
 have : decide ((rd_T35 L x).f1 > n) = true := decide_eq_true h
 unfold rd_T35 at this ⊢
 rw [List.filter_cons, this]
 rfl
theorem fromL_no (n : Int) (L : List S35) (x : Int) (h0 : 0 ≤ x) (h1 : x < L.length) (h : ¬ (rd_T35 L x).f1 > n) : fromL n (L.take (x + 1).toNat) = fromL n (L.take x.toNat) := by
 unfold fromL
 rw [take_snoc L z35 x h0 h1, List.filter_append]
 have : decide ((rd_T35 L x).f1 > n) = false := decide_eq_false h
 unfold rd_T35 at this
 rw [List.filter_cons, this]
 simp
theorem fromL_len (n : Int) (L : List S35) : (fromL n L).length ≤ L.length := List.length_filter_le _ _
theorem slice_len {A : Option Addr} {n m c : Nat} (h : n = m) : Value.slice A n c = .slice A m c := by rw [h]
theorem int_eq {a b : Int} (h : a = b) : Value.int .i64 a = .int .i64 b := by rw [h]
def FromJ (N : Nat → Prop) (w : World) (g : Nat) (o m n : Int) (L : List S35) (A0 : Option Addr) (c0 : Nat) (v i : Value) (wr : World) : Prop := ∃ (x : Int) (A2 : Option Addr) (c2 : Nat), 0 ≤ x ∧ x ≤ (L.length : Int) ∧ i = .int .i64 x ∧ v = .slice A2 (fromL n (L.take x.toNat)).length c2 ∧ Aside0 (Own N wr [cells g #[.int .i64 o, .int .i64 m, .slice A0 L.length c0] 138, emp, row k35 35 (.slice A2 (fromL n (L.take x.toNat)).length c2) (fromL n (L.take x.toNat))]) ∧ Aside0 (KeepS N w wr)
theorem FromR {N : Nat → Prop} {w : World} {g : Nat} {o m : Int} {L : List S35} (n : Int) (h : Own N w [Obj3 138 g o m L]) (hL : L.length ≤ 1000000) (HU : Aside0 (∀ x : Int, 0 ≤ x → x < L.length → (rd_T35 L x).f2.length ≤ 1000000)) :
  Calls Tryd.prog 73 #[.pointer (some ⟨g, 0, none⟩), .int .i64 n] w fun e_ w' => ∃ A1 c1, e_ = .returned (.slice A1 (fromL n L).length c1) ∧ Own N w' [Obj3 138 g o m L, row k35 35 (.slice A1 (fromL n L).length c1) (fromL n L)] ∧ KeepS N w w' := by
 obtain ⟨A0, c0, h2⟩ := Obj3.open_ h (i := 0) rfl
 obtain ⟨N1, h3, hn1, hF, hback⟩ := h2.hide (i := 1) rfl
 have HRL0 : Aside0 (Kd.F k35 w N1 A0 L.length L) := ⟨Kd.N_F hF⟩
 have HBACK := Aside0.mk hback
 have HL := Aside0.mk hL
 have O0 : Aside0 (Own N1 w [cells g #[.int .i64 o, .int .i64 m, .slice A0 L.length c0] 138, emp, row k35 35 (.slice none 0 0) []]) := ⟨h3.push_emp (row k35 35 (.slice none 0 0) []) (fun w => Kd.R_nil _ _ _ _ _)⟩
 have K0 : Aside0 (KeepS N1 w w) := ⟨KeepS.refl _ _⟩
 have a0 := k3_ O0 0
 clear h h2 h3 hn1 hF hback
 go_enter Tryd.func73, Tryd.ntmps73
 go_wp2
 go_loopw [5, 13] (fun v i wr => FromJ N1 w g o m n L A0 c0 v i wr) (fun _ i _ => L.length - (intOf i).toNat)
 case atStart => exact ⟨0, none, 0, by omega, by omega, rfl, rfl, O0, K0⟩
 case round =>
  clear a0 hL
  obtain ⟨x, A2, c2, hx0, hx1, rfl, rfl, OA, KA⟩ := hrel
  have hF2 := keepF HRL0.out KA.out
  by_cases hlt : x < (L.length : Int)
  ·obtain ⟨ad, A3, c3, e3, x0, x1, x2, hl3, hF3⟩ := at_F hF2 x hx0 hlt
   cases e3
   have HC3 := Aside0.mk hl3
   have hLx := HL.out
   have hs2 : wrap64 (x + 1) = x + 1 := by unfold wrap64; omega
   have hp := eq_true hx0
   have hq := eq_true hlt
   have hd : decide (x < (L.length : Int)) = true := decide_eq_true hlt
   have HX := Aside0.mk (And.intro hx0 hlt)
   skip
   have HF3 := Aside0.mk hF3
   clear hF3 hF2 hl3 hLx
   have O1 : Aside0 (Own N1 wr [cells g #[.int .i64 o, .int .i64 m, .slice (some ad) L.length c0] 138, emp, row k35 35 (.slice A2 (fromL n (L.take x.toNat)).length c2) (fromL n (L.take x.toNat))]) := ⟨OA.out⟩
   have K1 : Aside0 (KeepS N1 w wr) := ⟨KA.out⟩
   have HRI_1 : Aside0 (Kd.F k32 wr N1 A3 (rd_T35 L x).f2.length (rd_T35 L x).f2) := ⟨HF3.out⟩
   have a0 := k3_ O1 0
   clear OA KA HF3
   by_cases hg : (rd_T35 L x).f1 > n
   ·have hgd : decide ((rd_T35 L x).f1 > n) = true := decide_eq_true hg
    have hgd2 : decide (n < (rd_T35 L x).f1) = true := hgd
    have HS : Aside0 (fromL n (L.take (x + 1).toNat) = (fromL n (L.take x.toNat)) ++ [(rd_T35 L x)]) := ⟨fromL_yes n L x hx0 hlt hg⟩
    have HFL : Aside0 ((fromL n (L.take x.toNat)).length ≤ 1000000) := ⟨Nat.le_trans (fromL_len _ _) (Nat.le_trans (by rw [List.length_take]; exact Nat.min_le_right _ _) HL.out)⟩
    clear hg
    have HCP : Aside0 ((rd_T35 L x).f2.length ≤ 1000000) := ⟨HU.out x hx0 hlt⟩
    go_wp2_with (first | ((with_reducible refine gD 7 rfl ?_); refine bP 7 #[.int .i64 0, .int .i64 0, .slice none 0 0] 35 O1.out ?_; intro g2 w2 o_ k_; obtain ⟨O2, K2⟩ := ok_ K1 o_ k_; have HRI_2 := Aside0.mk (keepF HRI_1.out k_); clear a0 O1 K1 HRI_1 o_ k_; have a0 := k3_ O2 0; have a3 := k3_ O2 3) | ((with_reducible refine gT 35 7 rfl ?_); refine wS 3 0 [.int .i64 (rd_T35 L x).f0, .int .i64 (rd_T35 L x).f1, .slice A3 (rd_T35 L x).f2.length c3] O2 ?_; intro w3 o_ k_; obtain ⟨O3, K3⟩ := ok_ K2 o_ k_; have HRI_3 := Aside0.mk (keepF HRI_2.out k_); clear a0 a3 O2 K2 HRI_2 o_ k_; have a0 := k3_ O3 0; have a3 := k3_ O3 3) | ((with_reducible refine gC 72 rfl ?_); refine gP (some 23) Tryd.func72 #[.agg #[.int .i64 (rd_T35 L x).f0, .int .i64 (rd_T35 L x).f1, .slice A3 (rd_T35 L x).f2.length c3]] ?_; refine (round_Copy.calls (rd_T35 L x).f0 (rd_T35 L x).f1 _ _ (rd_T35 L x).f2 (rd_T35 L x).f0 (rd_T35 L x).f1 (rd_T35 L x).f2 _ (Kd.F_now HRI_3.out) HC3.out (copy_ok _ _ _ HCP.out)).mono ?_; rintro e_ w4 ⟨v_, rfl, hR_, hb_⟩; obtain ⟨A4, c4, e__⟩ := Kd.R_slice hR_; subst e__; refine ⟨_, rfl, ?_⟩; have o_ := O3.out.pushW hb_ (Nat.le_refl _) hR_; have k_ := KeepS.of_below (N := N1) hb_; obtain ⟨O4, K4⟩ := ok_ K3 o_ k_; have HRI_4 := Aside0.mk (keepF HRI_3.out k_); clear a0 a3 O3 K3 HRI_3 o_ k_ hb_ hR_; have a0 := k3_ O4 0; have a3 := k3_ O4 3; have O5 : Aside0 (Own N1 w4 [cells g #[.int .i64 o, .int .i64 m, .slice (some ad) L.length c0] 138, emp, row k35 35 (.slice A2 (fromL n (L.take x.toNat)).length c2) (fromL n (L.take x.toNat)), cells g2 #[.int .i64 (rd_T35 L x).f0, .int .i64 (rd_T35 L x).f1, .slice A3 (rd_T35 L x).f2.length c3] 35, elem k35 (rd_T35 L x) [.int .i64 (rd_T35 L x).f0, .int .i64 (rd_T35 L x).f1, .slice A4 (rd_T35 L x).f2.length c4]]) := ⟨rowElem (rd_T35 L x) (i := 4) O4.out rfl⟩; clear O4) | ((with_reducible refine gate_builtin (b := .append) (xs := #[.tmp 21, .tmp 24]) rfl ?_); at_builtin; refine Own.appendR k35 O5.out (i := 2) (j := 4) rfl rfl (by decide) rfl (.tmp 21) (.tmp 24) 40 (.agg #[.int .i64 0, .int .i64 0, .slice none 0 0]) 40 rfl Tryd.underlying40 infoR rfl (by decide) (by decide) rfl rfl (by have := HFL.out; omega) ?_; intro A5 c5 w6 o_ k_; obtain ⟨O6, K6⟩ := ok_ K4 o_ k_; have HRI_6 := Aside0.mk (keepF HRI_4.out k_); clear a0 a3 O5 K4 HRI_4 o_ k_; have a0 := k3_ O6 0; have a3 := k3_ O6 3))
    go_roundw
    case rel => exact ⟨x + 1, A5, c5, by have := HX.out; omega, by have := HX.out; omega, int_eq (by unfold wrap64; have := HX.out; have := HL.out; omega), slice_len (by rw [HS.out]; simp), ⟨by rw [HS.out]; simp only [List.length_append, List.length_singleton]; exact O6.out.take 3⟩, K6⟩
    case measure => have := HX.out; simp [intOf]; omega
   ·have hgd : decide ((rd_T35 L x).f1 > n) = false := decide_eq_false hg
    have hgd2 : decide (n < (rd_T35 L x).f1) = false := hgd
    have HS : Aside0 (fromL n (L.take (x + 1).toNat) = (fromL n (L.take x.toNat))) := ⟨fromL_no n L x hx0 hlt hg⟩
    have HFL : Aside0 ((fromL n (L.take x.toNat)).length ≤ 1000000) := ⟨Nat.le_trans (fromL_len _ _) (Nat.le_trans (by rw [List.length_take]; exact Nat.min_le_right _ _) HL.out)⟩
    clear hg
    have HCP : Aside0 ((rd_T35 L x).f2.length ≤ 1000000) := ⟨HU.out x hx0 hlt⟩
    go_wp2_with (first | ((with_reducible refine gD 7 rfl ?_); refine bP 7 #[.int .i64 0, .int .i64 0, .slice none 0 0] 35 O1.out ?_; intro g2 w2 o_ k_; obtain ⟨O2, K2⟩ := ok_ K1 o_ k_; have HRI_2 := Aside0.mk (keepF HRI_1.out k_); clear a0 O1 K1 HRI_1 o_ k_; have a0 := k3_ O2 0; have a3 := k3_ O2 3) | ((with_reducible refine gT 35 7 rfl ?_); refine wS 3 0 [.int .i64 (rd_T35 L x).f0, .int .i64 (rd_T35 L x).f1, .slice A3 (rd_T35 L x).f2.length c3] O2 ?_; intro w3 o_ k_; obtain ⟨O3, K3⟩ := ok_ K2 o_ k_; have HRI_3 := Aside0.mk (keepF HRI_2.out k_); clear a0 a3 O2 K2 HRI_2 o_ k_; have a0 := k3_ O3 0; have a3 := k3_ O3 3))
    go_roundw
    case rel => exact ⟨x + 1, A2, c2, by have := HX.out; omega, by have := HX.out; omega, int_eq (by unfold wrap64; have := HX.out; have := HL.out; omega), slice_len (by rw [HS.out]), ⟨by rw [HS.out]; exact O3.out.take 3⟩, K3⟩
    case measure => have := HX.out; simp [intOf]; omega
  ·have hxe : x = (L.length : Int) := by omega
   subst hxe
   have hd : decide ((L.length : Int) < (L.length : Int)) = false := decide_eq_false (Int.lt_irrefl _)
   have HT : Aside0 (L.take ((L.length : Int)).toNat = L) := ⟨by rw [Int.toNat_natCast, List.take_length]⟩
   clear hlt hx0 hx1 hF2
   go_wp2
   go_ret
   obtain ⟨hb, hk⟩ := HBACK.out _ _ (by simp) KA.out OA.out
   refine ⟨A2, c2, by first | rfl | (rw [HT.out]; done) | (simp only [HT.out]; done) | simp [HT.out], ?_, hk⟩
   rw [HT.out] at hb
   exact (Obj3.shut (i := 0) (j := 1) hb rfl rfl (by decide)).pick2 (a := 0) (b := 2) rfl rfl (by decide)
end Go.Proofs.YtjdenpmaianmfaaDoor.J
namespace Go.Proofs.YtjdenpmaianmfaaDoor.J
set_option linter.unusedSimpArgs false
set_option linter.unusedVariables false
open Go Go.RowKit Go.Proofs.YtjdenpmaianmfaaDoorW.PrintWords Go.Proofs.YtjdenpmaianmfaaDoorW.PrintLast Go.Proofs.YtjdenpmaianmfaaDoorW.PrintMore Go.Proofs.YtjdenpmaianmfaaDoor.Q Go.Proofs.YtjdenpmaianmfaaDoor.Sep Go.Proofs.YtjdenpmaianmfaaDoor.Pure
def addE (o m : Int) (L : List Rnd) (ups : List Upd) : Int := if (L.length : Int) = m then 8 else mayR o (L.length + 1) ups
def addR (o m : Int) (L : List Rnd) (ups : List Upd) : Rnd := if addE o m L ups = 0 then ⟨o, L.length + 1, ups⟩ else z35
def addL (o m : Int) (L : List Rnd) (ups : List Upd) : List Rnd := if addE o m L ups = 0 then L ++ [⟨o, L.length + 1, ups⟩] else L
theorem mayR_len {o n : Int} {l : List Upd} (h : mayR o n l = 0) : l.length ≤ 8 := by
 unfold mayR at h
 split at h
 ·cases h
 ·omega
theorem rd_snoc (L : List Rnd) (r : Rnd) (x : Int) (h0 : 0 ≤ x) (h1 : x < (L ++ [r]).length) : rd_T35 (L ++ [r]) x = if x < L.length then rd_T35 L x else r := by
 rw [List.length_append, List.length_singleton] at h1
 unfold rd_T35
 rw [List.getD_eq_getElem?_getD, List.getD_eq_getElem?_getD]
 split
 ·rw [List.getElem?_append_left (by omega)]
 ·rw [List.getElem?_append_right (by omega), show x.toNat - L.length = 0 by omega]
  rfl
theorem Add {N : Nat → Prop} {w : World} {g : Nat} {o m : Int} {L : List Rnd} (B : Option Addr) (c : Nat) (ups : List Upd) (h : Own N w [Obj3 138 g o m L]) (hr : Kd.F k32 w N B ups.length ups) (hc : ups.length ≤ c) (hL : L.length ≤ 1000000) (hu : ups.length ≤ 1000000) :
  Calls Tryd.prog 71 #[.pointer (some ⟨g, 0, none⟩), .slice B ups.length c] w fun e_ w' => ∃ A1 c1, e_ = .returned (.tuple #[.agg #[.int .i64 (addR o m L ups).f0, .int .i64 (addR o m L ups).f1, .slice A1 (addR o m L ups).f2.length c1], .int .i64 (addE o m L ups)]) ∧
   Own N w' [Obj3 138 g o m (addL o m L ups), nrow k32 32 (.slice A1 (addR o m L ups).f2.length c1) (addR o m L ups).f2] ∧ KeepS N w w' := by
 by_cases h1 : (L.length : Int) = m
 ·have e : addE o m L ups = 8 := by unfold addE; rw [if_pos h1]
  have e2 : addR o m L ups = z35 := by unfold addR; rw [e]; rfl
  have e3 : addL o m L ups = L := by unfold addL; rw [e]; rfl
  rw [e, e2, e3]
  exact Add_full B c ups h hr hc hL hu (beq_iff_eq.2 h1)
 have e0 : addE o m L ups = mayR o (L.length + 1) ups := by unfold addE; rw [if_neg h1]
 by_cases h2 : mayR o (L.length + 1) ups = 0
 ·have e2 : addR o m L ups = ⟨o, L.length + 1, ups⟩ := by unfold addR; rw [e0, if_pos h2]
  have e3 : addL o m L ups = L ++ [⟨o, L.length + 1, ups⟩] := by unfold addL; rw [e0, if_pos h2]
  rw [e0, e2, e3, h2]
  exact Add_ok B c ups h hr hc hL hu (beq_eq_false_iff_ne.2 h1) 20 (by rw [pmay 0, h2])
 ·have e2 : addR o m L ups = z35 := by unfold addR; rw [e0, if_neg h2]
  have e3 : addL o m L ups = L := by unfold addL; rw [e0, if_neg h2]
  rw [e0, e2, e3]
  exact Add_no B c ups h hr hc hL hu (beq_eq_false_iff_ne.2 h1) 20 _ (pmay 0 _ _ _) (by rw [bne_iff_ne]; exact h2)
end Go.Proofs.YtjdenpmaianmfaaDoor.J
