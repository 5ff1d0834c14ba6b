/- The law ClientWaits: a round of another one stands behind all that is known, and ahead of what is pending; what is handed in, and told, is one's own -/
import Derived.Test.YtjdenpmaianmfaaDoorYClientWaitsSq
import Derived.Test.YtjdenpmaianmfaaDoorYClientWaitsDo1
import Derived.Test.YtjdenpmaianmfaaDoorProg
import Derived.Test.YtjdenpmaianmfaaDoorYClientWaitsRM
import Derived.Test.YtjdenpmaianmfaaDoorYClientWaitsSpell
import Derived.Test.YtjdenpmaianmfaaDoorYClientWaitsQ10
import Derived.Test.YtjdenpmaianmfaaDoorYClientWaitsKy0
import Derived.Test.YtjdenpmaianmfaaDoorYClientWaitsRAp4
import Derived.Test.YtjdenpmaianmfaaDoorYClientWaitsSz
import Derived.Test.YtjdenpmaianmfaaDoorYClientWaitsSt
namespace Go.Proofs.YtjdenpmaianmfaaDoor.J
set_option maxHeartbeats 16000000
set_option maxRecDepth 100000
set_option linter.unusedSimpArgs false
set_option linter.unusedVariables false
open Go Go.RowKit Go.Proofs.YtjdenpmaianmfaaDoorW.PrintWords Go.Proofs.YtjdenpmaianmfaaDoorW.PrintLast Go.Proofs.YtjdenpmaianmfaaDoorW.PrintMore Go.Proofs.YtjdenpmaianmfaaDoor.Q Go.Proofs.YtjdenpmaianmfaaDoor.Sep Go.Proofs.YtjdenpmaianmfaaDoor.Pure
theorem DNew_a {N : Nat → Prop} {w : World} {gj : Nat} {jo jm : Int} {AJ : Option Addr} {cJ : Nat} {rJ : List (List Value)} (o mtu a3 pp : Int) (hW : mn (mx a3 1) 16 = pp) (h : Own N w [cells gj (jrC jo jm (.slice AJ rJ.length cJ)) tDJ, nrow (Kd.raw 3) tR7 (.slice AJ rJ.length cJ) rJ]) (hL : rJ.length ≤ 1000000) :
  Calls Tryd.prog 54 #[pt gj, .int .i64 o, .int .i64 mtu, .int .i64 a3] w fun e w' => ∃ g A5 c5, e = .returned (pt g) ∧ Own N w' [cells gj (jrC jo jm (.slice AJ rJ.length cJ)) tDJ, nrow (Kd.raw 3) tR7 (.slice AJ rJ.length cJ) rJ, cells g (cliC (pt gj) o mtu pp (.slice none 0 0) (.slice A5 rJ.length c5) (.slice none 0 0)) tDC, nrow (Kd.raw 3) tR7 (.slice A5 rJ.length c5) rJ] ∧ KeepS N w w' := by
 subst hW
 by_cases h1 : a3 < 1
 ·rw [show mn (mx a3 1) 16 = 1 by unfold mn mx; (repeat' split) <;> omega]
  exact DNew_low o mtu a3 h hL h1
 by_cases h2 : 16 < a3
 ·rw [show mn (mx a3 1) 16 = 16 by unfold mn mx; (repeat' split) <;> omega]
  exact DNew_high o mtu a3 h hL h2
 ·rw [show mn (mx a3 1) 16 = a3 by unfold mn mx; (repeat' split) <;> omega]
  exact DNew_mid o mtu a3 h hL (by omega) (by omega)
theorem ODNew {N : Nat → Prop} {w : World} {gj : Nat} {jo jm : Int} (o mtu a3 pp : Int) (hW : mn (mx a3 1) 16 = pp) (h : Own N w [cells gj (jrC jo jm (.slice none 0 0)) tDJ]) :
  Calls Tryd.prog 54 #[pt gj, .int .i64 o, .int .i64 mtu, .int .i64 a3] w fun e w' => ∃ g, e = .returned (pt g) ∧ Own N w' [DocO gj g jo jm o mtu pp [] [] [] []] ∧ KeepS N w w' := by
 have h2 := h.push_emp (nrow (Kd.raw 3) tR7 (.slice none 0 0) []) (fun w => Kd.N_nil _ _ _ _ _)
 refine (DNew_a (rJ := []) (AJ := none) (cJ := 0) o mtu a3 pp hW h2 (by decide)).mono ?_
 rintro e_ w' ⟨g, A5, c5, a, b, k⟩
 exact ⟨g, a, (DocO.shut (((b.push_emp (nrow (Kd.raw 3) tR7 (.slice none 0 0) []) (fun w => Kd.N_nil _ _ _ _ _)).push_emp (nrow kU7 tU7 (.slice none 0 0) []) (fun w => Kd.N_nil _ _ _ _ _)).pickL [0, 1, 2, 4, 3, 5] (by decide) (by simp))).take 1, k⟩
theorem CNew_0 {N : Nat → Prop} {w : World} {gj : Nat} {jo jm : Int} (o mtu a3 pp : Int) (hW : mn (mx a3 1) 16 = pp) (h : Own N w [Obj3 138 gj jo jm []]) :
  Calls Tryd.prog 53 #[pt gj, .int .i64 o, .int .i64 mtu, .int .i64 a3] w fun e_ w' => ∃ g, e_ = .returned (pt g) ∧ Own N w' [Obj3 138 gj jo jm [], CliO g (pt gj) o mtu pp [] [] []] ∧ KeepS N w w' :=
 CNew o mtu a3 pp hW h (by decide) ⟨fun x h0 h1 => by simp at h1; omega⟩ num_nil
theorem JNew_e {N : Nat → Prop} {w : World} (o m mm : Int) (hm : mn (mx m 1) 1099511627776 = mm) (h : Own N w []) :
  Calls Tryd.prog 52 #[.int .i64 o, .int .i64 m] w fun e w' => ∃ g, e = .returned (pt g) ∧ Own N w' [Obj3 138 g o mm []] ∧ KeepS N w w' := by
 subst hm
 exact New o m h
theorem DJNew_e {N : Nat → Prop} {w : World} (o m mm : Int) (hm : mn (mx m 1) 1099511627776 = mm) (h : Own N w []) :
  Calls Tryd.prog 55 #[.int .i64 o, .int .i64 m] w fun e w' => ∃ g, e = .returned (pt g) ∧ Own N w' [cells g (jrC o mm (.slice none 0 0)) tDJ] ∧ KeepS N w w' := by
 subst hm
 exact DJNew o m h
theorem Made {N : Nat → Prop} {w : World} (x0 x1 x2 x3 : Int) (h : Own N w []) :
  Calls Tryd.prog 15 #[.agg #[.int .i64 x0, .int .i64 x1, .int .i64 x2, .int .i64 x3]] w fun e_ w' => ∃ g gp gj gd, e_ = .returned (.agg #[pt g, pt gd]) ∧ Own N w' [CliO g (pt gp) x0 x1 (mn (mx x2 1) 16) [] [] [], Obj3 138 gp x0 (mn (mx x3 1) 1099511627776) [], DocO gj gd x0 (mn (mx x3 1) 1099511627776) x0 x1 (mn (mx x2 1) 16) [] [] [] []] ∧ KeepS N w w' := by
 obtain ⟨pp, hpp⟩ : ∃ p, mn (mx x2 1) 16 = p := ⟨_, rfl⟩
 obtain ⟨mm, hmm⟩ : ∃ m, mn (mx x3 1) 1099511627776 = m := ⟨_, rfl⟩
 have HPP := Aside0.mk hpp
 have HMM := Aside0.mk hmm
 have O0 : Aside0 (Own N w []) := ⟨h⟩
 have K0 : Aside0 (KeepS N w w) := ⟨KeepS.refl _ _⟩
 clear h hpp hmm
 go_enter Tryd.func15, Tryd.ntmps15
 go_wp2_with (first | ((with_reducible refine gD 1 rfl ?_); refine bP 1 #[.int .i64 x0, .int .i64 x1, .int .i64 x2, .int .i64 x3] 22 O0.out ?_; intro gx w1 o_ k_; obtain ⟨O1, K1⟩ := ok_ K0 o_ k_; clear O0 K0 o_ k_; have a0 := k4_ O1 0) | ((with_reducible refine gD 2 rfl ?_); refine bP 2 #[.pointer none, .pointer none] 27 O1.out ?_; intro gk w2 o_ k_; obtain ⟨O2, K2⟩ := ok_ K1 o_ k_; clear a0 O1 K1 o_ k_; have a0 := k4_ O2 0; have a1 := k2_ O2 1) | ((with_reducible refine gC 52 rfl ?_); refine gP (some 8) Tryd.func52 #[.int .i64 x0, .int .i64 x3] ?_; obtain ⟨N_, on_, nn_, rr_, bb_⟩ := O2.out.frame0; refine (JNew_e x0 x3 mm HMM.out on_).mono ?_; rintro e_ w3 ⟨gp, rfl, oo_, kk_⟩; obtain ⟨o_, k_⟩ := bb_ _ _ kk_ oo_; refine ⟨_, rfl, ?_⟩; obtain ⟨O3, K3⟩ := ok_ K2 o_ k_; clear a0 a1 O2 K2 o_ k_ oo_ kk_ on_ nn_ rr_ bb_; have a0 := k4_ O3 0; have a1 := k2_ O3 1))
 refine sP (n := 22) (S := c4_ gx (.int .i64 x0) (.int .i64 x1) (.int .i64 x2) (.int .i64 x3)) (ds := [21]) (p4_ a0) (fun hHeld => ?_)
 obtain ⟨w4, hw_⟩ : ∃ W, W = w3.drew := ⟨_, rfl⟩
 have o_ := O3.out.drew
 have k_ : KeepS N w3 w3.drew := KeepS.drew
 rw [← hw_] at o_ k_ hHeld ⊢
 clear hw_
 obtain ⟨O4, K4⟩ := ok_ K3 o_ k_
 clear a0 a1 O3 K3 o_ k_
 have a0 := k4_ O4 0
 have a1 := k2_ O4 1
 refine pP 0 (some 12) ?_
 refine pP 1 (some 13) ?_
 refine pP 3 (some 15) ?_
 refine pP 5 (some 17) ?_
 refine pP 8 (some 20) ?_
 refine pP 10 (some 22) ?_
 refine pP 13 (some 25) ?_
 refine pP 15 (some 27) ?_
 refine pP 17 (some 29) ?_
 refine tP 2 (some 14) hHeld ?_
 refine tP 4 (some 16) hHeld ?_
 refine tP 6 (some 18) hHeld ?_
 refine tP 9 (some 21) hHeld ?_
 refine tP 11 (some 23) hHeld ?_
 refine tP 14 (some 26) hHeld ?_
 refine tP 16 (some 28) hHeld ?_
 refine tP 18 (some 30) hHeld ?_
 refine oP 7 (some 19) (fun K_ hK_ => ?_)
 refine hP Tryd.func53 #[pt gp, .int .i64 x0, .int .i64 x1, .int .i64 x2] ?_
 obtain ⟨N_, on_, nn_, rr_, bb_⟩ := O4.out.frame1 (i := 2) rfl
 refine (CNew_0 x0 x1 x2 pp HPP.out on_).mono ?_
 rintro e_ w5 ⟨g, rfl, oo_, kk_⟩
 obtain ⟨o_, k_⟩ := bb_ _ _ _ kk_ oo_
 refine ⟨_, rfl, ?_⟩
 obtain ⟨O5, K5⟩ := ok_ K4 o_ k_
 clear a0 a1 O4 K4 o_ k_ oo_ kk_ on_ nn_ rr_ bb_
 have a0 := k4_ O5 0
 have a1 := k2_ O5 1
 clear hHeld
 refine hK_.out _ _ (p4_ a0) (fun hHeld => ?_)
 clear hK_ K_
 refine nP ?_
 refine oP 12 (some 24) (fun K_ hK_ => ?_)
 refine hP Tryd.func55 #[.int .i64 x0, .int .i64 x3] ?_
 obtain ⟨N_, on_, nn_, rr_, bb_⟩ := O5.out.frame0
 refine (DJNew_e x0 x3 mm HMM.out on_).mono ?_
 rintro e_ w6 ⟨gj, rfl, oo_, kk_⟩
 obtain ⟨o_, k_⟩ := bb_ _ _ kk_ oo_
 refine ⟨_, rfl, ?_⟩
 obtain ⟨O6, K6⟩ := ok_ K5 o_ k_
 clear a0 a1 O5 K5 o_ k_ oo_ kk_ on_ nn_ rr_ bb_
 have a0 := k4_ O6 0
 have a1 := k2_ O6 1
 clear hHeld
 refine hK_.out _ _ (p4_ a0) (fun hHeld => ?_)
 clear hK_ K_
 refine nP ?_
 refine oP 19 (some 31) (fun K_ hK_ => ?_)
 refine hP Tryd.func54 #[pt gj, .int .i64 x0, .int .i64 x1, .int .i64 x2] ?_
 obtain ⟨N_, on_, nn_, rr_, bb_⟩ := O6.out.frame1 (i := 4) rfl
 refine (ODNew x0 x1 x2 pp HPP.out on_).mono ?_
 rintro e_ w7 ⟨gd, rfl, oo_, kk_⟩
 obtain ⟨o_, k_⟩ := bb_ _ _ _ kk_ oo_
 refine ⟨_, rfl, ?_⟩
 obtain ⟨O7, K7⟩ := ok_ K6 o_ k_
 clear a0 a1 O6 K6 o_ k_ oo_ kk_ on_ nn_ rr_ bb_
 have a0 := k4_ O7 0
 have a1 := k2_ O7 1
 clear hHeld
 refine hK_.out _ _ (p4_ a0) (fun hHeld => ?_)
 clear hK_ K_
 refine nP ?_
 refine pP 20 (some 32) ?_
 refine lP 21 none (fun K_ hK_ => ?_)
 refine xS 1 0 [pt g, pt gd] O7 ?_
 intro w8 o_ k_
 obtain ⟨O8, K8⟩ := ok_ K7 o_ k_
 clear a0 a1 O7 K7 o_ k_
 have a0 := k4_ O8 0
 have a1 := k2_ O8 1
 refine hK_.out _ _ ?_
 clear hK_ K_
 refine done_ (by kernel_rfl) ?_
 clear hHeld
 go_wp2
 refine bodyPost_ret (results_cell_row rfl _ _ gk 27 #[pt g, pt gd] (0, 0) _ rfl (O8.out.blk (i := 1) rfl) Tryd.underlying27 rfl (by kernel_rfl)) rfl ?_
 rw [HPP.out, HMM.out]
 exact ⟨g, gp, gj, gd, rfl, O8.out.pickL [3, 2, 4] (by decide) (by simp), K8.out⟩
theorem raw3_at {w : World} {A : Option Addr} {n : Nat} {rows : List (List Value)} {p0 p1 : Int} {pv : Value} (h : Kd.C (Kd.raw 3) w A n rows) (hh : rows[0]? = some (rw3 p0 p1 pv)) : ∃ ad, A = some ad ∧ w.cell? ad = some (.int .i64 p0) ∧ w.cell? ⟨ad.block, ad.off + 1, none⟩ = some (.int .i64 p1) ∧ w.cell? ⟨ad.block, ad.off + 2, none⟩ = some pv := by
 have hl : 0 < rows.length := (List.getElem?_eq_some_iff.1 hh).1
 have hn : n = rows.length := h.1.symm
 obtain ⟨ad, c, e, hcl, hk, hc⟩ := ReadsRow.get_ h ([] : List Value) 0 (by omega) (by omega)
 have e0 : rows.getD ((0 : Int).toNat) ([] : List Value) = rw3 p0 p1 pv := by
  show rows.getD 0 [] = _
  rw [List.getD_eq_getElem?_getD, hh]
  rfl
 rw [e0] at hk
 have hc1 : c = rw3 p0 p1 pv := hk.1
 subst hc1
 have e1 : ad.add ((0 : Int).toNat * 3) = ad := by
  show ad.add 0 = ad
  simp [Addr.add]
 have e2 : (Kd.raw 3).sz = 3 := rfl
 have q0 := hc 0 (.int .i64 p0) rfl
 have q1 := hc 1 (.int .i64 p1) rfl
 have q2 := hc 2 pv rfl
 rw [add_field _ _ 1 (by omega), e2, e1] at q1
 rw [add_field _ _ 2 (by omega), e2, e1] at q2
 rw [e2, Nat.add_zero, e1] at q0
 exact ⟨ad, e, q0, q1, q2⟩
theorem Lead.firstF {N : Nat → Prop} {w : World} {rows : List (List Value)} {xs : List Rnd7} {p : Rnd7} {A : Option Addr} {c : Nat} (h : Lead N w rows xs) (hp : xs.length ≠ 0) (hh : rows[0]? = some (rw3 (rd_T35 xs 0).f0 (rd_T35 xs 0).f1 (.slice A p.f2.length c))) (he : rd_T35 xs 0 = p) : Kd.F kU7 w N A p.f2.length p.f2 := by
 obtain ⟨A', c', e, _, hF⟩ := h.first hp
 rw [e] at hh
 injection hh with hh
 injection hh with _ hh
 injection hh with _ hh
 injection hh with hh _
 injection hh with h1 _ h2
 subst h1
 rw [he] at hF
 exact hF
section
variable {N : Nat → Prop} {w : World} {g gj gd gp : Nat} {jp : Value} {jo jm o mtu push : Int} {rJ rK rP : List (List Value)} {L K P : List Rnd7} {U : List Upd7}
theorem CUpd_e (E : Int) (V : List Upd7) (key : ByteArray) (c n : Int) (s : ByteArray) (hE : updE U key c n s mtu = E) (hV : updU U key c n s mtu = V) (h : Own N w [CliO g jp o mtu push K P U]) (ht : TabN N w) (hL : U.length ≤ 1000000) :
  Calls Tryd.prog 30 #[pt g, .agg #[.string key, .int .i64 c, .int .i64 n, .string s]] w fun e_ w' => e_ = .returned (.int .i64 E) ∧ Own N w' [CliO g jp o mtu push K P V] ∧ KeepS N w w' := by
 subst hE hV
 exact CUpd key c n s h ht hL
theorem ODUpd_e (E : Int) (V : List Upd7) (key : ByteArray) (c n : Int) (s : ByteArray) (hE : updE U key c n s mtu = E) (hV : updU U key c n s mtu = V) (h : Own N w [DocO gj gd jo jm o mtu push rJ rK rP U]) (hL : U.length ≤ 1000000) :
  Calls Tryd.prog 58 #[pt gd, .agg #[.string key, .int .i64 c, .int .i64 n, .string s]] w fun e_ w' => e_ = .returned (.int .i64 E) ∧ Own N w' [DocO gj gd jo jm o mtu push rJ rK rP V] ∧ KeepS N w w' := by
 subst hE hV
 exact ODUpd key c n s h hL
theorem CTake_e (E : Int) (r0 r1 : Int) (us : List Upd7) (B : Option Addr) (cb : Nat) (hE : takeE o P r0 r1 = E) (h : Own N w [CliO g jp o mtu push K P U]) (hr : Kd.F kU7 w N B us.length us) (hc : us.length ≤ cb) (hu : us.length ≤ 1000000) (hL : K.length ≤ 1000000) :
  Calls Tryd.prog 32 #[pt g, .agg #[.int .i64 r0, .int .i64 r1, .slice B us.length cb]] w fun e_ w' => e_ = .returned (.int .i64 E) ∧ Own N w' [CliO g jp o mtu push (takeK o K P ⟨r0, r1, us⟩) (takeP o P r0 r1) U] ∧ KeepS N w w' := by
 subst hE
 exact CTake ⟨r0, r1, us⟩ B cb h hr hc hu hL
theorem ODTake_e (E : Int) (r0 r1 : Int) (us : List Upd7) (B : Option Addr) (cb : Nat) (hE : takeE o P r0 r1 = E) (h : Own N w [DocO gj gd jo jm o mtu push rJ rK rP U]) (hd : Led N w rJ rK rP L K P) (hc : us.length ≤ cb) (hL : K.length + P.length ≤ 1000000) :
  Calls Tryd.prog 60 #[pt gd, .agg #[.int .i64 r0, .int .i64 r1, .slice B us.length cb]] w fun e_ w' => ∃ rK' rP', e_ = .returned (.int .i64 E) ∧ (∀ (N0 : Nat → Prop) (w0 : World), Led N0 w0 rJ rK rP L K P → Kd.F kU7 w0 N0 B us.length us → Led N0 w0 rJ rK' rP' L (takeK o K P ⟨r0, r1, us⟩) (takeP o P r0 r1)) ∧ Own N w' [DocO gj gd jo jm o mtu push rJ rK' rP' U] ∧ KeepS N w w' := by
 subst hE
 exact ODTake ⟨r0, r1, us⟩ B cb h hd hc hL
theorem CPush_n (E : Int) (hE : pushE jo jm push L P U = E) (h0 : E ≠ 0) (h : Own N w [CliO g (pt gp) o mtu push K P U, Obj3 138 gp jo jm L]) (hu : U.length ≤ 1000000) (hL : L.length ≤ 1000000) (hP : P.length ≤ 1000000) :
  Calls Tryd.prog 31 #[pt g] w fun e_ w' => ∃ A1 c1, e_ = .returned (.tuple #[.agg #[.int .i64 0, .int .i64 0, .slice A1 0 c1], .int .i64 E]) ∧ Own N w' [CliO g (pt gp) o mtu push K P U, Obj3 138 gp jo jm L, nrow kU7 tU7 (.slice A1 0 c1) []] ∧ KeepS N w w' := by
 subst hE
 have q := CPush h hu hL hP
 obtain ⟨a, b, c, d⟩ := push_no h0
 rw [a, b, c, d] at q
 exact q
theorem CPush_y (n1 : Int) (hE : pushE jo jm push L P U = 0) (hn : (L.length : Int) + 1 = n1) (h : Own N w [CliO g (pt gp) o mtu push K P U, Obj3 138 gp jo jm L]) (hu : U.length ≤ 1000000) (hL : L.length ≤ 1000000) (hP : P.length ≤ 1000000) :
  Calls Tryd.prog 31 #[pt g] w fun e_ w' => ∃ A1 c1, e_ = .returned (.tuple #[.agg #[.int .i64 jo, .int .i64 n1, .slice A1 U.length c1], .int .i64 0]) ∧ Own N w' [CliO g (pt gp) o mtu push K (P ++ [(⟨jo, n1, U⟩ : Rnd7)]) [], Obj3 138 gp jo jm (L ++ [(⟨jo, n1, U⟩ : Rnd7)]), nrow kU7 tU7 (.slice A1 U.length c1) U] ∧ KeepS N w w' := by
 subst hn
 have q := CPush h hu hL hP
 obtain ⟨a, b, c, d⟩ := push_yes hE
 rw [a, b, c, d, hE] at q
 exact q
theorem ODPush_n (E : Int) (hE : pushE jo jm push L P U = E) (h0 : E ≠ 0) (h : Own N w [DocO gj gd jo jm o mtu push rJ rK rP U]) (hd : Led N w rJ rK rP L K P) (hu : U.length ≤ 1000000) (hL : L.length ≤ 1000000) (hP : P.length ≤ 1000000) (hm : (L.length : Int) ≤ jm) :
  Calls Tryd.prog 59 #[pt gd] w fun e_ w' => e_ = .returned (.tuple #[.agg #[.int .i64 0, .int .i64 0, .slice none 0 0], .int .i64 E]) ∧ Own N w' [DocO gj gd jo jm o mtu push rJ rK rP U] ∧ KeepS N w w' := by
 subst hE
 exact ODPush_no h hd hu hL hP hm h0
theorem ODPush_y (n1 : Int) (hE : pushE jo jm push L P U = 0) (hn : (L.length : Int) + 1 = n1) (h : Own N w [DocO gj gd jo jm o mtu push rJ rK rP U]) (hd : Led N w rJ rK rP L K P) (hu : U.length ≤ 1000000) (hL : L.length ≤ 1000000) (hP : P.length ≤ 1000000) (hm : (L.length : Int) ≤ jm) :
  Calls Tryd.prog 59 #[pt gd] w fun e_ w' => ∃ B1 b1, e_ = .returned (.tuple #[.agg #[.int .i64 jo, .int .i64 n1, .slice B1 U.length b1], .int .i64 0]) ∧ Own N w' [DocO gj gd jo jm o mtu push (rJ ++ [rw3 jo n1 (.slice B1 U.length b1)]) rK (rP ++ [rw3 jo n1 (.slice B1 U.length b1)]) [], nrow kU7 tU7 (.slice B1 U.length b1) U] ∧ KeepS N w w' := by
 subst hn
 exact (ODPush_ok h hd hu hL hP hm hE).mono fun e_ w' ⟨B1, b1, _, a, b, k⟩ => ⟨B1, b1, a, b, k⟩
end
abbrev Both (g gp gj gd : Nat) (o jm mtu push : Int) (K P : List Rnd7) (U : List Upd7) (L : List Rnd7) (rJ rK rP : List (List Value)) (Ud : List Upd7) : List HP := [CliO g (pt gp) o mtu push K P U, Obj3 138 gp o jm L, DocO gj gd o jm o mtu push rJ rK rP Ud]
theorem Do_1 {N : Nat → Prop} {w : World} {g gj gd gp : Nat} {jm o mtu push : Int} {rJ rK rP : List (List Value)} {L K P : List Rnd7} {U : List Upd7}  (key : ByteArray) (c n : Int) (s : ByteArray) (r0 r1 : Int) (B : Option Addr) (cb : Nat) (us : List Upd7) (h : Own N w [CliO g (pt gp) o mtu push K P U, Obj3 138 gp o jm L, DocO gj gd o jm o mtu push rJ rK rP U]) (ht : TabN N w) (hL : U.length ≤ 1000000) :
  Calls Tryd.prog 18 #[.agg #[pt g, pt gd], .agg #[.int .i64 1, .string key, .int .i64 c, .int .i64 n, .string s, .int .i64 r0, .int .i64 r1, .slice B us.length cb]] w fun e_ w' => e_ = .returned (.bool true) ∧ Own N w' [CliO g (pt gp) o mtu push K P (updU U key c n s mtu), Obj3 138 gp o jm L, DocO gj gd o jm o mtu push rJ rK rP (updU U key c n s mtu)] ∧ KeepS N w w' := by
 have HT_0 := Aside0.mk ht
 have HL := Aside0.mk hL
 obtain ⟨E, hE⟩ : ∃ E, updE U key c n s mtu = E := ⟨_, rfl⟩
 obtain ⟨V, hV⟩ : ∃ V, updU U key c n s mtu = V := ⟨_, rfl⟩
 have HE := Aside0.mk hE
 have HV := Aside0.mk hV
 have dE : (E == E) = true := beq_self_eq_true _
 have O0 : Aside0 (Own N w [CliO g (pt gp) o mtu push K P U, Obj3 138 gp o jm L, DocO gj gd o jm o mtu push rJ rK rP U]) := ⟨h⟩
 have K0 : Aside0 (KeepS N w w) := ⟨KeepS.refl _ _⟩
 clear h ht hL hE hV
 go_enter Tryd.func18, Tryd.ntmps18
 go_wp2_with (first | ((with_reducible refine gD 2 rfl ?_); refine bP 2 #[pt g, pt gd] 27 O0.out ?_; intro gk w1 o_ k_; obtain ⟨O1, K1⟩ := ok_ K0 o_ k_; have HT_1 := Aside0.mk (TabN.keep HT_0.out k_); clear O0 K0 HT_0 o_ k_; have a3 := k2_ O1 3) | ((with_reducible refine gD 3 rfl ?_); refine bP 3 #[.int .i64 1, .string key, .int .i64 c, .int .i64 n, .string s, .int .i64 r0, .int .i64 r1, .slice B us.length cb] 37 O1.out ?_; intro ga w2 o_ k_; obtain ⟨O2, K2⟩ := ok_ K1 o_ k_; have HT_2 := Aside0.mk (TabN.keep HT_1.out k_); clear a3 O1 K1 HT_1 o_ k_; have a3 := k2_ O2 3; have a4 := k8_ O2 4))
 refine sP (n := 12) (S := d2_ gk (pt g) (pt gd) (c8_ ga (.int .i64 1) (.string key) (.int .i64 c) (.int .i64 n) (.string s) (.int .i64 r0) (.int .i64 r1) (.slice B us.length cb))) (ds := []) (j2_ a3 (p8_ a4)) (fun hHeld => ?_)
 obtain ⟨w3, hw_⟩ : ∃ W, W = w2.drew := ⟨_, rfl⟩
 have o_ := O2.out.drew
 have k_ : KeepS N w2 w2.drew := KeepS.drew
 rw [← hw_] at o_ k_ hHeld ⊢
 clear hw_
 obtain ⟨O3, K3⟩ := ok_ K2 o_ k_
 have HT_3 := Aside0.mk (TabN.keep HT_2.out k_)
 clear a3 a4 O2 K2 HT_2 o_ k_
 have a3 := k2_ O3 3
 have a4 := k8_ O3 4
 refine pP 0 (some 14) ?_
 refine pP 2 (some 16) ?_
 refine pP 5 (some 19) ?_
 refine pP 7 (some 21) ?_
 refine tP 1 (some 15) hHeld ?_
 refine tP 3 (some 17) hHeld ?_
 refine tP 6 (some 20) hHeld ?_
 refine tP 8 (some 22) hHeld ?_
 refine oP 4 (some 18) (fun K_ hK_ => ?_)
 refine hP Tryd.func30 #[pt g, .agg #[.string key, .int .i64 c, .int .i64 n, .string s]] ?_
 obtain ⟨N_, on_, nn_, rr_, bb_⟩ := O3.out.frame1 (i := 0) rfl
 refine (CUpd_e E V key c n s HE.out HV.out on_ (TabN.mono HT_3.out nn_) HL.out).mono ?_
 rintro e_ w4 ⟨rfl, oo_, kk_⟩
 obtain ⟨o_, k_⟩ := bb_ _ _ _ kk_ oo_
 refine ⟨_, rfl, ?_⟩
 obtain ⟨O4, K4⟩ := ok_ K3 o_ k_
 have HT_4 := Aside0.mk (TabN.keep HT_3.out k_)
 clear a3 a4 O3 K3 HT_3 o_ k_ oo_ kk_ on_ nn_ rr_ bb_
 have a3 := k2_ O4 3
 have a4 := k8_ O4 4
 clear hHeld
 refine hK_.out _ _ (j2_ a3 (p8_ a4)) (fun hHeld => ?_)
 clear hK_ K_
 refine nP ?_
 refine oP 9 (some 23) (fun K_ hK_ => ?_)
 refine hP Tryd.func58 #[pt gd, .agg #[.string key, .int .i64 c, .int .i64 n, .string s]] ?_
 obtain ⟨N_, on_, nn_, rr_, bb_⟩ := O4.out.frame1 (i := 2) rfl
 refine (ODUpd_e E V key c n s HE.out HV.out on_ HL.out).mono ?_
 rintro e_ w5 ⟨rfl, oo_, kk_⟩
 obtain ⟨o_, k_⟩ := bb_ _ _ _ kk_ oo_
 refine ⟨_, rfl, ?_⟩
 obtain ⟨O5, K5⟩ := ok_ K4 o_ k_
 have HT_5 := Aside0.mk (TabN.keep HT_4.out k_)
 clear a3 a4 O4 K4 HT_4 o_ k_ oo_ kk_ on_ nn_ rr_ bb_
 have a3 := k2_ O5 3
 have a4 := k8_ O5 4
 clear hHeld
 refine hK_.out _ _ (j2_ a3 (p8_ a4)) (fun hHeld => ?_)
 clear hK_ K_
 refine nP ?_
 refine pP 10 (some 24) ?_
 refine pP 11 (some 4) ?_
 refine done_ (by kernel_rfl) ?_
 clear hHeld
 go_wp2
 go_ret
 rw [HV.out]
 exact ⟨rfl, O5.out.take 3, K5.out⟩
theorem Do_2n {N : Nat → Prop} {w : World} {g gj gd gp : Nat} {jm o mtu push : Int} {rJ rK rP : List (List Value)} {L K P : List Rnd7} {U : List Upd7}  (key : ByteArray) (c n : Int) (s : ByteArray) (r0 r1 : Int) (B : Option Addr) (cb : Nat) (us : List Upd7) (h : Own N w [CliO g (pt gp) o mtu push K P U, Obj3 138 gp o jm L, DocO gj gd o jm o mtu push rJ rK rP U]) (hd : Led N w rJ rK rP L K P) (hu : U.length ≤ 1000000) (hL : L.length ≤ 1000000) (hP : P.length ≤ 1000000) (hm : (L.length : Int) ≤ jm) (h0 : pushE o jm push L P U ≠ 0) :
  Calls Tryd.prog 18 #[.agg #[pt g, pt gd], .agg #[.int .i64 2, .string key, .int .i64 c, .int .i64 n, .string s, .int .i64 r0, .int .i64 r1, .slice B us.length cb]] w fun e_ w' => e_ = .returned (.bool true) ∧ Own N w' [CliO g (pt gp) o mtu push K P U, Obj3 138 gp o jm L, DocO gj gd o jm o mtu push rJ rK rP U] ∧ KeepS N w w' := by
 have HD_0 := Aside0.mk hd
 have HU := Aside0.mk hu
 have HL := Aside0.mk hL
 have HP := Aside0.mk hP
 have HM := Aside0.mk hm
 obtain ⟨E, hE⟩ : ∃ E, pushE o jm push L P U = E := ⟨_, rfl⟩
 rw [hE] at h0
 have H0 := Aside0.mk h0
 have HE := Aside0.mk hE
 have dE : (E == E) = true := beq_self_eq_true _
 have O0 : Aside0 (Own N w [CliO g (pt gp) o mtu push K P U, Obj3 138 gp o jm L, DocO gj gd o jm o mtu push rJ rK rP U]) := ⟨h⟩
 have K0 : Aside0 (KeepS N w w) := ⟨KeepS.refl _ _⟩
 clear h hd hu hL hP hm hE h0
 go_enter Tryd.func18, Tryd.ntmps18
 go_wp2_with (first | ((with_reducible refine gD 2 rfl ?_); refine bP 2 #[pt g, pt gd] 27 O0.out ?_; intro gk w1 o_ k_; obtain ⟨O1, K1⟩ := ok_ K0 o_ k_; have HD_1 := Aside0.mk (Led.keep HD_0.out k_); clear O0 K0 HD_0 o_ k_; have a3 := k2_ O1 3) | ((with_reducible refine gD 3 rfl ?_); refine bP 3 #[.int .i64 2, .string key, .int .i64 c, .int .i64 n, .string s, .int .i64 r0, .int .i64 r1, .slice B us.length cb] 37 O1.out ?_; intro ga w2 o_ k_; obtain ⟨O2, K2⟩ := ok_ K1 o_ k_; have HD_2 := Aside0.mk (Led.keep HD_1.out k_); clear a3 O1 K1 HD_1 o_ k_; have a3 := k2_ O2 3; have a4 := k8_ O2 4) | ((with_reducible refine gC 31 rfl ?_); refine gP (some 30) Tryd.func31 #[pt g] ?_; obtain ⟨N_, on_, nn_, rr_, bb_⟩ := O2.out.frameL [0, 1] (by decide) (by simp); refine (CPush_n E HE.out H0.out on_ HU.out HL.out HP.out).mono ?_; rintro e_ w3 ⟨A1, c1, rfl, oo_, kk_⟩; obtain ⟨o_, k_⟩ := bb_ _ [CliO g (pt gp) o mtu push K P U, Obj3 138 gp o jm L] [nrow kU7 tU7 (.slice A1 0 c1) []] rfl kk_ oo_; refine ⟨_, rfl, ?_⟩; obtain ⟨O3, K3⟩ := ok_ K2 o_ k_; have HD_3 := Aside0.mk (Led.keep HD_2.out k_); clear a3 a4 O2 K2 HD_2 o_ k_ oo_ kk_ on_ nn_ rr_ bb_; have a3 := k2_ O3 3; have a4 := k8_ O3 4) | ((with_reducible refine gD 5 rfl ?_); refine bP 5 #[.int .i64 0, .int .i64 0, .slice none 0 0] 35 O3.out ?_; intro gr w4 o_ k_; obtain ⟨O4, K4⟩ := ok_ K3 o_ k_; have HD_4 := Aside0.mk (Led.keep HD_3.out k_); clear a3 a4 O3 K3 HD_3 o_ k_; have a3 := k2_ O4 3; have a4 := k8_ O4 4; have a6 := k3_ O4 6) | ((with_reducible refine gT 35 5 rfl ?_); refine wS 6 0 [.int .i64 0, .int .i64 0, .slice A1 0 c1] O4 ?_; intro w5 o_ k_; obtain ⟨O5, K5⟩ := ok_ K4 o_ k_; have HD_5 := Aside0.mk (Led.keep HD_4.out k_); clear a3 a4 a6 O4 K4 HD_4 o_ k_; have a3 := k2_ O5 3; have a4 := k8_ O5 4; have a6 := k3_ O5 6) | ((with_reducible refine gC 59 rfl ?_); refine gP (some 36) Tryd.func59 #[pt gd] ?_; obtain ⟨N_, on_, nn_, rr_, bb_⟩ := O5.out.frame1 (i := 2) rfl; refine (ODPush_n E HE.out H0.out on_ (Led.mono HD_5.out nn_) HU.out HL.out HP.out HM.out).mono ?_; rintro e_ w6 ⟨rfl, oo_, kk_⟩; obtain ⟨o_, k_⟩ := bb_ _ _ _ kk_ oo_; refine ⟨_, rfl, ?_⟩; obtain ⟨O6, K6⟩ := ok_ K5 o_ k_; have HD_6 := Aside0.mk (Led.keep HD_5.out k_); clear a3 a4 a6 O5 K5 HD_5 o_ k_ oo_ kk_ on_ nn_ rr_ bb_; have a3 := k2_ O6 3; have a4 := k8_ O6 4; have a6 := k3_ O6 6) | ((with_reducible refine gD 7 rfl ?_); refine bP 7 #[.int .i64 0, .int .i64 0, .slice none 0 0] 35 O6.out ?_; intro gq w7 o_ k_; obtain ⟨O7, K7⟩ := ok_ K6 o_ k_; have HD_7 := Aside0.mk (Led.keep HD_6.out k_); clear a3 a4 a6 O6 K6 HD_6 o_ k_; have a3 := k2_ O7 3; have a4 := k8_ O7 4; have a6 := k3_ O7 6; have a7 := k3_ O7 7) | ((with_reducible refine gT 35 7 rfl ?_); refine wS 7 0 [.int .i64 0, .int .i64 0, .slice none 0 0] O7 ?_; intro w8 o_ k_; obtain ⟨O8, K8⟩ := ok_ K7 o_ k_; have HD_8 := Aside0.mk (Led.keep HD_7.out k_); clear a3 a4 a6 a7 O7 K7 HD_7 o_ k_; have a3 := k2_ O8 3; have a4 := k8_ O8 4; have a6 := k3_ O8 6; have a7 := k3_ O8 7) | ((with_reducible refine gC 22 rfl ?_); refine gate_guard (by rfl) ?_; refine gP (some 45) Tryd.func22 #[.agg #[.int .i64 0, .int .i64 0, .slice A1 0 c1], .agg #[.int .i64 0, .int .i64 0, .slice none 0 0]] ?_; refine (chapbookref07_Same.calls 2 _ _ _ _ ([] : List Upd7) _ _ _ _ ([] : List Upd7) true _ (O8.out.nreads (i := 5) rfl).2.2 (O8.out.nreads (i := 5) rfl).2.1 (Kd.C_nil _ _) (Nat.le_refl _) (psame _ _ _ [] (by decide) (by decide))).mono ?_; rintro e_ w9 ⟨rfl, hb_⟩; refine ⟨_, rfl, ?_⟩; have o_ := O8.out.below hb_; have k_ := KeepS.of_below (N := N) hb_; obtain ⟨O9, K9⟩ := ok_ K8 o_ k_; have HD_9 := Aside0.mk (Led.keep HD_8.out k_); clear a3 a4 a6 a7 O8 K8 HD_8 o_ k_ hb_; have a3 := k2_ O9 3; have a4 := k8_ O9 4; have a6 := k3_ O9 6; have a7 := k3_ O9 7))
 go_ret
 exact ⟨rfl, O9.out.take 3, K9.out⟩
theorem Do_2y {N : Nat → Prop} {w : World} {g gj gd gp : Nat} {jm o mtu push : Int} {rJ rK rP : List (List Value)} {L K P : List Rnd7} {U : List Upd7}  (key : ByteArray) (c n : Int) (s : ByteArray) (r0 r1 : Int) (B : Option Addr) (cb : Nat) (us : List Upd7) (h : Own N w [CliO g (pt gp) o mtu push K P U, Obj3 138 gp o jm L, DocO gj gd o jm o mtu push rJ rK rP U]) (hd : Led N w rJ rK rP L K P) (hu : U.length ≤ 1000000) (hL : L.length ≤ 1000000) (hP : P.length ≤ 1000000) (hm : (L.length : Int) ≤ jm) (hE : pushE o jm push L P U = 0) :
  Calls Tryd.prog 18 #[.agg #[pt g, pt gd], .agg #[.int .i64 2, .string key, .int .i64 c, .int .i64 n, .string s, .int .i64 r0, .int .i64 r1, .slice B us.length cb]] w fun e_ w' => ∃ B1 b1, U.length ≤ b1 ∧ e_ = .returned (.bool true) ∧ Own N w' [CliO g (pt gp) o mtu push K (P ++ [(⟨o, (L.length : Int) + 1, U⟩ : Rnd7)]) [], Obj3 138 gp o jm (L ++ [(⟨o, (L.length : Int) + 1, U⟩ : Rnd7)]), DocO gj gd o jm o mtu push (rJ ++ [rw3 o ((L.length : Int) + 1) (.slice B1 U.length b1)]) rK (rP ++ [rw3 o ((L.length : Int) + 1) (.slice B1 U.length b1)]) [], nrow kU7 tU7 (.slice B1 U.length b1) U] ∧ KeepS N w w' := by
 have HD_0 := Aside0.mk hd
 have HU := Aside0.mk hu
 have HL := Aside0.mk hL
 have HP := Aside0.mk hP
 have HM := Aside0.mk hm
 obtain ⟨n1, hn1⟩ : ∃ n1, (L.length : Int) + 1 = n1 := ⟨_, rfl⟩
 have HN1 := Aside0.mk hn1
 have HE := Aside0.mk hE
 have O0 : Aside0 (Own N w [CliO g (pt gp) o mtu push K P U, Obj3 138 gp o jm L, DocO gj gd o jm o mtu push rJ rK rP U]) := ⟨h⟩
 have K0 : Aside0 (KeepS N w w) := ⟨KeepS.refl _ _⟩
 clear h hd hu hL hP hm hE hn1
 go_enter Tryd.func18, Tryd.ntmps18
 go_wp2_with (first | ((with_reducible refine gD 2 rfl ?_); refine bP 2 #[pt g, pt gd] 27 O0.out ?_; intro gk w1 o_ k_; obtain ⟨O1, K1⟩ := ok_ K0 o_ k_; have HD_1 := Aside0.mk (Led.keep HD_0.out k_); clear O0 K0 HD_0 o_ k_; have a3 := k2_ O1 3) | ((with_reducible refine gD 3 rfl ?_); refine bP 3 #[.int .i64 2, .string key, .int .i64 c, .int .i64 n, .string s, .int .i64 r0, .int .i64 r1, .slice B us.length cb] 37 O1.out ?_; intro ga w2 o_ k_; obtain ⟨O2, K2⟩ := ok_ K1 o_ k_; have HD_2 := Aside0.mk (Led.keep HD_1.out k_); clear a3 O1 K1 HD_1 o_ k_; have a3 := k2_ O2 3; have a4 := k8_ O2 4) | ((with_reducible refine gC 31 rfl ?_); refine gP (some 30) Tryd.func31 #[pt g] ?_; obtain ⟨N_, on_, nn_, rr_, bb_⟩ := O2.out.frameL [0, 1] (by decide) (by simp); refine (CPush_y n1 HE.out HN1.out on_ HU.out HL.out HP.out).mono ?_; rintro e_ w3 ⟨A1, c1, rfl, oo_, kk_⟩; obtain ⟨o_, k_⟩ := bb_ _ [CliO g (pt gp) o mtu push K (P ++ [(⟨o, n1, U⟩ : Rnd7)]) [], Obj3 138 gp o jm (L ++ [(⟨o, n1, U⟩ : Rnd7)])] [nrow kU7 tU7 (.slice A1 U.length c1) U] rfl kk_ oo_; refine ⟨_, rfl, ?_⟩; obtain ⟨O3, K3⟩ := ok_ K2 o_ k_; have HD_3 := Aside0.mk (Led.keep HD_2.out k_); clear a3 a4 O2 K2 HD_2 o_ k_ oo_ kk_ on_ nn_ rr_ bb_; have a3 := k2_ O3 3; have a4 := k8_ O3 4) | ((with_reducible refine gD 5 rfl ?_); refine bP 5 #[.int .i64 0, .int .i64 0, .slice none 0 0] 35 O3.out ?_; intro gr w4 o_ k_; obtain ⟨O4, K4⟩ := ok_ K3 o_ k_; have HD_4 := Aside0.mk (Led.keep HD_3.out k_); clear a3 a4 O3 K3 HD_3 o_ k_; have a3 := k2_ O4 3; have a4 := k8_ O4 4; have a6 := k3_ O4 6) | ((with_reducible refine gT 35 5 rfl ?_); refine wS 6 0 [.int .i64 o, .int .i64 n1, .slice A1 U.length c1] O4 ?_; intro w5 o_ k_; obtain ⟨O5, K5⟩ := ok_ K4 o_ k_; have HD_5 := Aside0.mk (Led.keep HD_4.out k_); clear a3 a4 a6 O4 K4 HD_4 o_ k_; have a3 := k2_ O5 3; have a4 := k8_ O5 4; have a6 := k3_ O5 6) | ((with_reducible refine gC 59 rfl ?_); refine gP (some 36) Tryd.func59 #[pt gd] ?_; obtain ⟨N_, on_, nn_, rr_, bb_⟩ := O5.out.frame1 (i := 2) rfl; refine (ODPush_y n1 HE.out HN1.out on_ (Led.mono HD_5.out nn_) HU.out HL.out HP.out HM.out).mono ?_; rintro e_ w6 ⟨B1, b1, rfl, oo_, kk_⟩; obtain ⟨o_, k_⟩ := bb_ _ _ _ kk_ oo_; refine ⟨_, rfl, ?_⟩; obtain ⟨O6, K6⟩ := ok_ K5 o_ k_; have HD_6 := Aside0.mk (Led.keep HD_5.out k_); clear a3 a4 a6 O5 K5 HD_5 o_ k_ oo_ kk_ on_ nn_ rr_ bb_; have a3 := k2_ O6 3; have a4 := k8_ O6 4; have a6 := k3_ O6 6) | ((with_reducible refine gD 7 rfl ?_); refine bP 7 #[.int .i64 0, .int .i64 0, .slice none 0 0] 35 O6.out ?_; intro gq w7 o_ k_; obtain ⟨O7, K7⟩ := ok_ K6 o_ k_; have HD_7 := Aside0.mk (Led.keep HD_6.out k_); clear a3 a4 a6 O6 K6 HD_6 o_ k_; have a3 := k2_ O7 3; have a4 := k8_ O7 4; have a6 := k3_ O7 6; have a8 := k3_ O7 8) | ((with_reducible refine gT 35 7 rfl ?_); refine wS 8 0 [.int .i64 o, .int .i64 n1, .slice B1 U.length b1] O7 ?_; intro w8 o_ k_; obtain ⟨O8, K8⟩ := ok_ K7 o_ k_; have HD_8 := Aside0.mk (Led.keep HD_7.out k_); clear a3 a4 a6 a8 O7 K7 HD_7 o_ k_; have a3 := k2_ O8 3; have a4 := k8_ O8 4; have a6 := k3_ O8 6; have a8 := k3_ O8 8) | ((with_reducible refine gC 22 rfl ?_); refine gate_guard (by rfl) ?_; refine gP (some 45) Tryd.func22 #[.agg #[.int .i64 o, .int .i64 n1, .slice A1 U.length c1], .agg #[.int .i64 o, .int .i64 n1, .slice B1 U.length b1]] ?_; refine (chapbookref07_Same.calls (U.length + 2) _ _ _ _ U _ _ _ _ U true _ (O8.out.nreads (i := 5) rfl).2.2 (O8.out.nreads (i := 5) rfl).2.1 (O8.out.nreads (i := 7) rfl).2.2 (O8.out.nreads (i := 7) rfl).2.1 (psame _ _ _ U (by have := HU.out; omega) (Nat.le_refl _))).mono ?_; rintro e_ w9 ⟨rfl, hb_⟩; refine ⟨_, rfl, ?_⟩; have o_ := O8.out.below hb_; have k_ := KeepS.of_below (N := N) hb_; obtain ⟨O9, K9⟩ := ok_ K8 o_ k_; have HD_9 := Aside0.mk (Led.keep HD_8.out k_); clear a3 a4 a6 a8 O8 K8 HD_8 o_ k_ hb_; have a3 := k2_ O9 3; have a4 := k8_ O9 4; have a6 := k3_ O9 6; have a8 := k3_ O9 8))
 go_ret
 have hc_ := (O9.out.nreads (i := 7) rfl).2.1
 rw [HN1.out]
 exact ⟨B1, b1, hc_, rfl, O9.out.pickL [0, 1, 2, 7] (by decide) (by simp), K9.out⟩
theorem Do_3 {N : Nat → Prop} {w : World} {g gj gd gp : Nat} {jm o mtu push : Int} {rJ rK rP : List (List Value)} {L K P : List Rnd7} {U : List Upd7} {Ld Kd_ Pd : List Rnd7} {Ud : List Upd7} (key : ByteArray) (c n : Int) (s : ByteArray) (r0 r1 : Int) (B : Option Addr) (cb : Nat) (us : List Upd7) (h : Own N w [CliO g (pt gp) o mtu push K P U, Obj3 138 gp o jm L, DocO gj gd o jm o mtu push rJ rK rP Ud]) (hd : Led N w rJ rK rP Ld Kd_ Pd) (hr : Kd.F kU7 w N B us.length us) (hc : us.length ≤ cb) (hu : us.length ≤ 1000000) (hK : K.length ≤ 1000000) (hL : Kd_.length + Pd.length ≤ 1000000) :
  Calls Tryd.prog 18 #[.agg #[pt g, pt gd], .agg #[.int .i64 3, .string key, .int .i64 c, .int .i64 n, .string s, .int .i64 r0, .int .i64 r1, .slice B us.length cb]] w fun e_ w' => ∃ rK' rP', e_ = .returned (.bool (takeE o P r0 r1 == takeE o Pd r0 r1)) ∧ (∀ (N0 : Nat → Prop) (w0 : World), Led N0 w0 rJ rK rP Ld Kd_ Pd → Kd.F kU7 w0 N0 B us.length us → Led N0 w0 rJ rK' rP' Ld (takeK o Kd_ Pd (⟨r0, r1, us⟩ : Rnd7)) (takeP o Pd r0 r1)) ∧ Own N w' [CliO g (pt gp) o mtu push (takeK o K P (⟨r0, r1, us⟩ : Rnd7)) (takeP o P r0 r1) U, Obj3 138 gp o jm L, DocO gj gd o jm o mtu push rJ rK' rP' Ud] ∧ KeepS N w w' := by
 have HD_0 := Aside0.mk hd
 have HR_0 : Aside0 (Kd.F kU7 w N B us.length us) := ⟨hr⟩
 have HC := Aside0.mk hc
 have HU := Aside0.mk hu
 have HK := Aside0.mk hK
 have HL := Aside0.mk hL
 obtain ⟨E1, he1⟩ : ∃ E, takeE o P r0 r1 = E := ⟨_, rfl⟩
 obtain ⟨E2, he2⟩ : ∃ E, takeE o Pd r0 r1 = E := ⟨_, rfl⟩
 have HE1 := Aside0.mk he1
 have HE2 := Aside0.mk he2
 obtain ⟨b, hb⟩ : ∃ b, (E1 == E2) = b := ⟨_, rfl⟩
 have HBB := Aside0.mk hb
 have dE := hb
 have O0 : Aside0 (Own N w [CliO g (pt gp) o mtu push K P U, Obj3 138 gp o jm L, DocO gj gd o jm o mtu push rJ rK rP Ud]) := ⟨h⟩
 have K0 : Aside0 (KeepS N w w) := ⟨KeepS.refl _ _⟩
 clear h hd hr hc hu hK hL he1 he2 hb
 go_enter Tryd.func18, Tryd.ntmps18
 go_wp2_with (first | ((with_reducible refine gD 2 rfl ?_); refine bP 2 #[pt g, pt gd] 27 O0.out ?_; intro gk w1 o_ k_; obtain ⟨O1, K1⟩ := ok_ K0 o_ k_; have HD_1 := Aside0.mk (Led.keep HD_0.out k_); have HR_1 := Aside0.mk (keepF HR_0.out k_); clear O0 K0 HD_0 HR_0 o_ k_; have a3 := k2_ O1 3) | ((with_reducible refine gD 3 rfl ?_); refine bP 3 #[.int .i64 3, .string key, .int .i64 c, .int .i64 n, .string s, .int .i64 r0, .int .i64 r1, .slice B us.length cb] 37 O1.out ?_; intro ga w2 o_ k_; obtain ⟨O2, K2⟩ := ok_ K1 o_ k_; have HD_2 := Aside0.mk (Led.keep HD_1.out k_); have HR_2 := Aside0.mk (keepF HR_1.out k_); clear a3 O1 K1 HD_1 HR_1 o_ k_; have a3 := k2_ O2 3; have a4 := k8_ O2 4))
 refine sP (n := 12) (S := d2_ gk (pt g) (pt gd) (c8_ ga (.int .i64 3) (.string key) (.int .i64 c) (.int .i64 n) (.string s) (.int .i64 r0) (.int .i64 r1) (.slice B us.length cb))) (ds := []) (j2_ a3 (p8_ a4)) (fun hHeld => ?_)
 obtain ⟨w3, hw_⟩ : ∃ W, W = w2.drew := ⟨_, rfl⟩
 have o_ := O2.out.drew
 have k_ : KeepS N w2 w2.drew := KeepS.drew
 rw [← hw_] at o_ k_ hHeld ⊢
 clear hw_
 obtain ⟨O3, K3⟩ := ok_ K2 o_ k_
 have HD_3 := Aside0.mk (Led.keep HD_2.out k_)
 have HR_3 := Aside0.mk (keepF HR_2.out k_)
 clear a3 a4 O2 K2 HD_2 HR_2 o_ k_
 have a3 := k2_ O3 3
 have a4 := k8_ O3 4
 refine pP 0 (some 49) ?_
 refine pP 2 (some 51) ?_
 refine pP 5 (some 54) ?_
 refine pP 7 (some 56) ?_
 refine tP 1 (some 50) hHeld ?_
 refine tP 3 (some 52) hHeld ?_
 refine tP 6 (some 55) hHeld ?_
 refine tP 8 (some 57) hHeld ?_
 refine oP 4 (some 53) (fun K_ hK_ => ?_)
 refine hP Tryd.func32 #[pt g, .agg #[.int .i64 r0, .int .i64 r1, .slice B us.length cb]] ?_
 obtain ⟨N_, on_, nn_, rr_, bb_⟩ := O3.out.frame1 (i := 0) rfl
 refine (CTake_e E1 r0 r1 us B cb HE1.out on_ (Kd.F_mono HR_3.out nn_) HC.out HU.out HK.out).mono ?_
 rintro e_ w4 ⟨rfl, oo_, kk_⟩
 obtain ⟨o_, k_⟩ := bb_ _ _ _ kk_ oo_
 refine ⟨_, rfl, ?_⟩
 obtain ⟨O4, K4⟩ := ok_ K3 o_ k_
 have HD_4 := Aside0.mk (Led.keep HD_3.out k_)
 have HR_4 := Aside0.mk (keepF HR_3.out k_)
 clear a3 a4 O3 K3 HD_3 HR_3 o_ k_ oo_ kk_ on_ nn_ rr_ bb_
 have a3 := k2_ O4 3
 have a4 := k8_ O4 4
 clear hHeld
 refine hK_.out _ _ (j2_ a3 (p8_ a4)) (fun hHeld => ?_)
 clear hK_ K_
 refine nP ?_
 refine oP 9 (some 58) (fun K_ hK_ => ?_)
 refine hP Tryd.func60 #[pt gd, .agg #[.int .i64 r0, .int .i64 r1, .slice B us.length cb]] ?_
 obtain ⟨N_, on_, nn_, rr_, bb_⟩ := O4.out.frame1 (i := 2) rfl
 refine (ODTake_e E2 r0 r1 us B cb HE2.out on_ (Led.mono HD_4.out nn_) HC.out HL.out).mono ?_
 rintro e_ w5 ⟨rK2, rP2, rfl, hl_, oo_, kk_⟩
 obtain ⟨o_, k_⟩ := bb_ _ _ _ kk_ oo_
 have HL2 := Aside0.mk hl_
 refine ⟨_, rfl, ?_⟩
 obtain ⟨O5, K5⟩ := ok_ K4 o_ k_
 have HD_5 := Aside0.mk (Led.keep HD_4.out k_)
 have HR_5 := Aside0.mk (keepF HR_4.out k_)
 clear a3 a4 O4 K4 HD_4 HR_4 o_ k_ oo_ kk_ on_ nn_ rr_ bb_ hl_
 have a3 := k2_ O5 3
 have a4 := k8_ O5 4
 clear hHeld
 refine hK_.out _ _ (j2_ a3 (p8_ a4)) (fun hHeld => ?_)
 clear hK_ K_
 refine nP ?_
 refine pP 10 (some 59) ?_
 refine pP 11 (some 4) ?_
 refine done_ (by kernel_rfl) ?_
 clear hHeld
 go_wp2
 go_ret
 rw [HE1.out, HE2.out, HBB.out]
 exact ⟨rK2, rP2, rfl, HL2.out, O5.out.take 3, K5.out⟩
theorem Do_4 {N : Nat → Prop} {w : World} {g gj gd gp : Nat} {jm o mtu push : Int} {rJ rK rP : List (List Value)} {L K P : List Rnd7} {U : List Upd7} {Ld Kd_ Pd : List Rnd7} {Ud : List Upd7} (key : ByteArray) (c n : Int) (s : ByteArray) (r0 r1 : Int) (B : Option Addr) (cb : Nat) (us : List Upd7) (h : Own N w [CliO g (pt gp) o mtu push K P U, Obj3 138 gp o jm L, DocO gj gd o jm o mtu push rJ rK rP Ud]) (hd : Led N w rJ rK rP Ld Kd_ Pd) (hL : L.length ≤ 1000000) (hU : Aside0 (bnd L)) (hn : Num L) (hLd : Ld.length ≤ 1000000) :
  Calls Tryd.prog 18 #[.agg #[pt g, pt gd], .agg #[.int .i64 4, .string key, .int .i64 c, .int .i64 n, .string s, .int .i64 r0, .int .i64 r1, .slice B us.length cb]] w fun e_ w' => e_ = .returned (.bool true) ∧ Led N w' rJ [] rJ Ld [] Ld ∧ Own N w' [CliO g (pt gp) o mtu push [] L [], Obj3 138 gp o jm L, DocO gj gd o jm o mtu push rJ [] rJ []] ∧ KeepS N w w' := by
 have HD_0 := Aside0.mk hd
 have HL := Aside0.mk hL
 have HB := hU
 have HN := Aside0.mk hn
 have HLD := Aside0.mk hLd
 have O0 : Aside0 (Own N w [CliO g (pt gp) o mtu push K P U, Obj3 138 gp o jm L, DocO gj gd o jm o mtu push rJ rK rP Ud]) := ⟨h⟩
 have K0 : Aside0 (KeepS N w w) := ⟨KeepS.refl _ _⟩
 clear h hd hL hU hn hLd
 go_enter Tryd.func18, Tryd.ntmps18
 go_wp2_with (first | ((with_reducible refine gD 2 rfl ?_); refine bP 2 #[pt g, pt gd] 27 O0.out ?_; intro gk w1 o_ k_; obtain ⟨O1, K1⟩ := ok_ K0 o_ k_; have HD_1 := Aside0.mk (Led.keep HD_0.out k_); clear O0 K0 HD_0 o_ k_; have a3 := k2_ O1 3) | ((with_reducible refine gD 3 rfl ?_); refine bP 3 #[.int .i64 4, .string key, .int .i64 c, .int .i64 n, .string s, .int .i64 r0, .int .i64 r1, .slice B us.length cb] 37 O1.out ?_; intro ga w2 o_ k_; obtain ⟨O2, K2⟩ := ok_ K1 o_ k_; have HD_2 := Aside0.mk (Led.keep HD_1.out k_); clear a3 O1 K1 HD_1 o_ k_; have a3 := k2_ O2 3; have a4 := k8_ O2 4) | ((with_reducible refine gC 33 rfl ?_); refine gP (some 64) Tryd.func33 #[pt g] ?_; obtain ⟨N_, on_, nn_, rr_, bb_⟩ := O2.out.frameL [0, 1] (by decide) (by simp); refine (CResume on_ HL.out HB HN.out).mono ?_; rintro e_ w3 ⟨rfl, oo_, kk_⟩; obtain ⟨o_, k_⟩ := bb_ _ [CliO g (pt gp) o mtu push [] L [], Obj3 138 gp o jm L] [] rfl kk_ oo_; refine ⟨_, rfl, ?_⟩; obtain ⟨O3, K3⟩ := ok_ K2 o_ k_; have HD_3 := Aside0.mk (Led.keep HD_2.out k_); clear a3 a4 O2 K2 HD_2 o_ k_ oo_ kk_ on_ nn_ rr_ bb_; have a3 := k2_ O3 3; have a4 := k8_ O3 4) | ((with_reducible refine gC 61 rfl ?_); refine gP (some 67) Tryd.func61 #[pt gd] ?_; obtain ⟨N_, on_, nn_, rr_, bb_⟩ := O3.out.frame1 (i := 2) rfl; refine (ODResume on_ (Led.mono HD_3.out nn_) HLD.out).mono ?_; rintro e_ w4 ⟨rfl, _, oo_, kk_⟩; obtain ⟨o_, k_⟩ := bb_ _ _ _ kk_ oo_; refine ⟨_, rfl, ?_⟩; obtain ⟨O4, K4⟩ := ok_ K3 o_ k_; have HD_4 := Aside0.mk (Led.keep HD_3.out k_); clear a3 a4 O3 K3 HD_3 o_ k_ oo_ kk_ on_ nn_ rr_ bb_; have a3 := k2_ O4 3; have a4 := k8_ O4 4))
 go_ret
 exact ⟨rfl, ⟨HD_4.out.j, Lead.none _ _, HD_4.out.j⟩, O4.out.take 3, K4.out⟩
theorem Do_0 {N : Nat → Prop} {w : World} {g gj gd gp : Nat} {jm o mtu push : Int} {rJ rK rP : List (List Value)} {L K P : List Rnd7} {U : List Upd7} {Ud : List Upd7} (kd : Int) (key : ByteArray) (c n : Int) (s : ByteArray) (r0 r1 : Int) (B : Option Addr) (cb : Nat) (us : List Upd7) (h : Own N w [CliO g (pt gp) o mtu push K P U, Obj3 138 gp o jm L, DocO gj gd o jm o mtu push rJ rK rP Ud]) (h1 : kd ≠ 1) (h2 : kd ≠ 2) (h3 : kd ≠ 3) (h4 : kd ≠ 4) (h5 : kd ≠ 5) :
  Calls Tryd.prog 18 #[.agg #[pt g, pt gd], .agg #[.int .i64 kd, .string key, .int .i64 c, .int .i64 n, .string s, .int .i64 r0, .int .i64 r1, .slice B us.length cb]] w fun e_ w' => e_ = .returned (.bool true) ∧ Own N w' [CliO g (pt gp) o mtu push K P U, Obj3 138 gp o jm L, DocO gj gd o jm o mtu push rJ rK rP Ud] ∧ KeepS N w w' := by
 have d1 : (kd == 1) = false := beq_eq_false_iff_ne.mpr h1
 have d2 : (kd == 2) = false := beq_eq_false_iff_ne.mpr h2
 have d3 : (kd == 3) = false := beq_eq_false_iff_ne.mpr h3
 have d4 : (kd == 4) = false := beq_eq_false_iff_ne.mpr h4
 have d5 : (kd == 5) = false := beq_eq_false_iff_ne.mpr h5
 have O0 : Aside0 (Own N w [CliO g (pt gp) o mtu push K P U, Obj3 138 gp o jm L, DocO gj gd o jm o mtu push rJ rK rP Ud]) := ⟨h⟩
 have K0 : Aside0 (KeepS N w w) := ⟨KeepS.refl _ _⟩
 clear h h1 h2 h3 h4 h5
 go_enter Tryd.func18, Tryd.ntmps18
 go_wp2_with (first | ((with_reducible refine gD 2 rfl ?_); refine bP 2 #[pt g, pt gd] 27 O0.out ?_; intro gk w1 o_ k_; obtain ⟨O1, K1⟩ := ok_ K0 o_ k_; clear O0 K0 o_ k_; have a3 := k2_ O1 3) | ((with_reducible refine gD 3 rfl ?_); refine bP 3 #[.int .i64 kd, .string key, .int .i64 c, .int .i64 n, .string s, .int .i64 r0, .int .i64 r1, .slice B us.length cb] 37 O1.out ?_; intro ga w2 o_ k_; obtain ⟨O2, K2⟩ := ok_ K1 o_ k_; clear a3 O1 K1 o_ k_; have a3 := k2_ O2 3; have a4 := k8_ O2 4))
 go_ret
 exact ⟨rfl, O2.out.take 3, K2.out⟩
theorem Do_5n {N : Nat → Prop} {w : World} {g gj gd gp : Nat} {jm o mtu push : Int} {rJ rK rP : List (List Value)} {L K P : List Rnd7} {U : List Upd7} {Ud : List Upd7} (key : ByteArray) (c n : Int) (s : ByteArray) (r0 r1 : Int) (B : Option Addr) (cb : Nat) (us : List Upd7) (h : Own N w [CliO g (pt gp) o mtu push K P U, Obj3 138 gp o jm L, DocO gj gd o jm o mtu push rJ rK rP Ud]) (hp : rP = []) :
  Calls Tryd.prog 18 #[.agg #[pt g, pt gd], .agg #[.int .i64 5, .string key, .int .i64 c, .int .i64 n, .string s, .int .i64 r0, .int .i64 r1, .slice B us.length cb]] w fun e_ w' => e_ = .returned (.bool true) ∧ Own N w' [CliO g (pt gp) o mtu push K P U, Obj3 138 gp o jm L, DocO gj gd o jm o mtu push rJ rK rP Ud] ∧ KeepS N w w' := by
 have hpr : rP.length = 0 := by rw [hp]; rfl
 have d9 : decide ((rP.length : Int) > 0) = false := decide_eq_false (by omega)
 have d8 : decide (0 < (rP.length : Int)) = false := d9
 have d7 : (0 < rP.length) = False := eq_false (by omega)
 have hz := h.pickL [2, 0, 1] (by decide) (by simp)
 obtain ⟨AJ, cJ, A4, c4, A5, c5, A6, c6, h2⟩ := DocO.open_ (r := [CliO g (pt gp) o mtu push K P U, Obj3 138 gp o jm L]) hz
 have O0 : Aside0 (Own N w [cells gj (jrC o jm (.slice AJ rJ.length cJ)) tDJ, CliO g (pt gp) o mtu push K P U, Obj3 138 gp o jm L, nrow kU7 tU7 (.slice A6 Ud.length c6) Ud, nrow (Kd.raw 3) tR7 (.slice A5 rP.length c5) rP, nrow (Kd.raw 3) tR7 (.slice A4 rK.length c4) rK, cells gd (cliC (pt gj) o mtu push (.slice A4 rK.length c4) (.slice A5 rP.length c5) (.slice A6 Ud.length c6)) tDC, nrow (Kd.raw 3) tR7 (.slice AJ rJ.length cJ) rJ]) := ⟨h2⟩
 have K0 : Aside0 (KeepS N w w) := ⟨KeepS.refl _ _⟩
 have a6 := k7_ O0 6
 clear h2 hz h hp hpr
 go_enter Tryd.func18, Tryd.ntmps18
 go_wp2_with (first | ((with_reducible refine gD 2 rfl ?_); refine bP 2 #[pt g, pt gd] 27 O0.out ?_; intro gk w1 o_ k_; obtain ⟨O1, K1⟩ := ok_ K0 o_ k_; clear a6 O0 K0 o_ k_; have a6 := k7_ O1 6; have a8 := k2_ O1 8) | ((with_reducible refine gD 3 rfl ?_); refine bP 3 #[.int .i64 5, .string key, .int .i64 c, .int .i64 n, .string s, .int .i64 r0, .int .i64 r1, .slice B us.length cb] 37 O1.out ?_; intro ga w2 o_ k_; obtain ⟨O2, K2⟩ := ok_ K1 o_ k_; clear a6 a8 O1 K1 o_ k_; have a6 := k7_ O2 6; have a8 := k2_ O2 8; have a9 := k8_ O2 9))
 go_ret
 exact ⟨rfl, (DocO.shut (O2.out.pickL [0, 7, 6, 5, 4, 3, 1, 2] (by decide) (by simp))).pickL [6, 7, 0] (by decide) (by simp), K2.out⟩
theorem Do_5 {N : Nat → Prop} {w : World} {g gj gd gp : Nat} {jm o mtu push : Int} {rJ rK rP : List (List Value)} {L K P : List Rnd7} {U : List Upd7}  (key : ByteArray) (c n : Int) (s : ByteArray) (r0 r1 : Int) (B : Option Addr) (cb : Nat) (us : List Upd7) (h : Own N w [CliO g (pt gp) o mtu push K P U, Obj3 138 gp o jm L, DocO gj gd o jm o mtu push rJ rK rP U]) (hd : Led N w rJ rK rP L K P) (hP0 : P.length ≠ 0) (hB : Aside0 (bnd P)) (hK : K.length ≤ 1000000) (hL : K.length + P.length ≤ 1000000) :
  Calls Tryd.prog 18 #[.agg #[pt g, pt gd], .agg #[.int .i64 5, .string key, .int .i64 c, .int .i64 n, .string s, .int .i64 r0, .int .i64 r1, .slice B us.length cb]] w fun e_ w' => ∃ rK' rP', e_ = .returned (.bool true) ∧ (∀ (N0 : Nat → Prop) (w0 : World), Led N0 w0 rJ rK rP L K P → Led N0 w0 rJ rK' rP' L (takeK o K P (rd_T35 P 0)) (takeP o P (rd_T35 P 0).f0 (rd_T35 P 0).f1)) ∧ Own N w' [CliO g (pt gp) o mtu push (takeK o K P (rd_T35 P 0)) (takeP o P (rd_T35 P 0).f0 (rd_T35 P 0).f1) U, Obj3 138 gp o jm L, DocO gj gd o jm o mtu push rJ rK' rP' U] ∧ KeepS N w w' := by
 obtain ⟨Bp, cp, hh, hlc, hF⟩ := hd.p.first hP0
 have hrp : rP.length = P.length := hd.p.1
 obtain ⟨p, hpp⟩ : ∃ p, rd_T35 P 0 = p := ⟨_, rfl⟩
 have HPP := Aside0.mk hpp
 have HP00 := Aside0.mk hP0
 rw [hpp] at hh hlc hF
 have HHH := Aside0.mk hh
 have d9 : decide ((rP.length : Int) > 0) = true := decide_eq_true (by omega)
 have d8 : decide (0 < (rP.length : Int)) = true := d9
 have hq1 : ((0 : Int) < (rP.length : Int)) = True := eq_true (by omega)
 have hq2 : (0 < rP.length) = True := eq_true (by omega)
 have HD_0 := Aside0.mk hd
 have HR_0 : Aside0 (Kd.F kU7 w N Bp p.f2.length p.f2) := ⟨hF⟩
 have HC := Aside0.mk hlc
 have HU : Aside0 (p.f2.length ≤ 1000000) := ⟨by rw [← hpp]; exact hB.out 0 (by decide) (by omega)⟩
 have HK := Aside0.mk hK
 have HL := Aside0.mk hL
 obtain ⟨E1, he1⟩ : ∃ E, takeE o P p.f0 p.f1 = E := ⟨_, rfl⟩
 have HE1 := Aside0.mk he1
 have dE : (E1 == E1) = true := beq_self_eq_true _
 have hz := h.pickL [2, 0, 1] (by decide) (by simp)
 obtain ⟨AJ, cJ, A4, c4, A5, c5, A6, c6, h2⟩ := DocO.open_ (r := [CliO g (pt gp) o mtu push K P U, Obj3 138 gp o jm L]) hz
 obtain ⟨ad, eA, y0, y1, y2⟩ := raw3_at (h2.nreads (i := 4) rfl).2.2 hh
 cases eA
 clear y0 y1 y2
 have O0 : Aside0 (Own N w [cells gj (jrC o jm (.slice AJ rJ.length cJ)) tDJ, CliO g (pt gp) o mtu push K P U, Obj3 138 gp o jm L, nrow kU7 tU7 (.slice A6 U.length c6) U, nrow (Kd.raw 3) tR7 (.slice (some ad) rP.length c5) rP, nrow (Kd.raw 3) tR7 (.slice A4 rK.length c4) rK, cells gd (cliC (pt gj) o mtu push (.slice A4 rK.length c4) (.slice (some ad) rP.length c5) (.slice A6 U.length c6)) tDC, nrow (Kd.raw 3) tR7 (.slice AJ rJ.length cJ) rJ]) := ⟨h2⟩
 have K0 : Aside0 (KeepS N w w) := ⟨KeepS.refl _ _⟩
 have a6 := k7_ O0 6
 clear h2 hz h hd hP0 hK hL hB hh hrp hlc hF hpp he1
 go_enter Tryd.func18, Tryd.ntmps18
 go_wp2_with (first | ((with_reducible refine gD 2 rfl ?_); refine bP 2 #[pt g, pt gd] 27 O0.out ?_; intro gk w1 o_ k_; obtain ⟨O1, K1⟩ := ok_ K0 o_ k_; have HD_1 := Aside0.mk (Led.keep HD_0.out k_); have HR_1 := Aside0.mk (keepF HR_0.out k_); clear a6 O0 K0 HD_0 HR_0 o_ k_; have a6 := k7_ O1 6; have a8 := k2_ O1 8) | ((with_reducible refine gD 3 rfl ?_); refine bP 3 #[.int .i64 5, .string key, .int .i64 c, .int .i64 n, .string s, .int .i64 r0, .int .i64 r1, .slice B us.length cb] 37 O1.out ?_; intro ga w2 o_ k_; obtain ⟨O2, K2⟩ := ok_ K1 o_ k_; have HD_2 := Aside0.mk (Led.keep HD_1.out k_); have HR_2 := Aside0.mk (keepF HR_1.out k_); clear a6 a8 O1 K1 HD_1 HR_1 o_ k_; have a6 := k7_ O2 6; have a8 := k2_ O2 8; have a9 := k8_ O2 9; obtain ⟨ad', eA, y0, y1, y2⟩ := raw3_at (O2.out.nreads (i := 4) rfl).2.2 HHH.out; cases eA) | ((with_reducible refine gD 9 rfl ?_); refine bP 9 #[.int .i64 0, .int .i64 0, .slice none 0 0] 35 O2.out ?_; intro gp9 w3 o_ k_; obtain ⟨O3, K3⟩ := ok_ K2 o_ k_; have HD_3 := Aside0.mk (Led.keep HD_2.out k_); have HR_3 := Aside0.mk (keepF HR_2.out k_); clear a6 a8 a9 O2 K2 HD_2 HR_2 o_ k_; have a6 := k7_ O3 6; have a8 := k2_ O3 8; have a9 := k8_ O3 9; have a10 := k3_ O3 10) | ((with_reducible refine gT 35 9 rfl ?_); refine wS 10 0 [.int .i64 p.f0, .int .i64 p.f1, .slice Bp p.f2.length cp] O3 ?_; intro w4 o_ k_; obtain ⟨O4, K4⟩ := ok_ K3 o_ k_; have HD_4 := Aside0.mk (Led.keep HD_3.out k_); have HR_4 := Aside0.mk (keepF HR_3.out k_); clear a6 a8 a9 a10 O3 K3 HD_3 HR_3 o_ k_; have a6 := k7_ O4 6; have a8 := k2_ O4 8; have a9 := k8_ O4 9; have a10 := k3_ O4 10))
 have o_ := (DocO.shut (O4.out.pickL [0, 7, 6, 5, 4, 3, 1, 2, 8, 9, 10] (by decide) (by simp))).pickL [6, 7, 0, 8, 9, 10] (by decide) (by simp)
 have k_ : KeepS N w4 w4 := KeepS.refl _ _
 obtain ⟨O5, K5⟩ := ok_ K4 o_ k_
 have HD_5 := Aside0.mk (Led.keep HD_4.out k_)
 have HR_5 := Aside0.mk (keepF HR_4.out k_)
 clear a6 a8 a9 a10 O4 K4 HD_4 HR_4 o_ k_
 have a3 := k2_ O5 3
 have a4 := k8_ O5 4
 have a5 := k3_ O5 5
 refine sP (n := 10) (S := d2_ gk (pt g) (pt gd) (c3_ gp9 (.int .i64 p.f0) (.int .i64 p.f1) (.slice Bp p.f2.length cp))) (ds := []) (j2_ a3 (p3_ a5)) (fun hHeld => ?_)
 obtain ⟨w6, hw_⟩ : ∃ W, W = w4.drew := ⟨_, rfl⟩
 have o_ := O5.out.drew
 have k_ : KeepS N w4 w4.drew := KeepS.drew
 rw [← hw_] at o_ k_ hHeld ⊢
 clear hw_
 obtain ⟨O6, K6⟩ := ok_ K5 o_ k_
 have HD_6 := Aside0.mk (Led.keep HD_5.out k_)
 have HR_6 := Aside0.mk (keepF HR_5.out k_)
 clear a3 a4 a5 O5 K5 HD_5 HR_5 o_ k_
 have a3 := k2_ O6 3
 have a4 := k8_ O6 4
 have a5 := k3_ O6 5
 refine pP 0 (some 84) ?_
 refine pP 4 (some 88) ?_
 refine tP 1 (some 85) hHeld ?_
 refine tP 2 (some 86) hHeld ?_
 refine tP 5 (some 89) hHeld ?_
 refine tP 6 (some 90) hHeld ?_
 refine oP 3 (some 87) (fun K_ hK_ => ?_)
 refine hP Tryd.func32 #[pt g, .agg #[.int .i64 p.f0, .int .i64 p.f1, .slice Bp p.f2.length cp]] ?_
 obtain ⟨N_, on_, nn_, rr_, bb_⟩ := O6.out.frame1 (i := 0) rfl
 refine (CTake_e E1 p.f0 p.f1 p.f2 Bp cp HE1.out on_ (Kd.F_mono HR_6.out nn_) HC.out HU.out HK.out).mono ?_
 rintro e_ w7 ⟨rfl, oo_, kk_⟩
 obtain ⟨o_, k_⟩ := bb_ _ _ _ kk_ oo_
 refine ⟨_, rfl, ?_⟩
 obtain ⟨O7, K7⟩ := ok_ K6 o_ k_
 have HD_7 := Aside0.mk (Led.keep HD_6.out k_)
 have HR_7 := Aside0.mk (keepF HR_6.out k_)
 clear a3 a4 a5 O6 K6 HD_6 HR_6 o_ k_ oo_ kk_ on_ nn_ rr_ bb_
 have a3 := k2_ O7 3
 have a4 := k8_ O7 4
 have a5 := k3_ O7 5
 clear hHeld
 refine hK_.out _ _ (j2_ a3 (p3_ a5)) (fun hHeld => ?_)
 clear hK_ K_
 refine nP ?_
 refine oP 7 (some 91) (fun K_ hK_ => ?_)
 refine hP Tryd.func60 #[pt gd, .agg #[.int .i64 p.f0, .int .i64 p.f1, .slice Bp p.f2.length cp]] ?_
 obtain ⟨N_, on_, nn_, rr_, bb_⟩ := O7.out.frame1 (i := 2) rfl
 refine (ODTake_e E1 p.f0 p.f1 p.f2 Bp cp HE1.out on_ (Led.mono HD_7.out nn_) HC.out HL.out).mono ?_
 rintro e_ w8 ⟨rK2, rP2, rfl, hl_, oo_, kk_⟩
 obtain ⟨o_, k_⟩ := bb_ _ _ _ kk_ oo_
 have HL2 := Aside0.mk hl_
 refine ⟨_, rfl, ?_⟩
 obtain ⟨O8, K8⟩ := ok_ K7 o_ k_
 have HD_8 := Aside0.mk (Led.keep HD_7.out k_)
 have HR_8 := Aside0.mk (keepF HR_7.out k_)
 clear a3 a4 a5 O7 K7 HD_7 HR_7 o_ k_ oo_ kk_ on_ nn_ rr_ bb_ hl_
 have a3 := k2_ O8 3
 have a4 := k8_ O8 4
 have a5 := k3_ O8 5
 clear hHeld
 refine hK_.out _ _ (j2_ a3 (p3_ a5)) (fun hHeld => ?_)
 clear hK_ K_
 refine nP ?_
 refine pP 8 (some 92) ?_
 refine pP 9 (some 4) ?_
 refine done_ (by kernel_rfl) ?_
 clear hHeld
 go_wp2
 go_ret
 rw [HPP.out]
 exact ⟨rK2, rP2, rfl, fun N0 w0 h_ => HL2.out N0 w0 h_ (h_.p.firstF HP00.out (by rw [HPP.out]; exact HHH.out) HPP.out), O8.out.take 3, K8.out⟩
end Go.Proofs.YtjdenpmaianmfaaDoor.J
namespace Go.Proofs.YtjdenpmaianmfaaDoor.Q
open Go.RowKit Go.Proofs.YtjdenpmaianmfaaDoorW.PrintWords Go.Proofs.YtjdenpmaianmfaaDoorW.PrintLast Go.Proofs.YtjdenpmaianmfaaDoorW.PrintMore
attribute [local go_sem] max2_int min2_int max_two min_two max_three min_three max_four min_four
set_option maxHeartbeats 16000000
set_option maxRecDepth 100000
set_option linter.unusedVariables false
set_option linter.unusedSimpArgs false
def chapbooklaw17_great.l0 : Nat → List (S37) → Int → Int → Option (Bool)
 | 0, _, _, _ => none
 | k + 1, x8, x9, x10 => if x10 < x9 then (if 0 ≤ x10 then (if x10 < (x8.length : Int) then ((chapbookref04_Great.f ((rd_T37 x8 x10).f1.f0) ((rd_T37 x8 x10).f1.f1) ((rd_T37 x8 x10).f1.f2) ((rd_T37 x8 x10).f1.f3)).bind fun t258 => (if t258 = true then (some true) else ((chapbookref07_Great.f k ((rd_T37 x8 x10).f2.f0) ((rd_T37 x8 x10).f2.f1) ((rd_T37 x8 x10).f2.f2)).bind fun t259 => (if t259 = true then (some true) else (chapbooklaw17_great.l0 k x8 x9 (wrap64 (x10 + 1))))))) else (none)) else (none)) else (some false)
def chapbooklaw17_great.f (k : Nat) (l0 : List (S37)) : Option (Bool) := if (l0.length : Int) > 50 then (some true) else (chapbooklaw17_great.l0 k l0 (l0.length : Int) 0)
theorem chapbooklaw17_great.calls (k : Nat) (A0 : Option Addr) (c0 : Nat) (l0 : List (S37)) (r : Bool) (w : World) (hr0 : Kd.C k37 w A0 l0.length l0) (hc0 : l0.length ≤ c0) (h : chapbooklaw17_great.f k l0 = some r) :
  Calls Tryd.prog 17 #[.slice A0 l0.length c0] w fun e w' => e = .returned (.bool r) ∧ Below w.heap.size w w' := by
 have hu37 := Tryd.underlying37
 have hu32 := Tryd.underlying32
 have hu35 := Tryd.underlying35
 have HR0 := Aside0.mk hr0
 have HC0 := Aside0.mk hc0
 clear hr0 hc0
 have HB := Aside0.mk (Below.refl w.heap.size w)
 have H : (if (l0.length : Int) > 50 then (some true) else (chapbooklaw17_great.l0 k l0 (l0.length : Int) 0)) = some r := h
 clear h
 by_cases c2 : (l0.length : Int) > 50
 ·rw [if_pos c2] at H
  have c2b0 : decide (50 < (l0.length : Int)) = true := decide_eq_true c2
  have c2b1 : decide (50 < l0.length) = true := decide_eq_true (by omega)
  clear c2
  obtain rfl := Option.some.inj H
  go_enter Tryd.func17, Tryd.ntmps17
  go_wp2
  go_ret
  exact ⟨ew_, bl_ HB⟩
 ·rw [if_neg c2] at H
  have c2b0 : decide (50 < (l0.length : Int)) = false := decide_eq_false c2
  have c2b1 : decide (50 < l0.length) = false := decide_eq_false (by omega)
  clear c2
  have H' := Aside0.mk H
  clear H
  go_enter Tryd.func17, Tryd.ntmps17
  go_wp2
  go_loopg [10] k (fun kq v10 w' => ∃ (x10_1 : Int), v10 = .int .i64 x10_1 ∧ Aside0 (chapbooklaw17_great.l0 kq l0 (l0.length : Int) x10_1 = some r) ∧ Aside0 (kq ≤ k) ∧ Aside0 (Below w.heap.size w w'))
  case atStart => exact ⟨(0), er_, H', ⟨Nat.le_refl _⟩, ⟨bl_ HB⟩⟩
  case round =>
   clear H'
   try clear c1
   try clear c2
   try clear c2b0
   try clear c2b1
   try clear p2
   obtain ⟨x10_1, rfl, HA, HK1, HB⟩ := hrel
   cases gk with
   | zero => exact absurd HA.out (by simp [chapbooklaw17_great.l0])
   | succ k1 =>
    have H := HA.out
    clear HA
    simp only [chapbooklaw17_great.l0] at H
    by_cases c3 : x10_1 < (l0.length : Int)
    ·rw [if_pos c3] at H
     have c3b0 : decide (x10_1 < (l0.length : Int)) = true := decide_eq_true c3
     clear c3
     by_cases c4 : 0 ≤ x10_1
     ·rw [if_pos c4] at H
      have c4b0 : decide (0 ≤ x10_1) = true := decide_eq_true c4
      clear c4
      by_cases c5 : x10_1 < (l0.length : Int)
      ·rw [if_pos c5] at H
       have c5b0 : decide (x10_1 < (l0.length : Int)) = true := decide_eq_true c5
       clear c5
       replace H := Option.bind_eq_some_iff.mp H
       obtain ⟨t258, A60, H⟩ := H
       replace H : (if t258 = true then (some true) else ((chapbookref07_Great.f k1 ((rd_T37 l0 x10_1).f2.f0) ((rd_T37 l0 x10_1).f2.f1) ((rd_T37 l0 x10_1).f2.f2)).bind fun t259 => (if t259 = true then (some true) else (chapbooklaw17_great.l0 k1 l0 (l0.length : Int) (wrap64 (x10_1 + 1)))))) = some r := H
       have A6 := Aside0.mk A60
       clear A60
       by_cases c7 : t258 = true
       ·subst c7
        have H1 : (some true) = some r := by rw [if_pos rfl] at H; exact H
        clear H
        have H := H1
        clear H1
        obtain rfl := Option.some.inj H
        have p256 : 0 ≤ (x10_1 : Int) := of_decide_eq_true (by first | (with_reducible assumption) | assumption)
        have q256 : x10_1 < (l0.length : Int) := of_decide_eq_true (by first | (with_reducible assumption) | assumption)
        obtain ⟨ad256, A256_7, c256_7, e256, hx256_0, hx256_1, hx256_2, hx256_3, hx256_4, hx256_5, hx256_6, hx256_7, hl256_7, hi256_7⟩ := at_T37 HR0.out x10_1 p256 q256
        cases e256
        replace hx256_0 := hx_ HB hx256_0
        replace hx256_1 := hx_ HB hx256_1
        replace hx256_2 := hx_ HB hx256_2
        replace hx256_3 := hx_ HB hx256_3
        replace hx256_4 := hx_ HB hx256_4
        replace hx256_5 := hx_ HB hx256_5
        replace hx256_6 := hx_ HB hx256_6
        replace hx256_7 := hx_ HB hx256_7
        have HR256_7 := Aside0.mk hi256_7
        have HC256_7 := Aside0.mk hl256_7
        clear hi256_7 hl256_7
        replace p256 := eq_true p256
        replace q256 := eq_true q256
        go_wp2_with (first | ((with_reducible refine gD 4 rfl ?_); refine box_event rfl (N := 4) rfl (cs := #[.int .i64 0, .string (⟨#[]⟩ : ByteArray), .int .i64 0, .int .i64 0, .string (⟨#[]⟩ : ByteArray), .int .i64 0, .int .i64 0, .slice none 0 0]) (t := 37) gs_ ?_; intro gb257 hg w8 hbox hb; have n0_ := Aside0.mk (below_step (bl_ HB) hb); have n1_ := Aside0.mk (hbox); have n2_ := Aside0.mk ((by rw [hg]; exact (below_size (bl_ HB)) : w.heap.size ≤ gb257)); have n3_ := Aside0.mk ((by rw [hg]; exact (below_size (bl_ HB)) : w.heap.size ≤ gb257)); clear HB; have HB := n0_; have BK257 := n1_; have GW257 := n2_; have GE257 := n3_; clear n0_ n1_ n2_ n3_; clear hb hbox hg; have hz9 := kb8_ BK257) | ((with_reducible refine gC 57 rfl ?_); refine goesL_ (some 16) rfl rfl Tryd.func57 (by kernel_rfl) rfl #[.agg #[.string ((rd_T37 l0 x10_1).f1.f0), .int .i64 ((rd_T37 l0 x10_1).f1.f1), .int .i64 ((rd_T37 l0 x10_1).f1.f2), .string ((rd_T37 l0 x10_1).f1.f3)]] rfl am_ ?_; (with_reducible refine (chapbookref04_Great.calls ((rd_T37 l0 x10_1).f1.f0) ((rd_T37 l0 x10_1).f1.f1) ((rd_T37 l0 x10_1).f1.f2) ((rd_T37 l0 x10_1).f1.f3) true _ A6.out).mono ?_); rintro e w10 ⟨rfl, hb⟩; refine ⟨_, rfl, ?_⟩; have n0_ := Aside0.mk (blk_below (g := gb257) (o := .cells #[.int .i64 ((rd_T37 l0 x10_1).f0), .string ((rd_T37 l0 x10_1).f1.f0), .int .i64 ((rd_T37 l0 x10_1).f1.f1), .int .i64 ((rd_T37 l0 x10_1).f1.f2), .string ((rd_T37 l0 x10_1).f1.f3), .int .i64 ((rd_T37 l0 x10_1).f2.f0), .int .i64 ((rd_T37 l0 x10_1).f2.f1), .slice A256_7 ((rd_T37 l0 x10_1).f2.f2).length c256_7] 37 (0, 0)) (by (with_reducible repeat (first | refine blk_drewN ?_ _ | refine blk_drew ?_ | refine blk_alloc ?_ _)); refine blk_put (cs := #[.int .i64 ((rd_T37 l0 x10_1).f0), .string ((rd_T37 l0 x10_1).f1.f0), .int .i64 ((rd_T37 l0 x10_1).f1.f1), .int .i64 ((rd_T37 l0 x10_1).f1.f2), .string ((rd_T37 l0 x10_1).f1.f3), .int .i64 ((rd_T37 l0 x10_1).f2.f0), .int .i64 ((rd_T37 l0 x10_1).f2.f1), .slice none 0 0]) ?_ 7 _ rfl; (with_reducible repeat (first | refine blk_drewN ?_ _ | refine blk_drew ?_ | refine blk_alloc ?_ _)); refine blk_put (cs := #[.int .i64 ((rd_T37 l0 x10_1).f0), .string ((rd_T37 l0 x10_1).f1.f0), .int .i64 ((rd_T37 l0 x10_1).f1.f1), .int .i64 ((rd_T37 l0 x10_1).f1.f2), .string ((rd_T37 l0 x10_1).f1.f3), .int .i64 ((rd_T37 l0 x10_1).f2.f0), .int .i64 0, .slice none 0 0]) ?_ 6 _ rfl; (with_reducible repeat (first | refine blk_drewN ?_ _ | refine blk_drew ?_ | refine blk_alloc ?_ _)); refine blk_put (cs := #[.int .i64 ((rd_T37 l0 x10_1).f0), .string ((rd_T37 l0 x10_1).f1.f0), .int .i64 ((rd_T37 l0 x10_1).f1.f1), .int .i64 ((rd_T37 l0 x10_1).f1.f2), .string ((rd_T37 l0 x10_1).f1.f3), .int .i64 0, .int .i64 0, .slice none 0 0]) ?_ 5 _ rfl; (with_reducible repeat (first | refine blk_drewN ?_ _ | refine blk_drew ?_ | refine blk_alloc ?_ _)); refine blk_put (cs := #[.int .i64 ((rd_T37 l0 x10_1).f0), .string ((rd_T37 l0 x10_1).f1.f0), .int .i64 ((rd_T37 l0 x10_1).f1.f1), .int .i64 ((rd_T37 l0 x10_1).f1.f2), .string (⟨#[]⟩ : ByteArray), .int .i64 0, .int .i64 0, .slice none 0 0]) ?_ 4 _ rfl; (with_reducible repeat (first | refine blk_drewN ?_ _ | refine blk_drew ?_ | refine blk_alloc ?_ _)); refine blk_put (cs := #[.int .i64 ((rd_T37 l0 x10_1).f0), .string ((rd_T37 l0 x10_1).f1.f0), .int .i64 ((rd_T37 l0 x10_1).f1.f1), .int .i64 0, .string (⟨#[]⟩ : ByteArray), .int .i64 0, .int .i64 0, .slice none 0 0]) ?_ 3 _ rfl; (with_reducible repeat (first | refine blk_drewN ?_ _ | refine blk_drew ?_ | refine blk_alloc ?_ _)); refine blk_put (cs := #[.int .i64 ((rd_T37 l0 x10_1).f0), .string ((rd_T37 l0 x10_1).f1.f0), .int .i64 0, .int .i64 0, .string (⟨#[]⟩ : ByteArray), .int .i64 0, .int .i64 0, .slice none 0 0]) ?_ 2 _ rfl; (with_reducible repeat (first | refine blk_drewN ?_ _ | refine blk_drew ?_ | refine blk_alloc ?_ _)); refine blk_put (cs := #[.int .i64 ((rd_T37 l0 x10_1).f0), .string (⟨#[]⟩ : ByteArray), .int .i64 0, .int .i64 0, .string (⟨#[]⟩ : ByteArray), .int .i64 0, .int .i64 0, .slice none 0 0]) ?_ 1 _ rfl; (with_reducible repeat (first | refine blk_drewN ?_ _ | refine blk_drew ?_ | refine blk_alloc ?_ _)); refine blk_put (cs := #[.int .i64 0, .string (⟨#[]⟩ : ByteArray), .int .i64 0, .int .i64 0, .string (⟨#[]⟩ : ByteArray), .int .i64 0, .int .i64 0, .slice none 0 0]) ?_ 0 _ rfl; (with_reducible repeat (first | refine blk_drewN ?_ _ | refine blk_drew ?_ | refine blk_alloc ?_ _)); exact BK257.out) hb); have n1_ := Aside0.mk (below_step (bl_ HB) hb); clear BK257; clear HB; have BK257 := n0_; have HB := n1_; clear n0_ n1_; (try clear hb); (try clear hb2); (try clear hk); (try clear hi)))
        go_ret
        exact ⟨ew_, bl_ HB⟩
       ·replace c7 := Bool.eq_false_iff.mpr c7
        subst c7
        have H1 : ((chapbookref07_Great.f k1 ((rd_T37 l0 x10_1).f2.f0) ((rd_T37 l0 x10_1).f2.f1) ((rd_T37 l0 x10_1).f2.f2)).bind fun t259 => (if t259 = true then (some true) else (chapbooklaw17_great.l0 k1 l0 (l0.length : Int) (wrap64 (x10_1 + 1))))) = some r := by rw [if_neg (show ¬ (false = true) by decide)] at H; exact H
        clear H
        have H := H1
        clear H1
        replace H := Option.bind_eq_some_iff.mp H
        obtain ⟨t259, A110, H⟩ := H
        replace H : (if t259 = true then (some true) else (chapbooklaw17_great.l0 k1 l0 (l0.length : Int) (wrap64 (x10_1 + 1)))) = some r := H
        have A11 := Aside0.mk A110
        clear A110
        by_cases c12 : t259 = true
        ·subst c12
         have H1 : (some true) = some r := by rw [if_pos rfl] at H; exact H
         clear H
         have H := H1
         clear H1
         obtain rfl := Option.some.inj H
         have p256 : 0 ≤ (x10_1 : Int) := of_decide_eq_true (by first | (with_reducible assumption) | assumption)
         have q256 : x10_1 < (l0.length : Int) := of_decide_eq_true (by first | (with_reducible assumption) | assumption)
         obtain ⟨ad256, A256_7, c256_7, e256, hx256_0, hx256_1, hx256_2, hx256_3, hx256_4, hx256_5, hx256_6, hx256_7, hl256_7, hi256_7⟩ := at_T37 HR0.out x10_1 p256 q256
         cases e256
         replace hx256_0 := hx_ HB hx256_0
         replace hx256_1 := hx_ HB hx256_1
         replace hx256_2 := hx_ HB hx256_2
         replace hx256_3 := hx_ HB hx256_3
         replace hx256_4 := hx_ HB hx256_4
         replace hx256_5 := hx_ HB hx256_5
         replace hx256_6 := hx_ HB hx256_6
         replace hx256_7 := hx_ HB hx256_7
         have HR256_7 := Aside0.mk hi256_7
         have HC256_7 := Aside0.mk hl256_7
         clear hi256_7 hl256_7
         replace p256 := eq_true p256
         replace q256 := eq_true q256
         go_wp2_with (first | ((with_reducible refine gD 4 rfl ?_); refine box_event rfl (N := 4) rfl (cs := #[.int .i64 0, .string (⟨#[]⟩ : ByteArray), .int .i64 0, .int .i64 0, .string (⟨#[]⟩ : ByteArray), .int .i64 0, .int .i64 0, .slice none 0 0]) (t := 37) gs_ ?_; intro gb257 hg w13 hbox hb; have n0_ := Aside0.mk (below_step (bl_ HB) hb); have n1_ := Aside0.mk (hbox); have n2_ := Aside0.mk ((by rw [hg]; exact (below_size (bl_ HB)) : w.heap.size ≤ gb257)); have n3_ := Aside0.mk ((by rw [hg]; exact (below_size (bl_ HB)) : w.heap.size ≤ gb257)); clear HB; have HB := n0_; have BK257 := n1_; have GW257 := n2_; have GE257 := n3_; clear n0_ n1_ n2_ n3_; clear hb hbox hg; have hcz14_0 : w13.cell? ⟨gb257, 0, none⟩ = some (.int .i64 0) := (blk_cell BK257.out 0).trans rfl; have hcz14_1 : w13.cell? ⟨gb257, 1, none⟩ = some (.string (⟨#[]⟩ : ByteArray)) := (blk_cell BK257.out 1).trans rfl; have hcz14_2 : w13.cell? ⟨gb257, 2, none⟩ = some (.int .i64 0) := (blk_cell BK257.out 2).trans rfl; have hcz14_3 : w13.cell? ⟨gb257, 3, none⟩ = some (.int .i64 0) := (blk_cell BK257.out 3).trans rfl; have hcz14_4 : w13.cell? ⟨gb257, 4, none⟩ = some (.string (⟨#[]⟩ : ByteArray)) := (blk_cell BK257.out 4).trans rfl; have hcz14_5 : w13.cell? ⟨gb257, 5, none⟩ = some (.int .i64 0) := (blk_cell BK257.out 5).trans rfl; have hcz14_6 : w13.cell? ⟨gb257, 6, none⟩ = some (.int .i64 0) := (blk_cell BK257.out 6).trans rfl; have hcz14_7 : w13.cell? ⟨gb257, 7, none⟩ = some (.slice none 0 0) := (blk_cell BK257.out 7).trans rfl; have hfz14_0 := blk_frozen BK257.out 0; have hfz14_1 := blk_frozen BK257.out 1; have hfz14_2 := blk_frozen BK257.out 2; have hfz14_3 := blk_frozen BK257.out 3; have hfz14_4 := blk_frozen BK257.out 4; have hfz14_5 := blk_frozen BK257.out 5; have hfz14_6 := blk_frozen BK257.out 6; have hfz14_7 := blk_frozen BK257.out 7) | ((with_reducible refine gC 57 rfl ?_); refine goesL_ (some 16) rfl rfl Tryd.func57 (by kernel_rfl) rfl #[.agg #[.string ((rd_T37 l0 x10_1).f1.f0), .int .i64 ((rd_T37 l0 x10_1).f1.f1), .int .i64 ((rd_T37 l0 x10_1).f1.f2), .string ((rd_T37 l0 x10_1).f1.f3)]] rfl am_ ?_; (with_reducible refine (chapbookref04_Great.calls ((rd_T37 l0 x10_1).f1.f0) ((rd_T37 l0 x10_1).f1.f1) ((rd_T37 l0 x10_1).f1.f2) ((rd_T37 l0 x10_1).f1.f3) false _ A6.out).mono ?_); rintro e w15 ⟨rfl, hb⟩; refine ⟨_, rfl, ?_⟩; have n0_ := Aside0.mk (blk_below (g := gb257) (o := .cells #[.int .i64 ((rd_T37 l0 x10_1).f0), .string ((rd_T37 l0 x10_1).f1.f0), .int .i64 ((rd_T37 l0 x10_1).f1.f1), .int .i64 ((rd_T37 l0 x10_1).f1.f2), .string ((rd_T37 l0 x10_1).f1.f3), .int .i64 ((rd_T37 l0 x10_1).f2.f0), .int .i64 ((rd_T37 l0 x10_1).f2.f1), .slice A256_7 ((rd_T37 l0 x10_1).f2.f2).length c256_7] 37 (0, 0)) (by (with_reducible repeat (first | refine blk_drewN ?_ _ | refine blk_drew ?_ | refine blk_alloc ?_ _)); refine blk_put (cs := #[.int .i64 ((rd_T37 l0 x10_1).f0), .string ((rd_T37 l0 x10_1).f1.f0), .int .i64 ((rd_T37 l0 x10_1).f1.f1), .int .i64 ((rd_T37 l0 x10_1).f1.f2), .string ((rd_T37 l0 x10_1).f1.f3), .int .i64 ((rd_T37 l0 x10_1).f2.f0), .int .i64 ((rd_T37 l0 x10_1).f2.f1), .slice none 0 0]) ?_ 7 _ rfl; (with_reducible repeat (first | refine blk_drewN ?_ _ | refine blk_drew ?_ | refine blk_alloc ?_ _)); refine blk_put (cs := #[.int .i64 ((rd_T37 l0 x10_1).f0), .string ((rd_T37 l0 x10_1).f1.f0), .int .i64 ((rd_T37 l0 x10_1).f1.f1), .int .i64 ((rd_T37 l0 x10_1).f1.f2), .string ((rd_T37 l0 x10_1).f1.f3), .int .i64 ((rd_T37 l0 x10_1).f2.f0), .int .i64 0, .slice none 0 0]) ?_ 6 _ rfl; (with_reducible repeat (first | refine blk_drewN ?_ _ | refine blk_drew ?_ | refine blk_alloc ?_ _)); refine blk_put (cs := #[.int .i64 ((rd_T37 l0 x10_1).f0), .string ((rd_T37 l0 x10_1).f1.f0), .int .i64 ((rd_T37 l0 x10_1).f1.f1), .int .i64 ((rd_T37 l0 x10_1).f1.f2), .string ((rd_T37 l0 x10_1).f1.f3), .int .i64 0, .int .i64 0, .slice none 0 0]) ?_ 5 _ rfl; (with_reducible repeat (first | refine blk_drewN ?_ _ | refine blk_drew ?_ | refine blk_alloc ?_ _)); refine blk_put (cs := #[.int .i64 ((rd_T37 l0 x10_1).f0), .string ((rd_T37 l0 x10_1).f1.f0), .int .i64 ((rd_T37 l0 x10_1).f1.f1), .int .i64 ((rd_T37 l0 x10_1).f1.f2), .string (⟨#[]⟩ : ByteArray), .int .i64 0, .int .i64 0, .slice none 0 0]) ?_ 4 _ rfl; (with_reducible repeat (first | refine blk_drewN ?_ _ | refine blk_drew ?_ | refine blk_alloc ?_ _)); refine blk_put (cs := #[.int .i64 ((rd_T37 l0 x10_1).f0), .string ((rd_T37 l0 x10_1).f1.f0), .int .i64 ((rd_T37 l0 x10_1).f1.f1), .int .i64 0, .string (⟨#[]⟩ : ByteArray), .int .i64 0, .int .i64 0, .slice none 0 0]) ?_ 3 _ rfl; (with_reducible repeat (first | refine blk_drewN ?_ _ | refine blk_drew ?_ | refine blk_alloc ?_ _)); refine blk_put (cs := #[.int .i64 ((rd_T37 l0 x10_1).f0), .string ((rd_T37 l0 x10_1).f1.f0), .int .i64 0, .int .i64 0, .string (⟨#[]⟩ : ByteArray), .int .i64 0, .int .i64 0, .slice none 0 0]) ?_ 2 _ rfl; (with_reducible repeat (first | refine blk_drewN ?_ _ | refine blk_drew ?_ | refine blk_alloc ?_ _)); refine blk_put (cs := #[.int .i64 ((rd_T37 l0 x10_1).f0), .string (⟨#[]⟩ : ByteArray), .int .i64 0, .int .i64 0, .string (⟨#[]⟩ : ByteArray), .int .i64 0, .int .i64 0, .slice none 0 0]) ?_ 1 _ rfl; (with_reducible repeat (first | refine blk_drewN ?_ _ | refine blk_drew ?_ | refine blk_alloc ?_ _)); refine blk_put (cs := #[.int .i64 0, .string (⟨#[]⟩ : ByteArray), .int .i64 0, .int .i64 0, .string (⟨#[]⟩ : ByteArray), .int .i64 0, .int .i64 0, .slice none 0 0]) ?_ 0 _ rfl; (with_reducible repeat (first | refine blk_drewN ?_ _ | refine blk_drew ?_ | refine blk_alloc ?_ _)); exact BK257.out) hb); have n1_ := Aside0.mk (below_step (bl_ HB) hb); clear BK257; clear HB; have BK257 := n0_; have HB := n1_; clear n0_ n1_; (try clear hb); (try clear hb2); (try clear hk); (try clear hi); have hcz16_0 : w15.cell? ⟨gb257, 0, none⟩ = some (.int .i64 ((rd_T37 l0 x10_1).f0)) := (blk_cell BK257.out 0).trans rfl; have hcz16_1 : w15.cell? ⟨gb257, 1, none⟩ = some (.string ((rd_T37 l0 x10_1).f1.f0)) := (blk_cell BK257.out 1).trans rfl; have hcz16_2 : w15.cell? ⟨gb257, 2, none⟩ = some (.int .i64 ((rd_T37 l0 x10_1).f1.f1)) := (blk_cell BK257.out 2).trans rfl; have hcz16_3 : w15.cell? ⟨gb257, 3, none⟩ = some (.int .i64 ((rd_T37 l0 x10_1).f1.f2)) := (blk_cell BK257.out 3).trans rfl; have hcz16_4 : w15.cell? ⟨gb257, 4, none⟩ = some (.string ((rd_T37 l0 x10_1).f1.f3)) := (blk_cell BK257.out 4).trans rfl; have hcz16_5 : w15.cell? ⟨gb257, 5, none⟩ = some (.int .i64 ((rd_T37 l0 x10_1).f2.f0)) := (blk_cell BK257.out 5).trans rfl; have hcz16_6 : w15.cell? ⟨gb257, 6, none⟩ = some (.int .i64 ((rd_T37 l0 x10_1).f2.f1)) := (blk_cell BK257.out 6).trans rfl; have hcz16_7 : w15.cell? ⟨gb257, 7, none⟩ = some (.slice A256_7 ((rd_T37 l0 x10_1).f2.f2).length c256_7) := (blk_cell BK257.out 7).trans rfl; have hfz16_0 := blk_frozen BK257.out 0; have hfz16_1 := blk_frozen BK257.out 1; have hfz16_2 := blk_frozen BK257.out 2; have hfz16_3 := blk_frozen BK257.out 3; have hfz16_4 := blk_frozen BK257.out 4; have hfz16_5 := blk_frozen BK257.out 5; have hfz16_6 := blk_frozen BK257.out 6; have hfz16_7 := blk_frozen BK257.out 7) | (go_at_call 34; (with_reducible refine (chapbookref07_Great.calls k1 ((rd_T37 l0 x10_1).f2.f0) ((rd_T37 l0 x10_1).f2.f1) _ _ ((rd_T37 l0 x10_1).f2.f2) true _ ?side1 ?side2 A11.out).mono ?_); (case side1 => repeat (first | exact (Kd.C_below HR256_7.out HB.out) | (with_reducible refine Kd.C_alloc ?_ _) | (with_reducible refine Kd.C_drewN ?_ _) | (with_reducible refine Kd.C_drew ?_))); (case side2 => exact HC256_7.out); rintro e w17 ⟨rfl, hb⟩; have n0_ := bb_ BK257 hb; have n1_ := Aside0.mk (below_step (bl_ HB) hb); clear BK257; clear HB; have BK257 := n0_; have HB := n1_; clear n0_ n1_; (try clear hb); (try clear hb2); (try clear hk); (try clear hi)))
         go_ret
         exact ⟨ew_, bl_ HB⟩
        ·replace c12 := Bool.eq_false_iff.mpr c12
         subst c12
         have H1 : (chapbooklaw17_great.l0 k1 l0 (l0.length : Int) (wrap64 (x10_1 + 1))) = some r := by rw [if_neg (show ¬ (false = true) by decide)] at H; exact H
         clear H
         have H := H1
         clear H1
         have H' := Aside0.mk H
         clear H
         have p256 : 0 ≤ (x10_1 : Int) := of_decide_eq_true (by first | (with_reducible assumption) | assumption)
         have q256 : x10_1 < (l0.length : Int) := of_decide_eq_true (by first | (with_reducible assumption) | assumption)
         obtain ⟨ad256, A256_7, c256_7, e256, hx256_0, hx256_1, hx256_2, hx256_3, hx256_4, hx256_5, hx256_6, hx256_7, hl256_7, hi256_7⟩ := at_T37 HR0.out x10_1 p256 q256
         cases e256
         replace hx256_0 := hx_ HB hx256_0
         replace hx256_1 := hx_ HB hx256_1
         replace hx256_2 := hx_ HB hx256_2
         replace hx256_3 := hx_ HB hx256_3
         replace hx256_4 := hx_ HB hx256_4
         replace hx256_5 := hx_ HB hx256_5
         replace hx256_6 := hx_ HB hx256_6
         replace hx256_7 := hx_ HB hx256_7
         have HR256_7 := Aside0.mk hi256_7
         have HC256_7 := Aside0.mk hl256_7
         clear hi256_7 hl256_7
         replace p256 := eq_true p256
         replace q256 := eq_true q256
         go_wp2_with (first | ((with_reducible refine gD 4 rfl ?_); refine box_event rfl (N := 4) rfl (cs := #[.int .i64 0, .string (⟨#[]⟩ : ByteArray), .int .i64 0, .int .i64 0, .string (⟨#[]⟩ : ByteArray), .int .i64 0, .int .i64 0, .slice none 0 0]) (t := 37) gs_ ?_; intro gb257 hg w18 hbox hb; have n0_ := Aside0.mk (below_step (bl_ HB) hb); have n1_ := Aside0.mk (hbox); have n2_ := Aside0.mk ((by rw [hg]; exact (below_size (bl_ HB)) : w.heap.size ≤ gb257)); have n3_ := Aside0.mk ((by rw [hg]; exact (below_size (bl_ HB)) : w.heap.size ≤ gb257)); clear HB; have HB := n0_; have BK257 := n1_; have GW257 := n2_; have GE257 := n3_; clear n0_ n1_ n2_ n3_; clear hb hbox hg; have hcz19_0 : w18.cell? ⟨gb257, 0, none⟩ = some (.int .i64 0) := (blk_cell BK257.out 0).trans rfl; have hcz19_1 : w18.cell? ⟨gb257, 1, none⟩ = some (.string (⟨#[]⟩ : ByteArray)) := (blk_cell BK257.out 1).trans rfl; have hcz19_2 : w18.cell? ⟨gb257, 2, none⟩ = some (.int .i64 0) := (blk_cell BK257.out 2).trans rfl; have hcz19_3 : w18.cell? ⟨gb257, 3, none⟩ = some (.int .i64 0) := (blk_cell BK257.out 3).trans rfl; have hcz19_4 : w18.cell? ⟨gb257, 4, none⟩ = some (.string (⟨#[]⟩ : ByteArray)) := (blk_cell BK257.out 4).trans rfl; have hcz19_5 : w18.cell? ⟨gb257, 5, none⟩ = some (.int .i64 0) := (blk_cell BK257.out 5).trans rfl; have hcz19_6 : w18.cell? ⟨gb257, 6, none⟩ = some (.int .i64 0) := (blk_cell BK257.out 6).trans rfl; have hcz19_7 : w18.cell? ⟨gb257, 7, none⟩ = some (.slice none 0 0) := (blk_cell BK257.out 7).trans rfl; have hfz19_0 := blk_frozen BK257.out 0; have hfz19_1 := blk_frozen BK257.out 1; have hfz19_2 := blk_frozen BK257.out 2; have hfz19_3 := blk_frozen BK257.out 3; have hfz19_4 := blk_frozen BK257.out 4; have hfz19_5 := blk_frozen BK257.out 5; have hfz19_6 := blk_frozen BK257.out 6; have hfz19_7 := blk_frozen BK257.out 7) | ((with_reducible refine gC 57 rfl ?_); refine goesL_ (some 16) rfl rfl Tryd.func57 (by kernel_rfl) rfl #[.agg #[.string ((rd_T37 l0 x10_1).f1.f0), .int .i64 ((rd_T37 l0 x10_1).f1.f1), .int .i64 ((rd_T37 l0 x10_1).f1.f2), .string ((rd_T37 l0 x10_1).f1.f3)]] rfl am_ ?_; (with_reducible refine (chapbookref04_Great.calls ((rd_T37 l0 x10_1).f1.f0) ((rd_T37 l0 x10_1).f1.f1) ((rd_T37 l0 x10_1).f1.f2) ((rd_T37 l0 x10_1).f1.f3) false _ A6.out).mono ?_); rintro e w20 ⟨rfl, hb⟩; refine ⟨_, rfl, ?_⟩; have n0_ := Aside0.mk (blk_below (g := gb257) (o := .cells #[.int .i64 ((rd_T37 l0 x10_1).f0), .string ((rd_T37 l0 x10_1).f1.f0), .int .i64 ((rd_T37 l0 x10_1).f1.f1), .int .i64 ((rd_T37 l0 x10_1).f1.f2), .string ((rd_T37 l0 x10_1).f1.f3), .int .i64 ((rd_T37 l0 x10_1).f2.f0), .int .i64 ((rd_T37 l0 x10_1).f2.f1), .slice A256_7 ((rd_T37 l0 x10_1).f2.f2).length c256_7] 37 (0, 0)) (by (with_reducible repeat (first | refine blk_drewN ?_ _ | refine blk_drew ?_ | refine blk_alloc ?_ _)); refine blk_put (cs := #[.int .i64 ((rd_T37 l0 x10_1).f0), .string ((rd_T37 l0 x10_1).f1.f0), .int .i64 ((rd_T37 l0 x10_1).f1.f1), .int .i64 ((rd_T37 l0 x10_1).f1.f2), .string ((rd_T37 l0 x10_1).f1.f3), .int .i64 ((rd_T37 l0 x10_1).f2.f0), .int .i64 ((rd_T37 l0 x10_1).f2.f1), .slice none 0 0]) ?_ 7 _ rfl; (with_reducible repeat (first | refine blk_drewN ?_ _ | refine blk_drew ?_ | refine blk_alloc ?_ _)); refine blk_put (cs := #[.int .i64 ((rd_T37 l0 x10_1).f0), .string ((rd_T37 l0 x10_1).f1.f0), .int .i64 ((rd_T37 l0 x10_1).f1.f1), .int .i64 ((rd_T37 l0 x10_1).f1.f2), .string ((rd_T37 l0 x10_1).f1.f3), .int .i64 ((rd_T37 l0 x10_1).f2.f0), .int .i64 0, .slice none 0 0]) ?_ 6 _ rfl; (with_reducible repeat (first | refine blk_drewN ?_ _ | refine blk_drew ?_ | refine blk_alloc ?_ _)); refine blk_put (cs := #[.int .i64 ((rd_T37 l0 x10_1).f0), .string ((rd_T37 l0 x10_1).f1.f0), .int .i64 ((rd_T37 l0 x10_1).f1.f1), .int .i64 ((rd_T37 l0 x10_1).f1.f2), .string ((rd_T37 l0 x10_1).f1.f3), .int .i64 0, .int .i64 0, .slice none 0 0]) ?_ 5 _ rfl; (with_reducible repeat (first | refine blk_drewN ?_ _ | refine blk_drew ?_ | refine blk_alloc ?_ _)); refine blk_put (cs := #[.int .i64 ((rd_T37 l0 x10_1).f0), .string ((rd_T37 l0 x10_1).f1.f0), .int .i64 ((rd_T37 l0 x10_1).f1.f1), .int .i64 ((rd_T37 l0 x10_1).f1.f2), .string (⟨#[]⟩ : ByteArray), .int .i64 0, .int .i64 0, .slice none 0 0]) ?_ 4 _ rfl; (with_reducible repeat (first | refine blk_drewN ?_ _ | refine blk_drew ?_ | refine blk_alloc ?_ _)); refine blk_put (cs := #[.int .i64 ((rd_T37 l0 x10_1).f0), .string ((rd_T37 l0 x10_1).f1.f0), .int .i64 ((rd_T37 l0 x10_1).f1.f1), .int .i64 0, .string (⟨#[]⟩ : ByteArray), .int .i64 0, .int .i64 0, .slice none 0 0]) ?_ 3 _ rfl; (with_reducible repeat (first | refine blk_drewN ?_ _ | refine blk_drew ?_ | refine blk_alloc ?_ _)); refine blk_put (cs := #[.int .i64 ((rd_T37 l0 x10_1).f0), .string ((rd_T37 l0 x10_1).f1.f0), .int .i64 0, .int .i64 0, .string (⟨#[]⟩ : ByteArray), .int .i64 0, .int .i64 0, .slice none 0 0]) ?_ 2 _ rfl; (with_reducible repeat (first | refine blk_drewN ?_ _ | refine blk_drew ?_ | refine blk_alloc ?_ _)); refine blk_put (cs := #[.int .i64 ((rd_T37 l0 x10_1).f0), .string (⟨#[]⟩ : ByteArray), .int .i64 0, .int .i64 0, .string (⟨#[]⟩ : ByteArray), .int .i64 0, .int .i64 0, .slice none 0 0]) ?_ 1 _ rfl; (with_reducible repeat (first | refine blk_drewN ?_ _ | refine blk_drew ?_ | refine blk_alloc ?_ _)); refine blk_put (cs := #[.int .i64 0, .string (⟨#[]⟩ : ByteArray), .int .i64 0, .int .i64 0, .string (⟨#[]⟩ : ByteArray), .int .i64 0, .int .i64 0, .slice none 0 0]) ?_ 0 _ rfl; (with_reducible repeat (first | refine blk_drewN ?_ _ | refine blk_drew ?_ | refine blk_alloc ?_ _)); exact BK257.out) hb); have n1_ := Aside0.mk (below_step (bl_ HB) hb); clear BK257; clear HB; have BK257 := n0_; have HB := n1_; clear n0_ n1_; (try clear hb); (try clear hb2); (try clear hk); (try clear hi); have hcz21_0 : w20.cell? ⟨gb257, 0, none⟩ = some (.int .i64 ((rd_T37 l0 x10_1).f0)) := (blk_cell BK257.out 0).trans rfl; have hcz21_1 : w20.cell? ⟨gb257, 1, none⟩ = some (.string ((rd_T37 l0 x10_1).f1.f0)) := (blk_cell BK257.out 1).trans rfl; have hcz21_2 : w20.cell? ⟨gb257, 2, none⟩ = some (.int .i64 ((rd_T37 l0 x10_1).f1.f1)) := (blk_cell BK257.out 2).trans rfl; have hcz21_3 : w20.cell? ⟨gb257, 3, none⟩ = some (.int .i64 ((rd_T37 l0 x10_1).f1.f2)) := (blk_cell BK257.out 3).trans rfl; have hcz21_4 : w20.cell? ⟨gb257, 4, none⟩ = some (.string ((rd_T37 l0 x10_1).f1.f3)) := (blk_cell BK257.out 4).trans rfl; have hcz21_5 : w20.cell? ⟨gb257, 5, none⟩ = some (.int .i64 ((rd_T37 l0 x10_1).f2.f0)) := (blk_cell BK257.out 5).trans rfl; have hcz21_6 : w20.cell? ⟨gb257, 6, none⟩ = some (.int .i64 ((rd_T37 l0 x10_1).f2.f1)) := (blk_cell BK257.out 6).trans rfl; have hcz21_7 : w20.cell? ⟨gb257, 7, none⟩ = some (.slice A256_7 ((rd_T37 l0 x10_1).f2.f2).length c256_7) := (blk_cell BK257.out 7).trans rfl; have hfz21_0 := blk_frozen BK257.out 0; have hfz21_1 := blk_frozen BK257.out 1; have hfz21_2 := blk_frozen BK257.out 2; have hfz21_3 := blk_frozen BK257.out 3; have hfz21_4 := blk_frozen BK257.out 4; have hfz21_5 := blk_frozen BK257.out 5; have hfz21_6 := blk_frozen BK257.out 6; have hfz21_7 := blk_frozen BK257.out 7) | (go_at_call 34; (with_reducible refine (chapbookref07_Great.calls k1 ((rd_T37 l0 x10_1).f2.f0) ((rd_T37 l0 x10_1).f2.f1) _ _ ((rd_T37 l0 x10_1).f2.f2) false _ ?side1 ?side2 A11.out).mono ?_); (case side1 => repeat (first | exact (Kd.C_below HR256_7.out HB.out) | (with_reducible refine Kd.C_alloc ?_ _) | (with_reducible refine Kd.C_drewN ?_ _) | (with_reducible refine Kd.C_drew ?_))); (case side2 => exact HC256_7.out); rintro e w22 ⟨rfl, hb⟩; have n0_ := bb_ BK257 hb; have n1_ := Aside0.mk (below_step (bl_ HB) hb); clear BK257; clear HB; have BK257 := n0_; have HB := n1_; clear n0_ n1_; (try clear hb); (try clear hb2); (try clear hk); (try clear hi)))
         go_roundg k1
         case measure => have := HK1.out; omega
         case rel => exact ⟨(wrap64 (x10_1 + 1)), er_, H', ⟨by have := HK1.out; omega⟩, ⟨bl_ HB⟩⟩
      ·rw [if_neg c5] at H
       exact absurd H (by simp)
     ·rw [if_neg c4] at H
      exact absurd H (by simp)
    ·rw [if_neg c3] at H
     have c3b0 : decide (x10_1 < (l0.length : Int)) = false := decide_eq_false c3
     clear c3
     obtain rfl := Option.some.inj H
     go_wp2
     go_ret
     exact ⟨ew_, bl_ HB⟩
def chapbooklaw17_add.f (a0 : Int) : Option (ByteArray × Int × Int × ByteArray) := some ((⟨#[97]⟩ : ByteArray), 3, a0, (⟨#[]⟩ : ByteArray))
theorem chapbooklaw17_add.calls (a0 : Int) (r1 : ByteArray) (r2 : Int) (r3 : Int) (r4 : ByteArray) (w : World) (h : chapbooklaw17_add.f a0 = some (r1, r2, r3, r4)) :
  Calls Tryd.prog 56 #[.int .i64 a0] w fun e w' => e = .returned (.agg #[.string r1, .int .i64 r2, .int .i64 r3, .string r4]) ∧ Below w.heap.size w w' := by
 have hu32 := Tryd.underlying32
 have HB := Aside0.mk (Below.refl w.heap.size w)
 have H : (some ((⟨#[97]⟩ : ByteArray), 3, a0, (⟨#[]⟩ : ByteArray))) = some (r1, r2, r3, r4) := h
 clear h
 simp only [Option.some.injEq, Prod.mk.injEq] at H
 obtain ⟨rfl, rfl, rfl, rfl⟩ := H
 go_enter Tryd.func56, Tryd.ntmps56
 go_wp2_with (first | ((with_reducible refine gD 2 rfl ?_); refine box_event rfl (N := 2) rfl (cs := #[.string (⟨#[]⟩ : ByteArray), .int .i64 0, .int .i64 0, .string (⟨#[]⟩ : ByteArray)]) (t := 32) gs_ ?_; intro gb260 hg w2 hbox hb; have n0_ := Aside0.mk (below_step (bl_ HB) hb); have n1_ := Aside0.mk (hbox); have n2_ := Aside0.mk ((by rw [hg]; exact (below_size (bl_ HB)) : w.heap.size ≤ gb260)); have n3_ := Aside0.mk ((by rw [hg]; exact (below_size (bl_ HB)) : w.heap.size ≤ gb260)); clear HB; have HB := n0_; have BK260 := n1_; have GW260 := n2_; have GE260 := n3_; clear n0_ n1_ n2_ n3_; clear hb hbox hg; have hz3 := kb4_ BK260))
 refine bodyPost_ret (results_cell_row rfl _ _ gb260 32 #[.string (⟨#[97]⟩ : ByteArray), .int .i64 3, .int .i64 a0, .string (⟨#[]⟩ : ByteArray)] (0, 0) _ rfl (by (with_reducible repeat (first | refine blk_drewN ?_ _ | refine blk_drew ?_ | refine blk_alloc ?_ _)); refine blk_put (cs := #[.string (⟨#[97]⟩ : ByteArray), .int .i64 3, .int .i64 a0, .string (⟨#[]⟩ : ByteArray)]) ?_ 3 _ rfl; (with_reducible repeat (first | refine blk_drewN ?_ _ | refine blk_drew ?_ | refine blk_alloc ?_ _)); refine blk_put (cs := #[.string (⟨#[97]⟩ : ByteArray), .int .i64 3, .int .i64 0, .string (⟨#[]⟩ : ByteArray)]) ?_ 2 _ rfl; (with_reducible repeat (first | refine blk_drewN ?_ _ | refine blk_drew ?_ | refine blk_alloc ?_ _)); refine blk_put (cs := #[.string (⟨#[97]⟩ : ByteArray), .int .i64 0, .int .i64 0, .string (⟨#[]⟩ : ByteArray)]) ?_ 1 _ rfl; (with_reducible repeat (first | refine blk_drewN ?_ _ | refine blk_drew ?_ | refine blk_alloc ?_ _)); refine blk_put (cs := #[.string (⟨#[]⟩ : ByteArray), .int .i64 0, .int .i64 0, .string (⟨#[]⟩ : ByteArray)]) ?_ 0 _ rfl; (with_reducible repeat (first | refine blk_drewN ?_ _ | refine blk_drew ?_ | refine blk_alloc ?_ _)); exact BK260.out) Tryd.underlying32 rfl (by kernel_rfl)) rfl ?_
 exact ⟨ew_, bl_ HB⟩
end Go.Proofs.YtjdenpmaianmfaaDoor.Q
namespace Go.Proofs.YtjdenpmaianmfaaDoor.J
set_option maxHeartbeats 16000000
set_option maxRecDepth 100000
set_option linter.unusedSimpArgs false
set_option linter.unusedVariables false
open Go Go.RowKit Go.Proofs.YtjdenpmaianmfaaDoorW.PrintWords Go.Proofs.YtjdenpmaianmfaaDoorW.PrintLast Go.Proofs.YtjdenpmaianmfaaDoorW.PrintMore Go.Proofs.YtjdenpmaianmfaaDoor.Q Go.Proofs.YtjdenpmaianmfaaDoor.Sep Go.Proofs.YtjdenpmaianmfaaDoor.Pure
attribute [local go_sem] field_V
end Go.Proofs.YtjdenpmaianmfaaDoor.J
namespace Go.Proofs.YtjdenpmaianmfaaDoor.J
set_option maxHeartbeats 16000000
set_option maxRecDepth 100000
set_option linter.unusedSimpArgs false
set_option linter.unusedVariables false
open Go Go.RowKit Go.Proofs.YtjdenpmaianmfaaDoorW.PrintWords Go.Proofs.YtjdenpmaianmfaaDoorW.PrintLast Go.Proofs.YtjdenpmaianmfaaDoorW.PrintMore Go.Proofs.YtjdenpmaianmfaaDoor.Q Go.Proofs.YtjdenpmaianmfaaDoor.Sep Go.Proofs.YtjdenpmaianmfaaDoor.Pure
theorem rowsC {N : Nat → Prop} {w : World} {l : List HP} {i n c : Nat} {A : Option Addr} {rows : List (List Value)} {X : List Rnd7} (h : Own N w l) (hi : l[i]? = some (nrow (Kd.raw 3) tR7 (.slice A n c) rows)) (hl : Lead N w rows X) : n = X.length ∧ n ≤ c ∧ Kd.C kR7 w A X.length X := lead_C h hi hl
abbrev Act7 := S37
theorem rd_mem {L : List Rnd7} {x : Int} (h0 : 0 ≤ x) (h1 : x < L.length) : rd_T35 L x ∈ L := by
 have hl : x.toNat < L.length := by omega
 show L.getD x.toNat _ ∈ L
 rw [List.getD_eq_getElem?_getD, List.getElem?_eq_getElem hl]
 exact List.getElem_mem hl
def Few (m : Nat) (L : List Rnd7) : Prop := ∀ r ∈ L, r.f2.length ≤ m
theorem Few.bnd {m : Nat} {L : List Rnd7} (h : Few m L) (hm : m ≤ 1000000) : Aside0 (bnd L) := ⟨fun x h0 h1 => Nat.le_trans (h _ (rd_mem h0 h1)) hm⟩
theorem Few.app {m : Nat} {L M : List Rnd7} (h : Few m L) (k : Few m M) : Few m (L ++ M) := fun r hr => (List.mem_append.1 hr).elim (h r) (k r)
theorem Few.one {m : Nat} {r : Rnd7} (h : r.f2.length ≤ m) : Few m [r] := fun q hq => by rw [List.mem_singleton] at hq; subst hq; exact h
theorem Few.drop {m : Nat} {L : List Rnd7} (h : Few m L) (k : Nat) : Few m (L.drop k) := fun r hr => h r (List.mem_of_mem_drop hr)
theorem Few.mono {m n : Nat} {L : List Rnd7} (h : Few m L) (k : m ≤ n) : Few n L := fun r hr => Nat.le_trans (h r hr) k
theorem Few.flat {m : Nat} : ∀ {L : List Rnd7}, Few m L → (flatR L).length ≤ m * L.length
 | [], _ => by simp [flatR]
 | r :: L, h => by
  have ih := Few.flat (L := L) (fun q hq => h q (List.mem_cons_of_mem _ hq))
  have h1 := h r List.mem_cons_self
  have e : flatR (r :: L) = r.f2 ++ flatR L := by unfold flatR; rw [List.flatMap_cons]
  rw [e, List.length_append, List.length_cons, Nat.mul_succ]
  omega
def ownR (o : Int) (K : List Rnd7) : List Rnd7 := K.filter fun r => decide (r.f0 = o)
theorem ownR_yes {o : Int} {K : List Rnd7} {r : Rnd7} (h : r.f0 = o) : ownR o (K ++ [r]) = ownR o K ++ [r] := by
 unfold ownR
 rw [List.filter_append, List.filter_cons, if_pos (decide_eq_true h)]
 rfl
theorem ownR_no {o : Int} {K : List Rnd7} {r : Rnd7} (h : r.f0 ≠ o) : ownR o (K ++ [r]) = ownR o K := by
 unfold ownR
 rw [List.filter_append, List.filter_cons, if_neg (by simpa using h)]
 simp
theorem num_more {M : List Rnd7} {r : Rnd7} (h : Num M) (hr : r.f1 = M.length + 1) : Num (M ++ [r]) := fun x h0 h1 => by
 rw [rd_snoc _ _ x h0 h1]
 rw [List.length_append, List.length_singleton] at h1
 split
 ·exact h x h0 (by omega)
 ·rw [hr]
  omega
theorem rd_drop {L : List Rnd7} {k : Nat} (hk : k < L.length) : rd_T35 (L.drop k) 0 = rd_T35 L k := by
 show (L.drop k).getD 0 _ = L.getD (k : Int).toNat _
 rw [List.getD_eq_getElem?_getD, List.getD_eq_getElem?_getD, List.getElem?_drop]
 rfl
structure Inv (o jm x : Int) (K P L : List Rnd7) (U : List Upd7) : Prop where
 k : (K.length : Int) ≤ x
 l : (L.length : Int) ≤ x
 u : (U.length : Int) ≤ x
 m : (L.length : Int) ≤ jm
 n : Num L
 f : Few 8 L
 p : (ownR o K).length ≤ L.length ∧ P = L.drop (ownR o K).length
 g : Few 20 K
 q : Num (ownR o K)
 o : ∀ r ∈ L, r.f0 = o
theorem Inv.zero {o jm : Int} (h : 0 ≤ jm) : Inv o jm 0 [] [] [] [] := ⟨by simp, by simp, by simp, by simpa using h, num_nil, fun r hr => by simp at hr, ⟨by simp [ownR], rfl⟩, fun r hr => by simp at hr, num_nil, fun r hr => by simp at hr⟩
theorem Inv.next {o jm x y : Int} {K P L : List Rnd7} {U : List Upd7} (h : Inv o jm x K P L U) (hy : x ≤ y) : Inv o jm y K P L U := ⟨by have := h.k; omega, by have := h.l; omega, by have := h.u; omega, h.m, h.n, h.f, h.p, h.g, h.q, h.o⟩
theorem Inv.fp {o jm x : Int} {K P L : List Rnd7} {U : List Upd7} (h : Inv o jm x K P L U) : Few 8 P := by
 rw [h.p.2]
 exact h.f.drop _
theorem Inv.pl {o jm x : Int} {K P L : List Rnd7} {U : List Upd7} (h : Inv o jm x K P L U) : P.length ≤ L.length := by
 rw [h.p.2, List.length_drop]
 omega
theorem Inv.first {o jm x : Int} {K P L : List Rnd7} {U : List Upd7} (h : Inv o jm x K P L U) (hp : P.length ≠ 0) : (rd_T35 P 0).f1 = (ownR o K).length + 1 ∧ (ownR o K).length < L.length := by
 have hl : (ownR o K).length < L.length := by rw [h.p.2, List.length_drop] at hp; omega
 rw [h.p.2, rd_drop hl]
 exact ⟨h.n _ (by omega) (by omega), hl⟩
theorem Inv.sizes {o jm x : Int} {K P L : List Rnd7} {U : List Upd7} (h : Inv o jm x K P L U) (hx : x ≤ 51) : K.length ≤ 1000000 ∧ P.length ≤ 1000000 ∧ L.length ≤ 1000000 ∧ U.length ≤ 1000000 ∧ K.length + P.length ≤ 1000000 ∧ (flatR (K ++ P)).length + U.length < 1000000 := by
 have h1 := h.k; have h2 := h.l; have h3 := h.u; have h4 := h.pl
 have h5 := ((h.g.app (h.fp.mono (by decide))) : Few 20 (K ++ P)).flat
 rw [List.length_append] at h5
 omega
inductive Stp (o jm mtu push : Int) (a : Act7) (K P L : List Rnd7) (U : List Upd7) : List Rnd7 → List Rnd7 → List Rnd7 → List Upd7 → Prop
 | upd (h : a.f0 = 1) : Stp o jm mtu push a K P L U K P L (updU U a.f1.f0 a.f1.f1 a.f1.f2 a.f1.f3 mtu)
 | push (h : a.f0 = 2) (he : pushE o jm push L P U = 0) : Stp o jm mtu push a K P L U K (P ++ [(⟨o, (L.length : Int) + 1, U⟩ : Rnd7)]) (L ++ [(⟨o, (L.length : Int) + 1, U⟩ : Rnd7)]) []
 | take (h : a.f0 = 3) : Stp o jm mtu push a K P L U (takeK o K P a.f2) (takeP o P a.f2.f0 a.f2.f1) L U
 | resume (h : a.f0 = 4) : Stp o jm mtu push a K P L U [] L L []
 | echo (h : a.f0 = 5) (hp : P.length ≠ 0) : Stp o jm mtu push a K P L U (takeK o K P (rd_T35 P 0)) (takeP o P (rd_T35 P 0).f0 (rd_T35 P 0).f1) L U
 | none : Stp o jm mtu push a K P L U K P L U
theorem addE_may {o jm : Int} {L : List Rnd7} {U : List Upd7} (h : addE o jm L U = 0) : mayR o ((L.length : Int) + 1) U = 0 ∧ (L.length : Int) ≠ jm := by
 unfold addE at h
 split at h
 ·cases h
 ·exact ⟨h, by assumption⟩
theorem push_may {o jm push : Int} {L P : List Rnd7} {U : List Upd7} (h : pushE o jm push L P U = 0) : U.length ≠ 0 ∧ addE o jm L U = 0 := by
 rcases push_cases o jm push L P U with ⟨h1, e⟩ | ⟨h1, h2, e⟩ | ⟨h1, h2, h3, e⟩ | ⟨h1, h2, h3, e⟩
 ·rw [e] at h; cases h
 ·rw [e] at h; cases h
 ·exact (h3 (e ▸ h)).elim
 ·exact ⟨h1, h3⟩
theorem few_take {o : Int} {m : Nat} {K P : List Rnd7} {r : Rnd7} (h : Few m K) (hr : r.f2.length ≤ m) : Few m (takeK o K P r) := by
 unfold takeK
 split
 ·exact h.app (Few.one hr)
 ·exact h
theorem Inv.take {o jm x : Int} {K P L : List Rnd7} {U : List Upd7} (h : Inv o jm x K P L U) (r : Rnd7) : ((ownR o (takeK o K P r)).length ≤ L.length ∧ takeP o P r.f0 r.f1 = L.drop (ownR o (takeK o K P r)).length) ∧ Num (ownR o (takeK o K P r)) := by
 rcases take_cases o P r.f0 r.f1 with ⟨_, _, e1, e2⟩ | ⟨_, _, _, e1, e2⟩ | ⟨h1, h2, h3, e1, e2⟩ | ⟨h1, e1, e2⟩
 ·rw [takeK_no e1, e2]
  exact ⟨h.p, h.q⟩
 ·rw [takeK_no e1, e2]
  exact ⟨h.p, h.q⟩
 ·obtain ⟨e3, e4⟩ := h.first h2
  rw [takeK_yes e1, e2, ownR_yes h1, List.length_append, List.length_singleton]
  refine ⟨⟨by omega, by rw [h.p.2, List.drop_drop]⟩, num_more h.q (by rw [← h3, e3])⟩
 ·rw [takeK_yes e1, e2, ownR_no h1]
  exact ⟨h.p, h.q⟩
theorem Inv.step {o jm mtu push x : Int} {a : Act7} {K P L K' P' L' : List Rnd7} {U U' : List Upd7} (h : Inv o jm x K P L U) (s : Stp o jm mtu push a K P L U K' P' L' U') (h20 : a.f2.f2.length ≤ 20) (hx : 0 ≤ x) : Inv o jm (x + 1) K' P' L' U' := by
 have hn := h.next (show x ≤ x + 1 by omega)
 have hk0 := h.k; have hl0 := h.l; have hu0 := h.u; have hm0 := h.m
 cases s with
 | upd h1 =>
  have := upd_len U a.f1.f0 a.f1.f1 a.f1.f2 a.f1.f3 mtu
  exact ⟨hn.k, hn.l, by omega, h.m, h.n, h.f, h.p, h.g, h.q, h.o⟩
 | push h1 he =>
  obtain ⟨e1, e2⟩ := push_may he
  obtain ⟨e3, e4⟩ := addE_may e2
  refine ⟨hn.k, by rw [List.length_append, List.length_singleton]; omega, by simp; omega, by rw [List.length_append, List.length_singleton]; omega, num_snoc o U h.n, h.f.app (Few.one (mayR_len e3)), ⟨by rw [List.length_append]; have := h.p.1; omega, ?_⟩, h.g, h.q, fun r hr => ?_⟩
  ·rw [h.p.2]
   exact (List.drop_append_of_le_length h.p.1).symm
  ·rcases List.mem_append.1 hr with hr | hr
   ·exact h.o r hr
   ·rw [List.mem_singleton] at hr
    subst hr
    rfl
 | take h1 =>
  have := takeK_len o K P a.f2
  obtain ⟨q1, q2⟩ := h.take a.f2
  exact ⟨by omega, hn.l, hn.u, h.m, h.n, h.f, q1, few_take h.g h20, q2, h.o⟩
 | resume h1 => exact ⟨by simp; omega, hn.l, by simp; omega, h.m, h.n, h.f, ⟨by simp [ownR], rfl⟩, fun r hr => by simp at hr, num_nil, h.o⟩
 | echo h1 hp =>
  have := takeK_len o K P (rd_T35 P 0)
  obtain ⟨q1, q2⟩ := h.take (rd_T35 P 0)
  exact ⟨by omega, hn.l, hn.u, h.m, h.n, h.f, q1, few_take h.g (Nat.le_trans (h.fp _ (rd_mem (by decide) (by omega))) (by decide)), q2, h.o⟩
 | none => exact hn
theorem gAll_loop (l : List Upd7) (hl : l.length ≤ 200) : ∀ (d k : Nat) (x : Int), 0 ≤ x → x ≤ l.length → (l.length : Int) - x = d → d + 1 ≤ k → ∃ b, chapbookref04_GreatAll.l0 k l x = some b := by
 intro d
 induction d with
 | zero =>
  intro k x h0 h1 hd hk
  obtain ⟨k, rfl⟩ : ∃ q, k = q + 1 := ⟨k - 1, by omega⟩
  unfold chapbookref04_GreatAll.l0
  exact ⟨false, by rw [if_neg (by omega)]⟩
 | succ d ih =>
  intro k x h0 h1 hd hk
  obtain ⟨k, rfl⟩ : ∃ q, k = q + 1 := ⟨k - 1, by omega⟩
  unfold chapbookref04_GreatAll.l0
  rw [if_pos (by omega), if_pos h0]
  obtain ⟨b, hb⟩ : ∃ b, chapbookref04_Great.f (rd_T32 l x).f0 (rd_T32 l x).f1 (rd_T32 l x).f2 (rd_T32 l x).f3 = some b := by
   unfold chapbookref04_Great.f
   split
   ·exact ⟨_, rfl⟩
   ·exact ⟨_, rfl⟩
  rw [hb, Option.bind_some]
  cases b
  ·rw [if_neg (by decide), w64s17 h0 (show x < (l.length : Int) by omega) (by omega)]
   exact ih k (x + 1) (by omega) (by omega) (by omega) (by omega)
  ·exact ⟨true, if_pos rfl⟩
theorem great7_ok (k : Nat) (hk : 202 ≤ k) (o n : Int) (us : List Upd7) : ∃ b, chapbookref07_Great.f k o n us = some b ∧ (b = false → us.length ≤ 20) := by
 unfold chapbookref07_Great.f
 by_cases h : (us.length : Int) > 20
 ·exact ⟨true, if_pos h, by simp⟩
 ·rw [if_neg h]
  unfold chapbookref04_GreatAll.f
  rw [if_neg (by omega)]
  obtain ⟨b, hb⟩ := gAll_loop us (by omega) us.length k 0 (by omega) (by omega) (by omega) (by omega)
  rw [hb, Option.bind_some]
  exact ⟨b, rfl, fun _ => by omega⟩
theorem g17_loop (l : List Act7) (hl : l.length ≤ 50) : ∀ (d k : Nat) (x : Int), 0 ≤ x → x ≤ l.length → (l.length : Int) - x = d → d + 230 ≤ k → ∃ b, chapbooklaw17_great.l0 k l l.length x = some b ∧ (b = false → ∀ y : Int, x ≤ y → y < l.length → (rd_T37 l y).f2.f2.length ≤ 20) := by
 intro d
 induction d with
 | zero =>
  intro k x h0 h1 hd hk
  obtain ⟨k, rfl⟩ : ∃ q, k = q + 1 := ⟨k - 1, by omega⟩
  unfold chapbooklaw17_great.l0
  rw [if_neg (by omega)]
  exact ⟨false, rfl, fun _ y a b => by omega⟩
 | succ d ih =>
  intro k x h0 h1 hd hk
  obtain ⟨k, rfl⟩ : ∃ q, k = q + 1 := ⟨k - 1, by omega⟩
  unfold chapbooklaw17_great.l0
  rw [if_pos (by omega), if_pos h0, if_pos (by omega)]
  obtain ⟨b, hb⟩ : ∃ b, chapbookref04_Great.f (rd_T37 l x).f1.f0 (rd_T37 l x).f1.f1 (rd_T37 l x).f1.f2 (rd_T37 l x).f1.f3 = some b := by
   unfold chapbookref04_Great.f
   split
   ·exact ⟨_, rfl⟩
   ·exact ⟨_, rfl⟩
  rw [hb, Option.bind_some]
  cases b
  ·rw [if_neg (by decide)]
   obtain ⟨c, hc, hc2⟩ := great7_ok k (by omega) (rd_T37 l x).f2.f0 (rd_T37 l x).f2.f1 (rd_T37 l x).f2.f2
   rw [hc, Option.bind_some]
   cases c
   ·rw [if_neg (by decide), w64s17 h0 (show x < (l.length : Int) by omega) (by omega)]
    obtain ⟨e, he, he2⟩ := ih k (x + 1) (by omega) (by omega) (by omega) (by omega)
    refine ⟨e, he, fun h y a b => ?_⟩
    by_cases hy : y = x
    ·subst hy
     exact hc2 rfl
    ·exact he2 h y (by omega) b
   ·exact ⟨true, if_pos rfl, by simp⟩
  ·exact ⟨true, if_pos rfl, by simp⟩
theorem great17_ok (l : List Act7) : ∃ b, chapbooklaw17_great.f 300 l = some b ∧ (b = false → l.length ≤ 50 ∧ ∀ y : Int, 0 ≤ y → y < l.length → (rd_T37 l y).f2.f2.length ≤ 20) := by
 unfold chapbooklaw17_great.f
 by_cases h : (l.length : Int) > 50
 ·exact ⟨true, if_pos h, by simp⟩
 ·rw [if_neg h]
  obtain ⟨b, hb, hb2⟩ := g17_loop l (by omega) l.length 300 0 (by omega) (by omega) (by omega) (by omega)
  exact ⟨b, hb, fun e => ⟨by omega, hb2 e⟩⟩
section
variable {N : Nat → Prop} {w : World} {g gj gd gp : Nat} {jm o mtu push x : Int} {rJ rK rP : List (List Value)} {L K P : List Rnd7} {U : List Upd7}
abbrev actV (a : Act7) (B : Option Addr) (cb : Nat) : Value := .agg #[.int .i64 a.f0, .string a.f1.f0, .int .i64 a.f1.f1, .int .i64 a.f1.f2, .string a.f1.f3, .int .i64 a.f2.f0, .int .i64 a.f2.f1, .slice B a.f2.f2.length cb]
def LedTo (X : HP) (B : Option Addr) (us : List Upd7) (rJ rK rP : List (List Value)) (L K P : List Rnd7) (rJ' rK' rP' : List (List Value)) (L' K' P' : List Rnd7) : Prop :=
 ∀ (N0 : Nat → Prop) (w0 : World), X.P N0 w0 → Led N0 w0 rJ rK rP L K P → Kd.F kU7 w0 N0 B us.length us → Led N0 w0 rJ' rK' rP' L' K' P'
theorem Do_all (a : Act7) (B : Option Addr) (cb : Nat) (h : Own N w (Both g gp gj gd o jm mtu push K P U L rJ rK rP U)) (hd : Led N w rJ rK rP L K P) (ht : TabN N w) (hi : Inv o jm x K P L U) (hx : 0 ≤ x ∧ x ≤ 50) (hr : Kd.F kU7 w N B a.f2.f2.length a.f2.f2) (hc : a.f2.f2.length ≤ cb) (h20 : a.f2.f2.length ≤ 20) :
  Calls Tryd.prog 18 #[.agg #[pt g, pt gd], actV a B cb] w fun e_ w' => ∃ (K' P' L' : List Rnd7) (U' : List Upd7) (rJ' rK' rP' : List (List Value)) (X : HP), e_ = .returned (.bool true) ∧ Stp o jm mtu push a K P L U K' P' L' U' ∧ LedTo X B a.f2.f2 rJ rK rP L K P rJ' rK' rP' L' K' P' ∧ Own N w' (Both g gp gj gd o jm mtu push K' P' U' L' rJ' rK' rP' U' ++ [X]) ∧ KeepS N w w' := by
 obtain ⟨b1, b2, b3, b4, b5, b6⟩ := hi.sizes (by omega)
 obtain ⟨kd, ⟨key, c, n, s⟩, ⟨r0, r1, us⟩⟩ := a
 have em : ∀ {N : Nat → Prop} {w : World} {l : List HP}, Own N w l → Own N w (l ++ [emp]) := fun h => h.push_emp emp (fun _ => trivial)
 by_cases h1 : kd = 1
 ·subst h1
  exact (Do_1 key c n s r0 r1 B cb us h ht b4).mono fun e_ w' ⟨e, oo, kk⟩ => ⟨K, P, L, _, rJ, rK, rP, emp, e, .upd rfl, fun _ _ _ h _ => h, em oo, kk⟩
 by_cases h2 : kd = 2
 ·subst h2
  by_cases he : pushE o jm push L P U = 0
  ·refine (Do_2y key c n s r0 r1 B cb us h hd b4 b3 b2 hi.m he).mono ?_
   rintro e_ w' ⟨B1, b1_, hb, e, oo, kk⟩
   exact ⟨K, _, _, _, _, rK, _, nrow kU7 tU7 (.slice B1 U.length b1_) U, e, .push rfl he, fun N0 w0 hX hd0 _ => ⟨hd0.j.append (Lead.one (r := ⟨o, (L.length : Int) + 1, U⟩) hb (Kd.N_F hX)), hd0.k, hd0.p.append (Lead.one (r := ⟨o, (L.length : Int) + 1, U⟩) hb (Kd.N_F hX))⟩, oo, kk⟩
  ·exact (Do_2n key c n s r0 r1 B cb us h hd b4 b3 b2 hi.m he).mono fun e_ w' ⟨e, oo, kk⟩ => ⟨K, P, L, U, rJ, rK, rP, emp, e, .none, fun _ _ _ h _ => h, em oo, kk⟩
 by_cases h3 : kd = 3
 ·subst h3
  refine (Do_3 key c n s r0 r1 B cb us h hd hr hc (by have := h20; simp only at this; omega) b1 b5).mono ?_
  rintro e_ w' ⟨rK', rP', e, hl, oo, kk⟩
  exact ⟨_, _, L, U, rJ, rK', rP', emp, by rw [beq_self_eq_true] at e; exact e, .take rfl, fun N0 w0 _ hd0 hF => hl N0 w0 hd0 hF, em oo, kk⟩
 by_cases h4 : kd = 4
 ·subst h4
  exact (Do_4 key c n s r0 r1 B cb us h hd b3 (hi.f.bnd (by decide)) hi.n b3).mono fun e_ w' ⟨e, hl, oo, kk⟩ => ⟨[], L, L, [], rJ, [], rJ, emp, e, .resume rfl, fun N0 w0 _ hd0 _ => ⟨hd0.j, Lead.none _ _, hd0.j⟩, em oo, kk⟩
 by_cases h5 : kd = 5
 ·subst h5
  by_cases hp : P.length = 0
  ·refine (Do_5n key c n s r0 r1 B cb us h (List.length_eq_zero_iff.1 (by rw [hd.p.1]; exact hp))).mono ?_
   exact fun e_ w' ⟨e, oo, kk⟩ => ⟨K, P, L, U, rJ, rK, rP, emp, e, .none, fun _ _ _ h _ => h, em oo, kk⟩
  ·refine (Do_5 key c n s r0 r1 B cb us h hd hp (hi.fp.bnd (by decide)) b1 b5).mono ?_
   rintro e_ w' ⟨rK', rP', e, hl, oo, kk⟩
   exact ⟨_, _, L, U, rJ, rK', rP', emp, e, .echo rfl hp, fun N0 w0 _ hd0 _ => hl N0 w0 hd0, em oo, kk⟩
 ·exact (Do_0 kd key c n s r0 r1 B cb us h h1 h2 h3 h4 h5).mono fun e_ w' ⟨e, oo, kk⟩ => ⟨K, P, L, U, rJ, rK, rP, emp, e, .none, fun _ _ _ h _ => h, em oo, kk⟩
end
end Go.Proofs.YtjdenpmaianmfaaDoor.J
namespace Go.Proofs.YtjdenpmaianmfaaDoor.J
set_option maxHeartbeats 16000000
set_option maxRecDepth 100000
set_option linter.unusedSimpArgs false
set_option linter.unusedVariables false
open Go Go.RowKit Go.Proofs.YtjdenpmaianmfaaDoorW.PrintWords Go.Proofs.YtjdenpmaianmfaaDoorW.PrintLast Go.Proofs.YtjdenpmaianmfaaDoorW.PrintMore Go.Proofs.YtjdenpmaianmfaaDoor.Q Go.Proofs.YtjdenpmaianmfaaDoor.Sep Go.Proofs.YtjdenpmaianmfaaDoor.Pure
def upA (n : Int) : Upd7 := ⟨⟨#[97]⟩, 3, n, ⟨#[]⟩⟩
def awR1 : Rnd7 := ⟨1, 1, [upA 1]⟩
def awR2 : Rnd7 := ⟨2, 1, [upA 5]⟩
theorem repU1A (W : World) (n : Int) : Reps (Kd.FK kU7 W (fun _ => False)) 4 [upA n] [.string ⟨#[97]⟩, .int .i64 3, .int .i64 n, .string ⟨#[]⟩] := repU1 W (upA n)
section
variable {N : Nat → Prop} {w : World} {g gp : Nat}
theorem CTake_k {jp : Value} {o mtu push : Int} {K P : List Rnd7} {U : List Upd7} (E : Int) (K' P' : List Rnd7) (r0 r1 : Int) (us : List Upd7) (B : Option Addr) (cb : Nat) (hE : takeE o P r0 r1 = E) (hK : takeK o K P ⟨r0, r1, us⟩ = K') (hP : takeP o P r0 r1 = P') (h : Own N w [CliO g jp o mtu push K P U]) (hr : Kd.F kU7 w N B us.length us) (hc : us.length ≤ cb) (hu : us.length ≤ 1000000) (hL : K.length ≤ 1000000) :
  Calls Tryd.prog 32 #[pt g, .agg #[.int .i64 r0, .int .i64 r1, .slice B us.length cb]] w fun e_ w' => e_ = .returned (.int .i64 E) ∧ Own N w' [CliO g jp o mtu push K' P' U] ∧ KeepS N w w' := by
 subst hK hP
 exact CTake_e E r0 r1 us B cb hE h hr hc hu hL
theorem aw_add1 (n : Int) : chapbooklaw17_add.f n = some (⟨#[97]⟩, 3, n, ⟨#[]⟩) := by unfold chapbooklaw17_add.f; rfl
theorem aw_updE : updE [] ⟨#[97]⟩ 3 1 ⟨#[]⟩ 100 = 0 := by kernel_rfl
theorem aw_updE3 : updE [] ⟨#[97]⟩ 3 3 ⟨#[]⟩ 100 = 0 := by kernel_rfl
theorem aw_updU (n : Int) (h : updE [] ⟨#[97]⟩ 3 n ⟨#[]⟩ 100 = 0) : updU [] ⟨#[97]⟩ 3 n ⟨#[]⟩ 100 = [upA n] := if_pos h
theorem aw_push1 : pushE 1 9 1 [] [] [upA 1] = 0 := by kernel_rfl
theorem aw_push2 : pushE 1 9 1 [awR1] [awR1] [] = 11 := by kernel_rfl
theorem aw_push3 : pushE 1 9 1 [awR1] [awR1] [upA 3] = 7 := by kernel_rfl
theorem aw_read (h : Own N w [CliO g (pt gp) 1 100 1 [awR2] [awR1] [upA 3]]) : Calls Tryd.prog 25 #[pt g, .string ⟨#[97]⟩] w fun e_ w' => e_ = .returned (.agg #[.int .i64 1, .int .i64 9, .string ⟨#[]⟩]) ∧ Own N w' [CliO g (pt gp) 1 100 1 [awR2] [awR1] [upA 3]] ∧ KeepS N w w' := by
 have q := ORead ⟨#[97]⟩ (by decide) h (by decide) (by decide)
 have e : stateOf [upA 3] ([awR2] ++ [awR1]) ⟨#[97]⟩ = (1, 9, none') := by
  show doL zeroM ([upA 5] ++ [upA 1] ++ [upA 3]) ⟨#[97]⟩ = _
  rw [doL_get]
  kernel_rfl
 rw [e] at q
 exact q
theorem aw_cnt : cntK (stateOf [] ([] ++ [awR1])) = 1 := by
 refine cntK_is (ks := [(⟨#[97]⟩ : ByteArray)]) (by simp) (fun key => ?_)
 show _ ↔ (doL zeroM [upA 1] key).1 ≠ 0
 have e : doL zeroM [upA 1] = doU zeroM ⟨#[97]⟩ 3 1 ⟨#[]⟩ := rfl
 rw [e]
 unfold doU
 rw [if_pos (by kernel_rfl), List.mem_singleton]
 unfold J.upd
 constructor
 ·intro h
  rw [if_pos h]
  decide
 ·intro h
  by_cases hk : key = ⟨#[97]⟩
  ·exact hk
  ·rw [if_neg hk] at h
   exact (h rfl).elim
theorem aw_len (h : Own N w [CliO g (pt gp) 1 100 1 [] [awR1] []]) : Calls Tryd.prog 27 #[pt g] w fun e_ w' => e_ = .returned (.int .i64 1) ∧ Own N w' [CliO g (pt gp) 1 100 1 [] [awR1] []] ∧ KeepS N w w' := by
 have q := OLen h (by decide) (by decide)
 rw [aw_cnt] at q
 exact q
theorem aw_bnd : Aside0 (bnd [awR1]) := (Few.one (m := 8) (by decide) : Few 8 [awR1]).bnd (by decide)
theorem aw_num : Num [awR1] := num_snoc (L := []) 1 [upA 1] num_nil
theorem aw_conf (h : Own N w [CliO g (pt gp) 1 100 1 [] [awR1] []]) : Calls Tryd.prog 24 #[pt g] w fun e_ w' => e_ = .returned (.bool false) ∧ Own N w' [CliO g (pt gp) 1 100 1 [] [awR1] []] ∧ KeepS N w w' := OConf h
theorem aw_pend (h : Own N w [CliO g (pt gp) 1 100 1 [] [awR1] []]) : Calls Tryd.prog 21 #[pt g] w fun e_ w' => ∃ A1 c1, e_ = .returned (.slice A1 1 c1) ∧ Own N w' [CliO g (pt gp) 1 100 1 [] [awR1] [], row kR7 tR7 (.slice A1 1 c1) [awR1]] ∧ KeepS N w w' := OPending h (by decide) aw_bnd
theorem aw_known (h : Own N w [CliO g (pt gp) 1 100 1 [] [awR1] []]) : Calls Tryd.prog 20 #[pt g] w fun e_ w' => ∃ A1 c1, e_ = .returned (.slice A1 0 c1) ∧ Own N w' [CliO g (pt gp) 1 100 1 [] [awR1] [], row kR7 tR7 (.slice A1 0 c1) []] ∧ KeepS N w w' := OKnown h (by decide) ⟨fun x h0 h1 => by simp at h1; omega⟩
theorem aw_open (h : Own N w [CliO g (pt gp) 1 100 1 [] [awR1] []]) : Calls Tryd.prog 23 #[pt g] w fun e_ w' => ∃ A1 c1, e_ = .returned (.slice A1 0 c1) ∧ Own N w' [CliO g (pt gp) 1 100 1 [] [awR1] [], nrow kU7 tU7 (.slice A1 0 c1) []] ∧ KeepS N w w' := OOpen h (by decide)
theorem aw_new (h : Own N w []) : Calls Tryd.prog 52 #[.int .i64 1, .int .i64 9] w fun e w' => ∃ gp, e = .returned (pt gp) ∧ Own N w' [Obj3 138 gp 1 9 []] ∧ KeepS N w w' := JNew_e 1 9 9 (by decide) h
theorem aw_cnew (h : Own N w [Obj3 138 gp 1 9 []]) : Calls Tryd.prog 53 #[pt gp, .int .i64 1, .int .i64 100, .int .i64 1] w fun e_ w' => ∃ g, e_ = .returned (pt g) ∧ Own N w' [Obj3 138 gp 1 9 [], CliO g (pt gp) 1 100 1 [] [] []] ∧ KeepS N w w' := CNew_0 1 100 1 1 (by decide) h
theorem aw_upd (n : Int) {K P : List Rnd7} (hn : updE [] ⟨#[97]⟩ 3 n ⟨#[]⟩ 100 = 0) (h : Own N w [CliO g (pt gp) 1 100 1 K P []]) (ht : TabN N w) : Calls Tryd.prog 30 #[pt g, .agg #[.string ⟨#[97]⟩, .int .i64 3, .int .i64 n, .string ⟨#[]⟩]] w fun e_ w' => e_ = .returned (.int .i64 0) ∧ Own N w' [CliO g (pt gp) 1 100 1 K P [upA n]] ∧ KeepS N w w' := CUpd_e 0 [upA n] _ _ _ _ hn (aw_updU n hn) h ht (by decide)
theorem aw_p1 (h : Own N w [CliO g (pt gp) 1 100 1 [] [] [upA 1], Obj3 138 gp 1 9 []]) : Calls Tryd.prog 31 #[pt g] w fun e_ w' => ∃ A1 c1, e_ = .returned (.tuple #[.agg #[.int .i64 1, .int .i64 1, .slice A1 1 c1], .int .i64 0]) ∧ Own N w' [CliO g (pt gp) 1 100 1 [] [awR1] [], Obj3 138 gp 1 9 [awR1], nrow kU7 tU7 (.slice A1 1 c1) [upA 1]] ∧ KeepS N w w' := CPush_y 1 aw_push1 (by decide) h (by decide) (by decide) (by decide)
theorem aw_p2 (h : Own N w [CliO g (pt gp) 1 100 1 [] [awR1] [], Obj3 138 gp 1 9 [awR1]]) : Calls Tryd.prog 31 #[pt g] w fun e_ w' => ∃ A1 c1, e_ = .returned (.tuple #[.agg #[.int .i64 0, .int .i64 0, .slice A1 0 c1], .int .i64 11]) ∧ Own N w' [CliO g (pt gp) 1 100 1 [] [awR1] [], Obj3 138 gp 1 9 [awR1], nrow kU7 tU7 (.slice A1 0 c1) []] ∧ KeepS N w w' := CPush_n 11 aw_push2 (by decide) h (by decide) (by decide) (by decide)
theorem aw_p3 (h : Own N w [CliO g (pt gp) 1 100 1 [] [awR1] [upA 3], Obj3 138 gp 1 9 [awR1]]) : Calls Tryd.prog 31 #[pt g] w fun e_ w' => ∃ A1 c1, e_ = .returned (.tuple #[.agg #[.int .i64 0, .int .i64 0, .slice A1 0 c1], .int .i64 7]) ∧ Own N w' [CliO g (pt gp) 1 100 1 [] [awR1] [upA 3], Obj3 138 gp 1 9 [awR1], nrow kU7 tU7 (.slice A1 0 c1) []] ∧ KeepS N w w' := CPush_n 7 aw_push3 (by decide) h (by decide) (by decide) (by decide)
theorem aw_t1 (B : Option Addr) (cb : Nat) (h : Own N w [CliO g (pt gp) 1 100 1 [] [awR1] [upA 3]]) (hr : Kd.F kU7 w N B 1 [upA 5]) (hc : 1 ≤ cb) : Calls Tryd.prog 32 #[pt g, .agg #[.int .i64 2, .int .i64 1, .slice B 1 cb]] w fun e_ w' => e_ = .returned (.int .i64 0) ∧ Own N w' [CliO g (pt gp) 1 100 1 [awR2] [awR1] [upA 3]] ∧ KeepS N w w' := CTake_k 0 _ _ 2 1 [upA 5] B cb (by kernel_rfl) (by kernel_rfl) (by kernel_rfl) h hr hc (by decide) (by decide)
theorem aw_t2 (B : Option Addr) (cb : Nat) (h : Own N w [CliO g (pt gp) 1 100 1 [awR2] [awR1] [upA 3]]) (hr : Kd.F kU7 w N B 1 [upA 1]) (hc : 1 ≤ cb) : Calls Tryd.prog 32 #[pt g, .agg #[.int .i64 1, .int .i64 1, .slice B 1 cb]] w fun e_ w' => e_ = .returned (.int .i64 0) ∧ Own N w' [CliO g (pt gp) 1 100 1 [awR2, awR1] [] [upA 3]] ∧ KeepS N w w' := CTake_k 0 _ _ 1 1 [upA 1] B cb (by kernel_rfl) (by kernel_rfl) (by kernel_rfl) h hr hc (by decide) (by decide)
theorem aw_t3 (B : Option Addr) (cb : Nat) (h : Own N w [CliO g (pt gp) 1 100 1 [awR2, awR1] [] [upA 3]]) (hr : Kd.F kU7 w N B 1 [upA 1]) (hc : 1 ≤ cb) : Calls Tryd.prog 32 #[pt g, .agg #[.int .i64 1, .int .i64 1, .slice B 1 cb]] w fun e_ w' => e_ = .returned (.int .i64 10) ∧ Own N w' [CliO g (pt gp) 1 100 1 [awR2, awR1] [] [upA 3]] ∧ KeepS N w w' := CTake_k 10 _ _ 1 1 [upA 1] B cb (by kernel_rfl) (by kernel_rfl) (by kernel_rfl) h hr hc (by decide) (by decide)
theorem aw_res (h : Own N w [CliO g (pt gp) 1 100 1 [awR2, awR1] [] [upA 3], Obj3 138 gp 1 9 [awR1]]) : Calls Tryd.prog 33 #[pt g] w fun e_ w' => e_ = .returned (.tuple #[]) ∧ Own N w' [CliO g (pt gp) 1 100 1 [] [awR1] [], Obj3 138 gp 1 9 [awR1]] ∧ KeepS N w w' := CResume h (by decide) aw_bnd aw_num
end
theorem awake17 (w : World) (HT : Aside0 (Tab w)) :
  Calls Tryd.prog 16 #[] w fun e_ w' => e_ = .returned (.bool true) ∧ Below w.heap.size w w' := by
 obtain ⟨N, hN⟩ : ∃ N : Nat → Prop, N = fun k => k < w.heap.size := ⟨_, rfl⟩
 have HN := Aside0.mk hN
 have HT_0 : Aside0 (TabN N w) := ⟨by rw [hN]; exact World.block_lt_of_cell? w _ HT.out.1, HT.out⟩
 have O0 : Aside0 (Own N w []) := ⟨Own.start_ (fun k hk => by rw [hN] at hk; exact hk)⟩
 have K0 : Aside0 (KeepS N w w) := ⟨KeepS.refl _ _⟩
 clear hN HT
 go_enter Tryd.func16, Tryd.ntmps16
 go_wp2_with (first | ((with_reducible refine gC 52 rfl ?_); refine gP (some 14) Tryd.func52 #[.int .i64 1, .int .i64 9] ?_; obtain ⟨N_, on_, nn_, rr_, bb_⟩ := O0.out.frame0; refine (aw_new on_).mono ?_; rintro e_ w1 ⟨gp, rfl, oo_, kk_⟩; obtain ⟨o_, k_⟩ := bb_ _ _ kk_ oo_; refine ⟨_, rfl, ?_⟩; obtain ⟨O1, K1⟩ := ok_ K0 o_ k_; have HT_1 := Aside0.mk (TabN.keep HT_0.out k_); clear O0 K0 HT_0 o_ k_ oo_ kk_ on_ nn_ rr_ bb_) | ((with_reducible refine gC 53 rfl ?_); refine gP (some 18) Tryd.func53 #[pt gp, .int .i64 1, .int .i64 100, .int .i64 1] ?_; obtain ⟨N_, on_, nn_, rr_, bb_⟩ := O1.out.frame1 (i := 0) rfl; refine (aw_cnew on_).mono ?_; rintro e_ w2 ⟨g, rfl, oo_, kk_⟩; obtain ⟨o_, k_⟩ := bb_ _ _ _ kk_ oo_; refine ⟨_, rfl, ?_⟩; obtain ⟨O2, K2⟩ := ok_ K1 o_ k_; have HT_2 := Aside0.mk (TabN.keep HT_1.out k_); clear O1 K1 HT_1 o_ k_ oo_ kk_ on_ nn_ rr_ bb_) | ((with_reducible refine gC 56 rfl ?_); refine gP (some 22) Tryd.func56 #[.int .i64 1] ?_; refine (chapbooklaw17_add.calls 1 _ _ _ _ _ (aw_add1 1)).mono ?_; rintro e_ w3 ⟨rfl, hb_⟩; refine ⟨_, rfl, ?_⟩; have o_ := O2.out.below hb_; have k_ := KeepS.of_below (N := N) hb_; obtain ⟨O3, K3⟩ := ok_ K2 o_ k_; have HT_3 := Aside0.mk (TabN.keep HT_2.out k_); clear O2 K2 HT_2 o_ k_ hb_) | ((with_reducible refine gC 30 rfl ?_); refine gP (some 23) Tryd.func30 #[pt g, .agg #[.string ⟨#[97]⟩, .int .i64 3, .int .i64 1, .string ⟨#[]⟩]] ?_; obtain ⟨N_, on_, nn_, rr_, bb_⟩ := O3.out.frame1 (i := 1) rfl; refine (aw_upd 1 aw_updE on_ (TabN.mono HT_3.out nn_)).mono ?_; rintro e_ w4 ⟨rfl, oo_, kk_⟩; obtain ⟨o_, k_⟩ := bb_ _ _ _ kk_ oo_; refine ⟨_, rfl, ?_⟩; obtain ⟨O4, K4⟩ := ok_ K3 o_ k_; have HT_4 := Aside0.mk (TabN.keep HT_3.out k_); clear O3 K3 HT_3 o_ k_ oo_ kk_ on_ nn_ rr_ bb_) | ((with_reducible refine gC 31 rfl ?_); refine gP (some 26) Tryd.func31 #[pt g] ?_; obtain ⟨N_, on_, nn_, rr_, bb_⟩ := O4.out.frameL [1, 0] (by decide) (by simp); refine (aw_p1 on_).mono ?_; rintro e_ w5 ⟨A1, c1, rfl, oo_, kk_⟩; obtain ⟨o_, k_⟩ := bb_ _ [CliO g (pt gp) 1 100 1 [] [awR1] [], Obj3 138 gp 1 9 [awR1]] [nrow kU7 tU7 (.slice A1 1 c1) [upA 1]] rfl kk_ oo_; refine ⟨_, rfl, ?_⟩; obtain ⟨O5, K5⟩ := ok_ K4 o_ k_; have HT_5 := Aside0.mk (TabN.keep HT_4.out k_); clear O4 K4 HT_4 o_ k_ oo_ kk_ on_ nn_ rr_ bb_) | ((with_reducible refine gD 4 rfl ?_); refine bP 4 #[.int .i64 0, .int .i64 0, .slice none 0 0] 35 O5.out ?_; intro g4 w6 o_ k_; obtain ⟨O6, K6⟩ := ok_ K5 o_ k_; have HT_6 := Aside0.mk (TabN.keep HT_5.out k_); clear O5 K5 HT_5 o_ k_; have a3 := k3_ O6 3) | ((with_reducible refine gT 35 4 rfl ?_); refine wS 3 0 [.int .i64 1, .int .i64 1, .slice A1 1 c1] O6 ?_; intro w7 o_ k_; obtain ⟨O7, K7⟩ := ok_ K6 o_ k_; have HT_7 := Aside0.mk (TabN.keep HT_6.out k_); clear a3 O6 K6 HT_6 o_ k_; have a3 := k3_ O7 3) | ((with_reducible refine gC 31 rfl ?_); refine gP (some 31) Tryd.func31 #[pt g] ?_; obtain ⟨N_, on_, nn_, rr_, bb_⟩ := O7.out.frameL [1, 0] (by decide) (by simp); refine (aw_p2 on_).mono ?_; rintro e_ w8 ⟨A2, c2, rfl, oo_, kk_⟩; obtain ⟨o_, k_⟩ := bb_ _ [CliO g (pt gp) 1 100 1 [] [awR1] [], Obj3 138 gp 1 9 [awR1]] [nrow kU7 tU7 (.slice A2 0 c2) []] rfl kk_ oo_; refine ⟨_, rfl, ?_⟩; obtain ⟨O8, K8⟩ := ok_ K7 o_ k_; have HT_8 := Aside0.mk (TabN.keep HT_7.out k_); clear a3 O7 K7 HT_7 o_ k_ oo_ kk_ on_ nn_ rr_ bb_; have a3 := k3_ O8 3) | ((with_reducible refine gD 6 rfl ?_); refine bP 6 #[.int .i64 0, .int .i64 0, .slice none 0 0] 35 O8.out ?_; intro g6 w9 o_ k_; obtain ⟨O9, K9⟩ := ok_ K8 o_ k_; have HT_9 := Aside0.mk (TabN.keep HT_8.out k_); clear a3 O8 K8 HT_8 o_ k_; have a3 := k3_ O9 3; have a5 := k3_ O9 5) | ((with_reducible refine gT 35 6 rfl ?_); refine wS 5 0 [.int .i64 0, .int .i64 0, .slice A2 0 c2] O9 ?_; intro w10 o_ k_; obtain ⟨O10, K10⟩ := ok_ K9 o_ k_; have HT_10 := Aside0.mk (TabN.keep HT_9.out k_); clear a3 a5 O9 K9 HT_9 o_ k_; have a3 := k3_ O10 3; have a5 := k3_ O10 5) | ((with_reducible refine gC 56 rfl ?_); refine gP (some 35) Tryd.func56 #[.int .i64 3] ?_; refine (chapbooklaw17_add.calls 3 _ _ _ _ _ (aw_add1 3)).mono ?_; rintro e_ w11 ⟨rfl, hb_⟩; refine ⟨_, rfl, ?_⟩; have o_ := O10.out.below hb_; have k_ := KeepS.of_below (N := N) hb_; obtain ⟨O11, K11⟩ := ok_ K10 o_ k_; have HT_11 := Aside0.mk (TabN.keep HT_10.out k_); clear a3 a5 O10 K10 HT_10 o_ k_ hb_; have a3 := k3_ O11 3; have a5 := k3_ O11 5) | ((with_reducible refine gC 30 rfl ?_); refine gP (some 36) Tryd.func30 #[pt g, .agg #[.string ⟨#[97]⟩, .int .i64 3, .int .i64 3, .string ⟨#[]⟩]] ?_; obtain ⟨N_, on_, nn_, rr_, bb_⟩ := O11.out.frame1 (i := 1) rfl; refine (aw_upd 3 aw_updE3 on_ (TabN.mono HT_11.out nn_)).mono ?_; rintro e_ w12 ⟨rfl, oo_, kk_⟩; obtain ⟨o_, k_⟩ := bb_ _ _ _ kk_ oo_; refine ⟨_, rfl, ?_⟩; obtain ⟨O12, K12⟩ := ok_ K11 o_ k_; have HT_12 := Aside0.mk (TabN.keep HT_11.out k_); clear a3 a5 O11 K11 HT_11 o_ k_ oo_ kk_ on_ nn_ rr_ bb_; have a3 := k3_ O12 3; have a5 := k3_ O12 5) | ((with_reducible refine gC 31 rfl ?_); refine gP (some 39) Tryd.func31 #[pt g] ?_; obtain ⟨N_, on_, nn_, rr_, bb_⟩ := O12.out.frameL [1, 0] (by decide) (by simp); refine (aw_p3 on_).mono ?_; rintro e_ w13 ⟨A3, c3, rfl, oo_, kk_⟩; obtain ⟨o_, k_⟩ := bb_ _ [CliO g (pt gp) 1 100 1 [] [awR1] [upA 3], Obj3 138 gp 1 9 [awR1]] [nrow kU7 tU7 (.slice A3 0 c3) []] rfl kk_ oo_; refine ⟨_, rfl, ?_⟩; obtain ⟨O13, K13⟩ := ok_ K12 o_ k_; have HT_13 := Aside0.mk (TabN.keep HT_12.out k_); clear a3 a5 O12 K12 HT_12 o_ k_ oo_ kk_ on_ nn_ rr_ bb_; have a3 := k3_ O13 3; have a5 := k3_ O13 5) | ((with_reducible refine gD 8 rfl ?_); refine bP 8 #[.int .i64 0, .int .i64 0, .slice none 0 0] 35 O13.out ?_; intro g8 w14 o_ k_; obtain ⟨O14, K14⟩ := ok_ K13 o_ k_; have HT_14 := Aside0.mk (TabN.keep HT_13.out k_); clear a3 a5 O13 K13 HT_13 o_ k_; have a3 := k3_ O14 3; have a5 := k3_ O14 5; have a7 := k3_ O14 7) | ((with_reducible refine gT 35 8 rfl ?_); refine wS 7 0 [.int .i64 0, .int .i64 0, .slice A3 0 c3] O14 ?_; intro w15 o_ k_; obtain ⟨O15, K15⟩ := ok_ K14 o_ k_; have HT_15 := Aside0.mk (TabN.keep HT_14.out k_); clear a3 a5 a7 O14 K14 HT_14 o_ k_; have a3 := k3_ O15 3; have a5 := k3_ O15 5; have a7 := k3_ O15 7) | ((with_reducible refine gC 56 rfl ?_); refine gP (some 43) Tryd.func56 #[.int .i64 5] ?_; refine (chapbooklaw17_add.calls 5 _ _ _ _ _ (aw_add1 5)).mono ?_; rintro e_ w16 ⟨rfl, hb_⟩; refine ⟨_, rfl, ?_⟩; have o_ := O15.out.below hb_; have k_ := KeepS.of_below (N := N) hb_; obtain ⟨O16, K16⟩ := ok_ K15 o_ k_; have HT_16 := Aside0.mk (TabN.keep HT_15.out k_); clear a3 a5 a7 O15 K15 HT_15 o_ k_ hb_; have a3 := k3_ O16 3; have a5 := k3_ O16 5; have a7 := k3_ O16 7) | ((with_reducible refine gD 44 rfl ?_); refine own_lit kU7 (N := N) (e := 32) (xs := [upA 5]) (inner := [.string ⟨#[97]⟩, .int .i64 3, .int .i64 5, .string ⟨#[]⟩]) rfl (D := 44) rfl gs_ ?hp (by show 1 ≤ 9223372036854775807; decide) O16.out ?_; (case hp => exact repU1A _ 5); intro B1 d1 w17 o_ k_; obtain ⟨O17, K17⟩ := ok_ K16 o_ k_; have HT_17 := Aside0.mk (TabN.keep HT_16.out k_); clear a3 a5 a7 O16 K16 HT_16 o_ k_; have a3 := k3_ O17 3; have a5 := k3_ O17 5; have a7 := k3_ O17 7) | ((with_reducible refine gC 32 rfl ?_); refine gP (some 46) Tryd.func32 #[pt g, .agg #[.int .i64 2, .int .i64 1, .slice B1 1 d1]] ?_; obtain ⟨N_, on_, nn_, rr_, bb_⟩ := O17.out.frame1 (i := 1) rfl; have hr_ := Kd.N_F (rr_ 8 _ (by decide) rfl); have hc_ := (O17.out.nreads (i := 8) rfl).2.1; refine (aw_t1 B1 d1 on_ hr_ hc_).mono ?_; rintro e_ w18 ⟨rfl, oo_, kk_⟩; obtain ⟨o_, k_⟩ := bb_ _ _ _ kk_ oo_; refine ⟨_, rfl, ?_⟩; obtain ⟨O18, K18⟩ := ok_ K17 o_ k_; have HT_18 := Aside0.mk (TabN.keep HT_17.out k_); clear a3 a5 a7 O17 K17 HT_17 o_ k_ oo_ kk_ on_ nn_ rr_ bb_ hr_ hc_; have a3 := k3_ O18 3; have a5 := k3_ O18 5; have a7 := k3_ O18 7) | ((with_reducible refine gC 25 rfl ?_); refine gP (some 48) Tryd.func25 #[pt g, .string ⟨#[97]⟩] ?_; obtain ⟨N_, on_, nn_, rr_, bb_⟩ := O18.out.frame1 (i := 1) rfl; refine (aw_read on_).mono ?_; rintro e_ w19 ⟨rfl, oo_, kk_⟩; obtain ⟨o_, k_⟩ := bb_ _ _ _ kk_ oo_; refine ⟨_, rfl, ?_⟩; obtain ⟨O19, K19⟩ := ok_ K18 o_ k_; have HT_19 := Aside0.mk (TabN.keep HT_18.out k_); clear a3 a5 a7 O18 K18 HT_18 o_ k_ oo_ kk_ on_ nn_ rr_ bb_; have a3 := k3_ O19 3; have a5 := k3_ O19 5; have a7 := k3_ O19 7) | ((with_reducible refine gD 11 rfl ?_); refine bP 11 #[.int .i64 0, .int .i64 0, .string ⟨#[]⟩] 49 O19.out ?_; intro g11 w20 o_ k_; obtain ⟨O20, K20⟩ := ok_ K19 o_ k_; have HT_20 := Aside0.mk (TabN.keep HT_19.out k_); clear a3 a5 a7 O19 K19 HT_19 o_ k_; have a3 := k3_ O20 3; have a5 := k3_ O20 5; have a7 := k3_ O20 7; have a9 := k3_ O20 9) | ((with_reducible refine gT 49 11 rfl ?_); refine wS 9 0 [.int .i64 1, .int .i64 9, .string ⟨#[]⟩] O20 ?_; intro w21 o_ k_; obtain ⟨O21, K21⟩ := ok_ K20 o_ k_; have HT_21 := Aside0.mk (TabN.keep HT_20.out k_); clear a3 a5 a7 a9 O20 K20 HT_20 o_ k_; have a3 := k3_ O21 3; have a5 := k3_ O21 5; have a7 := k3_ O21 7; have a9 := k3_ O21 9) | ((with_reducible refine gC 32 rfl ?_); refine gP (some 51) Tryd.func32 #[pt g, .agg #[.int .i64 1, .int .i64 1, .slice A1 1 c1]] ?_; obtain ⟨N_, on_, nn_, rr_, bb_⟩ := O21.out.frame1 (i := 1) rfl; have hr_ := Kd.N_F (rr_ 2 _ (by decide) rfl); have hc_ := (O21.out.nreads (i := 2) rfl).2.1; refine (aw_t2 A1 c1 on_ hr_ hc_).mono ?_; rintro e_ w22 ⟨rfl, oo_, kk_⟩; obtain ⟨o_, k_⟩ := bb_ _ _ _ kk_ oo_; refine ⟨_, rfl, ?_⟩; obtain ⟨O22, K22⟩ := ok_ K21 o_ k_; have HT_22 := Aside0.mk (TabN.keep HT_21.out k_); clear a3 a5 a7 a9 O21 K21 HT_21 o_ k_ oo_ kk_ on_ nn_ rr_ bb_ hr_ hc_; have a3 := k3_ O22 3; have a5 := k3_ O22 5; have a7 := k3_ O22 7; have a9 := k3_ O22 9) | ((with_reducible refine gC 32 rfl ?_); refine gP (some 54) Tryd.func32 #[pt g, .agg #[.int .i64 1, .int .i64 1, .slice A1 1 c1]] ?_; obtain ⟨N_, on_, nn_, rr_, bb_⟩ := O22.out.frame1 (i := 1) rfl; have hr_ := Kd.N_F (rr_ 2 _ (by decide) rfl); have hc_ := (O22.out.nreads (i := 2) rfl).2.1; refine (aw_t3 A1 c1 on_ hr_ hc_).mono ?_; rintro e_ w23 ⟨rfl, oo_, kk_⟩; obtain ⟨o_, k_⟩ := bb_ _ _ _ kk_ oo_; refine ⟨_, rfl, ?_⟩; obtain ⟨O23, K23⟩ := ok_ K22 o_ k_; have HT_23 := Aside0.mk (TabN.keep HT_22.out k_); clear a3 a5 a7 a9 O22 K22 HT_22 o_ k_ oo_ kk_ on_ nn_ rr_ bb_ hr_ hc_; have a3 := k3_ O23 3; have a5 := k3_ O23 5; have a7 := k3_ O23 7; have a9 := k3_ O23 9) | ((with_reducible refine gC 33 rfl ?_); refine gP (some 56) Tryd.func33 #[pt g] ?_; obtain ⟨N_, on_, nn_, rr_, bb_⟩ := O23.out.frameL [1, 0] (by decide) (by simp); refine (aw_res on_).mono ?_; rintro e_ w24 ⟨rfl, oo_, kk_⟩; obtain ⟨o_, k_⟩ := bb_ _ [CliO g (pt gp) 1 100 1 [] [awR1] [], Obj3 138 gp 1 9 [awR1]] [] rfl kk_ oo_; refine ⟨_, rfl, ?_⟩; obtain ⟨O24, K24⟩ := ok_ K23 o_ k_; have HT_24 := Aside0.mk (TabN.keep HT_23.out k_); clear a3 a5 a7 a9 O23 K23 HT_23 o_ k_ oo_ kk_ on_ nn_ rr_ bb_; have a3 := k3_ O24 3; have a5 := k3_ O24 5; have a7 := k3_ O24 7; have a9 := k3_ O24 9) | ((with_reducible refine gC 27 rfl ?_); refine gate_guard (by rfl) ?_; refine gP (some 90) Tryd.func27 #[pt g] ?_; obtain ⟨N_, on_, nn_, rr_, bb_⟩ := O24.out.frame1 (i := 1) rfl; refine (aw_len on_).mono ?_; rintro e_ w25 ⟨rfl, oo_, kk_⟩; obtain ⟨o_, k_⟩ := bb_ _ _ _ kk_ oo_; refine ⟨_, rfl, ?_⟩; obtain ⟨O25, K25⟩ := ok_ K24 o_ k_; have HT_25 := Aside0.mk (TabN.keep HT_24.out k_); clear a3 a5 a7 a9 O24 K24 HT_24 o_ k_ oo_ kk_ on_ nn_ rr_ bb_; have a3 := k3_ O25 3; have a5 := k3_ O25 5; have a7 := k3_ O25 7; have a9 := k3_ O25 9) | ((with_reducible refine gC 24 rfl ?_); refine gate_guard (by rfl) ?_; refine gP (some 95) Tryd.func24 #[pt g] ?_; obtain ⟨N_, on_, nn_, rr_, bb_⟩ := O25.out.frame1 (i := 1) rfl; refine (aw_conf on_).mono ?_; rintro e_ w26 ⟨rfl, oo_, kk_⟩; obtain ⟨o_, k_⟩ := bb_ _ _ _ kk_ oo_; refine ⟨_, rfl, ?_⟩; obtain ⟨O26, K26⟩ := ok_ K25 o_ k_; have HT_26 := Aside0.mk (TabN.keep HT_25.out k_); clear a3 a5 a7 a9 O25 K25 HT_25 o_ k_ oo_ kk_ on_ nn_ rr_ bb_; have a3 := k3_ O26 3; have a5 := k3_ O26 5; have a7 := k3_ O26 7; have a9 := k3_ O26 9) | ((with_reducible refine gC 21 rfl ?_); refine gate_guard (by rfl) ?_; refine gP (some 100) Tryd.func21 #[pt g] ?_; obtain ⟨N_, on_, nn_, rr_, bb_⟩ := O26.out.frame1 (i := 1) rfl; refine (aw_pend on_).mono ?_; rintro e_ w27 ⟨A5, c5, rfl, oo_, kk_⟩; obtain ⟨o_, k_⟩ := bb_ _ _ _ kk_ oo_; refine ⟨_, rfl, ?_⟩; obtain ⟨O27, K27⟩ := ok_ K26 o_ k_; have HT_27 := Aside0.mk (TabN.keep HT_26.out k_); clear a3 a5 a7 a9 O26 K26 HT_26 o_ k_ oo_ kk_ on_ nn_ rr_ bb_; have a3 := k3_ O27 3; have a5 := k3_ O27 5; have a7 := k3_ O27 7; have a9 := k3_ O27 9) | ((with_reducible refine gC 20 rfl ?_); refine gate_guard (by rfl) ?_; refine gP (some 106) Tryd.func20 #[pt g] ?_; obtain ⟨N_, on_, nn_, rr_, bb_⟩ := O27.out.frame1 (i := 1) rfl; refine (aw_known on_).mono ?_; rintro e_ w28 ⟨A6, c6, rfl, oo_, kk_⟩; obtain ⟨o_, k_⟩ := bb_ _ _ _ kk_ oo_; refine ⟨_, rfl, ?_⟩; obtain ⟨O28, K28⟩ := ok_ K27 o_ k_; have HT_28 := Aside0.mk (TabN.keep HT_27.out k_); clear a3 a5 a7 a9 O27 K27 HT_27 o_ k_ oo_ kk_ on_ nn_ rr_ bb_; have a3 := k3_ O28 3; have a5 := k3_ O28 5; have a7 := k3_ O28 7; have a9 := k3_ O28 9) | ((with_reducible refine gC 23 rfl ?_); refine gate_guard (by rfl) ?_; refine gP (some 112) Tryd.func23 #[pt g] ?_; obtain ⟨N_, on_, nn_, rr_, bb_⟩ := O28.out.frame1 (i := 1) rfl; refine (aw_open on_).mono ?_; rintro e_ w29 ⟨A7, c7, rfl, oo_, kk_⟩; obtain ⟨o_, k_⟩ := bb_ _ _ _ kk_ oo_; refine ⟨_, rfl, ?_⟩; obtain ⟨O29, K29⟩ := ok_ K28 o_ k_; have HT_29 := Aside0.mk (TabN.keep HT_28.out k_); clear a3 a5 a7 a9 O28 K28 HT_28 o_ k_ oo_ kk_ on_ nn_ rr_ bb_; have a3 := k3_ O29 3; have a5 := k3_ O29 5; have a7 := k3_ O29 7; have a9 := k3_ O29 9))
 go_ret
 exact ⟨rfl, kw_ K29 HN⟩
end Go.Proofs.YtjdenpmaianmfaaDoor.J
namespace Go.Proofs.YtjdenpmaianmfaaDoor.J
set_option linter.unusedSimpArgs false
set_option linter.unusedVariables false
open Go Go.RowKit Go.Proofs.YtjdenpmaianmfaaDoorW.PrintWords Go.Proofs.YtjdenpmaianmfaaDoorW.PrintLast Go.Proofs.YtjdenpmaianmfaaDoorW.PrintMore Go.Proofs.YtjdenpmaianmfaaDoor.Q Go.Proofs.YtjdenpmaianmfaaDoor.Sep Go.Proofs.YtjdenpmaianmfaaDoor.Pure
abbrev kA7 := k37
abbrev rdA (xs : List Act7) (i : Int) : Act7 := rd_T37 xs i
theorem heapA7 : Kd.Heap kA7 := Kd.heap_iso _ (Kd.heap_pair (Kd.heap_int _) (Kd.heap_pair heapU7 heapR7))
theorem at_A {w : World} {ok : Nat → Prop} {A : Option Addr} {n : Nat} {xs : List Act7} (h : Kd.F kA7 w ok A n xs) (i : Int) (h0 : 0 ≤ i) (h1 : i < n) : ∃ ad A7 c7, A = some ad ∧ w.cell? (ad.add (i.toNat * 8)) = some (.int .i64 (rdA xs i).f0) ∧ w.cell? ⟨(ad.add (i.toNat * 8)).block, (ad.add (i.toNat * 8)).off + 1, none⟩ = some (.string (rdA xs i).f1.f0) ∧ w.cell? ⟨(ad.add (i.toNat * 8)).block, (ad.add (i.toNat * 8)).off + 2, none⟩ = some (.int .i64 (rdA xs i).f1.f1) ∧ w.cell? ⟨(ad.add (i.toNat * 8)).block, (ad.add (i.toNat * 8)).off + 3, none⟩ = some (.int .i64 (rdA xs i).f1.f2) ∧ w.cell? ⟨(ad.add (i.toNat * 8)).block, (ad.add (i.toNat * 8)).off + 4, none⟩ = some (.string (rdA xs i).f1.f3) ∧ w.cell? ⟨(ad.add (i.toNat * 8)).block, (ad.add (i.toNat * 8)).off + 5, none⟩ = some (.int .i64 (rdA xs i).f2.f0) ∧ w.cell? ⟨(ad.add (i.toNat * 8)).block, (ad.add (i.toNat * 8)).off + 6, none⟩ = some (.int .i64 (rdA xs i).f2.f1) ∧ w.cell? ⟨(ad.add (i.toNat * 8)).block, (ad.add (i.toNat * 8)).off + 7, none⟩ = some (.slice A7 (rdA xs i).f2.f2.length c7) ∧ (rdA xs i).f2.f2.length ≤ c7 ∧ Kd.F kU7 w ok A7 (rdA xs i).f2.f2.length (rdA xs i).f2.f2 := by
 obtain ⟨ad, c, e, _, hK, hc0, _⟩ := Kd.F_get h z37 i h0 h1
 have hc : ∀ j u, c[j]? = some u → w.cell? (ad.add (i.toNat * 8 + j)) = some u := hc0
 obtain ⟨A7, c7, rfl, l7, g7⟩ := k37_open (Kd.FK_now hK)
 refine ⟨ad, A7, c7, e, hc 0 _ rfl, by rw [← add_field _ _ 1 (by omega)]; exact hc 1 _ rfl, by rw [← add_field _ _ 2 (by omega)]; exact hc 2 _ rfl, by rw [← add_field _ _ 3 (by omega)]; exact hc 3 _ rfl, by rw [← add_field _ _ 4 (by omega)]; exact hc 4 _ rfl, by rw [← add_field _ _ 5 (by omega)]; exact hc 5 _ rfl, by rw [← add_field _ _ 6 (by omega)]; exact hc 6 _ rfl, by rw [← add_field _ _ 7 (by omega)]; exact hc 7 _ rfl, l7, fun W' hW => ?_⟩
 obtain ⟨A3, c3, e3, _, g3⟩ := k37_open (hK W' hW)
 simp only [List.cons.injEq, Value.slice.injEq, and_true, true_and] at e3
 rw [e3.1]
 exact g3
section
variable {N N2 : Nat → Prop} {w : World} {l : List HP} {i j n m c d : Nat} {A B : Option Addr} {rows : List (List Value)} {X : List Rnd7}
theorem same_raw (h : Own N w l) (hi : l[i]? = some (row kR7 tR7 (.slice A n c) X)) (hj : l[j]? = some (nrow (Kd.raw 3) tR7 (.slice B n d) rows)) (hl : Lead N w rows X) (hf : Few 20 X) (hx : X.length ≤ 1000) :
  Calls Tryd.prog 19 #[.slice A n c, .slice B n d] w fun e w' => e = .returned (.bool true) ∧ Below w.heap.size w w' := by
 obtain ⟨a1, a2, a3⟩ := h.rreads hi
 obtain ⟨b1, b2, b3⟩ := rowsC h hj hl
 subst a1
 exact chapbookref07_SameAll.calls 1100 _ _ X _ _ X true _ a3 a2 b3 b2 (psameAll 20 1100 X (by omega) (fun x h0 h1 => hf _ (rd_mem h0 h1)) (by decide) (by omega))
theorem same_rows (h : Own N w l) (hi : l[i]? = some (row kR7 tR7 (.slice A n c) X)) (hj : l[j]? = some (row kR7 tR7 (.slice B n d) X)) (hf : Few 20 X) (hx : X.length ≤ 1000) :
  Calls Tryd.prog 19 #[.slice A n c, .slice B n d] w fun e w' => e = .returned (.bool true) ∧ Below w.heap.size w w' := by
 obtain ⟨a1, a2, a3⟩ := h.rreads hi
 obtain ⟨b1, b2, b3⟩ := h.rreads hj
 subst a1
 exact chapbookref07_SameAll.calls 1100 _ _ X _ _ X true _ a3 a2 b3 b2 (psameAll 20 1100 X (by omega) (fun x h0 h1 => hf _ (rd_mem h0 h1)) (by decide) (by omega))
end
def CaI (N : Nat → Prop) (w : World) (n : Nat) (g gp gj gd : Nat) (o jm mtu push : Int) (R : List HP) (i : Value) (wr : World) : Prop :=
 ∃ (x : Int) (N1 : Nat → Prop) (K P L : List Rnd7) (U : List Upd7) (rJ rK rP : List (List Value)), 0 ≤ x ∧ x ≤ (n : Int) ∧ i = .int .i64 x ∧ Aside0 (Inv o jm x K P L U) ∧ Aside0 (∀ k, N k → N1 k) ∧ Aside0 (Led N1 wr rJ rK rP L K P) ∧ Aside0 (Own N1 wr (Both g gp gj gd o jm mtu push K P U L rJ rK rP U ++ R)) ∧ Aside0 (KeepS N w wr)
section
variable {N : Nat → Prop} {w : World} {g gj gd : Nat} {jp : Value} {jo jm o mtu push : Int} {rJ rK rP : List (List Value)} {L K P : List Rnd7} {U : List Upd7}
theorem OKnown_n (h : Own N w [CliO g jp o mtu push K P U]) (hL : K.length ≤ 1000000) (HB : Aside0 (bnd K)) :
  Calls Tryd.prog 20 #[pt g] w fun e_ w' => ∃ A1 c1, e_ = .returned (.slice A1 K.length c1) ∧ Own N w' [CliO g jp o mtu push K P U, nrow kR7 tR7 (.slice A1 K.length c1) K] ∧ KeepS N w w' :=
 (OKnown h hL HB).mono fun e_ w' ⟨A1, c1, a, b, k⟩ => ⟨A1, c1, a, b.row_nrow (i := 1) rfl, k⟩
end
theorem CTake_k2 {N : Nat → Prop} {w : World} {g : Nat} {jp : Value} {o mtu push : Int} {K P : List Rnd7} {U : List Upd7} (E : Int) (K' P' : List Rnd7) (r0 r1 : Int) (us : List Upd7) (B : Option Addr) (cb : Nat) (hE : takeE o P r0 r1 = E) (hK : takeK o K P ⟨r0, r1, us⟩ = K') (hP : takeP o P r0 r1 = P') (h : Own N w [CliO g jp o mtu push K P U]) (hr : Kd.F kU7 w N B us.length us) (hc : us.length ≤ cb) (hu : us.length ≤ 1000000) (hL : K.length ≤ 1000000) :
  Calls Tryd.prog 32 #[pt g, .agg #[.int .i64 r0, .int .i64 r1, .slice B us.length cb]] w fun e_ w' => e_ = .returned (.int .i64 E) ∧ Own N w' [CliO g jp o mtu push K' P' U] ∧ KeepS N w w' := CTake_k E K' P' r0 r1 us B cb hE hK hP h hr hc hu hL
theorem jm_pos (x : Int) : 0 ≤ mn (mx x 1) 1099511627776 := by unfold mn mx; (repeat' split) <;> omega
end Go.Proofs.YtjdenpmaianmfaaDoor.J
namespace Go.Proofs.YtjdenpmaianmfaaDoor.J
set_option linter.unusedSimpArgs false
set_option linter.unusedVariables false
open Go Go.RowKit Go.Proofs.YtjdenpmaianmfaaDoorW.PrintWords Go.Proofs.YtjdenpmaianmfaaDoorW.PrintLast Go.Proofs.YtjdenpmaianmfaaDoorW.PrintMore Go.Proofs.YtjdenpmaianmfaaDoor.Q Go.Proofs.YtjdenpmaianmfaaDoor.Sep Go.Proofs.YtjdenpmaianmfaaDoor.Pure
theorem adr (g a f : Nat) : (⟨((⟨g, 0, none⟩ : Addr).add a).block, ((⟨g, 0, none⟩ : Addr).add a).off + f, none⟩ : Addr) = ⟨g, a + f, none⟩ := by by_cases h : a = 0 <;> simp [Addr.add, h]
theorem adr0 (g a : Nat) : ((⟨g, 0, none⟩ : Addr).add a) = ⟨g, a + 0, none⟩ := by by_cases h : a = 0 <;> simp [Addr.add, h]
theorem putK {N : Nat → Prop} {w : World} {l : List HP} {i n c : Nat} {A : Option Addr} {xs : List Upd} (s : ByteArray) (h : Own N w l) (hi : l[i]? = some (row kU Sep.TU (.slice A n c) xs)) (j : Int) (h0 : 0 ≤ j) (h1 : j < n) :
  ∃ ad, A = some ad ∧ (∃ z, w.cell? (ad.add (j.toNat * 4)) = some z) ∧ w.frozen? (ad.add (j.toNat * 4)) = false ∧ KeepS N w (w.setCell (ad.add (j.toNat * 4)) (.string s)) ∧ ∃ xs', xs'.length = xs.length ∧ Own N (w.setCell (ad.add (j.toNat * 4)) (.string s)) (l.set i (row kU Sep.TU (.slice A n c) xs')) := by
 obtain ⟨g, rfl, hz, hf, hk, hr⟩ := Own.fput looseU (puts_key s) (by decide) h hi j h0 h1
 refine ⟨⟨g, 0, none⟩, rfl, ?_⟩
 rw [adr0]
 exact ⟨hz, hf, hk, hr⟩
theorem at_W {N : Nat → Prop} {w : World} {l : List HP} {i n c : Nat} {A : Option Addr} {L : List Rnd} (h : Own N w l) (hi : l[i]? = some (row kR Sep.TR (.slice A n c) L)) (p : Int) (p0 : 0 ≤ p) (p1 : p < n) : ∃ (ad : Addr) (A2 : Option Addr) (c2 : Nat), A = some ad ∧ w.cell? (ad.add (p.toNat * 3)) = some (.int .i64 (rd_T35 L p).f0) ∧ w.cell? ⟨(ad.add (p.toNat * 3)).block, (ad.add (p.toNat * 3)).off + 1, none⟩ = some (.int .i64 (rd_T35 L p).f1) ∧ w.cell? ⟨(ad.add (p.toNat * 3)).block, (ad.add (p.toNat * 3)).off + 2, none⟩ = some (.slice A2 (rd_T35 L p).f2.length c2) := by
 obtain ⟨h1, h2, h3⟩ := h.rreads hi
 obtain ⟨ad, c', e, _, hK, hc0⟩ := Kd.C_get h3 z35 p p0 p1
 have hc : ∀ j u, c'[j]? = some u → w.cell? (ad.add (p.toNat * 3 + j)) = some u := hc0
 obtain ⟨A2, c2, rfl, _, _⟩ := k35_open hK
 exact ⟨ad, A2, c2, e, hc 0 _ rfl, by rw [← add_field _ _ 1 (by omega)]; exact hc 1 _ rfl, by rw [← add_field _ _ 2 (by omega)]; exact hc 2 _ rfl⟩
theorem putKK {N : Nat → Prop} {w : World} {l : List HP} {i n c m c2 : Nat} {ad : Addr} {A2 : Option Addr} {L : List Rnd} (v : ByteArray) (h : Own N w l) (hi : l[i]? = some (row kR Sep.TR (.slice (some ad) n c) L)) (p j : Int) (p0 : 0 ≤ p) (p1 : p < n) (h0 : 0 ≤ j) (h1 : j < m)
  (hcell : w.cell? ⟨(ad.add (p.toNat * 3)).block, (ad.add (p.toNat * 3)).off + 2, none⟩ = some (.slice A2 m c2)) :
  ∃ a2, A2 = some a2 ∧ (∃ z, w.cell? (a2.add (j.toNat * 4)) = some z) ∧ w.frozen? (a2.add (j.toNat * 4)) = false ∧ KeepS N w (w.setCell (a2.add (j.toNat * 4)) (.string v)) ∧
   (w.setCell (a2.add (j.toNat * 4)) (.string v)).cell? ⟨(ad.add (p.toNat * 3)).block, (ad.add (p.toNat * 3)).off + 2, none⟩ = some (.slice A2 m c2) ∧
   ∃ L', L'.length = L.length ∧ Own N (w.setCell (a2.add (j.toNat * 4)) (.string v)) (l.set i (row kR Sep.TR (.slice (some ad) n c) L')) := by
 obtain ⟨F, hF⟩ := h.fact hi
 obtain ⟨ga, hga⟩ := R_some (show Kd.R kR Sep.TR w 0 F (.slice (some ad) n c) L from hF) (by omega)
 injection hga with hga
 subst hga
 rw [adr] at hcell ⊢
 obtain ⟨g, rfl, hz, hf, hk, hc, hr⟩ := Own.gput (puts_key v) (by decide) h hi p j p0 p1 h0 h1 rfl hcell
 refine ⟨⟨g, 0, none⟩, rfl, ?_⟩
 rw [adr0]
 exact ⟨hz, hf, hk, hc, hr⟩
def cellIs (p : Addr) (v : Value) : HP where
 P := fun F w => F p.block ∧ w.cell? p = some v
 move := fun h _ hk => ⟨h.1, (World.cell?_of_block (hk _ h.1 (World.block_lt_of_cell? _ _ h.2))).trans h.2⟩
 mono := fun h hf => ⟨hf _ h.1, h.2⟩
 bound := fun h => ⟨⟨h.1, World.block_lt_of_cell? _ _ h.2⟩, h.2⟩
theorem mark {N : Nat → Prop} {w : World} {l : List HP} {i n c : Nat} {ad : Addr} {v : Value} {L : List Rnd} (h : Own N w l) (hi : l[i]? = some (row kR Sep.TR (.slice (some ad) n c) L)) (p : Int) (p0 : 0 ≤ p) (p1 : p < n) (hc : w.cell? ⟨(ad.add (p.toNat * 3)).block, (ad.add (p.toNat * 3)).off + 2, none⟩ = some v) :
  Own N w (l.set i (both (row kR Sep.TR (.slice (some ad) n c) L) (cellIs ⟨(ad.add (p.toNat * 3)).block, (ad.add (p.toNat * 3)).off + 2, none⟩ v))) :=
 h.conv hi _ (fun F hp _ => ⟨hp, by
  obtain ⟨ga, hga⟩ := R_some (show Kd.R kR Sep.TR w 0 F (.slice (some ad) n c) L from hp) (by omega)
  injection hga with hga
  subst hga
  obtain ⟨_, _, hF, _⟩ := R_at (show Kd.R kR Sep.TR w 0 F (.slice (some ⟨ga, 0, none⟩) n c) L from hp)
  show F ((⟨ga, 0, none⟩ : Addr).add (p.toNat * 3)).block
  rw [add_block]
  exact hF, hc⟩)
theorem unmark {N : Nat → Prop} {w : World} {l : List HP} {i : Nat} {P X : HP} (h : Own N w l) (hi : l[i]? = some (both P X)) : Own N w (l.set i P) := h.conv hi _ (fun F hp _ => hp.1)
theorem putKK2 {N : Nat → Prop} {w : World} {l : List HP} {i n c m c2 : Nat} {ad : Addr} {A2 : Option Addr} {L : List Rnd} (v : ByteArray) (p j : Int) (h : Own N w l) (hi : l[i]? = some (both (row kR Sep.TR (.slice (some ad) n c) L) (cellIs ⟨(ad.add (p.toNat * 3)).block, (ad.add (p.toNat * 3)).off + 2, none⟩ (.slice A2 m c2)))) (p0 : 0 ≤ p) (p1 : p < n) (h0 : 0 ≤ j) (h1 : j < m) :
  ∃ a2, A2 = some a2 ∧ (∃ z, w.cell? (a2.add (j.toNat * 4)) = some z) ∧ w.frozen? (a2.add (j.toNat * 4)) = false ∧ KeepS N w (w.setCell (a2.add (j.toNat * 4)) (.string v)) ∧
   ∃ L', L'.length = L.length ∧ Own N (w.setCell (a2.add (j.toNat * 4)) (.string v)) (l.set i (both (row kR Sep.TR (.slice (some ad) n c) L') (cellIs ⟨(ad.add (p.toNat * 3)).block, (ad.add (p.toNat * 3)).off + 2, none⟩ (.slice A2 m c2)))) := by
 obtain ⟨F, hF⟩ := h.fact hi
 have hlt : i < l.length := (List.getElem?_eq_some_iff.1 hi).1
 obtain ⟨a2, e, hz, hf, hk, hc, L', hl, ho⟩ := putKK v (unmark h hi) (List.getElem?_set_self hlt) p j p0 p1 h0 h1 hF.2.2
 rw [List.set_set] at ho
 have hm := mark ho (List.getElem?_set_self hlt) p p0 p1 hc
 rw [List.set_set] at hm
 exact ⟨a2, e, hz, hf, hk, L', hl, hm⟩
theorem row_max {N : Nat → Prop} {w : World} {l : List HP} {i n c : Nat} {A : Option Addr} {L : List Rnd} (h : Own N w l) (hi : l[i]? = some (row kR Sep.TR (.slice A n c) L)) (p : Int) (p0 : 0 ≤ p) (p1 : p < n) : (rd_T35 L p).f2.length ≤ 9223372036854775807 := by
 obtain ⟨F, hF⟩ := h.fact hi
 have hn := (h.rreads hi).1
 obtain ⟨_, inner, ho, hr⟩ := (show Kd.R kR Sep.TR w 0 F (.slice A n c) L from hF)
 have hpl : p.toNat < L.length := by omega
 obtain ⟨c0, c1, e1, e2, c3, c4, e3, e4, v2, e5, hR⟩ := hr.2 p.toNat _ (List.getElem?_eq_getElem hpl)
 have e6 : rd_T35 L p = L[p.toNat] := by
  unfold rd_T35
  rw [List.getD_eq_getElem?_getD, List.getElem?_eq_getElem hpl]
  rfl
 rw [e6]
 obtain ⟨_, inner2, ho2, _⟩ := (show Kd.R kU Sep.TU w 0 _ v2 L[p.toNat].f2 from hR)
 rcases ho2.2 with ⟨_, h2⟩ | ⟨_, cap, _, _, _, _, h2, h3, _⟩
 ·rw [h2]; exact Nat.zero_le _
 ·exact Nat.le_trans h2 h3
def leadR (rows : List (List Value)) (xs : List Rnd7) : HP where
 P := fun F w => Lead F w rows xs
 move := fun h _ hk => ⟨h.1, fun j x c a b => Kd.FK_step (h.2 j x c a b) hk⟩
 mono := fun h hf => h.mono hf
 bound := fun h => ⟨h.1, fun j x c a b => Kd.FK_bound (h.2 j x c a b)⟩
theorem apart {N : Nat → Prop} {w : World} {l : List HP} {i : Nat} {v : Value} {K : List Rnd7} (h : Own N w l) (hi : l[i]? = some (nrow kR7 tR7 v K)) : ∃ rows : List (List Value), rows.length = K.length ∧ Own N w (l.set i (nrow (Kd.raw 3) tR7 v rows) ++ [leadR rows K]) := by
 have q := h.conv hi (ex fun rows => star (nrow (Kd.raw 3) tR7 v rows) (leadR rows K)) (fun F hp hF => by
  obtain ⟨h0, rows, hl, hR, hf⟩ := (show Kd.N kR7 tR7 w 0 F v K from hp)
  refine ⟨rows, fun k => some k = v.ownBlock, fun k => F k ∧ some k ≠ v.ownBlock, ?_, ⟨hl, hf⟩, fun k a b => b.2 a, fun k a => h0 k a.symm, fun k a => a.1⟩
  exact Kd.R_N hR)
 have hlt : i < l.length := (List.getElem?_eq_some_iff.1 hi).1
 obtain ⟨rows, q2⟩ := q.of_ex (List.getElem?_set_self hlt)
 rw [List.set_set] at q2
 have q3 := q2.split (List.getElem?_set_self hlt)
 rw [List.set_set] at q3
 have hi2 : (l.set i (nrow (Kd.raw 3) tR7 v rows) ++ [leadR rows K])[l.length]? = some (leadR rows K) := by
  rw [List.getElem?_append_right (by simp), List.length_set, Nat.sub_self]
  rfl
 obtain ⟨F, hF⟩ := q3.fact hi2
 exact ⟨rows, hF.1, q3⟩
set_option maxHeartbeats 16000000
set_option maxRecDepth 100000
def chapbooklaw17_ClientWaits.f (a0_0 a0_1 a0_2 a0_3 : Int) (l1 : List Act7) (a2_0 a2_1 : Int) (l2_2 : List Upd7) : Option Bool := some true
def CwU (N : Nat → Prop) (w : World) (R0 : List HP) (A : Option Addr) (n c : Nat) (i : Value) (wr : World) : Prop := ∃ (y : Int) (us : List Upd7), 0 ≤ y ∧ y ≤ (n : Int) ∧ i = .int .i64 y ∧ Aside0 (us.length = n) ∧ Aside0 (Own N wr (row kU Sep.TU (.slice A n c) us :: R0)) ∧ Aside0 (KeepS N w wr)
def CwR (N : Nat → Prop) (w : World) (R0 : List HP) (A : Option Addr) (n c : Nat) (i : Value) (wr : World) : Prop := ∃ (y : Int) (L2 : List Rnd7), 0 ≤ y ∧ y ≤ (n : Int) ∧ i = .int .i64 y ∧ Aside0 (L2.length = n) ∧ Aside0 (Own N wr (row kR Sep.TR (.slice A n c) L2 :: R0)) ∧ Aside0 (KeepS N w wr)
def CwQ (N : Nat → Prop) (w : World) (R0 : List HP) (gi n : Nat) (ad : Addr) (c : Nat) (y q0 q1 : Int) (A2 : Option Addr) (m c2 : Nat) (i : Value) (wr : World) : Prop := ∃ (z : Int) (L2 : List Rnd7), 0 ≤ z ∧ z ≤ (m : Int) ∧ i = .int .i64 z ∧ Aside0 (L2.length = n) ∧ Aside0 (Own N wr (both (row kR Sep.TR (.slice (some ad) n c) L2) (cellIs ⟨(ad.add (y.toNat * 3)).block, (ad.add (y.toNat * 3)).off + 2, none⟩ (.slice A2 m c2)) :: cells gi #[.int .i64 q0, .int .i64 q1, .slice A2 m c2] 35 :: R0)) ∧ Aside0 (KeepS N w wr)
theorem chapbooklaw17_ClientWaits.calls (a0_0 : Int) (a0_1 : Int) (a0_2 : Int) (a0_3 : Int) (A1 : Option Addr) (c1 : Nat) (l1 : List Act7) (a2_0 : Int) (a2_1 : Int) (A2_2 : Option Addr) (c2_2 : Nat) (l2_2 : List Upd7) (r : Bool) (w : World) (HT : Aside0 (Tab w)) (hr1 : Kd.C k37 w A1 l1.length l1) (hc1 : l1.length ≤ c1) (hr2_2 : Kd.C k32 w A2_2 l2_2.length l2_2) (hc2_2 : l2_2.length ≤ c2_2) (h : chapbooklaw17_ClientWaits.f a0_0 a0_1 a0_2 a0_3 l1 a2_0 a2_1 l2_2 = some r) :
  Calls Tryd.prog 8 #[.agg #[.int .i64 a0_0, .int .i64 a0_1, .int .i64 a0_2, .int .i64 a0_3], .slice A1 l1.length c1, .agg #[.int .i64 a2_0, .int .i64 a2_1, .slice A2_2 l2_2.length c2_2]] w fun e_ w' => e_ = .returned (.bool r) ∧ Below w.heap.size w w' := by
 obtain rfl : true = r := Option.some.inj h
 obtain ⟨A0, eA_⟩ : ∃ A0, A0 = A1 := ⟨_, rfl⟩
 subst eA_
 obtain ⟨c0, ec_⟩ : ∃ c0, c0 = c1 := ⟨_, rfl⟩
 subst ec_
 obtain ⟨l0, el_⟩ : ∃ l0, l0 = l1 := ⟨_, rfl⟩
 subst el_
 obtain ⟨A3, eA_⟩ : ∃ A3, A3 = A2_2 := ⟨_, rfl⟩
 subst eA_
 obtain ⟨c3, ec_⟩ : ∃ c3, c3 = c2_2 := ⟨_, rfl⟩
 subst ec_
 obtain ⟨l3, el_⟩ : ∃ l3, l3 = l2_2 := ⟨_, rfl⟩
 subst el_
 have hr0 := hr1
 have hc0 := hc1
 have hr3 := hr2_2
 have hc3 := hc2_2
 clear hr1 hc1 hr2_2 hc2_2
 obtain ⟨N, hN⟩ : ∃ N : Nat → Prop, N = fun k => k < w.heap.size := ⟨_, rfl⟩
 have HN := Aside0.mk hN
 have HT_0 : Aside0 (TabN N w) := ⟨by rw [hN]; exact World.block_lt_of_cell? w _ HT.out.1, HT.out⟩
 have HAF_0 : Aside0 (Kd.F kA7 w N A0 l0.length l0) := ⟨by rw [hN]; exact Kd.C_F heapA7 hr0⟩
 have HR0 := Aside0.mk hr0
 have HC0 := Aside0.mk hc0
 have HRF_0 : Aside0 (Kd.F kU7 w N A3 l3.length l3) := ⟨by rw [hN]; exact Kd.C_F heapU7 hr3⟩
 have HRF0 := HRF_0
 have HR3 := Aside0.mk hr3
 have HC3 := Aside0.mk hc3
 clear hr3 hc3
 have HT00 := HT_0
 have HAF0 := HAF_0
 have O0 : Aside0 (Own N w []) := ⟨Own.start_ (fun k hk => by rw [hN] at hk; exact hk)⟩
 have K0 : Aside0 (KeepS N w w) := ⟨KeepS.refl _ _⟩
 clear hN HT hr0 hc0
 obtain ⟨b, hgr, hgb⟩ := great17_ok l0
 have HGR := Aside0.mk hgr
 have HGB := Aside0.mk hgb
 clear hgr hgb h
 obtain ⟨jm, hjm⟩ : ∃ m, m = mn (mx a0_3 1) 1099511627776 := ⟨_, rfl⟩
 have HJM := Aside0.mk hjm
 have HJP : Aside0 (0 ≤ jm) := ⟨by rw [hjm]; exact jm_pos _⟩
 obtain ⟨pp, hpp⟩ : ∃ m, m = mn (mx a0_2 1) 16 := ⟨_, rfl⟩
 have HPP := Aside0.mk hpp
 clear hjm hpp
 obtain ⟨rb, hrg, hrb⟩ := great7_ok 300 (by decide) a2_0 a2_1 l3
 have HRG := Aside0.mk hrg
 have HRB := Aside0.mk hrb
 clear hrg hrb
 go_enter Tryd.func8, Tryd.ntmps8
 cases b with
 | true =>
  go_wp2_with (first | ((with_reducible refine gD 3 rfl ?_); refine bP 3 #[.int .i64 a0_0, .int .i64 a0_1, .int .i64 a0_2, .int .i64 a0_3] 22 O0.out ?_; intro gx w1 o_ k_; obtain ⟨O1, K1⟩ := ok_ K0 o_ k_; have HT_1 := Aside0.mk (TabN.keep HT_0.out k_); have HAF_1 := Aside0.mk (keepF HAF_0.out k_); have HRF_1 := Aside0.mk (keepF HRF_0.out k_); clear O0 K0 HT_0 HAF_0 HRF_0 o_ k_; have a0 := k4_ O1 0) | ((with_reducible refine gD 5 rfl ?_); refine bP 5 #[.int .i64 a2_0, .int .i64 a2_1, .slice A3 l3.length c3] 35 O1.out ?_; intro gq w2 o_ k_; obtain ⟨O2, K2⟩ := ok_ K1 o_ k_; have HT_2 := Aside0.mk (TabN.keep HT_1.out k_); have HAF_2 := Aside0.mk (keepF HAF_1.out k_); have HRF_2 := Aside0.mk (keepF HRF_1.out k_); clear a0 O1 K1 HT_1 HAF_1 HRF_1 o_ k_; have a0 := k4_ O2 0; have a1 := k3_ O2 1) | ((with_reducible refine gC 15 rfl ?_); refine gP (some 18) Tryd.func15 #[.agg #[.int .i64 a0_0, .int .i64 a0_1, .int .i64 a0_2, .int .i64 a0_3]] ?_; obtain ⟨N_, on_, nn_, rr_, bb_⟩ := O2.out.frame0; refine (Made a0_0 a0_1 a0_2 a0_3 on_).mono ?_; rintro e_ w3 ⟨g, gp, gj, gd, rfl, oo_, kk_⟩; rw [← HJM.out, ← HPP.out] at oo_; obtain ⟨o_, k_⟩ := bb_ _ _ kk_ oo_; refine ⟨_, rfl, ?_⟩; obtain ⟨O3, K3⟩ := ok_ K2 o_ k_; have HT_3 := Aside0.mk (TabN.keep HT_2.out k_); have HAF_3 := Aside0.mk (keepF HAF_2.out k_); have HRF_3 := Aside0.mk (keepF HRF_2.out k_); clear a0 a1 O2 K2 HT_2 HAF_2 HRF_2 o_ k_ oo_ kk_ on_ nn_ rr_ bb_; have a0 := k4_ O3 0; have a1 := k3_ O3 1) | ((with_reducible refine gD 7 rfl ?_); refine bP 7 #[.pointer none, .pointer none] 27 O3.out ?_; intro gk w4 o_ k_; obtain ⟨O4, K4⟩ := ok_ K3 o_ k_; have HT_4 := Aside0.mk (TabN.keep HT_3.out k_); have HAF_4 := Aside0.mk (keepF HAF_3.out k_); have HRF_4 := Aside0.mk (keepF HRF_3.out k_); clear a0 a1 O3 K3 HT_3 HAF_3 HRF_3 o_ k_; have a0 := k4_ O4 0; have a1 := k3_ O4 1; have a5 := k2_ O4 5) | ((with_reducible refine gT 27 7 rfl ?_); refine wS 5 0 [pt g, pt gd] O4 ?_; intro w5 o_ k_; obtain ⟨O5, K5⟩ := ok_ K4 o_ k_; have HT_5 := Aside0.mk (TabN.keep HT_4.out k_); have HAF_5 := Aside0.mk (keepF HAF_4.out k_); have HRF_5 := Aside0.mk (keepF HRF_4.out k_); clear a0 a1 a5 O4 K4 HT_4 HAF_4 HRF_4 o_ k_; have a0 := k4_ O5 0; have a1 := k3_ O5 1; have a5 := k2_ O5 5) | ((with_reducible refine gC 16 rfl ?_); refine gP (some 19) Tryd.func16 #[] ?_; refine (awake17 _ ⟨HT_5.out.2⟩).mono ?_; rintro e_ w6 ⟨rfl, hb_⟩; refine ⟨_, rfl, ?_⟩; have o_ := O5.out.below hb_; have k_ := KeepS.of_below (N := N) hb_; obtain ⟨O6, K6⟩ := ok_ K5 o_ k_; have HT_6 := Aside0.mk (TabN.keep HT_5.out k_); have HAF_6 := Aside0.mk (keepF HAF_5.out k_); have HRF_6 := Aside0.mk (keepF HRF_5.out k_); clear a0 a1 a5 O5 K5 HT_5 HAF_5 HRF_5 o_ k_ hb_; have a0 := k4_ O6 0; have a1 := k3_ O6 1; have a5 := k2_ O6 5) | ((with_reducible refine gC 17 rfl ?_); refine gate_guard (by rfl) ?_; refine gP (some 28) Tryd.func17 #[.slice A0 l0.length c0] ?_; refine (chapbooklaw17_great.calls 300 _ _ l0 true _ (Kd.C_below HR0.out (kw_ K6 HN)) HC0.out HGR.out).mono ?_; rintro e_ w7 ⟨rfl, hb_⟩; refine ⟨_, rfl, ?_⟩; have o_ := O6.out.below hb_; have k_ := KeepS.of_below (N := N) hb_; obtain ⟨O7, K7⟩ := ok_ K6 o_ k_; have HT_7 := Aside0.mk (TabN.keep HT_6.out k_); have HAF_7 := Aside0.mk (keepF HAF_6.out k_); have HRF_7 := Aside0.mk (keepF HRF_6.out k_); clear a0 a1 a5 O6 K6 HT_6 HAF_6 HRF_6 o_ k_ hb_; have a0 := k4_ O7 0; have a1 := k3_ O7 1; have a5 := k2_ O7 5) | ((with_reducible refine gC 16 rfl ?_); refine gP (some 41) Tryd.func16 #[] ?_; refine (awake17 _ ⟨HT_7.out.2⟩).mono ?_; rintro e_ w8 ⟨rfl, hb_⟩; refine ⟨_, rfl, ?_⟩; have o_ := O7.out.below hb_; have k_ := KeepS.of_below (N := N) hb_; obtain ⟨O8, K8⟩ := ok_ K7 o_ k_; have HT_8 := Aside0.mk (TabN.keep HT_7.out k_); have HAF_8 := Aside0.mk (keepF HAF_7.out k_); have HRF_8 := Aside0.mk (keepF HRF_7.out k_); clear a0 a1 a5 O7 K7 HT_7 HAF_7 HRF_7 o_ k_ hb_; have a0 := k4_ O8 0; have a1 := k3_ O8 1; have a5 := k2_ O8 5))
  all_goals go_ret
  all_goals exact ⟨rfl, kw_ K8 HN⟩
 | false =>
  obtain ⟨hl50, hl20⟩ := HGB.out rfl
  have HL50 := Aside0.mk hl50
  have HL20 := Aside0.mk hl20
  clear hl50 hl20 HGB
  cases rb with
  | true =>
   go_wp2_with (first | ((with_reducible refine gD 3 rfl ?_); refine bP 3 #[.int .i64 a0_0, .int .i64 a0_1, .int .i64 a0_2, .int .i64 a0_3] 22 O0.out ?_; intro gx w1 o_ k_; obtain ⟨O1, K1⟩ := ok_ K0 o_ k_; have HT_1 := Aside0.mk (TabN.keep HT_0.out k_); have HAF_1 := Aside0.mk (keepF HAF_0.out k_); have HRF_1 := Aside0.mk (keepF HRF_0.out k_); clear O0 K0 HT_0 HAF_0 HRF_0 o_ k_; have a0 := k4_ O1 0) | ((with_reducible refine gD 5 rfl ?_); refine bP 5 #[.int .i64 a2_0, .int .i64 a2_1, .slice A3 l3.length c3] 35 O1.out ?_; intro gq w2 o_ k_; obtain ⟨O2, K2⟩ := ok_ K1 o_ k_; have HT_2 := Aside0.mk (TabN.keep HT_1.out k_); have HAF_2 := Aside0.mk (keepF HAF_1.out k_); have HRF_2 := Aside0.mk (keepF HRF_1.out k_); clear a0 O1 K1 HT_1 HAF_1 HRF_1 o_ k_; have a0 := k4_ O2 0; have a1 := k3_ O2 1) | ((with_reducible refine gC 15 rfl ?_); refine gP (some 18) Tryd.func15 #[.agg #[.int .i64 a0_0, .int .i64 a0_1, .int .i64 a0_2, .int .i64 a0_3]] ?_; obtain ⟨N_, on_, nn_, rr_, bb_⟩ := O2.out.frame0; refine (Made a0_0 a0_1 a0_2 a0_3 on_).mono ?_; rintro e_ w3 ⟨g, gp, gj, gd, rfl, oo_, kk_⟩; rw [← HJM.out, ← HPP.out] at oo_; obtain ⟨o_, k_⟩ := bb_ _ _ kk_ oo_; refine ⟨_, rfl, ?_⟩; obtain ⟨O3, K3⟩ := ok_ K2 o_ k_; have HT_3 := Aside0.mk (TabN.keep HT_2.out k_); have HAF_3 := Aside0.mk (keepF HAF_2.out k_); have HRF_3 := Aside0.mk (keepF HRF_2.out k_); clear a0 a1 O2 K2 HT_2 HAF_2 HRF_2 o_ k_ oo_ kk_ on_ nn_ rr_ bb_; have a0 := k4_ O3 0; have a1 := k3_ O3 1) | ((with_reducible refine gD 7 rfl ?_); refine bP 7 #[.pointer none, .pointer none] 27 O3.out ?_; intro gk w4 o_ k_; obtain ⟨O4, K4⟩ := ok_ K3 o_ k_; have HT_4 := Aside0.mk (TabN.keep HT_3.out k_); have HAF_4 := Aside0.mk (keepF HAF_3.out k_); have HRF_4 := Aside0.mk (keepF HRF_3.out k_); clear a0 a1 O3 K3 HT_3 HAF_3 HRF_3 o_ k_; have a0 := k4_ O4 0; have a1 := k3_ O4 1; have a5 := k2_ O4 5) | ((with_reducible refine gT 27 7 rfl ?_); refine wS 5 0 [pt g, pt gd] O4 ?_; intro w5 o_ k_; obtain ⟨O5, K5⟩ := ok_ K4 o_ k_; have HT_5 := Aside0.mk (TabN.keep HT_4.out k_); have HAF_5 := Aside0.mk (keepF HAF_4.out k_); have HRF_5 := Aside0.mk (keepF HRF_4.out k_); clear a0 a1 a5 O4 K4 HT_4 HAF_4 HRF_4 o_ k_; have a0 := k4_ O5 0; have a1 := k3_ O5 1; have a5 := k2_ O5 5) | ((with_reducible refine gC 16 rfl ?_); refine gP (some 19) Tryd.func16 #[] ?_; refine (awake17 _ ⟨HT_5.out.2⟩).mono ?_; rintro e_ w6 ⟨rfl, hb_⟩; refine ⟨_, rfl, ?_⟩; have o_ := O5.out.below hb_; have k_ := KeepS.of_below (N := N) hb_; obtain ⟨O6, K6⟩ := ok_ K5 o_ k_; have HT_6 := Aside0.mk (TabN.keep HT_5.out k_); have HAF_6 := Aside0.mk (keepF HAF_5.out k_); have HRF_6 := Aside0.mk (keepF HRF_5.out k_); clear a0 a1 a5 O5 K5 HT_5 HAF_5 HRF_5 o_ k_ hb_; have a0 := k4_ O6 0; have a1 := k3_ O6 1; have a5 := k2_ O6 5) | ((with_reducible refine gC 17 rfl ?_); refine gate_guard (by rfl) ?_; refine gP (some 28) Tryd.func17 #[.slice A0 l0.length c0] ?_; refine (chapbooklaw17_great.calls 300 _ _ l0 false _ (Kd.C_below HR0.out (kw_ K6 HN)) HC0.out HGR.out).mono ?_; rintro e_ w7 ⟨rfl, hb_⟩; refine ⟨_, rfl, ?_⟩; have o_ := O6.out.below hb_; have k_ := KeepS.of_below (N := N) hb_; obtain ⟨O7, K7⟩ := ok_ K6 o_ k_; have HT_7 := Aside0.mk (TabN.keep HT_6.out k_); have HAF_7 := Aside0.mk (keepF HAF_6.out k_); have HRF_7 := Aside0.mk (keepF HRF_6.out k_); clear a0 a1 a5 O6 K6 HT_6 HAF_6 HRF_6 o_ k_ hb_; have a0 := k4_ O7 0; have a1 := k3_ O7 1; have a5 := k2_ O7 5) | ((with_reducible refine gC 34 rfl ?_); refine gate_guard (by rfl) ?_; refine gP (some 32) Tryd.func34 #[.agg #[.int .i64 a2_0, .int .i64 a2_1, .slice A3 l3.length c3]] ?_; refine (chapbookref07_Great.calls 300 a2_0 a2_1 _ _ l3 true _ (Kd.C_below HR3.out (kw_ K7 HN)) HC3.out HRG.out).mono ?_; rintro e_ w8 ⟨rfl, hb_⟩; refine ⟨_, rfl, ?_⟩; have o_ := O7.out.below hb_; have k_ := KeepS.of_below (N := N) hb_; obtain ⟨O8, K8⟩ := ok_ K7 o_ k_; have HT_8 := Aside0.mk (TabN.keep HT_7.out k_); have HAF_8 := Aside0.mk (keepF HAF_7.out k_); have HRF_8 := Aside0.mk (keepF HRF_7.out k_); clear a0 a1 a5 O7 K7 HT_7 HAF_7 HRF_7 o_ k_ hb_; have a0 := k4_ O8 0; have a1 := k3_ O8 1; have a5 := k2_ O8 5) | ((with_reducible refine gC 16 rfl ?_); refine gP (some 41) Tryd.func16 #[] ?_; refine (awake17 _ ⟨HT_8.out.2⟩).mono ?_; rintro e_ w9 ⟨rfl, hb_⟩; refine ⟨_, rfl, ?_⟩; have o_ := O8.out.below hb_; have k_ := KeepS.of_below (N := N) hb_; obtain ⟨O9, K9⟩ := ok_ K8 o_ k_; have HT_9 := Aside0.mk (TabN.keep HT_8.out k_); have HAF_9 := Aside0.mk (keepF HAF_8.out k_); have HRF_9 := Aside0.mk (keepF HRF_8.out k_); clear a0 a1 a5 O8 K8 HT_8 HAF_8 HRF_8 o_ k_ hb_; have a0 := k4_ O9 0; have a1 := k3_ O9 1; have a5 := k2_ O9 5))
   all_goals go_ret
   all_goals exact ⟨rfl, kw_ K9 HN⟩
  | false =>
   have HR20 := Aside0.mk (HRB.out rfl)
   clear HRB
   by_cases hne : a2_0 = a0_0
   ·have de : (a2_0 == a0_0) = true := beq_iff_eq.mpr hne
    clear hne
    go_wp2_with (first | ((with_reducible refine gD 3 rfl ?_); refine bP 3 #[.int .i64 a0_0, .int .i64 a0_1, .int .i64 a0_2, .int .i64 a0_3] 22 O0.out ?_; intro gx w1 o_ k_; obtain ⟨O1, K1⟩ := ok_ K0 o_ k_; have HT_1 := Aside0.mk (TabN.keep HT_0.out k_); have HAF_1 := Aside0.mk (keepF HAF_0.out k_); have HRF_1 := Aside0.mk (keepF HRF_0.out k_); clear O0 K0 HT_0 HAF_0 HRF_0 o_ k_; have a0 := k4_ O1 0) | ((with_reducible refine gD 5 rfl ?_); refine bP 5 #[.int .i64 a2_0, .int .i64 a2_1, .slice A3 l3.length c3] 35 O1.out ?_; intro gq w2 o_ k_; obtain ⟨O2, K2⟩ := ok_ K1 o_ k_; have HT_2 := Aside0.mk (TabN.keep HT_1.out k_); have HAF_2 := Aside0.mk (keepF HAF_1.out k_); have HRF_2 := Aside0.mk (keepF HRF_1.out k_); clear a0 O1 K1 HT_1 HAF_1 HRF_1 o_ k_; have a0 := k4_ O2 0; have a1 := k3_ O2 1) | ((with_reducible refine gC 15 rfl ?_); refine gP (some 18) Tryd.func15 #[.agg #[.int .i64 a0_0, .int .i64 a0_1, .int .i64 a0_2, .int .i64 a0_3]] ?_; obtain ⟨N_, on_, nn_, rr_, bb_⟩ := O2.out.frame0; refine (Made a0_0 a0_1 a0_2 a0_3 on_).mono ?_; rintro e_ w3 ⟨g, gp, gj, gd, rfl, oo_, kk_⟩; rw [← HJM.out, ← HPP.out] at oo_; obtain ⟨o_, k_⟩ := bb_ _ _ kk_ oo_; refine ⟨_, rfl, ?_⟩; obtain ⟨O3, K3⟩ := ok_ K2 o_ k_; have HT_3 := Aside0.mk (TabN.keep HT_2.out k_); have HAF_3 := Aside0.mk (keepF HAF_2.out k_); have HRF_3 := Aside0.mk (keepF HRF_2.out k_); clear a0 a1 O2 K2 HT_2 HAF_2 HRF_2 o_ k_ oo_ kk_ on_ nn_ rr_ bb_; have a0 := k4_ O3 0; have a1 := k3_ O3 1) | ((with_reducible refine gD 7 rfl ?_); refine bP 7 #[.pointer none, .pointer none] 27 O3.out ?_; intro gk w4 o_ k_; obtain ⟨O4, K4⟩ := ok_ K3 o_ k_; have HT_4 := Aside0.mk (TabN.keep HT_3.out k_); have HAF_4 := Aside0.mk (keepF HAF_3.out k_); have HRF_4 := Aside0.mk (keepF HRF_3.out k_); clear a0 a1 O3 K3 HT_3 HAF_3 HRF_3 o_ k_; have a0 := k4_ O4 0; have a1 := k3_ O4 1; have a5 := k2_ O4 5) | ((with_reducible refine gT 27 7 rfl ?_); refine wS 5 0 [pt g, pt gd] O4 ?_; intro w5 o_ k_; obtain ⟨O5, K5⟩ := ok_ K4 o_ k_; have HT_5 := Aside0.mk (TabN.keep HT_4.out k_); have HAF_5 := Aside0.mk (keepF HAF_4.out k_); have HRF_5 := Aside0.mk (keepF HRF_4.out k_); clear a0 a1 a5 O4 K4 HT_4 HAF_4 HRF_4 o_ k_; have a0 := k4_ O5 0; have a1 := k3_ O5 1; have a5 := k2_ O5 5) | ((with_reducible refine gC 16 rfl ?_); refine gP (some 19) Tryd.func16 #[] ?_; refine (awake17 _ ⟨HT_5.out.2⟩).mono ?_; rintro e_ w6 ⟨rfl, hb_⟩; refine ⟨_, rfl, ?_⟩; have o_ := O5.out.below hb_; have k_ := KeepS.of_below (N := N) hb_; obtain ⟨O6, K6⟩ := ok_ K5 o_ k_; have HT_6 := Aside0.mk (TabN.keep HT_5.out k_); have HAF_6 := Aside0.mk (keepF HAF_5.out k_); have HRF_6 := Aside0.mk (keepF HRF_5.out k_); clear a0 a1 a5 O5 K5 HT_5 HAF_5 HRF_5 o_ k_ hb_; have a0 := k4_ O6 0; have a1 := k3_ O6 1; have a5 := k2_ O6 5) | ((with_reducible refine gC 17 rfl ?_); refine gate_guard (by rfl) ?_; refine gP (some 28) Tryd.func17 #[.slice A0 l0.length c0] ?_; refine (chapbooklaw17_great.calls 300 _ _ l0 false _ (Kd.C_below HR0.out (kw_ K6 HN)) HC0.out HGR.out).mono ?_; rintro e_ w7 ⟨rfl, hb_⟩; refine ⟨_, rfl, ?_⟩; have o_ := O6.out.below hb_; have k_ := KeepS.of_below (N := N) hb_; obtain ⟨O7, K7⟩ := ok_ K6 o_ k_; have HT_7 := Aside0.mk (TabN.keep HT_6.out k_); have HAF_7 := Aside0.mk (keepF HAF_6.out k_); have HRF_7 := Aside0.mk (keepF HRF_6.out k_); clear a0 a1 a5 O6 K6 HT_6 HAF_6 HRF_6 o_ k_ hb_; have a0 := k4_ O7 0; have a1 := k3_ O7 1; have a5 := k2_ O7 5) | ((with_reducible refine gC 34 rfl ?_); refine gate_guard (by rfl) ?_; refine gP (some 32) Tryd.func34 #[.agg #[.int .i64 a2_0, .int .i64 a2_1, .slice A3 l3.length c3]] ?_; refine (chapbookref07_Great.calls 300 a2_0 a2_1 _ _ l3 false _ (Kd.C_below HR3.out (kw_ K7 HN)) HC3.out HRG.out).mono ?_; rintro e_ w8 ⟨rfl, hb_⟩; refine ⟨_, rfl, ?_⟩; have o_ := O7.out.below hb_; have k_ := KeepS.of_below (N := N) hb_; obtain ⟨O8, K8⟩ := ok_ K7 o_ k_; have HT_8 := Aside0.mk (TabN.keep HT_7.out k_); have HAF_8 := Aside0.mk (keepF HAF_7.out k_); have HRF_8 := Aside0.mk (keepF HRF_7.out k_); clear a0 a1 a5 O7 K7 HT_7 HAF_7 HRF_7 o_ k_ hb_; have a0 := k4_ O8 0; have a1 := k3_ O8 1; have a5 := k2_ O8 5) | ((with_reducible refine gC 16 rfl ?_); refine gP (some 41) Tryd.func16 #[] ?_; refine (awake17 _ ⟨HT_8.out.2⟩).mono ?_; rintro e_ w9 ⟨rfl, hb_⟩; refine ⟨_, rfl, ?_⟩; have o_ := O8.out.below hb_; have k_ := KeepS.of_below (N := N) hb_; obtain ⟨O9, K9⟩ := ok_ K8 o_ k_; have HT_9 := Aside0.mk (TabN.keep HT_8.out k_); have HAF_9 := Aside0.mk (keepF HAF_8.out k_); have HRF_9 := Aside0.mk (keepF HRF_8.out k_); clear a0 a1 a5 O8 K8 HT_8 HAF_8 HRF_8 o_ k_ hb_; have a0 := k4_ O9 0; have a1 := k3_ O9 1; have a5 := k2_ O9 5))
    all_goals go_ret
    all_goals exact ⟨rfl, kw_ K9 HN⟩
   ·have de : (a2_0 == a0_0) = false := beq_eq_false_iff_ne.mpr hne
    have HNE := Aside0.mk hne
    clear hne
    go_wp2_with (first | ((with_reducible refine gD 3 rfl ?_); refine bP 3 #[.int .i64 a0_0, .int .i64 a0_1, .int .i64 a0_2, .int .i64 a0_3] 22 O0.out ?_; intro gx w1 o_ k_; obtain ⟨O1, K1⟩ := ok_ K0 o_ k_; have HT_1 := Aside0.mk (TabN.keep HT_0.out k_); have HAF_1 := Aside0.mk (keepF HAF_0.out k_); have HRF_1 := Aside0.mk (keepF HRF_0.out k_); clear O0 K0 HT_0 HAF_0 HRF_0 o_ k_; have a0 := k4_ O1 0) | ((with_reducible refine gD 5 rfl ?_); refine bP 5 #[.int .i64 a2_0, .int .i64 a2_1, .slice A3 l3.length c3] 35 O1.out ?_; intro gq w2 o_ k_; obtain ⟨O2, K2⟩ := ok_ K1 o_ k_; have HT_2 := Aside0.mk (TabN.keep HT_1.out k_); have HAF_2 := Aside0.mk (keepF HAF_1.out k_); have HRF_2 := Aside0.mk (keepF HRF_1.out k_); clear a0 O1 K1 HT_1 HAF_1 HRF_1 o_ k_; have a0 := k4_ O2 0; have a1 := k3_ O2 1) | ((with_reducible refine gC 15 rfl ?_); refine gP (some 18) Tryd.func15 #[.agg #[.int .i64 a0_0, .int .i64 a0_1, .int .i64 a0_2, .int .i64 a0_3]] ?_; obtain ⟨N_, on_, nn_, rr_, bb_⟩ := O2.out.frame0; refine (Made a0_0 a0_1 a0_2 a0_3 on_).mono ?_; rintro e_ w3 ⟨g, gp, gj, gd, rfl, oo_, kk_⟩; rw [← HJM.out, ← HPP.out] at oo_; obtain ⟨o_, k_⟩ := bb_ _ _ kk_ oo_; refine ⟨_, rfl, ?_⟩; obtain ⟨O3, K3⟩ := ok_ K2 o_ k_; have HT_3 := Aside0.mk (TabN.keep HT_2.out k_); have HAF_3 := Aside0.mk (keepF HAF_2.out k_); have HRF_3 := Aside0.mk (keepF HRF_2.out k_); clear a0 a1 O2 K2 HT_2 HAF_2 HRF_2 o_ k_ oo_ kk_ on_ nn_ rr_ bb_; have a0 := k4_ O3 0; have a1 := k3_ O3 1) | ((with_reducible refine gD 7 rfl ?_); refine bP 7 #[.pointer none, .pointer none] 27 O3.out ?_; intro gk w4 o_ k_; obtain ⟨O4, K4⟩ := ok_ K3 o_ k_; have HT_4 := Aside0.mk (TabN.keep HT_3.out k_); have HAF_4 := Aside0.mk (keepF HAF_3.out k_); have HRF_4 := Aside0.mk (keepF HRF_3.out k_); clear a0 a1 O3 K3 HT_3 HAF_3 HRF_3 o_ k_; have a0 := k4_ O4 0; have a1 := k3_ O4 1; have a5 := k2_ O4 5) | ((with_reducible refine gT 27 7 rfl ?_); refine wS 5 0 [pt g, pt gd] O4 ?_; intro w5 o_ k_; obtain ⟨O5, K5⟩ := ok_ K4 o_ k_; have HT_5 := Aside0.mk (TabN.keep HT_4.out k_); have HAF_5 := Aside0.mk (keepF HAF_4.out k_); have HRF_5 := Aside0.mk (keepF HRF_4.out k_); clear a0 a1 a5 O4 K4 HT_4 HAF_4 HRF_4 o_ k_; have a0 := k4_ O5 0; have a1 := k3_ O5 1; have a5 := k2_ O5 5) | ((with_reducible refine gC 16 rfl ?_); refine gP (some 19) Tryd.func16 #[] ?_; refine (awake17 _ ⟨HT_5.out.2⟩).mono ?_; rintro e_ w6 ⟨rfl, hb_⟩; refine ⟨_, rfl, ?_⟩; have o_ := O5.out.below hb_; have k_ := KeepS.of_below (N := N) hb_; obtain ⟨O6, K6⟩ := ok_ K5 o_ k_; have HT_6 := Aside0.mk (TabN.keep HT_5.out k_); have HAF_6 := Aside0.mk (keepF HAF_5.out k_); have HRF_6 := Aside0.mk (keepF HRF_5.out k_); clear a0 a1 a5 O5 K5 HT_5 HAF_5 HRF_5 o_ k_ hb_; have a0 := k4_ O6 0; have a1 := k3_ O6 1; have a5 := k2_ O6 5) | ((with_reducible refine gC 17 rfl ?_); refine gate_guard (by rfl) ?_; refine gP (some 28) Tryd.func17 #[.slice A0 l0.length c0] ?_; refine (chapbooklaw17_great.calls 300 _ _ l0 false _ (Kd.C_below HR0.out (kw_ K6 HN)) HC0.out HGR.out).mono ?_; rintro e_ w7 ⟨rfl, hb_⟩; refine ⟨_, rfl, ?_⟩; have o_ := O6.out.below hb_; have k_ := KeepS.of_below (N := N) hb_; obtain ⟨O7, K7⟩ := ok_ K6 o_ k_; have HT_7 := Aside0.mk (TabN.keep HT_6.out k_); have HAF_7 := Aside0.mk (keepF HAF_6.out k_); have HRF_7 := Aside0.mk (keepF HRF_6.out k_); clear a0 a1 a5 O6 K6 HT_6 HAF_6 HRF_6 o_ k_ hb_; have a0 := k4_ O7 0; have a1 := k3_ O7 1; have a5 := k2_ O7 5) | ((with_reducible refine gC 34 rfl ?_); refine gate_guard (by rfl) ?_; refine gP (some 32) Tryd.func34 #[.agg #[.int .i64 a2_0, .int .i64 a2_1, .slice A3 l3.length c3]] ?_; refine (chapbookref07_Great.calls 300 a2_0 a2_1 _ _ l3 false _ (Kd.C_below HR3.out (kw_ K7 HN)) HC3.out HRG.out).mono ?_; rintro e_ w8 ⟨rfl, hb_⟩; refine ⟨_, rfl, ?_⟩; have o_ := O7.out.below hb_; have k_ := KeepS.of_below (N := N) hb_; obtain ⟨O8, K8⟩ := ok_ K7 o_ k_; have HT_8 := Aside0.mk (TabN.keep HT_7.out k_); have HAF_8 := Aside0.mk (keepF HAF_7.out k_); have HRF_8 := Aside0.mk (keepF HRF_7.out k_); clear a0 a1 a5 O7 K7 HT_7 HAF_7 HRF_7 o_ k_ hb_; have a0 := k4_ O8 0; have a1 := k3_ O8 1; have a5 := k2_ O8 5))
    clear a0 a1 a5
    go_loopw [44] (fun vi wr => CaI N w l0.length g gp gj gd a0_0 jm a0_1 pp [cells gx #[.int .i64 a0_0, .int .i64 a0_1, .int .i64 a0_2, .int .i64 a0_3] 22, cells gk #[pt g, pt gd] 27, cells gq #[.int .i64 a2_0, .int .i64 a2_1, .slice A3 l3.length c3] 35] vi wr) (fun vi _ => l0.length - (intOf vi).toNat)
    case atStart => exact ⟨0, N, [], [], [], [], [], [], [], by omega, by omega, rfl, ⟨Inv.zero HJP.out⟩, ⟨fun _ h => h⟩, ⟨⟨Lead.none _ _, Lead.none _ _, Lead.none _ _⟩⟩, ⟨O8.out.pickL [2, 3, 4, 0, 5, 1] (by decide) (by simp)⟩, K8⟩
    case round =>
     obtain ⟨x, N1, K, P, L, U, rJ, rK, rP, hx0, hx1, rfl, HI, HNN, HLE, OA, KA⟩ := hrel
     clear O8 K8 HT_8 HAF_8 HRF_8
     have h50 := HL50.out
     by_cases hlt : x < (l0.length : Int)
     ·obtain ⟨ad, A7, c7, e7, y0, y1, y2, y3, y4, y5, y6, y7, hl7, hF7⟩ := at_A (keepF HAF0.out KA.out) x hx0 hlt
      cases e7
      have HC7 := Aside0.mk hl7
      have HF7 := Aside0.mk (Kd.F_mono hF7 HNN.out)
      have HK20 := Aside0.mk (HL20.out x hx0 hlt)
      have hs2 : wrap64 (x + 1) = x + 1 := by unfold wrap64; omega
      have hp := eq_true hx0
      have hq := eq_true hlt
      have hd : decide (x < (l0.length : Int)) = true := decide_eq_true hlt
      have HX : Aside0 (0 ≤ x ∧ x < l0.length ∧ x ≤ 49) := ⟨hx0, hlt, by omega⟩
      obtain ⟨a, ha⟩ : ∃ a, rdA l0 x = a := ⟨_, rfl⟩
      rw [ha] at y0 y1 y2 y3 y4 y5 y6 y7 HC7 HF7
      have HAX := Aside0.mk ha
      have HK : Aside0 (a.f2.f2.length ≤ 20) := ⟨by rw [← ha]; exact HK20.out⟩
      clear ha HK20 hl7 hF7 hx0 hx1 hlt h50
      have O9 : Aside0 (Own N1 wr [CliO g (pt gp) a0_0 a0_1 pp K P U, Obj3 138 gp a0_0 jm L, DocO gj gd a0_0 jm a0_0 a0_1 pp rJ rK rP U, cells gx #[.int .i64 a0_0, .int .i64 a0_1, .int .i64 a0_2, .int .i64 a0_3] 22, cells gk #[pt g, pt gd] 27, cells gq #[.int .i64 a2_0, .int .i64 a2_1, .slice A3 l3.length c3] 35]) := ⟨OA.out⟩
      have K9 : Aside0 (KeepS N1 wr wr) := ⟨KeepS.refl _ _⟩
      have HT_9 : Aside0 (TabN N1 wr) := ⟨(HT00.out.keep KA.out).mono HNN.out⟩
      have HLE_9 : Aside0 (Led N1 wr rJ rK rP L K P) := ⟨HLE.out⟩
      have HF_9 : Aside0 (Kd.F kU7 wr N1 A7 a.f2.f2.length a.f2.f2) := ⟨HF7.out⟩
      have a3 := k4_ O9 3
      have a4 := k2_ O9 4
      have a5 := k3_ O9 5
      clear OA HF7
      go_wp2_with (first | ((with_reducible refine gD 9 rfl ?_); refine bP 9 #[.int .i64 0, .string ⟨#[]⟩, .int .i64 0, .int .i64 0, .string ⟨#[]⟩, .int .i64 0, .int .i64 0, .slice none 0 0] 37 O9.out ?_; intro ga w10 o_ k_; obtain ⟨O10, K10⟩ := ok_ K9 o_ k_; have HT_10 := Aside0.mk (TabN.keep HT_9.out k_); have HLE_10 := Aside0.mk (Led.keep HLE_9.out k_); have HF_10 := Aside0.mk (keepF HF_9.out k_); clear a3 a4 a5 O9 K9 HT_9 HLE_9 HF_9 o_ k_; have a3 := k4_ O10 3; have a4 := k2_ O10 4; have a5 := k3_ O10 5; have a6 := k8_ O10 6) | ((with_reducible refine gT 37 9 rfl ?_); refine wS 6 0 [.int .i64 a.f0, .string a.f1.f0, .int .i64 a.f1.f1, .int .i64 a.f1.f2, .string a.f1.f3, .int .i64 a.f2.f0, .int .i64 a.f2.f1, .slice A7 a.f2.f2.length c7] O10 ?_; intro w11 o_ k_; obtain ⟨O11, K11⟩ := ok_ K10 o_ k_; have HT_11 := Aside0.mk (TabN.keep HT_10.out k_); have HLE_11 := Aside0.mk (Led.keep HLE_10.out k_); have HF_11 := Aside0.mk (keepF HF_10.out k_); clear a3 a4 a5 a6 O10 K10 HT_10 HLE_10 HF_10 o_ k_; have a3 := k4_ O11 3; have a4 := k2_ O11 4; have a5 := k3_ O11 5; have a6 := k8_ O11 6) | ((with_reducible refine gC 18 rfl ?_); refine gP (some 50) Tryd.func18 #[.agg #[pt g, pt gd], .agg #[.int .i64 a.f0, .string a.f1.f0, .int .i64 a.f1.f1, .int .i64 a.f1.f2, .string a.f1.f3, .int .i64 a.f2.f0, .int .i64 a.f2.f1, .slice A7 a.f2.f2.length c7]] ?_; obtain ⟨N_, on_, nn_, rr_, bb_⟩ := O11.out.frameL [0, 1, 2] (by decide) (by simp); refine (Do_all a A7 c7 on_ (Led.mono HLE_11.out nn_) (TabN.mono HT_11.out nn_) HI.out (by have := HX.out; omega) (Kd.F_mono HF_11.out nn_) HC7.out HK.out).mono ?_; rintro e_ w12 ⟨K2, P2, L2, U2, rJ2, rK2, rP2, X2, rfl, hst_, hl_, oo_, kk_⟩; obtain ⟨o_, k_⟩ := bb_ _ [CliO g (pt gp) a0_0 a0_1 pp K2 P2 U2, Obj3 138 gp a0_0 jm L2, DocO gj gd a0_0 jm a0_0 a0_1 pp rJ2 rK2 rP2 U2] [X2] rfl kk_ oo_; refine ⟨_, rfl, ?_⟩; have HI2 := Aside0.mk (HI.out.step hst_ HK.out HX.out.1); have HST := Aside0.mk hst_; have HTO := Aside0.mk hl_; obtain ⟨O12, K12⟩ := ok_ K11 o_ k_; have HT_12 := Aside0.mk (TabN.keep HT_11.out k_); have HLE_12 := Aside0.mk (Led.keep HLE_11.out k_); have HF_12 := Aside0.mk (keepF HF_11.out k_); clear a3 a4 a5 a6 O11 K11 HT_11 HLE_11 HF_11 o_ k_ oo_ kk_ on_ nn_ rr_ bb_ hst_ hl_; have a3 := k4_ O12 3; have a4 := k2_ O12 4; have a5 := k3_ O12 5; have a6 := k8_ O12 6; obtain ⟨N2, o2_, hn2_, hX_, _⟩ := O12.out.hide (i := 7) rfl; have HN2 := Aside0.mk hn2_; have HA2 : Aside0 (KeepS N1 wr w12) := K12; have HTn := Aside0.mk (TabN.mono HT_12.out hn2_); have HLn : Aside0 (Led N2 w12 rJ2 rK2 rP2 L2 K2 P2) := ⟨HTO.out N2 _ hX_ (Led.mono HLE_12.out hn2_) (Kd.F_mono HF_12.out hn2_)⟩; have O13 : Aside0 (Own N2 w12 [CliO g (pt gp) a0_0 a0_1 pp K2 P2 U2, Obj3 138 gp a0_0 jm L2, DocO gj gd a0_0 jm a0_0 a0_1 pp rJ2 rK2 rP2 U2, cells gx #[.int .i64 a0_0, .int .i64 a0_1, .int .i64 a0_2, .int .i64 a0_3] 22, cells gk #[pt g, pt gd] 27, cells gq #[.int .i64 a2_0, .int .i64 a2_1, .slice A3 l3.length c3] 35, cells ga #[.int .i64 a.f0, .string a.f1.f0, .int .i64 a.f1.f1, .int .i64 a.f1.f2, .string a.f1.f3, .int .i64 a.f2.f0, .int .i64 a.f2.f1, .slice A7 a.f2.f2.length c7] 37, emp]) := ⟨o2_⟩; have K13 : Aside0 (KeepS N2 w12 w12) := ⟨KeepS.refl _ _⟩; clear o2_ hn2_ hX_ O12 K12 HT_12 HLE_12 HF_12))
      go_roundw
      case rel => exact ⟨x + 1, N2, K2, P2, L2, U2, rJ2, rK2, rP2, by have := HX.out; omega, by have := HX.out; omega, int_eq17 (by unfold wrap64; have := HX.out; omega), HI2, ⟨fun k hk => HN2.out k (HNN.out k hk)⟩, HLn, ⟨O13.out.take 6⟩, ⟨KA.out.trans ((HA2.out.mono HNN.out).trans (K13.out.mono (fun k hk => HN2.out k (HNN.out k hk))))⟩⟩
      case measure => have := HX.out; simp [intOf]; omega
     ·have hd : decide (x < (l0.length : Int)) = false := decide_eq_false hlt
      obtain ⟨wo, hwo⟩ : ∃ wo : World, wo = wr := ⟨_, rfl⟩
      subst hwo
      have HSZ := Aside0.mk (HI.out.sizes (by have := HI.out.k; omega))
      have HFK := Aside0.mk HI.out.g
      have HFP : Aside0 (Few 20 P) := ⟨HI.out.fp.mono (by decide)⟩
      obtain ⟨K2, hK2⟩ : ∃ K2, K ++ [(⟨a2_0, a2_1, l3⟩ : Rnd7)] = K2 := ⟨_, rfl⟩
      have HK2 := Aside0.mk hK2
      have HF2 : Aside0 (Few 20 K2) := ⟨by rw [← hK2]; exact HFK.out.app (Few.one HR20.out)⟩
      have hk2l : K2.length = K.length + 1 := by rw [← hK2]; simp
      have HKL : Aside0 (K2.length ≤ 1000 ∧ P.length ≤ 1000 ∧ K2.length ≤ 1000000 ∧ K.length ≤ 1000) := ⟨by have h1 := HI.out.k; have h2 := HI.out.pl; have h3 := HI.out.l; omega⟩
      have HTE : Aside0 (takeE a0_0 P a2_0 a2_1 = 0) := ⟨by unfold takeE; rw [if_neg HNE.out]⟩
      have HTK : Aside0 (takeK a0_0 K P ⟨a2_0, a2_1, l3⟩ = K2) := ⟨by rw [← hK2]; exact takeK_yes HTE.out⟩
      have HTP : Aside0 (takeP a0_0 P a2_0 a2_1 = P) := ⟨by unfold takeP; rw [if_neg (fun h => HNE.out h.1)]⟩
      have HU3 : Aside0 (l3.length ≤ 1000000) := ⟨Nat.le_trans HR20.out (by decide)⟩
      have HK2L := Aside0.mk hk2l
      clear hK2 hk2l hlt hx0 hx1 h50
      have O9 : Aside0 (Own N1 wo [CliO g (pt gp) a0_0 a0_1 pp K P U, Obj3 138 gp a0_0 jm L, DocO gj gd a0_0 jm a0_0 a0_1 pp rJ rK rP U, cells gx #[.int .i64 a0_0, .int .i64 a0_1, .int .i64 a0_2, .int .i64 a0_3] 22, cells gk #[pt g, pt gd] 27, cells gq #[.int .i64 a2_0, .int .i64 a2_1, .slice A3 l3.length c3] 35]) := ⟨OA.out⟩
      have K9 : Aside0 (KeepS N1 wo wo) := ⟨KeepS.refl _ _⟩
      have HRFa_9 : Aside0 (Kd.F kU7 wo N1 A3 l3.length l3) := ⟨Kd.F_mono (keepF HRF0.out KA.out) HNN.out⟩
      have a3 := k4_ O9 3
      have a4 := k2_ O9 4
      have a5 := k3_ O9 5
      clear OA
      go_wp2
      refine sP (n := 8) (S := c2_ gk (pt g) (pt gd)) (ds := []) (p2_ a4) (fun hHeld => ?_)
      obtain ⟨w10, hw_⟩ : ∃ W, W = wo.drew := ⟨_, rfl⟩
      have o_ := O9.out.drew
      have k_ : KeepS N1 wo wo.drew := KeepS.drew
      rw [← hw_] at o_ k_ hHeld ⊢
      clear hw_
      obtain ⟨O10, K10⟩ := ok_ K9 o_ k_
      have HRFa_10 := Aside0.mk (keepF HRFa_9.out k_)
      clear a3 a4 a5 O9 K9 HRFa_9 o_ k_
      have a3 := k4_ O10 3
      have a4 := k2_ O10 4
      have a5 := k3_ O10 5
      refine pP 0 (some 52) ?_
      refine pP 3 (some 55) ?_
      refine tP 1 (some 53) hHeld ?_
      refine tP 4 (some 56) hHeld ?_
      refine oP 2 (some 54) (fun K_ hK_ => ?_)
      refine hP Tryd.func20 #[pt g] ?_
      obtain ⟨N_, on_, nn_, rr_, bb_⟩ := O10.out.frame1 (i := 0) rfl
      refine (OKnown_n on_ HSZ.out.1 (HFK.out.bnd (by decide))).mono ?_
      rintro e_ w11 ⟨B1, b1_, rfl, oo_, kk_⟩
      obtain ⟨o_, k_⟩ := bb_ _ _ _ kk_ oo_
      refine ⟨_, rfl, ?_⟩
      obtain ⟨O11, K11⟩ := ok_ K10 o_ k_
      have HRFa_11 := Aside0.mk (keepF HRFa_10.out k_)
      clear a3 a4 a5 O10 K10 HRFa_10 o_ k_ oo_ kk_ on_ nn_ rr_ bb_
      have a3 := k4_ O11 3
      have a4 := k2_ O11 4
      have a5 := k3_ O11 5
      clear hHeld
      refine hK_.out _ _ (p2_ a4) (fun hHeld => ?_)
      clear hK_ K_
      refine nP ?_
      refine oP 5 (some 57) (fun K_ hK_ => ?_)
      refine hP Tryd.func21 #[pt g] ?_
      obtain ⟨N_, on_, nn_, rr_, bb_⟩ := O11.out.frame1 (i := 0) rfl
      refine (OPending on_ HSZ.out.2.1 (HFP.out.bnd (by decide))).mono ?_
      rintro e_ w12 ⟨B2, b2_, rfl, oo_, kk_⟩
      obtain ⟨o_, k_⟩ := bb_ _ _ _ kk_ oo_
      refine ⟨_, rfl, ?_⟩
      obtain ⟨O12, K12⟩ := ok_ K11 o_ k_
      have HRFa_12 := Aside0.mk (keepF HRFa_11.out k_)
      clear a3 a4 a5 O11 K11 HRFa_11 o_ k_ oo_ kk_ on_ nn_ rr_ bb_
      have a3 := k4_ O12 3
      have a4 := k2_ O12 4
      have a5 := k3_ O12 5
      clear hHeld
      refine hK_.out _ _ (p2_ a4) (fun hHeld => ?_)
      clear hK_ K_
      refine nP ?_
      refine pP 6 (some 10) ?_
      refine pP 7 (some 11) ?_
      refine done_ (by kernel_rfl) ?_
      clear hHeld
      go_wp2
      refine sP (n := 11) (S := c3_ gq (.int .i64 a2_0) (.int .i64 a2_1) (.slice A3 l3.length c3)) (ds := []) (p3_ a5) (fun hHeld => ?_)
      obtain ⟨w13, hw_⟩ : ∃ W, W = w12.drew := ⟨_, rfl⟩
      have o_ := O12.out.drew
      have k_ : KeepS N1 w12 w12.drew := KeepS.drew
      rw [← hw_] at o_ k_ hHeld ⊢
      clear hw_
      obtain ⟨O13, K13⟩ := ok_ K12 o_ k_
      have HRFa_13 := Aside0.mk (keepF HRFa_12.out k_)
      clear a3 a4 a5 O12 K12 HRFa_12 o_ k_
      have a3 := k4_ O13 3
      have a4 := k2_ O13 4
      have a5 := k3_ O13 5
      refine pP 0 (some 58) ?_
      refine pP 2 (some 60) ?_
      refine pP 5 (some 63) ?_
      refine tP 1 (some 59) hHeld ?_
      refine tP 3 (some 61) hHeld ?_
      refine tP 6 (some 64) hHeld ?_
      refine join_ (σ := Option Addr × Nat × Option Addr × Nat × Nat) 1 #[true, true, true, true, true, true, true, true, true, true, false] (fun ⟨B0, b0_, B3, b3_, gin⟩ => [(62, .slice B0 0 b0_), (65, .slice B3 l3.length b3_), (66, .agg #[.int .i64 a2_0, .int .i64 a2_1, .slice B3 l3.length b3_]), (12, .pointer (some ⟨gin, 0, none⟩))]) (fun ⟨B0, b0_, B3, b3_, gin⟩ w' => Own N1 w' [CliO g (pt gp) a0_0 a0_1 pp K P U, Obj3 138 gp a0_0 jm L, DocO gj gd a0_0 jm a0_0 a0_1 pp rJ rK rP U, cells gx #[.int .i64 a0_0, .int .i64 a0_1, .int .i64 a0_2, .int .i64 a0_3] 22, cells gk #[pt g, pt gd] 27, cells gq #[.int .i64 a2_0, .int .i64 a2_1, .slice A3 l3.length c3] 35, nrow kR7 tR7 (.slice B1 K.length b1_) K, row kR7 tR7 (.slice B2 P.length b2_) P, nrow k32 32 (.slice B3 l3.length b3_) l3, cells gin #[.int .i64 0, .int .i64 0, .slice none 0 0] 35] ∧ KeepS N1 w13 w') ?hcont ?hways
      case hways =>
       intro hc_
       have K14 : Aside0 (KeepS N1 w13 w13) := ⟨KeepS.refl _ _⟩
       have O14 : Aside0 (Own N1 w13 [CliO g (pt gp) a0_0 a0_1 pp K P U, Obj3 138 gp a0_0 jm L, DocO gj gd a0_0 jm a0_0 a0_1 pp rJ rK rP U, cells gx #[.int .i64 a0_0, .int .i64 a0_1, .int .i64 a0_2, .int .i64 a0_3] 22, cells gk #[pt g, pt gd] 27, cells gq #[.int .i64 a2_0, .int .i64 a2_1, .slice A3 l3.length c3] 35, nrow kR7 tR7 (.slice B1 K.length b1_) K, row kR7 tR7 (.slice B2 P.length b2_) P]) := O13
       refine tW_ 4 9 (some 62) (some 12) (fun K_ hK_ => ?_) (fun K_ hK_ => ?_)
       ·skip
        refine own_lit_step k32 (N := N1) (e := 32) (xs := []) (inner := []) rfl rfl gs_ (Reps.none _ _) (by decide) O14.out ?_
        intro B0 b0_ w15 o_ k_
        obtain ⟨O15, K15⟩ := ok_ K14 o_ k_
        have HRFa_15 := Aside0.mk (keepF HRFa_13.out k_)
        clear a3 a4 a5 O14 K14 HRFa_13 o_ k_
        have a3 := k4_ O15 3
        have a4 := k2_ O15 4
        have a5 := k3_ O15 5
        clear hHeld
        refine hK_.out _ _ (p3_ a5) (fun hHeld => ?_)
        clear hK_ K_
        refine nR_ ?_
        refine tW_ 7 9 (some 65) (some 12) (fun K_ hK_ => ?_) (fun K_ hK_ => ?_)
        ·skip
         refine Own.append_flat_step k32 flatU O15.out (i := 8) rfl (Kd.F_now HRFa_15.out) rfl (by rfl) (.tmp 62) (.tmp 64) 33 (.agg #[.string ⟨#[]⟩, .int .i64 0, .int .i64 0, .string ⟨#[]⟩]) 48 rfl Tryd.underlying33 infoU7 rfl (by decide) (by decide) rfl rfl (by have := HU3.out; simp only [List.length_nil]; omega) ?_
         intro B3 b3_ w16 o_ k_
         obtain ⟨O16, K16⟩ := ok_ K15 o_ k_
         have HRFa_16 := Aside0.mk (keepF HRFa_15.out k_)
         clear a3 a4 a5 O15 K15 HRFa_15 o_ k_
         have a3 := k4_ O16 3
         have a4 := k2_ O16 4
         have a5 := k3_ O16 5
         clear hHeld
         refine hK_.out _ _ (p3_ a5) (fun hHeld => ?_)
         clear hK_ K_
         refine nR_ ?_
         refine pP 8 (some 66) ?_
         refine oP 9 (some 12) (fun K_ hK_ => ?_)
         refine cP #[.int .i64 0, .int .i64 0, .slice none 0 0] 35 O16.out ?_
         intro gin w17 o_ k_
         obtain ⟨O17, K17⟩ := ok_ K16 o_ k_
         have HRFa_17 := Aside0.mk (keepF HRFa_16.out k_)
         clear a3 a4 a5 O16 K16 HRFa_16 o_ k_
         have a3 := k4_ O17 3
         have a4 := k2_ O17 4
         have a5 := k3_ O17 5
         have a9 := k3_ O17 9
         clear hHeld
         refine hK_.out _ _ (p3_ a5) (fun hHeld => ?_)
         clear hK_ K_
         refine nR_ ?_
         refine norm_ (a' := _) ?_ (hc_ ⟨B0, b0_, B3, b3_, gin⟩ _ ⟨?_, K17.out⟩)
         ·simp only [putAll, Act.put, List.setIfInBounds_toArray, List.set_cons_zero, List.set_cons_succ]
          try rfl
         ·exact O17.out.pickL [0, 1, 2, 3, 4, 5, 6, 7, 8, 9] (by decide) (by simp)
        ·skip
         refine cP #[.int .i64 0, .int .i64 0, .slice none 0 0] 35 O15.out ?_
         intro gin w16 o_ k_
         obtain ⟨O16, K16⟩ := ok_ K15 o_ k_
         have HRFa_16 := Aside0.mk (keepF HRFa_15.out k_)
         clear a3 a4 a5 O15 K15 HRFa_15 o_ k_
         have a3 := k4_ O16 3
         have a4 := k2_ O16 4
         have a5 := k3_ O16 5
         have a9 := k3_ O16 9
         clear hHeld
         refine hK_.out _ _ (p3_ a5) (fun hHeld => ?_)
         clear hK_ K_
         refine nR_ ?_
         refine oP 7 (some 65) (fun K_ hK_ => ?_)
         refine Own.append_flat_step k32 flatU O16.out (i := 8) rfl (Kd.F_now HRFa_16.out) rfl (by rfl) (.tmp 62) (.tmp 64) 33 (.agg #[.string ⟨#[]⟩, .int .i64 0, .int .i64 0, .string ⟨#[]⟩]) 48 rfl Tryd.underlying33 infoU7 rfl (by decide) (by decide) rfl rfl (by have := HU3.out; simp only [List.length_nil]; omega) ?_
         intro B3 b3_ w17 o_ k_
         obtain ⟨O17, K17⟩ := ok_ K16 o_ k_
         have HRFa_17 := Aside0.mk (keepF HRFa_16.out k_)
         clear a3 a4 a5 a9 O16 K16 HRFa_16 o_ k_
         have a3 := k4_ O17 3
         have a4 := k2_ O17 4
         have a5 := k3_ O17 5
         have a9 := k3_ O17 9
         clear hHeld
         refine hK_.out _ _ (p3_ a5) (fun hHeld => ?_)
         clear hK_ K_
         refine nR_ ?_
         refine pP 8 (some 66) ?_
         refine norm_ (a' := _) ?_ (hc_ ⟨B0, b0_, B3, b3_, gin⟩ _ ⟨?_, K17.out⟩)
         ·simp only [putAll, Act.put, List.setIfInBounds_toArray, List.set_cons_zero, List.set_cons_succ]
          try rfl
         ·exact O17.out.pickL [0, 1, 2, 3, 4, 5, 6, 7, 8, 9] (by decide) (by simp)
       ·skip
        refine cP #[.int .i64 0, .int .i64 0, .slice none 0 0] 35 O14.out ?_
        intro gin w15 o_ k_
        obtain ⟨O15, K15⟩ := ok_ K14 o_ k_
        have HRFa_15 := Aside0.mk (keepF HRFa_13.out k_)
        clear a3 a4 a5 O14 K14 HRFa_13 o_ k_
        have a3 := k4_ O15 3
        have a4 := k2_ O15 4
        have a5 := k3_ O15 5
        have a8 := k3_ O15 8
        clear hHeld
        refine hK_.out _ _ (p3_ a5) (fun hHeld => ?_)
        clear hK_ K_
        refine nR_ ?_
        refine oP 4 (some 62) (fun K_ hK_ => ?_)
        refine own_lit_step k32 (N := N1) (e := 32) (xs := []) (inner := []) rfl rfl gs_ (Reps.none _ _) (by decide) O15.out ?_
        intro B0 b0_ w16 o_ k_
        obtain ⟨O16, K16⟩ := ok_ K15 o_ k_
        have HRFa_16 := Aside0.mk (keepF HRFa_15.out k_)
        clear a3 a4 a5 a8 O15 K15 HRFa_15 o_ k_
        have a3 := k4_ O16 3
        have a4 := k2_ O16 4
        have a5 := k3_ O16 5
        have a8 := k3_ O16 8
        clear hHeld
        refine hK_.out _ _ (p3_ a5) (fun hHeld => ?_)
        clear hK_ K_
        refine nR_ ?_
        refine oP 7 (some 65) (fun K_ hK_ => ?_)
        refine Own.append_flat_step k32 flatU O16.out (i := 9) rfl (Kd.F_now HRFa_16.out) rfl (by rfl) (.tmp 62) (.tmp 64) 33 (.agg #[.string ⟨#[]⟩, .int .i64 0, .int .i64 0, .string ⟨#[]⟩]) 48 rfl Tryd.underlying33 infoU7 rfl (by decide) (by decide) rfl rfl (by have := HU3.out; simp only [List.length_nil]; omega) ?_
        intro B3 b3_ w17 o_ k_
        obtain ⟨O17, K17⟩ := ok_ K16 o_ k_
        have HRFa_17 := Aside0.mk (keepF HRFa_16.out k_)
        clear a3 a4 a5 a8 O16 K16 HRFa_16 o_ k_
        have a3 := k4_ O17 3
        have a4 := k2_ O17 4
        have a5 := k3_ O17 5
        have a8 := k3_ O17 8
        clear hHeld
        refine hK_.out _ _ (p3_ a5) (fun hHeld => ?_)
        clear hK_ K_
        refine nR_ ?_
        refine pP 8 (some 66) ?_
        refine norm_ (a' := _) ?_ (hc_ ⟨B0, b0_, B3, b3_, gin⟩ _ ⟨?_, K17.out⟩)
        ·simp only [putAll, Act.put, List.setIfInBounds_toArray, List.set_cons_zero, List.set_cons_succ]
         try rfl
        ·exact O17.out.pickL [0, 1, 2, 3, 4, 5, 6, 7, 9, 8] (by decide) (by simp)
      case hcont =>
       clear hHeld
       rintro ⟨B0, b0_, B3, b3_, gin⟩ w14 ⟨o_, k_⟩
       obtain ⟨O14, K14⟩ := ok_ K13 o_ k_
       have HRFa_14 := Aside0.mk (keepF HRFa_13.out k_)
       clear a3 a4 a5 O13 K13 HRFa_13 o_ k_
       have a3 := k4_ O14 3
       have a4 := k2_ O14 4
       have a5 := k3_ O14 5
       have a9 := k3_ O14 9
       refine nA_ ?_
       have hHeld : w14.cell? ⟨gq, 0, none⟩ = some (.int .i64 a2_0) ∧ w14.cell? ⟨gq, 1, none⟩ = some (.int .i64 a2_1) ∧ w14.cell? ⟨gq, 2, none⟩ = some (.slice A3 l3.length c3) := (p3_ a5)
       refine oP 10 none (fun K_ hK_ => ?_)
       refine xS 9 0 [.int .i64 a2_0, .int .i64 a2_1, .slice B3 l3.length b3_] O14 ?_
       intro w15 o_ k_
       obtain ⟨O15, K15⟩ := ok_ K14 o_ k_
       have HRFa_15 := Aside0.mk (keepF HRFa_14.out k_)
       clear a3 a4 a5 a9 O14 K14 HRFa_14 o_ k_
       have a3 := k4_ O15 3
       have a4 := k2_ O15 4
       have a5 := k3_ O15 5
       have a9 := k3_ O15 9
       clear hHeld
       refine hK_.out _ _ (p3_ a5) (fun hHeld => ?_)
       clear hK_ K_
       refine done_ (by kernel_rfl) ?_
       clear hHeld
       go_wp2_with (first | ((with_reducible refine gC 32 rfl ?_); refine gP (some 70) Tryd.func32 #[pt g, .agg #[.int .i64 a2_0, .int .i64 a2_1, .slice B3 l3.length b3_]] ?_; obtain ⟨N_, on_, nn_, rr_, bb_⟩ := O15.out.frame1 (i := 0) rfl; have hc_ := (O15.out.nreads (i := 8) rfl).2.1; refine (CTake_k2 0 K2 P a2_0 a2_1 l3 B3 b3_ HTE.out HTK.out HTP.out on_ (Kd.N_F (rr_ 8 _ (by decide) rfl)) hc_ HU3.out HSZ.out.1).mono ?_; rintro e_ w16 ⟨rfl, oo_, kk_⟩; obtain ⟨o_, k_⟩ := bb_ _ _ _ kk_ oo_; refine ⟨_, rfl, ?_⟩; obtain ⟨O16, K16⟩ := ok_ K15 o_ k_; have HRFa_16 := Aside0.mk (keepF HRFa_15.out k_); clear a3 a4 a5 a9 O15 K15 HRFa_15 o_ k_ oo_ kk_ on_ nn_ rr_ bb_ hc_; have a3 := k4_ O16 3; have a4 := k2_ O16 4; have a5 := k3_ O16 5; have a9 := k3_ O16 9))
       have HW : Aside0 (Own N1 w16 (row kU Sep.TU (.slice B3 l3.length b3_) l3 :: [cells gin #[.int .i64 a2_0, .int .i64 a2_1, .slice B3 l3.length b3_] 35, CliO g (pt gp) a0_0 a0_1 pp K2 P U, Obj3 138 gp a0_0 jm L, DocO gj gd a0_0 jm a0_0 a0_1 pp rJ rK rP U, cells gx #[.int .i64 a0_0, .int .i64 a0_1, .int .i64 a0_2, .int .i64 a0_3] 22, cells gk #[pt g, pt gd] 27, cells gq #[.int .i64 a2_0, .int .i64 a2_1, .slice A3 l3.length c3] 35, nrow kR7 tR7 (.slice B1 K.length b1_) K, row kR7 tR7 (.slice B2 P.length b2_) P])) := ⟨(O16.out.pickL [8, 9, 0, 1, 2, 3, 4, 5, 6, 7] (by decide) (by simp)).nrow_row (d := kU) looseU (i := 0) rfl⟩
       clear a3 a4 a5 a9
       clear O16
       go_loopw [75] (fun vi wr => CwU N1 wo [cells gin #[.int .i64 a2_0, .int .i64 a2_1, .slice B3 l3.length b3_] 35, CliO g (pt gp) a0_0 a0_1 pp K2 P U, Obj3 138 gp a0_0 jm L, DocO gj gd a0_0 jm a0_0 a0_1 pp rJ rK rP U, cells gx #[.int .i64 a0_0, .int .i64 a0_1, .int .i64 a0_2, .int .i64 a0_3] 22, cells gk #[pt g, pt gd] 27, cells gq #[.int .i64 a2_0, .int .i64 a2_1, .slice A3 l3.length c3] 35, nrow kR7 tR7 (.slice B1 K.length b1_) K, row kR7 tR7 (.slice B2 P.length b2_) P] B3 l3.length b3_ vi wr) (fun vi _ => l3.length - (intOf vi).toNat)
       case atStart => exact ⟨0, _, by omega, by omega, rfl, ⟨rfl⟩, HW, K16⟩
       case round =>
        obtain ⟨y, us, hy0, hy1, rfl, HJ, OB, KB⟩ := hrel
        have hux := HU3.out
        by_cases hly : y < (l3.length : Int)
        ·obtain ⟨ad, e4, ⟨zv, hz⟩, hf, hk, us2, hu2, ho⟩ := putK (⟨#[111, 116, 104, 101, 114]⟩ : ByteArray) OB.out (i := 0) rfl y hy0 hly
         cases e4
         have hs3 : wrap64 (y + 1) = y + 1 := by unfold wrap64; omega
         have hp2 := eq_true hy0
         have hq2 := eq_true hly
         have hd2 : decide (y < (l3.length : Int)) = true := decide_eq_true hly
         have HY := Aside0.mk (And.intro hy0 hly)
         have HO4 := Aside0.mk ho
         have HK4 := Aside0.mk hk
         have HU2 : Aside0 (us2.length = l3.length) := ⟨hu2.trans HJ.out⟩
         clear ho hk hu2 hux hy0 hy1 hly
         have O17 : Aside0 (Own N1 wr [row kU Sep.TU (.slice (some ad) l3.length b3_) us, cells gin #[.int .i64 a2_0, .int .i64 a2_1, .slice (some ad) l3.length b3_] 35, CliO g (pt gp) a0_0 a0_1 pp K2 P U, Obj3 138 gp a0_0 jm L, DocO gj gd a0_0 jm a0_0 a0_1 pp rJ rK rP U, cells gx #[.int .i64 a0_0, .int .i64 a0_1, .int .i64 a0_2, .int .i64 a0_3] 22, cells gk #[pt g, pt gd] 27, cells gq #[.int .i64 a2_0, .int .i64 a2_1, .slice A3 l3.length c3] 35, nrow kR7 tR7 (.slice B1 K.length b1_) K, row kR7 tR7 (.slice B2 P.length b2_) P]) := ⟨OB.out⟩
         have K17 : Aside0 (KeepS N1 wo wr) := ⟨KB.out⟩
         have a1 := k3_ O17 1
         clear OB KB
         go_wp2_with (first | ((with_reducible refine gT 9 82 rfl ?_); refine own_store rfl rfl rfl (w1 := wr.setCell (ad.add (y.toNat * 4)) (.string (⟨#[111, 116, 104, 101, 114]⟩ : ByteArray))) (N := N1) (l' := [row kU Sep.TU (.slice (some ad) l3.length b3_) us2, cells gin #[.int .i64 a2_0, .int .i64 a2_1, .slice (some ad) l3.length b3_] 35, CliO g (pt gp) a0_0 a0_1 pp K2 P U, Obj3 138 gp a0_0 jm L, DocO gj gd a0_0 jm a0_0 a0_1 pp rJ rK rP U, cells gx #[.int .i64 a0_0, .int .i64 a0_1, .int .i64 a0_2, .int .i64 a0_3] 22, cells gk #[pt g, pt gd] 27, cells gq #[.int .i64 a2_0, .int .i64 a2_1, .slice A3 l3.length c3] 35, nrow kR7 tR7 (.slice B1 K.length b1_) K, row kR7 tR7 (.slice B2 P.length b2_) P]) gs_ HO4.out HK4.out ?_; intro w18 o_ k_; obtain ⟨O18, K18⟩ := ok_ K17 o_ k_; clear a1 O17 K17 o_ k_; have a1 := k3_ O18 1))
         go_roundw
         case rel => exact ⟨y + 1, us2, by have := HY.out; omega, by have := HY.out; omega, int_eq17 (by unfold wrap64; have := HY.out; have := HU3.out; omega), HU2, O18, K18⟩
         case measure => have := HY.out; simp [intOf]; omega
        ·have hd2 : decide (y < (l3.length : Int)) = false := decide_eq_false hly
         clear hly hy0 hy1 hux HJ HW
         obtain ⟨wp, hwp⟩ : ∃ wp : World, wp = wr := ⟨_, rfl⟩
         subst hwp
         have O17 : Aside0 (Own N1 wp [CliO g (pt gp) a0_0 a0_1 pp K2 P U, Obj3 138 gp a0_0 jm L, DocO gj gd a0_0 jm a0_0 a0_1 pp rJ rK rP U, cells gx #[.int .i64 a0_0, .int .i64 a0_1, .int .i64 a0_2, .int .i64 a0_3] 22, cells gk #[pt g, pt gd] 27, cells gq #[.int .i64 a2_0, .int .i64 a2_1, .slice A3 l3.length c3] 35, nrow kR7 tR7 (.slice B1 K.length b1_) K, row kR7 tR7 (.slice B2 P.length b2_) P]) := ⟨OB.out.pickL [2, 3, 4, 5, 6, 7, 8, 9] (by decide) (by simp)⟩
         have K17 : Aside0 (KeepS N1 wo wp) := ⟨KB.out⟩
         have a4 := k2_ O17 4
         have a5 := k3_ O17 5
         clear OB KB
         go_wp2_with (first | ((with_reducible refine gC 20 rfl ?_); refine gP (some 86) Tryd.func20 #[pt g] ?_; obtain ⟨N_, on_, nn_, rr_, bb_⟩ := O17.out.frame1 (i := 0) rfl; refine (OKnown on_ HKL.out.2.2.1 (HF2.out.bnd (by decide))).mono ?_; rintro e_ w18 ⟨B6, d6, rfl, oo_, kk_⟩; obtain ⟨o_, k_⟩ := bb_ _ _ _ kk_ oo_; refine ⟨_, rfl, ?_⟩; obtain ⟨O18, K18⟩ := ok_ K17 o_ k_; clear a4 a5 O17 K17 o_ k_ oo_ kk_ on_ nn_ rr_ bb_; have a4 := k2_ O18 4; have a5 := k3_ O18 5))
         have HW : Aside0 (Own N1 w18 (row kR Sep.TR (.slice B6 K2.length d6) K2 :: [CliO g (pt gp) a0_0 a0_1 pp K2 P U, Obj3 138 gp a0_0 jm L, DocO gj gd a0_0 jm a0_0 a0_1 pp rJ rK rP U, cells gx #[.int .i64 a0_0, .int .i64 a0_1, .int .i64 a0_2, .int .i64 a0_3] 22, cells gk #[pt g, pt gd] 27, cells gq #[.int .i64 a2_0, .int .i64 a2_1, .slice A3 l3.length c3] 35, nrow kR7 tR7 (.slice B1 K.length b1_) K, row kR7 tR7 (.slice B2 P.length b2_) P])) := ⟨O18.out.pickL [8, 0, 1, 2, 3, 4, 5, 6, 7] (by decide) (by simp)⟩
         clear a4 a5
         clear O18
         go_loopw [88] (fun vi wr => CwR N1 wo [CliO g (pt gp) a0_0 a0_1 pp K2 P U, Obj3 138 gp a0_0 jm L, DocO gj gd a0_0 jm a0_0 a0_1 pp rJ rK rP U, cells gx #[.int .i64 a0_0, .int .i64 a0_1, .int .i64 a0_2, .int .i64 a0_3] 22, cells gk #[pt g, pt gd] 27, cells gq #[.int .i64 a2_0, .int .i64 a2_1, .slice A3 l3.length c3] 35, nrow kR7 tR7 (.slice B1 K.length b1_) K, row kR7 tR7 (.slice B2 P.length b2_) P] B6 K2.length d6 vi wr) (fun vi _ => K2.length - (intOf vi).toNat)
         case atStart => exact ⟨0, _, by omega, by omega, rfl, ⟨rfl⟩, HW, K18⟩
         case round =>
          obtain ⟨y, L2, hy0, hy1, rfl, HJ, OB, KB⟩ := hrel
          have hll := HKL.out.2.2.1
          by_cases hly : y < (K2.length : Int)
          ·obtain ⟨ad, A7, c7, e7, q0, q1, q2⟩ := at_W OB.out (i := 0) rfl y hy0 hly
           cases e7
           have hs3 : wrap64 (y + 1) = y + 1 := by unfold wrap64; omega
           have hp2 := eq_true hy0
           have hq2 := eq_true hly
           have hd2 : decide (y < (K2.length : Int)) = true := decide_eq_true hly
           have HY := Aside0.mk (And.intro hy0 hly)
           have HQC := Aside0.mk q2
           obtain ⟨m7, hm7⟩ : ∃ m, m = (rd_T35 L2 y).f2.length := ⟨_, rfl⟩
           rw [← hm7] at q2
           have HQC2 : Aside0 (wr.cell? ⟨(ad.add (y.toNat * 3)).block, (ad.add (y.toNat * 3)).off + 2, none⟩ = some (.slice A7 m7 c7)) := ⟨by rw [hm7]; exact HQC.out⟩
           have HMB : Aside0 (m7 ≤ 9223372036854775807) := ⟨by have q_ := row_max OB.out (i := 0) rfl y hy0 hly; rw [hm7]; exact q_⟩
           clear HQC hm7 hll hy0 hy1 hly
           have O19 : Aside0 (Own N1 wr [both (row kR Sep.TR (.slice (some ad) K2.length d6) L2) (cellIs ⟨(ad.add (y.toNat * 3)).block, (ad.add (y.toNat * 3)).off + 2, none⟩ (.slice A7 m7 c7)), CliO g (pt gp) a0_0 a0_1 pp K2 P U, Obj3 138 gp a0_0 jm L, DocO gj gd a0_0 jm a0_0 a0_1 pp rJ rK rP U, cells gx #[.int .i64 a0_0, .int .i64 a0_1, .int .i64 a0_2, .int .i64 a0_3] 22, cells gk #[pt g, pt gd] 27, cells gq #[.int .i64 a2_0, .int .i64 a2_1, .slice A3 l3.length c3] 35, nrow kR7 tR7 (.slice B1 K.length b1_) K, row kR7 tR7 (.slice B2 P.length b2_) P]) := ⟨mark OB.out (i := 0) rfl y HY.out.1 HY.out.2 HQC2.out⟩
           have K19 : Aside0 (KeepS N1 wo wr) := ⟨KB.out⟩
           clear OB KB
           go_wp2_with (first | ((with_reducible refine gD 15 rfl ?_); refine bP 15 #[.int .i64 0, .int .i64 0, .slice none 0 0] 35 O19.out ?_; intro gi w20 o_ k_; obtain ⟨O20, K20⟩ := ok_ K19 o_ k_; clear O19 K19 o_ k_; have a9 := k3_ O20 9) | ((with_reducible refine gT 35 15 rfl ?_); refine wS 9 0 [.int .i64 (rd_T35 L2 y).f0, .int .i64 (rd_T35 L2 y).f1, .slice A7 m7 c7] O20 ?_; intro w21 o_ k_; obtain ⟨O21, K21⟩ := ok_ K20 o_ k_; clear a9 O20 K20 o_ k_; have a9 := k3_ O21 9))
           have HW2 : Aside0 (Own N1 w21 (both (row kR Sep.TR (.slice (some ad) K2.length d6) L2) (cellIs ⟨(ad.add (y.toNat * 3)).block, (ad.add (y.toNat * 3)).off + 2, none⟩ (.slice A7 m7 c7)) :: cells gi #[.int .i64 (rd_T35 L2 y).f0, .int .i64 (rd_T35 L2 y).f1, .slice A7 m7 c7] 35 :: [CliO g (pt gp) a0_0 a0_1 pp K2 P U, Obj3 138 gp a0_0 jm L, DocO gj gd a0_0 jm a0_0 a0_1 pp rJ rK rP U, cells gx #[.int .i64 a0_0, .int .i64 a0_1, .int .i64 a0_2, .int .i64 a0_3] 22, cells gk #[pt g, pt gd] 27, cells gq #[.int .i64 a2_0, .int .i64 a2_1, .slice A3 l3.length c3] 35, nrow kR7 tR7 (.slice B1 K.length b1_) K, row kR7 tR7 (.slice B2 P.length b2_) P])) := ⟨O21.out.pickL [0, 9, 1, 2, 3, 4, 5, 6, 7, 8] (by decide) (by simp)⟩
           clear a9 O21
           go_loopw [95] (fun vi wr => CwQ N1 wo [CliO g (pt gp) a0_0 a0_1 pp K2 P U, Obj3 138 gp a0_0 jm L, DocO gj gd a0_0 jm a0_0 a0_1 pp rJ rK rP U, cells gx #[.int .i64 a0_0, .int .i64 a0_1, .int .i64 a0_2, .int .i64 a0_3] 22, cells gk #[pt g, pt gd] 27, cells gq #[.int .i64 a2_0, .int .i64 a2_1, .slice A3 l3.length c3] 35, nrow kR7 tR7 (.slice B1 K.length b1_) K, row kR7 tR7 (.slice B2 P.length b2_) P] gi K2.length ad d6 y (rd_T35 L2 y).f0 (rd_T35 L2 y).f1 A7 m7 c7 vi wr) (fun vi _ => m7 - (intOf vi).toNat)
           case atStart => exact ⟨0, L2, by omega, by omega, rfl, HJ, HW2, K21⟩
           case round =>
            obtain ⟨u, L3, hu0, hu1, rfl, HJ3, OC, KC⟩ := hrel
            have hmb := HMB.out
            by_cases hlu : u < (m7 : Int)
            ·obtain ⟨a2, e8, ⟨zv, hz⟩, hf, hk, L4, hl4, ho⟩ := putKK2 (⟨#[101, 108, 115, 101]⟩ : ByteArray) y u OC.out (i := 0) rfl HY.out.1 HY.out.2 hu0 hlu
             cases e8
             have hs4 : wrap64 (u + 1) = u + 1 := by unfold wrap64; omega
             have hp3 := eq_true hu0
             have hq3 := eq_true hlu
             have hd3 : decide (u < (m7 : Int)) = true := decide_eq_true hlu
             have HUU := Aside0.mk (And.intro hu0 hlu)
             have HO8 := Aside0.mk ho
             have HK8 := Aside0.mk hk
             have HL8 : Aside0 (L4.length = K2.length) := ⟨hl4.trans HJ3.out⟩
             clear ho hk hl4 hmb hu0 hu1 hlu
             have O22 : Aside0 (Own N1 wr [both (row kR Sep.TR (.slice (some ad) K2.length d6) L3) (cellIs ⟨(ad.add (y.toNat * 3)).block, (ad.add (y.toNat * 3)).off + 2, none⟩ (.slice (some a2) m7 c7)), cells gi #[.int .i64 (rd_T35 L2 y).f0, .int .i64 (rd_T35 L2 y).f1, .slice (some a2) m7 c7] 35, CliO g (pt gp) a0_0 a0_1 pp K2 P U, Obj3 138 gp a0_0 jm L, DocO gj gd a0_0 jm a0_0 a0_1 pp rJ rK rP U, cells gx #[.int .i64 a0_0, .int .i64 a0_1, .int .i64 a0_2, .int .i64 a0_3] 22, cells gk #[pt g, pt gd] 27, cells gq #[.int .i64 a2_0, .int .i64 a2_1, .slice A3 l3.length c3] 35, nrow kR7 tR7 (.slice B1 K.length b1_) K, row kR7 tR7 (.slice B2 P.length b2_) P]) := ⟨OC.out⟩
             have K22 : Aside0 (KeepS N1 wo wr) := ⟨KC.out⟩
             have a1 := k3_ O22 1
             clear OC KC
             go_wp2_with (first | ((with_reducible refine gT 9 102 rfl ?_); refine own_store rfl rfl rfl (w1 := wr.setCell (a2.add (u.toNat * 4)) (.string (⟨#[101, 108, 115, 101]⟩ : ByteArray))) (N := N1) (l' := [both (row kR Sep.TR (.slice (some ad) K2.length d6) L4) (cellIs ⟨(ad.add (y.toNat * 3)).block, (ad.add (y.toNat * 3)).off + 2, none⟩ (.slice (some a2) m7 c7)), cells gi #[.int .i64 (rd_T35 L2 y).f0, .int .i64 (rd_T35 L2 y).f1, .slice (some a2) m7 c7] 35, CliO g (pt gp) a0_0 a0_1 pp K2 P U, Obj3 138 gp a0_0 jm L, DocO gj gd a0_0 jm a0_0 a0_1 pp rJ rK rP U, cells gx #[.int .i64 a0_0, .int .i64 a0_1, .int .i64 a0_2, .int .i64 a0_3] 22, cells gk #[pt g, pt gd] 27, cells gq #[.int .i64 a2_0, .int .i64 a2_1, .slice A3 l3.length c3] 35, nrow kR7 tR7 (.slice B1 K.length b1_) K, row kR7 tR7 (.slice B2 P.length b2_) P]) gs_ HO8.out HK8.out ?_; refine fun w23 o_ k_ => ?_; obtain ⟨O23, K23⟩ := ok_ K22 o_ k_; clear a1 O22 K22 o_ k_; have a1 := k3_ O23 1))
             go_roundw
             case rel => exact ⟨u + 1, L4, by have := HUU.out; omega, by have := HUU.out; omega, int_eq17 (by unfold wrap64; have := HUU.out; have := HMB.out; omega), HL8, O23, K23⟩
             case measure => have := HUU.out; simp [intOf]; omega
            ·have hd3 : decide (u < (m7 : Int)) = false := decide_eq_false hlu
             clear hlu hu0 hu1 hmb HW2
             have O22 : Aside0 (Own N1 wr [both (row kR Sep.TR (.slice (some ad) K2.length d6) L3) (cellIs ⟨(ad.add (y.toNat * 3)).block, (ad.add (y.toNat * 3)).off + 2, none⟩ (.slice A7 m7 c7)), cells gi #[.int .i64 (rd_T35 L2 y).f0, .int .i64 (rd_T35 L2 y).f1, .slice A7 m7 c7] 35, CliO g (pt gp) a0_0 a0_1 pp K2 P U, Obj3 138 gp a0_0 jm L, DocO gj gd a0_0 jm a0_0 a0_1 pp rJ rK rP U, cells gx #[.int .i64 a0_0, .int .i64 a0_1, .int .i64 a0_2, .int .i64 a0_3] 22, cells gk #[pt g, pt gd] 27, cells gq #[.int .i64 a2_0, .int .i64 a2_1, .slice A3 l3.length c3] 35, nrow kR7 tR7 (.slice B1 K.length b1_) K, row kR7 tR7 (.slice B2 P.length b2_) P]) := ⟨OC.out⟩
             have K22 : Aside0 (KeepS N1 wo wr) := ⟨KC.out⟩
             clear OC KC
             go_wp2
             go_roundw
             case rel => exact ⟨y + 1, L3, by have := HY.out; omega, by have := HY.out; omega, int_eq17 (by unfold wrap64; have := HY.out; have := HKL.out.2.2.1; omega), HJ3, ⟨(unmark O22.out (i := 0) rfl).pickL [0, 2, 3, 4, 5, 6, 7, 8, 9] (by decide) (by simp)⟩, K22⟩
             case measure => have := HY.out; simp [intOf]; omega
          ·have hd2 : decide (y < (K2.length : Int)) = false := decide_eq_false hly
           clear hly hy0 hy1 hll HJ HW
           obtain ⟨wq, hwq⟩ : ∃ wq : World, wq = wr := ⟨_, rfl⟩
           subst hwq
           obtain ⟨rows, hrl, ho_⟩ := apart (OB.out.pickL [1, 2, 3, 4, 5, 6, 7, 8] (by decide) (by simp)) (i := 6) rfl
           obtain ⟨N3, o3_, hn3_, hX_, _⟩ := ho_.hide (i := 8) rfl
           have HN3 := Aside0.mk hn3_
           have HKB : Aside0 (KeepS N1 wo wq) := KB
           have HRL := Aside0.mk hrl
           obtain ⟨RX, hRX⟩ : ∃ RX, rows ++ [rw3 a2_0 a2_1 (.slice A3 l3.length c3)] = RX := ⟨_, rfl⟩
           have HRX := Aside0.mk hRX
           have HRXL : Aside0 (RX.length = K2.length) := ⟨by rw [← hRX, HK2L.out, List.length_append, hrl]; rfl⟩
           clear hRX hrl
           have O19 : Aside0 (Own N3 wq [CliO g (pt gp) a0_0 a0_1 pp K2 P U, Obj3 138 gp a0_0 jm L, DocO gj gd a0_0 jm a0_0 a0_1 pp rJ rK rP U, cells gx #[.int .i64 a0_0, .int .i64 a0_1, .int .i64 a0_2, .int .i64 a0_3] 22, cells gk #[pt g, pt gd] 27, cells gq #[.int .i64 a2_0, .int .i64 a2_1, .slice A3 l3.length c3] 35, nrow (Kd.raw 3) tR7 (.slice B1 K.length b1_) rows, row kR7 tR7 (.slice B2 P.length b2_) P, emp]) := ⟨o3_⟩
           have K19 : Aside0 (KeepS N3 wq wq) := ⟨KeepS.refl _ _⟩
           have HLDa_19 : Aside0 (Lead N3 wq rows K) := ⟨hX_⟩
           have HRFc_19 : Aside0 (Kd.F kU7 wq N3 A3 l3.length l3) := ⟨Kd.F_mono (keepF (Kd.F_mono (keepF HRF0.out KA.out) HNN.out) KB.out) hn3_⟩
           have a4 := k2_ O19 4
           have a5 := k3_ O19 5
           clear OB KB ho_ o3_ hn3_ hX_
           go_wp2
           refine sP (n := 16) (S := d2_ gk (pt g) (pt gd) (c3_ gq (.int .i64 a2_0) (.int .i64 a2_1) (.slice A3 l3.length c3))) (ds := []) (j2_ a4 (p3_ a5)) (fun hHeld => ?_)
           obtain ⟨w20, hw_⟩ : ∃ W, W = wq.drew := ⟨_, rfl⟩
           have o_ := O19.out.drew
           have k_ : KeepS N3 wq wq.drew := KeepS.drew
           rw [← hw_] at o_ k_ hHeld ⊢
           clear hw_
           obtain ⟨O20, K20⟩ := ok_ K19 o_ k_
           have HLDa_20 := Aside0.mk (Lead.keep HLDa_19.out k_)
           have HRFc_20 := Aside0.mk (keepF HRFc_19.out k_)
           clear a4 a5 O19 K19 HLDa_19 HRFc_19 o_ k_
           have a4 := k2_ O20 4
           have a5 := k3_ O20 5
           refine pP 0 (some 105) ?_
           refine pP 3 (some 108) ?_
           refine tP 1 (some 106) hHeld ?_
           refine tP 4 (some 109) hHeld ?_
           refine join_ (σ := Option Addr × Nat × Option Addr × Nat) 10 #[true, true, true, true, true, true, false, false, false, false, false, false, false, false, false, false] (fun ⟨D1, d1_, E1, e1_⟩ => [(107, .slice D1 K2.length d1_), (110, .slice E1 1 e1_)]) (fun ⟨D1, d1_, E1, e1_⟩ w' => Own N3 w' [CliO g (pt gp) a0_0 a0_1 pp K2 P U, Obj3 138 gp a0_0 jm L, DocO gj gd a0_0 jm a0_0 a0_1 pp rJ rK rP U, cells gx #[.int .i64 a0_0, .int .i64 a0_1, .int .i64 a0_2, .int .i64 a0_3] 22, cells gk #[pt g, pt gd] 27, cells gq #[.int .i64 a2_0, .int .i64 a2_1, .slice A3 l3.length c3] 35, nrow (Kd.raw 3) tR7 (.slice B1 K.length b1_) rows, row kR7 tR7 (.slice B2 P.length b2_) P, emp, row kR7 tR7 (.slice D1 K2.length d1_) K2, nrow (Kd.raw 3) tR7 (.slice E1 1 e1_) [rw3 a2_0 a2_1 (.slice A3 l3.length c3)]] ∧ KeepS N3 w20 w') ?hcont ?hways
           case hways =>
            intro hc_
            have K21 : Aside0 (KeepS N3 w20 w20) := ⟨KeepS.refl _ _⟩
            have O21 : Aside0 (Own N3 w20 [CliO g (pt gp) a0_0 a0_1 pp K2 P U, Obj3 138 gp a0_0 jm L, DocO gj gd a0_0 jm a0_0 a0_1 pp rJ rK rP U, cells gx #[.int .i64 a0_0, .int .i64 a0_1, .int .i64 a0_2, .int .i64 a0_3] 22, cells gk #[pt g, pt gd] 27, cells gq #[.int .i64 a2_0, .int .i64 a2_1, .slice A3 l3.length c3] 35, nrow (Kd.raw 3) tR7 (.slice B1 K.length b1_) rows, row kR7 tR7 (.slice B2 P.length b2_) P, emp]) := O20
            refine tW_ 2 5 (some 107) (some 110) (fun K_ hK_ => ?_) (fun K_ hK_ => ?_)
            ·skip
             refine hP Tryd.func20 #[pt g] ?_
             obtain ⟨N_, on_, nn_, rr_, bb_⟩ := O21.out.frame1 (i := 0) rfl
             refine (OKnown on_ HKL.out.2.2.1 (HF2.out.bnd (by decide))).mono ?_
             rintro e_ w22 ⟨D1, d1_, rfl, oo_, kk_⟩
             obtain ⟨o_, k_⟩ := bb_ _ _ _ kk_ oo_
             refine ⟨_, rfl, ?_⟩
             obtain ⟨O22, K22⟩ := ok_ K21 o_ k_
             have HLDa_22 := Aside0.mk (Lead.keep HLDa_20.out k_)
             have HRFc_22 := Aside0.mk (keepF HRFc_20.out k_)
             clear a4 a5 O21 K21 HLDa_20 HRFc_20 o_ k_ oo_ kk_ on_ nn_ rr_ bb_
             have a4 := k2_ O22 4
             have a5 := k3_ O22 5
             clear hHeld
             refine hK_.out _ _ (j2_ a4 (p3_ a5)) (fun hHeld => ?_)
             clear hK_ K_
             refine nR_ ?_
             refine oP 5 (some 110) (fun K_ hK_ => ?_)
             refine own_lit_step (Kd.raw 3) (N := N3) (e := 35) (xs := [rw3 a2_0 a2_1 (.slice A3 l3.length c3)]) (inner := [.int .i64 a2_0, .int .i64 a2_1, .slice A3 l3.length c3]) rfl rfl gs_ (repW _ a2_0 a2_1 A3 l3.length c3) (by show 1 ≤ 9223372036854775807; decide) O22.out ?_
             intro E1 e1_ w23 o_ k_
             obtain ⟨O23, K23⟩ := ok_ K22 o_ k_
             have HLDa_23 := Aside0.mk (Lead.keep HLDa_22.out k_)
             have HRFc_23 := Aside0.mk (keepF HRFc_22.out k_)
             clear a4 a5 O22 K22 HLDa_22 HRFc_22 o_ k_
             have a4 := k2_ O23 4
             have a5 := k3_ O23 5
             clear hHeld
             refine hK_.out _ _ (j2_ a4 (p3_ a5)) (fun hHeld => ?_)
             clear hK_ K_
             refine nR_ ?_
             refine norm_ (a' := _) ?_ (hc_ ⟨D1, d1_, E1, e1_⟩ _ ⟨?_, K23.out⟩)
             ·simp only [putAll, Act.put, List.setIfInBounds_toArray, List.set_cons_zero, List.set_cons_succ]
              try rfl
             ·exact O23.out.pickL [0, 1, 2, 3, 4, 5, 6, 7, 8, 9, 10] (by decide) (by simp)
            ·skip
             refine own_lit_step (Kd.raw 3) (N := N3) (e := 35) (xs := [rw3 a2_0 a2_1 (.slice A3 l3.length c3)]) (inner := [.int .i64 a2_0, .int .i64 a2_1, .slice A3 l3.length c3]) rfl rfl gs_ (repW _ a2_0 a2_1 A3 l3.length c3) (by show 1 ≤ 9223372036854775807; decide) O21.out ?_
             intro E1 e1_ w22 o_ k_
             obtain ⟨O22, K22⟩ := ok_ K21 o_ k_
             have HLDa_22 := Aside0.mk (Lead.keep HLDa_20.out k_)
             have HRFc_22 := Aside0.mk (keepF HRFc_20.out k_)
             clear a4 a5 O21 K21 HLDa_20 HRFc_20 o_ k_
             have a4 := k2_ O22 4
             have a5 := k3_ O22 5
             clear hHeld
             refine hK_.out _ _ (j2_ a4 (p3_ a5)) (fun hHeld => ?_)
             clear hK_ K_
             refine nR_ ?_
             refine oP 2 (some 107) (fun K_ hK_ => ?_)
             refine hP Tryd.func20 #[pt g] ?_
             obtain ⟨N_, on_, nn_, rr_, bb_⟩ := O22.out.frame1 (i := 0) rfl
             refine (OKnown on_ HKL.out.2.2.1 (HF2.out.bnd (by decide))).mono ?_
             rintro e_ w23 ⟨D1, d1_, rfl, oo_, kk_⟩
             obtain ⟨o_, k_⟩ := bb_ _ _ _ kk_ oo_
             refine ⟨_, rfl, ?_⟩
             obtain ⟨O23, K23⟩ := ok_ K22 o_ k_
             have HLDa_23 := Aside0.mk (Lead.keep HLDa_22.out k_)
             have HRFc_23 := Aside0.mk (keepF HRFc_22.out k_)
             clear a4 a5 O22 K22 HLDa_22 HRFc_22 o_ k_ oo_ kk_ on_ nn_ rr_ bb_
             have a4 := k2_ O23 4
             have a5 := k3_ O23 5
             clear hHeld
             refine hK_.out _ _ (j2_ a4 (p3_ a5)) (fun hHeld => ?_)
             clear hK_ K_
             refine nR_ ?_
             refine norm_ (a' := _) ?_ (hc_ ⟨D1, d1_, E1, e1_⟩ _ ⟨?_, K23.out⟩)
             ·simp only [putAll, Act.put, List.setIfInBounds_toArray, List.set_cons_zero, List.set_cons_succ]
              try rfl
             ·exact O23.out.pickL [0, 1, 2, 3, 4, 5, 6, 7, 8, 10, 9] (by decide) (by simp)
           case hcont =>
            clear hHeld
            rintro ⟨D1, d1_, E1, e1_⟩ w21 ⟨o_, k_⟩
            obtain ⟨O21, K21⟩ := ok_ K20 o_ k_
            have HLDa_21 := Aside0.mk (Lead.keep HLDa_20.out k_)
            have HRFc_21 := Aside0.mk (keepF HRFc_20.out k_)
            clear a4 a5 O20 K20 HLDa_20 HRFc_20 o_ k_
            have a4 := k2_ O21 4
            have a5 := k3_ O21 5
            refine nA_ ?_
            have hHeld : w21.cell? ⟨gk, 0, none⟩ = some (pt g) ∧ w21.cell? ⟨gk, 1, none⟩ = some (pt gd) ∧ w21.cell? ⟨gq, 0, none⟩ = some (.int .i64 a2_0) ∧ w21.cell? ⟨gq, 1, none⟩ = some (.int .i64 a2_1) ∧ w21.cell? ⟨gq, 2, none⟩ = some (.slice A3 l3.length c3) := (j2_ a4 (p3_ a5))
            refine oP 6 (some 111) (fun K_ hK_ => ?_)
            refine Own.append_flat_step (Kd.raw 3) flatRaw O21.out (i := 6) rfl (O21.out.nreads (i := 10) rfl).2.2 rfl (by rfl) (.tmp 108) (.tmp 110) 40 (.agg #[.int .i64 0, .int .i64 0, .slice none 0 0]) 40 rfl Tryd.underlying40 infoR rfl (by decide) (by decide) rfl rfl (by have h1_ := HRL.out; have h2_ := HKL.out.2.2.2; first | omega | (simp only [List.length_cons, List.length_nil]; omega) | (simp; omega)) ?_
            rw [HRX.out, HRXL.out]
            intro F1 f1_ w22 o_ k_
            obtain ⟨O22, K22⟩ := ok_ K21 o_ k_
            have HLDa_22 := Aside0.mk (Lead.keep HLDa_21.out k_)
            have HRFc_22 := Aside0.mk (keepF HRFc_21.out k_)
            clear a4 a5 O21 K21 HLDa_21 HRFc_21 o_ k_
            have a4 := k2_ O22 4
            have a5 := k3_ O22 5
            clear hHeld
            refine hK_.out _ _ (j2_ a4 (p3_ a5)) (fun hHeld => ?_)
            clear hK_ K_
            refine nP ?_
            refine oP 7 (some 112) (fun K_ hK_ => ?_)
            refine hP Tryd.func19 #[.slice D1 K2.length d1_, .slice F1 K2.length f1_] ?_
            refine (same_raw O22.out (i := 9) (j := 6) rfl rfl (by rw [← HRX.out, ← HK2.out]; exact Lead.append HLDa_22.out (Lead.one (r := ⟨a2_0, a2_1, l3⟩) HC3.out HRFc_22.out)) HF2.out HKL.out.1).mono ?_
            rintro e_ w23 ⟨rfl, hb_⟩
            refine ⟨_, rfl, ?_⟩
            have o_ := O22.out.below hb_
            have k_ := KeepS.of_below (N := N3) hb_
            obtain ⟨O23, K23⟩ := ok_ K22 o_ k_
            have HLDa_23 := Aside0.mk (Lead.keep HLDa_22.out k_)
            have HRFc_23 := Aside0.mk (keepF HRFc_22.out k_)
            clear a4 a5 O22 K22 HLDa_22 HRFc_22 o_ k_ hb_
            have a4 := k2_ O23 4
            have a5 := k3_ O23 5
            clear hHeld
            refine hK_.out _ _ (j2_ a4 (p3_ a5)) (fun hHeld => ?_)
            clear hK_ K_
            refine nP ?_
            refine pP 8 (some 113) ?_
            refine pP 9 (some 114) ?_
            refine pP 12 (some 117) ?_
            refine tP 10 (some 115) hHeld ?_
            refine oP 11 (some 116) (fun K_ hK_ => ?_)
            refine hP Tryd.func21 #[pt g] ?_
            obtain ⟨N_, on_, nn_, rr_, bb_⟩ := O23.out.frame1 (i := 0) rfl
            refine (OPending on_ HSZ.out.2.1 (HFP.out.bnd (by decide))).mono ?_
            rintro e_ w24 ⟨G1, g1_, rfl, oo_, kk_⟩
            obtain ⟨o_, k_⟩ := bb_ _ _ _ kk_ oo_
            refine ⟨_, rfl, ?_⟩
            obtain ⟨O24, K24⟩ := ok_ K23 o_ k_
            have HLDa_24 := Aside0.mk (Lead.keep HLDa_23.out k_)
            have HRFc_24 := Aside0.mk (keepF HRFc_23.out k_)
            clear a4 a5 O23 K23 HLDa_23 HRFc_23 o_ k_ oo_ kk_ on_ nn_ rr_ bb_
            have a4 := k2_ O24 4
            have a5 := k3_ O24 5
            clear hHeld
            refine hK_.out _ _ (j2_ a4 (p3_ a5)) (fun hHeld => ?_)
            clear hK_ K_
            refine nP ?_
            refine oP 13 (some 118) (fun K_ hK_ => ?_)
            refine hP Tryd.func19 #[.slice G1 P.length g1_, .slice B2 P.length b2_] ?_
            refine (same_rows O24.out (i := 11) (j := 7) rfl rfl HFP.out HKL.out.2.1).mono ?_
            rintro e_ w25 ⟨rfl, hb_⟩
            refine ⟨_, rfl, ?_⟩
            have o_ := O24.out.below hb_
            have k_ := KeepS.of_below (N := N3) hb_
            obtain ⟨O25, K25⟩ := ok_ K24 o_ k_
            have HLDa_25 := Aside0.mk (Lead.keep HLDa_24.out k_)
            have HRFc_25 := Aside0.mk (keepF HRFc_24.out k_)
            clear a4 a5 O24 K24 HLDa_24 HRFc_24 o_ k_ hb_
            have a4 := k2_ O25 4
            have a5 := k3_ O25 5
            clear hHeld
            refine hK_.out _ _ (j2_ a4 (p3_ a5)) (fun hHeld => ?_)
            clear hK_ K_
            refine nP ?_
            refine pP 14 (some 119) ?_
            refine pP 15 (some 6) ?_
            refine done_ (by kernel_rfl) ?_
            clear hHeld
            go_wp2
            go_ret
            exact ⟨rfl, (KA.out.trans ((HKB.out.trans (K25.out.mono HN3.out)).mono HNN.out)).below (Nat.le_refl _) (fun k hk => by rw [HN.out]; exact hk)⟩
end Go.Proofs.YtjdenpmaianmfaaDoor.J
