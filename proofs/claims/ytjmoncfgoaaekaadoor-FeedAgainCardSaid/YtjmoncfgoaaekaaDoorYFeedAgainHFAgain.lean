/- FeedAgain: Reset, and with a fresh link, all rounds are told anew, from the first one on -/
import Derived.Test.YtjmoncfgoaaekaaDoorYFeedAgainA15
namespace Go.Proofs.YtjmoncfgoaaekaaDoor.J
set_option linter.unusedSimpArgs false
set_option linter.unusedVariables false
open Go Go.RowKit Go.Proofs.YtjmoncfgoaaekaaDoorW.PrintWords Go.Proofs.YtjmoncfgoaaekaaDoorW.PrintLast Go.Proofs.YtjmoncfgoaaekaaDoorW.PrintMore Go.Proofs.YtjmoncfgoaaekaaDoor.Q Go.Proofs.YtjmoncfgoaaekaaDoor.Sep Go.Proofs.YtjmoncfgoaaekaaDoor.Pure
attribute [local go_sem] max2_int min2_int max_two min_two max_three min_three max_four min_four
def chapbooklaw15_FeedAgain.f (l0 : List Rnd) (a1 : Int) : Option Bool := some true
theorem FPump_e {N : Nat → Prop} {w : World} {gf gl gk : Nat} {C : Int} {L : List Rnd} {E Wn Rm : Int} {Pv : Bool} {W La S : Int} {xs : List Piece} {room acked n a : Int} (m a' S' : Int) (X' : List Piece) (ha' : a + m = a') (hS' : S + m = S') (hX' : xs ++ pcs S (seg L a m) = X') (h : Own N w [cells gf #[.int .i64 a] 78, ObjC gl C L, LinkO gk E Wn Rm Pv W La S xs room acked n]) (ht : TabN N w) (hL : L.length ≤ 1000000) (hg : Good C L) (ha : 0 ≤ a ∧ a ≤ (L.length : Int)) (hs : 0 ≤ S ∧ S < 1000000 ∧ La = 1125899906842624) (hw : (xs.length : Int) ≤ W ∧ W ≤ 16) (hm : Pumps L W xs a m) :
  Calls Tryd.prog 14 #[.pointer (some ⟨gf, 0, none⟩), .pointer (some ⟨gl, 0, none⟩), .pointer (some ⟨gk, 0, none⟩)] w fun e_ w' => e_ = .returned (.int .i64 m) ∧ Own N w' [cells gf #[.int .i64 a'] 78, ObjC gl C L, LinkO gk E Wn Rm Pv W La S' X' room acked n] ∧ KeepS N w w' := by
 subst ha'
 subst hS'
 subst hX'
 exact FPump m h ht hL hg ha hs hw hm
def FaI (N : Nat → Prop) (w : World) (l0 : List Rnd) (gl : Nat) (R : List HP) (i : Value) (wr : World) : Prop := ∃ (x : Int) (L : List Rnd), 0 ≤ x ∧ x ≤ (l0.length : Int) ∧ i = .int .i64 x ∧ Aside0 ((L.length : Int) ≤ x ∧ Good 3 L) ∧ Aside0 (Own N wr ([ObjC gl 3 L] ++ R)) ∧ Aside0 (KeepS N w wr)
theorem LFrames_n {N : Nat → Prop} {w : World} {g : Nat} {E Wn Rm : Int} {Pv : Bool} {W La S : Int} {xs : List Piece} {room acked n : Int} (k : Nat) (F : List Frm) (hk : F.length = k) (hF : frs E acked xs = F) (h : Own N w [LinkO g E Wn Rm Pv W La S xs room acked n]) (hE : E ≠ 0) (hl : xs.length ≤ 16) :
  Calls Tryd.prog 23 #[.pointer (some ⟨g, 0, none⟩)] w fun e_ w' => ∃ A1 c1, e_ = .returned (.slice A1 k c1) ∧ Own N w' [LinkO g E Wn Rm Pv W La S xs room acked n, nrow k40 40 (.slice A1 k c1) F] ∧ KeepS N w w' := by
 subst hk
 subst hF
 exact LFrames h hE hl
theorem Len_n2 {N : Nat → Prop} {w : World} {g : Nat} {C : Int} {L : List Rnd} (h : Own N w [ObjC g C L]) : Calls Tryd.prog 26 #[.pointer (some ⟨g, 0, none⟩)] w fun e w' => e = .returned (.int .i64 L.length) ∧ Own N w' [ObjC g C L] ∧ KeepS N w w' := Len h
theorem fr_rel (E E' ack : Int) (X : List Piece) (x : Int) (h0 : 0 ≤ x) (h1 : x < (frs E ack X).length) : (frAt (frs E' ack X) x).f3 = (frAt (frs E ack X) x).f3 ∧ (frAt (frs E' ack X) x).f1 = (frAt (frs E ack X) x).f1 ∧ (frAt (frs E' ack X) x).f0 = E' := by
 unfold frs at h1 ⊢
 by_cases hX : X.length = 0
 ·rw [if_pos hX] at h1
  rw [if_pos hX, if_pos hX]
  have hx : x = 0 := by simp at h1; omega
  subst hx
  exact ⟨rfl, rfl, rfl⟩
 ·rw [if_neg hX] at h1
  rw [if_neg hX, if_neg hX]
  have hl : x.toNat < X.length := by rw [List.length_map] at h1; omega
  have e : ∀ F, frAt (X.map (fr F ack)) x = fr F ack X[x.toNat] := fun F => by
   unfold frAt
   rw [List.getD_eq_getElem?_getD, List.getElem?_map, List.getElem?_eq_getElem hl]
   rfl
  rw [e, e]
  exact ⟨rfl, rfl, rfl⟩
theorem frs_len (E E' ack : Int) (X : List Piece) : (frs E' ack X).length = (frs E ack X).length := by
 unfold frs
 split
 ·rfl
 ·rw [List.length_map, List.length_map]
theorem frs_max (E ack : Int) (X : List Piece) : (frs E ack X).length ≤ X.length + 1 := by
 unfold frs
 split
 ·simp
 ·rw [List.length_map]; omega
theorem val_eq {o : Option Value} {a b : Value} (h : o = some a) (e : a = b) : o = some b := e ▸ h
def FbI (N : Nat → Prop) (w : World) (k : Nat) (R : List HP) (i : Value) (wr : World) : Prop := ∃ x : Int, 0 ≤ x ∧ x ≤ (k : Int) ∧ i = .int .i64 x ∧ Aside0 (Own N wr R) ∧ Aside0 (KeepS N w wr)
set_option maxHeartbeats 16000000 in
set_option maxRecDepth 100000 in
theorem chapbooklaw15_FeedAgain.calls (A0 : Option Addr) (c0 : Nat) (l0 : List Rnd) (a1 : Int) (r : Bool) (w : World) (HT : Aside0 (Tab w)) (hr0 : Kd.C k43 w A0 l0.length l0) (hc0 : l0.length ≤ c0) (h : chapbooklaw15_FeedAgain.f l0 a1 = some r) :
  Calls Tryd.prog 4 #[.slice A0 l0.length c0, .int .i64 a1] w fun e_ w' => e_ = .returned (.bool r) ∧ Below w.heap.size w w' := by
 obtain rfl : true = r := Option.some.inj h
 obtain ⟨N, hN⟩ : ∃ N : Nat → Prop, N = fun k => k < w.heap.size := ⟨_, rfl⟩
 have HN := Aside0.mk hN
 have HT_0 : Aside0 (TabN N w) := ⟨by rw [hN]; exact World.block_lt_of_cell? w _ HT.out.1, HT.out⟩
 have HRL0 : Aside0 (Kd.F k43 w N A0 l0.length l0) := ⟨by rw [hN]; exact Kd.C_F heapR hr0⟩
 have HR0 := Aside0.mk hr0
 have HC0 := Aside0.mk hc0
 have O0 : Aside0 (Own N w []) := ⟨Own.start_ (fun k hk => by rw [hN] at hk; exact hk)⟩
 have K0 : Aside0 (KeepS N w w) := ⟨KeepS.refl _ _⟩
 have HT00 := HT_0
 clear hN HT hr0 hc0
 obtain ⟨b, hgr, hgb⟩ := great14_ok l0
 have HGR := Aside0.mk hgr
 have HGB := Aside0.mk hgb
 clear hgr hgb h
 cases b with
 | true =>
  go_enter Tryd.func4, Tryd.ntmps4
  go_wp2_with (first | ((with_reducible refine gate_callee (f := 7) rfl ?_); refine goesL_ (some 15) rfl rfl Tryd.func7 (by kernel_rfl) rfl #[.int .i64 3] rfl (by (try simp only [List.map_toArray, List.map_cons, List.map_nil]); first | done | rfl) ?_; obtain ⟨N_, on_, nn_, rr_, bb_⟩ := O0.out.frame0; refine (New_n 3 3 (by decide) on_).mono ?_; rintro e_ w1 ⟨gl, rfl, oo_, kk_⟩; obtain ⟨o_, k_⟩ := bb_ _ _ kk_ oo_; refine ⟨_, rfl, ?_⟩; have O1 : Aside0 (Own N w1 [ObjC gl 3 []]) := ⟨o_⟩; have K1 : Aside0 (KeepS N w w1) := ⟨K0.out.trans k_⟩; have HT_1 : Aside0 (TabN N w1) := ⟨TabN.keep HT_0.out k_⟩; clear O0 K0 HT_0; clear o_ k_ oo_ kk_ on_ nn_ rr_ bb_) | ((with_reducible refine gate_callee (f := 8) rfl ?_); refine goesL_ (some 16) rfl rfl Tryd.func8 (by kernel_rfl) rfl #[.int .i64 1, .int .i64 16, .int .i64 16, .bool true] rfl (by (try simp only [List.map_toArray, List.map_cons, List.map_nil]); first | done | rfl) ?_; obtain ⟨N_, on_, nn_, rr_, bb_⟩ := O1.out.frame0; refine (LNew 1 16 16 true 1 16 16 (by decide) (by decide) (by decide) on_).mono ?_; rintro e_ w2 ⟨gk, rfl, oo_, kk_⟩; obtain ⟨o_, k_⟩ := bb_ _ _ kk_ oo_; refine ⟨_, rfl, ?_⟩; have O2 : Aside0 (Own N w2 [ObjC gl 3 [], LinkO gk 1 16 16 true 16 1125899906842624 0 [] 16 0 0]) := ⟨o_⟩; have K2 : Aside0 (KeepS N w w2) := ⟨K1.out.trans k_⟩; have HT_2 : Aside0 (TabN N w2) := ⟨TabN.keep HT_1.out k_⟩; clear O1 K1 HT_1; clear o_ k_ oo_ kk_ on_ nn_ rr_ bb_) | ((with_reducible refine gate_callee (f := 9) rfl ?_); refine goesL_ (some 17) rfl rfl Tryd.func9 (by kernel_rfl) rfl #[] rfl (by (try simp only [List.map_toArray, List.map_cons, List.map_nil]); first | done | rfl) ?_; obtain ⟨N_, on_, nn_, rr_, bb_⟩ := O2.out.frame0; refine (FNew on_).mono ?_; rintro e_ w3 ⟨gf, rfl, oo_, kk_⟩; obtain ⟨o_, k_⟩ := bb_ _ _ kk_ oo_; refine ⟨_, rfl, ?_⟩; have O3 : Aside0 (Own N w3 [ObjC gl 3 [], LinkO gk 1 16 16 true 16 1125899906842624 0 [] 16 0 0, cells gf #[.int .i64 0] 78]) := ⟨o_⟩; have K3 : Aside0 (KeepS N w w3) := ⟨K2.out.trans k_⟩; have HT_3 : Aside0 (TabN N w3) := ⟨TabN.keep HT_2.out k_⟩; clear O2 K2 HT_2; clear o_ k_ oo_ kk_ on_ nn_ rr_ bb_) | ((with_reducible refine gate_callee (f := 12) rfl ?_); refine goesL_ (some 18) rfl rfl Tryd.func12 (by kernel_rfl) rfl #[] rfl (by (try simp only [List.map_toArray, List.map_cons, List.map_nil]); first | done | rfl) ?_; refine (awake _ ⟨HT_3.out.2⟩).mono ?_; rintro e_ w4 ⟨rfl, hb_⟩; refine ⟨_, rfl, ?_⟩; have o_ := O3.out.below hb_; have k_ := KeepS.of_below (N := N) hb_; have O4 : Aside0 (Own N w4 [ObjC gl 3 [], LinkO gk 1 16 16 true 16 1125899906842624 0 [] 16 0 0, cells gf #[.int .i64 0] 78]) := ⟨o_⟩; have K4 : Aside0 (KeepS N w w4) := ⟨K3.out.trans k_⟩; have HT_4 : Aside0 (TabN N w4) := ⟨TabN.keep HT_3.out k_⟩; clear O3 K3 HT_3; clear o_ k_ hb_) | ((with_reducible refine gate_callee (f := 25) rfl ?_); refine gate_guard (by rfl) ?_; refine goesL_ (some 34) rfl rfl Tryd.func25 (by kernel_rfl) rfl #[.slice A0 l0.length c0] rfl (by (try simp only [List.map_toArray, List.map_cons, List.map_nil]); first | done | rfl) ?_; refine (chapbookref07_GreatAll.calls 300 _ _ l0 true _ (Kd.C_below HR0.out (K4.out.below (Nat.le_refl _) (fun k hk => by rw [HN.out]; exact hk))) HC0.out HGR.out).mono ?_; rintro e_ w5 ⟨rfl, hb_⟩; refine ⟨_, rfl, ?_⟩; have o_ := O4.out.below hb_; have k_ := KeepS.of_below (N := N) hb_; have O5 : Aside0 (Own N w5 [ObjC gl 3 [], LinkO gk 1 16 16 true 16 1125899906842624 0 [] 16 0 0, cells gf #[.int .i64 0] 78]) := ⟨o_⟩; have K5 : Aside0 (KeepS N w w5) := ⟨K4.out.trans k_⟩; have HT_5 : Aside0 (TabN N w5) := ⟨TabN.keep HT_4.out k_⟩; clear O4 K4 HT_4; clear o_ k_ hb_) | ((with_reducible refine gate_callee (f := 12) rfl ?_); refine goesL_ (some 44) rfl rfl Tryd.func12 (by kernel_rfl) rfl #[] rfl (by (try simp only [List.map_toArray, List.map_cons, List.map_nil]); first | done | rfl) ?_; refine (awake _ ⟨HT_5.out.2⟩).mono ?_; rintro e_ w6 ⟨rfl, hb_⟩; refine ⟨_, rfl, ?_⟩; have o_ := O5.out.below hb_; have k_ := KeepS.of_below (N := N) hb_; have O6 : Aside0 (Own N w6 [ObjC gl 3 [], LinkO gk 1 16 16 true 16 1125899906842624 0 [] 16 0 0, cells gf #[.int .i64 0] 78]) := ⟨o_⟩; have K6 : Aside0 (KeepS N w w6) := ⟨K5.out.trans k_⟩; have HT_6 : Aside0 (TabN N w6) := ⟨TabN.keep HT_5.out k_⟩; clear O5 K5 HT_5; clear o_ k_ hb_))
  all_goals go_ret
  all_goals exact ⟨rfl, K6.out.below (Nat.le_refl _) (fun k hk => by rw [HN.out]; exact hk)⟩
 | false =>
  obtain ⟨hl40, hl20⟩ := HGB.out rfl
  have HL40 := Aside0.mk hl40
  have HL20 := Aside0.mk hl20
  clear hl40 hl20 HGB
  by_cases h2 : a1 < 2
  ·have d2 : decide (a1 < 2) = true := decide_eq_true h2
   clear h2
   go_enter Tryd.func4, Tryd.ntmps4
   go_wp2_with (first | ((with_reducible refine gate_callee (f := 7) rfl ?_); refine goesL_ (some 15) rfl rfl Tryd.func7 (by kernel_rfl) rfl #[.int .i64 3] rfl (by (try simp only [List.map_toArray, List.map_cons, List.map_nil]); first | done | rfl) ?_; obtain ⟨N_, on_, nn_, rr_, bb_⟩ := O0.out.frame0; refine (New_n 3 3 (by decide) on_).mono ?_; rintro e_ w1 ⟨gl, rfl, oo_, kk_⟩; obtain ⟨o_, k_⟩ := bb_ _ _ kk_ oo_; refine ⟨_, rfl, ?_⟩; have O1 : Aside0 (Own N w1 [ObjC gl 3 []]) := ⟨o_⟩; have K1 : Aside0 (KeepS N w w1) := ⟨K0.out.trans k_⟩; have HT_1 : Aside0 (TabN N w1) := ⟨TabN.keep HT_0.out k_⟩; clear O0 K0 HT_0; clear o_ k_ oo_ kk_ on_ nn_ rr_ bb_) | ((with_reducible refine gate_callee (f := 8) rfl ?_); refine goesL_ (some 16) rfl rfl Tryd.func8 (by kernel_rfl) rfl #[.int .i64 1, .int .i64 16, .int .i64 16, .bool true] rfl (by (try simp only [List.map_toArray, List.map_cons, List.map_nil]); first | done | rfl) ?_; obtain ⟨N_, on_, nn_, rr_, bb_⟩ := O1.out.frame0; refine (LNew 1 16 16 true 1 16 16 (by decide) (by decide) (by decide) on_).mono ?_; rintro e_ w2 ⟨gk, rfl, oo_, kk_⟩; obtain ⟨o_, k_⟩ := bb_ _ _ kk_ oo_; refine ⟨_, rfl, ?_⟩; have O2 : Aside0 (Own N w2 [ObjC gl 3 [], LinkO gk 1 16 16 true 16 1125899906842624 0 [] 16 0 0]) := ⟨o_⟩; have K2 : Aside0 (KeepS N w w2) := ⟨K1.out.trans k_⟩; have HT_2 : Aside0 (TabN N w2) := ⟨TabN.keep HT_1.out k_⟩; clear O1 K1 HT_1; clear o_ k_ oo_ kk_ on_ nn_ rr_ bb_) | ((with_reducible refine gate_callee (f := 9) rfl ?_); refine goesL_ (some 17) rfl rfl Tryd.func9 (by kernel_rfl) rfl #[] rfl (by (try simp only [List.map_toArray, List.map_cons, List.map_nil]); first | done | rfl) ?_; obtain ⟨N_, on_, nn_, rr_, bb_⟩ := O2.out.frame0; refine (FNew on_).mono ?_; rintro e_ w3 ⟨gf, rfl, oo_, kk_⟩; obtain ⟨o_, k_⟩ := bb_ _ _ kk_ oo_; refine ⟨_, rfl, ?_⟩; have O3 : Aside0 (Own N w3 [ObjC gl 3 [], LinkO gk 1 16 16 true 16 1125899906842624 0 [] 16 0 0, cells gf #[.int .i64 0] 78]) := ⟨o_⟩; have K3 : Aside0 (KeepS N w w3) := ⟨K2.out.trans k_⟩; have HT_3 : Aside0 (TabN N w3) := ⟨TabN.keep HT_2.out k_⟩; clear O2 K2 HT_2; clear o_ k_ oo_ kk_ on_ nn_ rr_ bb_) | ((with_reducible refine gate_callee (f := 12) rfl ?_); refine goesL_ (some 18) rfl rfl Tryd.func12 (by kernel_rfl) rfl #[] rfl (by (try simp only [List.map_toArray, List.map_cons, List.map_nil]); first | done | rfl) ?_; refine (awake _ ⟨HT_3.out.2⟩).mono ?_; rintro e_ w4 ⟨rfl, hb_⟩; refine ⟨_, rfl, ?_⟩; have o_ := O3.out.below hb_; have k_ := KeepS.of_below (N := N) hb_; have O4 : Aside0 (Own N w4 [ObjC gl 3 [], LinkO gk 1 16 16 true 16 1125899906842624 0 [] 16 0 0, cells gf #[.int .i64 0] 78]) := ⟨o_⟩; have K4 : Aside0 (KeepS N w w4) := ⟨K3.out.trans k_⟩; have HT_4 : Aside0 (TabN N w4) := ⟨TabN.keep HT_3.out k_⟩; clear O3 K3 HT_3; clear o_ k_ hb_) | ((with_reducible refine gate_callee (f := 25) rfl ?_); refine gate_guard (by rfl) ?_; refine goesL_ (some 34) rfl rfl Tryd.func25 (by kernel_rfl) rfl #[.slice A0 l0.length c0] rfl (by (try simp only [List.map_toArray, List.map_cons, List.map_nil]); first | done | rfl) ?_; refine (chapbookref07_GreatAll.calls 300 _ _ l0 false _ (Kd.C_below HR0.out (K4.out.below (Nat.le_refl _) (fun k hk => by rw [HN.out]; exact hk))) HC0.out HGR.out).mono ?_; rintro e_ w5 ⟨rfl, hb_⟩; refine ⟨_, rfl, ?_⟩; have o_ := O4.out.below hb_; have k_ := KeepS.of_below (N := N) hb_; have O5 : Aside0 (Own N w5 [ObjC gl 3 [], LinkO gk 1 16 16 true 16 1125899906842624 0 [] 16 0 0, cells gf #[.int .i64 0] 78]) := ⟨o_⟩; have K5 : Aside0 (KeepS N w w5) := ⟨K4.out.trans k_⟩; have HT_5 : Aside0 (TabN N w5) := ⟨TabN.keep HT_4.out k_⟩; clear O4 K4 HT_4; clear o_ k_ hb_) | ((with_reducible refine gate_callee (f := 12) rfl ?_); refine goesL_ (some 44) rfl rfl Tryd.func12 (by kernel_rfl) rfl #[] rfl (by (try simp only [List.map_toArray, List.map_cons, List.map_nil]); first | done | rfl) ?_; refine (awake _ ⟨HT_5.out.2⟩).mono ?_; rintro e_ w6 ⟨rfl, hb_⟩; refine ⟨_, rfl, ?_⟩; have o_ := O5.out.below hb_; have k_ := KeepS.of_below (N := N) hb_; have O6 : Aside0 (Own N w6 [ObjC gl 3 [], LinkO gk 1 16 16 true 16 1125899906842624 0 [] 16 0 0, cells gf #[.int .i64 0] 78]) := ⟨o_⟩; have K6 : Aside0 (KeepS N w w6) := ⟨K5.out.trans k_⟩; have HT_6 : Aside0 (TabN N w6) := ⟨TabN.keep HT_5.out k_⟩; clear O5 K5 HT_5; clear o_ k_ hb_))
   all_goals go_ret
   all_goals exact ⟨rfl, K6.out.below (Nat.le_refl _) (fun k hk => by rw [HN.out]; exact hk)⟩
  have d2 : decide (a1 < 2) = false := decide_eq_false h2
  by_cases h3 : a1 > 1099511627776
  ·have d3 : decide (a1 > 1099511627776) = true := decide_eq_true h3
   have d4 : decide (1099511627776 < a1) = true := decide_eq_true h3
   clear h2 h3
   go_enter Tryd.func4, Tryd.ntmps4
   go_wp2_with (first | ((with_reducible refine gate_callee (f := 7) rfl ?_); refine goesL_ (some 15) rfl rfl Tryd.func7 (by kernel_rfl) rfl #[.int .i64 3] rfl (by (try simp only [List.map_toArray, List.map_cons, List.map_nil]); first | done | rfl) ?_; obtain ⟨N_, on_, nn_, rr_, bb_⟩ := O0.out.frame0; refine (New_n 3 3 (by decide) on_).mono ?_; rintro e_ w1 ⟨gl, rfl, oo_, kk_⟩; obtain ⟨o_, k_⟩ := bb_ _ _ kk_ oo_; refine ⟨_, rfl, ?_⟩; have O1 : Aside0 (Own N w1 [ObjC gl 3 []]) := ⟨o_⟩; have K1 : Aside0 (KeepS N w w1) := ⟨K0.out.trans k_⟩; have HT_1 : Aside0 (TabN N w1) := ⟨TabN.keep HT_0.out k_⟩; clear O0 K0 HT_0; clear o_ k_ oo_ kk_ on_ nn_ rr_ bb_) | ((with_reducible refine gate_callee (f := 8) rfl ?_); refine goesL_ (some 16) rfl rfl Tryd.func8 (by kernel_rfl) rfl #[.int .i64 1, .int .i64 16, .int .i64 16, .bool true] rfl (by (try simp only [List.map_toArray, List.map_cons, List.map_nil]); first | done | rfl) ?_; obtain ⟨N_, on_, nn_, rr_, bb_⟩ := O1.out.frame0; refine (LNew 1 16 16 true 1 16 16 (by decide) (by decide) (by decide) on_).mono ?_; rintro e_ w2 ⟨gk, rfl, oo_, kk_⟩; obtain ⟨o_, k_⟩ := bb_ _ _ kk_ oo_; refine ⟨_, rfl, ?_⟩; have O2 : Aside0 (Own N w2 [ObjC gl 3 [], LinkO gk 1 16 16 true 16 1125899906842624 0 [] 16 0 0]) := ⟨o_⟩; have K2 : Aside0 (KeepS N w w2) := ⟨K1.out.trans k_⟩; have HT_2 : Aside0 (TabN N w2) := ⟨TabN.keep HT_1.out k_⟩; clear O1 K1 HT_1; clear o_ k_ oo_ kk_ on_ nn_ rr_ bb_) | ((with_reducible refine gate_callee (f := 9) rfl ?_); refine goesL_ (some 17) rfl rfl Tryd.func9 (by kernel_rfl) rfl #[] rfl (by (try simp only [List.map_toArray, List.map_cons, List.map_nil]); first | done | rfl) ?_; obtain ⟨N_, on_, nn_, rr_, bb_⟩ := O2.out.frame0; refine (FNew on_).mono ?_; rintro e_ w3 ⟨gf, rfl, oo_, kk_⟩; obtain ⟨o_, k_⟩ := bb_ _ _ kk_ oo_; refine ⟨_, rfl, ?_⟩; have O3 : Aside0 (Own N w3 [ObjC gl 3 [], LinkO gk 1 16 16 true 16 1125899906842624 0 [] 16 0 0, cells gf #[.int .i64 0] 78]) := ⟨o_⟩; have K3 : Aside0 (KeepS N w w3) := ⟨K2.out.trans k_⟩; have HT_3 : Aside0 (TabN N w3) := ⟨TabN.keep HT_2.out k_⟩; clear O2 K2 HT_2; clear o_ k_ oo_ kk_ on_ nn_ rr_ bb_) | ((with_reducible refine gate_callee (f := 12) rfl ?_); refine goesL_ (some 18) rfl rfl Tryd.func12 (by kernel_rfl) rfl #[] rfl (by (try simp only [List.map_toArray, List.map_cons, List.map_nil]); first | done | rfl) ?_; refine (awake _ ⟨HT_3.out.2⟩).mono ?_; rintro e_ w4 ⟨rfl, hb_⟩; refine ⟨_, rfl, ?_⟩; have o_ := O3.out.below hb_; have k_ := KeepS.of_below (N := N) hb_; have O4 : Aside0 (Own N w4 [ObjC gl 3 [], LinkO gk 1 16 16 true 16 1125899906842624 0 [] 16 0 0, cells gf #[.int .i64 0] 78]) := ⟨o_⟩; have K4 : Aside0 (KeepS N w w4) := ⟨K3.out.trans k_⟩; have HT_4 : Aside0 (TabN N w4) := ⟨TabN.keep HT_3.out k_⟩; clear O3 K3 HT_3; clear o_ k_ hb_) | ((with_reducible refine gate_callee (f := 25) rfl ?_); refine gate_guard (by rfl) ?_; refine goesL_ (some 34) rfl rfl Tryd.func25 (by kernel_rfl) rfl #[.slice A0 l0.length c0] rfl (by (try simp only [List.map_toArray, List.map_cons, List.map_nil]); first | done | rfl) ?_; refine (chapbookref07_GreatAll.calls 300 _ _ l0 false _ (Kd.C_below HR0.out (K4.out.below (Nat.le_refl _) (fun k hk => by rw [HN.out]; exact hk))) HC0.out HGR.out).mono ?_; rintro e_ w5 ⟨rfl, hb_⟩; refine ⟨_, rfl, ?_⟩; have o_ := O4.out.below hb_; have k_ := KeepS.of_below (N := N) hb_; have O5 : Aside0 (Own N w5 [ObjC gl 3 [], LinkO gk 1 16 16 true 16 1125899906842624 0 [] 16 0 0, cells gf #[.int .i64 0] 78]) := ⟨o_⟩; have K5 : Aside0 (KeepS N w w5) := ⟨K4.out.trans k_⟩; have HT_5 : Aside0 (TabN N w5) := ⟨TabN.keep HT_4.out k_⟩; clear O4 K4 HT_4; clear o_ k_ hb_) | ((with_reducible refine gate_callee (f := 12) rfl ?_); refine goesL_ (some 44) rfl rfl Tryd.func12 (by kernel_rfl) rfl #[] rfl (by (try simp only [List.map_toArray, List.map_cons, List.map_nil]); first | done | rfl) ?_; refine (awake _ ⟨HT_5.out.2⟩).mono ?_; rintro e_ w6 ⟨rfl, hb_⟩; refine ⟨_, rfl, ?_⟩; have o_ := O5.out.below hb_; have k_ := KeepS.of_below (N := N) hb_; have O6 : Aside0 (Own N w6 [ObjC gl 3 [], LinkO gk 1 16 16 true 16 1125899906842624 0 [] 16 0 0, cells gf #[.int .i64 0] 78]) := ⟨o_⟩; have K6 : Aside0 (KeepS N w w6) := ⟨K5.out.trans k_⟩; have HT_6 : Aside0 (TabN N w6) := ⟨TabN.keep HT_5.out k_⟩; clear O5 K5 HT_5; clear o_ k_ hb_))
   all_goals go_ret
   all_goals exact ⟨rfl, K6.out.below (Nat.le_refl _) (fun k hk => by rw [HN.out]; exact hk)⟩
  have d3 : decide (a1 > 1099511627776) = false := decide_eq_false h3
  have d4 : decide (1099511627776 < a1) = false := decide_eq_false h3
  have HE : Aside0 (2 ≤ a1 ∧ a1 ≤ 1099511627776) := ⟨by omega⟩
  clear h2 h3
  go_enter Tryd.func4, Tryd.ntmps4
  go_wp2_with (first | ((with_reducible refine gate_callee (f := 7) rfl ?_); refine goesL_ (some 15) rfl rfl Tryd.func7 (by kernel_rfl) rfl #[.int .i64 3] rfl (by (try simp only [List.map_toArray, List.map_cons, List.map_nil]); first | done | rfl) ?_; obtain ⟨N_, on_, nn_, rr_, bb_⟩ := O0.out.frame0; refine (New_n 3 3 (by decide) on_).mono ?_; rintro e_ w1 ⟨gl, rfl, oo_, kk_⟩; obtain ⟨o_, k_⟩ := bb_ _ _ kk_ oo_; refine ⟨_, rfl, ?_⟩; have O1 : Aside0 (Own N w1 [ObjC gl 3 []]) := ⟨o_⟩; have K1 : Aside0 (KeepS N w w1) := ⟨K0.out.trans k_⟩; have HT_1 : Aside0 (TabN N w1) := ⟨TabN.keep HT_0.out k_⟩; clear O0 K0 HT_0; clear o_ k_ oo_ kk_ on_ nn_ rr_ bb_) | ((with_reducible refine gate_callee (f := 8) rfl ?_); refine goesL_ (some 16) rfl rfl Tryd.func8 (by kernel_rfl) rfl #[.int .i64 1, .int .i64 16, .int .i64 16, .bool true] rfl (by (try simp only [List.map_toArray, List.map_cons, List.map_nil]); first | done | rfl) ?_; obtain ⟨N_, on_, nn_, rr_, bb_⟩ := O1.out.frame0; refine (LNew 1 16 16 true 1 16 16 (by decide) (by decide) (by decide) on_).mono ?_; rintro e_ w2 ⟨gk, rfl, oo_, kk_⟩; obtain ⟨o_, k_⟩ := bb_ _ _ kk_ oo_; refine ⟨_, rfl, ?_⟩; have O2 : Aside0 (Own N w2 [ObjC gl 3 [], LinkO gk 1 16 16 true 16 1125899906842624 0 [] 16 0 0]) := ⟨o_⟩; have K2 : Aside0 (KeepS N w w2) := ⟨K1.out.trans k_⟩; have HT_2 : Aside0 (TabN N w2) := ⟨TabN.keep HT_1.out k_⟩; clear O1 K1 HT_1; clear o_ k_ oo_ kk_ on_ nn_ rr_ bb_) | ((with_reducible refine gate_callee (f := 9) rfl ?_); refine goesL_ (some 17) rfl rfl Tryd.func9 (by kernel_rfl) rfl #[] rfl (by (try simp only [List.map_toArray, List.map_cons, List.map_nil]); first | done | rfl) ?_; obtain ⟨N_, on_, nn_, rr_, bb_⟩ := O2.out.frame0; refine (FNew on_).mono ?_; rintro e_ w3 ⟨gf, rfl, oo_, kk_⟩; obtain ⟨o_, k_⟩ := bb_ _ _ kk_ oo_; refine ⟨_, rfl, ?_⟩; have O3 : Aside0 (Own N w3 [ObjC gl 3 [], LinkO gk 1 16 16 true 16 1125899906842624 0 [] 16 0 0, cells gf #[.int .i64 0] 78]) := ⟨o_⟩; have K3 : Aside0 (KeepS N w w3) := ⟨K2.out.trans k_⟩; have HT_3 : Aside0 (TabN N w3) := ⟨TabN.keep HT_2.out k_⟩; clear O2 K2 HT_2; clear o_ k_ oo_ kk_ on_ nn_ rr_ bb_) | ((with_reducible refine gate_callee (f := 12) rfl ?_); refine goesL_ (some 18) rfl rfl Tryd.func12 (by kernel_rfl) rfl #[] rfl (by (try simp only [List.map_toArray, List.map_cons, List.map_nil]); first | done | rfl) ?_; refine (awake _ ⟨HT_3.out.2⟩).mono ?_; rintro e_ w4 ⟨rfl, hb_⟩; refine ⟨_, rfl, ?_⟩; have o_ := O3.out.below hb_; have k_ := KeepS.of_below (N := N) hb_; have O4 : Aside0 (Own N w4 [ObjC gl 3 [], LinkO gk 1 16 16 true 16 1125899906842624 0 [] 16 0 0, cells gf #[.int .i64 0] 78]) := ⟨o_⟩; have K4 : Aside0 (KeepS N w w4) := ⟨K3.out.trans k_⟩; have HT_4 : Aside0 (TabN N w4) := ⟨TabN.keep HT_3.out k_⟩; clear O3 K3 HT_3; clear o_ k_ hb_) | ((with_reducible refine gate_callee (f := 25) rfl ?_); refine gate_guard (by rfl) ?_; refine goesL_ (some 34) rfl rfl Tryd.func25 (by kernel_rfl) rfl #[.slice A0 l0.length c0] rfl (by (try simp only [List.map_toArray, List.map_cons, List.map_nil]); first | done | rfl) ?_; refine (chapbookref07_GreatAll.calls 300 _ _ l0 false _ (Kd.C_below HR0.out (K4.out.below (Nat.le_refl _) (fun k hk => by rw [HN.out]; exact hk))) HC0.out HGR.out).mono ?_; rintro e_ w5 ⟨rfl, hb_⟩; refine ⟨_, rfl, ?_⟩; have o_ := O4.out.below hb_; have k_ := KeepS.of_below (N := N) hb_; have O5 : Aside0 (Own N w5 [ObjC gl 3 [], LinkO gk 1 16 16 true 16 1125899906842624 0 [] 16 0 0, cells gf #[.int .i64 0] 78]) := ⟨o_⟩; have K5 : Aside0 (KeepS N w w5) := ⟨K4.out.trans k_⟩; have HT_5 : Aside0 (TabN N w5) := ⟨TabN.keep HT_4.out k_⟩; clear O4 K4 HT_4; clear o_ k_ hb_))
  go_loopw [47] (fun i wr => FaI N w l0 gl [LinkO gk 1 16 16 true 16 1125899906842624 0 [] 16 0 0, cells gf #[.int .i64 0] 78] i wr) (fun i _ => l0.length - (intOf i).toNat)
  case atStart => exact ⟨0, [], by omega, by omega, rfl, ⟨by decide, good_nil _⟩, O5, K5⟩
  case round =>
   obtain ⟨x, L, hx0, hx1, rfl, HI, OA, KA⟩ := hrel
   clear O5 K5 HT_5
   have hF2 := keepF HRL0.out KA.out
   have hLx := HL40.out
   have HLL : Aside0 (L.length ≤ 1000000) := ⟨by have := HI.out.1; omega⟩
   by_cases hlt : x < (l0.length : Int)
   ·obtain ⟨ad, A3, c3, e3, x0, x1, x2, hl3, hF3⟩ := at_F hF2 x hx0 hlt
    cases e3
    have HC3 := Aside0.mk hl3
    have HF3 := Aside0.mk hF3
    have hs2 : wrap64 (x + 1) = x + 1 := by unfold wrap64; omega
    have hp := eq_true hx0
    have hq := eq_true hlt
    have hd : decide (x < (l0.length : Int)) = true := decide_eq_true hlt
    have HX := Aside0.mk (And.intro hx0 hlt)
    have HU : Aside0 ((rd_T43 l0 x).f2.length ≤ 1000000) := ⟨Nat.le_trans (HL20.out x hx0 hlt) (by decide)⟩
    clear hF3 hF2 hl3
    have O6 : Aside0 (Own N wr [ObjC gl 3 L, LinkO gk 1 16 16 true 16 1125899906842624 0 [] 16 0 0, cells gf #[.int .i64 0] 78]) := ⟨OA.out⟩
    have K6 : Aside0 (KeepS N w wr) := ⟨KA.out⟩
    have HRI_6 : Aside0 (Kd.F k114 wr N A3 (rd_T43 l0 x).f2.length (rd_T43 l0 x).f2) := ⟨HF3.out⟩
    clear OA KA HF3
    by_cases he : addE 3 L (rd_T43 l0 x) = 0
    ·have HE := Aside0.mk he
     clear he hlt hx0 hx1
     go_wp2_with (first | ((with_reducible refine gate_dst (N := 9) rfl ?_); refine own_box rfl (D := 9) rfl (cs := #[.int .i64 0, .int .i64 0, .slice none 0 0]) (t := 43) ?hr O6.out ?_; (case hr => first | (go_simp; done) | (go_simp; rfl)); intro gy w7 o_ k_; have O7 : Aside0 (Own N w7 [ObjC gl 3 L, LinkO gk 1 16 16 true 16 1125899906842624 0 [] 16 0 0, cells gf #[.int .i64 0] 78, cells gy #[.int .i64 0, .int .i64 0, .slice none 0 0] 43]) := ⟨o_⟩; have K7 : Aside0 (KeepS N w w7) := ⟨K6.out.trans k_⟩; have HRI_7 : Aside0 (Kd.F k114 w7 N A3 (rd_T43 l0 x).f2.length (rd_T43 l0 x).f2) := ⟨keepF HRI_6.out k_⟩; clear O6 K6 HRI_6; obtain ⟨a3a, a3b, a3c, b3⟩ := blk3_ (O7.out.blk (i := 3) rfl); clear o_ k_) | ((with_reducible refine gate_store (t := 43) (p := 9) rfl ?_); refine own_store rfl rfl rfl (w1 := (World.setCell (World.setCell (World.setCell w7 ⟨gy, 0, none⟩ (.int .i64 (rd_T43 l0 x).f0)) ⟨gy, 1, none⟩ (.int .i64 (rd_T43 l0 x).f1)) ⟨gy, 2, none⟩ (.slice A3 (rd_T43 l0 x).f2.length c3))) (N := N) (l' := [ObjC gl 3 L, LinkO gk 1 16 16 true 16 1125899906842624 0 [] 16 0 0, cells gf #[.int .i64 0] 78, cells gy #[.int .i64 (rd_T43 l0 x).f0, .int .i64 (rd_T43 l0 x).f1, .slice A3 (rd_T43 l0 x).f2.length c3] 43]) ?hr ?ho ?hk ?_; (case hr => first | (go_simp; done) | (go_simp; rfl)); (case ho => exact (((O7.out.set (i := 3) rfl 0 (.int .i64 (rd_T43 l0 x).f0)).set (i := 3) rfl 1 (.int .i64 (rd_T43 l0 x).f1)).set (i := 3) rfl 2 (.slice A3 (rd_T43 l0 x).f2.length c3))); (case hk => exact (((KeepS.setCell (O7.out.far (i := 3) rfl) (.int .i64 (rd_T43 l0 x).f0)).trans (KeepS.setCell (O7.out.far (i := 3) rfl) (.int .i64 (rd_T43 l0 x).f1))).trans (KeepS.setCell (O7.out.far (i := 3) rfl) (.slice A3 (rd_T43 l0 x).f2.length c3)))); intro w8 o_ k_; have O8 : Aside0 (Own N w8 [ObjC gl 3 L, LinkO gk 1 16 16 true 16 1125899906842624 0 [] 16 0 0, cells gf #[.int .i64 0] 78, cells gy #[.int .i64 (rd_T43 l0 x).f0, .int .i64 (rd_T43 l0 x).f1, .slice A3 (rd_T43 l0 x).f2.length c3] 43]) := ⟨o_⟩; have K8 : Aside0 (KeepS N w w8) := ⟨K7.out.trans k_⟩; have HRI_8 : Aside0 (Kd.F k114 w8 N A3 (rd_T43 l0 x).f2.length (rd_T43 l0 x).f2) := ⟨keepF HRI_7.out k_⟩; clear a3a a3b a3c b3 O7 K7 HRI_7; obtain ⟨a3a, a3b, a3c, b3⟩ := blk3_ (O8.out.blk (i := 3) rfl); clear o_ k_) | ((with_reducible refine gate_callee (f := 19) rfl ?_); refine goesL_ (some 53) rfl rfl Tryd.func19 (by kernel_rfl) rfl #[.pointer (some ⟨gl, 0, none⟩), .agg #[.int .i64 (rd_T43 l0 x).f0, .int .i64 (rd_T43 l0 x).f1, .slice A3 (rd_T43 l0 x).f2.length c3]] rfl (by (try simp only [List.map_toArray, List.map_cons, List.map_nil]); first | done | rfl) ?_; obtain ⟨N_, on_, nn_, rr_, bb_⟩ := O8.out.frame1 (i := 0) rfl; have hr_ := Kd.F_mono HRI_8.out nn_; refine (Add_y A3 c3 (rd_T43 l0 x).f0 (rd_T43 l0 x).f1 (rd_T43 l0 x).f2 on_ hr_ HC3.out HLL.out HU.out HI.out.2 HE.out).mono ?_; rintro e_ w9 ⟨rfl, oo_, kk_⟩; obtain ⟨o_, k_⟩ := bb_ _ _ _ kk_ oo_; refine ⟨_, rfl, ?_⟩; have O9 : Aside0 (Own N w9 [ObjC gl 3 (L ++ [(rd_T43 l0 x)]), LinkO gk 1 16 16 true 16 1125899906842624 0 [] 16 0 0, cells gf #[.int .i64 0] 78, cells gy #[.int .i64 (rd_T43 l0 x).f0, .int .i64 (rd_T43 l0 x).f1, .slice A3 (rd_T43 l0 x).f2.length c3] 43]) := ⟨o_⟩; have K9 : Aside0 (KeepS N w w9) := ⟨K8.out.trans k_⟩; have HRI_9 : Aside0 (Kd.F k114 w9 N A3 (rd_T43 l0 x).f2.length (rd_T43 l0 x).f2) := ⟨keepF HRI_8.out k_⟩; clear a3a a3b a3c b3 O8 K8 HRI_8; obtain ⟨a3a, a3b, a3c, b3⟩ := blk3_ (O9.out.blk (i := 3) rfl); clear o_ k_ oo_ kk_ on_ nn_ rr_ bb_ hr_))
     go_roundw
     case rel => exact ⟨x + 1, (L ++ [(rd_T43 l0 x)]), by have := HX.out; omega, by have := HX.out; omega, int_eq (by unfold wrap64; have := HX.out; have := HL40.out; omega), ⟨⟨by have := HI.out.1; have := HX.out; simp; omega, good_snoc HI.out.2 HE.out⟩⟩, ⟨O9.out.take 3⟩, K9⟩
     case measure => have := HX.out; simp [intOf]; omega
    ·have HE := Aside0.mk he
     obtain ⟨E, hE⟩ : ∃ E, E = addE 3 L (rd_T43 l0 x) := ⟨_, rfl⟩
     have HE2 := Aside0.mk hE.symm
     have HE3 : Aside0 (E ≠ 0) := ⟨by rw [hE]; exact he⟩
     clear hE
     clear he hlt hx0 hx1
     go_wp2_with (first | ((with_reducible refine gate_dst (N := 9) rfl ?_); refine own_box rfl (D := 9) rfl (cs := #[.int .i64 0, .int .i64 0, .slice none 0 0]) (t := 43) ?hr O6.out ?_; (case hr => first | (go_simp; done) | (go_simp; rfl)); intro gy w7 o_ k_; have O7 : Aside0 (Own N w7 [ObjC gl 3 L, LinkO gk 1 16 16 true 16 1125899906842624 0 [] 16 0 0, cells gf #[.int .i64 0] 78, cells gy #[.int .i64 0, .int .i64 0, .slice none 0 0] 43]) := ⟨o_⟩; have K7 : Aside0 (KeepS N w w7) := ⟨K6.out.trans k_⟩; have HRI_7 : Aside0 (Kd.F k114 w7 N A3 (rd_T43 l0 x).f2.length (rd_T43 l0 x).f2) := ⟨keepF HRI_6.out k_⟩; clear O6 K6 HRI_6; obtain ⟨a3a, a3b, a3c, b3⟩ := blk3_ (O7.out.blk (i := 3) rfl); clear o_ k_) | ((with_reducible refine gate_store (t := 43) (p := 9) rfl ?_); refine own_store rfl rfl rfl (w1 := (World.setCell (World.setCell (World.setCell w7 ⟨gy, 0, none⟩ (.int .i64 (rd_T43 l0 x).f0)) ⟨gy, 1, none⟩ (.int .i64 (rd_T43 l0 x).f1)) ⟨gy, 2, none⟩ (.slice A3 (rd_T43 l0 x).f2.length c3))) (N := N) (l' := [ObjC gl 3 L, LinkO gk 1 16 16 true 16 1125899906842624 0 [] 16 0 0, cells gf #[.int .i64 0] 78, cells gy #[.int .i64 (rd_T43 l0 x).f0, .int .i64 (rd_T43 l0 x).f1, .slice A3 (rd_T43 l0 x).f2.length c3] 43]) ?hr ?ho ?hk ?_; (case hr => first | (go_simp; done) | (go_simp; rfl)); (case ho => exact (((O7.out.set (i := 3) rfl 0 (.int .i64 (rd_T43 l0 x).f0)).set (i := 3) rfl 1 (.int .i64 (rd_T43 l0 x).f1)).set (i := 3) rfl 2 (.slice A3 (rd_T43 l0 x).f2.length c3))); (case hk => exact (((KeepS.setCell (O7.out.far (i := 3) rfl) (.int .i64 (rd_T43 l0 x).f0)).trans (KeepS.setCell (O7.out.far (i := 3) rfl) (.int .i64 (rd_T43 l0 x).f1))).trans (KeepS.setCell (O7.out.far (i := 3) rfl) (.slice A3 (rd_T43 l0 x).f2.length c3)))); intro w8 o_ k_; have O8 : Aside0 (Own N w8 [ObjC gl 3 L, LinkO gk 1 16 16 true 16 1125899906842624 0 [] 16 0 0, cells gf #[.int .i64 0] 78, cells gy #[.int .i64 (rd_T43 l0 x).f0, .int .i64 (rd_T43 l0 x).f1, .slice A3 (rd_T43 l0 x).f2.length c3] 43]) := ⟨o_⟩; have K8 : Aside0 (KeepS N w w8) := ⟨K7.out.trans k_⟩; have HRI_8 : Aside0 (Kd.F k114 w8 N A3 (rd_T43 l0 x).f2.length (rd_T43 l0 x).f2) := ⟨keepF HRI_7.out k_⟩; clear a3a a3b a3c b3 O7 K7 HRI_7; obtain ⟨a3a, a3b, a3c, b3⟩ := blk3_ (O8.out.blk (i := 3) rfl); clear o_ k_) | ((with_reducible refine gate_callee (f := 19) rfl ?_); refine goesL_ (some 53) rfl rfl Tryd.func19 (by kernel_rfl) rfl #[.pointer (some ⟨gl, 0, none⟩), .agg #[.int .i64 (rd_T43 l0 x).f0, .int .i64 (rd_T43 l0 x).f1, .slice A3 (rd_T43 l0 x).f2.length c3]] rfl (by (try simp only [List.map_toArray, List.map_cons, List.map_nil]); first | done | rfl) ?_; obtain ⟨N_, on_, nn_, rr_, bb_⟩ := O8.out.frame1 (i := 0) rfl; have hr_ := Kd.F_mono HRI_8.out nn_; refine (Add_n A3 c3 (rd_T43 l0 x).f0 (rd_T43 l0 x).f1 (rd_T43 l0 x).f2 on_ hr_ HC3.out HLL.out HU.out HI.out.2 E HE2.out HE3.out).mono ?_; rintro e_ w9 ⟨rfl, oo_, kk_⟩; obtain ⟨o_, k_⟩ := bb_ _ _ _ kk_ oo_; refine ⟨_, rfl, ?_⟩; have O9 : Aside0 (Own N w9 [ObjC gl 3 L, LinkO gk 1 16 16 true 16 1125899906842624 0 [] 16 0 0, cells gf #[.int .i64 0] 78, cells gy #[.int .i64 (rd_T43 l0 x).f0, .int .i64 (rd_T43 l0 x).f1, .slice A3 (rd_T43 l0 x).f2.length c3] 43]) := ⟨o_⟩; have K9 : Aside0 (KeepS N w w9) := ⟨K8.out.trans k_⟩; have HRI_9 : Aside0 (Kd.F k114 w9 N A3 (rd_T43 l0 x).f2.length (rd_T43 l0 x).f2) := ⟨keepF HRI_8.out k_⟩; clear a3a a3b a3c b3 O8 K8 HRI_8; obtain ⟨a3a, a3b, a3c, b3⟩ := blk3_ (O9.out.blk (i := 3) rfl); clear o_ k_ oo_ kk_ on_ nn_ rr_ bb_ hr_))
     go_roundw
     case rel => exact ⟨x + 1, L, by have := HX.out; omega, by have := HX.out; omega, int_eq (by unfold wrap64; have := HX.out; have := HL40.out; omega), ⟨⟨by have := HI.out.1; omega, HI.out.2⟩⟩, ⟨O9.out.take 3⟩, K9⟩
     case measure => have := HX.out; simp [intOf]; omega
   ·have hxe : x = (l0.length : Int) := by omega
    subst hxe
    have hd : decide ((l0.length : Int) < (l0.length : Int)) = false := decide_eq_false (Int.lt_irrefl _)
    clear hlt hx0 hx1 hF2 hLx
    have HL4 : Aside0 (L.length ≤ 40) := ⟨by have := HI.out.1; have := HL40.out; omega⟩
    have HG := Aside0.mk HI.out.2
    have HSH := Aside0.mk (good_short HI.out.2)
    have O6 : Aside0 (Own N wr [ObjC gl 3 L, LinkO gk 1 16 16 true 16 1125899906842624 0 [] 16 0 0, cells gf #[.int .i64 0] 78]) := ⟨OA.out⟩
    have K6 : Aside0 (KeepS N w wr) := ⟨KA.out⟩
    have HT_6 : Aside0 (TabN N wr) := ⟨HT00.out.keep KA.out⟩
    clear OA KA
    obtain ⟨m, hm⟩ : ∃ m, m = mn (L.length : Int) 16 := ⟨_, rfl⟩
    have hm1 := hm.symm
    have hm2 : (if 16 < (L.length : Int) then 16 else (L.length : Int)) = m := by (have e_ := hm1; simp only [mn] at e_; (repeat' split at e_) <;> (repeat' split) <;> omega)
    have HM : Aside0 (0 ≤ m ∧ m ≤ (L.length : Int) ∧ m ≤ 16 ∧ (m = (L.length : Int) ∨ m = 16)) := ⟨by rw [hm]; unfold mn; (repeat' split) <;> omega⟩
    clear hm
    obtain ⟨X, hX⟩ : ∃ X, X = pcs 0 (seg L 0 m) := ⟨_, rfl⟩
    have HXL : Aside0 ((X.length : Int) = m) := ⟨by rw [hX, pcs_len]; exact seg_len (by omega) HM.out.1 (by have := HM.out; omega)⟩
    have HX := Aside0.mk hX.symm
    clear hX
    obtain ⟨F1, hF1⟩ : ∃ F, F = frs 1 0 X := ⟨_, rfl⟩
    obtain ⟨F2, hF2⟩ : ∃ F, F = frs a1 0 X := ⟨_, rfl⟩
    obtain ⟨k, hk⟩ : ∃ k, k = F1.length := ⟨_, rfl⟩
    have HK : Aside0 (F1.length = k ∧ F2.length = k ∧ k ≤ 17) := ⟨hk.symm, by rw [hk, hF1, hF2]; exact frs_len _ _ _ _, by rw [hk, hF1]; have h_ := frs_max 1 0 X; have := HXL.out; have := HM.out; omega⟩
    have HFR : Aside0 (∀ x : Int, 0 ≤ x → x < (k : Int) → (frAt F2 x).f3 = (frAt F1 x).f3 ∧ (frAt F2 x).f1 = (frAt F1 x).f1 ∧ (frAt F2 x).f0 = a1) := ⟨fun x h0 h1 => by rw [hF1, hF2]; exact fr_rel 1 a1 0 X x h0 (by rw [← hF1, ← hk]; exact h1)⟩
    have HF1 := Aside0.mk hF1.symm
    have HF2 := Aside0.mk hF2.symm
    clear hF1 hF2 hk
    have hmm : (m != m) = false := by simp
    have hkk : ((k : Int) != (k : Int)) = false := by simp
    go_wp2_with (first | ((with_reducible refine gate_callee (f := 14) rfl ?_); refine goesL_ (some 58) rfl rfl Tryd.func14 (by kernel_rfl) rfl #[.pointer (some ⟨gf, 0, none⟩), .pointer (some ⟨gl, 0, none⟩), .pointer (some ⟨gk, 0, none⟩)] rfl (by (try simp only [List.map_toArray, List.map_cons, List.map_nil]); first | done | rfl) ?_; obtain ⟨N_, on_, nn_, rr_, bb_⟩ := O6.out.frameL [2, 0, 1] (by decide) (by simp); refine (FPump_e m m m X (by omega) (by omega) (by rw [List.nil_append]; exact HX.out) on_ (TabN.mono HT_6.out nn_) HLL.out HG.out (by omega) (by omega) (by simp) (by have := HM.out; unfold Pumps; simp; omega)).mono ?_; rintro e_ w7 ⟨rfl, oo_, kk_⟩; obtain ⟨o_, k_⟩ := bb_ _ [cells gf #[.int .i64 m] 78, ObjC gl 3 L, LinkO gk 1 16 16 true 16 1125899906842624 m X 16 0 0] [] rfl kk_ oo_; refine ⟨_, rfl, ?_⟩; have O7 : Aside0 (Own N w7 [ObjC gl 3 L, LinkO gk 1 16 16 true 16 1125899906842624 m X 16 0 0, cells gf #[.int .i64 m] 78]) := ⟨o_⟩; have K7 : Aside0 (KeepS N w w7) := ⟨K6.out.trans k_⟩; have HT_7 : Aside0 (TabN N w7) := ⟨TabN.keep HT_6.out k_⟩; clear O6 K6 HT_6; clear o_ k_ oo_ kk_ on_ nn_ rr_ bb_) | ((with_reducible refine gate_callee (f := 23) rfl ?_); refine goesL_ (some 60) rfl rfl Tryd.func23 (by kernel_rfl) rfl #[.pointer (some ⟨gk, 0, none⟩)] rfl (by (try simp only [List.map_toArray, List.map_cons, List.map_nil]); first | done | rfl) ?_; obtain ⟨N_, on_, nn_, rr_, bb_⟩ := O7.out.frame1 (i := 1) rfl; refine (LFrames_n k F1 HK.out.1 HF1.out on_ (by decide) (by have := HXL.out; have := HM.out; omega)).mono ?_; rintro e_ w8 ⟨A5, c5, rfl, oo_, kk_⟩; obtain ⟨o_, k_⟩ := bb_ _ _ _ kk_ oo_; refine ⟨_, rfl, ?_⟩; have O8 : Aside0 (Own N w8 [ObjC gl 3 L, LinkO gk 1 16 16 true 16 1125899906842624 m X 16 0 0, cells gf #[.int .i64 m] 78, nrow k40 40 (.slice A5 k c5) F1]) := ⟨o_⟩; have K8 : Aside0 (KeepS N w w8) := ⟨K7.out.trans k_⟩; have HT_8 : Aside0 (TabN N w8) := ⟨TabN.keep HT_7.out k_⟩; clear O7 K7 HT_7; clear o_ k_ oo_ kk_ on_ nn_ rr_ bb_) | ((with_reducible refine gate_callee (f := 16) rfl ?_); refine goesL_ (some 64) rfl rfl Tryd.func16 (by kernel_rfl) rfl #[.pointer (some ⟨gk, 0, none⟩), .agg #[.int .i64 a1, .int .i64 0, .int .i64 0, .string ⟨#[]⟩]] rfl (by (try simp only [List.map_toArray, List.map_cons, List.map_nil]); first | done | rfl) ?_; obtain ⟨N_, on_, nn_, rr_, bb_⟩ := O8.out.frame1 (i := 1) rfl; refine (LHear_anew_ack a1 0 0 ⟨#[]⟩ 16 16 on_ (by have := HE.out; omega) (by have := HE.out; omega) (by decide) (by decide) rfl).mono ?_; rintro e_ w9 ⟨rfl, oo_, kk_⟩; obtain ⟨o_, k_⟩ := bb_ _ _ _ kk_ oo_; refine ⟨_, rfl, ?_⟩; have O9 : Aside0 (Own N w9 [ObjC gl 3 L, LinkO gk a1 16 16 true 16 1125899906842624 0 [] 16 0 0, cells gf #[.int .i64 m] 78, nrow k40 40 (.slice A5 k c5) F1]) := ⟨o_⟩; have K9 : Aside0 (KeepS N w w9) := ⟨K8.out.trans k_⟩; have HT_9 : Aside0 (TabN N w9) := ⟨TabN.keep HT_8.out k_⟩; clear O8 K8 HT_8; clear o_ k_ oo_ kk_ on_ nn_ rr_ bb_) | ((with_reducible refine gate_callee (f := 18) rfl ?_); refine goesL_ (some 67) rfl rfl Tryd.func18 (by kernel_rfl) rfl #[.pointer (some ⟨gf, 0, none⟩)] rfl (by (try simp only [List.map_toArray, List.map_cons, List.map_nil]); first | done | rfl) ?_; obtain ⟨N_, on_, nn_, rr_, bb_⟩ := O9.out.frame1 (i := 2) rfl; refine (FReset on_).mono ?_; rintro e_ w10 ⟨rfl, oo_, kk_⟩; obtain ⟨o_, k_⟩ := bb_ _ _ _ kk_ oo_; refine ⟨_, rfl, ?_⟩; have O10 : Aside0 (Own N w10 [ObjC gl 3 L, LinkO gk a1 16 16 true 16 1125899906842624 0 [] 16 0 0, cells gf #[.int .i64 0] 78, nrow k40 40 (.slice A5 k c5) F1]) := ⟨o_⟩; have K10 : Aside0 (KeepS N w w10) := ⟨K9.out.trans k_⟩; have HT_10 : Aside0 (TabN N w10) := ⟨TabN.keep HT_9.out k_⟩; clear O9 K9 HT_9; clear o_ k_ oo_ kk_ on_ nn_ rr_ bb_) | ((with_reducible refine gate_callee (f := 14) rfl ?_); refine goesL_ (some 71) rfl rfl Tryd.func14 (by kernel_rfl) rfl #[.pointer (some ⟨gf, 0, none⟩), .pointer (some ⟨gl, 0, none⟩), .pointer (some ⟨gk, 0, none⟩)] rfl (by (try simp only [List.map_toArray, List.map_cons, List.map_nil]); first | done | rfl) ?_; obtain ⟨N_, on_, nn_, rr_, bb_⟩ := O10.out.frameL [2, 0, 1] (by decide) (by simp); refine (FPump_e m m m X (by omega) (by omega) (by rw [List.nil_append]; exact HX.out) on_ (TabN.mono HT_10.out nn_) HLL.out HG.out (by omega) (by omega) (by simp) (by have := HM.out; unfold Pumps; simp; omega)).mono ?_; rintro e_ w11 ⟨rfl, oo_, kk_⟩; obtain ⟨o_, k_⟩ := bb_ _ [cells gf #[.int .i64 m] 78, ObjC gl 3 L, LinkO gk a1 16 16 true 16 1125899906842624 m X 16 0 0] [] rfl kk_ oo_; refine ⟨_, rfl, ?_⟩; have O11 : Aside0 (Own N w11 [ObjC gl 3 L, LinkO gk a1 16 16 true 16 1125899906842624 m X 16 0 0, cells gf #[.int .i64 m] 78, nrow k40 40 (.slice A5 k c5) F1]) := ⟨o_⟩; have K11 : Aside0 (KeepS N w w11) := ⟨K10.out.trans k_⟩; have HT_11 : Aside0 (TabN N w11) := ⟨TabN.keep HT_10.out k_⟩; clear O10 K10 HT_10; clear o_ k_ oo_ kk_ on_ nn_ rr_ bb_) | ((with_reducible refine gate_callee (f := 23) rfl ?_); refine goesL_ (some 73) rfl rfl Tryd.func23 (by kernel_rfl) rfl #[.pointer (some ⟨gk, 0, none⟩)] rfl (by (try simp only [List.map_toArray, List.map_cons, List.map_nil]); first | done | rfl) ?_; obtain ⟨N_, on_, nn_, rr_, bb_⟩ := O11.out.frame1 (i := 1) rfl; refine (LFrames_n k F2 HK.out.2.1 HF2.out on_ (by have := HE.out; omega) (by have := HXL.out; have := HM.out; omega)).mono ?_; rintro e_ w12 ⟨A6, c6, rfl, oo_, kk_⟩; obtain ⟨o_, k_⟩ := bb_ _ _ _ kk_ oo_; refine ⟨_, rfl, ?_⟩; have O12 : Aside0 (Own N w12 [ObjC gl 3 L, LinkO gk a1 16 16 true 16 1125899906842624 m X 16 0 0, cells gf #[.int .i64 m] 78, nrow k40 40 (.slice A5 k c5) F1, nrow k40 40 (.slice A6 k c6) F2]) := ⟨o_⟩; have K12 : Aside0 (KeepS N w w12) := ⟨K11.out.trans k_⟩; have HT_12 : Aside0 (TabN N w12) := ⟨TabN.keep HT_11.out k_⟩; clear O11 K11 HT_11; clear o_ k_ oo_ kk_ on_ nn_ rr_ bb_) | ((with_reducible refine gate_callee (f := 26) rfl ?_); refine gate_guard (by rfl) ?_; refine goesL_ (some 80) rfl rfl Tryd.func26 (by kernel_rfl) rfl #[.pointer (some ⟨gl, 0, none⟩)] rfl (by (try simp only [List.map_toArray, List.map_cons, List.map_nil]); first | done | rfl) ?_; obtain ⟨N_, on_, nn_, rr_, bb_⟩ := O12.out.frame1 (i := 0) rfl; refine (Len_n2 on_).mono ?_; rintro e_ w13 ⟨rfl, oo_, kk_⟩; obtain ⟨o_, k_⟩ := bb_ _ _ _ kk_ oo_; refine ⟨_, rfl, ?_⟩; have O13 : Aside0 (Own N w13 [ObjC gl 3 L, LinkO gk a1 16 16 true 16 1125899906842624 m X 16 0 0, cells gf #[.int .i64 m] 78, nrow k40 40 (.slice A5 k c5) F1, nrow k40 40 (.slice A6 k c6) F2]) := ⟨o_⟩; have K13 : Aside0 (KeepS N w w13) := ⟨K12.out.trans k_⟩; have HT_13 : Aside0 (TabN N w13) := ⟨TabN.keep HT_12.out k_⟩; clear O12 K12 HT_12; clear o_ k_ oo_ kk_ on_ nn_ rr_ bb_))
    all_goals
     go_loopw [93] (fun i wr => FbI N w k [ObjC gl 3 L, LinkO gk a1 16 16 true 16 1125899906842624 m X 16 0 0, cells gf #[.int .i64 m] 78, nrow k40 40 (.slice A5 k c5) F1, nrow k40 40 (.slice A6 k c6) F2] i wr) (fun i _ => k - (intOf i).toNat)
     case atStart => exact ⟨0, by omega, by omega, rfl, O13, K13⟩
     case round =>
      obtain ⟨y, hy0, hy1, rfl, OB, KB⟩ := hrel
      clear O13 K13 HT_13
      have hk17 := HK.out.2.2
      by_cases hly : y < (k : Int)
      ·obtain ⟨ad, e5⟩ := at_Frm (OB.out.nreads (i := 3) rfl).2.2 (by omega)
       obtain ⟨ae, e6⟩ := at_Frm (OB.out.nreads (i := 4) rfl).2.2 (by omega)
       cases e5
       cases e6
       have hs3 : wrap64 (y + 1) = y + 1 := by unfold wrap64; omega
       have hp2 := eq_true hy0
       have hq2 := eq_true hly
       have hd2 : decide (y < (k : Int)) = true := decide_eq_true hly
       have HY := Aside0.mk (And.intro hy0 hly)
       obtain ⟨D, hD⟩ : ∃ D, D = (frAt F1 y).f3 := ⟨_, rfl⟩
       obtain ⟨Q, hQ⟩ : ∃ Q, Q = (frAt F1 y).f1 := ⟨_, rfl⟩
       have HD : Aside0 ((frAt F1 y).f3 = D ∧ (frAt F1 y).f1 = Q ∧ (frAt F2 y).f3 = D ∧ (frAt F2 y).f1 = Q ∧ (frAt F2 y).f0 = a1) := ⟨hD.symm, hQ.symm, by rw [hD]; exact (HFR.out y hy0 hly).1, by rw [hQ]; exact (HFR.out y hy0 hly).2.1, (HFR.out y hy0 hly).2.2⟩
       have hQQ : (Q != Q) = false := by simp
       have hDD : (D.toList != D.toList) = false := by simp
       have hDD2 : (D.toList == D.toList) = true := by simp
       have hEE : (a1 != a1) = false := by simp
       clear hD hQ hy0 hy1 hly hk17
       have O14 : Aside0 (Own N wr [ObjC gl 3 L, LinkO gk a1 16 16 true 16 1125899906842624 m X 16 0 0, cells gf #[.int .i64 m] 78, nrow k40 40 (.slice (some ad) k c5) F1, nrow k40 40 (.slice (some ae) k c6) F2]) := ⟨OB.out⟩
       have K14 : Aside0 (KeepS N w wr) := ⟨KB.out⟩
       clear OB KB
       go_wp2
       refine start_ (n := 33) (S := fun w' => w'.cell? ⟨(ad.add (y.toNat * 4)).block, (ad.add (y.toNat * 4)).off + 3, none⟩ = some (.string D) ∧ w'.cell? ⟨(ad.add (y.toNat * 4)).block, (ad.add (y.toNat * 4)).off + 1, none⟩ = some (.int .i64 Q) ∧ w'.cell? ⟨(ae.add (y.toNat * 4)).block, (ae.add (y.toNat * 4)).off + 3, none⟩ = some (.string D) ∧ w'.cell? ⟨(ae.add (y.toNat * 4)).block, (ae.add (y.toNat * 4)).off + 1, none⟩ = some (.int .i64 Q) ∧ w'.cell? (ae.add (y.toNat * 4)) = some (.int .i64 a1)) (ds := []) #[false, false, false, false, false, false, false, false, false, false, false, false, false, false, false, false, false, false, false, false, false, false, false, false, false, false, false, false, false, false, false, false, false] (by kernel_rfl) rfl rfl ⟨(val_eq (at_FrmC ((O14.out.drew).nreads (i := 3) rfl).2.2 y HY.out.1 HY.out.2).2.2.2 (congrArg _ HD.out.1)), (val_eq (at_FrmC ((O14.out.drew).nreads (i := 3) rfl).2.2 y HY.out.1 HY.out.2).2.1 (congrArg _ HD.out.2.1)), (val_eq (at_FrmC ((O14.out.drew).nreads (i := 4) rfl).2.2 y HY.out.1 HY.out.2).2.2.2 (congrArg _ HD.out.2.2.1)), (val_eq (at_FrmC ((O14.out.drew).nreads (i := 4) rfl).2.2 y HY.out.1 HY.out.2).2.1 (congrArg _ HD.out.2.2.2.1)), (val_eq (at_FrmC ((O14.out.drew).nreads (i := 4) rfl).2.2 y HY.out.1 HY.out.2).1 (congrArg _ HD.out.2.2.2.2))⟩ (fun hHeld => ?_)
       obtain ⟨w15, hw_⟩ : ∃ W, W = wr.drew := ⟨_, rfl⟩
       have o_ := O14.out.drew
       have k_ : KeepS N wr wr.drew := KeepS.drew
       rw [← hw_] at o_ k_ hHeld ⊢
       clear hw_
       have O15 : Aside0 (Own N w15 [ObjC gl 3 L, LinkO gk a1 16 16 true 16 1125899906842624 m X 16 0 0, cells gf #[.int .i64 m] 78, nrow k40 40 (.slice (some ad) k c5) F1, nrow k40 40 (.slice (some ae) k c6) F2]) := ⟨o_⟩
       have K15 : Aside0 (KeepS N w w15) := ⟨K14.out.trans k_⟩
       clear O14 K14
       clear o_ k_
       refine pure_ (i := 0) (N := some 96) (v := ?_) (a' := ?_) #[true, false, false, false, false, false, false, false, false, false, false, false, false, false, false, false, false, false, false, false, false, false, false, false, false, false, false, false, false, false, false, false, false] rfl rfl (by kernel_rfl) (fun _ _ _ h => h) (Or.inl ⟨by rfl, ?_⟩) ?_ ?_
       rotate_left
       ·intro w'
        go_simp
        with_reducible rfl
       rotate_left
       ·simp only [Act.put, List.setIfInBounds_toArray, List.set_cons_zero, List.set_cons_succ, i64_w, i32_w]
        rfl
       refine pure_ (i := 1) (N := some 97) (v := ?_) (a' := ?_) #[true, true, false, false, false, false, false, false, false, false, false, false, false, false, false, false, false, false, false, false, false, false, false, false, false, false, false, false, false, false, false, false, false] rfl rfl (by kernel_rfl) (fun _ _ _ h => h) (Or.inl ⟨by rfl, ?_⟩) ?_ ?_
       rotate_left
       ·intro w'
        go_simp
        with_reducible rfl
       rotate_left
       ·simp only [Act.put, List.setIfInBounds_toArray, List.set_cons_zero, List.set_cons_succ, i64_w, i32_w]
        rfl
       refine pure_ (i := 2) (N := some 98) (v := ?_) (a' := ?_) #[true, true, true, false, false, false, false, false, false, false, false, false, false, false, false, false, false, false, false, false, false, false, false, false, false, false, false, false, false, false, false, false, false] rfl rfl (by kernel_rfl) (fun _ _ _ h => h) (Or.inl ⟨by rfl, ?_⟩) ?_ ?_
       rotate_left
       ·intro w'
        go_simp
        with_reducible rfl
       rotate_left
       ·simp only [Act.put, List.setIfInBounds_toArray, List.set_cons_zero, List.set_cons_succ, i64_w, i32_w]
        rfl
       refine pure_ (i := 3) (N := some 99) (v := ?_) (a' := ?_) #[true, true, true, true, false, false, false, false, false, false, false, false, false, false, false, false, false, false, false, false, false, false, false, false, false, false, false, false, false, false, false, false, false] rfl rfl (by kernel_rfl) (fun _ _ _ h => h) (Or.inl ⟨by rfl, ?_⟩) ?_ ?_
       rotate_left
       ·intro w'
        go_simp
        with_reducible rfl
       rotate_left
       ·simp only [Act.put, List.setIfInBounds_toArray, List.set_cons_zero, List.set_cons_succ, i64_w, i32_w]
        rfl
       refine pure_ (i := 5) (N := some 101) (v := ?_) (a' := ?_) #[true, true, true, true, false, true, false, false, false, false, false, false, false, false, false, false, false, false, false, false, false, false, false, false, false, false, false, false, false, false, false, false, false] rfl rfl (by kernel_rfl) (fun _ _ _ h => h) (Or.inl ⟨by rfl, ?_⟩) ?_ ?_
       rotate_left
       ·intro w'
        go_simp
        with_reducible rfl
       rotate_left
       ·simp only [Act.put, List.setIfInBounds_toArray, List.set_cons_zero, List.set_cons_succ, i64_w, i32_w]
        rfl
       refine pure_ (i := 6) (N := some 102) (v := ?_) (a' := ?_) #[true, true, true, true, false, true, true, false, false, false, false, false, false, false, false, false, false, false, false, false, false, false, false, false, false, false, false, false, false, false, false, false, false] rfl rfl (by kernel_rfl) (fun _ _ _ h => h) (Or.inl ⟨by rfl, ?_⟩) ?_ ?_
       rotate_left
       ·intro w'
        go_simp
        with_reducible rfl
       rotate_left
       ·simp only [Act.put, List.setIfInBounds_toArray, List.set_cons_zero, List.set_cons_succ, i64_w, i32_w]
        rfl
       refine pure_ (i := 7) (N := some 103) (v := ?_) (a' := ?_) #[true, true, true, true, false, true, true, true, false, false, false, false, false, false, false, false, false, false, false, false, false, false, false, false, false, false, false, false, false, false, false, false, false] rfl rfl (by kernel_rfl) (fun _ _ _ h => h) (Or.inl ⟨by rfl, ?_⟩) ?_ ?_
       rotate_left
       ·intro w'
        go_simp
        with_reducible rfl
       rotate_left
       ·simp only [Act.put, List.setIfInBounds_toArray, List.set_cons_zero, List.set_cons_succ, i64_w, i32_w]
        rfl
       refine pure_ (i := 8) (N := some 104) (v := ?_) (a' := ?_) #[true, true, true, true, false, true, true, true, true, false, false, false, false, false, false, false, false, false, false, false, false, false, false, false, false, false, false, false, false, false, false, false, false] rfl rfl (by kernel_rfl) (fun _ _ _ h => h) (Or.inl ⟨by rfl, ?_⟩) ?_ ?_
       rotate_left
       ·intro w'
        go_simp
        with_reducible rfl
       rotate_left
       ·simp only [Act.put, List.setIfInBounds_toArray, List.set_cons_zero, List.set_cons_succ, i64_w, i32_w]
        rfl
       refine take_ (i := 4) (N := some 100) (v := ?_) (a' := ?_) #[true, true, true, true, true, true, true, true, true, false, false, false, false, false, false, false, false, false, false, false, false, false, false, false, false, false, false, false, false, false, false, false, false] rfl rfl (by kernel_rfl) (fun _ _ _ h => h) (Or.inl ⟨by rfl, ?_⟩) hHeld ?_ ?_
       rotate_left
       ·rintro w' ⟨s0, s1, s2, s3, s4⟩
        go_simp
        with_reducible rfl
       rotate_left
       ·simp only [Act.put, List.setIfInBounds_toArray, List.set_cons_zero, List.set_cons_succ, i64_w, i32_w]
        rfl
       refine take_ (i := 9) (N := some 105) (v := ?_) (a' := ?_) #[true, true, true, true, true, true, true, true, true, true, false, false, false, false, false, false, false, false, false, false, false, false, false, false, false, false, false, false, false, false, false, false, false] rfl rfl (by kernel_rfl) (fun _ _ _ h => h) (Or.inl ⟨by rfl, ?_⟩) hHeld ?_ ?_
       rotate_left
       ·rintro w' ⟨s0, s1, s2, s3, s4⟩
        go_simp
        with_reducible rfl
       rotate_left
       ·simp only [Act.put, List.setIfInBounds_toArray, List.set_cons_zero, List.set_cons_succ, i64_w, i32_w]
        rfl
       refine pure_ (i := 10) (N := some 106) (v := ?_) (a' := ?_) #[true, true, true, true, true, true, true, true, true, true, true, false, false, false, false, false, false, false, false, false, false, false, false, false, false, false, false, false, false, false, false, false, false] rfl rfl (by kernel_rfl) (fun _ _ _ h => h) (Or.inl ⟨by rfl, ?_⟩) ?_ ?_
       rotate_left
       ·intro w'
        go_simp
        with_reducible rfl
       rotate_left
       ·simp only [Act.put, List.setIfInBounds_toArray, List.set_cons_zero, List.set_cons_succ, i64_w, i32_w]
        rfl
       refine pure_ (i := 11) (N := some 107) (v := ?_) (a' := ?_) #[true, true, true, true, true, true, true, true, true, true, true, true, false, false, false, false, false, false, false, false, false, false, false, false, false, false, false, false, false, false, false, false, false] rfl rfl (by kernel_rfl) (fun _ _ _ h => h) (Or.inl ⟨by rfl, ?_⟩) ?_ ?_
       rotate_left
       ·intro w'
        go_simp
        with_reducible rfl
       rotate_left
       ·simp only [Act.put, List.setIfInBounds_toArray, List.set_cons_zero, List.set_cons_succ, i64_w, i32_w]
        rfl
       refine pure_ (i := 12) (N := some 108) (v := ?_) (a' := ?_) #[true, true, true, true, true, true, true, true, true, true, true, true, true, false, false, false, false, false, false, false, false, false, false, false, false, false, false, false, false, false, false, false, false] rfl rfl (by kernel_rfl) (fun _ _ _ h => h) (Or.inl ⟨by rfl, ?_⟩) ?_ ?_
       rotate_left
       ·intro w'
        go_simp
        with_reducible rfl
       rotate_left
       ·simp only [Act.put, List.setIfInBounds_toArray, List.set_cons_zero, List.set_cons_succ, i64_w, i32_w]
        rfl
       refine pure_ (i := 13) (N := some 109) (v := ?_) (a' := ?_) #[true, true, true, true, true, true, true, true, true, true, true, true, true, true, false, false, false, false, false, false, false, false, false, false, false, false, false, false, false, false, false, false, false] rfl rfl (by kernel_rfl) (fun _ _ _ h => h) (Or.inl ⟨by rfl, ?_⟩) ?_ ?_
       rotate_left
       ·intro w'
        go_simp
        with_reducible rfl
       rotate_left
       ·simp only [Act.put, List.setIfInBounds_toArray, List.set_cons_zero, List.set_cons_succ, i64_w, i32_w]
        rfl
       refine pure_ (i := 14) (N := some 110) (v := ?_) (a' := ?_) #[true, true, true, true, true, true, true, true, true, true, true, true, true, true, true, false, false, false, false, false, false, false, false, false, false, false, false, false, false, false, false, false, false] rfl rfl (by kernel_rfl) (fun _ _ _ h => h) (Or.inl ⟨by rfl, ?_⟩) ?_ ?_
       rotate_left
       ·intro w'
        go_simp
        with_reducible rfl
       rotate_left
       ·simp only [Act.put, List.setIfInBounds_toArray, List.set_cons_zero, List.set_cons_succ, i64_w, i32_w]
        rfl
       refine pure_ (i := 15) (N := some 111) (v := ?_) (a' := ?_) #[true, true, true, true, true, true, true, true, true, true, true, true, true, true, true, true, false, false, false, false, false, false, false, false, false, false, false, false, false, false, false, false, false] rfl rfl (by kernel_rfl) (fun _ _ _ h => h) (Or.inl ⟨by rfl, ?_⟩) ?_ ?_
       rotate_left
       ·intro w'
        go_simp
        with_reducible rfl
       rotate_left
       ·simp only [Act.put, List.setIfInBounds_toArray, List.set_cons_zero, List.set_cons_succ, i64_w, i32_w]
        rfl
       refine pure_ (i := 17) (N := some 113) (v := ?_) (a' := ?_) #[true, true, true, true, true, true, true, true, true, true, true, true, true, true, true, true, false, true, false, false, false, false, false, false, false, false, false, false, false, false, false, false, false] rfl rfl (by kernel_rfl) (fun _ _ _ h => h) (Or.inl ⟨by rfl, ?_⟩) ?_ ?_
       rotate_left
       ·intro w'
        go_simp
        with_reducible rfl
       rotate_left
       ·simp only [Act.put, List.setIfInBounds_toArray, List.set_cons_zero, List.set_cons_succ, i64_w, i32_w]
        rfl
       refine pure_ (i := 18) (N := some 114) (v := ?_) (a' := ?_) #[true, true, true, true, true, true, true, true, true, true, true, true, true, true, true, true, false, true, true, false, false, false, false, false, false, false, false, false, false, false, false, false, false] rfl rfl (by kernel_rfl) (fun _ _ _ h => h) (Or.inl ⟨by rfl, ?_⟩) ?_ ?_
       rotate_left
       ·intro w'
        go_simp
        with_reducible rfl
       rotate_left
       ·simp only [Act.put, List.setIfInBounds_toArray, List.set_cons_zero, List.set_cons_succ, i64_w, i32_w]
        rfl
       refine pure_ (i := 19) (N := some 115) (v := ?_) (a' := ?_) #[true, true, true, true, true, true, true, true, true, true, true, true, true, true, true, true, false, true, true, true, false, false, false, false, false, false, false, false, false, false, false, false, false] rfl rfl (by kernel_rfl) (fun _ _ _ h => h) (Or.inl ⟨by rfl, ?_⟩) ?_ ?_
       rotate_left
       ·intro w'
        go_simp
        with_reducible rfl
       rotate_left
       ·simp only [Act.put, List.setIfInBounds_toArray, List.set_cons_zero, List.set_cons_succ, i64_w, i32_w]
        rfl
       refine pure_ (i := 20) (N := some 116) (v := ?_) (a' := ?_) #[true, true, true, true, true, true, true, true, true, true, true, true, true, true, true, true, false, true, true, true, true, false, false, false, false, false, false, false, false, false, false, false, false] rfl rfl (by kernel_rfl) (fun _ _ _ h => h) (Or.inl ⟨by rfl, ?_⟩) ?_ ?_
       rotate_left
       ·intro w'
        go_simp
        with_reducible rfl
       rotate_left
       ·simp only [Act.put, List.setIfInBounds_toArray, List.set_cons_zero, List.set_cons_succ, i64_w, i32_w]
        rfl
       refine take_ (i := 16) (N := some 112) (v := ?_) (a' := ?_) #[true, true, true, true, true, true, true, true, true, true, true, true, true, true, true, true, true, true, true, true, true, false, false, false, false, false, false, false, false, false, false, false, false] rfl rfl (by kernel_rfl) (fun _ _ _ h => h) (Or.inl ⟨by rfl, ?_⟩) hHeld ?_ ?_
       rotate_left
       ·rintro w' ⟨s0, s1, s2, s3, s4⟩
        go_simp
        with_reducible rfl
       rotate_left
       ·simp only [Act.put, List.setIfInBounds_toArray, List.set_cons_zero, List.set_cons_succ, i64_w, i32_w]
        rfl
       refine take_ (i := 21) (N := some 117) (v := ?_) (a' := ?_) #[true, true, true, true, true, true, true, true, true, true, true, true, true, true, true, true, true, true, true, true, true, true, false, false, false, false, false, false, false, false, false, false, false] rfl rfl (by kernel_rfl) (fun _ _ _ h => h) (Or.inl ⟨by rfl, ?_⟩) hHeld ?_ ?_
       rotate_left
       ·rintro w' ⟨s0, s1, s2, s3, s4⟩
        go_simp
        with_reducible rfl
       rotate_left
       ·simp only [Act.put, List.setIfInBounds_toArray, List.set_cons_zero, List.set_cons_succ, i64_w, i32_w]
        rfl
       refine pure_ (i := 22) (N := some 118) (v := ?_) (a' := ?_) #[true, true, true, true, true, true, true, true, true, true, true, true, true, true, true, true, true, true, true, true, true, true, true, false, false, false, false, false, false, false, false, false, false] rfl rfl (by kernel_rfl) (fun _ _ _ h => h) (Or.inl ⟨by rfl, ?_⟩) ?_ ?_
       rotate_left
       ·intro w'
        go_simp
        with_reducible rfl
       rotate_left
       ·simp only [Act.put, List.setIfInBounds_toArray, List.set_cons_zero, List.set_cons_succ, i64_w, i32_w]
        rfl
       refine pure_ (i := 23) (N := some 119) (v := ?_) (a' := ?_) #[true, true, true, true, true, true, true, true, true, true, true, true, true, true, true, true, true, true, true, true, true, true, true, true, false, false, false, false, false, false, false, false, false] rfl rfl (by kernel_rfl) (fun _ _ _ h => h) (Or.inl ⟨by rfl, ?_⟩) ?_ ?_
       rotate_left
       ·intro w'
        go_simp
        with_reducible rfl
       rotate_left
       ·simp only [Act.put, List.setIfInBounds_toArray, List.set_cons_zero, List.set_cons_succ, i64_w, i32_w]
        rfl
       refine pure_ (i := 24) (N := some 120) (v := ?_) (a' := ?_) #[true, true, true, true, true, true, true, true, true, true, true, true, true, true, true, true, true, true, true, true, true, true, true, true, true, false, false, false, false, false, false, false, false] rfl rfl (by kernel_rfl) (fun _ _ _ h => h) (Or.inl ⟨by rfl, ?_⟩) ?_ ?_
       rotate_left
       ·intro w'
        go_simp
        with_reducible rfl
       rotate_left
       ·simp only [Act.put, List.setIfInBounds_toArray, List.set_cons_zero, List.set_cons_succ, i64_w, i32_w]
        rfl
       refine pure_ (i := 25) (N := some 121) (v := ?_) (a' := ?_) #[true, true, true, true, true, true, true, true, true, true, true, true, true, true, true, true, true, true, true, true, true, true, true, true, true, true, false, false, false, false, false, false, false] rfl rfl (by kernel_rfl) (fun _ _ _ h => h) (Or.inl ⟨by rfl, ?_⟩) ?_ ?_
       rotate_left
       ·intro w'
        go_simp
        with_reducible rfl
       rotate_left
       ·simp only [Act.put, List.setIfInBounds_toArray, List.set_cons_zero, List.set_cons_succ, i64_w, i32_w]
        rfl
       refine pure_ (i := 26) (N := some 122) (v := ?_) (a' := ?_) #[true, true, true, true, true, true, true, true, true, true, true, true, true, true, true, true, true, true, true, true, true, true, true, true, true, true, true, false, false, false, false, false, false] rfl rfl (by kernel_rfl) (fun _ _ _ h => h) (Or.inl ⟨by rfl, ?_⟩) ?_ ?_
       rotate_left
       ·intro w'
        go_simp
        with_reducible rfl
       rotate_left
       ·simp only [Act.put, List.setIfInBounds_toArray, List.set_cons_zero, List.set_cons_succ, i64_w, i32_w]
        rfl
       refine pure_ (i := 27) (N := some 123) (v := ?_) (a' := ?_) #[true, true, true, true, true, true, true, true, true, true, true, true, true, true, true, true, true, true, true, true, true, true, true, true, true, true, true, true, false, false, false, false, false] rfl rfl (by kernel_rfl) (fun _ _ _ h => h) (Or.inl ⟨by rfl, ?_⟩) ?_ ?_
       rotate_left
       ·intro w'
        go_simp
        with_reducible rfl
       rotate_left
       ·simp only [Act.put, List.setIfInBounds_toArray, List.set_cons_zero, List.set_cons_succ, i64_w, i32_w]
        rfl
       refine pure_ (i := 28) (N := some 124) (v := ?_) (a' := ?_) #[true, true, true, true, true, true, true, true, true, true, true, true, true, true, true, true, true, true, true, true, true, true, true, true, true, true, true, true, true, false, false, false, false] rfl rfl (by kernel_rfl) (fun _ _ _ h => h) (Or.inl ⟨by rfl, ?_⟩) ?_ ?_
       rotate_left
       ·intro w'
        go_simp
        with_reducible rfl
       rotate_left
       ·simp only [Act.put, List.setIfInBounds_toArray, List.set_cons_zero, List.set_cons_succ, i64_w, i32_w]
        rfl
       refine pure_ (i := 30) (N := some 126) (v := ?_) (a' := ?_) #[true, true, true, true, true, true, true, true, true, true, true, true, true, true, true, true, true, true, true, true, true, true, true, true, true, true, true, true, true, false, true, false, false] rfl rfl (by kernel_rfl) (fun _ _ _ h => h) (Or.inl ⟨by rfl, ?_⟩) ?_ ?_
       rotate_left
       ·intro w'
        go_simp
        with_reducible rfl
       rotate_left
       ·simp only [Act.put, List.setIfInBounds_toArray, List.set_cons_zero, List.set_cons_succ, i64_w, i32_w]
        rfl
       refine take_ (i := 29) (N := some 125) (v := ?_) (a' := ?_) #[true, true, true, true, true, true, true, true, true, true, true, true, true, true, true, true, true, true, true, true, true, true, true, true, true, true, true, true, true, true, true, false, false] rfl rfl (by kernel_rfl) (fun _ _ _ h => h) (Or.inl ⟨by rfl, ?_⟩) hHeld ?_ ?_
       rotate_left
       ·rintro w' ⟨s0, s1, s2, s3, s4⟩
        go_simp
        with_reducible rfl
       rotate_left
       ·simp only [Act.put, List.setIfInBounds_toArray, List.set_cons_zero, List.set_cons_succ, i64_w, i32_w]
        rfl
       refine pure_ (i := 31) (N := some 127) (v := ?_) (a' := ?_) #[true, true, true, true, true, true, true, true, true, true, true, true, true, true, true, true, true, true, true, true, true, true, true, true, true, true, true, true, true, true, true, true, false] rfl rfl (by kernel_rfl) (fun _ _ _ h => h) (Or.inl ⟨by rfl, ?_⟩) ?_ ?_
       rotate_left
       ·intro w'
        go_simp
        with_reducible rfl
       rotate_left
       ·simp only [Act.put, List.setIfInBounds_toArray, List.set_cons_zero, List.set_cons_succ, i64_w, i32_w]
        rfl
       refine pure_ (i := 32) (N := some 128) (v := ?_) (a' := ?_) #[true, true, true, true, true, true, true, true, true, true, true, true, true, true, true, true, true, true, true, true, true, true, true, true, true, true, true, true, true, true, true, true, true] rfl rfl (by kernel_rfl) (fun _ _ _ h => h) (Or.inl ⟨by rfl, ?_⟩) ?_ ?_
       rotate_left
       ·intro w'
        go_simp
        with_reducible rfl
       rotate_left
       ·simp only [Act.put, List.setIfInBounds_toArray, List.set_cons_zero, List.set_cons_succ, i64_w, i32_w]
        rfl
       refine done_ (by kernel_rfl) ?_
       clear hHeld
       go_wp2
       go_roundw
       case rel => exact ⟨y + 1, by have := HY.out; omega, by have := HY.out; omega, int_eq (by unfold wrap64; have := HY.out; have := HK.out; omega), O15, K15⟩
       case measure => have := HY.out; (try simp [intOf]); (try simp only [intOf]); omega
      ·have hd2 : decide (y < (k : Int)) = false := decide_eq_false hly
       clear hly hy0 hy1 hk17
       have O14 : Aside0 (Own N wr [ObjC gl 3 L, LinkO gk a1 16 16 true 16 1125899906842624 m X 16 0 0, cells gf #[.int .i64 m] 78, nrow k40 40 (.slice A5 k c5) F1, nrow k40 40 (.slice A6 k c6) F2]) := ⟨OB.out⟩
       have K14 : Aside0 (KeepS N w wr) := ⟨KB.out⟩
       clear OB KB
       go_wp2
       go_ret
       exact ⟨rfl, K14.out.below (Nat.le_refl _) (fun k hk => by rw [HN.out]; exact hk)⟩
end Go.Proofs.YtjmoncfgoaaekaaDoor.J
