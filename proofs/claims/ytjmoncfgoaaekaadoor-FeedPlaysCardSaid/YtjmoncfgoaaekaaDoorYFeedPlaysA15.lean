/- The answers of package feed that the document fixes: a plain walk through awake of the laws' package. -/
import Derived.Test.YtjmoncfgoaaekaaDoorYFeedPlaysL2
import Derived.Test.YtjmoncfgoaaekaaDoorYFeedPlaysF0
import Derived.Test.YtjmoncfgoaaekaaDoorYFeedPlaysL3
import Derived.Test.YtjmoncfgoaaekaaDoorYFeedPlaysSepL
import Derived.Test.YtjmoncfgoaaekaaDoorYFeedPlaysC6
import Derived.Test.YtjmoncfgoaaekaaDoorYFeedPlaysL4
import Derived.Test.YtjmoncfgoaaekaaDoorYFeedPlaysR7P
namespace Go.Proofs.YtjmoncfgoaaekaaDoor.J
set_option linter.unusedSimpArgs false
set_option linter.unusedVariables false
open Go Go.RowKit Go.Proofs.YtjmoncfgoaaekaaDoorW.PrintWords Go.Proofs.YtjmoncfgoaaekaaDoorW.PrintLast Go.Proofs.YtjmoncfgoaaekaaDoorW.PrintMore Go.Proofs.YtjmoncfgoaaekaaDoor.Sep
set_option maxHeartbeats 16000000 in
set_option maxRecDepth 100000 in
theorem FNew {N : Nat → Prop} {w : World} (h : Own N w []) :
  Calls Tryd.prog 9 #[] w fun e_ w' => ∃ g, e_ = .returned (.pointer (some ⟨g, 0, none⟩)) ∧ Own N w' [cells g #[.int .i64 0] 78] ∧ KeepS N w w' := by
 have O0 : Aside0 (Own N w []) := ⟨h⟩
 have K0 : Aside0 (KeepS N w w) := ⟨KeepS.refl _ _⟩
 clear h
 go_enter Tryd.func9, Tryd.ntmps9
 go_wp2_with (first | ((with_reducible refine gate_dst (N := 2) rfl ?_); refine own_box rfl (D := 2) rfl (cs := #[.int .i64 0]) (t := 78) ?hr O0.out ?_; (case hr => first | (go_simp; done) | (go_simp; rfl)); intro g w1 o_ k_; have O1 : Aside0 (Own N w1 [cells g #[.int .i64 0] 78]) := ⟨o_⟩; have K1 : Aside0 (KeepS N w w1) := ⟨K0.out.trans k_⟩; clear O0 K0; have c1_0_0 : w1.cell? ⟨g, 0, none⟩ = some (.int .i64 0) := (blk_cell (O1.out.blk (i := 0) rfl) 0).trans rfl; have f1_0_0 : w1.frozen? ⟨g, 0, none⟩ = false := blk_frozen (O1.out.blk (i := 0) rfl) 0; clear o_ k_))
 go_ret
 exact ⟨g, rfl, O1.out, K1.out⟩
set_option maxHeartbeats 16000000 in
set_option maxRecDepth 100000 in
theorem FAt {N : Nat → Prop} {w : World} {g : Nat} {a : Int} (h : Own N w [cells g #[.int .i64 a] 78]) :
  Calls Tryd.prog 21 #[.pointer (some ⟨g, 0, none⟩)] w fun e_ w' => e_ = .returned (.int .i64 a) ∧ Own N w' [cells g #[.int .i64 a] 78] ∧ KeepS N w w' := by
 have O0 : Aside0 (Own N w [cells g #[.int .i64 a] 78]) := ⟨h⟩
 have K0 : Aside0 (KeepS N w w) := ⟨KeepS.refl _ _⟩
 have c0_0_0 : w.cell? ⟨g, 0, none⟩ = some (.int .i64 a) := (blk_cell (O0.out.blk (i := 0) rfl) 0).trans rfl
 have f0_0_0 : w.frozen? ⟨g, 0, none⟩ = false := blk_frozen (O0.out.blk (i := 0) rfl) 0
 clear h
 go_enter Tryd.func21, Tryd.ntmps21
 go_wp2
 go_ret
 exact ⟨rfl, O0.out, K0.out⟩
set_option maxHeartbeats 16000000 in
set_option maxRecDepth 100000 in
theorem FReset {N : Nat → Prop} {w : World} {g : Nat} {a : Int} (h : Own N w [cells g #[.int .i64 a] 78]) :
  Calls Tryd.prog 18 #[.pointer (some ⟨g, 0, none⟩)] w fun e_ w' => e_ = .returned (.tuple #[]) ∧ Own N w' [cells g #[.int .i64 0] 78] ∧ KeepS N w w' := by
 have O0 : Aside0 (Own N w [cells g #[.int .i64 a] 78]) := ⟨h⟩
 have K0 : Aside0 (KeepS N w w) := ⟨KeepS.refl _ _⟩
 have c0_0_0 : w.cell? ⟨g, 0, none⟩ = some (.int .i64 a) := (blk_cell (O0.out.blk (i := 0) rfl) 0).trans rfl
 have f0_0_0 : w.frozen? ⟨g, 0, none⟩ = false := blk_frozen (O0.out.blk (i := 0) rfl) 0
 clear h
 go_enter Tryd.func18, Tryd.ntmps18
 go_wp2_with (first | ((with_reducible refine gate_store (t := 3) (p := 4) rfl ?_); refine own_store rfl rfl rfl (w1 := (World.setCell w ⟨g, 0, none⟩ (.int .i64 0))) (N := N) (l' := [cells g #[.int .i64 0] 78]) ?hr ?ho ?hk ?_; (case hr => first | (go_simp; done) | (go_simp; rfl)); (case ho => exact (O0.out.set (i := 0) rfl 0 (.int .i64 0))); (case hk => exact (KeepS.setCell (O0.out.far (i := 0) rfl) (.int .i64 0))); intro w1 o_ k_; have O1 : Aside0 (Own N w1 [cells g #[.int .i64 0] 78]) := ⟨o_⟩; have K1 : Aside0 (KeepS N w w1) := ⟨K0.out.trans k_⟩; clear c0_0_0 f0_0_0 O0 K0; have c1_0_0 : w1.cell? ⟨g, 0, none⟩ = some (.int .i64 0) := (blk_cell (O1.out.blk (i := 0) rfl) 0).trans rfl; have f1_0_0 : w1.frozen? ⟨g, 0, none⟩ = false := blk_frozen (O1.out.blk (i := 0) rfl) 0; clear o_ k_))
 first | go_end0 | go_ret
 exact ⟨rfl, O1.out, K1.out⟩
end Go.Proofs.YtjmoncfgoaaekaaDoor.J
namespace Go.Proofs.YtjmoncfgoaaekaaDoor.J
set_option linter.unusedSimpArgs false
set_option linter.unusedVariables false
open Go Go.RowKit Go.Proofs.YtjmoncfgoaaekaaDoorW.PrintWords Go.Proofs.YtjmoncfgoaaekaaDoorW.PrintLast Go.Proofs.YtjmoncfgoaaekaaDoorW.PrintMore Go.Proofs.YtjmoncfgoaaekaaDoor.Q Go.Proofs.YtjmoncfgoaaekaaDoor.Sep Go.Proofs.YtjmoncfgoaaekaaDoor.Pure
def TabN (N : Nat → Prop) (w : World) : Prop := N 0 ∧ Tab w
theorem TabN.keep {N : Nat → Prop} {w w' : World} (h : TabN N w) (hk : KeepS N w w') : TabN N w' := by
 have one : ∀ {j : Nat} {v : Value}, w.cell? ⟨0, j, none⟩ = some v → w'.cell? ⟨0, j, none⟩ = some v := fun {j v} hc =>
  (World.cell?_of_block (w := w) (hk.block _ (World.block_lt_of_cell? w _ hc) h.1)).trans hc
 exact ⟨h.1, one h.2.1, one h.2.2.1, one h.2.2.2.1, one h.2.2.2.2⟩
theorem TabN.mono {N N' : Nat → Prop} {w : World} (h : TabN N w) (hn : ∀ k, N k → N' k) : TabN N' w := ⟨hn _ h.1, h.2⟩
theorem rd_out {L : List Rnd} {x : Int} (h : (L.length : Int) ≤ x) : rd_T43 L x = ⟨0, 0, []⟩ := by
 unfold rd_T43
 rw [List.getD_eq_getElem?_getD, List.getElem?_eq_none (by omega)]
 rfl
theorem At_a {N : Nat → Prop} {w : World} {g : Nat} {C : Int} {L : List Rnd} (x : Int) (h : Own N w [ObjC g C L]) (hL : L.length ≤ 1000000) (hg : Good C L) (hx0 : 0 ≤ x) :
  Calls Tryd.prog 36 #[.pointer (some ⟨g, 0, none⟩), .int .i64 x] w fun e_ w' => ∃ A1 c1, e_ = .returned (.tuple #[.agg #[.int .i64 (rd_T43 L x).f0, .int .i64 (rd_T43 L x).f1, .slice A1 (rd_T43 L x).f2.length c1], .bool (decide (x < (L.length : Int)))]) ∧ Own N w' [ObjC g C L, nrow k114 114 (.slice A1 (rd_T43 L x).f2.length c1) (rd_T43 L x).f2] ∧ KeepS N w w' := by
 by_cases hx : x < (L.length : Int)
 ·rw [decide_eq_true hx]
  exact At_yes x h hL ⟨fun y a b => Nat.le_trans (good_short hg y a b) (by decide)⟩ hx0 hx
 ·rw [decide_eq_false hx, rd_out (by omega)]
  exact (At_high x h hL hx0 (by omega)).mono fun e_ w' q => ⟨none, 0, q.1, q.2.1.push_emp _ (fun w => Kd.N_nil _ _ _ _ _), q.2.2⟩
def PuI (N : Nat → Prop) (w : World) (gf gl gk : Nat) (C : Int) (L : List Rnd) (E Wn Rm : Int) (Pv : Bool) (W La S : Int) (xs : List Piece) (room acked n a : Int) (vn vp vb : Value) (wr : World) : Prop :=
 ∃ (m : Int) (gr : Nat) (B : Option Addr) (c : Nat), vn = .int .i64 m ∧ vp = .pointer (some ⟨gr, 0, none⟩) ∧ vb = .bool (decide (a + m < (L.length : Int))) ∧ Aside0 (0 ≤ m ∧ a + m ≤ L.length ∧ xs.length + m ≤ W) ∧
  Aside0 (Own N wr [cells gf #[.int .i64 (a + m)] 78, ObjC gl C L, LinkO gk E Wn Rm Pv W La (S + m) (xs ++ pcs S (seg L a m)) room acked n, cells gr #[.int .i64 (rd_T43 L (a + m)).f0, .int .i64 (rd_T43 L (a + m)).f1, .slice B (rd_T43 L (a + m)).f2.length c] 43, nrow k114 114 (.slice B (rd_T43 L (a + m)).f2.length c) (rd_T43 L (a + m)).f2]) ∧ Aside0 (KeepS N w wr)
set_option maxHeartbeats 16000000 in
set_option maxRecDepth 100000 in
theorem FPump {N : Nat → Prop} {w : World} {gf gl gk : Nat} {C : Int} {L : List Rnd} {E Wn Rm : Int} {Pv : Bool} {W La S : Int} {xs : List Piece} {room acked n a : Int} (m : Int) (h : Own N w [cells gf #[.int .i64 a] 78, ObjC gl C L, LinkO gk E Wn Rm Pv W La S xs room acked n]) (ht : TabN N w) (hL : L.length ≤ 1000000) (hg : Good C L) (ha : 0 ≤ a ∧ a ≤ (L.length : Int)) (hs : 0 ≤ S ∧ S < 1000000 ∧ La = 1125899906842624) (hw : (xs.length : Int) ≤ W ∧ W ≤ 16) (hm : Pumps L W xs a m) :
  Calls Tryd.prog 14 #[.pointer (some ⟨gf, 0, none⟩), .pointer (some ⟨gl, 0, none⟩), .pointer (some ⟨gk, 0, none⟩)] w fun e_ w' => e_ = .returned (.int .i64 m) ∧ Own N w' [cells gf #[.int .i64 (a + m)] 78, ObjC gl C L, LinkO gk E Wn Rm Pv W La (S + m) (xs ++ pcs S (seg L a m)) room acked n] ∧ KeepS N w w' := by
 have HLL : Aside0 (L.length ≤ 1000000) := ⟨hL⟩
 have HG := Aside0.mk hg
 have HA0 := Aside0.mk ha
 have HS0 := Aside0.mk hs
 have HWX := Aside0.mk hw
 have HPM := Aside0.mk hm
 have HT_0 : Aside0 (TabN N w) := ⟨ht⟩
 clear hL hg ha hs hw hm ht
 have HT00 := HT_0
 have O0 : Aside0 (Own N w [cells gf #[.int .i64 a] 78, ObjC gl C L, LinkO gk E Wn Rm Pv W La S xs room acked n]) := ⟨h⟩
 have K0 : Aside0 (KeepS N w w) := ⟨KeepS.refl _ _⟩
 obtain ⟨a0a, b0⟩ := blk1_ (O0.out.blk (i := 0) rfl)
 clear h
 go_enter Tryd.func14, Tryd.ntmps14
 go_wp2_with (first | ((with_reducible refine gate_callee (f := 36) rfl ?_); refine gP (some 18) Tryd.func36 #[.pointer (some ⟨gl, 0, none⟩), .int .i64 a] ?_; obtain ⟨N_, on_, nn_, rr_, bb_⟩ := O0.out.frame1 (i := 1) rfl; refine (At_a a on_ HLL.out HG.out HA0.out.1).mono ?_; rintro e_ w1 ⟨B7, d7, rfl, oo_, kk_⟩; obtain ⟨o_, k_⟩ := bb_ _ _ _ kk_ oo_; refine ⟨_, rfl, ?_⟩; have O1 : Aside0 (Own N w1 [cells gf #[.int .i64 a] 78, ObjC gl C L, LinkO gk E Wn Rm Pv W La S xs room acked n, nrow k114 114 (.slice B7 (rd_T43 L a).f2.length d7) (rd_T43 L a).f2]) := ⟨o_⟩; have K1 := Aside0.mk (K0.out.trans k_); have HT_1 := Aside0.mk (TabN.keep HT_0.out k_); clear a0a b0 O0 K0 HT_0; obtain ⟨a0a, b0⟩ := blk1_ (O1.out.blk (i := 0) rfl); clear o_ k_ oo_ kk_ on_ nn_ rr_ bb_) | ((with_reducible refine gate_dst (N := 8) rfl ?_); refine bP 8 #[.int .i64 0, .int .i64 0, .slice none 0 0] 43 O1.out ?_; intro gr w2 o_ k_; have O2 : Aside0 (Own N w2 [cells gf #[.int .i64 a] 78, ObjC gl C L, LinkO gk E Wn Rm Pv W La S xs room acked n, nrow k114 114 (.slice B7 (rd_T43 L a).f2.length d7) (rd_T43 L a).f2, cells gr #[.int .i64 0, .int .i64 0, .slice none 0 0] 43]) := ⟨o_⟩; have K2 := Aside0.mk (K1.out.trans k_); have HT_2 := Aside0.mk (TabN.keep HT_1.out k_); clear a0a b0 O1 K1 HT_1; obtain ⟨a0a, b0⟩ := blk1_ (O2.out.blk (i := 0) rfl); obtain ⟨a4a, a4b, a4c, b4⟩ := blk3_ (O2.out.blk (i := 4) rfl); clear o_ k_) | ((with_reducible refine gate_store (t := 43) (p := 8) rfl ?_); refine wP (World.setCell (World.setCell (World.setCell w2 ⟨gr, 0, none⟩ (.int .i64 ((rd_T43 L a)).f0)) ⟨gr, 1, none⟩ (.int .i64 ((rd_T43 L a)).f1)) ⟨gr, 2, none⟩ (.slice B7 ((rd_T43 L a)).f2.length d7)) [cells gf #[.int .i64 a] 78, ObjC gl C L, LinkO gk E Wn Rm Pv W La S xs room acked n, nrow k114 114 (.slice B7 (rd_T43 L a).f2.length d7) (rd_T43 L a).f2, cells gr #[.int .i64 ((rd_T43 L a)).f0, .int .i64 ((rd_T43 L a)).f1, .slice B7 ((rd_T43 L a)).f2.length d7] 43] (((O2.out.set (i := 4) rfl 0 (.int .i64 ((rd_T43 L a)).f0)).set (i := 4) rfl 1 (.int .i64 ((rd_T43 L a)).f1)).set (i := 4) rfl 2 (.slice B7 ((rd_T43 L a)).f2.length d7)) (((KeepS.setCell (O2.out.far (i := 4) rfl) (.int .i64 ((rd_T43 L a)).f0)).trans (KeepS.setCell (O2.out.far (i := 4) rfl) (.int .i64 ((rd_T43 L a)).f1))).trans (KeepS.setCell (O2.out.far (i := 4) rfl) (.slice B7 ((rd_T43 L a)).f2.length d7))) ?_; intro w3 o_ k_; have O3 := Aside0.mk o_; have K3 := Aside0.mk (K2.out.trans k_); have HT_3 := Aside0.mk (TabN.keep HT_2.out k_); clear a0a b0 a4a a4b a4c b4 O2 K2 HT_2; obtain ⟨a0a, b0⟩ := blk1_ (O3.out.blk (i := 0) rfl); obtain ⟨a4a, a4b, a4c, b4⟩ := blk3_ (O3.out.blk (i := 4) rfl); clear o_ k_))
 clear a0a b0 a4a a4b a4c b4
 go_loopw [7, 8, 9] (fun v_ p_ b_ wr => PuI N w gf gl gk C L E Wn Rm Pv W La S xs room acked n a v_ p_ b_ wr) (fun v_ _ _ _ => (L.length - a - intOf v_).toNat)
 case atStart => exact ⟨0, gr, B7, d7, rfl, rfl, by rw [Int.add_zero], ⟨by omega, by have := HA0.out; omega, by have := HWX.out; omega⟩, ⟨by rw [Int.add_zero, Int.add_zero, seg_0, pcs_nil, List.append_nil]; exact (O3.out.pickL [0, 1, 2, 4, 3] (by decide) (by simp))⟩, K3⟩
 case round =>
  obtain ⟨m1, gr1, B1, c1, rfl, rfl, rfl, HI, OA, KA⟩ := hrel
  have HT2 : Aside0 (TabN N wr) := ⟨(HT00.out).keep KA.out⟩
  clear O3 K3 HT_3
  obtain ⟨x, hx⟩ : ∃ x, x = a + m1 := ⟨_, rfl⟩
  obtain ⟨S1, hS1⟩ : ∃ S1, S1 = S + m1 := ⟨_, rfl⟩
  obtain ⟨X, hX⟩ : ∃ X, X = xs ++ pcs S (seg L a m1) := ⟨_, rfl⟩
  have HXL : Aside0 ((X.length : Int) = xs.length + m1) := ⟨by rw [hX, List.length_append, pcs_len]; have h1_ := seg_len HA0.out.1 HI.out.1 HI.out.2.1; omega⟩
  rw [← hx]
  rw [← hx, ← hS1, ← hX] at OA
  have HX := Aside0.mk hx
  have HS1 := Aside0.mk hS1
  have HXX := Aside0.mk hX
  clear hx hS1 hX
  obtain ⟨r1, hr1⟩ : ∃ r, r = rd_T43 L x := ⟨_, rfl⟩
  rw [← hr1] at OA
  have HR1 := Aside0.mk hr1
  clear hr1
  by_cases hlt : x < (L.length : Int)
  ·have hd : decide (x < (L.length : Int)) = true := decide_eq_true hlt
   rw [hd]
   clear hd
   have HAX1 : Aside0 (0 ≤ x ∧ x < (L.length : Int)) := ⟨by rw [HX.out]; have h1_ := HA0.out; have h2_ := HI.out; omega, hlt⟩
   have HAX2 : Aside0 (0 ≤ x + 1) := ⟨by have := HAX1.out; omega⟩
   have HM0 : Aside0 (mayR r1.f0 r1.f1 r1.f2 = 0) := ⟨by rw [HR1.out]; exact (HG.out _ (mem_rd HAX1.out.1 hlt)).1⟩
   have HPU : Aside0 (round_Put.f r1.f0 r1.f1 r1.f2 = some (bR r1, 0)) := ⟨by rw [pputR, putR, if_pos HM0.out]; rfl⟩
   clear hlt
   have O4 : Aside0 (Own N wr [cells gf #[.int .i64 x] 78, ObjC gl C L, LinkO gk E Wn Rm Pv W La S1 X room acked n, cells gr1 #[.int .i64 (r1).f0, .int .i64 (r1).f1, .slice B1 (r1).f2.length c1] 43, nrow k114 114 (.slice B1 r1.f2.length c1) r1.f2]) := ⟨OA.out⟩
   have K4 : Aside0 (KeepS N w wr) := ⟨KA.out⟩
   have HT_4 : Aside0 (TabN N wr) := ⟨HT2.out⟩
   obtain ⟨a0a, b0⟩ := blk1_ (O4.out.blk (i := 0) rfl)
   obtain ⟨a3a, a3b, a3c, b3⟩ := blk3_ (O4.out.blk (i := 3) rfl)
   clear OA KA
   by_cases hfull : (X.length : Int) = W
   ·have HF := Aside0.mk hfull
    obtain rfl : m = m1 := HPM.out.one ⟨HI.out.1, HI.out.2.1, HI.out.2.2, .inr (by rw [← HXL.out]; exact hfull)⟩
    clear hfull
    go_wp2_with (first | ((with_reducible refine gate_callee (f := 37) rfl ?_); refine gP (some 33) Tryd.func37 #[.agg #[.int .i64 (r1).f0, .int .i64 (r1).f1, .slice B1 (r1).f2.length c1]] ?_; refine (round_Put.calls r1.f0 r1.f1 _ _ r1.f2 (bR r1) 0 _ ⟨HT_4.out.2⟩ (O4.out.nreads (i := 4) rfl).2.2 (O4.out.nreads (i := 4) rfl).2.1 HPU.out).mono ?_; rintro e_ w5 ⟨rfl, hb_⟩; refine ⟨_, rfl, ?_⟩; have o_ := O4.out.below hb_; have k_ := KeepS.of_below (N := N) hb_; have O5 := Aside0.mk o_; have K5 := Aside0.mk (K4.out.trans k_); have HT_5 := Aside0.mk (TabN.keep HT_4.out k_); clear a0a b0 a3a a3b a3c b3 O4 K4 HT_4; obtain ⟨a0a, b0⟩ := blk1_ (O5.out.blk (i := 0) rfl); obtain ⟨a3a, a3b, a3c, b3⟩ := blk3_ (O5.out.blk (i := 3) rfl); clear o_ k_ hb_) | ((with_reducible refine gate_callee (f := 38) rfl ?_); refine gP (some 38) Tryd.func38 #[.pointer (some ⟨gk, 0, none⟩), .string (bR r1)] ?_; obtain ⟨N_, on_, nn_, rr_, bb_⟩ := O5.out.frame1 (i := 2) rfl; refine (LOffer_full (bR r1) on_ HF.out).mono ?_; rintro e_ w6 ⟨rfl, oo_, kk_⟩; obtain ⟨o_, k_⟩ := bb_ _ _ _ kk_ oo_; refine ⟨_, rfl, ?_⟩; have O6 : Aside0 (Own N w6 [cells gf #[.int .i64 x] 78, ObjC gl C L, LinkO gk E Wn Rm Pv W La S1 X room acked n, cells gr1 #[.int .i64 (r1).f0, .int .i64 (r1).f1, .slice B1 (r1).f2.length c1] 43, nrow k114 114 (.slice B1 r1.f2.length c1) r1.f2]) := ⟨o_⟩; have K6 := Aside0.mk (K5.out.trans k_); have HT_6 := Aside0.mk (TabN.keep HT_5.out k_); clear a0a b0 a3a a3b a3c b3 O5 K5 HT_5; obtain ⟨a0a, b0⟩ := blk1_ (O6.out.blk (i := 0) rfl); obtain ⟨a3a, a3b, a3c, b3⟩ := blk3_ (O6.out.blk (i := 3) rfl); clear o_ k_ oo_ kk_ on_ nn_ rr_ bb_))
    go_ret
    refine ⟨rfl, ?_, K6.out⟩
    rw [← HX.out, ← HS1.out, ← HXX.out]
    exact O6.out.take 3
   ·have HF := Aside0.mk hfull
    clear hfull
    have HNE : Aside0 (S1 ≠ La) := ⟨by have h1_ := HS1.out; have h2_ := HS0.out; have h3_ := HI.out; have h4_ := HWX.out; omega⟩
    have HSR : Aside0 (0 ≤ S1 ∧ S1 < 1125899906842624) := ⟨by have h1_ := HS1.out; have h2_ := HS0.out; have h3_ := HI.out; have h4_ := HWX.out; omega⟩
    have HXN : Aside0 (X.length ≤ 16) := ⟨by have h1_ := HXL.out; have h3_ := HI.out; have h4_ := HWX.out; omega⟩
    have hw1 : wrap64 (x + 1) = x + 1 := by unfold wrap64; have h1_ := HAX1.out; have h2_ := HLL.out; omega
    have hw2 : IntKind.i64.wrap (x + 1) = x + 1 := by rw [IntKind.wrap_i64]; have h1_ := HAX1.out; have h2_ := HLL.out; omega
    have hw3 : wrap64 (m1 + 1) = m1 + 1 := by unfold wrap64; have h1_ := HI.out; have h2_ := HLL.out; have h3_ := HA0.out; omega
    go_wp2_with (first | ((with_reducible refine gate_callee (f := 37) rfl ?_); refine gP (some 33) Tryd.func37 #[.agg #[.int .i64 (r1).f0, .int .i64 (r1).f1, .slice B1 (r1).f2.length c1]] ?_; refine (round_Put.calls r1.f0 r1.f1 _ _ r1.f2 (bR r1) 0 _ ⟨HT_4.out.2⟩ (O4.out.nreads (i := 4) rfl).2.2 (O4.out.nreads (i := 4) rfl).2.1 HPU.out).mono ?_; rintro e_ w5 ⟨rfl, hb_⟩; refine ⟨_, rfl, ?_⟩; have o_ := O4.out.below hb_; have k_ := KeepS.of_below (N := N) hb_; have O5 := Aside0.mk o_; have K5 := Aside0.mk (K4.out.trans k_); have HT_5 := Aside0.mk (TabN.keep HT_4.out k_); clear a0a b0 a3a a3b a3c b3 O4 K4 HT_4; obtain ⟨a0a, b0⟩ := blk1_ (O5.out.blk (i := 0) rfl); obtain ⟨a3a, a3b, a3c, b3⟩ := blk3_ (O5.out.blk (i := 3) rfl); clear o_ k_ hb_) | ((with_reducible refine gate_callee (f := 38) rfl ?_); refine gP (some 38) Tryd.func38 #[.pointer (some ⟨gk, 0, none⟩), .string (bR r1)] ?_; obtain ⟨N_, on_, nn_, rr_, bb_⟩ := O5.out.frame1 (i := 2) rfl; refine (LOffer_ok (bR r1) on_ HF.out HNE.out HSR.out HXN.out).mono ?_; rintro e_ w6 ⟨rfl, oo_, kk_⟩; obtain ⟨o_, k_⟩ := bb_ _ _ _ kk_ oo_; refine ⟨_, rfl, ?_⟩; have O6 : Aside0 (Own N w6 [cells gf #[.int .i64 x] 78, ObjC gl C L, LinkO gk E Wn Rm Pv W La (S1 + 1) (X ++ [(S1 + 1, bR r1)]) room acked n, cells gr1 #[.int .i64 (r1).f0, .int .i64 (r1).f1, .slice B1 (r1).f2.length c1] 43, nrow k114 114 (.slice B1 r1.f2.length c1) r1.f2]) := ⟨o_⟩; have K6 := Aside0.mk (K5.out.trans k_); have HT_6 := Aside0.mk (TabN.keep HT_5.out k_); clear a0a b0 a3a a3b a3c b3 O5 K5 HT_5; obtain ⟨a0a, b0⟩ := blk1_ (O6.out.blk (i := 0) rfl); obtain ⟨a3a, a3b, a3c, b3⟩ := blk3_ (O6.out.blk (i := 3) rfl); clear o_ k_ oo_ kk_ on_ nn_ rr_ bb_) | ((with_reducible refine gate_store (t := 3) (p := 46) rfl ?_); refine wP (World.setCell w6 ⟨gf, 0, none⟩ (.int .i64 (x + 1))) [cells gf #[.int .i64 (x + 1)] 78, ObjC gl C L, LinkO gk E Wn Rm Pv W La (S1 + 1) (X ++ [(S1 + 1, bR r1)]) room acked n, cells gr1 #[.int .i64 (r1).f0, .int .i64 (r1).f1, .slice B1 (r1).f2.length c1] 43, nrow k114 114 (.slice B1 r1.f2.length c1) r1.f2] (O6.out.set (i := 0) rfl 0 (.int .i64 (x + 1))) (KeepS.setCell (O6.out.far (i := 0) rfl) (.int .i64 (x + 1))) ?_; intro w7 o_ k_; have O7 := Aside0.mk o_; have K7 := Aside0.mk (K6.out.trans k_); have HT_7 := Aside0.mk (TabN.keep HT_6.out k_); clear a0a b0 a3a a3b a3c b3 O6 K6 HT_6; obtain ⟨a0a, b0⟩ := blk1_ (O7.out.blk (i := 0) rfl); obtain ⟨a3a, a3b, a3c, b3⟩ := blk3_ (O7.out.blk (i := 3) rfl); clear o_ k_) | ((with_reducible refine gate_dst (N := 8) rfl ?_); refine bP 8 #[.int .i64 0, .int .i64 0, .slice none 0 0] 43 O7.out ?_; intro gr2 w8 o_ k_; have O8 : Aside0 (Own N w8 [cells gf #[.int .i64 (x + 1)] 78, ObjC gl C L, LinkO gk E Wn Rm Pv W La (S1 + 1) (X ++ [(S1 + 1, bR r1)]) room acked n, cells gr1 #[.int .i64 (r1).f0, .int .i64 (r1).f1, .slice B1 (r1).f2.length c1] 43, nrow k114 114 (.slice B1 r1.f2.length c1) r1.f2, cells gr2 #[.int .i64 0, .int .i64 0, .slice none 0 0] 43]) := ⟨o_⟩; have K8 := Aside0.mk (K7.out.trans k_); have HT_8 := Aside0.mk (TabN.keep HT_7.out k_); clear a0a b0 a3a a3b a3c b3 O7 K7 HT_7; obtain ⟨a0a, b0⟩ := blk1_ (O8.out.blk (i := 0) rfl); obtain ⟨a3a, a3b, a3c, b3⟩ := blk3_ (O8.out.blk (i := 3) rfl); obtain ⟨a5a, a5b, a5c, b5⟩ := blk3_ (O8.out.blk (i := 5) rfl); clear o_ k_) | ((with_reducible refine gate_store (t := 43) (p := 8) rfl ?_); refine wP (World.setCell (World.setCell (World.setCell w8 ⟨gr2, 0, none⟩ (.int .i64 (r1).f0)) ⟨gr2, 1, none⟩ (.int .i64 (r1).f1)) ⟨gr2, 2, none⟩ (.slice B1 (r1).f2.length c1)) [cells gf #[.int .i64 (x + 1)] 78, ObjC gl C L, LinkO gk E Wn Rm Pv W La (S1 + 1) (X ++ [(S1 + 1, bR r1)]) room acked n, cells gr1 #[.int .i64 (r1).f0, .int .i64 (r1).f1, .slice B1 (r1).f2.length c1] 43, nrow k114 114 (.slice B1 r1.f2.length c1) r1.f2, cells gr2 #[.int .i64 (r1).f0, .int .i64 (r1).f1, .slice B1 (r1).f2.length c1] 43] (((O8.out.set (i := 5) rfl 0 (.int .i64 (r1).f0)).set (i := 5) rfl 1 (.int .i64 (r1).f1)).set (i := 5) rfl 2 (.slice B1 (r1).f2.length c1)) (((KeepS.setCell (O8.out.far (i := 5) rfl) (.int .i64 (r1).f0)).trans (KeepS.setCell (O8.out.far (i := 5) rfl) (.int .i64 (r1).f1))).trans (KeepS.setCell (O8.out.far (i := 5) rfl) (.slice B1 (r1).f2.length c1))) ?_; intro w9 o_ k_; have O9 := Aside0.mk o_; have K9 := Aside0.mk (K8.out.trans k_); have HT_9 := Aside0.mk (TabN.keep HT_8.out k_); clear a0a b0 a3a a3b a3c b3 a5a a5b a5c b5 O8 K8 HT_8; obtain ⟨a0a, b0⟩ := blk1_ (O9.out.blk (i := 0) rfl); obtain ⟨a3a, a3b, a3c, b3⟩ := blk3_ (O9.out.blk (i := 3) rfl); obtain ⟨a5a, a5b, a5c, b5⟩ := blk3_ (O9.out.blk (i := 5) rfl); clear o_ k_) | ((with_reducible refine gate_callee (f := 36) rfl ?_); refine gP (some 28) Tryd.func36 #[.pointer (some ⟨gl, 0, none⟩), .int .i64 (x + 1)] ?_; obtain ⟨N_, on_, nn_, rr_, bb_⟩ := O9.out.frame1 (i := 1) rfl; refine (At_a (x + 1) on_ HLL.out HG.out HAX2.out).mono ?_; rintro e_ w10 ⟨B7, d7, rfl, oo_, kk_⟩; obtain ⟨o_, k_⟩ := bb_ _ _ _ kk_ oo_; refine ⟨_, rfl, ?_⟩; have O10 : Aside0 (Own N w10 [cells gf #[.int .i64 (x + 1)] 78, ObjC gl C L, LinkO gk E Wn Rm Pv W La (S1 + 1) (X ++ [(S1 + 1, bR r1)]) room acked n, cells gr1 #[.int .i64 (r1).f0, .int .i64 (r1).f1, .slice B1 (r1).f2.length c1] 43, nrow k114 114 (.slice B1 r1.f2.length c1) r1.f2, cells gr2 #[.int .i64 (r1).f0, .int .i64 (r1).f1, .slice B1 (r1).f2.length c1] 43, nrow k114 114 (.slice B7 (rd_T43 L (x + 1)).f2.length d7) (rd_T43 L (x + 1)).f2]) := ⟨o_⟩; have K10 := Aside0.mk (K9.out.trans k_); have HT_10 := Aside0.mk (TabN.keep HT_9.out k_); clear a0a b0 a3a a3b a3c b3 a5a a5b a5c b5 O9 K9 HT_9; obtain ⟨a0a, b0⟩ := blk1_ (O10.out.blk (i := 0) rfl); obtain ⟨a3a, a3b, a3c, b3⟩ := blk3_ (O10.out.blk (i := 3) rfl); obtain ⟨a5a, a5b, a5c, b5⟩ := blk3_ (O10.out.blk (i := 5) rfl); clear o_ k_ oo_ kk_ on_ nn_ rr_ bb_) | ((with_reducible refine gate_store (t := 43) (p := 8) rfl ?_); refine wP (World.setCell (World.setCell (World.setCell w10 ⟨gr2, 0, none⟩ (.int .i64 ((rd_T43 L (x + 1))).f0)) ⟨gr2, 1, none⟩ (.int .i64 ((rd_T43 L (x + 1))).f1)) ⟨gr2, 2, none⟩ (.slice B7 ((rd_T43 L (x + 1))).f2.length d7)) [cells gf #[.int .i64 (x + 1)] 78, ObjC gl C L, LinkO gk E Wn Rm Pv W La (S1 + 1) (X ++ [(S1 + 1, bR r1)]) room acked n, cells gr1 #[.int .i64 (r1).f0, .int .i64 (r1).f1, .slice B1 (r1).f2.length c1] 43, nrow k114 114 (.slice B1 r1.f2.length c1) r1.f2, cells gr2 #[.int .i64 ((rd_T43 L (x + 1))).f0, .int .i64 ((rd_T43 L (x + 1))).f1, .slice B7 ((rd_T43 L (x + 1))).f2.length d7] 43, nrow k114 114 (.slice B7 (rd_T43 L (x + 1)).f2.length d7) (rd_T43 L (x + 1)).f2] (((O10.out.set (i := 5) rfl 0 (.int .i64 ((rd_T43 L (x + 1))).f0)).set (i := 5) rfl 1 (.int .i64 ((rd_T43 L (x + 1))).f1)).set (i := 5) rfl 2 (.slice B7 ((rd_T43 L (x + 1))).f2.length d7)) (((KeepS.setCell (O10.out.far (i := 5) rfl) (.int .i64 ((rd_T43 L (x + 1))).f0)).trans (KeepS.setCell (O10.out.far (i := 5) rfl) (.int .i64 ((rd_T43 L (x + 1))).f1))).trans (KeepS.setCell (O10.out.far (i := 5) rfl) (.slice B7 ((rd_T43 L (x + 1))).f2.length d7))) ?_; intro w11 o_ k_; have O11 := Aside0.mk o_; have K11 := Aside0.mk (K10.out.trans k_); have HT_11 := Aside0.mk (TabN.keep HT_10.out k_); clear a0a b0 a3a a3b a3c b3 a5a a5b a5c b5 O10 K10 HT_10; obtain ⟨a0a, b0⟩ := blk1_ (O11.out.blk (i := 0) rfl); obtain ⟨a3a, a3b, a3c, b3⟩ := blk3_ (O11.out.blk (i := 3) rfl); obtain ⟨a5a, a5b, a5c, b5⟩ := blk3_ (O11.out.blk (i := 5) rfl); clear o_ k_))
    go_roundw
    case rel =>
     have h1_ := HI.out
     have h2_ := HX.out
     have h4_ := HXL.out
     have h5_ := HXN.out
     have hlt_ : a + m1 < (L.length : Int) := by have := HAX1.out; omega
     have hne_ : (X.length : Int) ≠ W := HF.out
     have hp_ := pcs_seg S HA0.out.1 h1_.1 hlt_
     refine ⟨m1 + 1, gr2, B7, d7, rfl, rfl, by rw [show a + (m1 + 1) = x + 1 by omega], ⟨by omega, by omega, by omega⟩, ⟨?_⟩, K11⟩
     rw [hp_, ← List.append_assoc, ← HXX.out, ← HS1.out, show a + (m1 + 1) = x + 1 by omega, show S + (m1 + 1) = S1 + 1 by have := HS1.out; omega, show a + m1 = x by omega, ← HR1.out]
     exact (O11.out.pickL [0, 1, 2, 5, 6] (by decide) (by simp))
    case measure => have := HX.out; have := HAX1.out; simp [intOf]; omega
  ·have hd : decide (x < (L.length : Int)) = false := decide_eq_false hlt
   rw [hd]
   clear hd
   obtain rfl : m = m1 := HPM.out.one ⟨HI.out.1, HI.out.2.1, HI.out.2.2, .inl (by have := HX.out; have := HI.out; omega)⟩
   clear hlt
   have O4 : Aside0 (Own N wr [cells gf #[.int .i64 x] 78, ObjC gl C L, LinkO gk E Wn Rm Pv W La S1 X room acked n, cells gr1 #[.int .i64 (r1).f0, .int .i64 (r1).f1, .slice B1 (r1).f2.length c1] 43, nrow k114 114 (.slice B1 r1.f2.length c1) r1.f2]) := ⟨OA.out⟩
   have K4 : Aside0 (KeepS N w wr) := ⟨KA.out⟩
   obtain ⟨a0a, b0⟩ := blk1_ (O4.out.blk (i := 0) rfl)
   clear OA KA
   go_wp2
   go_ret
   refine ⟨rfl, ?_, K4.out⟩
   rw [← HX.out, ← HS1.out, ← HXX.out]
   exact O4.out.take 3
end Go.Proofs.YtjmoncfgoaaekaaDoor.J
namespace Go.Proofs.YtjmoncfgoaaekaaDoor.J
set_option linter.unusedSimpArgs false
set_option linter.unusedVariables false
open Go Go.RowKit Go.Proofs.YtjmoncfgoaaekaaDoorW.PrintWords Go.Proofs.YtjmoncfgoaaekaaDoorW.PrintLast Go.Proofs.YtjmoncfgoaaekaaDoorW.PrintMore Go.Proofs.YtjmoncfgoaaekaaDoor.Sep
set_option maxHeartbeats 16000000 in
set_option maxRecDepth 100000 in
theorem LHear_anew_ack {N : Nat → Prop} {w : World} {g : Nat} {E Wn Rm : Int} {W La S : Int} {xs : List Piece} {room acked n : Int} (fe fq fa : Int) (fd : ByteArray) (W2 room2 : Int) (h : Own N w [LinkO g E Wn Rm true W La S xs room acked n]) (hf : E < fe) (he : 0 ≤ fe ∧ fe ≤ 1099511627776) (hW : mn (mx Wn 1) 16 = W2) (hR : mn (mx Rm 1) 16 = room2) (hq : fq = 0) :
  Calls Tryd.prog 16 #[.pointer (some ⟨g, 0, none⟩), .agg #[.int .i64 fe, .int .i64 fq, .int .i64 fa, .string fd]] w fun e_ w' => e_ = .returned (.bool true) ∧ Own N w' [LinkO g fe Wn Rm true W2 1125899906842624 0 (ackX 0 fa []) room2 0 0] ∧ KeepS N w w' := by
 have d1 : decide (fe > E) = true := decide_eq_true hf
 have d2 : decide (E < fe) = true := decide_eq_true hf
 have d3 : decide (fe < E) = false := decide_eq_false (by omega)
 have HE1 : Aside0 (mn (mx fe 0) 1099511627776 = fe) := ⟨by unfold mn mx; (repeat' split) <;> omega⟩
 have HW := Aside0.mk hW
 have HR := Aside0.mk hR
 have HRR : Aside0 (0 ≤ (0 : Int) ∧ (0 : Int) ≤ room2 ∧ room2 ≤ 16) := ⟨by have h_ := hR; unfold mn mx at h_; (repeat' split at h_) <;> omega⟩
 subst hq
 have d5 : ((0 : Int) != 0) = false := by decide
 obtain ⟨gs, gr, h2⟩ := LinkO.open_ h
 have O0 : Aside0 (Own N w [cells g #[.pointer (some ⟨gs, 0, none⟩), .pointer (some ⟨gr, 0, none⟩), .int .i64 E, .int .i64 Wn, .int .i64 Rm, .bool true] 75, RecvO gr room acked n, SendO gs W La S xs]) := ⟨h2⟩
 have K0 : Aside0 (KeepS N w w) := ⟨KeepS.refl _ _⟩
 obtain ⟨a0a, a0b, a0c, a0d, a0e, a0f, b0⟩ := blk6_ (O0.out.blk (i := 0) rfl)
 clear h2 h hf he hW hR
 go_enter Tryd.func16, Tryd.ntmps16
 go_wp2_with (first | ((with_reducible refine gate_dst (N := 3) rfl ?_); refine bP 3 #[.int .i64 fe, .int .i64 0, .int .i64 fa, .string fd] 40 O0.out ?_; intro gf w1 o_ k_; have O1 : Aside0 (Own N w1 [cells g #[.pointer (some ⟨gs, 0, none⟩), .pointer (some ⟨gr, 0, none⟩), .int .i64 E, .int .i64 Wn, .int .i64 Rm, .bool true] 75, RecvO gr room acked n, SendO gs W La S xs, cells gf #[.int .i64 fe, .int .i64 0, .int .i64 fa, .string fd] 40]) := ⟨o_⟩; have K1 := Aside0.mk (K0.out.trans k_); clear a0a a0b a0c a0d a0e a0f b0 O0 K0; obtain ⟨a0a, a0b, a0c, a0d, a0e, a0f, b0⟩ := blk6_ (O1.out.blk (i := 0) rfl); obtain ⟨a3a, a3b, a3c, a3d, b3⟩ := blk4_ (O1.out.blk (i := 3) rfl); clear o_ k_))
 refine sP (n := 8) (S := fun w' => w'.cell? ⟨g, 0, none⟩ = some (.pointer (some ⟨gs, 0, none⟩)) ∧ w'.cell? ⟨g, 1, none⟩ = some (.pointer (some ⟨gr, 0, none⟩)) ∧ w'.cell? ⟨g, 2, none⟩ = some (.int .i64 E) ∧ w'.cell? ⟨g, 3, none⟩ = some (.int .i64 Wn) ∧ w'.cell? ⟨g, 4, none⟩ = some (.int .i64 Rm) ∧ w'.cell? ⟨g, 5, none⟩ = some (.bool true) ∧ w'.cell? ⟨gf, 0, none⟩ = some (.int .i64 fe) ∧ w'.cell? ⟨gf, 1, none⟩ = some (.int .i64 0) ∧ w'.cell? ⟨gf, 2, none⟩ = some (.int .i64 fa) ∧ w'.cell? ⟨gf, 3, none⟩ = some (.string fd)) (ds := []) ⟨a0a, a0b, a0c, a0d, a0e, a0f, a3a, a3b, a3c, a3d⟩ (fun hHeld => ?_)
 obtain ⟨w2, hw_⟩ : ∃ W, W = w1.drew := ⟨_, rfl⟩
 have o_ := O1.out.drew
 have k_ : KeepS N w1 w1.drew := KeepS.drew
 rw [← hw_] at o_ k_ hHeld ⊢
 clear hw_
 have O2 := Aside0.mk o_
 have K2 := Aside0.mk (K1.out.trans k_)
 clear a0a a0b a0c a0d a0e a0f b0 a3a a3b a3c a3d b3 O1 K1
 obtain ⟨a0a, a0b, a0c, a0d, a0e, a0f, b0⟩ := blk6_ (O2.out.blk (i := 0) rfl)
 obtain ⟨a3a, a3b, a3c, a3d, b3⟩ := blk4_ (O2.out.blk (i := 3) rfl)
 clear o_ k_
 refine pP 0 (some 6) ?_
 refine pP 2 (some 8) ?_
 refine pP 3 (some 9) ?_
 refine pP 4 (some 10) ?_
 refine tP 1 (some 7) hHeld ?_
 refine tP 5 (some 11) hHeld ?_
 refine pP 6 (some 12) ?_
 refine pP 7 (some 5) ?_
 refine done_ (by kernel_rfl) ?_
 clear hHeld
 go_wp2
 refine sP (n := 17) (S := fun w' => w'.cell? ⟨g, 0, none⟩ = some (.pointer (some ⟨gs, 0, none⟩)) ∧ w'.cell? ⟨g, 1, none⟩ = some (.pointer (some ⟨gr, 0, none⟩)) ∧ w'.cell? ⟨g, 2, none⟩ = some (.int .i64 E) ∧ w'.cell? ⟨g, 3, none⟩ = some (.int .i64 Wn) ∧ w'.cell? ⟨g, 4, none⟩ = some (.int .i64 Rm) ∧ w'.cell? ⟨g, 5, none⟩ = some (.bool true) ∧ w'.cell? ⟨gf, 0, none⟩ = some (.int .i64 fe) ∧ w'.cell? ⟨gf, 1, none⟩ = some (.int .i64 0) ∧ w'.cell? ⟨gf, 2, none⟩ = some (.int .i64 fa) ∧ w'.cell? ⟨gf, 3, none⟩ = some (.string fd)) (ds := []) ⟨a0a, a0b, a0c, a0d, a0e, a0f, a3a, a3b, a3c, a3d⟩ (fun hHeld => ?_)
 obtain ⟨w3, hw_⟩ : ∃ W, W = w2.drew := ⟨_, rfl⟩
 have o_ := O2.out.drew
 have k_ : KeepS N w2 w2.drew := KeepS.drew
 rw [← hw_] at o_ k_ hHeld ⊢
 clear hw_
 have O3 := Aside0.mk o_
 have K3 := Aside0.mk (K2.out.trans k_)
 clear a0a a0b a0c a0d a0e a0f b0 a3a a3b a3c a3d b3 O2 K2
 obtain ⟨a0a, a0b, a0c, a0d, a0e, a0f, b0⟩ := blk6_ (O3.out.blk (i := 0) rfl)
 obtain ⟨a3a, a3b, a3c, a3d, b3⟩ := blk4_ (O3.out.blk (i := 3) rfl)
 clear o_ k_
 refine pP 0 (some 13) ?_
 refine pP 2 (some 15) ?_
 refine pP 3 (some 16) ?_
 refine pP 4 (some 17) ?_
 refine tP 1 (some 14) hHeld ?_
 refine tP 5 (some 18) hHeld ?_
 refine pP 6 (some 19) ?_
 refine pP 7 (some 20) ?_
 refine pP 8 (some 21) ?_
 refine pP 9 (some 22) ?_
 refine pP 10 (some 23) ?_
 refine pP 11 (some 24) ?_
 refine pP 12 (some 25) ?_
 refine tP 13 (some 26) hHeld ?_
 refine pP 14 (some 27) ?_
 refine pP 15 (some 28) ?_
 refine pP 16 (some 29) ?_
 refine done_ (by kernel_rfl) ?_
 clear hHeld
 go_wp2_with (first | ((with_reducible refine gate_callee (f := 30) rfl ?_); refine gP (some 34) Tryd.func30 #[.pointer (some ⟨g, 0, none⟩), .int .i64 fe] ?_; obtain ⟨N_, on_, nn_, rr_, bb_⟩ := O3.out.frame1 (i := 0) rfl; refine (LBegin fe fe W2 room2 HE1.out HW.out HR.out on_).mono ?_; rintro e_ w4 ⟨rfl, oo_, kk_⟩; obtain ⟨o_, k_⟩ := bb_ _ _ _ kk_ oo_; refine ⟨_, rfl, ?_⟩; have O4 : Aside0 (Own N w4 [LinkO g fe Wn Rm true W2 1125899906842624 0 [] room2 0 0, RecvO gr room acked n, SendO gs W La S xs, cells gf #[.int .i64 fe, .int .i64 0, .int .i64 fa, .string fd] 40]) := ⟨o_⟩; have K4 := Aside0.mk (K3.out.trans k_); clear a0a a0b a0c a0d a0e a0f b0 a3a a3b a3c a3d b3 O3 K3; obtain ⟨a3a, a3b, a3c, a3d, b3⟩ := blk4_ (O4.out.blk (i := 3) rfl); clear o_ k_ oo_ kk_ on_ nn_ rr_ bb_))
 obtain ⟨gs2, o1_⟩ := O4.out.of_ex (i := 0) rfl
 obtain ⟨gr2, o2_⟩ := o1_.of_ex (i := 0) rfl
 have o3_ := o2_.split (i := 0) rfl
 have o4_ := o3_.split (i := 0) rfl
 have O5 : Aside0 (Own N w4 [cells g #[.pointer (some ⟨gs2, 0, none⟩), .pointer (some ⟨gr2, 0, none⟩), .int .i64 fe, .int .i64 Wn, .int .i64 Rm, .bool true] 75, RecvO gr room acked n, SendO gs W La S xs, cells gf #[.int .i64 fe, .int .i64 0, .int .i64 fa, .string fd] 40, RecvO gr2 room2 0 0, SendO gs2 W2 1125899906842624 0 []]) := ⟨o4_⟩
 have K5 := K4
 clear o1_ o2_ o3_ o4_ O4 K4 a3a a3b a3c a3d b3
 obtain ⟨a0a, a0b, a0c, a0d, a0e, a0f, b0⟩ := blk6_ (O5.out.blk (i := 0) rfl)
 obtain ⟨a3a, a3b, a3c, a3d, b3⟩ := blk4_ (O5.out.blk (i := 3) rfl)
 refine sP (n := 8) (S := fun w' => w'.cell? ⟨g, 0, none⟩ = some (.pointer (some ⟨gs2, 0, none⟩)) ∧ w'.cell? ⟨g, 1, none⟩ = some (.pointer (some ⟨gr2, 0, none⟩)) ∧ w'.cell? ⟨g, 2, none⟩ = some (.int .i64 fe) ∧ w'.cell? ⟨g, 3, none⟩ = some (.int .i64 Wn) ∧ w'.cell? ⟨g, 4, none⟩ = some (.int .i64 Rm) ∧ w'.cell? ⟨g, 5, none⟩ = some (.bool true) ∧ w'.cell? ⟨gf, 0, none⟩ = some (.int .i64 fe) ∧ w'.cell? ⟨gf, 1, none⟩ = some (.int .i64 0) ∧ w'.cell? ⟨gf, 2, none⟩ = some (.int .i64 fa) ∧ w'.cell? ⟨gf, 3, none⟩ = some (.string fd)) (ds := []) ⟨a0a, a0b, a0c, a0d, a0e, a0f, a3a, a3b, a3c, a3d⟩ (fun hHeld => ?_)
 obtain ⟨w6, hw_⟩ : ∃ W, W = w4.drew := ⟨_, rfl⟩
 have o_ := O5.out.drew
 have k_ : KeepS N w4 w4.drew := KeepS.drew
 rw [← hw_] at o_ k_ hHeld ⊢
 clear hw_
 have O6 := Aside0.mk o_
 have K6 := Aside0.mk (K5.out.trans k_)
 clear a0a a0b a0c a0d a0e a0f b0 a3a a3b a3c a3d b3 O5 K5
 obtain ⟨a0a, a0b, a0c, a0d, a0e, a0f, b0⟩ := blk6_ (O6.out.blk (i := 0) rfl)
 obtain ⟨a3a, a3b, a3c, a3d, b3⟩ := blk4_ (O6.out.blk (i := 3) rfl)
 clear o_ k_
 refine pP 0 (some 35) ?_
 refine pP 1 (some 36) ?_
 refine pP 2 (some 37) ?_
 refine pP 3 (some 38) ?_
 refine pP 5 (some 40) ?_
 refine tP 4 (some 39) hHeld ?_
 refine tP 6 (some 41) hHeld ?_
 refine oP 7 (some 42) (fun K_ hK_ => ?_)
 refine hP Tryd.func40 #[.pointer (some ⟨gs2, 0, none⟩), .int .i64 fa] ?_
 obtain ⟨N_, on_, nn_, rr_, bb_⟩ := O6.out.frame1 (i := 5) rfl
 refine (SAck_a fa on_ (by decide)).mono ?_
 rintro e_ w7 ⟨rfl, oo_, kk_⟩
 obtain ⟨o_, k_⟩ := bb_ _ _ _ kk_ oo_
 refine ⟨_, rfl, ?_⟩
 have O7 : Aside0 (Own N w7 [cells g #[.pointer (some ⟨gs2, 0, none⟩), .pointer (some ⟨gr2, 0, none⟩), .int .i64 fe, .int .i64 Wn, .int .i64 Rm, .bool true] 75, RecvO gr room acked n, SendO gs W La S xs, cells gf #[.int .i64 fe, .int .i64 0, .int .i64 fa, .string fd] 40, RecvO gr2 room2 0 0, SendO gs2 W2 1125899906842624 0 (ackX 0 fa [])]) := ⟨o_⟩
 have K7 := Aside0.mk (K6.out.trans k_)
 clear a0a a0b a0c a0d a0e a0f b0 a3a a3b a3c a3d b3 O6 K6
 obtain ⟨a0a, a0b, a0c, a0d, a0e, a0f, b0⟩ := blk6_ (O7.out.blk (i := 0) rfl)
 obtain ⟨a3a, a3b, a3c, a3d, b3⟩ := blk4_ (O7.out.blk (i := 3) rfl)
 clear o_ k_ oo_ kk_ on_ nn_ rr_ bb_
 clear hHeld
 refine hK_.out _ _ ⟨a0a, a0b, a0c, a0d, a0e, a0f, a3a, a3b, a3c, a3d⟩ (fun hHeld => ?_)
 clear hK_ K_
 refine nP ?_
 refine done_ (by kernel_rfl) ?_
 clear hHeld
 go_wp2
 go_ret
 exact ⟨rfl, LinkO.shut (gs := gs2) (gr := gr2) (O7.out.pickL [0, 4, 5] (by decide) (by simp)), K7.out⟩
set_option maxHeartbeats 16000000 in
set_option maxRecDepth 100000 in
theorem LHear_anew_data {N : Nat → Prop} {w : World} {g : Nat} {E Wn Rm : Int} {W La S : Int} {xs : List Piece} {room acked n : Int} (fe fq fa : Int) (fd : ByteArray) (W2 room2 : Int) (h : Own N w [LinkO g E Wn Rm true W La S xs room acked n]) (hf : E < fe) (he : 0 ≤ fe ∧ fe ≤ 1099511627776) (hW : mn (mx Wn 1) 16 = W2) (hR : mn (mx Rm 1) 16 = room2) (hq : fq ≠ 0) :
  Calls Tryd.prog 16 #[.pointer (some ⟨g, 0, none⟩), .agg #[.int .i64 fe, .int .i64 fq, .int .i64 fa, .string fd]] w fun e_ w' => e_ = .returned (.bool true) ∧ Own N w' [LinkO g fe Wn Rm true W2 1125899906842624 0 (ackX 0 fa []) room2 (hearA room2 0 0 fq) (hearN room2 0 0 fq)] ∧ KeepS N w w' := by
 have d1 : decide (fe > E) = true := decide_eq_true hf
 have d2 : decide (E < fe) = true := decide_eq_true hf
 have d3 : decide (fe < E) = false := decide_eq_false (by omega)
 have HE1 : Aside0 (mn (mx fe 0) 1099511627776 = fe) := ⟨by unfold mn mx; (repeat' split) <;> omega⟩
 have HW := Aside0.mk hW
 have HR := Aside0.mk hR
 have HRR : Aside0 (0 ≤ (0 : Int) ∧ (0 : Int) ≤ room2 ∧ room2 ≤ 16) := ⟨by have h_ := hR; unfold mn mx at h_; (repeat' split at h_) <;> omega⟩
 have d5 : (fq != 0) = true := by simp [hq]
 obtain ⟨gs, gr, h2⟩ := LinkO.open_ h
 have O0 : Aside0 (Own N w [cells g #[.pointer (some ⟨gs, 0, none⟩), .pointer (some ⟨gr, 0, none⟩), .int .i64 E, .int .i64 Wn, .int .i64 Rm, .bool true] 75, RecvO gr room acked n, SendO gs W La S xs]) := ⟨h2⟩
 have K0 : Aside0 (KeepS N w w) := ⟨KeepS.refl _ _⟩
 obtain ⟨a0a, a0b, a0c, a0d, a0e, a0f, b0⟩ := blk6_ (O0.out.blk (i := 0) rfl)
 clear h2 h hf he hW hR hq
 go_enter Tryd.func16, Tryd.ntmps16
 go_wp2_with (first | ((with_reducible refine gate_dst (N := 3) rfl ?_); refine bP 3 #[.int .i64 fe, .int .i64 fq, .int .i64 fa, .string fd] 40 O0.out ?_; intro gf w1 o_ k_; have O1 : Aside0 (Own N w1 [cells g #[.pointer (some ⟨gs, 0, none⟩), .pointer (some ⟨gr, 0, none⟩), .int .i64 E, .int .i64 Wn, .int .i64 Rm, .bool true] 75, RecvO gr room acked n, SendO gs W La S xs, cells gf #[.int .i64 fe, .int .i64 fq, .int .i64 fa, .string fd] 40]) := ⟨o_⟩; have K1 := Aside0.mk (K0.out.trans k_); clear a0a a0b a0c a0d a0e a0f b0 O0 K0; obtain ⟨a0a, a0b, a0c, a0d, a0e, a0f, b0⟩ := blk6_ (O1.out.blk (i := 0) rfl); obtain ⟨a3a, a3b, a3c, a3d, b3⟩ := blk4_ (O1.out.blk (i := 3) rfl); clear o_ k_))
 refine sP (n := 8) (S := fun w' => w'.cell? ⟨g, 0, none⟩ = some (.pointer (some ⟨gs, 0, none⟩)) ∧ w'.cell? ⟨g, 1, none⟩ = some (.pointer (some ⟨gr, 0, none⟩)) ∧ w'.cell? ⟨g, 2, none⟩ = some (.int .i64 E) ∧ w'.cell? ⟨g, 3, none⟩ = some (.int .i64 Wn) ∧ w'.cell? ⟨g, 4, none⟩ = some (.int .i64 Rm) ∧ w'.cell? ⟨g, 5, none⟩ = some (.bool true) ∧ w'.cell? ⟨gf, 0, none⟩ = some (.int .i64 fe) ∧ w'.cell? ⟨gf, 1, none⟩ = some (.int .i64 fq) ∧ w'.cell? ⟨gf, 2, none⟩ = some (.int .i64 fa) ∧ w'.cell? ⟨gf, 3, none⟩ = some (.string fd)) (ds := []) ⟨a0a, a0b, a0c, a0d, a0e, a0f, a3a, a3b, a3c, a3d⟩ (fun hHeld => ?_)
 obtain ⟨w2, hw_⟩ : ∃ W, W = w1.drew := ⟨_, rfl⟩
 have o_ := O1.out.drew
 have k_ : KeepS N w1 w1.drew := KeepS.drew
 rw [← hw_] at o_ k_ hHeld ⊢
 clear hw_
 have O2 := Aside0.mk o_
 have K2 := Aside0.mk (K1.out.trans k_)
 clear a0a a0b a0c a0d a0e a0f b0 a3a a3b a3c a3d b3 O1 K1
 obtain ⟨a0a, a0b, a0c, a0d, a0e, a0f, b0⟩ := blk6_ (O2.out.blk (i := 0) rfl)
 obtain ⟨a3a, a3b, a3c, a3d, b3⟩ := blk4_ (O2.out.blk (i := 3) rfl)
 clear o_ k_
 refine pP 0 (some 6) ?_
 refine pP 2 (some 8) ?_
 refine pP 3 (some 9) ?_
 refine pP 4 (some 10) ?_
 refine tP 1 (some 7) hHeld ?_
 refine tP 5 (some 11) hHeld ?_
 refine pP 6 (some 12) ?_
 refine pP 7 (some 5) ?_
 refine done_ (by kernel_rfl) ?_
 clear hHeld
 go_wp2
 refine sP (n := 17) (S := fun w' => w'.cell? ⟨g, 0, none⟩ = some (.pointer (some ⟨gs, 0, none⟩)) ∧ w'.cell? ⟨g, 1, none⟩ = some (.pointer (some ⟨gr, 0, none⟩)) ∧ w'.cell? ⟨g, 2, none⟩ = some (.int .i64 E) ∧ w'.cell? ⟨g, 3, none⟩ = some (.int .i64 Wn) ∧ w'.cell? ⟨g, 4, none⟩ = some (.int .i64 Rm) ∧ w'.cell? ⟨g, 5, none⟩ = some (.bool true) ∧ w'.cell? ⟨gf, 0, none⟩ = some (.int .i64 fe) ∧ w'.cell? ⟨gf, 1, none⟩ = some (.int .i64 fq) ∧ w'.cell? ⟨gf, 2, none⟩ = some (.int .i64 fa) ∧ w'.cell? ⟨gf, 3, none⟩ = some (.string fd)) (ds := []) ⟨a0a, a0b, a0c, a0d, a0e, a0f, a3a, a3b, a3c, a3d⟩ (fun hHeld => ?_)
 obtain ⟨w3, hw_⟩ : ∃ W, W = w2.drew := ⟨_, rfl⟩
 have o_ := O2.out.drew
 have k_ : KeepS N w2 w2.drew := KeepS.drew
 rw [← hw_] at o_ k_ hHeld ⊢
 clear hw_
 have O3 := Aside0.mk o_
 have K3 := Aside0.mk (K2.out.trans k_)
 clear a0a a0b a0c a0d a0e a0f b0 a3a a3b a3c a3d b3 O2 K2
 obtain ⟨a0a, a0b, a0c, a0d, a0e, a0f, b0⟩ := blk6_ (O3.out.blk (i := 0) rfl)
 obtain ⟨a3a, a3b, a3c, a3d, b3⟩ := blk4_ (O3.out.blk (i := 3) rfl)
 clear o_ k_
 refine pP 0 (some 13) ?_
 refine pP 2 (some 15) ?_
 refine pP 3 (some 16) ?_
 refine pP 4 (some 17) ?_
 refine tP 1 (some 14) hHeld ?_
 refine tP 5 (some 18) hHeld ?_
 refine pP 6 (some 19) ?_
 refine pP 7 (some 20) ?_
 refine pP 8 (some 21) ?_
 refine pP 9 (some 22) ?_
 refine pP 10 (some 23) ?_
 refine pP 11 (some 24) ?_
 refine pP 12 (some 25) ?_
 refine tP 13 (some 26) hHeld ?_
 refine pP 14 (some 27) ?_
 refine pP 15 (some 28) ?_
 refine pP 16 (some 29) ?_
 refine done_ (by kernel_rfl) ?_
 clear hHeld
 go_wp2_with (first | ((with_reducible refine gate_callee (f := 30) rfl ?_); refine gP (some 34) Tryd.func30 #[.pointer (some ⟨g, 0, none⟩), .int .i64 fe] ?_; obtain ⟨N_, on_, nn_, rr_, bb_⟩ := O3.out.frame1 (i := 0) rfl; refine (LBegin fe fe W2 room2 HE1.out HW.out HR.out on_).mono ?_; rintro e_ w4 ⟨rfl, oo_, kk_⟩; obtain ⟨o_, k_⟩ := bb_ _ _ _ kk_ oo_; refine ⟨_, rfl, ?_⟩; have O4 : Aside0 (Own N w4 [LinkO g fe Wn Rm true W2 1125899906842624 0 [] room2 0 0, RecvO gr room acked n, SendO gs W La S xs, cells gf #[.int .i64 fe, .int .i64 fq, .int .i64 fa, .string fd] 40]) := ⟨o_⟩; have K4 := Aside0.mk (K3.out.trans k_); clear a0a a0b a0c a0d a0e a0f b0 a3a a3b a3c a3d b3 O3 K3; obtain ⟨a3a, a3b, a3c, a3d, b3⟩ := blk4_ (O4.out.blk (i := 3) rfl); clear o_ k_ oo_ kk_ on_ nn_ rr_ bb_))
 obtain ⟨gs2, o1_⟩ := O4.out.of_ex (i := 0) rfl
 obtain ⟨gr2, o2_⟩ := o1_.of_ex (i := 0) rfl
 have o3_ := o2_.split (i := 0) rfl
 have o4_ := o3_.split (i := 0) rfl
 have O5 : Aside0 (Own N w4 [cells g #[.pointer (some ⟨gs2, 0, none⟩), .pointer (some ⟨gr2, 0, none⟩), .int .i64 fe, .int .i64 Wn, .int .i64 Rm, .bool true] 75, RecvO gr room acked n, SendO gs W La S xs, cells gf #[.int .i64 fe, .int .i64 fq, .int .i64 fa, .string fd] 40, RecvO gr2 room2 0 0, SendO gs2 W2 1125899906842624 0 []]) := ⟨o4_⟩
 have K5 := K4
 clear o1_ o2_ o3_ o4_ O4 K4 a3a a3b a3c a3d b3
 obtain ⟨a0a, a0b, a0c, a0d, a0e, a0f, b0⟩ := blk6_ (O5.out.blk (i := 0) rfl)
 obtain ⟨a3a, a3b, a3c, a3d, b3⟩ := blk4_ (O5.out.blk (i := 3) rfl)
 refine sP (n := 8) (S := fun w' => w'.cell? ⟨g, 0, none⟩ = some (.pointer (some ⟨gs2, 0, none⟩)) ∧ w'.cell? ⟨g, 1, none⟩ = some (.pointer (some ⟨gr2, 0, none⟩)) ∧ w'.cell? ⟨g, 2, none⟩ = some (.int .i64 fe) ∧ w'.cell? ⟨g, 3, none⟩ = some (.int .i64 Wn) ∧ w'.cell? ⟨g, 4, none⟩ = some (.int .i64 Rm) ∧ w'.cell? ⟨g, 5, none⟩ = some (.bool true) ∧ w'.cell? ⟨gf, 0, none⟩ = some (.int .i64 fe) ∧ w'.cell? ⟨gf, 1, none⟩ = some (.int .i64 fq) ∧ w'.cell? ⟨gf, 2, none⟩ = some (.int .i64 fa) ∧ w'.cell? ⟨gf, 3, none⟩ = some (.string fd)) (ds := []) ⟨a0a, a0b, a0c, a0d, a0e, a0f, a3a, a3b, a3c, a3d⟩ (fun hHeld => ?_)
 obtain ⟨w6, hw_⟩ : ∃ W, W = w4.drew := ⟨_, rfl⟩
 have o_ := O5.out.drew
 have k_ : KeepS N w4 w4.drew := KeepS.drew
 rw [← hw_] at o_ k_ hHeld ⊢
 clear hw_
 have O6 := Aside0.mk o_
 have K6 := Aside0.mk (K5.out.trans k_)
 clear a0a a0b a0c a0d a0e a0f b0 a3a a3b a3c a3d b3 O5 K5
 obtain ⟨a0a, a0b, a0c, a0d, a0e, a0f, b0⟩ := blk6_ (O6.out.blk (i := 0) rfl)
 obtain ⟨a3a, a3b, a3c, a3d, b3⟩ := blk4_ (O6.out.blk (i := 3) rfl)
 clear o_ k_
 refine pP 0 (some 35) ?_
 refine pP 1 (some 36) ?_
 refine pP 2 (some 37) ?_
 refine pP 3 (some 38) ?_
 refine pP 5 (some 40) ?_
 refine tP 4 (some 39) hHeld ?_
 refine tP 6 (some 41) hHeld ?_
 refine oP 7 (some 42) (fun K_ hK_ => ?_)
 refine hP Tryd.func40 #[.pointer (some ⟨gs2, 0, none⟩), .int .i64 fa] ?_
 obtain ⟨N_, on_, nn_, rr_, bb_⟩ := O6.out.frame1 (i := 5) rfl
 refine (SAck_a fa on_ (by decide)).mono ?_
 rintro e_ w7 ⟨rfl, oo_, kk_⟩
 obtain ⟨o_, k_⟩ := bb_ _ _ _ kk_ oo_
 refine ⟨_, rfl, ?_⟩
 have O7 : Aside0 (Own N w7 [cells g #[.pointer (some ⟨gs2, 0, none⟩), .pointer (some ⟨gr2, 0, none⟩), .int .i64 fe, .int .i64 Wn, .int .i64 Rm, .bool true] 75, RecvO gr room acked n, SendO gs W La S xs, cells gf #[.int .i64 fe, .int .i64 fq, .int .i64 fa, .string fd] 40, RecvO gr2 room2 0 0, SendO gs2 W2 1125899906842624 0 (ackX 0 fa [])]) := ⟨o_⟩
 have K7 := Aside0.mk (K6.out.trans k_)
 clear a0a a0b a0c a0d a0e a0f b0 a3a a3b a3c a3d b3 O6 K6
 obtain ⟨a0a, a0b, a0c, a0d, a0e, a0f, b0⟩ := blk6_ (O7.out.blk (i := 0) rfl)
 obtain ⟨a3a, a3b, a3c, a3d, b3⟩ := blk4_ (O7.out.blk (i := 3) rfl)
 clear o_ k_ oo_ kk_ on_ nn_ rr_ bb_
 clear hHeld
 refine hK_.out _ _ ⟨a0a, a0b, a0c, a0d, a0e, a0f, a3a, a3b, a3c, a3d⟩ (fun hHeld => ?_)
 clear hK_ K_
 refine nP ?_
 refine done_ (by kernel_rfl) ?_
 clear hHeld
 go_wp2
 refine sP (n := 10) (S := fun w' => w'.cell? ⟨g, 0, none⟩ = some (.pointer (some ⟨gs2, 0, none⟩)) ∧ w'.cell? ⟨g, 1, none⟩ = some (.pointer (some ⟨gr2, 0, none⟩)) ∧ w'.cell? ⟨g, 2, none⟩ = some (.int .i64 fe) ∧ w'.cell? ⟨g, 3, none⟩ = some (.int .i64 Wn) ∧ w'.cell? ⟨g, 4, none⟩ = some (.int .i64 Rm) ∧ w'.cell? ⟨g, 5, none⟩ = some (.bool true) ∧ w'.cell? ⟨gf, 0, none⟩ = some (.int .i64 fe) ∧ w'.cell? ⟨gf, 1, none⟩ = some (.int .i64 fq) ∧ w'.cell? ⟨gf, 2, none⟩ = some (.int .i64 fa) ∧ w'.cell? ⟨gf, 3, none⟩ = some (.string fd)) (ds := []) ⟨a0a, a0b, a0c, a0d, a0e, a0f, a3a, a3b, a3c, a3d⟩ (fun hHeld => ?_)
 obtain ⟨w8, hw_⟩ : ∃ W, W = w7.drew := ⟨_, rfl⟩
 have o_ := O7.out.drew
 have k_ : KeepS N w7 w7.drew := KeepS.drew
 rw [← hw_] at o_ k_ hHeld ⊢
 clear hw_
 have O8 := Aside0.mk o_
 have K8 := Aside0.mk (K7.out.trans k_)
 clear a0a a0b a0c a0d a0e a0f b0 a3a a3b a3c a3d b3 O7 K7
 obtain ⟨a0a, a0b, a0c, a0d, a0e, a0f, b0⟩ := blk6_ (O8.out.blk (i := 0) rfl)
 obtain ⟨a3a, a3b, a3c, a3d, b3⟩ := blk4_ (O8.out.blk (i := 3) rfl)
 clear o_ k_
 refine pP 0 (some 46) ?_
 refine pP 1 (some 47) ?_
 refine pP 2 (some 48) ?_
 refine pP 3 (some 49) ?_
 refine pP 5 (some 51) ?_
 refine pP 7 (some 53) ?_
 refine tP 4 (some 50) hHeld ?_
 refine tP 6 (some 52) hHeld ?_
 refine tP 8 (some 54) hHeld ?_
 refine oP 9 (some 55) (fun K_ hK_ => ?_)
 refine hP Tryd.func41 #[.pointer (some ⟨gr2, 0, none⟩), .int .i64 fq, .string fd] ?_
 obtain ⟨N_, on_, nn_, rr_, bb_⟩ := O8.out.frame1 (i := 4) rfl
 refine (RecvHear_a fq fd on_ (by decide) HRR.out).mono ?_
 rintro e_ w9 ⟨rfl, oo_, kk_⟩
 obtain ⟨o_, k_⟩ := bb_ _ _ _ kk_ oo_
 refine ⟨_, rfl, ?_⟩
 have O9 : Aside0 (Own N w9 [cells g #[.pointer (some ⟨gs2, 0, none⟩), .pointer (some ⟨gr2, 0, none⟩), .int .i64 fe, .int .i64 Wn, .int .i64 Rm, .bool true] 75, RecvO gr room acked n, SendO gs W La S xs, cells gf #[.int .i64 fe, .int .i64 fq, .int .i64 fa, .string fd] 40, RecvO gr2 room2 (hearA room2 0 0 fq) (hearN room2 0 0 fq), SendO gs2 W2 1125899906842624 0 (ackX 0 fa [])]) := ⟨o_⟩
 have K9 := Aside0.mk (K8.out.trans k_)
 clear a0a a0b a0c a0d a0e a0f b0 a3a a3b a3c a3d b3 O8 K8
 obtain ⟨a0a, a0b, a0c, a0d, a0e, a0f, b0⟩ := blk6_ (O9.out.blk (i := 0) rfl)
 obtain ⟨a3a, a3b, a3c, a3d, b3⟩ := blk4_ (O9.out.blk (i := 3) rfl)
 clear o_ k_ oo_ kk_ on_ nn_ rr_ bb_
 clear hHeld
 refine hK_.out _ _ ⟨a0a, a0b, a0c, a0d, a0e, a0f, a3a, a3b, a3c, a3d⟩ (fun hHeld => ?_)
 clear hK_ K_
 refine nP ?_
 refine done_ (by kernel_rfl) ?_
 clear hHeld
 go_wp2
 go_ret
 exact ⟨rfl, LinkO.shut (gs := gs2) (gr := gr2) (O9.out.pickL [0, 4, 5] (by decide) (by simp)), K9.out⟩
end Go.Proofs.YtjmoncfgoaaekaaDoor.J
namespace Go.Proofs.YtjmoncfgoaaekaaDoor.J
set_option linter.unusedSimpArgs false
set_option linter.unusedVariables false
open Go Go.RowKit Go.Proofs.YtjmoncfgoaaekaaDoorW.PrintWords Go.Proofs.YtjmoncfgoaaekaaDoorW.PrintLast Go.Proofs.YtjmoncfgoaaekaaDoorW.PrintMore Go.Proofs.YtjmoncfgoaaekaaDoor.Q Go.Proofs.YtjmoncfgoaaekaaDoor.Sep Go.Proofs.YtjmoncfgoaaekaaDoor.Pure
attribute [local go_sem] max2_int min2_int max_two min_two max_three min_three max_four min_four
set_option maxHeartbeats 16000000 in
set_option maxRecDepth 100000 in
theorem one {N : Nat → Prop} {w : World} (n : Int) (h : Own N w []) :
  Calls Tryd.prog 32 #[.int .i64 n] w fun e_ w' => ∃ B1 d1, e_ = .returned (.agg #[.int .i64 1, .int .i64 n, .slice B1 1 d1]) ∧ Own N w' [nrow k114 114 (.slice B1 1 d1) awU] ∧ KeepS N w w' := by
 have O0 : Aside0 (Own N w []) := ⟨h⟩
 have K0 : Aside0 (KeepS N w w) := ⟨KeepS.refl _ _⟩
 clear h
 go_enter Tryd.func32, Tryd.ntmps32
 go_wp2_with (first | ((with_reducible refine gate_dst (N := 2) rfl ?_); refine bP 2 #[.int .i64 0, .int .i64 0, .slice none 0 0] 43 O0.out ?_; intro g1 w1 o_ k_; have O1 : Aside0 (Own N w1 [cells g1 #[.int .i64 0, .int .i64 0, .slice none 0 0] 43]) := ⟨o_⟩; have K1 := Aside0.mk (K0.out.trans k_); clear O0 K0; obtain ⟨a0a, a0b, a0c, b0⟩ := blk3_ (O1.out.blk (i := 0) rfl); clear o_ k_) | ((with_reducible refine gate_dst (N := 5) rfl ?_); refine own_lit k114 (N := N) (e := 114) (xs := awU) (inner := [.string ⟨#[107]⟩, .int .i64 5, .int .i64 0, .string ⟨#[]⟩]) rfl (D := 5) rfl ?hr ?hp (by decide) O1.out ?_; (case hr => first | (go_simp; done) | (go_simp; rfl)); (case hp => exact awRep _); intro B1 d1 w2 o_ k_; have O2 : Aside0 (Own N w2 [cells g1 #[.int .i64 0, .int .i64 0, .slice none 0 0] 43, nrow k114 114 (.slice B1 1 d1) (awU)]) := ⟨o_⟩; have K2 := Aside0.mk (K1.out.trans k_); clear a0a a0b a0c b0 O1 K1; obtain ⟨a0a, a0b, a0c, b0⟩ := blk3_ (O2.out.blk (i := 0) rfl); clear o_ k_) | ((with_reducible refine gate_store (t := 43) (p := 2) rfl ?_); refine wP (World.setCell (World.setCell (World.setCell w2 ⟨g1, 0, none⟩ (.int .i64 1)) ⟨g1, 1, none⟩ (.int .i64 n)) ⟨g1, 2, none⟩ (.slice B1 1 d1)) [cells g1 #[.int .i64 1, .int .i64 n, .slice B1 1 d1] 43, nrow k114 114 (.slice B1 1 d1) (awU)] (((O2.out.set (i := 0) rfl 0 (.int .i64 1)).set (i := 0) rfl 1 (.int .i64 n)).set (i := 0) rfl 2 (.slice B1 1 d1)) (((KeepS.setCell (O2.out.far (i := 0) rfl) (.int .i64 1)).trans (KeepS.setCell (O2.out.far (i := 0) rfl) (.int .i64 n))).trans (KeepS.setCell (O2.out.far (i := 0) rfl) (.slice B1 1 d1))) ?_; intro w3 o_ k_; have O3 := Aside0.mk o_; have K3 := Aside0.mk (K2.out.trans k_); clear a0a a0b a0c b0 O2 K2; obtain ⟨a0a, a0b, a0c, b0⟩ := blk3_ (O3.out.blk (i := 0) rfl); clear o_ k_))
 refine bodyPost_ret (results_cell_row rfl _ _ g1 43 #[.int .i64 1, .int .i64 n, .slice B1 1 d1] (0, 0) _ rfl (O3.out.blk (i := 0) rfl) Tryd.underlying43 rfl (by kernel_rfl)) rfl ?_
 exact ⟨B1, d1, rfl, O3.out.pick1 (a := 1) rfl, K3.out⟩
def aw15 : List Rnd := [⟨1, 1, awU⟩, ⟨1, 2, awU⟩, ⟨1, 3, awU⟩]
def b1_ : ByteArray := bR ⟨1, 1, awU⟩
def b2_ : ByteArray := bR ⟨1, 2, awU⟩
def b3_ : ByteArray := bR ⟨1, 3, awU⟩
def awS (x : Int) : List Rnd := aw15.take x.toNat
theorem aw15_good : Good 1 aw15 := fun r hr => by
 simp only [aw15, List.mem_cons, List.not_mem_nil, or_false] at hr
 rcases hr with rfl | rfl | rfl
 ·exact ⟨by kernel_rfl, by decide⟩
 ·exact ⟨by kernel_rfl, by decide⟩
 ·exact ⟨by kernel_rfl, by decide⟩
theorem awS_good (x : Int) : Good 1 (awS x) := fun r hr => aw15_good r (List.mem_of_mem_take hr)
theorem awS_len (x : Int) : (awS x).length ≤ 1000000 := by
 unfold awS
 rw [List.length_take]
 have : aw15.length = 3 := rfl
 omega
theorem aw15_add (x : Int) (h0 : 0 ≤ x) (h1 : x < 3) : addE 1 (awS x) ⟨1, x + 1, awU⟩ = 0 ∧ awS (x + 1) = awS x ++ [⟨1, x + 1, awU⟩] := by
 have h : x = 0 ∨ x = 1 ∨ x = 2 := by omega
 rcases h with rfl | rfl | rfl
 ·exact ⟨by kernel_rfl, rfl⟩
 ·exact ⟨by kernel_rfl, rfl⟩
 ·exact ⟨by kernel_rfl, rfl⟩
theorem at_Frm {w : World} {A : Option Addr} {n : Nat} {xs : List Frm} (h : k40.C w A n xs) (h1 : 0 < n) : ∃ ad, A = some ad := by
 obtain ⟨ad, c, e, _⟩ := ReadsRow.get_ h (⟨0, 0, 0, ⟨#[]⟩⟩ : Frm) 0 (by omega) (by omega)
 exact ⟨ad, e⟩
def frAt (xs : List Frm) (x : Int) : Frm := xs.getD x.toNat ⟨0, 0, 0, ⟨#[]⟩⟩
theorem at_FrmC {w : World} {ad : Addr} {n : Nat} {xs : List Frm} (h : k40.C w (some ad) n xs) (x : Int) (h0 : 0 ≤ x) (h1 : x < n) : w.cell? (ad.add (x.toNat * 4)) = some (.int .i64 (frAt xs x).f0) ∧ w.cell? ⟨(ad.add (x.toNat * 4)).block, (ad.add (x.toNat * 4)).off + 1, none⟩ = some (.int .i64 (frAt xs x).f1) ∧ w.cell? ⟨(ad.add (x.toNat * 4)).block, (ad.add (x.toNat * 4)).off + 2, none⟩ = some (.int .i64 (frAt xs x).f2) ∧ w.cell? ⟨(ad.add (x.toNat * 4)).block, (ad.add (x.toNat * 4)).off + 3, none⟩ = some (.string (frAt xs x).f3) := by
 obtain ⟨ad2, c, e, hl, hk, hc0⟩ := ReadsRow.get_ h (⟨0, 0, 0, ⟨#[]⟩⟩ : Frm) x h0 h1
 cases e
 have hk' := k40_open hk
 subst hk'
 have hc : ∀ j u, ([.int .i64 (frAt xs x).f0, .int .i64 (frAt xs x).f1, .int .i64 (frAt xs x).f2, .string (frAt xs x).f3] : List Value)[j]? = some u → w.cell? (ad.add (x.toNat * 4 + j)) = some u := hc0
 exact ⟨hc 0 _ rfl, by rw [← add_field _ _ 1 (by omega)]; exact hc 1 _ rfl, by rw [← add_field _ _ 2 (by omega)]; exact hc 2 _ rfl, by rw [← add_field _ _ 3 (by omega)]; exact hc 3 _ rfl⟩
theorem at_FrmC0 {w : World} {ad : Addr} {n : Nat} {xs : List Frm} (h : k40.C w (some ad) n xs) (h1 : 0 < n) : w.cell? ⟨ad.block, ad.off + 1, none⟩ = some (.int .i64 (frAt xs 0).f1) ∧ w.cell? ⟨ad.block, ad.off + 3, none⟩ = some (.string (frAt xs 0).f3) := by
 have q := at_FrmC h 0 (by decide) (by omega)
 have e : ad.add ((0 : Int).toNat * 4) = ad := by cases ad; simp [Addr.add]
 rw [e] at q
 exact ⟨q.2.1, q.2.2.2⟩
section
variable {N : Nat → Prop} {w : World} {gf gl gk : Nat}
theorem aw_pump1 (h : Own N w [cells gf #[.int .i64 0] 78, ObjC gl 1 aw15, LinkO gk 1 2 2 true 2 1125899906842624 0 [] 2 0 0]) (ht : TabN N w) : Calls Tryd.prog 14 #[.pointer (some ⟨gf, 0, none⟩), .pointer (some ⟨gl, 0, none⟩), .pointer (some ⟨gk, 0, none⟩)] w fun e_ w' => e_ = .returned (.int .i64 2) ∧ Own N w' [cells gf #[.int .i64 2] 78, ObjC gl 1 aw15, LinkO gk 1 2 2 true 2 1125899906842624 2 [(1, b1_), (2, b2_)] 2 0 0] ∧ KeepS N w w' :=
 FPump 2 h ht (by decide) aw15_good (by decide) (by decide) (by decide) ⟨by decide, by decide, by decide, .inr (by decide)⟩
theorem aw_hear (h : Own N w [LinkO gk 1 2 2 true 2 1125899906842624 2 [(1, b1_), (2, b2_)] 2 0 0]) : Calls Tryd.prog 16 #[.pointer (some ⟨gk, 0, none⟩), .agg #[.int .i64 1, .int .i64 0, .int .i64 1, .string ⟨#[]⟩]] w fun e_ w' => e_ = .returned (.bool false) ∧ Own N w' [LinkO gk 1 2 2 true 2 1125899906842624 2 [(2, b2_)] 2 0 0] ∧ KeepS N w w' :=
  by have e : ackX 2 1 [(1, b1_), (2, b2_)] = [(2, b2_)] := by simp [ackX, lead]
     have q := LHear_ack 1 0 1 ⟨#[]⟩ h rfl (by decide) rfl
     rw [e] at q
     exact q
theorem aw_pump2 (h : Own N w [cells gf #[.int .i64 2] 78, ObjC gl 1 aw15, LinkO gk 1 2 2 true 2 1125899906842624 2 [(2, b2_)] 2 0 0]) (ht : TabN N w) : Calls Tryd.prog 14 #[.pointer (some ⟨gf, 0, none⟩), .pointer (some ⟨gl, 0, none⟩), .pointer (some ⟨gk, 0, none⟩)] w fun e_ w' => e_ = .returned (.int .i64 1) ∧ Own N w' [cells gf #[.int .i64 3] 78, ObjC gl 1 aw15, LinkO gk 1 2 2 true 2 1125899906842624 3 [(2, b2_), (3, b3_)] 2 0 0] ∧ KeepS N w w' :=
 FPump 1 h ht (by decide) aw15_good (by decide) (by decide) (by decide) ⟨by decide, by decide, by decide, .inr (by decide)⟩
theorem aw_frames (h : Own N w [LinkO gk 1 2 2 true 2 1125899906842624 3 [(2, b2_), (3, b3_)] 2 0 0]) : Calls Tryd.prog 23 #[.pointer (some ⟨gk, 0, none⟩)] w fun e_ w' => ∃ A1 c1, e_ = .returned (.slice A1 2 c1) ∧ Own N w' [LinkO gk 1 2 2 true 2 1125899906842624 3 [(2, b2_), (3, b3_)] 2 0 0, nrow k40 40 (.slice A1 2 c1) [fr 1 0 (2, b2_), fr 1 0 (3, b3_)]] ∧ KeepS N w w' :=
 LFrames h (by decide) (by decide)
theorem aw_new (h : Own N w []) : Calls Tryd.prog 7 #[.int .i64 1] w fun e w' => ∃ g, e = .returned (.pointer (some ⟨g, 0, none⟩)) ∧ Own N w' [ObjC g 1 []] ∧ KeepS N w w' := New 1 h
theorem aw_link (h : Own N w []) : Calls Tryd.prog 8 #[.int .i64 1, .int .i64 2, .int .i64 2, .bool true] w fun e_ w' => ∃ gk, e_ = .returned (.pointer (some ⟨gk, 0, none⟩)) ∧ Own N w' [LinkO gk 1 2 2 true 2 1125899906842624 0 [] 2 0 0] ∧ KeepS N w w' := LNew 1 2 2 true 1 2 2 (by decide) (by decide) (by decide) h
end
theorem aw_bytes : chapbookref07_Bytes.f 60 1 2 awU = some b2_ := rbytesR 20 (o := 1) (n := 2) (l := awU) (by kernel_rfl)
def AwI (N : Nat → Prop) (w : World) (gl gk gf : Nat) (i : Value) (wr : World) : Prop := ∃ x : Int, 0 ≤ x ∧ x ≤ 3 ∧ i = .int .i64 x ∧ Aside0 (Own N wr [ObjC gl 1 (awS x), LinkO gk 1 2 2 true 2 1125899906842624 0 [] 2 0 0, cells gf #[.int .i64 0] 78]) ∧ Aside0 (KeepS N w wr)
set_option maxHeartbeats 16000000 in
set_option maxRecDepth 100000 in
theorem awake (w : World) (HT : Aside0 (Tab w)) :
  Calls Tryd.prog 12 #[] w fun e_ w' => e_ = .returned (.bool true) ∧ Below w.heap.size w w' := by
 obtain ⟨N, hN⟩ : ∃ N : Nat → Prop, N = fun k => k < w.heap.size := ⟨_, rfl⟩
 have HN := Aside0.mk hN
 have HT_0 : Aside0 (TabN N w) := ⟨by rw [hN]; exact World.block_lt_of_cell? w _ HT.out.1, HT.out⟩
 have O0 : Aside0 (Own N w []) := ⟨Own.start_ (fun k hk => by rw [hN] at hk; exact hk)⟩
 have K0 : Aside0 (KeepS N w w) := ⟨KeepS.refl _ _⟩
 have HT00 := HT_0
 clear hN HT
 go_enter Tryd.func12, Tryd.ntmps12
 go_wp2_with (first | ((with_reducible refine gate_callee (f := 7) rfl ?_); refine gP (some 9) Tryd.func7 #[.int .i64 1] ?_; obtain ⟨N_, on_, nn_, rr_, bb_⟩ := O0.out.frame0; refine (aw_new on_).mono ?_; rintro e_ w1 ⟨gl, rfl, oo_, kk_⟩; obtain ⟨o_, k_⟩ := bb_ _ _ kk_ oo_; refine ⟨_, rfl, ?_⟩; have O1 : Aside0 (Own N w1 [ObjC gl 1 []]) := ⟨o_⟩; have K1 := Aside0.mk (K0.out.trans k_); have HT_1 := Aside0.mk (TabN.keep HT_0.out k_); clear O0 K0 HT_0; clear o_ k_ oo_ kk_ on_ nn_ rr_ bb_) | ((with_reducible refine gate_callee (f := 8) rfl ?_); refine gP (some 10) Tryd.func8 #[.int .i64 1, .int .i64 2, .int .i64 2, .bool true] ?_; obtain ⟨N_, on_, nn_, rr_, bb_⟩ := O1.out.frame0; refine (aw_link on_).mono ?_; rintro e_ w2 ⟨gk, rfl, oo_, kk_⟩; obtain ⟨o_, k_⟩ := bb_ _ _ kk_ oo_; refine ⟨_, rfl, ?_⟩; have O2 : Aside0 (Own N w2 [ObjC gl 1 [], LinkO gk 1 2 2 true 2 1125899906842624 0 [] 2 0 0]) := ⟨o_⟩; have K2 := Aside0.mk (K1.out.trans k_); have HT_2 := Aside0.mk (TabN.keep HT_1.out k_); clear O1 K1 HT_1; clear o_ k_ oo_ kk_ on_ nn_ rr_ bb_) | ((with_reducible refine gate_callee (f := 9) rfl ?_); refine gP (some 11) Tryd.func9 #[] ?_; obtain ⟨N_, on_, nn_, rr_, bb_⟩ := O2.out.frame0; refine (FNew on_).mono ?_; rintro e_ w3 ⟨gf, rfl, oo_, kk_⟩; obtain ⟨o_, k_⟩ := bb_ _ _ kk_ oo_; refine ⟨_, rfl, ?_⟩; have O3 : Aside0 (Own N w3 [ObjC gl 1 [], LinkO gk 1 2 2 true 2 1125899906842624 0 [] 2 0 0, cells gf #[.int .i64 0] 78]) := ⟨o_⟩; have K3 := Aside0.mk (K2.out.trans k_); have HT_3 := Aside0.mk (TabN.keep HT_2.out k_); clear O2 K2 HT_2; clear o_ k_ oo_ kk_ on_ nn_ rr_ bb_))
 go_loopw [22] (fun i wr => AwI N w gl gk gf i wr) (fun i _ => (3 - intOf i).toNat)
 case atStart => exact ⟨0, by omega, by omega, rfl, O3, K3⟩
 case round =>
  obtain ⟨x, hx0, hx1, rfl, OA, KA⟩ := hrel
  clear O3 K3 HT_3
  by_cases hlt : x < 3
  ·have hw1 : wrap64 (x + 1) = x + 1 := by unfold wrap64; omega
   have hw2 : IntKind.i64.wrap (x + 1) = x + 1 := by rw [IntKind.wrap_i64]; omega
   have hd : decide (x < 3) = true := decide_eq_true hlt
   have HX := Aside0.mk (And.intro hx0 hlt)
   clear hx0 hx1 hlt
   have O4 : Aside0 (Own N wr [ObjC gl 1 (awS x), LinkO gk 1 2 2 true 2 1125899906842624 0 [] 2 0 0, cells gf #[.int .i64 0] 78]) := ⟨OA.out⟩
   have K4 : Aside0 (KeepS N w wr) := ⟨KA.out⟩
   clear OA KA
   go_wp2_with (first | ((with_reducible refine gate_callee (f := 32) rfl ?_); refine gP (some 28) Tryd.func32 #[.int .i64 (x + 1)] ?_; obtain ⟨N_, on_, nn_, rr_, bb_⟩ := O4.out.frame0; refine (one (x + 1) on_).mono ?_; rintro e_ w5 ⟨B0, d0, rfl, oo_, kk_⟩; obtain ⟨o_, k_⟩ := bb_ _ _ kk_ oo_; refine ⟨_, rfl, ?_⟩; have O5 : Aside0 (Own N w5 [ObjC gl 1 (awS x), LinkO gk 1 2 2 true 2 1125899906842624 0 [] 2 0 0, cells gf #[.int .i64 0] 78, nrow k114 114 (.slice B0 1 d0) awU]) := ⟨o_⟩; have K5 := Aside0.mk (K4.out.trans k_); clear O4 K4; clear o_ k_ oo_ kk_ on_ nn_ rr_ bb_) | ((with_reducible refine gate_callee (f := 19) rfl ?_); refine gP (some 29) Tryd.func19 #[.pointer (some ⟨gl, 0, none⟩), .agg #[.int .i64 1, .int .i64 (x + 1), .slice B0 1 d0]] ?_; obtain ⟨N_, on_, nn_, rr_, bb_⟩ := O5.out.frame1 (i := 0) rfl; have hr_ := Kd.N_F (rr_ 3 _ (by decide) rfl); have hc_ := (O5.out.nreads (i := 3) rfl).2.1; refine (Add_y B0 d0 1 (x + 1) awU on_ hr_ hc_ (awS_len x) (by decide) (awS_good x) (aw15_add x HX.out.1 HX.out.2).1).mono ?_; rintro e_ w6 ⟨rfl, oo_, kk_⟩; obtain ⟨o_, k_⟩ := bb_ _ _ _ kk_ oo_; refine ⟨_, rfl, ?_⟩; have O6 : Aside0 (Own N w6 [ObjC gl 1 (awS x ++ [⟨1, x + 1, awU⟩]), LinkO gk 1 2 2 true 2 1125899906842624 0 [] 2 0 0, cells gf #[.int .i64 0] 78, nrow k114 114 (.slice B0 1 d0) awU]) := ⟨o_⟩; have K6 := Aside0.mk (K5.out.trans k_); clear O5 K5; clear o_ k_ oo_ kk_ on_ nn_ rr_ bb_ hr_ hc_))
   go_roundw
   case rel => exact ⟨x + 1, by have := HX.out; omega, by have := HX.out; omega, rfl, ⟨by rw [(aw15_add x HX.out.1 HX.out.2).2]; exact O6.out.take 3⟩, K6⟩
   case measure => have := HX.out; simp [intOf]; omega
  ·have hxe : x = 3 := by omega
   subst hxe
   have hd : decide ((3 : Int) < 3) = false := by decide
   clear hlt hx0 hx1
   have O4 : Aside0 (Own N wr [ObjC gl 1 aw15, LinkO gk 1 2 2 true 2 1125899906842624 0 [] 2 0 0, cells gf #[.int .i64 0] 78]) := ⟨OA.out⟩
   have K4 : Aside0 (KeepS N w wr) := ⟨KA.out⟩
   have HT_4 : Aside0 (TabN N wr) := ⟨HT00.out.keep KA.out⟩
   clear OA KA
   go_wp2_with (first | ((with_reducible refine gate_callee (f := 14) rfl ?_); refine gP (some 34) Tryd.func14 #[.pointer (some ⟨gf, 0, none⟩), .pointer (some ⟨gl, 0, none⟩), .pointer (some ⟨gk, 0, none⟩)] ?_; obtain ⟨N_, on_, nn_, rr_, bb_⟩ := O4.out.frameL [2, 0, 1] (by decide) (by simp); refine (aw_pump1 on_ (TabN.mono HT_4.out nn_)).mono ?_; rintro e_ w5 ⟨rfl, oo_, kk_⟩; obtain ⟨o_, k_⟩ := bb_ _ [cells gf #[.int .i64 2] 78, ObjC gl 1 aw15, LinkO gk 1 2 2 true 2 1125899906842624 2 [(1, b1_), (2, b2_)] 2 0 0] [] rfl kk_ oo_; refine ⟨_, rfl, ?_⟩; have O5 : Aside0 (Own N w5 [ObjC gl 1 aw15, LinkO gk 1 2 2 true 2 1125899906842624 2 [(1, b1_), (2, b2_)] 2 0 0, cells gf #[.int .i64 2] 78]) := ⟨o_⟩; have K5 := Aside0.mk (K4.out.trans k_); have HT_5 := Aside0.mk (TabN.keep HT_4.out k_); clear O4 K4 HT_4; clear o_ k_ oo_ kk_ on_ nn_ rr_ bb_) | ((with_reducible refine gate_callee (f := 16) rfl ?_); refine gP (some 37) Tryd.func16 #[.pointer (some ⟨gk, 0, none⟩), .agg #[.int .i64 1, .int .i64 0, .int .i64 1, .string ⟨#[]⟩]] ?_; obtain ⟨N_, on_, nn_, rr_, bb_⟩ := O5.out.frame1 (i := 1) rfl; refine (aw_hear on_).mono ?_; rintro e_ w6 ⟨rfl, oo_, kk_⟩; obtain ⟨o_, k_⟩ := bb_ _ _ _ kk_ oo_; refine ⟨_, rfl, ?_⟩; have O6 : Aside0 (Own N w6 [ObjC gl 1 aw15, LinkO gk 1 2 2 true 2 1125899906842624 2 [(2, b2_)] 2 0 0, cells gf #[.int .i64 2] 78]) := ⟨o_⟩; have K6 := Aside0.mk (K5.out.trans k_); have HT_6 := Aside0.mk (TabN.keep HT_5.out k_); clear O5 K5 HT_5; clear o_ k_ oo_ kk_ on_ nn_ rr_ bb_) | ((with_reducible refine gate_callee (f := 14) rfl ?_); refine gP (some 41) Tryd.func14 #[.pointer (some ⟨gf, 0, none⟩), .pointer (some ⟨gl, 0, none⟩), .pointer (some ⟨gk, 0, none⟩)] ?_; obtain ⟨N_, on_, nn_, rr_, bb_⟩ := O6.out.frameL [2, 0, 1] (by decide) (by simp); refine (aw_pump2 on_ (TabN.mono HT_6.out nn_)).mono ?_; rintro e_ w7 ⟨rfl, oo_, kk_⟩; obtain ⟨o_, k_⟩ := bb_ _ [cells gf #[.int .i64 3] 78, ObjC gl 1 aw15, LinkO gk 1 2 2 true 2 1125899906842624 3 [(2, b2_), (3, b3_)] 2 0 0] [] rfl kk_ oo_; refine ⟨_, rfl, ?_⟩; have O7 : Aside0 (Own N w7 [ObjC gl 1 aw15, LinkO gk 1 2 2 true 2 1125899906842624 3 [(2, b2_), (3, b3_)] 2 0 0, cells gf #[.int .i64 3] 78]) := ⟨o_⟩; have K7 := Aside0.mk (K6.out.trans k_); have HT_7 := Aside0.mk (TabN.keep HT_6.out k_); clear O6 K6 HT_6; clear o_ k_ oo_ kk_ on_ nn_ rr_ bb_) | ((with_reducible refine gate_callee (f := 21) rfl ?_); refine gP (some 43) Tryd.func21 #[.pointer (some ⟨gf, 0, none⟩)] ?_; obtain ⟨N_, on_, nn_, rr_, bb_⟩ := O7.out.frame1 (i := 2) rfl; refine (FAt on_).mono ?_; rintro e_ w8 ⟨rfl, oo_, kk_⟩; obtain ⟨o_, k_⟩ := bb_ _ _ _ kk_ oo_; refine ⟨_, rfl, ?_⟩; have O8 : Aside0 (Own N w8 [ObjC gl 1 aw15, LinkO gk 1 2 2 true 2 1125899906842624 3 [(2, b2_), (3, b3_)] 2 0 0, cells gf #[.int .i64 3] 78]) := ⟨o_⟩; have K8 := Aside0.mk (K7.out.trans k_); have HT_8 := Aside0.mk (TabN.keep HT_7.out k_); clear O7 K7 HT_7; clear o_ k_ oo_ kk_ on_ nn_ rr_ bb_) | ((with_reducible refine gate_callee (f := 18) rfl ?_); refine gP (some 45) Tryd.func18 #[.pointer (some ⟨gf, 0, none⟩)] ?_; obtain ⟨N_, on_, nn_, rr_, bb_⟩ := O8.out.frame1 (i := 2) rfl; refine (FReset on_).mono ?_; rintro e_ w9 ⟨rfl, oo_, kk_⟩; obtain ⟨o_, k_⟩ := bb_ _ _ _ kk_ oo_; refine ⟨_, rfl, ?_⟩; have O9 : Aside0 (Own N w9 [ObjC gl 1 aw15, LinkO gk 1 2 2 true 2 1125899906842624 3 [(2, b2_), (3, b3_)] 2 0 0, cells gf #[.int .i64 0] 78]) := ⟨o_⟩; have K9 := Aside0.mk (K8.out.trans k_); have HT_9 := Aside0.mk (TabN.keep HT_8.out k_); clear O8 K8 HT_8; clear o_ k_ oo_ kk_ on_ nn_ rr_ bb_) | ((with_reducible refine gate_callee (f := 23) rfl ?_); refine gP (some 47) Tryd.func23 #[.pointer (some ⟨gk, 0, none⟩)] ?_; obtain ⟨N_, on_, nn_, rr_, bb_⟩ := O9.out.frame1 (i := 1) rfl; refine (aw_frames on_).mono ?_; rintro e_ w10 ⟨A7, e7, rfl, oo_, kk_⟩; obtain ⟨o_, k_⟩ := bb_ _ _ _ kk_ oo_; refine ⟨_, rfl, ?_⟩; have O10 : Aside0 (Own N w10 [ObjC gl 1 aw15, LinkO gk 1 2 2 true 2 1125899906842624 3 [(2, b2_), (3, b3_)] 2 0 0, cells gf #[.int .i64 0] 78, nrow k40 40 (.slice A7 2 e7) [fr 1 0 (2, b2_), fr 1 0 (3, b3_)]]) := ⟨o_⟩; have K10 := Aside0.mk (K9.out.trans k_); have HT_10 := Aside0.mk (TabN.keep HT_9.out k_); clear O9 K9 HT_9; clear o_ k_ oo_ kk_ on_ nn_ rr_ bb_))
   obtain ⟨ad, ead⟩ := at_Frm (O10.out.nreads (i := 3) rfl).2.2 (by decide)
   cases ead
   refine sP (n := 37) (S := fun w' => w'.cell? ⟨ad.block, ad.off + 1, none⟩ = some (.int .i64 2) ∧ w'.cell? ⟨ad.block, ad.off + 3, none⟩ = some (.string b2_)) (ds := []) ⟨(at_FrmC0 ((O10.out.drew).nreads (i := 3) rfl).2.2 (by decide)).1, (at_FrmC0 ((O10.out.drew).nreads (i := 3) rfl).2.2 (by decide)).2⟩ (fun hHeld => ?_)
   obtain ⟨w11, hw_⟩ : ∃ W, W = w10.drew := ⟨_, rfl⟩
   have o_ := O10.out.drew
   have k_ : KeepS N w10 w10.drew := KeepS.drew
   rw [← hw_] at o_ k_ hHeld ⊢
   clear hw_
   have O11 := Aside0.mk o_
   have K11 := Aside0.mk (K10.out.trans k_)
   have HT_11 := Aside0.mk (TabN.keep HT_10.out k_)
   clear O10 K10 HT_10
   clear o_ k_
   refine pP 0 (some 48) ?_
   refine pP 1 (some 49) ?_
   refine pP 2 (some 50) ?_
   refine pP 3 (some 51) ?_
   refine pP 4 (some 52) ?_
   refine pP 5 (some 53) ?_
   refine pP 6 (some 54) ?_
   refine pP 7 (some 55) ?_
   refine pP 8 (some 56) ?_
   refine pP 9 (some 57) ?_
   refine pP 10 (some 58) ?_
   refine pP 11 (some 59) ?_
   refine oP 12 (some 60) (fun K_ hK_ => ?_)
   refine hP Tryd.func21 #[.pointer (some ⟨gf, 0, none⟩)] ?_
   obtain ⟨N_, on_, nn_, rr_, bb_⟩ := O11.out.frame1 (i := 2) rfl
   refine (FAt on_).mono ?_
   rintro e_ w12 ⟨rfl, oo_, kk_⟩
   obtain ⟨o_, k_⟩ := bb_ _ _ _ kk_ oo_
   refine ⟨_, rfl, ?_⟩
   have O12 : Aside0 (Own N w12 [ObjC gl 1 aw15, LinkO gk 1 2 2 true 2 1125899906842624 3 [(2, b2_), (3, b3_)] 2 0 0, cells gf #[.int .i64 0] 78, nrow k40 40 (.slice (some ad) 2 e7) [fr 1 0 (2, b2_), fr 1 0 (3, b3_)]]) := ⟨o_⟩
   have K12 := Aside0.mk (K11.out.trans k_)
   have HT_12 := Aside0.mk (TabN.keep HT_11.out k_)
   clear O11 K11 HT_11
   clear o_ k_ oo_ kk_ on_ nn_ rr_ bb_
   clear hHeld
   refine hK_.out _ _ ⟨(at_FrmC0 (O12.out.nreads (i := 3) rfl).2.2 (by decide)).1, (at_FrmC0 (O12.out.nreads (i := 3) rfl).2.2 (by decide)).2⟩ (fun hHeld => ?_)
   clear hK_ K_
   refine nP ?_
   refine pP 13 (some 61) ?_
   refine pP 14 (some 62) ?_
   refine pP 15 (some 63) ?_
   refine pP 16 (some 64) ?_
   refine pP 17 (some 65) ?_
   refine pP 18 (some 66) ?_
   refine pP 19 (some 67) ?_
   refine pP 20 (some 68) ?_
   refine pP 21 (some 69) ?_
   refine pP 22 (some 70) ?_
   refine pP 23 (some 71) ?_
   refine tP 24 (some 72) hHeld ?_
   refine pP 25 (some 73) ?_
   refine pP 26 (some 74) ?_
   refine pP 27 (some 75) ?_
   refine pP 28 (some 76) ?_
   refine pP 29 (some 77) ?_
   refine pP 30 (some 78) ?_
   refine tP 31 (some 79) hHeld ?_
   refine oP 32 (some 80) (fun K_ hK_ => ?_)
   refine hP Tryd.func32 #[.int .i64 2] ?_
   obtain ⟨N_, on_, nn_, rr_, bb_⟩ := O12.out.frame0
   refine (one 2 on_).mono ?_
   rintro e_ w13 ⟨B1, d1, rfl, oo_, kk_⟩
   obtain ⟨o_, k_⟩ := bb_ _ _ kk_ oo_
   refine ⟨_, rfl, ?_⟩
   have O13 : Aside0 (Own N w13 [ObjC gl 1 aw15, LinkO gk 1 2 2 true 2 1125899906842624 3 [(2, b2_), (3, b3_)] 2 0 0, cells gf #[.int .i64 0] 78, nrow k40 40 (.slice (some ad) 2 e7) [fr 1 0 (2, b2_), fr 1 0 (3, b3_)], nrow k114 114 (.slice B1 1 d1) awU]) := ⟨o_⟩
   have K13 := Aside0.mk (K12.out.trans k_)
   have HT_13 := Aside0.mk (TabN.keep HT_12.out k_)
   clear O12 K12 HT_12
   clear o_ k_ oo_ kk_ on_ nn_ rr_ bb_
   clear hHeld
   refine hK_.out _ _ ⟨(at_FrmC0 (O13.out.nreads (i := 3) rfl).2.2 (by decide)).1, (at_FrmC0 (O13.out.nreads (i := 3) rfl).2.2 (by decide)).2⟩ (fun hHeld => ?_)
   clear hK_ K_
   refine nP ?_
   refine oP 33 (some 81) (fun K_ hK_ => ?_)
   refine hP Tryd.func33 #[.agg #[.int .i64 1, .int .i64 2, .slice B1 1 d1]] ?_
   refine (chapbookref07_Bytes.calls 60 1 2 _ _ awU b2_ _ (O13.out.nreads (i := 4) rfl).2.2 (O13.out.nreads (i := 4) rfl).2.1 aw_bytes).mono ?_
   rintro e_ w14 ⟨rfl, hb_⟩
   refine ⟨_, rfl, ?_⟩
   have o_ := O13.out.below hb_
   have k_ := KeepS.of_below (N := N) hb_
   have O14 := Aside0.mk o_
   have K14 := Aside0.mk (K13.out.trans k_)
   have HT_14 := Aside0.mk (TabN.keep HT_13.out k_)
   clear O13 K13 HT_13
   clear o_ k_ hb_
   clear hHeld
   refine hK_.out _ _ ⟨(at_FrmC0 (O14.out.nreads (i := 3) rfl).2.2 (by decide)).1, (at_FrmC0 (O14.out.nreads (i := 3) rfl).2.2 (by decide)).2⟩ (fun hHeld => ?_)
   clear hK_ K_
   refine nP ?_
   refine pP 34 (some 82) ?_
   refine pP 35 (some 83) ?_
   refine pP 36 (some 0) ?_
   refine done_ (by kernel_rfl) ?_
   clear hHeld
   go_wp2
   go_ret
   refine ⟨rfl, K14.out.below (Nat.le_refl _) (fun k hk => by rw [HN.out]; exact hk)⟩
end Go.Proofs.YtjmoncfgoaaekaaDoor.J
