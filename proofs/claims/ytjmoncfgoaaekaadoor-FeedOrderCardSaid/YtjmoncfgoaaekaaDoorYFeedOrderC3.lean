/- What the given program's Log does: Add in one word; All, At; a round of the laws: a plain walk through their text. -/
import Derived.Test.YtjmoncfgoaaekaaDoorYFeedOrderC2
namespace Go.Proofs.YtjmoncfgoaaekaaDoor.J
set_option linter.unusedSimpArgs false
set_option linter.unusedVariables false
open Go Go.RowKit Go.Proofs.YtjmoncfgoaaekaaDoorW.PrintWords Go.Proofs.YtjmoncfgoaaekaaDoorW.PrintLast Go.Proofs.YtjmoncfgoaaekaaDoorW.PrintMore Go.Proofs.YtjmoncfgoaaekaaDoor.Q Go.Proofs.YtjmoncfgoaaekaaDoor.Sep Go.Proofs.YtjmoncfgoaaekaaDoor.Pure
attribute [local go_sem] max2_int min2_int max_two min_two max_three min_three max_four min_four
theorem Add_y {N : Nat → Prop} {w : World} {g : Nat} {C : Int} {L : List Rnd} (B : Option Addr) (c : Nat) (o n : Int) (ups : List Upd) (h : Own N w [ObjC g C L]) (hr : Kd.F k114 w N B ups.length ups) (hc : ups.length ≤ c) (hL : L.length ≤ 1000000) (hu : ups.length ≤ 1000000) (hg : Good C L) (he : addE C L ⟨o, n, ups⟩ = 0) :
  Calls Tryd.prog 19 #[.pointer (some ⟨g, 0, none⟩), .agg #[.int .i64 o, .int .i64 n, .slice B ups.length c]] w fun e_ w' => e_ = .returned (.int .i64 0) ∧ Own N w' [ObjC g C (L ++ [⟨o, n, ups⟩])] ∧ KeepS N w w' :=
 let q := addE_0 he
 Add_ok B c o n ups h hr hc hL hu 20 q.1 (by rw [pmay 0, q.1]) hg q.2.1 q.2.2
theorem Add_n {N : Nat → Prop} {w : World} {g : Nat} {C : Int} {L : List Rnd} (B : Option Addr) (c : Nat) (o n : Int) (ups : List Upd) (h : Own N w [ObjC g C L]) (hr : Kd.F k114 w N B ups.length ups) (hc : ups.length ≤ c) (hL : L.length ≤ 1000000) (hu : ups.length ≤ 1000000) (hg : Good C L) (E : Int) (he : addE C L ⟨o, n, ups⟩ = E) (hE : E ≠ 0) :
  Calls Tryd.prog 19 #[.pointer (some ⟨g, 0, none⟩), .agg #[.int .i64 o, .int .i64 n, .slice B ups.length c]] w fun e_ w' => e_ = .returned (.int .i64 E) ∧ Own N w' [ObjC g C L] ∧ KeepS N w w' := by
 subst he
 by_cases h1 : mayR o n ups = 0
 ·have hp : round_May.f 20 o n ups = some 0 := by rw [pmay 0, h1]
  unfold addE at hE ⊢
  simp only [h1, ne_eq, not_true, if_false] at hE ⊢
  by_cases h2 : o > C
  ·rw [if_pos h2]; exact Add_none B c o n ups h hr hc hL hu 20 h1 hp hg h2
  rw [if_neg h2] at hE ⊢
  by_cases h3 : n < lastOf o L + 1
  ·rw [if_pos h3]; exact Add_twice B c o n ups h hr hc hL hu 20 h1 hp hg (by omega) h3
  rw [if_neg h3] at hE ⊢
  by_cases h4 : n > lastOf o L + 1
  ·rw [if_pos h4]; exact Add_order B c o n ups h hr hc hL hu 20 h1 hp hg (by omega) h4
  rw [if_neg h4] at hE
  exact absurd rfl hE
 ·have e : addE C L ⟨o, n, ups⟩ = mayR o n ups := by unfold addE; rw [if_pos h1]
  rw [e]
  exact Add_may B c o n ups h hr hc hL hu 20 _ (pmay 0 _ _ _) (by rw [bne_iff_ne]; exact h1)
theorem addE_neg {C : Int} {L : List Rnd} {r : Rnd} (h : addE C L r ≠ 0) : addL C L r = L := by unfold addL; rw [if_neg h]
theorem addE_pos {C : Int} {L : List Rnd} {r : Rnd} (h : addE C L r = 0) : addL C L r = L ++ [r] := by unfold addL; rw [if_pos h]
def upTo (L : List Rnd) (x : Int) : List Rnd := L.take x.toNat
theorem upTo_all (L : List Rnd) : upTo L L.length = L := by unfold upTo; rw [Int.toNat_natCast, List.take_length]
theorem upTo_len (L : List Rnd) (x : Int) : (upTo L x).length ≤ L.length := by unfold upTo; rw [List.length_take]; exact Nat.min_le_right _ _
theorem upTo_snoc (L : List Rnd) (x : Int) (h0 : 0 ≤ x) (h1 : x < L.length) : upTo L (x + 1) = upTo L x ++ [rd_T43 L x] := take_snoc L _ x h0 h1
def AllI (N : Nat → Prop) (w : World) (g : Nat) (C : Int) (L : List Rnd) (A0 : Option Addr) (c0 : Nat) (v i : Value) (wr : World) : Prop := ∃ (x : Int) (A2 : Option Addr) (c2 : Nat), 0 ≤ x ∧ x ≤ (L.length : Int) ∧ i = .int .i64 x ∧ v = .slice A2 (upTo L x).length c2 ∧ Aside0 (Own N wr [cells g (logC C L (.slice A0 L.length c0)) 69, emp, nrow k43 43 (.slice A2 (upTo L x).length c2) (upTo L x)]) ∧ Aside0 (KeepS N w wr)
set_option maxHeartbeats 16000000 in
set_option maxRecDepth 100000 in
theorem All {N : Nat → Prop} {w : World} {g : Nat} {C : Int} {L : List Rnd} (h : Own N w [ObjC g C L]) (hL : L.length ≤ 1000000) (HU : Aside0 (∀ x : Int, 0 ≤ x → x < L.length → (rd_T43 L x).f2.length ≤ 1000000)) :
  Calls Tryd.prog 27 #[.pointer (some ⟨g, 0, none⟩)] w fun e_ w' => ∃ A1 c1, e_ = .returned (.slice A1 L.length c1) ∧ Own N w' [ObjC g C L, nrow k43 43 (.slice A1 L.length c1) L] ∧ KeepS N w w' := by
 obtain ⟨A0, c0, h2⟩ := ObjG.open_ h (i := 0) rfl
 obtain ⟨N1, h3, hn1, hF, hback⟩ := h2.hide (i := 1) rfl
 have HRL0 : Aside0 (Kd.F k43 w N1 A0 L.length L) := ⟨Kd.N_F hF⟩
 have HBACK := Aside0.mk hback
 have HL := Aside0.mk hL
 have O0 : Aside0 (Own N1 w [cells g (logC C L (.slice A0 L.length c0)) 69, emp, nrow k43 43 (.slice none 0 0) []]) := ⟨h3.push_emp (nrow k43 43 (.slice none 0 0) []) (fun w => Kd.N_nil _ _ _ _ _)⟩
 have K0 : Aside0 (KeepS N1 w w) := ⟨KeepS.refl _ _⟩
 obtain ⟨l0a, l0b, l0f⟩ := blkL_ (O0.out.blk (i := 0) rfl)
 clear h h2 h3 hn1 hF hback
 go_enter Tryd.func27, Tryd.ntmps27
 go_wp2
 go_loopw [3, 11] (fun v i wr => AllI N1 w g C L A0 c0 v i wr) (fun _ i _ => L.length - (intOf i).toNat)
 case atStart => exact ⟨0, none, 0, by omega, by omega, rfl, rfl, O0, K0⟩
 case round =>
  clear l0a l0b l0f hL
  obtain ⟨x, A2, c2, hx0, hx1, rfl, rfl, OA, KA⟩ := hrel
  have hF2 := keepF HRL0.out KA.out
  by_cases hlt : x < (L.length : Int)
  ·obtain ⟨ad, A3, c3, e3, x0, x1, x2, hl3, hF3⟩ := at_F hF2 x hx0 hlt
   cases e3
   have HC3 := Aside0.mk hl3
   have hLx := HL.out
   have hs2 : wrap64 (x + 1) = x + 1 := by unfold wrap64; omega
   have hp := eq_true hx0
   have hq := eq_true hlt
   have hd : decide (x < (L.length : Int)) = true := decide_eq_true hlt
   have HX := Aside0.mk (And.intro hx0 hlt)
   have HF3 := Aside0.mk hF3
   clear hF3 hF2 hl3 hLx
   have O1 : Aside0 (Own N1 wr [cells g (logC C L (.slice (some ad) L.length c0)) 69, emp, nrow k43 43 (.slice A2 (upTo L x).length c2) (upTo L x)]) := ⟨OA.out⟩
   have K1 : Aside0 (KeepS N1 w wr) := ⟨KA.out⟩
   have HRI_1 : Aside0 (Kd.F k114 wr N1 A3 (rd_T43 L x).f2.length (rd_T43 L x).f2) := ⟨HF3.out⟩
   obtain ⟨l0a, l0b, l0f⟩ := blkL_ (O1.out.blk (i := 0) rfl)
   clear OA KA HF3
   have HS : Aside0 (upTo L (x + 1) = (upTo L x) ++ [(rd_T43 L x)]) := ⟨upTo_snoc L x hx0 hlt⟩
   have HFL : Aside0 ((upTo L x).length ≤ 1000000) := ⟨Nat.le_trans (upTo_len _ _) HL.out⟩
   have HCP : Aside0 ((rd_T43 L x).f2.length ≤ 1000000) := ⟨HU.out x hx0 hlt⟩
   go_wp2_with (first | ((with_reducible refine gate_dst (N := 5) rfl ?_); refine own_box rfl (D := 5) rfl (cs := #[.int .i64 0, .int .i64 0, .slice none 0 0]) (t := 43) ?hr O1.out ?_; (case hr => first | (go_simp; done) | (go_simp; rfl)); intro g2 w2 o_ k_; have O2 : Aside0 (Own N1 w2 [cells g (logC C L (.slice (some ad) L.length c0)) 69, emp, nrow k43 43 (.slice A2 (upTo L x).length c2) (upTo L x), cells g2 #[.int .i64 0, .int .i64 0, .slice none 0 0] 43]) := ⟨o_⟩; have K2 : Aside0 (KeepS N1 w w2) := ⟨K1.out.trans k_⟩; have HRI_2 : Aside0 (Kd.F k114 w2 N1 A3 (rd_T43 L x).f2.length (rd_T43 L x).f2) := ⟨keepF HRI_1.out k_⟩; clear l0a l0b l0f O1 K1 HRI_1; obtain ⟨a3a, a3b, a3c, b3⟩ := blk3_ (O2.out.blk (i := 3) rfl); obtain ⟨l0a, l0b, l0f⟩ := blkL_ (O2.out.blk (i := 0) rfl); clear o_ k_) | ((with_reducible refine gate_store (t := 43) (p := 5) rfl ?_); refine own_store rfl rfl rfl (w1 := (World.setCell (World.setCell (World.setCell w2 ⟨g2, 0, none⟩ (.int .i64 (rd_T43 L x).f0)) ⟨g2, 1, none⟩ (.int .i64 (rd_T43 L x).f1)) ⟨g2, 2, none⟩ (.slice A3 (rd_T43 L x).f2.length c3))) (N := N1) (l' := [cells g (logC C L (.slice (some ad) L.length c0)) 69, emp, nrow k43 43 (.slice A2 (upTo L x).length c2) (upTo L x), cells g2 #[.int .i64 (rd_T43 L x).f0, .int .i64 (rd_T43 L x).f1, .slice A3 (rd_T43 L x).f2.length c3] 43]) ?hr ?ho ?hk ?_; (case hr => first | (go_simp; done) | (go_simp; rfl)); (case ho => exact (((O2.out.set (i := 3) rfl 0 (.int .i64 (rd_T43 L x).f0)).set (i := 3) rfl 1 (.int .i64 (rd_T43 L x).f1)).set (i := 3) rfl 2 (.slice A3 (rd_T43 L x).f2.length c3))); (case hk => exact (((KeepS.setCell (O2.out.far (i := 3) rfl) (.int .i64 (rd_T43 L x).f0)).trans (KeepS.setCell (O2.out.far (i := 3) rfl) (.int .i64 (rd_T43 L x).f1))).trans (KeepS.setCell (O2.out.far (i := 3) rfl) (.slice A3 (rd_T43 L x).f2.length c3)))); intro w3 o_ k_; have O3 : Aside0 (Own N1 w3 [cells g (logC C L (.slice (some ad) L.length c0)) 69, emp, nrow k43 43 (.slice A2 (upTo L x).length c2) (upTo L x), cells g2 #[.int .i64 (rd_T43 L x).f0, .int .i64 (rd_T43 L x).f1, .slice A3 (rd_T43 L x).f2.length c3] 43]) := ⟨o_⟩; have K3 : Aside0 (KeepS N1 w w3) := ⟨K2.out.trans k_⟩; have HRI_3 : Aside0 (Kd.F k114 w3 N1 A3 (rd_T43 L x).f2.length (rd_T43 L x).f2) := ⟨keepF HRI_2.out k_⟩; clear a3a a3b a3c b3 l0a l0b l0f O2 K2 HRI_2; obtain ⟨a3a, a3b, a3c, b3⟩ := blk3_ (O3.out.blk (i := 3) rfl); obtain ⟨l0a, l0b, l0f⟩ := blkL_ (O3.out.blk (i := 0) rfl); clear o_ k_) | ((with_reducible refine gate_callee (f := 45) rfl ?_); refine goesL_ (some 17) rfl rfl Tryd.func45 (by kernel_rfl) rfl #[.agg #[.int .i64 (rd_T43 L x).f0, .int .i64 (rd_T43 L x).f1, .slice A3 (rd_T43 L x).f2.length c3]] rfl (by (try simp only [List.map_toArray, List.map_cons, List.map_nil]); first | done | rfl) ?_; refine (round_Copy.calls (rd_T43 L x).f0 (rd_T43 L x).f1 _ _ (rd_T43 L x).f2 (rd_T43 L x).f0 (rd_T43 L x).f1 (rd_T43 L x).f2 _ (Kd.F_now HRI_3.out) HC3.out (copy_ok _ _ _ HCP.out)).mono ?_; rintro e_ w4 ⟨v_, rfl, hR_, hb_⟩; obtain ⟨A4, c4, e__⟩ := Kd.R_slice hR_; subst e__; refine ⟨_, rfl, ?_⟩; have o_ := O3.out.pushR hb_ (Nat.le_refl _) hR_; have k_ := KeepS.of_below (N := N1) hb_; have O4 : Aside0 (Own N1 w4 [cells g (logC C L (.slice (some ad) L.length c0)) 69, emp, nrow k43 43 (.slice A2 (upTo L x).length c2) (upTo L x), cells g2 #[.int .i64 (rd_T43 L x).f0, .int .i64 (rd_T43 L x).f1, .slice A3 (rd_T43 L x).f2.length c3] 43, nrow k114 114 (.slice A4 ((rd_T43 L x).f2).length c4) ((rd_T43 L x).f2)]) := ⟨o_⟩; have K4 : Aside0 (KeepS N1 w w4) := ⟨K3.out.trans k_⟩; have HRI_4 : Aside0 (Kd.F k114 w4 N1 A3 (rd_T43 L x).f2.length (rd_T43 L x).f2) := ⟨keepF HRI_3.out k_⟩; clear a3a a3b a3c b3 l0a l0b l0f O3 K3 HRI_3; obtain ⟨a3a, a3b, a3c, b3⟩ := blk3_ (O4.out.blk (i := 3) rfl); obtain ⟨l0a, l0b, l0f⟩ := blkL_ (O4.out.blk (i := 0) rfl); clear o_ k_ hb_ hR_; have O5 : Aside0 (Own N1 w4 [cells g (logC C L (.slice (some ad) L.length c0)) 69, emp, nrow k43 43 (.slice A2 (upTo L x).length c2) (upTo L x), cells g2 #[.int .i64 (rd_T43 L x).f0, .int .i64 (rd_T43 L x).f1, .slice A3 (rd_T43 L x).f2.length c3] 43, elt k43 (rd_T43 L x) [.int .i64 (rd_T43 L x).f0, .int .i64 (rd_T43 L x).f1, .slice A4 (rd_T43 L x).f2.length c4]]) := ⟨roundOf (rd_T43 L x) (i := 4) O4.out rfl⟩; clear O4) | ((with_reducible refine gate_builtin (b := .append) (xs := #[.tmp 15, .tmp 18]) rfl ?_); at_builtin; refine Own.append k43 O5.out (i := 2) (j := 4) rfl rfl (by decide) rfl (.tmp 15) (.tmp 18) 57 (.agg #[.int .i64 0, .int .i64 0, .slice none 0 0]) 40 rfl Tryd.underlying57 infoR rfl (by decide) (by decide) rfl rfl (by have := HFL.out; omega) ?_; intro A5 c5 w6 o_ k_; have O6 : Aside0 (Own N1 w6 [cells g (logC C L (.slice (some ad) L.length c0)) 69, emp, nrow k43 43 (.slice A5 (((upTo L x)).length + 1) c5) (((upTo L x)) ++ [(rd_T43 L x)]), cells g2 #[.int .i64 (rd_T43 L x).f0, .int .i64 (rd_T43 L x).f1, .slice A3 (rd_T43 L x).f2.length c3] 43, emp]) := ⟨o_⟩; have K6 : Aside0 (KeepS N1 w w6) := ⟨K4.out.trans k_⟩; have HRI_6 : Aside0 (Kd.F k114 w6 N1 A3 (rd_T43 L x).f2.length (rd_T43 L x).f2) := ⟨keepF HRI_4.out k_⟩; clear a3a a3b a3c b3 l0a l0b l0f O5 K4 HRI_4; obtain ⟨a3a, a3b, a3c, b3⟩ := blk3_ (O6.out.blk (i := 3) rfl); obtain ⟨l0a, l0b, l0f⟩ := blkL_ (O6.out.blk (i := 0) rfl); clear o_ k_))
   go_roundw
   case rel => exact ⟨x + 1, A5, c5, by have := HX.out; omega, by have := HX.out; omega, int_eq (by unfold wrap64; have := HX.out; have := HL.out; omega), slice_len (by rw [HS.out]; simp), ⟨by rw [HS.out]; simp only [List.length_append, List.length_singleton]; exact O6.out.take 3⟩, K6⟩
   case measure => have := HX.out; simp [intOf]; omega
  ·have hxe : x = (L.length : Int) := by omega
   subst hxe
   have hd : decide ((L.length : Int) < (L.length : Int)) = false := decide_eq_false (Int.lt_irrefl _)
   have HT : Aside0 (upTo L (L.length : Int) = L) := ⟨upTo_all L⟩
   clear hlt hx0 hx1 hF2
   go_wp2
   go_ret
   obtain ⟨hb, hk⟩ := HBACK.out _ _ (by simp) KA.out OA.out
   refine ⟨A2, c2, by first | rfl | (rw [HT.out]; done) | (simp only [HT.out]; done) | simp [HT.out], ?_, hk⟩
   rw [HT.out] at hb
   exact (ObjG.shut (f := logC C L) (i := 0) (j := 1) hb rfl rfl (by decide)).pick2 (a := 0) (b := 2) rfl rfl (by decide)
set_option maxHeartbeats 16000000 in
set_option maxRecDepth 100000 in
theorem At_high {N : Nat → Prop} {w : World} {g : Nat} {C : Int} {L : List Rnd} (x : Int) (h : Own N w [ObjC g C L]) (hL : L.length ≤ 1000000) (hx0 : 0 ≤ x) (hx : (L.length : Int) ≤ x) :
  Calls Tryd.prog 36 #[.pointer (some ⟨g, 0, none⟩), .int .i64 x] w fun e_ w' => e_ = .returned (.tuple #[.agg #[.int .i64 0, .int .i64 0, .slice none 0 0], .bool false]) ∧ Own N w' [ObjC g C L] ∧ KeepS N w w' := by
 obtain ⟨A0, c0, h2⟩ := ObjG.open_ h (i := 0) rfl
 have O0 : Aside0 (Own N w [cells g (logC C L (.slice A0 L.length c0)) 69, nrow k43 43 (.slice A0 L.length c0) L]) := ⟨h2⟩
 have K0 : Aside0 (KeepS N w w) := ⟨KeepS.refl _ _⟩
 obtain ⟨l0a, l0b, l0f⟩ := blkL_ (O0.out.blk (i := 0) rfl)
 have hd : decide (x < 0) = false := decide_eq_false (by omega)
 have hd2 : decide (x ≥ (L.length : Int)) = true := decide_eq_true hx
 have hd3 : decide ((L.length : Int) ≤ x) = true := decide_eq_true hx
 clear h h2 hx hL hx0
 go_enter Tryd.func36, Tryd.ntmps36
 go_wp2_with (first | ((with_reducible refine gate_dst (N := 4) rfl ?_); refine own_box rfl (D := 4) rfl (cs := #[.int .i64 0, .int .i64 0, .slice none 0 0]) (t := 43) ?hr O0.out ?_; (case hr => first | (go_simp; done) | (go_simp; rfl)); intro g1 w1 o_ k_; have O1 : Aside0 (Own N w1 [cells g (logC C L (.slice A0 L.length c0)) 69, nrow k43 43 (.slice A0 L.length c0) L, cells g1 #[.int .i64 0, .int .i64 0, .slice none 0 0] 43]) := ⟨o_⟩; have K1 : Aside0 (KeepS N w w1) := ⟨K0.out.trans k_⟩; clear l0a l0b l0f O0 K0; obtain ⟨a2a, a2b, a2c, b2⟩ := blk3_ (O1.out.blk (i := 2) rfl); obtain ⟨l0a, l0b, l0f⟩ := blkL_ (O1.out.blk (i := 0) rfl); clear o_ k_) | ((with_reducible refine gate_store (t := 43) (p := 4) rfl ?_); refine own_store rfl rfl rfl (w1 := (World.setCell (World.setCell (World.setCell w1 ⟨g1, 0, none⟩ (.int .i64 0)) ⟨g1, 1, none⟩ (.int .i64 0)) ⟨g1, 2, none⟩ (.slice none 0 0))) (N := N) (l' := [cells g (logC C L (.slice A0 L.length c0)) 69, nrow k43 43 (.slice A0 L.length c0) L, cells g1 #[.int .i64 0, .int .i64 0, .slice none 0 0] 43]) ?hr ?ho ?hk ?_; (case hr => first | (go_simp; done) | (go_simp; rfl)); (case ho => exact (((O1.out.set (i := 2) rfl 0 (.int .i64 0)).set (i := 2) rfl 1 (.int .i64 0)).set (i := 2) rfl 2 (.slice none 0 0))); (case hk => exact (((KeepS.setCell (O1.out.far (i := 2) rfl) (.int .i64 0)).trans (KeepS.setCell (O1.out.far (i := 2) rfl) (.int .i64 0))).trans (KeepS.setCell (O1.out.far (i := 2) rfl) (.slice none 0 0)))); intro w2 o_ k_; have O2 : Aside0 (Own N w2 [cells g (logC C L (.slice A0 L.length c0)) 69, nrow k43 43 (.slice A0 L.length c0) L, cells g1 #[.int .i64 0, .int .i64 0, .slice none 0 0] 43]) := ⟨o_⟩; have K2 : Aside0 (KeepS N w w2) := ⟨K1.out.trans k_⟩; clear a2a a2b a2c b2 l0a l0b l0f O1 K1; obtain ⟨a2a, a2b, a2c, b2⟩ := blk3_ (O2.out.blk (i := 2) rfl); obtain ⟨l0a, l0b, l0f⟩ := blkL_ (O2.out.blk (i := 0) rfl); clear o_ k_))
 refine bodyPost_ret (results_ct rfl _ _ g1 43 #[.int .i64 0, .int .i64 0, .slice none 0 0] (0, 0) _ rfl (O2.out.blk (i := 2) rfl) Tryd.underlying43 rfl (by kernel_rfl)) rfl ?_
 exact ⟨rfl, (ObjG.shut (i := 0) (j := 1) O2.out rfl rfl (by decide)).take 1, K2.out⟩
set_option maxHeartbeats 16000000 in
set_option maxRecDepth 100000 in
theorem At_yes {N : Nat → Prop} {w : World} {g : Nat} {C : Int} {L : List Rnd} (x : Int) (h : Own N w [ObjC g C L]) (hL : L.length ≤ 1000000) (HU : Aside0 (∀ x : Int, 0 ≤ x → x < L.length → (rd_T43 L x).f2.length ≤ 1000000)) (hx0 : 0 ≤ x) (hx : x < L.length) :
  Calls Tryd.prog 36 #[.pointer (some ⟨g, 0, none⟩), .int .i64 x] w fun e_ w' => ∃ A1 c1, e_ = .returned (.tuple #[.agg #[.int .i64 (rd_T43 L x).f0, .int .i64 (rd_T43 L x).f1, .slice A1 (rd_T43 L x).f2.length c1], .bool true]) ∧ Own N w' [ObjC g C L, nrow k114 114 (.slice A1 (rd_T43 L x).f2.length c1) (rd_T43 L x).f2] ∧ KeepS N w w' := by
 obtain ⟨A0, c0, h2⟩ := ObjG.open_ h (i := 0) rfl
 obtain ⟨N1, h3, hn1, hF, hback⟩ := h2.hide (i := 1) rfl
 have hF2 : Kd.F k43 w N1 A0 L.length L := Kd.N_F hF
 have HBACK := Aside0.mk hback
 have HCP : Aside0 ((rd_T43 L x).f2.length ≤ 1000000) := ⟨HU.out x hx0 hx⟩
 obtain ⟨ad, A3, c3, e3, x0, x1, x2, hl3, hF3⟩ := at_F hF2 x hx0 hx
 cases e3
 have HC3 := Aside0.mk hl3
 have HF3 := Aside0.mk hF3
 have O0 : Aside0 (Own N1 w [cells g (logC C L (.slice (some ad) L.length c0)) 69, emp]) := ⟨h3⟩
 have K0 : Aside0 (KeepS N1 w w) := ⟨KeepS.refl _ _⟩
 obtain ⟨l0a, l0b, l0f⟩ := blkL_ (O0.out.blk (i := 0) rfl)
 have HRI_0 : Aside0 (Kd.F k114 w N1 A3 (rd_T43 L x).f2.length (rd_T43 L x).f2) := HF3
 have hd : decide (x < 0) = false := decide_eq_false (by omega)
 have hd2 : decide (x ≥ (L.length : Int)) = false := decide_eq_false (by omega)
 have hd3 : decide ((L.length : Int) ≤ x) = false := decide_eq_false (by omega)
 have hd4 : decide (x < (L.length : Int)) = true := decide_eq_true hx
 have hp := eq_true hx0
 have hq := eq_true hx
 have X0 := Aside0.mk (And.intro x0 (And.intro x1 x2))
 clear h h2 h3 hn1 hF hF2 hF3 HF3 hback hl3 hL hx hx0 x0 x1 x2
 go_enter Tryd.func36, Tryd.ntmps36
 go_wp2_with (first | ((with_reducible refine gate_dst (N := 4) rfl ?_); refine own_boxB rfl (D := 4) rfl (cs := #[.int .i64 0, .int .i64 0, .slice none 0 0]) (t := 43) ?hr O0.out ?_; (case hr => first | (go_simp; done) | (go_simp; rfl)); intro g1 w1 o_ k_ hb_; have O1 : Aside0 (Own N1 w1 [cells g (logC C L (.slice (some ad) L.length c0)) 69, emp, cells g1 #[.int .i64 0, .int .i64 0, .slice none 0 0] 43]) := ⟨o_⟩; have K1 : Aside0 (KeepS N1 w w1) := ⟨K0.out.trans k_⟩; have HRI_1 : Aside0 (Kd.F k114 w1 N1 A3 (rd_T43 L x).f2.length (rd_T43 L x).f2) := ⟨keepF HRI_0.out k_⟩; clear l0a l0b l0f O0 K0 HRI_0; obtain ⟨a2a, a2b, a2c, b2⟩ := blk3_ (O1.out.blk (i := 2) rfl); obtain ⟨l0a, l0b, l0f⟩ := blkL_ (O1.out.blk (i := 0) rfl); have hkk_ := hb_; clear o_ k_ hb_; have y0 := pw_cell_below hkk_ X0.out.1; have y1 := pw_cell_below hkk_ X0.out.2.1; have y2 := pw_cell_below hkk_ X0.out.2.2; clear hkk_) | ((with_reducible refine gate_callee (f := 45) rfl ?_); refine goesL_ (some 25) rfl rfl Tryd.func45 (by kernel_rfl) rfl #[.agg #[.int .i64 (rd_T43 L x).f0, .int .i64 (rd_T43 L x).f1, .slice A3 (rd_T43 L x).f2.length c3]] rfl (by (try simp only [List.map_toArray, List.map_cons, List.map_nil]); first | done | rfl) ?_; refine (round_Copy.calls (rd_T43 L x).f0 (rd_T43 L x).f1 _ _ (rd_T43 L x).f2 (rd_T43 L x).f0 (rd_T43 L x).f1 (rd_T43 L x).f2 _ (Kd.F_now HRI_1.out) HC3.out (copy_ok _ _ _ HCP.out)).mono ?_; rintro e_ w2 ⟨v_, rfl, hR_, hb_⟩; obtain ⟨A4, c4, e__⟩ := Kd.R_slice hR_; subst e__; refine ⟨_, rfl, ?_⟩; have o_ := O1.out.pushR hb_ (Nat.le_refl _) hR_; have k_ := KeepS.of_below (N := N1) hb_; have O2 : Aside0 (Own N1 w2 [cells g (logC C L (.slice (some ad) L.length c0)) 69, emp, cells g1 #[.int .i64 0, .int .i64 0, .slice none 0 0] 43, nrow k114 114 (.slice A4 ((rd_T43 L x).f2).length c4) ((rd_T43 L x).f2)]) := ⟨o_⟩; have K2 : Aside0 (KeepS N1 w w2) := ⟨K1.out.trans k_⟩; have HRI_2 : Aside0 (Kd.F k114 w2 N1 A3 (rd_T43 L x).f2.length (rd_T43 L x).f2) := ⟨keepF HRI_1.out k_⟩; clear a2a a2b a2c b2 l0a l0b l0f O1 K1 HRI_1; obtain ⟨a2a, a2b, a2c, b2⟩ := blk3_ (O2.out.blk (i := 2) rfl); obtain ⟨l0a, l0b, l0f⟩ := blkL_ (O2.out.blk (i := 0) rfl); clear o_ k_ hb_ hR_) | ((with_reducible refine gate_store (t := 43) (p := 4) rfl ?_); refine own_store rfl rfl rfl (w1 := (World.setCell (World.setCell (World.setCell w2 ⟨g1, 0, none⟩ (.int .i64 (rd_T43 L x).f0)) ⟨g1, 1, none⟩ (.int .i64 (rd_T43 L x).f1)) ⟨g1, 2, none⟩ (.slice A4 (rd_T43 L x).f2.length c4))) (N := N1) (l' := [cells g (logC C L (.slice (some ad) L.length c0)) 69, emp, cells g1 #[.int .i64 (rd_T43 L x).f0, .int .i64 (rd_T43 L x).f1, .slice A4 (rd_T43 L x).f2.length c4] 43, nrow k114 114 (.slice A4 ((rd_T43 L x).f2).length c4) ((rd_T43 L x).f2)]) ?hr ?ho ?hk ?_; (case hr => first | (go_simp; done) | (go_simp; rfl)); (case ho => exact (((O2.out.set (i := 2) rfl 0 (.int .i64 (rd_T43 L x).f0)).set (i := 2) rfl 1 (.int .i64 (rd_T43 L x).f1)).set (i := 2) rfl 2 (.slice A4 (rd_T43 L x).f2.length c4))); (case hk => exact (((KeepS.setCell (O2.out.far (i := 2) rfl) (.int .i64 (rd_T43 L x).f0)).trans (KeepS.setCell (O2.out.far (i := 2) rfl) (.int .i64 (rd_T43 L x).f1))).trans (KeepS.setCell (O2.out.far (i := 2) rfl) (.slice A4 (rd_T43 L x).f2.length c4)))); intro w3 o_ k_; have O3 : Aside0 (Own N1 w3 [cells g (logC C L (.slice (some ad) L.length c0)) 69, emp, cells g1 #[.int .i64 (rd_T43 L x).f0, .int .i64 (rd_T43 L x).f1, .slice A4 (rd_T43 L x).f2.length c4] 43, nrow k114 114 (.slice A4 ((rd_T43 L x).f2).length c4) ((rd_T43 L x).f2)]) := ⟨o_⟩; have K3 : Aside0 (KeepS N1 w w3) := ⟨K2.out.trans k_⟩; have HRI_3 : Aside0 (Kd.F k114 w3 N1 A3 (rd_T43 L x).f2.length (rd_T43 L x).f2) := ⟨keepF HRI_2.out k_⟩; clear a2a a2b a2c b2 l0a l0b l0f O2 K2 HRI_2; obtain ⟨a2a, a2b, a2c, b2⟩ := blk3_ (O3.out.blk (i := 2) rfl); obtain ⟨l0a, l0b, l0f⟩ := blkL_ (O3.out.blk (i := 0) rfl); clear o_ k_))
 refine bodyPost_ret (results_ct rfl _ _ g1 43 #[.int .i64 (rd_T43 L x).f0, .int .i64 (rd_T43 L x).f1, .slice A4 (rd_T43 L x).f2.length c4] (0, 0) _ rfl (O3.out.blk (i := 2) rfl) Tryd.underlying43 rfl (by kernel_rfl)) rfl ?_
 obtain ⟨hb, hk⟩ := HBACK.out _ _ (by simp) K3.out O3.out
 exact ⟨A4, c4, rfl, (ObjG.shut (f := logC C L) (i := 0) (j := 1) hb rfl rfl (by decide)).pick2 (a := 0) (b := 3) rfl rfl (by decide), hk⟩
def awU : List Upd := [⟨⟨#[107]⟩, 5, 0, ⟨#[]⟩⟩]
theorem awRep (w : World) : Reps (Kd.FK k114 w (fun _ => False)) 4 awU [.string ⟨#[107]⟩, .int .i64 5, .int .i64 0, .string ⟨#[]⟩] :=
 (Reps.none _ 4).snoc (flatU.FK (k114_mk w ⟨⟨#[107]⟩, 5, 0, ⟨#[]⟩⟩)) rfl
end Go.Proofs.YtjmoncfgoaaekaaDoor.J
