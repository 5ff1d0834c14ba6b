/- FeedPlays: in every order of calls, rounds and frames the link is offered just the rounds that the document says -/
import Derived.Test.YtjmoncfgoaaekaaDoorYFeedPlaysC6
import Derived.Test.YtjmoncfgoaaekaaDoorYFeedPlaysD2
import Derived.Test.YtjmoncfgoaaekaaDoorYFeedPlaysF0
import Derived.Test.YtjmoncfgoaaekaaDoorYFeedPlaysSpell
import Derived.Test.YtjmoncfgoaaekaaDoorYFeedPlaysA15
import Derived.Test.YtjmoncfgoaaekaaDoorYFeedPlaysQ13
namespace Go.Proofs.YtjmoncfgoaaekaaDoor.J
set_option linter.unusedSimpArgs false
set_option linter.unusedVariables false
open Go Go.RowKit Go.Proofs.YtjmoncfgoaaekaaDoorW.PrintWords Go.Proofs.YtjmoncfgoaaekaaDoorW.PrintLast Go.Proofs.YtjmoncfgoaaekaaDoorW.PrintMore Go.Proofs.YtjmoncfgoaaekaaDoor.Q Go.Proofs.YtjmoncfgoaaekaaDoor.Sep Go.Proofs.YtjmoncfgoaaekaaDoor.Pure
attribute [local go_sem] max2_int min2_int max_two min_two max_three min_three max_four min_four
set_option maxHeartbeats 16000000 in
set_option maxRecDepth 100000 in
theorem RNew_low {N : Nat → Prop} {w : World} (n : Int) (h : Own N w []) (hm : n < 1) :
  Calls Tryd.prog 10 #[.int .i64 n] w fun e w' => ∃ g, e = .returned (.pointer (some ⟨g, 0, none⟩)) ∧ Own N w' [ObjM g (1) []] ∧ KeepS N w w' := by
 have O0 : Aside0 (Own N w []) := ⟨h⟩
 have K0 : Aside0 (KeepS N w w) := ⟨KeepS.refl _ _⟩
 have d1 : decide (n < 1) = true := decide_eq_true hm
 have d2 : decide ((1 : Int) > 64) = false := by decide
 clear h hm
 go_enter Tryd.func10, Tryd.ntmps10
 go_wp2_with (first | ((with_reducible refine gate_dst (N := 9) rfl ?_); refine bP 9 #[.int .i64 1, .slice none 0 0] 80 O0.out ?_; intro g1 w1 o_ k_; have O1 : Aside0 (Own N w1 [cells g1 #[.int .i64 1, .slice none 0 0] 80]) := ⟨o_⟩; have K1 := Aside0.mk (K0.out.trans k_); clear O0 K0; obtain ⟨a0a, a0b, b0⟩ := blk2_ (O1.out.blk (i := 0) rfl); clear o_ k_))
 go_ret
 refine ⟨_, rfl, ?_, K1.out⟩
 exact (ObjG.shut (f := fun v => #[.int .i64 1, v]) (i := 0) (j := 1) (L := []) (O1.out.push_emp (nrow k43 43 (.slice none 0 0) []) (fun w => Kd.N_nil _ _ _ _ _)) rfl rfl (by decide)).take 1
set_option maxHeartbeats 16000000 in
set_option maxRecDepth 100000 in
theorem RNew_high {N : Nat → Prop} {w : World} (n : Int) (h : Own N w []) (hm : 64 < n) :
  Calls Tryd.prog 10 #[.int .i64 n] w fun e w' => ∃ g, e = .returned (.pointer (some ⟨g, 0, none⟩)) ∧ Own N w' [ObjM g (64) []] ∧ KeepS N w w' := by
 have O0 : Aside0 (Own N w []) := ⟨h⟩
 have K0 : Aside0 (KeepS N w w) := ⟨KeepS.refl _ _⟩
 have d1 : decide (n < 1) = false := decide_eq_false (by omega)
 have d2 : decide (n > 64) = true := decide_eq_true hm
 have d3 : decide (64 < n) = true := decide_eq_true hm
 clear h hm
 go_enter Tryd.func10, Tryd.ntmps10
 go_wp2_with (first | ((with_reducible refine gate_dst (N := 9) rfl ?_); refine bP 9 #[.int .i64 64, .slice none 0 0] 80 O0.out ?_; intro g1 w1 o_ k_; have O1 : Aside0 (Own N w1 [cells g1 #[.int .i64 64, .slice none 0 0] 80]) := ⟨o_⟩; have K1 := Aside0.mk (K0.out.trans k_); clear O0 K0; obtain ⟨a0a, a0b, b0⟩ := blk2_ (O1.out.blk (i := 0) rfl); clear o_ k_))
 go_ret
 refine ⟨_, rfl, ?_, K1.out⟩
 exact (ObjG.shut (f := fun v => #[.int .i64 64, v]) (i := 0) (j := 1) (L := []) (O1.out.push_emp (nrow k43 43 (.slice none 0 0) []) (fun w => Kd.N_nil _ _ _ _ _)) rfl rfl (by decide)).take 1
set_option maxHeartbeats 16000000 in
set_option maxRecDepth 100000 in
theorem RNew_mid {N : Nat → Prop} {w : World} (n : Int) (h : Own N w []) (hm : 1 ≤ n) (hm2 : n ≤ 64) :
  Calls Tryd.prog 10 #[.int .i64 n] w fun e w' => ∃ g, e = .returned (.pointer (some ⟨g, 0, none⟩)) ∧ Own N w' [ObjM g (n) []] ∧ KeepS N w w' := by
 have O0 : Aside0 (Own N w []) := ⟨h⟩
 have K0 : Aside0 (KeepS N w w) := ⟨KeepS.refl _ _⟩
 have d1 : decide (n < 1) = false := decide_eq_false (by omega)
 have d2 : decide (n > 64) = false := decide_eq_false (by omega)
 have d3 : decide (64 < n) = false := decide_eq_false (by omega)
 clear h hm hm2
 go_enter Tryd.func10, Tryd.ntmps10
 go_wp2_with (first | ((with_reducible refine gate_dst (N := 9) rfl ?_); refine bP 9 #[.int .i64 n, .slice none 0 0] 80 O0.out ?_; intro g1 w1 o_ k_; have O1 : Aside0 (Own N w1 [cells g1 #[.int .i64 n, .slice none 0 0] 80]) := ⟨o_⟩; have K1 := Aside0.mk (K0.out.trans k_); clear O0 K0; obtain ⟨a0a, a0b, b0⟩ := blk2_ (O1.out.blk (i := 0) rfl); clear o_ k_))
 go_ret
 refine ⟨_, rfl, ?_, K1.out⟩
 exact (ObjG.shut (f := fun v => #[.int .i64 n, v]) (i := 0) (j := 1) (L := []) (O1.out.push_emp (nrow k43 43 (.slice none 0 0) []) (fun w => Kd.N_nil _ _ _ _ _)) rfl rfl (by decide)).take 1
theorem RNew {N : Nat → Prop} {w : World} (n C : Int) (hC : mn (mx n 1) 64 = C) (h : Own N w []) :
  Calls Tryd.prog 10 #[.int .i64 n] w fun e w' => ∃ g, e = .returned (.pointer (some ⟨g, 0, none⟩)) ∧ Own N w' [ObjM g C []] ∧ KeepS N w w' := by
 rw [← hC]
 by_cases h1 : n < 1
 ·rw [show mn (mx n 1) 64 = 1 by unfold mn mx; (repeat' split) <;> omega]
  exact RNew_low n h h1
 by_cases h2 : 64 < n
 ·rw [show mn (mx n 1) 64 = 64 by unfold mn mx; (repeat' split) <;> omega]
  exact RNew_high n h h2
 ·rw [show mn (mx n 1) 64 = n by unfold mn mx; (repeat' split) <;> omega]
  exact RNew_mid n h (by omega) (by omega)
def RLastI (N : Nat → Prop) (w : World) (g : Nat) (C : Int) (L : List Rnd) (o : Int) (A0 : Option Addr) (c0 : Nat) (v i : Value) (wr : World) : Prop := ∃ (x : Int), 0 ≤ x ∧ x ≤ (L.length : Int) ∧ i = .int .i64 x ∧ v = .int .i64 (lastOf o (upTo L x)) ∧ Aside0 (Own N wr [cells g #[.int .i64 C, .slice A0 L.length c0] 80, emp]) ∧ Aside0 (KeepS N w wr)
set_option maxHeartbeats 16000000 in
set_option maxRecDepth 100000 in
theorem RLastO {N : Nat → Prop} {w : World} {g : Nat} {C : Int} {L : List Rnd} {A0 : Option Addr} {c0 : Nat} (o : Int) (h : Own N w [cells g #[.int .i64 C, .slice A0 L.length c0] 80, nrow k43 43 (.slice A0 L.length c0) L]) (hL : L.length ≤ 1000000) :
  Calls Tryd.prog 47 #[.pointer (some ⟨g, 0, none⟩), .int .i64 o] w fun e_ w' => e_ = .returned (.int .i64 (lastOf o L)) ∧ Own N w' [cells g #[.int .i64 C, .slice A0 L.length c0] 80, nrow k43 43 (.slice A0 L.length c0) L] ∧ KeepS N w w' := by
 obtain ⟨N1, h3, hn1, hF, hback⟩ := h.hide (i := 1) rfl
 have HRL0 : Aside0 (Kd.F k43 w N1 A0 L.length L) := ⟨Kd.N_F hF⟩
 have HBACK := Aside0.mk hback
 have HL := Aside0.mk hL
 have O0 : Aside0 (Own N1 w [cells g #[.int .i64 C, .slice A0 L.length c0] 80, emp]) := ⟨h3⟩
 have K0 : Aside0 (KeepS N1 w w) := ⟨KeepS.refl _ _⟩
 obtain ⟨a0a, a0b, b0⟩ := blk2_ (O0.out.blk (i := 0) rfl)
 clear h h3 hn1 hF hback
 go_enter Tryd.func47, Tryd.ntmps47
 go_wp2
 go_loopw [5, 6] (fun v i wr => RLastI N1 w g C L o A0 c0 v i wr) (fun _ i _ => L.length - (intOf i).toNat)
 case atStart => exact ⟨0, by omega, by omega, rfl, rfl, O0, K0⟩
 case round =>
  clear a0a a0b b0 hL
  obtain ⟨x, hx0, hx1, rfl, rfl, OA, KA⟩ := hrel
  have hF2 := keepF HRL0.out KA.out
  by_cases hlt : x < (L.length : Int)
  ·obtain ⟨ad, A3, c3, e3, x0, x1, x2, hl3, hF3⟩ := at_F hF2 x hx0 hlt
   cases e3
   have hLx := HL.out
   have hs2 : wrap64 (x + 1) = x + 1 := by unfold wrap64; omega
   have hs3 : IntKind.i64.wrap (x + 1) = x + 1 := by rw [IntKind.wrap_i64]; omega
   have hp := eq_true hx0
   have hq := eq_true hlt
   have hd : decide (x < (L.length : Int)) = true := decide_eq_true hlt
   have HX := Aside0.mk (And.intro hx0 hlt)
   clear hF3 hF2 hl3 hLx
   have O1 : Aside0 (Own N1 wr [cells g #[.int .i64 C, .slice (some ad) L.length c0] 80, emp]) := ⟨OA.out⟩
   have K1 : Aside0 (KeepS N1 w wr) := ⟨KA.out⟩
   obtain ⟨a0a, a0b, b0⟩ := blk2_ (O1.out.blk (i := 0) rfl)
   clear OA KA
   have HS : Aside0 (upTo L (x + 1) = upTo L x ++ [(rd_T43 L x)]) := ⟨upTo_snoc L x hx0 hlt⟩
   by_cases he : (rd_T43 L x).f0 = o
   ·have hee : ((rd_T43 L x).f0 == o) = true := beq_iff_eq.2 he
    have HV : Aside0 (lastOf o (upTo L (x + 1)) = (rd_T43 L x).f1) := ⟨by rw [HS.out, lastOf_snoc, if_pos he]⟩
    clear he hlt
    go_wp2
    go_roundw
    case rel => exact ⟨x + 1, by have := HX.out; omega, by have := HX.out; omega, int_eq (by first | rfl | (unfold wrap64; have := HX.out; have := HL.out; omega)), int_eq HV.out.symm, O1, K1⟩
    case measure => have := HX.out; simp [intOf]; omega
   ·have hee : ((rd_T43 L x).f0 == o) = false := beq_eq_false_iff_ne.2 he
    have HV : Aside0 (lastOf o (upTo L (x + 1)) = lastOf o (upTo L x)) := ⟨by rw [HS.out, lastOf_snoc, if_neg he]⟩
    clear he hlt
    go_wp2
    go_roundw
    case rel => exact ⟨x + 1, by have := HX.out; omega, by have := HX.out; omega, int_eq (by first | rfl | (unfold wrap64; have := HX.out; have := HL.out; omega)), int_eq HV.out.symm, O1, K1⟩
    case measure => have := HX.out; simp [intOf]; omega
  ·have hxe : x = (L.length : Int) := by omega
   subst hxe
   have hd : decide ((L.length : Int) < (L.length : Int)) = false := decide_eq_false (Int.lt_irrefl _)
   have HT : Aside0 (upTo L (L.length : Int) = L) := ⟨upTo_all L⟩
   clear hlt hx0 hx1 hF2
   have O2 : Aside0 (Own N1 wr [cells g #[.int .i64 C, .slice A0 L.length c0] 80, emp]) := ⟨OA.out⟩
   have K2 : Aside0 (KeepS N1 w wr) := ⟨KA.out⟩
   obtain ⟨a0a, a0b, b0⟩ := blk2_ (O2.out.blk (i := 0) rfl)
   clear OA KA
   go_wp2
   go_ret
   obtain ⟨hb, hk⟩ := HBACK.out _ _ (by simp) K2.out O2.out
   exact ⟨by rw [HT.out]; rfl, hb, hk⟩
theorem roundOf2 {N : Nat → Prop} {w : World} {l : List HP} {i : Nat} {A : Option Addr} {n c : Nat} (r : Rnd) (h : Own N w l) (hi : l[i]? = some (nrow k114 114 (.slice A n c) r.f2)) :
  Own N w (l.set i (both (elt k43 r [.int .i64 r.f0, .int .i64 r.f1, .slice A n c]) (rd k114 A n r.f2))) :=
 h.conv hi _ (fun F hp _ => ⟨fun W' hW => by
  obtain ⟨h1, h2, h3⟩ := Kd.N_reads' (Kd.N_step hp hW)
  rw [h1] at h2 ⊢
  exact k43_mk W' r h2 h3, Kd.N_F hp⟩)
set_option maxHeartbeats 16000000 in
set_option maxRecDepth 100000 in
theorem RAdd_may {N : Nat → Prop} {w : World} {g : Nat} {C : Int} {L : List Rnd} (B : Option Addr) (c : Nat) (o n : Int) (ups : List Upd) (h : Own N w [ObjM g C L]) (hr : Kd.F k114 w N B ups.length ups) (hc : ups.length ≤ c) (hL : L.length ≤ 1000000) (hu : ups.length ≤ 1000000) (k : Nat) (e : Int) (he : chapbookref07_May.f k o n ups = some e) (hz : (e != 0) = true) :
  Calls Tryd.prog 20 #[.pointer (some ⟨g, 0, none⟩), .agg #[.int .i64 o, .int .i64 n, .slice B ups.length c]] w fun e_ w' => ∃ A2 c2, e_ = .returned (.int .i64 e) ∧ (L).length ≤ c2 ∧ Own N w' [cells g #[.int .i64 C, .slice A2 (L).length c2] 80, nrow k43 43 (.slice A2 (L).length c2) (L)] ∧ KeepS N w w' := by
 have HR_0 : Aside0 (Kd.F k114 w N B ups.length ups) := ⟨hr⟩
 have HC := Aside0.mk hc
 have HE := Aside0.mk he
 have HL := Aside0.mk hL
 have HU := Aside0.mk hu
 have hz0 : ((0 : Int) != 0) = false := by decide
 obtain ⟨A0, c0, h2⟩ := ObjG.open_ h (i := 0) rfl
 have HC0 : Aside0 (L.length ≤ c0) := ⟨(h2.nreads (i := 1) rfl).2.1⟩
 have O0 : Aside0 (Own N w [cells g #[.int .i64 C, .slice A0 L.length c0] 80, nrow k43 43 (.slice A0 L.length c0) L]) := ⟨h2⟩
 have K0 : Aside0 (KeepS N w w) := ⟨KeepS.refl _ _⟩
 obtain ⟨a0a, a0b, b0⟩ := blk2_ (O0.out.blk (i := 0) rfl)
 clear h h2 hr hc hL hu he
 go_enter Tryd.func20, Tryd.ntmps20
 go_wp2_with (first | ((with_reducible refine gate_dst (N := 3) rfl ?_); refine bP 3 #[.int .i64 o, .int .i64 n, .slice B ups.length c] 43 O0.out ?_; intro gb w1 o_ k_; have O1 : Aside0 (Own N w1 [cells g #[.int .i64 C, .slice A0 L.length c0] 80, nrow k43 43 (.slice A0 L.length c0) L, cells gb #[.int .i64 o, .int .i64 n, .slice B ups.length c] 43]) := ⟨o_⟩; have K1 := Aside0.mk (K0.out.trans k_); have HR_1 := Aside0.mk (keepF HR_0.out k_); clear a0a a0b b0 O0 K0 HR_0; obtain ⟨a0a, a0b, b0⟩ := blk2_ (O1.out.blk (i := 0) rfl); obtain ⟨a2a, a2b, a2c, b2⟩ := blk3_ (O1.out.blk (i := 2) rfl); clear o_ k_) | ((with_reducible refine gate_callee (f := 46) rfl ?_); refine gP (some 7) Tryd.func46 #[.agg #[.int .i64 o, .int .i64 n, .slice B ups.length c]] ?_; refine (chapbookref07_May.calls k _ _ _ _ ups e _ (Kd.F_now HR_1.out) HC.out HE.out).mono ?_; rintro e_ w2 ⟨rfl, hb_⟩; refine ⟨_, rfl, ?_⟩; have o_ := O1.out.below hb_; have k_ := KeepS.of_below (N := N) hb_; have O2 := Aside0.mk o_; have K2 := Aside0.mk (K1.out.trans k_); have HR_2 := Aside0.mk (keepF HR_1.out k_); clear a0a a0b b0 a2a a2b a2c b2 O1 K1 HR_1; obtain ⟨a0a, a0b, b0⟩ := blk2_ (O2.out.blk (i := 0) rfl); obtain ⟨a2a, a2b, a2c, b2⟩ := blk3_ (O2.out.blk (i := 2) rfl); clear o_ k_ hb_))
 go_ret
 exact ⟨A0, c0, rfl, HC0.out, O2.out.take 2, K2.out⟩
set_option maxHeartbeats 16000000 in
set_option maxRecDepth 100000 in
theorem RAdd_none {N : Nat → Prop} {w : World} {g : Nat} {C : Int} {L : List Rnd} (B : Option Addr) (c : Nat) (o n : Int) (ups : List Upd) (h : Own N w [ObjM g C L]) (hr : Kd.F k114 w N B ups.length ups) (hc : ups.length ≤ c) (hL : L.length ≤ 1000000) (hu : ups.length ≤ 1000000) (k : Nat) (hb : mayR o n ups = 0) (he : chapbookref07_May.f k o n ups = some 0) (hg : Good C L) (ho : o > C) :
  Calls Tryd.prog 20 #[.pointer (some ⟨g, 0, none⟩), .agg #[.int .i64 o, .int .i64 n, .slice B ups.length c]] w fun e_ w' => ∃ A2 c2, e_ = .returned (.int .i64 11) ∧ (L).length ≤ c2 ∧ Own N w' [cells g #[.int .i64 C, .slice A2 (L).length c2] 80, nrow k43 43 (.slice A2 (L).length c2) (L)] ∧ KeepS N w w' := by
 have HR_0 : Aside0 (Kd.F k114 w N B ups.length ups) := ⟨hr⟩
 have HC := Aside0.mk hc
 have HE := Aside0.mk he
 have HL := Aside0.mk hL
 have HU := Aside0.mk hu
 have hz0 : ((0 : Int) != 0) = false := by decide
 have hlr := lastOf_range o hg
 obtain ⟨q, hq⟩ : ∃ q, q = lastOf o L + 1 := ⟨_, rfl⟩
 have hs1 : IntKind.i64.wrap (lastOf o L + 1) = q := by rw [IntKind.wrap_i64]; omega
 have hs2 : wrap64 (lastOf o L + 1) = q := by unfold wrap64; omega
 have d6 : decide (o > C) = true := decide_eq_true (by omega)
 have d7 : decide (C < o) = true := d6
 obtain ⟨A0, c0, h2⟩ := ObjG.open_ h (i := 0) rfl
 have HC0 : Aside0 (L.length ≤ c0) := ⟨(h2.nreads (i := 1) rfl).2.1⟩
 have O0 : Aside0 (Own N w [cells g #[.int .i64 C, .slice A0 L.length c0] 80, nrow k43 43 (.slice A0 L.length c0) L]) := ⟨h2⟩
 have K0 : Aside0 (KeepS N w w) := ⟨KeepS.refl _ _⟩
 obtain ⟨a0a, a0b, b0⟩ := blk2_ (O0.out.blk (i := 0) rfl)
 clear h h2 hr hc hL hu he hb hlr hg hq ho
 go_enter Tryd.func20, Tryd.ntmps20
 go_wp2_with (first | ((with_reducible refine gate_dst (N := 3) rfl ?_); refine bP 3 #[.int .i64 o, .int .i64 n, .slice B ups.length c] 43 O0.out ?_; intro gb w1 o_ k_; have O1 : Aside0 (Own N w1 [cells g #[.int .i64 C, .slice A0 L.length c0] 80, nrow k43 43 (.slice A0 L.length c0) L, cells gb #[.int .i64 o, .int .i64 n, .slice B ups.length c] 43]) := ⟨o_⟩; have K1 := Aside0.mk (K0.out.trans k_); have HR_1 := Aside0.mk (keepF HR_0.out k_); clear a0a a0b b0 O0 K0 HR_0; obtain ⟨a0a, a0b, b0⟩ := blk2_ (O1.out.blk (i := 0) rfl); obtain ⟨a2a, a2b, a2c, b2⟩ := blk3_ (O1.out.blk (i := 2) rfl); clear o_ k_) | ((with_reducible refine gate_callee (f := 46) rfl ?_); refine gP (some 7) Tryd.func46 #[.agg #[.int .i64 o, .int .i64 n, .slice B ups.length c]] ?_; refine (chapbookref07_May.calls k _ _ _ _ ups 0 _ (Kd.F_now HR_1.out) HC.out HE.out).mono ?_; rintro e_ w2 ⟨rfl, hb_⟩; refine ⟨_, rfl, ?_⟩; have o_ := O1.out.below hb_; have k_ := KeepS.of_below (N := N) hb_; have O2 := Aside0.mk o_; have K2 := Aside0.mk (K1.out.trans k_); have HR_2 := Aside0.mk (keepF HR_1.out k_); clear a0a a0b b0 a2a a2b a2c b2 O1 K1 HR_1; obtain ⟨a0a, a0b, b0⟩ := blk2_ (O2.out.blk (i := 0) rfl); obtain ⟨a2a, a2b, a2c, b2⟩ := blk3_ (O2.out.blk (i := 2) rfl); clear o_ k_ hb_))
 refine sP (n := 7) (S := fun w' => w'.cell? ⟨gb, 0, none⟩ = some (.int .i64 o) ∧ w'.cell? ⟨gb, 1, none⟩ = some (.int .i64 n) ∧ w'.cell? ⟨gb, 2, none⟩ = some (.slice B ups.length c) ∧ w'.cell? ⟨g, 0, none⟩ = some (.int .i64 C) ∧ w'.cell? ⟨g, 1, none⟩ = some (.slice A0 L.length c0)) (ds := []) ⟨a2a, a2b, a2c, a0a, a0b⟩ (fun hHeld => ?_)
 obtain ⟨w3, hw_⟩ : ∃ W, W = w2.drew := ⟨_, rfl⟩
 have o_ := O2.out.drew
 have k_ : KeepS N w2 w2.drew := KeepS.drew
 rw [← hw_] at o_ k_ hHeld ⊢
 clear hw_
 have O3 := Aside0.mk o_
 have K3 := Aside0.mk (K2.out.trans k_)
 have HR_3 := Aside0.mk (keepF HR_2.out k_)
 clear a0a a0b b0 a2a a2b a2c b2 O2 K2 HR_2
 obtain ⟨a0a, a0b, b0⟩ := blk2_ (O3.out.blk (i := 0) rfl)
 obtain ⟨a2a, a2b, a2c, b2⟩ := blk3_ (O3.out.blk (i := 2) rfl)
 clear o_ k_
 refine pP 0 (some 11) ?_
 refine pP 2 (some 13) ?_
 refine pP 3 (some 14) ?_
 refine pP 4 (some 15) ?_
 refine tP 1 (some 12) hHeld ?_
 refine tP 5 (some 16) hHeld ?_
 refine pP 6 (some 17) ?_
 refine done_ (by kernel_rfl) ?_
 clear hHeld
 go_wp2
 go_ret
 exact ⟨A0, c0, rfl, HC0.out, O3.out.take 2, K3.out⟩
set_option maxHeartbeats 16000000 in
set_option maxRecDepth 100000 in
theorem RAdd_twice {N : Nat → Prop} {w : World} {g : Nat} {C : Int} {L : List Rnd} (B : Option Addr) (c : Nat) (o n : Int) (ups : List Upd) (h : Own N w [ObjM g C L]) (hr : Kd.F k114 w N B ups.length ups) (hc : ups.length ≤ c) (hL : L.length ≤ 1000000) (hu : ups.length ≤ 1000000) (k : Nat) (hb : mayR o n ups = 0) (he : chapbookref07_May.f k o n ups = some 0) (hg : Good C L) (ho : o ≤ C) (ho2 : n < lastOf o L + 1) :
  Calls Tryd.prog 20 #[.pointer (some ⟨g, 0, none⟩), .agg #[.int .i64 o, .int .i64 n, .slice B ups.length c]] w fun e_ w' => ∃ A2 c2, e_ = .returned (.int .i64 12) ∧ (L).length ≤ c2 ∧ Own N w' [cells g #[.int .i64 C, .slice A2 (L).length c2] 80, nrow k43 43 (.slice A2 (L).length c2) (L)] ∧ KeepS N w w' := by
 have HR_0 : Aside0 (Kd.F k114 w N B ups.length ups) := ⟨hr⟩
 have HC := Aside0.mk hc
 have HE := Aside0.mk he
 have HL := Aside0.mk hL
 have HU := Aside0.mk hu
 have hz0 : ((0 : Int) != 0) = false := by decide
 have hlr := lastOf_range o hg
 obtain ⟨q, hq⟩ : ∃ q, q = lastOf o L + 1 := ⟨_, rfl⟩
 have hs1 : IntKind.i64.wrap (lastOf o L + 1) = q := by rw [IntKind.wrap_i64]; omega
 have hs2 : wrap64 (lastOf o L + 1) = q := by unfold wrap64; omega
 have d6 : decide (o > C) = false := decide_eq_false (by omega)
 have d7 : decide (C < o) = false := d6
 have d8 : decide (n ≤ lastOf o L) = true := decide_eq_true (by omega)
 obtain ⟨A0, c0, h2⟩ := ObjG.open_ h (i := 0) rfl
 have HC0 : Aside0 (L.length ≤ c0) := ⟨(h2.nreads (i := 1) rfl).2.1⟩
 have O0 : Aside0 (Own N w [cells g #[.int .i64 C, .slice A0 L.length c0] 80, nrow k43 43 (.slice A0 L.length c0) L]) := ⟨h2⟩
 have K0 : Aside0 (KeepS N w w) := ⟨KeepS.refl _ _⟩
 obtain ⟨a0a, a0b, b0⟩ := blk2_ (O0.out.blk (i := 0) rfl)
 clear h h2 hr hc hL hu he hb hlr hg hq ho ho2
 go_enter Tryd.func20, Tryd.ntmps20
 go_wp2_with (first | ((with_reducible refine gate_dst (N := 3) rfl ?_); refine bP 3 #[.int .i64 o, .int .i64 n, .slice B ups.length c] 43 O0.out ?_; intro gb w1 o_ k_; have O1 : Aside0 (Own N w1 [cells g #[.int .i64 C, .slice A0 L.length c0] 80, nrow k43 43 (.slice A0 L.length c0) L, cells gb #[.int .i64 o, .int .i64 n, .slice B ups.length c] 43]) := ⟨o_⟩; have K1 := Aside0.mk (K0.out.trans k_); have HR_1 := Aside0.mk (keepF HR_0.out k_); clear a0a a0b b0 O0 K0 HR_0; obtain ⟨a0a, a0b, b0⟩ := blk2_ (O1.out.blk (i := 0) rfl); obtain ⟨a2a, a2b, a2c, b2⟩ := blk3_ (O1.out.blk (i := 2) rfl); clear o_ k_) | ((with_reducible refine gate_callee (f := 46) rfl ?_); refine gP (some 7) Tryd.func46 #[.agg #[.int .i64 o, .int .i64 n, .slice B ups.length c]] ?_; refine (chapbookref07_May.calls k _ _ _ _ ups 0 _ (Kd.F_now HR_1.out) HC.out HE.out).mono ?_; rintro e_ w2 ⟨rfl, hb_⟩; refine ⟨_, rfl, ?_⟩; have o_ := O1.out.below hb_; have k_ := KeepS.of_below (N := N) hb_; have O2 := Aside0.mk o_; have K2 := Aside0.mk (K1.out.trans k_); have HR_2 := Aside0.mk (keepF HR_1.out k_); clear a0a a0b b0 a2a a2b a2c b2 O1 K1 HR_1; obtain ⟨a0a, a0b, b0⟩ := blk2_ (O2.out.blk (i := 0) rfl); obtain ⟨a2a, a2b, a2c, b2⟩ := blk3_ (O2.out.blk (i := 2) rfl); clear o_ k_ hb_))
 refine sP (n := 7) (S := fun w' => w'.cell? ⟨gb, 0, none⟩ = some (.int .i64 o) ∧ w'.cell? ⟨gb, 1, none⟩ = some (.int .i64 n) ∧ w'.cell? ⟨gb, 2, none⟩ = some (.slice B ups.length c) ∧ w'.cell? ⟨g, 0, none⟩ = some (.int .i64 C) ∧ w'.cell? ⟨g, 1, none⟩ = some (.slice A0 L.length c0)) (ds := []) ⟨a2a, a2b, a2c, a0a, a0b⟩ (fun hHeld => ?_)
 obtain ⟨w3, hw_⟩ : ∃ W, W = w2.drew := ⟨_, rfl⟩
 have o_ := O2.out.drew
 have k_ : KeepS N w2 w2.drew := KeepS.drew
 rw [← hw_] at o_ k_ hHeld ⊢
 clear hw_
 have O3 := Aside0.mk o_
 have K3 := Aside0.mk (K2.out.trans k_)
 have HR_3 := Aside0.mk (keepF HR_2.out k_)
 clear a0a a0b b0 a2a a2b a2c b2 O2 K2 HR_2
 obtain ⟨a0a, a0b, b0⟩ := blk2_ (O3.out.blk (i := 0) rfl)
 obtain ⟨a2a, a2b, a2c, b2⟩ := blk3_ (O3.out.blk (i := 2) rfl)
 clear o_ k_
 refine pP 0 (some 11) ?_
 refine pP 2 (some 13) ?_
 refine pP 3 (some 14) ?_
 refine pP 4 (some 15) ?_
 refine tP 1 (some 12) hHeld ?_
 refine tP 5 (some 16) hHeld ?_
 refine pP 6 (some 17) ?_
 refine done_ (by kernel_rfl) ?_
 clear hHeld
 go_wp2
 refine sP (n := 7) (S := fun w' => w'.cell? ⟨gb, 0, none⟩ = some (.int .i64 o) ∧ w'.cell? ⟨gb, 1, none⟩ = some (.int .i64 n) ∧ w'.cell? ⟨gb, 2, none⟩ = some (.slice B ups.length c)) (ds := []) ⟨a2a, a2b, a2c⟩ (fun hHeld => ?_)
 obtain ⟨w4, hw_⟩ : ∃ W, W = w3.drew := ⟨_, rfl⟩
 have o_ := O3.out.drew
 have k_ : KeepS N w3 w3.drew := KeepS.drew
 rw [← hw_] at o_ k_ hHeld ⊢
 clear hw_
 have O4 := Aside0.mk o_
 have K4 := Aside0.mk (K3.out.trans k_)
 have HR_4 := Aside0.mk (keepF HR_3.out k_)
 clear a0a a0b b0 a2a a2b a2c b2 O3 K3 HR_3
 obtain ⟨a0a, a0b, b0⟩ := blk2_ (O4.out.blk (i := 0) rfl)
 obtain ⟨a2a, a2b, a2c, b2⟩ := blk3_ (O4.out.blk (i := 2) rfl)
 clear o_ k_
 refine pP 0 (some 18) ?_
 refine pP 2 (some 20) ?_
 refine pP 3 (some 21) ?_
 refine tP 1 (some 19) hHeld ?_
 refine tP 4 (some 22) hHeld ?_
 refine oP 5 (some 23) (fun K_ hK_ => ?_)
 refine hP Tryd.func47 #[.pointer (some ⟨g, 0, none⟩), .int .i64 o] ?_
 obtain ⟨N_, on_, nn_, rr_, bb_⟩ := O4.out.frame2 (i := 0) (j := 1) rfl rfl (by decide)
 refine (RLastO o on_ HL.out).mono ?_
 rintro e_ w5 ⟨rfl, oo_, kk_⟩
 obtain ⟨o_, k_⟩ := bb_ _ _ _ _ kk_ oo_
 refine ⟨_, rfl, ?_⟩
 have O5 : Aside0 (Own N w5 [cells g #[.int .i64 C, .slice A0 L.length c0] 80, nrow k43 43 (.slice A0 L.length c0) L, cells gb #[.int .i64 o, .int .i64 n, .slice B ups.length c] 43]) := ⟨o_⟩
 have K5 := Aside0.mk (K4.out.trans k_)
 have HR_5 := Aside0.mk (keepF HR_4.out k_)
 clear a0a a0b b0 a2a a2b a2c b2 O4 K4 HR_4
 obtain ⟨a0a, a0b, b0⟩ := blk2_ (O5.out.blk (i := 0) rfl)
 obtain ⟨a2a, a2b, a2c, b2⟩ := blk3_ (O5.out.blk (i := 2) rfl)
 clear o_ k_ oo_ kk_ on_ nn_ rr_ bb_
 clear hHeld
 refine hK_.out _ _ ⟨a2a, a2b, a2c⟩ (fun hHeld => ?_)
 clear hK_ K_
 refine nP ?_
 refine pP 6 (some 24) ?_
 refine done_ (by kernel_rfl) ?_
 clear hHeld
 go_wp2
 go_ret
 exact ⟨A0, c0, rfl, HC0.out, O5.out.take 2, K5.out⟩
set_option maxHeartbeats 16000000 in
set_option maxRecDepth 100000 in
theorem RAdd_order {N : Nat → Prop} {w : World} {g : Nat} {C : Int} {L : List Rnd} (B : Option Addr) (c : Nat) (o n : Int) (ups : List Upd) (h : Own N w [ObjM g C L]) (hr : Kd.F k114 w N B ups.length ups) (hc : ups.length ≤ c) (hL : L.length ≤ 1000000) (hu : ups.length ≤ 1000000) (k : Nat) (hb : mayR o n ups = 0) (he : chapbookref07_May.f k o n ups = some 0) (hg : Good C L) (ho : o ≤ C) (ho2 : n > lastOf o L + 1) :
  Calls Tryd.prog 20 #[.pointer (some ⟨g, 0, none⟩), .agg #[.int .i64 o, .int .i64 n, .slice B ups.length c]] w fun e_ w' => ∃ A2 c2, e_ = .returned (.int .i64 10) ∧ (L).length ≤ c2 ∧ Own N w' [cells g #[.int .i64 C, .slice A2 (L).length c2] 80, nrow k43 43 (.slice A2 (L).length c2) (L)] ∧ KeepS N w w' := by
 have HR_0 : Aside0 (Kd.F k114 w N B ups.length ups) := ⟨hr⟩
 have HC := Aside0.mk hc
 have HE := Aside0.mk he
 have HL := Aside0.mk hL
 have HU := Aside0.mk hu
 have hz0 : ((0 : Int) != 0) = false := by decide
 have hlr := lastOf_range o hg
 obtain ⟨q, hq⟩ : ∃ q, q = lastOf o L + 1 := ⟨_, rfl⟩
 have hs1 : IntKind.i64.wrap (lastOf o L + 1) = q := by rw [IntKind.wrap_i64]; omega
 have hs2 : wrap64 (lastOf o L + 1) = q := by unfold wrap64; omega
 have d6 : decide (o > C) = false := decide_eq_false (by omega)
 have d7 : decide (C < o) = false := d6
 have d8 : decide (n ≤ lastOf o L) = false := decide_eq_false (by omega)
 have d9 : decide (n > q) = true := decide_eq_true (by omega)
 have d10 : decide (q < n) = true := d9
 obtain ⟨A0, c0, h2⟩ := ObjG.open_ h (i := 0) rfl
 have HC0 : Aside0 (L.length ≤ c0) := ⟨(h2.nreads (i := 1) rfl).2.1⟩
 have O0 : Aside0 (Own N w [cells g #[.int .i64 C, .slice A0 L.length c0] 80, nrow k43 43 (.slice A0 L.length c0) L]) := ⟨h2⟩
 have K0 : Aside0 (KeepS N w w) := ⟨KeepS.refl _ _⟩
 obtain ⟨a0a, a0b, b0⟩ := blk2_ (O0.out.blk (i := 0) rfl)
 clear h h2 hr hc hL hu he hb hlr hg hq ho ho2
 go_enter Tryd.func20, Tryd.ntmps20
 go_wp2_with (first | ((with_reducible refine gate_dst (N := 3) rfl ?_); refine bP 3 #[.int .i64 o, .int .i64 n, .slice B ups.length c] 43 O0.out ?_; intro gb w1 o_ k_; have O1 : Aside0 (Own N w1 [cells g #[.int .i64 C, .slice A0 L.length c0] 80, nrow k43 43 (.slice A0 L.length c0) L, cells gb #[.int .i64 o, .int .i64 n, .slice B ups.length c] 43]) := ⟨o_⟩; have K1 := Aside0.mk (K0.out.trans k_); have HR_1 := Aside0.mk (keepF HR_0.out k_); clear a0a a0b b0 O0 K0 HR_0; obtain ⟨a0a, a0b, b0⟩ := blk2_ (O1.out.blk (i := 0) rfl); obtain ⟨a2a, a2b, a2c, b2⟩ := blk3_ (O1.out.blk (i := 2) rfl); clear o_ k_) | ((with_reducible refine gate_callee (f := 46) rfl ?_); refine gP (some 7) Tryd.func46 #[.agg #[.int .i64 o, .int .i64 n, .slice B ups.length c]] ?_; refine (chapbookref07_May.calls k _ _ _ _ ups 0 _ (Kd.F_now HR_1.out) HC.out HE.out).mono ?_; rintro e_ w2 ⟨rfl, hb_⟩; refine ⟨_, rfl, ?_⟩; have o_ := O1.out.below hb_; have k_ := KeepS.of_below (N := N) hb_; have O2 := Aside0.mk o_; have K2 := Aside0.mk (K1.out.trans k_); have HR_2 := Aside0.mk (keepF HR_1.out k_); clear a0a a0b b0 a2a a2b a2c b2 O1 K1 HR_1; obtain ⟨a0a, a0b, b0⟩ := blk2_ (O2.out.blk (i := 0) rfl); obtain ⟨a2a, a2b, a2c, b2⟩ := blk3_ (O2.out.blk (i := 2) rfl); clear o_ k_ hb_))
 refine sP (n := 7) (S := fun w' => w'.cell? ⟨gb, 0, none⟩ = some (.int .i64 o) ∧ w'.cell? ⟨gb, 1, none⟩ = some (.int .i64 n) ∧ w'.cell? ⟨gb, 2, none⟩ = some (.slice B ups.length c) ∧ w'.cell? ⟨g, 0, none⟩ = some (.int .i64 C) ∧ w'.cell? ⟨g, 1, none⟩ = some (.slice A0 L.length c0)) (ds := []) ⟨a2a, a2b, a2c, a0a, a0b⟩ (fun hHeld => ?_)
 obtain ⟨w3, hw_⟩ : ∃ W, W = w2.drew := ⟨_, rfl⟩
 have o_ := O2.out.drew
 have k_ : KeepS N w2 w2.drew := KeepS.drew
 rw [← hw_] at o_ k_ hHeld ⊢
 clear hw_
 have O3 := Aside0.mk o_
 have K3 := Aside0.mk (K2.out.trans k_)
 have HR_3 := Aside0.mk (keepF HR_2.out k_)
 clear a0a a0b b0 a2a a2b a2c b2 O2 K2 HR_2
 obtain ⟨a0a, a0b, b0⟩ := blk2_ (O3.out.blk (i := 0) rfl)
 obtain ⟨a2a, a2b, a2c, b2⟩ := blk3_ (O3.out.blk (i := 2) rfl)
 clear o_ k_
 refine pP 0 (some 11) ?_
 refine pP 2 (some 13) ?_
 refine pP 3 (some 14) ?_
 refine pP 4 (some 15) ?_
 refine tP 1 (some 12) hHeld ?_
 refine tP 5 (some 16) hHeld ?_
 refine pP 6 (some 17) ?_
 refine done_ (by kernel_rfl) ?_
 clear hHeld
 go_wp2
 refine sP (n := 7) (S := fun w' => w'.cell? ⟨gb, 0, none⟩ = some (.int .i64 o) ∧ w'.cell? ⟨gb, 1, none⟩ = some (.int .i64 n) ∧ w'.cell? ⟨gb, 2, none⟩ = some (.slice B ups.length c)) (ds := []) ⟨a2a, a2b, a2c⟩ (fun hHeld => ?_)
 obtain ⟨w4, hw_⟩ : ∃ W, W = w3.drew := ⟨_, rfl⟩
 have o_ := O3.out.drew
 have k_ : KeepS N w3 w3.drew := KeepS.drew
 rw [← hw_] at o_ k_ hHeld ⊢
 clear hw_
 have O4 := Aside0.mk o_
 have K4 := Aside0.mk (K3.out.trans k_)
 have HR_4 := Aside0.mk (keepF HR_3.out k_)
 clear a0a a0b b0 a2a a2b a2c b2 O3 K3 HR_3
 obtain ⟨a0a, a0b, b0⟩ := blk2_ (O4.out.blk (i := 0) rfl)
 obtain ⟨a2a, a2b, a2c, b2⟩ := blk3_ (O4.out.blk (i := 2) rfl)
 clear o_ k_
 refine pP 0 (some 18) ?_
 refine pP 2 (some 20) ?_
 refine pP 3 (some 21) ?_
 refine tP 1 (some 19) hHeld ?_
 refine tP 4 (some 22) hHeld ?_
 refine oP 5 (some 23) (fun K_ hK_ => ?_)
 refine hP Tryd.func47 #[.pointer (some ⟨g, 0, none⟩), .int .i64 o] ?_
 obtain ⟨N_, on_, nn_, rr_, bb_⟩ := O4.out.frame2 (i := 0) (j := 1) rfl rfl (by decide)
 refine (RLastO o on_ HL.out).mono ?_
 rintro e_ w5 ⟨rfl, oo_, kk_⟩
 obtain ⟨o_, k_⟩ := bb_ _ _ _ _ kk_ oo_
 refine ⟨_, rfl, ?_⟩
 have O5 : Aside0 (Own N w5 [cells g #[.int .i64 C, .slice A0 L.length c0] 80, nrow k43 43 (.slice A0 L.length c0) L, cells gb #[.int .i64 o, .int .i64 n, .slice B ups.length c] 43]) := ⟨o_⟩
 have K5 := Aside0.mk (K4.out.trans k_)
 have HR_5 := Aside0.mk (keepF HR_4.out k_)
 clear a0a a0b b0 a2a a2b a2c b2 O4 K4 HR_4
 obtain ⟨a0a, a0b, b0⟩ := blk2_ (O5.out.blk (i := 0) rfl)
 obtain ⟨a2a, a2b, a2c, b2⟩ := blk3_ (O5.out.blk (i := 2) rfl)
 clear o_ k_ oo_ kk_ on_ nn_ rr_ bb_
 clear hHeld
 refine hK_.out _ _ ⟨a2a, a2b, a2c⟩ (fun hHeld => ?_)
 clear hK_ K_
 refine nP ?_
 refine pP 6 (some 24) ?_
 refine done_ (by kernel_rfl) ?_
 clear hHeld
 go_wp2
 refine sP (n := 8) (S := fun w' => w'.cell? ⟨gb, 0, none⟩ = some (.int .i64 o) ∧ w'.cell? ⟨gb, 1, none⟩ = some (.int .i64 n) ∧ w'.cell? ⟨gb, 2, none⟩ = some (.slice B ups.length c)) (ds := []) ⟨a2a, a2b, a2c⟩ (fun hHeld => ?_)
 obtain ⟨w6, hw_⟩ : ∃ W, W = w5.drew := ⟨_, rfl⟩
 have o_ := O5.out.drew
 have k_ : KeepS N w5 w5.drew := KeepS.drew
 rw [← hw_] at o_ k_ hHeld ⊢
 clear hw_
 have O6 := Aside0.mk o_
 have K6 := Aside0.mk (K5.out.trans k_)
 have HR_6 := Aside0.mk (keepF HR_5.out k_)
 clear a0a a0b b0 a2a a2b a2c b2 O5 K5 HR_5
 obtain ⟨a0a, a0b, b0⟩ := blk2_ (O6.out.blk (i := 0) rfl)
 obtain ⟨a2a, a2b, a2c, b2⟩ := blk3_ (O6.out.blk (i := 2) rfl)
 clear o_ k_
 refine pP 0 (some 25) ?_
 refine pP 2 (some 27) ?_
 refine pP 3 (some 28) ?_
 refine tP 1 (some 26) hHeld ?_
 refine tP 4 (some 29) hHeld ?_
 refine oP 5 (some 30) (fun K_ hK_ => ?_)
 refine hP Tryd.func47 #[.pointer (some ⟨g, 0, none⟩), .int .i64 o] ?_
 obtain ⟨N_, on_, nn_, rr_, bb_⟩ := O6.out.frame2 (i := 0) (j := 1) rfl rfl (by decide)
 refine (RLastO o on_ HL.out).mono ?_
 rintro e_ w7 ⟨rfl, oo_, kk_⟩
 obtain ⟨o_, k_⟩ := bb_ _ _ _ _ kk_ oo_
 refine ⟨_, rfl, ?_⟩
 have O7 : Aside0 (Own N w7 [cells g #[.int .i64 C, .slice A0 L.length c0] 80, nrow k43 43 (.slice A0 L.length c0) L, cells gb #[.int .i64 o, .int .i64 n, .slice B ups.length c] 43]) := ⟨o_⟩
 have K7 := Aside0.mk (K6.out.trans k_)
 have HR_7 := Aside0.mk (keepF HR_6.out k_)
 clear a0a a0b b0 a2a a2b a2c b2 O6 K6 HR_6
 obtain ⟨a0a, a0b, b0⟩ := blk2_ (O7.out.blk (i := 0) rfl)
 obtain ⟨a2a, a2b, a2c, b2⟩ := blk3_ (O7.out.blk (i := 2) rfl)
 clear o_ k_ oo_ kk_ on_ nn_ rr_ bb_
 clear hHeld
 refine hK_.out _ _ ⟨a2a, a2b, a2c⟩ (fun hHeld => ?_)
 clear hK_ K_
 refine nP ?_
 refine pP 6 (some 31) ?_
 refine pP 7 (some 32) ?_
 refine done_ (by kernel_rfl) ?_
 clear hHeld
 go_wp2
 go_ret
 exact ⟨A0, c0, rfl, HC0.out, O7.out.take 2, K7.out⟩
set_option maxHeartbeats 16000000 in
set_option maxRecDepth 100000 in
theorem RAdd_ok {N : Nat → Prop} {w : World} {g : Nat} {C : Int} {L : List Rnd} (B : Option Addr) (c : Nat) (o n : Int) (ups : List Upd) (h : Own N w [ObjM g C L]) (hr : Kd.F k114 w N B ups.length ups) (hc : ups.length ≤ c) (hL : L.length ≤ 1000000) (hu : ups.length ≤ 1000000) (k : Nat) (hb : mayR o n ups = 0) (he : chapbookref07_May.f k o n ups = some 0) (hg : Good C L) (ho : o ≤ C) (ho2 : n = lastOf o L + 1) :
  Calls Tryd.prog 20 #[.pointer (some ⟨g, 0, none⟩), .agg #[.int .i64 o, .int .i64 n, .slice B ups.length c]] w fun e_ w' => ∃ A2 c2, e_ = .returned (.int .i64 0) ∧ (L ++ [(⟨o, n, ups⟩ : Rnd)]).length ≤ c2 ∧ Own N w' [cells g #[.int .i64 C, .slice A2 (L ++ [(⟨o, n, ups⟩ : Rnd)]).length c2] 80, nrow k43 43 (.slice A2 (L ++ [(⟨o, n, ups⟩ : Rnd)]).length c2) (L ++ [(⟨o, n, ups⟩ : Rnd)])] ∧ KeepS N w w' := by
 have HR_0 : Aside0 (Kd.F k114 w N B ups.length ups) := ⟨hr⟩
 have HC := Aside0.mk hc
 have HE := Aside0.mk he
 have HL := Aside0.mk hL
 have HU := Aside0.mk hu
 have hz0 : ((0 : Int) != 0) = false := by decide
 have hlr := lastOf_range o hg
 obtain ⟨q, hq⟩ : ∃ q, q = lastOf o L + 1 := ⟨_, rfl⟩
 have hs1 : IntKind.i64.wrap (lastOf o L + 1) = q := by rw [IntKind.wrap_i64]; omega
 have hs2 : wrap64 (lastOf o L + 1) = q := by unfold wrap64; omega
 have d6 : decide (o > C) = false := decide_eq_false (by omega)
 have d7 : decide (C < o) = false := d6
 have d8 : decide (n ≤ lastOf o L) = false := decide_eq_false (by omega)
 have d9 : decide (n > q) = false := decide_eq_false (by omega)
 have d10 : decide (q < n) = false := d9
 obtain ⟨A0, c0, h2⟩ := ObjG.open_ h (i := 0) rfl
 have HC0 : Aside0 (L.length ≤ c0) := ⟨(h2.nreads (i := 1) rfl).2.1⟩
 have O0 : Aside0 (Own N w [cells g #[.int .i64 C, .slice A0 L.length c0] 80, nrow k43 43 (.slice A0 L.length c0) L]) := ⟨h2⟩
 have K0 : Aside0 (KeepS N w w) := ⟨KeepS.refl _ _⟩
 obtain ⟨a0a, a0b, b0⟩ := blk2_ (O0.out.blk (i := 0) rfl)
 clear h h2 hr hc hL hu he hb hlr hg hq ho ho2
 go_enter Tryd.func20, Tryd.ntmps20
 go_wp2_with (first | ((with_reducible refine gate_dst (N := 3) rfl ?_); refine bP 3 #[.int .i64 o, .int .i64 n, .slice B ups.length c] 43 O0.out ?_; intro gb w1 o_ k_; have O1 : Aside0 (Own N w1 [cells g #[.int .i64 C, .slice A0 L.length c0] 80, nrow k43 43 (.slice A0 L.length c0) L, cells gb #[.int .i64 o, .int .i64 n, .slice B ups.length c] 43]) := ⟨o_⟩; have K1 := Aside0.mk (K0.out.trans k_); have HR_1 := Aside0.mk (keepF HR_0.out k_); clear a0a a0b b0 O0 K0 HR_0; obtain ⟨a0a, a0b, b0⟩ := blk2_ (O1.out.blk (i := 0) rfl); obtain ⟨a2a, a2b, a2c, b2⟩ := blk3_ (O1.out.blk (i := 2) rfl); clear o_ k_) | ((with_reducible refine gate_callee (f := 46) rfl ?_); refine gP (some 7) Tryd.func46 #[.agg #[.int .i64 o, .int .i64 n, .slice B ups.length c]] ?_; refine (chapbookref07_May.calls k _ _ _ _ ups 0 _ (Kd.F_now HR_1.out) HC.out HE.out).mono ?_; rintro e_ w2 ⟨rfl, hb_⟩; refine ⟨_, rfl, ?_⟩; have o_ := O1.out.below hb_; have k_ := KeepS.of_below (N := N) hb_; have O2 := Aside0.mk o_; have K2 := Aside0.mk (K1.out.trans k_); have HR_2 := Aside0.mk (keepF HR_1.out k_); clear a0a a0b b0 a2a a2b a2c b2 O1 K1 HR_1; obtain ⟨a0a, a0b, b0⟩ := blk2_ (O2.out.blk (i := 0) rfl); obtain ⟨a2a, a2b, a2c, b2⟩ := blk3_ (O2.out.blk (i := 2) rfl); clear o_ k_ hb_))
 refine sP (n := 7) (S := fun w' => w'.cell? ⟨gb, 0, none⟩ = some (.int .i64 o) ∧ w'.cell? ⟨gb, 1, none⟩ = some (.int .i64 n) ∧ w'.cell? ⟨gb, 2, none⟩ = some (.slice B ups.length c) ∧ w'.cell? ⟨g, 0, none⟩ = some (.int .i64 C) ∧ w'.cell? ⟨g, 1, none⟩ = some (.slice A0 L.length c0)) (ds := []) ⟨a2a, a2b, a2c, a0a, a0b⟩ (fun hHeld => ?_)
 obtain ⟨w3, hw_⟩ : ∃ W, W = w2.drew := ⟨_, rfl⟩
 have o_ := O2.out.drew
 have k_ : KeepS N w2 w2.drew := KeepS.drew
 rw [← hw_] at o_ k_ hHeld ⊢
 clear hw_
 have O3 := Aside0.mk o_
 have K3 := Aside0.mk (K2.out.trans k_)
 have HR_3 := Aside0.mk (keepF HR_2.out k_)
 clear a0a a0b b0 a2a a2b a2c b2 O2 K2 HR_2
 obtain ⟨a0a, a0b, b0⟩ := blk2_ (O3.out.blk (i := 0) rfl)
 obtain ⟨a2a, a2b, a2c, b2⟩ := blk3_ (O3.out.blk (i := 2) rfl)
 clear o_ k_
 refine pP 0 (some 11) ?_
 refine pP 2 (some 13) ?_
 refine pP 3 (some 14) ?_
 refine pP 4 (some 15) ?_
 refine tP 1 (some 12) hHeld ?_
 refine tP 5 (some 16) hHeld ?_
 refine pP 6 (some 17) ?_
 refine done_ (by kernel_rfl) ?_
 clear hHeld
 go_wp2
 refine sP (n := 7) (S := fun w' => w'.cell? ⟨gb, 0, none⟩ = some (.int .i64 o) ∧ w'.cell? ⟨gb, 1, none⟩ = some (.int .i64 n) ∧ w'.cell? ⟨gb, 2, none⟩ = some (.slice B ups.length c)) (ds := []) ⟨a2a, a2b, a2c⟩ (fun hHeld => ?_)
 obtain ⟨w4, hw_⟩ : ∃ W, W = w3.drew := ⟨_, rfl⟩
 have o_ := O3.out.drew
 have k_ : KeepS N w3 w3.drew := KeepS.drew
 rw [← hw_] at o_ k_ hHeld ⊢
 clear hw_
 have O4 := Aside0.mk o_
 have K4 := Aside0.mk (K3.out.trans k_)
 have HR_4 := Aside0.mk (keepF HR_3.out k_)
 clear a0a a0b b0 a2a a2b a2c b2 O3 K3 HR_3
 obtain ⟨a0a, a0b, b0⟩ := blk2_ (O4.out.blk (i := 0) rfl)
 obtain ⟨a2a, a2b, a2c, b2⟩ := blk3_ (O4.out.blk (i := 2) rfl)
 clear o_ k_
 refine pP 0 (some 18) ?_
 refine pP 2 (some 20) ?_
 refine pP 3 (some 21) ?_
 refine tP 1 (some 19) hHeld ?_
 refine tP 4 (some 22) hHeld ?_
 refine oP 5 (some 23) (fun K_ hK_ => ?_)
 refine hP Tryd.func47 #[.pointer (some ⟨g, 0, none⟩), .int .i64 o] ?_
 obtain ⟨N_, on_, nn_, rr_, bb_⟩ := O4.out.frame2 (i := 0) (j := 1) rfl rfl (by decide)
 refine (RLastO o on_ HL.out).mono ?_
 rintro e_ w5 ⟨rfl, oo_, kk_⟩
 obtain ⟨o_, k_⟩ := bb_ _ _ _ _ kk_ oo_
 refine ⟨_, rfl, ?_⟩
 have O5 : Aside0 (Own N w5 [cells g #[.int .i64 C, .slice A0 L.length c0] 80, nrow k43 43 (.slice A0 L.length c0) L, cells gb #[.int .i64 o, .int .i64 n, .slice B ups.length c] 43]) := ⟨o_⟩
 have K5 := Aside0.mk (K4.out.trans k_)
 have HR_5 := Aside0.mk (keepF HR_4.out k_)
 clear a0a a0b b0 a2a a2b a2c b2 O4 K4 HR_4
 obtain ⟨a0a, a0b, b0⟩ := blk2_ (O5.out.blk (i := 0) rfl)
 obtain ⟨a2a, a2b, a2c, b2⟩ := blk3_ (O5.out.blk (i := 2) rfl)
 clear o_ k_ oo_ kk_ on_ nn_ rr_ bb_
 clear hHeld
 refine hK_.out _ _ ⟨a2a, a2b, a2c⟩ (fun hHeld => ?_)
 clear hK_ K_
 refine nP ?_
 refine pP 6 (some 24) ?_
 refine done_ (by kernel_rfl) ?_
 clear hHeld
 go_wp2
 refine sP (n := 8) (S := fun w' => w'.cell? ⟨gb, 0, none⟩ = some (.int .i64 o) ∧ w'.cell? ⟨gb, 1, none⟩ = some (.int .i64 n) ∧ w'.cell? ⟨gb, 2, none⟩ = some (.slice B ups.length c)) (ds := []) ⟨a2a, a2b, a2c⟩ (fun hHeld => ?_)
 obtain ⟨w6, hw_⟩ : ∃ W, W = w5.drew := ⟨_, rfl⟩
 have o_ := O5.out.drew
 have k_ : KeepS N w5 w5.drew := KeepS.drew
 rw [← hw_] at o_ k_ hHeld ⊢
 clear hw_
 have O6 := Aside0.mk o_
 have K6 := Aside0.mk (K5.out.trans k_)
 have HR_6 := Aside0.mk (keepF HR_5.out k_)
 clear a0a a0b b0 a2a a2b a2c b2 O5 K5 HR_5
 obtain ⟨a0a, a0b, b0⟩ := blk2_ (O6.out.blk (i := 0) rfl)
 obtain ⟨a2a, a2b, a2c, b2⟩ := blk3_ (O6.out.blk (i := 2) rfl)
 clear o_ k_
 refine pP 0 (some 25) ?_
 refine pP 2 (some 27) ?_
 refine pP 3 (some 28) ?_
 refine tP 1 (some 26) hHeld ?_
 refine tP 4 (some 29) hHeld ?_
 refine oP 5 (some 30) (fun K_ hK_ => ?_)
 refine hP Tryd.func47 #[.pointer (some ⟨g, 0, none⟩), .int .i64 o] ?_
 obtain ⟨N_, on_, nn_, rr_, bb_⟩ := O6.out.frame2 (i := 0) (j := 1) rfl rfl (by decide)
 refine (RLastO o on_ HL.out).mono ?_
 rintro e_ w7 ⟨rfl, oo_, kk_⟩
 obtain ⟨o_, k_⟩ := bb_ _ _ _ _ kk_ oo_
 refine ⟨_, rfl, ?_⟩
 have O7 : Aside0 (Own N w7 [cells g #[.int .i64 C, .slice A0 L.length c0] 80, nrow k43 43 (.slice A0 L.length c0) L, cells gb #[.int .i64 o, .int .i64 n, .slice B ups.length c] 43]) := ⟨o_⟩
 have K7 := Aside0.mk (K6.out.trans k_)
 have HR_7 := Aside0.mk (keepF HR_6.out k_)
 clear a0a a0b b0 a2a a2b a2c b2 O6 K6 HR_6
 obtain ⟨a0a, a0b, b0⟩ := blk2_ (O7.out.blk (i := 0) rfl)
 obtain ⟨a2a, a2b, a2c, b2⟩ := blk3_ (O7.out.blk (i := 2) rfl)
 clear o_ k_ oo_ kk_ on_ nn_ rr_ bb_
 clear hHeld
 refine hK_.out _ _ ⟨a2a, a2b, a2c⟩ (fun hHeld => ?_)
 clear hK_ K_
 refine nP ?_
 refine pP 6 (some 31) ?_
 refine pP 7 (some 32) ?_
 refine done_ (by kernel_rfl) ?_
 clear hHeld
 go_wp2_with (first | ((with_reducible refine gate_dst (N := 33) rfl ?_); refine own_lit k114 (N := N) (e := 114) (xs := []) (inner := []) rfl (D := 33) rfl ?hr (Reps.none _ _) (by simp) O7.out ?_; (case hr => first | (go_simp; done) | (go_simp; rfl)); intro B1 d1 w8 o_ k_; have O8 : Aside0 (Own N w8 [cells g #[.int .i64 C, .slice A0 L.length c0] 80, nrow k43 43 (.slice A0 L.length c0) L, cells gb #[.int .i64 o, .int .i64 n, .slice B ups.length c] 43, nrow k114 114 (.slice B1 0 d1) []]) := ⟨o_⟩; have K8 := Aside0.mk (K7.out.trans k_); have HR_8 := Aside0.mk (keepF HR_7.out k_); clear a0a a0b b0 a2a a2b a2c b2 O7 K7 HR_7; obtain ⟨a0a, a0b, b0⟩ := blk2_ (O8.out.blk (i := 0) rfl); obtain ⟨a2a, a2b, a2c, b2⟩ := blk3_ (O8.out.blk (i := 2) rfl); clear o_ k_) | ((with_reducible refine gate_builtin (b := .append) (xs := #[.tmp 33, .tmp 35]) rfl ?_); at_builtin; refine Own.append_flat k114 flatU O8.out (i := 3) (ys := ups) rfl (Kd.F_now HR_8.out) rfl (.tmp 33) (.tmp 35) 41 (.agg #[.string ⟨#[]⟩, .int .i64 0, .int .i64 0, .string ⟨#[]⟩]) 48 rfl Tryd.underlying41 info114 rfl (by decide) (by decide) rfl rfl (by have := HU.out; simp only [List.length_nil]; omega) ?_; intro B2 d2 w9 o_ k_; have O9 : Aside0 (Own N w9 [cells g #[.int .i64 C, .slice A0 L.length c0] 80, nrow k43 43 (.slice A0 L.length c0) L, cells gb #[.int .i64 o, .int .i64 n, .slice B ups.length c] 43, nrow k114 114 (.slice B2 (ups).length d2) (ups)]) := ⟨o_⟩; have K9 := Aside0.mk (K8.out.trans k_); have HR_9 := Aside0.mk (keepF HR_8.out k_); clear a0a a0b b0 a2a a2b a2c b2 O8 K8 HR_8; obtain ⟨a0a, a0b, b0⟩ := blk2_ (O9.out.blk (i := 0) rfl); obtain ⟨a2a, a2b, a2c, b2⟩ := blk3_ (O9.out.blk (i := 2) rfl); clear o_ k_) | ((with_reducible refine gate_store (t := 41) (p := 37) rfl ?_); refine wP (World.setCell w9 ⟨gb, 2, none⟩ (.slice B2 ups.length d2)) [cells g #[.int .i64 C, .slice A0 L.length c0] 80, nrow k43 43 (.slice A0 L.length c0) L, cells gb #[.int .i64 o, .int .i64 n, .slice B2 ups.length d2] 43, nrow k114 114 (.slice B2 (ups).length d2) (ups)] (O9.out.set (i := 2) rfl 2 (.slice B2 ups.length d2)) (KeepS.setCell (O9.out.far (i := 2) rfl) (.slice B2 ups.length d2)) ?_; intro w10 o_ k_; have O10 := Aside0.mk o_; have K10 := Aside0.mk (K9.out.trans k_); have HR_10 := Aside0.mk (keepF HR_9.out k_); clear a0a a0b b0 a2a a2b a2c b2 O9 K9 HR_9; obtain ⟨a0a, a0b, b0⟩ := blk2_ (O10.out.blk (i := 0) rfl); obtain ⟨a2a, a2b, a2c, b2⟩ := blk3_ (O10.out.blk (i := 2) rfl); clear o_ k_))
 have O11 : Aside0 (Own N w10 [cells g #[.int .i64 C, .slice A0 L.length c0] 80, nrow k43 43 (.slice A0 L.length c0) L, cells gb #[.int .i64 o, .int .i64 n, .slice B2 ups.length d2] 43, both (elt k43 (⟨o, n, ups⟩ : Rnd) [.int .i64 (⟨o, n, ups⟩ : Rnd).f0, .int .i64 (⟨o, n, ups⟩ : Rnd).f1, .slice B2 ups.length d2]) (rd k114 B2 ups.length ups)]) := ⟨roundOf2 (⟨o, n, ups⟩ : Rnd) (i := 3) O10.out rfl⟩
 have O12 : Aside0 (Own N w10 [cells g #[.int .i64 C, .slice A0 L.length c0] 80, rd k43 A0 L.length L, cells gb #[.int .i64 o, .int .i64 n, .slice B2 ups.length d2] 43, both (elt k43 (⟨o, n, ups⟩ : Rnd) [.int .i64 (⟨o, n, ups⟩ : Rnd).f0, .int .i64 (⟨o, n, ups⟩ : Rnd).f1, .slice B2 ups.length d2]) (rd k114 B2 ups.length ups)]) := ⟨O11.out.nrd (i := 1) rfl⟩
 clear O10 O11
 refine sP (n := 13) (S := fun w' => w'.cell? ⟨g, 0, none⟩ = some (.int .i64 C) ∧ w'.cell? ⟨g, 1, none⟩ = some (.slice A0 L.length c0) ∧ w'.cell? ⟨gb, 0, none⟩ = some (.int .i64 o) ∧ w'.cell? ⟨gb, 1, none⟩ = some (.int .i64 n) ∧ w'.cell? ⟨gb, 2, none⟩ = some (.slice B2 ups.length d2)) (ds := [12]) ⟨a0a, a0b, a2a, a2b, a2c⟩ (fun hHeld => ?_)
 obtain ⟨w13, hw_⟩ : ∃ W, W = w10.drew := ⟨_, rfl⟩
 have o_ := O12.out.drew
 have k_ : KeepS N w10 w10.drew := KeepS.drew
 rw [← hw_] at o_ k_ hHeld ⊢
 clear hw_
 have O13 := Aside0.mk o_
 have K13 := Aside0.mk (K10.out.trans k_)
 have HR_13 := Aside0.mk (keepF HR_10.out k_)
 clear a0a a0b b0 a2a a2b a2c b2 O12 K10 HR_10
 obtain ⟨a0a, a0b, b0⟩ := blk2_ (O13.out.blk (i := 0) rfl)
 obtain ⟨a2a, a2b, a2c, b2⟩ := blk3_ (O13.out.blk (i := 2) rfl)
 clear o_ k_
 refine pP 0 (some 38) ?_
 refine pP 2 (some 40) ?_
 refine pP 3 (some 41) ?_
 refine pP 4 (some 42) ?_
 refine tP 5 (some 43) hHeld ?_
 refine tP 7 (some 45) hHeld ?_
 refine join_ (σ := Option Addr × Nat × Option Addr × Nat × Option Addr × Nat) 4 #[true, true, true, true, true, true, true, true, true, false, false, false, false] (fun ⟨C1, e1, C2, e2, D1, h1⟩ => [(39, .slice C1 0 e1), (44, .slice C2 L.length e2), (46, .slice D1 1 h1)]) (fun ⟨C1, e1, C2, e2, D1, h1⟩ w' => Own N w' [cells g #[.int .i64 C, .slice A0 L.length c0] 80, emp, cells gb #[.int .i64 o, .int .i64 n, .slice B2 ups.length d2] 43, both (nrow k43 43 (.slice D1 1 h1) [(⟨o, n, ups⟩ : Rnd)]) (rd k114 B2 ups.length ups), nrow k43 43 (.slice C2 L.length e2) L] ∧ KeepS N w13 w') ?hcont ?hways
 case hways =>
  intro hc_
  have K14 : Aside0 (KeepS N w13 w13) := ⟨KeepS.refl _ _⟩
  have O14 : Aside0 (Own N w13 [cells g #[.int .i64 C, .slice A0 L.length c0] 80, rd k43 A0 L.length L, cells gb #[.int .i64 o, .int .i64 n, .slice B2 ups.length d2] 43, both (elt k43 (⟨o, n, ups⟩ : Rnd) [.int .i64 (⟨o, n, ups⟩ : Rnd).f0, .int .i64 (⟨o, n, ups⟩ : Rnd).f1, .slice B2 ups.length d2]) (rd k114 B2 ups.length ups)]) := O13
  refine two_ (i := 1) (j := 8) (Ni := some 39) (Nj := some 46) #[true, true, true, true, true, true, false, true, false, false, false, false, false] #[true, false, true, true, true, true, false, true, true, false, false, false, false] rfl rfl rfl rfl (by kernel_rfl) (by decide) (by decide) (fun K_ hK_ => ?_) (fun K_ hK_ => ?_)
  ·skip
   refine own_lit_step k43 (N := N) (e := 43) (xs := []) (inner := []) rfl rfl ?hr (Reps.none _ _) (by simp) O14.out ?_
   (case hr => first | (go_simp; done) | (go_simp; rfl))
   intro C1 e1 w15 o_ k_
   have O15 : Aside0 (Own N w15 [cells g #[.int .i64 C, .slice A0 L.length c0] 80, rd k43 A0 L.length L, cells gb #[.int .i64 o, .int .i64 n, .slice B2 ups.length d2] 43, both (elt k43 (⟨o, n, ups⟩ : Rnd) [.int .i64 (⟨o, n, ups⟩ : Rnd).f0, .int .i64 (⟨o, n, ups⟩ : Rnd).f1, .slice B2 ups.length d2]) (rd k114 B2 ups.length ups), nrow k43 43 (.slice C1 0 e1) []]) := ⟨o_⟩
   have K15 := Aside0.mk (K14.out.trans k_)
   have HR_15 := Aside0.mk (keepF HR_13.out k_)
   clear a0a a0b b0 a2a a2b a2c b2 O14 K14 HR_13
   obtain ⟨a0a, a0b, b0⟩ := blk2_ (O15.out.blk (i := 0) rfl)
   obtain ⟨a2a, a2b, a2c, b2⟩ := blk3_ (O15.out.blk (i := 2) rfl)
   clear o_ k_
   clear hHeld
   refine hK_.out _ _ ⟨a0a, a0b, a2a, a2b, a2c⟩ (fun hHeld => ?_)
   clear hK_ K_
   refine norm_ (a' := ?_) ?_ ?_
   rotate_left
   ·simp only [Act.put, List.setIfInBounds_toArray, List.set_cons_zero, List.set_cons_succ, i64_w, i32_w]
    rfl
   refine two_ (i := 6) (j := 8) (Ni := some 44) (Nj := some 46) #[true, true, true, true, true, true, true, true, false, false, false, false, false] #[true, true, true, true, true, true, false, true, true, false, false, false, false] rfl rfl rfl rfl (by kernel_rfl) (by decide) (by decide) (fun K_ hK_ => ?_) (fun K_ hK_ => ?_)
   ·skip
    refine Own.append_rows_step k43 O15.out (i := 4) (j := 1) rfl rfl (by decide) rfl rfl (.tmp 39) (.tmp 43) 57 (.agg #[.int .i64 0, .int .i64 0, .slice none 0 0]) 40 rfl Tryd.underlying57 infoR rfl (by decide) (by decide) rfl rfl (by have := HL.out; simp only [List.length_nil]; omega) ?_
    intro C2 e2 w16 o_ k_
    have O16 : Aside0 (Own N w16 [cells g #[.int .i64 C, .slice A0 L.length c0] 80, emp, cells gb #[.int .i64 o, .int .i64 n, .slice B2 ups.length d2] 43, both (elt k43 (⟨o, n, ups⟩ : Rnd) [.int .i64 (⟨o, n, ups⟩ : Rnd).f0, .int .i64 (⟨o, n, ups⟩ : Rnd).f1, .slice B2 ups.length d2]) (rd k114 B2 ups.length ups), nrow k43 43 (.slice C2 L.length e2) L]) := ⟨o_⟩
    have K16 := Aside0.mk (K15.out.trans k_)
    have HR_16 := Aside0.mk (keepF HR_15.out k_)
    clear a0a a0b b0 a2a a2b a2c b2 O15 K15 HR_15
    obtain ⟨a0a, a0b, b0⟩ := blk2_ (O16.out.blk (i := 0) rfl)
    obtain ⟨a2a, a2b, a2c, b2⟩ := blk3_ (O16.out.blk (i := 2) rfl)
    clear o_ k_
    clear hHeld
    refine hK_.out _ _ ⟨a0a, a0b, a2a, a2b, a2c⟩ (fun hHeld => ?_)
    clear hK_ K_
    refine norm_ (a' := ?_) ?_ ?_
    rotate_left
    ·simp only [Act.put, List.setIfInBounds_toArray, List.set_cons_zero, List.set_cons_succ, i64_w, i32_w]
     rfl
    refine one_ (i := 8) (N := some 46) #[true, true, true, true, true, true, true, true, true, false, false, false, false] rfl rfl (by kernel_rfl) (by decide) (fun K_ hK_ => ?_)
    refine own_lit1_step (p := (⟨o, n, ups⟩ : Rnd)) (cs := [.int .i64 (⟨o, n, ups⟩ : Rnd).f0, .int .i64 (⟨o, n, ups⟩ : Rnd).f1, .slice B2 ups.length d2]) (e := 43) k43 O16.out (j := 3) rfl rfl rfl ?hr ?_
    (case hr => first | (go_simp; done) | (go_simp; rfl))
    intro D1 h1 w17 o_ k_
    have O17 : Aside0 (Own N w17 [cells g #[.int .i64 C, .slice A0 L.length c0] 80, emp, cells gb #[.int .i64 o, .int .i64 n, .slice B2 ups.length d2] 43, both (nrow k43 43 (.slice D1 1 h1) [(⟨o, n, ups⟩ : Rnd)]) (rd k114 B2 ups.length ups), nrow k43 43 (.slice C2 L.length e2) L]) := ⟨o_⟩
    have K17 := Aside0.mk (K16.out.trans k_)
    have HR_17 := Aside0.mk (keepF HR_16.out k_)
    clear a0a a0b b0 a2a a2b a2c b2 O16 K16 HR_16
    obtain ⟨a0a, a0b, b0⟩ := blk2_ (O17.out.blk (i := 0) rfl)
    obtain ⟨a2a, a2b, a2c, b2⟩ := blk3_ (O17.out.blk (i := 2) rfl)
    clear o_ k_
    clear hHeld
    refine hK_.out _ _ ⟨a0a, a0b, a2a, a2b, a2c⟩ (fun hHeld => ?_)
    clear hK_ K_
    refine norm_ (a' := ?_) ?_ ?_
    rotate_left
    ·simp only [Act.put, List.setIfInBounds_toArray, List.set_cons_zero, List.set_cons_succ, i64_w, i32_w]
     rfl
    refine norm_ (a' := _) ?_ (hc_ ⟨C1, e1, C2, e2, D1, h1⟩ _ ⟨?_, K17.out⟩)
    ·simp only [putAll, Act.put, List.setIfInBounds_toArray, List.set_cons_zero, List.set_cons_succ]
     try rfl
    ·exact O17.out.pickL [0, 1, 2, 3, 4] (by decide) (by simp)
   ·skip
    refine own_lit1_step (p := (⟨o, n, ups⟩ : Rnd)) (cs := [.int .i64 (⟨o, n, ups⟩ : Rnd).f0, .int .i64 (⟨o, n, ups⟩ : Rnd).f1, .slice B2 ups.length d2]) (e := 43) k43 O15.out (j := 3) rfl rfl rfl ?hr ?_
    (case hr => first | (go_simp; done) | (go_simp; rfl))
    intro D1 h1 w16 o_ k_
    have O16 : Aside0 (Own N w16 [cells g #[.int .i64 C, .slice A0 L.length c0] 80, rd k43 A0 L.length L, cells gb #[.int .i64 o, .int .i64 n, .slice B2 ups.length d2] 43, both (nrow k43 43 (.slice D1 1 h1) [(⟨o, n, ups⟩ : Rnd)]) (rd k114 B2 ups.length ups), nrow k43 43 (.slice C1 0 e1) []]) := ⟨o_⟩
    have K16 := Aside0.mk (K15.out.trans k_)
    have HR_16 := Aside0.mk (keepF HR_15.out k_)
    clear a0a a0b b0 a2a a2b a2c b2 O15 K15 HR_15
    obtain ⟨a0a, a0b, b0⟩ := blk2_ (O16.out.blk (i := 0) rfl)
    obtain ⟨a2a, a2b, a2c, b2⟩ := blk3_ (O16.out.blk (i := 2) rfl)
    clear o_ k_
    clear hHeld
    refine hK_.out _ _ ⟨a0a, a0b, a2a, a2b, a2c⟩ (fun hHeld => ?_)
    clear hK_ K_
    refine norm_ (a' := ?_) ?_ ?_
    rotate_left
    ·simp only [Act.put, List.setIfInBounds_toArray, List.set_cons_zero, List.set_cons_succ, i64_w, i32_w]
     rfl
    refine one_ (i := 6) (N := some 44) #[true, true, true, true, true, true, true, true, true, false, false, false, false] rfl rfl (by kernel_rfl) (by decide) (fun K_ hK_ => ?_)
    refine Own.append_rows_step k43 O16.out (i := 4) (j := 1) rfl rfl (by decide) rfl rfl (.tmp 39) (.tmp 43) 57 (.agg #[.int .i64 0, .int .i64 0, .slice none 0 0]) 40 rfl Tryd.underlying57 infoR rfl (by decide) (by decide) rfl rfl (by have := HL.out; simp only [List.length_nil]; omega) ?_
    intro C2 e2 w17 o_ k_
    have O17 : Aside0 (Own N w17 [cells g #[.int .i64 C, .slice A0 L.length c0] 80, emp, cells gb #[.int .i64 o, .int .i64 n, .slice B2 ups.length d2] 43, both (nrow k43 43 (.slice D1 1 h1) [(⟨o, n, ups⟩ : Rnd)]) (rd k114 B2 ups.length ups), nrow k43 43 (.slice C2 L.length e2) L]) := ⟨o_⟩
    have K17 := Aside0.mk (K16.out.trans k_)
    have HR_17 := Aside0.mk (keepF HR_16.out k_)
    clear a0a a0b b0 a2a a2b a2c b2 O16 K16 HR_16
    obtain ⟨a0a, a0b, b0⟩ := blk2_ (O17.out.blk (i := 0) rfl)
    obtain ⟨a2a, a2b, a2c, b2⟩ := blk3_ (O17.out.blk (i := 2) rfl)
    clear o_ k_
    clear hHeld
    refine hK_.out _ _ ⟨a0a, a0b, a2a, a2b, a2c⟩ (fun hHeld => ?_)
    clear hK_ K_
    refine norm_ (a' := ?_) ?_ ?_
    rotate_left
    ·simp only [Act.put, List.setIfInBounds_toArray, List.set_cons_zero, List.set_cons_succ, i64_w, i32_w]
     rfl
    refine norm_ (a' := _) ?_ (hc_ ⟨C1, e1, C2, e2, D1, h1⟩ _ ⟨?_, K17.out⟩)
    ·simp only [putAll, Act.put, List.setIfInBounds_toArray, List.set_cons_zero, List.set_cons_succ]
     try rfl
    ·exact O17.out.pickL [0, 1, 2, 3, 4] (by decide) (by simp)
  ·skip
   refine own_lit1_step (p := (⟨o, n, ups⟩ : Rnd)) (cs := [.int .i64 (⟨o, n, ups⟩ : Rnd).f0, .int .i64 (⟨o, n, ups⟩ : Rnd).f1, .slice B2 ups.length d2]) (e := 43) k43 O14.out (j := 3) rfl rfl rfl ?hr ?_
   (case hr => first | (go_simp; done) | (go_simp; rfl))
   intro D1 h1 w15 o_ k_
   have O15 : Aside0 (Own N w15 [cells g #[.int .i64 C, .slice A0 L.length c0] 80, rd k43 A0 L.length L, cells gb #[.int .i64 o, .int .i64 n, .slice B2 ups.length d2] 43, both (nrow k43 43 (.slice D1 1 h1) [(⟨o, n, ups⟩ : Rnd)]) (rd k114 B2 ups.length ups)]) := ⟨o_⟩
   have K15 := Aside0.mk (K14.out.trans k_)
   have HR_15 := Aside0.mk (keepF HR_13.out k_)
   clear a0a a0b b0 a2a a2b a2c b2 O14 K14 HR_13
   obtain ⟨a0a, a0b, b0⟩ := blk2_ (O15.out.blk (i := 0) rfl)
   obtain ⟨a2a, a2b, a2c, b2⟩ := blk3_ (O15.out.blk (i := 2) rfl)
   clear o_ k_
   clear hHeld
   refine hK_.out _ _ ⟨a0a, a0b, a2a, a2b, a2c⟩ (fun hHeld => ?_)
   clear hK_ K_
   refine norm_ (a' := ?_) ?_ ?_
   rotate_left
   ·simp only [Act.put, List.setIfInBounds_toArray, List.set_cons_zero, List.set_cons_succ, i64_w, i32_w]
    rfl
   refine one_ (i := 1) (N := some 39) #[true, true, true, true, true, true, false, true, true, false, false, false, false] rfl rfl (by kernel_rfl) (by decide) (fun K_ hK_ => ?_)
   refine own_lit_step k43 (N := N) (e := 43) (xs := []) (inner := []) rfl rfl ?hr (Reps.none _ _) (by simp) O15.out ?_
   (case hr => first | (go_simp; done) | (go_simp; rfl))
   intro C1 e1 w16 o_ k_
   have O16 : Aside0 (Own N w16 [cells g #[.int .i64 C, .slice A0 L.length c0] 80, rd k43 A0 L.length L, cells gb #[.int .i64 o, .int .i64 n, .slice B2 ups.length d2] 43, both (nrow k43 43 (.slice D1 1 h1) [(⟨o, n, ups⟩ : Rnd)]) (rd k114 B2 ups.length ups), nrow k43 43 (.slice C1 0 e1) []]) := ⟨o_⟩
   have K16 := Aside0.mk (K15.out.trans k_)
   have HR_16 := Aside0.mk (keepF HR_15.out k_)
   clear a0a a0b b0 a2a a2b a2c b2 O15 K15 HR_15
   obtain ⟨a0a, a0b, b0⟩ := blk2_ (O16.out.blk (i := 0) rfl)
   obtain ⟨a2a, a2b, a2c, b2⟩ := blk3_ (O16.out.blk (i := 2) rfl)
   clear o_ k_
   clear hHeld
   refine hK_.out _ _ ⟨a0a, a0b, a2a, a2b, a2c⟩ (fun hHeld => ?_)
   clear hK_ K_
   refine norm_ (a' := ?_) ?_ ?_
   rotate_left
   ·simp only [Act.put, List.setIfInBounds_toArray, List.set_cons_zero, List.set_cons_succ, i64_w, i32_w]
    rfl
   refine one_ (i := 6) (N := some 44) #[true, true, true, true, true, true, true, true, true, false, false, false, false] rfl rfl (by kernel_rfl) (by decide) (fun K_ hK_ => ?_)
   refine Own.append_rows_step k43 O16.out (i := 4) (j := 1) rfl rfl (by decide) rfl rfl (.tmp 39) (.tmp 43) 57 (.agg #[.int .i64 0, .int .i64 0, .slice none 0 0]) 40 rfl Tryd.underlying57 infoR rfl (by decide) (by decide) rfl rfl (by have := HL.out; simp only [List.length_nil]; omega) ?_
   intro C2 e2 w17 o_ k_
   have O17 : Aside0 (Own N w17 [cells g #[.int .i64 C, .slice A0 L.length c0] 80, emp, cells gb #[.int .i64 o, .int .i64 n, .slice B2 ups.length d2] 43, both (nrow k43 43 (.slice D1 1 h1) [(⟨o, n, ups⟩ : Rnd)]) (rd k114 B2 ups.length ups), nrow k43 43 (.slice C2 L.length e2) L]) := ⟨o_⟩
   have K17 := Aside0.mk (K16.out.trans k_)
   have HR_17 := Aside0.mk (keepF HR_16.out k_)
   clear a0a a0b b0 a2a a2b a2c b2 O16 K16 HR_16
   obtain ⟨a0a, a0b, b0⟩ := blk2_ (O17.out.blk (i := 0) rfl)
   obtain ⟨a2a, a2b, a2c, b2⟩ := blk3_ (O17.out.blk (i := 2) rfl)
   clear o_ k_
   clear hHeld
   refine hK_.out _ _ ⟨a0a, a0b, a2a, a2b, a2c⟩ (fun hHeld => ?_)
   clear hK_ K_
   refine norm_ (a' := ?_) ?_ ?_
   rotate_left
   ·simp only [Act.put, List.setIfInBounds_toArray, List.set_cons_zero, List.set_cons_succ, i64_w, i32_w]
    rfl
   refine norm_ (a' := _) ?_ (hc_ ⟨C1, e1, C2, e2, D1, h1⟩ _ ⟨?_, K17.out⟩)
   ·simp only [putAll, Act.put, List.setIfInBounds_toArray, List.set_cons_zero, List.set_cons_succ]
    try rfl
   ·exact O17.out.pickL [0, 1, 2, 3, 4] (by decide) (by simp)
 case hcont =>
  clear hHeld
  rintro ⟨C1, e1, C2, e2, D1, h1⟩ w14 ⟨o_, k_⟩
  have O14 : Aside0 (Own N w14 [cells g #[.int .i64 C, .slice A0 L.length c0] 80, emp, cells gb #[.int .i64 o, .int .i64 n, .slice B2 ups.length d2] 43, both (nrow k43 43 (.slice D1 1 h1) [(⟨o, n, ups⟩ : Rnd)]) (rd k114 B2 ups.length ups), nrow k43 43 (.slice C2 L.length e2) L]) := ⟨o_⟩
  have K14 := Aside0.mk (K13.out.trans k_)
  have HR_14 := Aside0.mk (keepF HR_13.out k_)
  clear a0a a0b b0 a2a a2b a2c b2 O13 K13 HR_13
  obtain ⟨a0a, a0b, b0⟩ := blk2_ (O14.out.blk (i := 0) rfl)
  obtain ⟨a2a, a2b, a2c, b2⟩ := blk3_ (O14.out.blk (i := 2) rfl)
  clear o_ k_
  refine norm_ (a' := ?_) ?_ ?_
  rotate_left
  ·simp only [putAll, Act.put, List.setIfInBounds_toArray, List.set_cons_zero, List.set_cons_succ]
   rfl
  have hHeld : w14.cell? ⟨g, 0, none⟩ = some (.int .i64 C) ∧ w14.cell? ⟨g, 1, none⟩ = some (.slice A0 L.length c0) ∧ w14.cell? ⟨gb, 0, none⟩ = some (.int .i64 o) ∧ w14.cell? ⟨gb, 1, none⟩ = some (.int .i64 n) ∧ w14.cell? ⟨gb, 2, none⟩ = some (.slice B2 ups.length d2) := ⟨a0a, a0b, a2a, a2b, a2c⟩
  refine oP 9 (some 47) (fun K_ hK_ => ?_)
  have O15 : Aside0 (Own N w14 [cells g #[.int .i64 C, .slice A0 L.length c0] 80, emp, cells gb #[.int .i64 o, .int .i64 n, .slice B2 ups.length d2] 43, both (rd k43 D1 1 [(⟨o, n, ups⟩ : Rnd)]) (rd k114 B2 ups.length ups), nrow k43 43 (.slice C2 L.length e2) L]) := ⟨O14.out.conv (i := 3) rfl _ (fun F hp _ => ⟨Kd.N_F hp.1, hp.2⟩)⟩
  clear O14
  refine Own.append_rows2_step k43 O15.out (i := 4) (j := 3) (ys := [(⟨o, n, ups⟩ : Rnd)]) rfl rfl (by decide) rfl rfl (.tmp 44) (.tmp 46) 57 (.agg #[.int .i64 0, .int .i64 0, .slice none 0 0]) 40 rfl Tryd.underlying57 infoR rfl (by decide) (by decide) rfl rfl (by have := HL.out; omega) ?_
  intro C3 e3 w16 o_ k_
  have O16 : Aside0 (Own N w16 [cells g #[.int .i64 C, .slice A0 L.length c0] 80, emp, cells gb #[.int .i64 o, .int .i64 n, .slice B2 ups.length d2] 43, emp, both (nrow k43 43 (.slice C3 (L ++ [(⟨o, n, ups⟩ : Rnd)]).length e3) (L ++ [(⟨o, n, ups⟩ : Rnd)])) (rd k114 B2 ups.length ups)]) := ⟨o_⟩
  have K16 := Aside0.mk (K14.out.trans k_)
  have HR_16 := Aside0.mk (keepF HR_14.out k_)
  clear a0a a0b b0 a2a a2b a2c b2 O15 K14 HR_14
  obtain ⟨a0a, a0b, b0⟩ := blk2_ (O16.out.blk (i := 0) rfl)
  obtain ⟨a2a, a2b, a2c, b2⟩ := blk3_ (O16.out.blk (i := 2) rfl)
  clear o_ k_
  clear hHeld
  refine hK_.out _ _ ⟨a0a, a0b, a2a, a2b, a2c⟩ (fun hHeld => ?_)
  clear hK_ K_
  refine nP ?_
  refine pP 10 (some 48) ?_
  refine pP 11 (some 49) ?_
  refine lP 12 none (fun K_ hK_ => ?_)
  refine xP (World.setCell w16 ⟨g, 1, none⟩ (.slice C3 (L ++ [(⟨o, n, ups⟩ : Rnd)]).length e3)) [cells g #[.int .i64 C, .slice C3 (L ++ [(⟨o, n, ups⟩ : Rnd)]).length e3] 80, emp, cells gb #[.int .i64 o, .int .i64 n, .slice B2 ups.length d2] 43, emp, both (nrow k43 43 (.slice C3 (L ++ [(⟨o, n, ups⟩ : Rnd)]).length e3) (L ++ [(⟨o, n, ups⟩ : Rnd)])) (rd k114 B2 ups.length ups)] (O16.out.set (i := 0) rfl 1 (.slice C3 (L ++ [(⟨o, n, ups⟩ : Rnd)]).length e3)) (KeepS.setCell (O16.out.far (i := 0) rfl) (.slice C3 (L ++ [(⟨o, n, ups⟩ : Rnd)]).length e3)) ?_
  intro w17 o_ k_
  have O17 := Aside0.mk o_
  have K17 := Aside0.mk (K16.out.trans k_)
  have HR_17 := Aside0.mk (keepF HR_16.out k_)
  clear a0a a0b b0 a2a a2b a2c b2 O16 K16 HR_16
  obtain ⟨a0a, a0b, b0⟩ := blk2_ (O17.out.blk (i := 0) rfl)
  obtain ⟨a2a, a2b, a2c, b2⟩ := blk3_ (O17.out.blk (i := 2) rfl)
  clear o_ k_
  refine hK_.out _ _ ?_
  clear hK_ K_
  refine done_ (by kernel_rfl) ?_
  clear hHeld
  go_wp2
  go_ret
  have o9 := (O17.out.conv (i := 4) rfl (nrow k43 43 (.slice C3 (L ++ [(⟨o, n, ups⟩ : Rnd)]).length e3) (L ++ [(⟨o, n, ups⟩ : Rnd)])) (fun F hp _ => hp.1)).pick2 (a := 0) (b := 4) rfl rfl (by decide)
  exact ⟨C3, e3, rfl, (o9.nreads (i := 1) rfl).2.1, o9, K17.out⟩
theorem RAdd_y {N : Nat → Prop} {w : World} {g : Nat} {C : Int} {L : List Rnd} (B : Option Addr) (c : Nat) (o n : Int) (ups : List Upd) (h : Own N w [ObjM g C L]) (hr : Kd.F k114 w N B ups.length ups) (hc : ups.length ≤ c) (hL : L.length ≤ 1000000) (hu : ups.length ≤ 1000000) (hg : Good C L) (he : addE C L ⟨o, n, ups⟩ = 0) :
  Calls Tryd.prog 20 #[.pointer (some ⟨g, 0, none⟩), .agg #[.int .i64 o, .int .i64 n, .slice B ups.length c]] w fun e_ w' => ∃ A2 c2, e_ = .returned (.int .i64 0) ∧ (L ++ [(⟨o, n, ups⟩ : Rnd)]).length ≤ c2 ∧ Own N w' [cells g #[.int .i64 C, .slice A2 (L ++ [(⟨o, n, ups⟩ : Rnd)]).length c2] 80, nrow k43 43 (.slice A2 (L ++ [(⟨o, n, ups⟩ : Rnd)]).length c2) (L ++ [(⟨o, n, ups⟩ : Rnd)])] ∧ KeepS N w w' :=
 let q := addE_0 he
 RAdd_ok B c o n ups h hr hc hL hu 20 q.1 (by rw [rmayR 0, q.1]) hg q.2.1 q.2.2
theorem RAdd_n {N : Nat → Prop} {w : World} {g : Nat} {C : Int} {L : List Rnd} (B : Option Addr) (c : Nat) (o n : Int) (ups : List Upd) (h : Own N w [ObjM g C L]) (hr : Kd.F k114 w N B ups.length ups) (hc : ups.length ≤ c) (hL : L.length ≤ 1000000) (hu : ups.length ≤ 1000000) (hg : Good C L) (E : Int) (he : addE C L ⟨o, n, ups⟩ = E) (hE : E ≠ 0) :
  Calls Tryd.prog 20 #[.pointer (some ⟨g, 0, none⟩), .agg #[.int .i64 o, .int .i64 n, .slice B ups.length c]] w fun e_ w' => ∃ A2 c2, e_ = .returned (.int .i64 E) ∧ (L).length ≤ c2 ∧ Own N w' [cells g #[.int .i64 C, .slice A2 (L).length c2] 80, nrow k43 43 (.slice A2 (L).length c2) (L)] ∧ KeepS N w w' := by
 subst he
 by_cases h1 : mayR o n ups = 0
 ·have hp : chapbookref07_May.f 20 o n ups = some 0 := by rw [rmayR 0, h1]
  unfold addE at hE ⊢
  simp only [h1, ne_eq, not_true, if_false] at hE ⊢
  by_cases h2 : o > C
  ·rw [if_pos h2]; exact RAdd_none B c o n ups h hr hc hL hu 20 h1 hp hg h2
  rw [if_neg h2] at hE ⊢
  by_cases h3 : n < lastOf o L + 1
  ·rw [if_pos h3]; exact RAdd_twice B c o n ups h hr hc hL hu 20 h1 hp hg (by omega) h3
  rw [if_neg h3] at hE ⊢
  by_cases h4 : n > lastOf o L + 1
  ·rw [if_pos h4]; exact RAdd_order B c o n ups h hr hc hL hu 20 h1 hp hg (by omega) h4
  rw [if_neg h4] at hE
  exact absurd rfl hE
 ·have e : addE C L ⟨o, n, ups⟩ = mayR o n ups := by unfold addE; rw [if_pos h1]
  rw [e]
  exact RAdd_may B c o n ups h hr hc hL hu 20 _ (rmayR 0 _ _ _) (by rw [bne_iff_ne]; exact h1)
end Go.Proofs.YtjmoncfgoaaekaaDoor.J
namespace Go.Proofs.YtjmoncfgoaaekaaDoor.J
set_option linter.unusedSimpArgs false
set_option linter.unusedVariables false
open Go Go.RowKit Go.Proofs.YtjmoncfgoaaekaaDoorW.PrintWords Go.Proofs.YtjmoncfgoaaekaaDoorW.PrintLast Go.Proofs.YtjmoncfgoaaekaaDoorW.PrintMore Go.Proofs.YtjmoncfgoaaekaaDoor.Q Go.Proofs.YtjmoncfgoaaekaaDoor.Sep Go.Proofs.YtjmoncfgoaaekaaDoor.Pure
attribute [local go_sem] max2_int min2_int max_two min_two max_three min_three max_four min_four
theorem pcs_nums : ∀ (l : List Rnd) (S : Int), pcs S l = nums S (l.map bR)
 | [], _ => rfl
 | r :: l, S => by rw [pcs, List.map_cons, nums, pcs_nums l]
theorem seg_map {L : List Rnd} {a m : Int} (h0 : 0 ≤ a) (h1 : 0 ≤ m) (h : a + m < L.length) : (seg L a (m + 1)).map bR = (seg L a m).map bR ++ [bR (rd_T43 L (a + m))] := by
 rw [seg_snoc h0 h1 h, List.map_append]
 rfl
def PumpN (L : List Rnd) (W n a m : Int) : Prop := 0 ≤ m ∧ a + m ≤ L.length ∧ n + m ≤ W ∧ (a + m = L.length ∨ n + m = W)
theorem PumpN.one {L : List Rnd} {W n a m m' : Int} (h : PumpN L W n a m) (h' : PumpN L W n a m') : m = m' := by
 unfold PumpN at h h'
 omega
def DpI (N : Nat → Prop) (w : World) (gg : Nat) (C : Int) (L : List Rnd) (R : List HP) (gs : Nat) (W : Int) (All : List ByteArray) (Ak a : Int) (vn : Value) (wr : World) : Prop :=
 ∃ m : Int, vn = .int .i64 m ∧ Aside0 (0 ≤ m ∧ a + m ≤ L.length ∧ (All.length : Int) - Ak + m ≤ W) ∧ Aside0 (Own N wr ([cells gg #[.int .i64 (a + m)] 36, DSnd gs W 1125899906842624 (All ++ (seg L a m).map bR) Ak] ++ R)) ∧ Aside0 (KeepS N w wr)
set_option maxHeartbeats 16000000 in
set_option maxRecDepth 100000 in
theorem DPump {N : Nat → Prop} {w : World} {gg gm gk : Nat} {C : Int} {L : List Rnd} {E Wn Rm : Int} {Pv : Bool} {W : Int} {All : List ByteArray} {Ak room : Int} {RAll : List ByteArray} {a : Int} (m : Int) (h : Own N w [cells gg #[.int .i64 a] 36, ObjM gm C L, DLnk gk E Wn Rm Pv W All Ak room RAll]) (hL : L.length ≤ 1000000) (hg : Good C L) (ha : 0 ≤ a ∧ a ≤ (L.length : Int)) (hb : 0 ≤ Ak ∧ Ak ≤ All.length ∧ All.length ≤ 900000 ∧ (All.length : Int) - Ak ≤ W ∧ W ≤ 16) (hm : PumpN L W ((All.length : Int) - Ak) a m) :
  Calls Tryd.prog 15 #[.pointer (some ⟨gg, 0, none⟩), .pointer (some ⟨gm, 0, none⟩), .pointer (some ⟨gk, 0, none⟩)] w fun e_ w' => e_ = .returned (.int .i64 m) ∧ Own N w' [cells gg #[.int .i64 (a + m)] 36, ObjM gm C L, DLnk gk E Wn Rm Pv W (All ++ (seg L a m).map bR) Ak room RAll] ∧ KeepS N w w' := by
 have HLL : Aside0 (L.length ≤ 1000000) := ⟨hL⟩
 have HG := Aside0.mk hg
 have HA0 := Aside0.mk ha
 have HBK := Aside0.mk hb
 have HPM := Aside0.mk hm
 clear hL hg ha hb hm
 obtain ⟨N0_, on_, nn_, rr_, bb_⟩ := h.frameL [2] (by decide) (by simp)
 obtain ⟨gs, gr, h2⟩ := DLnk.open_ on_
 obtain ⟨h3, hk3⟩ := bb_ w [_] [DRcv gr room RAll, DSnd gs W 1125899906842624 All Ak] rfl (KeepS.refl _ _) h2
 obtain ⟨Am, cm, h4⟩ := ObjG.open_ h3 (i := 1) rfl
 have HCM : Aside0 (L.length ≤ cm) := ⟨(h4.nreads (i := 5) rfl).2.1⟩
 obtain ⟨N1, h5, hn1, hF, hback⟩ := h4.hide (i := 5) rfl
 have HRM : Aside0 (Kd.F k43 w N1 Am L.length L) := ⟨Kd.N_F hF⟩
 have HBACK := Aside0.mk hback
 clear h bb_ rr_ nn_ on_ h2 h3 hk3 h4 hn1 hF hback
 have O0 : Aside0 (Own N1 w [cells gg #[.int .i64 a] 36, cells gm #[.int .i64 C, .slice Am L.length cm] 80, cells gk #[.int .i64 E, .pointer (some ⟨gs, 0, none⟩), .pointer (some ⟨gr, 0, none⟩), .int .i64 Wn, .int .i64 Rm, .bool Pv] 84, DRcv gr room RAll, DSnd gs W 1125899906842624 All Ak, emp]) := ⟨h5⟩
 have K0 : Aside0 (KeepS N1 w w) := ⟨KeepS.refl _ _⟩
 obtain ⟨a0a, b0⟩ := blk1_ (O0.out.blk (i := 0) rfl)
 obtain ⟨a1a, a1b, b1⟩ := blk2_ (O0.out.blk (i := 1) rfl)
 obtain ⟨a2a, a2b, a2c, a2d, a2e, a2f, b2⟩ := blk6_ (O0.out.blk (i := 2) rfl)
 clear h5
 go_enter Tryd.func15, Tryd.ntmps15
 go_wp2
 clear a0a b0 a1a a1b b1 a2a a2b a2c a2d a2e a2f b2
 go_loopw [7] (fun vn wr => DpI N1 w gg C L [cells gm #[.int .i64 C, .slice Am L.length cm] 80, cells gk #[.int .i64 E, .pointer (some ⟨gs, 0, none⟩), .pointer (some ⟨gr, 0, none⟩), .int .i64 Wn, .int .i64 Rm, .bool Pv] 84, DRcv gr room RAll] gs W All Ak a vn wr) (fun vn _ => (L.length - a - intOf vn).toNat)
 case atStart => exact ⟨0, rfl, ⟨by omega, by have := HA0.out; omega, by have := HBK.out; omega⟩, ⟨by rw [Int.add_zero, seg_0, List.map_nil, List.append_nil]; exact O0.out.pickL [0, 4, 1, 2, 3] (by decide) (by simp)⟩, K0⟩
 case round =>
  obtain ⟨m1, rfl, HI, OA, KA⟩ := hrel
  clear O0 K0
  obtain ⟨x, hx⟩ : ∃ x, x = a + m1 := ⟨_, rfl⟩
  obtain ⟨X, hX⟩ : ∃ X, X = All ++ (seg L a m1).map bR := ⟨_, rfl⟩
  have HXL : Aside0 ((X.length : Int) = All.length + m1) := ⟨by rw [hX, List.length_append, List.length_map]; have h1_ := seg_len HA0.out.1 HI.out.1 HI.out.2.1; omega⟩
  rw [← hx, ← hX] at OA
  have HX := Aside0.mk hx
  have HXX := Aside0.mk hX
  clear hx hX
  have hF2 := keepF HRM.out KA.out
  by_cases hlt : x < (L.length : Int)
  ·have hx0 : 0 ≤ x := by rw [HX.out]; have := HA0.out; have := HI.out; omega
   obtain ⟨ad, A3, c3, e3, hbk, x0, x1, x2, hl3, hF3⟩ := at_FB hF2 x hx0 hlt
   cases e3
   have hd : decide (x < (L.length : Int)) = true := decide_eq_true hlt
   have hp := eq_true hx0
   have hq := eq_true hlt
   have HXR := Aside0.mk (And.intro hx0 hlt)
   have XX := Aside0.mk (And.intro x0 (And.intro x1 x2))
   have HBL := Aside0.mk hbk
   have HC3 := Aside0.mk hl3
   have HF3 := Aside0.mk hF3
   have hw1 : wrap64 (x + 1) = x + 1 := by unfold wrap64; have := HLL.out; omega
   have hw2 : IntKind.i64.wrap (x + 1) = x + 1 := by rw [IntKind.wrap_i64]; have := HLL.out; omega
   have hw3 : wrap64 (m1 + 1) = m1 + 1 := by unfold wrap64; have h1_ := HI.out; have h2_ := HLL.out; have h3_ := HA0.out; omega
   have HM0 : Aside0 (mayR (rd_T43 L x).f0 (rd_T43 L x).f1 (rd_T43 L x).f2 = 0) := ⟨(HG.out _ (mem_rd hx0 hlt)).1⟩
   clear hbk x0 x1 x2 hl3 hF3 hF2 hx0 hlt
   have O1 : Aside0 (Own N1 wr [cells gg #[.int .i64 x] 36, DSnd gs W 1125899906842624 X Ak, cells gm #[.int .i64 C, .slice (some ad) L.length cm] 80, cells gk #[.int .i64 E, .pointer (some ⟨gs, 0, none⟩), .pointer (some ⟨gr, 0, none⟩), .int .i64 Wn, .int .i64 Rm, .bool Pv] 84, DRcv gr room RAll]) := ⟨OA.out⟩
   have K1 : Aside0 (KeepS N1 w wr) := ⟨KA.out⟩
   have HRI_1 : Aside0 (Kd.F k114 wr N1 A3 (rd_T43 L x).f2.length (rd_T43 L x).f2) := ⟨HF3.out⟩
   have KW_1 : Aside0 (KeepS N1 wr wr) := ⟨KeepS.refl _ _⟩
   obtain ⟨a0a, b0⟩ := blk1_ (O1.out.blk (i := 0) rfl)
   obtain ⟨a2a, a2b, b2⟩ := blk2_ (O1.out.blk (i := 2) rfl)
   obtain ⟨a3a, a3b, a3c, a3d, a3e, a3f, b3⟩ := blk6_ (O1.out.blk (i := 3) rfl)
   clear OA KA HF3
   go_wp2
   refine sP (n := 10) (S := fun w' => w'.cell? ⟨gg, 0, none⟩ = some (.int .i64 x) ∧ w'.cell? ⟨gm, 0, none⟩ = some (.int .i64 C) ∧ w'.cell? ⟨gm, 1, none⟩ = some (.slice (some ad) L.length cm)) (ds := []) ⟨a0a, a2a, a2b⟩ (fun hHeld => ?_)
   obtain ⟨w2, hw_⟩ : ∃ W, W = wr.drew := ⟨_, rfl⟩
   have o_ := O1.out.drew
   have k_ : KeepS N1 wr wr.drew := KeepS.drew
   rw [← hw_] at o_ k_ hHeld ⊢
   clear hw_
   have O2 := Aside0.mk o_
   have K2 := Aside0.mk (K1.out.trans k_)
   have HRI_2 := Aside0.mk (keepF HRI_1.out k_)
   have KW_2 := Aside0.mk (KeepS.trans KW_1.out k_)
   clear a0a b0 a2a a2b b2 a3a a3b a3c a3d a3e a3f b3 O1 K1 HRI_1 KW_1
   obtain ⟨a0a, b0⟩ := blk1_ (O2.out.blk (i := 0) rfl)
   obtain ⟨a2a, a2b, b2⟩ := blk2_ (O2.out.blk (i := 2) rfl)
   obtain ⟨a3a, a3b, a3c, a3d, a3e, a3f, b3⟩ := blk6_ (O2.out.blk (i := 3) rfl)
   clear o_ k_
   refine pP 0 (some 10) ?_
   refine pP 1 (some 11) ?_
   refine pP 2 (some 12) ?_
   refine pP 4 (some 14) ?_
   refine pP 5 (some 15) ?_
   refine pP 6 (some 16) ?_
   refine tP 3 (some 13) hHeld ?_
   refine tP 7 (some 17) hHeld ?_
   refine pP 8 (some 18) ?_
   refine pP 9 (some 19) ?_
   refine done_ (by kernel_rfl) ?_
   clear hHeld
   go_wp2
   by_cases hfull : (X.length : Int) - Ak ≥ W
   ·have HF := Aside0.mk hfull
    clear hfull
    refine sP (n := 21) (S := fun w' => w'.cell? ⟨gg, 0, none⟩ = some (.int .i64 x) ∧ w'.cell? ⟨gm, 0, none⟩ = some (.int .i64 C) ∧ w'.cell? ⟨gm, 1, none⟩ = some (.slice (some ad) L.length cm) ∧ w'.cell? ⟨gk, 0, none⟩ = some (.int .i64 E) ∧ w'.cell? ⟨gk, 1, none⟩ = some (.pointer (some ⟨gs, 0, none⟩)) ∧ w'.cell? ⟨gk, 2, none⟩ = some (.pointer (some ⟨gr, 0, none⟩)) ∧ w'.cell? ⟨gk, 3, none⟩ = some (.int .i64 Wn) ∧ w'.cell? ⟨gk, 4, none⟩ = some (.int .i64 Rm) ∧ w'.cell? ⟨gk, 5, none⟩ = some (.bool Pv) ∧ w'.cell? (ad.add (x.toNat * 3)) = some (.int .i64 (rd_T43 L x).f0) ∧ w'.cell? ⟨(ad.add (x.toNat * 3)).block, (ad.add (x.toNat * 3)).off + 1, none⟩ = some (.int .i64 (rd_T43 L x).f1) ∧ w'.cell? ⟨(ad.add (x.toNat * 3)).block, (ad.add (x.toNat * 3)).off + 2, none⟩ = some (.slice A3 (rd_T43 L x).f2.length c3)) (ds := []) ⟨a0a, a2a, a2b, a3a, a3b, a3c, a3d, a3e, a3f, (keepCell (KW_2.out.trans KeepS.drew) XX.out.1 HBL.out), (keepCell (KW_2.out.trans KeepS.drew) XX.out.2.1 HBL.out), (keepCell (KW_2.out.trans KeepS.drew) XX.out.2.2 HBL.out)⟩ (fun hHeld => ?_)
    obtain ⟨w3, hw_⟩ : ∃ W, W = w2.drew := ⟨_, rfl⟩
    have o_ := O2.out.drew
    have k_ : KeepS N1 w2 w2.drew := KeepS.drew
    rw [← hw_] at o_ k_ hHeld ⊢
    clear hw_
    have O3 := Aside0.mk o_
    have K3 := Aside0.mk (K2.out.trans k_)
    have HRI_3 := Aside0.mk (keepF HRI_2.out k_)
    have KW_3 := Aside0.mk (KeepS.trans KW_2.out k_)
    clear a0a b0 a2a a2b b2 a3a a3b a3c a3d a3e a3f b3 O2 K2 HRI_2 KW_2
    obtain ⟨a0a, b0⟩ := blk1_ (O3.out.blk (i := 0) rfl)
    obtain ⟨a2a, a2b, b2⟩ := blk2_ (O3.out.blk (i := 2) rfl)
    obtain ⟨a3a, a3b, a3c, a3d, a3e, a3f, b3⟩ := blk6_ (O3.out.blk (i := 3) rfl)
    clear o_ k_
    refine pP 0 (some 21) ?_
    refine pP 1 (some 22) ?_
    refine pP 2 (some 23) ?_
    refine pP 4 (some 25) ?_
    refine pP 5 (some 26) ?_
    refine pP 6 (some 27) ?_
    refine pP 8 (some 29) ?_
    refine pP 9 (some 30) ?_
    refine pP 10 (some 31) ?_
    refine tP 3 (some 24) hHeld ?_
    refine tP 7 (some 28) hHeld ?_
    refine tP 11 (some 32) hHeld ?_
    refine pP 12 (some 33) ?_
    refine tP 13 (some 34) hHeld ?_
    refine oP 14 (some 35) (fun K_ hK_ => ?_)
    refine hP Tryd.func33 #[.agg #[.int .i64 (rd_T43 L x).f0, .int .i64 (rd_T43 L x).f1, .slice A3 (rd_T43 L x).f2.length c3]] ?_
    refine (chapbookref07_Bytes.calls 60 (rd_T43 L x).f0 (rd_T43 L x).f1 _ _ (rd_T43 L x).f2 (bR (rd_T43 L x)) _ (Kd.F_now HRI_3.out) HC3.out (rbytesR 20 HM0.out)).mono ?_
    rintro e_ w4 ⟨rfl, hb_⟩
    refine ⟨_, rfl, ?_⟩
    have o_ := O3.out.below hb_
    have k_ := KeepS.of_below (N := N1) hb_
    have O4 := Aside0.mk o_
    have K4 := Aside0.mk (K3.out.trans k_)
    have HRI_4 := Aside0.mk (keepF HRI_3.out k_)
    have KW_4 := Aside0.mk (KeepS.trans KW_3.out k_)
    clear a0a b0 a2a a2b b2 a3a a3b a3c a3d a3e a3f b3 O3 K3 HRI_3 KW_3
    obtain ⟨a0a, b0⟩ := blk1_ (O4.out.blk (i := 0) rfl)
    obtain ⟨a2a, a2b, b2⟩ := blk2_ (O4.out.blk (i := 2) rfl)
    obtain ⟨a3a, a3b, a3c, a3d, a3e, a3f, b3⟩ := blk6_ (O4.out.blk (i := 3) rfl)
    clear o_ k_ hb_
    clear hHeld
    refine hK_.out _ _ ⟨a0a, a2a, a2b, a3a, a3b, a3c, a3d, a3e, a3f, (keepCell KW_4.out XX.out.1 HBL.out), (keepCell KW_4.out XX.out.2.1 HBL.out), (keepCell KW_4.out XX.out.2.2 HBL.out)⟩ (fun hHeld => ?_)
    clear hK_ K_
    refine nP ?_
    refine oP 15 (some 36) (fun K_ hK_ => ?_)
    refine hP Tryd.func39 #[.pointer (some ⟨gs, 0, none⟩), .string (bR (rd_T43 L x))] ?_
    obtain ⟨N_, on_, nn_, rr_, bb_⟩ := O4.out.frame1 (i := 1) rfl
    refine (DOffer_full (bR (rd_T43 L x)) on_ HF.out (by have := HXL.out; have := HI.out; have := HBK.out; have := HLL.out; omega)).mono ?_
    rintro e_ w5 ⟨rfl, oo_, kk_⟩
    obtain ⟨o_, k_⟩ := bb_ _ _ _ kk_ oo_
    refine ⟨_, rfl, ?_⟩
    have O5 : Aside0 (Own N1 w5 [cells gg #[.int .i64 x] 36, DSnd gs W 1125899906842624 X Ak, cells gm #[.int .i64 C, .slice (some ad) L.length cm] 80, cells gk #[.int .i64 E, .pointer (some ⟨gs, 0, none⟩), .pointer (some ⟨gr, 0, none⟩), .int .i64 Wn, .int .i64 Rm, .bool Pv] 84, DRcv gr room RAll]) := ⟨o_⟩
    have K5 := Aside0.mk (K4.out.trans k_)
    have HRI_5 := Aside0.mk (keepF HRI_4.out k_)
    have KW_5 := Aside0.mk (KeepS.trans KW_4.out k_)
    clear a0a b0 a2a a2b b2 a3a a3b a3c a3d a3e a3f b3 O4 K4 HRI_4 KW_4
    obtain ⟨a0a, b0⟩ := blk1_ (O5.out.blk (i := 0) rfl)
    obtain ⟨a2a, a2b, b2⟩ := blk2_ (O5.out.blk (i := 2) rfl)
    obtain ⟨a3a, a3b, a3c, a3d, a3e, a3f, b3⟩ := blk6_ (O5.out.blk (i := 3) rfl)
    clear o_ k_ oo_ kk_ on_ nn_ rr_ bb_
    clear hHeld
    refine hK_.out _ _ ⟨a0a, a2a, a2b, a3a, a3b, a3c, a3d, a3e, a3f, (keepCell KW_5.out XX.out.1 HBL.out), (keepCell KW_5.out XX.out.2.1 HBL.out), (keepCell KW_5.out XX.out.2.2 HBL.out)⟩ (fun hHeld => ?_)
    clear hK_ K_
    refine nP ?_
    refine pP 16 (some 20) ?_
    refine pP 17 (some 37) ?_
    refine pP 18 (some 38) ?_
    refine pP 19 (some 8) ?_
    refine pP 20 (some 9) ?_
    refine done_ (by kernel_rfl) ?_
    clear hHeld
    obtain rfl : m = m1 := HPM.out.one ⟨HI.out.1, HI.out.2.1, HI.out.2.2, .inr (by have := HXL.out; have := HF.out; have := HI.out; omega)⟩
    go_wp2
    go_ret
    have oo_ := ((O5.out.take 5).push_emp emp (fun _ => trivial))
    obtain ⟨hb_, hk_⟩ := HBACK.out _ _ (by simp) K5.out oo_
    refine ⟨rfl, ?_, hk_⟩
    rw [← HX.out, ← HXX.out]
    have o2_ := ObjG.shut (f := fun v => #[.int .i64 C, v]) (i := 2) (j := 5) hb_ rfl rfl (by decide)
    obtain ⟨N9, o3, n3, r3, b3⟩ := o2_.frameL [3, 4, 1] (by decide) (by simp)
    obtain ⟨o4, _⟩ := b3 _ [DLnk gk E Wn Rm Pv W X Ak room RAll, emp, emp] [] rfl (KeepS.refl _ _) (((DLnk.shut o3).push_emp emp (fun _ => trivial)).push_emp emp (fun _ => trivial))
    have o5 : Own N w5 [cells gg #[.int .i64 x] 36, emp, ObjM gm C L, DLnk gk E Wn Rm Pv W X Ak room RAll, emp, emp] := o4
    exact o5.pickL [0, 2, 3] (by decide) (by simp)
   ·have HF := Aside0.mk hfull
    clear hfull
    refine sP (n := 21) (S := fun w' => w'.cell? ⟨gg, 0, none⟩ = some (.int .i64 x) ∧ w'.cell? ⟨gm, 0, none⟩ = some (.int .i64 C) ∧ w'.cell? ⟨gm, 1, none⟩ = some (.slice (some ad) L.length cm) ∧ w'.cell? ⟨gk, 0, none⟩ = some (.int .i64 E) ∧ w'.cell? ⟨gk, 1, none⟩ = some (.pointer (some ⟨gs, 0, none⟩)) ∧ w'.cell? ⟨gk, 2, none⟩ = some (.pointer (some ⟨gr, 0, none⟩)) ∧ w'.cell? ⟨gk, 3, none⟩ = some (.int .i64 Wn) ∧ w'.cell? ⟨gk, 4, none⟩ = some (.int .i64 Rm) ∧ w'.cell? ⟨gk, 5, none⟩ = some (.bool Pv) ∧ w'.cell? (ad.add (x.toNat * 3)) = some (.int .i64 (rd_T43 L x).f0) ∧ w'.cell? ⟨(ad.add (x.toNat * 3)).block, (ad.add (x.toNat * 3)).off + 1, none⟩ = some (.int .i64 (rd_T43 L x).f1) ∧ w'.cell? ⟨(ad.add (x.toNat * 3)).block, (ad.add (x.toNat * 3)).off + 2, none⟩ = some (.slice A3 (rd_T43 L x).f2.length c3)) (ds := []) ⟨a0a, a2a, a2b, a3a, a3b, a3c, a3d, a3e, a3f, (keepCell (KW_2.out.trans KeepS.drew) XX.out.1 HBL.out), (keepCell (KW_2.out.trans KeepS.drew) XX.out.2.1 HBL.out), (keepCell (KW_2.out.trans KeepS.drew) XX.out.2.2 HBL.out)⟩ (fun hHeld => ?_)
    obtain ⟨w3, hw_⟩ : ∃ W, W = w2.drew := ⟨_, rfl⟩
    have o_ := O2.out.drew
    have k_ : KeepS N1 w2 w2.drew := KeepS.drew
    rw [← hw_] at o_ k_ hHeld ⊢
    clear hw_
    have O3 := Aside0.mk o_
    have K3 := Aside0.mk (K2.out.trans k_)
    have HRI_3 := Aside0.mk (keepF HRI_2.out k_)
    have KW_3 := Aside0.mk (KeepS.trans KW_2.out k_)
    clear a0a b0 a2a a2b b2 a3a a3b a3c a3d a3e a3f b3 O2 K2 HRI_2 KW_2
    obtain ⟨a0a, b0⟩ := blk1_ (O3.out.blk (i := 0) rfl)
    obtain ⟨a2a, a2b, b2⟩ := blk2_ (O3.out.blk (i := 2) rfl)
    obtain ⟨a3a, a3b, a3c, a3d, a3e, a3f, b3⟩ := blk6_ (O3.out.blk (i := 3) rfl)
    clear o_ k_
    refine pP 0 (some 21) ?_
    refine pP 1 (some 22) ?_
    refine pP 2 (some 23) ?_
    refine pP 4 (some 25) ?_
    refine pP 5 (some 26) ?_
    refine pP 6 (some 27) ?_
    refine pP 8 (some 29) ?_
    refine pP 9 (some 30) ?_
    refine pP 10 (some 31) ?_
    refine tP 3 (some 24) hHeld ?_
    refine tP 7 (some 28) hHeld ?_
    refine tP 11 (some 32) hHeld ?_
    refine pP 12 (some 33) ?_
    refine tP 13 (some 34) hHeld ?_
    refine oP 14 (some 35) (fun K_ hK_ => ?_)
    refine hP Tryd.func33 #[.agg #[.int .i64 (rd_T43 L x).f0, .int .i64 (rd_T43 L x).f1, .slice A3 (rd_T43 L x).f2.length c3]] ?_
    refine (chapbookref07_Bytes.calls 60 (rd_T43 L x).f0 (rd_T43 L x).f1 _ _ (rd_T43 L x).f2 (bR (rd_T43 L x)) _ (Kd.F_now HRI_3.out) HC3.out (rbytesR 20 HM0.out)).mono ?_
    rintro e_ w4 ⟨rfl, hb_⟩
    refine ⟨_, rfl, ?_⟩
    have o_ := O3.out.below hb_
    have k_ := KeepS.of_below (N := N1) hb_
    have O4 := Aside0.mk o_
    have K4 := Aside0.mk (K3.out.trans k_)
    have HRI_4 := Aside0.mk (keepF HRI_3.out k_)
    have KW_4 := Aside0.mk (KeepS.trans KW_3.out k_)
    clear a0a b0 a2a a2b b2 a3a a3b a3c a3d a3e a3f b3 O3 K3 HRI_3 KW_3
    obtain ⟨a0a, b0⟩ := blk1_ (O4.out.blk (i := 0) rfl)
    obtain ⟨a2a, a2b, b2⟩ := blk2_ (O4.out.blk (i := 2) rfl)
    obtain ⟨a3a, a3b, a3c, a3d, a3e, a3f, b3⟩ := blk6_ (O4.out.blk (i := 3) rfl)
    clear o_ k_ hb_
    clear hHeld
    refine hK_.out _ _ ⟨a0a, a2a, a2b, a3a, a3b, a3c, a3d, a3e, a3f, (keepCell KW_4.out XX.out.1 HBL.out), (keepCell KW_4.out XX.out.2.1 HBL.out), (keepCell KW_4.out XX.out.2.2 HBL.out)⟩ (fun hHeld => ?_)
    clear hK_ K_
    refine nP ?_
    refine oP 15 (some 36) (fun K_ hK_ => ?_)
    refine hP Tryd.func39 #[.pointer (some ⟨gs, 0, none⟩), .string (bR (rd_T43 L x))] ?_
    obtain ⟨N_, on_, nn_, rr_, bb_⟩ := O4.out.frame1 (i := 1) rfl
    refine (DOffer_ok (bR (rd_T43 L x)) on_ (by have := HF.out; omega) ⟨by have := HBK.out; omega, by have := HXL.out; have := HI.out; have := HBK.out; omega, by have := HXL.out; have := HI.out; have := HBK.out; have := HLL.out; omega, rfl⟩).mono ?_
    rintro e_ w5 ⟨rfl, oo_, kk_⟩
    obtain ⟨o_, k_⟩ := bb_ _ _ _ kk_ oo_
    refine ⟨_, rfl, ?_⟩
    have O5 : Aside0 (Own N1 w5 [cells gg #[.int .i64 x] 36, DSnd gs W 1125899906842624 (X ++ [bR (rd_T43 L x)]) Ak, cells gm #[.int .i64 C, .slice (some ad) L.length cm] 80, cells gk #[.int .i64 E, .pointer (some ⟨gs, 0, none⟩), .pointer (some ⟨gr, 0, none⟩), .int .i64 Wn, .int .i64 Rm, .bool Pv] 84, DRcv gr room RAll]) := ⟨o_⟩
    have K5 := Aside0.mk (K4.out.trans k_)
    have HRI_5 := Aside0.mk (keepF HRI_4.out k_)
    have KW_5 := Aside0.mk (KeepS.trans KW_4.out k_)
    clear a0a b0 a2a a2b b2 a3a a3b a3c a3d a3e a3f b3 O4 K4 HRI_4 KW_4
    obtain ⟨a0a, b0⟩ := blk1_ (O5.out.blk (i := 0) rfl)
    obtain ⟨a2a, a2b, b2⟩ := blk2_ (O5.out.blk (i := 2) rfl)
    obtain ⟨a3a, a3b, a3c, a3d, a3e, a3f, b3⟩ := blk6_ (O5.out.blk (i := 3) rfl)
    clear o_ k_ oo_ kk_ on_ nn_ rr_ bb_
    clear hHeld
    refine hK_.out _ _ ⟨a0a, a2a, a2b, a3a, a3b, a3c, a3d, a3e, a3f, (keepCell KW_5.out XX.out.1 HBL.out), (keepCell KW_5.out XX.out.2.1 HBL.out), (keepCell KW_5.out XX.out.2.2 HBL.out)⟩ (fun hHeld => ?_)
    clear hK_ K_
    refine nP ?_
    refine pP 16 (some 20) ?_
    refine pP 17 (some 37) ?_
    refine pP 18 (some 38) ?_
    refine pP 19 (some 8) ?_
    refine pP 20 (some 9) ?_
    refine done_ (by kernel_rfl) ?_
    clear hHeld
    go_wp2_with (first | ((with_reducible refine gate_store (t := 3) (p := 49) rfl ?_); refine wP (World.setCell w5 ⟨gg, 0, none⟩ (.int .i64 (x + 1))) [cells gg #[.int .i64 (x + 1)] 36, DSnd gs W 1125899906842624 (X ++ [bR (rd_T43 L x)]) Ak, cells gm #[.int .i64 C, .slice (some ad) L.length cm] 80, cells gk #[.int .i64 E, .pointer (some ⟨gs, 0, none⟩), .pointer (some ⟨gr, 0, none⟩), .int .i64 Wn, .int .i64 Rm, .bool Pv] 84, DRcv gr room RAll] (O5.out.set (i := 0) rfl 0 (.int .i64 (x + 1))) (KeepS.setCell (O5.out.far (i := 0) rfl) (.int .i64 (x + 1))) ?_; intro w6 o_ k_; have O6 := Aside0.mk o_; have K6 := Aside0.mk (K5.out.trans k_); have HRI_6 := Aside0.mk (keepF HRI_5.out k_); have KW_6 := Aside0.mk (KeepS.trans KW_5.out k_); clear a0a b0 a2a a2b b2 a3a a3b a3c a3d a3e a3f b3 O5 K5 HRI_5 KW_5; obtain ⟨a0a, b0⟩ := blk1_ (O6.out.blk (i := 0) rfl); obtain ⟨a2a, a2b, b2⟩ := blk2_ (O6.out.blk (i := 2) rfl); obtain ⟨a3a, a3b, a3c, a3d, a3e, a3f, b3⟩ := blk6_ (O6.out.blk (i := 3) rfl); clear o_ k_))
    go_roundw
    case rel =>
     have h2_ := HX.out
     have hp_ := seg_map HA0.out.1 HI.out.1 (show a + m1 < (L.length : Int) by have := HXR.out; omega)
     refine ⟨m1 + 1, congrArg (Value.int .i64) (by unfold wrap64; have h1_ := HI.out; have h2_ := HLL.out; have h3_ := HA0.out; omega), ⟨by have := HI.out; omega, by have := HXR.out; omega, by have := HXL.out; have := HF.out; omega⟩, ⟨?_⟩, K6⟩
     rw [hp_, ← List.append_assoc, ← HXX.out, ← h2_, show a + (m1 + 1) = x + 1 by omega]
     exact O6.out.take 5
    case measure => have := HX.out; have := HXR.out; simp [intOf]; omega
  ·have hd : decide (x < (L.length : Int)) = false := decide_eq_false hlt
   obtain rfl : m = m1 := HPM.out.one ⟨HI.out.1, HI.out.2.1, HI.out.2.2, .inl (by have := HX.out; have := HI.out; omega)⟩
   clear hF2 hlt
   have O1 : Aside0 (Own N1 wr [cells gg #[.int .i64 x] 36, DSnd gs W 1125899906842624 X Ak, cells gm #[.int .i64 C, .slice Am L.length cm] 80, cells gk #[.int .i64 E, .pointer (some ⟨gs, 0, none⟩), .pointer (some ⟨gr, 0, none⟩), .int .i64 Wn, .int .i64 Rm, .bool Pv] 84, DRcv gr room RAll]) := ⟨OA.out⟩
   have K1 : Aside0 (KeepS N1 w wr) := ⟨KA.out⟩
   obtain ⟨a0a, b0⟩ := blk1_ (O1.out.blk (i := 0) rfl)
   obtain ⟨a2a, a2b, b2⟩ := blk2_ (O1.out.blk (i := 2) rfl)
   obtain ⟨a3a, a3b, a3c, a3d, a3e, a3f, b3⟩ := blk6_ (O1.out.blk (i := 3) rfl)
   clear OA KA
   go_wp2
   refine sP (n := 10) (S := fun w' => w'.cell? ⟨gg, 0, none⟩ = some (.int .i64 x) ∧ w'.cell? ⟨gm, 0, none⟩ = some (.int .i64 C) ∧ w'.cell? ⟨gm, 1, none⟩ = some (.slice Am L.length cm)) (ds := []) ⟨a0a, a2a, a2b⟩ (fun hHeld => ?_)
   obtain ⟨w2, hw_⟩ : ∃ W, W = wr.drew := ⟨_, rfl⟩
   have o_ := O1.out.drew
   have k_ : KeepS N1 wr wr.drew := KeepS.drew
   rw [← hw_] at o_ k_ hHeld ⊢
   clear hw_
   have O2 := Aside0.mk o_
   have K2 := Aside0.mk (K1.out.trans k_)
   clear a0a b0 a2a a2b b2 a3a a3b a3c a3d a3e a3f b3 O1 K1
   obtain ⟨a0a, b0⟩ := blk1_ (O2.out.blk (i := 0) rfl)
   obtain ⟨a2a, a2b, b2⟩ := blk2_ (O2.out.blk (i := 2) rfl)
   obtain ⟨a3a, a3b, a3c, a3d, a3e, a3f, b3⟩ := blk6_ (O2.out.blk (i := 3) rfl)
   clear o_ k_
   refine pP 0 (some 10) ?_
   refine pP 1 (some 11) ?_
   refine pP 2 (some 12) ?_
   refine pP 4 (some 14) ?_
   refine pP 5 (some 15) ?_
   refine pP 6 (some 16) ?_
   refine tP 3 (some 13) hHeld ?_
   refine tP 7 (some 17) hHeld ?_
   refine pP 8 (some 18) ?_
   refine pP 9 (some 19) ?_
   refine done_ (by kernel_rfl) ?_
   clear hHeld
   go_wp2
   go_ret
   have oo_ := ((O2.out.take 5).push_emp emp (fun _ => trivial))
   obtain ⟨hb_, hk_⟩ := HBACK.out _ _ (by simp) K2.out oo_
   refine ⟨rfl, ?_, hk_⟩
   rw [← HX.out, ← HXX.out]
   have o2_ := ObjG.shut (f := fun v => #[.int .i64 C, v]) (i := 2) (j := 5) hb_ rfl rfl (by decide)
   obtain ⟨N9, o3, n3, r3, b3⟩ := o2_.frameL [3, 4, 1] (by decide) (by simp)
   obtain ⟨o4, _⟩ := b3 _ [DLnk gk E Wn Rm Pv W X Ak room RAll, emp, emp] [] rfl (KeepS.refl _ _) (((DLnk.shut o3).push_emp emp (fun _ => trivial)).push_emp emp (fun _ => trivial))
   have o5 : Own N w2 [cells gg #[.int .i64 x] 36, emp, ObjM gm C L, DLnk gk E Wn Rm Pv W X Ak room RAll, emp, emp] := o4
   exact o5.pickL [0, 2, 3] (by decide) (by simp)
end Go.Proofs.YtjmoncfgoaaekaaDoor.J
namespace Go.Proofs.YtjmoncfgoaaekaaDoor.Q
open Go.RowKit Go.Proofs.YtjmoncfgoaaekaaDoorW.PrintWords Go.Proofs.YtjmoncfgoaaekaaDoorW.PrintLast Go.Proofs.YtjmoncfgoaaekaaDoorW.PrintMore
attribute [local go_sem] max2_int min2_int max_two min_two max_three min_three max_four min_four   -- for this text's walks alone
set_option linter.unusedVariables false
set_option linter.unusedSimpArgs false
theorem eqA40 (d : Nat) (w : World) (x0 y0 : Int) (x1 y1 : Int) (x2 y2 : Int) (x3 y3 : ByteArray) :
  (Op.equalIn (d + 2) 40 (.agg #[.int .i64 x0, .int .i64 x1, .int .i64 x2, .string x3]) (.agg #[.int .i64 y0, .int .i64 y1, .int .i64 y2, .string y3])).run Tryd.prog w = .ok (x0 == y0 && (x1 == y1 && (x2 == y2 && (x3.toList == y3.toList)))) w := by
 refine eqA_of Tryd.underlying40 (by kernel_rfl) ?_
 refine eqf_cons (by rfl) (by go_simp; rfl) (by go_simp; rfl) (by go_simp) ?_
 refine eqf_cons (by rfl) (by go_simp; rfl) (by go_simp; rfl) (by go_simp) ?_
 refine eqf_cons (by rfl) (by go_simp; rfl) (by go_simp; rfl) (by go_simp) ?_
 exact eqf_last (by rfl) (by go_simp; rfl) (by go_simp; rfl) (by go_simp)
end Go.Proofs.YtjmoncfgoaaekaaDoor.Q
namespace Go.Proofs.YtjmoncfgoaaekaaDoor.Q
open Go.RowKit Go.Proofs.YtjmoncfgoaaekaaDoorW.PrintWords Go.Proofs.YtjmoncfgoaaekaaDoorW.PrintLast Go.Proofs.YtjmoncfgoaaekaaDoorW.PrintMore
attribute [local go_sem] max2_int min2_int max_two min_two max_three min_three max_four min_four   -- for this text's walks alone
set_option linter.unusedVariables false
set_option linter.unusedSimpArgs false
attribute [local go_sem high] eqA40
def chapbookref12_SameFrames.l0 : Nat → List (S40) → List (S40) → Int → Option (Bool)
 | 0, _, _, _ => none
 | k + 1, x0, x1, x5 => if x5 < (x0.length : Int) then (if 0 ≤ x5 then (if x5 < (x1.length : Int) then (if (!(((rd_T40 x0 x5).f0) == ((rd_T40 x1 x5).f0)) || (!(((rd_T40 x0 x5).f1) == ((rd_T40 x1 x5).f1)) || (!(((rd_T40 x0 x5).f2) == ((rd_T40 x1 x5).f2)) || (!((((rd_T40 x0 x5).f3).toList) == (((rd_T40 x1 x5).f3).toList)))))) = true then (some false) else (chapbookref12_SameFrames.l0 k x0 x1 (wrap64 (x5 + 1)))) else (none)) else (none)) else (some true)
def chapbookref12_SameFrames.f (k : Nat) (l0 : List (S40)) (l1 : List (S40)) : Option (Bool) := if (l0.length : Int) = (l1.length : Int) then (chapbookref12_SameFrames.l0 k l0 l1 0) else (some false)
theorem chapbookref12_SameFrames.mono_l : ∀ k, (∀ y0 y1 y2, LeO (chapbookref12_SameFrames.l0 k y0 y1 y2) (chapbookref12_SameFrames.l0 (k + 1) y0 y1 y2))
 | 0 => fun _ _ _ r h => by simp [chapbookref12_SameFrames.l0] at h
 | k + 1 => by
  have ih0 := chapbookref12_SameFrames.mono_l k
  ·intro y0 y1 y2
   unfold chapbookref12_SameFrames.l0
   repeat' first
   | (with_reducible exact ih0 _ _ _)
   | (with_reducible exact LeO.refl _)
   | (with_reducible exact LeO.none _)
   | (with_reducible refine LeO.ite ?_ ?_)
   | (with_reducible refine LeO.bind ?_ (fun _ => ?_))
   | exact ih0 _ _ _
   | exact LeO.none _
   | refine LeO.ite ?_ ?_
   | refine LeO.bind ?_ (fun _ => ?_)
theorem chapbookref12_SameFrames.mono : ∀ a0 a1 k, LeO (chapbookref12_SameFrames.f k a0 a1) (chapbookref12_SameFrames.f (k + 1) a0 a1) := by
 intro a0 a1 k
 have ih0 := chapbookref12_SameFrames.mono_l k
 unfold chapbookref12_SameFrames.f
 repeat' first
   | (with_reducible exact ih0 _ _ _)
   | (with_reducible exact LeO.refl _)
   | (with_reducible exact LeO.none _)
   | (with_reducible refine LeO.ite ?_ ?_)
   | (with_reducible refine LeO.bind ?_ (fun _ => ?_))
   | exact ih0 _ _ _
   | exact LeO.none _
   | refine LeO.ite ?_ ?_
   | refine LeO.bind ?_ (fun _ => ?_)
set_option maxHeartbeats 8000000 in
set_option maxRecDepth 100000 in
theorem chapbookref12_SameFrames.calls (k : Nat) (A0 : Option Addr) (c0 : Nat) (l0 : List (S40)) (A1 : Option Addr) (c1 : Nat) (l1 : List (S40)) (r : Bool) (w : World) (hr0 : Kd.C k40 w A0 l0.length l0) (hc0 : l0.length ≤ c0) (hr1 : Kd.C k40 w A1 l1.length l1) (hc1 : l1.length ≤ c1) (h : chapbookref12_SameFrames.f k l0 l1 = some r) :
  Calls Tryd.prog 22 #[.slice A0 l0.length c0, .slice A1 l1.length c1] w fun e w' => e = .returned (.bool r) ∧ Drawn0 w w' := by
 have hu40 := Tryd.underlying40
 have HR0 := Aside0.mk hr0
 have HC0 := Aside0.mk hc0
 clear hr0 hc0
 have HR1 := Aside0.mk hr1
 have HC1 := Aside0.mk hc1
 clear hr1 hc1
 have H : (if (l0.length : Int) = (l1.length : Int) then (chapbookref12_SameFrames.l0 k l0 l1 0) else (some false)) = some r := h
 clear h
 by_cases c3 : (l0.length : Int) = (l1.length : Int)
 ·rw [if_pos c3] at H
  have c3b0 : ((l0.length : Int) == (l1.length : Int)) = true := beq_iff_eq.mpr c3
  have c3b1 : ((l0.length : Int) != (l1.length : Int)) = false := bne_eq_false_iff_eq.mpr c3
  have c3b2 : (l0.length == l1.length) = true := by first | simpa using c3 | (simp at c3 ⊢; omega)
  clear c3
  have H' := Aside0.mk H
  clear H
  go_enter Tryd.func22, Tryd.ntmps22
  go_wp2
  repeat (go_quiet (fail); try go_wp2)
  go_loopg [5] k (fun kq v5 w' => ∃ (x5_1 : Int), v5 = .int .i64 x5_1 ∧ Aside0 (chapbookref12_SameFrames.l0 kq l0 l1 x5_1 = some r) ∧ Aside0 (kq ≤ k) ∧ Drawn0 w w')
  case atStart => exact ⟨(0), (by first | rfl | (simp; done) | (simp [*]; done) | (simp; exact isEmpty_bne _)), H', ⟨Nat.le_refl _⟩, by repeat (first | exact Drawn0.refl _ | apply Drawn0.step)⟩
  case round =>
   clear H'
   try clear c1
   try clear c2
   try clear p2
   try clear c3
   try clear c3b0
   try clear c3b1
   try clear c3b2
   obtain ⟨x5_1, rfl, HA, HK1, ⟨m1, rfl⟩⟩ := hrel
   cases gk with
   | zero => exact absurd HA.out (by simp [chapbookref12_SameFrames.l0])
   | succ k1 =>
    have H := HA.out
    clear HA
    simp only [chapbookref12_SameFrames.l0] at H
    by_cases c4 : x5_1 < (l0.length : Int)
    ·rw [if_pos c4] at H
     have c4b0 : decide (x5_1 < (l0.length : Int)) = true := decide_eq_true c4
     clear c4
     by_cases c5 : 0 ≤ x5_1
     ·rw [if_pos c5] at H
      have c5b0 : decide (0 ≤ x5_1) = true := decide_eq_true c5
      clear c5
      by_cases c6 : x5_1 < (l1.length : Int)
      ·rw [if_pos c6] at H
       have c6b0 : decide (x5_1 < (l1.length : Int)) = true := decide_eq_true c6
       clear c6
       by_cases c7 : (!(((rd_T40 l0 x5_1).f0) == ((rd_T40 l1 x5_1).f0)) || (!(((rd_T40 l0 x5_1).f1) == ((rd_T40 l1 x5_1).f1)) || (!(((rd_T40 l0 x5_1).f2) == ((rd_T40 l1 x5_1).f2)) || (!((((rd_T40 l0 x5_1).f3).toList) == (((rd_T40 l1 x5_1).f3).toList)))))) = true
       ·rw [if_pos c7] at H
        have c7b0 : (!(((rd_T40 l0 x5_1).f0) == ((rd_T40 l1 x5_1).f0)) || (!(((rd_T40 l0 x5_1).f1) == ((rd_T40 l1 x5_1).f1)) || (!(((rd_T40 l0 x5_1).f2) == ((rd_T40 l1 x5_1).f2)) || (!((((rd_T40 l0 x5_1).f3).toList) == (((rd_T40 l1 x5_1).f3).toList)))))) = true := c7
        clear c7
        obtain rfl := Option.some.inj H
        have p321 : 0 ≤ (x5_1 : Int) := of_decide_eq_true (by first | (with_reducible assumption) | assumption)
        have q321 : x5_1 < (l0.length : Int) := of_decide_eq_true (by first | (with_reducible assumption) | assumption)
        obtain ⟨ad321, e321, hx321_0, hx321_1, hx321_2, hx321_3⟩ := at_T40 HR0.out x5_1 p321 q321
        cases e321
        replace p321 := eq_true p321
        replace q321 := eq_true q321
        have p322 : 0 ≤ (x5_1 : Int) := of_decide_eq_true (by first | (with_reducible assumption) | assumption)
        have q322 : x5_1 < (l1.length : Int) := of_decide_eq_true (by first | (with_reducible assumption) | assumption)
        obtain ⟨ad322, e322, hx322_0, hx322_1, hx322_2, hx322_3⟩ := at_T40 HR1.out x5_1 p322 q322
        cases e322
        replace p322 := eq_true p322
        replace q322 := eq_true q322
        go_wp2
        repeat (go_quiet (fail); try go_wp2)
        go_ret
        exact ⟨by first | rfl | (simp; done) | (simp [*]; done), by repeat (first | exact Drawn0.refl _ | apply Drawn0.step)⟩
       ·rw [if_neg c7] at H
        have c7b0 : (!(((rd_T40 l0 x5_1).f0) == ((rd_T40 l1 x5_1).f0)) || (!(((rd_T40 l0 x5_1).f1) == ((rd_T40 l1 x5_1).f1)) || (!(((rd_T40 l0 x5_1).f2) == ((rd_T40 l1 x5_1).f2)) || (!((((rd_T40 l0 x5_1).f3).toList) == (((rd_T40 l1 x5_1).f3).toList)))))) = false := by simpa using c7
        clear c7
        have H' := Aside0.mk H
        clear H
        have p321 : 0 ≤ (x5_1 : Int) := of_decide_eq_true (by first | (with_reducible assumption) | assumption)
        have q321 : x5_1 < (l0.length : Int) := of_decide_eq_true (by first | (with_reducible assumption) | assumption)
        obtain ⟨ad321, e321, hx321_0, hx321_1, hx321_2, hx321_3⟩ := at_T40 HR0.out x5_1 p321 q321
        cases e321
        replace p321 := eq_true p321
        replace q321 := eq_true q321
        have p322 : 0 ≤ (x5_1 : Int) := of_decide_eq_true (by first | (with_reducible assumption) | assumption)
        have q322 : x5_1 < (l1.length : Int) := of_decide_eq_true (by first | (with_reducible assumption) | assumption)
        obtain ⟨ad322, e322, hx322_0, hx322_1, hx322_2, hx322_3⟩ := at_T40 HR1.out x5_1 p322 q322
        cases e322
        replace p322 := eq_true p322
        replace q322 := eq_true q322
        go_wp2
        repeat (go_quiet (fail); try go_wp2)
        go_roundg k1
        case measure => have := HK1.out; omega
        case rel => exact ⟨(wrap64 (x5_1 + 1)), (by first | rfl | (simp; done) | (simp [*]; done) | (simp; exact isEmpty_bne _)), H', ⟨by have := HK1.out; omega⟩, by repeat (first | exact Drawn0.refl _ | apply Drawn0.step)⟩
      ·rw [if_neg c6] at H
       exact absurd H (by simp)
     ·rw [if_neg c5] at H
      exact absurd H (by simp)
    ·rw [if_neg c4] at H
     have c4b0 : decide (x5_1 < (l0.length : Int)) = false := decide_eq_false c4
     clear c4
     obtain rfl := Option.some.inj H
     go_wp2
     repeat (go_quiet (fail); try go_wp2)
     go_ret
     exact ⟨by first | rfl | (simp; done) | (simp [*]; done), by repeat (first | exact Drawn0.refl _ | apply Drawn0.step)⟩
 ·rw [if_neg c3] at H
  have c3b0 : ((l0.length : Int) == (l1.length : Int)) = false := beq_eq_false_iff_ne.mpr c3
  have c3b1 : ((l0.length : Int) != (l1.length : Int)) = true := bne_iff_ne.mpr c3
  have c3b2 : (l0.length == l1.length) = false := by first | simpa using c3 | (simp at c3 ⊢; omega)
  obtain rfl := Option.some.inj H
  go_enter Tryd.func22, Tryd.ntmps22
  go_wp2
  repeat (go_quiet (fail); try go_wp2)
  go_ret
  exact ⟨by first | rfl | (simp; done) | (simp [*]; done), by repeat (first | exact Drawn0.refl _ | apply Drawn0.step)⟩
end Go.Proofs.YtjmoncfgoaaekaaDoor.Q
namespace Go.Proofs.YtjmoncfgoaaekaaDoor.J
set_option linter.unusedSimpArgs false
set_option linter.unusedVariables false
open Go Go.RowKit Go.Proofs.YtjmoncfgoaaekaaDoorW.PrintWords Go.Proofs.YtjmoncfgoaaekaaDoorW.PrintLast Go.Proofs.YtjmoncfgoaaekaaDoorW.PrintMore Go.Proofs.YtjmoncfgoaaekaaDoor.Q Go.Proofs.YtjmoncfgoaaekaaDoor.Sep Go.Proofs.YtjmoncfgoaaekaaDoor.Pure
abbrev Act_ := S45
def FrOk (f : Frm) : Prop := 1 ≤ f.f0 ∧ f.f0 ≤ 1099511627776 ∧ 0 ≤ f.f1 ∧ f.f1 ≤ 1125899906842624
theorem may09 (k : Nat) (a b c : Int) (s : ByteArray) : ∃ e, chapbookref09_May.f (k + 1) a b c s = some e ∧ (e = 0 → 1 ≤ a ∧ a ≤ 1099511627776 ∧ 0 ≤ b ∧ b ≤ 1125899906842624) := by
 unfold chapbookref09_May.f
 by_cases h1 : a < 1
 ·rw [if_pos h1]; exact ⟨1, by simp [chapbookref09_May.j0], by simp⟩
 rw [if_neg h1]
 by_cases h2 : a > 1099511627776
 ·rw [if_pos h2]; exact ⟨1, by simp [chapbookref09_May.j0], by simp⟩
 rw [if_neg h2]
 by_cases h3 : b < 0
 ·rw [if_pos h3]; exact ⟨1, by simp [chapbookref09_May.j0], by simp⟩
 rw [if_neg h3]
 by_cases h4 : b > 1125899906842624
 ·rw [if_pos h4]; exact ⟨1, by simp [chapbookref09_May.j0], by simp⟩
 rw [if_neg h4]
 have hb : 1 ≤ a ∧ a ≤ 1099511627776 ∧ 0 ≤ b ∧ b ≤ 1125899906842624 := ⟨by omega, by omega, by omega, by omega⟩
 by_cases h5 : c < 0
 ·rw [if_pos h5]; exact ⟨1, by simp [chapbookref09_May.j0], by simp⟩
 rw [if_neg h5]
 simp only [chapbookref09_May.j0]
 (repeat' split) <;> exact ⟨_, rfl, fun _ => hb⟩
theorem great1 (k : Nat) (o n : Int) (ups : List Upd) (hk : 202 ≤ k) : ∃ g, chapbookref07_Great.f k o n ups = some g ∧ (g = false → ups.length ≤ 20) := by
 unfold chapbookref07_Great.f
 by_cases c : (ups.length : Int) > 20
 ·rw [if_pos c]; exact ⟨true, rfl, by simp⟩
 ·rw [if_neg c]
  obtain ⟨g, hg, _⟩ := greatAll_ok k ups (by omega)
  exact ⟨g, by rw [hg, Option.bind_some], fun _ => by omega⟩
theorem great15_loop (l : List Act_) (hl : l.length ≤ 9223372036854775807) : ∀ (d k : Nat) (x : Int), 0 ≤ x → x ≤ l.length → (l.length : Int) - x = d → d + 210 ≤ k → ∃ b, chapbooklaw15_great.l0 k l l.length x = some b ∧ (b = false → ∀ y : Int, x ≤ y → y < l.length → (rd_T45 l y).f2.f2.length ≤ 20 ∧ ((rd_T45 l y).f0 = 2 → FrOk (rd_T45 l y).f1)) := by
 intro d
 induction d with
 | zero =>
  intro k x h0 h1 hd hk
  obtain ⟨k, rfl⟩ : ∃ m, k = m + 1 := ⟨k - 1, by omega⟩
  simp only [chapbooklaw15_great.l0]
  rw [if_neg (by omega)]
  exact ⟨_, rfl, fun _ y _ _ => by omega⟩
 | succ d ih =>
  intro k x h0 h1 hd hk
  obtain ⟨k, rfl⟩ : ∃ m, k = m + 2 := ⟨k - 2, by omega⟩
  simp only [chapbooklaw15_great.l0]
  rw [if_pos (by omega), if_pos h0, if_pos (by omega)]
  obtain ⟨g, hg, hg2⟩ := great1 (k + 1) (rd_T45 l x).f2.f0 (rd_T45 l x).f2.f1 (rd_T45 l x).f2.f2 (by omega)
  rw [hg, Option.bind_some]
  by_cases hq : g = true
  ·rw [if_pos hq]; exact ⟨_, rfl, by simp⟩
  rw [if_neg hq]
  by_cases hs : (((rd_T45 l x).f1.f3).size : Int) > 100
  ·rw [if_pos hs]; exact ⟨_, rfl, by simp⟩
  rw [if_neg hs, w64s (n := l.length) h0 (by omega) (by omega)]
  obtain ⟨b, hb, h2⟩ := ih (k + 1) (x + 1) (by omega) (by omega) (by omega) (by omega)
  have hlen := hg2 (by cases g <;> simp_all)
  by_cases hk2 : (rd_T45 l x).f0 = 2
  ·rw [if_pos hk2]
   obtain ⟨e, he, he2⟩ := may09 k (rd_T45 l x).f1.f0 (rd_T45 l x).f1.f1 (rd_T45 l x).f1.f2 (rd_T45 l x).f1.f3
   rw [he, Option.bind_some]
   by_cases hz : e = 0
   ·rw [if_pos hz]
    refine ⟨b, hb, fun hf y hy0 hy1 => ?_⟩
    by_cases e1 : y = x
    ·subst e1; exact ⟨hlen, fun _ => he2 hz⟩
    ·exact h2 hf y (by omega) hy1
   ·rw [if_neg hz]; exact ⟨_, rfl, by simp⟩
  ·rw [if_neg hk2]
   refine ⟨b, hb, fun hf y hy0 hy1 => ?_⟩
   by_cases e1 : y = x
   ·subst e1; exact ⟨hlen, fun h => absurd h hk2⟩
   ·exact h2 hf y (by omega) hy1
theorem great15_ok (l : List Act_) : ∃ b, chapbooklaw15_great.f 300 l = some b ∧ (b = false → l.length ≤ 60 ∧ ∀ y : Int, 0 ≤ y → y < l.length → (rd_T45 l y).f2.f2.length ≤ 20 ∧ ((rd_T45 l y).f0 = 2 → FrOk (rd_T45 l y).f1)) := by
 unfold chapbooklaw15_great.f
 by_cases c : (l.length : Int) > 60
 ·rw [if_pos c]; exact ⟨true, rfl, by simp⟩
 ·rw [if_neg c]
  obtain ⟨b, hb, h2⟩ := great15_loop l (by omega) l.length 300 0 (by omega) (by omega) (by omega) (by omega)
  exact ⟨b, hb, fun hf => ⟨by omega, fun y h0 h1 => h2 hf y h0 h1⟩⟩
theorem sameF_loop (F : List Frm) (hl : F.length ≤ 9223372036854775807) : ∀ (d k : Nat) (x : Int), 0 ≤ x → x ≤ F.length → (F.length : Int) - x = d → d + 1 ≤ k → chapbookref12_SameFrames.l0 k F F x = some true := by
 intro d
 induction d with
 | zero =>
  intro k x h0 h1 hd hk
  obtain ⟨k, rfl⟩ : ∃ m, k = m + 1 := ⟨k - 1, by omega⟩
  simp only [chapbookref12_SameFrames.l0]
  rw [if_neg (by omega)]
 | succ d ih =>
  intro k x h0 h1 hd hk
  obtain ⟨k, rfl⟩ : ∃ m, k = m + 1 := ⟨k - 1, by omega⟩
  simp only [chapbookref12_SameFrames.l0]
  rw [if_pos (by omega), if_pos h0, if_pos (by omega), if_neg (by simp), w64s (n := F.length) h0 (by omega) hl]
  exact ih k (x + 1) (by omega) (by omega) (by omega) (by omega)
theorem sameF_n {w : World} {A B : Option Addr} {c d : Nat} (n : Nat) (F : List Frm) (hn : F.length = n) (h1 : Kd.C k40 w A n F) (h2 : n ≤ c) (h3 : Kd.C k40 w B n F) (h4 : n ≤ d) (hk : n ≤ 100) :
  Calls Tryd.prog 22 #[.slice A n c, .slice B n d] w fun e_ w' => e_ = .returned (.bool true) ∧ Below w.heap.size w w' := by
 subst hn
 refine (chapbookref12_SameFrames.calls 200 _ _ F _ _ F true _ h1 h2 h3 h4 ?_).mono fun e_ w' q => ⟨q.1, q.2.below⟩
 unfold chapbookref12_SameFrames.f
 rw [if_pos rfl]
 exact sameF_loop F (by omega) F.length 200 0 (by omega) (by omega) (by omega) (by omega)
abbrev LinkD (g : Nat) (E Wn Rm W : Int) (All : List ByteArray) (Ak room : Int) (RAll : List ByteArray) : HP := LinkO g E Wn Rm true W 1125899906842624 All.length (nums Ak (All.drop Ak.toNat)) room RAll.length RAll.length
theorem lead_nums : ∀ (l : List ByteArray) (k n : Int), (lead n (nums k l) : Int) = if n ≤ k then 0 else if n - k ≤ l.length then n - k else l.length
 | [], k, n => by simp [lead, nums]; omega
 | b :: l, k, n => by
  have ih := lead_nums l (k + 1) n
  by_cases h : k + 1 ≤ n
  ·have e : lead n (nums k (b :: l)) = lead n (nums (k + 1) l) + 1 := by simp [lead, nums, h]
   rw [e]
   simp only [List.length_cons] at ih ⊢
   push_cast
   rw [ih]
   (repeat' split) <;> omega
  ·have e : lead n (nums k (b :: l)) = 0 := by simp [lead, nums, h]
   rw [e, if_pos (by omega)]
   rfl
theorem nums_drop : ∀ (l : List ByteArray) (k : Int) (j : Nat), (nums k l).drop j = nums (k + j) (l.drop j)
 | l, k, 0 => by simp
 | [], k, j + 1 => by simp [nums]
 | b :: l, k, j + 1 => by
  rw [nums, List.drop_succ_cons, List.drop_succ_cons, nums_drop l (k + 1) j]
  congr 1
  omega
theorem ack_nums {All : List ByteArray} {Ak n : Int} (h0 : 0 ≤ Ak) (h1 : Ak ≤ All.length) : ackX All.length n (nums Ak (All.drop Ak.toNat)) = nums (ackD All Ak n) (All.drop (ackD All Ak n).toNat) := by
 unfold ackX ackD
 by_cases h2 : n > All.length
 ·rw [if_pos h2, if_pos h2]
 rw [if_neg h2, if_neg h2]
 have hl := lead_nums (All.drop Ak.toNat) Ak n
 rw [List.length_drop] at hl
 by_cases h3 : n ≤ Ak
 ·rw [if_pos h3]
  rw [if_pos h3] at hl
  rw [show lead n (nums Ak (All.drop Ak.toNat)) = 0 by omega, List.drop_zero]
 ·rw [if_neg h3]
  rw [if_neg h3, if_pos (by omega)] at hl
  rw [nums_drop, List.drop_drop, show Ak + (lead n (nums Ak (All.drop Ak.toNat)) : Nat) = n by omega, show Ak.toNat + lead n (nums Ak (All.drop Ak.toNat)) = n.toNat by omega]
theorem nums_more {All bs : List ByteArray} {Ak : Int} (h0 : 0 ≤ Ak) (h1 : Ak ≤ All.length) : nums Ak (All.drop Ak.toNat) ++ nums All.length bs = nums Ak ((All ++ bs).drop Ak.toNat) := by
 rw [List.drop_append_of_le_length (by omega), nums_app, List.length_drop]
 congr 2
 omega
theorem ackD_range {All : List ByteArray} {Ak n : Int} (h0 : 0 ≤ Ak) (h1 : Ak ≤ All.length) : Ak ≤ ackD All Ak n ∧ ackD All Ak n ≤ All.length := by unfold ackD; (repeat' split) <;> omega
theorem hear_same {room : Int} {RAll : List ByteArray} {seq : Int} (data : ByteArray) (h : (RAll.length : Int) ≤ room) : hearA room RAll.length RAll.length seq = (hearD room RAll seq data).length ∧ hearN room RAll.length RAll.length seq = (hearD room RAll seq data).length := by
 unfold hearA hearN hearD takes
 by_cases c : (RAll.length : Int) < room ∧ seq = RAll.length + 1
 ·rw [if_pos c, if_pos (by simp; omega)]
  constructor <;> simp
 ·rw [if_neg c, if_neg (by simp; omega)]
  exact ⟨rfl, rfl⟩
theorem hearD_len (room : Int) (RAll : List ByteArray) (seq : Int) (data : ByteArray) : (hearD room RAll seq data).length ≤ RAll.length + 1 := by unfold hearD; split <;> simp
theorem hearD_room {room : Int} {RAll : List ByteArray} (seq : Int) (data : ByteArray) (h : (RAll.length : Int) ≤ room) : ((hearD room RAll seq data).length : Int) ≤ room := by unfold hearD; split <;> (try simp) <;> omega
def hE (E : Int) (f : Frm) : Int := if E < f.f0 then f.f0 else E
def hAll (E : Int) (f : Frm) (All : List ByteArray) : List ByteArray := if E < f.f0 then [] else All
def hAk (E : Int) (f : Frm) (All : List ByteArray) (Ak : Int) : Int := if E < f.f0 then ackD [] 0 f.f2 else if f.f0 < E then Ak else ackD All Ak f.f2
def hR (E : Int) (f : Frm) (room : Int) (RAll : List ByteArray) : List ByteArray := if E < f.f0 then (if f.f1 = 0 then [] else hearD room [] f.f1 f.f3) else if f.f0 < E then RAll else if f.f1 = 0 then RAll else hearD room RAll f.f1 f.f3
section
variable {N : Nat → Prop} {w : World} {g : Nat} {E Wn Rm W : Int} {All : List ByteArray} {Ak room : Int} {RAll : List ByteArray}
theorem LHear_all (f : Frm) (h : Own N w [LinkD g E Wn Rm W All Ak room RAll]) (hf : FrOk f) (hW : mn (mx Wn 1) 16 = W) (hR_ : mn (mx Rm 1) 16 = room) (ha : 0 ≤ Ak ∧ Ak ≤ All.length ∧ All.length ≤ 100000) (hr : (RAll.length : Int) ≤ room ∧ RAll.length ≤ 100000) :
  Calls Tryd.prog 16 #[.pointer (some ⟨g, 0, none⟩), .agg #[.int .i64 f.f0, .int .i64 f.f1, .int .i64 f.f2, .string f.f3]] w fun e_ w' => ∃ r, e_ = .returned (.bool r) ∧ Own N w' [LinkD g (hE E f) Wn Rm W (hAll E f All) (hAk E f All Ak) room (hR E f room RAll)] ∧ KeepS N w w' := by
 have hroom : 1 ≤ room ∧ room ≤ 16 := by rw [← hR_]; unfold mn mx; (repeat' split) <;> omega
 have hx : (nums Ak (All.drop Ak.toNat)).length ≤ 1000000 := by rw [nums_len, List.length_drop]; omega
 unfold FrOk at hf
 unfold hE hAll hAk hR
 by_cases h1 : E < f.f0
 ·rw [if_pos h1, if_pos h1, if_pos h1, if_pos h1]
  have e0 : ackX 0 f.f2 [] = nums (ackD [] 0 f.f2) (([] : List ByteArray).drop (ackD [] 0 f.f2).toNat) := ack_nums (All := []) (Ak := 0) (by omega) (by simp)
  by_cases hq : f.f1 = 0
  ·rw [if_pos hq]
   refine (LHear_anew_ack f.f0 f.f1 f.f2 f.f3 W room h h1 ⟨by omega, hf.2.1⟩ hW hR_ hq).mono fun e_ w' q => ⟨true, q.1, ?_, q.2.2⟩
   have q2 := q.2.1
   rw [e0] at q2
   exact q2
  ·rw [if_neg hq]
   refine (LHear_anew_data f.f0 f.f1 f.f2 f.f3 W room h h1 ⟨by omega, hf.2.1⟩ hW hR_ hq).mono fun e_ w' q => ⟨true, q.1, ?_, q.2.2⟩
   have q2 := q.2.1
   have hs := hear_same (room := room) (RAll := []) (seq := f.f1) f.f3 (by simp; omega)
   rw [e0, show hearA room 0 0 f.f1 = (hearD room [] f.f1 f.f3).length from hs.1, show hearN room 0 0 f.f1 = (hearD room [] f.f1 f.f3).length from hs.2] at q2
   exact q2
 rw [if_neg h1, if_neg h1, if_neg h1, if_neg h1]
 by_cases h2 : f.f0 < E
 ·rw [if_pos h2, if_pos h2]
  exact (LHear_old f.f0 f.f1 f.f2 f.f3 h h2).mono fun e_ w' q => ⟨false, q⟩
 rw [if_neg h2, if_neg h2]
 by_cases hq : f.f1 = 0
 ·rw [if_pos hq]
  refine (LHear_ack f.f0 f.f1 f.f2 f.f3 h (by omega) hx hq).mono fun e_ w' q => ⟨false, q.1, ?_, q.2.2⟩
  have q2 := q.2.1
  rw [ack_nums ha.1 ha.2.1] at q2
  exact q2
 ·rw [if_neg hq]
  refine (LHear_data f.f0 f.f1 f.f2 f.f3 h (by omega) hx hq ⟨by omega, by omega⟩ ⟨by omega, hr.1, hroom.2⟩).mono fun e_ w' q => ⟨false, q.1, ?_, q.2.2⟩
  have q2 := q.2.1
  have hs := hear_same (seq := f.f1) f.f3 hr.1
  rw [ack_nums ha.1 ha.2.1, hs.1, hs.2] at q2
  exact q2
theorem DHear_all (f : Frm) (h : Own N w [DLnk g E Wn Rm true W All Ak room RAll]) (hf : FrOk f) (hW : mn (mx Wn 1) 16 = W) (hR_ : mn (mx Rm 1) 16 = room) (ha : 0 ≤ Ak ∧ Ak ≤ All.length ∧ All.length ≤ 100000) (hr : (RAll.length : Int) ≤ room ∧ RAll.length ≤ 100000) :
  Calls Tryd.prog 17 #[.pointer (some ⟨g, 0, none⟩), .agg #[.int .i64 f.f0, .int .i64 f.f1, .int .i64 f.f2, .string f.f3]] w fun e_ w' => ∃ r, e_ = .returned (.bool r) ∧ Own N w' [DLnk g (hE E f) Wn Rm true W (hAll E f All) (hAk E f All Ak) room (hR E f room RAll)] ∧ KeepS N w w' := by
 unfold FrOk at hf
 unfold hE hAll hAk hR
 by_cases h1 : E < f.f0
 ·rw [if_pos h1, if_pos h1, if_pos h1, if_pos h1]
  by_cases hq : f.f1 = 0
  ·rw [if_pos hq]
   exact (DHearL_anew_ack f.f0 f.f1 f.f2 f.f3 W room h h1 ⟨by omega, hf.2.1⟩ hW hR_ hq).mono fun e_ w' q => ⟨true, q⟩
  ·rw [if_neg hq]
   exact (DHearL_anew_data f.f0 f.f1 f.f2 f.f3 W room h h1 ⟨by omega, hf.2.1⟩ hW hR_ ⟨by omega, by omega⟩).mono fun e_ w' q => ⟨true, q⟩
 rw [if_neg h1, if_neg h1, if_neg h1, if_neg h1]
 by_cases h2 : f.f0 < E
 ·rw [if_pos h2, if_pos h2]
  exact (DHearL_old f.f0 f.f1 f.f2 f.f3 h h2).mono fun e_ w' q => ⟨false, q⟩
 rw [if_neg h2, if_neg h2]
 by_cases hq : f.f1 = 0
 ·rw [if_pos hq]
  exact (DHearL_ack f.f0 f.f1 f.f2 f.f3 h (by omega) ⟨ha.1, by omega⟩ (by omega) hq).mono fun e_ w' q => ⟨false, q⟩
 ·rw [if_neg hq]
  exact (DHearL_data f.f0 f.f1 f.f2 f.f3 h (by omega) ⟨ha.1, by omega⟩ (by omega) ⟨by omega, by omega⟩).mono fun e_ w' q => ⟨false, q⟩
end
end Go.Proofs.YtjmoncfgoaaekaaDoor.J
namespace Go.Proofs.YtjmoncfgoaaekaaDoor.J
set_option linter.unusedSimpArgs false
set_option linter.unusedVariables false
open Go Go.RowKit Go.Proofs.YtjmoncfgoaaekaaDoorW.PrintWords Go.Proofs.YtjmoncfgoaaekaaDoorW.PrintLast Go.Proofs.YtjmoncfgoaaekaaDoorW.PrintMore Go.Proofs.YtjmoncfgoaaekaaDoor.Q Go.Proofs.YtjmoncfgoaaekaaDoor.Sep Go.Proofs.YtjmoncfgoaaekaaDoor.Pure
attribute [local go_sem] max2_int min2_int max_two min_two max_three min_three max_four min_four
theorem blk8_ {w : World} {g : Nat} {t : TypeId} {v0 v1 v2 v3 v4 v5 v6 v7 : Value} (h : w.heap[g]? = some (.cells #[v0, v1, v2, v3, v4, v5, v6, v7] t (0, 0))) : w.cell? ⟨g, 0, none⟩ = some v0 ∧ w.cell? ⟨g, 1, none⟩ = some v1 ∧ w.cell? ⟨g, 2, none⟩ = some v2 ∧ w.cell? ⟨g, 3, none⟩ = some v3 ∧ w.cell? ⟨g, 4, none⟩ = some v4 ∧ w.cell? ⟨g, 5, none⟩ = some v5 ∧ w.cell? ⟨g, 6, none⟩ = some v6 ∧ w.cell? ⟨g, 7, none⟩ = some v7 ∧ ∀ i, w.frozen? ⟨g, i, none⟩ = false := ⟨(blk_cell h 0).trans rfl, (blk_cell h 1).trans rfl, (blk_cell h 2).trans rfl, (blk_cell h 3).trans rfl, (blk_cell h 4).trans rfl, (blk_cell h 5).trans rfl, (blk_cell h 6).trans rfl, (blk_cell h 7).trans rfl, fun i => blk_frozen h i⟩
def chapbooklaw15_FeedPlays.f (a0_0 a0_1 : Int) (l1 : List Act_) : Option Bool := some true
theorem FPump_e {N : Nat → Prop} {w : World} {gf gl gk : Nat} {C : Int} {L : List Rnd} {E Wn Rm : Int} {Pv : Bool} {W La S : Int} {xs : List Piece} {room acked n a : Int} (m a' S' : Int) (X' : List Piece) (ha' : a + m = a') (hS' : S + m = S') (hX' : xs ++ pcs S (seg L a m) = X') (h : Own N w [cells gf #[.int .i64 a] 78, ObjC gl C L, LinkO gk E Wn Rm Pv W La S xs room acked n]) (ht : TabN N w) (hL : L.length ≤ 1000000) (hg : Good C L) (ha : 0 ≤ a ∧ a ≤ (L.length : Int)) (hs : 0 ≤ S ∧ S < 1000000 ∧ La = 1125899906842624) (hw : (xs.length : Int) ≤ W ∧ W ≤ 16) (hm : Pumps L W xs a m) :
  Calls Tryd.prog 14 #[.pointer (some ⟨gf, 0, none⟩), .pointer (some ⟨gl, 0, none⟩), .pointer (some ⟨gk, 0, none⟩)] w fun e_ w' => e_ = .returned (.int .i64 m) ∧ Own N w' [cells gf #[.int .i64 a'] 78, ObjC gl C L, LinkO gk E Wn Rm Pv W La S' X' room acked n] ∧ KeepS N w w' := by
 subst ha'
 subst hS'
 subst hX'
 exact FPump m h ht hL hg ha hs hw hm
theorem LFrames_n {N : Nat → Prop} {w : World} {g : Nat} {E Wn Rm : Int} {Pv : Bool} {W La S : Int} {xs : List Piece} {room acked n : Int} (k : Nat) (F : List Frm) (hk : F.length = k) (hF : frs E acked xs = F) (h : Own N w [LinkO g E Wn Rm Pv W La S xs room acked n]) (hE : E ≠ 0) (hl : xs.length ≤ 16) :
  Calls Tryd.prog 23 #[.pointer (some ⟨g, 0, none⟩)] w fun e_ w' => ∃ A1 c1, e_ = .returned (.slice A1 k c1) ∧ Own N w' [LinkO g E Wn Rm Pv W La S xs room acked n, nrow k40 40 (.slice A1 k c1) F] ∧ KeepS N w w' := by
 subst hk
 subst hF
 exact LFrames h hE hl
theorem DFrames_n {N : Nat → Prop} {w : World} {g : Nat} {E Wn Rm : Int} {Pv : Bool} {W : Int} {All : List ByteArray} {Ak room : Int} {RAll : List ByteArray} (k : Nat) (F : List Frm) (hk : F.length = k) (hF : frs E RAll.length (nums Ak (All.drop Ak.toNat)) = F) (h : Own N w [DLnk g E Wn Rm Pv W All Ak room RAll]) (hE : E ≠ 0) (hb : 0 ≤ Ak ∧ Ak ≤ All.length ∧ All.length ≤ 1000000) (hl : (All.length : Int) - Ak ≤ 16) :
  Calls Tryd.prog 24 #[.pointer (some ⟨g, 0, none⟩)] w fun e_ w' => ∃ A1 c1, e_ = .returned (.slice A1 k c1) ∧ Own N w' [DLnk g E Wn Rm Pv W All Ak room RAll, nrow k40 40 (.slice A1 k c1) F] ∧ KeepS N w w' := by
 subst hk
 subst hF
 exact DFrames h hE hb hl
theorem frs_max (E ack : Int) (X : List Piece) : (frs E ack X).length ≤ X.length + 1 := by
 unfold frs
 split
 ·simp
 ·rw [List.length_map]; omega
theorem DPump_e {N : Nat → Prop} {w : World} {gg gm gk : Nat} {C : Int} {L : List Rnd} {E Wn Rm : Int} {Pv : Bool} {W : Int} {All : List ByteArray} {Ak room : Int} {RAll : List ByteArray} {a : Int} (m a' : Int) (All' : List ByteArray) (ha' : a + m = a') (hA : All ++ (seg L a m).map bR = All') (h : Own N w [cells gg #[.int .i64 a] 36, ObjM gm C L, DLnk gk E Wn Rm Pv W All Ak room RAll]) (hL : L.length ≤ 1000000) (hg : Good C L) (ha : 0 ≤ a ∧ a ≤ (L.length : Int)) (hb : 0 ≤ Ak ∧ Ak ≤ All.length ∧ All.length ≤ 900000 ∧ (All.length : Int) - Ak ≤ W ∧ W ≤ 16) (hm : PumpN L W ((All.length : Int) - Ak) a m) :
  Calls Tryd.prog 15 #[.pointer (some ⟨gg, 0, none⟩), .pointer (some ⟨gm, 0, none⟩), .pointer (some ⟨gk, 0, none⟩)] w fun e_ w' => e_ = .returned (.int .i64 m) ∧ Own N w' [cells gg #[.int .i64 a'] 36, ObjM gm C L, DLnk gk E Wn Rm Pv W All' Ak room RAll] ∧ KeepS N w w' := by
 subst ha'
 subst hA
 exact DPump m h hL hg ha hb hm
theorem Add_a {N : Nat → Prop} {w : World} {g : Nat} {C : Int} {L : List Rnd} (B : Option Addr) (c : Nat) (r : Rnd) (h : Own N w [ObjC g C L]) (hr : Kd.F k114 w N B r.f2.length r.f2) (hc : r.f2.length ≤ c) (hL : L.length ≤ 1000000) (hu : r.f2.length ≤ 1000000) (hg : Good C L) :
  Calls Tryd.prog 19 #[.pointer (some ⟨g, 0, none⟩), .agg #[.int .i64 r.f0, .int .i64 r.f1, .slice B r.f2.length c]] w fun e_ w' => ∃ E, e_ = .returned (.int .i64 E) ∧ Own N w' [ObjC g C (addL C L r)] ∧ KeepS N w w' := by
 by_cases he : addE C L r = 0
 ·rw [addE_pos he]
  exact (Add_y B c r.f0 r.f1 r.f2 h hr hc hL hu hg he).mono fun e_ w' ⟨a, b⟩ => ⟨0, a, b⟩
 ·rw [addE_neg he]
  exact (Add_n B c r.f0 r.f1 r.f2 h hr hc hL hu hg _ rfl he).mono fun e_ w' ⟨a, b⟩ => ⟨_, a, b⟩
theorem RAdd_a {N : Nat → Prop} {w : World} {g : Nat} {C : Int} {L : List Rnd} (B : Option Addr) (c : Nat) (r : Rnd) (h : Own N w [ObjM g C L]) (hr : Kd.F k114 w N B r.f2.length r.f2) (hc : r.f2.length ≤ c) (hL : L.length ≤ 1000000) (hu : r.f2.length ≤ 1000000) (hg : Good C L) :
  Calls Tryd.prog 20 #[.pointer (some ⟨g, 0, none⟩), .agg #[.int .i64 r.f0, .int .i64 r.f1, .slice B r.f2.length c]] w fun e_ w' => ∃ E, e_ = .returned (.int .i64 E) ∧ Own N w' [ObjM g C (addL C L r)] ∧ KeepS N w w' := by
 by_cases he : addE C L r = 0
 ·rw [addE_pos he]
  exact (RAdd_y B c r.f0 r.f1 r.f2 h hr hc hL hu hg he).mono fun e_ w' ⟨A2, c2, a, _, b, k⟩ => ⟨0, a, (ObjG.shut (f := fun v => #[.int .i64 C, v]) (i := 0) (j := 1) b rfl rfl (by decide)).take 1, k⟩
 ·rw [addE_neg he]
  exact (RAdd_n B c r.f0 r.f1 r.f2 h hr hc hL hu hg _ rfl he).mono fun e_ w' ⟨A2, c2, a, _, b, k⟩ => ⟨_, a, (ObjG.shut (f := fun v => #[.int .i64 C, v]) (i := 0) (j := 1) b rfl rfl (by decide)).take 1, k⟩
theorem addL_is (C : Int) (L : List Rnd) (r : Rnd) (hg : Good C L) : L.length ≤ (addL C L r).length ∧ (addL C L r).length ≤ L.length + 1 ∧ Good C (addL C L r) := by
 by_cases he : addE C L r = 0
 ·rw [addE_pos he]
  exact ⟨by simp, by simp, good_snoc hg he⟩
 ·rw [addE_neg he]
  exact ⟨Nat.le_refl _, Nat.le_succ _, hg⟩
def FpS (W room : Int) (x E : Int) (L : List Rnd) (All : List ByteArray) (Ak : Int) (RA : List ByteArray) (a : Int) : Prop := ((L.length : Int) ≤ x ∧ Good 3 L) ∧ (1 ≤ E ∧ E ≤ 1099511627776) ∧ (0 ≤ Ak ∧ Ak ≤ All.length ∧ (All.length : Int) - Ak ≤ W ∧ (All.length : Int) ≤ 16 * x) ∧ ((RA.length : Int) ≤ x ∧ (RA.length : Int) ≤ room) ∧ (0 ≤ a ∧ a ≤ (L.length : Int))
theorem FpS.next {W room x x' E : Int} {L : List Rnd} {All : List ByteArray} {Ak : Int} {RA : List ByteArray} {a : Int} (h : FpS W room x E L All Ak RA a) (hx : x ≤ x') : FpS W room x' E L All Ak RA a := ⟨⟨by have := h.1.1; omega, h.1.2⟩, h.2.1, ⟨h.2.2.1.1, h.2.2.1.2.1, h.2.2.1.2.2.1, by have := h.2.2.1.2.2.2; omega⟩, ⟨by have := h.2.2.2.1.1; omega, h.2.2.2.1.2⟩, h.2.2.2.2⟩
theorem FpS.hear {W room x E : Int} {L : List Rnd} {All : List ByteArray} {Ak : Int} {RA : List ByteArray} {a : Int} (h : FpS W room x E L All Ak RA a) (hx : 0 ≤ x) (hW : 1 ≤ W) (hr : 1 ≤ room) (f : Frm) (hf : FrOk f) : FpS W room (x + 1) (hE E f) L (hAll E f All) (hAk E f All Ak) (hR E f room RA) a := by
 obtain ⟨⟨h1, h2⟩, h3, h4, h5, h6⟩ := h
 unfold FrOk at hf
 refine ⟨⟨by omega, h2⟩, by unfold hE; split <;> omega, ?_, ?_, h6⟩
 ·unfold hAk hAll
  have r1 := ackD_range (All := All) (Ak := Ak) (n := f.f2) h4.1 h4.2.1
  have r2 := ackD_range (All := []) (Ak := 0) (n := f.f2) (by omega) (by simp)
  simp only [List.length_nil] at r2
  split
  ·simp only [List.length_nil]; omega
  ·split <;> omega
 ·unfold hR
  have r1 := hearD_len room RA f.f1 f.f3
  have r2 := hearD_len room [] f.f1 f.f3
  have r3 := hearD_room (room := room) (RAll := RA) f.f1 f.f3 h5.2
  have r4 := hearD_room (room := room) (RAll := []) f.f1 f.f3 (by simp; omega)
  simp only [List.length_nil] at r2
  split
  ·split
   ·simp only [List.length_nil]; omega
   ·omega
  ·split
   ·omega
   ·split <;> omega
theorem FpS.pump {W room x E : Int} {L : List Rnd} {All : List ByteArray} {Ak : Int} {RA : List ByteArray} {a m : Int} (h : FpS W room x E L All Ak RA a) (hx : 0 ≤ x) (hW : W ≤ 16) (hm : PumpN L W ((All.length : Int) - Ak) a m) : FpS W room (x + 1) E L (All ++ (seg L a m).map bR) Ak RA (a + m) := by
 obtain ⟨⟨h1, h2⟩, h3, h4, h5, h6⟩ := h
 unfold PumpN at hm
 have hl := seg_len (L := L) (a := a) (m := m) h6.1 hm.1 hm.2.1
 refine ⟨⟨by omega, h2⟩, h3, ?_, by omega, by omega⟩
 rw [List.length_append, List.length_map]
 omega
def FpI (N : Nat → Prop) (w : World) (n gx gl gk gf gm gn gg : Nat) (a0_0 a0_1 W room : Int) (vi : Value) (wr : World) : Prop := ∃ (x E : Int) (L : List Rnd) (All : List ByteArray) (Ak : Int) (RA : List ByteArray) (a : Int), 0 ≤ x ∧ x ≤ (n : Int) ∧ vi = .int .i64 x ∧ Aside0 (FpS W room x E L All Ak RA a) ∧ Aside0 (Own N wr [cells gx #[.int .i64 a0_0, .int .i64 a0_1] 22, ObjC gl 3 L, LinkD gk E a0_0 a0_1 W All Ak room RA, cells gf #[.int .i64 a] 78, ObjM gm 3 L, DLnk gn E a0_0 a0_1 true W All Ak room RA, cells gg #[.int .i64 a] 36]) ∧ Aside0 (KeepS N w wr)
set_option maxHeartbeats 16000000 in
set_option maxRecDepth 100000 in
theorem chapbooklaw15_FeedPlays.calls (a0_0 : Int) (a0_1 : Int) (A1 : Option Addr) (c1 : Nat) (l1 : List Act_) (r : Bool) (w : World) (HT : Aside0 (Tab w)) (hr1 : Kd.C k45 w A1 l1.length l1) (hc1 : l1.length ≤ c1) (h : chapbooklaw15_FeedPlays.f a0_0 a0_1 l1 = some r) :
  Calls Tryd.prog 3 #[.agg #[.int .i64 a0_0, .int .i64 a0_1], .slice A1 l1.length c1] w fun e_ w' => e_ = .returned (.bool r) ∧ Below w.heap.size w w' := by
 obtain rfl : true = r := Option.some.inj h
 obtain ⟨A0, eA_⟩ : ∃ A0, A0 = A1 := ⟨_, rfl⟩
 subst eA_
 obtain ⟨c0, ec_⟩ : ∃ c0, c0 = c1 := ⟨_, rfl⟩
 subst ec_
 obtain ⟨l0, el_⟩ : ∃ l0, l0 = l1 := ⟨_, rfl⟩
 subst el_
 have hr0 := hr1
 have hc0 := hc1
 clear hr1 hc1
 obtain ⟨N, hN⟩ : ∃ N : Nat → Prop, N = fun k => k < w.heap.size := ⟨_, rfl⟩
 have HN := Aside0.mk hN
 have HT_0 : Aside0 (TabN N w) := ⟨by rw [hN]; exact World.block_lt_of_cell? w _ HT.out.1, HT.out⟩
 have HR0 := Aside0.mk hr0
 have HC0 := Aside0.mk hc0
 have HRF : Aside0 (∀ {A : Option Addr} {n : Nat} {xs : List Upd}, Kd.C k114 w A n xs → Kd.F k114 w N A n xs) := ⟨fun h_ => by rw [hN]; exact Kd.C_F heapU h_⟩
 have O0 : Aside0 (Own N w []) := ⟨Own.start_ (fun k hk => by rw [hN] at hk; exact hk)⟩
 have K0 : Aside0 (KeepS N w w) := ⟨KeepS.refl _ _⟩
 have HT00 := HT_0
 clear hN HT hr0 hc0
 obtain ⟨b, hgr, hgb⟩ := great15_ok l0
 have HGR := Aside0.mk hgr
 have HGB := Aside0.mk hgb
 clear hgr hgb h
 obtain ⟨W, hW⟩ : ∃ W, W = mn (mx a0_0 1) 16 := ⟨_, rfl⟩
 have HW : Aside0 (mn (mx a0_0 1) 16 = W ∧ 1 ≤ W ∧ W ≤ 16) := ⟨hW.symm, by rw [hW]; unfold mn mx; (repeat' split) <;> omega⟩
 clear hW
 obtain ⟨room, hW⟩ : ∃ W, W = mn (mx a0_1 1) 16 := ⟨_, rfl⟩
 have HRM : Aside0 (mn (mx a0_1 1) 16 = room ∧ 1 ≤ room ∧ room ≤ 16) := ⟨hW.symm, by rw [hW]; unfold mn mx; (repeat' split) <;> omega⟩
 clear hW
 go_enter Tryd.func3, Tryd.ntmps3
 go_wp2_with (first | ((with_reducible refine gate_dst (N := 2) rfl ?_); refine bP 2 #[.int .i64 a0_0, .int .i64 a0_1] 22 O0.out ?_; intro gx w1 o_ k_; have O1 : Aside0 (Own N w1 [cells gx #[.int .i64 a0_0, .int .i64 a0_1] 22]) := ⟨o_⟩; have K1 := Aside0.mk (K0.out.trans k_); have HT_1 := Aside0.mk (TabN.keep HT_0.out k_); clear O0 K0 HT_0; obtain ⟨a0a, a0b, b0⟩ := blk2_ (O1.out.blk (i := 0) rfl); clear o_ k_))
 refine sP (n := 10) (S := fun w' => w'.cell? ⟨gx, 0, none⟩ = some (.int .i64 a0_0) ∧ w'.cell? ⟨gx, 1, none⟩ = some (.int .i64 a0_1)) (ds := []) ⟨a0a, a0b⟩ (fun hHeld => ?_)
 obtain ⟨w2, hw_⟩ : ∃ W, W = w1.drew := ⟨_, rfl⟩
 have o_ := O1.out.drew
 have k_ : KeepS N w1 w1.drew := KeepS.drew
 rw [← hw_] at o_ k_ hHeld ⊢
 clear hw_
 have O2 := Aside0.mk o_
 have K2 := Aside0.mk (K1.out.trans k_)
 have HT_2 := Aside0.mk (TabN.keep HT_1.out k_)
 clear a0a a0b b0 O1 K1 HT_1
 obtain ⟨a0a, a0b, b0⟩ := blk2_ (O2.out.blk (i := 0) rfl)
 clear o_ k_
 refine pP 1 (some 14) ?_
 refine pP 3 (some 16) ?_
 refine tP 2 (some 15) hHeld ?_
 refine tP 4 (some 17) hHeld ?_
 refine oP 0 (some 13) (fun K_ hK_ => ?_)
 refine hP Tryd.func7 #[.int .i64 3] ?_
 obtain ⟨N_, on_, nn_, rr_, bb_⟩ := O2.out.frame0
 refine (New_n 3 3 (by decide) on_).mono ?_
 rintro e_ w3 ⟨gl, rfl, oo_, kk_⟩
 obtain ⟨o_, k_⟩ := bb_ _ _ kk_ oo_
 refine ⟨_, rfl, ?_⟩
 have O3 : Aside0 (Own N w3 [cells gx #[.int .i64 a0_0, .int .i64 a0_1] 22, ObjC gl 3 []]) := ⟨o_⟩
 have K3 := Aside0.mk (K2.out.trans k_)
 have HT_3 := Aside0.mk (TabN.keep HT_2.out k_)
 clear a0a a0b b0 O2 K2 HT_2
 obtain ⟨a0a, a0b, b0⟩ := blk2_ (O3.out.blk (i := 0) rfl)
 clear o_ k_ oo_ kk_ on_ nn_ rr_ bb_
 clear hHeld
 refine hK_.out _ _ ⟨a0a, a0b⟩ (fun hHeld => ?_)
 clear hK_ K_
 refine nP ?_
 refine oP 5 (some 18) (fun K_ hK_ => ?_)
 refine hP Tryd.func8 #[.int .i64 1, .int .i64 a0_0, .int .i64 a0_1, .bool true] ?_
 obtain ⟨N_, on_, nn_, rr_, bb_⟩ := O3.out.frame0
 refine (LNew 1 a0_0 a0_1 true 1 W room (by decide) HW.out.1 HRM.out.1 on_).mono ?_
 rintro e_ w4 ⟨gk, rfl, oo_, kk_⟩
 obtain ⟨o_, k_⟩ := bb_ _ _ kk_ oo_
 refine ⟨_, rfl, ?_⟩
 have O4 : Aside0 (Own N w4 [cells gx #[.int .i64 a0_0, .int .i64 a0_1] 22, ObjC gl 3 [], LinkD gk 1 a0_0 a0_1 W [] 0 room []]) := ⟨o_⟩
 have K4 := Aside0.mk (K3.out.trans k_)
 have HT_4 := Aside0.mk (TabN.keep HT_3.out k_)
 clear a0a a0b b0 O3 K3 HT_3
 obtain ⟨a0a, a0b, b0⟩ := blk2_ (O4.out.blk (i := 0) rfl)
 clear o_ k_ oo_ kk_ on_ nn_ rr_ bb_
 clear hHeld
 refine hK_.out _ _ ⟨a0a, a0b⟩ (fun hHeld => ?_)
 clear hK_ K_
 refine nP ?_
 refine oP 6 (some 19) (fun K_ hK_ => ?_)
 refine hP Tryd.func9 #[] ?_
 obtain ⟨N_, on_, nn_, rr_, bb_⟩ := O4.out.frame0
 refine (FNew on_).mono ?_
 rintro e_ w5 ⟨gf, rfl, oo_, kk_⟩
 obtain ⟨o_, k_⟩ := bb_ _ _ kk_ oo_
 refine ⟨_, rfl, ?_⟩
 have O5 : Aside0 (Own N w5 [cells gx #[.int .i64 a0_0, .int .i64 a0_1] 22, ObjC gl 3 [], LinkD gk 1 a0_0 a0_1 W [] 0 room [], cells gf #[.int .i64 0] 78]) := ⟨o_⟩
 have K5 := Aside0.mk (K4.out.trans k_)
 have HT_5 := Aside0.mk (TabN.keep HT_4.out k_)
 clear a0a a0b b0 O4 K4 HT_4
 obtain ⟨a0a, a0b, b0⟩ := blk2_ (O5.out.blk (i := 0) rfl)
 clear o_ k_ oo_ kk_ on_ nn_ rr_ bb_
 clear hHeld
 refine hK_.out _ _ ⟨a0a, a0b⟩ (fun hHeld => ?_)
 clear hK_ K_
 refine nP ?_
 refine pP 7 (some 5) ?_
 refine pP 8 (some 6) ?_
 refine pP 9 (some 7) ?_
 refine done_ (by kernel_rfl) ?_
 clear hHeld
 go_wp2
 refine sP (n := 11) (S := fun w' => w'.cell? ⟨gx, 0, none⟩ = some (.int .i64 a0_0) ∧ w'.cell? ⟨gx, 1, none⟩ = some (.int .i64 a0_1)) (ds := []) ⟨a0a, a0b⟩ (fun hHeld => ?_)
 obtain ⟨w6, hw_⟩ : ∃ W, W = w5.drew := ⟨_, rfl⟩
 have o_ := O5.out.drew
 have k_ : KeepS N w5 w5.drew := KeepS.drew
 rw [← hw_] at o_ k_ hHeld ⊢
 clear hw_
 have O6 := Aside0.mk o_
 have K6 := Aside0.mk (K5.out.trans k_)
 have HT_6 := Aside0.mk (TabN.keep HT_5.out k_)
 clear a0a a0b b0 O5 K5 HT_5
 obtain ⟨a0a, a0b, b0⟩ := blk2_ (O6.out.blk (i := 0) rfl)
 clear o_ k_
 refine pP 1 (some 21) ?_
 refine pP 3 (some 23) ?_
 refine pP 6 (some 26) ?_
 refine tP 2 (some 22) hHeld ?_
 refine tP 4 (some 24) hHeld ?_
 refine join_ (σ := Nat × Nat × Nat) 0 #[true, true, true, true, true, true, true, true, true, true, true] (fun ⟨gm, gn, gg⟩ => [(20, .pointer (some ⟨gm, 0, none⟩)), (25, .pointer (some ⟨gn, 0, none⟩)), (27, .pointer (some ⟨gg, 0, none⟩)), (8, .pointer (some ⟨gm, 0, none⟩)), (9, .pointer (some ⟨gn, 0, none⟩)), (10, .pointer (some ⟨gg, 0, none⟩))]) (fun ⟨gm, gn, gg⟩ w' => Own N w' [cells gx #[.int .i64 a0_0, .int .i64 a0_1] 22, ObjC gl 3 [], LinkD gk 1 a0_0 a0_1 W [] 0 room [], cells gf #[.int .i64 0] 78, ObjM gm 3 [], DLnk gn 1 a0_0 a0_1 true W [] 0 room [], cells gg #[.int .i64 0] 36] ∧ KeepS N w6 w') ?hcont ?hways
 case hways =>
  intro hc_
  have K7 : Aside0 (KeepS N w6 w6) := ⟨KeepS.refl _ _⟩
  have O7 : Aside0 (Own N w6 [cells gx #[.int .i64 a0_0, .int .i64 a0_1] 22, ObjC gl 3 [], LinkD gk 1 a0_0 a0_1 W [] 0 room [], cells gf #[.int .i64 0] 78]) := O6
  refine two_ (i := 0) (j := 7) (Ni := some 20) (Nj := some 27) #[true, true, true, true, true, false, true, false, false, false, false] #[false, true, true, true, true, false, true, true, false, false, false] rfl rfl rfl rfl (by kernel_rfl) (by decide) (by decide) (fun K_ hK_ => ?_) (fun K_ hK_ => ?_)
  ·skip
   refine hP Tryd.func10 #[.int .i64 3] ?_
   obtain ⟨N_, on_, nn_, rr_, bb_⟩ := O7.out.frame0
   refine (RNew 3 3 (by decide) on_).mono ?_
   rintro e_ w8 ⟨gm, rfl, oo_, kk_⟩
   obtain ⟨o_, k_⟩ := bb_ _ _ kk_ oo_
   refine ⟨_, rfl, ?_⟩
   have O8 : Aside0 (Own N w8 [cells gx #[.int .i64 a0_0, .int .i64 a0_1] 22, ObjC gl 3 [], LinkD gk 1 a0_0 a0_1 W [] 0 room [], cells gf #[.int .i64 0] 78, ObjM gm 3 []]) := ⟨o_⟩
   have K8 := Aside0.mk (K7.out.trans k_)
   have HT_8 := Aside0.mk (TabN.keep HT_6.out k_)
   clear a0a a0b b0 O7 K7 HT_6
   obtain ⟨a0a, a0b, b0⟩ := blk2_ (O8.out.blk (i := 0) rfl)
   clear o_ k_ oo_ kk_ on_ nn_ rr_ bb_
   clear hHeld
   refine hK_.out _ _ ⟨a0a, a0b⟩ (fun hHeld => ?_)
   clear hK_ K_
   refine norm_ (a' := ?_) ?_ ?_
   rotate_left
   ·simp only [Act.put, List.setIfInBounds_toArray, List.set_cons_zero, List.set_cons_succ, i64_w, i32_w]
    rfl
   refine two_ (i := 5) (j := 7) (Ni := some 25) (Nj := some 27) #[true, true, true, true, true, true, true, false, false, false, false] #[true, true, true, true, true, false, true, true, false, false, false] rfl rfl rfl rfl (by kernel_rfl) (by decide) (by decide) (fun K_ hK_ => ?_) (fun K_ hK_ => ?_)
   ·skip
    refine hP Tryd.func11 #[.int .i64 1, .int .i64 a0_0, .int .i64 a0_1, .bool true] ?_
    obtain ⟨N_, on_, nn_, rr_, bb_⟩ := O8.out.frame0
    refine (DLNew a0_0 a0_1 true W room HW.out.1 HRM.out.1 on_).mono ?_
    rintro e_ w9 ⟨gn, rfl, oo_, kk_⟩
    obtain ⟨o_, k_⟩ := bb_ _ _ kk_ oo_
    refine ⟨_, rfl, ?_⟩
    have O9 : Aside0 (Own N w9 [cells gx #[.int .i64 a0_0, .int .i64 a0_1] 22, ObjC gl 3 [], LinkD gk 1 a0_0 a0_1 W [] 0 room [], cells gf #[.int .i64 0] 78, ObjM gm 3 [], DLnk gn 1 a0_0 a0_1 true W [] 0 room []]) := ⟨o_⟩
    have K9 := Aside0.mk (K8.out.trans k_)
    have HT_9 := Aside0.mk (TabN.keep HT_8.out k_)
    clear a0a a0b b0 O8 K8 HT_8
    obtain ⟨a0a, a0b, b0⟩ := blk2_ (O9.out.blk (i := 0) rfl)
    clear o_ k_ oo_ kk_ on_ nn_ rr_ bb_
    clear hHeld
    refine hK_.out _ _ ⟨a0a, a0b⟩ (fun hHeld => ?_)
    clear hK_ K_
    refine norm_ (a' := ?_) ?_ ?_
    rotate_left
    ·simp only [Act.put, List.setIfInBounds_toArray, List.set_cons_zero, List.set_cons_succ, i64_w, i32_w]
     rfl
    refine pP 8 (some 8) ?_
    refine pP 9 (some 9) ?_
    refine one_ (i := 7) (N := some 27) #[true, true, true, true, true, true, true, true, true, true, false] rfl rfl (by kernel_rfl) (by decide) (fun K_ hK_ => ?_)
    refine cP #[.int .i64 0] 36 O9.out ?_
    intro gg w10 o_ k_
    have O10 : Aside0 (Own N w10 [cells gx #[.int .i64 a0_0, .int .i64 a0_1] 22, ObjC gl 3 [], LinkD gk 1 a0_0 a0_1 W [] 0 room [], cells gf #[.int .i64 0] 78, ObjM gm 3 [], DLnk gn 1 a0_0 a0_1 true W [] 0 room [], cells gg #[.int .i64 0] 36]) := ⟨o_⟩
    have K10 := Aside0.mk (K9.out.trans k_)
    have HT_10 := Aside0.mk (TabN.keep HT_9.out k_)
    clear a0a a0b b0 O9 K9 HT_9
    obtain ⟨a0a, a0b, b0⟩ := blk2_ (O10.out.blk (i := 0) rfl)
    obtain ⟨a6a, b6⟩ := blk1_ (O10.out.blk (i := 6) rfl)
    clear o_ k_
    clear hHeld
    refine hK_.out _ _ ⟨a0a, a0b⟩ (fun hHeld => ?_)
    clear hK_ K_
    refine norm_ (a' := ?_) ?_ ?_
    rotate_left
    ·simp only [Act.put, List.setIfInBounds_toArray, List.set_cons_zero, List.set_cons_succ, i64_w, i32_w]
     rfl
    refine pP 10 (some 10) ?_
    refine norm_ (a' := _) ?_ (hc_ ⟨gm, gn, gg⟩ _ ⟨?_, K10.out⟩)
    ·simp only [putAll, Act.put, List.setIfInBounds_toArray, List.set_cons_zero, List.set_cons_succ]
     try rfl
    ·exact O10.out.pickL [0, 1, 2, 3, 4, 5, 6] (by decide) (by simp)
   ·skip
    refine cP #[.int .i64 0] 36 O8.out ?_
    intro gg w9 o_ k_
    have O9 : Aside0 (Own N w9 [cells gx #[.int .i64 a0_0, .int .i64 a0_1] 22, ObjC gl 3 [], LinkD gk 1 a0_0 a0_1 W [] 0 room [], cells gf #[.int .i64 0] 78, ObjM gm 3 [], cells gg #[.int .i64 0] 36]) := ⟨o_⟩
    have K9 := Aside0.mk (K8.out.trans k_)
    have HT_9 := Aside0.mk (TabN.keep HT_8.out k_)
    clear a0a a0b b0 O8 K8 HT_8
    obtain ⟨a0a, a0b, b0⟩ := blk2_ (O9.out.blk (i := 0) rfl)
    obtain ⟨a5a, b5⟩ := blk1_ (O9.out.blk (i := 5) rfl)
    clear o_ k_
    clear hHeld
    refine hK_.out _ _ ⟨a0a, a0b⟩ (fun hHeld => ?_)
    clear hK_ K_
    refine norm_ (a' := ?_) ?_ ?_
    rotate_left
    ·simp only [Act.put, List.setIfInBounds_toArray, List.set_cons_zero, List.set_cons_succ, i64_w, i32_w]
     rfl
    refine one_ (i := 5) (N := some 25) #[true, true, true, true, true, true, true, true, false, false, false] rfl rfl (by kernel_rfl) (by decide) (fun K_ hK_ => ?_)
    refine hP Tryd.func11 #[.int .i64 1, .int .i64 a0_0, .int .i64 a0_1, .bool true] ?_
    obtain ⟨N_, on_, nn_, rr_, bb_⟩ := O9.out.frame0
    refine (DLNew a0_0 a0_1 true W room HW.out.1 HRM.out.1 on_).mono ?_
    rintro e_ w10 ⟨gn, rfl, oo_, kk_⟩
    obtain ⟨o_, k_⟩ := bb_ _ _ kk_ oo_
    refine ⟨_, rfl, ?_⟩
    have O10 : Aside0 (Own N w10 [cells gx #[.int .i64 a0_0, .int .i64 a0_1] 22, ObjC gl 3 [], LinkD gk 1 a0_0 a0_1 W [] 0 room [], cells gf #[.int .i64 0] 78, ObjM gm 3 [], cells gg #[.int .i64 0] 36, DLnk gn 1 a0_0 a0_1 true W [] 0 room []]) := ⟨o_⟩
    have K10 := Aside0.mk (K9.out.trans k_)
    have HT_10 := Aside0.mk (TabN.keep HT_9.out k_)
    clear a0a a0b b0 a5a b5 O9 K9 HT_9
    obtain ⟨a0a, a0b, b0⟩ := blk2_ (O10.out.blk (i := 0) rfl)
    obtain ⟨a5a, b5⟩ := blk1_ (O10.out.blk (i := 5) rfl)
    clear o_ k_ oo_ kk_ on_ nn_ rr_ bb_
    clear hHeld
    refine hK_.out _ _ ⟨a0a, a0b⟩ (fun hHeld => ?_)
    clear hK_ K_
    refine norm_ (a' := ?_) ?_ ?_
    rotate_left
    ·simp only [Act.put, List.setIfInBounds_toArray, List.set_cons_zero, List.set_cons_succ, i64_w, i32_w]
     rfl
    refine pP 8 (some 8) ?_
    refine pP 9 (some 9) ?_
    refine pP 10 (some 10) ?_
    refine norm_ (a' := _) ?_ (hc_ ⟨gm, gn, gg⟩ _ ⟨?_, K10.out⟩)
    ·simp only [putAll, Act.put, List.setIfInBounds_toArray, List.set_cons_zero, List.set_cons_succ]
     try rfl
    ·exact O10.out.pickL [0, 1, 2, 3, 4, 6, 5] (by decide) (by simp)
  ·skip
   refine cP #[.int .i64 0] 36 O7.out ?_
   intro gg w8 o_ k_
   have O8 : Aside0 (Own N w8 [cells gx #[.int .i64 a0_0, .int .i64 a0_1] 22, ObjC gl 3 [], LinkD gk 1 a0_0 a0_1 W [] 0 room [], cells gf #[.int .i64 0] 78, cells gg #[.int .i64 0] 36]) := ⟨o_⟩
   have K8 := Aside0.mk (K7.out.trans k_)
   have HT_8 := Aside0.mk (TabN.keep HT_6.out k_)
   clear a0a a0b b0 O7 K7 HT_6
   obtain ⟨a0a, a0b, b0⟩ := blk2_ (O8.out.blk (i := 0) rfl)
   obtain ⟨a4a, b4⟩ := blk1_ (O8.out.blk (i := 4) rfl)
   clear o_ k_
   clear hHeld
   refine hK_.out _ _ ⟨a0a, a0b⟩ (fun hHeld => ?_)
   clear hK_ K_
   refine norm_ (a' := ?_) ?_ ?_
   rotate_left
   ·simp only [Act.put, List.setIfInBounds_toArray, List.set_cons_zero, List.set_cons_succ, i64_w, i32_w]
    rfl
   refine one_ (i := 0) (N := some 20) #[true, true, true, true, true, false, true, true, false, false, false] rfl rfl (by kernel_rfl) (by decide) (fun K_ hK_ => ?_)
   refine hP Tryd.func10 #[.int .i64 3] ?_
   obtain ⟨N_, on_, nn_, rr_, bb_⟩ := O8.out.frame0
   refine (RNew 3 3 (by decide) on_).mono ?_
   rintro e_ w9 ⟨gm, rfl, oo_, kk_⟩
   obtain ⟨o_, k_⟩ := bb_ _ _ kk_ oo_
   refine ⟨_, rfl, ?_⟩
   have O9 : Aside0 (Own N w9 [cells gx #[.int .i64 a0_0, .int .i64 a0_1] 22, ObjC gl 3 [], LinkD gk 1 a0_0 a0_1 W [] 0 room [], cells gf #[.int .i64 0] 78, cells gg #[.int .i64 0] 36, ObjM gm 3 []]) := ⟨o_⟩
   have K9 := Aside0.mk (K8.out.trans k_)
   have HT_9 := Aside0.mk (TabN.keep HT_8.out k_)
   clear a0a a0b b0 a4a b4 O8 K8 HT_8
   obtain ⟨a0a, a0b, b0⟩ := blk2_ (O9.out.blk (i := 0) rfl)
   obtain ⟨a4a, b4⟩ := blk1_ (O9.out.blk (i := 4) rfl)
   clear o_ k_ oo_ kk_ on_ nn_ rr_ bb_
   clear hHeld
   refine hK_.out _ _ ⟨a0a, a0b⟩ (fun hHeld => ?_)
   clear hK_ K_
   refine norm_ (a' := ?_) ?_ ?_
   rotate_left
   ·simp only [Act.put, List.setIfInBounds_toArray, List.set_cons_zero, List.set_cons_succ, i64_w, i32_w]
    rfl
   refine one_ (i := 5) (N := some 25) #[true, true, true, true, true, true, true, true, false, false, false] rfl rfl (by kernel_rfl) (by decide) (fun K_ hK_ => ?_)
   refine hP Tryd.func11 #[.int .i64 1, .int .i64 a0_0, .int .i64 a0_1, .bool true] ?_
   obtain ⟨N_, on_, nn_, rr_, bb_⟩ := O9.out.frame0
   refine (DLNew a0_0 a0_1 true W room HW.out.1 HRM.out.1 on_).mono ?_
   rintro e_ w10 ⟨gn, rfl, oo_, kk_⟩
   obtain ⟨o_, k_⟩ := bb_ _ _ kk_ oo_
   refine ⟨_, rfl, ?_⟩
   have O10 : Aside0 (Own N w10 [cells gx #[.int .i64 a0_0, .int .i64 a0_1] 22, ObjC gl 3 [], LinkD gk 1 a0_0 a0_1 W [] 0 room [], cells gf #[.int .i64 0] 78, cells gg #[.int .i64 0] 36, ObjM gm 3 [], DLnk gn 1 a0_0 a0_1 true W [] 0 room []]) := ⟨o_⟩
   have K10 := Aside0.mk (K9.out.trans k_)
   have HT_10 := Aside0.mk (TabN.keep HT_9.out k_)
   clear a0a a0b b0 a4a b4 O9 K9 HT_9
   obtain ⟨a0a, a0b, b0⟩ := blk2_ (O10.out.blk (i := 0) rfl)
   obtain ⟨a4a, b4⟩ := blk1_ (O10.out.blk (i := 4) rfl)
   clear o_ k_ oo_ kk_ on_ nn_ rr_ bb_
   clear hHeld
   refine hK_.out _ _ ⟨a0a, a0b⟩ (fun hHeld => ?_)
   clear hK_ K_
   refine norm_ (a' := ?_) ?_ ?_
   rotate_left
   ·simp only [Act.put, List.setIfInBounds_toArray, List.set_cons_zero, List.set_cons_succ, i64_w, i32_w]
    rfl
   refine pP 8 (some 8) ?_
   refine pP 9 (some 9) ?_
   refine pP 10 (some 10) ?_
   refine norm_ (a' := _) ?_ (hc_ ⟨gm, gn, gg⟩ _ ⟨?_, K10.out⟩)
   ·simp only [putAll, Act.put, List.setIfInBounds_toArray, List.set_cons_zero, List.set_cons_succ]
    try rfl
   ·exact O10.out.pickL [0, 1, 2, 3, 5, 6, 4] (by decide) (by simp)
 case hcont =>
  clear hHeld
  rintro ⟨gm, gn, gg⟩ w7 ⟨o_, k_⟩
  have O7 : Aside0 (Own N w7 [cells gx #[.int .i64 a0_0, .int .i64 a0_1] 22, ObjC gl 3 [], LinkD gk 1 a0_0 a0_1 W [] 0 room [], cells gf #[.int .i64 0] 78, ObjM gm 3 [], DLnk gn 1 a0_0 a0_1 true W [] 0 room [], cells gg #[.int .i64 0] 36]) := ⟨o_⟩
  have K7 := Aside0.mk (K6.out.trans k_)
  have HT_7 := Aside0.mk (TabN.keep HT_6.out k_)
  clear a0a a0b b0 O6 K6 HT_6
  obtain ⟨a0a, a0b, b0⟩ := blk2_ (O7.out.blk (i := 0) rfl)
  obtain ⟨a6a, b6⟩ := blk1_ (O7.out.blk (i := 6) rfl)
  clear o_ k_
  refine norm_ (a' := ?_) ?_ ?_
  rotate_left
  ·simp only [putAll, Act.put, List.setIfInBounds_toArray, List.set_cons_zero, List.set_cons_succ]
   rfl
  have hHeld : w7.cell? ⟨gx, 0, none⟩ = some (.int .i64 a0_0) ∧ w7.cell? ⟨gx, 1, none⟩ = some (.int .i64 a0_1) := ⟨a0a, a0b⟩
  refine done_ (by kernel_rfl) ?_
  clear hHeld
  cases b with
  | true =>
   go_wp2_with (first | ((with_reducible refine gate_callee (f := 12) rfl ?_); refine gP (some 28) Tryd.func12 #[] ?_; refine (awake _ ⟨HT_7.out.2⟩).mono ?_; rintro e_ w8 ⟨rfl, hb_⟩; refine ⟨_, rfl, ?_⟩; have o_ := O7.out.below hb_; have k_ := KeepS.of_below (N := N) hb_; have O8 := Aside0.mk o_; have K8 := Aside0.mk (K7.out.trans k_); have HT_8 := Aside0.mk (TabN.keep HT_7.out k_); clear a0a a0b b0 a6a b6 O7 K7 HT_7; obtain ⟨a0a, a0b, b0⟩ := blk2_ (O8.out.blk (i := 0) rfl); obtain ⟨a6a, b6⟩ := blk1_ (O8.out.blk (i := 6) rfl); clear o_ k_ hb_) | ((with_reducible refine gate_callee (f := 13) rfl ?_); refine gate_guard (by rfl) ?_; refine gP (some 44) Tryd.func13 #[.slice A0 l0.length c0] ?_; refine (chapbooklaw15_great.calls 300 _ _ l0 true _ (Kd.C_below HR0.out (K8.out.below (Nat.le_refl _) (fun k hk => by rw [HN.out]; exact hk))) HC0.out HGR.out).mono ?_; rintro e_ w9 ⟨rfl, hb_⟩; refine ⟨_, rfl, ?_⟩; have o_ := O8.out.below hb_; have k_ := KeepS.of_below (N := N) hb_; have O9 := Aside0.mk o_; have K9 := Aside0.mk (K8.out.trans k_); have HT_9 := Aside0.mk (TabN.keep HT_8.out k_); clear a0a a0b b0 a6a b6 O8 K8 HT_8; obtain ⟨a0a, a0b, b0⟩ := blk2_ (O9.out.blk (i := 0) rfl); obtain ⟨a6a, b6⟩ := blk1_ (O9.out.blk (i := 6) rfl); clear o_ k_ hb_) | ((with_reducible refine gate_callee (f := 12) rfl ?_); refine gP (some 46) Tryd.func12 #[] ?_; refine (awake _ ⟨HT_9.out.2⟩).mono ?_; rintro e_ w10 ⟨rfl, hb_⟩; refine ⟨_, rfl, ?_⟩; have o_ := O9.out.below hb_; have k_ := KeepS.of_below (N := N) hb_; have O10 := Aside0.mk o_; have K10 := Aside0.mk (K9.out.trans k_); have HT_10 := Aside0.mk (TabN.keep HT_9.out k_); clear a0a a0b b0 a6a b6 O9 K9 HT_9; obtain ⟨a0a, a0b, b0⟩ := blk2_ (O10.out.blk (i := 0) rfl); obtain ⟨a6a, b6⟩ := blk1_ (O10.out.blk (i := 6) rfl); clear o_ k_ hb_))
   all_goals go_ret
   all_goals exact ⟨rfl, K10.out.below (Nat.le_refl _) (fun k hk => by rw [HN.out]; exact hk)⟩
  | false =>
   obtain ⟨hl60, hl20⟩ := HGB.out rfl
   have HL60 := Aside0.mk hl60
   have HL20 := Aside0.mk hl20
   clear hl60 hl20 HGB
   go_wp2_with (first | ((with_reducible refine gate_callee (f := 12) rfl ?_); refine gP (some 28) Tryd.func12 #[] ?_; refine (awake _ ⟨HT_7.out.2⟩).mono ?_; rintro e_ w8 ⟨rfl, hb_⟩; refine ⟨_, rfl, ?_⟩; have o_ := O7.out.below hb_; have k_ := KeepS.of_below (N := N) hb_; have O8 := Aside0.mk o_; have K8 := Aside0.mk (K7.out.trans k_); have HT_8 := Aside0.mk (TabN.keep HT_7.out k_); clear a0a a0b b0 a6a b6 O7 K7 HT_7; obtain ⟨a0a, a0b, b0⟩ := blk2_ (O8.out.blk (i := 0) rfl); obtain ⟨a6a, b6⟩ := blk1_ (O8.out.blk (i := 6) rfl); clear o_ k_ hb_) | ((with_reducible refine gate_callee (f := 13) rfl ?_); refine gate_guard (by rfl) ?_; refine gP (some 44) Tryd.func13 #[.slice A0 l0.length c0] ?_; refine (chapbooklaw15_great.calls 300 _ _ l0 false _ (Kd.C_below HR0.out (K8.out.below (Nat.le_refl _) (fun k hk => by rw [HN.out]; exact hk))) HC0.out HGR.out).mono ?_; rintro e_ w9 ⟨rfl, hb_⟩; refine ⟨_, rfl, ?_⟩; have o_ := O8.out.below hb_; have k_ := KeepS.of_below (N := N) hb_; have O9 := Aside0.mk o_; have K9 := Aside0.mk (K8.out.trans k_); have HT_9 := Aside0.mk (TabN.keep HT_8.out k_); clear a0a a0b b0 a6a b6 O8 K8 HT_8; obtain ⟨a0a, a0b, b0⟩ := blk2_ (O9.out.blk (i := 0) rfl); obtain ⟨a6a, b6⟩ := blk1_ (O9.out.blk (i := 6) rfl); clear o_ k_ hb_))
   clear a0a a0b b0 a6a b6
   go_loopw [49] (fun vi wr => FpI N w l0.length gx gl gk gf gm gn gg a0_0 a0_1 W room vi wr) (fun vi _ => l0.length - (intOf vi).toNat)
   case atStart => exact ⟨0, 1, [], [], 0, [], 0, by omega, by omega, rfl, ⟨⟨by decide, good_nil _⟩, by omega, by have := HW.out; simp; omega, by have := HRM.out; simp; omega, by simp⟩, ⟨O9.out.pickL [0, 1, 2, 3, 4, 5, 6] (by decide) (by simp)⟩, K9⟩
   case round =>
    obtain ⟨x, E, L, All, Ak, RA, a, hx0, hx1, rfl, HI, OA, KA⟩ := hrel
    clear O9 K9 HT_9
    have h60 := HL60.out
    by_cases hlt : x < (l0.length : Int)
    ·obtain ⟨ad, A7, c7, e7, y0, y1, y2, y3, y4, y5, y6, y7, hl7, hC7⟩ := at_T45 HR0.out x hx0 hlt
     cases e7
     have hbw := KA.out.below (Nat.le_refl _) (fun k hk => by rw [HN.out]; exact hk)
     replace y0 := pw_cell_below hbw y0
     replace y1 := pw_cell_below hbw y1
     replace y2 := pw_cell_below hbw y2
     replace y3 := pw_cell_below hbw y3
     replace y4 := pw_cell_below hbw y4
     replace y5 := pw_cell_below hbw y5
     replace y6 := pw_cell_below hbw y6
     replace y7 := pw_cell_below hbw y7
     have HC7 := Aside0.mk hl7
     have HF7 := Aside0.mk (keepF (HRF.out hC7) KA.out)
     have HKX := HL20.out x hx0 hlt
     obtain ⟨K, hK⟩ : ∃ K, K = (rd_T45 l0 x).f0 := ⟨_, rfl⟩
     obtain ⟨fr_, hfr⟩ : ∃ q, q = (rd_T45 l0 x).f1 := ⟨_, rfl⟩
     obtain ⟨rn, hrn⟩ : ∃ q, q = (rd_T45 l0 x).f2 := ⟨_, rfl⟩
     rw [← hK] at y0 HKX
     rw [← hfr] at y1 y2 y3 y4 HKX
     rw [← hrn] at y5 y6 y7 HKX HF7 HC7
     have HKK := Aside0.mk HKX
     have HU : Aside0 (rn.f2.length ≤ 1000000) := ⟨Nat.le_trans HKK.out.1 (by decide)⟩
     have hs2 : wrap64 (x + 1) = x + 1 := by unfold wrap64; omega
     have hp := eq_true hx0
     have hq := eq_true hlt
     have hd : decide (x < (l0.length : Int)) = true := decide_eq_true hlt
     have HX := Aside0.mk (And.intro hx0 hlt)
     have HLL : Aside0 (L.length ≤ 1000 ∧ All.length ≤ 10000 ∧ RA.length ≤ 1000) := ⟨by have h_ := HI.out; unfold FpS at h_; omega⟩
     clear hK hfr hrn hl7 hC7 HKX hbw hx0 hx1 hlt h60
     have O10 : Aside0 (Own N wr [cells gx #[.int .i64 a0_0, .int .i64 a0_1] 22, ObjC gl 3 L, LinkD gk E a0_0 a0_1 W All Ak room RA, cells gf #[.int .i64 a] 78, ObjM gm 3 L, DLnk gn E a0_0 a0_1 true W All Ak room RA, cells gg #[.int .i64 a] 36]) := ⟨OA.out⟩
     have K10 : Aside0 (KeepS N w wr) := ⟨KA.out⟩
     have HT_10 : Aside0 (TabN N wr) := ⟨HT00.out.keep KA.out⟩
     have HRI_10 : Aside0 (Kd.F k114 wr N A7 rn.f2.length rn.f2) := ⟨HF7.out⟩
     obtain ⟨a6a, b6⟩ := blk1_ (O10.out.blk (i := 6) rfl)
     clear OA KA HF7
     by_cases hk1 : K = 1
     ·skip
      have e1 : (K == 1) = true := by simp [hk1]
      have HKE : Aside0 (K = 1) := ⟨hk1⟩
      clear hk1
      obtain ⟨m, hm⟩ : ∃ m, m = mn ((L.length : Int) - a) (W - ((All.length : Int) - Ak)) := ⟨_, rfl⟩
      have HPN : Aside0 (PumpN L W ((All.length : Int) - Ak) a m) := ⟨by have h_ := HI.out; unfold FpS at h_; unfold PumpN; rw [hm]; unfold mn; (repeat' split) <;> omega⟩
      clear hm
      have HI2 : Aside0 (FpS W room (x + 1) E L (All ++ (seg L a m).map bR) Ak RA (a + m)) := ⟨HI.out.pump HX.out.1 HW.out.2.2 HPN.out⟩
      have hsl : ((seg L a m).length : Int) = m := by have h_ := HI.out; have h2_ := HPN.out; unfold FpS at h_; unfold PumpN at h2_; exact seg_len h_.2.2.2.2.1 h2_.1 h2_.2.1
      obtain ⟨a2, ha2⟩ : ∃ a2, a2 = a + m := ⟨_, rfl⟩
      obtain ⟨All2, hA2⟩ : ∃ q, q = All ++ (seg L a m).map bR := ⟨_, rfl⟩
      have HE2 : Aside0 (a + m = a2 ∧ All ++ (seg L a m).map bR = All2 ∧ (All.length : Int) + m = All2.length ∧ nums Ak (All.drop Ak.toNat) ++ pcs All.length (seg L a m) = nums Ak (All2.drop Ak.toNat)) := ⟨ha2.symm, hA2.symm, by rw [hA2, List.length_append, List.length_map]; omega, by rw [pcs_nums, hA2]; have h_ := HI.out; unfold FpS at h_; exact nums_more h_.2.2.1.1 h_.2.2.1.2.1⟩
      rw [← ha2, ← hA2] at HI2
      have HXN : Aside0 (((nums Ak (All.drop Ak.toNat)).length : Int) = All.length - Ak) := ⟨by have h_ := HI.out; unfold FpS at h_; rw [nums_len, List.length_drop]; omega⟩
      clear ha2 hA2 hsl
      have hmm : (m != m) = false := by simp
      go_wp2_with (first | ((with_reducible refine gate_dst (N := 12) rfl ?_); refine bP 12 #[.int .i64 0, .int .i64 0, .int .i64 0, .int .i64 0, .string ⟨#[]⟩, .int .i64 0, .int .i64 0, .slice none 0 0] 45 O10.out ?_; intro ga w11 o_ k_; have O11 : Aside0 (Own N w11 [cells gx #[.int .i64 a0_0, .int .i64 a0_1] 22, ObjC gl 3 L, LinkD gk E a0_0 a0_1 W All Ak room RA, cells gf #[.int .i64 a] 78, ObjM gm 3 L, DLnk gn E a0_0 a0_1 true W All Ak room RA, cells gg #[.int .i64 a] 36, cells ga #[.int .i64 0, .int .i64 0, .int .i64 0, .int .i64 0, .string ⟨#[]⟩, .int .i64 0, .int .i64 0, .slice none 0 0] 45]) := ⟨o_⟩; have K11 := Aside0.mk (K10.out.trans k_); have HT_11 := Aside0.mk (TabN.keep HT_10.out k_); have HRI_11 := Aside0.mk (keepF HRI_10.out k_); clear a6a b6 O10 K10 HT_10 HRI_10; obtain ⟨a6a, b6⟩ := blk1_ (O11.out.blk (i := 6) rfl); obtain ⟨a7a, a7b, a7c, a7d, a7e, a7f, a7g, a7h, b7⟩ := blk8_ (O11.out.blk (i := 7) rfl); clear o_ k_) | ((with_reducible refine gate_store (t := 45) (p := 12) rfl ?_); refine wP (World.setCell (World.setCell (World.setCell (World.setCell (World.setCell (World.setCell (World.setCell (World.setCell w11 ⟨ga, 0, none⟩ (.int .i64 K)) ⟨ga, 1, none⟩ (.int .i64 fr_.f0)) ⟨ga, 2, none⟩ (.int .i64 fr_.f1)) ⟨ga, 3, none⟩ (.int .i64 fr_.f2)) ⟨ga, 4, none⟩ (.string fr_.f3)) ⟨ga, 5, none⟩ (.int .i64 rn.f0)) ⟨ga, 6, none⟩ (.int .i64 rn.f1)) ⟨ga, 7, none⟩ (.slice A7 rn.f2.length c7)) [cells gx #[.int .i64 a0_0, .int .i64 a0_1] 22, ObjC gl 3 L, LinkD gk E a0_0 a0_1 W All Ak room RA, cells gf #[.int .i64 a] 78, ObjM gm 3 L, DLnk gn E a0_0 a0_1 true W All Ak room RA, cells gg #[.int .i64 a] 36, cells ga #[.int .i64 K, .int .i64 fr_.f0, .int .i64 fr_.f1, .int .i64 fr_.f2, .string fr_.f3, .int .i64 rn.f0, .int .i64 rn.f1, .slice A7 rn.f2.length c7] 45] ((((((((O11.out.set (i := 7) rfl 0 (.int .i64 K)).set (i := 7) rfl 1 (.int .i64 fr_.f0)).set (i := 7) rfl 2 (.int .i64 fr_.f1)).set (i := 7) rfl 3 (.int .i64 fr_.f2)).set (i := 7) rfl 4 (.string fr_.f3)).set (i := 7) rfl 5 (.int .i64 rn.f0)).set (i := 7) rfl 6 (.int .i64 rn.f1)).set (i := 7) rfl 7 (.slice A7 rn.f2.length c7)) ((((((((KeepS.setCell (O11.out.far (i := 7) rfl) (.int .i64 K)).trans (KeepS.setCell (O11.out.far (i := 7) rfl) (.int .i64 fr_.f0))).trans (KeepS.setCell (O11.out.far (i := 7) rfl) (.int .i64 fr_.f1))).trans (KeepS.setCell (O11.out.far (i := 7) rfl) (.int .i64 fr_.f2))).trans (KeepS.setCell (O11.out.far (i := 7) rfl) (.string fr_.f3))).trans (KeepS.setCell (O11.out.far (i := 7) rfl) (.int .i64 rn.f0))).trans (KeepS.setCell (O11.out.far (i := 7) rfl) (.int .i64 rn.f1))).trans (KeepS.setCell (O11.out.far (i := 7) rfl) (.slice A7 rn.f2.length c7))) ?_; intro w12 o_ k_; have O12 := Aside0.mk o_; have K12 := Aside0.mk (K11.out.trans k_); have HT_12 := Aside0.mk (TabN.keep HT_11.out k_); have HRI_12 := Aside0.mk (keepF HRI_11.out k_); clear a6a b6 a7a a7b a7c a7d a7e a7f a7g a7h b7 O11 K11 HT_11 HRI_11; obtain ⟨a6a, b6⟩ := blk1_ (O12.out.blk (i := 6) rfl); obtain ⟨a7a, a7b, a7c, a7d, a7e, a7f, a7g, a7h, b7⟩ := blk8_ (O12.out.blk (i := 7) rfl); clear o_ k_) | ((with_reducible refine gate_callee (f := 14) rfl ?_); refine gP (some 60) Tryd.func14 #[.pointer (some ⟨gf, 0, none⟩), .pointer (some ⟨gl, 0, none⟩), .pointer (some ⟨gk, 0, none⟩)] ?_; obtain ⟨N_, on_, nn_, rr_, bb_⟩ := O12.out.frameL [3, 1, 2] (by decide) (by simp); refine (FPump_e m a2 All2.length (nums Ak (All2.drop Ak.toNat)) HE2.out.1 HE2.out.2.2.1 HE2.out.2.2.2 on_ (TabN.mono HT_12.out nn_) (by have := HLL.out; omega) HI.out.1.2 (by have h_ := HI.out; unfold FpS at h_; omega) (by have := HLL.out; omega) (by have h_ := HI.out; have := HXN.out; have := HW.out; unfold FpS at h_; omega) (by have h_ := HPN.out; have := HXN.out; unfold PumpN at h_; unfold Pumps; omega)).mono ?_; rintro e_ w13 ⟨rfl, oo_, kk_⟩; obtain ⟨o_, k_⟩ := bb_ _ [cells gf #[.int .i64 a2] 78, ObjC gl 3 L, LinkD gk E a0_0 a0_1 W All2 Ak room RA] [] rfl kk_ oo_; refine ⟨_, rfl, ?_⟩; have O13 : Aside0 (Own N w13 [cells gx #[.int .i64 a0_0, .int .i64 a0_1] 22, ObjC gl 3 L, LinkD gk E a0_0 a0_1 W All2 Ak room RA, cells gf #[.int .i64 a2] 78, ObjM gm 3 L, DLnk gn E a0_0 a0_1 true W All Ak room RA, cells gg #[.int .i64 a] 36, cells ga #[.int .i64 K, .int .i64 fr_.f0, .int .i64 fr_.f1, .int .i64 fr_.f2, .string fr_.f3, .int .i64 rn.f0, .int .i64 rn.f1, .slice A7 rn.f2.length c7] 45]) := ⟨o_⟩; have K13 := Aside0.mk (K12.out.trans k_); have HT_13 := Aside0.mk (TabN.keep HT_12.out k_); have HRI_13 := Aside0.mk (keepF HRI_12.out k_); clear a6a b6 a7a a7b a7c a7d a7e a7f a7g a7h b7 O12 K12 HT_12 HRI_12; obtain ⟨a6a, b6⟩ := blk1_ (O13.out.blk (i := 6) rfl); obtain ⟨a7a, a7b, a7c, a7d, a7e, a7f, a7g, a7h, b7⟩ := blk8_ (O13.out.blk (i := 7) rfl); clear o_ k_ oo_ kk_ on_ nn_ rr_ bb_) | ((with_reducible refine gate_callee (f := 15) rfl ?_); refine gP (some 64) Tryd.func15 #[.pointer (some ⟨gg, 0, none⟩), .pointer (some ⟨gm, 0, none⟩), .pointer (some ⟨gn, 0, none⟩)] ?_; obtain ⟨N_, on_, nn_, rr_, bb_⟩ := O13.out.frameL [6, 4, 5] (by decide) (by simp); refine (DPump_e m a2 All2 HE2.out.1 HE2.out.2.1 on_ (by have := HLL.out; omega) HI.out.1.2 (by have h_ := HI.out; unfold FpS at h_; omega) (by have h_ := HI.out; have := HLL.out; have := HW.out; unfold FpS at h_; omega) HPN.out).mono ?_; rintro e_ w14 ⟨rfl, oo_, kk_⟩; obtain ⟨o_, k_⟩ := bb_ _ [cells gg #[.int .i64 a2] 36, ObjM gm 3 L, DLnk gn E a0_0 a0_1 true W All2 Ak room RA] [] rfl kk_ oo_; refine ⟨_, rfl, ?_⟩; have O14 : Aside0 (Own N w14 [cells gx #[.int .i64 a0_0, .int .i64 a0_1] 22, ObjC gl 3 L, LinkD gk E a0_0 a0_1 W All2 Ak room RA, cells gf #[.int .i64 a2] 78, ObjM gm 3 L, DLnk gn E a0_0 a0_1 true W All2 Ak room RA, cells gg #[.int .i64 a2] 36, cells ga #[.int .i64 K, .int .i64 fr_.f0, .int .i64 fr_.f1, .int .i64 fr_.f2, .string fr_.f3, .int .i64 rn.f0, .int .i64 rn.f1, .slice A7 rn.f2.length c7] 45]) := ⟨o_⟩; have K14 := Aside0.mk (K13.out.trans k_); have HT_14 := Aside0.mk (TabN.keep HT_13.out k_); have HRI_14 := Aside0.mk (keepF HRI_13.out k_); clear a6a b6 a7a a7b a7c a7d a7e a7f a7g a7h b7 O13 K13 HT_13 HRI_13; obtain ⟨a6a, b6⟩ := blk1_ (O14.out.blk (i := 6) rfl); obtain ⟨a7a, a7b, a7c, a7d, a7e, a7f, a7g, a7h, b7⟩ := blk8_ (O14.out.blk (i := 7) rfl); clear o_ k_ oo_ kk_ on_ nn_ rr_ bb_))
      clear a6a b6 a7a a7b a7c a7d a7e a7f a7g a7h b7
      obtain ⟨a6a, b6⟩ := blk1_ (O14.out.blk (i := 6) rfl)
      obtain ⟨a7a, a7b, a7c, a7d, a7e, a7f, a7g, a7h, b7⟩ := blk8_ (O14.out.blk (i := 7) rfl)
      obtain ⟨F, hF⟩ : ∃ F, F = frs E RA.length (nums Ak (All2.drop (Ak).toNat)) := ⟨_, rfl⟩
      obtain ⟨nf, hnf⟩ : ∃ n, n = F.length := ⟨_, rfl⟩
      have HB9 : Aside0 ((nums Ak (All2.drop (Ak).toNat)).length ≤ 16 ∧ E ≠ 0 ∧ (0 ≤ Ak ∧ Ak ≤ All2.length ∧ All2.length ≤ 1000000) ∧ (All2.length : Int) - Ak ≤ 16) := ⟨by have h_ := HI2.out; have hw_ := HW.out; have hx_ := HX.out; have hl_ := HL60.out; unfold FpS at h_; rw [nums_len, List.length_drop]; omega⟩
      have HF : Aside0 (frs E RA.length (nums Ak (All2.drop (Ak).toNat)) = F ∧ F.length = nf ∧ nf ≤ 100) := ⟨hF.symm, hnf.symm, by rw [hnf, hF]; have h_ := frs_max E RA.length (nums Ak (All2.drop (Ak).toNat)); have := HB9.out; omega⟩
      clear hF hnf
      have haa : (a2 != a2) = false := by simp
      refine sP (n := 15) (S := fun w' => w'.cell? ⟨gg, 0, none⟩ = some (.int .i64 a2)) (ds := []) a6a (fun hHeld => ?_)
      obtain ⟨w15, hw_⟩ : ∃ W, W = w14.drew := ⟨_, rfl⟩
      have o_ := O14.out.drew
      have k_ : KeepS N w14 w14.drew := KeepS.drew
      rw [← hw_] at o_ k_ hHeld ⊢
      clear hw_
      have O15 := Aside0.mk o_
      have K15 := Aside0.mk (K14.out.trans k_)
      have HT_15 := Aside0.mk (TabN.keep HT_14.out k_)
      have HRI_15 := Aside0.mk (keepF HRI_14.out k_)
      clear a6a b6 a7a a7b a7c a7d a7e a7f a7g a7h b7 O14 K14 HT_14 HRI_14
      obtain ⟨a6a, b6⟩ := blk1_ (O15.out.blk (i := 6) rfl)
      obtain ⟨a7a, a7b, a7c, a7d, a7e, a7f, a7g, a7h, b7⟩ := blk8_ (O15.out.blk (i := 7) rfl)
      clear o_ k_
      refine pP 0 (some 93) ?_
      refine pP 2 (some 95) ?_
      refine pP 3 (some 96) ?_
      refine pP 4 (some 97) ?_
      refine tP 5 (some 98) hHeld ?_
      refine oP 1 (some 94) (fun K_ hK_ => ?_)
      refine hP Tryd.func21 #[.pointer (some ⟨gf, 0, none⟩)] ?_
      obtain ⟨N_, on_, nn_, rr_, bb_⟩ := O15.out.frame1 (i := 3) rfl
      refine (FAt on_).mono ?_
      rintro e_ w16 ⟨rfl, oo_, kk_⟩
      obtain ⟨o_, k_⟩ := bb_ _ _ _ kk_ oo_
      refine ⟨_, rfl, ?_⟩
      have O16 : Aside0 (Own N w16 [cells gx #[.int .i64 a0_0, .int .i64 a0_1] 22, ObjC gl 3 L, LinkD gk E a0_0 a0_1 W All2 Ak room RA, cells gf #[.int .i64 a2] 78, ObjM gm 3 L, DLnk gn E a0_0 a0_1 true W All2 Ak room RA, cells gg #[.int .i64 a2] 36, cells ga #[.int .i64 K, .int .i64 fr_.f0, .int .i64 fr_.f1, .int .i64 fr_.f2, .string fr_.f3, .int .i64 rn.f0, .int .i64 rn.f1, .slice A7 rn.f2.length c7] 45]) := ⟨o_⟩
      have K16 := Aside0.mk (K15.out.trans k_)
      have HT_16 := Aside0.mk (TabN.keep HT_15.out k_)
      have HRI_16 := Aside0.mk (keepF HRI_15.out k_)
      clear a6a b6 a7a a7b a7c a7d a7e a7f a7g a7h b7 O15 K15 HT_15 HRI_15
      obtain ⟨a6a, b6⟩ := blk1_ (O16.out.blk (i := 6) rfl)
      obtain ⟨a7a, a7b, a7c, a7d, a7e, a7f, a7g, a7h, b7⟩ := blk8_ (O16.out.blk (i := 7) rfl)
      clear o_ k_ oo_ kk_ on_ nn_ rr_ bb_
      clear hHeld
      refine hK_.out _ _ a6a (fun hHeld => ?_)
      clear hK_ K_
      refine nP ?_
      refine pP 6 (some 99) ?_
      refine pP 7 (some 100) ?_
      refine pP 8 (some 101) ?_
      refine pP 10 (some 103) ?_
      refine oP 9 (some 102) (fun K_ hK_ => ?_)
      refine hP Tryd.func23 #[.pointer (some ⟨gk, 0, none⟩)] ?_
      obtain ⟨N_, on_, nn_, rr_, bb_⟩ := O16.out.frame1 (i := 2) rfl
      refine (LFrames_n nf F HF.out.2.1 HF.out.1 on_ HB9.out.2.1 HB9.out.1).mono ?_
      rintro e_ w17 ⟨B1, d1, rfl, oo_, kk_⟩
      obtain ⟨o_, k_⟩ := bb_ _ _ _ kk_ oo_
      refine ⟨_, rfl, ?_⟩
      have O17 : Aside0 (Own N w17 [cells gx #[.int .i64 a0_0, .int .i64 a0_1] 22, ObjC gl 3 L, LinkD gk E a0_0 a0_1 W All2 Ak room RA, cells gf #[.int .i64 a2] 78, ObjM gm 3 L, DLnk gn E a0_0 a0_1 true W All2 Ak room RA, cells gg #[.int .i64 a2] 36, cells ga #[.int .i64 K, .int .i64 fr_.f0, .int .i64 fr_.f1, .int .i64 fr_.f2, .string fr_.f3, .int .i64 rn.f0, .int .i64 rn.f1, .slice A7 rn.f2.length c7] 45, nrow k40 40 (.slice B1 nf d1) F]) := ⟨o_⟩
      have K17 := Aside0.mk (K16.out.trans k_)
      have HT_17 := Aside0.mk (TabN.keep HT_16.out k_)
      have HRI_17 := Aside0.mk (keepF HRI_16.out k_)
      clear a6a b6 a7a a7b a7c a7d a7e a7f a7g a7h b7 O16 K16 HT_16 HRI_16
      obtain ⟨a6a, b6⟩ := blk1_ (O17.out.blk (i := 6) rfl)
      obtain ⟨a7a, a7b, a7c, a7d, a7e, a7f, a7g, a7h, b7⟩ := blk8_ (O17.out.blk (i := 7) rfl)
      clear o_ k_ oo_ kk_ on_ nn_ rr_ bb_
      clear hHeld
      refine hK_.out _ _ a6a (fun hHeld => ?_)
      clear hK_ K_
      refine nP ?_
      refine oP 11 (some 104) (fun K_ hK_ => ?_)
      refine hP Tryd.func24 #[.pointer (some ⟨gn, 0, none⟩)] ?_
      obtain ⟨N_, on_, nn_, rr_, bb_⟩ := O17.out.frame1 (i := 5) rfl
      refine (DFrames_n nf F HF.out.2.1 HF.out.1 on_ HB9.out.2.1 HB9.out.2.2.1 HB9.out.2.2.2).mono ?_
      rintro e_ w18 ⟨B2, d2, rfl, oo_, kk_⟩
      obtain ⟨o_, k_⟩ := bb_ _ _ _ kk_ oo_
      refine ⟨_, rfl, ?_⟩
      have O18 : Aside0 (Own N w18 [cells gx #[.int .i64 a0_0, .int .i64 a0_1] 22, ObjC gl 3 L, LinkD gk E a0_0 a0_1 W All2 Ak room RA, cells gf #[.int .i64 a2] 78, ObjM gm 3 L, DLnk gn E a0_0 a0_1 true W All2 Ak room RA, cells gg #[.int .i64 a2] 36, cells ga #[.int .i64 K, .int .i64 fr_.f0, .int .i64 fr_.f1, .int .i64 fr_.f2, .string fr_.f3, .int .i64 rn.f0, .int .i64 rn.f1, .slice A7 rn.f2.length c7] 45, nrow k40 40 (.slice B1 nf d1) F, nrow k40 40 (.slice B2 nf d2) F]) := ⟨o_⟩
      have K18 := Aside0.mk (K17.out.trans k_)
      have HT_18 := Aside0.mk (TabN.keep HT_17.out k_)
      have HRI_18 := Aside0.mk (keepF HRI_17.out k_)
      clear a6a b6 a7a a7b a7c a7d a7e a7f a7g a7h b7 O17 K17 HT_17 HRI_17
      obtain ⟨a6a, b6⟩ := blk1_ (O18.out.blk (i := 6) rfl)
      obtain ⟨a7a, a7b, a7c, a7d, a7e, a7f, a7g, a7h, b7⟩ := blk8_ (O18.out.blk (i := 7) rfl)
      clear o_ k_ oo_ kk_ on_ nn_ rr_ bb_
      clear hHeld
      refine hK_.out _ _ a6a (fun hHeld => ?_)
      clear hK_ K_
      refine nP ?_
      refine oP 12 (some 105) (fun K_ hK_ => ?_)
      refine hP Tryd.func22 #[.slice B1 nf d1, .slice B2 nf d2] ?_
      refine (sameF_n nf F HF.out.2.1 (O18.out.nreads (i := 8) rfl).2.2 (O18.out.nreads (i := 8) rfl).2.1 (O18.out.nreads (i := 9) rfl).2.2 (O18.out.nreads (i := 9) rfl).2.1 HF.out.2.2).mono ?_
      rintro e_ w19 ⟨rfl, hb_⟩
      refine ⟨_, rfl, ?_⟩
      have o_ := O18.out.below hb_
      have k_ := KeepS.of_below (N := N) hb_
      have O19 := Aside0.mk o_
      have K19 := Aside0.mk (K18.out.trans k_)
      have HT_19 := Aside0.mk (TabN.keep HT_18.out k_)
      have HRI_19 := Aside0.mk (keepF HRI_18.out k_)
      clear a6a b6 a7a a7b a7c a7d a7e a7f a7g a7h b7 O18 K18 HT_18 HRI_18
      obtain ⟨a6a, b6⟩ := blk1_ (O19.out.blk (i := 6) rfl)
      obtain ⟨a7a, a7b, a7c, a7d, a7e, a7f, a7g, a7h, b7⟩ := blk8_ (O19.out.blk (i := 7) rfl)
      clear o_ k_ hb_
      clear hHeld
      refine hK_.out _ _ a6a (fun hHeld => ?_)
      clear hK_ K_
      refine nP ?_
      refine pP 13 (some 106) ?_
      refine pP 14 (some 107) ?_
      refine done_ (by kernel_rfl) ?_
      clear hHeld
      go_wp2
      go_roundw
      case rel => exact ⟨x + 1, E, L, All2, Ak, RA, a2, by have := HX.out; omega, by have := HX.out; omega, int_eq (by unfold wrap64; have := HX.out; have := HL60.out; omega), HI2, ⟨O19.out.take 7⟩, K19⟩
      case measure => have := HX.out; simp [intOf]; omega
     by_cases hk2 : K = 2
     ·skip
      have e1 : (K == 1) = false := by simp [hk1]
      have e2 : (K == 2) = true := by simp [hk2]
      have HKE : Aside0 (K = 2) := ⟨hk2⟩
      have HOK : Aside0 (FrOk fr_) := ⟨HKK.out.2 hk2⟩
      clear hk1 hk2
      have HI2' := Aside0.mk (HI.out.hear HX.out.1 HW.out.2.1 HRM.out.2.1 fr_ HOK.out)
      obtain ⟨E2, h1_⟩ : ∃ q, q = hE E fr_ := ⟨_, rfl⟩
      obtain ⟨All2, h2_⟩ : ∃ q, q = hAll E fr_ All := ⟨_, rfl⟩
      obtain ⟨Ak2, h3_⟩ : ∃ q, q = hAk E fr_ All Ak := ⟨_, rfl⟩
      obtain ⟨RA2, h4_⟩ : ∃ q, q = hR E fr_ room RA := ⟨_, rfl⟩
      have HQ : Aside0 (hE E fr_ = E2 ∧ hAll E fr_ All = All2 ∧ hAk E fr_ All Ak = Ak2 ∧ hR E fr_ room RA = RA2) := ⟨h1_.symm, h2_.symm, h3_.symm, h4_.symm⟩
      have HI2 : Aside0 (FpS W room (x + 1) E2 L All2 Ak2 RA2 a) := ⟨by rw [h1_, h2_, h3_, h4_]; exact HI2'.out⟩
      clear h1_ h2_ h3_ h4_ HI2'
      go_wp2_with (first | ((with_reducible refine gate_dst (N := 12) rfl ?_); refine bP 12 #[.int .i64 0, .int .i64 0, .int .i64 0, .int .i64 0, .string ⟨#[]⟩, .int .i64 0, .int .i64 0, .slice none 0 0] 45 O10.out ?_; intro ga w11 o_ k_; have O11 : Aside0 (Own N w11 [cells gx #[.int .i64 a0_0, .int .i64 a0_1] 22, ObjC gl 3 L, LinkD gk E a0_0 a0_1 W All Ak room RA, cells gf #[.int .i64 a] 78, ObjM gm 3 L, DLnk gn E a0_0 a0_1 true W All Ak room RA, cells gg #[.int .i64 a] 36, cells ga #[.int .i64 0, .int .i64 0, .int .i64 0, .int .i64 0, .string ⟨#[]⟩, .int .i64 0, .int .i64 0, .slice none 0 0] 45]) := ⟨o_⟩; have K11 := Aside0.mk (K10.out.trans k_); have HT_11 := Aside0.mk (TabN.keep HT_10.out k_); have HRI_11 := Aside0.mk (keepF HRI_10.out k_); clear a6a b6 O10 K10 HT_10 HRI_10; obtain ⟨a6a, b6⟩ := blk1_ (O11.out.blk (i := 6) rfl); obtain ⟨a7a, a7b, a7c, a7d, a7e, a7f, a7g, a7h, b7⟩ := blk8_ (O11.out.blk (i := 7) rfl); clear o_ k_) | ((with_reducible refine gate_store (t := 45) (p := 12) rfl ?_); refine wP (World.setCell (World.setCell (World.setCell (World.setCell (World.setCell (World.setCell (World.setCell (World.setCell w11 ⟨ga, 0, none⟩ (.int .i64 K)) ⟨ga, 1, none⟩ (.int .i64 fr_.f0)) ⟨ga, 2, none⟩ (.int .i64 fr_.f1)) ⟨ga, 3, none⟩ (.int .i64 fr_.f2)) ⟨ga, 4, none⟩ (.string fr_.f3)) ⟨ga, 5, none⟩ (.int .i64 rn.f0)) ⟨ga, 6, none⟩ (.int .i64 rn.f1)) ⟨ga, 7, none⟩ (.slice A7 rn.f2.length c7)) [cells gx #[.int .i64 a0_0, .int .i64 a0_1] 22, ObjC gl 3 L, LinkD gk E a0_0 a0_1 W All Ak room RA, cells gf #[.int .i64 a] 78, ObjM gm 3 L, DLnk gn E a0_0 a0_1 true W All Ak room RA, cells gg #[.int .i64 a] 36, cells ga #[.int .i64 K, .int .i64 fr_.f0, .int .i64 fr_.f1, .int .i64 fr_.f2, .string fr_.f3, .int .i64 rn.f0, .int .i64 rn.f1, .slice A7 rn.f2.length c7] 45] ((((((((O11.out.set (i := 7) rfl 0 (.int .i64 K)).set (i := 7) rfl 1 (.int .i64 fr_.f0)).set (i := 7) rfl 2 (.int .i64 fr_.f1)).set (i := 7) rfl 3 (.int .i64 fr_.f2)).set (i := 7) rfl 4 (.string fr_.f3)).set (i := 7) rfl 5 (.int .i64 rn.f0)).set (i := 7) rfl 6 (.int .i64 rn.f1)).set (i := 7) rfl 7 (.slice A7 rn.f2.length c7)) ((((((((KeepS.setCell (O11.out.far (i := 7) rfl) (.int .i64 K)).trans (KeepS.setCell (O11.out.far (i := 7) rfl) (.int .i64 fr_.f0))).trans (KeepS.setCell (O11.out.far (i := 7) rfl) (.int .i64 fr_.f1))).trans (KeepS.setCell (O11.out.far (i := 7) rfl) (.int .i64 fr_.f2))).trans (KeepS.setCell (O11.out.far (i := 7) rfl) (.string fr_.f3))).trans (KeepS.setCell (O11.out.far (i := 7) rfl) (.int .i64 rn.f0))).trans (KeepS.setCell (O11.out.far (i := 7) rfl) (.int .i64 rn.f1))).trans (KeepS.setCell (O11.out.far (i := 7) rfl) (.slice A7 rn.f2.length c7))) ?_; intro w12 o_ k_; have O12 := Aside0.mk o_; have K12 := Aside0.mk (K11.out.trans k_); have HT_12 := Aside0.mk (TabN.keep HT_11.out k_); have HRI_12 := Aside0.mk (keepF HRI_11.out k_); clear a6a b6 a7a a7b a7c a7d a7e a7f a7g a7h b7 O11 K11 HT_11 HRI_11; obtain ⟨a6a, b6⟩ := blk1_ (O12.out.blk (i := 6) rfl); obtain ⟨a7a, a7b, a7c, a7d, a7e, a7f, a7g, a7h, b7⟩ := blk8_ (O12.out.blk (i := 7) rfl); clear o_ k_) | ((with_reducible refine gate_callee (f := 16) rfl ?_); refine gP (some 71) Tryd.func16 #[.pointer (some ⟨gk, 0, none⟩), .agg #[.int .i64 fr_.f0, .int .i64 fr_.f1, .int .i64 fr_.f2, .string fr_.f3]] ?_; obtain ⟨N_, on_, nn_, rr_, bb_⟩ := O12.out.frame1 (i := 2) rfl; refine (LHear_all fr_ on_ HOK.out HW.out.1 HRM.out.1 (by have h_ := HI.out; have := HLL.out; unfold FpS at h_; omega) (by have h_ := HI.out; have := HLL.out; unfold FpS at h_; omega)).mono ?_; rintro e_ w13 ⟨ra_, rfl, oo_, kk_⟩; rw [HQ.out.1, HQ.out.2.1, HQ.out.2.2.1, HQ.out.2.2.2] at oo_; obtain ⟨o_, k_⟩ := bb_ _ _ _ kk_ oo_; refine ⟨_, rfl, ?_⟩; have O13 : Aside0 (Own N w13 [cells gx #[.int .i64 a0_0, .int .i64 a0_1] 22, ObjC gl 3 L, LinkD gk E2 a0_0 a0_1 W All2 Ak2 room RA2, cells gf #[.int .i64 a] 78, ObjM gm 3 L, DLnk gn E a0_0 a0_1 true W All Ak room RA, cells gg #[.int .i64 a] 36, cells ga #[.int .i64 K, .int .i64 fr_.f0, .int .i64 fr_.f1, .int .i64 fr_.f2, .string fr_.f3, .int .i64 rn.f0, .int .i64 rn.f1, .slice A7 rn.f2.length c7] 45]) := ⟨o_⟩; have K13 := Aside0.mk (K12.out.trans k_); have HT_13 := Aside0.mk (TabN.keep HT_12.out k_); have HRI_13 := Aside0.mk (keepF HRI_12.out k_); clear a6a b6 a7a a7b a7c a7d a7e a7f a7g a7h b7 O12 K12 HT_12 HRI_12; obtain ⟨a6a, b6⟩ := blk1_ (O13.out.blk (i := 6) rfl); obtain ⟨a7a, a7b, a7c, a7d, a7e, a7f, a7g, a7h, b7⟩ := blk8_ (O13.out.blk (i := 7) rfl); clear o_ k_ oo_ kk_ on_ nn_ rr_ bb_) | ((with_reducible refine gate_callee (f := 17) rfl ?_); refine gP (some 75) Tryd.func17 #[.pointer (some ⟨gn, 0, none⟩), .agg #[.int .i64 fr_.f0, .int .i64 fr_.f1, .int .i64 fr_.f2, .string fr_.f3]] ?_; obtain ⟨N_, on_, nn_, rr_, bb_⟩ := O13.out.frame1 (i := 5) rfl; refine (DHear_all fr_ on_ HOK.out HW.out.1 HRM.out.1 (by have h_ := HI.out; have := HLL.out; unfold FpS at h_; omega) (by have h_ := HI.out; have := HLL.out; unfold FpS at h_; omega)).mono ?_; rintro e_ w14 ⟨rb_, rfl, oo_, kk_⟩; rw [HQ.out.1, HQ.out.2.1, HQ.out.2.2.1, HQ.out.2.2.2] at oo_; obtain ⟨o_, k_⟩ := bb_ _ _ _ kk_ oo_; refine ⟨_, rfl, ?_⟩; have O14 : Aside0 (Own N w14 [cells gx #[.int .i64 a0_0, .int .i64 a0_1] 22, ObjC gl 3 L, LinkD gk E2 a0_0 a0_1 W All2 Ak2 room RA2, cells gf #[.int .i64 a] 78, ObjM gm 3 L, DLnk gn E2 a0_0 a0_1 true W All2 Ak2 room RA2, cells gg #[.int .i64 a] 36, cells ga #[.int .i64 K, .int .i64 fr_.f0, .int .i64 fr_.f1, .int .i64 fr_.f2, .string fr_.f3, .int .i64 rn.f0, .int .i64 rn.f1, .slice A7 rn.f2.length c7] 45]) := ⟨o_⟩; have K14 := Aside0.mk (K13.out.trans k_); have HT_14 := Aside0.mk (TabN.keep HT_13.out k_); have HRI_14 := Aside0.mk (keepF HRI_13.out k_); clear a6a b6 a7a a7b a7c a7d a7e a7f a7g a7h b7 O13 K13 HT_13 HRI_13; obtain ⟨a6a, b6⟩ := blk1_ (O14.out.blk (i := 6) rfl); obtain ⟨a7a, a7b, a7c, a7d, a7e, a7f, a7g, a7h, b7⟩ := blk8_ (O14.out.blk (i := 7) rfl); clear o_ k_ oo_ kk_ on_ nn_ rr_ bb_))
      obtain ⟨F, hF⟩ : ∃ F, F = frs E2 RA2.length (nums Ak2 (All2.drop (Ak2).toNat)) := ⟨_, rfl⟩
      obtain ⟨nf, hnf⟩ : ∃ n, n = F.length := ⟨_, rfl⟩
      have HB9 : Aside0 ((nums Ak2 (All2.drop (Ak2).toNat)).length ≤ 16 ∧ E2 ≠ 0 ∧ (0 ≤ Ak2 ∧ Ak2 ≤ All2.length ∧ All2.length ≤ 1000000) ∧ (All2.length : Int) - Ak2 ≤ 16) := ⟨by have h_ := HI2.out; have hw_ := HW.out; have hx_ := HX.out; have hl_ := HL60.out; unfold FpS at h_; rw [nums_len, List.length_drop]; omega⟩
      have HF : Aside0 (frs E2 RA2.length (nums Ak2 (All2.drop (Ak2).toNat)) = F ∧ F.length = nf ∧ nf ≤ 100) := ⟨hF.symm, hnf.symm, by rw [hnf, hF]; have h_ := frs_max E2 RA2.length (nums Ak2 (All2.drop (Ak2).toNat)); have := HB9.out; omega⟩
      clear hF hnf
      have haa : (a != a) = false := by simp
      refine sP (n := 15) (S := fun w' => w'.cell? ⟨gg, 0, none⟩ = some (.int .i64 a)) (ds := []) a6a (fun hHeld => ?_)
      obtain ⟨w15, hw_⟩ : ∃ W, W = w14.drew := ⟨_, rfl⟩
      have o_ := O14.out.drew
      have k_ : KeepS N w14 w14.drew := KeepS.drew
      rw [← hw_] at o_ k_ hHeld ⊢
      clear hw_
      have O15 := Aside0.mk o_
      have K15 := Aside0.mk (K14.out.trans k_)
      have HT_15 := Aside0.mk (TabN.keep HT_14.out k_)
      have HRI_15 := Aside0.mk (keepF HRI_14.out k_)
      clear a6a b6 a7a a7b a7c a7d a7e a7f a7g a7h b7 O14 K14 HT_14 HRI_14
      obtain ⟨a6a, b6⟩ := blk1_ (O15.out.blk (i := 6) rfl)
      obtain ⟨a7a, a7b, a7c, a7d, a7e, a7f, a7g, a7h, b7⟩ := blk8_ (O15.out.blk (i := 7) rfl)
      clear o_ k_
      refine pP 0 (some 93) ?_
      refine pP 2 (some 95) ?_
      refine pP 3 (some 96) ?_
      refine pP 4 (some 97) ?_
      refine tP 5 (some 98) hHeld ?_
      refine oP 1 (some 94) (fun K_ hK_ => ?_)
      refine hP Tryd.func21 #[.pointer (some ⟨gf, 0, none⟩)] ?_
      obtain ⟨N_, on_, nn_, rr_, bb_⟩ := O15.out.frame1 (i := 3) rfl
      refine (FAt on_).mono ?_
      rintro e_ w16 ⟨rfl, oo_, kk_⟩
      obtain ⟨o_, k_⟩ := bb_ _ _ _ kk_ oo_
      refine ⟨_, rfl, ?_⟩
      have O16 : Aside0 (Own N w16 [cells gx #[.int .i64 a0_0, .int .i64 a0_1] 22, ObjC gl 3 L, LinkD gk E2 a0_0 a0_1 W All2 Ak2 room RA2, cells gf #[.int .i64 a] 78, ObjM gm 3 L, DLnk gn E2 a0_0 a0_1 true W All2 Ak2 room RA2, cells gg #[.int .i64 a] 36, cells ga #[.int .i64 K, .int .i64 fr_.f0, .int .i64 fr_.f1, .int .i64 fr_.f2, .string fr_.f3, .int .i64 rn.f0, .int .i64 rn.f1, .slice A7 rn.f2.length c7] 45]) := ⟨o_⟩
      have K16 := Aside0.mk (K15.out.trans k_)
      have HT_16 := Aside0.mk (TabN.keep HT_15.out k_)
      have HRI_16 := Aside0.mk (keepF HRI_15.out k_)
      clear a6a b6 a7a a7b a7c a7d a7e a7f a7g a7h b7 O15 K15 HT_15 HRI_15
      obtain ⟨a6a, b6⟩ := blk1_ (O16.out.blk (i := 6) rfl)
      obtain ⟨a7a, a7b, a7c, a7d, a7e, a7f, a7g, a7h, b7⟩ := blk8_ (O16.out.blk (i := 7) rfl)
      clear o_ k_ oo_ kk_ on_ nn_ rr_ bb_
      clear hHeld
      refine hK_.out _ _ a6a (fun hHeld => ?_)
      clear hK_ K_
      refine nP ?_
      refine pP 6 (some 99) ?_
      refine pP 7 (some 100) ?_
      refine pP 8 (some 101) ?_
      refine pP 10 (some 103) ?_
      refine oP 9 (some 102) (fun K_ hK_ => ?_)
      refine hP Tryd.func23 #[.pointer (some ⟨gk, 0, none⟩)] ?_
      obtain ⟨N_, on_, nn_, rr_, bb_⟩ := O16.out.frame1 (i := 2) rfl
      refine (LFrames_n nf F HF.out.2.1 HF.out.1 on_ HB9.out.2.1 HB9.out.1).mono ?_
      rintro e_ w17 ⟨B1, d1, rfl, oo_, kk_⟩
      obtain ⟨o_, k_⟩ := bb_ _ _ _ kk_ oo_
      refine ⟨_, rfl, ?_⟩
      have O17 : Aside0 (Own N w17 [cells gx #[.int .i64 a0_0, .int .i64 a0_1] 22, ObjC gl 3 L, LinkD gk E2 a0_0 a0_1 W All2 Ak2 room RA2, cells gf #[.int .i64 a] 78, ObjM gm 3 L, DLnk gn E2 a0_0 a0_1 true W All2 Ak2 room RA2, cells gg #[.int .i64 a] 36, cells ga #[.int .i64 K, .int .i64 fr_.f0, .int .i64 fr_.f1, .int .i64 fr_.f2, .string fr_.f3, .int .i64 rn.f0, .int .i64 rn.f1, .slice A7 rn.f2.length c7] 45, nrow k40 40 (.slice B1 nf d1) F]) := ⟨o_⟩
      have K17 := Aside0.mk (K16.out.trans k_)
      have HT_17 := Aside0.mk (TabN.keep HT_16.out k_)
      have HRI_17 := Aside0.mk (keepF HRI_16.out k_)
      clear a6a b6 a7a a7b a7c a7d a7e a7f a7g a7h b7 O16 K16 HT_16 HRI_16
      obtain ⟨a6a, b6⟩ := blk1_ (O17.out.blk (i := 6) rfl)
      obtain ⟨a7a, a7b, a7c, a7d, a7e, a7f, a7g, a7h, b7⟩ := blk8_ (O17.out.blk (i := 7) rfl)
      clear o_ k_ oo_ kk_ on_ nn_ rr_ bb_
      clear hHeld
      refine hK_.out _ _ a6a (fun hHeld => ?_)
      clear hK_ K_
      refine nP ?_
      refine oP 11 (some 104) (fun K_ hK_ => ?_)
      refine hP Tryd.func24 #[.pointer (some ⟨gn, 0, none⟩)] ?_
      obtain ⟨N_, on_, nn_, rr_, bb_⟩ := O17.out.frame1 (i := 5) rfl
      refine (DFrames_n nf F HF.out.2.1 HF.out.1 on_ HB9.out.2.1 HB9.out.2.2.1 HB9.out.2.2.2).mono ?_
      rintro e_ w18 ⟨B2, d2, rfl, oo_, kk_⟩
      obtain ⟨o_, k_⟩ := bb_ _ _ _ kk_ oo_
      refine ⟨_, rfl, ?_⟩
      have O18 : Aside0 (Own N w18 [cells gx #[.int .i64 a0_0, .int .i64 a0_1] 22, ObjC gl 3 L, LinkD gk E2 a0_0 a0_1 W All2 Ak2 room RA2, cells gf #[.int .i64 a] 78, ObjM gm 3 L, DLnk gn E2 a0_0 a0_1 true W All2 Ak2 room RA2, cells gg #[.int .i64 a] 36, cells ga #[.int .i64 K, .int .i64 fr_.f0, .int .i64 fr_.f1, .int .i64 fr_.f2, .string fr_.f3, .int .i64 rn.f0, .int .i64 rn.f1, .slice A7 rn.f2.length c7] 45, nrow k40 40 (.slice B1 nf d1) F, nrow k40 40 (.slice B2 nf d2) F]) := ⟨o_⟩
      have K18 := Aside0.mk (K17.out.trans k_)
      have HT_18 := Aside0.mk (TabN.keep HT_17.out k_)
      have HRI_18 := Aside0.mk (keepF HRI_17.out k_)
      clear a6a b6 a7a a7b a7c a7d a7e a7f a7g a7h b7 O17 K17 HT_17 HRI_17
      obtain ⟨a6a, b6⟩ := blk1_ (O18.out.blk (i := 6) rfl)
      obtain ⟨a7a, a7b, a7c, a7d, a7e, a7f, a7g, a7h, b7⟩ := blk8_ (O18.out.blk (i := 7) rfl)
      clear o_ k_ oo_ kk_ on_ nn_ rr_ bb_
      clear hHeld
      refine hK_.out _ _ a6a (fun hHeld => ?_)
      clear hK_ K_
      refine nP ?_
      refine oP 12 (some 105) (fun K_ hK_ => ?_)
      refine hP Tryd.func22 #[.slice B1 nf d1, .slice B2 nf d2] ?_
      refine (sameF_n nf F HF.out.2.1 (O18.out.nreads (i := 8) rfl).2.2 (O18.out.nreads (i := 8) rfl).2.1 (O18.out.nreads (i := 9) rfl).2.2 (O18.out.nreads (i := 9) rfl).2.1 HF.out.2.2).mono ?_
      rintro e_ w19 ⟨rfl, hb_⟩
      refine ⟨_, rfl, ?_⟩
      have o_ := O18.out.below hb_
      have k_ := KeepS.of_below (N := N) hb_
      have O19 := Aside0.mk o_
      have K19 := Aside0.mk (K18.out.trans k_)
      have HT_19 := Aside0.mk (TabN.keep HT_18.out k_)
      have HRI_19 := Aside0.mk (keepF HRI_18.out k_)
      clear a6a b6 a7a a7b a7c a7d a7e a7f a7g a7h b7 O18 K18 HT_18 HRI_18
      obtain ⟨a6a, b6⟩ := blk1_ (O19.out.blk (i := 6) rfl)
      obtain ⟨a7a, a7b, a7c, a7d, a7e, a7f, a7g, a7h, b7⟩ := blk8_ (O19.out.blk (i := 7) rfl)
      clear o_ k_ hb_
      clear hHeld
      refine hK_.out _ _ a6a (fun hHeld => ?_)
      clear hK_ K_
      refine nP ?_
      refine pP 13 (some 106) ?_
      refine pP 14 (some 107) ?_
      refine done_ (by kernel_rfl) ?_
      clear hHeld
      go_wp2
      go_roundw
      case rel => exact ⟨x + 1, E2, L, All2, Ak2, RA2, a, by have := HX.out; omega, by have := HX.out; omega, int_eq (by unfold wrap64; have := HX.out; have := HL60.out; omega), HI2, ⟨O19.out.take 7⟩, K19⟩
      case measure => have := HX.out; simp [intOf]; omega
     by_cases hk3 : K = 3
     ·skip
      have e1 : (K == 1) = false := by simp [hk1]
      have e2 : (K == 2) = false := by simp [hk2]
      have e3 : (K == 3) = true := by simp [hk3]
      have HKE : Aside0 (K = 3) := ⟨hk3⟩
      clear hk1 hk2 hk3
      have HI2 : Aside0 (FpS W room (x + 1) E L All Ak RA 0) := ⟨by have h_ := HI.out.next (x' := x + 1) (by omega); exact ⟨h_.1, h_.2.1, h_.2.2.1, h_.2.2.2.1, by omega, by omega⟩⟩
      go_wp2_with (first | ((with_reducible refine gate_dst (N := 12) rfl ?_); refine bP 12 #[.int .i64 0, .int .i64 0, .int .i64 0, .int .i64 0, .string ⟨#[]⟩, .int .i64 0, .int .i64 0, .slice none 0 0] 45 O10.out ?_; intro ga w11 o_ k_; have O11 : Aside0 (Own N w11 [cells gx #[.int .i64 a0_0, .int .i64 a0_1] 22, ObjC gl 3 L, LinkD gk E a0_0 a0_1 W All Ak room RA, cells gf #[.int .i64 a] 78, ObjM gm 3 L, DLnk gn E a0_0 a0_1 true W All Ak room RA, cells gg #[.int .i64 a] 36, cells ga #[.int .i64 0, .int .i64 0, .int .i64 0, .int .i64 0, .string ⟨#[]⟩, .int .i64 0, .int .i64 0, .slice none 0 0] 45]) := ⟨o_⟩; have K11 := Aside0.mk (K10.out.trans k_); have HT_11 := Aside0.mk (TabN.keep HT_10.out k_); have HRI_11 := Aside0.mk (keepF HRI_10.out k_); clear a6a b6 O10 K10 HT_10 HRI_10; obtain ⟨a6a, b6⟩ := blk1_ (O11.out.blk (i := 6) rfl); obtain ⟨a7a, a7b, a7c, a7d, a7e, a7f, a7g, a7h, b7⟩ := blk8_ (O11.out.blk (i := 7) rfl); clear o_ k_) | ((with_reducible refine gate_store (t := 45) (p := 12) rfl ?_); refine wP (World.setCell (World.setCell (World.setCell (World.setCell (World.setCell (World.setCell (World.setCell (World.setCell w11 ⟨ga, 0, none⟩ (.int .i64 K)) ⟨ga, 1, none⟩ (.int .i64 fr_.f0)) ⟨ga, 2, none⟩ (.int .i64 fr_.f1)) ⟨ga, 3, none⟩ (.int .i64 fr_.f2)) ⟨ga, 4, none⟩ (.string fr_.f3)) ⟨ga, 5, none⟩ (.int .i64 rn.f0)) ⟨ga, 6, none⟩ (.int .i64 rn.f1)) ⟨ga, 7, none⟩ (.slice A7 rn.f2.length c7)) [cells gx #[.int .i64 a0_0, .int .i64 a0_1] 22, ObjC gl 3 L, LinkD gk E a0_0 a0_1 W All Ak room RA, cells gf #[.int .i64 a] 78, ObjM gm 3 L, DLnk gn E a0_0 a0_1 true W All Ak room RA, cells gg #[.int .i64 a] 36, cells ga #[.int .i64 K, .int .i64 fr_.f0, .int .i64 fr_.f1, .int .i64 fr_.f2, .string fr_.f3, .int .i64 rn.f0, .int .i64 rn.f1, .slice A7 rn.f2.length c7] 45] ((((((((O11.out.set (i := 7) rfl 0 (.int .i64 K)).set (i := 7) rfl 1 (.int .i64 fr_.f0)).set (i := 7) rfl 2 (.int .i64 fr_.f1)).set (i := 7) rfl 3 (.int .i64 fr_.f2)).set (i := 7) rfl 4 (.string fr_.f3)).set (i := 7) rfl 5 (.int .i64 rn.f0)).set (i := 7) rfl 6 (.int .i64 rn.f1)).set (i := 7) rfl 7 (.slice A7 rn.f2.length c7)) ((((((((KeepS.setCell (O11.out.far (i := 7) rfl) (.int .i64 K)).trans (KeepS.setCell (O11.out.far (i := 7) rfl) (.int .i64 fr_.f0))).trans (KeepS.setCell (O11.out.far (i := 7) rfl) (.int .i64 fr_.f1))).trans (KeepS.setCell (O11.out.far (i := 7) rfl) (.int .i64 fr_.f2))).trans (KeepS.setCell (O11.out.far (i := 7) rfl) (.string fr_.f3))).trans (KeepS.setCell (O11.out.far (i := 7) rfl) (.int .i64 rn.f0))).trans (KeepS.setCell (O11.out.far (i := 7) rfl) (.int .i64 rn.f1))).trans (KeepS.setCell (O11.out.far (i := 7) rfl) (.slice A7 rn.f2.length c7))) ?_; intro w12 o_ k_; have O12 := Aside0.mk o_; have K12 := Aside0.mk (K11.out.trans k_); have HT_12 := Aside0.mk (TabN.keep HT_11.out k_); have HRI_12 := Aside0.mk (keepF HRI_11.out k_); clear a6a b6 a7a a7b a7c a7d a7e a7f a7g a7h b7 O11 K11 HT_11 HRI_11; obtain ⟨a6a, b6⟩ := blk1_ (O12.out.blk (i := 6) rfl); obtain ⟨a7a, a7b, a7c, a7d, a7e, a7f, a7g, a7h, b7⟩ := blk8_ (O12.out.blk (i := 7) rfl); clear o_ k_) | ((with_reducible refine gate_callee (f := 18) rfl ?_); refine gP (some 79) Tryd.func18 #[.pointer (some ⟨gf, 0, none⟩)] ?_; obtain ⟨N_, on_, nn_, rr_, bb_⟩ := O12.out.frame1 (i := 3) rfl; refine (FReset on_).mono ?_; rintro e_ w13 ⟨rfl, oo_, kk_⟩; obtain ⟨o_, k_⟩ := bb_ _ _ _ kk_ oo_; refine ⟨_, rfl, ?_⟩; have O13 : Aside0 (Own N w13 [cells gx #[.int .i64 a0_0, .int .i64 a0_1] 22, ObjC gl 3 L, LinkD gk E a0_0 a0_1 W All Ak room RA, cells gf #[.int .i64 0] 78, ObjM gm 3 L, DLnk gn E a0_0 a0_1 true W All Ak room RA, cells gg #[.int .i64 a] 36, cells ga #[.int .i64 K, .int .i64 fr_.f0, .int .i64 fr_.f1, .int .i64 fr_.f2, .string fr_.f3, .int .i64 rn.f0, .int .i64 rn.f1, .slice A7 rn.f2.length c7] 45]) := ⟨o_⟩; have K13 := Aside0.mk (K12.out.trans k_); have HT_13 := Aside0.mk (TabN.keep HT_12.out k_); have HRI_13 := Aside0.mk (keepF HRI_12.out k_); clear a6a b6 a7a a7b a7c a7d a7e a7f a7g a7h b7 O12 K12 HT_12 HRI_12; obtain ⟨a6a, b6⟩ := blk1_ (O13.out.blk (i := 6) rfl); obtain ⟨a7a, a7b, a7c, a7d, a7e, a7f, a7g, a7h, b7⟩ := blk8_ (O13.out.blk (i := 7) rfl); clear o_ k_ oo_ kk_ on_ nn_ rr_ bb_) | ((with_reducible refine gate_store (t := 3) (p := 82) rfl ?_); refine wP (World.setCell w13 ⟨gg, 0, none⟩ (.int .i64 0)) [cells gx #[.int .i64 a0_0, .int .i64 a0_1] 22, ObjC gl 3 L, LinkD gk E a0_0 a0_1 W All Ak room RA, cells gf #[.int .i64 0] 78, ObjM gm 3 L, DLnk gn E a0_0 a0_1 true W All Ak room RA, cells gg #[.int .i64 0] 36, cells ga #[.int .i64 K, .int .i64 fr_.f0, .int .i64 fr_.f1, .int .i64 fr_.f2, .string fr_.f3, .int .i64 rn.f0, .int .i64 rn.f1, .slice A7 rn.f2.length c7] 45] (O13.out.set (i := 6) rfl 0 (.int .i64 0)) (KeepS.setCell (O13.out.far (i := 6) rfl) (.int .i64 0)) ?_; intro w14 o_ k_; have O14 := Aside0.mk o_; have K14 := Aside0.mk (K13.out.trans k_); have HT_14 := Aside0.mk (TabN.keep HT_13.out k_); have HRI_14 := Aside0.mk (keepF HRI_13.out k_); clear a6a b6 a7a a7b a7c a7d a7e a7f a7g a7h b7 O13 K13 HT_13 HRI_13; obtain ⟨a6a, b6⟩ := blk1_ (O14.out.blk (i := 6) rfl); obtain ⟨a7a, a7b, a7c, a7d, a7e, a7f, a7g, a7h, b7⟩ := blk8_ (O14.out.blk (i := 7) rfl); clear o_ k_))
      obtain ⟨F, hF⟩ : ∃ F, F = frs E RA.length (nums Ak (All.drop (Ak).toNat)) := ⟨_, rfl⟩
      obtain ⟨nf, hnf⟩ : ∃ n, n = F.length := ⟨_, rfl⟩
      have HB9 : Aside0 ((nums Ak (All.drop (Ak).toNat)).length ≤ 16 ∧ E ≠ 0 ∧ (0 ≤ Ak ∧ Ak ≤ All.length ∧ All.length ≤ 1000000) ∧ (All.length : Int) - Ak ≤ 16) := ⟨by have h_ := HI2.out; have hw_ := HW.out; have hx_ := HX.out; have hl_ := HL60.out; unfold FpS at h_; rw [nums_len, List.length_drop]; omega⟩
      have HF : Aside0 (frs E RA.length (nums Ak (All.drop (Ak).toNat)) = F ∧ F.length = nf ∧ nf ≤ 100) := ⟨hF.symm, hnf.symm, by rw [hnf, hF]; have h_ := frs_max E RA.length (nums Ak (All.drop (Ak).toNat)); have := HB9.out; omega⟩
      clear hF hnf
      have haa : (0 != 0) = false := by simp
      refine sP (n := 15) (S := fun w' => w'.cell? ⟨gg, 0, none⟩ = some (.int .i64 0)) (ds := []) a6a (fun hHeld => ?_)
      obtain ⟨w15, hw_⟩ : ∃ W, W = w14.drew := ⟨_, rfl⟩
      have o_ := O14.out.drew
      have k_ : KeepS N w14 w14.drew := KeepS.drew
      rw [← hw_] at o_ k_ hHeld ⊢
      clear hw_
      have O15 := Aside0.mk o_
      have K15 := Aside0.mk (K14.out.trans k_)
      have HT_15 := Aside0.mk (TabN.keep HT_14.out k_)
      have HRI_15 := Aside0.mk (keepF HRI_14.out k_)
      clear a6a b6 a7a a7b a7c a7d a7e a7f a7g a7h b7 O14 K14 HT_14 HRI_14
      obtain ⟨a6a, b6⟩ := blk1_ (O15.out.blk (i := 6) rfl)
      obtain ⟨a7a, a7b, a7c, a7d, a7e, a7f, a7g, a7h, b7⟩ := blk8_ (O15.out.blk (i := 7) rfl)
      clear o_ k_
      refine pP 0 (some 93) ?_
      refine pP 2 (some 95) ?_
      refine pP 3 (some 96) ?_
      refine pP 4 (some 97) ?_
      refine tP 5 (some 98) hHeld ?_
      refine oP 1 (some 94) (fun K_ hK_ => ?_)
      refine hP Tryd.func21 #[.pointer (some ⟨gf, 0, none⟩)] ?_
      obtain ⟨N_, on_, nn_, rr_, bb_⟩ := O15.out.frame1 (i := 3) rfl
      refine (FAt on_).mono ?_
      rintro e_ w16 ⟨rfl, oo_, kk_⟩
      obtain ⟨o_, k_⟩ := bb_ _ _ _ kk_ oo_
      refine ⟨_, rfl, ?_⟩
      have O16 : Aside0 (Own N w16 [cells gx #[.int .i64 a0_0, .int .i64 a0_1] 22, ObjC gl 3 L, LinkD gk E a0_0 a0_1 W All Ak room RA, cells gf #[.int .i64 0] 78, ObjM gm 3 L, DLnk gn E a0_0 a0_1 true W All Ak room RA, cells gg #[.int .i64 0] 36, cells ga #[.int .i64 K, .int .i64 fr_.f0, .int .i64 fr_.f1, .int .i64 fr_.f2, .string fr_.f3, .int .i64 rn.f0, .int .i64 rn.f1, .slice A7 rn.f2.length c7] 45]) := ⟨o_⟩
      have K16 := Aside0.mk (K15.out.trans k_)
      have HT_16 := Aside0.mk (TabN.keep HT_15.out k_)
      have HRI_16 := Aside0.mk (keepF HRI_15.out k_)
      clear a6a b6 a7a a7b a7c a7d a7e a7f a7g a7h b7 O15 K15 HT_15 HRI_15
      obtain ⟨a6a, b6⟩ := blk1_ (O16.out.blk (i := 6) rfl)
      obtain ⟨a7a, a7b, a7c, a7d, a7e, a7f, a7g, a7h, b7⟩ := blk8_ (O16.out.blk (i := 7) rfl)
      clear o_ k_ oo_ kk_ on_ nn_ rr_ bb_
      clear hHeld
      refine hK_.out _ _ a6a (fun hHeld => ?_)
      clear hK_ K_
      refine nP ?_
      refine pP 6 (some 99) ?_
      refine pP 7 (some 100) ?_
      refine pP 8 (some 101) ?_
      refine pP 10 (some 103) ?_
      refine oP 9 (some 102) (fun K_ hK_ => ?_)
      refine hP Tryd.func23 #[.pointer (some ⟨gk, 0, none⟩)] ?_
      obtain ⟨N_, on_, nn_, rr_, bb_⟩ := O16.out.frame1 (i := 2) rfl
      refine (LFrames_n nf F HF.out.2.1 HF.out.1 on_ HB9.out.2.1 HB9.out.1).mono ?_
      rintro e_ w17 ⟨B1, d1, rfl, oo_, kk_⟩
      obtain ⟨o_, k_⟩ := bb_ _ _ _ kk_ oo_
      refine ⟨_, rfl, ?_⟩
      have O17 : Aside0 (Own N w17 [cells gx #[.int .i64 a0_0, .int .i64 a0_1] 22, ObjC gl 3 L, LinkD gk E a0_0 a0_1 W All Ak room RA, cells gf #[.int .i64 0] 78, ObjM gm 3 L, DLnk gn E a0_0 a0_1 true W All Ak room RA, cells gg #[.int .i64 0] 36, cells ga #[.int .i64 K, .int .i64 fr_.f0, .int .i64 fr_.f1, .int .i64 fr_.f2, .string fr_.f3, .int .i64 rn.f0, .int .i64 rn.f1, .slice A7 rn.f2.length c7] 45, nrow k40 40 (.slice B1 nf d1) F]) := ⟨o_⟩
      have K17 := Aside0.mk (K16.out.trans k_)
      have HT_17 := Aside0.mk (TabN.keep HT_16.out k_)
      have HRI_17 := Aside0.mk (keepF HRI_16.out k_)
      clear a6a b6 a7a a7b a7c a7d a7e a7f a7g a7h b7 O16 K16 HT_16 HRI_16
      obtain ⟨a6a, b6⟩ := blk1_ (O17.out.blk (i := 6) rfl)
      obtain ⟨a7a, a7b, a7c, a7d, a7e, a7f, a7g, a7h, b7⟩ := blk8_ (O17.out.blk (i := 7) rfl)
      clear o_ k_ oo_ kk_ on_ nn_ rr_ bb_
      clear hHeld
      refine hK_.out _ _ a6a (fun hHeld => ?_)
      clear hK_ K_
      refine nP ?_
      refine oP 11 (some 104) (fun K_ hK_ => ?_)
      refine hP Tryd.func24 #[.pointer (some ⟨gn, 0, none⟩)] ?_
      obtain ⟨N_, on_, nn_, rr_, bb_⟩ := O17.out.frame1 (i := 5) rfl
      refine (DFrames_n nf F HF.out.2.1 HF.out.1 on_ HB9.out.2.1 HB9.out.2.2.1 HB9.out.2.2.2).mono ?_
      rintro e_ w18 ⟨B2, d2, rfl, oo_, kk_⟩
      obtain ⟨o_, k_⟩ := bb_ _ _ _ kk_ oo_
      refine ⟨_, rfl, ?_⟩
      have O18 : Aside0 (Own N w18 [cells gx #[.int .i64 a0_0, .int .i64 a0_1] 22, ObjC gl 3 L, LinkD gk E a0_0 a0_1 W All Ak room RA, cells gf #[.int .i64 0] 78, ObjM gm 3 L, DLnk gn E a0_0 a0_1 true W All Ak room RA, cells gg #[.int .i64 0] 36, cells ga #[.int .i64 K, .int .i64 fr_.f0, .int .i64 fr_.f1, .int .i64 fr_.f2, .string fr_.f3, .int .i64 rn.f0, .int .i64 rn.f1, .slice A7 rn.f2.length c7] 45, nrow k40 40 (.slice B1 nf d1) F, nrow k40 40 (.slice B2 nf d2) F]) := ⟨o_⟩
      have K18 := Aside0.mk (K17.out.trans k_)
      have HT_18 := Aside0.mk (TabN.keep HT_17.out k_)
      have HRI_18 := Aside0.mk (keepF HRI_17.out k_)
      clear a6a b6 a7a a7b a7c a7d a7e a7f a7g a7h b7 O17 K17 HT_17 HRI_17
      obtain ⟨a6a, b6⟩ := blk1_ (O18.out.blk (i := 6) rfl)
      obtain ⟨a7a, a7b, a7c, a7d, a7e, a7f, a7g, a7h, b7⟩ := blk8_ (O18.out.blk (i := 7) rfl)
      clear o_ k_ oo_ kk_ on_ nn_ rr_ bb_
      clear hHeld
      refine hK_.out _ _ a6a (fun hHeld => ?_)
      clear hK_ K_
      refine nP ?_
      refine oP 12 (some 105) (fun K_ hK_ => ?_)
      refine hP Tryd.func22 #[.slice B1 nf d1, .slice B2 nf d2] ?_
      refine (sameF_n nf F HF.out.2.1 (O18.out.nreads (i := 8) rfl).2.2 (O18.out.nreads (i := 8) rfl).2.1 (O18.out.nreads (i := 9) rfl).2.2 (O18.out.nreads (i := 9) rfl).2.1 HF.out.2.2).mono ?_
      rintro e_ w19 ⟨rfl, hb_⟩
      refine ⟨_, rfl, ?_⟩
      have o_ := O18.out.below hb_
      have k_ := KeepS.of_below (N := N) hb_
      have O19 := Aside0.mk o_
      have K19 := Aside0.mk (K18.out.trans k_)
      have HT_19 := Aside0.mk (TabN.keep HT_18.out k_)
      have HRI_19 := Aside0.mk (keepF HRI_18.out k_)
      clear a6a b6 a7a a7b a7c a7d a7e a7f a7g a7h b7 O18 K18 HT_18 HRI_18
      obtain ⟨a6a, b6⟩ := blk1_ (O19.out.blk (i := 6) rfl)
      obtain ⟨a7a, a7b, a7c, a7d, a7e, a7f, a7g, a7h, b7⟩ := blk8_ (O19.out.blk (i := 7) rfl)
      clear o_ k_ hb_
      clear hHeld
      refine hK_.out _ _ a6a (fun hHeld => ?_)
      clear hK_ K_
      refine nP ?_
      refine pP 13 (some 106) ?_
      refine pP 14 (some 107) ?_
      refine done_ (by kernel_rfl) ?_
      clear hHeld
      go_wp2
      go_roundw
      case rel => exact ⟨x + 1, E, L, All, Ak, RA, 0, by have := HX.out; omega, by have := HX.out; omega, int_eq (by unfold wrap64; have := HX.out; have := HL60.out; omega), HI2, ⟨O19.out.take 7⟩, K19⟩
      case measure => have := HX.out; simp [intOf]; omega
     by_cases hk4 : K = 4
     ·skip
      have e1 : (K == 1) = false := by simp [hk1]
      have e2 : (K == 2) = false := by simp [hk2]
      have e3 : (K == 3) = false := by simp [hk3]
      have e4 : (K == 4) = true := by simp [hk4]
      have HKE : Aside0 (K = 4) := ⟨hk4⟩
      clear hk1 hk2 hk3 hk4
      obtain ⟨L2, hL2⟩ : ∃ L2, L2 = addL 3 L rn := ⟨_, rfl⟩
      have HL2 := Aside0.mk hL2.symm
      have HI2 : Aside0 (FpS W room (x + 1) E L2 All Ak RA a) := ⟨by have h_ := HI.out.next (x' := x + 1) (by omega); have h0_ := HI.out.1.1; have q_ := addL_is 3 L rn HI.out.1.2; rw [← hL2] at q_; exact ⟨⟨by omega, q_.2.2⟩, h_.2.1, h_.2.2.1, h_.2.2.2.1, by have := h_.2.2.2.2; omega⟩⟩
      clear hL2
      go_wp2_with (first | ((with_reducible refine gate_dst (N := 12) rfl ?_); refine bP 12 #[.int .i64 0, .int .i64 0, .int .i64 0, .int .i64 0, .string ⟨#[]⟩, .int .i64 0, .int .i64 0, .slice none 0 0] 45 O10.out ?_; intro ga w11 o_ k_; have O11 : Aside0 (Own N w11 [cells gx #[.int .i64 a0_0, .int .i64 a0_1] 22, ObjC gl 3 L, LinkD gk E a0_0 a0_1 W All Ak room RA, cells gf #[.int .i64 a] 78, ObjM gm 3 L, DLnk gn E a0_0 a0_1 true W All Ak room RA, cells gg #[.int .i64 a] 36, cells ga #[.int .i64 0, .int .i64 0, .int .i64 0, .int .i64 0, .string ⟨#[]⟩, .int .i64 0, .int .i64 0, .slice none 0 0] 45]) := ⟨o_⟩; have K11 := Aside0.mk (K10.out.trans k_); have HT_11 := Aside0.mk (TabN.keep HT_10.out k_); have HRI_11 := Aside0.mk (keepF HRI_10.out k_); clear a6a b6 O10 K10 HT_10 HRI_10; obtain ⟨a6a, b6⟩ := blk1_ (O11.out.blk (i := 6) rfl); obtain ⟨a7a, a7b, a7c, a7d, a7e, a7f, a7g, a7h, b7⟩ := blk8_ (O11.out.blk (i := 7) rfl); clear o_ k_) | ((with_reducible refine gate_store (t := 45) (p := 12) rfl ?_); refine wP (World.setCell (World.setCell (World.setCell (World.setCell (World.setCell (World.setCell (World.setCell (World.setCell w11 ⟨ga, 0, none⟩ (.int .i64 K)) ⟨ga, 1, none⟩ (.int .i64 fr_.f0)) ⟨ga, 2, none⟩ (.int .i64 fr_.f1)) ⟨ga, 3, none⟩ (.int .i64 fr_.f2)) ⟨ga, 4, none⟩ (.string fr_.f3)) ⟨ga, 5, none⟩ (.int .i64 rn.f0)) ⟨ga, 6, none⟩ (.int .i64 rn.f1)) ⟨ga, 7, none⟩ (.slice A7 rn.f2.length c7)) [cells gx #[.int .i64 a0_0, .int .i64 a0_1] 22, ObjC gl 3 L, LinkD gk E a0_0 a0_1 W All Ak room RA, cells gf #[.int .i64 a] 78, ObjM gm 3 L, DLnk gn E a0_0 a0_1 true W All Ak room RA, cells gg #[.int .i64 a] 36, cells ga #[.int .i64 K, .int .i64 fr_.f0, .int .i64 fr_.f1, .int .i64 fr_.f2, .string fr_.f3, .int .i64 rn.f0, .int .i64 rn.f1, .slice A7 rn.f2.length c7] 45] ((((((((O11.out.set (i := 7) rfl 0 (.int .i64 K)).set (i := 7) rfl 1 (.int .i64 fr_.f0)).set (i := 7) rfl 2 (.int .i64 fr_.f1)).set (i := 7) rfl 3 (.int .i64 fr_.f2)).set (i := 7) rfl 4 (.string fr_.f3)).set (i := 7) rfl 5 (.int .i64 rn.f0)).set (i := 7) rfl 6 (.int .i64 rn.f1)).set (i := 7) rfl 7 (.slice A7 rn.f2.length c7)) ((((((((KeepS.setCell (O11.out.far (i := 7) rfl) (.int .i64 K)).trans (KeepS.setCell (O11.out.far (i := 7) rfl) (.int .i64 fr_.f0))).trans (KeepS.setCell (O11.out.far (i := 7) rfl) (.int .i64 fr_.f1))).trans (KeepS.setCell (O11.out.far (i := 7) rfl) (.int .i64 fr_.f2))).trans (KeepS.setCell (O11.out.far (i := 7) rfl) (.string fr_.f3))).trans (KeepS.setCell (O11.out.far (i := 7) rfl) (.int .i64 rn.f0))).trans (KeepS.setCell (O11.out.far (i := 7) rfl) (.int .i64 rn.f1))).trans (KeepS.setCell (O11.out.far (i := 7) rfl) (.slice A7 rn.f2.length c7))) ?_; intro w12 o_ k_; have O12 := Aside0.mk o_; have K12 := Aside0.mk (K11.out.trans k_); have HT_12 := Aside0.mk (TabN.keep HT_11.out k_); have HRI_12 := Aside0.mk (keepF HRI_11.out k_); clear a6a b6 a7a a7b a7c a7d a7e a7f a7g a7h b7 O11 K11 HT_11 HRI_11; obtain ⟨a6a, b6⟩ := blk1_ (O12.out.blk (i := 6) rfl); obtain ⟨a7a, a7b, a7c, a7d, a7e, a7f, a7g, a7h, b7⟩ := blk8_ (O12.out.blk (i := 7) rfl); clear o_ k_) | ((with_reducible refine gate_callee (f := 19) rfl ?_); refine gP (some 88) Tryd.func19 #[.pointer (some ⟨gl, 0, none⟩), .agg #[.int .i64 rn.f0, .int .i64 rn.f1, .slice A7 rn.f2.length c7]] ?_; obtain ⟨N_, on_, nn_, rr_, bb_⟩ := O12.out.frame1 (i := 1) rfl; have hr_ := Kd.F_mono HRI_12.out nn_; refine (Add_a A7 c7 rn on_ hr_ HC7.out (by have := HLL.out; omega) HU.out HI.out.1.2).mono ?_; rintro e_ w13 ⟨ra_, rfl, oo_, kk_⟩; rw [HL2.out] at oo_; obtain ⟨o_, k_⟩ := bb_ _ _ _ kk_ oo_; refine ⟨_, rfl, ?_⟩; have O13 : Aside0 (Own N w13 [cells gx #[.int .i64 a0_0, .int .i64 a0_1] 22, ObjC gl 3 L2, LinkD gk E a0_0 a0_1 W All Ak room RA, cells gf #[.int .i64 a] 78, ObjM gm 3 L, DLnk gn E a0_0 a0_1 true W All Ak room RA, cells gg #[.int .i64 a] 36, cells ga #[.int .i64 K, .int .i64 fr_.f0, .int .i64 fr_.f1, .int .i64 fr_.f2, .string fr_.f3, .int .i64 rn.f0, .int .i64 rn.f1, .slice A7 rn.f2.length c7] 45]) := ⟨o_⟩; have K13 := Aside0.mk (K12.out.trans k_); have HT_13 := Aside0.mk (TabN.keep HT_12.out k_); have HRI_13 := Aside0.mk (keepF HRI_12.out k_); clear a6a b6 a7a a7b a7c a7d a7e a7f a7g a7h b7 O12 K12 HT_12 HRI_12; obtain ⟨a6a, b6⟩ := blk1_ (O13.out.blk (i := 6) rfl); obtain ⟨a7a, a7b, a7c, a7d, a7e, a7f, a7g, a7h, b7⟩ := blk8_ (O13.out.blk (i := 7) rfl); clear o_ k_ oo_ kk_ on_ nn_ rr_ bb_ hr_) | ((with_reducible refine gate_callee (f := 20) rfl ?_); refine gP (some 92) Tryd.func20 #[.pointer (some ⟨gm, 0, none⟩), .agg #[.int .i64 rn.f0, .int .i64 rn.f1, .slice A7 rn.f2.length c7]] ?_; obtain ⟨N_, on_, nn_, rr_, bb_⟩ := O13.out.frame1 (i := 4) rfl; have hr_ := Kd.F_mono HRI_13.out nn_; refine (RAdd_a A7 c7 rn on_ hr_ HC7.out (by have := HLL.out; omega) HU.out HI.out.1.2).mono ?_; rintro e_ w14 ⟨ra_, rfl, oo_, kk_⟩; rw [HL2.out] at oo_; obtain ⟨o_, k_⟩ := bb_ _ _ _ kk_ oo_; refine ⟨_, rfl, ?_⟩; have O14 : Aside0 (Own N w14 [cells gx #[.int .i64 a0_0, .int .i64 a0_1] 22, ObjC gl 3 L2, LinkD gk E a0_0 a0_1 W All Ak room RA, cells gf #[.int .i64 a] 78, ObjM gm 3 L2, DLnk gn E a0_0 a0_1 true W All Ak room RA, cells gg #[.int .i64 a] 36, cells ga #[.int .i64 K, .int .i64 fr_.f0, .int .i64 fr_.f1, .int .i64 fr_.f2, .string fr_.f3, .int .i64 rn.f0, .int .i64 rn.f1, .slice A7 rn.f2.length c7] 45]) := ⟨o_⟩; have K14 := Aside0.mk (K13.out.trans k_); have HT_14 := Aside0.mk (TabN.keep HT_13.out k_); have HRI_14 := Aside0.mk (keepF HRI_13.out k_); clear a6a b6 a7a a7b a7c a7d a7e a7f a7g a7h b7 O13 K13 HT_13 HRI_13; obtain ⟨a6a, b6⟩ := blk1_ (O14.out.blk (i := 6) rfl); obtain ⟨a7a, a7b, a7c, a7d, a7e, a7f, a7g, a7h, b7⟩ := blk8_ (O14.out.blk (i := 7) rfl); clear o_ k_ oo_ kk_ on_ nn_ rr_ bb_ hr_))
      obtain ⟨F, hF⟩ : ∃ F, F = frs E RA.length (nums Ak (All.drop (Ak).toNat)) := ⟨_, rfl⟩
      obtain ⟨nf, hnf⟩ : ∃ n, n = F.length := ⟨_, rfl⟩
      have HB9 : Aside0 ((nums Ak (All.drop (Ak).toNat)).length ≤ 16 ∧ E ≠ 0 ∧ (0 ≤ Ak ∧ Ak ≤ All.length ∧ All.length ≤ 1000000) ∧ (All.length : Int) - Ak ≤ 16) := ⟨by have h_ := HI2.out; have hw_ := HW.out; have hx_ := HX.out; have hl_ := HL60.out; unfold FpS at h_; rw [nums_len, List.length_drop]; omega⟩
      have HF : Aside0 (frs E RA.length (nums Ak (All.drop (Ak).toNat)) = F ∧ F.length = nf ∧ nf ≤ 100) := ⟨hF.symm, hnf.symm, by rw [hnf, hF]; have h_ := frs_max E RA.length (nums Ak (All.drop (Ak).toNat)); have := HB9.out; omega⟩
      clear hF hnf
      have haa : (a != a) = false := by simp
      refine sP (n := 15) (S := fun w' => w'.cell? ⟨gg, 0, none⟩ = some (.int .i64 a)) (ds := []) a6a (fun hHeld => ?_)
      obtain ⟨w15, hw_⟩ : ∃ W, W = w14.drew := ⟨_, rfl⟩
      have o_ := O14.out.drew
      have k_ : KeepS N w14 w14.drew := KeepS.drew
      rw [← hw_] at o_ k_ hHeld ⊢
      clear hw_
      have O15 := Aside0.mk o_
      have K15 := Aside0.mk (K14.out.trans k_)
      have HT_15 := Aside0.mk (TabN.keep HT_14.out k_)
      have HRI_15 := Aside0.mk (keepF HRI_14.out k_)
      clear a6a b6 a7a a7b a7c a7d a7e a7f a7g a7h b7 O14 K14 HT_14 HRI_14
      obtain ⟨a6a, b6⟩ := blk1_ (O15.out.blk (i := 6) rfl)
      obtain ⟨a7a, a7b, a7c, a7d, a7e, a7f, a7g, a7h, b7⟩ := blk8_ (O15.out.blk (i := 7) rfl)
      clear o_ k_
      refine pP 0 (some 93) ?_
      refine pP 2 (some 95) ?_
      refine pP 3 (some 96) ?_
      refine pP 4 (some 97) ?_
      refine tP 5 (some 98) hHeld ?_
      refine oP 1 (some 94) (fun K_ hK_ => ?_)
      refine hP Tryd.func21 #[.pointer (some ⟨gf, 0, none⟩)] ?_
      obtain ⟨N_, on_, nn_, rr_, bb_⟩ := O15.out.frame1 (i := 3) rfl
      refine (FAt on_).mono ?_
      rintro e_ w16 ⟨rfl, oo_, kk_⟩
      obtain ⟨o_, k_⟩ := bb_ _ _ _ kk_ oo_
      refine ⟨_, rfl, ?_⟩
      have O16 : Aside0 (Own N w16 [cells gx #[.int .i64 a0_0, .int .i64 a0_1] 22, ObjC gl 3 L2, LinkD gk E a0_0 a0_1 W All Ak room RA, cells gf #[.int .i64 a] 78, ObjM gm 3 L2, DLnk gn E a0_0 a0_1 true W All Ak room RA, cells gg #[.int .i64 a] 36, cells ga #[.int .i64 K, .int .i64 fr_.f0, .int .i64 fr_.f1, .int .i64 fr_.f2, .string fr_.f3, .int .i64 rn.f0, .int .i64 rn.f1, .slice A7 rn.f2.length c7] 45]) := ⟨o_⟩
      have K16 := Aside0.mk (K15.out.trans k_)
      have HT_16 := Aside0.mk (TabN.keep HT_15.out k_)
      have HRI_16 := Aside0.mk (keepF HRI_15.out k_)
      clear a6a b6 a7a a7b a7c a7d a7e a7f a7g a7h b7 O15 K15 HT_15 HRI_15
      obtain ⟨a6a, b6⟩ := blk1_ (O16.out.blk (i := 6) rfl)
      obtain ⟨a7a, a7b, a7c, a7d, a7e, a7f, a7g, a7h, b7⟩ := blk8_ (O16.out.blk (i := 7) rfl)
      clear o_ k_ oo_ kk_ on_ nn_ rr_ bb_
      clear hHeld
      refine hK_.out _ _ a6a (fun hHeld => ?_)
      clear hK_ K_
      refine nP ?_
      refine pP 6 (some 99) ?_
      refine pP 7 (some 100) ?_
      refine pP 8 (some 101) ?_
      refine pP 10 (some 103) ?_
      refine oP 9 (some 102) (fun K_ hK_ => ?_)
      refine hP Tryd.func23 #[.pointer (some ⟨gk, 0, none⟩)] ?_
      obtain ⟨N_, on_, nn_, rr_, bb_⟩ := O16.out.frame1 (i := 2) rfl
      refine (LFrames_n nf F HF.out.2.1 HF.out.1 on_ HB9.out.2.1 HB9.out.1).mono ?_
      rintro e_ w17 ⟨B1, d1, rfl, oo_, kk_⟩
      obtain ⟨o_, k_⟩ := bb_ _ _ _ kk_ oo_
      refine ⟨_, rfl, ?_⟩
      have O17 : Aside0 (Own N w17 [cells gx #[.int .i64 a0_0, .int .i64 a0_1] 22, ObjC gl 3 L2, LinkD gk E a0_0 a0_1 W All Ak room RA, cells gf #[.int .i64 a] 78, ObjM gm 3 L2, DLnk gn E a0_0 a0_1 true W All Ak room RA, cells gg #[.int .i64 a] 36, cells ga #[.int .i64 K, .int .i64 fr_.f0, .int .i64 fr_.f1, .int .i64 fr_.f2, .string fr_.f3, .int .i64 rn.f0, .int .i64 rn.f1, .slice A7 rn.f2.length c7] 45, nrow k40 40 (.slice B1 nf d1) F]) := ⟨o_⟩
      have K17 := Aside0.mk (K16.out.trans k_)
      have HT_17 := Aside0.mk (TabN.keep HT_16.out k_)
      have HRI_17 := Aside0.mk (keepF HRI_16.out k_)
      clear a6a b6 a7a a7b a7c a7d a7e a7f a7g a7h b7 O16 K16 HT_16 HRI_16
      obtain ⟨a6a, b6⟩ := blk1_ (O17.out.blk (i := 6) rfl)
      obtain ⟨a7a, a7b, a7c, a7d, a7e, a7f, a7g, a7h, b7⟩ := blk8_ (O17.out.blk (i := 7) rfl)
      clear o_ k_ oo_ kk_ on_ nn_ rr_ bb_
      clear hHeld
      refine hK_.out _ _ a6a (fun hHeld => ?_)
      clear hK_ K_
      refine nP ?_
      refine oP 11 (some 104) (fun K_ hK_ => ?_)
      refine hP Tryd.func24 #[.pointer (some ⟨gn, 0, none⟩)] ?_
      obtain ⟨N_, on_, nn_, rr_, bb_⟩ := O17.out.frame1 (i := 5) rfl
      refine (DFrames_n nf F HF.out.2.1 HF.out.1 on_ HB9.out.2.1 HB9.out.2.2.1 HB9.out.2.2.2).mono ?_
      rintro e_ w18 ⟨B2, d2, rfl, oo_, kk_⟩
      obtain ⟨o_, k_⟩ := bb_ _ _ _ kk_ oo_
      refine ⟨_, rfl, ?_⟩
      have O18 : Aside0 (Own N w18 [cells gx #[.int .i64 a0_0, .int .i64 a0_1] 22, ObjC gl 3 L2, LinkD gk E a0_0 a0_1 W All Ak room RA, cells gf #[.int .i64 a] 78, ObjM gm 3 L2, DLnk gn E a0_0 a0_1 true W All Ak room RA, cells gg #[.int .i64 a] 36, cells ga #[.int .i64 K, .int .i64 fr_.f0, .int .i64 fr_.f1, .int .i64 fr_.f2, .string fr_.f3, .int .i64 rn.f0, .int .i64 rn.f1, .slice A7 rn.f2.length c7] 45, nrow k40 40 (.slice B1 nf d1) F, nrow k40 40 (.slice B2 nf d2) F]) := ⟨o_⟩
      have K18 := Aside0.mk (K17.out.trans k_)
      have HT_18 := Aside0.mk (TabN.keep HT_17.out k_)
      have HRI_18 := Aside0.mk (keepF HRI_17.out k_)
      clear a6a b6 a7a a7b a7c a7d a7e a7f a7g a7h b7 O17 K17 HT_17 HRI_17
      obtain ⟨a6a, b6⟩ := blk1_ (O18.out.blk (i := 6) rfl)
      obtain ⟨a7a, a7b, a7c, a7d, a7e, a7f, a7g, a7h, b7⟩ := blk8_ (O18.out.blk (i := 7) rfl)
      clear o_ k_ oo_ kk_ on_ nn_ rr_ bb_
      clear hHeld
      refine hK_.out _ _ a6a (fun hHeld => ?_)
      clear hK_ K_
      refine nP ?_
      refine oP 12 (some 105) (fun K_ hK_ => ?_)
      refine hP Tryd.func22 #[.slice B1 nf d1, .slice B2 nf d2] ?_
      refine (sameF_n nf F HF.out.2.1 (O18.out.nreads (i := 8) rfl).2.2 (O18.out.nreads (i := 8) rfl).2.1 (O18.out.nreads (i := 9) rfl).2.2 (O18.out.nreads (i := 9) rfl).2.1 HF.out.2.2).mono ?_
      rintro e_ w19 ⟨rfl, hb_⟩
      refine ⟨_, rfl, ?_⟩
      have o_ := O18.out.below hb_
      have k_ := KeepS.of_below (N := N) hb_
      have O19 := Aside0.mk o_
      have K19 := Aside0.mk (K18.out.trans k_)
      have HT_19 := Aside0.mk (TabN.keep HT_18.out k_)
      have HRI_19 := Aside0.mk (keepF HRI_18.out k_)
      clear a6a b6 a7a a7b a7c a7d a7e a7f a7g a7h b7 O18 K18 HT_18 HRI_18
      obtain ⟨a6a, b6⟩ := blk1_ (O19.out.blk (i := 6) rfl)
      obtain ⟨a7a, a7b, a7c, a7d, a7e, a7f, a7g, a7h, b7⟩ := blk8_ (O19.out.blk (i := 7) rfl)
      clear o_ k_ hb_
      clear hHeld
      refine hK_.out _ _ a6a (fun hHeld => ?_)
      clear hK_ K_
      refine nP ?_
      refine pP 13 (some 106) ?_
      refine pP 14 (some 107) ?_
      refine done_ (by kernel_rfl) ?_
      clear hHeld
      go_wp2
      go_roundw
      case rel => exact ⟨x + 1, E, L2, All, Ak, RA, a, by have := HX.out; omega, by have := HX.out; omega, int_eq (by unfold wrap64; have := HX.out; have := HL60.out; omega), HI2, ⟨O19.out.take 7⟩, K19⟩
      case measure => have := HX.out; simp [intOf]; omega
     have e1 : (K == 1) = false := by simp [hk1]
     have e2 : (K == 2) = false := by simp [hk2]
     have e3 : (K == 3) = false := by simp [hk3]
     have e4 : (K == 4) = false := by simp [hk4]
     have HKE : Aside0 (True) := ⟨trivial⟩
     clear hk1 hk2 hk3 hk4
     have HI2 : Aside0 (FpS W room (x + 1) E L All Ak RA a) := ⟨HI.out.next (by omega)⟩
     go_wp2_with (first | ((with_reducible refine gate_dst (N := 12) rfl ?_); refine bP 12 #[.int .i64 0, .int .i64 0, .int .i64 0, .int .i64 0, .string ⟨#[]⟩, .int .i64 0, .int .i64 0, .slice none 0 0] 45 O10.out ?_; intro ga w11 o_ k_; have O11 : Aside0 (Own N w11 [cells gx #[.int .i64 a0_0, .int .i64 a0_1] 22, ObjC gl 3 L, LinkD gk E a0_0 a0_1 W All Ak room RA, cells gf #[.int .i64 a] 78, ObjM gm 3 L, DLnk gn E a0_0 a0_1 true W All Ak room RA, cells gg #[.int .i64 a] 36, cells ga #[.int .i64 0, .int .i64 0, .int .i64 0, .int .i64 0, .string ⟨#[]⟩, .int .i64 0, .int .i64 0, .slice none 0 0] 45]) := ⟨o_⟩; have K11 := Aside0.mk (K10.out.trans k_); have HT_11 := Aside0.mk (TabN.keep HT_10.out k_); have HRI_11 := Aside0.mk (keepF HRI_10.out k_); clear a6a b6 O10 K10 HT_10 HRI_10; obtain ⟨a6a, b6⟩ := blk1_ (O11.out.blk (i := 6) rfl); obtain ⟨a7a, a7b, a7c, a7d, a7e, a7f, a7g, a7h, b7⟩ := blk8_ (O11.out.blk (i := 7) rfl); clear o_ k_) | ((with_reducible refine gate_store (t := 45) (p := 12) rfl ?_); refine wP (World.setCell (World.setCell (World.setCell (World.setCell (World.setCell (World.setCell (World.setCell (World.setCell w11 ⟨ga, 0, none⟩ (.int .i64 K)) ⟨ga, 1, none⟩ (.int .i64 fr_.f0)) ⟨ga, 2, none⟩ (.int .i64 fr_.f1)) ⟨ga, 3, none⟩ (.int .i64 fr_.f2)) ⟨ga, 4, none⟩ (.string fr_.f3)) ⟨ga, 5, none⟩ (.int .i64 rn.f0)) ⟨ga, 6, none⟩ (.int .i64 rn.f1)) ⟨ga, 7, none⟩ (.slice A7 rn.f2.length c7)) [cells gx #[.int .i64 a0_0, .int .i64 a0_1] 22, ObjC gl 3 L, LinkD gk E a0_0 a0_1 W All Ak room RA, cells gf #[.int .i64 a] 78, ObjM gm 3 L, DLnk gn E a0_0 a0_1 true W All Ak room RA, cells gg #[.int .i64 a] 36, cells ga #[.int .i64 K, .int .i64 fr_.f0, .int .i64 fr_.f1, .int .i64 fr_.f2, .string fr_.f3, .int .i64 rn.f0, .int .i64 rn.f1, .slice A7 rn.f2.length c7] 45] ((((((((O11.out.set (i := 7) rfl 0 (.int .i64 K)).set (i := 7) rfl 1 (.int .i64 fr_.f0)).set (i := 7) rfl 2 (.int .i64 fr_.f1)).set (i := 7) rfl 3 (.int .i64 fr_.f2)).set (i := 7) rfl 4 (.string fr_.f3)).set (i := 7) rfl 5 (.int .i64 rn.f0)).set (i := 7) rfl 6 (.int .i64 rn.f1)).set (i := 7) rfl 7 (.slice A7 rn.f2.length c7)) ((((((((KeepS.setCell (O11.out.far (i := 7) rfl) (.int .i64 K)).trans (KeepS.setCell (O11.out.far (i := 7) rfl) (.int .i64 fr_.f0))).trans (KeepS.setCell (O11.out.far (i := 7) rfl) (.int .i64 fr_.f1))).trans (KeepS.setCell (O11.out.far (i := 7) rfl) (.int .i64 fr_.f2))).trans (KeepS.setCell (O11.out.far (i := 7) rfl) (.string fr_.f3))).trans (KeepS.setCell (O11.out.far (i := 7) rfl) (.int .i64 rn.f0))).trans (KeepS.setCell (O11.out.far (i := 7) rfl) (.int .i64 rn.f1))).trans (KeepS.setCell (O11.out.far (i := 7) rfl) (.slice A7 rn.f2.length c7))) ?_; intro w12 o_ k_; have O12 := Aside0.mk o_; have K12 := Aside0.mk (K11.out.trans k_); have HT_12 := Aside0.mk (TabN.keep HT_11.out k_); have HRI_12 := Aside0.mk (keepF HRI_11.out k_); clear a6a b6 a7a a7b a7c a7d a7e a7f a7g a7h b7 O11 K11 HT_11 HRI_11; obtain ⟨a6a, b6⟩ := blk1_ (O12.out.blk (i := 6) rfl); obtain ⟨a7a, a7b, a7c, a7d, a7e, a7f, a7g, a7h, b7⟩ := blk8_ (O12.out.blk (i := 7) rfl); clear o_ k_))
     obtain ⟨F, hF⟩ : ∃ F, F = frs E RA.length (nums Ak (All.drop (Ak).toNat)) := ⟨_, rfl⟩
     obtain ⟨nf, hnf⟩ : ∃ n, n = F.length := ⟨_, rfl⟩
     have HB9 : Aside0 ((nums Ak (All.drop (Ak).toNat)).length ≤ 16 ∧ E ≠ 0 ∧ (0 ≤ Ak ∧ Ak ≤ All.length ∧ All.length ≤ 1000000) ∧ (All.length : Int) - Ak ≤ 16) := ⟨by have h_ := HI2.out; have hw_ := HW.out; have hx_ := HX.out; have hl_ := HL60.out; unfold FpS at h_; rw [nums_len, List.length_drop]; omega⟩
     have HF : Aside0 (frs E RA.length (nums Ak (All.drop (Ak).toNat)) = F ∧ F.length = nf ∧ nf ≤ 100) := ⟨hF.symm, hnf.symm, by rw [hnf, hF]; have h_ := frs_max E RA.length (nums Ak (All.drop (Ak).toNat)); have := HB9.out; omega⟩
     clear hF hnf
     have haa : (a != a) = false := by simp
     refine sP (n := 15) (S := fun w' => w'.cell? ⟨gg, 0, none⟩ = some (.int .i64 a)) (ds := []) a6a (fun hHeld => ?_)
     obtain ⟨w13, hw_⟩ : ∃ W, W = w12.drew := ⟨_, rfl⟩
     have o_ := O12.out.drew
     have k_ : KeepS N w12 w12.drew := KeepS.drew
     rw [← hw_] at o_ k_ hHeld ⊢
     clear hw_
     have O13 := Aside0.mk o_
     have K13 := Aside0.mk (K12.out.trans k_)
     have HT_13 := Aside0.mk (TabN.keep HT_12.out k_)
     have HRI_13 := Aside0.mk (keepF HRI_12.out k_)
     clear a6a b6 a7a a7b a7c a7d a7e a7f a7g a7h b7 O12 K12 HT_12 HRI_12
     obtain ⟨a6a, b6⟩ := blk1_ (O13.out.blk (i := 6) rfl)
     obtain ⟨a7a, a7b, a7c, a7d, a7e, a7f, a7g, a7h, b7⟩ := blk8_ (O13.out.blk (i := 7) rfl)
     clear o_ k_
     refine pP 0 (some 93) ?_
     refine pP 2 (some 95) ?_
     refine pP 3 (some 96) ?_
     refine pP 4 (some 97) ?_
     refine tP 5 (some 98) hHeld ?_
     refine oP 1 (some 94) (fun K_ hK_ => ?_)
     refine hP Tryd.func21 #[.pointer (some ⟨gf, 0, none⟩)] ?_
     obtain ⟨N_, on_, nn_, rr_, bb_⟩ := O13.out.frame1 (i := 3) rfl
     refine (FAt on_).mono ?_
     rintro e_ w14 ⟨rfl, oo_, kk_⟩
     obtain ⟨o_, k_⟩ := bb_ _ _ _ kk_ oo_
     refine ⟨_, rfl, ?_⟩
     have O14 : Aside0 (Own N w14 [cells gx #[.int .i64 a0_0, .int .i64 a0_1] 22, ObjC gl 3 L, LinkD gk E a0_0 a0_1 W All Ak room RA, cells gf #[.int .i64 a] 78, ObjM gm 3 L, DLnk gn E a0_0 a0_1 true W All Ak room RA, cells gg #[.int .i64 a] 36, cells ga #[.int .i64 K, .int .i64 fr_.f0, .int .i64 fr_.f1, .int .i64 fr_.f2, .string fr_.f3, .int .i64 rn.f0, .int .i64 rn.f1, .slice A7 rn.f2.length c7] 45]) := ⟨o_⟩
     have K14 := Aside0.mk (K13.out.trans k_)
     have HT_14 := Aside0.mk (TabN.keep HT_13.out k_)
     have HRI_14 := Aside0.mk (keepF HRI_13.out k_)
     clear a6a b6 a7a a7b a7c a7d a7e a7f a7g a7h b7 O13 K13 HT_13 HRI_13
     obtain ⟨a6a, b6⟩ := blk1_ (O14.out.blk (i := 6) rfl)
     obtain ⟨a7a, a7b, a7c, a7d, a7e, a7f, a7g, a7h, b7⟩ := blk8_ (O14.out.blk (i := 7) rfl)
     clear o_ k_ oo_ kk_ on_ nn_ rr_ bb_
     clear hHeld
     refine hK_.out _ _ a6a (fun hHeld => ?_)
     clear hK_ K_
     refine nP ?_
     refine pP 6 (some 99) ?_
     refine pP 7 (some 100) ?_
     refine pP 8 (some 101) ?_
     refine pP 10 (some 103) ?_
     refine oP 9 (some 102) (fun K_ hK_ => ?_)
     refine hP Tryd.func23 #[.pointer (some ⟨gk, 0, none⟩)] ?_
     obtain ⟨N_, on_, nn_, rr_, bb_⟩ := O14.out.frame1 (i := 2) rfl
     refine (LFrames_n nf F HF.out.2.1 HF.out.1 on_ HB9.out.2.1 HB9.out.1).mono ?_
     rintro e_ w15 ⟨B1, d1, rfl, oo_, kk_⟩
     obtain ⟨o_, k_⟩ := bb_ _ _ _ kk_ oo_
     refine ⟨_, rfl, ?_⟩
     have O15 : Aside0 (Own N w15 [cells gx #[.int .i64 a0_0, .int .i64 a0_1] 22, ObjC gl 3 L, LinkD gk E a0_0 a0_1 W All Ak room RA, cells gf #[.int .i64 a] 78, ObjM gm 3 L, DLnk gn E a0_0 a0_1 true W All Ak room RA, cells gg #[.int .i64 a] 36, cells ga #[.int .i64 K, .int .i64 fr_.f0, .int .i64 fr_.f1, .int .i64 fr_.f2, .string fr_.f3, .int .i64 rn.f0, .int .i64 rn.f1, .slice A7 rn.f2.length c7] 45, nrow k40 40 (.slice B1 nf d1) F]) := ⟨o_⟩
     have K15 := Aside0.mk (K14.out.trans k_)
     have HT_15 := Aside0.mk (TabN.keep HT_14.out k_)
     have HRI_15 := Aside0.mk (keepF HRI_14.out k_)
     clear a6a b6 a7a a7b a7c a7d a7e a7f a7g a7h b7 O14 K14 HT_14 HRI_14
     obtain ⟨a6a, b6⟩ := blk1_ (O15.out.blk (i := 6) rfl)
     obtain ⟨a7a, a7b, a7c, a7d, a7e, a7f, a7g, a7h, b7⟩ := blk8_ (O15.out.blk (i := 7) rfl)
     clear o_ k_ oo_ kk_ on_ nn_ rr_ bb_
     clear hHeld
     refine hK_.out _ _ a6a (fun hHeld => ?_)
     clear hK_ K_
     refine nP ?_
     refine oP 11 (some 104) (fun K_ hK_ => ?_)
     refine hP Tryd.func24 #[.pointer (some ⟨gn, 0, none⟩)] ?_
     obtain ⟨N_, on_, nn_, rr_, bb_⟩ := O15.out.frame1 (i := 5) rfl
     refine (DFrames_n nf F HF.out.2.1 HF.out.1 on_ HB9.out.2.1 HB9.out.2.2.1 HB9.out.2.2.2).mono ?_
     rintro e_ w16 ⟨B2, d2, rfl, oo_, kk_⟩
     obtain ⟨o_, k_⟩ := bb_ _ _ _ kk_ oo_
     refine ⟨_, rfl, ?_⟩
     have O16 : Aside0 (Own N w16 [cells gx #[.int .i64 a0_0, .int .i64 a0_1] 22, ObjC gl 3 L, LinkD gk E a0_0 a0_1 W All Ak room RA, cells gf #[.int .i64 a] 78, ObjM gm 3 L, DLnk gn E a0_0 a0_1 true W All Ak room RA, cells gg #[.int .i64 a] 36, cells ga #[.int .i64 K, .int .i64 fr_.f0, .int .i64 fr_.f1, .int .i64 fr_.f2, .string fr_.f3, .int .i64 rn.f0, .int .i64 rn.f1, .slice A7 rn.f2.length c7] 45, nrow k40 40 (.slice B1 nf d1) F, nrow k40 40 (.slice B2 nf d2) F]) := ⟨o_⟩
     have K16 := Aside0.mk (K15.out.trans k_)
     have HT_16 := Aside0.mk (TabN.keep HT_15.out k_)
     have HRI_16 := Aside0.mk (keepF HRI_15.out k_)
     clear a6a b6 a7a a7b a7c a7d a7e a7f a7g a7h b7 O15 K15 HT_15 HRI_15
     obtain ⟨a6a, b6⟩ := blk1_ (O16.out.blk (i := 6) rfl)
     obtain ⟨a7a, a7b, a7c, a7d, a7e, a7f, a7g, a7h, b7⟩ := blk8_ (O16.out.blk (i := 7) rfl)
     clear o_ k_ oo_ kk_ on_ nn_ rr_ bb_
     clear hHeld
     refine hK_.out _ _ a6a (fun hHeld => ?_)
     clear hK_ K_
     refine nP ?_
     refine oP 12 (some 105) (fun K_ hK_ => ?_)
     refine hP Tryd.func22 #[.slice B1 nf d1, .slice B2 nf d2] ?_
     refine (sameF_n nf F HF.out.2.1 (O16.out.nreads (i := 8) rfl).2.2 (O16.out.nreads (i := 8) rfl).2.1 (O16.out.nreads (i := 9) rfl).2.2 (O16.out.nreads (i := 9) rfl).2.1 HF.out.2.2).mono ?_
     rintro e_ w17 ⟨rfl, hb_⟩
     refine ⟨_, rfl, ?_⟩
     have o_ := O16.out.below hb_
     have k_ := KeepS.of_below (N := N) hb_
     have O17 := Aside0.mk o_
     have K17 := Aside0.mk (K16.out.trans k_)
     have HT_17 := Aside0.mk (TabN.keep HT_16.out k_)
     have HRI_17 := Aside0.mk (keepF HRI_16.out k_)
     clear a6a b6 a7a a7b a7c a7d a7e a7f a7g a7h b7 O16 K16 HT_16 HRI_16
     obtain ⟨a6a, b6⟩ := blk1_ (O17.out.blk (i := 6) rfl)
     obtain ⟨a7a, a7b, a7c, a7d, a7e, a7f, a7g, a7h, b7⟩ := blk8_ (O17.out.blk (i := 7) rfl)
     clear o_ k_ hb_
     clear hHeld
     refine hK_.out _ _ a6a (fun hHeld => ?_)
     clear hK_ K_
     refine nP ?_
     refine pP 13 (some 106) ?_
     refine pP 14 (some 107) ?_
     refine done_ (by kernel_rfl) ?_
     clear hHeld
     go_wp2
     go_roundw
     case rel => exact ⟨x + 1, E, L, All, Ak, RA, a, by have := HX.out; omega, by have := HX.out; omega, int_eq (by unfold wrap64; have := HX.out; have := HL60.out; omega), HI2, ⟨O17.out.take 7⟩, K17⟩
     case measure => have := HX.out; simp [intOf]; omega
    ·have hd : decide (x < (l0.length : Int)) = false := decide_eq_false hlt
     clear hlt hx0 hx1 h60
     have O10 : Aside0 (Own N wr [cells gx #[.int .i64 a0_0, .int .i64 a0_1] 22, ObjC gl 3 L, LinkD gk E a0_0 a0_1 W All Ak room RA, cells gf #[.int .i64 a] 78, ObjM gm 3 L, DLnk gn E a0_0 a0_1 true W All Ak room RA, cells gg #[.int .i64 a] 36]) := ⟨OA.out⟩
     have K10 : Aside0 (KeepS N w wr) := ⟨KA.out⟩
     clear OA KA
     go_wp2
     go_ret
     exact ⟨rfl, K10.out.below (Nat.le_refl _) (fun k hk => by rw [HN.out]; exact hk)⟩
end Go.Proofs.YtjmoncfgoaaekaaDoor.J
