/- What the document's Log does: New, Last and Add of package chapbookref14, as turns of a resource: a plain walk through their text. -/
import Derived.Test.YtjmoncfgoaaekaaYCommitRoundsC6
namespace Go.Proofs.Ytjmoncfgoaaekaa.J
set_option linter.unusedSimpArgs false
set_option linter.unusedVariables false
open Go Go.RowKit Go.Proofs.YtjmoncfgoaaekaaW.PrintWords Go.Proofs.YtjmoncfgoaaekaaW.PrintLast Go.Proofs.YtjmoncfgoaaekaaW.PrintMore Go.Proofs.Ytjmoncfgoaaekaa.Q Go.Proofs.Ytjmoncfgoaaekaa.Sep Go.Proofs.Ytjmoncfgoaaekaa.Pure
attribute [local go_sem] max2_int min2_int max_two min_two max_three min_three max_four min_four
set_option maxHeartbeats 16000000 in
set_option maxRecDepth 100000 in
theorem RNew_low {N : Nat → Prop} {w : World} (n : Int) (h : Own N w []) (hm : n < 1) :
    Calls Try.prog 10 #[.int .i64 n] w fun e w' => ∃ g, e = .returned (.pointer (some ⟨g, 0, none⟩)) ∧ Own N w' [ObjM g (1) []] ∧ KeepS N w w' := by
  have O0 : Aside0 (Own N w []) := ⟨h⟩
  have K0 : Aside0 (KeepS N w w) := ⟨KeepS.refl _ _⟩
  have d1 : decide (n < 1) = true := decide_eq_true hm
  have d2 : decide ((1 : Int) > 64) = false := by decide
  clear h hm
  go_enter Try.func10, Try.ntmps10
  go_wp2_with (first | ((with_reducible refine gate_dst (N := 9) rfl ?_); refine own_box rfl (D := 9) rfl (cs := #[.int .i64 1, .slice none 0 0]) (t := 37) ?hr O0.out ?_; (case hr => first | (go_simp; done) | (go_simp; rfl)); intro g1 w1 o_ k_; have O1 : Aside0 (Own N w1 [cells g1 #[.int .i64 1, .slice none 0 0] 37]) := ⟨o_⟩; have K1 : Aside0 (KeepS N w w1) := ⟨K0.out.trans k_⟩; clear O0 K0; have c1_0_0 : w1.cell? ⟨g1, 0, none⟩ = some (.int .i64 1) := (blk_cell (O1.out.blk (i := 0) rfl) 0).trans rfl; have f1_0_0 : w1.frozen? ⟨g1, 0, none⟩ = false := blk_frozen (O1.out.blk (i := 0) rfl) 0; have c1_0_1 : w1.cell? ⟨g1, 1, none⟩ = some (.slice none 0 0) := (blk_cell (O1.out.blk (i := 0) rfl) 1).trans rfl; have f1_0_1 : w1.frozen? ⟨g1, 1, none⟩ = false := blk_frozen (O1.out.blk (i := 0) rfl) 1; clear o_ k_))
  go_ret
  refine ⟨_, rfl, ?_, K1.out⟩
  exact (ObjG.shut (f := fun v => #[.int .i64 1, v]) (i := 0) (j := 1) (L := []) (O1.out.push_emp (nrow k31 31 (.slice none 0 0) []) (fun w => Kd.N_nil _ _ _ _ _)) rfl rfl (by decide)).take 1
set_option maxHeartbeats 16000000 in
set_option maxRecDepth 100000 in
theorem RNew_high {N : Nat → Prop} {w : World} (n : Int) (h : Own N w []) (hm : 64 < n) :
    Calls Try.prog 10 #[.int .i64 n] w fun e w' => ∃ g, e = .returned (.pointer (some ⟨g, 0, none⟩)) ∧ Own N w' [ObjM g (64) []] ∧ KeepS N w w' := by
  have O0 : Aside0 (Own N w []) := ⟨h⟩
  have K0 : Aside0 (KeepS N w w) := ⟨KeepS.refl _ _⟩
  have d1 : decide (n < 1) = false := decide_eq_false (by omega)
  have d2 : decide (n > 64) = true := decide_eq_true hm
  have d3 : decide (64 < n) = true := decide_eq_true hm
  clear h hm
  go_enter Try.func10, Try.ntmps10
  go_wp2_with (first | ((with_reducible refine gate_dst (N := 9) rfl ?_); refine own_box rfl (D := 9) rfl (cs := #[.int .i64 64, .slice none 0 0]) (t := 37) ?hr O0.out ?_; (case hr => first | (go_simp; done) | (go_simp; rfl)); intro g1 w1 o_ k_; have O1 : Aside0 (Own N w1 [cells g1 #[.int .i64 64, .slice none 0 0] 37]) := ⟨o_⟩; have K1 : Aside0 (KeepS N w w1) := ⟨K0.out.trans k_⟩; clear O0 K0; have c1_0_0 : w1.cell? ⟨g1, 0, none⟩ = some (.int .i64 64) := (blk_cell (O1.out.blk (i := 0) rfl) 0).trans rfl; have f1_0_0 : w1.frozen? ⟨g1, 0, none⟩ = false := blk_frozen (O1.out.blk (i := 0) rfl) 0; have c1_0_1 : w1.cell? ⟨g1, 1, none⟩ = some (.slice none 0 0) := (blk_cell (O1.out.blk (i := 0) rfl) 1).trans rfl; have f1_0_1 : w1.frozen? ⟨g1, 1, none⟩ = false := blk_frozen (O1.out.blk (i := 0) rfl) 1; clear o_ k_))
  go_ret
  refine ⟨_, rfl, ?_, K1.out⟩
  exact (ObjG.shut (f := fun v => #[.int .i64 64, v]) (i := 0) (j := 1) (L := []) (O1.out.push_emp (nrow k31 31 (.slice none 0 0) []) (fun w => Kd.N_nil _ _ _ _ _)) rfl rfl (by decide)).take 1
set_option maxHeartbeats 16000000 in
set_option maxRecDepth 100000 in
theorem RNew_mid {N : Nat → Prop} {w : World} (n : Int) (h : Own N w []) (hm : 1 ≤ n) (hm2 : n ≤ 64) :
    Calls Try.prog 10 #[.int .i64 n] w fun e w' => ∃ g, e = .returned (.pointer (some ⟨g, 0, none⟩)) ∧ Own N w' [ObjM g (n) []] ∧ KeepS N w w' := by
  have O0 : Aside0 (Own N w []) := ⟨h⟩
  have K0 : Aside0 (KeepS N w w) := ⟨KeepS.refl _ _⟩
  have d1 : decide (n < 1) = false := decide_eq_false (by omega)
  have d2 : decide (n > 64) = false := decide_eq_false (by omega)
  have d3 : decide (64 < n) = false := decide_eq_false (by omega)
  clear h hm hm2
  go_enter Try.func10, Try.ntmps10
  go_wp2_with (first | ((with_reducible refine gate_dst (N := 9) rfl ?_); refine own_box rfl (D := 9) rfl (cs := #[.int .i64 n, .slice none 0 0]) (t := 37) ?hr O0.out ?_; (case hr => first | (go_simp; done) | (go_simp; rfl)); intro g1 w1 o_ k_; have O1 : Aside0 (Own N w1 [cells g1 #[.int .i64 n, .slice none 0 0] 37]) := ⟨o_⟩; have K1 : Aside0 (KeepS N w w1) := ⟨K0.out.trans k_⟩; clear O0 K0; have c1_0_0 : w1.cell? ⟨g1, 0, none⟩ = some (.int .i64 n) := (blk_cell (O1.out.blk (i := 0) rfl) 0).trans rfl; have f1_0_0 : w1.frozen? ⟨g1, 0, none⟩ = false := blk_frozen (O1.out.blk (i := 0) rfl) 0; have c1_0_1 : w1.cell? ⟨g1, 1, none⟩ = some (.slice none 0 0) := (blk_cell (O1.out.blk (i := 0) rfl) 1).trans rfl; have f1_0_1 : w1.frozen? ⟨g1, 1, none⟩ = false := blk_frozen (O1.out.blk (i := 0) rfl) 1; clear o_ k_))
  go_ret
  refine ⟨_, rfl, ?_, K1.out⟩
  exact (ObjG.shut (f := fun v => #[.int .i64 n, v]) (i := 0) (j := 1) (L := []) (O1.out.push_emp (nrow k31 31 (.slice none 0 0) []) (fun w => Kd.N_nil _ _ _ _ _)) rfl rfl (by decide)).take 1
theorem RNew {N : Nat → Prop} {w : World} (n C : Int) (hC : mn (mx n 1) 64 = C) (h : Own N w []) :
    Calls Try.prog 10 #[.int .i64 n] w fun e w' => ∃ g, e = .returned (.pointer (some ⟨g, 0, none⟩)) ∧ Own N w' [ObjM g C []] ∧ KeepS N w w' := by
  rw [← hC]
  by_cases h1 : n < 1
  · rw [show mn (mx n 1) 64 = 1 by unfold mn mx; (repeat' split) <;> omega]
    exact RNew_low n h h1
  by_cases h2 : 64 < n
  · rw [show mn (mx n 1) 64 = 64 by unfold mn mx; (repeat' split) <;> omega]
    exact RNew_high n h h2
  · rw [show mn (mx n 1) 64 = n by unfold mn mx; (repeat' split) <;> omega]
    exact RNew_mid n h (by omega) (by omega)
def RLastI (N : Nat → Prop) (w : World) (g : Nat) (C : Int) (L : List Rnd) (o : Int) (A0 : Option Addr) (c0 : Nat) (v i : Value) (wr : World) : Prop := ∃ (x : Int), 0 ≤ x ∧ x ≤ (L.length : Int) ∧ i = .int .i64 x ∧ v = .int .i64 (lastOf o (upTo L x)) ∧ Aside0 (Own N wr [cells g #[.int .i64 C, .slice A0 L.length c0] 37, emp]) ∧ Aside0 (KeepS N w wr)
set_option maxHeartbeats 16000000 in
set_option maxRecDepth 100000 in
theorem RLastO {N : Nat → Prop} {w : World} {g : Nat} {C : Int} {L : List Rnd} {A0 : Option Addr} {c0 : Nat} (o : Int) (h : Own N w [cells g #[.int .i64 C, .slice A0 L.length c0] 37, nrow k31 31 (.slice A0 L.length c0) L]) (hL : L.length ≤ 1000000) :
    Calls Try.prog 21 #[.pointer (some ⟨g, 0, none⟩), .int .i64 o] w fun e_ w' => e_ = .returned (.int .i64 (lastOf o L)) ∧ Own N w' [cells g #[.int .i64 C, .slice A0 L.length c0] 37, nrow k31 31 (.slice A0 L.length c0) L] ∧ KeepS N w w' := by
  obtain ⟨N1, h3, hn1, hF, hback⟩ := h.hide (i := 1) rfl
  have HRL0 : Aside0 (Kd.F k31 w N1 A0 L.length L) := ⟨Kd.N_F hF⟩
  have HBACK := Aside0.mk hback
  have HL := Aside0.mk hL
  have O0 : Aside0 (Own N1 w [cells g #[.int .i64 C, .slice A0 L.length c0] 37, emp]) := ⟨h3⟩
  have K0 : Aside0 (KeepS N1 w w) := ⟨KeepS.refl _ _⟩
  have c0_0_0 : w.cell? ⟨g, 0, none⟩ = some (.int .i64 C) := (blk_cell (O0.out.blk (i := 0) rfl) 0).trans rfl
  have f0_0_0 : w.frozen? ⟨g, 0, none⟩ = false := blk_frozen (O0.out.blk (i := 0) rfl) 0
  have c0_0_1 : w.cell? ⟨g, 1, none⟩ = some (.slice A0 L.length c0) := (blk_cell (O0.out.blk (i := 0) rfl) 1).trans rfl
  have f0_0_1 : w.frozen? ⟨g, 1, none⟩ = false := blk_frozen (O0.out.blk (i := 0) rfl) 1
  clear h h3 hn1 hF hback
  go_enter Try.func21, Try.ntmps21
  go_wp2
  go_loopw [5, 6] (fun v i wr => RLastI N1 w g C L o A0 c0 v i wr) (fun _ i _ => L.length - (intOf i).toNat)
  case atStart => exact ⟨0, by omega, by omega, rfl, rfl, O0, K0⟩
  case round =>
    clear c0_0_0 f0_0_0 c0_0_1 f0_0_1 hL
    obtain ⟨x, hx0, hx1, rfl, rfl, OA, KA⟩ := hrel
    have hF2 := keepF HRL0.out KA.out
    by_cases hlt : x < (L.length : Int)
    · obtain ⟨ad, A3, c3, e3, x0, x1, x2, hl3, hF3⟩ := at_F hF2 x hx0 hlt
      cases e3
      have hLx := HL.out
      have hs2 : wrap64 (x + 1) = x + 1 := by unfold wrap64; omega
      have hs3 : IntKind.i64.wrap (x + 1) = x + 1 := by rw [IntKind.wrap_i64]; omega
      have hp := eq_true hx0
      have hq := eq_true hlt
      have hd : decide (x < (L.length : Int)) = true := decide_eq_true hlt
      have HX := Aside0.mk (And.intro hx0 hlt)
      clear hF3 hF2 hl3 hLx
      have O1 : Aside0 (Own N1 wr [cells g #[.int .i64 C, .slice (some ad) L.length c0] 37, emp]) := ⟨OA.out⟩
      have K1 : Aside0 (KeepS N1 w wr) := ⟨KA.out⟩
      have c1_0_0 : wr.cell? ⟨g, 0, none⟩ = some (.int .i64 C) := (blk_cell (O1.out.blk (i := 0) rfl) 0).trans rfl
      have f1_0_0 : wr.frozen? ⟨g, 0, none⟩ = false := blk_frozen (O1.out.blk (i := 0) rfl) 0
      have c1_0_1 : wr.cell? ⟨g, 1, none⟩ = some (.slice (some ad) L.length c0) := (blk_cell (O1.out.blk (i := 0) rfl) 1).trans rfl
      have f1_0_1 : wr.frozen? ⟨g, 1, none⟩ = false := blk_frozen (O1.out.blk (i := 0) rfl) 1
      clear OA KA
      have HS : Aside0 (upTo L (x + 1) = upTo L x ++ [(rd_T31 L x)]) := ⟨upTo_snoc L x hx0 hlt⟩
      by_cases he : (rd_T31 L x).f0 = o
      · have hee : ((rd_T31 L x).f0 == o) = true := beq_iff_eq.2 he
        have HV : Aside0 (lastOf o (upTo L (x + 1)) = (rd_T31 L x).f1) := ⟨by rw [HS.out, lastOf_snoc, if_pos he]⟩
        clear he hlt
        go_wp2
        go_roundw
        case rel => exact ⟨x + 1, by have := HX.out; omega, by have := HX.out; omega, int_eq (by first | rfl | (unfold wrap64; have := HX.out; have := HL.out; omega)), int_eq HV.out.symm, O1, K1⟩
        case measure => have := HX.out; simp [intOf]; omega
      · have hee : ((rd_T31 L x).f0 == o) = false := beq_eq_false_iff_ne.2 he
        have HV : Aside0 (lastOf o (upTo L (x + 1)) = lastOf o (upTo L x)) := ⟨by rw [HS.out, lastOf_snoc, if_neg he]⟩
        clear he hlt
        go_wp2
        go_roundw
        case rel => exact ⟨x + 1, by have := HX.out; omega, by have := HX.out; omega, int_eq (by first | rfl | (unfold wrap64; have := HX.out; have := HL.out; omega)), int_eq HV.out.symm, O1, K1⟩
        case measure => have := HX.out; simp [intOf]; omega
    · have hxe : x = (L.length : Int) := by omega
      subst hxe
      have hd : decide ((L.length : Int) < (L.length : Int)) = false := decide_eq_false (Int.lt_irrefl _)
      have HT : Aside0 (upTo L (L.length : Int) = L) := ⟨upTo_all L⟩
      clear hlt hx0 hx1 hF2
      have O2 : Aside0 (Own N1 wr [cells g #[.int .i64 C, .slice A0 L.length c0] 37, emp]) := ⟨OA.out⟩
      have K2 : Aside0 (KeepS N1 w wr) := ⟨KA.out⟩
      have c2_0_0 : wr.cell? ⟨g, 0, none⟩ = some (.int .i64 C) := (blk_cell (O2.out.blk (i := 0) rfl) 0).trans rfl
      have f2_0_0 : wr.frozen? ⟨g, 0, none⟩ = false := blk_frozen (O2.out.blk (i := 0) rfl) 0
      have c2_0_1 : wr.cell? ⟨g, 1, none⟩ = some (.slice A0 L.length c0) := (blk_cell (O2.out.blk (i := 0) rfl) 1).trans rfl
      have f2_0_1 : wr.frozen? ⟨g, 1, none⟩ = false := blk_frozen (O2.out.blk (i := 0) rfl) 1
      clear OA KA
      go_wp2
      go_ret
      obtain ⟨hb, hk⟩ := HBACK.out _ _ (by simp) K2.out O2.out
      exact ⟨by rw [HT.out]; rfl, hb, hk⟩
theorem roundOf2 {N : Nat → Prop} {w : World} {l : List HP} {i : Nat} {A : Option Addr} {n c : Nat} (r : Rnd) (h : Own N w l) (hi : l[i]? = some (nrow k47 47 (.slice A n c) r.f2)) :
    Own N w (l.set i (both (elt k31 r [.int .i64 r.f0, .int .i64 r.f1, .slice A n c]) (rd k47 A n r.f2))) :=
  h.conv hi _ (fun F hp _ => ⟨fun W' hW => by
    obtain ⟨h1, h2, h3⟩ := Kd.N_reads' (Kd.N_step hp hW)
    rw [h1] at h2 ⊢
    exact k31_mk W' r h2 h3, Kd.N_F hp⟩)
set_option maxHeartbeats 16000000 in
set_option maxRecDepth 100000 in
theorem RAdd_may {N : Nat → Prop} {w : World} {g : Nat} {C : Int} {L : List Rnd} (B : Option Addr) (c : Nat) (o n : Int) (ups : List Upd) (h : Own N w [ObjM g C L]) (hr : Kd.F k47 w N B ups.length ups) (hc : ups.length ≤ c) (hL : L.length ≤ 1000000) (hu : ups.length ≤ 1000000) (k : Nat) (e : Int) (he : chapbookref07_May.f k o n ups = some e) (hz : (e != 0) = true) :
    Calls Try.prog 14 #[.pointer (some ⟨g, 0, none⟩), .agg #[.int .i64 o, .int .i64 n, .slice B ups.length c]] w fun e_ w' => ∃ A2 c2, e_ = .returned (.int .i64 e) ∧ (L).length ≤ c2 ∧ Own N w' [cells g #[.int .i64 C, .slice A2 (L).length c2] 37, nrow k31 31 (.slice A2 (L).length c2) (L)] ∧ KeepS N w w' := by
  have HR_0 : Aside0 (Kd.F k47 w N B ups.length ups) := ⟨hr⟩
  have HC := Aside0.mk hc
  have HE := Aside0.mk he
  have HL := Aside0.mk hL
  have HU := Aside0.mk hu
  have hz0 : ((0 : Int) != 0) = false := by decide
  obtain ⟨A0, c0, h2⟩ := ObjG.open_ h (i := 0) rfl
  have HC0 : Aside0 (L.length ≤ c0) := ⟨(h2.nreads (i := 1) rfl).2.1⟩
  have O0 : Aside0 (Own N w [cells g #[.int .i64 C, .slice A0 L.length c0] 37, nrow k31 31 (.slice A0 L.length c0) L]) := ⟨h2⟩
  have K0 : Aside0 (KeepS N w w) := ⟨KeepS.refl _ _⟩
  have c0_0_0 : w.cell? ⟨g, 0, none⟩ = some (.int .i64 C) := (blk_cell (O0.out.blk (i := 0) rfl) 0).trans rfl
  have f0_0_0 : w.frozen? ⟨g, 0, none⟩ = false := blk_frozen (O0.out.blk (i := 0) rfl) 0
  have c0_0_1 : w.cell? ⟨g, 1, none⟩ = some (.slice A0 L.length c0) := (blk_cell (O0.out.blk (i := 0) rfl) 1).trans rfl
  have f0_0_1 : w.frozen? ⟨g, 1, none⟩ = false := blk_frozen (O0.out.blk (i := 0) rfl) 1
  clear h h2 hr hc hL hu he
  go_enter Try.func14, Try.ntmps14
  go_wp2_with (first | ((with_reducible refine gate_dst (N := 3) rfl ?_); refine own_box rfl (D := 3) rfl (cs := #[.int .i64 o, .int .i64 n, .slice B ups.length c]) (t := 31) ?hr O0.out ?_; (case hr => first | (go_simp; done) | (go_simp; rfl)); intro gb w1 o_ k_; have O1 : Aside0 (Own N w1 [cells g #[.int .i64 C, .slice A0 L.length c0] 37, nrow k31 31 (.slice A0 L.length c0) L, cells gb #[.int .i64 o, .int .i64 n, .slice B ups.length c] 31]) := ⟨o_⟩; have K1 : Aside0 (KeepS N w w1) := ⟨K0.out.trans k_⟩; have HR_1 : Aside0 (Kd.F k47 w1 N B ups.length ups) := ⟨keepF HR_0.out k_⟩; clear c0_0_0 f0_0_0 c0_0_1 f0_0_1 O0 K0 HR_0; have c1_0_0 : w1.cell? ⟨g, 0, none⟩ = some (.int .i64 C) := (blk_cell (O1.out.blk (i := 0) rfl) 0).trans rfl; have f1_0_0 : w1.frozen? ⟨g, 0, none⟩ = false := blk_frozen (O1.out.blk (i := 0) rfl) 0; have c1_0_1 : w1.cell? ⟨g, 1, none⟩ = some (.slice A0 L.length c0) := (blk_cell (O1.out.blk (i := 0) rfl) 1).trans rfl; have f1_0_1 : w1.frozen? ⟨g, 1, none⟩ = false := blk_frozen (O1.out.blk (i := 0) rfl) 1; have c1_2_0 : w1.cell? ⟨gb, 0, none⟩ = some (.int .i64 o) := (blk_cell (O1.out.blk (i := 2) rfl) 0).trans rfl; have f1_2_0 : w1.frozen? ⟨gb, 0, none⟩ = false := blk_frozen (O1.out.blk (i := 2) rfl) 0; have c1_2_1 : w1.cell? ⟨gb, 1, none⟩ = some (.int .i64 n) := (blk_cell (O1.out.blk (i := 2) rfl) 1).trans rfl; have f1_2_1 : w1.frozen? ⟨gb, 1, none⟩ = false := blk_frozen (O1.out.blk (i := 2) rfl) 1; have c1_2_2 : w1.cell? ⟨gb, 2, none⟩ = some (.slice B ups.length c) := (blk_cell (O1.out.blk (i := 2) rfl) 2).trans rfl; have f1_2_2 : w1.frozen? ⟨gb, 2, none⟩ = false := blk_frozen (O1.out.blk (i := 2) rfl) 2; have n1_0_2 : g ≠ gb := O1.out.ne (i := 0) (j := 2) rfl rfl (by decide); have n1_2_0 : gb ≠ g := O1.out.ne (i := 2) (j := 0) rfl rfl (by decide); clear o_ k_) | ((with_reducible refine gate_callee (f := 26) rfl ?_); refine goesL_ (some 7) rfl rfl Try.func26 (by kernel_rfl) rfl #[.agg #[.int .i64 o, .int .i64 n, .slice B ups.length c]] rfl (by (try simp only [List.map_toArray, List.map_cons, List.map_nil]); first | done | rfl) ?_; refine (chapbookref07_May.calls k _ _ _ _ ups e _ (Kd.F_now HR_1.out) HC.out HE.out).mono ?_; rintro e_ w2 ⟨rfl, hb_⟩; refine ⟨_, rfl, ?_⟩; have o_ := O1.out.below hb_; have k_ := KeepS.of_below (N := N) hb_; have O2 : Aside0 (Own N w2 [cells g #[.int .i64 C, .slice A0 L.length c0] 37, nrow k31 31 (.slice A0 L.length c0) L, cells gb #[.int .i64 o, .int .i64 n, .slice B ups.length c] 31]) := ⟨o_⟩; have K2 : Aside0 (KeepS N w w2) := ⟨K1.out.trans k_⟩; have HR_2 : Aside0 (Kd.F k47 w2 N B ups.length ups) := ⟨keepF HR_1.out k_⟩; clear c1_0_0 f1_0_0 c1_0_1 f1_0_1 c1_2_0 f1_2_0 c1_2_1 f1_2_1 c1_2_2 f1_2_2 n1_0_2 n1_2_0 O1 K1 HR_1; have c2_0_0 : w2.cell? ⟨g, 0, none⟩ = some (.int .i64 C) := (blk_cell (O2.out.blk (i := 0) rfl) 0).trans rfl; have f2_0_0 : w2.frozen? ⟨g, 0, none⟩ = false := blk_frozen (O2.out.blk (i := 0) rfl) 0; have c2_0_1 : w2.cell? ⟨g, 1, none⟩ = some (.slice A0 L.length c0) := (blk_cell (O2.out.blk (i := 0) rfl) 1).trans rfl; have f2_0_1 : w2.frozen? ⟨g, 1, none⟩ = false := blk_frozen (O2.out.blk (i := 0) rfl) 1; have c2_2_0 : w2.cell? ⟨gb, 0, none⟩ = some (.int .i64 o) := (blk_cell (O2.out.blk (i := 2) rfl) 0).trans rfl; have f2_2_0 : w2.frozen? ⟨gb, 0, none⟩ = false := blk_frozen (O2.out.blk (i := 2) rfl) 0; have c2_2_1 : w2.cell? ⟨gb, 1, none⟩ = some (.int .i64 n) := (blk_cell (O2.out.blk (i := 2) rfl) 1).trans rfl; have f2_2_1 : w2.frozen? ⟨gb, 1, none⟩ = false := blk_frozen (O2.out.blk (i := 2) rfl) 1; have c2_2_2 : w2.cell? ⟨gb, 2, none⟩ = some (.slice B ups.length c) := (blk_cell (O2.out.blk (i := 2) rfl) 2).trans rfl; have f2_2_2 : w2.frozen? ⟨gb, 2, none⟩ = false := blk_frozen (O2.out.blk (i := 2) rfl) 2; have n2_0_2 : g ≠ gb := O2.out.ne (i := 0) (j := 2) rfl rfl (by decide); have n2_2_0 : gb ≠ g := O2.out.ne (i := 2) (j := 0) rfl rfl (by decide); clear o_ k_ hb_))
  go_ret
  exact ⟨A0, c0, rfl, HC0.out, O2.out.take 2, K2.out⟩
set_option maxHeartbeats 16000000 in
set_option maxRecDepth 100000 in
theorem RAdd_none {N : Nat → Prop} {w : World} {g : Nat} {C : Int} {L : List Rnd} (B : Option Addr) (c : Nat) (o n : Int) (ups : List Upd) (h : Own N w [ObjM g C L]) (hr : Kd.F k47 w N B ups.length ups) (hc : ups.length ≤ c) (hL : L.length ≤ 1000000) (hu : ups.length ≤ 1000000) (k : Nat) (hb : mayR o n ups = 0) (he : chapbookref07_May.f k o n ups = some 0) (hg : Good C L) (ho : o > C) :
    Calls Try.prog 14 #[.pointer (some ⟨g, 0, none⟩), .agg #[.int .i64 o, .int .i64 n, .slice B ups.length c]] w fun e_ w' => ∃ A2 c2, e_ = .returned (.int .i64 11) ∧ (L).length ≤ c2 ∧ Own N w' [cells g #[.int .i64 C, .slice A2 (L).length c2] 37, nrow k31 31 (.slice A2 (L).length c2) (L)] ∧ KeepS N w w' := by
  have HR_0 : Aside0 (Kd.F k47 w N B ups.length ups) := ⟨hr⟩
  have HC := Aside0.mk hc
  have HE := Aside0.mk he
  have HL := Aside0.mk hL
  have HU := Aside0.mk hu
  have hz0 : ((0 : Int) != 0) = false := by decide
  have hlr := lastOf_range o hg
  obtain ⟨q, hq⟩ : ∃ q, q = lastOf o L + 1 := ⟨_, rfl⟩
  have hs1 : IntKind.i64.wrap (lastOf o L + 1) = q := by rw [IntKind.wrap_i64]; omega
  have hs2 : wrap64 (lastOf o L + 1) = q := by unfold wrap64; omega
  have d6 : decide (o > C) = true := decide_eq_true (by omega)
  have d7 : decide (C < o) = true := d6
  obtain ⟨A0, c0, h2⟩ := ObjG.open_ h (i := 0) rfl
  have HC0 : Aside0 (L.length ≤ c0) := ⟨(h2.nreads (i := 1) rfl).2.1⟩
  have O0 : Aside0 (Own N w [cells g #[.int .i64 C, .slice A0 L.length c0] 37, nrow k31 31 (.slice A0 L.length c0) L]) := ⟨h2⟩
  have K0 : Aside0 (KeepS N w w) := ⟨KeepS.refl _ _⟩
  have c0_0_0 : w.cell? ⟨g, 0, none⟩ = some (.int .i64 C) := (blk_cell (O0.out.blk (i := 0) rfl) 0).trans rfl
  have f0_0_0 : w.frozen? ⟨g, 0, none⟩ = false := blk_frozen (O0.out.blk (i := 0) rfl) 0
  have c0_0_1 : w.cell? ⟨g, 1, none⟩ = some (.slice A0 L.length c0) := (blk_cell (O0.out.blk (i := 0) rfl) 1).trans rfl
  have f0_0_1 : w.frozen? ⟨g, 1, none⟩ = false := blk_frozen (O0.out.blk (i := 0) rfl) 1
  clear h h2 hr hc hL hu he hb hlr hg hq ho
  go_enter Try.func14, Try.ntmps14
  go_wp2_with (first | ((with_reducible refine gate_dst (N := 3) rfl ?_); refine own_box rfl (D := 3) rfl (cs := #[.int .i64 o, .int .i64 n, .slice B ups.length c]) (t := 31) ?hr O0.out ?_; (case hr => first | (go_simp; done) | (go_simp; rfl)); intro gb w1 o_ k_; have O1 : Aside0 (Own N w1 [cells g #[.int .i64 C, .slice A0 L.length c0] 37, nrow k31 31 (.slice A0 L.length c0) L, cells gb #[.int .i64 o, .int .i64 n, .slice B ups.length c] 31]) := ⟨o_⟩; have K1 : Aside0 (KeepS N w w1) := ⟨K0.out.trans k_⟩; have HR_1 : Aside0 (Kd.F k47 w1 N B ups.length ups) := ⟨keepF HR_0.out k_⟩; clear c0_0_0 f0_0_0 c0_0_1 f0_0_1 O0 K0 HR_0; have c1_0_0 : w1.cell? ⟨g, 0, none⟩ = some (.int .i64 C) := (blk_cell (O1.out.blk (i := 0) rfl) 0).trans rfl; have f1_0_0 : w1.frozen? ⟨g, 0, none⟩ = false := blk_frozen (O1.out.blk (i := 0) rfl) 0; have c1_0_1 : w1.cell? ⟨g, 1, none⟩ = some (.slice A0 L.length c0) := (blk_cell (O1.out.blk (i := 0) rfl) 1).trans rfl; have f1_0_1 : w1.frozen? ⟨g, 1, none⟩ = false := blk_frozen (O1.out.blk (i := 0) rfl) 1; have c1_2_0 : w1.cell? ⟨gb, 0, none⟩ = some (.int .i64 o) := (blk_cell (O1.out.blk (i := 2) rfl) 0).trans rfl; have f1_2_0 : w1.frozen? ⟨gb, 0, none⟩ = false := blk_frozen (O1.out.blk (i := 2) rfl) 0; have c1_2_1 : w1.cell? ⟨gb, 1, none⟩ = some (.int .i64 n) := (blk_cell (O1.out.blk (i := 2) rfl) 1).trans rfl; have f1_2_1 : w1.frozen? ⟨gb, 1, none⟩ = false := blk_frozen (O1.out.blk (i := 2) rfl) 1; have c1_2_2 : w1.cell? ⟨gb, 2, none⟩ = some (.slice B ups.length c) := (blk_cell (O1.out.blk (i := 2) rfl) 2).trans rfl; have f1_2_2 : w1.frozen? ⟨gb, 2, none⟩ = false := blk_frozen (O1.out.blk (i := 2) rfl) 2; have n1_0_2 : g ≠ gb := O1.out.ne (i := 0) (j := 2) rfl rfl (by decide); have n1_2_0 : gb ≠ g := O1.out.ne (i := 2) (j := 0) rfl rfl (by decide); clear o_ k_) | ((with_reducible refine gate_callee (f := 26) rfl ?_); refine goesL_ (some 7) rfl rfl Try.func26 (by kernel_rfl) rfl #[.agg #[.int .i64 o, .int .i64 n, .slice B ups.length c]] rfl (by (try simp only [List.map_toArray, List.map_cons, List.map_nil]); first | done | rfl) ?_; refine (chapbookref07_May.calls k _ _ _ _ ups 0 _ (Kd.F_now HR_1.out) HC.out HE.out).mono ?_; rintro e_ w2 ⟨rfl, hb_⟩; refine ⟨_, rfl, ?_⟩; have o_ := O1.out.below hb_; have k_ := KeepS.of_below (N := N) hb_; have O2 : Aside0 (Own N w2 [cells g #[.int .i64 C, .slice A0 L.length c0] 37, nrow k31 31 (.slice A0 L.length c0) L, cells gb #[.int .i64 o, .int .i64 n, .slice B ups.length c] 31]) := ⟨o_⟩; have K2 : Aside0 (KeepS N w w2) := ⟨K1.out.trans k_⟩; have HR_2 : Aside0 (Kd.F k47 w2 N B ups.length ups) := ⟨keepF HR_1.out k_⟩; clear c1_0_0 f1_0_0 c1_0_1 f1_0_1 c1_2_0 f1_2_0 c1_2_1 f1_2_1 c1_2_2 f1_2_2 n1_0_2 n1_2_0 O1 K1 HR_1; have c2_0_0 : w2.cell? ⟨g, 0, none⟩ = some (.int .i64 C) := (blk_cell (O2.out.blk (i := 0) rfl) 0).trans rfl; have f2_0_0 : w2.frozen? ⟨g, 0, none⟩ = false := blk_frozen (O2.out.blk (i := 0) rfl) 0; have c2_0_1 : w2.cell? ⟨g, 1, none⟩ = some (.slice A0 L.length c0) := (blk_cell (O2.out.blk (i := 0) rfl) 1).trans rfl; have f2_0_1 : w2.frozen? ⟨g, 1, none⟩ = false := blk_frozen (O2.out.blk (i := 0) rfl) 1; have c2_2_0 : w2.cell? ⟨gb, 0, none⟩ = some (.int .i64 o) := (blk_cell (O2.out.blk (i := 2) rfl) 0).trans rfl; have f2_2_0 : w2.frozen? ⟨gb, 0, none⟩ = false := blk_frozen (O2.out.blk (i := 2) rfl) 0; have c2_2_1 : w2.cell? ⟨gb, 1, none⟩ = some (.int .i64 n) := (blk_cell (O2.out.blk (i := 2) rfl) 1).trans rfl; have f2_2_1 : w2.frozen? ⟨gb, 1, none⟩ = false := blk_frozen (O2.out.blk (i := 2) rfl) 1; have c2_2_2 : w2.cell? ⟨gb, 2, none⟩ = some (.slice B ups.length c) := (blk_cell (O2.out.blk (i := 2) rfl) 2).trans rfl; have f2_2_2 : w2.frozen? ⟨gb, 2, none⟩ = false := blk_frozen (O2.out.blk (i := 2) rfl) 2; have n2_0_2 : g ≠ gb := O2.out.ne (i := 0) (j := 2) rfl rfl (by decide); have n2_2_0 : gb ≠ g := O2.out.ne (i := 2) (j := 0) rfl rfl (by decide); clear o_ k_ hb_))
  refine start_ (n := 7) (S := fun w' => w'.cell? ⟨gb, 0, none⟩ = some (.int .i64 o) ∧ w'.cell? ⟨gb, 1, none⟩ = some (.int .i64 n) ∧ w'.cell? ⟨gb, 2, none⟩ = some (.slice B ups.length c) ∧ w'.cell? ⟨g, 0, none⟩ = some (.int .i64 C) ∧ w'.cell? ⟨g, 1, none⟩ = some (.slice A0 L.length c0)) (ds := []) #[false, false, false, false, false, false, false] (by kernel_rfl) rfl rfl ⟨((blk_cell (O2.out.blk (i := 2) rfl) 0).trans rfl), ((blk_cell (O2.out.blk (i := 2) rfl) 1).trans rfl), ((blk_cell (O2.out.blk (i := 2) rfl) 2).trans rfl), ((blk_cell (O2.out.blk (i := 0) rfl) 0).trans rfl), ((blk_cell (O2.out.blk (i := 0) rfl) 1).trans rfl)⟩ (fun hHeld => ?_)
  obtain ⟨w3, hw_⟩ : ∃ W, W = w2.drew := ⟨_, rfl⟩
  have o_ := O2.out.drew
  have k_ : KeepS N w2 w2.drew := KeepS.drew
  rw [← hw_] at o_ k_ hHeld ⊢
  clear hw_
  have O3 : Aside0 (Own N w3 [cells g #[.int .i64 C, .slice A0 L.length c0] 37, nrow k31 31 (.slice A0 L.length c0) L, cells gb #[.int .i64 o, .int .i64 n, .slice B ups.length c] 31]) := ⟨o_⟩
  have K3 : Aside0 (KeepS N w w3) := ⟨K2.out.trans k_⟩
  have HR_3 : Aside0 (Kd.F k47 w3 N B ups.length ups) := ⟨keepF HR_2.out k_⟩
  clear c2_0_0 f2_0_0 c2_0_1 f2_0_1 c2_2_0 f2_2_0 c2_2_1 f2_2_1 c2_2_2 f2_2_2 n2_0_2 n2_2_0 O2 K2 HR_2
  have c3_0_0 : w3.cell? ⟨g, 0, none⟩ = some (.int .i64 C) := (blk_cell (O3.out.blk (i := 0) rfl) 0).trans rfl
  have f3_0_0 : w3.frozen? ⟨g, 0, none⟩ = false := blk_frozen (O3.out.blk (i := 0) rfl) 0
  have c3_0_1 : w3.cell? ⟨g, 1, none⟩ = some (.slice A0 L.length c0) := (blk_cell (O3.out.blk (i := 0) rfl) 1).trans rfl
  have f3_0_1 : w3.frozen? ⟨g, 1, none⟩ = false := blk_frozen (O3.out.blk (i := 0) rfl) 1
  have c3_2_0 : w3.cell? ⟨gb, 0, none⟩ = some (.int .i64 o) := (blk_cell (O3.out.blk (i := 2) rfl) 0).trans rfl
  have f3_2_0 : w3.frozen? ⟨gb, 0, none⟩ = false := blk_frozen (O3.out.blk (i := 2) rfl) 0
  have c3_2_1 : w3.cell? ⟨gb, 1, none⟩ = some (.int .i64 n) := (blk_cell (O3.out.blk (i := 2) rfl) 1).trans rfl
  have f3_2_1 : w3.frozen? ⟨gb, 1, none⟩ = false := blk_frozen (O3.out.blk (i := 2) rfl) 1
  have c3_2_2 : w3.cell? ⟨gb, 2, none⟩ = some (.slice B ups.length c) := (blk_cell (O3.out.blk (i := 2) rfl) 2).trans rfl
  have f3_2_2 : w3.frozen? ⟨gb, 2, none⟩ = false := blk_frozen (O3.out.blk (i := 2) rfl) 2
  have n3_0_2 : g ≠ gb := O3.out.ne (i := 0) (j := 2) rfl rfl (by decide)
  have n3_2_0 : gb ≠ g := O3.out.ne (i := 2) (j := 0) rfl rfl (by decide)
  clear o_ k_
  refine pure_ (i := 0) (N := some 11) (v := ?_) (a' := ?_) #[true, false, false, false, false, false, false] rfl rfl (by kernel_rfl) (fun _ _ _ h => h) (Or.inl ⟨by rfl, ?_⟩) ?_ ?_
  rotate_left
  · intro w'
    go_simp
    with_reducible rfl
  rotate_left
  · simp only [Act.put, List.setIfInBounds_toArray, List.set_cons_zero, List.set_cons_succ, i64_w, i32_w]
    rfl
  refine pure_ (i := 2) (N := some 13) (v := ?_) (a' := ?_) #[true, false, true, false, false, false, false] rfl rfl (by kernel_rfl) (fun _ _ _ h => h) (Or.inl ⟨by rfl, ?_⟩) ?_ ?_
  rotate_left
  · intro w'
    go_simp
    with_reducible rfl
  rotate_left
  · simp only [Act.put, List.setIfInBounds_toArray, List.set_cons_zero, List.set_cons_succ, i64_w, i32_w]
    rfl
  refine pure_ (i := 3) (N := some 14) (v := ?_) (a' := ?_) #[true, false, true, true, false, false, false] rfl rfl (by kernel_rfl) (fun _ _ _ h => h) (Or.inl ⟨by rfl, ?_⟩) ?_ ?_
  rotate_left
  · intro w'
    go_simp
    with_reducible rfl
  rotate_left
  · simp only [Act.put, List.setIfInBounds_toArray, List.set_cons_zero, List.set_cons_succ, i64_w, i32_w]
    rfl
  refine pure_ (i := 4) (N := some 15) (v := ?_) (a' := ?_) #[true, false, true, true, true, false, false] rfl rfl (by kernel_rfl) (fun _ _ _ h => h) (Or.inl ⟨by rfl, ?_⟩) ?_ ?_
  rotate_left
  · intro w'
    go_simp
    with_reducible rfl
  rotate_left
  · simp only [Act.put, List.setIfInBounds_toArray, List.set_cons_zero, List.set_cons_succ, i64_w, i32_w]
    rfl
  refine take_ (i := 1) (N := some 12) (v := ?_) (a' := ?_) #[true, true, true, true, true, false, false] rfl rfl (by kernel_rfl) (fun _ _ _ h => h) (Or.inl ⟨by rfl, ?_⟩) hHeld ?_ ?_
  rotate_left
  · rintro w' ⟨s0, s1, s2, s3, s4⟩
    go_simp
    with_reducible rfl
  rotate_left
  · simp only [Act.put, List.setIfInBounds_toArray, List.set_cons_zero, List.set_cons_succ, i64_w, i32_w]
    rfl
  refine take_ (i := 5) (N := some 16) (v := ?_) (a' := ?_) #[true, true, true, true, true, true, false] rfl rfl (by kernel_rfl) (fun _ _ _ h => h) (Or.inl ⟨by rfl, ?_⟩) hHeld ?_ ?_
  rotate_left
  · rintro w' ⟨s0, s1, s2, s3, s4⟩
    go_simp
    with_reducible rfl
  rotate_left
  · simp only [Act.put, List.setIfInBounds_toArray, List.set_cons_zero, List.set_cons_succ, i64_w, i32_w]
    rfl
  refine pure_ (i := 6) (N := some 17) (v := ?_) (a' := ?_) #[true, true, true, true, true, true, true] rfl rfl (by kernel_rfl) (fun _ _ _ h => h) (Or.inl ⟨by rfl, ?_⟩) ?_ ?_
  rotate_left
  · intro w'
    go_simp
    with_reducible rfl
  rotate_left
  · simp only [Act.put, List.setIfInBounds_toArray, List.set_cons_zero, List.set_cons_succ, i64_w, i32_w]
    rfl
  refine done_ (by kernel_rfl) ?_
  clear hHeld
  go_wp2
  go_ret
  exact ⟨A0, c0, rfl, HC0.out, O3.out.take 2, K3.out⟩
set_option maxHeartbeats 16000000 in
set_option maxRecDepth 100000 in
theorem RAdd_twice {N : Nat → Prop} {w : World} {g : Nat} {C : Int} {L : List Rnd} (B : Option Addr) (c : Nat) (o n : Int) (ups : List Upd) (h : Own N w [ObjM g C L]) (hr : Kd.F k47 w N B ups.length ups) (hc : ups.length ≤ c) (hL : L.length ≤ 1000000) (hu : ups.length ≤ 1000000) (k : Nat) (hb : mayR o n ups = 0) (he : chapbookref07_May.f k o n ups = some 0) (hg : Good C L) (ho : o ≤ C) (ho2 : n < lastOf o L + 1) :
    Calls Try.prog 14 #[.pointer (some ⟨g, 0, none⟩), .agg #[.int .i64 o, .int .i64 n, .slice B ups.length c]] w fun e_ w' => ∃ A2 c2, e_ = .returned (.int .i64 12) ∧ (L).length ≤ c2 ∧ Own N w' [cells g #[.int .i64 C, .slice A2 (L).length c2] 37, nrow k31 31 (.slice A2 (L).length c2) (L)] ∧ KeepS N w w' := by
  have HR_0 : Aside0 (Kd.F k47 w N B ups.length ups) := ⟨hr⟩
  have HC := Aside0.mk hc
  have HE := Aside0.mk he
  have HL := Aside0.mk hL
  have HU := Aside0.mk hu
  have hz0 : ((0 : Int) != 0) = false := by decide
  have hlr := lastOf_range o hg
  obtain ⟨q, hq⟩ : ∃ q, q = lastOf o L + 1 := ⟨_, rfl⟩
  have hs1 : IntKind.i64.wrap (lastOf o L + 1) = q := by rw [IntKind.wrap_i64]; omega
  have hs2 : wrap64 (lastOf o L + 1) = q := by unfold wrap64; omega
  have d6 : decide (o > C) = false := decide_eq_false (by omega)
  have d7 : decide (C < o) = false := d6
  have d8 : decide (n ≤ lastOf o L) = true := decide_eq_true (by omega)
  obtain ⟨A0, c0, h2⟩ := ObjG.open_ h (i := 0) rfl
  have HC0 : Aside0 (L.length ≤ c0) := ⟨(h2.nreads (i := 1) rfl).2.1⟩
  have O0 : Aside0 (Own N w [cells g #[.int .i64 C, .slice A0 L.length c0] 37, nrow k31 31 (.slice A0 L.length c0) L]) := ⟨h2⟩
  have K0 : Aside0 (KeepS N w w) := ⟨KeepS.refl _ _⟩
  have c0_0_0 : w.cell? ⟨g, 0, none⟩ = some (.int .i64 C) := (blk_cell (O0.out.blk (i := 0) rfl) 0).trans rfl
  have f0_0_0 : w.frozen? ⟨g, 0, none⟩ = false := blk_frozen (O0.out.blk (i := 0) rfl) 0
  have c0_0_1 : w.cell? ⟨g, 1, none⟩ = some (.slice A0 L.length c0) := (blk_cell (O0.out.blk (i := 0) rfl) 1).trans rfl
  have f0_0_1 : w.frozen? ⟨g, 1, none⟩ = false := blk_frozen (O0.out.blk (i := 0) rfl) 1
  clear h h2 hr hc hL hu he hb hlr hg hq ho ho2
  go_enter Try.func14, Try.ntmps14
  go_wp2_with (first | ((with_reducible refine gate_dst (N := 3) rfl ?_); refine own_box rfl (D := 3) rfl (cs := #[.int .i64 o, .int .i64 n, .slice B ups.length c]) (t := 31) ?hr O0.out ?_; (case hr => first | (go_simp; done) | (go_simp; rfl)); intro gb w1 o_ k_; have O1 : Aside0 (Own N w1 [cells g #[.int .i64 C, .slice A0 L.length c0] 37, nrow k31 31 (.slice A0 L.length c0) L, cells gb #[.int .i64 o, .int .i64 n, .slice B ups.length c] 31]) := ⟨o_⟩; have K1 : Aside0 (KeepS N w w1) := ⟨K0.out.trans k_⟩; have HR_1 : Aside0 (Kd.F k47 w1 N B ups.length ups) := ⟨keepF HR_0.out k_⟩; clear c0_0_0 f0_0_0 c0_0_1 f0_0_1 O0 K0 HR_0; have c1_0_0 : w1.cell? ⟨g, 0, none⟩ = some (.int .i64 C) := (blk_cell (O1.out.blk (i := 0) rfl) 0).trans rfl; have f1_0_0 : w1.frozen? ⟨g, 0, none⟩ = false := blk_frozen (O1.out.blk (i := 0) rfl) 0; have c1_0_1 : w1.cell? ⟨g, 1, none⟩ = some (.slice A0 L.length c0) := (blk_cell (O1.out.blk (i := 0) rfl) 1).trans rfl; have f1_0_1 : w1.frozen? ⟨g, 1, none⟩ = false := blk_frozen (O1.out.blk (i := 0) rfl) 1; have c1_2_0 : w1.cell? ⟨gb, 0, none⟩ = some (.int .i64 o) := (blk_cell (O1.out.blk (i := 2) rfl) 0).trans rfl; have f1_2_0 : w1.frozen? ⟨gb, 0, none⟩ = false := blk_frozen (O1.out.blk (i := 2) rfl) 0; have c1_2_1 : w1.cell? ⟨gb, 1, none⟩ = some (.int .i64 n) := (blk_cell (O1.out.blk (i := 2) rfl) 1).trans rfl; have f1_2_1 : w1.frozen? ⟨gb, 1, none⟩ = false := blk_frozen (O1.out.blk (i := 2) rfl) 1; have c1_2_2 : w1.cell? ⟨gb, 2, none⟩ = some (.slice B ups.length c) := (blk_cell (O1.out.blk (i := 2) rfl) 2).trans rfl; have f1_2_2 : w1.frozen? ⟨gb, 2, none⟩ = false := blk_frozen (O1.out.blk (i := 2) rfl) 2; have n1_0_2 : g ≠ gb := O1.out.ne (i := 0) (j := 2) rfl rfl (by decide); have n1_2_0 : gb ≠ g := O1.out.ne (i := 2) (j := 0) rfl rfl (by decide); clear o_ k_) | ((with_reducible refine gate_callee (f := 26) rfl ?_); refine goesL_ (some 7) rfl rfl Try.func26 (by kernel_rfl) rfl #[.agg #[.int .i64 o, .int .i64 n, .slice B ups.length c]] rfl (by (try simp only [List.map_toArray, List.map_cons, List.map_nil]); first | done | rfl) ?_; refine (chapbookref07_May.calls k _ _ _ _ ups 0 _ (Kd.F_now HR_1.out) HC.out HE.out).mono ?_; rintro e_ w2 ⟨rfl, hb_⟩; refine ⟨_, rfl, ?_⟩; have o_ := O1.out.below hb_; have k_ := KeepS.of_below (N := N) hb_; have O2 : Aside0 (Own N w2 [cells g #[.int .i64 C, .slice A0 L.length c0] 37, nrow k31 31 (.slice A0 L.length c0) L, cells gb #[.int .i64 o, .int .i64 n, .slice B ups.length c] 31]) := ⟨o_⟩; have K2 : Aside0 (KeepS N w w2) := ⟨K1.out.trans k_⟩; have HR_2 : Aside0 (Kd.F k47 w2 N B ups.length ups) := ⟨keepF HR_1.out k_⟩; clear c1_0_0 f1_0_0 c1_0_1 f1_0_1 c1_2_0 f1_2_0 c1_2_1 f1_2_1 c1_2_2 f1_2_2 n1_0_2 n1_2_0 O1 K1 HR_1; have c2_0_0 : w2.cell? ⟨g, 0, none⟩ = some (.int .i64 C) := (blk_cell (O2.out.blk (i := 0) rfl) 0).trans rfl; have f2_0_0 : w2.frozen? ⟨g, 0, none⟩ = false := blk_frozen (O2.out.blk (i := 0) rfl) 0; have c2_0_1 : w2.cell? ⟨g, 1, none⟩ = some (.slice A0 L.length c0) := (blk_cell (O2.out.blk (i := 0) rfl) 1).trans rfl; have f2_0_1 : w2.frozen? ⟨g, 1, none⟩ = false := blk_frozen (O2.out.blk (i := 0) rfl) 1; have c2_2_0 : w2.cell? ⟨gb, 0, none⟩ = some (.int .i64 o) := (blk_cell (O2.out.blk (i := 2) rfl) 0).trans rfl; have f2_2_0 : w2.frozen? ⟨gb, 0, none⟩ = false := blk_frozen (O2.out.blk (i := 2) rfl) 0; have c2_2_1 : w2.cell? ⟨gb, 1, none⟩ = some (.int .i64 n) := (blk_cell (O2.out.blk (i := 2) rfl) 1).trans rfl; have f2_2_1 : w2.frozen? ⟨gb, 1, none⟩ = false := blk_frozen (O2.out.blk (i := 2) rfl) 1; have c2_2_2 : w2.cell? ⟨gb, 2, none⟩ = some (.slice B ups.length c) := (blk_cell (O2.out.blk (i := 2) rfl) 2).trans rfl; have f2_2_2 : w2.frozen? ⟨gb, 2, none⟩ = false := blk_frozen (O2.out.blk (i := 2) rfl) 2; have n2_0_2 : g ≠ gb := O2.out.ne (i := 0) (j := 2) rfl rfl (by decide); have n2_2_0 : gb ≠ g := O2.out.ne (i := 2) (j := 0) rfl rfl (by decide); clear o_ k_ hb_))
  refine start_ (n := 7) (S := fun w' => w'.cell? ⟨gb, 0, none⟩ = some (.int .i64 o) ∧ w'.cell? ⟨gb, 1, none⟩ = some (.int .i64 n) ∧ w'.cell? ⟨gb, 2, none⟩ = some (.slice B ups.length c) ∧ w'.cell? ⟨g, 0, none⟩ = some (.int .i64 C) ∧ w'.cell? ⟨g, 1, none⟩ = some (.slice A0 L.length c0)) (ds := []) #[false, false, false, false, false, false, false] (by kernel_rfl) rfl rfl ⟨((blk_cell (O2.out.blk (i := 2) rfl) 0).trans rfl), ((blk_cell (O2.out.blk (i := 2) rfl) 1).trans rfl), ((blk_cell (O2.out.blk (i := 2) rfl) 2).trans rfl), ((blk_cell (O2.out.blk (i := 0) rfl) 0).trans rfl), ((blk_cell (O2.out.blk (i := 0) rfl) 1).trans rfl)⟩ (fun hHeld => ?_)
  obtain ⟨w3, hw_⟩ : ∃ W, W = w2.drew := ⟨_, rfl⟩
  have o_ := O2.out.drew
  have k_ : KeepS N w2 w2.drew := KeepS.drew
  rw [← hw_] at o_ k_ hHeld ⊢
  clear hw_
  have O3 : Aside0 (Own N w3 [cells g #[.int .i64 C, .slice A0 L.length c0] 37, nrow k31 31 (.slice A0 L.length c0) L, cells gb #[.int .i64 o, .int .i64 n, .slice B ups.length c] 31]) := ⟨o_⟩
  have K3 : Aside0 (KeepS N w w3) := ⟨K2.out.trans k_⟩
  have HR_3 : Aside0 (Kd.F k47 w3 N B ups.length ups) := ⟨keepF HR_2.out k_⟩
  clear c2_0_0 f2_0_0 c2_0_1 f2_0_1 c2_2_0 f2_2_0 c2_2_1 f2_2_1 c2_2_2 f2_2_2 n2_0_2 n2_2_0 O2 K2 HR_2
  have c3_0_0 : w3.cell? ⟨g, 0, none⟩ = some (.int .i64 C) := (blk_cell (O3.out.blk (i := 0) rfl) 0).trans rfl
  have f3_0_0 : w3.frozen? ⟨g, 0, none⟩ = false := blk_frozen (O3.out.blk (i := 0) rfl) 0
  have c3_0_1 : w3.cell? ⟨g, 1, none⟩ = some (.slice A0 L.length c0) := (blk_cell (O3.out.blk (i := 0) rfl) 1).trans rfl
  have f3_0_1 : w3.frozen? ⟨g, 1, none⟩ = false := blk_frozen (O3.out.blk (i := 0) rfl) 1
  have c3_2_0 : w3.cell? ⟨gb, 0, none⟩ = some (.int .i64 o) := (blk_cell (O3.out.blk (i := 2) rfl) 0).trans rfl
  have f3_2_0 : w3.frozen? ⟨gb, 0, none⟩ = false := blk_frozen (O3.out.blk (i := 2) rfl) 0
  have c3_2_1 : w3.cell? ⟨gb, 1, none⟩ = some (.int .i64 n) := (blk_cell (O3.out.blk (i := 2) rfl) 1).trans rfl
  have f3_2_1 : w3.frozen? ⟨gb, 1, none⟩ = false := blk_frozen (O3.out.blk (i := 2) rfl) 1
  have c3_2_2 : w3.cell? ⟨gb, 2, none⟩ = some (.slice B ups.length c) := (blk_cell (O3.out.blk (i := 2) rfl) 2).trans rfl
  have f3_2_2 : w3.frozen? ⟨gb, 2, none⟩ = false := blk_frozen (O3.out.blk (i := 2) rfl) 2
  have n3_0_2 : g ≠ gb := O3.out.ne (i := 0) (j := 2) rfl rfl (by decide)
  have n3_2_0 : gb ≠ g := O3.out.ne (i := 2) (j := 0) rfl rfl (by decide)
  clear o_ k_
  refine pure_ (i := 0) (N := some 11) (v := ?_) (a' := ?_) #[true, false, false, false, false, false, false] rfl rfl (by kernel_rfl) (fun _ _ _ h => h) (Or.inl ⟨by rfl, ?_⟩) ?_ ?_
  rotate_left
  · intro w'
    go_simp
    with_reducible rfl
  rotate_left
  · simp only [Act.put, List.setIfInBounds_toArray, List.set_cons_zero, List.set_cons_succ, i64_w, i32_w]
    rfl
  refine pure_ (i := 2) (N := some 13) (v := ?_) (a' := ?_) #[true, false, true, false, false, false, false] rfl rfl (by kernel_rfl) (fun _ _ _ h => h) (Or.inl ⟨by rfl, ?_⟩) ?_ ?_
  rotate_left
  · intro w'
    go_simp
    with_reducible rfl
  rotate_left
  · simp only [Act.put, List.setIfInBounds_toArray, List.set_cons_zero, List.set_cons_succ, i64_w, i32_w]
    rfl
  refine pure_ (i := 3) (N := some 14) (v := ?_) (a' := ?_) #[true, false, true, true, false, false, false] rfl rfl (by kernel_rfl) (fun _ _ _ h => h) (Or.inl ⟨by rfl, ?_⟩) ?_ ?_
  rotate_left
  · intro w'
    go_simp
    with_reducible rfl
  rotate_left
  · simp only [Act.put, List.setIfInBounds_toArray, List.set_cons_zero, List.set_cons_succ, i64_w, i32_w]
    rfl
  refine pure_ (i := 4) (N := some 15) (v := ?_) (a' := ?_) #[true, false, true, true, true, false, false] rfl rfl (by kernel_rfl) (fun _ _ _ h => h) (Or.inl ⟨by rfl, ?_⟩) ?_ ?_
  rotate_left
  · intro w'
    go_simp
    with_reducible rfl
  rotate_left
  · simp only [Act.put, List.setIfInBounds_toArray, List.set_cons_zero, List.set_cons_succ, i64_w, i32_w]
    rfl
  refine take_ (i := 1) (N := some 12) (v := ?_) (a' := ?_) #[true, true, true, true, true, false, false] rfl rfl (by kernel_rfl) (fun _ _ _ h => h) (Or.inl ⟨by rfl, ?_⟩) hHeld ?_ ?_
  rotate_left
  · rintro w' ⟨s0, s1, s2, s3, s4⟩
    go_simp
    with_reducible rfl
  rotate_left
  · simp only [Act.put, List.setIfInBounds_toArray, List.set_cons_zero, List.set_cons_succ, i64_w, i32_w]
    rfl
  refine take_ (i := 5) (N := some 16) (v := ?_) (a' := ?_) #[true, true, true, true, true, true, false] rfl rfl (by kernel_rfl) (fun _ _ _ h => h) (Or.inl ⟨by rfl, ?_⟩) hHeld ?_ ?_
  rotate_left
  · rintro w' ⟨s0, s1, s2, s3, s4⟩
    go_simp
    with_reducible rfl
  rotate_left
  · simp only [Act.put, List.setIfInBounds_toArray, List.set_cons_zero, List.set_cons_succ, i64_w, i32_w]
    rfl
  refine pure_ (i := 6) (N := some 17) (v := ?_) (a' := ?_) #[true, true, true, true, true, true, true] rfl rfl (by kernel_rfl) (fun _ _ _ h => h) (Or.inl ⟨by rfl, ?_⟩) ?_ ?_
  rotate_left
  · intro w'
    go_simp
    with_reducible rfl
  rotate_left
  · simp only [Act.put, List.setIfInBounds_toArray, List.set_cons_zero, List.set_cons_succ, i64_w, i32_w]
    rfl
  refine done_ (by kernel_rfl) ?_
  clear hHeld
  go_wp2
  refine start_ (n := 7) (S := fun w' => w'.cell? ⟨gb, 0, none⟩ = some (.int .i64 o) ∧ w'.cell? ⟨gb, 1, none⟩ = some (.int .i64 n) ∧ w'.cell? ⟨gb, 2, none⟩ = some (.slice B ups.length c)) (ds := []) #[false, false, false, false, false, false, false] (by kernel_rfl) rfl rfl ⟨((blk_cell (O3.out.blk (i := 2) rfl) 0).trans rfl), ((blk_cell (O3.out.blk (i := 2) rfl) 1).trans rfl), ((blk_cell (O3.out.blk (i := 2) rfl) 2).trans rfl)⟩ (fun hHeld => ?_)
  obtain ⟨w4, hw_⟩ : ∃ W, W = w3.drew := ⟨_, rfl⟩
  have o_ := O3.out.drew
  have k_ : KeepS N w3 w3.drew := KeepS.drew
  rw [← hw_] at o_ k_ hHeld ⊢
  clear hw_
  have O4 : Aside0 (Own N w4 [cells g #[.int .i64 C, .slice A0 L.length c0] 37, nrow k31 31 (.slice A0 L.length c0) L, cells gb #[.int .i64 o, .int .i64 n, .slice B ups.length c] 31]) := ⟨o_⟩
  have K4 : Aside0 (KeepS N w w4) := ⟨K3.out.trans k_⟩
  have HR_4 : Aside0 (Kd.F k47 w4 N B ups.length ups) := ⟨keepF HR_3.out k_⟩
  clear c3_0_0 f3_0_0 c3_0_1 f3_0_1 c3_2_0 f3_2_0 c3_2_1 f3_2_1 c3_2_2 f3_2_2 n3_0_2 n3_2_0 O3 K3 HR_3
  have c4_0_0 : w4.cell? ⟨g, 0, none⟩ = some (.int .i64 C) := (blk_cell (O4.out.blk (i := 0) rfl) 0).trans rfl
  have f4_0_0 : w4.frozen? ⟨g, 0, none⟩ = false := blk_frozen (O4.out.blk (i := 0) rfl) 0
  have c4_0_1 : w4.cell? ⟨g, 1, none⟩ = some (.slice A0 L.length c0) := (blk_cell (O4.out.blk (i := 0) rfl) 1).trans rfl
  have f4_0_1 : w4.frozen? ⟨g, 1, none⟩ = false := blk_frozen (O4.out.blk (i := 0) rfl) 1
  have c4_2_0 : w4.cell? ⟨gb, 0, none⟩ = some (.int .i64 o) := (blk_cell (O4.out.blk (i := 2) rfl) 0).trans rfl
  have f4_2_0 : w4.frozen? ⟨gb, 0, none⟩ = false := blk_frozen (O4.out.blk (i := 2) rfl) 0
  have c4_2_1 : w4.cell? ⟨gb, 1, none⟩ = some (.int .i64 n) := (blk_cell (O4.out.blk (i := 2) rfl) 1).trans rfl
  have f4_2_1 : w4.frozen? ⟨gb, 1, none⟩ = false := blk_frozen (O4.out.blk (i := 2) rfl) 1
  have c4_2_2 : w4.cell? ⟨gb, 2, none⟩ = some (.slice B ups.length c) := (blk_cell (O4.out.blk (i := 2) rfl) 2).trans rfl
  have f4_2_2 : w4.frozen? ⟨gb, 2, none⟩ = false := blk_frozen (O4.out.blk (i := 2) rfl) 2
  have n4_0_2 : g ≠ gb := O4.out.ne (i := 0) (j := 2) rfl rfl (by decide)
  have n4_2_0 : gb ≠ g := O4.out.ne (i := 2) (j := 0) rfl rfl (by decide)
  clear o_ k_
  refine pure_ (i := 0) (N := some 18) (v := ?_) (a' := ?_) #[true, false, false, false, false, false, false] rfl rfl (by kernel_rfl) (fun _ _ _ h => h) (Or.inl ⟨by rfl, ?_⟩) ?_ ?_
  rotate_left
  · intro w'
    go_simp
    with_reducible rfl
  rotate_left
  · simp only [Act.put, List.setIfInBounds_toArray, List.set_cons_zero, List.set_cons_succ, i64_w, i32_w]
    rfl
  refine pure_ (i := 2) (N := some 20) (v := ?_) (a' := ?_) #[true, false, true, false, false, false, false] rfl rfl (by kernel_rfl) (fun _ _ _ h => h) (Or.inl ⟨by rfl, ?_⟩) ?_ ?_
  rotate_left
  · intro w'
    go_simp
    with_reducible rfl
  rotate_left
  · simp only [Act.put, List.setIfInBounds_toArray, List.set_cons_zero, List.set_cons_succ, i64_w, i32_w]
    rfl
  refine pure_ (i := 3) (N := some 21) (v := ?_) (a' := ?_) #[true, false, true, true, false, false, false] rfl rfl (by kernel_rfl) (fun _ _ _ h => h) (Or.inl ⟨by rfl, ?_⟩) ?_ ?_
  rotate_left
  · intro w'
    go_simp
    with_reducible rfl
  rotate_left
  · simp only [Act.put, List.setIfInBounds_toArray, List.set_cons_zero, List.set_cons_succ, i64_w, i32_w]
    rfl
  refine take_ (i := 1) (N := some 19) (v := ?_) (a' := ?_) #[true, true, true, true, false, false, false] rfl rfl (by kernel_rfl) (fun _ _ _ h => h) (Or.inl ⟨by rfl, ?_⟩) hHeld ?_ ?_
  rotate_left
  · rintro w' ⟨s0, s1, s2⟩
    go_simp
    with_reducible rfl
  rotate_left
  · simp only [Act.put, List.setIfInBounds_toArray, List.set_cons_zero, List.set_cons_succ, i64_w, i32_w]
    rfl
  refine take_ (i := 4) (N := some 22) (v := ?_) (a' := ?_) #[true, true, true, true, true, false, false] rfl rfl (by kernel_rfl) (fun _ _ _ h => h) (Or.inl ⟨by rfl, ?_⟩) hHeld ?_ ?_
  rotate_left
  · rintro w' ⟨s0, s1, s2⟩
    go_simp
    with_reducible rfl
  rotate_left
  · simp only [Act.put, List.setIfInBounds_toArray, List.set_cons_zero, List.set_cons_succ, i64_w, i32_w]
    rfl
  refine one_ (i := 5) (N := some 23) #[true, true, true, true, true, true, false] rfl rfl (by kernel_rfl) (by decide) (fun K_ hK_ => ?_)
  refine goes_ Try.func21 (by kernel_rfl) rfl #[.pointer (some ⟨g, 0, none⟩), .int .i64 o] (by rfl) rfl rfl (by (try simp only [List.map_toArray, List.map_cons, List.map_nil]); first | done | rfl) ?_
  obtain ⟨N_, on_, nn_, rr_, bb_⟩ := O4.out.frame2 (i := 0) (j := 1) rfl rfl (by decide)
  refine (RLastO o on_ HL.out).mono ?_
  rintro e_ w5 ⟨rfl, oo_, kk_⟩
  obtain ⟨o_, k_⟩ := bb_ _ _ _ _ kk_ oo_
  refine ⟨_, rfl, ?_⟩
  have O5 : Aside0 (Own N w5 [cells g #[.int .i64 C, .slice A0 L.length c0] 37, nrow k31 31 (.slice A0 L.length c0) L, cells gb #[.int .i64 o, .int .i64 n, .slice B ups.length c] 31]) := ⟨o_⟩
  have K5 : Aside0 (KeepS N w w5) := ⟨K4.out.trans k_⟩
  have HR_5 : Aside0 (Kd.F k47 w5 N B ups.length ups) := ⟨keepF HR_4.out k_⟩
  clear c4_0_0 f4_0_0 c4_0_1 f4_0_1 c4_2_0 f4_2_0 c4_2_1 f4_2_1 c4_2_2 f4_2_2 n4_0_2 n4_2_0 O4 K4 HR_4
  have c5_0_0 : w5.cell? ⟨g, 0, none⟩ = some (.int .i64 C) := (blk_cell (O5.out.blk (i := 0) rfl) 0).trans rfl
  have f5_0_0 : w5.frozen? ⟨g, 0, none⟩ = false := blk_frozen (O5.out.blk (i := 0) rfl) 0
  have c5_0_1 : w5.cell? ⟨g, 1, none⟩ = some (.slice A0 L.length c0) := (blk_cell (O5.out.blk (i := 0) rfl) 1).trans rfl
  have f5_0_1 : w5.frozen? ⟨g, 1, none⟩ = false := blk_frozen (O5.out.blk (i := 0) rfl) 1
  have c5_2_0 : w5.cell? ⟨gb, 0, none⟩ = some (.int .i64 o) := (blk_cell (O5.out.blk (i := 2) rfl) 0).trans rfl
  have f5_2_0 : w5.frozen? ⟨gb, 0, none⟩ = false := blk_frozen (O5.out.blk (i := 2) rfl) 0
  have c5_2_1 : w5.cell? ⟨gb, 1, none⟩ = some (.int .i64 n) := (blk_cell (O5.out.blk (i := 2) rfl) 1).trans rfl
  have f5_2_1 : w5.frozen? ⟨gb, 1, none⟩ = false := blk_frozen (O5.out.blk (i := 2) rfl) 1
  have c5_2_2 : w5.cell? ⟨gb, 2, none⟩ = some (.slice B ups.length c) := (blk_cell (O5.out.blk (i := 2) rfl) 2).trans rfl
  have f5_2_2 : w5.frozen? ⟨gb, 2, none⟩ = false := blk_frozen (O5.out.blk (i := 2) rfl) 2
  have n5_0_2 : g ≠ gb := O5.out.ne (i := 0) (j := 2) rfl rfl (by decide)
  have n5_2_0 : gb ≠ g := O5.out.ne (i := 2) (j := 0) rfl rfl (by decide)
  clear o_ k_ oo_ kk_ on_ nn_ rr_ bb_
  clear hHeld
  refine hK_.out _ _ ⟨((blk_cell (O5.out.blk (i := 2) rfl) 0).trans rfl), ((blk_cell (O5.out.blk (i := 2) rfl) 1).trans rfl), ((blk_cell (O5.out.blk (i := 2) rfl) 2).trans rfl)⟩ (fun hHeld => ?_)
  clear hK_ K_
  refine norm_ (a' := ?_) ?_ ?_
  rotate_left
  · simp only [Act.put, List.setIfInBounds_toArray, List.set_cons_zero, List.set_cons_succ, i64_w, i32_w]
    rfl
  refine pure_ (i := 6) (N := some 24) (v := ?_) (a' := ?_) #[true, true, true, true, true, true, true] rfl rfl (by kernel_rfl) (fun _ _ _ h => h) (Or.inl ⟨by rfl, ?_⟩) ?_ ?_
  rotate_left
  · intro w'
    go_simp
    with_reducible rfl
  rotate_left
  · simp only [Act.put, List.setIfInBounds_toArray, List.set_cons_zero, List.set_cons_succ, i64_w, i32_w]
    rfl
  refine done_ (by kernel_rfl) ?_
  clear hHeld
  go_wp2
  go_ret
  exact ⟨A0, c0, rfl, HC0.out, O5.out.take 2, K5.out⟩
set_option maxHeartbeats 16000000 in
set_option maxRecDepth 100000 in
theorem RAdd_order {N : Nat → Prop} {w : World} {g : Nat} {C : Int} {L : List Rnd} (B : Option Addr) (c : Nat) (o n : Int) (ups : List Upd) (h : Own N w [ObjM g C L]) (hr : Kd.F k47 w N B ups.length ups) (hc : ups.length ≤ c) (hL : L.length ≤ 1000000) (hu : ups.length ≤ 1000000) (k : Nat) (hb : mayR o n ups = 0) (he : chapbookref07_May.f k o n ups = some 0) (hg : Good C L) (ho : o ≤ C) (ho2 : n > lastOf o L + 1) :
    Calls Try.prog 14 #[.pointer (some ⟨g, 0, none⟩), .agg #[.int .i64 o, .int .i64 n, .slice B ups.length c]] w fun e_ w' => ∃ A2 c2, e_ = .returned (.int .i64 10) ∧ (L).length ≤ c2 ∧ Own N w' [cells g #[.int .i64 C, .slice A2 (L).length c2] 37, nrow k31 31 (.slice A2 (L).length c2) (L)] ∧ KeepS N w w' := by
  have HR_0 : Aside0 (Kd.F k47 w N B ups.length ups) := ⟨hr⟩
  have HC := Aside0.mk hc
  have HE := Aside0.mk he
  have HL := Aside0.mk hL
  have HU := Aside0.mk hu
  have hz0 : ((0 : Int) != 0) = false := by decide
  have hlr := lastOf_range o hg
  obtain ⟨q, hq⟩ : ∃ q, q = lastOf o L + 1 := ⟨_, rfl⟩
  have hs1 : IntKind.i64.wrap (lastOf o L + 1) = q := by rw [IntKind.wrap_i64]; omega
  have hs2 : wrap64 (lastOf o L + 1) = q := by unfold wrap64; omega
  have d6 : decide (o > C) = false := decide_eq_false (by omega)
  have d7 : decide (C < o) = false := d6
  have d8 : decide (n ≤ lastOf o L) = false := decide_eq_false (by omega)
  have d9 : decide (n > q) = true := decide_eq_true (by omega)
  have d10 : decide (q < n) = true := d9
  obtain ⟨A0, c0, h2⟩ := ObjG.open_ h (i := 0) rfl
  have HC0 : Aside0 (L.length ≤ c0) := ⟨(h2.nreads (i := 1) rfl).2.1⟩
  have O0 : Aside0 (Own N w [cells g #[.int .i64 C, .slice A0 L.length c0] 37, nrow k31 31 (.slice A0 L.length c0) L]) := ⟨h2⟩
  have K0 : Aside0 (KeepS N w w) := ⟨KeepS.refl _ _⟩
  have c0_0_0 : w.cell? ⟨g, 0, none⟩ = some (.int .i64 C) := (blk_cell (O0.out.blk (i := 0) rfl) 0).trans rfl
  have f0_0_0 : w.frozen? ⟨g, 0, none⟩ = false := blk_frozen (O0.out.blk (i := 0) rfl) 0
  have c0_0_1 : w.cell? ⟨g, 1, none⟩ = some (.slice A0 L.length c0) := (blk_cell (O0.out.blk (i := 0) rfl) 1).trans rfl
  have f0_0_1 : w.frozen? ⟨g, 1, none⟩ = false := blk_frozen (O0.out.blk (i := 0) rfl) 1
  clear h h2 hr hc hL hu he hb hlr hg hq ho ho2
  go_enter Try.func14, Try.ntmps14
  go_wp2_with (first | ((with_reducible refine gate_dst (N := 3) rfl ?_); refine own_box rfl (D := 3) rfl (cs := #[.int .i64 o, .int .i64 n, .slice B ups.length c]) (t := 31) ?hr O0.out ?_; (case hr => first | (go_simp; done) | (go_simp; rfl)); intro gb w1 o_ k_; have O1 : Aside0 (Own N w1 [cells g #[.int .i64 C, .slice A0 L.length c0] 37, nrow k31 31 (.slice A0 L.length c0) L, cells gb #[.int .i64 o, .int .i64 n, .slice B ups.length c] 31]) := ⟨o_⟩; have K1 : Aside0 (KeepS N w w1) := ⟨K0.out.trans k_⟩; have HR_1 : Aside0 (Kd.F k47 w1 N B ups.length ups) := ⟨keepF HR_0.out k_⟩; clear c0_0_0 f0_0_0 c0_0_1 f0_0_1 O0 K0 HR_0; have c1_0_0 : w1.cell? ⟨g, 0, none⟩ = some (.int .i64 C) := (blk_cell (O1.out.blk (i := 0) rfl) 0).trans rfl; have f1_0_0 : w1.frozen? ⟨g, 0, none⟩ = false := blk_frozen (O1.out.blk (i := 0) rfl) 0; have c1_0_1 : w1.cell? ⟨g, 1, none⟩ = some (.slice A0 L.length c0) := (blk_cell (O1.out.blk (i := 0) rfl) 1).trans rfl; have f1_0_1 : w1.frozen? ⟨g, 1, none⟩ = false := blk_frozen (O1.out.blk (i := 0) rfl) 1; have c1_2_0 : w1.cell? ⟨gb, 0, none⟩ = some (.int .i64 o) := (blk_cell (O1.out.blk (i := 2) rfl) 0).trans rfl; have f1_2_0 : w1.frozen? ⟨gb, 0, none⟩ = false := blk_frozen (O1.out.blk (i := 2) rfl) 0; have c1_2_1 : w1.cell? ⟨gb, 1, none⟩ = some (.int .i64 n) := (blk_cell (O1.out.blk (i := 2) rfl) 1).trans rfl; have f1_2_1 : w1.frozen? ⟨gb, 1, none⟩ = false := blk_frozen (O1.out.blk (i := 2) rfl) 1; have c1_2_2 : w1.cell? ⟨gb, 2, none⟩ = some (.slice B ups.length c) := (blk_cell (O1.out.blk (i := 2) rfl) 2).trans rfl; have f1_2_2 : w1.frozen? ⟨gb, 2, none⟩ = false := blk_frozen (O1.out.blk (i := 2) rfl) 2; have n1_0_2 : g ≠ gb := O1.out.ne (i := 0) (j := 2) rfl rfl (by decide); have n1_2_0 : gb ≠ g := O1.out.ne (i := 2) (j := 0) rfl rfl (by decide); clear o_ k_) | ((with_reducible refine gate_callee (f := 26) rfl ?_); refine goesL_ (some 7) rfl rfl Try.func26 (by kernel_rfl) rfl #[.agg #[.int .i64 o, .int .i64 n, .slice B ups.length c]] rfl (by (try simp only [List.map_toArray, List.map_cons, List.map_nil]); first | done | rfl) ?_; refine (chapbookref07_May.calls k _ _ _ _ ups 0 _ (Kd.F_now HR_1.out) HC.out HE.out).mono ?_; rintro e_ w2 ⟨rfl, hb_⟩; refine ⟨_, rfl, ?_⟩; have o_ := O1.out.below hb_; have k_ := KeepS.of_below (N := N) hb_; have O2 : Aside0 (Own N w2 [cells g #[.int .i64 C, .slice A0 L.length c0] 37, nrow k31 31 (.slice A0 L.length c0) L, cells gb #[.int .i64 o, .int .i64 n, .slice B ups.length c] 31]) := ⟨o_⟩; have K2 : Aside0 (KeepS N w w2) := ⟨K1.out.trans k_⟩; have HR_2 : Aside0 (Kd.F k47 w2 N B ups.length ups) := ⟨keepF HR_1.out k_⟩; clear c1_0_0 f1_0_0 c1_0_1 f1_0_1 c1_2_0 f1_2_0 c1_2_1 f1_2_1 c1_2_2 f1_2_2 n1_0_2 n1_2_0 O1 K1 HR_1; have c2_0_0 : w2.cell? ⟨g, 0, none⟩ = some (.int .i64 C) := (blk_cell (O2.out.blk (i := 0) rfl) 0).trans rfl; have f2_0_0 : w2.frozen? ⟨g, 0, none⟩ = false := blk_frozen (O2.out.blk (i := 0) rfl) 0; have c2_0_1 : w2.cell? ⟨g, 1, none⟩ = some (.slice A0 L.length c0) := (blk_cell (O2.out.blk (i := 0) rfl) 1).trans rfl; have f2_0_1 : w2.frozen? ⟨g, 1, none⟩ = false := blk_frozen (O2.out.blk (i := 0) rfl) 1; have c2_2_0 : w2.cell? ⟨gb, 0, none⟩ = some (.int .i64 o) := (blk_cell (O2.out.blk (i := 2) rfl) 0).trans rfl; have f2_2_0 : w2.frozen? ⟨gb, 0, none⟩ = false := blk_frozen (O2.out.blk (i := 2) rfl) 0; have c2_2_1 : w2.cell? ⟨gb, 1, none⟩ = some (.int .i64 n) := (blk_cell (O2.out.blk (i := 2) rfl) 1).trans rfl; have f2_2_1 : w2.frozen? ⟨gb, 1, none⟩ = false := blk_frozen (O2.out.blk (i := 2) rfl) 1; have c2_2_2 : w2.cell? ⟨gb, 2, none⟩ = some (.slice B ups.length c) := (blk_cell (O2.out.blk (i := 2) rfl) 2).trans rfl; have f2_2_2 : w2.frozen? ⟨gb, 2, none⟩ = false := blk_frozen (O2.out.blk (i := 2) rfl) 2; have n2_0_2 : g ≠ gb := O2.out.ne (i := 0) (j := 2) rfl rfl (by decide); have n2_2_0 : gb ≠ g := O2.out.ne (i := 2) (j := 0) rfl rfl (by decide); clear o_ k_ hb_))
  refine start_ (n := 7) (S := fun w' => w'.cell? ⟨gb, 0, none⟩ = some (.int .i64 o) ∧ w'.cell? ⟨gb, 1, none⟩ = some (.int .i64 n) ∧ w'.cell? ⟨gb, 2, none⟩ = some (.slice B ups.length c) ∧ w'.cell? ⟨g, 0, none⟩ = some (.int .i64 C) ∧ w'.cell? ⟨g, 1, none⟩ = some (.slice A0 L.length c0)) (ds := []) #[false, false, false, false, false, false, false] (by kernel_rfl) rfl rfl ⟨((blk_cell (O2.out.blk (i := 2) rfl) 0).trans rfl), ((blk_cell (O2.out.blk (i := 2) rfl) 1).trans rfl), ((blk_cell (O2.out.blk (i := 2) rfl) 2).trans rfl), ((blk_cell (O2.out.blk (i := 0) rfl) 0).trans rfl), ((blk_cell (O2.out.blk (i := 0) rfl) 1).trans rfl)⟩ (fun hHeld => ?_)
  obtain ⟨w3, hw_⟩ : ∃ W, W = w2.drew := ⟨_, rfl⟩
  have o_ := O2.out.drew
  have k_ : KeepS N w2 w2.drew := KeepS.drew
  rw [← hw_] at o_ k_ hHeld ⊢
  clear hw_
  have O3 : Aside0 (Own N w3 [cells g #[.int .i64 C, .slice A0 L.length c0] 37, nrow k31 31 (.slice A0 L.length c0) L, cells gb #[.int .i64 o, .int .i64 n, .slice B ups.length c] 31]) := ⟨o_⟩
  have K3 : Aside0 (KeepS N w w3) := ⟨K2.out.trans k_⟩
  have HR_3 : Aside0 (Kd.F k47 w3 N B ups.length ups) := ⟨keepF HR_2.out k_⟩
  clear c2_0_0 f2_0_0 c2_0_1 f2_0_1 c2_2_0 f2_2_0 c2_2_1 f2_2_1 c2_2_2 f2_2_2 n2_0_2 n2_2_0 O2 K2 HR_2
  have c3_0_0 : w3.cell? ⟨g, 0, none⟩ = some (.int .i64 C) := (blk_cell (O3.out.blk (i := 0) rfl) 0).trans rfl
  have f3_0_0 : w3.frozen? ⟨g, 0, none⟩ = false := blk_frozen (O3.out.blk (i := 0) rfl) 0
  have c3_0_1 : w3.cell? ⟨g, 1, none⟩ = some (.slice A0 L.length c0) := (blk_cell (O3.out.blk (i := 0) rfl) 1).trans rfl
  have f3_0_1 : w3.frozen? ⟨g, 1, none⟩ = false := blk_frozen (O3.out.blk (i := 0) rfl) 1
  have c3_2_0 : w3.cell? ⟨gb, 0, none⟩ = some (.int .i64 o) := (blk_cell (O3.out.blk (i := 2) rfl) 0).trans rfl
  have f3_2_0 : w3.frozen? ⟨gb, 0, none⟩ = false := blk_frozen (O3.out.blk (i := 2) rfl) 0
  have c3_2_1 : w3.cell? ⟨gb, 1, none⟩ = some (.int .i64 n) := (blk_cell (O3.out.blk (i := 2) rfl) 1).trans rfl
  have f3_2_1 : w3.frozen? ⟨gb, 1, none⟩ = false := blk_frozen (O3.out.blk (i := 2) rfl) 1
  have c3_2_2 : w3.cell? ⟨gb, 2, none⟩ = some (.slice B ups.length c) := (blk_cell (O3.out.blk (i := 2) rfl) 2).trans rfl
  have f3_2_2 : w3.frozen? ⟨gb, 2, none⟩ = false := blk_frozen (O3.out.blk (i := 2) rfl) 2
  have n3_0_2 : g ≠ gb := O3.out.ne (i := 0) (j := 2) rfl rfl (by decide)
  have n3_2_0 : gb ≠ g := O3.out.ne (i := 2) (j := 0) rfl rfl (by decide)
  clear o_ k_
  refine pure_ (i := 0) (N := some 11) (v := ?_) (a' := ?_) #[true, false, false, false, false, false, false] rfl rfl (by kernel_rfl) (fun _ _ _ h => h) (Or.inl ⟨by rfl, ?_⟩) ?_ ?_
  rotate_left
  · intro w'
    go_simp
    with_reducible rfl
  rotate_left
  · simp only [Act.put, List.setIfInBounds_toArray, List.set_cons_zero, List.set_cons_succ, i64_w, i32_w]
    rfl
  refine pure_ (i := 2) (N := some 13) (v := ?_) (a' := ?_) #[true, false, true, false, false, false, false] rfl rfl (by kernel_rfl) (fun _ _ _ h => h) (Or.inl ⟨by rfl, ?_⟩) ?_ ?_
  rotate_left
  · intro w'
    go_simp
    with_reducible rfl
  rotate_left
  · simp only [Act.put, List.setIfInBounds_toArray, List.set_cons_zero, List.set_cons_succ, i64_w, i32_w]
    rfl
  refine pure_ (i := 3) (N := some 14) (v := ?_) (a' := ?_) #[true, false, true, true, false, false, false] rfl rfl (by kernel_rfl) (fun _ _ _ h => h) (Or.inl ⟨by rfl, ?_⟩) ?_ ?_
  rotate_left
  · intro w'
    go_simp
    with_reducible rfl
  rotate_left
  · simp only [Act.put, List.setIfInBounds_toArray, List.set_cons_zero, List.set_cons_succ, i64_w, i32_w]
    rfl
  refine pure_ (i := 4) (N := some 15) (v := ?_) (a' := ?_) #[true, false, true, true, true, false, false] rfl rfl (by kernel_rfl) (fun _ _ _ h => h) (Or.inl ⟨by rfl, ?_⟩) ?_ ?_
  rotate_left
  · intro w'
    go_simp
    with_reducible rfl
  rotate_left
  · simp only [Act.put, List.setIfInBounds_toArray, List.set_cons_zero, List.set_cons_succ, i64_w, i32_w]
    rfl
  refine take_ (i := 1) (N := some 12) (v := ?_) (a' := ?_) #[true, true, true, true, true, false, false] rfl rfl (by kernel_rfl) (fun _ _ _ h => h) (Or.inl ⟨by rfl, ?_⟩) hHeld ?_ ?_
  rotate_left
  · rintro w' ⟨s0, s1, s2, s3, s4⟩
    go_simp
    with_reducible rfl
  rotate_left
  · simp only [Act.put, List.setIfInBounds_toArray, List.set_cons_zero, List.set_cons_succ, i64_w, i32_w]
    rfl
  refine take_ (i := 5) (N := some 16) (v := ?_) (a' := ?_) #[true, true, true, true, true, true, false] rfl rfl (by kernel_rfl) (fun _ _ _ h => h) (Or.inl ⟨by rfl, ?_⟩) hHeld ?_ ?_
  rotate_left
  · rintro w' ⟨s0, s1, s2, s3, s4⟩
    go_simp
    with_reducible rfl
  rotate_left
  · simp only [Act.put, List.setIfInBounds_toArray, List.set_cons_zero, List.set_cons_succ, i64_w, i32_w]
    rfl
  refine pure_ (i := 6) (N := some 17) (v := ?_) (a' := ?_) #[true, true, true, true, true, true, true] rfl rfl (by kernel_rfl) (fun _ _ _ h => h) (Or.inl ⟨by rfl, ?_⟩) ?_ ?_
  rotate_left
  · intro w'
    go_simp
    with_reducible rfl
  rotate_left
  · simp only [Act.put, List.setIfInBounds_toArray, List.set_cons_zero, List.set_cons_succ, i64_w, i32_w]
    rfl
  refine done_ (by kernel_rfl) ?_
  clear hHeld
  go_wp2
  refine start_ (n := 7) (S := fun w' => w'.cell? ⟨gb, 0, none⟩ = some (.int .i64 o) ∧ w'.cell? ⟨gb, 1, none⟩ = some (.int .i64 n) ∧ w'.cell? ⟨gb, 2, none⟩ = some (.slice B ups.length c)) (ds := []) #[false, false, false, false, false, false, false] (by kernel_rfl) rfl rfl ⟨((blk_cell (O3.out.blk (i := 2) rfl) 0).trans rfl), ((blk_cell (O3.out.blk (i := 2) rfl) 1).trans rfl), ((blk_cell (O3.out.blk (i := 2) rfl) 2).trans rfl)⟩ (fun hHeld => ?_)
  obtain ⟨w4, hw_⟩ : ∃ W, W = w3.drew := ⟨_, rfl⟩
  have o_ := O3.out.drew
  have k_ : KeepS N w3 w3.drew := KeepS.drew
  rw [← hw_] at o_ k_ hHeld ⊢
  clear hw_
  have O4 : Aside0 (Own N w4 [cells g #[.int .i64 C, .slice A0 L.length c0] 37, nrow k31 31 (.slice A0 L.length c0) L, cells gb #[.int .i64 o, .int .i64 n, .slice B ups.length c] 31]) := ⟨o_⟩
  have K4 : Aside0 (KeepS N w w4) := ⟨K3.out.trans k_⟩
  have HR_4 : Aside0 (Kd.F k47 w4 N B ups.length ups) := ⟨keepF HR_3.out k_⟩
  clear c3_0_0 f3_0_0 c3_0_1 f3_0_1 c3_2_0 f3_2_0 c3_2_1 f3_2_1 c3_2_2 f3_2_2 n3_0_2 n3_2_0 O3 K3 HR_3
  have c4_0_0 : w4.cell? ⟨g, 0, none⟩ = some (.int .i64 C) := (blk_cell (O4.out.blk (i := 0) rfl) 0).trans rfl
  have f4_0_0 : w4.frozen? ⟨g, 0, none⟩ = false := blk_frozen (O4.out.blk (i := 0) rfl) 0
  have c4_0_1 : w4.cell? ⟨g, 1, none⟩ = some (.slice A0 L.length c0) := (blk_cell (O4.out.blk (i := 0) rfl) 1).trans rfl
  have f4_0_1 : w4.frozen? ⟨g, 1, none⟩ = false := blk_frozen (O4.out.blk (i := 0) rfl) 1
  have c4_2_0 : w4.cell? ⟨gb, 0, none⟩ = some (.int .i64 o) := (blk_cell (O4.out.blk (i := 2) rfl) 0).trans rfl
  have f4_2_0 : w4.frozen? ⟨gb, 0, none⟩ = false := blk_frozen (O4.out.blk (i := 2) rfl) 0
  have c4_2_1 : w4.cell? ⟨gb, 1, none⟩ = some (.int .i64 n) := (blk_cell (O4.out.blk (i := 2) rfl) 1).trans rfl
  have f4_2_1 : w4.frozen? ⟨gb, 1, none⟩ = false := blk_frozen (O4.out.blk (i := 2) rfl) 1
  have c4_2_2 : w4.cell? ⟨gb, 2, none⟩ = some (.slice B ups.length c) := (blk_cell (O4.out.blk (i := 2) rfl) 2).trans rfl
  have f4_2_2 : w4.frozen? ⟨gb, 2, none⟩ = false := blk_frozen (O4.out.blk (i := 2) rfl) 2
  have n4_0_2 : g ≠ gb := O4.out.ne (i := 0) (j := 2) rfl rfl (by decide)
  have n4_2_0 : gb ≠ g := O4.out.ne (i := 2) (j := 0) rfl rfl (by decide)
  clear o_ k_
  refine pure_ (i := 0) (N := some 18) (v := ?_) (a' := ?_) #[true, false, false, false, false, false, false] rfl rfl (by kernel_rfl) (fun _ _ _ h => h) (Or.inl ⟨by rfl, ?_⟩) ?_ ?_
  rotate_left
  · intro w'
    go_simp
    with_reducible rfl
  rotate_left
  · simp only [Act.put, List.setIfInBounds_toArray, List.set_cons_zero, List.set_cons_succ, i64_w, i32_w]
    rfl
  refine pure_ (i := 2) (N := some 20) (v := ?_) (a' := ?_) #[true, false, true, false, false, false, false] rfl rfl (by kernel_rfl) (fun _ _ _ h => h) (Or.inl ⟨by rfl, ?_⟩) ?_ ?_
  rotate_left
  · intro w'
    go_simp
    with_reducible rfl
  rotate_left
  · simp only [Act.put, List.setIfInBounds_toArray, List.set_cons_zero, List.set_cons_succ, i64_w, i32_w]
    rfl
  refine pure_ (i := 3) (N := some 21) (v := ?_) (a' := ?_) #[true, false, true, true, false, false, false] rfl rfl (by kernel_rfl) (fun _ _ _ h => h) (Or.inl ⟨by rfl, ?_⟩) ?_ ?_
  rotate_left
  · intro w'
    go_simp
    with_reducible rfl
  rotate_left
  · simp only [Act.put, List.setIfInBounds_toArray, List.set_cons_zero, List.set_cons_succ, i64_w, i32_w]
    rfl
  refine take_ (i := 1) (N := some 19) (v := ?_) (a' := ?_) #[true, true, true, true, false, false, false] rfl rfl (by kernel_rfl) (fun _ _ _ h => h) (Or.inl ⟨by rfl, ?_⟩) hHeld ?_ ?_
  rotate_left
  · rintro w' ⟨s0, s1, s2⟩
    go_simp
    with_reducible rfl
  rotate_left
  · simp only [Act.put, List.setIfInBounds_toArray, List.set_cons_zero, List.set_cons_succ, i64_w, i32_w]
    rfl
  refine take_ (i := 4) (N := some 22) (v := ?_) (a' := ?_) #[true, true, true, true, true, false, false] rfl rfl (by kernel_rfl) (fun _ _ _ h => h) (Or.inl ⟨by rfl, ?_⟩) hHeld ?_ ?_
  rotate_left
  · rintro w' ⟨s0, s1, s2⟩
    go_simp
    with_reducible rfl
  rotate_left
  · simp only [Act.put, List.setIfInBounds_toArray, List.set_cons_zero, List.set_cons_succ, i64_w, i32_w]
    rfl
  refine one_ (i := 5) (N := some 23) #[true, true, true, true, true, true, false] rfl rfl (by kernel_rfl) (by decide) (fun K_ hK_ => ?_)
  refine goes_ Try.func21 (by kernel_rfl) rfl #[.pointer (some ⟨g, 0, none⟩), .int .i64 o] (by rfl) rfl rfl (by (try simp only [List.map_toArray, List.map_cons, List.map_nil]); first | done | rfl) ?_
  obtain ⟨N_, on_, nn_, rr_, bb_⟩ := O4.out.frame2 (i := 0) (j := 1) rfl rfl (by decide)
  refine (RLastO o on_ HL.out).mono ?_
  rintro e_ w5 ⟨rfl, oo_, kk_⟩
  obtain ⟨o_, k_⟩ := bb_ _ _ _ _ kk_ oo_
  refine ⟨_, rfl, ?_⟩
  have O5 : Aside0 (Own N w5 [cells g #[.int .i64 C, .slice A0 L.length c0] 37, nrow k31 31 (.slice A0 L.length c0) L, cells gb #[.int .i64 o, .int .i64 n, .slice B ups.length c] 31]) := ⟨o_⟩
  have K5 : Aside0 (KeepS N w w5) := ⟨K4.out.trans k_⟩
  have HR_5 : Aside0 (Kd.F k47 w5 N B ups.length ups) := ⟨keepF HR_4.out k_⟩
  clear c4_0_0 f4_0_0 c4_0_1 f4_0_1 c4_2_0 f4_2_0 c4_2_1 f4_2_1 c4_2_2 f4_2_2 n4_0_2 n4_2_0 O4 K4 HR_4
  have c5_0_0 : w5.cell? ⟨g, 0, none⟩ = some (.int .i64 C) := (blk_cell (O5.out.blk (i := 0) rfl) 0).trans rfl
  have f5_0_0 : w5.frozen? ⟨g, 0, none⟩ = false := blk_frozen (O5.out.blk (i := 0) rfl) 0
  have c5_0_1 : w5.cell? ⟨g, 1, none⟩ = some (.slice A0 L.length c0) := (blk_cell (O5.out.blk (i := 0) rfl) 1).trans rfl
  have f5_0_1 : w5.frozen? ⟨g, 1, none⟩ = false := blk_frozen (O5.out.blk (i := 0) rfl) 1
  have c5_2_0 : w5.cell? ⟨gb, 0, none⟩ = some (.int .i64 o) := (blk_cell (O5.out.blk (i := 2) rfl) 0).trans rfl
  have f5_2_0 : w5.frozen? ⟨gb, 0, none⟩ = false := blk_frozen (O5.out.blk (i := 2) rfl) 0
  have c5_2_1 : w5.cell? ⟨gb, 1, none⟩ = some (.int .i64 n) := (blk_cell (O5.out.blk (i := 2) rfl) 1).trans rfl
  have f5_2_1 : w5.frozen? ⟨gb, 1, none⟩ = false := blk_frozen (O5.out.blk (i := 2) rfl) 1
  have c5_2_2 : w5.cell? ⟨gb, 2, none⟩ = some (.slice B ups.length c) := (blk_cell (O5.out.blk (i := 2) rfl) 2).trans rfl
  have f5_2_2 : w5.frozen? ⟨gb, 2, none⟩ = false := blk_frozen (O5.out.blk (i := 2) rfl) 2
  have n5_0_2 : g ≠ gb := O5.out.ne (i := 0) (j := 2) rfl rfl (by decide)
  have n5_2_0 : gb ≠ g := O5.out.ne (i := 2) (j := 0) rfl rfl (by decide)
  clear o_ k_ oo_ kk_ on_ nn_ rr_ bb_
  clear hHeld
  refine hK_.out _ _ ⟨((blk_cell (O5.out.blk (i := 2) rfl) 0).trans rfl), ((blk_cell (O5.out.blk (i := 2) rfl) 1).trans rfl), ((blk_cell (O5.out.blk (i := 2) rfl) 2).trans rfl)⟩ (fun hHeld => ?_)
  clear hK_ K_
  refine norm_ (a' := ?_) ?_ ?_
  rotate_left
  · simp only [Act.put, List.setIfInBounds_toArray, List.set_cons_zero, List.set_cons_succ, i64_w, i32_w]
    rfl
  refine pure_ (i := 6) (N := some 24) (v := ?_) (a' := ?_) #[true, true, true, true, true, true, true] rfl rfl (by kernel_rfl) (fun _ _ _ h => h) (Or.inl ⟨by rfl, ?_⟩) ?_ ?_
  rotate_left
  · intro w'
    go_simp
    with_reducible rfl
  rotate_left
  · simp only [Act.put, List.setIfInBounds_toArray, List.set_cons_zero, List.set_cons_succ, i64_w, i32_w]
    rfl
  refine done_ (by kernel_rfl) ?_
  clear hHeld
  go_wp2
  refine start_ (n := 8) (S := fun w' => w'.cell? ⟨gb, 0, none⟩ = some (.int .i64 o) ∧ w'.cell? ⟨gb, 1, none⟩ = some (.int .i64 n) ∧ w'.cell? ⟨gb, 2, none⟩ = some (.slice B ups.length c)) (ds := []) #[false, false, false, false, false, false, false, false] (by kernel_rfl) rfl rfl ⟨((blk_cell (O5.out.blk (i := 2) rfl) 0).trans rfl), ((blk_cell (O5.out.blk (i := 2) rfl) 1).trans rfl), ((blk_cell (O5.out.blk (i := 2) rfl) 2).trans rfl)⟩ (fun hHeld => ?_)
  obtain ⟨w6, hw_⟩ : ∃ W, W = w5.drew := ⟨_, rfl⟩
  have o_ := O5.out.drew
  have k_ : KeepS N w5 w5.drew := KeepS.drew
  rw [← hw_] at o_ k_ hHeld ⊢
  clear hw_
  have O6 : Aside0 (Own N w6 [cells g #[.int .i64 C, .slice A0 L.length c0] 37, nrow k31 31 (.slice A0 L.length c0) L, cells gb #[.int .i64 o, .int .i64 n, .slice B ups.length c] 31]) := ⟨o_⟩
  have K6 : Aside0 (KeepS N w w6) := ⟨K5.out.trans k_⟩
  have HR_6 : Aside0 (Kd.F k47 w6 N B ups.length ups) := ⟨keepF HR_5.out k_⟩
  clear c5_0_0 f5_0_0 c5_0_1 f5_0_1 c5_2_0 f5_2_0 c5_2_1 f5_2_1 c5_2_2 f5_2_2 n5_0_2 n5_2_0 O5 K5 HR_5
  have c6_0_0 : w6.cell? ⟨g, 0, none⟩ = some (.int .i64 C) := (blk_cell (O6.out.blk (i := 0) rfl) 0).trans rfl
  have f6_0_0 : w6.frozen? ⟨g, 0, none⟩ = false := blk_frozen (O6.out.blk (i := 0) rfl) 0
  have c6_0_1 : w6.cell? ⟨g, 1, none⟩ = some (.slice A0 L.length c0) := (blk_cell (O6.out.blk (i := 0) rfl) 1).trans rfl
  have f6_0_1 : w6.frozen? ⟨g, 1, none⟩ = false := blk_frozen (O6.out.blk (i := 0) rfl) 1
  have c6_2_0 : w6.cell? ⟨gb, 0, none⟩ = some (.int .i64 o) := (blk_cell (O6.out.blk (i := 2) rfl) 0).trans rfl
  have f6_2_0 : w6.frozen? ⟨gb, 0, none⟩ = false := blk_frozen (O6.out.blk (i := 2) rfl) 0
  have c6_2_1 : w6.cell? ⟨gb, 1, none⟩ = some (.int .i64 n) := (blk_cell (O6.out.blk (i := 2) rfl) 1).trans rfl
  have f6_2_1 : w6.frozen? ⟨gb, 1, none⟩ = false := blk_frozen (O6.out.blk (i := 2) rfl) 1
  have c6_2_2 : w6.cell? ⟨gb, 2, none⟩ = some (.slice B ups.length c) := (blk_cell (O6.out.blk (i := 2) rfl) 2).trans rfl
  have f6_2_2 : w6.frozen? ⟨gb, 2, none⟩ = false := blk_frozen (O6.out.blk (i := 2) rfl) 2
  have n6_0_2 : g ≠ gb := O6.out.ne (i := 0) (j := 2) rfl rfl (by decide)
  have n6_2_0 : gb ≠ g := O6.out.ne (i := 2) (j := 0) rfl rfl (by decide)
  clear o_ k_
  refine pure_ (i := 0) (N := some 25) (v := ?_) (a' := ?_) #[true, false, false, false, false, false, false, false] rfl rfl (by kernel_rfl) (fun _ _ _ h => h) (Or.inl ⟨by rfl, ?_⟩) ?_ ?_
  rotate_left
  · intro w'
    go_simp
    with_reducible rfl
  rotate_left
  · simp only [Act.put, List.setIfInBounds_toArray, List.set_cons_zero, List.set_cons_succ, i64_w, i32_w]
    rfl
  refine pure_ (i := 2) (N := some 27) (v := ?_) (a' := ?_) #[true, false, true, false, false, false, false, false] rfl rfl (by kernel_rfl) (fun _ _ _ h => h) (Or.inl ⟨by rfl, ?_⟩) ?_ ?_
  rotate_left
  · intro w'
    go_simp
    with_reducible rfl
  rotate_left
  · simp only [Act.put, List.setIfInBounds_toArray, List.set_cons_zero, List.set_cons_succ, i64_w, i32_w]
    rfl
  refine pure_ (i := 3) (N := some 28) (v := ?_) (a' := ?_) #[true, false, true, true, false, false, false, false] rfl rfl (by kernel_rfl) (fun _ _ _ h => h) (Or.inl ⟨by rfl, ?_⟩) ?_ ?_
  rotate_left
  · intro w'
    go_simp
    with_reducible rfl
  rotate_left
  · simp only [Act.put, List.setIfInBounds_toArray, List.set_cons_zero, List.set_cons_succ, i64_w, i32_w]
    rfl
  refine take_ (i := 1) (N := some 26) (v := ?_) (a' := ?_) #[true, true, true, true, false, false, false, false] rfl rfl (by kernel_rfl) (fun _ _ _ h => h) (Or.inl ⟨by rfl, ?_⟩) hHeld ?_ ?_
  rotate_left
  · rintro w' ⟨s0, s1, s2⟩
    go_simp
    with_reducible rfl
  rotate_left
  · simp only [Act.put, List.setIfInBounds_toArray, List.set_cons_zero, List.set_cons_succ, i64_w, i32_w]
    rfl
  refine take_ (i := 4) (N := some 29) (v := ?_) (a' := ?_) #[true, true, true, true, true, false, false, false] rfl rfl (by kernel_rfl) (fun _ _ _ h => h) (Or.inl ⟨by rfl, ?_⟩) hHeld ?_ ?_
  rotate_left
  · rintro w' ⟨s0, s1, s2⟩
    go_simp
    with_reducible rfl
  rotate_left
  · simp only [Act.put, List.setIfInBounds_toArray, List.set_cons_zero, List.set_cons_succ, i64_w, i32_w]
    rfl
  refine one_ (i := 5) (N := some 30) #[true, true, true, true, true, true, false, false] rfl rfl (by kernel_rfl) (by decide) (fun K_ hK_ => ?_)
  refine goes_ Try.func21 (by kernel_rfl) rfl #[.pointer (some ⟨g, 0, none⟩), .int .i64 o] (by rfl) rfl rfl (by (try simp only [List.map_toArray, List.map_cons, List.map_nil]); first | done | rfl) ?_
  obtain ⟨N_, on_, nn_, rr_, bb_⟩ := O6.out.frame2 (i := 0) (j := 1) rfl rfl (by decide)
  refine (RLastO o on_ HL.out).mono ?_
  rintro e_ w7 ⟨rfl, oo_, kk_⟩
  obtain ⟨o_, k_⟩ := bb_ _ _ _ _ kk_ oo_
  refine ⟨_, rfl, ?_⟩
  have O7 : Aside0 (Own N w7 [cells g #[.int .i64 C, .slice A0 L.length c0] 37, nrow k31 31 (.slice A0 L.length c0) L, cells gb #[.int .i64 o, .int .i64 n, .slice B ups.length c] 31]) := ⟨o_⟩
  have K7 : Aside0 (KeepS N w w7) := ⟨K6.out.trans k_⟩
  have HR_7 : Aside0 (Kd.F k47 w7 N B ups.length ups) := ⟨keepF HR_6.out k_⟩
  clear c6_0_0 f6_0_0 c6_0_1 f6_0_1 c6_2_0 f6_2_0 c6_2_1 f6_2_1 c6_2_2 f6_2_2 n6_0_2 n6_2_0 O6 K6 HR_6
  have c7_0_0 : w7.cell? ⟨g, 0, none⟩ = some (.int .i64 C) := (blk_cell (O7.out.blk (i := 0) rfl) 0).trans rfl
  have f7_0_0 : w7.frozen? ⟨g, 0, none⟩ = false := blk_frozen (O7.out.blk (i := 0) rfl) 0
  have c7_0_1 : w7.cell? ⟨g, 1, none⟩ = some (.slice A0 L.length c0) := (blk_cell (O7.out.blk (i := 0) rfl) 1).trans rfl
  have f7_0_1 : w7.frozen? ⟨g, 1, none⟩ = false := blk_frozen (O7.out.blk (i := 0) rfl) 1
  have c7_2_0 : w7.cell? ⟨gb, 0, none⟩ = some (.int .i64 o) := (blk_cell (O7.out.blk (i := 2) rfl) 0).trans rfl
  have f7_2_0 : w7.frozen? ⟨gb, 0, none⟩ = false := blk_frozen (O7.out.blk (i := 2) rfl) 0
  have c7_2_1 : w7.cell? ⟨gb, 1, none⟩ = some (.int .i64 n) := (blk_cell (O7.out.blk (i := 2) rfl) 1).trans rfl
  have f7_2_1 : w7.frozen? ⟨gb, 1, none⟩ = false := blk_frozen (O7.out.blk (i := 2) rfl) 1
  have c7_2_2 : w7.cell? ⟨gb, 2, none⟩ = some (.slice B ups.length c) := (blk_cell (O7.out.blk (i := 2) rfl) 2).trans rfl
  have f7_2_2 : w7.frozen? ⟨gb, 2, none⟩ = false := blk_frozen (O7.out.blk (i := 2) rfl) 2
  have n7_0_2 : g ≠ gb := O7.out.ne (i := 0) (j := 2) rfl rfl (by decide)
  have n7_2_0 : gb ≠ g := O7.out.ne (i := 2) (j := 0) rfl rfl (by decide)
  clear o_ k_ oo_ kk_ on_ nn_ rr_ bb_
  clear hHeld
  refine hK_.out _ _ ⟨((blk_cell (O7.out.blk (i := 2) rfl) 0).trans rfl), ((blk_cell (O7.out.blk (i := 2) rfl) 1).trans rfl), ((blk_cell (O7.out.blk (i := 2) rfl) 2).trans rfl)⟩ (fun hHeld => ?_)
  clear hK_ K_
  refine norm_ (a' := ?_) ?_ ?_
  rotate_left
  · simp only [Act.put, List.setIfInBounds_toArray, List.set_cons_zero, List.set_cons_succ, i64_w, i32_w]
    rfl
  refine pure_ (i := 6) (N := some 31) (v := ?_) (a' := ?_) #[true, true, true, true, true, true, true, false] rfl rfl (by kernel_rfl) (fun _ _ _ h => h) (Or.inl ⟨by rfl, ?_⟩) ?_ ?_
  rotate_left
  · intro w'
    go_simp
    with_reducible rfl
  rotate_left
  · simp only [Act.put, List.setIfInBounds_toArray, List.set_cons_zero, List.set_cons_succ, i64_w, i32_w]
    rfl
  refine pure_ (i := 7) (N := some 32) (v := ?_) (a' := ?_) #[true, true, true, true, true, true, true, true] rfl rfl (by kernel_rfl) (fun _ _ _ h => h) (Or.inl ⟨by rfl, ?_⟩) ?_ ?_
  rotate_left
  · intro w'
    go_simp
    with_reducible rfl
  rotate_left
  · simp only [Act.put, List.setIfInBounds_toArray, List.set_cons_zero, List.set_cons_succ, i64_w, i32_w]
    rfl
  refine done_ (by kernel_rfl) ?_
  clear hHeld
  go_wp2
  go_ret
  exact ⟨A0, c0, rfl, HC0.out, O7.out.take 2, K7.out⟩
set_option maxHeartbeats 16000000 in
set_option maxRecDepth 100000 in
theorem RAdd_ok {N : Nat → Prop} {w : World} {g : Nat} {C : Int} {L : List Rnd} (B : Option Addr) (c : Nat) (o n : Int) (ups : List Upd) (h : Own N w [ObjM g C L]) (hr : Kd.F k47 w N B ups.length ups) (hc : ups.length ≤ c) (hL : L.length ≤ 1000000) (hu : ups.length ≤ 1000000) (k : Nat) (hb : mayR o n ups = 0) (he : chapbookref07_May.f k o n ups = some 0) (hg : Good C L) (ho : o ≤ C) (ho2 : n = lastOf o L + 1) :
    Calls Try.prog 14 #[.pointer (some ⟨g, 0, none⟩), .agg #[.int .i64 o, .int .i64 n, .slice B ups.length c]] w fun e_ w' => ∃ A2 c2, e_ = .returned (.int .i64 0) ∧ (L ++ [(⟨o, n, ups⟩ : Rnd)]).length ≤ c2 ∧ Own N w' [cells g #[.int .i64 C, .slice A2 (L ++ [(⟨o, n, ups⟩ : Rnd)]).length c2] 37, nrow k31 31 (.slice A2 (L ++ [(⟨o, n, ups⟩ : Rnd)]).length c2) (L ++ [(⟨o, n, ups⟩ : Rnd)])] ∧ KeepS N w w' := by
  have HR_0 : Aside0 (Kd.F k47 w N B ups.length ups) := ⟨hr⟩
  have HC := Aside0.mk hc
  have HE := Aside0.mk he
  have HL := Aside0.mk hL
  have HU := Aside0.mk hu
  have hz0 : ((0 : Int) != 0) = false := by decide
  have hlr := lastOf_range o hg
  obtain ⟨q, hq⟩ : ∃ q, q = lastOf o L + 1 := ⟨_, rfl⟩
  have hs1 : IntKind.i64.wrap (lastOf o L + 1) = q := by rw [IntKind.wrap_i64]; omega
  have hs2 : wrap64 (lastOf o L + 1) = q := by unfold wrap64; omega
  have d6 : decide (o > C) = false := decide_eq_false (by omega)
  have d7 : decide (C < o) = false := d6
  have d8 : decide (n ≤ lastOf o L) = false := decide_eq_false (by omega)
  have d9 : decide (n > q) = false := decide_eq_false (by omega)
  have d10 : decide (q < n) = false := d9
  obtain ⟨A0, c0, h2⟩ := ObjG.open_ h (i := 0) rfl
  have HC0 : Aside0 (L.length ≤ c0) := ⟨(h2.nreads (i := 1) rfl).2.1⟩
  have O0 : Aside0 (Own N w [cells g #[.int .i64 C, .slice A0 L.length c0] 37, nrow k31 31 (.slice A0 L.length c0) L]) := ⟨h2⟩
  have K0 : Aside0 (KeepS N w w) := ⟨KeepS.refl _ _⟩
  have c0_0_0 : w.cell? ⟨g, 0, none⟩ = some (.int .i64 C) := (blk_cell (O0.out.blk (i := 0) rfl) 0).trans rfl
  have f0_0_0 : w.frozen? ⟨g, 0, none⟩ = false := blk_frozen (O0.out.blk (i := 0) rfl) 0
  have c0_0_1 : w.cell? ⟨g, 1, none⟩ = some (.slice A0 L.length c0) := (blk_cell (O0.out.blk (i := 0) rfl) 1).trans rfl
  have f0_0_1 : w.frozen? ⟨g, 1, none⟩ = false := blk_frozen (O0.out.blk (i := 0) rfl) 1
  clear h h2 hr hc hL hu he hb hlr hg hq ho ho2
  go_enter Try.func14, Try.ntmps14
  go_wp2_with (first | ((with_reducible refine gate_dst (N := 3) rfl ?_); refine own_box rfl (D := 3) rfl (cs := #[.int .i64 o, .int .i64 n, .slice B ups.length c]) (t := 31) ?hr O0.out ?_; (case hr => first | (go_simp; done) | (go_simp; rfl)); intro gb w1 o_ k_; have O1 : Aside0 (Own N w1 [cells g #[.int .i64 C, .slice A0 L.length c0] 37, nrow k31 31 (.slice A0 L.length c0) L, cells gb #[.int .i64 o, .int .i64 n, .slice B ups.length c] 31]) := ⟨o_⟩; have K1 : Aside0 (KeepS N w w1) := ⟨K0.out.trans k_⟩; have HR_1 : Aside0 (Kd.F k47 w1 N B ups.length ups) := ⟨keepF HR_0.out k_⟩; clear c0_0_0 f0_0_0 c0_0_1 f0_0_1 O0 K0 HR_0; have c1_0_0 : w1.cell? ⟨g, 0, none⟩ = some (.int .i64 C) := (blk_cell (O1.out.blk (i := 0) rfl) 0).trans rfl; have f1_0_0 : w1.frozen? ⟨g, 0, none⟩ = false := blk_frozen (O1.out.blk (i := 0) rfl) 0; have c1_0_1 : w1.cell? ⟨g, 1, none⟩ = some (.slice A0 L.length c0) := (blk_cell (O1.out.blk (i := 0) rfl) 1).trans rfl; have f1_0_1 : w1.frozen? ⟨g, 1, none⟩ = false := blk_frozen (O1.out.blk (i := 0) rfl) 1; have c1_2_0 : w1.cell? ⟨gb, 0, none⟩ = some (.int .i64 o) := (blk_cell (O1.out.blk (i := 2) rfl) 0).trans rfl; have f1_2_0 : w1.frozen? ⟨gb, 0, none⟩ = false := blk_frozen (O1.out.blk (i := 2) rfl) 0; have c1_2_1 : w1.cell? ⟨gb, 1, none⟩ = some (.int .i64 n) := (blk_cell (O1.out.blk (i := 2) rfl) 1).trans rfl; have f1_2_1 : w1.frozen? ⟨gb, 1, none⟩ = false := blk_frozen (O1.out.blk (i := 2) rfl) 1; have c1_2_2 : w1.cell? ⟨gb, 2, none⟩ = some (.slice B ups.length c) := (blk_cell (O1.out.blk (i := 2) rfl) 2).trans rfl; have f1_2_2 : w1.frozen? ⟨gb, 2, none⟩ = false := blk_frozen (O1.out.blk (i := 2) rfl) 2; have n1_0_2 : g ≠ gb := O1.out.ne (i := 0) (j := 2) rfl rfl (by decide); have n1_2_0 : gb ≠ g := O1.out.ne (i := 2) (j := 0) rfl rfl (by decide); clear o_ k_) | ((with_reducible refine gate_callee (f := 26) rfl ?_); refine goesL_ (some 7) rfl rfl Try.func26 (by kernel_rfl) rfl #[.agg #[.int .i64 o, .int .i64 n, .slice B ups.length c]] rfl (by (try simp only [List.map_toArray, List.map_cons, List.map_nil]); first | done | rfl) ?_; refine (chapbookref07_May.calls k _ _ _ _ ups 0 _ (Kd.F_now HR_1.out) HC.out HE.out).mono ?_; rintro e_ w2 ⟨rfl, hb_⟩; refine ⟨_, rfl, ?_⟩; have o_ := O1.out.below hb_; have k_ := KeepS.of_below (N := N) hb_; have O2 : Aside0 (Own N w2 [cells g #[.int .i64 C, .slice A0 L.length c0] 37, nrow k31 31 (.slice A0 L.length c0) L, cells gb #[.int .i64 o, .int .i64 n, .slice B ups.length c] 31]) := ⟨o_⟩; have K2 : Aside0 (KeepS N w w2) := ⟨K1.out.trans k_⟩; have HR_2 : Aside0 (Kd.F k47 w2 N B ups.length ups) := ⟨keepF HR_1.out k_⟩; clear c1_0_0 f1_0_0 c1_0_1 f1_0_1 c1_2_0 f1_2_0 c1_2_1 f1_2_1 c1_2_2 f1_2_2 n1_0_2 n1_2_0 O1 K1 HR_1; have c2_0_0 : w2.cell? ⟨g, 0, none⟩ = some (.int .i64 C) := (blk_cell (O2.out.blk (i := 0) rfl) 0).trans rfl; have f2_0_0 : w2.frozen? ⟨g, 0, none⟩ = false := blk_frozen (O2.out.blk (i := 0) rfl) 0; have c2_0_1 : w2.cell? ⟨g, 1, none⟩ = some (.slice A0 L.length c0) := (blk_cell (O2.out.blk (i := 0) rfl) 1).trans rfl; have f2_0_1 : w2.frozen? ⟨g, 1, none⟩ = false := blk_frozen (O2.out.blk (i := 0) rfl) 1; have c2_2_0 : w2.cell? ⟨gb, 0, none⟩ = some (.int .i64 o) := (blk_cell (O2.out.blk (i := 2) rfl) 0).trans rfl; have f2_2_0 : w2.frozen? ⟨gb, 0, none⟩ = false := blk_frozen (O2.out.blk (i := 2) rfl) 0; have c2_2_1 : w2.cell? ⟨gb, 1, none⟩ = some (.int .i64 n) := (blk_cell (O2.out.blk (i := 2) rfl) 1).trans rfl; have f2_2_1 : w2.frozen? ⟨gb, 1, none⟩ = false := blk_frozen (O2.out.blk (i := 2) rfl) 1; have c2_2_2 : w2.cell? ⟨gb, 2, none⟩ = some (.slice B ups.length c) := (blk_cell (O2.out.blk (i := 2) rfl) 2).trans rfl; have f2_2_2 : w2.frozen? ⟨gb, 2, none⟩ = false := blk_frozen (O2.out.blk (i := 2) rfl) 2; have n2_0_2 : g ≠ gb := O2.out.ne (i := 0) (j := 2) rfl rfl (by decide); have n2_2_0 : gb ≠ g := O2.out.ne (i := 2) (j := 0) rfl rfl (by decide); clear o_ k_ hb_))
  refine start_ (n := 7) (S := fun w' => w'.cell? ⟨gb, 0, none⟩ = some (.int .i64 o) ∧ w'.cell? ⟨gb, 1, none⟩ = some (.int .i64 n) ∧ w'.cell? ⟨gb, 2, none⟩ = some (.slice B ups.length c) ∧ w'.cell? ⟨g, 0, none⟩ = some (.int .i64 C) ∧ w'.cell? ⟨g, 1, none⟩ = some (.slice A0 L.length c0)) (ds := []) #[false, false, false, false, false, false, false] (by kernel_rfl) rfl rfl ⟨((blk_cell (O2.out.blk (i := 2) rfl) 0).trans rfl), ((blk_cell (O2.out.blk (i := 2) rfl) 1).trans rfl), ((blk_cell (O2.out.blk (i := 2) rfl) 2).trans rfl), ((blk_cell (O2.out.blk (i := 0) rfl) 0).trans rfl), ((blk_cell (O2.out.blk (i := 0) rfl) 1).trans rfl)⟩ (fun hHeld => ?_)
  obtain ⟨w3, hw_⟩ : ∃ W, W = w2.drew := ⟨_, rfl⟩
  have o_ := O2.out.drew
  have k_ : KeepS N w2 w2.drew := KeepS.drew
  rw [← hw_] at o_ k_ hHeld ⊢
  clear hw_
  have O3 : Aside0 (Own N w3 [cells g #[.int .i64 C, .slice A0 L.length c0] 37, nrow k31 31 (.slice A0 L.length c0) L, cells gb #[.int .i64 o, .int .i64 n, .slice B ups.length c] 31]) := ⟨o_⟩
  have K3 : Aside0 (KeepS N w w3) := ⟨K2.out.trans k_⟩
  have HR_3 : Aside0 (Kd.F k47 w3 N B ups.length ups) := ⟨keepF HR_2.out k_⟩
  clear c2_0_0 f2_0_0 c2_0_1 f2_0_1 c2_2_0 f2_2_0 c2_2_1 f2_2_1 c2_2_2 f2_2_2 n2_0_2 n2_2_0 O2 K2 HR_2
  have c3_0_0 : w3.cell? ⟨g, 0, none⟩ = some (.int .i64 C) := (blk_cell (O3.out.blk (i := 0) rfl) 0).trans rfl
  have f3_0_0 : w3.frozen? ⟨g, 0, none⟩ = false := blk_frozen (O3.out.blk (i := 0) rfl) 0
  have c3_0_1 : w3.cell? ⟨g, 1, none⟩ = some (.slice A0 L.length c0) := (blk_cell (O3.out.blk (i := 0) rfl) 1).trans rfl
  have f3_0_1 : w3.frozen? ⟨g, 1, none⟩ = false := blk_frozen (O3.out.blk (i := 0) rfl) 1
  have c3_2_0 : w3.cell? ⟨gb, 0, none⟩ = some (.int .i64 o) := (blk_cell (O3.out.blk (i := 2) rfl) 0).trans rfl
  have f3_2_0 : w3.frozen? ⟨gb, 0, none⟩ = false := blk_frozen (O3.out.blk (i := 2) rfl) 0
  have c3_2_1 : w3.cell? ⟨gb, 1, none⟩ = some (.int .i64 n) := (blk_cell (O3.out.blk (i := 2) rfl) 1).trans rfl
  have f3_2_1 : w3.frozen? ⟨gb, 1, none⟩ = false := blk_frozen (O3.out.blk (i := 2) rfl) 1
  have c3_2_2 : w3.cell? ⟨gb, 2, none⟩ = some (.slice B ups.length c) := (blk_cell (O3.out.blk (i := 2) rfl) 2).trans rfl
  have f3_2_2 : w3.frozen? ⟨gb, 2, none⟩ = false := blk_frozen (O3.out.blk (i := 2) rfl) 2
  have n3_0_2 : g ≠ gb := O3.out.ne (i := 0) (j := 2) rfl rfl (by decide)
  have n3_2_0 : gb ≠ g := O3.out.ne (i := 2) (j := 0) rfl rfl (by decide)
  clear o_ k_
  refine pure_ (i := 0) (N := some 11) (v := ?_) (a' := ?_) #[true, false, false, false, false, false, false] rfl rfl (by kernel_rfl) (fun _ _ _ h => h) (Or.inl ⟨by rfl, ?_⟩) ?_ ?_
  rotate_left
  · intro w'
    go_simp
    with_reducible rfl
  rotate_left
  · simp only [Act.put, List.setIfInBounds_toArray, List.set_cons_zero, List.set_cons_succ, i64_w, i32_w]
    rfl
  refine pure_ (i := 2) (N := some 13) (v := ?_) (a' := ?_) #[true, false, true, false, false, false, false] rfl rfl (by kernel_rfl) (fun _ _ _ h => h) (Or.inl ⟨by rfl, ?_⟩) ?_ ?_
  rotate_left
  · intro w'
    go_simp
    with_reducible rfl
  rotate_left
  · simp only [Act.put, List.setIfInBounds_toArray, List.set_cons_zero, List.set_cons_succ, i64_w, i32_w]
    rfl
  refine pure_ (i := 3) (N := some 14) (v := ?_) (a' := ?_) #[true, false, true, true, false, false, false] rfl rfl (by kernel_rfl) (fun _ _ _ h => h) (Or.inl ⟨by rfl, ?_⟩) ?_ ?_
  rotate_left
  · intro w'
    go_simp
    with_reducible rfl
  rotate_left
  · simp only [Act.put, List.setIfInBounds_toArray, List.set_cons_zero, List.set_cons_succ, i64_w, i32_w]
    rfl
  refine pure_ (i := 4) (N := some 15) (v := ?_) (a' := ?_) #[true, false, true, true, true, false, false] rfl rfl (by kernel_rfl) (fun _ _ _ h => h) (Or.inl ⟨by rfl, ?_⟩) ?_ ?_
  rotate_left
  · intro w'
    go_simp
    with_reducible rfl
  rotate_left
  · simp only [Act.put, List.setIfInBounds_toArray, List.set_cons_zero, List.set_cons_succ, i64_w, i32_w]
    rfl
  refine take_ (i := 1) (N := some 12) (v := ?_) (a' := ?_) #[true, true, true, true, true, false, false] rfl rfl (by kernel_rfl) (fun _ _ _ h => h) (Or.inl ⟨by rfl, ?_⟩) hHeld ?_ ?_
  rotate_left
  · rintro w' ⟨s0, s1, s2, s3, s4⟩
    go_simp
    with_reducible rfl
  rotate_left
  · simp only [Act.put, List.setIfInBounds_toArray, List.set_cons_zero, List.set_cons_succ, i64_w, i32_w]
    rfl
  refine take_ (i := 5) (N := some 16) (v := ?_) (a' := ?_) #[true, true, true, true, true, true, false] rfl rfl (by kernel_rfl) (fun _ _ _ h => h) (Or.inl ⟨by rfl, ?_⟩) hHeld ?_ ?_
  rotate_left
  · rintro w' ⟨s0, s1, s2, s3, s4⟩
    go_simp
    with_reducible rfl
  rotate_left
  · simp only [Act.put, List.setIfInBounds_toArray, List.set_cons_zero, List.set_cons_succ, i64_w, i32_w]
    rfl
  refine pure_ (i := 6) (N := some 17) (v := ?_) (a' := ?_) #[true, true, true, true, true, true, true] rfl rfl (by kernel_rfl) (fun _ _ _ h => h) (Or.inl ⟨by rfl, ?_⟩) ?_ ?_
  rotate_left
  · intro w'
    go_simp
    with_reducible rfl
  rotate_left
  · simp only [Act.put, List.setIfInBounds_toArray, List.set_cons_zero, List.set_cons_succ, i64_w, i32_w]
    rfl
  refine done_ (by kernel_rfl) ?_
  clear hHeld
  go_wp2
  refine start_ (n := 7) (S := fun w' => w'.cell? ⟨gb, 0, none⟩ = some (.int .i64 o) ∧ w'.cell? ⟨gb, 1, none⟩ = some (.int .i64 n) ∧ w'.cell? ⟨gb, 2, none⟩ = some (.slice B ups.length c)) (ds := []) #[false, false, false, false, false, false, false] (by kernel_rfl) rfl rfl ⟨((blk_cell (O3.out.blk (i := 2) rfl) 0).trans rfl), ((blk_cell (O3.out.blk (i := 2) rfl) 1).trans rfl), ((blk_cell (O3.out.blk (i := 2) rfl) 2).trans rfl)⟩ (fun hHeld => ?_)
  obtain ⟨w4, hw_⟩ : ∃ W, W = w3.drew := ⟨_, rfl⟩
  have o_ := O3.out.drew
  have k_ : KeepS N w3 w3.drew := KeepS.drew
  rw [← hw_] at o_ k_ hHeld ⊢
  clear hw_
  have O4 : Aside0 (Own N w4 [cells g #[.int .i64 C, .slice A0 L.length c0] 37, nrow k31 31 (.slice A0 L.length c0) L, cells gb #[.int .i64 o, .int .i64 n, .slice B ups.length c] 31]) := ⟨o_⟩
  have K4 : Aside0 (KeepS N w w4) := ⟨K3.out.trans k_⟩
  have HR_4 : Aside0 (Kd.F k47 w4 N B ups.length ups) := ⟨keepF HR_3.out k_⟩
  clear c3_0_0 f3_0_0 c3_0_1 f3_0_1 c3_2_0 f3_2_0 c3_2_1 f3_2_1 c3_2_2 f3_2_2 n3_0_2 n3_2_0 O3 K3 HR_3
  have c4_0_0 : w4.cell? ⟨g, 0, none⟩ = some (.int .i64 C) := (blk_cell (O4.out.blk (i := 0) rfl) 0).trans rfl
  have f4_0_0 : w4.frozen? ⟨g, 0, none⟩ = false := blk_frozen (O4.out.blk (i := 0) rfl) 0
  have c4_0_1 : w4.cell? ⟨g, 1, none⟩ = some (.slice A0 L.length c0) := (blk_cell (O4.out.blk (i := 0) rfl) 1).trans rfl
  have f4_0_1 : w4.frozen? ⟨g, 1, none⟩ = false := blk_frozen (O4.out.blk (i := 0) rfl) 1
  have c4_2_0 : w4.cell? ⟨gb, 0, none⟩ = some (.int .i64 o) := (blk_cell (O4.out.blk (i := 2) rfl) 0).trans rfl
  have f4_2_0 : w4.frozen? ⟨gb, 0, none⟩ = false := blk_frozen (O4.out.blk (i := 2) rfl) 0
  have c4_2_1 : w4.cell? ⟨gb, 1, none⟩ = some (.int .i64 n) := (blk_cell (O4.out.blk (i := 2) rfl) 1).trans rfl
  have f4_2_1 : w4.frozen? ⟨gb, 1, none⟩ = false := blk_frozen (O4.out.blk (i := 2) rfl) 1
  have c4_2_2 : w4.cell? ⟨gb, 2, none⟩ = some (.slice B ups.length c) := (blk_cell (O4.out.blk (i := 2) rfl) 2).trans rfl
  have f4_2_2 : w4.frozen? ⟨gb, 2, none⟩ = false := blk_frozen (O4.out.blk (i := 2) rfl) 2
  have n4_0_2 : g ≠ gb := O4.out.ne (i := 0) (j := 2) rfl rfl (by decide)
  have n4_2_0 : gb ≠ g := O4.out.ne (i := 2) (j := 0) rfl rfl (by decide)
  clear o_ k_
  refine pure_ (i := 0) (N := some 18) (v := ?_) (a' := ?_) #[true, false, false, false, false, false, false] rfl rfl (by kernel_rfl) (fun _ _ _ h => h) (Or.inl ⟨by rfl, ?_⟩) ?_ ?_
  rotate_left
  · intro w'
    go_simp
    with_reducible rfl
  rotate_left
  · simp only [Act.put, List.setIfInBounds_toArray, List.set_cons_zero, List.set_cons_succ, i64_w, i32_w]
    rfl
  refine pure_ (i := 2) (N := some 20) (v := ?_) (a' := ?_) #[true, false, true, false, false, false, false] rfl rfl (by kernel_rfl) (fun _ _ _ h => h) (Or.inl ⟨by rfl, ?_⟩) ?_ ?_
  rotate_left
  · intro w'
    go_simp
    with_reducible rfl
  rotate_left
  · simp only [Act.put, List.setIfInBounds_toArray, List.set_cons_zero, List.set_cons_succ, i64_w, i32_w]
    rfl
  refine pure_ (i := 3) (N := some 21) (v := ?_) (a' := ?_) #[true, false, true, true, false, false, false] rfl rfl (by kernel_rfl) (fun _ _ _ h => h) (Or.inl ⟨by rfl, ?_⟩) ?_ ?_
  rotate_left
  · intro w'
    go_simp
    with_reducible rfl
  rotate_left
  · simp only [Act.put, List.setIfInBounds_toArray, List.set_cons_zero, List.set_cons_succ, i64_w, i32_w]
    rfl
  refine take_ (i := 1) (N := some 19) (v := ?_) (a' := ?_) #[true, true, true, true, false, false, false] rfl rfl (by kernel_rfl) (fun _ _ _ h => h) (Or.inl ⟨by rfl, ?_⟩) hHeld ?_ ?_
  rotate_left
  · rintro w' ⟨s0, s1, s2⟩
    go_simp
    with_reducible rfl
  rotate_left
  · simp only [Act.put, List.setIfInBounds_toArray, List.set_cons_zero, List.set_cons_succ, i64_w, i32_w]
    rfl
  refine take_ (i := 4) (N := some 22) (v := ?_) (a' := ?_) #[true, true, true, true, true, false, false] rfl rfl (by kernel_rfl) (fun _ _ _ h => h) (Or.inl ⟨by rfl, ?_⟩) hHeld ?_ ?_
  rotate_left
  · rintro w' ⟨s0, s1, s2⟩
    go_simp
    with_reducible rfl
  rotate_left
  · simp only [Act.put, List.setIfInBounds_toArray, List.set_cons_zero, List.set_cons_succ, i64_w, i32_w]
    rfl
  refine one_ (i := 5) (N := some 23) #[true, true, true, true, true, true, false] rfl rfl (by kernel_rfl) (by decide) (fun K_ hK_ => ?_)
  refine goes_ Try.func21 (by kernel_rfl) rfl #[.pointer (some ⟨g, 0, none⟩), .int .i64 o] (by rfl) rfl rfl (by (try simp only [List.map_toArray, List.map_cons, List.map_nil]); first | done | rfl) ?_
  obtain ⟨N_, on_, nn_, rr_, bb_⟩ := O4.out.frame2 (i := 0) (j := 1) rfl rfl (by decide)
  refine (RLastO o on_ HL.out).mono ?_
  rintro e_ w5 ⟨rfl, oo_, kk_⟩
  obtain ⟨o_, k_⟩ := bb_ _ _ _ _ kk_ oo_
  refine ⟨_, rfl, ?_⟩
  have O5 : Aside0 (Own N w5 [cells g #[.int .i64 C, .slice A0 L.length c0] 37, nrow k31 31 (.slice A0 L.length c0) L, cells gb #[.int .i64 o, .int .i64 n, .slice B ups.length c] 31]) := ⟨o_⟩
  have K5 : Aside0 (KeepS N w w5) := ⟨K4.out.trans k_⟩
  have HR_5 : Aside0 (Kd.F k47 w5 N B ups.length ups) := ⟨keepF HR_4.out k_⟩
  clear c4_0_0 f4_0_0 c4_0_1 f4_0_1 c4_2_0 f4_2_0 c4_2_1 f4_2_1 c4_2_2 f4_2_2 n4_0_2 n4_2_0 O4 K4 HR_4
  have c5_0_0 : w5.cell? ⟨g, 0, none⟩ = some (.int .i64 C) := (blk_cell (O5.out.blk (i := 0) rfl) 0).trans rfl
  have f5_0_0 : w5.frozen? ⟨g, 0, none⟩ = false := blk_frozen (O5.out.blk (i := 0) rfl) 0
  have c5_0_1 : w5.cell? ⟨g, 1, none⟩ = some (.slice A0 L.length c0) := (blk_cell (O5.out.blk (i := 0) rfl) 1).trans rfl
  have f5_0_1 : w5.frozen? ⟨g, 1, none⟩ = false := blk_frozen (O5.out.blk (i := 0) rfl) 1
  have c5_2_0 : w5.cell? ⟨gb, 0, none⟩ = some (.int .i64 o) := (blk_cell (O5.out.blk (i := 2) rfl) 0).trans rfl
  have f5_2_0 : w5.frozen? ⟨gb, 0, none⟩ = false := blk_frozen (O5.out.blk (i := 2) rfl) 0
  have c5_2_1 : w5.cell? ⟨gb, 1, none⟩ = some (.int .i64 n) := (blk_cell (O5.out.blk (i := 2) rfl) 1).trans rfl
  have f5_2_1 : w5.frozen? ⟨gb, 1, none⟩ = false := blk_frozen (O5.out.blk (i := 2) rfl) 1
  have c5_2_2 : w5.cell? ⟨gb, 2, none⟩ = some (.slice B ups.length c) := (blk_cell (O5.out.blk (i := 2) rfl) 2).trans rfl
  have f5_2_2 : w5.frozen? ⟨gb, 2, none⟩ = false := blk_frozen (O5.out.blk (i := 2) rfl) 2
  have n5_0_2 : g ≠ gb := O5.out.ne (i := 0) (j := 2) rfl rfl (by decide)
  have n5_2_0 : gb ≠ g := O5.out.ne (i := 2) (j := 0) rfl rfl (by decide)
  clear o_ k_ oo_ kk_ on_ nn_ rr_ bb_
  clear hHeld
  refine hK_.out _ _ ⟨((blk_cell (O5.out.blk (i := 2) rfl) 0).trans rfl), ((blk_cell (O5.out.blk (i := 2) rfl) 1).trans rfl), ((blk_cell (O5.out.blk (i := 2) rfl) 2).trans rfl)⟩ (fun hHeld => ?_)
  clear hK_ K_
  refine norm_ (a' := ?_) ?_ ?_
  rotate_left
  · simp only [Act.put, List.setIfInBounds_toArray, List.set_cons_zero, List.set_cons_succ, i64_w, i32_w]
    rfl
  refine pure_ (i := 6) (N := some 24) (v := ?_) (a' := ?_) #[true, true, true, true, true, true, true] rfl rfl (by kernel_rfl) (fun _ _ _ h => h) (Or.inl ⟨by rfl, ?_⟩) ?_ ?_
  rotate_left
  · intro w'
    go_simp
    with_reducible rfl
  rotate_left
  · simp only [Act.put, List.setIfInBounds_toArray, List.set_cons_zero, List.set_cons_succ, i64_w, i32_w]
    rfl
  refine done_ (by kernel_rfl) ?_
  clear hHeld
  go_wp2
  refine start_ (n := 8) (S := fun w' => w'.cell? ⟨gb, 0, none⟩ = some (.int .i64 o) ∧ w'.cell? ⟨gb, 1, none⟩ = some (.int .i64 n) ∧ w'.cell? ⟨gb, 2, none⟩ = some (.slice B ups.length c)) (ds := []) #[false, false, false, false, false, false, false, false] (by kernel_rfl) rfl rfl ⟨((blk_cell (O5.out.blk (i := 2) rfl) 0).trans rfl), ((blk_cell (O5.out.blk (i := 2) rfl) 1).trans rfl), ((blk_cell (O5.out.blk (i := 2) rfl) 2).trans rfl)⟩ (fun hHeld => ?_)
  obtain ⟨w6, hw_⟩ : ∃ W, W = w5.drew := ⟨_, rfl⟩
  have o_ := O5.out.drew
  have k_ : KeepS N w5 w5.drew := KeepS.drew
  rw [← hw_] at o_ k_ hHeld ⊢
  clear hw_
  have O6 : Aside0 (Own N w6 [cells g #[.int .i64 C, .slice A0 L.length c0] 37, nrow k31 31 (.slice A0 L.length c0) L, cells gb #[.int .i64 o, .int .i64 n, .slice B ups.length c] 31]) := ⟨o_⟩
  have K6 : Aside0 (KeepS N w w6) := ⟨K5.out.trans k_⟩
  have HR_6 : Aside0 (Kd.F k47 w6 N B ups.length ups) := ⟨keepF HR_5.out k_⟩
  clear c5_0_0 f5_0_0 c5_0_1 f5_0_1 c5_2_0 f5_2_0 c5_2_1 f5_2_1 c5_2_2 f5_2_2 n5_0_2 n5_2_0 O5 K5 HR_5
  have c6_0_0 : w6.cell? ⟨g, 0, none⟩ = some (.int .i64 C) := (blk_cell (O6.out.blk (i := 0) rfl) 0).trans rfl
  have f6_0_0 : w6.frozen? ⟨g, 0, none⟩ = false := blk_frozen (O6.out.blk (i := 0) rfl) 0
  have c6_0_1 : w6.cell? ⟨g, 1, none⟩ = some (.slice A0 L.length c0) := (blk_cell (O6.out.blk (i := 0) rfl) 1).trans rfl
  have f6_0_1 : w6.frozen? ⟨g, 1, none⟩ = false := blk_frozen (O6.out.blk (i := 0) rfl) 1
  have c6_2_0 : w6.cell? ⟨gb, 0, none⟩ = some (.int .i64 o) := (blk_cell (O6.out.blk (i := 2) rfl) 0).trans rfl
  have f6_2_0 : w6.frozen? ⟨gb, 0, none⟩ = false := blk_frozen (O6.out.blk (i := 2) rfl) 0
  have c6_2_1 : w6.cell? ⟨gb, 1, none⟩ = some (.int .i64 n) := (blk_cell (O6.out.blk (i := 2) rfl) 1).trans rfl
  have f6_2_1 : w6.frozen? ⟨gb, 1, none⟩ = false := blk_frozen (O6.out.blk (i := 2) rfl) 1
  have c6_2_2 : w6.cell? ⟨gb, 2, none⟩ = some (.slice B ups.length c) := (blk_cell (O6.out.blk (i := 2) rfl) 2).trans rfl
  have f6_2_2 : w6.frozen? ⟨gb, 2, none⟩ = false := blk_frozen (O6.out.blk (i := 2) rfl) 2
  have n6_0_2 : g ≠ gb := O6.out.ne (i := 0) (j := 2) rfl rfl (by decide)
  have n6_2_0 : gb ≠ g := O6.out.ne (i := 2) (j := 0) rfl rfl (by decide)
  clear o_ k_
  refine pure_ (i := 0) (N := some 25) (v := ?_) (a' := ?_) #[true, false, false, false, false, false, false, false] rfl rfl (by kernel_rfl) (fun _ _ _ h => h) (Or.inl ⟨by rfl, ?_⟩) ?_ ?_
  rotate_left
  · intro w'
    go_simp
    with_reducible rfl
  rotate_left
  · simp only [Act.put, List.setIfInBounds_toArray, List.set_cons_zero, List.set_cons_succ, i64_w, i32_w]
    rfl
  refine pure_ (i := 2) (N := some 27) (v := ?_) (a' := ?_) #[true, false, true, false, false, false, false, false] rfl rfl (by kernel_rfl) (fun _ _ _ h => h) (Or.inl ⟨by rfl, ?_⟩) ?_ ?_
  rotate_left
  · intro w'
    go_simp
    with_reducible rfl
  rotate_left
  · simp only [Act.put, List.setIfInBounds_toArray, List.set_cons_zero, List.set_cons_succ, i64_w, i32_w]
    rfl
  refine pure_ (i := 3) (N := some 28) (v := ?_) (a' := ?_) #[true, false, true, true, false, false, false, false] rfl rfl (by kernel_rfl) (fun _ _ _ h => h) (Or.inl ⟨by rfl, ?_⟩) ?_ ?_
  rotate_left
  · intro w'
    go_simp
    with_reducible rfl
  rotate_left
  · simp only [Act.put, List.setIfInBounds_toArray, List.set_cons_zero, List.set_cons_succ, i64_w, i32_w]
    rfl
  refine take_ (i := 1) (N := some 26) (v := ?_) (a' := ?_) #[true, true, true, true, false, false, false, false] rfl rfl (by kernel_rfl) (fun _ _ _ h => h) (Or.inl ⟨by rfl, ?_⟩) hHeld ?_ ?_
  rotate_left
  · rintro w' ⟨s0, s1, s2⟩
    go_simp
    with_reducible rfl
  rotate_left
  · simp only [Act.put, List.setIfInBounds_toArray, List.set_cons_zero, List.set_cons_succ, i64_w, i32_w]
    rfl
  refine take_ (i := 4) (N := some 29) (v := ?_) (a' := ?_) #[true, true, true, true, true, false, false, false] rfl rfl (by kernel_rfl) (fun _ _ _ h => h) (Or.inl ⟨by rfl, ?_⟩) hHeld ?_ ?_
  rotate_left
  · rintro w' ⟨s0, s1, s2⟩
    go_simp
    with_reducible rfl
  rotate_left
  · simp only [Act.put, List.setIfInBounds_toArray, List.set_cons_zero, List.set_cons_succ, i64_w, i32_w]
    rfl
  refine one_ (i := 5) (N := some 30) #[true, true, true, true, true, true, false, false] rfl rfl (by kernel_rfl) (by decide) (fun K_ hK_ => ?_)
  refine goes_ Try.func21 (by kernel_rfl) rfl #[.pointer (some ⟨g, 0, none⟩), .int .i64 o] (by rfl) rfl rfl (by (try simp only [List.map_toArray, List.map_cons, List.map_nil]); first | done | rfl) ?_
  obtain ⟨N_, on_, nn_, rr_, bb_⟩ := O6.out.frame2 (i := 0) (j := 1) rfl rfl (by decide)
  refine (RLastO o on_ HL.out).mono ?_
  rintro e_ w7 ⟨rfl, oo_, kk_⟩
  obtain ⟨o_, k_⟩ := bb_ _ _ _ _ kk_ oo_
  refine ⟨_, rfl, ?_⟩
  have O7 : Aside0 (Own N w7 [cells g #[.int .i64 C, .slice A0 L.length c0] 37, nrow k31 31 (.slice A0 L.length c0) L, cells gb #[.int .i64 o, .int .i64 n, .slice B ups.length c] 31]) := ⟨o_⟩
  have K7 : Aside0 (KeepS N w w7) := ⟨K6.out.trans k_⟩
  have HR_7 : Aside0 (Kd.F k47 w7 N B ups.length ups) := ⟨keepF HR_6.out k_⟩
  clear c6_0_0 f6_0_0 c6_0_1 f6_0_1 c6_2_0 f6_2_0 c6_2_1 f6_2_1 c6_2_2 f6_2_2 n6_0_2 n6_2_0 O6 K6 HR_6
  have c7_0_0 : w7.cell? ⟨g, 0, none⟩ = some (.int .i64 C) := (blk_cell (O7.out.blk (i := 0) rfl) 0).trans rfl
  have f7_0_0 : w7.frozen? ⟨g, 0, none⟩ = false := blk_frozen (O7.out.blk (i := 0) rfl) 0
  have c7_0_1 : w7.cell? ⟨g, 1, none⟩ = some (.slice A0 L.length c0) := (blk_cell (O7.out.blk (i := 0) rfl) 1).trans rfl
  have f7_0_1 : w7.frozen? ⟨g, 1, none⟩ = false := blk_frozen (O7.out.blk (i := 0) rfl) 1
  have c7_2_0 : w7.cell? ⟨gb, 0, none⟩ = some (.int .i64 o) := (blk_cell (O7.out.blk (i := 2) rfl) 0).trans rfl
  have f7_2_0 : w7.frozen? ⟨gb, 0, none⟩ = false := blk_frozen (O7.out.blk (i := 2) rfl) 0
  have c7_2_1 : w7.cell? ⟨gb, 1, none⟩ = some (.int .i64 n) := (blk_cell (O7.out.blk (i := 2) rfl) 1).trans rfl
  have f7_2_1 : w7.frozen? ⟨gb, 1, none⟩ = false := blk_frozen (O7.out.blk (i := 2) rfl) 1
  have c7_2_2 : w7.cell? ⟨gb, 2, none⟩ = some (.slice B ups.length c) := (blk_cell (O7.out.blk (i := 2) rfl) 2).trans rfl
  have f7_2_2 : w7.frozen? ⟨gb, 2, none⟩ = false := blk_frozen (O7.out.blk (i := 2) rfl) 2
  have n7_0_2 : g ≠ gb := O7.out.ne (i := 0) (j := 2) rfl rfl (by decide)
  have n7_2_0 : gb ≠ g := O7.out.ne (i := 2) (j := 0) rfl rfl (by decide)
  clear o_ k_ oo_ kk_ on_ nn_ rr_ bb_
  clear hHeld
  refine hK_.out _ _ ⟨((blk_cell (O7.out.blk (i := 2) rfl) 0).trans rfl), ((blk_cell (O7.out.blk (i := 2) rfl) 1).trans rfl), ((blk_cell (O7.out.blk (i := 2) rfl) 2).trans rfl)⟩ (fun hHeld => ?_)
  clear hK_ K_
  refine norm_ (a' := ?_) ?_ ?_
  rotate_left
  · simp only [Act.put, List.setIfInBounds_toArray, List.set_cons_zero, List.set_cons_succ, i64_w, i32_w]
    rfl
  refine pure_ (i := 6) (N := some 31) (v := ?_) (a' := ?_) #[true, true, true, true, true, true, true, false] rfl rfl (by kernel_rfl) (fun _ _ _ h => h) (Or.inl ⟨by rfl, ?_⟩) ?_ ?_
  rotate_left
  · intro w'
    go_simp
    with_reducible rfl
  rotate_left
  · simp only [Act.put, List.setIfInBounds_toArray, List.set_cons_zero, List.set_cons_succ, i64_w, i32_w]
    rfl
  refine pure_ (i := 7) (N := some 32) (v := ?_) (a' := ?_) #[true, true, true, true, true, true, true, true] rfl rfl (by kernel_rfl) (fun _ _ _ h => h) (Or.inl ⟨by rfl, ?_⟩) ?_ ?_
  rotate_left
  · intro w'
    go_simp
    with_reducible rfl
  rotate_left
  · simp only [Act.put, List.setIfInBounds_toArray, List.set_cons_zero, List.set_cons_succ, i64_w, i32_w]
    rfl
  refine done_ (by kernel_rfl) ?_
  clear hHeld
  go_wp2_with (first | ((with_reducible refine gate_dst (N := 33) rfl ?_); refine own_lit k47 (N := N) (e := 47) (xs := []) (inner := []) rfl (D := 33) rfl ?hr (Reps.none _ _) (by simp) O7.out ?_; (case hr => first | (go_simp; done) | (go_simp; rfl)); intro B1 d1 w8 o_ k_; have O8 : Aside0 (Own N w8 [cells g #[.int .i64 C, .slice A0 L.length c0] 37, nrow k31 31 (.slice A0 L.length c0) L, cells gb #[.int .i64 o, .int .i64 n, .slice B ups.length c] 31, nrow k47 47 (.slice B1 0 d1) []]) := ⟨o_⟩; have K8 : Aside0 (KeepS N w w8) := ⟨K7.out.trans k_⟩; have HR_8 : Aside0 (Kd.F k47 w8 N B ups.length ups) := ⟨keepF HR_7.out k_⟩; clear c7_0_0 f7_0_0 c7_0_1 f7_0_1 c7_2_0 f7_2_0 c7_2_1 f7_2_1 c7_2_2 f7_2_2 n7_0_2 n7_2_0 O7 K7 HR_7; have c8_0_0 : w8.cell? ⟨g, 0, none⟩ = some (.int .i64 C) := (blk_cell (O8.out.blk (i := 0) rfl) 0).trans rfl; have f8_0_0 : w8.frozen? ⟨g, 0, none⟩ = false := blk_frozen (O8.out.blk (i := 0) rfl) 0; have c8_0_1 : w8.cell? ⟨g, 1, none⟩ = some (.slice A0 L.length c0) := (blk_cell (O8.out.blk (i := 0) rfl) 1).trans rfl; have f8_0_1 : w8.frozen? ⟨g, 1, none⟩ = false := blk_frozen (O8.out.blk (i := 0) rfl) 1; have c8_2_0 : w8.cell? ⟨gb, 0, none⟩ = some (.int .i64 o) := (blk_cell (O8.out.blk (i := 2) rfl) 0).trans rfl; have f8_2_0 : w8.frozen? ⟨gb, 0, none⟩ = false := blk_frozen (O8.out.blk (i := 2) rfl) 0; have c8_2_1 : w8.cell? ⟨gb, 1, none⟩ = some (.int .i64 n) := (blk_cell (O8.out.blk (i := 2) rfl) 1).trans rfl; have f8_2_1 : w8.frozen? ⟨gb, 1, none⟩ = false := blk_frozen (O8.out.blk (i := 2) rfl) 1; have c8_2_2 : w8.cell? ⟨gb, 2, none⟩ = some (.slice B ups.length c) := (blk_cell (O8.out.blk (i := 2) rfl) 2).trans rfl; have f8_2_2 : w8.frozen? ⟨gb, 2, none⟩ = false := blk_frozen (O8.out.blk (i := 2) rfl) 2; have n8_0_2 : g ≠ gb := O8.out.ne (i := 0) (j := 2) rfl rfl (by decide); have n8_2_0 : gb ≠ g := O8.out.ne (i := 2) (j := 0) rfl rfl (by decide); clear o_ k_) | ((with_reducible refine gate_builtin (b := .append) (xs := #[.tmp 33, .tmp 35]) rfl ?_); at_builtin; refine Own.append_flat k47 flatU O8.out (i := 3) (ys := ups) rfl (Kd.F_now HR_8.out) rfl (.tmp 33) (.tmp 35) 29 (.agg #[.string ⟨#[]⟩, .int .i64 0, .int .i64 0, .string ⟨#[]⟩]) 48 rfl Try.underlying29 info47 rfl (by decide) (by decide) rfl rfl (by have := HU.out; simp only [List.length_nil]; omega) ?_; intro B2 d2 w9 o_ k_; have O9 : Aside0 (Own N w9 [cells g #[.int .i64 C, .slice A0 L.length c0] 37, nrow k31 31 (.slice A0 L.length c0) L, cells gb #[.int .i64 o, .int .i64 n, .slice B ups.length c] 31, nrow k47 47 (.slice B2 (ups).length d2) (ups)]) := ⟨o_⟩; have K9 : Aside0 (KeepS N w w9) := ⟨K8.out.trans k_⟩; have HR_9 : Aside0 (Kd.F k47 w9 N B ups.length ups) := ⟨keepF HR_8.out k_⟩; clear c8_0_0 f8_0_0 c8_0_1 f8_0_1 c8_2_0 f8_2_0 c8_2_1 f8_2_1 c8_2_2 f8_2_2 n8_0_2 n8_2_0 O8 K8 HR_8; have c9_0_0 : w9.cell? ⟨g, 0, none⟩ = some (.int .i64 C) := (blk_cell (O9.out.blk (i := 0) rfl) 0).trans rfl; have f9_0_0 : w9.frozen? ⟨g, 0, none⟩ = false := blk_frozen (O9.out.blk (i := 0) rfl) 0; have c9_0_1 : w9.cell? ⟨g, 1, none⟩ = some (.slice A0 L.length c0) := (blk_cell (O9.out.blk (i := 0) rfl) 1).trans rfl; have f9_0_1 : w9.frozen? ⟨g, 1, none⟩ = false := blk_frozen (O9.out.blk (i := 0) rfl) 1; have c9_2_0 : w9.cell? ⟨gb, 0, none⟩ = some (.int .i64 o) := (blk_cell (O9.out.blk (i := 2) rfl) 0).trans rfl; have f9_2_0 : w9.frozen? ⟨gb, 0, none⟩ = false := blk_frozen (O9.out.blk (i := 2) rfl) 0; have c9_2_1 : w9.cell? ⟨gb, 1, none⟩ = some (.int .i64 n) := (blk_cell (O9.out.blk (i := 2) rfl) 1).trans rfl; have f9_2_1 : w9.frozen? ⟨gb, 1, none⟩ = false := blk_frozen (O9.out.blk (i := 2) rfl) 1; have c9_2_2 : w9.cell? ⟨gb, 2, none⟩ = some (.slice B ups.length c) := (blk_cell (O9.out.blk (i := 2) rfl) 2).trans rfl; have f9_2_2 : w9.frozen? ⟨gb, 2, none⟩ = false := blk_frozen (O9.out.blk (i := 2) rfl) 2; have n9_0_2 : g ≠ gb := O9.out.ne (i := 0) (j := 2) rfl rfl (by decide); have n9_2_0 : gb ≠ g := O9.out.ne (i := 2) (j := 0) rfl rfl (by decide); clear o_ k_) | ((with_reducible refine gate_store (t := 29) (p := 37) rfl ?_); refine own_store rfl rfl rfl (w1 := (World.setCell w9 ⟨gb, 2, none⟩ (.slice B2 ups.length d2))) (N := N) (l' := [cells g #[.int .i64 C, .slice A0 L.length c0] 37, nrow k31 31 (.slice A0 L.length c0) L, cells gb #[.int .i64 o, .int .i64 n, .slice B2 ups.length d2] 31, nrow k47 47 (.slice B2 (ups).length d2) (ups)]) ?hr ?ho ?hk ?_; (case hr => first | (go_simp; done) | (go_simp; rfl)); (case ho => exact (O9.out.set (i := 2) rfl 2 (.slice B2 ups.length d2))); (case hk => exact (KeepS.setCell (O9.out.far (i := 2) rfl) (.slice B2 ups.length d2))); intro w10 o_ k_; have O10 : Aside0 (Own N w10 [cells g #[.int .i64 C, .slice A0 L.length c0] 37, nrow k31 31 (.slice A0 L.length c0) L, cells gb #[.int .i64 o, .int .i64 n, .slice B2 ups.length d2] 31, nrow k47 47 (.slice B2 (ups).length d2) (ups)]) := ⟨o_⟩; have K10 : Aside0 (KeepS N w w10) := ⟨K9.out.trans k_⟩; have HR_10 : Aside0 (Kd.F k47 w10 N B ups.length ups) := ⟨keepF HR_9.out k_⟩; clear c9_0_0 f9_0_0 c9_0_1 f9_0_1 c9_2_0 f9_2_0 c9_2_1 f9_2_1 c9_2_2 f9_2_2 n9_0_2 n9_2_0 O9 K9 HR_9; have c10_0_0 : w10.cell? ⟨g, 0, none⟩ = some (.int .i64 C) := (blk_cell (O10.out.blk (i := 0) rfl) 0).trans rfl; have f10_0_0 : w10.frozen? ⟨g, 0, none⟩ = false := blk_frozen (O10.out.blk (i := 0) rfl) 0; have c10_0_1 : w10.cell? ⟨g, 1, none⟩ = some (.slice A0 L.length c0) := (blk_cell (O10.out.blk (i := 0) rfl) 1).trans rfl; have f10_0_1 : w10.frozen? ⟨g, 1, none⟩ = false := blk_frozen (O10.out.blk (i := 0) rfl) 1; have c10_2_0 : w10.cell? ⟨gb, 0, none⟩ = some (.int .i64 o) := (blk_cell (O10.out.blk (i := 2) rfl) 0).trans rfl; have f10_2_0 : w10.frozen? ⟨gb, 0, none⟩ = false := blk_frozen (O10.out.blk (i := 2) rfl) 0; have c10_2_1 : w10.cell? ⟨gb, 1, none⟩ = some (.int .i64 n) := (blk_cell (O10.out.blk (i := 2) rfl) 1).trans rfl; have f10_2_1 : w10.frozen? ⟨gb, 1, none⟩ = false := blk_frozen (O10.out.blk (i := 2) rfl) 1; have c10_2_2 : w10.cell? ⟨gb, 2, none⟩ = some (.slice B2 ups.length d2) := (blk_cell (O10.out.blk (i := 2) rfl) 2).trans rfl; have f10_2_2 : w10.frozen? ⟨gb, 2, none⟩ = false := blk_frozen (O10.out.blk (i := 2) rfl) 2; have n10_0_2 : g ≠ gb := O10.out.ne (i := 0) (j := 2) rfl rfl (by decide); have n10_2_0 : gb ≠ g := O10.out.ne (i := 2) (j := 0) rfl rfl (by decide); clear o_ k_))
  have O11 : Aside0 (Own N w10 [cells g #[.int .i64 C, .slice A0 L.length c0] 37, nrow k31 31 (.slice A0 L.length c0) L, cells gb #[.int .i64 o, .int .i64 n, .slice B2 ups.length d2] 31, both (elt k31 (⟨o, n, ups⟩ : Rnd) [.int .i64 (⟨o, n, ups⟩ : Rnd).f0, .int .i64 (⟨o, n, ups⟩ : Rnd).f1, .slice B2 ups.length d2]) (rd k47 B2 ups.length ups)]) := ⟨roundOf2 (⟨o, n, ups⟩ : Rnd) (i := 3) O10.out rfl⟩
  have O12 : Aside0 (Own N w10 [cells g #[.int .i64 C, .slice A0 L.length c0] 37, rd k31 A0 L.length L, cells gb #[.int .i64 o, .int .i64 n, .slice B2 ups.length d2] 31, both (elt k31 (⟨o, n, ups⟩ : Rnd) [.int .i64 (⟨o, n, ups⟩ : Rnd).f0, .int .i64 (⟨o, n, ups⟩ : Rnd).f1, .slice B2 ups.length d2]) (rd k47 B2 ups.length ups)]) := ⟨O11.out.nrd (i := 1) rfl⟩
  clear O10 O11
  refine start_ (n := 13) (S := fun w' => w'.cell? ⟨g, 0, none⟩ = some (.int .i64 C) ∧ w'.cell? ⟨g, 1, none⟩ = some (.slice A0 L.length c0) ∧ w'.cell? ⟨gb, 0, none⟩ = some (.int .i64 o) ∧ w'.cell? ⟨gb, 1, none⟩ = some (.int .i64 n) ∧ w'.cell? ⟨gb, 2, none⟩ = some (.slice B2 ups.length d2)) (ds := [12]) #[false, false, false, false, false, false, false, false, false, false, false, false, false] (by kernel_rfl) rfl rfl ⟨((blk_cell (O12.out.blk (i := 0) rfl) 0).trans rfl), ((blk_cell (O12.out.blk (i := 0) rfl) 1).trans rfl), ((blk_cell (O12.out.blk (i := 2) rfl) 0).trans rfl), ((blk_cell (O12.out.blk (i := 2) rfl) 1).trans rfl), ((blk_cell (O12.out.blk (i := 2) rfl) 2).trans rfl)⟩ (fun hHeld => ?_)
  obtain ⟨w13, hw_⟩ : ∃ W, W = w10.drew := ⟨_, rfl⟩
  have o_ := O12.out.drew
  have k_ : KeepS N w10 w10.drew := KeepS.drew
  rw [← hw_] at o_ k_ hHeld ⊢
  clear hw_
  have O13 : Aside0 (Own N w13 [cells g #[.int .i64 C, .slice A0 L.length c0] 37, rd k31 A0 L.length L, cells gb #[.int .i64 o, .int .i64 n, .slice B2 ups.length d2] 31, both (elt k31 (⟨o, n, ups⟩ : Rnd) [.int .i64 (⟨o, n, ups⟩ : Rnd).f0, .int .i64 (⟨o, n, ups⟩ : Rnd).f1, .slice B2 ups.length d2]) (rd k47 B2 ups.length ups)]) := ⟨o_⟩
  have K13 : Aside0 (KeepS N w w13) := ⟨K10.out.trans k_⟩
  have HR_13 : Aside0 (Kd.F k47 w13 N B ups.length ups) := ⟨keepF HR_10.out k_⟩
  clear c10_0_0 f10_0_0 c10_0_1 f10_0_1 c10_2_0 f10_2_0 c10_2_1 f10_2_1 c10_2_2 f10_2_2 n10_0_2 n10_2_0 O12 K10 HR_10
  have c13_0_0 : w13.cell? ⟨g, 0, none⟩ = some (.int .i64 C) := (blk_cell (O13.out.blk (i := 0) rfl) 0).trans rfl
  have f13_0_0 : w13.frozen? ⟨g, 0, none⟩ = false := blk_frozen (O13.out.blk (i := 0) rfl) 0
  have c13_0_1 : w13.cell? ⟨g, 1, none⟩ = some (.slice A0 L.length c0) := (blk_cell (O13.out.blk (i := 0) rfl) 1).trans rfl
  have f13_0_1 : w13.frozen? ⟨g, 1, none⟩ = false := blk_frozen (O13.out.blk (i := 0) rfl) 1
  have c13_2_0 : w13.cell? ⟨gb, 0, none⟩ = some (.int .i64 o) := (blk_cell (O13.out.blk (i := 2) rfl) 0).trans rfl
  have f13_2_0 : w13.frozen? ⟨gb, 0, none⟩ = false := blk_frozen (O13.out.blk (i := 2) rfl) 0
  have c13_2_1 : w13.cell? ⟨gb, 1, none⟩ = some (.int .i64 n) := (blk_cell (O13.out.blk (i := 2) rfl) 1).trans rfl
  have f13_2_1 : w13.frozen? ⟨gb, 1, none⟩ = false := blk_frozen (O13.out.blk (i := 2) rfl) 1
  have c13_2_2 : w13.cell? ⟨gb, 2, none⟩ = some (.slice B2 ups.length d2) := (blk_cell (O13.out.blk (i := 2) rfl) 2).trans rfl
  have f13_2_2 : w13.frozen? ⟨gb, 2, none⟩ = false := blk_frozen (O13.out.blk (i := 2) rfl) 2
  have n13_0_2 : g ≠ gb := O13.out.ne (i := 0) (j := 2) rfl rfl (by decide)
  have n13_2_0 : gb ≠ g := O13.out.ne (i := 2) (j := 0) rfl rfl (by decide)
  clear o_ k_
  refine pure_ (i := 0) (N := some 38) (v := ?_) (a' := ?_) #[true, false, false, false, false, false, false, false, false, false, false, false, false] rfl rfl (by kernel_rfl) (fun _ _ _ h => h) (Or.inl ⟨by rfl, ?_⟩) ?_ ?_
  rotate_left
  · intro w'
    go_simp
    with_reducible rfl
  rotate_left
  · simp only [Act.put, List.setIfInBounds_toArray, List.set_cons_zero, List.set_cons_succ, i64_w, i32_w]
    rfl
  refine pure_ (i := 2) (N := some 40) (v := ?_) (a' := ?_) #[true, false, true, false, false, false, false, false, false, false, false, false, false] rfl rfl (by kernel_rfl) (fun _ _ _ h => h) (Or.inl ⟨by rfl, ?_⟩) ?_ ?_
  rotate_left
  · intro w'
    go_simp
    with_reducible rfl
  rotate_left
  · simp only [Act.put, List.setIfInBounds_toArray, List.set_cons_zero, List.set_cons_succ, i64_w, i32_w]
    rfl
  refine pure_ (i := 3) (N := some 41) (v := ?_) (a' := ?_) #[true, false, true, true, false, false, false, false, false, false, false, false, false] rfl rfl (by kernel_rfl) (fun _ _ _ h => h) (Or.inl ⟨by rfl, ?_⟩) ?_ ?_
  rotate_left
  · intro w'
    go_simp
    with_reducible rfl
  rotate_left
  · simp only [Act.put, List.setIfInBounds_toArray, List.set_cons_zero, List.set_cons_succ, i64_w, i32_w]
    rfl
  refine pure_ (i := 4) (N := some 42) (v := ?_) (a' := ?_) #[true, false, true, true, true, false, false, false, false, false, false, false, false] rfl rfl (by kernel_rfl) (fun _ _ _ h => h) (Or.inl ⟨by rfl, ?_⟩) ?_ ?_
  rotate_left
  · intro w'
    go_simp
    with_reducible rfl
  rotate_left
  · simp only [Act.put, List.setIfInBounds_toArray, List.set_cons_zero, List.set_cons_succ, i64_w, i32_w]
    rfl
  refine take_ (i := 5) (N := some 43) (v := ?_) (a' := ?_) #[true, false, true, true, true, true, false, false, false, false, false, false, false] rfl rfl (by kernel_rfl) (fun _ _ _ h => h) (Or.inl ⟨by rfl, ?_⟩) hHeld ?_ ?_
  rotate_left
  · rintro w' ⟨s0, s1, s2, s3, s4⟩
    go_simp
    with_reducible rfl
  rotate_left
  · simp only [Act.put, List.setIfInBounds_toArray, List.set_cons_zero, List.set_cons_succ, i64_w, i32_w]
    rfl
  refine take_ (i := 7) (N := some 45) (v := ?_) (a' := ?_) #[true, false, true, true, true, true, false, true, false, false, false, false, false] rfl rfl (by kernel_rfl) (fun _ _ _ h => h) (Or.inl ⟨by rfl, ?_⟩) hHeld ?_ ?_
  rotate_left
  · rintro w' ⟨s0, s1, s2, s3, s4⟩
    go_simp
    with_reducible rfl
  rotate_left
  · simp only [Act.put, List.setIfInBounds_toArray, List.set_cons_zero, List.set_cons_succ, i64_w, i32_w]
    rfl
  refine join_ (σ := Option Addr × Nat × Option Addr × Nat × Option Addr × Nat) 4 #[true, true, true, true, true, true, true, true, true, false, false, false, false] (fun ⟨C1, e1, C2, e2, D1, h1⟩ => [(39, .slice C1 0 e1), (44, .slice C2 L.length e2), (46, .slice D1 1 h1)]) (fun ⟨C1, e1, C2, e2, D1, h1⟩ w' => Own N w' [cells g #[.int .i64 C, .slice A0 L.length c0] 37, emp, cells gb #[.int .i64 o, .int .i64 n, .slice B2 ups.length d2] 31, both (nrow k31 31 (.slice D1 1 h1) [(⟨o, n, ups⟩ : Rnd)]) (rd k47 B2 ups.length ups), nrow k31 31 (.slice C2 L.length e2) L] ∧ KeepS N w13 w') ?hcont ?hways
  case hways =>
    intro hc_
    have K14 : Aside0 (KeepS N w13 w13) := ⟨KeepS.refl _ _⟩
    have O14 : Aside0 (Own N w13 [cells g #[.int .i64 C, .slice A0 L.length c0] 37, rd k31 A0 L.length L, cells gb #[.int .i64 o, .int .i64 n, .slice B2 ups.length d2] 31, both (elt k31 (⟨o, n, ups⟩ : Rnd) [.int .i64 (⟨o, n, ups⟩ : Rnd).f0, .int .i64 (⟨o, n, ups⟩ : Rnd).f1, .slice B2 ups.length d2]) (rd k47 B2 ups.length ups)]) := O13
    refine two_ (i := 1) (j := 8) (Ni := some 39) (Nj := some 46) #[true, true, true, true, true, true, false, true, false, false, false, false, false] #[true, false, true, true, true, true, false, true, true, false, false, false, false] rfl rfl rfl rfl (by kernel_rfl) (by decide) (by decide) (fun K_ hK_ => ?_) (fun K_ hK_ => ?_)
    · skip
      refine own_lit_step k31 (N := N) (e := 31) (xs := []) (inner := []) rfl rfl ?hr (Reps.none _ _) (by simp) O14.out ?_
      (case hr => first | (go_simp; done) | (go_simp; rfl))
      intro C1 e1 w15 o_ k_
      have O15 : Aside0 (Own N w15 [cells g #[.int .i64 C, .slice A0 L.length c0] 37, rd k31 A0 L.length L, cells gb #[.int .i64 o, .int .i64 n, .slice B2 ups.length d2] 31, both (elt k31 (⟨o, n, ups⟩ : Rnd) [.int .i64 (⟨o, n, ups⟩ : Rnd).f0, .int .i64 (⟨o, n, ups⟩ : Rnd).f1, .slice B2 ups.length d2]) (rd k47 B2 ups.length ups), nrow k31 31 (.slice C1 0 e1) []]) := ⟨o_⟩
      have K15 : Aside0 (KeepS N w13 w15) := ⟨K14.out.trans k_⟩
      have HR_15 : Aside0 (Kd.F k47 w15 N B ups.length ups) := ⟨keepF HR_13.out k_⟩
      clear c13_0_0 f13_0_0 c13_0_1 f13_0_1 c13_2_0 f13_2_0 c13_2_1 f13_2_1 c13_2_2 f13_2_2 n13_0_2 n13_2_0 O14 K14 HR_13
      have c15_0_0 : w15.cell? ⟨g, 0, none⟩ = some (.int .i64 C) := (blk_cell (O15.out.blk (i := 0) rfl) 0).trans rfl
      have f15_0_0 : w15.frozen? ⟨g, 0, none⟩ = false := blk_frozen (O15.out.blk (i := 0) rfl) 0
      have c15_0_1 : w15.cell? ⟨g, 1, none⟩ = some (.slice A0 L.length c0) := (blk_cell (O15.out.blk (i := 0) rfl) 1).trans rfl
      have f15_0_1 : w15.frozen? ⟨g, 1, none⟩ = false := blk_frozen (O15.out.blk (i := 0) rfl) 1
      have c15_2_0 : w15.cell? ⟨gb, 0, none⟩ = some (.int .i64 o) := (blk_cell (O15.out.blk (i := 2) rfl) 0).trans rfl
      have f15_2_0 : w15.frozen? ⟨gb, 0, none⟩ = false := blk_frozen (O15.out.blk (i := 2) rfl) 0
      have c15_2_1 : w15.cell? ⟨gb, 1, none⟩ = some (.int .i64 n) := (blk_cell (O15.out.blk (i := 2) rfl) 1).trans rfl
      have f15_2_1 : w15.frozen? ⟨gb, 1, none⟩ = false := blk_frozen (O15.out.blk (i := 2) rfl) 1
      have c15_2_2 : w15.cell? ⟨gb, 2, none⟩ = some (.slice B2 ups.length d2) := (blk_cell (O15.out.blk (i := 2) rfl) 2).trans rfl
      have f15_2_2 : w15.frozen? ⟨gb, 2, none⟩ = false := blk_frozen (O15.out.blk (i := 2) rfl) 2
      have n15_0_2 : g ≠ gb := O15.out.ne (i := 0) (j := 2) rfl rfl (by decide)
      have n15_2_0 : gb ≠ g := O15.out.ne (i := 2) (j := 0) rfl rfl (by decide)
      clear o_ k_
      clear hHeld
      refine hK_.out _ _ ⟨((blk_cell (O15.out.blk (i := 0) rfl) 0).trans rfl), ((blk_cell (O15.out.blk (i := 0) rfl) 1).trans rfl), ((blk_cell (O15.out.blk (i := 2) rfl) 0).trans rfl), ((blk_cell (O15.out.blk (i := 2) rfl) 1).trans rfl), ((blk_cell (O15.out.blk (i := 2) rfl) 2).trans rfl)⟩ (fun hHeld => ?_)
      clear hK_ K_
      refine norm_ (a' := ?_) ?_ ?_
      rotate_left
      · simp only [Act.put, List.setIfInBounds_toArray, List.set_cons_zero, List.set_cons_succ, i64_w, i32_w]
        rfl
      refine two_ (i := 6) (j := 8) (Ni := some 44) (Nj := some 46) #[true, true, true, true, true, true, true, true, false, false, false, false, false] #[true, true, true, true, true, true, false, true, true, false, false, false, false] rfl rfl rfl rfl (by kernel_rfl) (by decide) (by decide) (fun K_ hK_ => ?_) (fun K_ hK_ => ?_)
      · skip
        refine Own.append_rows_step k31 O15.out (i := 4) (j := 1) rfl rfl (by decide) rfl rfl (.tmp 39) (.tmp 43) 22 (.agg #[.int .i64 0, .int .i64 0, .slice none 0 0]) 40 rfl Try.underlying22 infoR rfl (by decide) (by decide) rfl rfl (by have := HL.out; simp only [List.length_nil]; omega) ?_
        intro C2 e2 w16 o_ k_
        have O16 : Aside0 (Own N w16 [cells g #[.int .i64 C, .slice A0 L.length c0] 37, emp, cells gb #[.int .i64 o, .int .i64 n, .slice B2 ups.length d2] 31, both (elt k31 (⟨o, n, ups⟩ : Rnd) [.int .i64 (⟨o, n, ups⟩ : Rnd).f0, .int .i64 (⟨o, n, ups⟩ : Rnd).f1, .slice B2 ups.length d2]) (rd k47 B2 ups.length ups), nrow k31 31 (.slice C2 L.length e2) L]) := ⟨o_⟩
        have K16 : Aside0 (KeepS N w13 w16) := ⟨K15.out.trans k_⟩
        have HR_16 : Aside0 (Kd.F k47 w16 N B ups.length ups) := ⟨keepF HR_15.out k_⟩
        clear c15_0_0 f15_0_0 c15_0_1 f15_0_1 c15_2_0 f15_2_0 c15_2_1 f15_2_1 c15_2_2 f15_2_2 n15_0_2 n15_2_0 O15 K15 HR_15
        have c16_0_0 : w16.cell? ⟨g, 0, none⟩ = some (.int .i64 C) := (blk_cell (O16.out.blk (i := 0) rfl) 0).trans rfl
        have f16_0_0 : w16.frozen? ⟨g, 0, none⟩ = false := blk_frozen (O16.out.blk (i := 0) rfl) 0
        have c16_0_1 : w16.cell? ⟨g, 1, none⟩ = some (.slice A0 L.length c0) := (blk_cell (O16.out.blk (i := 0) rfl) 1).trans rfl
        have f16_0_1 : w16.frozen? ⟨g, 1, none⟩ = false := blk_frozen (O16.out.blk (i := 0) rfl) 1
        have c16_2_0 : w16.cell? ⟨gb, 0, none⟩ = some (.int .i64 o) := (blk_cell (O16.out.blk (i := 2) rfl) 0).trans rfl
        have f16_2_0 : w16.frozen? ⟨gb, 0, none⟩ = false := blk_frozen (O16.out.blk (i := 2) rfl) 0
        have c16_2_1 : w16.cell? ⟨gb, 1, none⟩ = some (.int .i64 n) := (blk_cell (O16.out.blk (i := 2) rfl) 1).trans rfl
        have f16_2_1 : w16.frozen? ⟨gb, 1, none⟩ = false := blk_frozen (O16.out.blk (i := 2) rfl) 1
        have c16_2_2 : w16.cell? ⟨gb, 2, none⟩ = some (.slice B2 ups.length d2) := (blk_cell (O16.out.blk (i := 2) rfl) 2).trans rfl
        have f16_2_2 : w16.frozen? ⟨gb, 2, none⟩ = false := blk_frozen (O16.out.blk (i := 2) rfl) 2
        have n16_0_2 : g ≠ gb := O16.out.ne (i := 0) (j := 2) rfl rfl (by decide)
        have n16_2_0 : gb ≠ g := O16.out.ne (i := 2) (j := 0) rfl rfl (by decide)
        clear o_ k_
        clear hHeld
        refine hK_.out _ _ ⟨((blk_cell (O16.out.blk (i := 0) rfl) 0).trans rfl), ((blk_cell (O16.out.blk (i := 0) rfl) 1).trans rfl), ((blk_cell (O16.out.blk (i := 2) rfl) 0).trans rfl), ((blk_cell (O16.out.blk (i := 2) rfl) 1).trans rfl), ((blk_cell (O16.out.blk (i := 2) rfl) 2).trans rfl)⟩ (fun hHeld => ?_)
        clear hK_ K_
        refine norm_ (a' := ?_) ?_ ?_
        rotate_left
        · simp only [Act.put, List.setIfInBounds_toArray, List.set_cons_zero, List.set_cons_succ, i64_w, i32_w]
          rfl
        refine one_ (i := 8) (N := some 46) #[true, true, true, true, true, true, true, true, true, false, false, false, false] rfl rfl (by kernel_rfl) (by decide) (fun K_ hK_ => ?_)
        refine own_lit1_step (p := (⟨o, n, ups⟩ : Rnd)) (cs := [.int .i64 (⟨o, n, ups⟩ : Rnd).f0, .int .i64 (⟨o, n, ups⟩ : Rnd).f1, .slice B2 ups.length d2]) (e := 31) k31 O16.out (j := 3) rfl rfl rfl ?hr ?_
        (case hr => first | (go_simp; done) | (go_simp; rfl))
        intro D1 h1 w17 o_ k_
        have O17 : Aside0 (Own N w17 [cells g #[.int .i64 C, .slice A0 L.length c0] 37, emp, cells gb #[.int .i64 o, .int .i64 n, .slice B2 ups.length d2] 31, both (nrow k31 31 (.slice D1 1 h1) [(⟨o, n, ups⟩ : Rnd)]) (rd k47 B2 ups.length ups), nrow k31 31 (.slice C2 L.length e2) L]) := ⟨o_⟩
        have K17 : Aside0 (KeepS N w13 w17) := ⟨K16.out.trans k_⟩
        have HR_17 : Aside0 (Kd.F k47 w17 N B ups.length ups) := ⟨keepF HR_16.out k_⟩
        clear c16_0_0 f16_0_0 c16_0_1 f16_0_1 c16_2_0 f16_2_0 c16_2_1 f16_2_1 c16_2_2 f16_2_2 n16_0_2 n16_2_0 O16 K16 HR_16
        have c17_0_0 : w17.cell? ⟨g, 0, none⟩ = some (.int .i64 C) := (blk_cell (O17.out.blk (i := 0) rfl) 0).trans rfl
        have f17_0_0 : w17.frozen? ⟨g, 0, none⟩ = false := blk_frozen (O17.out.blk (i := 0) rfl) 0
        have c17_0_1 : w17.cell? ⟨g, 1, none⟩ = some (.slice A0 L.length c0) := (blk_cell (O17.out.blk (i := 0) rfl) 1).trans rfl
        have f17_0_1 : w17.frozen? ⟨g, 1, none⟩ = false := blk_frozen (O17.out.blk (i := 0) rfl) 1
        have c17_2_0 : w17.cell? ⟨gb, 0, none⟩ = some (.int .i64 o) := (blk_cell (O17.out.blk (i := 2) rfl) 0).trans rfl
        have f17_2_0 : w17.frozen? ⟨gb, 0, none⟩ = false := blk_frozen (O17.out.blk (i := 2) rfl) 0
        have c17_2_1 : w17.cell? ⟨gb, 1, none⟩ = some (.int .i64 n) := (blk_cell (O17.out.blk (i := 2) rfl) 1).trans rfl
        have f17_2_1 : w17.frozen? ⟨gb, 1, none⟩ = false := blk_frozen (O17.out.blk (i := 2) rfl) 1
        have c17_2_2 : w17.cell? ⟨gb, 2, none⟩ = some (.slice B2 ups.length d2) := (blk_cell (O17.out.blk (i := 2) rfl) 2).trans rfl
        have f17_2_2 : w17.frozen? ⟨gb, 2, none⟩ = false := blk_frozen (O17.out.blk (i := 2) rfl) 2
        have n17_0_2 : g ≠ gb := O17.out.ne (i := 0) (j := 2) rfl rfl (by decide)
        have n17_2_0 : gb ≠ g := O17.out.ne (i := 2) (j := 0) rfl rfl (by decide)
        clear o_ k_
        clear hHeld
        refine hK_.out _ _ ⟨((blk_cell (O17.out.blk (i := 0) rfl) 0).trans rfl), ((blk_cell (O17.out.blk (i := 0) rfl) 1).trans rfl), ((blk_cell (O17.out.blk (i := 2) rfl) 0).trans rfl), ((blk_cell (O17.out.blk (i := 2) rfl) 1).trans rfl), ((blk_cell (O17.out.blk (i := 2) rfl) 2).trans rfl)⟩ (fun hHeld => ?_)
        clear hK_ K_
        refine norm_ (a' := ?_) ?_ ?_
        rotate_left
        · simp only [Act.put, List.setIfInBounds_toArray, List.set_cons_zero, List.set_cons_succ, i64_w, i32_w]
          rfl
        refine norm_ (a' := _) ?_ (hc_ ⟨C1, e1, C2, e2, D1, h1⟩ _ ⟨?_, K17.out⟩)
        · simp only [putAll, Act.put, List.setIfInBounds_toArray, List.set_cons_zero, List.set_cons_succ]
          try rfl
        · exact O17.out.pickL [0, 1, 2, 3, 4] (by decide) (by simp)
      · skip
        refine own_lit1_step (p := (⟨o, n, ups⟩ : Rnd)) (cs := [.int .i64 (⟨o, n, ups⟩ : Rnd).f0, .int .i64 (⟨o, n, ups⟩ : Rnd).f1, .slice B2 ups.length d2]) (e := 31) k31 O15.out (j := 3) rfl rfl rfl ?hr ?_
        (case hr => first | (go_simp; done) | (go_simp; rfl))
        intro D1 h1 w16 o_ k_
        have O16 : Aside0 (Own N w16 [cells g #[.int .i64 C, .slice A0 L.length c0] 37, rd k31 A0 L.length L, cells gb #[.int .i64 o, .int .i64 n, .slice B2 ups.length d2] 31, both (nrow k31 31 (.slice D1 1 h1) [(⟨o, n, ups⟩ : Rnd)]) (rd k47 B2 ups.length ups), nrow k31 31 (.slice C1 0 e1) []]) := ⟨o_⟩
        have K16 : Aside0 (KeepS N w13 w16) := ⟨K15.out.trans k_⟩
        have HR_16 : Aside0 (Kd.F k47 w16 N B ups.length ups) := ⟨keepF HR_15.out k_⟩
        clear c15_0_0 f15_0_0 c15_0_1 f15_0_1 c15_2_0 f15_2_0 c15_2_1 f15_2_1 c15_2_2 f15_2_2 n15_0_2 n15_2_0 O15 K15 HR_15
        have c16_0_0 : w16.cell? ⟨g, 0, none⟩ = some (.int .i64 C) := (blk_cell (O16.out.blk (i := 0) rfl) 0).trans rfl
        have f16_0_0 : w16.frozen? ⟨g, 0, none⟩ = false := blk_frozen (O16.out.blk (i := 0) rfl) 0
        have c16_0_1 : w16.cell? ⟨g, 1, none⟩ = some (.slice A0 L.length c0) := (blk_cell (O16.out.blk (i := 0) rfl) 1).trans rfl
        have f16_0_1 : w16.frozen? ⟨g, 1, none⟩ = false := blk_frozen (O16.out.blk (i := 0) rfl) 1
        have c16_2_0 : w16.cell? ⟨gb, 0, none⟩ = some (.int .i64 o) := (blk_cell (O16.out.blk (i := 2) rfl) 0).trans rfl
        have f16_2_0 : w16.frozen? ⟨gb, 0, none⟩ = false := blk_frozen (O16.out.blk (i := 2) rfl) 0
        have c16_2_1 : w16.cell? ⟨gb, 1, none⟩ = some (.int .i64 n) := (blk_cell (O16.out.blk (i := 2) rfl) 1).trans rfl
        have f16_2_1 : w16.frozen? ⟨gb, 1, none⟩ = false := blk_frozen (O16.out.blk (i := 2) rfl) 1
        have c16_2_2 : w16.cell? ⟨gb, 2, none⟩ = some (.slice B2 ups.length d2) := (blk_cell (O16.out.blk (i := 2) rfl) 2).trans rfl
        have f16_2_2 : w16.frozen? ⟨gb, 2, none⟩ = false := blk_frozen (O16.out.blk (i := 2) rfl) 2
        have n16_0_2 : g ≠ gb := O16.out.ne (i := 0) (j := 2) rfl rfl (by decide)
        have n16_2_0 : gb ≠ g := O16.out.ne (i := 2) (j := 0) rfl rfl (by decide)
        clear o_ k_
        clear hHeld
        refine hK_.out _ _ ⟨((blk_cell (O16.out.blk (i := 0) rfl) 0).trans rfl), ((blk_cell (O16.out.blk (i := 0) rfl) 1).trans rfl), ((blk_cell (O16.out.blk (i := 2) rfl) 0).trans rfl), ((blk_cell (O16.out.blk (i := 2) rfl) 1).trans rfl), ((blk_cell (O16.out.blk (i := 2) rfl) 2).trans rfl)⟩ (fun hHeld => ?_)
        clear hK_ K_
        refine norm_ (a' := ?_) ?_ ?_
        rotate_left
        · simp only [Act.put, List.setIfInBounds_toArray, List.set_cons_zero, List.set_cons_succ, i64_w, i32_w]
          rfl
        refine one_ (i := 6) (N := some 44) #[true, true, true, true, true, true, true, true, true, false, false, false, false] rfl rfl (by kernel_rfl) (by decide) (fun K_ hK_ => ?_)
        refine Own.append_rows_step k31 O16.out (i := 4) (j := 1) rfl rfl (by decide) rfl rfl (.tmp 39) (.tmp 43) 22 (.agg #[.int .i64 0, .int .i64 0, .slice none 0 0]) 40 rfl Try.underlying22 infoR rfl (by decide) (by decide) rfl rfl (by have := HL.out; simp only [List.length_nil]; omega) ?_
        intro C2 e2 w17 o_ k_
        have O17 : Aside0 (Own N w17 [cells g #[.int .i64 C, .slice A0 L.length c0] 37, emp, cells gb #[.int .i64 o, .int .i64 n, .slice B2 ups.length d2] 31, both (nrow k31 31 (.slice D1 1 h1) [(⟨o, n, ups⟩ : Rnd)]) (rd k47 B2 ups.length ups), nrow k31 31 (.slice C2 L.length e2) L]) := ⟨o_⟩
        have K17 : Aside0 (KeepS N w13 w17) := ⟨K16.out.trans k_⟩
        have HR_17 : Aside0 (Kd.F k47 w17 N B ups.length ups) := ⟨keepF HR_16.out k_⟩
        clear c16_0_0 f16_0_0 c16_0_1 f16_0_1 c16_2_0 f16_2_0 c16_2_1 f16_2_1 c16_2_2 f16_2_2 n16_0_2 n16_2_0 O16 K16 HR_16
        have c17_0_0 : w17.cell? ⟨g, 0, none⟩ = some (.int .i64 C) := (blk_cell (O17.out.blk (i := 0) rfl) 0).trans rfl
        have f17_0_0 : w17.frozen? ⟨g, 0, none⟩ = false := blk_frozen (O17.out.blk (i := 0) rfl) 0
        have c17_0_1 : w17.cell? ⟨g, 1, none⟩ = some (.slice A0 L.length c0) := (blk_cell (O17.out.blk (i := 0) rfl) 1).trans rfl
        have f17_0_1 : w17.frozen? ⟨g, 1, none⟩ = false := blk_frozen (O17.out.blk (i := 0) rfl) 1
        have c17_2_0 : w17.cell? ⟨gb, 0, none⟩ = some (.int .i64 o) := (blk_cell (O17.out.blk (i := 2) rfl) 0).trans rfl
        have f17_2_0 : w17.frozen? ⟨gb, 0, none⟩ = false := blk_frozen (O17.out.blk (i := 2) rfl) 0
        have c17_2_1 : w17.cell? ⟨gb, 1, none⟩ = some (.int .i64 n) := (blk_cell (O17.out.blk (i := 2) rfl) 1).trans rfl
        have f17_2_1 : w17.frozen? ⟨gb, 1, none⟩ = false := blk_frozen (O17.out.blk (i := 2) rfl) 1
        have c17_2_2 : w17.cell? ⟨gb, 2, none⟩ = some (.slice B2 ups.length d2) := (blk_cell (O17.out.blk (i := 2) rfl) 2).trans rfl
        have f17_2_2 : w17.frozen? ⟨gb, 2, none⟩ = false := blk_frozen (O17.out.blk (i := 2) rfl) 2
        have n17_0_2 : g ≠ gb := O17.out.ne (i := 0) (j := 2) rfl rfl (by decide)
        have n17_2_0 : gb ≠ g := O17.out.ne (i := 2) (j := 0) rfl rfl (by decide)
        clear o_ k_
        clear hHeld
        refine hK_.out _ _ ⟨((blk_cell (O17.out.blk (i := 0) rfl) 0).trans rfl), ((blk_cell (O17.out.blk (i := 0) rfl) 1).trans rfl), ((blk_cell (O17.out.blk (i := 2) rfl) 0).trans rfl), ((blk_cell (O17.out.blk (i := 2) rfl) 1).trans rfl), ((blk_cell (O17.out.blk (i := 2) rfl) 2).trans rfl)⟩ (fun hHeld => ?_)
        clear hK_ K_
        refine norm_ (a' := ?_) ?_ ?_
        rotate_left
        · simp only [Act.put, List.setIfInBounds_toArray, List.set_cons_zero, List.set_cons_succ, i64_w, i32_w]
          rfl
        refine norm_ (a' := _) ?_ (hc_ ⟨C1, e1, C2, e2, D1, h1⟩ _ ⟨?_, K17.out⟩)
        · simp only [putAll, Act.put, List.setIfInBounds_toArray, List.set_cons_zero, List.set_cons_succ]
          try rfl
        · exact O17.out.pickL [0, 1, 2, 3, 4] (by decide) (by simp)
    · skip
      refine own_lit1_step (p := (⟨o, n, ups⟩ : Rnd)) (cs := [.int .i64 (⟨o, n, ups⟩ : Rnd).f0, .int .i64 (⟨o, n, ups⟩ : Rnd).f1, .slice B2 ups.length d2]) (e := 31) k31 O14.out (j := 3) rfl rfl rfl ?hr ?_
      (case hr => first | (go_simp; done) | (go_simp; rfl))
      intro D1 h1 w15 o_ k_
      have O15 : Aside0 (Own N w15 [cells g #[.int .i64 C, .slice A0 L.length c0] 37, rd k31 A0 L.length L, cells gb #[.int .i64 o, .int .i64 n, .slice B2 ups.length d2] 31, both (nrow k31 31 (.slice D1 1 h1) [(⟨o, n, ups⟩ : Rnd)]) (rd k47 B2 ups.length ups)]) := ⟨o_⟩
      have K15 : Aside0 (KeepS N w13 w15) := ⟨K14.out.trans k_⟩
      have HR_15 : Aside0 (Kd.F k47 w15 N B ups.length ups) := ⟨keepF HR_13.out k_⟩
      clear c13_0_0 f13_0_0 c13_0_1 f13_0_1 c13_2_0 f13_2_0 c13_2_1 f13_2_1 c13_2_2 f13_2_2 n13_0_2 n13_2_0 O14 K14 HR_13
      have c15_0_0 : w15.cell? ⟨g, 0, none⟩ = some (.int .i64 C) := (blk_cell (O15.out.blk (i := 0) rfl) 0).trans rfl
      have f15_0_0 : w15.frozen? ⟨g, 0, none⟩ = false := blk_frozen (O15.out.blk (i := 0) rfl) 0
      have c15_0_1 : w15.cell? ⟨g, 1, none⟩ = some (.slice A0 L.length c0) := (blk_cell (O15.out.blk (i := 0) rfl) 1).trans rfl
      have f15_0_1 : w15.frozen? ⟨g, 1, none⟩ = false := blk_frozen (O15.out.blk (i := 0) rfl) 1
      have c15_2_0 : w15.cell? ⟨gb, 0, none⟩ = some (.int .i64 o) := (blk_cell (O15.out.blk (i := 2) rfl) 0).trans rfl
      have f15_2_0 : w15.frozen? ⟨gb, 0, none⟩ = false := blk_frozen (O15.out.blk (i := 2) rfl) 0
      have c15_2_1 : w15.cell? ⟨gb, 1, none⟩ = some (.int .i64 n) := (blk_cell (O15.out.blk (i := 2) rfl) 1).trans rfl
      have f15_2_1 : w15.frozen? ⟨gb, 1, none⟩ = false := blk_frozen (O15.out.blk (i := 2) rfl) 1
      have c15_2_2 : w15.cell? ⟨gb, 2, none⟩ = some (.slice B2 ups.length d2) := (blk_cell (O15.out.blk (i := 2) rfl) 2).trans rfl
      have f15_2_2 : w15.frozen? ⟨gb, 2, none⟩ = false := blk_frozen (O15.out.blk (i := 2) rfl) 2
      have n15_0_2 : g ≠ gb := O15.out.ne (i := 0) (j := 2) rfl rfl (by decide)
      have n15_2_0 : gb ≠ g := O15.out.ne (i := 2) (j := 0) rfl rfl (by decide)
      clear o_ k_
      clear hHeld
      refine hK_.out _ _ ⟨((blk_cell (O15.out.blk (i := 0) rfl) 0).trans rfl), ((blk_cell (O15.out.blk (i := 0) rfl) 1).trans rfl), ((blk_cell (O15.out.blk (i := 2) rfl) 0).trans rfl), ((blk_cell (O15.out.blk (i := 2) rfl) 1).trans rfl), ((blk_cell (O15.out.blk (i := 2) rfl) 2).trans rfl)⟩ (fun hHeld => ?_)
      clear hK_ K_
      refine norm_ (a' := ?_) ?_ ?_
      rotate_left
      · simp only [Act.put, List.setIfInBounds_toArray, List.set_cons_zero, List.set_cons_succ, i64_w, i32_w]
        rfl
      refine one_ (i := 1) (N := some 39) #[true, true, true, true, true, true, false, true, true, false, false, false, false] rfl rfl (by kernel_rfl) (by decide) (fun K_ hK_ => ?_)
      refine own_lit_step k31 (N := N) (e := 31) (xs := []) (inner := []) rfl rfl ?hr (Reps.none _ _) (by simp) O15.out ?_
      (case hr => first | (go_simp; done) | (go_simp; rfl))
      intro C1 e1 w16 o_ k_
      have O16 : Aside0 (Own N w16 [cells g #[.int .i64 C, .slice A0 L.length c0] 37, rd k31 A0 L.length L, cells gb #[.int .i64 o, .int .i64 n, .slice B2 ups.length d2] 31, both (nrow k31 31 (.slice D1 1 h1) [(⟨o, n, ups⟩ : Rnd)]) (rd k47 B2 ups.length ups), nrow k31 31 (.slice C1 0 e1) []]) := ⟨o_⟩
      have K16 : Aside0 (KeepS N w13 w16) := ⟨K15.out.trans k_⟩
      have HR_16 : Aside0 (Kd.F k47 w16 N B ups.length ups) := ⟨keepF HR_15.out k_⟩
      clear c15_0_0 f15_0_0 c15_0_1 f15_0_1 c15_2_0 f15_2_0 c15_2_1 f15_2_1 c15_2_2 f15_2_2 n15_0_2 n15_2_0 O15 K15 HR_15
      have c16_0_0 : w16.cell? ⟨g, 0, none⟩ = some (.int .i64 C) := (blk_cell (O16.out.blk (i := 0) rfl) 0).trans rfl
      have f16_0_0 : w16.frozen? ⟨g, 0, none⟩ = false := blk_frozen (O16.out.blk (i := 0) rfl) 0
      have c16_0_1 : w16.cell? ⟨g, 1, none⟩ = some (.slice A0 L.length c0) := (blk_cell (O16.out.blk (i := 0) rfl) 1).trans rfl
      have f16_0_1 : w16.frozen? ⟨g, 1, none⟩ = false := blk_frozen (O16.out.blk (i := 0) rfl) 1
      have c16_2_0 : w16.cell? ⟨gb, 0, none⟩ = some (.int .i64 o) := (blk_cell (O16.out.blk (i := 2) rfl) 0).trans rfl
      have f16_2_0 : w16.frozen? ⟨gb, 0, none⟩ = false := blk_frozen (O16.out.blk (i := 2) rfl) 0
      have c16_2_1 : w16.cell? ⟨gb, 1, none⟩ = some (.int .i64 n) := (blk_cell (O16.out.blk (i := 2) rfl) 1).trans rfl
      have f16_2_1 : w16.frozen? ⟨gb, 1, none⟩ = false := blk_frozen (O16.out.blk (i := 2) rfl) 1
      have c16_2_2 : w16.cell? ⟨gb, 2, none⟩ = some (.slice B2 ups.length d2) := (blk_cell (O16.out.blk (i := 2) rfl) 2).trans rfl
      have f16_2_2 : w16.frozen? ⟨gb, 2, none⟩ = false := blk_frozen (O16.out.blk (i := 2) rfl) 2
      have n16_0_2 : g ≠ gb := O16.out.ne (i := 0) (j := 2) rfl rfl (by decide)
      have n16_2_0 : gb ≠ g := O16.out.ne (i := 2) (j := 0) rfl rfl (by decide)
      clear o_ k_
      clear hHeld
      refine hK_.out _ _ ⟨((blk_cell (O16.out.blk (i := 0) rfl) 0).trans rfl), ((blk_cell (O16.out.blk (i := 0) rfl) 1).trans rfl), ((blk_cell (O16.out.blk (i := 2) rfl) 0).trans rfl), ((blk_cell (O16.out.blk (i := 2) rfl) 1).trans rfl), ((blk_cell (O16.out.blk (i := 2) rfl) 2).trans rfl)⟩ (fun hHeld => ?_)
      clear hK_ K_
      refine norm_ (a' := ?_) ?_ ?_
      rotate_left
      · simp only [Act.put, List.setIfInBounds_toArray, List.set_cons_zero, List.set_cons_succ, i64_w, i32_w]
        rfl
      refine one_ (i := 6) (N := some 44) #[true, true, true, true, true, true, true, true, true, false, false, false, false] rfl rfl (by kernel_rfl) (by decide) (fun K_ hK_ => ?_)
      refine Own.append_rows_step k31 O16.out (i := 4) (j := 1) rfl rfl (by decide) rfl rfl (.tmp 39) (.tmp 43) 22 (.agg #[.int .i64 0, .int .i64 0, .slice none 0 0]) 40 rfl Try.underlying22 infoR rfl (by decide) (by decide) rfl rfl (by have := HL.out; simp only [List.length_nil]; omega) ?_
      intro C2 e2 w17 o_ k_
      have O17 : Aside0 (Own N w17 [cells g #[.int .i64 C, .slice A0 L.length c0] 37, emp, cells gb #[.int .i64 o, .int .i64 n, .slice B2 ups.length d2] 31, both (nrow k31 31 (.slice D1 1 h1) [(⟨o, n, ups⟩ : Rnd)]) (rd k47 B2 ups.length ups), nrow k31 31 (.slice C2 L.length e2) L]) := ⟨o_⟩
      have K17 : Aside0 (KeepS N w13 w17) := ⟨K16.out.trans k_⟩
      have HR_17 : Aside0 (Kd.F k47 w17 N B ups.length ups) := ⟨keepF HR_16.out k_⟩
      clear c16_0_0 f16_0_0 c16_0_1 f16_0_1 c16_2_0 f16_2_0 c16_2_1 f16_2_1 c16_2_2 f16_2_2 n16_0_2 n16_2_0 O16 K16 HR_16
      have c17_0_0 : w17.cell? ⟨g, 0, none⟩ = some (.int .i64 C) := (blk_cell (O17.out.blk (i := 0) rfl) 0).trans rfl
      have f17_0_0 : w17.frozen? ⟨g, 0, none⟩ = false := blk_frozen (O17.out.blk (i := 0) rfl) 0
      have c17_0_1 : w17.cell? ⟨g, 1, none⟩ = some (.slice A0 L.length c0) := (blk_cell (O17.out.blk (i := 0) rfl) 1).trans rfl
      have f17_0_1 : w17.frozen? ⟨g, 1, none⟩ = false := blk_frozen (O17.out.blk (i := 0) rfl) 1
      have c17_2_0 : w17.cell? ⟨gb, 0, none⟩ = some (.int .i64 o) := (blk_cell (O17.out.blk (i := 2) rfl) 0).trans rfl
      have f17_2_0 : w17.frozen? ⟨gb, 0, none⟩ = false := blk_frozen (O17.out.blk (i := 2) rfl) 0
      have c17_2_1 : w17.cell? ⟨gb, 1, none⟩ = some (.int .i64 n) := (blk_cell (O17.out.blk (i := 2) rfl) 1).trans rfl
      have f17_2_1 : w17.frozen? ⟨gb, 1, none⟩ = false := blk_frozen (O17.out.blk (i := 2) rfl) 1
      have c17_2_2 : w17.cell? ⟨gb, 2, none⟩ = some (.slice B2 ups.length d2) := (blk_cell (O17.out.blk (i := 2) rfl) 2).trans rfl
      have f17_2_2 : w17.frozen? ⟨gb, 2, none⟩ = false := blk_frozen (O17.out.blk (i := 2) rfl) 2
      have n17_0_2 : g ≠ gb := O17.out.ne (i := 0) (j := 2) rfl rfl (by decide)
      have n17_2_0 : gb ≠ g := O17.out.ne (i := 2) (j := 0) rfl rfl (by decide)
      clear o_ k_
      clear hHeld
      refine hK_.out _ _ ⟨((blk_cell (O17.out.blk (i := 0) rfl) 0).trans rfl), ((blk_cell (O17.out.blk (i := 0) rfl) 1).trans rfl), ((blk_cell (O17.out.blk (i := 2) rfl) 0).trans rfl), ((blk_cell (O17.out.blk (i := 2) rfl) 1).trans rfl), ((blk_cell (O17.out.blk (i := 2) rfl) 2).trans rfl)⟩ (fun hHeld => ?_)
      clear hK_ K_
      refine norm_ (a' := ?_) ?_ ?_
      rotate_left
      · simp only [Act.put, List.setIfInBounds_toArray, List.set_cons_zero, List.set_cons_succ, i64_w, i32_w]
        rfl
      refine norm_ (a' := _) ?_ (hc_ ⟨C1, e1, C2, e2, D1, h1⟩ _ ⟨?_, K17.out⟩)
      · simp only [putAll, Act.put, List.setIfInBounds_toArray, List.set_cons_zero, List.set_cons_succ]
        try rfl
      · exact O17.out.pickL [0, 1, 2, 3, 4] (by decide) (by simp)
  case hcont =>
    clear hHeld
    rintro ⟨C1, e1, C2, e2, D1, h1⟩ w14 ⟨o_, k_⟩
    have O14 : Aside0 (Own N w14 [cells g #[.int .i64 C, .slice A0 L.length c0] 37, emp, cells gb #[.int .i64 o, .int .i64 n, .slice B2 ups.length d2] 31, both (nrow k31 31 (.slice D1 1 h1) [(⟨o, n, ups⟩ : Rnd)]) (rd k47 B2 ups.length ups), nrow k31 31 (.slice C2 L.length e2) L]) := ⟨o_⟩
    have K14 : Aside0 (KeepS N w w14) := ⟨K13.out.trans k_⟩
    have HR_14 : Aside0 (Kd.F k47 w14 N B ups.length ups) := ⟨keepF HR_13.out k_⟩
    clear c13_0_0 f13_0_0 c13_0_1 f13_0_1 c13_2_0 f13_2_0 c13_2_1 f13_2_1 c13_2_2 f13_2_2 n13_0_2 n13_2_0 O13 K13 HR_13
    have c14_0_0 : w14.cell? ⟨g, 0, none⟩ = some (.int .i64 C) := (blk_cell (O14.out.blk (i := 0) rfl) 0).trans rfl
    have f14_0_0 : w14.frozen? ⟨g, 0, none⟩ = false := blk_frozen (O14.out.blk (i := 0) rfl) 0
    have c14_0_1 : w14.cell? ⟨g, 1, none⟩ = some (.slice A0 L.length c0) := (blk_cell (O14.out.blk (i := 0) rfl) 1).trans rfl
    have f14_0_1 : w14.frozen? ⟨g, 1, none⟩ = false := blk_frozen (O14.out.blk (i := 0) rfl) 1
    have c14_2_0 : w14.cell? ⟨gb, 0, none⟩ = some (.int .i64 o) := (blk_cell (O14.out.blk (i := 2) rfl) 0).trans rfl
    have f14_2_0 : w14.frozen? ⟨gb, 0, none⟩ = false := blk_frozen (O14.out.blk (i := 2) rfl) 0
    have c14_2_1 : w14.cell? ⟨gb, 1, none⟩ = some (.int .i64 n) := (blk_cell (O14.out.blk (i := 2) rfl) 1).trans rfl
    have f14_2_1 : w14.frozen? ⟨gb, 1, none⟩ = false := blk_frozen (O14.out.blk (i := 2) rfl) 1
    have c14_2_2 : w14.cell? ⟨gb, 2, none⟩ = some (.slice B2 ups.length d2) := (blk_cell (O14.out.blk (i := 2) rfl) 2).trans rfl
    have f14_2_2 : w14.frozen? ⟨gb, 2, none⟩ = false := blk_frozen (O14.out.blk (i := 2) rfl) 2
    have n14_0_2 : g ≠ gb := O14.out.ne (i := 0) (j := 2) rfl rfl (by decide)
    have n14_2_0 : gb ≠ g := O14.out.ne (i := 2) (j := 0) rfl rfl (by decide)
    clear o_ k_
    refine norm_ (a' := ?_) ?_ ?_
    rotate_left
    · simp only [putAll, Act.put, List.setIfInBounds_toArray, List.set_cons_zero, List.set_cons_succ]
      rfl
    have hHeld : w14.cell? ⟨g, 0, none⟩ = some (.int .i64 C) ∧ w14.cell? ⟨g, 1, none⟩ = some (.slice A0 L.length c0) ∧ w14.cell? ⟨gb, 0, none⟩ = some (.int .i64 o) ∧ w14.cell? ⟨gb, 1, none⟩ = some (.int .i64 n) ∧ w14.cell? ⟨gb, 2, none⟩ = some (.slice B2 ups.length d2) := ⟨((blk_cell (O14.out.blk (i := 0) rfl) 0).trans rfl), ((blk_cell (O14.out.blk (i := 0) rfl) 1).trans rfl), ((blk_cell (O14.out.blk (i := 2) rfl) 0).trans rfl), ((blk_cell (O14.out.blk (i := 2) rfl) 1).trans rfl), ((blk_cell (O14.out.blk (i := 2) rfl) 2).trans rfl)⟩
    refine one_ (i := 9) (N := some 47) #[true, true, true, true, true, true, true, true, true, true, false, false, false] rfl rfl (by kernel_rfl) (by decide) (fun K_ hK_ => ?_)
    have O15 : Aside0 (Own N w14 [cells g #[.int .i64 C, .slice A0 L.length c0] 37, emp, cells gb #[.int .i64 o, .int .i64 n, .slice B2 ups.length d2] 31, both (rd k31 D1 1 [(⟨o, n, ups⟩ : Rnd)]) (rd k47 B2 ups.length ups), nrow k31 31 (.slice C2 L.length e2) L]) := ⟨O14.out.conv (i := 3) rfl _ (fun F hp _ => ⟨Kd.N_F hp.1, hp.2⟩)⟩
    clear O14
    refine Own.append_rows2_step k31 O15.out (i := 4) (j := 3) (ys := [(⟨o, n, ups⟩ : Rnd)]) rfl rfl (by decide) rfl rfl (.tmp 44) (.tmp 46) 22 (.agg #[.int .i64 0, .int .i64 0, .slice none 0 0]) 40 rfl Try.underlying22 infoR rfl (by decide) (by decide) rfl rfl (by have := HL.out; omega) ?_
    intro C3 e3 w16 o_ k_
    have O16 : Aside0 (Own N w16 [cells g #[.int .i64 C, .slice A0 L.length c0] 37, emp, cells gb #[.int .i64 o, .int .i64 n, .slice B2 ups.length d2] 31, emp, both (nrow k31 31 (.slice C3 (L ++ [(⟨o, n, ups⟩ : Rnd)]).length e3) (L ++ [(⟨o, n, ups⟩ : Rnd)])) (rd k47 B2 ups.length ups)]) := ⟨o_⟩
    have K16 : Aside0 (KeepS N w w16) := ⟨K14.out.trans k_⟩
    have HR_16 : Aside0 (Kd.F k47 w16 N B ups.length ups) := ⟨keepF HR_14.out k_⟩
    clear c14_0_0 f14_0_0 c14_0_1 f14_0_1 c14_2_0 f14_2_0 c14_2_1 f14_2_1 c14_2_2 f14_2_2 n14_0_2 n14_2_0 O15 K14 HR_14
    have c16_0_0 : w16.cell? ⟨g, 0, none⟩ = some (.int .i64 C) := (blk_cell (O16.out.blk (i := 0) rfl) 0).trans rfl
    have f16_0_0 : w16.frozen? ⟨g, 0, none⟩ = false := blk_frozen (O16.out.blk (i := 0) rfl) 0
    have c16_0_1 : w16.cell? ⟨g, 1, none⟩ = some (.slice A0 L.length c0) := (blk_cell (O16.out.blk (i := 0) rfl) 1).trans rfl
    have f16_0_1 : w16.frozen? ⟨g, 1, none⟩ = false := blk_frozen (O16.out.blk (i := 0) rfl) 1
    have c16_2_0 : w16.cell? ⟨gb, 0, none⟩ = some (.int .i64 o) := (blk_cell (O16.out.blk (i := 2) rfl) 0).trans rfl
    have f16_2_0 : w16.frozen? ⟨gb, 0, none⟩ = false := blk_frozen (O16.out.blk (i := 2) rfl) 0
    have c16_2_1 : w16.cell? ⟨gb, 1, none⟩ = some (.int .i64 n) := (blk_cell (O16.out.blk (i := 2) rfl) 1).trans rfl
    have f16_2_1 : w16.frozen? ⟨gb, 1, none⟩ = false := blk_frozen (O16.out.blk (i := 2) rfl) 1
    have c16_2_2 : w16.cell? ⟨gb, 2, none⟩ = some (.slice B2 ups.length d2) := (blk_cell (O16.out.blk (i := 2) rfl) 2).trans rfl
    have f16_2_2 : w16.frozen? ⟨gb, 2, none⟩ = false := blk_frozen (O16.out.blk (i := 2) rfl) 2
    have n16_0_2 : g ≠ gb := O16.out.ne (i := 0) (j := 2) rfl rfl (by decide)
    have n16_2_0 : gb ≠ g := O16.out.ne (i := 2) (j := 0) rfl rfl (by decide)
    clear o_ k_
    clear hHeld
    refine hK_.out _ _ ⟨((blk_cell (O16.out.blk (i := 0) rfl) 0).trans rfl), ((blk_cell (O16.out.blk (i := 0) rfl) 1).trans rfl), ((blk_cell (O16.out.blk (i := 2) rfl) 0).trans rfl), ((blk_cell (O16.out.blk (i := 2) rfl) 1).trans rfl), ((blk_cell (O16.out.blk (i := 2) rfl) 2).trans rfl)⟩ (fun hHeld => ?_)
    clear hK_ K_
    refine norm_ (a' := ?_) ?_ ?_
    rotate_left
    · simp only [Act.put, List.setIfInBounds_toArray, List.set_cons_zero, List.set_cons_succ, i64_w, i32_w]
      rfl
    refine pure_ (i := 10) (N := some 48) (v := ?_) (a' := ?_) #[true, true, true, true, true, true, true, true, true, true, true, false, false] rfl rfl (by kernel_rfl) (fun _ _ _ h => h) (Or.inl ⟨by rfl, ?_⟩) ?_ ?_
    rotate_left
    · intro w'
      go_simp
      with_reducible rfl
    rotate_left
    · simp only [Act.put, List.setIfInBounds_toArray, List.set_cons_zero, List.set_cons_succ, i64_w, i32_w]
      rfl
    refine pure_ (i := 11) (N := some 49) (v := ?_) (a' := ?_) #[true, true, true, true, true, true, true, true, true, true, true, true, false] rfl rfl (by kernel_rfl) (fun _ _ _ h => h) (Or.inl ⟨by rfl, ?_⟩) ?_ ?_
    rotate_left
    · intro w'
      go_simp
      with_reducible rfl
    rotate_left
    · simp only [Act.put, List.setIfInBounds_toArray, List.set_cons_zero, List.set_cons_succ, i64_w, i32_w]
      rfl
    refine last_ (i := 12) (N := none) #[true, true, true, true, true, true, true, true, true, true, true, true, true] rfl rfl (by kernel_rfl) (by decide) (fun K_ hK_ => ?_)
    refine own_store_step rfl rfl (w1 := (World.setCell w16 ⟨g, 1, none⟩ (.slice C3 (L ++ [(⟨o, n, ups⟩ : Rnd)]).length e3))) (N := N) (l' := [cells g #[.int .i64 C, .slice C3 (L ++ [(⟨o, n, ups⟩ : Rnd)]).length e3] 37, emp, cells gb #[.int .i64 o, .int .i64 n, .slice B2 ups.length d2] 31, emp, both (nrow k31 31 (.slice C3 (L ++ [(⟨o, n, ups⟩ : Rnd)]).length e3) (L ++ [(⟨o, n, ups⟩ : Rnd)])) (rd k47 B2 ups.length ups)]) ?hr ?ho ?hk ?_
    (case hr => first | (go_simp; done) | (go_simp; rfl))
    (case ho => exact (O16.out.set (i := 0) rfl 1 (.slice C3 (L ++ [(⟨o, n, ups⟩ : Rnd)]).length e3)))
    (case hk => exact (KeepS.setCell (O16.out.far (i := 0) rfl) (.slice C3 (L ++ [(⟨o, n, ups⟩ : Rnd)]).length e3)))
    intro w17 o_ k_
    have O17 : Aside0 (Own N w17 [cells g #[.int .i64 C, .slice C3 (L ++ [(⟨o, n, ups⟩ : Rnd)]).length e3] 37, emp, cells gb #[.int .i64 o, .int .i64 n, .slice B2 ups.length d2] 31, emp, both (nrow k31 31 (.slice C3 (L ++ [(⟨o, n, ups⟩ : Rnd)]).length e3) (L ++ [(⟨o, n, ups⟩ : Rnd)])) (rd k47 B2 ups.length ups)]) := ⟨o_⟩
    have K17 : Aside0 (KeepS N w w17) := ⟨K16.out.trans k_⟩
    have HR_17 : Aside0 (Kd.F k47 w17 N B ups.length ups) := ⟨keepF HR_16.out k_⟩
    clear c16_0_0 f16_0_0 c16_0_1 f16_0_1 c16_2_0 f16_2_0 c16_2_1 f16_2_1 c16_2_2 f16_2_2 n16_0_2 n16_2_0 O16 K16 HR_16
    have c17_0_0 : w17.cell? ⟨g, 0, none⟩ = some (.int .i64 C) := (blk_cell (O17.out.blk (i := 0) rfl) 0).trans rfl
    have f17_0_0 : w17.frozen? ⟨g, 0, none⟩ = false := blk_frozen (O17.out.blk (i := 0) rfl) 0
    have c17_0_1 : w17.cell? ⟨g, 1, none⟩ = some (.slice C3 (L ++ [(⟨o, n, ups⟩ : Rnd)]).length e3) := (blk_cell (O17.out.blk (i := 0) rfl) 1).trans rfl
    have f17_0_1 : w17.frozen? ⟨g, 1, none⟩ = false := blk_frozen (O17.out.blk (i := 0) rfl) 1
    have c17_2_0 : w17.cell? ⟨gb, 0, none⟩ = some (.int .i64 o) := (blk_cell (O17.out.blk (i := 2) rfl) 0).trans rfl
    have f17_2_0 : w17.frozen? ⟨gb, 0, none⟩ = false := blk_frozen (O17.out.blk (i := 2) rfl) 0
    have c17_2_1 : w17.cell? ⟨gb, 1, none⟩ = some (.int .i64 n) := (blk_cell (O17.out.blk (i := 2) rfl) 1).trans rfl
    have f17_2_1 : w17.frozen? ⟨gb, 1, none⟩ = false := blk_frozen (O17.out.blk (i := 2) rfl) 1
    have c17_2_2 : w17.cell? ⟨gb, 2, none⟩ = some (.slice B2 ups.length d2) := (blk_cell (O17.out.blk (i := 2) rfl) 2).trans rfl
    have f17_2_2 : w17.frozen? ⟨gb, 2, none⟩ = false := blk_frozen (O17.out.blk (i := 2) rfl) 2
    have n17_0_2 : g ≠ gb := O17.out.ne (i := 0) (j := 2) rfl rfl (by decide)
    have n17_2_0 : gb ≠ g := O17.out.ne (i := 2) (j := 0) rfl rfl (by decide)
    clear o_ k_
    refine hK_.out _ _ ?_
    clear hK_ K_
    refine done_ (by kernel_rfl) ?_
    clear hHeld
    go_wp2
    go_ret
    have o9 := (O17.out.conv (i := 4) rfl (nrow k31 31 (.slice C3 (L ++ [(⟨o, n, ups⟩ : Rnd)]).length e3) (L ++ [(⟨o, n, ups⟩ : Rnd)])) (fun F hp _ => hp.1)).pick2 (a := 0) (b := 4) rfl rfl (by decide)
    exact ⟨C3, e3, rfl, (o9.nreads (i := 1) rfl).2.1, o9, K17.out⟩
theorem RAdd_y {N : Nat → Prop} {w : World} {g : Nat} {C : Int} {L : List Rnd} (B : Option Addr) (c : Nat) (o n : Int) (ups : List Upd) (h : Own N w [ObjM g C L]) (hr : Kd.F k47 w N B ups.length ups) (hc : ups.length ≤ c) (hL : L.length ≤ 1000000) (hu : ups.length ≤ 1000000) (hg : Good C L) (he : addE C L ⟨o, n, ups⟩ = 0) :
    Calls Try.prog 14 #[.pointer (some ⟨g, 0, none⟩), .agg #[.int .i64 o, .int .i64 n, .slice B ups.length c]] w fun e_ w' => ∃ A2 c2, e_ = .returned (.int .i64 0) ∧ (L ++ [(⟨o, n, ups⟩ : Rnd)]).length ≤ c2 ∧ Own N w' [cells g #[.int .i64 C, .slice A2 (L ++ [(⟨o, n, ups⟩ : Rnd)]).length c2] 37, nrow k31 31 (.slice A2 (L ++ [(⟨o, n, ups⟩ : Rnd)]).length c2) (L ++ [(⟨o, n, ups⟩ : Rnd)])] ∧ KeepS N w w' :=
  let q := addE_0 he
  RAdd_ok B c o n ups h hr hc hL hu 20 q.1 (by rw [rmayR 0, q.1]) hg q.2.1 q.2.2
theorem RAdd_n {N : Nat → Prop} {w : World} {g : Nat} {C : Int} {L : List Rnd} (B : Option Addr) (c : Nat) (o n : Int) (ups : List Upd) (h : Own N w [ObjM g C L]) (hr : Kd.F k47 w N B ups.length ups) (hc : ups.length ≤ c) (hL : L.length ≤ 1000000) (hu : ups.length ≤ 1000000) (hg : Good C L) (E : Int) (he : addE C L ⟨o, n, ups⟩ = E) (hE : E ≠ 0) :
    Calls Try.prog 14 #[.pointer (some ⟨g, 0, none⟩), .agg #[.int .i64 o, .int .i64 n, .slice B ups.length c]] w fun e_ w' => ∃ A2 c2, e_ = .returned (.int .i64 E) ∧ (L).length ≤ c2 ∧ Own N w' [cells g #[.int .i64 C, .slice A2 (L).length c2] 37, nrow k31 31 (.slice A2 (L).length c2) (L)] ∧ KeepS N w w' := by
  subst he
  by_cases h1 : mayR o n ups = 0
  · have hp : chapbookref07_May.f 20 o n ups = some 0 := by rw [rmayR 0, h1]
    unfold addE at hE ⊢
    simp only [h1, ne_eq, not_true, if_false] at hE ⊢
    by_cases h2 : o > C
    · rw [if_pos h2]; exact RAdd_none B c o n ups h hr hc hL hu 20 h1 hp hg h2
    rw [if_neg h2] at hE ⊢
    by_cases h3 : n < lastOf o L + 1
    · rw [if_pos h3]; exact RAdd_twice B c o n ups h hr hc hL hu 20 h1 hp hg (by omega) h3
    rw [if_neg h3] at hE ⊢
    by_cases h4 : n > lastOf o L + 1
    · rw [if_pos h4]; exact RAdd_order B c o n ups h hr hc hL hu 20 h1 hp hg (by omega) h4
    rw [if_neg h4] at hE
    exact absurd rfl hE
  · have e : addE C L ⟨o, n, ups⟩ = mayR o n ups := by unfold addE; rw [if_pos h1]
    rw [e]
    exact RAdd_may B c o n ups h hr hc hL hu 20 _ (rmayR 0 _ _ _) (by rw [bne_iff_ne]; exact h1)
end Go.Proofs.Ytjmoncfgoaaekaa.J
