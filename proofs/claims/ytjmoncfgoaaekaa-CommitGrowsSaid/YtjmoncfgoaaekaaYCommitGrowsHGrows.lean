/- The law CommitGrows: with each round that comes what was there stays, and at most one comes behind it: that one: a plain walk through its text. -/
import Derived.Test.YtjmoncfgoaaekaaYCommitGrowsC6
namespace Go.Proofs.Ytjmoncfgoaaekaa.J
set_option linter.unusedSimpArgs false
set_option linter.unusedVariables false
open Go Go.RowKit Go.Proofs.YtjmoncfgoaaekaaW.PrintWords Go.Proofs.YtjmoncfgoaaekaaW.PrintLast Go.Proofs.YtjmoncfgoaaekaaW.PrintMore Go.Proofs.Ytjmoncfgoaaekaa.Q Go.Proofs.Ytjmoncfgoaaekaa.Sep Go.Proofs.Ytjmoncfgoaaekaa.Pure
attribute [local go_sem] max2_int min2_int max_two min_two max_three min_three max_four min_four
def chapbooklaw14_CommitGrows.f (a0 : Int) (l1 : List Rnd) : Option Bool := some true
def GrI (N : Nat → Prop) (w : World) (l0 : List Rnd) (ga : Nat) (C : Int) (i : Value) (wr : World) : Prop := ∃ (x : Int) (L : List Rnd), 0 ≤ x ∧ x ≤ (l0.length : Int) ∧ i = .int .i64 x ∧ Aside0 ((L.length : Int) ≤ x ∧ Good C L) ∧ Aside0 (Own N wr [ObjC ga C L]) ∧ Aside0 (KeepS N w wr)
theorem rd_last (L : List Rnd) (r : Rnd) : rd_T31 (L ++ [r]) (L.length : Int) = r := by
  unfold rd_T31
  rw [Int.toNat_natCast, List.getD_eq_getElem?_getD, List.getElem?_append_right (Nat.le_refl _), Nat.sub_self]
  rfl
theorem C_front {w : World} {A : Option Addr} {n : Nat} {L : List Rnd} {r : Rnd} (h : Kd.C k31 w A n (L ++ [r])) : Kd.C k31 w A L.length L := by
  have hl := h.1
  subst hl
  have h2 := Kd.C_take (m := L.length) h (by simp)
  rwa [List.take_left' rfl] at h2
theorem skipped_ {c : Bool} {A B : Prop} (h : c = false) (k : B) : if c = true then A else B := by rw [h]; exact k
theorem All_n {N : Nat → Prop} {w : World} {g : Nat} {C : Int} {L : List Rnd} (k : Nat) (hk : L.length = k) (h : Own N w [ObjC g C L]) (hL : L.length ≤ 1000000) (hg : Good C L) :
    Calls Try.prog 17 #[.pointer (some ⟨g, 0, none⟩)] w fun e_ w' => ∃ A1 c1, e_ = .returned (.slice A1 k c1) ∧ Own N w' [ObjC g C L, nrow k31 31 (.slice A1 k c1) L] ∧ KeepS N w w' := by
  subst hk
  exact All_g h hL hg
set_option maxHeartbeats 16000000 in
set_option maxRecDepth 100000 in
theorem chapbooklaw14_CommitGrows.calls (a0 : Int) (A1 : Option Addr) (c1 : Nat) (l1 : List Rnd) (r : Bool) (w : World) (hr1 : Kd.C k31 w A1 l1.length l1) (hc1 : l1.length ≤ c1) (h : chapbooklaw14_CommitGrows.f a0 l1 = some r) :
    Calls Try.prog 7 #[.int .i64 a0, .slice A1 l1.length c1] w fun e_ w' => e_ = .returned (.bool r) ∧ Below w.heap.size w w' := by
  obtain rfl : true = r := Option.some.inj h
  obtain ⟨A0, eA_⟩ : ∃ A0, A0 = A1 := ⟨_, rfl⟩
  obtain ⟨c0, ec_⟩ : ∃ c0, c0 = c1 := ⟨_, rfl⟩
  obtain ⟨l0, el_⟩ : ∃ l0, l0 = l1 := ⟨_, rfl⟩
  subst eA_
  subst ec_
  subst el_
  have hr0 := hr1
  have hc0 := hc1
  clear hr1 hc1
  obtain ⟨N, hN⟩ : ∃ N : Nat → Prop, N = fun k => k < w.heap.size := ⟨_, rfl⟩
  have HN := Aside0.mk hN
  have HRL0 : Aside0 (Kd.F k31 w N A0 l0.length l0) := ⟨by rw [hN]; exact Kd.C_F heapR hr0⟩
  have HR0 := Aside0.mk hr0
  have HC0 := Aside0.mk hc0
  obtain ⟨C, hC⟩ : ∃ C, C = mn (mx a0 1) 64 := ⟨_, rfl⟩
  have HCE := Aside0.mk hC.symm
  have HCR : Aside0 (1 ≤ C ∧ C ≤ 64) := ⟨by rw [hC]; exact C_range _⟩
  clear hC
  have O0 : Aside0 (Own N w []) := ⟨Own.start_ (fun k hk => by rw [hN] at hk; exact hk)⟩
  have K0 : Aside0 (KeepS N w w) := ⟨KeepS.refl _ _⟩
  clear hN hr0 hc0
  obtain ⟨b, hgr, hgb⟩ := great14_ok l0
  have HGR := Aside0.mk hgr
  have HGB := Aside0.mk hgb
  clear hgr hgb h
  cases b with
  | true =>
    go_enter Try.func7, Try.ntmps7
    go_wp2_with (first | ((with_reducible refine gate_callee (f := 9) rfl ?_); refine goesL_ (some 12) rfl rfl Try.func9 (by kernel_rfl) rfl #[.int .i64 a0] rfl (by (try simp only [List.map_toArray, List.map_cons, List.map_nil]); first | done | rfl) ?_; obtain ⟨N_, on_, nn_, rr_, bb_⟩ := O0.out.frame0; refine (New_n a0 C HCE.out on_).mono ?_; rintro e_ w1 ⟨ga, rfl, oo_, kk_⟩; obtain ⟨o_, k_⟩ := bb_ _ _ kk_ oo_; refine ⟨_, rfl, ?_⟩; have O1 : Aside0 (Own N w1 [ObjC ga C []]) := ⟨o_⟩; have K1 : Aside0 (KeepS N w w1) := ⟨K0.out.trans k_⟩; clear O0 K0; clear o_ k_ oo_ kk_ on_ nn_ rr_ bb_) | ((with_reducible refine gate_callee (f := 11) rfl ?_); refine goesL_ (some 13) rfl rfl Try.func11 (by kernel_rfl) rfl #[] rfl (by (try simp only [List.map_toArray, List.map_cons, List.map_nil]); first | done | rfl) ?_; refine (awake _).mono ?_; rintro e_ w2 ⟨rfl, hb_⟩; refine ⟨_, rfl, ?_⟩; have o_ := O1.out.below hb_; have k_ := KeepS.of_below (N := N) hb_; have O2 : Aside0 (Own N w2 [ObjC ga C []]) := ⟨o_⟩; have K2 : Aside0 (KeepS N w w2) := ⟨K1.out.trans k_⟩; clear O1 K1; clear o_ k_ hb_) | ((with_reducible refine gate_callee (f := 12) rfl ?_); refine gate_guard (by rfl) ?_; refine goesL_ (some 21) rfl rfl Try.func12 (by kernel_rfl) rfl #[.slice A0 l0.length c0] rfl (by (try simp only [List.map_toArray, List.map_cons, List.map_nil]); first | done | rfl) ?_; refine (chapbookref07_GreatAll.calls 300 _ _ l0 true _ (Kd.C_below HR0.out (K2.out.below (Nat.le_refl _) (fun k hk => by rw [HN.out]; exact hk))) HC0.out HGR.out).mono ?_; rintro e_ w3 ⟨rfl, hb_⟩; refine ⟨_, rfl, ?_⟩; have o_ := O2.out.below hb_; have k_ := KeepS.of_below (N := N) hb_; have O3 : Aside0 (Own N w3 [ObjC ga C []]) := ⟨o_⟩; have K3 : Aside0 (KeepS N w w3) := ⟨K2.out.trans k_⟩; clear O2 K2; clear o_ k_ hb_) | ((with_reducible refine gate_callee (f := 11) rfl ?_); refine goesL_ (some 23) rfl rfl Try.func11 (by kernel_rfl) rfl #[] rfl (by (try simp only [List.map_toArray, List.map_cons, List.map_nil]); first | done | rfl) ?_; refine (awake _).mono ?_; rintro e_ w4 ⟨rfl, hb_⟩; refine ⟨_, rfl, ?_⟩; have o_ := O3.out.below hb_; have k_ := KeepS.of_below (N := N) hb_; have O4 : Aside0 (Own N w4 [ObjC ga C []]) := ⟨o_⟩; have K4 : Aside0 (KeepS N w w4) := ⟨K3.out.trans k_⟩; clear O3 K3; clear o_ k_ hb_))
    go_ret
    exact ⟨rfl, K4.out.below (Nat.le_refl _) (fun k hk => by rw [HN.out]; exact hk)⟩
  | false =>
    obtain ⟨hl40, hl20⟩ := HGB.out rfl
    have HL40 := Aside0.mk hl40
    have HL20 := Aside0.mk hl20
    clear hl40 hl20 HGB
    go_enter Try.func7, Try.ntmps7
    go_wp2_with (first | ((with_reducible refine gate_callee (f := 9) rfl ?_); refine goesL_ (some 12) rfl rfl Try.func9 (by kernel_rfl) rfl #[.int .i64 a0] rfl (by (try simp only [List.map_toArray, List.map_cons, List.map_nil]); first | done | rfl) ?_; obtain ⟨N_, on_, nn_, rr_, bb_⟩ := O0.out.frame0; refine (New_n a0 C HCE.out on_).mono ?_; rintro e_ w1 ⟨ga, rfl, oo_, kk_⟩; obtain ⟨o_, k_⟩ := bb_ _ _ kk_ oo_; refine ⟨_, rfl, ?_⟩; have O1 : Aside0 (Own N w1 [ObjC ga C []]) := ⟨o_⟩; have K1 : Aside0 (KeepS N w w1) := ⟨K0.out.trans k_⟩; clear O0 K0; clear o_ k_ oo_ kk_ on_ nn_ rr_ bb_) | ((with_reducible refine gate_callee (f := 11) rfl ?_); refine goesL_ (some 13) rfl rfl Try.func11 (by kernel_rfl) rfl #[] rfl (by (try simp only [List.map_toArray, List.map_cons, List.map_nil]); first | done | rfl) ?_; refine (awake _).mono ?_; rintro e_ w2 ⟨rfl, hb_⟩; refine ⟨_, rfl, ?_⟩; have o_ := O1.out.below hb_; have k_ := KeepS.of_below (N := N) hb_; have O2 : Aside0 (Own N w2 [ObjC ga C []]) := ⟨o_⟩; have K2 : Aside0 (KeepS N w w2) := ⟨K1.out.trans k_⟩; clear O1 K1; clear o_ k_ hb_) | ((with_reducible refine gate_callee (f := 12) rfl ?_); refine gate_guard (by rfl) ?_; refine goesL_ (some 21) rfl rfl Try.func12 (by kernel_rfl) rfl #[.slice A0 l0.length c0] rfl (by (try simp only [List.map_toArray, List.map_cons, List.map_nil]); first | done | rfl) ?_; refine (chapbookref07_GreatAll.calls 300 _ _ l0 false _ (Kd.C_below HR0.out (K2.out.below (Nat.le_refl _) (fun k hk => by rw [HN.out]; exact hk))) HC0.out HGR.out).mono ?_; rintro e_ w3 ⟨rfl, hb_⟩; refine ⟨_, rfl, ?_⟩; have o_ := O2.out.below hb_; have k_ := KeepS.of_below (N := N) hb_; have O3 : Aside0 (Own N w3 [ObjC ga C []]) := ⟨o_⟩; have K3 : Aside0 (KeepS N w w3) := ⟨K2.out.trans k_⟩; clear O2 K2; clear o_ k_ hb_))
    go_loopw [26] (fun i wr => GrI N w l0 ga C i wr) (fun i _ => l0.length - (intOf i).toNat)
    case atStart => exact ⟨0, [], by omega, by omega, rfl, ⟨by decide, good_nil _⟩, O3, K3⟩
    case round =>
      obtain ⟨x, L, hx0, hx1, rfl, HI, OA, KA⟩ := hrel
      have hF2 := keepF HRL0.out KA.out
      have hLx := HL40.out
      have HLL : Aside0 (L.length ≤ 1000000) := ⟨by have := HI.out.1; omega⟩
      by_cases hlt : x < (l0.length : Int)
      · obtain ⟨ad, A3, c3, e3, x0, x1, x2, hl3, hF3⟩ := at_F hF2 x hx0 hlt
        cases e3
        have HC3 := Aside0.mk hl3
        have HF3 := Aside0.mk hF3
        have hs2 : wrap64 (x + 1) = x + 1 := by unfold wrap64; omega
        have hp := eq_true hx0
        have hq := eq_true hlt
        have hd : decide (x < (l0.length : Int)) = true := decide_eq_true hlt
        have HX := Aside0.mk (And.intro hx0 hlt)
        have HU20 : Aside0 ((rd_T31 l0 x).f2.length ≤ 20) := ⟨HL20.out x hx0 hlt⟩
        have HU : Aside0 ((rd_T31 l0 x).f2.length ≤ 1000000) := ⟨Nat.le_trans HU20.out (by decide)⟩
        clear hF3 hF2 hl3
        have O4 : Aside0 (Own N wr [ObjC ga C L]) := ⟨OA.out⟩
        have K4 : Aside0 (KeepS N w wr) := ⟨KA.out⟩
        have HRI_4 : Aside0 (Kd.F k47 wr N A3 (rd_T31 l0 x).f2.length (rd_T31 l0 x).f2) := ⟨HF3.out⟩
        clear OA KA HF3
        by_cases he : addE C L (rd_T31 l0 x) = 0
        · have HE := Aside0.mk he
          obtain ⟨m, hm⟩ : ∃ m : Nat, m = L.length + 1 := ⟨_, rfl⟩
          have HM := Aside0.mk hm
          have hw1 : IntKind.i64.wrap ((L.length : Int) + 1) = (m : Int) := by rw [IntKind.wrap_i64]; have := HLL.out; omega
          have hw2 : wrap64 ((L.length : Int) + 1) = (m : Int) := by unfold wrap64; have := HLL.out; omega
          have hml : decide ((m : Int) < (L.length : Int)) = false := decide_eq_false (by omega)
          have hml2 : decide (m < L.length) = false := decide_eq_false (by omega)
          have hmt2 : (L.length < m) = True := eq_true (by omega)
          have hmt : ((L.length : Int) < (m : Int)) = True := eq_true (by omega)
          have hm0 : ((0 : Int) ≤ (L.length : Int)) = True := eq_true (by omega)
          have hmm : ((m : Int) != (m : Int)) = false := by simp
          have h00 : ((0 : Int) != 0) = false := by decide
          have h01 : ((0 : Int) == 0) = true := by decide
          have HG2 : Aside0 (Good C (L ++ [(rd_T31 l0 x)])) := ⟨good_snoc HI.out.2 HE.out⟩
          have HLM : Aside0 ((L ++ [(rd_T31 l0 x)]).length = m) := ⟨by simp [hm]⟩
          have HLM2 : Aside0 ((L ++ [(rd_T31 l0 x)]).length ≤ 1000000) := ⟨by rw [HLM.out, hm]; have := HI.out.1; omega⟩
          clear hm
          clear he hlt hx0 hx1
          go_wp2_with (first | ((with_reducible refine gate_dst (N := 7) rfl ?_); refine own_box rfl (D := 7) rfl (cs := #[.int .i64 0, .int .i64 0, .slice none 0 0]) (t := 31) ?hr O4.out ?_; (case hr => first | (go_simp; done) | (go_simp; rfl)); intro gx w5 o_ k_; have O5 : Aside0 (Own N w5 [ObjC ga C L, cells gx #[.int .i64 0, .int .i64 0, .slice none 0 0] 31]) := ⟨o_⟩; have K5 : Aside0 (KeepS N w w5) := ⟨K4.out.trans k_⟩; have HRI_5 : Aside0 (Kd.F k47 w5 N A3 (rd_T31 l0 x).f2.length (rd_T31 l0 x).f2) := ⟨keepF HRI_4.out k_⟩; clear O4 K4 HRI_4; have c5_1_0 : w5.cell? ⟨gx, 0, none⟩ = some (.int .i64 0) := (blk_cell (O5.out.blk (i := 1) rfl) 0).trans rfl; have f5_1_0 : w5.frozen? ⟨gx, 0, none⟩ = false := blk_frozen (O5.out.blk (i := 1) rfl) 0; have c5_1_1 : w5.cell? ⟨gx, 1, none⟩ = some (.int .i64 0) := (blk_cell (O5.out.blk (i := 1) rfl) 1).trans rfl; have f5_1_1 : w5.frozen? ⟨gx, 1, none⟩ = false := blk_frozen (O5.out.blk (i := 1) rfl) 1; have c5_1_2 : w5.cell? ⟨gx, 2, none⟩ = some (.slice none 0 0) := (blk_cell (O5.out.blk (i := 1) rfl) 2).trans rfl; have f5_1_2 : w5.frozen? ⟨gx, 2, none⟩ = false := blk_frozen (O5.out.blk (i := 1) rfl) 2; clear o_ k_) | ((with_reducible refine gate_store (t := 31) (p := 7) rfl ?_); refine own_store rfl rfl rfl (w1 := (World.setCell (World.setCell (World.setCell w5 ⟨gx, 0, none⟩ (.int .i64 (rd_T31 l0 x).f0)) ⟨gx, 1, none⟩ (.int .i64 (rd_T31 l0 x).f1)) ⟨gx, 2, none⟩ (.slice A3 (rd_T31 l0 x).f2.length c3))) (N := N) (l' := [ObjC ga C L, cells gx #[.int .i64 (rd_T31 l0 x).f0, .int .i64 (rd_T31 l0 x).f1, .slice A3 (rd_T31 l0 x).f2.length c3] 31]) ?hr ?ho ?hk ?_; (case hr => first | (go_simp; done) | (go_simp; rfl)); (case ho => exact (((O5.out.set (i := 1) rfl 0 (.int .i64 (rd_T31 l0 x).f0)).set (i := 1) rfl 1 (.int .i64 (rd_T31 l0 x).f1)).set (i := 1) rfl 2 (.slice A3 (rd_T31 l0 x).f2.length c3))); (case hk => exact (((KeepS.setCell (O5.out.far (i := 1) rfl) (.int .i64 (rd_T31 l0 x).f0)).trans (KeepS.setCell (O5.out.far (i := 1) rfl) (.int .i64 (rd_T31 l0 x).f1))).trans (KeepS.setCell (O5.out.far (i := 1) rfl) (.slice A3 (rd_T31 l0 x).f2.length c3)))); intro w6 o_ k_; have O6 : Aside0 (Own N w6 [ObjC ga C L, cells gx #[.int .i64 (rd_T31 l0 x).f0, .int .i64 (rd_T31 l0 x).f1, .slice A3 (rd_T31 l0 x).f2.length c3] 31]) := ⟨o_⟩; have K6 : Aside0 (KeepS N w w6) := ⟨K5.out.trans k_⟩; have HRI_6 : Aside0 (Kd.F k47 w6 N A3 (rd_T31 l0 x).f2.length (rd_T31 l0 x).f2) := ⟨keepF HRI_5.out k_⟩; clear c5_1_0 f5_1_0 c5_1_1 f5_1_1 c5_1_2 f5_1_2 O5 K5 HRI_5; have c6_1_0 : w6.cell? ⟨gx, 0, none⟩ = some (.int .i64 (rd_T31 l0 x).f0) := (blk_cell (O6.out.blk (i := 1) rfl) 0).trans rfl; have f6_1_0 : w6.frozen? ⟨gx, 0, none⟩ = false := blk_frozen (O6.out.blk (i := 1) rfl) 0; have c6_1_1 : w6.cell? ⟨gx, 1, none⟩ = some (.int .i64 (rd_T31 l0 x).f1) := (blk_cell (O6.out.blk (i := 1) rfl) 1).trans rfl; have f6_1_1 : w6.frozen? ⟨gx, 1, none⟩ = false := blk_frozen (O6.out.blk (i := 1) rfl) 1; have c6_1_2 : w6.cell? ⟨gx, 2, none⟩ = some (.slice A3 (rd_T31 l0 x).f2.length c3) := (blk_cell (O6.out.blk (i := 1) rfl) 2).trans rfl; have f6_1_2 : w6.frozen? ⟨gx, 2, none⟩ = false := blk_frozen (O6.out.blk (i := 1) rfl) 2; clear o_ k_) | ((with_reducible refine gate_callee (f := 17) rfl ?_); refine goesL_ (some 31) rfl rfl Try.func17 (by kernel_rfl) rfl #[.pointer (some ⟨ga, 0, none⟩)] rfl (by (try simp only [List.map_toArray, List.map_cons, List.map_nil]); first | done | rfl) ?_; obtain ⟨N_, on_, nn_, rr_, bb_⟩ := O6.out.frame1 (i := 0) rfl; refine (All_g on_ HLL.out HI.out.2).mono ?_; rintro e_ w7 ⟨A5, c5, rfl, oo_, kk_⟩; obtain ⟨o_, k_⟩ := bb_ _ _ _ kk_ oo_; refine ⟨_, rfl, ?_⟩; have O7 : Aside0 (Own N w7 [ObjC ga C L, cells gx #[.int .i64 (rd_T31 l0 x).f0, .int .i64 (rd_T31 l0 x).f1, .slice A3 (rd_T31 l0 x).f2.length c3] 31, nrow k31 31 (.slice A5 L.length c5) L]) := ⟨o_⟩; have K7 : Aside0 (KeepS N w w7) := ⟨K6.out.trans k_⟩; have HRI_7 : Aside0 (Kd.F k47 w7 N A3 (rd_T31 l0 x).f2.length (rd_T31 l0 x).f2) := ⟨keepF HRI_6.out k_⟩; clear c6_1_0 f6_1_0 c6_1_1 f6_1_1 c6_1_2 f6_1_2 O6 K6 HRI_6; have c7_1_0 : w7.cell? ⟨gx, 0, none⟩ = some (.int .i64 (rd_T31 l0 x).f0) := (blk_cell (O7.out.blk (i := 1) rfl) 0).trans rfl; have f7_1_0 : w7.frozen? ⟨gx, 0, none⟩ = false := blk_frozen (O7.out.blk (i := 1) rfl) 0; have c7_1_1 : w7.cell? ⟨gx, 1, none⟩ = some (.int .i64 (rd_T31 l0 x).f1) := (blk_cell (O7.out.blk (i := 1) rfl) 1).trans rfl; have f7_1_1 : w7.frozen? ⟨gx, 1, none⟩ = false := blk_frozen (O7.out.blk (i := 1) rfl) 1; have c7_1_2 : w7.cell? ⟨gx, 2, none⟩ = some (.slice A3 (rd_T31 l0 x).f2.length c3) := (blk_cell (O7.out.blk (i := 1) rfl) 2).trans rfl; have f7_1_2 : w7.frozen? ⟨gx, 2, none⟩ = false := blk_frozen (O7.out.blk (i := 1) rfl) 2; clear o_ k_ oo_ kk_ on_ nn_ rr_ bb_) | ((with_reducible refine gate_callee (f := 13) rfl ?_); refine goesL_ (some 34) rfl rfl Try.func13 (by kernel_rfl) rfl #[.pointer (some ⟨ga, 0, none⟩), .agg #[.int .i64 (rd_T31 l0 x).f0, .int .i64 (rd_T31 l0 x).f1, .slice A3 (rd_T31 l0 x).f2.length c3]] rfl (by (try simp only [List.map_toArray, List.map_cons, List.map_nil]); first | done | rfl) ?_; obtain ⟨N_, on_, nn_, rr_, bb_⟩ := O7.out.frame1 (i := 0) rfl; have hr_ := Kd.F_mono HRI_7.out nn_; refine (Add_y A3 c3 (rd_T31 l0 x).f0 (rd_T31 l0 x).f1 (rd_T31 l0 x).f2 on_ hr_ HC3.out HLL.out HU.out HI.out.2 HE.out).mono ?_; rintro e_ w8 ⟨rfl, oo_, kk_⟩; obtain ⟨o_, k_⟩ := bb_ _ _ _ kk_ oo_; refine ⟨_, rfl, ?_⟩; have O8 : Aside0 (Own N w8 [ObjC ga C (L ++ [(rd_T31 l0 x)]), cells gx #[.int .i64 (rd_T31 l0 x).f0, .int .i64 (rd_T31 l0 x).f1, .slice A3 (rd_T31 l0 x).f2.length c3] 31, nrow k31 31 (.slice A5 L.length c5) L]) := ⟨o_⟩; have K8 : Aside0 (KeepS N w w8) := ⟨K7.out.trans k_⟩; have HRI_8 : Aside0 (Kd.F k47 w8 N A3 (rd_T31 l0 x).f2.length (rd_T31 l0 x).f2) := ⟨keepF HRI_7.out k_⟩; clear c7_1_0 f7_1_0 c7_1_1 f7_1_1 c7_1_2 f7_1_2 O7 K7 HRI_7; have c8_1_0 : w8.cell? ⟨gx, 0, none⟩ = some (.int .i64 (rd_T31 l0 x).f0) := (blk_cell (O8.out.blk (i := 1) rfl) 0).trans rfl; have f8_1_0 : w8.frozen? ⟨gx, 0, none⟩ = false := blk_frozen (O8.out.blk (i := 1) rfl) 0; have c8_1_1 : w8.cell? ⟨gx, 1, none⟩ = some (.int .i64 (rd_T31 l0 x).f1) := (blk_cell (O8.out.blk (i := 1) rfl) 1).trans rfl; have f8_1_1 : w8.frozen? ⟨gx, 1, none⟩ = false := blk_frozen (O8.out.blk (i := 1) rfl) 1; have c8_1_2 : w8.cell? ⟨gx, 2, none⟩ = some (.slice A3 (rd_T31 l0 x).f2.length c3) := (blk_cell (O8.out.blk (i := 1) rfl) 2).trans rfl; have f8_1_2 : w8.frozen? ⟨gx, 2, none⟩ = false := blk_frozen (O8.out.blk (i := 1) rfl) 2; clear o_ k_ oo_ kk_ on_ nn_ rr_ bb_ hr_) | ((with_reducible refine gate_callee (f := 17) rfl ?_); refine goesL_ (some 36) rfl rfl Try.func17 (by kernel_rfl) rfl #[.pointer (some ⟨ga, 0, none⟩)] rfl (by (try simp only [List.map_toArray, List.map_cons, List.map_nil]); first | done | rfl) ?_; obtain ⟨N_, on_, nn_, rr_, bb_⟩ := O8.out.frame1 (i := 0) rfl; refine (All_n m HLM.out on_ HLM2.out HG2.out).mono ?_; rintro e_ w9 ⟨A6, c6, rfl, oo_, kk_⟩; obtain ⟨o_, k_⟩ := bb_ _ _ _ kk_ oo_; refine ⟨_, rfl, ?_⟩; have O9 : Aside0 (Own N w9 [ObjC ga C (L ++ [(rd_T31 l0 x)]), cells gx #[.int .i64 (rd_T31 l0 x).f0, .int .i64 (rd_T31 l0 x).f1, .slice A3 (rd_T31 l0 x).f2.length c3] 31, nrow k31 31 (.slice A5 L.length c5) L, nrow k31 31 (.slice A6 m c6) (L ++ [(rd_T31 l0 x)])]) := ⟨o_⟩; have K9 : Aside0 (KeepS N w w9) := ⟨K8.out.trans k_⟩; have HRI_9 : Aside0 (Kd.F k47 w9 N A3 (rd_T31 l0 x).f2.length (rd_T31 l0 x).f2) := ⟨keepF HRI_8.out k_⟩; clear c8_1_0 f8_1_0 c8_1_1 f8_1_1 c8_1_2 f8_1_2 O8 K8 HRI_8; have c9_1_0 : w9.cell? ⟨gx, 0, none⟩ = some (.int .i64 (rd_T31 l0 x).f0) := (blk_cell (O9.out.blk (i := 1) rfl) 0).trans rfl; have f9_1_0 : w9.frozen? ⟨gx, 0, none⟩ = false := blk_frozen (O9.out.blk (i := 1) rfl) 0; have c9_1_1 : w9.cell? ⟨gx, 1, none⟩ = some (.int .i64 (rd_T31 l0 x).f1) := (blk_cell (O9.out.blk (i := 1) rfl) 1).trans rfl; have f9_1_1 : w9.frozen? ⟨gx, 1, none⟩ = false := blk_frozen (O9.out.blk (i := 1) rfl) 1; have c9_1_2 : w9.cell? ⟨gx, 2, none⟩ = some (.slice A3 (rd_T31 l0 x).f2.length c3) := (blk_cell (O9.out.blk (i := 1) rfl) 2).trans rfl; have f9_1_2 : w9.frozen? ⟨gx, 2, none⟩ = false := blk_frozen (O9.out.blk (i := 1) rfl) 2; clear o_ k_ oo_ kk_ on_ nn_ rr_ bb_; have hcut : ∀ W : World, (Instr.slice 22 (.slice A6 m c6) none (some (.int .i64 (L.length : Int))) none).run Try.prog W = .ok (.slice A6 L.length c6) W := (by obtain ⟨i0_, hi0_, _, _, _⟩ := info_parts infoR; intro W_; have q_ := cut_to 22 31 .i64 Try.underlying22 hi0_ A6 m c6 (L.length : Int) (by omega) (by rw [HM.out]; omega) (by have r_ := (O9.out.nreads (i := 3) rfl).2.1; have h_ := HLM.out; omega) W_; simpa using q_)) | ((with_reducible refine gate_callee (f := 16) rfl ?_); refine gate_guard (by rfl) ?_; refine goesL_ (some 48) rfl rfl Try.func16 (by kernel_rfl) rfl #[.slice A6 L.length c6, .slice A5 L.length c5] rfl (by (try simp only [List.map_toArray, List.map_cons, List.map_nil]); first | done | rfl) ?_; refine (chapbookref07_SameAll.calls 200 _ _ L _ _ L true _ (C_front (O9.out.nreads (i := 3) rfl).2.2) (by have r_ := (O9.out.nreads (i := 3) rfl).2.1; have h_ := HLM.out; have h2_ := HM.out; omega) (O9.out.nreads (i := 2) rfl).2.2 (O9.out.nreads (i := 2) rfl).2.1 (psameAll 8 200 L (by have := HLL.out; omega) (good_short HI.out.2) (by decide) (by have := HI.out.1; have := HL40.out; have := HX.out; omega))).mono ?_; rintro e_ w10 ⟨rfl, hb_⟩; refine ⟨_, rfl, ?_⟩; have o_ := O9.out.below hb_; have k_ := KeepS.of_below (N := N) hb_; have O10 : Aside0 (Own N w10 [ObjC ga C (L ++ [(rd_T31 l0 x)]), cells gx #[.int .i64 (rd_T31 l0 x).f0, .int .i64 (rd_T31 l0 x).f1, .slice A3 (rd_T31 l0 x).f2.length c3] 31, nrow k31 31 (.slice A5 L.length c5) L, nrow k31 31 (.slice A6 m c6) (L ++ [(rd_T31 l0 x)])]) := ⟨o_⟩; have K10 : Aside0 (KeepS N w w10) := ⟨K9.out.trans k_⟩; have HRI_10 : Aside0 (Kd.F k47 w10 N A3 (rd_T31 l0 x).f2.length (rd_T31 l0 x).f2) := ⟨keepF HRI_9.out k_⟩; clear c9_1_0 f9_1_0 c9_1_1 f9_1_1 c9_1_2 f9_1_2 O9 K9 HRI_9; have c10_1_0 : w10.cell? ⟨gx, 0, none⟩ = some (.int .i64 (rd_T31 l0 x).f0) := (blk_cell (O10.out.blk (i := 1) rfl) 0).trans rfl; have f10_1_0 : w10.frozen? ⟨gx, 0, none⟩ = false := blk_frozen (O10.out.blk (i := 1) rfl) 0; have c10_1_1 : w10.cell? ⟨gx, 1, none⟩ = some (.int .i64 (rd_T31 l0 x).f1) := (blk_cell (O10.out.blk (i := 1) rfl) 1).trans rfl; have f10_1_1 : w10.frozen? ⟨gx, 1, none⟩ = false := blk_frozen (O10.out.blk (i := 1) rfl) 1; have c10_1_2 : w10.cell? ⟨gx, 2, none⟩ = some (.slice A3 (rd_T31 l0 x).f2.length c3) := (blk_cell (O10.out.blk (i := 1) rfl) 2).trans rfl; have f10_1_2 : w10.frozen? ⟨gx, 2, none⟩ = false := blk_frozen (O10.out.blk (i := 1) rfl) 2; clear o_ k_ hb_))
          obtain ⟨N1, h3, hn1, hF, hback⟩ := O10.out.hide (i := 3) rfl
          have hF9 : Kd.F k31 w10 N1 A6 m (L ++ [(rd_T31 l0 x)]) := Kd.N_F hF
          obtain ⟨ad9, A9, c9, e9, hbk, y0, y1, y2, hl9, hG9⟩ := at_FB hF9 (L.length : Int) (by omega) (by have := HM.out; omega)
          rw [rd_last] at y0 y1 y2 hl9 hG9
          cases e9
          have HBK := Aside0.mk hbk
          have YY := Aside0.mk (And.intro y0 (And.intro y1 y2))
          have HC9 := Aside0.mk hl9
          have HG9 := Aside0.mk hG9
          have HN1 := Aside0.mk hn1
          have HBACK := Aside0.mk hback
          have HRJ := Aside0.mk (Kd.F_mono HRI_10.out hn1)
          clear hF hback hn1 hF9 hbk y0 y1 y2 hl9 hG9 c10_1_0 f10_1_0 c10_1_1 f10_1_1 c10_1_2 f10_1_2
          have O12 : Aside0 (Own N1 w10 [ObjC ga C (L ++ [(rd_T31 l0 x)]), cells gx #[.int .i64 (rd_T31 l0 x).f0, .int .i64 (rd_T31 l0 x).f1, .slice A3 (rd_T31 l0 x).f2.length c3] 31, nrow k31 31 (.slice A5 L.length c5) L, emp]) := ⟨h3⟩
          have K12 : Aside0 (KeepS N1 w10 w10) := ⟨KeepS.refl _ _⟩
          have HRG_12 : Aside0 (Kd.F k47 w10 N1 A9 (rd_T31 l0 x).f2.length (rd_T31 l0 x).f2) := ⟨HG9.out⟩
          have HRK_12 : Aside0 (Kd.F k47 w10 N1 A3 (rd_T31 l0 x).f2.length (rd_T31 l0 x).f2) := ⟨HRJ.out⟩
          have c12_1_0 : w10.cell? ⟨gx, 0, none⟩ = some (.int .i64 (rd_T31 l0 x).f0) := (blk_cell (O12.out.blk (i := 1) rfl) 0).trans rfl
          have f12_1_0 : w10.frozen? ⟨gx, 0, none⟩ = false := blk_frozen (O12.out.blk (i := 1) rfl) 0
          have c12_1_1 : w10.cell? ⟨gx, 1, none⟩ = some (.int .i64 (rd_T31 l0 x).f1) := (blk_cell (O12.out.blk (i := 1) rfl) 1).trans rfl
          have f12_1_1 : w10.frozen? ⟨gx, 1, none⟩ = false := blk_frozen (O12.out.blk (i := 1) rfl) 1
          have c12_1_2 : w10.cell? ⟨gx, 2, none⟩ = some (.slice A3 (rd_T31 l0 x).f2.length c3) := (blk_cell (O12.out.blk (i := 1) rfl) 2).trans rfl
          have f12_1_2 : w10.frozen? ⟨gx, 2, none⟩ = false := blk_frozen (O12.out.blk (i := 1) rfl) 2
          clear h3 HG9 HRJ
          refine start_ (n := 31) (S := fun w' => w'.cell? ⟨gx, 0, none⟩ = some (.int .i64 (rd_T31 l0 x).f0) ∧ w'.cell? ⟨gx, 1, none⟩ = some (.int .i64 (rd_T31 l0 x).f1) ∧ w'.cell? ⟨gx, 2, none⟩ = some (.slice A3 (rd_T31 l0 x).f2.length c3) ∧ w'.cell? (ad9.add (L.length * 3)) = some (.int .i64 (rd_T31 l0 x).f0) ∧ w'.cell? ⟨(ad9.add (L.length * 3)).block, (ad9.add (L.length * 3)).off + 1, none⟩ = some (.int .i64 (rd_T31 l0 x).f1) ∧ w'.cell? ⟨(ad9.add (L.length * 3)).block, (ad9.add (L.length * 3)).off + 2, none⟩ = some (.slice A9 (rd_T31 l0 x).f2.length c9)) (ds := []) #[false, false, false, false, false, false, false, false, false, false, false, false, false, false, false, false, false, false, false, false, false, false, false, false, false, false, false, false, false, false, false] (by kernel_rfl) rfl rfl ⟨((blk_cell (O12.out.blk (i := 1) rfl) 0).trans rfl), ((blk_cell (O12.out.blk (i := 1) rfl) 1).trans rfl), ((blk_cell (O12.out.blk (i := 1) rfl) 2).trans rfl), (keepCell (K12.out.trans KeepS.drew) YY.out.1 HBK.out), (keepCell (K12.out.trans KeepS.drew) YY.out.2.1 HBK.out), (keepCell (K12.out.trans KeepS.drew) YY.out.2.2 HBK.out)⟩ (fun hHeld => ?_)
          obtain ⟨w13, hw_⟩ : ∃ W, W = w10.drew := ⟨_, rfl⟩
          have o_ := O12.out.drew
          have k_ : KeepS N1 w10 w10.drew := KeepS.drew
          rw [← hw_] at o_ k_ hHeld ⊢
          clear hw_
          have O13 : Aside0 (Own N1 w13 [ObjC ga C (L ++ [(rd_T31 l0 x)]), cells gx #[.int .i64 (rd_T31 l0 x).f0, .int .i64 (rd_T31 l0 x).f1, .slice A3 (rd_T31 l0 x).f2.length c3] 31, nrow k31 31 (.slice A5 L.length c5) L, emp]) := ⟨o_⟩
          have K13 : Aside0 (KeepS N1 w10 w13) := ⟨K12.out.trans k_⟩
          have HRG_13 : Aside0 (Kd.F k47 w13 N1 A9 (rd_T31 l0 x).f2.length (rd_T31 l0 x).f2) := ⟨keepF HRG_12.out k_⟩
          have HRK_13 : Aside0 (Kd.F k47 w13 N1 A3 (rd_T31 l0 x).f2.length (rd_T31 l0 x).f2) := ⟨keepF HRK_12.out k_⟩
          clear c12_1_0 f12_1_0 c12_1_1 f12_1_1 c12_1_2 f12_1_2 O12 K12 HRG_12 HRK_12
          have c13_1_0 : w13.cell? ⟨gx, 0, none⟩ = some (.int .i64 (rd_T31 l0 x).f0) := (blk_cell (O13.out.blk (i := 1) rfl) 0).trans rfl
          have f13_1_0 : w13.frozen? ⟨gx, 0, none⟩ = false := blk_frozen (O13.out.blk (i := 1) rfl) 0
          have c13_1_1 : w13.cell? ⟨gx, 1, none⟩ = some (.int .i64 (rd_T31 l0 x).f1) := (blk_cell (O13.out.blk (i := 1) rfl) 1).trans rfl
          have f13_1_1 : w13.frozen? ⟨gx, 1, none⟩ = false := blk_frozen (O13.out.blk (i := 1) rfl) 1
          have c13_1_2 : w13.cell? ⟨gx, 2, none⟩ = some (.slice A3 (rd_T31 l0 x).f2.length c3) := (blk_cell (O13.out.blk (i := 1) rfl) 2).trans rfl
          have f13_1_2 : w13.frozen? ⟨gx, 2, none⟩ = false := blk_frozen (O13.out.blk (i := 1) rfl) 2
          clear o_ k_
          refine pure_ (i := 0) (N := some 51) (v := ?_) (a' := ?_) #[true, false, false, false, false, false, false, false, false, false, false, false, false, false, false, false, false, false, false, false, false, false, false, false, false, false, false, false, false, false, false] rfl rfl (by kernel_rfl) (fun _ _ _ h => h) (Or.inl ⟨by rfl, ?_⟩) ?_ ?_
          rotate_left
          · intro w'
            go_simp
            with_reducible rfl
          rotate_left
          · simp only [Act.put, List.setIfInBounds_toArray, List.set_cons_zero, List.set_cons_succ, i64_w, i32_w]
            rfl
          refine pure_ (i := 1) (N := some 52) (v := ?_) (a' := ?_) #[true, true, false, false, false, false, false, false, false, false, false, false, false, false, false, false, false, false, false, false, false, false, false, false, false, false, false, false, false, false, false] rfl rfl (by kernel_rfl) (fun _ _ _ h => h) (Or.inl ⟨by rfl, ?_⟩) ?_ ?_
          rotate_left
          · intro w'
            go_simp
            with_reducible rfl
          rotate_left
          · simp only [Act.put, List.setIfInBounds_toArray, List.set_cons_zero, List.set_cons_succ, i64_w, i32_w]
            rfl
          refine pure_ (i := 2) (N := some 53) (v := ?_) (a' := ?_) #[true, true, true, false, false, false, false, false, false, false, false, false, false, false, false, false, false, false, false, false, false, false, false, false, false, false, false, false, false, false, false] rfl rfl (by kernel_rfl) (fun _ _ _ h => h) (Or.inl ⟨by rfl, ?_⟩) ?_ ?_
          rotate_left
          · intro w'
            go_simp
            with_reducible rfl
          rotate_left
          · simp only [Act.put, List.setIfInBounds_toArray, List.set_cons_zero, List.set_cons_succ, i64_w, i32_w]
            rfl
          refine pure_ (i := 3) (N := some 54) (v := undef) (a' := ?_) #[true, true, true, true, false, false, false, false, false, false, false, false, false, false, false, false, false, false, false, false, false, false, false, false, false, false, false, false, false, false, false] rfl rfl (by kernel_rfl) (fun _ _ _ h => h) (Or.inr ⟨by rfl, rfl⟩) ?_ ?_
          rotate_left
          · simp only [Act.put, List.setIfInBounds_toArray, List.set_cons_zero, List.set_cons_succ, i64_w, i32_w]
            rfl
          refine pure_ (i := 4) (N := some 55) (v := undef) (a' := ?_) #[true, true, true, true, true, false, false, false, false, false, false, false, false, false, false, false, false, false, false, false, false, false, false, false, false, false, false, false, false, false, false] rfl rfl (by kernel_rfl) (fun _ _ _ h => h) (Or.inr ⟨by rfl, rfl⟩) ?_ ?_
          rotate_left
          · simp only [Act.put, List.setIfInBounds_toArray, List.set_cons_zero, List.set_cons_succ, i64_w, i32_w]
            rfl
          refine pure_ (i := 5) (N := some 56) (v := undef) (a' := ?_) #[true, true, true, true, true, true, false, false, false, false, false, false, false, false, false, false, false, false, false, false, false, false, false, false, false, false, false, false, false, false, false] rfl rfl (by kernel_rfl) (fun _ _ _ h => h) (Or.inr ⟨by rfl, rfl⟩) ?_ ?_
          rotate_left
          · simp only [Act.put, List.setIfInBounds_toArray, List.set_cons_zero, List.set_cons_succ, i64_w, i32_w]
            rfl
          refine pure_ (i := 6) (N := some 57) (v := undef) (a' := ?_) #[true, true, true, true, true, true, true, false, false, false, false, false, false, false, false, false, false, false, false, false, false, false, false, false, false, false, false, false, false, false, false] rfl rfl (by kernel_rfl) (fun _ _ _ h => h) (Or.inr ⟨by rfl, rfl⟩) ?_ ?_
          rotate_left
          · simp only [Act.put, List.setIfInBounds_toArray, List.set_cons_zero, List.set_cons_succ, i64_w, i32_w]
            rfl
          refine pure_ (i := 7) (N := some 58) (v := undef) (a' := ?_) #[true, true, true, true, true, true, true, true, false, false, false, false, false, false, false, false, false, false, false, false, false, false, false, false, false, false, false, false, false, false, false] rfl rfl (by kernel_rfl) (fun _ _ _ h => h) (Or.inr ⟨by rfl, rfl⟩) ?_ ?_
          rotate_left
          · simp only [Act.put, List.setIfInBounds_toArray, List.set_cons_zero, List.set_cons_succ, i64_w, i32_w]
            rfl
          refine pure_ (i := 8) (N := some 59) (v := ?_) (a' := ?_) #[true, true, true, true, true, true, true, true, true, false, false, false, false, false, false, false, false, false, false, false, false, false, false, false, false, false, false, false, false, false, false] rfl rfl (by kernel_rfl) (fun _ _ _ h => h) (Or.inl ⟨by rfl, ?_⟩) ?_ ?_
          rotate_left
          · intro w'
            go_simp
            with_reducible rfl
          rotate_left
          · simp only [Act.put, List.setIfInBounds_toArray, List.set_cons_zero, List.set_cons_succ, i64_w, i32_w]
            rfl
          refine pure_ (i := 9) (N := some 60) (v := ?_) (a' := ?_) #[true, true, true, true, true, true, true, true, true, true, false, false, false, false, false, false, false, false, false, false, false, false, false, false, false, false, false, false, false, false, false] rfl rfl (by kernel_rfl) (fun _ _ _ h => h) (Or.inl ⟨by rfl, ?_⟩) ?_ ?_
          rotate_left
          · intro w'
            go_simp
            with_reducible rfl
          rotate_left
          · simp only [Act.put, List.setIfInBounds_toArray, List.set_cons_zero, List.set_cons_succ, i64_w, i32_w]
            rfl
          refine pure_ (i := 10) (N := some 61) (v := ?_) (a' := ?_) #[true, true, true, true, true, true, true, true, true, true, true, false, false, false, false, false, false, false, false, false, false, false, false, false, false, false, false, false, false, false, false] rfl rfl (by kernel_rfl) (fun _ _ _ h => h) (Or.inl ⟨by rfl, ?_⟩) ?_ ?_
          rotate_left
          · intro w'
            go_simp
            with_reducible rfl
          rotate_left
          · simp only [Act.put, List.setIfInBounds_toArray, List.set_cons_zero, List.set_cons_succ, i64_w, i32_w]
            rfl
          refine pure_ (i := 11) (N := some 62) (v := ?_) (a' := ?_) #[true, true, true, true, true, true, true, true, true, true, true, true, false, false, false, false, false, false, false, false, false, false, false, false, false, false, false, false, false, false, false] rfl rfl (by kernel_rfl) (fun _ _ _ h => h) (Or.inl ⟨by rfl, ?_⟩) ?_ ?_
          rotate_left
          · intro w'
            go_simp
            with_reducible rfl
          rotate_left
          · simp only [Act.put, List.setIfInBounds_toArray, List.set_cons_zero, List.set_cons_succ, i64_w, i32_w]
            rfl
          refine pure_ (i := 12) (N := some 63) (v := ?_) (a' := ?_) #[true, true, true, true, true, true, true, true, true, true, true, true, true, false, false, false, false, false, false, false, false, false, false, false, false, false, false, false, false, false, false] rfl rfl (by kernel_rfl) (fun _ _ _ h => h) (Or.inl ⟨by rfl, ?_⟩) ?_ ?_
          rotate_left
          · intro w'
            go_simp
            with_reducible rfl
          rotate_left
          · simp only [Act.put, List.setIfInBounds_toArray, List.set_cons_zero, List.set_cons_succ, i64_w, i32_w]
            rfl
          refine pure_ (i := 13) (N := some 64) (v := ?_) (a' := ?_) #[true, true, true, true, true, true, true, true, true, true, true, true, true, true, false, false, false, false, false, false, false, false, false, false, false, false, false, false, false, false, false] rfl rfl (by kernel_rfl) (fun _ _ _ h => h) (Or.inl ⟨by rfl, ?_⟩) ?_ ?_
          rotate_left
          · intro w'
            go_simp
            with_reducible rfl
          rotate_left
          · simp only [Act.put, List.setIfInBounds_toArray, List.set_cons_zero, List.set_cons_succ, i64_w, i32_w]
            rfl
          refine pure_ (i := 14) (N := some 65) (v := ?_) (a' := ?_) #[true, true, true, true, true, true, true, true, true, true, true, true, true, true, true, false, false, false, false, false, false, false, false, false, false, false, false, false, false, false, false] rfl rfl (by kernel_rfl) (fun _ _ _ h => h) (Or.inl ⟨by rfl, ?_⟩) ?_ ?_
          rotate_left
          · intro w'
            go_simp
            with_reducible rfl
          rotate_left
          · simp only [Act.put, List.setIfInBounds_toArray, List.set_cons_zero, List.set_cons_succ, i64_w, i32_w]
            rfl
          refine pure_ (i := 15) (N := some 66) (v := ?_) (a' := ?_) #[true, true, true, true, true, true, true, true, true, true, true, true, true, true, true, true, false, false, false, false, false, false, false, false, false, false, false, false, false, false, false] rfl rfl (by kernel_rfl) (fun _ _ _ h => h) (Or.inl ⟨by rfl, ?_⟩) ?_ ?_
          rotate_left
          · intro w'
            go_simp
            with_reducible rfl
          rotate_left
          · simp only [Act.put, List.setIfInBounds_toArray, List.set_cons_zero, List.set_cons_succ, i64_w, i32_w]
            rfl
          refine pure_ (i := 16) (N := some 67) (v := ?_) (a' := ?_) #[true, true, true, true, true, true, true, true, true, true, true, true, true, true, true, true, true, false, false, false, false, false, false, false, false, false, false, false, false, false, false] rfl rfl (by kernel_rfl) (fun _ _ _ h => h) (Or.inl ⟨by rfl, ?_⟩) ?_ ?_
          rotate_left
          · intro w'
            go_simp
            with_reducible rfl
          rotate_left
          · simp only [Act.put, List.setIfInBounds_toArray, List.set_cons_zero, List.set_cons_succ, i64_w, i32_w]
            rfl
          refine pure_ (i := 17) (N := some 68) (v := ?_) (a' := ?_) #[true, true, true, true, true, true, true, true, true, true, true, true, true, true, true, true, true, true, false, false, false, false, false, false, false, false, false, false, false, false, false] rfl rfl (by kernel_rfl) (fun _ _ _ h => h) (Or.inl ⟨by rfl, ?_⟩) ?_ ?_
          rotate_left
          · intro w'
            go_simp
            with_reducible rfl
          rotate_left
          · simp only [Act.put, List.setIfInBounds_toArray, List.set_cons_zero, List.set_cons_succ, i64_w, i32_w]
            rfl
          refine pure_ (i := 18) (N := some 69) (v := ?_) (a' := ?_) #[true, true, true, true, true, true, true, true, true, true, true, true, true, true, true, true, true, true, true, false, false, false, false, false, false, false, false, false, false, false, false] rfl rfl (by kernel_rfl) (fun _ _ _ h => h) (Or.inl ⟨by rfl, ?_⟩) ?_ ?_
          rotate_left
          · intro w'
            go_simp
            with_reducible rfl
          rotate_left
          · simp only [Act.put, List.setIfInBounds_toArray, List.set_cons_zero, List.set_cons_succ, i64_w, i32_w]
            rfl
          refine pure_ (i := 19) (N := some 70) (v := ?_) (a' := ?_) #[true, true, true, true, true, true, true, true, true, true, true, true, true, true, true, true, true, true, true, true, false, false, false, false, false, false, false, false, false, false, false] rfl rfl (by kernel_rfl) (fun _ _ _ h => h) (Or.inl ⟨by rfl, ?_⟩) ?_ ?_
          rotate_left
          · intro w'
            go_simp
            with_reducible rfl
          rotate_left
          · simp only [Act.put, List.setIfInBounds_toArray, List.set_cons_zero, List.set_cons_succ, i64_w, i32_w]
            rfl
          refine pure_ (i := 20) (N := some 71) (v := ?_) (a' := ?_) #[true, true, true, true, true, true, true, true, true, true, true, true, true, true, true, true, true, true, true, true, true, false, false, false, false, false, false, false, false, false, false] rfl rfl (by kernel_rfl) (fun _ _ _ h => h) (Or.inl ⟨by rfl, ?_⟩) ?_ ?_
          rotate_left
          · intro w'
            go_simp
            with_reducible rfl
          rotate_left
          · simp only [Act.put, List.setIfInBounds_toArray, List.set_cons_zero, List.set_cons_succ, i64_w, i32_w]
            rfl
          refine pure_ (i := 21) (N := some 72) (v := ?_) (a' := ?_) #[true, true, true, true, true, true, true, true, true, true, true, true, true, true, true, true, true, true, true, true, true, true, false, false, false, false, false, false, false, false, false] rfl rfl (by kernel_rfl) (fun _ _ _ h => h) (Or.inl ⟨by rfl, ?_⟩) ?_ ?_
          rotate_left
          · intro w'
            go_simp
            with_reducible rfl
          rotate_left
          · simp only [Act.put, List.setIfInBounds_toArray, List.set_cons_zero, List.set_cons_succ, i64_w, i32_w]
            rfl
          refine pure_ (i := 22) (N := some 73) (v := ?_) (a' := ?_) #[true, true, true, true, true, true, true, true, true, true, true, true, true, true, true, true, true, true, true, true, true, true, true, false, false, false, false, false, false, false, false] rfl rfl (by kernel_rfl) (fun _ _ _ h => h) (Or.inl ⟨by rfl, ?_⟩) ?_ ?_
          rotate_left
          · intro w'
            go_simp
            with_reducible rfl
          rotate_left
          · simp only [Act.put, List.setIfInBounds_toArray, List.set_cons_zero, List.set_cons_succ, i64_w, i32_w]
            rfl
          refine pure_ (i := 23) (N := some 74) (v := ?_) (a' := ?_) #[true, true, true, true, true, true, true, true, true, true, true, true, true, true, true, true, true, true, true, true, true, true, true, true, false, false, false, false, false, false, false] rfl rfl (by kernel_rfl) (fun _ _ _ h => h) (Or.inl ⟨by rfl, ?_⟩) ?_ ?_
          rotate_left
          · intro w'
            go_simp
            with_reducible rfl
          rotate_left
          · simp only [Act.put, List.setIfInBounds_toArray, List.set_cons_zero, List.set_cons_succ, i64_w, i32_w]
            rfl
          refine take_ (i := 24) (N := some 75) (v := ?_) (a' := ?_) #[true, true, true, true, true, true, true, true, true, true, true, true, true, true, true, true, true, true, true, true, true, true, true, true, true, false, false, false, false, false, false] rfl rfl (by kernel_rfl) (fun _ _ _ h => h) (Or.inl ⟨by rfl, ?_⟩) hHeld ?_ ?_
          rotate_left
          · rintro w' ⟨s0, s1, s2, s3, s4, s5⟩
            go_simp
            with_reducible rfl
          rotate_left
          · simp only [Act.put, List.setIfInBounds_toArray, List.set_cons_zero, List.set_cons_succ, i64_w, i32_w]
            rfl
          refine take_ (i := 25) (N := some 76) (v := ?_) (a' := ?_) #[true, true, true, true, true, true, true, true, true, true, true, true, true, true, true, true, true, true, true, true, true, true, true, true, true, true, false, false, false, false, false] rfl rfl (by kernel_rfl) (fun _ _ _ h => h) (Or.inl ⟨by rfl, ?_⟩) hHeld ?_ ?_
          rotate_left
          · rintro w' ⟨s0, s1, s2, s3, s4, s5⟩
            go_simp
            with_reducible rfl
          rotate_left
          · simp only [Act.put, List.setIfInBounds_toArray, List.set_cons_zero, List.set_cons_succ, i64_w, i32_w]
            rfl
          refine one_ (i := 26) (N := some 77) #[true, true, true, true, true, true, true, true, true, true, true, true, true, true, true, true, true, true, true, true, true, true, true, true, true, true, true, false, false, false, false] rfl rfl (by kernel_rfl) (by decide) (fun K_ hK_ => ?_)
          refine goes_ Try.func19 (by kernel_rfl) rfl #[.agg #[.int .i64 (rd_T31 l0 x).f0, .int .i64 (rd_T31 l0 x).f1, .slice A9 (rd_T31 l0 x).f2.length c9], .agg #[.int .i64 (rd_T31 l0 x).f0, .int .i64 (rd_T31 l0 x).f1, .slice A3 (rd_T31 l0 x).f2.length c3]] (by rfl) rfl rfl (by (try simp only [List.map_toArray, List.map_cons, List.map_nil]); first | done | rfl) ?_
          refine (chapbookref07_Same.calls 40 (rd_T31 l0 x).f0 (rd_T31 l0 x).f1 _ _ (rd_T31 l0 x).f2 (rd_T31 l0 x).f0 (rd_T31 l0 x).f1 _ _ (rd_T31 l0 x).f2 true _ (Kd.F_now HRG_13.out) HC9.out (Kd.F_now HRK_13.out) HC3.out (psame 40 _ _ _ (by have := HU20.out; omega) (by have := HU20.out; omega))).mono ?_
          rintro e_ w14 ⟨rfl, hb_⟩
          refine ⟨_, rfl, ?_⟩
          have o_ := O13.out.below hb_
          have k_ := KeepS.of_below (N := N1) hb_
          have O14 : Aside0 (Own N1 w14 [ObjC ga C (L ++ [(rd_T31 l0 x)]), cells gx #[.int .i64 (rd_T31 l0 x).f0, .int .i64 (rd_T31 l0 x).f1, .slice A3 (rd_T31 l0 x).f2.length c3] 31, nrow k31 31 (.slice A5 L.length c5) L, emp]) := ⟨o_⟩
          have K14 : Aside0 (KeepS N1 w10 w14) := ⟨K13.out.trans k_⟩
          have HRG_14 : Aside0 (Kd.F k47 w14 N1 A9 (rd_T31 l0 x).f2.length (rd_T31 l0 x).f2) := ⟨keepF HRG_13.out k_⟩
          have HRK_14 : Aside0 (Kd.F k47 w14 N1 A3 (rd_T31 l0 x).f2.length (rd_T31 l0 x).f2) := ⟨keepF HRK_13.out k_⟩
          clear c13_1_0 f13_1_0 c13_1_1 f13_1_1 c13_1_2 f13_1_2 O13 K13 HRG_13 HRK_13
          have c14_1_0 : w14.cell? ⟨gx, 0, none⟩ = some (.int .i64 (rd_T31 l0 x).f0) := (blk_cell (O14.out.blk (i := 1) rfl) 0).trans rfl
          have f14_1_0 : w14.frozen? ⟨gx, 0, none⟩ = false := blk_frozen (O14.out.blk (i := 1) rfl) 0
          have c14_1_1 : w14.cell? ⟨gx, 1, none⟩ = some (.int .i64 (rd_T31 l0 x).f1) := (blk_cell (O14.out.blk (i := 1) rfl) 1).trans rfl
          have f14_1_1 : w14.frozen? ⟨gx, 1, none⟩ = false := blk_frozen (O14.out.blk (i := 1) rfl) 1
          have c14_1_2 : w14.cell? ⟨gx, 2, none⟩ = some (.slice A3 (rd_T31 l0 x).f2.length c3) := (blk_cell (O14.out.blk (i := 1) rfl) 2).trans rfl
          have f14_1_2 : w14.frozen? ⟨gx, 2, none⟩ = false := blk_frozen (O14.out.blk (i := 1) rfl) 2
          clear o_ k_ hb_
          clear hHeld
          refine hK_.out _ _ ⟨((blk_cell (O14.out.blk (i := 1) rfl) 0).trans rfl), ((blk_cell (O14.out.blk (i := 1) rfl) 1).trans rfl), ((blk_cell (O14.out.blk (i := 1) rfl) 2).trans rfl), (keepCell K14.out YY.out.1 HBK.out), (keepCell K14.out YY.out.2.1 HBK.out), (keepCell K14.out YY.out.2.2 HBK.out)⟩ (fun hHeld => ?_)
          clear hK_ K_
          refine norm_ (a' := ?_) ?_ ?_
          rotate_left
          · simp only [Act.put, List.setIfInBounds_toArray, List.set_cons_zero, List.set_cons_succ, i64_w, i32_w]
            rfl
          refine pure_ (i := 27) (N := some 78) (v := ?_) (a' := ?_) #[true, true, true, true, true, true, true, true, true, true, true, true, true, true, true, true, true, true, true, true, true, true, true, true, true, true, true, true, false, false, false] rfl rfl (by kernel_rfl) (fun _ _ _ h => h) (Or.inl ⟨by rfl, ?_⟩) ?_ ?_
          rotate_left
          · intro w'
            go_simp
            with_reducible rfl
          rotate_left
          · simp only [Act.put, List.setIfInBounds_toArray, List.set_cons_zero, List.set_cons_succ, i64_w, i32_w]
            rfl
          refine pure_ (i := 28) (N := some 79) (v := ?_) (a' := ?_) #[true, true, true, true, true, true, true, true, true, true, true, true, true, true, true, true, true, true, true, true, true, true, true, true, true, true, true, true, true, false, false] rfl rfl (by kernel_rfl) (fun _ _ _ h => h) (Or.inl ⟨by rfl, ?_⟩) ?_ ?_
          rotate_left
          · intro w'
            go_simp
            with_reducible rfl
          rotate_left
          · simp only [Act.put, List.setIfInBounds_toArray, List.set_cons_zero, List.set_cons_succ, i64_w, i32_w]
            rfl
          refine pure_ (i := 29) (N := some 80) (v := ?_) (a' := ?_) #[true, true, true, true, true, true, true, true, true, true, true, true, true, true, true, true, true, true, true, true, true, true, true, true, true, true, true, true, true, true, false] rfl rfl (by kernel_rfl) (fun _ _ _ h => h) (Or.inl ⟨by rfl, ?_⟩) ?_ ?_
          rotate_left
          · intro w'
            go_simp
            with_reducible rfl
          rotate_left
          · simp only [Act.put, List.setIfInBounds_toArray, List.set_cons_zero, List.set_cons_succ, i64_w, i32_w]
            rfl
          refine pure_ (i := 30) (N := some 81) (v := ?_) (a' := ?_) #[true, true, true, true, true, true, true, true, true, true, true, true, true, true, true, true, true, true, true, true, true, true, true, true, true, true, true, true, true, true, true] rfl rfl (by kernel_rfl) (fun _ _ _ h => h) (Or.inl ⟨by rfl, ?_⟩) ?_ ?_
          rotate_left
          · intro w'
            go_simp
            with_reducible rfl
          rotate_left
          · simp only [Act.put, List.setIfInBounds_toArray, List.set_cons_zero, List.set_cons_succ, i64_w, i32_w]
            rfl
          refine done_ (by kernel_rfl) ?_
          clear hHeld
          go_wp2
          go_roundw
          case rel =>
            obtain ⟨hb_, hk_⟩ := HBACK.out _ _ (by simp) K14.out O14.out
            exact ⟨x + 1, (L ++ [(rd_T31 l0 x)]), by have := HX.out; omega, by have := HX.out; omega, int_eq (by unfold wrap64; have := HX.out; have := HL40.out; omega), ⟨by have := HI.out.1; have := HX.out; simp; omega, HG2.out⟩, ⟨hb_.pick1 (a := 0) rfl⟩, ⟨K10.out.trans hk_⟩⟩
          case measure => have := HX.out; simp [intOf]; omega
        · have HE := Aside0.mk he
          obtain ⟨E, hE⟩ : ∃ E, E = addE C L (rd_T31 l0 x) := ⟨_, rfl⟩
          have HE2 := Aside0.mk hE.symm
          have HE3 : Aside0 (E ≠ 0) := ⟨by rw [hE]; exact he⟩
          have hz : (E == 0) = false := beq_eq_false_iff_ne.2 HE3.out
          have hz2 : (E != 0) = true := by rw [bne_iff_ne]; exact HE3.out
          clear hE
          have hll : decide ((L.length : Int) < (L.length : Int)) = false := decide_eq_false (by omega)
          have hlb : ((L.length : Int) != (L.length : Int)) = false := by simp
          clear he hlt hx0 hx1
          go_wp2_with (first | ((with_reducible refine gate_dst (N := 7) rfl ?_); refine own_box rfl (D := 7) rfl (cs := #[.int .i64 0, .int .i64 0, .slice none 0 0]) (t := 31) ?hr O4.out ?_; (case hr => first | (go_simp; done) | (go_simp; rfl)); intro gx w5 o_ k_; have O5 : Aside0 (Own N w5 [ObjC ga C L, cells gx #[.int .i64 0, .int .i64 0, .slice none 0 0] 31]) := ⟨o_⟩; have K5 : Aside0 (KeepS N w w5) := ⟨K4.out.trans k_⟩; have HRI_5 : Aside0 (Kd.F k47 w5 N A3 (rd_T31 l0 x).f2.length (rd_T31 l0 x).f2) := ⟨keepF HRI_4.out k_⟩; clear O4 K4 HRI_4; have c5_1_0 : w5.cell? ⟨gx, 0, none⟩ = some (.int .i64 0) := (blk_cell (O5.out.blk (i := 1) rfl) 0).trans rfl; have f5_1_0 : w5.frozen? ⟨gx, 0, none⟩ = false := blk_frozen (O5.out.blk (i := 1) rfl) 0; have c5_1_1 : w5.cell? ⟨gx, 1, none⟩ = some (.int .i64 0) := (blk_cell (O5.out.blk (i := 1) rfl) 1).trans rfl; have f5_1_1 : w5.frozen? ⟨gx, 1, none⟩ = false := blk_frozen (O5.out.blk (i := 1) rfl) 1; have c5_1_2 : w5.cell? ⟨gx, 2, none⟩ = some (.slice none 0 0) := (blk_cell (O5.out.blk (i := 1) rfl) 2).trans rfl; have f5_1_2 : w5.frozen? ⟨gx, 2, none⟩ = false := blk_frozen (O5.out.blk (i := 1) rfl) 2; clear o_ k_) | ((with_reducible refine gate_store (t := 31) (p := 7) rfl ?_); refine own_store rfl rfl rfl (w1 := (World.setCell (World.setCell (World.setCell w5 ⟨gx, 0, none⟩ (.int .i64 (rd_T31 l0 x).f0)) ⟨gx, 1, none⟩ (.int .i64 (rd_T31 l0 x).f1)) ⟨gx, 2, none⟩ (.slice A3 (rd_T31 l0 x).f2.length c3))) (N := N) (l' := [ObjC ga C L, cells gx #[.int .i64 (rd_T31 l0 x).f0, .int .i64 (rd_T31 l0 x).f1, .slice A3 (rd_T31 l0 x).f2.length c3] 31]) ?hr ?ho ?hk ?_; (case hr => first | (go_simp; done) | (go_simp; rfl)); (case ho => exact (((O5.out.set (i := 1) rfl 0 (.int .i64 (rd_T31 l0 x).f0)).set (i := 1) rfl 1 (.int .i64 (rd_T31 l0 x).f1)).set (i := 1) rfl 2 (.slice A3 (rd_T31 l0 x).f2.length c3))); (case hk => exact (((KeepS.setCell (O5.out.far (i := 1) rfl) (.int .i64 (rd_T31 l0 x).f0)).trans (KeepS.setCell (O5.out.far (i := 1) rfl) (.int .i64 (rd_T31 l0 x).f1))).trans (KeepS.setCell (O5.out.far (i := 1) rfl) (.slice A3 (rd_T31 l0 x).f2.length c3)))); intro w6 o_ k_; have O6 : Aside0 (Own N w6 [ObjC ga C L, cells gx #[.int .i64 (rd_T31 l0 x).f0, .int .i64 (rd_T31 l0 x).f1, .slice A3 (rd_T31 l0 x).f2.length c3] 31]) := ⟨o_⟩; have K6 : Aside0 (KeepS N w w6) := ⟨K5.out.trans k_⟩; have HRI_6 : Aside0 (Kd.F k47 w6 N A3 (rd_T31 l0 x).f2.length (rd_T31 l0 x).f2) := ⟨keepF HRI_5.out k_⟩; clear c5_1_0 f5_1_0 c5_1_1 f5_1_1 c5_1_2 f5_1_2 O5 K5 HRI_5; have c6_1_0 : w6.cell? ⟨gx, 0, none⟩ = some (.int .i64 (rd_T31 l0 x).f0) := (blk_cell (O6.out.blk (i := 1) rfl) 0).trans rfl; have f6_1_0 : w6.frozen? ⟨gx, 0, none⟩ = false := blk_frozen (O6.out.blk (i := 1) rfl) 0; have c6_1_1 : w6.cell? ⟨gx, 1, none⟩ = some (.int .i64 (rd_T31 l0 x).f1) := (blk_cell (O6.out.blk (i := 1) rfl) 1).trans rfl; have f6_1_1 : w6.frozen? ⟨gx, 1, none⟩ = false := blk_frozen (O6.out.blk (i := 1) rfl) 1; have c6_1_2 : w6.cell? ⟨gx, 2, none⟩ = some (.slice A3 (rd_T31 l0 x).f2.length c3) := (blk_cell (O6.out.blk (i := 1) rfl) 2).trans rfl; have f6_1_2 : w6.frozen? ⟨gx, 2, none⟩ = false := blk_frozen (O6.out.blk (i := 1) rfl) 2; clear o_ k_) | ((with_reducible refine gate_callee (f := 17) rfl ?_); refine goesL_ (some 31) rfl rfl Try.func17 (by kernel_rfl) rfl #[.pointer (some ⟨ga, 0, none⟩)] rfl (by (try simp only [List.map_toArray, List.map_cons, List.map_nil]); first | done | rfl) ?_; obtain ⟨N_, on_, nn_, rr_, bb_⟩ := O6.out.frame1 (i := 0) rfl; refine (All_g on_ HLL.out HI.out.2).mono ?_; rintro e_ w7 ⟨A5, c5, rfl, oo_, kk_⟩; obtain ⟨o_, k_⟩ := bb_ _ _ _ kk_ oo_; refine ⟨_, rfl, ?_⟩; have O7 : Aside0 (Own N w7 [ObjC ga C L, cells gx #[.int .i64 (rd_T31 l0 x).f0, .int .i64 (rd_T31 l0 x).f1, .slice A3 (rd_T31 l0 x).f2.length c3] 31, nrow k31 31 (.slice A5 L.length c5) L]) := ⟨o_⟩; have K7 : Aside0 (KeepS N w w7) := ⟨K6.out.trans k_⟩; have HRI_7 : Aside0 (Kd.F k47 w7 N A3 (rd_T31 l0 x).f2.length (rd_T31 l0 x).f2) := ⟨keepF HRI_6.out k_⟩; clear c6_1_0 f6_1_0 c6_1_1 f6_1_1 c6_1_2 f6_1_2 O6 K6 HRI_6; have c7_1_0 : w7.cell? ⟨gx, 0, none⟩ = some (.int .i64 (rd_T31 l0 x).f0) := (blk_cell (O7.out.blk (i := 1) rfl) 0).trans rfl; have f7_1_0 : w7.frozen? ⟨gx, 0, none⟩ = false := blk_frozen (O7.out.blk (i := 1) rfl) 0; have c7_1_1 : w7.cell? ⟨gx, 1, none⟩ = some (.int .i64 (rd_T31 l0 x).f1) := (blk_cell (O7.out.blk (i := 1) rfl) 1).trans rfl; have f7_1_1 : w7.frozen? ⟨gx, 1, none⟩ = false := blk_frozen (O7.out.blk (i := 1) rfl) 1; have c7_1_2 : w7.cell? ⟨gx, 2, none⟩ = some (.slice A3 (rd_T31 l0 x).f2.length c3) := (blk_cell (O7.out.blk (i := 1) rfl) 2).trans rfl; have f7_1_2 : w7.frozen? ⟨gx, 2, none⟩ = false := blk_frozen (O7.out.blk (i := 1) rfl) 2; clear o_ k_ oo_ kk_ on_ nn_ rr_ bb_) | ((with_reducible refine gate_callee (f := 13) rfl ?_); refine goesL_ (some 34) rfl rfl Try.func13 (by kernel_rfl) rfl #[.pointer (some ⟨ga, 0, none⟩), .agg #[.int .i64 (rd_T31 l0 x).f0, .int .i64 (rd_T31 l0 x).f1, .slice A3 (rd_T31 l0 x).f2.length c3]] rfl (by (try simp only [List.map_toArray, List.map_cons, List.map_nil]); first | done | rfl) ?_; obtain ⟨N_, on_, nn_, rr_, bb_⟩ := O7.out.frame1 (i := 0) rfl; have hr_ := Kd.F_mono HRI_7.out nn_; refine (Add_n A3 c3 (rd_T31 l0 x).f0 (rd_T31 l0 x).f1 (rd_T31 l0 x).f2 on_ hr_ HC3.out HLL.out HU.out HI.out.2 E HE2.out HE3.out).mono ?_; rintro e_ w8 ⟨rfl, oo_, kk_⟩; obtain ⟨o_, k_⟩ := bb_ _ _ _ kk_ oo_; refine ⟨_, rfl, ?_⟩; have O8 : Aside0 (Own N w8 [ObjC ga C L, cells gx #[.int .i64 (rd_T31 l0 x).f0, .int .i64 (rd_T31 l0 x).f1, .slice A3 (rd_T31 l0 x).f2.length c3] 31, nrow k31 31 (.slice A5 L.length c5) L]) := ⟨o_⟩; have K8 : Aside0 (KeepS N w w8) := ⟨K7.out.trans k_⟩; have HRI_8 : Aside0 (Kd.F k47 w8 N A3 (rd_T31 l0 x).f2.length (rd_T31 l0 x).f2) := ⟨keepF HRI_7.out k_⟩; clear c7_1_0 f7_1_0 c7_1_1 f7_1_1 c7_1_2 f7_1_2 O7 K7 HRI_7; have c8_1_0 : w8.cell? ⟨gx, 0, none⟩ = some (.int .i64 (rd_T31 l0 x).f0) := (blk_cell (O8.out.blk (i := 1) rfl) 0).trans rfl; have f8_1_0 : w8.frozen? ⟨gx, 0, none⟩ = false := blk_frozen (O8.out.blk (i := 1) rfl) 0; have c8_1_1 : w8.cell? ⟨gx, 1, none⟩ = some (.int .i64 (rd_T31 l0 x).f1) := (blk_cell (O8.out.blk (i := 1) rfl) 1).trans rfl; have f8_1_1 : w8.frozen? ⟨gx, 1, none⟩ = false := blk_frozen (O8.out.blk (i := 1) rfl) 1; have c8_1_2 : w8.cell? ⟨gx, 2, none⟩ = some (.slice A3 (rd_T31 l0 x).f2.length c3) := (blk_cell (O8.out.blk (i := 1) rfl) 2).trans rfl; have f8_1_2 : w8.frozen? ⟨gx, 2, none⟩ = false := blk_frozen (O8.out.blk (i := 1) rfl) 2; clear o_ k_ oo_ kk_ on_ nn_ rr_ bb_ hr_) | ((with_reducible refine gate_callee (f := 17) rfl ?_); refine goesL_ (some 36) rfl rfl Try.func17 (by kernel_rfl) rfl #[.pointer (some ⟨ga, 0, none⟩)] rfl (by (try simp only [List.map_toArray, List.map_cons, List.map_nil]); first | done | rfl) ?_; obtain ⟨N_, on_, nn_, rr_, bb_⟩ := O8.out.frame1 (i := 0) rfl; refine (All_n L.length rfl on_ HLL.out HI.out.2).mono ?_; rintro e_ w9 ⟨A6, c6, rfl, oo_, kk_⟩; obtain ⟨o_, k_⟩ := bb_ _ _ _ kk_ oo_; refine ⟨_, rfl, ?_⟩; have O9 : Aside0 (Own N w9 [ObjC ga C L, cells gx #[.int .i64 (rd_T31 l0 x).f0, .int .i64 (rd_T31 l0 x).f1, .slice A3 (rd_T31 l0 x).f2.length c3] 31, nrow k31 31 (.slice A5 L.length c5) L, nrow k31 31 (.slice A6 L.length c6) L]) := ⟨o_⟩; have K9 : Aside0 (KeepS N w w9) := ⟨K8.out.trans k_⟩; have HRI_9 : Aside0 (Kd.F k47 w9 N A3 (rd_T31 l0 x).f2.length (rd_T31 l0 x).f2) := ⟨keepF HRI_8.out k_⟩; clear c8_1_0 f8_1_0 c8_1_1 f8_1_1 c8_1_2 f8_1_2 O8 K8 HRI_8; have c9_1_0 : w9.cell? ⟨gx, 0, none⟩ = some (.int .i64 (rd_T31 l0 x).f0) := (blk_cell (O9.out.blk (i := 1) rfl) 0).trans rfl; have f9_1_0 : w9.frozen? ⟨gx, 0, none⟩ = false := blk_frozen (O9.out.blk (i := 1) rfl) 0; have c9_1_1 : w9.cell? ⟨gx, 1, none⟩ = some (.int .i64 (rd_T31 l0 x).f1) := (blk_cell (O9.out.blk (i := 1) rfl) 1).trans rfl; have f9_1_1 : w9.frozen? ⟨gx, 1, none⟩ = false := blk_frozen (O9.out.blk (i := 1) rfl) 1; have c9_1_2 : w9.cell? ⟨gx, 2, none⟩ = some (.slice A3 (rd_T31 l0 x).f2.length c3) := (blk_cell (O9.out.blk (i := 1) rfl) 2).trans rfl; have f9_1_2 : w9.frozen? ⟨gx, 2, none⟩ = false := blk_frozen (O9.out.blk (i := 1) rfl) 2; clear o_ k_ oo_ kk_ on_ nn_ rr_ bb_; have hcut : ∀ W : World, (Instr.slice 22 (.slice A6 L.length c6) none (some (.int .i64 (L.length : Int))) none).run Try.prog W = .ok (.slice A6 L.length c6) W := (by obtain ⟨i0_, hi0_, _, _, _⟩ := info_parts infoR; intro W_; have q_ := cut_to 22 31 .i64 Try.underlying22 hi0_ A6 L.length c6 (L.length : Int) (by omega) (by omega) (O9.out.nreads (i := 3) rfl).2.1 W_; simpa using q_)) | ((with_reducible refine gate_callee (f := 16) rfl ?_); refine gate_guard (by rfl) ?_; refine goesL_ (some 48) rfl rfl Try.func16 (by kernel_rfl) rfl #[.slice A6 L.length c6, .slice A5 L.length c5] rfl (by (try simp only [List.map_toArray, List.map_cons, List.map_nil]); first | done | rfl) ?_; refine (chapbookref07_SameAll.calls 200 _ _ L _ _ L true _ (O9.out.nreads (i := 3) rfl).2.2 (O9.out.nreads (i := 3) rfl).2.1 (O9.out.nreads (i := 2) rfl).2.2 (O9.out.nreads (i := 2) rfl).2.1 (psameAll 8 200 L (by have := HLL.out; omega) (good_short HI.out.2) (by decide) (by have := HI.out.1; have := HL40.out; have := HX.out; omega))).mono ?_; rintro e_ w10 ⟨rfl, hb_⟩; refine ⟨_, rfl, ?_⟩; have o_ := O9.out.below hb_; have k_ := KeepS.of_below (N := N) hb_; have O10 : Aside0 (Own N w10 [ObjC ga C L, cells gx #[.int .i64 (rd_T31 l0 x).f0, .int .i64 (rd_T31 l0 x).f1, .slice A3 (rd_T31 l0 x).f2.length c3] 31, nrow k31 31 (.slice A5 L.length c5) L, nrow k31 31 (.slice A6 L.length c6) L]) := ⟨o_⟩; have K10 : Aside0 (KeepS N w w10) := ⟨K9.out.trans k_⟩; have HRI_10 : Aside0 (Kd.F k47 w10 N A3 (rd_T31 l0 x).f2.length (rd_T31 l0 x).f2) := ⟨keepF HRI_9.out k_⟩; clear c9_1_0 f9_1_0 c9_1_1 f9_1_1 c9_1_2 f9_1_2 O9 K9 HRI_9; have c10_1_0 : w10.cell? ⟨gx, 0, none⟩ = some (.int .i64 (rd_T31 l0 x).f0) := (blk_cell (O10.out.blk (i := 1) rfl) 0).trans rfl; have f10_1_0 : w10.frozen? ⟨gx, 0, none⟩ = false := blk_frozen (O10.out.blk (i := 1) rfl) 0; have c10_1_1 : w10.cell? ⟨gx, 1, none⟩ = some (.int .i64 (rd_T31 l0 x).f1) := (blk_cell (O10.out.blk (i := 1) rfl) 1).trans rfl; have f10_1_1 : w10.frozen? ⟨gx, 1, none⟩ = false := blk_frozen (O10.out.blk (i := 1) rfl) 1; have c10_1_2 : w10.cell? ⟨gx, 2, none⟩ = some (.slice A3 (rd_T31 l0 x).f2.length c3) := (blk_cell (O10.out.blk (i := 1) rfl) 2).trans rfl; have f10_1_2 : w10.frozen? ⟨gx, 2, none⟩ = false := blk_frozen (O10.out.blk (i := 1) rfl) 2; clear o_ k_ hb_))
          refine start_ (n := 31) (S := fun w' => w'.cell? ⟨gx, 0, none⟩ = some (.int .i64 (rd_T31 l0 x).f0) ∧ w'.cell? ⟨gx, 1, none⟩ = some (.int .i64 (rd_T31 l0 x).f1) ∧ w'.cell? ⟨gx, 2, none⟩ = some (.slice A3 (rd_T31 l0 x).f2.length c3)) (ds := []) #[false, false, false, false, false, false, false, false, false, false, false, false, false, false, false, false, false, false, false, false, false, false, false, false, false, false, false, false, false, false, false] (by kernel_rfl) rfl rfl ⟨((blk_cell (O10.out.blk (i := 1) rfl) 0).trans rfl), ((blk_cell (O10.out.blk (i := 1) rfl) 1).trans rfl), ((blk_cell (O10.out.blk (i := 1) rfl) 2).trans rfl)⟩ (fun hHeld => ?_)
          obtain ⟨w11, hw_⟩ : ∃ W, W = w10.drew := ⟨_, rfl⟩
          have o_ := O10.out.drew
          have k_ : KeepS N w10 w10.drew := KeepS.drew
          rw [← hw_] at o_ k_ hHeld ⊢
          clear hw_
          have O11 : Aside0 (Own N w11 [ObjC ga C L, cells gx #[.int .i64 (rd_T31 l0 x).f0, .int .i64 (rd_T31 l0 x).f1, .slice A3 (rd_T31 l0 x).f2.length c3] 31, nrow k31 31 (.slice A5 L.length c5) L, nrow k31 31 (.slice A6 L.length c6) L]) := ⟨o_⟩
          have K11 : Aside0 (KeepS N w w11) := ⟨K10.out.trans k_⟩
          have HRI_11 : Aside0 (Kd.F k47 w11 N A3 (rd_T31 l0 x).f2.length (rd_T31 l0 x).f2) := ⟨keepF HRI_10.out k_⟩
          clear c10_1_0 f10_1_0 c10_1_1 f10_1_1 c10_1_2 f10_1_2 O10 K10 HRI_10
          have c11_1_0 : w11.cell? ⟨gx, 0, none⟩ = some (.int .i64 (rd_T31 l0 x).f0) := (blk_cell (O11.out.blk (i := 1) rfl) 0).trans rfl
          have f11_1_0 : w11.frozen? ⟨gx, 0, none⟩ = false := blk_frozen (O11.out.blk (i := 1) rfl) 0
          have c11_1_1 : w11.cell? ⟨gx, 1, none⟩ = some (.int .i64 (rd_T31 l0 x).f1) := (blk_cell (O11.out.blk (i := 1) rfl) 1).trans rfl
          have f11_1_1 : w11.frozen? ⟨gx, 1, none⟩ = false := blk_frozen (O11.out.blk (i := 1) rfl) 1
          have c11_1_2 : w11.cell? ⟨gx, 2, none⟩ = some (.slice A3 (rd_T31 l0 x).f2.length c3) := (blk_cell (O11.out.blk (i := 1) rfl) 2).trans rfl
          have f11_1_2 : w11.frozen? ⟨gx, 2, none⟩ = false := blk_frozen (O11.out.blk (i := 1) rfl) 2
          clear o_ k_
          refine pure_ (i := 0) (N := some 51) (v := ?_) (a' := ?_) #[true, false, false, false, false, false, false, false, false, false, false, false, false, false, false, false, false, false, false, false, false, false, false, false, false, false, false, false, false, false, false] rfl rfl (by kernel_rfl) (fun _ _ _ h => h) (Or.inl ⟨by rfl, ?_⟩) ?_ ?_
          rotate_left
          · intro w'
            go_simp
            with_reducible rfl
          rotate_left
          · simp only [Act.put, List.setIfInBounds_toArray, List.set_cons_zero, List.set_cons_succ, i64_w, i32_w]
            rfl
          refine pure_ (i := 1) (N := some 52) (v := ?_) (a' := ?_) #[true, true, false, false, false, false, false, false, false, false, false, false, false, false, false, false, false, false, false, false, false, false, false, false, false, false, false, false, false, false, false] rfl rfl (by kernel_rfl) (fun _ _ _ h => h) (Or.inl ⟨by rfl, ?_⟩) ?_ ?_
          rotate_left
          · intro w'
            go_simp
            with_reducible rfl
          rotate_left
          · simp only [Act.put, List.setIfInBounds_toArray, List.set_cons_zero, List.set_cons_succ, i64_w, i32_w]
            rfl
          refine pure_ (i := 2) (N := some 53) (v := ?_) (a' := ?_) #[true, true, true, false, false, false, false, false, false, false, false, false, false, false, false, false, false, false, false, false, false, false, false, false, false, false, false, false, false, false, false] rfl rfl (by kernel_rfl) (fun _ _ _ h => h) (Or.inl ⟨by rfl, ?_⟩) ?_ ?_
          rotate_left
          · intro w'
            go_simp
            with_reducible rfl
          rotate_left
          · simp only [Act.put, List.setIfInBounds_toArray, List.set_cons_zero, List.set_cons_succ, i64_w, i32_w]
            rfl
          refine pure_ (i := 3) (N := some 54) (v := ?_) (a' := ?_) #[true, true, true, true, false, false, false, false, false, false, false, false, false, false, false, false, false, false, false, false, false, false, false, false, false, false, false, false, false, false, false] rfl rfl (by kernel_rfl) (fun _ _ _ h => h) (Or.inl ⟨by rfl, ?_⟩) ?_ ?_
          rotate_left
          · intro w'
            go_simp
            with_reducible rfl
          rotate_left
          · simp only [Act.put, List.setIfInBounds_toArray, List.set_cons_zero, List.set_cons_succ, i64_w, i32_w]
            rfl
          refine pure_ (i := 4) (N := some 55) (v := ?_) (a' := ?_) #[true, true, true, true, true, false, false, false, false, false, false, false, false, false, false, false, false, false, false, false, false, false, false, false, false, false, false, false, false, false, false] rfl rfl (by kernel_rfl) (fun _ _ _ h => h) (Or.inl ⟨by rfl, ?_⟩) ?_ ?_
          rotate_left
          · intro w'
            go_simp
            with_reducible rfl
          rotate_left
          · simp only [Act.put, List.setIfInBounds_toArray, List.set_cons_zero, List.set_cons_succ, i64_w, i32_w]
            rfl
          refine pure_ (i := 5) (N := some 56) (v := ?_) (a' := ?_) #[true, true, true, true, true, true, false, false, false, false, false, false, false, false, false, false, false, false, false, false, false, false, false, false, false, false, false, false, false, false, false] rfl rfl (by kernel_rfl) (fun _ _ _ h => h) (Or.inl ⟨by rfl, ?_⟩) ?_ ?_
          rotate_left
          · intro w'
            go_simp
            with_reducible rfl
          rotate_left
          · simp only [Act.put, List.setIfInBounds_toArray, List.set_cons_zero, List.set_cons_succ, i64_w, i32_w]
            rfl
          refine pure_ (i := 6) (N := some 57) (v := ?_) (a' := ?_) #[true, true, true, true, true, true, true, false, false, false, false, false, false, false, false, false, false, false, false, false, false, false, false, false, false, false, false, false, false, false, false] rfl rfl (by kernel_rfl) (fun _ _ _ h => h) (Or.inl ⟨by rfl, ?_⟩) ?_ ?_
          rotate_left
          · intro w'
            go_simp
            with_reducible rfl
          rotate_left
          · simp only [Act.put, List.setIfInBounds_toArray, List.set_cons_zero, List.set_cons_succ, i64_w, i32_w]
            rfl
          refine pure_ (i := 7) (N := some 58) (v := ?_) (a' := ?_) #[true, true, true, true, true, true, true, true, false, false, false, false, false, false, false, false, false, false, false, false, false, false, false, false, false, false, false, false, false, false, false] rfl rfl (by kernel_rfl) (fun _ _ _ h => h) (Or.inl ⟨by rfl, ?_⟩) ?_ ?_
          rotate_left
          · intro w'
            go_simp
            with_reducible rfl
          rotate_left
          · simp only [Act.put, List.setIfInBounds_toArray, List.set_cons_zero, List.set_cons_succ, i64_w, i32_w]
            rfl
          refine pure_ (i := 8) (N := some 59) (v := ?_) (a' := ?_) #[true, true, true, true, true, true, true, true, true, false, false, false, false, false, false, false, false, false, false, false, false, false, false, false, false, false, false, false, false, false, false] rfl rfl (by kernel_rfl) (fun _ _ _ h => h) (Or.inl ⟨by rfl, ?_⟩) ?_ ?_
          rotate_left
          · intro w'
            go_simp
            with_reducible rfl
          rotate_left
          · simp only [Act.put, List.setIfInBounds_toArray, List.set_cons_zero, List.set_cons_succ, i64_w, i32_w]
            rfl
          refine pure_ (i := 9) (N := some 60) (v := ?_) (a' := ?_) #[true, true, true, true, true, true, true, true, true, true, false, false, false, false, false, false, false, false, false, false, false, false, false, false, false, false, false, false, false, false, false] rfl rfl (by kernel_rfl) (fun _ _ _ h => h) (Or.inl ⟨by rfl, ?_⟩) ?_ ?_
          rotate_left
          · intro w'
            go_simp
            with_reducible rfl
          rotate_left
          · simp only [Act.put, List.setIfInBounds_toArray, List.set_cons_zero, List.set_cons_succ, i64_w, i32_w]
            rfl
          refine pure_ (i := 10) (N := some 61) (v := ?_) (a' := ?_) #[true, true, true, true, true, true, true, true, true, true, true, false, false, false, false, false, false, false, false, false, false, false, false, false, false, false, false, false, false, false, false] rfl rfl (by kernel_rfl) (fun _ _ _ h => h) (Or.inl ⟨by rfl, ?_⟩) ?_ ?_
          rotate_left
          · intro w'
            go_simp
            with_reducible rfl
          rotate_left
          · simp only [Act.put, List.setIfInBounds_toArray, List.set_cons_zero, List.set_cons_succ, i64_w, i32_w]
            rfl
          refine pure_ (i := 11) (N := some 62) (v := ?_) (a' := ?_) #[true, true, true, true, true, true, true, true, true, true, true, true, false, false, false, false, false, false, false, false, false, false, false, false, false, false, false, false, false, false, false] rfl rfl (by kernel_rfl) (fun _ _ _ h => h) (Or.inl ⟨by rfl, ?_⟩) ?_ ?_
          rotate_left
          · intro w'
            go_simp
            with_reducible rfl
          rotate_left
          · simp only [Act.put, List.setIfInBounds_toArray, List.set_cons_zero, List.set_cons_succ, i64_w, i32_w]
            rfl
          refine pure_ (i := 12) (N := some 63) (v := ?_) (a' := ?_) #[true, true, true, true, true, true, true, true, true, true, true, true, true, false, false, false, false, false, false, false, false, false, false, false, false, false, false, false, false, false, false] rfl rfl (by kernel_rfl) (fun _ _ _ h => h) (Or.inl ⟨by rfl, ?_⟩) ?_ ?_
          rotate_left
          · intro w'
            go_simp
            with_reducible rfl
          rotate_left
          · simp only [Act.put, List.setIfInBounds_toArray, List.set_cons_zero, List.set_cons_succ, i64_w, i32_w]
            rfl
          refine pure_ (i := 13) (N := some 64) (v := undef) (a' := ?_) #[true, true, true, true, true, true, true, true, true, true, true, true, true, true, false, false, false, false, false, false, false, false, false, false, false, false, false, false, false, false, false] rfl rfl (by kernel_rfl) (fun _ _ _ h => h) (Or.inr ⟨by rfl, rfl⟩) ?_ ?_
          rotate_left
          · simp only [Act.put, List.setIfInBounds_toArray, List.set_cons_zero, List.set_cons_succ, i64_w, i32_w]
            rfl
          refine pure_ (i := 14) (N := some 65) (v := undef) (a' := ?_) #[true, true, true, true, true, true, true, true, true, true, true, true, true, true, true, false, false, false, false, false, false, false, false, false, false, false, false, false, false, false, false] rfl rfl (by kernel_rfl) (fun _ _ _ h => h) (Or.inr ⟨by rfl, rfl⟩) ?_ ?_
          rotate_left
          · simp only [Act.put, List.setIfInBounds_toArray, List.set_cons_zero, List.set_cons_succ, i64_w, i32_w]
            rfl
          refine pure_ (i := 15) (N := some 66) (v := undef) (a' := ?_) #[true, true, true, true, true, true, true, true, true, true, true, true, true, true, true, true, false, false, false, false, false, false, false, false, false, false, false, false, false, false, false] rfl rfl (by kernel_rfl) (fun _ _ _ h => h) (Or.inr ⟨by rfl, rfl⟩) ?_ ?_
          rotate_left
          · simp only [Act.put, List.setIfInBounds_toArray, List.set_cons_zero, List.set_cons_succ, i64_w, i32_w]
            rfl
          refine pure_ (i := 16) (N := some 67) (v := undef) (a' := ?_) #[true, true, true, true, true, true, true, true, true, true, true, true, true, true, true, true, true, false, false, false, false, false, false, false, false, false, false, false, false, false, false] rfl rfl (by kernel_rfl) (fun _ _ _ h => h) (Or.inr ⟨by rfl, rfl⟩) ?_ ?_
          rotate_left
          · simp only [Act.put, List.setIfInBounds_toArray, List.set_cons_zero, List.set_cons_succ, i64_w, i32_w]
            rfl
          refine pure_ (i := 17) (N := some 68) (v := undef) (a' := ?_) #[true, true, true, true, true, true, true, true, true, true, true, true, true, true, true, true, true, true, false, false, false, false, false, false, false, false, false, false, false, false, false] rfl rfl (by kernel_rfl) (fun _ _ _ h => h) (Or.inr ⟨by rfl, rfl⟩) ?_ ?_
          rotate_left
          · simp only [Act.put, List.setIfInBounds_toArray, List.set_cons_zero, List.set_cons_succ, i64_w, i32_w]
            rfl
          refine pure_ (i := 18) (N := some 69) (v := undef) (a' := ?_) #[true, true, true, true, true, true, true, true, true, true, true, true, true, true, true, true, true, true, true, false, false, false, false, false, false, false, false, false, false, false, false] rfl rfl (by kernel_rfl) (fun _ _ _ h => h) (Or.inr ⟨by rfl, rfl⟩) ?_ ?_
          rotate_left
          · simp only [Act.put, List.setIfInBounds_toArray, List.set_cons_zero, List.set_cons_succ, i64_w, i32_w]
            rfl
          refine pure_ (i := 19) (N := some 70) (v := undef) (a' := ?_) #[true, true, true, true, true, true, true, true, true, true, true, true, true, true, true, true, true, true, true, true, false, false, false, false, false, false, false, false, false, false, false] rfl rfl (by kernel_rfl) (fun _ _ _ h => h) (Or.inr ⟨by rfl, rfl⟩) ?_ ?_
          rotate_left
          · simp only [Act.put, List.setIfInBounds_toArray, List.set_cons_zero, List.set_cons_succ, i64_w, i32_w]
            rfl
          refine pure_ (i := 20) (N := some 71) (v := undef) (a' := ?_) #[true, true, true, true, true, true, true, true, true, true, true, true, true, true, true, true, true, true, true, true, true, false, false, false, false, false, false, false, false, false, false] rfl rfl (by kernel_rfl) (fun _ _ _ h => h) (Or.inr ⟨by rfl, rfl⟩) ?_ ?_
          rotate_left
          · simp only [Act.put, List.setIfInBounds_toArray, List.set_cons_zero, List.set_cons_succ, i64_w, i32_w]
            rfl
          refine pure_ (i := 21) (N := some 72) (v := undef) (a' := ?_) #[true, true, true, true, true, true, true, true, true, true, true, true, true, true, true, true, true, true, true, true, true, true, false, false, false, false, false, false, false, false, false] rfl rfl (by kernel_rfl) (fun _ _ _ h => h) (Or.inr ⟨by rfl, rfl⟩) ?_ ?_
          rotate_left
          · simp only [Act.put, List.setIfInBounds_toArray, List.set_cons_zero, List.set_cons_succ, i64_w, i32_w]
            rfl
          refine pure_ (i := 22) (N := some 73) (v := undef) (a' := ?_) #[true, true, true, true, true, true, true, true, true, true, true, true, true, true, true, true, true, true, true, true, true, true, true, false, false, false, false, false, false, false, false] rfl rfl (by kernel_rfl) (fun _ _ _ h => h) (Or.inr ⟨by rfl, rfl⟩) ?_ ?_
          rotate_left
          · simp only [Act.put, List.setIfInBounds_toArray, List.set_cons_zero, List.set_cons_succ, i64_w, i32_w]
            rfl
          refine pure_ (i := 23) (N := some 74) (v := undef) (a' := ?_) #[true, true, true, true, true, true, true, true, true, true, true, true, true, true, true, true, true, true, true, true, true, true, true, true, false, false, false, false, false, false, false] rfl rfl (by kernel_rfl) (fun _ _ _ h => h) (Or.inr ⟨by rfl, rfl⟩) ?_ ?_
          rotate_left
          · simp only [Act.put, List.setIfInBounds_toArray, List.set_cons_zero, List.set_cons_succ, i64_w, i32_w]
            rfl
          refine take_ (i := 24) (N := some 75) (v := undef) (a' := ?_) #[true, true, true, true, true, true, true, true, true, true, true, true, true, true, true, true, true, true, true, true, true, true, true, true, true, false, false, false, false, false, false] rfl rfl (by kernel_rfl) (fun _ _ _ h => h) (Or.inr ⟨by rfl, rfl⟩) hHeld ?_ ?_
          rotate_left
          · simp only [Act.put, List.setIfInBounds_toArray, List.set_cons_zero, List.set_cons_succ, i64_w, i32_w]
            rfl
          refine take_ (i := 25) (N := some 76) (v := undef) (a' := ?_) #[true, true, true, true, true, true, true, true, true, true, true, true, true, true, true, true, true, true, true, true, true, true, true, true, true, true, false, false, false, false, false] rfl rfl (by kernel_rfl) (fun _ _ _ h => h) (Or.inr ⟨by rfl, rfl⟩) hHeld ?_ ?_
          rotate_left
          · simp only [Act.put, List.setIfInBounds_toArray, List.set_cons_zero, List.set_cons_succ, i64_w, i32_w]
            rfl
          refine one_ (i := 26) (N := some 77) #[true, true, true, true, true, true, true, true, true, true, true, true, true, true, true, true, true, true, true, true, true, true, true, true, true, true, true, false, false, false, false] rfl rfl (by kernel_rfl) (by decide) (fun K_ hK_ => ?_)
          refine skipped_ (by rfl) ?_
          clear hHeld
          refine hK_.out _ _ ⟨((blk_cell (O11.out.blk (i := 1) rfl) 0).trans rfl), ((blk_cell (O11.out.blk (i := 1) rfl) 1).trans rfl), ((blk_cell (O11.out.blk (i := 1) rfl) 2).trans rfl)⟩ (fun hHeld => ?_)
          clear hK_ K_
          refine norm_ (a' := ?_) ?_ ?_
          rotate_left
          · simp only [Act.put, List.setIfInBounds_toArray, List.set_cons_zero, List.set_cons_succ, i64_w, i32_w]
            rfl
          refine pure_ (i := 27) (N := some 78) (v := undef) (a' := ?_) #[true, true, true, true, true, true, true, true, true, true, true, true, true, true, true, true, true, true, true, true, true, true, true, true, true, true, true, true, false, false, false] rfl rfl (by kernel_rfl) (fun _ _ _ h => h) (Or.inr ⟨by rfl, rfl⟩) ?_ ?_
          rotate_left
          · simp only [Act.put, List.setIfInBounds_toArray, List.set_cons_zero, List.set_cons_succ, i64_w, i32_w]
            rfl
          refine pure_ (i := 28) (N := some 79) (v := undef) (a' := ?_) #[true, true, true, true, true, true, true, true, true, true, true, true, true, true, true, true, true, true, true, true, true, true, true, true, true, true, true, true, true, false, false] rfl rfl (by kernel_rfl) (fun _ _ _ h => h) (Or.inr ⟨by rfl, rfl⟩) ?_ ?_
          rotate_left
          · simp only [Act.put, List.setIfInBounds_toArray, List.set_cons_zero, List.set_cons_succ, i64_w, i32_w]
            rfl
          refine pure_ (i := 29) (N := some 80) (v := ?_) (a' := ?_) #[true, true, true, true, true, true, true, true, true, true, true, true, true, true, true, true, true, true, true, true, true, true, true, true, true, true, true, true, true, true, false] rfl rfl (by kernel_rfl) (fun _ _ _ h => h) (Or.inl ⟨by rfl, ?_⟩) ?_ ?_
          rotate_left
          · intro w'
            go_simp
            with_reducible rfl
          rotate_left
          · simp only [Act.put, List.setIfInBounds_toArray, List.set_cons_zero, List.set_cons_succ, i64_w, i32_w]
            rfl
          refine pure_ (i := 30) (N := some 81) (v := ?_) (a' := ?_) #[true, true, true, true, true, true, true, true, true, true, true, true, true, true, true, true, true, true, true, true, true, true, true, true, true, true, true, true, true, true, true] rfl rfl (by kernel_rfl) (fun _ _ _ h => h) (Or.inl ⟨by rfl, ?_⟩) ?_ ?_
          rotate_left
          · intro w'
            go_simp
            with_reducible rfl
          rotate_left
          · simp only [Act.put, List.setIfInBounds_toArray, List.set_cons_zero, List.set_cons_succ, i64_w, i32_w]
            rfl
          refine done_ (by kernel_rfl) ?_
          clear hHeld
          go_wp2
          go_roundw
          case rel => exact ⟨x + 1, L, by have := HX.out; omega, by have := HX.out; omega, int_eq (by unfold wrap64; have := HX.out; have := HL40.out; omega), ⟨by have := HI.out.1; omega, HI.out.2⟩, ⟨O11.out.pick1 (a := 0) rfl⟩, K11⟩
          case measure => have := HX.out; simp [intOf]; omega
      · have hxe : x = (l0.length : Int) := by omega
        subst hxe
        have hd : decide ((l0.length : Int) < (l0.length : Int)) = false := decide_eq_false (Int.lt_irrefl _)
        clear hlt hx0 hx1 hF2 hLx
        have O5 : Aside0 (Own N wr [ObjC ga C L]) := ⟨OA.out⟩
        have K5 : Aside0 (KeepS N w wr) := ⟨KA.out⟩
        clear OA KA
        go_wp2
        go_ret
        exact ⟨rfl, K5.out.below (Nat.le_refl _) (fun k hk => by rw [HN.out]; exact hk)⟩
end Go.Proofs.Ytjmoncfgoaaekaa.J
