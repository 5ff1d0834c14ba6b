/- The law CommitPlays: of any rounds, one by one, just those are there that the document says, and each is told to be, or why not: a plain walk through its text. -/
import Derived.Test.YtjmoncfgoaaekaaYCommitPlaysC6
import Derived.Test.YtjmoncfgoaaekaaYCommitPlaysC8
namespace Go.Proofs.Ytjmoncfgoaaekaa.J
set_option linter.unusedSimpArgs false
set_option linter.unusedVariables false
open Go Go.RowKit Go.Proofs.YtjmoncfgoaaekaaW.PrintWords Go.Proofs.YtjmoncfgoaaekaaW.PrintLast Go.Proofs.YtjmoncfgoaaekaaW.PrintMore Go.Proofs.Ytjmoncfgoaaekaa.Q Go.Proofs.Ytjmoncfgoaaekaa.Sep Go.Proofs.Ytjmoncfgoaaekaa.Pure
attribute [local go_sem] max2_int min2_int max_two min_two max_three min_three max_four min_four
def chapbooklaw14_CommitPlays.f (a0 : Int) (l1 : List Rnd) : Option Bool := some true
def PlI (N : Nat → Prop) (w : World) (l0 : List Rnd) (gj gm : Nat) (C : Int) (i : Value) (wr : World) : Prop := ∃ (x : Int) (L : List Rnd), 0 ≤ x ∧ x ≤ (l0.length : Int) ∧ i = .int .i64 x ∧ Aside0 ((L.length : Int) ≤ x ∧ Good C L) ∧ Aside0 (Own N wr [ObjC gj C L, ObjM gm C L]) ∧ Aside0 (KeepS N w wr)
theorem RAdd_y_m {N : Nat → Prop} {w : World} {g : Nat} {C : Int} {L : List Rnd} (m : Nat) (B : Option Addr) (c : Nat) (o n : Int) (ups : List Upd) (h : Own N w [ObjM g C L]) (hr : Kd.F k47 w N B ups.length ups) (hc : ups.length ≤ c) (hL : L.length ≤ 1000000) (hu : ups.length ≤ 1000000) (hg : Good C L) (hm : (L ++ [(⟨o, n, ups⟩ : Rnd)]).length = m) (he : addE C L ⟨o, n, ups⟩ = 0) :
    Calls Try.prog 14 #[.pointer (some ⟨g, 0, none⟩), .agg #[.int .i64 o, .int .i64 n, .slice B ups.length c]] w fun e_ w' => ∃ A2 c2, e_ = .returned (.int .i64 0) ∧ m ≤ c2 ∧ Own N w' [cells g #[.int .i64 C, .slice A2 m c2] 37, nrow k31 31 (.slice A2 m c2) (L ++ [(⟨o, n, ups⟩ : Rnd)])] ∧ KeepS N w w' := by
  subst hm
  exact RAdd_y B c o n ups h hr hc hL hu hg he
theorem RAdd_n_m {N : Nat → Prop} {w : World} {g : Nat} {C : Int} {L : List Rnd} (m : Nat) (B : Option Addr) (c : Nat) (o n : Int) (ups : List Upd) (h : Own N w [ObjM g C L]) (hr : Kd.F k47 w N B ups.length ups) (hc : ups.length ≤ c) (hL : L.length ≤ 1000000) (hu : ups.length ≤ 1000000) (hg : Good C L) (hm : L.length = m) (E : Int) (he : addE C L ⟨o, n, ups⟩ = E) (hE : E ≠ 0) :
    Calls Try.prog 14 #[.pointer (some ⟨g, 0, none⟩), .agg #[.int .i64 o, .int .i64 n, .slice B ups.length c]] w fun e_ w' => ∃ A2 c2, e_ = .returned (.int .i64 E) ∧ m ≤ c2 ∧ Own N w' [cells g #[.int .i64 C, .slice A2 m c2] 37, nrow k31 31 (.slice A2 m c2) L] ∧ KeepS N w w' := by
  subst hm
  exact RAdd_n B c o n ups h hr hc hL hu hg E he hE
set_option maxHeartbeats 16000000 in
set_option maxRecDepth 100000 in
theorem chapbooklaw14_CommitPlays.calls (a0 : Int) (A1 : Option Addr) (c1 : Nat) (l1 : List Rnd) (r : Bool) (w : World) (hr1 : Kd.C k31 w A1 l1.length l1) (hc1 : l1.length ≤ c1) (h : chapbooklaw14_CommitPlays.f a0 l1 = some r) :
    Calls Try.prog 3 #[.int .i64 a0, .slice A1 l1.length c1] w fun e_ w' => e_ = .returned (.bool r) ∧ Below w.heap.size w w' := by
  obtain rfl : true = r := Option.some.inj h
  obtain ⟨A0, eA_⟩ : ∃ A0, A0 = A1 := ⟨_, rfl⟩
  obtain ⟨c0, ec_⟩ : ∃ c0, c0 = c1 := ⟨_, rfl⟩
  obtain ⟨l0, el_⟩ : ∃ l0, l0 = l1 := ⟨_, rfl⟩
  subst eA_
  subst ec_
  subst el_
  have hr0 := hr1
  have hc0 := hc1
  clear hr1 hc1
  obtain ⟨N, hN⟩ : ∃ N : Nat → Prop, N = fun k => k < w.heap.size := ⟨_, rfl⟩
  have HN := Aside0.mk hN
  have HRL0 : Aside0 (Kd.F k31 w N A0 l0.length l0) := ⟨by rw [hN]; exact Kd.C_F heapR hr0⟩
  have HR0 := Aside0.mk hr0
  have HC0 := Aside0.mk hc0
  obtain ⟨C, hC⟩ : ∃ C, C = mn (mx a0 1) 64 := ⟨_, rfl⟩
  have HCE := Aside0.mk hC.symm
  have HCR : Aside0 (1 ≤ C ∧ C ≤ 64) := ⟨by rw [hC]; exact C_range _⟩
  clear hC
  have O0 : Aside0 (Own N w []) := ⟨Own.start_ (fun k hk => by rw [hN] at hk; exact hk)⟩
  have K0 : Aside0 (KeepS N w w) := ⟨KeepS.refl _ _⟩
  clear hN hr0 hc0
  obtain ⟨b, hgr, hgb⟩ := great14_ok l0
  have HGR := Aside0.mk hgr
  have HGB := Aside0.mk hgb
  clear hgr hgb h
  cases b with
  | true =>
    go_enter Try.func3, Try.ntmps3
    go_wp2_with (first | ((with_reducible refine gate_callee (f := 9) rfl ?_); refine goesL_ (some 10) rfl rfl Try.func9 (by kernel_rfl) rfl #[.int .i64 a0] rfl (by (try simp only [List.map_toArray, List.map_cons, List.map_nil]); first | done | rfl) ?_; obtain ⟨N_, on_, nn_, rr_, bb_⟩ := O0.out.frame0; refine (New_n a0 C HCE.out on_).mono ?_; rintro e_ w1 ⟨gj, rfl, oo_, kk_⟩; obtain ⟨o_, k_⟩ := bb_ _ _ kk_ oo_; refine ⟨_, rfl, ?_⟩; have O1 : Aside0 (Own N w1 [ObjC gj C []]) := ⟨o_⟩; have K1 : Aside0 (KeepS N w w1) := ⟨K0.out.trans k_⟩; clear O0 K0; clear o_ k_ oo_ kk_ on_ nn_ rr_ bb_) | ((with_reducible refine gate_callee (f := 10) rfl ?_); refine goesL_ (some 12) rfl rfl Try.func10 (by kernel_rfl) rfl #[.int .i64 a0] rfl (by (try simp only [List.map_toArray, List.map_cons, List.map_nil]); first | done | rfl) ?_; obtain ⟨N_, on_, nn_, rr_, bb_⟩ := O1.out.frame0; refine (RNew a0 C HCE.out on_).mono ?_; rintro e_ w2 ⟨gm, rfl, oo_, kk_⟩; obtain ⟨o_, k_⟩ := bb_ _ _ kk_ oo_; refine ⟨_, rfl, ?_⟩; have O2 : Aside0 (Own N w2 [ObjC gj C [], ObjM gm C []]) := ⟨o_⟩; have K2 : Aside0 (KeepS N w w2) := ⟨K1.out.trans k_⟩; clear O1 K1; clear o_ k_ oo_ kk_ on_ nn_ rr_ bb_) | ((with_reducible refine gate_callee (f := 11) rfl ?_); refine goesL_ (some 13) rfl rfl Try.func11 (by kernel_rfl) rfl #[] rfl (by (try simp only [List.map_toArray, List.map_cons, List.map_nil]); first | done | rfl) ?_; refine (awake _).mono ?_; rintro e_ w3 ⟨rfl, hb_⟩; refine ⟨_, rfl, ?_⟩; have o_ := O2.out.below hb_; have k_ := KeepS.of_below (N := N) hb_; have O3 : Aside0 (Own N w3 [ObjC gj C [], ObjM gm C []]) := ⟨o_⟩; have K3 : Aside0 (KeepS N w w3) := ⟨K2.out.trans k_⟩; clear O2 K2; clear o_ k_ hb_) | ((with_reducible refine gate_callee (f := 12) rfl ?_); refine gate_guard (by rfl) ?_; refine goesL_ (some 21) rfl rfl Try.func12 (by kernel_rfl) rfl #[.slice A0 l0.length c0] rfl (by (try simp only [List.map_toArray, List.map_cons, List.map_nil]); first | done | rfl) ?_; refine (chapbookref07_GreatAll.calls 300 _ _ l0 true _ (Kd.C_below HR0.out (K3.out.below (Nat.le_refl _) (fun k hk => by rw [HN.out]; exact hk))) HC0.out HGR.out).mono ?_; rintro e_ w4 ⟨rfl, hb_⟩; refine ⟨_, rfl, ?_⟩; have o_ := O3.out.below hb_; have k_ := KeepS.of_below (N := N) hb_; have O4 : Aside0 (Own N w4 [ObjC gj C [], ObjM gm C []]) := ⟨o_⟩; have K4 : Aside0 (KeepS N w w4) := ⟨K3.out.trans k_⟩; clear O3 K3; clear o_ k_ hb_) | ((with_reducible refine gate_callee (f := 11) rfl ?_); refine goesL_ (some 23) rfl rfl Try.func11 (by kernel_rfl) rfl #[] rfl (by (try simp only [List.map_toArray, List.map_cons, List.map_nil]); first | done | rfl) ?_; refine (awake _).mono ?_; rintro e_ w5 ⟨rfl, hb_⟩; refine ⟨_, rfl, ?_⟩; have o_ := O4.out.below hb_; have k_ := KeepS.of_below (N := N) hb_; have O5 : Aside0 (Own N w5 [ObjC gj C [], ObjM gm C []]) := ⟨o_⟩; have K5 : Aside0 (KeepS N w w5) := ⟨K4.out.trans k_⟩; clear O4 K4; clear o_ k_ hb_))
    go_ret
    exact ⟨rfl, K5.out.below (Nat.le_refl _) (fun k hk => by rw [HN.out]; exact hk)⟩
  | false =>
    obtain ⟨hl40, hl20⟩ := HGB.out rfl
    have HL40 := Aside0.mk hl40
    have HL20 := Aside0.mk hl20
    clear hl40 hl20 HGB
    go_enter Try.func3, Try.ntmps3
    go_wp2_with (first | ((with_reducible refine gate_callee (f := 9) rfl ?_); refine goesL_ (some 10) rfl rfl Try.func9 (by kernel_rfl) rfl #[.int .i64 a0] rfl (by (try simp only [List.map_toArray, List.map_cons, List.map_nil]); first | done | rfl) ?_; obtain ⟨N_, on_, nn_, rr_, bb_⟩ := O0.out.frame0; refine (New_n a0 C HCE.out on_).mono ?_; rintro e_ w1 ⟨gj, rfl, oo_, kk_⟩; obtain ⟨o_, k_⟩ := bb_ _ _ kk_ oo_; refine ⟨_, rfl, ?_⟩; have O1 : Aside0 (Own N w1 [ObjC gj C []]) := ⟨o_⟩; have K1 : Aside0 (KeepS N w w1) := ⟨K0.out.trans k_⟩; clear O0 K0; clear o_ k_ oo_ kk_ on_ nn_ rr_ bb_) | ((with_reducible refine gate_callee (f := 10) rfl ?_); refine goesL_ (some 12) rfl rfl Try.func10 (by kernel_rfl) rfl #[.int .i64 a0] rfl (by (try simp only [List.map_toArray, List.map_cons, List.map_nil]); first | done | rfl) ?_; obtain ⟨N_, on_, nn_, rr_, bb_⟩ := O1.out.frame0; refine (RNew a0 C HCE.out on_).mono ?_; rintro e_ w2 ⟨gm, rfl, oo_, kk_⟩; obtain ⟨o_, k_⟩ := bb_ _ _ kk_ oo_; refine ⟨_, rfl, ?_⟩; have O2 : Aside0 (Own N w2 [ObjC gj C [], ObjM gm C []]) := ⟨o_⟩; have K2 : Aside0 (KeepS N w w2) := ⟨K1.out.trans k_⟩; clear O1 K1; clear o_ k_ oo_ kk_ on_ nn_ rr_ bb_) | ((with_reducible refine gate_callee (f := 11) rfl ?_); refine goesL_ (some 13) rfl rfl Try.func11 (by kernel_rfl) rfl #[] rfl (by (try simp only [List.map_toArray, List.map_cons, List.map_nil]); first | done | rfl) ?_; refine (awake _).mono ?_; rintro e_ w3 ⟨rfl, hb_⟩; refine ⟨_, rfl, ?_⟩; have o_ := O2.out.below hb_; have k_ := KeepS.of_below (N := N) hb_; have O3 : Aside0 (Own N w3 [ObjC gj C [], ObjM gm C []]) := ⟨o_⟩; have K3 : Aside0 (KeepS N w w3) := ⟨K2.out.trans k_⟩; clear O2 K2; clear o_ k_ hb_) | ((with_reducible refine gate_callee (f := 12) rfl ?_); refine gate_guard (by rfl) ?_; refine goesL_ (some 21) rfl rfl Try.func12 (by kernel_rfl) rfl #[.slice A0 l0.length c0] rfl (by (try simp only [List.map_toArray, List.map_cons, List.map_nil]); first | done | rfl) ?_; refine (chapbookref07_GreatAll.calls 300 _ _ l0 false _ (Kd.C_below HR0.out (K3.out.below (Nat.le_refl _) (fun k hk => by rw [HN.out]; exact hk))) HC0.out HGR.out).mono ?_; rintro e_ w4 ⟨rfl, hb_⟩; refine ⟨_, rfl, ?_⟩; have o_ := O3.out.below hb_; have k_ := KeepS.of_below (N := N) hb_; have O4 : Aside0 (Own N w4 [ObjC gj C [], ObjM gm C []]) := ⟨o_⟩; have K4 : Aside0 (KeepS N w w4) := ⟨K3.out.trans k_⟩; clear O3 K3; clear o_ k_ hb_))
    go_loopw [26] (fun i wr => PlI N w l0 gj gm C i wr) (fun i _ => l0.length - (intOf i).toNat)
    case atStart => exact ⟨0, [], by omega, by omega, rfl, ⟨by decide, good_nil _⟩, O4, K4⟩
    case round =>
      obtain ⟨x, L, hx0, hx1, rfl, HI, OA, KA⟩ := hrel
      have hF2 := keepF HRL0.out KA.out
      have hLx := HL40.out
      have HLL : Aside0 (L.length ≤ 1000000) := ⟨by have := HI.out.1; omega⟩
      by_cases hlt : x < (l0.length : Int)
      · obtain ⟨ad, A3, c3, e3, x0, x1, x2, hl3, hF3⟩ := at_F hF2 x hx0 hlt
        cases e3
        have HC3 := Aside0.mk hl3
        have HF3 := Aside0.mk hF3
        have hs2 : wrap64 (x + 1) = x + 1 := by unfold wrap64; omega
        have hp := eq_true hx0
        have hq := eq_true hlt
        have hd : decide (x < (l0.length : Int)) = true := decide_eq_true hlt
        have HX := Aside0.mk (And.intro hx0 hlt)
        have HU : Aside0 ((rd_T31 l0 x).f2.length ≤ 1000000) := ⟨Nat.le_trans (HL20.out x hx0 hlt) (by decide)⟩
        clear hF3 hF2 hl3
        have O5 : Aside0 (Own N wr [ObjC gj C L, ObjM gm C L]) := ⟨OA.out⟩
        have K5 : Aside0 (KeepS N w wr) := ⟨KA.out⟩
        have HRI_5 : Aside0 (Kd.F k47 wr N A3 (rd_T31 l0 x).f2.length (rd_T31 l0 x).f2) := ⟨HF3.out⟩
        clear OA KA HF3
        by_cases he : addE C L (rd_T31 l0 x) = 0
        · have HE := Aside0.mk he
          have hz3 : ((0 : Int) != 0) = false := by decide
          clear he hlt hx0 hx1
          obtain ⟨m, hm⟩ : ∃ m : Nat, m = (L ++ [(rd_T31 l0 x)]).length := ⟨_, rfl⟩
          have HM := Aside0.mk hm.symm
          have hmb : ((m : Int) != (m : Int)) = false := by simp
          clear hm
          go_wp2_with (first | ((with_reducible refine gate_dst (N := 8) rfl ?_); refine own_box rfl (D := 8) rfl (cs := #[.int .i64 0, .int .i64 0, .slice none 0 0]) (t := 31) ?hr O5.out ?_; (case hr => first | (go_simp; done) | (go_simp; rfl)); intro gx w6 o_ k_; have O6 : Aside0 (Own N w6 [ObjC gj C L, ObjM gm C L, cells gx #[.int .i64 0, .int .i64 0, .slice none 0 0] 31]) := ⟨o_⟩; have K6 : Aside0 (KeepS N w w6) := ⟨K5.out.trans k_⟩; have HRI_6 : Aside0 (Kd.F k47 w6 N A3 (rd_T31 l0 x).f2.length (rd_T31 l0 x).f2) := ⟨keepF HRI_5.out k_⟩; clear O5 K5 HRI_5; have c6_2_0 : w6.cell? ⟨gx, 0, none⟩ = some (.int .i64 0) := (blk_cell (O6.out.blk (i := 2) rfl) 0).trans rfl; have f6_2_0 : w6.frozen? ⟨gx, 0, none⟩ = false := blk_frozen (O6.out.blk (i := 2) rfl) 0; have c6_2_1 : w6.cell? ⟨gx, 1, none⟩ = some (.int .i64 0) := (blk_cell (O6.out.blk (i := 2) rfl) 1).trans rfl; have f6_2_1 : w6.frozen? ⟨gx, 1, none⟩ = false := blk_frozen (O6.out.blk (i := 2) rfl) 1; have c6_2_2 : w6.cell? ⟨gx, 2, none⟩ = some (.slice none 0 0) := (blk_cell (O6.out.blk (i := 2) rfl) 2).trans rfl; have f6_2_2 : w6.frozen? ⟨gx, 2, none⟩ = false := blk_frozen (O6.out.blk (i := 2) rfl) 2; clear o_ k_) | ((with_reducible refine gate_store (t := 31) (p := 8) rfl ?_); refine own_store rfl rfl rfl (w1 := (World.setCell (World.setCell (World.setCell w6 ⟨gx, 0, none⟩ (.int .i64 (rd_T31 l0 x).f0)) ⟨gx, 1, none⟩ (.int .i64 (rd_T31 l0 x).f1)) ⟨gx, 2, none⟩ (.slice A3 (rd_T31 l0 x).f2.length c3))) (N := N) (l' := [ObjC gj C L, ObjM gm C L, cells gx #[.int .i64 (rd_T31 l0 x).f0, .int .i64 (rd_T31 l0 x).f1, .slice A3 (rd_T31 l0 x).f2.length c3] 31]) ?hr ?ho ?hk ?_; (case hr => first | (go_simp; done) | (go_simp; rfl)); (case ho => exact (((O6.out.set (i := 2) rfl 0 (.int .i64 (rd_T31 l0 x).f0)).set (i := 2) rfl 1 (.int .i64 (rd_T31 l0 x).f1)).set (i := 2) rfl 2 (.slice A3 (rd_T31 l0 x).f2.length c3))); (case hk => exact (((KeepS.setCell (O6.out.far (i := 2) rfl) (.int .i64 (rd_T31 l0 x).f0)).trans (KeepS.setCell (O6.out.far (i := 2) rfl) (.int .i64 (rd_T31 l0 x).f1))).trans (KeepS.setCell (O6.out.far (i := 2) rfl) (.slice A3 (rd_T31 l0 x).f2.length c3)))); intro w7 o_ k_; have O7 : Aside0 (Own N w7 [ObjC gj C L, ObjM gm C L, cells gx #[.int .i64 (rd_T31 l0 x).f0, .int .i64 (rd_T31 l0 x).f1, .slice A3 (rd_T31 l0 x).f2.length c3] 31]) := ⟨o_⟩; have K7 : Aside0 (KeepS N w w7) := ⟨K6.out.trans k_⟩; have HRI_7 : Aside0 (Kd.F k47 w7 N A3 (rd_T31 l0 x).f2.length (rd_T31 l0 x).f2) := ⟨keepF HRI_6.out k_⟩; clear c6_2_0 f6_2_0 c6_2_1 f6_2_1 c6_2_2 f6_2_2 O6 K6 HRI_6; have c7_2_0 : w7.cell? ⟨gx, 0, none⟩ = some (.int .i64 (rd_T31 l0 x).f0) := (blk_cell (O7.out.blk (i := 2) rfl) 0).trans rfl; have f7_2_0 : w7.frozen? ⟨gx, 0, none⟩ = false := blk_frozen (O7.out.blk (i := 2) rfl) 0; have c7_2_1 : w7.cell? ⟨gx, 1, none⟩ = some (.int .i64 (rd_T31 l0 x).f1) := (blk_cell (O7.out.blk (i := 2) rfl) 1).trans rfl; have f7_2_1 : w7.frozen? ⟨gx, 1, none⟩ = false := blk_frozen (O7.out.blk (i := 2) rfl) 1; have c7_2_2 : w7.cell? ⟨gx, 2, none⟩ = some (.slice A3 (rd_T31 l0 x).f2.length c3) := (blk_cell (O7.out.blk (i := 2) rfl) 2).trans rfl; have f7_2_2 : w7.frozen? ⟨gx, 2, none⟩ = false := blk_frozen (O7.out.blk (i := 2) rfl) 2; clear o_ k_))
          refine start_ (n := 17) (S := fun w' => w'.cell? ⟨gx, 0, none⟩ = some (.int .i64 (rd_T31 l0 x).f0) ∧ w'.cell? ⟨gx, 1, none⟩ = some (.int .i64 (rd_T31 l0 x).f1) ∧ w'.cell? ⟨gx, 2, none⟩ = some (.slice A3 (rd_T31 l0 x).f2.length c3)) (ds := []) #[false, false, false, false, false, false, false, false, false, false, false, false, false, false, false, false, false] (by kernel_rfl) rfl rfl ⟨((blk_cell (O7.out.blk (i := 2) rfl) 0).trans rfl), ((blk_cell (O7.out.blk (i := 2) rfl) 1).trans rfl), ((blk_cell (O7.out.blk (i := 2) rfl) 2).trans rfl)⟩ (fun hHeld => ?_)
          obtain ⟨w8, hw_⟩ : ∃ W, W = w7.drew := ⟨_, rfl⟩
          have o_ := O7.out.drew
          have k_ : KeepS N w7 w7.drew := KeepS.drew
          rw [← hw_] at o_ k_ hHeld ⊢
          clear hw_
          have O8 : Aside0 (Own N w8 [ObjC gj C L, ObjM gm C L, cells gx #[.int .i64 (rd_T31 l0 x).f0, .int .i64 (rd_T31 l0 x).f1, .slice A3 (rd_T31 l0 x).f2.length c3] 31]) := ⟨o_⟩
          have K8 : Aside0 (KeepS N w w8) := ⟨K7.out.trans k_⟩
          have HRI_8 : Aside0 (Kd.F k47 w8 N A3 (rd_T31 l0 x).f2.length (rd_T31 l0 x).f2) := ⟨keepF HRI_7.out k_⟩
          clear c7_2_0 f7_2_0 c7_2_1 f7_2_1 c7_2_2 f7_2_2 O7 K7 HRI_7
          have c8_2_0 : w8.cell? ⟨gx, 0, none⟩ = some (.int .i64 (rd_T31 l0 x).f0) := (blk_cell (O8.out.blk (i := 2) rfl) 0).trans rfl
          have f8_2_0 : w8.frozen? ⟨gx, 0, none⟩ = false := blk_frozen (O8.out.blk (i := 2) rfl) 0
          have c8_2_1 : w8.cell? ⟨gx, 1, none⟩ = some (.int .i64 (rd_T31 l0 x).f1) := (blk_cell (O8.out.blk (i := 2) rfl) 1).trans rfl
          have f8_2_1 : w8.frozen? ⟨gx, 1, none⟩ = false := blk_frozen (O8.out.blk (i := 2) rfl) 1
          have c8_2_2 : w8.cell? ⟨gx, 2, none⟩ = some (.slice A3 (rd_T31 l0 x).f2.length c3) := (blk_cell (O8.out.blk (i := 2) rfl) 2).trans rfl
          have f8_2_2 : w8.frozen? ⟨gx, 2, none⟩ = false := blk_frozen (O8.out.blk (i := 2) rfl) 2
          clear o_ k_
          refine pure_ (i := 0) (N := some 30) (v := ?_) (a' := ?_) #[true, false, false, false, false, false, false, false, false, false, false, false, false, false, false, false, false] rfl rfl (by kernel_rfl) (fun _ _ _ h => h) (Or.inl ⟨by rfl, ?_⟩) ?_ ?_
          rotate_left
          · intro w'
            go_simp
            with_reducible rfl
          rotate_left
          · simp only [Act.put, List.setIfInBounds_toArray, List.set_cons_zero, List.set_cons_succ, i64_w, i32_w]
            rfl
          refine pure_ (i := 3) (N := some 33) (v := ?_) (a' := ?_) #[true, false, false, true, false, false, false, false, false, false, false, false, false, false, false, false, false] rfl rfl (by kernel_rfl) (fun _ _ _ h => h) (Or.inl ⟨by rfl, ?_⟩) ?_ ?_
          rotate_left
          · intro w'
            go_simp
            with_reducible rfl
          rotate_left
          · simp only [Act.put, List.setIfInBounds_toArray, List.set_cons_zero, List.set_cons_succ, i64_w, i32_w]
            rfl
          refine take_ (i := 1) (N := some 31) (v := ?_) (a' := ?_) #[true, true, false, true, false, false, false, false, false, false, false, false, false, false, false, false, false] rfl rfl (by kernel_rfl) (fun _ _ _ h => h) (Or.inl ⟨by rfl, ?_⟩) hHeld ?_ ?_
          rotate_left
          · rintro w' ⟨s0, s1, s2⟩
            go_simp
            with_reducible rfl
          rotate_left
          · simp only [Act.put, List.setIfInBounds_toArray, List.set_cons_zero, List.set_cons_succ, i64_w, i32_w]
            rfl
          refine take_ (i := 4) (N := some 34) (v := ?_) (a' := ?_) #[true, true, false, true, true, false, false, false, false, false, false, false, false, false, false, false, false] rfl rfl (by kernel_rfl) (fun _ _ _ h => h) (Or.inl ⟨by rfl, ?_⟩) hHeld ?_ ?_
          rotate_left
          · rintro w' ⟨s0, s1, s2⟩
            go_simp
            with_reducible rfl
          rotate_left
          · simp only [Act.put, List.setIfInBounds_toArray, List.set_cons_zero, List.set_cons_succ, i64_w, i32_w]
            rfl
          refine one_ (i := 2) (N := some 32) #[true, true, true, true, true, false, false, false, false, false, false, false, false, false, false, false, false] rfl rfl (by kernel_rfl) (by decide) (fun K_ hK_ => ?_)
          refine goes_ Try.func13 (by kernel_rfl) rfl #[.pointer (some ⟨gj, 0, none⟩), .agg #[.int .i64 (rd_T31 l0 x).f0, .int .i64 (rd_T31 l0 x).f1, .slice A3 (rd_T31 l0 x).f2.length c3]] (by rfl) rfl rfl (by (try simp only [List.map_toArray, List.map_cons, List.map_nil]); first | done | rfl) ?_
          obtain ⟨N_, on_, nn_, rr_, bb_⟩ := O8.out.frame1 (i := 0) rfl
          have hr_ := Kd.F_mono HRI_8.out nn_
          refine (Add_y A3 c3 (rd_T31 l0 x).f0 (rd_T31 l0 x).f1 (rd_T31 l0 x).f2 on_ hr_ HC3.out HLL.out HU.out HI.out.2 HE.out).mono ?_
          rintro e_ w9 ⟨rfl, oo_, kk_⟩
          obtain ⟨o_, k_⟩ := bb_ _ _ _ kk_ oo_
          refine ⟨_, rfl, ?_⟩
          have O9 : Aside0 (Own N w9 [ObjC gj C (L ++ [(rd_T31 l0 x)]), ObjM gm C L, cells gx #[.int .i64 (rd_T31 l0 x).f0, .int .i64 (rd_T31 l0 x).f1, .slice A3 (rd_T31 l0 x).f2.length c3] 31]) := ⟨o_⟩
          have K9 : Aside0 (KeepS N w w9) := ⟨K8.out.trans k_⟩
          have HRI_9 : Aside0 (Kd.F k47 w9 N A3 (rd_T31 l0 x).f2.length (rd_T31 l0 x).f2) := ⟨keepF HRI_8.out k_⟩
          clear c8_2_0 f8_2_0 c8_2_1 f8_2_1 c8_2_2 f8_2_2 O8 K8 HRI_8
          have c9_2_0 : w9.cell? ⟨gx, 0, none⟩ = some (.int .i64 (rd_T31 l0 x).f0) := (blk_cell (O9.out.blk (i := 2) rfl) 0).trans rfl
          have f9_2_0 : w9.frozen? ⟨gx, 0, none⟩ = false := blk_frozen (O9.out.blk (i := 2) rfl) 0
          have c9_2_1 : w9.cell? ⟨gx, 1, none⟩ = some (.int .i64 (rd_T31 l0 x).f1) := (blk_cell (O9.out.blk (i := 2) rfl) 1).trans rfl
          have f9_2_1 : w9.frozen? ⟨gx, 1, none⟩ = false := blk_frozen (O9.out.blk (i := 2) rfl) 1
          have c9_2_2 : w9.cell? ⟨gx, 2, none⟩ = some (.slice A3 (rd_T31 l0 x).f2.length c3) := (blk_cell (O9.out.blk (i := 2) rfl) 2).trans rfl
          have f9_2_2 : w9.frozen? ⟨gx, 2, none⟩ = false := blk_frozen (O9.out.blk (i := 2) rfl) 2
          clear o_ k_ oo_ kk_ on_ nn_ rr_ bb_ hr_
          clear hHeld
          refine hK_.out _ _ ⟨((blk_cell (O9.out.blk (i := 2) rfl) 0).trans rfl), ((blk_cell (O9.out.blk (i := 2) rfl) 1).trans rfl), ((blk_cell (O9.out.blk (i := 2) rfl) 2).trans rfl)⟩ (fun hHeld => ?_)
          clear hK_ K_
          refine norm_ (a' := ?_) ?_ ?_
          rotate_left
          · simp only [Act.put, List.setIfInBounds_toArray, List.set_cons_zero, List.set_cons_succ, i64_w, i32_w]
            rfl
          refine one_ (i := 5) (N := some 35) #[true, true, true, true, true, true, false, false, false, false, false, false, false, false, false, false, false] rfl rfl (by kernel_rfl) (by decide) (fun K_ hK_ => ?_)
          refine goes_ Try.func14 (by kernel_rfl) rfl #[.pointer (some ⟨gm, 0, none⟩), .agg #[.int .i64 (rd_T31 l0 x).f0, .int .i64 (rd_T31 l0 x).f1, .slice A3 (rd_T31 l0 x).f2.length c3]] (by rfl) rfl rfl (by (try simp only [List.map_toArray, List.map_cons, List.map_nil]); first | done | rfl) ?_
          obtain ⟨N_, on_, nn_, rr_, bb_⟩ := O9.out.frame1 (i := 1) rfl
          have hr_ := Kd.F_mono HRI_9.out nn_
          refine (RAdd_y_m m A3 c3 (rd_T31 l0 x).f0 (rd_T31 l0 x).f1 (rd_T31 l0 x).f2 on_ hr_ HC3.out HLL.out HU.out HI.out.2 HM.out HE.out).mono ?_
          rintro e_ w10 ⟨B5, d5, rfl, hcc_, oo_, kk_⟩
          obtain ⟨o_, k_⟩ := bb_ _ _ _ kk_ oo_
          refine ⟨_, rfl, ?_⟩
          have O10 : Aside0 (Own N w10 [ObjC gj C (L ++ [(rd_T31 l0 x)]), cells gm #[.int .i64 C, .slice B5 m d5] 37, cells gx #[.int .i64 (rd_T31 l0 x).f0, .int .i64 (rd_T31 l0 x).f1, .slice A3 (rd_T31 l0 x).f2.length c3] 31, nrow k31 31 (.slice B5 m d5) (L ++ [(rd_T31 l0 x)])]) := ⟨o_⟩
          have K10 : Aside0 (KeepS N w w10) := ⟨K9.out.trans k_⟩
          have HRI_10 : Aside0 (Kd.F k47 w10 N A3 (rd_T31 l0 x).f2.length (rd_T31 l0 x).f2) := ⟨keepF HRI_9.out k_⟩
          clear c9_2_0 f9_2_0 c9_2_1 f9_2_1 c9_2_2 f9_2_2 O9 K9 HRI_9
          have c10_2_0 : w10.cell? ⟨gx, 0, none⟩ = some (.int .i64 (rd_T31 l0 x).f0) := (blk_cell (O10.out.blk (i := 2) rfl) 0).trans rfl
          have f10_2_0 : w10.frozen? ⟨gx, 0, none⟩ = false := blk_frozen (O10.out.blk (i := 2) rfl) 0
          have c10_2_1 : w10.cell? ⟨gx, 1, none⟩ = some (.int .i64 (rd_T31 l0 x).f1) := (blk_cell (O10.out.blk (i := 2) rfl) 1).trans rfl
          have f10_2_1 : w10.frozen? ⟨gx, 1, none⟩ = false := blk_frozen (O10.out.blk (i := 2) rfl) 1
          have c10_2_2 : w10.cell? ⟨gx, 2, none⟩ = some (.slice A3 (rd_T31 l0 x).f2.length c3) := (blk_cell (O10.out.blk (i := 2) rfl) 2).trans rfl
          have f10_2_2 : w10.frozen? ⟨gx, 2, none⟩ = false := blk_frozen (O10.out.blk (i := 2) rfl) 2
          have c10_1_0 : w10.cell? ⟨gm, 0, none⟩ = some (.int .i64 C) := (blk_cell (O10.out.blk (i := 1) rfl) 0).trans rfl
          have f10_1_0 : w10.frozen? ⟨gm, 0, none⟩ = false := blk_frozen (O10.out.blk (i := 1) rfl) 0
          have c10_1_1 : w10.cell? ⟨gm, 1, none⟩ = some (.slice B5 m d5) := (blk_cell (O10.out.blk (i := 1) rfl) 1).trans rfl
          have f10_1_1 : w10.frozen? ⟨gm, 1, none⟩ = false := blk_frozen (O10.out.blk (i := 1) rfl) 1
          have n10_2_1 : gx ≠ gm := O10.out.ne (i := 2) (j := 1) rfl rfl (by decide)
          have n10_1_2 : gm ≠ gx := O10.out.ne (i := 1) (j := 2) rfl rfl (by decide)
          clear o_ k_ oo_ kk_ on_ nn_ rr_ bb_ hr_ hcc_
          clear hHeld
          refine hK_.out _ _ ⟨((blk_cell (O10.out.blk (i := 2) rfl) 0).trans rfl), ((blk_cell (O10.out.blk (i := 2) rfl) 1).trans rfl), ((blk_cell (O10.out.blk (i := 2) rfl) 2).trans rfl)⟩ (fun hHeld => ?_)
          clear hK_ K_
          refine norm_ (a' := ?_) ?_ ?_
          rotate_left
          · simp only [Act.put, List.setIfInBounds_toArray, List.set_cons_zero, List.set_cons_succ, i64_w, i32_w]
            rfl
          clear hHeld
          have hHeld : (fun w' : World => w'.cell? ⟨gm, 1, none⟩ = some (.slice B5 m d5) ∧ w'.cell? ⟨gx, 0, none⟩ = some (.int .i64 (rd_T31 l0 x).f0) ∧ w'.cell? ⟨gx, 1, none⟩ = some (.int .i64 (rd_T31 l0 x).f1) ∧ w'.cell? ⟨gx, 2, none⟩ = some (.slice A3 (rd_T31 l0 x).f2.length c3)) w10 := ⟨((blk_cell (O10.out.blk (i := 1) rfl) 1).trans rfl), ((blk_cell (O10.out.blk (i := 2) rfl) 0).trans rfl), ((blk_cell (O10.out.blk (i := 2) rfl) 1).trans rfl), ((blk_cell (O10.out.blk (i := 2) rfl) 2).trans rfl)⟩
          refine narrow_ (S2 := fun w' => w'.cell? ⟨gm, 1, none⟩ = some (.slice B5 m d5) ∧ w'.cell? ⟨gx, 0, none⟩ = some (.int .i64 (rd_T31 l0 x).f0) ∧ w'.cell? ⟨gx, 1, none⟩ = some (.int .i64 (rd_T31 l0 x).f1) ∧ w'.cell? ⟨gx, 2, none⟩ = some (.slice A3 (rd_T31 l0 x).f2.length c3)) (fun w_ h_ => h_.2) hHeld ?_
          simp only at hHeld
          refine pure_ (i := 6) (N := some 36) (v := ?_) (a' := ?_) #[true, true, true, true, true, true, true, false, false, false, false, false, false, false, false, false, false] rfl rfl (by kernel_rfl) (fun _ _ _ h => h) (Or.inl ⟨by rfl, ?_⟩) ?_ ?_
          rotate_left
          · intro w'
            go_simp
            with_reducible rfl
          rotate_left
          · simp only [Act.put, List.setIfInBounds_toArray, List.set_cons_zero, List.set_cons_succ, i64_w, i32_w]
            rfl
          refine pure_ (i := 7) (N := some 37) (v := ?_) (a' := ?_) #[true, true, true, true, true, true, true, true, false, false, false, false, false, false, false, false, false] rfl rfl (by kernel_rfl) (fun _ _ _ h => h) (Or.inl ⟨by rfl, ?_⟩) ?_ ?_
          rotate_left
          · intro w'
            go_simp
            with_reducible rfl
          rotate_left
          · simp only [Act.put, List.setIfInBounds_toArray, List.set_cons_zero, List.set_cons_succ, i64_w, i32_w]
            rfl
          refine pure_ (i := 8) (N := some 38) (v := ?_) (a' := ?_) #[true, true, true, true, true, true, true, true, true, false, false, false, false, false, false, false, false] rfl rfl (by kernel_rfl) (fun _ _ _ h => h) (Or.inl ⟨by rfl, ?_⟩) ?_ ?_
          rotate_left
          · intro w'
            go_simp
            with_reducible rfl
          rotate_left
          · simp only [Act.put, List.setIfInBounds_toArray, List.set_cons_zero, List.set_cons_succ, i64_w, i32_w]
            rfl
          refine pure_ (i := 10) (N := some 40) (v := ?_) (a' := ?_) #[true, true, true, true, true, true, true, true, true, false, true, false, false, false, false, false, false] rfl rfl (by kernel_rfl) (fun _ _ _ h => h) (Or.inl ⟨by rfl, ?_⟩) ?_ ?_
          rotate_left
          · intro w'
            go_simp
            with_reducible rfl
          rotate_left
          · simp only [Act.put, List.setIfInBounds_toArray, List.set_cons_zero, List.set_cons_succ, i64_w, i32_w]
            rfl
          refine pure_ (i := 11) (N := some 41) (v := ?_) (a' := ?_) #[true, true, true, true, true, true, true, true, true, false, true, true, false, false, false, false, false] rfl rfl (by kernel_rfl) (fun _ _ _ h => h) (Or.inl ⟨by rfl, ?_⟩) ?_ ?_
          rotate_left
          · intro w'
            go_simp
            with_reducible rfl
          rotate_left
          · simp only [Act.put, List.setIfInBounds_toArray, List.set_cons_zero, List.set_cons_succ, i64_w, i32_w]
            rfl
          refine pure_ (i := 12) (N := some 42) (v := ?_) (a' := ?_) #[true, true, true, true, true, true, true, true, true, false, true, true, true, false, false, false, false] rfl rfl (by kernel_rfl) (fun _ _ _ h => h) (Or.inl ⟨by rfl, ?_⟩) ?_ ?_
          rotate_left
          · intro w'
            go_simp
            with_reducible rfl
          rotate_left
          · simp only [Act.put, List.setIfInBounds_toArray, List.set_cons_zero, List.set_cons_succ, i64_w, i32_w]
            rfl
          refine take_ (i := 13) (N := some 43) (v := ?_) (a' := ?_) #[true, true, true, true, true, true, true, true, true, false, true, true, true, true, false, false, false] rfl rfl (by kernel_rfl) (fun _ _ _ h => h) (Or.inl ⟨by rfl, ?_⟩) hHeld ?_ ?_
          rotate_left
          · rintro w' ⟨s0, s1, s2, s3⟩
            go_simp
            with_reducible rfl
          rotate_left
          · simp only [Act.put, List.setIfInBounds_toArray, List.set_cons_zero, List.set_cons_succ, i64_w, i32_w]
            rfl
          refine pure_ (i := 14) (N := some 44) (v := ?_) (a' := ?_) #[true, true, true, true, true, true, true, true, true, false, true, true, true, true, true, false, false] rfl rfl (by kernel_rfl) (fun _ _ _ h => h) (Or.inl ⟨by rfl, ?_⟩) ?_ ?_
          rotate_left
          · intro w'
            go_simp
            with_reducible rfl
          rotate_left
          · simp only [Act.put, List.setIfInBounds_toArray, List.set_cons_zero, List.set_cons_succ, i64_w, i32_w]
            rfl
          refine one_ (i := 9) (N := some 39) #[true, true, true, true, true, true, true, true, true, true, true, true, true, true, true, false, false] rfl rfl (by kernel_rfl) (by decide) (fun K_ hK_ => ?_)
          refine goes_ Try.func15 (by kernel_rfl) rfl #[.pointer (some ⟨gj, 0, none⟩)] (by rfl) rfl rfl (by (try simp only [List.map_toArray, List.map_cons, List.map_nil]); first | done | rfl) ?_
          obtain ⟨N_, on_, nn_, rr_, bb_⟩ := O10.out.frame1 (i := 0) rfl
          refine (Len_n (m : Int) (by rw [HM.out]) on_).mono ?_
          rintro e_ w11 ⟨rfl, oo_, kk_⟩
          obtain ⟨o_, k_⟩ := bb_ _ _ _ kk_ oo_
          refine ⟨_, rfl, ?_⟩
          have O11 : Aside0 (Own N w11 [ObjC gj C (L ++ [(rd_T31 l0 x)]), cells gm #[.int .i64 C, .slice B5 m d5] 37, cells gx #[.int .i64 (rd_T31 l0 x).f0, .int .i64 (rd_T31 l0 x).f1, .slice A3 (rd_T31 l0 x).f2.length c3] 31, nrow k31 31 (.slice B5 m d5) (L ++ [(rd_T31 l0 x)])]) := ⟨o_⟩
          have K11 : Aside0 (KeepS N w w11) := ⟨K10.out.trans k_⟩
          have HRI_11 : Aside0 (Kd.F k47 w11 N A3 (rd_T31 l0 x).f2.length (rd_T31 l0 x).f2) := ⟨keepF HRI_10.out k_⟩
          clear c10_2_0 f10_2_0 c10_2_1 f10_2_1 c10_2_2 f10_2_2 c10_1_0 f10_1_0 c10_1_1 f10_1_1 n10_2_1 n10_1_2 O10 K10 HRI_10
          have c11_2_0 : w11.cell? ⟨gx, 0, none⟩ = some (.int .i64 (rd_T31 l0 x).f0) := (blk_cell (O11.out.blk (i := 2) rfl) 0).trans rfl
          have f11_2_0 : w11.frozen? ⟨gx, 0, none⟩ = false := blk_frozen (O11.out.blk (i := 2) rfl) 0
          have c11_2_1 : w11.cell? ⟨gx, 1, none⟩ = some (.int .i64 (rd_T31 l0 x).f1) := (blk_cell (O11.out.blk (i := 2) rfl) 1).trans rfl
          have f11_2_1 : w11.frozen? ⟨gx, 1, none⟩ = false := blk_frozen (O11.out.blk (i := 2) rfl) 1
          have c11_2_2 : w11.cell? ⟨gx, 2, none⟩ = some (.slice A3 (rd_T31 l0 x).f2.length c3) := (blk_cell (O11.out.blk (i := 2) rfl) 2).trans rfl
          have f11_2_2 : w11.frozen? ⟨gx, 2, none⟩ = false := blk_frozen (O11.out.blk (i := 2) rfl) 2
          have c11_1_0 : w11.cell? ⟨gm, 0, none⟩ = some (.int .i64 C) := (blk_cell (O11.out.blk (i := 1) rfl) 0).trans rfl
          have f11_1_0 : w11.frozen? ⟨gm, 0, none⟩ = false := blk_frozen (O11.out.blk (i := 1) rfl) 0
          have c11_1_1 : w11.cell? ⟨gm, 1, none⟩ = some (.slice B5 m d5) := (blk_cell (O11.out.blk (i := 1) rfl) 1).trans rfl
          have f11_1_1 : w11.frozen? ⟨gm, 1, none⟩ = false := blk_frozen (O11.out.blk (i := 1) rfl) 1
          have n11_2_1 : gx ≠ gm := O11.out.ne (i := 2) (j := 1) rfl rfl (by decide)
          have n11_1_2 : gm ≠ gx := O11.out.ne (i := 1) (j := 2) rfl rfl (by decide)
          clear o_ k_ oo_ kk_ on_ nn_ rr_ bb_
          clear hHeld
          refine hK_.out _ _ ⟨((blk_cell (O11.out.blk (i := 1) rfl) 1).trans rfl), ((blk_cell (O11.out.blk (i := 2) rfl) 0).trans rfl), ((blk_cell (O11.out.blk (i := 2) rfl) 1).trans rfl), ((blk_cell (O11.out.blk (i := 2) rfl) 2).trans rfl)⟩ (fun hHeld => ?_)
          clear hK_ K_
          refine norm_ (a' := ?_) ?_ ?_
          rotate_left
          · simp only [Act.put, List.setIfInBounds_toArray, List.set_cons_zero, List.set_cons_succ, i64_w, i32_w]
            rfl
          refine pure_ (i := 15) (N := some 45) (v := ?_) (a' := ?_) #[true, true, true, true, true, true, true, true, true, true, true, true, true, true, true, true, false] rfl rfl (by kernel_rfl) (fun _ _ _ h => h) (Or.inl ⟨by rfl, ?_⟩) ?_ ?_
          rotate_left
          · intro w'
            go_simp
            with_reducible rfl
          rotate_left
          · simp only [Act.put, List.setIfInBounds_toArray, List.set_cons_zero, List.set_cons_succ, i64_w, i32_w]
            rfl
          refine pure_ (i := 16) (N := some 46) (v := ?_) (a' := ?_) #[true, true, true, true, true, true, true, true, true, true, true, true, true, true, true, true, true] rfl rfl (by kernel_rfl) (fun _ _ _ h => h) (Or.inl ⟨by rfl, ?_⟩) ?_ ?_
          rotate_left
          · intro w'
            go_simp
            with_reducible rfl
          rotate_left
          · simp only [Act.put, List.setIfInBounds_toArray, List.set_cons_zero, List.set_cons_succ, i64_w, i32_w]
            rfl
          refine done_ (by kernel_rfl) ?_
          clear hHeld
          go_wp2
          go_roundw
          case rel => exact ⟨x + 1, (L ++ [(rd_T31 l0 x)]), by have := HX.out; omega, by have := HX.out; omega, int_eq (by unfold wrap64; have := HX.out; have := HL40.out; omega), ⟨⟨by have := HI.out.1; have := HX.out; simp; omega, good_snoc HI.out.2 HE.out⟩⟩, ⟨(ObjG.shut (f := fun v => #[.int .i64 C, v]) (i := 1) (j := 3) O11.out rfl rfl (by decide)).pick2 (a := 0) (b := 1) rfl rfl (by decide)⟩, K11⟩
          case measure => have := HX.out; simp [intOf]; omega
        · have HE := Aside0.mk he
          obtain ⟨E, hE⟩ : ∃ E, E = addE C L (rd_T31 l0 x) := ⟨_, rfl⟩
          have HE2 := Aside0.mk hE.symm
          have HE3 : Aside0 (E ≠ 0) := ⟨by rw [hE]; exact he⟩
          have hz3 : (E != E) = false := by simp
          clear hE
          clear he hlt hx0 hx1
          obtain ⟨m, hm⟩ : ∃ m : Nat, m = L.length := ⟨_, rfl⟩
          have HM := Aside0.mk hm.symm
          have hmb : ((m : Int) != (m : Int)) = false := by simp
          clear hm
          go_wp2_with (first | ((with_reducible refine gate_dst (N := 8) rfl ?_); refine own_box rfl (D := 8) rfl (cs := #[.int .i64 0, .int .i64 0, .slice none 0 0]) (t := 31) ?hr O5.out ?_; (case hr => first | (go_simp; done) | (go_simp; rfl)); intro gx w6 o_ k_; have O6 : Aside0 (Own N w6 [ObjC gj C L, ObjM gm C L, cells gx #[.int .i64 0, .int .i64 0, .slice none 0 0] 31]) := ⟨o_⟩; have K6 : Aside0 (KeepS N w w6) := ⟨K5.out.trans k_⟩; have HRI_6 : Aside0 (Kd.F k47 w6 N A3 (rd_T31 l0 x).f2.length (rd_T31 l0 x).f2) := ⟨keepF HRI_5.out k_⟩; clear O5 K5 HRI_5; have c6_2_0 : w6.cell? ⟨gx, 0, none⟩ = some (.int .i64 0) := (blk_cell (O6.out.blk (i := 2) rfl) 0).trans rfl; have f6_2_0 : w6.frozen? ⟨gx, 0, none⟩ = false := blk_frozen (O6.out.blk (i := 2) rfl) 0; have c6_2_1 : w6.cell? ⟨gx, 1, none⟩ = some (.int .i64 0) := (blk_cell (O6.out.blk (i := 2) rfl) 1).trans rfl; have f6_2_1 : w6.frozen? ⟨gx, 1, none⟩ = false := blk_frozen (O6.out.blk (i := 2) rfl) 1; have c6_2_2 : w6.cell? ⟨gx, 2, none⟩ = some (.slice none 0 0) := (blk_cell (O6.out.blk (i := 2) rfl) 2).trans rfl; have f6_2_2 : w6.frozen? ⟨gx, 2, none⟩ = false := blk_frozen (O6.out.blk (i := 2) rfl) 2; clear o_ k_) | ((with_reducible refine gate_store (t := 31) (p := 8) rfl ?_); refine own_store rfl rfl rfl (w1 := (World.setCell (World.setCell (World.setCell w6 ⟨gx, 0, none⟩ (.int .i64 (rd_T31 l0 x).f0)) ⟨gx, 1, none⟩ (.int .i64 (rd_T31 l0 x).f1)) ⟨gx, 2, none⟩ (.slice A3 (rd_T31 l0 x).f2.length c3))) (N := N) (l' := [ObjC gj C L, ObjM gm C L, cells gx #[.int .i64 (rd_T31 l0 x).f0, .int .i64 (rd_T31 l0 x).f1, .slice A3 (rd_T31 l0 x).f2.length c3] 31]) ?hr ?ho ?hk ?_; (case hr => first | (go_simp; done) | (go_simp; rfl)); (case ho => exact (((O6.out.set (i := 2) rfl 0 (.int .i64 (rd_T31 l0 x).f0)).set (i := 2) rfl 1 (.int .i64 (rd_T31 l0 x).f1)).set (i := 2) rfl 2 (.slice A3 (rd_T31 l0 x).f2.length c3))); (case hk => exact (((KeepS.setCell (O6.out.far (i := 2) rfl) (.int .i64 (rd_T31 l0 x).f0)).trans (KeepS.setCell (O6.out.far (i := 2) rfl) (.int .i64 (rd_T31 l0 x).f1))).trans (KeepS.setCell (O6.out.far (i := 2) rfl) (.slice A3 (rd_T31 l0 x).f2.length c3)))); intro w7 o_ k_; have O7 : Aside0 (Own N w7 [ObjC gj C L, ObjM gm C L, cells gx #[.int .i64 (rd_T31 l0 x).f0, .int .i64 (rd_T31 l0 x).f1, .slice A3 (rd_T31 l0 x).f2.length c3] 31]) := ⟨o_⟩; have K7 : Aside0 (KeepS N w w7) := ⟨K6.out.trans k_⟩; have HRI_7 : Aside0 (Kd.F k47 w7 N A3 (rd_T31 l0 x).f2.length (rd_T31 l0 x).f2) := ⟨keepF HRI_6.out k_⟩; clear c6_2_0 f6_2_0 c6_2_1 f6_2_1 c6_2_2 f6_2_2 O6 K6 HRI_6; have c7_2_0 : w7.cell? ⟨gx, 0, none⟩ = some (.int .i64 (rd_T31 l0 x).f0) := (blk_cell (O7.out.blk (i := 2) rfl) 0).trans rfl; have f7_2_0 : w7.frozen? ⟨gx, 0, none⟩ = false := blk_frozen (O7.out.blk (i := 2) rfl) 0; have c7_2_1 : w7.cell? ⟨gx, 1, none⟩ = some (.int .i64 (rd_T31 l0 x).f1) := (blk_cell (O7.out.blk (i := 2) rfl) 1).trans rfl; have f7_2_1 : w7.frozen? ⟨gx, 1, none⟩ = false := blk_frozen (O7.out.blk (i := 2) rfl) 1; have c7_2_2 : w7.cell? ⟨gx, 2, none⟩ = some (.slice A3 (rd_T31 l0 x).f2.length c3) := (blk_cell (O7.out.blk (i := 2) rfl) 2).trans rfl; have f7_2_2 : w7.frozen? ⟨gx, 2, none⟩ = false := blk_frozen (O7.out.blk (i := 2) rfl) 2; clear o_ k_))
          refine start_ (n := 17) (S := fun w' => w'.cell? ⟨gx, 0, none⟩ = some (.int .i64 (rd_T31 l0 x).f0) ∧ w'.cell? ⟨gx, 1, none⟩ = some (.int .i64 (rd_T31 l0 x).f1) ∧ w'.cell? ⟨gx, 2, none⟩ = some (.slice A3 (rd_T31 l0 x).f2.length c3)) (ds := []) #[false, false, false, false, false, false, false, false, false, false, false, false, false, false, false, false, false] (by kernel_rfl) rfl rfl ⟨((blk_cell (O7.out.blk (i := 2) rfl) 0).trans rfl), ((blk_cell (O7.out.blk (i := 2) rfl) 1).trans rfl), ((blk_cell (O7.out.blk (i := 2) rfl) 2).trans rfl)⟩ (fun hHeld => ?_)
          obtain ⟨w8, hw_⟩ : ∃ W, W = w7.drew := ⟨_, rfl⟩
          have o_ := O7.out.drew
          have k_ : KeepS N w7 w7.drew := KeepS.drew
          rw [← hw_] at o_ k_ hHeld ⊢
          clear hw_
          have O8 : Aside0 (Own N w8 [ObjC gj C L, ObjM gm C L, cells gx #[.int .i64 (rd_T31 l0 x).f0, .int .i64 (rd_T31 l0 x).f1, .slice A3 (rd_T31 l0 x).f2.length c3] 31]) := ⟨o_⟩
          have K8 : Aside0 (KeepS N w w8) := ⟨K7.out.trans k_⟩
          have HRI_8 : Aside0 (Kd.F k47 w8 N A3 (rd_T31 l0 x).f2.length (rd_T31 l0 x).f2) := ⟨keepF HRI_7.out k_⟩
          clear c7_2_0 f7_2_0 c7_2_1 f7_2_1 c7_2_2 f7_2_2 O7 K7 HRI_7
          have c8_2_0 : w8.cell? ⟨gx, 0, none⟩ = some (.int .i64 (rd_T31 l0 x).f0) := (blk_cell (O8.out.blk (i := 2) rfl) 0).trans rfl
          have f8_2_0 : w8.frozen? ⟨gx, 0, none⟩ = false := blk_frozen (O8.out.blk (i := 2) rfl) 0
          have c8_2_1 : w8.cell? ⟨gx, 1, none⟩ = some (.int .i64 (rd_T31 l0 x).f1) := (blk_cell (O8.out.blk (i := 2) rfl) 1).trans rfl
          have f8_2_1 : w8.frozen? ⟨gx, 1, none⟩ = false := blk_frozen (O8.out.blk (i := 2) rfl) 1
          have c8_2_2 : w8.cell? ⟨gx, 2, none⟩ = some (.slice A3 (rd_T31 l0 x).f2.length c3) := (blk_cell (O8.out.blk (i := 2) rfl) 2).trans rfl
          have f8_2_2 : w8.frozen? ⟨gx, 2, none⟩ = false := blk_frozen (O8.out.blk (i := 2) rfl) 2
          clear o_ k_
          refine pure_ (i := 0) (N := some 30) (v := ?_) (a' := ?_) #[true, false, false, false, false, false, false, false, false, false, false, false, false, false, false, false, false] rfl rfl (by kernel_rfl) (fun _ _ _ h => h) (Or.inl ⟨by rfl, ?_⟩) ?_ ?_
          rotate_left
          · intro w'
            go_simp
            with_reducible rfl
          rotate_left
          · simp only [Act.put, List.setIfInBounds_toArray, List.set_cons_zero, List.set_cons_succ, i64_w, i32_w]
            rfl
          refine pure_ (i := 3) (N := some 33) (v := ?_) (a' := ?_) #[true, false, false, true, false, false, false, false, false, false, false, false, false, false, false, false, false] rfl rfl (by kernel_rfl) (fun _ _ _ h => h) (Or.inl ⟨by rfl, ?_⟩) ?_ ?_
          rotate_left
          · intro w'
            go_simp
            with_reducible rfl
          rotate_left
          · simp only [Act.put, List.setIfInBounds_toArray, List.set_cons_zero, List.set_cons_succ, i64_w, i32_w]
            rfl
          refine take_ (i := 1) (N := some 31) (v := ?_) (a' := ?_) #[true, true, false, true, false, false, false, false, false, false, false, false, false, false, false, false, false] rfl rfl (by kernel_rfl) (fun _ _ _ h => h) (Or.inl ⟨by rfl, ?_⟩) hHeld ?_ ?_
          rotate_left
          · rintro w' ⟨s0, s1, s2⟩
            go_simp
            with_reducible rfl
          rotate_left
          · simp only [Act.put, List.setIfInBounds_toArray, List.set_cons_zero, List.set_cons_succ, i64_w, i32_w]
            rfl
          refine take_ (i := 4) (N := some 34) (v := ?_) (a' := ?_) #[true, true, false, true, true, false, false, false, false, false, false, false, false, false, false, false, false] rfl rfl (by kernel_rfl) (fun _ _ _ h => h) (Or.inl ⟨by rfl, ?_⟩) hHeld ?_ ?_
          rotate_left
          · rintro w' ⟨s0, s1, s2⟩
            go_simp
            with_reducible rfl
          rotate_left
          · simp only [Act.put, List.setIfInBounds_toArray, List.set_cons_zero, List.set_cons_succ, i64_w, i32_w]
            rfl
          refine one_ (i := 2) (N := some 32) #[true, true, true, true, true, false, false, false, false, false, false, false, false, false, false, false, false] rfl rfl (by kernel_rfl) (by decide) (fun K_ hK_ => ?_)
          refine goes_ Try.func13 (by kernel_rfl) rfl #[.pointer (some ⟨gj, 0, none⟩), .agg #[.int .i64 (rd_T31 l0 x).f0, .int .i64 (rd_T31 l0 x).f1, .slice A3 (rd_T31 l0 x).f2.length c3]] (by rfl) rfl rfl (by (try simp only [List.map_toArray, List.map_cons, List.map_nil]); first | done | rfl) ?_
          obtain ⟨N_, on_, nn_, rr_, bb_⟩ := O8.out.frame1 (i := 0) rfl
          have hr_ := Kd.F_mono HRI_8.out nn_
          refine (Add_n A3 c3 (rd_T31 l0 x).f0 (rd_T31 l0 x).f1 (rd_T31 l0 x).f2 on_ hr_ HC3.out HLL.out HU.out HI.out.2 E HE2.out HE3.out).mono ?_
          rintro e_ w9 ⟨rfl, oo_, kk_⟩
          obtain ⟨o_, k_⟩ := bb_ _ _ _ kk_ oo_
          refine ⟨_, rfl, ?_⟩
          have O9 : Aside0 (Own N w9 [ObjC gj C L, ObjM gm C L, cells gx #[.int .i64 (rd_T31 l0 x).f0, .int .i64 (rd_T31 l0 x).f1, .slice A3 (rd_T31 l0 x).f2.length c3] 31]) := ⟨o_⟩
          have K9 : Aside0 (KeepS N w w9) := ⟨K8.out.trans k_⟩
          have HRI_9 : Aside0 (Kd.F k47 w9 N A3 (rd_T31 l0 x).f2.length (rd_T31 l0 x).f2) := ⟨keepF HRI_8.out k_⟩
          clear c8_2_0 f8_2_0 c8_2_1 f8_2_1 c8_2_2 f8_2_2 O8 K8 HRI_8
          have c9_2_0 : w9.cell? ⟨gx, 0, none⟩ = some (.int .i64 (rd_T31 l0 x).f0) := (blk_cell (O9.out.blk (i := 2) rfl) 0).trans rfl
          have f9_2_0 : w9.frozen? ⟨gx, 0, none⟩ = false := blk_frozen (O9.out.blk (i := 2) rfl) 0
          have c9_2_1 : w9.cell? ⟨gx, 1, none⟩ = some (.int .i64 (rd_T31 l0 x).f1) := (blk_cell (O9.out.blk (i := 2) rfl) 1).trans rfl
          have f9_2_1 : w9.frozen? ⟨gx, 1, none⟩ = false := blk_frozen (O9.out.blk (i := 2) rfl) 1
          have c9_2_2 : w9.cell? ⟨gx, 2, none⟩ = some (.slice A3 (rd_T31 l0 x).f2.length c3) := (blk_cell (O9.out.blk (i := 2) rfl) 2).trans rfl
          have f9_2_2 : w9.frozen? ⟨gx, 2, none⟩ = false := blk_frozen (O9.out.blk (i := 2) rfl) 2
          clear o_ k_ oo_ kk_ on_ nn_ rr_ bb_ hr_
          clear hHeld
          refine hK_.out _ _ ⟨((blk_cell (O9.out.blk (i := 2) rfl) 0).trans rfl), ((blk_cell (O9.out.blk (i := 2) rfl) 1).trans rfl), ((blk_cell (O9.out.blk (i := 2) rfl) 2).trans rfl)⟩ (fun hHeld => ?_)
          clear hK_ K_
          refine norm_ (a' := ?_) ?_ ?_
          rotate_left
          · simp only [Act.put, List.setIfInBounds_toArray, List.set_cons_zero, List.set_cons_succ, i64_w, i32_w]
            rfl
          refine one_ (i := 5) (N := some 35) #[true, true, true, true, true, true, false, false, false, false, false, false, false, false, false, false, false] rfl rfl (by kernel_rfl) (by decide) (fun K_ hK_ => ?_)
          refine goes_ Try.func14 (by kernel_rfl) rfl #[.pointer (some ⟨gm, 0, none⟩), .agg #[.int .i64 (rd_T31 l0 x).f0, .int .i64 (rd_T31 l0 x).f1, .slice A3 (rd_T31 l0 x).f2.length c3]] (by rfl) rfl rfl (by (try simp only [List.map_toArray, List.map_cons, List.map_nil]); first | done | rfl) ?_
          obtain ⟨N_, on_, nn_, rr_, bb_⟩ := O9.out.frame1 (i := 1) rfl
          have hr_ := Kd.F_mono HRI_9.out nn_
          refine (RAdd_n_m m A3 c3 (rd_T31 l0 x).f0 (rd_T31 l0 x).f1 (rd_T31 l0 x).f2 on_ hr_ HC3.out HLL.out HU.out HI.out.2 HM.out E HE2.out HE3.out).mono ?_
          rintro e_ w10 ⟨B5, d5, rfl, hcc_, oo_, kk_⟩
          obtain ⟨o_, k_⟩ := bb_ _ _ _ kk_ oo_
          refine ⟨_, rfl, ?_⟩
          have O10 : Aside0 (Own N w10 [ObjC gj C L, cells gm #[.int .i64 C, .slice B5 m d5] 37, cells gx #[.int .i64 (rd_T31 l0 x).f0, .int .i64 (rd_T31 l0 x).f1, .slice A3 (rd_T31 l0 x).f2.length c3] 31, nrow k31 31 (.slice B5 m d5) L]) := ⟨o_⟩
          have K10 : Aside0 (KeepS N w w10) := ⟨K9.out.trans k_⟩
          have HRI_10 : Aside0 (Kd.F k47 w10 N A3 (rd_T31 l0 x).f2.length (rd_T31 l0 x).f2) := ⟨keepF HRI_9.out k_⟩
          clear c9_2_0 f9_2_0 c9_2_1 f9_2_1 c9_2_2 f9_2_2 O9 K9 HRI_9
          have c10_2_0 : w10.cell? ⟨gx, 0, none⟩ = some (.int .i64 (rd_T31 l0 x).f0) := (blk_cell (O10.out.blk (i := 2) rfl) 0).trans rfl
          have f10_2_0 : w10.frozen? ⟨gx, 0, none⟩ = false := blk_frozen (O10.out.blk (i := 2) rfl) 0
          have c10_2_1 : w10.cell? ⟨gx, 1, none⟩ = some (.int .i64 (rd_T31 l0 x).f1) := (blk_cell (O10.out.blk (i := 2) rfl) 1).trans rfl
          have f10_2_1 : w10.frozen? ⟨gx, 1, none⟩ = false := blk_frozen (O10.out.blk (i := 2) rfl) 1
          have c10_2_2 : w10.cell? ⟨gx, 2, none⟩ = some (.slice A3 (rd_T31 l0 x).f2.length c3) := (blk_cell (O10.out.blk (i := 2) rfl) 2).trans rfl
          have f10_2_2 : w10.frozen? ⟨gx, 2, none⟩ = false := blk_frozen (O10.out.blk (i := 2) rfl) 2
          have c10_1_0 : w10.cell? ⟨gm, 0, none⟩ = some (.int .i64 C) := (blk_cell (O10.out.blk (i := 1) rfl) 0).trans rfl
          have f10_1_0 : w10.frozen? ⟨gm, 0, none⟩ = false := blk_frozen (O10.out.blk (i := 1) rfl) 0
          have c10_1_1 : w10.cell? ⟨gm, 1, none⟩ = some (.slice B5 m d5) := (blk_cell (O10.out.blk (i := 1) rfl) 1).trans rfl
          have f10_1_1 : w10.frozen? ⟨gm, 1, none⟩ = false := blk_frozen (O10.out.blk (i := 1) rfl) 1
          have n10_2_1 : gx ≠ gm := O10.out.ne (i := 2) (j := 1) rfl rfl (by decide)
          have n10_1_2 : gm ≠ gx := O10.out.ne (i := 1) (j := 2) rfl rfl (by decide)
          clear o_ k_ oo_ kk_ on_ nn_ rr_ bb_ hr_ hcc_
          clear hHeld
          refine hK_.out _ _ ⟨((blk_cell (O10.out.blk (i := 2) rfl) 0).trans rfl), ((blk_cell (O10.out.blk (i := 2) rfl) 1).trans rfl), ((blk_cell (O10.out.blk (i := 2) rfl) 2).trans rfl)⟩ (fun hHeld => ?_)
          clear hK_ K_
          refine norm_ (a' := ?_) ?_ ?_
          rotate_left
          · simp only [Act.put, List.setIfInBounds_toArray, List.set_cons_zero, List.set_cons_succ, i64_w, i32_w]
            rfl
          clear hHeld
          have hHeld : (fun w' : World => w'.cell? ⟨gm, 1, none⟩ = some (.slice B5 m d5) ∧ w'.cell? ⟨gx, 0, none⟩ = some (.int .i64 (rd_T31 l0 x).f0) ∧ w'.cell? ⟨gx, 1, none⟩ = some (.int .i64 (rd_T31 l0 x).f1) ∧ w'.cell? ⟨gx, 2, none⟩ = some (.slice A3 (rd_T31 l0 x).f2.length c3)) w10 := ⟨((blk_cell (O10.out.blk (i := 1) rfl) 1).trans rfl), ((blk_cell (O10.out.blk (i := 2) rfl) 0).trans rfl), ((blk_cell (O10.out.blk (i := 2) rfl) 1).trans rfl), ((blk_cell (O10.out.blk (i := 2) rfl) 2).trans rfl)⟩
          refine narrow_ (S2 := fun w' => w'.cell? ⟨gm, 1, none⟩ = some (.slice B5 m d5) ∧ w'.cell? ⟨gx, 0, none⟩ = some (.int .i64 (rd_T31 l0 x).f0) ∧ w'.cell? ⟨gx, 1, none⟩ = some (.int .i64 (rd_T31 l0 x).f1) ∧ w'.cell? ⟨gx, 2, none⟩ = some (.slice A3 (rd_T31 l0 x).f2.length c3)) (fun w_ h_ => h_.2) hHeld ?_
          simp only at hHeld
          refine pure_ (i := 6) (N := some 36) (v := ?_) (a' := ?_) #[true, true, true, true, true, true, true, false, false, false, false, false, false, false, false, false, false] rfl rfl (by kernel_rfl) (fun _ _ _ h => h) (Or.inl ⟨by rfl, ?_⟩) ?_ ?_
          rotate_left
          · intro w'
            go_simp
            with_reducible rfl
          rotate_left
          · simp only [Act.put, List.setIfInBounds_toArray, List.set_cons_zero, List.set_cons_succ, i64_w, i32_w]
            rfl
          refine pure_ (i := 7) (N := some 37) (v := ?_) (a' := ?_) #[true, true, true, true, true, true, true, true, false, false, false, false, false, false, false, false, false] rfl rfl (by kernel_rfl) (fun _ _ _ h => h) (Or.inl ⟨by rfl, ?_⟩) ?_ ?_
          rotate_left
          · intro w'
            go_simp
            with_reducible rfl
          rotate_left
          · simp only [Act.put, List.setIfInBounds_toArray, List.set_cons_zero, List.set_cons_succ, i64_w, i32_w]
            rfl
          refine pure_ (i := 8) (N := some 38) (v := ?_) (a' := ?_) #[true, true, true, true, true, true, true, true, true, false, false, false, false, false, false, false, false] rfl rfl (by kernel_rfl) (fun _ _ _ h => h) (Or.inl ⟨by rfl, ?_⟩) ?_ ?_
          rotate_left
          · intro w'
            go_simp
            with_reducible rfl
          rotate_left
          · simp only [Act.put, List.setIfInBounds_toArray, List.set_cons_zero, List.set_cons_succ, i64_w, i32_w]
            rfl
          refine pure_ (i := 10) (N := some 40) (v := ?_) (a' := ?_) #[true, true, true, true, true, true, true, true, true, false, true, false, false, false, false, false, false] rfl rfl (by kernel_rfl) (fun _ _ _ h => h) (Or.inl ⟨by rfl, ?_⟩) ?_ ?_
          rotate_left
          · intro w'
            go_simp
            with_reducible rfl
          rotate_left
          · simp only [Act.put, List.setIfInBounds_toArray, List.set_cons_zero, List.set_cons_succ, i64_w, i32_w]
            rfl
          refine pure_ (i := 11) (N := some 41) (v := ?_) (a' := ?_) #[true, true, true, true, true, true, true, true, true, false, true, true, false, false, false, false, false] rfl rfl (by kernel_rfl) (fun _ _ _ h => h) (Or.inl ⟨by rfl, ?_⟩) ?_ ?_
          rotate_left
          · intro w'
            go_simp
            with_reducible rfl
          rotate_left
          · simp only [Act.put, List.setIfInBounds_toArray, List.set_cons_zero, List.set_cons_succ, i64_w, i32_w]
            rfl
          refine pure_ (i := 12) (N := some 42) (v := ?_) (a' := ?_) #[true, true, true, true, true, true, true, true, true, false, true, true, true, false, false, false, false] rfl rfl (by kernel_rfl) (fun _ _ _ h => h) (Or.inl ⟨by rfl, ?_⟩) ?_ ?_
          rotate_left
          · intro w'
            go_simp
            with_reducible rfl
          rotate_left
          · simp only [Act.put, List.setIfInBounds_toArray, List.set_cons_zero, List.set_cons_succ, i64_w, i32_w]
            rfl
          refine take_ (i := 13) (N := some 43) (v := ?_) (a' := ?_) #[true, true, true, true, true, true, true, true, true, false, true, true, true, true, false, false, false] rfl rfl (by kernel_rfl) (fun _ _ _ h => h) (Or.inl ⟨by rfl, ?_⟩) hHeld ?_ ?_
          rotate_left
          · rintro w' ⟨s0, s1, s2, s3⟩
            go_simp
            with_reducible rfl
          rotate_left
          · simp only [Act.put, List.setIfInBounds_toArray, List.set_cons_zero, List.set_cons_succ, i64_w, i32_w]
            rfl
          refine pure_ (i := 14) (N := some 44) (v := ?_) (a' := ?_) #[true, true, true, true, true, true, true, true, true, false, true, true, true, true, true, false, false] rfl rfl (by kernel_rfl) (fun _ _ _ h => h) (Or.inl ⟨by rfl, ?_⟩) ?_ ?_
          rotate_left
          · intro w'
            go_simp
            with_reducible rfl
          rotate_left
          · simp only [Act.put, List.setIfInBounds_toArray, List.set_cons_zero, List.set_cons_succ, i64_w, i32_w]
            rfl
          refine one_ (i := 9) (N := some 39) #[true, true, true, true, true, true, true, true, true, true, true, true, true, true, true, false, false] rfl rfl (by kernel_rfl) (by decide) (fun K_ hK_ => ?_)
          refine goes_ Try.func15 (by kernel_rfl) rfl #[.pointer (some ⟨gj, 0, none⟩)] (by rfl) rfl rfl (by (try simp only [List.map_toArray, List.map_cons, List.map_nil]); first | done | rfl) ?_
          obtain ⟨N_, on_, nn_, rr_, bb_⟩ := O10.out.frame1 (i := 0) rfl
          refine (Len_n (m : Int) (by rw [HM.out]) on_).mono ?_
          rintro e_ w11 ⟨rfl, oo_, kk_⟩
          obtain ⟨o_, k_⟩ := bb_ _ _ _ kk_ oo_
          refine ⟨_, rfl, ?_⟩
          have O11 : Aside0 (Own N w11 [ObjC gj C L, cells gm #[.int .i64 C, .slice B5 m d5] 37, cells gx #[.int .i64 (rd_T31 l0 x).f0, .int .i64 (rd_T31 l0 x).f1, .slice A3 (rd_T31 l0 x).f2.length c3] 31, nrow k31 31 (.slice B5 m d5) L]) := ⟨o_⟩
          have K11 : Aside0 (KeepS N w w11) := ⟨K10.out.trans k_⟩
          have HRI_11 : Aside0 (Kd.F k47 w11 N A3 (rd_T31 l0 x).f2.length (rd_T31 l0 x).f2) := ⟨keepF HRI_10.out k_⟩
          clear c10_2_0 f10_2_0 c10_2_1 f10_2_1 c10_2_2 f10_2_2 c10_1_0 f10_1_0 c10_1_1 f10_1_1 n10_2_1 n10_1_2 O10 K10 HRI_10
          have c11_2_0 : w11.cell? ⟨gx, 0, none⟩ = some (.int .i64 (rd_T31 l0 x).f0) := (blk_cell (O11.out.blk (i := 2) rfl) 0).trans rfl
          have f11_2_0 : w11.frozen? ⟨gx, 0, none⟩ = false := blk_frozen (O11.out.blk (i := 2) rfl) 0
          have c11_2_1 : w11.cell? ⟨gx, 1, none⟩ = some (.int .i64 (rd_T31 l0 x).f1) := (blk_cell (O11.out.blk (i := 2) rfl) 1).trans rfl
          have f11_2_1 : w11.frozen? ⟨gx, 1, none⟩ = false := blk_frozen (O11.out.blk (i := 2) rfl) 1
          have c11_2_2 : w11.cell? ⟨gx, 2, none⟩ = some (.slice A3 (rd_T31 l0 x).f2.length c3) := (blk_cell (O11.out.blk (i := 2) rfl) 2).trans rfl
          have f11_2_2 : w11.frozen? ⟨gx, 2, none⟩ = false := blk_frozen (O11.out.blk (i := 2) rfl) 2
          have c11_1_0 : w11.cell? ⟨gm, 0, none⟩ = some (.int .i64 C) := (blk_cell (O11.out.blk (i := 1) rfl) 0).trans rfl
          have f11_1_0 : w11.frozen? ⟨gm, 0, none⟩ = false := blk_frozen (O11.out.blk (i := 1) rfl) 0
          have c11_1_1 : w11.cell? ⟨gm, 1, none⟩ = some (.slice B5 m d5) := (blk_cell (O11.out.blk (i := 1) rfl) 1).trans rfl
          have f11_1_1 : w11.frozen? ⟨gm, 1, none⟩ = false := blk_frozen (O11.out.blk (i := 1) rfl) 1
          have n11_2_1 : gx ≠ gm := O11.out.ne (i := 2) (j := 1) rfl rfl (by decide)
          have n11_1_2 : gm ≠ gx := O11.out.ne (i := 1) (j := 2) rfl rfl (by decide)
          clear o_ k_ oo_ kk_ on_ nn_ rr_ bb_
          clear hHeld
          refine hK_.out _ _ ⟨((blk_cell (O11.out.blk (i := 1) rfl) 1).trans rfl), ((blk_cell (O11.out.blk (i := 2) rfl) 0).trans rfl), ((blk_cell (O11.out.blk (i := 2) rfl) 1).trans rfl), ((blk_cell (O11.out.blk (i := 2) rfl) 2).trans rfl)⟩ (fun hHeld => ?_)
          clear hK_ K_
          refine norm_ (a' := ?_) ?_ ?_
          rotate_left
          · simp only [Act.put, List.setIfInBounds_toArray, List.set_cons_zero, List.set_cons_succ, i64_w, i32_w]
            rfl
          refine pure_ (i := 15) (N := some 45) (v := ?_) (a' := ?_) #[true, true, true, true, true, true, true, true, true, true, true, true, true, true, true, true, false] rfl rfl (by kernel_rfl) (fun _ _ _ h => h) (Or.inl ⟨by rfl, ?_⟩) ?_ ?_
          rotate_left
          · intro w'
            go_simp
            with_reducible rfl
          rotate_left
          · simp only [Act.put, List.setIfInBounds_toArray, List.set_cons_zero, List.set_cons_succ, i64_w, i32_w]
            rfl
          refine pure_ (i := 16) (N := some 46) (v := ?_) (a' := ?_) #[true, true, true, true, true, true, true, true, true, true, true, true, true, true, true, true, true] rfl rfl (by kernel_rfl) (fun _ _ _ h => h) (Or.inl ⟨by rfl, ?_⟩) ?_ ?_
          rotate_left
          · intro w'
            go_simp
            with_reducible rfl
          rotate_left
          · simp only [Act.put, List.setIfInBounds_toArray, List.set_cons_zero, List.set_cons_succ, i64_w, i32_w]
            rfl
          refine done_ (by kernel_rfl) ?_
          clear hHeld
          go_wp2
          go_roundw
          case rel => exact ⟨x + 1, L, by have := HX.out; omega, by have := HX.out; omega, int_eq (by unfold wrap64; have := HX.out; have := HL40.out; omega), ⟨⟨by have := HI.out.1; omega, HI.out.2⟩⟩, ⟨(ObjG.shut (f := fun v => #[.int .i64 C, v]) (i := 1) (j := 3) O11.out rfl rfl (by decide)).pick2 (a := 0) (b := 1) rfl rfl (by decide)⟩, K11⟩
          case measure => have := HX.out; simp [intOf]; omega
      · have hxe : x = (l0.length : Int) := by omega
        subst hxe
        have hd : decide ((l0.length : Int) < (l0.length : Int)) = false := decide_eq_false (Int.lt_irrefl _)
        clear hlt hx0 hx1 hF2 hLx
        obtain ⟨wo, hwo⟩ : ∃ wo : World, wo = wr := ⟨_, rfl⟩
        subst hwo
        obtain ⟨Am, cm, h2⟩ := ObjG.open_ OA.out (i := 1) rfl
        have HCM : Aside0 (L.length ≤ cm) := ⟨(h2.nreads (i := 2) rfl).2.1⟩
        obtain ⟨N1, h3, hn1, hF, hback⟩ := h2.hide (i := 2) rfl
        have hFm : Kd.F k31 wo N1 Am L.length L := Kd.N_F hF
        have HN1 := Aside0.mk hn1
        have O7 : Aside0 (Own N1 wo [ObjC gj C L, cells gm #[.int .i64 C, .slice Am L.length cm] 37, emp]) := ⟨h3⟩
        have K7 : Aside0 (KeepS N1 wo wo) := ⟨KeepS.refl _ _⟩
        have HRM_7 : Aside0 (Kd.F k31 wo N1 Am L.length L) := ⟨hFm⟩
        have c7_1_0 : wo.cell? ⟨gm, 0, none⟩ = some (.int .i64 C) := (blk_cell (O7.out.blk (i := 1) rfl) 0).trans rfl
        have f7_1_0 : wo.frozen? ⟨gm, 0, none⟩ = false := blk_frozen (O7.out.blk (i := 1) rfl) 0
        have c7_1_1 : wo.cell? ⟨gm, 1, none⟩ = some (.slice Am L.length cm) := (blk_cell (O7.out.blk (i := 1) rfl) 1).trans rfl
        have f7_1_1 : wo.frozen? ⟨gm, 1, none⟩ = false := blk_frozen (O7.out.blk (i := 1) rfl) 1
        clear OA h2 h3 hn1 hF hback hFm
        go_wp2
        refine start_ (n := 8) (S := fun w' => w'.cell? ⟨gm, 0, none⟩ = some (.int .i64 C) ∧ w'.cell? ⟨gm, 1, none⟩ = some (.slice Am L.length cm)) (ds := []) #[false, false, false, false, false, false, false, false] (by kernel_rfl) rfl rfl ⟨((blk_cell (O7.out.blk (i := 1) rfl) 0).trans rfl), ((blk_cell (O7.out.blk (i := 1) rfl) 1).trans rfl)⟩ (fun hHeld => ?_)
        obtain ⟨w8, hw_⟩ : ∃ W, W = wo.drew := ⟨_, rfl⟩
        have o_ := O7.out.drew
        have k_ : KeepS N1 wo wo.drew := KeepS.drew
        rw [← hw_] at o_ k_ hHeld ⊢
        clear hw_
        have O8 : Aside0 (Own N1 w8 [ObjC gj C L, cells gm #[.int .i64 C, .slice Am L.length cm] 37, emp]) := ⟨o_⟩
        have K8 : Aside0 (KeepS N1 wo w8) := ⟨K7.out.trans k_⟩
        have HRM_8 : Aside0 (Kd.F k31 w8 N1 Am L.length L) := ⟨keepF HRM_7.out k_⟩
        clear c7_1_0 f7_1_0 c7_1_1 f7_1_1 O7 K7 HRM_7
        have c8_1_0 : w8.cell? ⟨gm, 0, none⟩ = some (.int .i64 C) := (blk_cell (O8.out.blk (i := 1) rfl) 0).trans rfl
        have f8_1_0 : w8.frozen? ⟨gm, 0, none⟩ = false := blk_frozen (O8.out.blk (i := 1) rfl) 0
        have c8_1_1 : w8.cell? ⟨gm, 1, none⟩ = some (.slice Am L.length cm) := (blk_cell (O8.out.blk (i := 1) rfl) 1).trans rfl
        have f8_1_1 : w8.frozen? ⟨gm, 1, none⟩ = false := blk_frozen (O8.out.blk (i := 1) rfl) 1
        clear o_ k_
        refine pure_ (i := 0) (N := some 48) (v := ?_) (a' := ?_) #[true, false, false, false, false, false, false, false] rfl rfl (by kernel_rfl) (fun _ _ _ h => h) (Or.inl ⟨by rfl, ?_⟩) ?_ ?_
        rotate_left
        · intro w'
          go_simp
          with_reducible rfl
        rotate_left
        · simp only [Act.put, List.setIfInBounds_toArray, List.set_cons_zero, List.set_cons_succ, i64_w, i32_w]
          rfl
        refine pure_ (i := 2) (N := some 50) (v := ?_) (a' := ?_) #[true, false, true, false, false, false, false, false] rfl rfl (by kernel_rfl) (fun _ _ _ h => h) (Or.inl ⟨by rfl, ?_⟩) ?_ ?_
        rotate_left
        · intro w'
          go_simp
          with_reducible rfl
        rotate_left
        · simp only [Act.put, List.setIfInBounds_toArray, List.set_cons_zero, List.set_cons_succ, i64_w, i32_w]
          rfl
        refine pure_ (i := 3) (N := some 51) (v := ?_) (a' := ?_) #[true, false, true, true, false, false, false, false] rfl rfl (by kernel_rfl) (fun _ _ _ h => h) (Or.inl ⟨by rfl, ?_⟩) ?_ ?_
        rotate_left
        · intro w'
          go_simp
          with_reducible rfl
        rotate_left
        · simp only [Act.put, List.setIfInBounds_toArray, List.set_cons_zero, List.set_cons_succ, i64_w, i32_w]
          rfl
        refine pure_ (i := 4) (N := some 52) (v := ?_) (a' := ?_) #[true, false, true, true, true, false, false, false] rfl rfl (by kernel_rfl) (fun _ _ _ h => h) (Or.inl ⟨by rfl, ?_⟩) ?_ ?_
        rotate_left
        · intro w'
          go_simp
          with_reducible rfl
        rotate_left
        · simp only [Act.put, List.setIfInBounds_toArray, List.set_cons_zero, List.set_cons_succ, i64_w, i32_w]
          rfl
        refine take_ (i := 5) (N := some 53) (v := ?_) (a' := ?_) #[true, false, true, true, true, true, false, false] rfl rfl (by kernel_rfl) (fun _ _ _ h => h) (Or.inl ⟨by rfl, ?_⟩) hHeld ?_ ?_
        rotate_left
        · rintro w' ⟨s0, s1⟩
          go_simp
          with_reducible rfl
        rotate_left
        · simp only [Act.put, List.setIfInBounds_toArray, List.set_cons_zero, List.set_cons_succ, i64_w, i32_w]
          rfl
        refine one_ (i := 1) (N := some 49) #[true, true, true, true, true, true, false, false] rfl rfl (by kernel_rfl) (by decide) (fun K_ hK_ => ?_)
        refine goes_ Try.func17 (by kernel_rfl) rfl #[.pointer (some ⟨gj, 0, none⟩)] (by rfl) rfl rfl (by (try simp only [List.map_toArray, List.map_cons, List.map_nil]); first | done | rfl) ?_
        obtain ⟨N_, on_, nn_, rr_, bb_⟩ := O8.out.frame1 (i := 0) rfl
        refine (All_g on_ HLL.out HI.out.2).mono ?_
        rintro e_ w9 ⟨B1, d1, rfl, oo_, kk_⟩
        obtain ⟨o_, k_⟩ := bb_ _ _ _ kk_ oo_
        refine ⟨_, rfl, ?_⟩
        have O9 : Aside0 (Own N1 w9 [ObjC gj C L, cells gm #[.int .i64 C, .slice Am L.length cm] 37, emp, nrow k31 31 (.slice B1 L.length d1) L]) := ⟨o_⟩
        have K9 : Aside0 (KeepS N1 wo w9) := ⟨K8.out.trans k_⟩
        have HRM_9 : Aside0 (Kd.F k31 w9 N1 Am L.length L) := ⟨keepF HRM_8.out k_⟩
        clear c8_1_0 f8_1_0 c8_1_1 f8_1_1 O8 K8 HRM_8
        have c9_1_0 : w9.cell? ⟨gm, 0, none⟩ = some (.int .i64 C) := (blk_cell (O9.out.blk (i := 1) rfl) 0).trans rfl
        have f9_1_0 : w9.frozen? ⟨gm, 0, none⟩ = false := blk_frozen (O9.out.blk (i := 1) rfl) 0
        have c9_1_1 : w9.cell? ⟨gm, 1, none⟩ = some (.slice Am L.length cm) := (blk_cell (O9.out.blk (i := 1) rfl) 1).trans rfl
        have f9_1_1 : w9.frozen? ⟨gm, 1, none⟩ = false := blk_frozen (O9.out.blk (i := 1) rfl) 1
        clear o_ k_ oo_ kk_ on_ nn_ rr_ bb_
        clear hHeld
        refine hK_.out _ _ ⟨((blk_cell (O9.out.blk (i := 1) rfl) 0).trans rfl), ((blk_cell (O9.out.blk (i := 1) rfl) 1).trans rfl)⟩ (fun hHeld => ?_)
        clear hK_ K_
        refine norm_ (a' := ?_) ?_ ?_
        rotate_left
        · simp only [Act.put, List.setIfInBounds_toArray, List.set_cons_zero, List.set_cons_succ, i64_w, i32_w]
          rfl
        refine one_ (i := 6) (N := some 54) #[true, true, true, true, true, true, true, false] rfl rfl (by kernel_rfl) (by decide) (fun K_ hK_ => ?_)
        refine goes_ Try.func16 (by kernel_rfl) rfl #[.slice B1 L.length d1, .slice Am L.length cm] (by rfl) rfl rfl (by (try simp only [List.map_toArray, List.map_cons, List.map_nil]); first | done | rfl) ?_
        refine (chapbookref07_SameAll.calls 200 _ _ L _ _ L true _ (O9.out.nreads (i := 3) rfl).2.2 (O9.out.nreads (i := 3) rfl).2.1 (Kd.F_now HRM_9.out) HCM.out (psameAll 8 200 L (by have := HLL.out; omega) (good_short HI.out.2) (by decide) (by have := HI.out.1; have := HL40.out; omega))).mono ?_
        rintro e_ w10 ⟨rfl, hb_⟩
        refine ⟨_, rfl, ?_⟩
        have o_ := O9.out.below hb_
        have k_ := KeepS.of_below (N := N1) hb_
        have O10 : Aside0 (Own N1 w10 [ObjC gj C L, cells gm #[.int .i64 C, .slice Am L.length cm] 37, emp, nrow k31 31 (.slice B1 L.length d1) L]) := ⟨o_⟩
        have K10 : Aside0 (KeepS N1 wo w10) := ⟨K9.out.trans k_⟩
        have HRM_10 : Aside0 (Kd.F k31 w10 N1 Am L.length L) := ⟨keepF HRM_9.out k_⟩
        clear c9_1_0 f9_1_0 c9_1_1 f9_1_1 O9 K9 HRM_9
        have c10_1_0 : w10.cell? ⟨gm, 0, none⟩ = some (.int .i64 C) := (blk_cell (O10.out.blk (i := 1) rfl) 0).trans rfl
        have f10_1_0 : w10.frozen? ⟨gm, 0, none⟩ = false := blk_frozen (O10.out.blk (i := 1) rfl) 0
        have c10_1_1 : w10.cell? ⟨gm, 1, none⟩ = some (.slice Am L.length cm) := (blk_cell (O10.out.blk (i := 1) rfl) 1).trans rfl
        have f10_1_1 : w10.frozen? ⟨gm, 1, none⟩ = false := blk_frozen (O10.out.blk (i := 1) rfl) 1
        clear o_ k_ hb_
        clear hHeld
        refine hK_.out _ _ ⟨((blk_cell (O10.out.blk (i := 1) rfl) 0).trans rfl), ((blk_cell (O10.out.blk (i := 1) rfl) 1).trans rfl)⟩ (fun hHeld => ?_)
        clear hK_ K_
        refine norm_ (a' := ?_) ?_ ?_
        rotate_left
        · simp only [Act.put, List.setIfInBounds_toArray, List.set_cons_zero, List.set_cons_succ, i64_w, i32_w]
          rfl
        refine pure_ (i := 7) (N := some 4) (v := ?_) (a' := ?_) #[true, true, true, true, true, true, true, true] rfl rfl (by kernel_rfl) (fun _ _ _ h => h) (Or.inl ⟨by rfl, ?_⟩) ?_ ?_
        rotate_left
        · intro w'
          go_simp
          with_reducible rfl
        rotate_left
        · simp only [Act.put, List.setIfInBounds_toArray, List.set_cons_zero, List.set_cons_succ, i64_w, i32_w]
          rfl
        refine done_ (by kernel_rfl) ?_
        clear hHeld
        go_wp2
        go_ret
        exact ⟨rfl, (KA.out.trans (K10.out.mono HN1.out)).below (Nat.le_refl _) (fun k hk => by rw [HN.out]; exact hk)⟩
end Go.Proofs.Ytjmoncfgoaaekaa.J
