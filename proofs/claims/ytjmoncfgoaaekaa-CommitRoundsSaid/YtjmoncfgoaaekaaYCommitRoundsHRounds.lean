/- The law CommitRounds: each round is told by its place, each origin's last number as the document says; what is told is one's own: a plain walk through its text. -/
import Derived.Test.YtjmoncfgoaaekaaYCommitRoundsHRAid
import Derived.Test.YtjmoncfgoaaekaaYCommitRoundsC6
import Derived.Test.YtjmoncfgoaaekaaYCommitRoundsC8
import Derived.Test.YtjmoncfgoaaekaaYCommitRoundsC3R
namespace Go.Proofs.Ytjmoncfgoaaekaa.J
set_option linter.unusedSimpArgs false
set_option linter.unusedVariables false
open Go Go.RowKit Go.Proofs.YtjmoncfgoaaekaaW.PrintWords Go.Proofs.YtjmoncfgoaaekaaW.PrintLast Go.Proofs.YtjmoncfgoaaekaaW.PrintMore Go.Proofs.Ytjmoncfgoaaekaa.Q Go.Proofs.Ytjmoncfgoaaekaa.Sep Go.Proofs.Ytjmoncfgoaaekaa.Pure
attribute [local go_sem] max2_int min2_int max_two min_two max_three min_three max_four min_four
def chapbooklaw14_CommitRounds.f (a0 : Int) (l1 : List Rnd) (a2_0 a2_1 : Int) : Option Bool := some true
def RoI (N : Nat → Prop) (w : World) (l0 : List Rnd) (gj gm gx : Nat) (x0 x1 C : Int) (i : Value) (wr : World) : Prop := ∃ (x : Int) (L : List Rnd), 0 ≤ x ∧ x ≤ (l0.length : Int) ∧ i = .int .i64 x ∧ Aside0 ((L.length : Int) ≤ x ∧ Good C L) ∧ Aside0 (Own N wr [cells gx #[.int .i64 x0, .int .i64 x1] 41, ObjC gj C L, ObjM gm C L]) ∧ Aside0 (KeepS N w wr)
def RoU (N : Nat → Prop) (w : World) (R : List HP) (A : Option Addr) (n c : Nat) (i : Value) (wr : World) : Prop := ∃ (y : Int) (us : List Upd), 0 ≤ y ∧ y ≤ (n : Int) ∧ i = .int .i64 y ∧ Aside0 (us.length = n) ∧ Aside0 (Own N wr (R ++ [row kU Sep.TU (.slice A n c) us])) ∧ Aside0 (KeepS N w wr)
def RoR (N : Nat → Prop) (w : World) (R : List HP) (n : Nat) (A : Option Addr) (c : Nat) (i : Value) (wr : World) : Prop := ∃ (y : Int) (L2 : List Rnd), 0 ≤ y ∧ y ≤ (n : Int) ∧ i = .int .i64 y ∧ Aside0 (L2.length = n) ∧ Aside0 (Own N wr (R ++ [row kR Sep.TR (.slice A n c) L2])) ∧ Aside0 (KeepS N w wr)
def RoQ (N : Nat → Prop) (w : World) (R : List HP) (gq n : Nat) (ad : Addr) (c : Nat) (y q0 q1 : Int) (A2 : Option Addr) (m c2 : Nat) (i : Value) (wr : World) : Prop := ∃ (z : Int) (L2 : List Rnd), 0 ≤ z ∧ z ≤ (m : Int) ∧ i = .int .i64 z ∧ Aside0 (L2.length = n) ∧ Aside0 (Own N wr (R ++ [both (row kR Sep.TR (.slice (some ad) n c) L2) (cellIs ⟨(ad.add (y.toNat * 3)).block, (ad.add (y.toNat * 3)).off + 2, none⟩ (.slice A2 m c2)), cells gq #[.int .i64 q0, .int .i64 q1, .slice A2 m c2] 31])) ∧ Aside0 (KeepS N w wr)
set_option maxHeartbeats 16000000 in
set_option maxRecDepth 100000 in
theorem chapbooklaw14_CommitRounds.calls (a0 : Int) (A1 : Option Addr) (c1 : Nat) (l1 : List Rnd) (a2_0 : Int) (a2_1 : Int) (r : Bool) (w : World) (hr1 : Kd.C k31 w A1 l1.length l1) (hc1 : l1.length ≤ c1) (h : chapbooklaw14_CommitRounds.f a0 l1 a2_0 a2_1 = some r) :
  Calls Try.prog 4 #[.int .i64 a0, .slice A1 l1.length c1, .agg #[.int .i64 a2_0, .int .i64 a2_1]] w fun e_ w' => e_ = .returned (.bool r) ∧ Below w.heap.size w w' := by
 obtain rfl : true = r := Option.some.inj h
 obtain ⟨A0, eA_⟩ : ∃ A0, A0 = A1 := ⟨_, rfl⟩
 obtain ⟨c0, ec_⟩ : ∃ c0, c0 = c1 := ⟨_, rfl⟩
 obtain ⟨l0, el_⟩ : ∃ l0, l0 = l1 := ⟨_, rfl⟩
 subst eA_
 subst ec_
 subst el_
 have hr0 := hr1
 have hc0 := hc1
 clear hr1 hc1
 obtain ⟨N, hN⟩ : ∃ N : Nat → Prop, N = fun k => k < w.heap.size := ⟨_, rfl⟩
 have HN := Aside0.mk hN
 have HRL0 : Aside0 (Kd.F k31 w N A0 l0.length l0) := ⟨by rw [hN]; exact Kd.C_F heapR hr0⟩
 have HR0 := Aside0.mk hr0
 have HC0 := Aside0.mk hc0
 obtain ⟨C, hC⟩ : ∃ C, C = mn (mx a0 1) 64 := ⟨_, rfl⟩
 have HCE := Aside0.mk hC.symm
 have HCR : Aside0 (1 ≤ C ∧ C ≤ 64) := ⟨by rw [hC]; exact C_range _⟩
 clear hC
 have O0 : Aside0 (Own N w []) := ⟨Own.start_ (fun k hk => by rw [hN] at hk; exact hk)⟩
 have K0 : Aside0 (KeepS N w w) := ⟨KeepS.refl _ _⟩
 clear hN hr0 hc0
 obtain ⟨b, hgr, hgb⟩ := great14_ok l0
 have HGR := Aside0.mk hgr
 have HGB := Aside0.mk hgb
 clear hgr hgb h
 cases b with
 | true =>
  go_enter Try.func4, Try.ntmps4
  go_wp2_with (first | ((with_reducible refine gate_dst (N := 5) rfl ?_); refine own_box rfl (D := 5) rfl (cs := #[.int .i64 a2_0, .int .i64 a2_1]) (t := 41) ?hr O0.out ?_; (case hr => first | (go_simp; done) | (go_simp; rfl)); intro gx w1 o_ k_; have O1 : Aside0 (Own N w1 [cells gx #[.int .i64 a2_0, .int .i64 a2_1] 41]) := ⟨o_⟩; have K1 : Aside0 (KeepS N w w1) := ⟨K0.out.trans k_⟩; clear O0 K0; have c1_0_0 : w1.cell? ⟨gx, 0, none⟩ = some (.int .i64 a2_0) := (blk_cell (O1.out.blk (i := 0) rfl) 0).trans rfl; have f1_0_0 : w1.frozen? ⟨gx, 0, none⟩ = false := blk_frozen (O1.out.blk (i := 0) rfl) 0; have c1_0_1 : w1.cell? ⟨gx, 1, none⟩ = some (.int .i64 a2_1) := (blk_cell (O1.out.blk (i := 0) rfl) 1).trans rfl; have f1_0_1 : w1.frozen? ⟨gx, 1, none⟩ = false := blk_frozen (O1.out.blk (i := 0) rfl) 1; clear o_ k_) | ((with_reducible refine gate_callee (f := 9) rfl ?_); refine goesL_ (some 19) rfl rfl Try.func9 (by kernel_rfl) rfl #[.int .i64 a0] rfl (by (try simp only [List.map_toArray, List.map_cons, List.map_nil]); first | done | rfl) ?_; obtain ⟨N_, on_, nn_, rr_, bb_⟩ := O1.out.frame0; refine (New_n a0 C HCE.out on_).mono ?_; rintro e_ w2 ⟨gj, rfl, oo_, kk_⟩; obtain ⟨o_, k_⟩ := bb_ _ _ kk_ oo_; refine ⟨_, rfl, ?_⟩; have O2 : Aside0 (Own N w2 [cells gx #[.int .i64 a2_0, .int .i64 a2_1] 41, ObjC gj C []]) := ⟨o_⟩; have K2 : Aside0 (KeepS N w w2) := ⟨K1.out.trans k_⟩; clear c1_0_0 f1_0_0 c1_0_1 f1_0_1 O1 K1; have c2_0_0 : w2.cell? ⟨gx, 0, none⟩ = some (.int .i64 a2_0) := (blk_cell (O2.out.blk (i := 0) rfl) 0).trans rfl; have f2_0_0 : w2.frozen? ⟨gx, 0, none⟩ = false := blk_frozen (O2.out.blk (i := 0) rfl) 0; have c2_0_1 : w2.cell? ⟨gx, 1, none⟩ = some (.int .i64 a2_1) := (blk_cell (O2.out.blk (i := 0) rfl) 1).trans rfl; have f2_0_1 : w2.frozen? ⟨gx, 1, none⟩ = false := blk_frozen (O2.out.blk (i := 0) rfl) 1; clear o_ k_ oo_ kk_ on_ nn_ rr_ bb_) | ((with_reducible refine gate_callee (f := 10) rfl ?_); refine goesL_ (some 21) rfl rfl Try.func10 (by kernel_rfl) rfl #[.int .i64 a0] rfl (by (try simp only [List.map_toArray, List.map_cons, List.map_nil]); first | done | rfl) ?_; obtain ⟨N_, on_, nn_, rr_, bb_⟩ := O2.out.frame0; refine (RNew a0 C HCE.out on_).mono ?_; rintro e_ w3 ⟨gm, rfl, oo_, kk_⟩; obtain ⟨o_, k_⟩ := bb_ _ _ kk_ oo_; refine ⟨_, rfl, ?_⟩; have O3 : Aside0 (Own N w3 [cells gx #[.int .i64 a2_0, .int .i64 a2_1] 41, ObjC gj C [], ObjM gm C []]) := ⟨o_⟩; have K3 : Aside0 (KeepS N w w3) := ⟨K2.out.trans k_⟩; clear c2_0_0 f2_0_0 c2_0_1 f2_0_1 O2 K2; have c3_0_0 : w3.cell? ⟨gx, 0, none⟩ = some (.int .i64 a2_0) := (blk_cell (O3.out.blk (i := 0) rfl) 0).trans rfl; have f3_0_0 : w3.frozen? ⟨gx, 0, none⟩ = false := blk_frozen (O3.out.blk (i := 0) rfl) 0; have c3_0_1 : w3.cell? ⟨gx, 1, none⟩ = some (.int .i64 a2_1) := (blk_cell (O3.out.blk (i := 0) rfl) 1).trans rfl; have f3_0_1 : w3.frozen? ⟨gx, 1, none⟩ = false := blk_frozen (O3.out.blk (i := 0) rfl) 1; clear o_ k_ oo_ kk_ on_ nn_ rr_ bb_) | ((with_reducible refine gate_callee (f := 11) rfl ?_); refine goesL_ (some 22) rfl rfl Try.func11 (by kernel_rfl) rfl #[] rfl (by (try simp only [List.map_toArray, List.map_cons, List.map_nil]); first | done | rfl) ?_; refine (awake _).mono ?_; rintro e_ w4 ⟨rfl, hb_⟩; refine ⟨_, rfl, ?_⟩; have o_ := O3.out.below hb_; have k_ := KeepS.of_below (N := N) hb_; have O4 : Aside0 (Own N w4 [cells gx #[.int .i64 a2_0, .int .i64 a2_1] 41, ObjC gj C [], ObjM gm C []]) := ⟨o_⟩; have K4 : Aside0 (KeepS N w w4) := ⟨K3.out.trans k_⟩; clear c3_0_0 f3_0_0 c3_0_1 f3_0_1 O3 K3; have c4_0_0 : w4.cell? ⟨gx, 0, none⟩ = some (.int .i64 a2_0) := (blk_cell (O4.out.blk (i := 0) rfl) 0).trans rfl; have f4_0_0 : w4.frozen? ⟨gx, 0, none⟩ = false := blk_frozen (O4.out.blk (i := 0) rfl) 0; have c4_0_1 : w4.cell? ⟨gx, 1, none⟩ = some (.int .i64 a2_1) := (blk_cell (O4.out.blk (i := 0) rfl) 1).trans rfl; have f4_0_1 : w4.frozen? ⟨gx, 1, none⟩ = false := blk_frozen (O4.out.blk (i := 0) rfl) 1; clear o_ k_ hb_) | ((with_reducible refine gate_callee (f := 12) rfl ?_); refine gate_guard (by rfl) ?_; refine goesL_ (some 30) rfl rfl Try.func12 (by kernel_rfl) rfl #[.slice A0 l0.length c0] rfl (by (try simp only [List.map_toArray, List.map_cons, List.map_nil]); first | done | rfl) ?_; refine (chapbookref07_GreatAll.calls 300 _ _ l0 true _ (Kd.C_below HR0.out (K4.out.below (Nat.le_refl _) (fun k hk => by rw [HN.out]; exact hk))) HC0.out HGR.out).mono ?_; rintro e_ w5 ⟨rfl, hb_⟩; refine ⟨_, rfl, ?_⟩; have o_ := O4.out.below hb_; have k_ := KeepS.of_below (N := N) hb_; have O5 : Aside0 (Own N w5 [cells gx #[.int .i64 a2_0, .int .i64 a2_1] 41, ObjC gj C [], ObjM gm C []]) := ⟨o_⟩; have K5 : Aside0 (KeepS N w w5) := ⟨K4.out.trans k_⟩; clear c4_0_0 f4_0_0 c4_0_1 f4_0_1 O4 K4; have c5_0_0 : w5.cell? ⟨gx, 0, none⟩ = some (.int .i64 a2_0) := (blk_cell (O5.out.blk (i := 0) rfl) 0).trans rfl; have f5_0_0 : w5.frozen? ⟨gx, 0, none⟩ = false := blk_frozen (O5.out.blk (i := 0) rfl) 0; have c5_0_1 : w5.cell? ⟨gx, 1, none⟩ = some (.int .i64 a2_1) := (blk_cell (O5.out.blk (i := 0) rfl) 1).trans rfl; have f5_0_1 : w5.frozen? ⟨gx, 1, none⟩ = false := blk_frozen (O5.out.blk (i := 0) rfl) 1; clear o_ k_ hb_) | ((with_reducible refine gate_callee (f := 11) rfl ?_); refine goesL_ (some 32) rfl rfl Try.func11 (by kernel_rfl) rfl #[] rfl (by (try simp only [List.map_toArray, List.map_cons, List.map_nil]); first | done | rfl) ?_; refine (awake _).mono ?_; rintro e_ w6 ⟨rfl, hb_⟩; refine ⟨_, rfl, ?_⟩; have o_ := O5.out.below hb_; have k_ := KeepS.of_below (N := N) hb_; have O6 : Aside0 (Own N w6 [cells gx #[.int .i64 a2_0, .int .i64 a2_1] 41, ObjC gj C [], ObjM gm C []]) := ⟨o_⟩; have K6 : Aside0 (KeepS N w w6) := ⟨K5.out.trans k_⟩; clear c5_0_0 f5_0_0 c5_0_1 f5_0_1 O5 K5; have c6_0_0 : w6.cell? ⟨gx, 0, none⟩ = some (.int .i64 a2_0) := (blk_cell (O6.out.blk (i := 0) rfl) 0).trans rfl; have f6_0_0 : w6.frozen? ⟨gx, 0, none⟩ = false := blk_frozen (O6.out.blk (i := 0) rfl) 0; have c6_0_1 : w6.cell? ⟨gx, 1, none⟩ = some (.int .i64 a2_1) := (blk_cell (O6.out.blk (i := 0) rfl) 1).trans rfl; have f6_0_1 : w6.frozen? ⟨gx, 1, none⟩ = false := blk_frozen (O6.out.blk (i := 0) rfl) 1; clear o_ k_ hb_))
  go_ret
  exact ⟨rfl, K6.out.below (Nat.le_refl _) (fun k hk => by rw [HN.out]; exact hk)⟩
 | false =>
  obtain ⟨hl40, hl20⟩ := HGB.out rfl
  have HL40 := Aside0.mk hl40
  have HL20 := Aside0.mk hl20
  clear hl40 hl20 HGB
  go_enter Try.func4, Try.ntmps4
  go_wp2_with (first | ((with_reducible refine gate_dst (N := 5) rfl ?_); refine own_box rfl (D := 5) rfl (cs := #[.int .i64 a2_0, .int .i64 a2_1]) (t := 41) ?hr O0.out ?_; (case hr => first | (go_simp; done) | (go_simp; rfl)); intro gx w1 o_ k_; have O1 : Aside0 (Own N w1 [cells gx #[.int .i64 a2_0, .int .i64 a2_1] 41]) := ⟨o_⟩; have K1 : Aside0 (KeepS N w w1) := ⟨K0.out.trans k_⟩; clear O0 K0; have c1_0_0 : w1.cell? ⟨gx, 0, none⟩ = some (.int .i64 a2_0) := (blk_cell (O1.out.blk (i := 0) rfl) 0).trans rfl; have f1_0_0 : w1.frozen? ⟨gx, 0, none⟩ = false := blk_frozen (O1.out.blk (i := 0) rfl) 0; have c1_0_1 : w1.cell? ⟨gx, 1, none⟩ = some (.int .i64 a2_1) := (blk_cell (O1.out.blk (i := 0) rfl) 1).trans rfl; have f1_0_1 : w1.frozen? ⟨gx, 1, none⟩ = false := blk_frozen (O1.out.blk (i := 0) rfl) 1; clear o_ k_) | ((with_reducible refine gate_callee (f := 9) rfl ?_); refine goesL_ (some 19) rfl rfl Try.func9 (by kernel_rfl) rfl #[.int .i64 a0] rfl (by (try simp only [List.map_toArray, List.map_cons, List.map_nil]); first | done | rfl) ?_; obtain ⟨N_, on_, nn_, rr_, bb_⟩ := O1.out.frame0; refine (New_n a0 C HCE.out on_).mono ?_; rintro e_ w2 ⟨gj, rfl, oo_, kk_⟩; obtain ⟨o_, k_⟩ := bb_ _ _ kk_ oo_; refine ⟨_, rfl, ?_⟩; have O2 : Aside0 (Own N w2 [cells gx #[.int .i64 a2_0, .int .i64 a2_1] 41, ObjC gj C []]) := ⟨o_⟩; have K2 : Aside0 (KeepS N w w2) := ⟨K1.out.trans k_⟩; clear c1_0_0 f1_0_0 c1_0_1 f1_0_1 O1 K1; have c2_0_0 : w2.cell? ⟨gx, 0, none⟩ = some (.int .i64 a2_0) := (blk_cell (O2.out.blk (i := 0) rfl) 0).trans rfl; have f2_0_0 : w2.frozen? ⟨gx, 0, none⟩ = false := blk_frozen (O2.out.blk (i := 0) rfl) 0; have c2_0_1 : w2.cell? ⟨gx, 1, none⟩ = some (.int .i64 a2_1) := (blk_cell (O2.out.blk (i := 0) rfl) 1).trans rfl; have f2_0_1 : w2.frozen? ⟨gx, 1, none⟩ = false := blk_frozen (O2.out.blk (i := 0) rfl) 1; clear o_ k_ oo_ kk_ on_ nn_ rr_ bb_) | ((with_reducible refine gate_callee (f := 10) rfl ?_); refine goesL_ (some 21) rfl rfl Try.func10 (by kernel_rfl) rfl #[.int .i64 a0] rfl (by (try simp only [List.map_toArray, List.map_cons, List.map_nil]); first | done | rfl) ?_; obtain ⟨N_, on_, nn_, rr_, bb_⟩ := O2.out.frame0; refine (RNew a0 C HCE.out on_).mono ?_; rintro e_ w3 ⟨gm, rfl, oo_, kk_⟩; obtain ⟨o_, k_⟩ := bb_ _ _ kk_ oo_; refine ⟨_, rfl, ?_⟩; have O3 : Aside0 (Own N w3 [cells gx #[.int .i64 a2_0, .int .i64 a2_1] 41, ObjC gj C [], ObjM gm C []]) := ⟨o_⟩; have K3 : Aside0 (KeepS N w w3) := ⟨K2.out.trans k_⟩; clear c2_0_0 f2_0_0 c2_0_1 f2_0_1 O2 K2; have c3_0_0 : w3.cell? ⟨gx, 0, none⟩ = some (.int .i64 a2_0) := (blk_cell (O3.out.blk (i := 0) rfl) 0).trans rfl; have f3_0_0 : w3.frozen? ⟨gx, 0, none⟩ = false := blk_frozen (O3.out.blk (i := 0) rfl) 0; have c3_0_1 : w3.cell? ⟨gx, 1, none⟩ = some (.int .i64 a2_1) := (blk_cell (O3.out.blk (i := 0) rfl) 1).trans rfl; have f3_0_1 : w3.frozen? ⟨gx, 1, none⟩ = false := blk_frozen (O3.out.blk (i := 0) rfl) 1; clear o_ k_ oo_ kk_ on_ nn_ rr_ bb_) | ((with_reducible refine gate_callee (f := 11) rfl ?_); refine goesL_ (some 22) rfl rfl Try.func11 (by kernel_rfl) rfl #[] rfl (by (try simp only [List.map_toArray, List.map_cons, List.map_nil]); first | done | rfl) ?_; refine (awake _).mono ?_; rintro e_ w4 ⟨rfl, hb_⟩; refine ⟨_, rfl, ?_⟩; have o_ := O3.out.below hb_; have k_ := KeepS.of_below (N := N) hb_; have O4 : Aside0 (Own N w4 [cells gx #[.int .i64 a2_0, .int .i64 a2_1] 41, ObjC gj C [], ObjM gm C []]) := ⟨o_⟩; have K4 : Aside0 (KeepS N w w4) := ⟨K3.out.trans k_⟩; clear c3_0_0 f3_0_0 c3_0_1 f3_0_1 O3 K3; have c4_0_0 : w4.cell? ⟨gx, 0, none⟩ = some (.int .i64 a2_0) := (blk_cell (O4.out.blk (i := 0) rfl) 0).trans rfl; have f4_0_0 : w4.frozen? ⟨gx, 0, none⟩ = false := blk_frozen (O4.out.blk (i := 0) rfl) 0; have c4_0_1 : w4.cell? ⟨gx, 1, none⟩ = some (.int .i64 a2_1) := (blk_cell (O4.out.blk (i := 0) rfl) 1).trans rfl; have f4_0_1 : w4.frozen? ⟨gx, 1, none⟩ = false := blk_frozen (O4.out.blk (i := 0) rfl) 1; clear o_ k_ hb_) | ((with_reducible refine gate_callee (f := 12) rfl ?_); refine gate_guard (by rfl) ?_; refine goesL_ (some 30) rfl rfl Try.func12 (by kernel_rfl) rfl #[.slice A0 l0.length c0] rfl (by (try simp only [List.map_toArray, List.map_cons, List.map_nil]); first | done | rfl) ?_; refine (chapbookref07_GreatAll.calls 300 _ _ l0 false _ (Kd.C_below HR0.out (K4.out.below (Nat.le_refl _) (fun k hk => by rw [HN.out]; exact hk))) HC0.out HGR.out).mono ?_; rintro e_ w5 ⟨rfl, hb_⟩; refine ⟨_, rfl, ?_⟩; have o_ := O4.out.below hb_; have k_ := KeepS.of_below (N := N) hb_; have O5 : Aside0 (Own N w5 [cells gx #[.int .i64 a2_0, .int .i64 a2_1] 41, ObjC gj C [], ObjM gm C []]) := ⟨o_⟩; have K5 : Aside0 (KeepS N w w5) := ⟨K4.out.trans k_⟩; clear c4_0_0 f4_0_0 c4_0_1 f4_0_1 O4 K4; have c5_0_0 : w5.cell? ⟨gx, 0, none⟩ = some (.int .i64 a2_0) := (blk_cell (O5.out.blk (i := 0) rfl) 0).trans rfl; have f5_0_0 : w5.frozen? ⟨gx, 0, none⟩ = false := blk_frozen (O5.out.blk (i := 0) rfl) 0; have c5_0_1 : w5.cell? ⟨gx, 1, none⟩ = some (.int .i64 a2_1) := (blk_cell (O5.out.blk (i := 0) rfl) 1).trans rfl; have f5_0_1 : w5.frozen? ⟨gx, 1, none⟩ = false := blk_frozen (O5.out.blk (i := 0) rfl) 1; clear o_ k_ hb_))
  go_loopw [35] (fun i wr => RoI N w l0 gj gm gx a2_0 a2_1 C i wr) (fun i _ => l0.length - (intOf i).toNat)
  case atStart => exact ⟨0, [], by omega, by omega, rfl, ⟨by decide, good_nil _⟩, O5, K5⟩
  case round =>
   clear c5_0_0 f5_0_0 c5_0_1 f5_0_1
   obtain ⟨x, L, hx0, hx1, rfl, HI, OA, KA⟩ := hrel
   have hF2 := keepF HRL0.out KA.out
   have hLx := HL40.out
   have HLL : Aside0 (L.length ≤ 1000000) := ⟨by have := HI.out.1; omega⟩
   by_cases hlt : x < (l0.length : Int)
   ·obtain ⟨ad, A3, c3, e3, x0, x1, x2, hl3, hF3⟩ := at_F hF2 x hx0 hlt
    cases e3
    have HC3 := Aside0.mk hl3
    have HF3 := Aside0.mk hF3
    have hs2 : wrap64 (x + 1) = x + 1 := by unfold wrap64; omega
    have hp := eq_true hx0
    have hq := eq_true hlt
    have hd : decide (x < (l0.length : Int)) = true := decide_eq_true hlt
    have HX := Aside0.mk (And.intro hx0 hlt)
    have HU : Aside0 ((rd_T31 l0 x).f2.length ≤ 1000000) := ⟨Nat.le_trans (HL20.out x hx0 hlt) (by decide)⟩
    clear hF3 hF2 hl3
    have O6 : Aside0 (Own N wr [cells gx #[.int .i64 a2_0, .int .i64 a2_1] 41, ObjC gj C L, ObjM gm C L]) := ⟨OA.out⟩
    have K6 : Aside0 (KeepS N w wr) := ⟨KA.out⟩
    have HRI_6 : Aside0 (Kd.F k47 wr N A3 (rd_T31 l0 x).f2.length (rd_T31 l0 x).f2) := ⟨HF3.out⟩
    clear OA KA HF3
    by_cases he : addE C L (rd_T31 l0 x) = 0
    ·have HE := Aside0.mk he
     clear he hlt hx0 hx1
     go_wp2_with (first | ((with_reducible refine gate_dst (N := 10) rfl ?_); refine own_box rfl (D := 10) rfl (cs := #[.int .i64 0, .int .i64 0, .slice none 0 0]) (t := 31) ?hr O6.out ?_; (case hr => first | (go_simp; done) | (go_simp; rfl)); intro gy w7 o_ k_; have O7 : Aside0 (Own N w7 [cells gx #[.int .i64 a2_0, .int .i64 a2_1] 41, ObjC gj C L, ObjM gm C L, cells gy #[.int .i64 0, .int .i64 0, .slice none 0 0] 31]) := ⟨o_⟩; have K7 : Aside0 (KeepS N w w7) := ⟨K6.out.trans k_⟩; have HRI_7 : Aside0 (Kd.F k47 w7 N A3 (rd_T31 l0 x).f2.length (rd_T31 l0 x).f2) := ⟨keepF HRI_6.out k_⟩; clear O6 K6 HRI_6; have c7_3_0 : w7.cell? ⟨gy, 0, none⟩ = some (.int .i64 0) := (blk_cell (O7.out.blk (i := 3) rfl) 0).trans rfl; have f7_3_0 : w7.frozen? ⟨gy, 0, none⟩ = false := blk_frozen (O7.out.blk (i := 3) rfl) 0; have c7_3_1 : w7.cell? ⟨gy, 1, none⟩ = some (.int .i64 0) := (blk_cell (O7.out.blk (i := 3) rfl) 1).trans rfl; have f7_3_1 : w7.frozen? ⟨gy, 1, none⟩ = false := blk_frozen (O7.out.blk (i := 3) rfl) 1; have c7_3_2 : w7.cell? ⟨gy, 2, none⟩ = some (.slice none 0 0) := (blk_cell (O7.out.blk (i := 3) rfl) 2).trans rfl; have f7_3_2 : w7.frozen? ⟨gy, 2, none⟩ = false := blk_frozen (O7.out.blk (i := 3) rfl) 2; clear o_ k_) | ((with_reducible refine gate_store (t := 31) (p := 10) rfl ?_); refine own_store rfl rfl rfl (w1 := (World.setCell (World.setCell (World.setCell w7 ⟨gy, 0, none⟩ (.int .i64 (rd_T31 l0 x).f0)) ⟨gy, 1, none⟩ (.int .i64 (rd_T31 l0 x).f1)) ⟨gy, 2, none⟩ (.slice A3 (rd_T31 l0 x).f2.length c3))) (N := N) (l' := [cells gx #[.int .i64 a2_0, .int .i64 a2_1] 41, ObjC gj C L, ObjM gm C L, cells gy #[.int .i64 (rd_T31 l0 x).f0, .int .i64 (rd_T31 l0 x).f1, .slice A3 (rd_T31 l0 x).f2.length c3] 31]) ?hr ?ho ?hk ?_; (case hr => first | (go_simp; done) | (go_simp; rfl)); (case ho => exact (((O7.out.set (i := 3) rfl 0 (.int .i64 (rd_T31 l0 x).f0)).set (i := 3) rfl 1 (.int .i64 (rd_T31 l0 x).f1)).set (i := 3) rfl 2 (.slice A3 (rd_T31 l0 x).f2.length c3))); (case hk => exact (((KeepS.setCell (O7.out.far (i := 3) rfl) (.int .i64 (rd_T31 l0 x).f0)).trans (KeepS.setCell (O7.out.far (i := 3) rfl) (.int .i64 (rd_T31 l0 x).f1))).trans (KeepS.setCell (O7.out.far (i := 3) rfl) (.slice A3 (rd_T31 l0 x).f2.length c3)))); intro w8 o_ k_; have O8 : Aside0 (Own N w8 [cells gx #[.int .i64 a2_0, .int .i64 a2_1] 41, ObjC gj C L, ObjM gm C L, cells gy #[.int .i64 (rd_T31 l0 x).f0, .int .i64 (rd_T31 l0 x).f1, .slice A3 (rd_T31 l0 x).f2.length c3] 31]) := ⟨o_⟩; have K8 : Aside0 (KeepS N w w8) := ⟨K7.out.trans k_⟩; have HRI_8 : Aside0 (Kd.F k47 w8 N A3 (rd_T31 l0 x).f2.length (rd_T31 l0 x).f2) := ⟨keepF HRI_7.out k_⟩; clear c7_3_0 f7_3_0 c7_3_1 f7_3_1 c7_3_2 f7_3_2 O7 K7 HRI_7; have c8_3_0 : w8.cell? ⟨gy, 0, none⟩ = some (.int .i64 (rd_T31 l0 x).f0) := (blk_cell (O8.out.blk (i := 3) rfl) 0).trans rfl; have f8_3_0 : w8.frozen? ⟨gy, 0, none⟩ = false := blk_frozen (O8.out.blk (i := 3) rfl) 0; have c8_3_1 : w8.cell? ⟨gy, 1, none⟩ = some (.int .i64 (rd_T31 l0 x).f1) := (blk_cell (O8.out.blk (i := 3) rfl) 1).trans rfl; have f8_3_1 : w8.frozen? ⟨gy, 1, none⟩ = false := blk_frozen (O8.out.blk (i := 3) rfl) 1; have c8_3_2 : w8.cell? ⟨gy, 2, none⟩ = some (.slice A3 (rd_T31 l0 x).f2.length c3) := (blk_cell (O8.out.blk (i := 3) rfl) 2).trans rfl; have f8_3_2 : w8.frozen? ⟨gy, 2, none⟩ = false := blk_frozen (O8.out.blk (i := 3) rfl) 2; clear o_ k_) | ((with_reducible refine gate_callee (f := 13) rfl ?_); refine goesL_ (some 41) rfl rfl Try.func13 (by kernel_rfl) rfl #[.pointer (some ⟨gj, 0, none⟩), .agg #[.int .i64 (rd_T31 l0 x).f0, .int .i64 (rd_T31 l0 x).f1, .slice A3 (rd_T31 l0 x).f2.length c3]] rfl (by (try simp only [List.map_toArray, List.map_cons, List.map_nil]); first | done | rfl) ?_; obtain ⟨N_, on_, nn_, rr_, bb_⟩ := O8.out.frame1 (i := 1) rfl; have hr_ := Kd.F_mono HRI_8.out nn_; refine (Add_y A3 c3 (rd_T31 l0 x).f0 (rd_T31 l0 x).f1 (rd_T31 l0 x).f2 on_ hr_ HC3.out HLL.out HU.out HI.out.2 HE.out).mono ?_; rintro e_ w9 ⟨rfl, oo_, kk_⟩; obtain ⟨o_, k_⟩ := bb_ _ _ _ kk_ oo_; refine ⟨_, rfl, ?_⟩; have O9 : Aside0 (Own N w9 [cells gx #[.int .i64 a2_0, .int .i64 a2_1] 41, ObjC gj C (L ++ [(rd_T31 l0 x)]), ObjM gm C L, cells gy #[.int .i64 (rd_T31 l0 x).f0, .int .i64 (rd_T31 l0 x).f1, .slice A3 (rd_T31 l0 x).f2.length c3] 31]) := ⟨o_⟩; have K9 : Aside0 (KeepS N w w9) := ⟨K8.out.trans k_⟩; have HRI_9 : Aside0 (Kd.F k47 w9 N A3 (rd_T31 l0 x).f2.length (rd_T31 l0 x).f2) := ⟨keepF HRI_8.out k_⟩; clear c8_3_0 f8_3_0 c8_3_1 f8_3_1 c8_3_2 f8_3_2 O8 K8 HRI_8; have c9_3_0 : w9.cell? ⟨gy, 0, none⟩ = some (.int .i64 (rd_T31 l0 x).f0) := (blk_cell (O9.out.blk (i := 3) rfl) 0).trans rfl; have f9_3_0 : w9.frozen? ⟨gy, 0, none⟩ = false := blk_frozen (O9.out.blk (i := 3) rfl) 0; have c9_3_1 : w9.cell? ⟨gy, 1, none⟩ = some (.int .i64 (rd_T31 l0 x).f1) := (blk_cell (O9.out.blk (i := 3) rfl) 1).trans rfl; have f9_3_1 : w9.frozen? ⟨gy, 1, none⟩ = false := blk_frozen (O9.out.blk (i := 3) rfl) 1; have c9_3_2 : w9.cell? ⟨gy, 2, none⟩ = some (.slice A3 (rd_T31 l0 x).f2.length c3) := (blk_cell (O9.out.blk (i := 3) rfl) 2).trans rfl; have f9_3_2 : w9.frozen? ⟨gy, 2, none⟩ = false := blk_frozen (O9.out.blk (i := 3) rfl) 2; clear o_ k_ oo_ kk_ on_ nn_ rr_ bb_ hr_) | ((with_reducible refine gate_callee (f := 14) rfl ?_); refine goesL_ (some 44) rfl rfl Try.func14 (by kernel_rfl) rfl #[.pointer (some ⟨gm, 0, none⟩), .agg #[.int .i64 (rd_T31 l0 x).f0, .int .i64 (rd_T31 l0 x).f1, .slice A3 (rd_T31 l0 x).f2.length c3]] rfl (by (try simp only [List.map_toArray, List.map_cons, List.map_nil]); first | done | rfl) ?_; obtain ⟨N_, on_, nn_, rr_, bb_⟩ := O9.out.frame1 (i := 2) rfl; have hr_ := Kd.F_mono HRI_9.out nn_; refine (RAdd_y A3 c3 (rd_T31 l0 x).f0 (rd_T31 l0 x).f1 (rd_T31 l0 x).f2 on_ hr_ HC3.out HLL.out HU.out HI.out.2 HE.out).mono ?_; rintro e_ w10 ⟨B5, d5, rfl, hcc_, oo_, kk_⟩; obtain ⟨o_, k_⟩ := bb_ _ _ _ kk_ oo_; refine ⟨_, rfl, ?_⟩; have O10 : Aside0 (Own N w10 [cells gx #[.int .i64 a2_0, .int .i64 a2_1] 41, ObjC gj C (L ++ [(rd_T31 l0 x)]), cells gm #[.int .i64 C, .slice B5 (L ++ [(rd_T31 l0 x)]).length d5] 37, cells gy #[.int .i64 (rd_T31 l0 x).f0, .int .i64 (rd_T31 l0 x).f1, .slice A3 (rd_T31 l0 x).f2.length c3] 31, nrow k31 31 (.slice B5 (L ++ [(rd_T31 l0 x)]).length d5) (L ++ [(rd_T31 l0 x)])]) := ⟨o_⟩; have K10 : Aside0 (KeepS N w w10) := ⟨K9.out.trans k_⟩; have HRI_10 : Aside0 (Kd.F k47 w10 N A3 (rd_T31 l0 x).f2.length (rd_T31 l0 x).f2) := ⟨keepF HRI_9.out k_⟩; clear c9_3_0 f9_3_0 c9_3_1 f9_3_1 c9_3_2 f9_3_2 O9 K9 HRI_9; have c10_3_0 : w10.cell? ⟨gy, 0, none⟩ = some (.int .i64 (rd_T31 l0 x).f0) := (blk_cell (O10.out.blk (i := 3) rfl) 0).trans rfl; have f10_3_0 : w10.frozen? ⟨gy, 0, none⟩ = false := blk_frozen (O10.out.blk (i := 3) rfl) 0; have c10_3_1 : w10.cell? ⟨gy, 1, none⟩ = some (.int .i64 (rd_T31 l0 x).f1) := (blk_cell (O10.out.blk (i := 3) rfl) 1).trans rfl; have f10_3_1 : w10.frozen? ⟨gy, 1, none⟩ = false := blk_frozen (O10.out.blk (i := 3) rfl) 1; have c10_3_2 : w10.cell? ⟨gy, 2, none⟩ = some (.slice A3 (rd_T31 l0 x).f2.length c3) := (blk_cell (O10.out.blk (i := 3) rfl) 2).trans rfl; have f10_3_2 : w10.frozen? ⟨gy, 2, none⟩ = false := blk_frozen (O10.out.blk (i := 3) rfl) 2; clear o_ k_ oo_ kk_ on_ nn_ rr_ bb_ hr_ hcc_))
     go_roundw
     case rel => exact ⟨x + 1, (L ++ [(rd_T31 l0 x)]), by have := HX.out; omega, by have := HX.out; omega, int_eq (by unfold wrap64; have := HX.out; have := HL40.out; omega), ⟨⟨by have := HI.out.1; have := HX.out; simp; omega, good_snoc HI.out.2 HE.out⟩⟩, ⟨(ObjG.shut (f := fun v => #[.int .i64 C, v]) (i := 2) (j := 4) O10.out rfl rfl (by decide)).pickL [0, 1, 2] (by decide) (by simp)⟩, K10⟩
     case measure => have := HX.out; simp [intOf]; omega
    ·have HE := Aside0.mk he
     obtain ⟨E, hE⟩ : ∃ E, E = addE C L (rd_T31 l0 x) := ⟨_, rfl⟩
     have HE2 := Aside0.mk hE.symm
     have HE3 : Aside0 (E ≠ 0) := ⟨by rw [hE]; exact he⟩
     clear hE
     clear he hlt hx0 hx1
     go_wp2_with (first | ((with_reducible refine gate_dst (N := 10) rfl ?_); refine own_box rfl (D := 10) rfl (cs := #[.int .i64 0, .int .i64 0, .slice none 0 0]) (t := 31) ?hr O6.out ?_; (case hr => first | (go_simp; done) | (go_simp; rfl)); intro gy w7 o_ k_; have O7 : Aside0 (Own N w7 [cells gx #[.int .i64 a2_0, .int .i64 a2_1] 41, ObjC gj C L, ObjM gm C L, cells gy #[.int .i64 0, .int .i64 0, .slice none 0 0] 31]) := ⟨o_⟩; have K7 : Aside0 (KeepS N w w7) := ⟨K6.out.trans k_⟩; have HRI_7 : Aside0 (Kd.F k47 w7 N A3 (rd_T31 l0 x).f2.length (rd_T31 l0 x).f2) := ⟨keepF HRI_6.out k_⟩; clear O6 K6 HRI_6; have c7_3_0 : w7.cell? ⟨gy, 0, none⟩ = some (.int .i64 0) := (blk_cell (O7.out.blk (i := 3) rfl) 0).trans rfl; have f7_3_0 : w7.frozen? ⟨gy, 0, none⟩ = false := blk_frozen (O7.out.blk (i := 3) rfl) 0; have c7_3_1 : w7.cell? ⟨gy, 1, none⟩ = some (.int .i64 0) := (blk_cell (O7.out.blk (i := 3) rfl) 1).trans rfl; have f7_3_1 : w7.frozen? ⟨gy, 1, none⟩ = false := blk_frozen (O7.out.blk (i := 3) rfl) 1; have c7_3_2 : w7.cell? ⟨gy, 2, none⟩ = some (.slice none 0 0) := (blk_cell (O7.out.blk (i := 3) rfl) 2).trans rfl; have f7_3_2 : w7.frozen? ⟨gy, 2, none⟩ = false := blk_frozen (O7.out.blk (i := 3) rfl) 2; clear o_ k_) | ((with_reducible refine gate_store (t := 31) (p := 10) rfl ?_); refine own_store rfl rfl rfl (w1 := (World.setCell (World.setCell (World.setCell w7 ⟨gy, 0, none⟩ (.int .i64 (rd_T31 l0 x).f0)) ⟨gy, 1, none⟩ (.int .i64 (rd_T31 l0 x).f1)) ⟨gy, 2, none⟩ (.slice A3 (rd_T31 l0 x).f2.length c3))) (N := N) (l' := [cells gx #[.int .i64 a2_0, .int .i64 a2_1] 41, ObjC gj C L, ObjM gm C L, cells gy #[.int .i64 (rd_T31 l0 x).f0, .int .i64 (rd_T31 l0 x).f1, .slice A3 (rd_T31 l0 x).f2.length c3] 31]) ?hr ?ho ?hk ?_; (case hr => first | (go_simp; done) | (go_simp; rfl)); (case ho => exact (((O7.out.set (i := 3) rfl 0 (.int .i64 (rd_T31 l0 x).f0)).set (i := 3) rfl 1 (.int .i64 (rd_T31 l0 x).f1)).set (i := 3) rfl 2 (.slice A3 (rd_T31 l0 x).f2.length c3))); (case hk => exact (((KeepS.setCell (O7.out.far (i := 3) rfl) (.int .i64 (rd_T31 l0 x).f0)).trans (KeepS.setCell (O7.out.far (i := 3) rfl) (.int .i64 (rd_T31 l0 x).f1))).trans (KeepS.setCell (O7.out.far (i := 3) rfl) (.slice A3 (rd_T31 l0 x).f2.length c3)))); intro w8 o_ k_; have O8 : Aside0 (Own N w8 [cells gx #[.int .i64 a2_0, .int .i64 a2_1] 41, ObjC gj C L, ObjM gm C L, cells gy #[.int .i64 (rd_T31 l0 x).f0, .int .i64 (rd_T31 l0 x).f1, .slice A3 (rd_T31 l0 x).f2.length c3] 31]) := ⟨o_⟩; have K8 : Aside0 (KeepS N w w8) := ⟨K7.out.trans k_⟩; have HRI_8 : Aside0 (Kd.F k47 w8 N A3 (rd_T31 l0 x).f2.length (rd_T31 l0 x).f2) := ⟨keepF HRI_7.out k_⟩; clear c7_3_0 f7_3_0 c7_3_1 f7_3_1 c7_3_2 f7_3_2 O7 K7 HRI_7; have c8_3_0 : w8.cell? ⟨gy, 0, none⟩ = some (.int .i64 (rd_T31 l0 x).f0) := (blk_cell (O8.out.blk (i := 3) rfl) 0).trans rfl; have f8_3_0 : w8.frozen? ⟨gy, 0, none⟩ = false := blk_frozen (O8.out.blk (i := 3) rfl) 0; have c8_3_1 : w8.cell? ⟨gy, 1, none⟩ = some (.int .i64 (rd_T31 l0 x).f1) := (blk_cell (O8.out.blk (i := 3) rfl) 1).trans rfl; have f8_3_1 : w8.frozen? ⟨gy, 1, none⟩ = false := blk_frozen (O8.out.blk (i := 3) rfl) 1; have c8_3_2 : w8.cell? ⟨gy, 2, none⟩ = some (.slice A3 (rd_T31 l0 x).f2.length c3) := (blk_cell (O8.out.blk (i := 3) rfl) 2).trans rfl; have f8_3_2 : w8.frozen? ⟨gy, 2, none⟩ = false := blk_frozen (O8.out.blk (i := 3) rfl) 2; clear o_ k_) | ((with_reducible refine gate_callee (f := 13) rfl ?_); refine goesL_ (some 41) rfl rfl Try.func13 (by kernel_rfl) rfl #[.pointer (some ⟨gj, 0, none⟩), .agg #[.int .i64 (rd_T31 l0 x).f0, .int .i64 (rd_T31 l0 x).f1, .slice A3 (rd_T31 l0 x).f2.length c3]] rfl (by (try simp only [List.map_toArray, List.map_cons, List.map_nil]); first | done | rfl) ?_; obtain ⟨N_, on_, nn_, rr_, bb_⟩ := O8.out.frame1 (i := 1) rfl; have hr_ := Kd.F_mono HRI_8.out nn_; refine (Add_n A3 c3 (rd_T31 l0 x).f0 (rd_T31 l0 x).f1 (rd_T31 l0 x).f2 on_ hr_ HC3.out HLL.out HU.out HI.out.2 E HE2.out HE3.out).mono ?_; rintro e_ w9 ⟨rfl, oo_, kk_⟩; obtain ⟨o_, k_⟩ := bb_ _ _ _ kk_ oo_; refine ⟨_, rfl, ?_⟩; have O9 : Aside0 (Own N w9 [cells gx #[.int .i64 a2_0, .int .i64 a2_1] 41, ObjC gj C L, ObjM gm C L, cells gy #[.int .i64 (rd_T31 l0 x).f0, .int .i64 (rd_T31 l0 x).f1, .slice A3 (rd_T31 l0 x).f2.length c3] 31]) := ⟨o_⟩; have K9 : Aside0 (KeepS N w w9) := ⟨K8.out.trans k_⟩; have HRI_9 : Aside0 (Kd.F k47 w9 N A3 (rd_T31 l0 x).f2.length (rd_T31 l0 x).f2) := ⟨keepF HRI_8.out k_⟩; clear c8_3_0 f8_3_0 c8_3_1 f8_3_1 c8_3_2 f8_3_2 O8 K8 HRI_8; have c9_3_0 : w9.cell? ⟨gy, 0, none⟩ = some (.int .i64 (rd_T31 l0 x).f0) := (blk_cell (O9.out.blk (i := 3) rfl) 0).trans rfl; have f9_3_0 : w9.frozen? ⟨gy, 0, none⟩ = false := blk_frozen (O9.out.blk (i := 3) rfl) 0; have c9_3_1 : w9.cell? ⟨gy, 1, none⟩ = some (.int .i64 (rd_T31 l0 x).f1) := (blk_cell (O9.out.blk (i := 3) rfl) 1).trans rfl; have f9_3_1 : w9.frozen? ⟨gy, 1, none⟩ = false := blk_frozen (O9.out.blk (i := 3) rfl) 1; have c9_3_2 : w9.cell? ⟨gy, 2, none⟩ = some (.slice A3 (rd_T31 l0 x).f2.length c3) := (blk_cell (O9.out.blk (i := 3) rfl) 2).trans rfl; have f9_3_2 : w9.frozen? ⟨gy, 2, none⟩ = false := blk_frozen (O9.out.blk (i := 3) rfl) 2; clear o_ k_ oo_ kk_ on_ nn_ rr_ bb_ hr_) | ((with_reducible refine gate_callee (f := 14) rfl ?_); refine goesL_ (some 44) rfl rfl Try.func14 (by kernel_rfl) rfl #[.pointer (some ⟨gm, 0, none⟩), .agg #[.int .i64 (rd_T31 l0 x).f0, .int .i64 (rd_T31 l0 x).f1, .slice A3 (rd_T31 l0 x).f2.length c3]] rfl (by (try simp only [List.map_toArray, List.map_cons, List.map_nil]); first | done | rfl) ?_; obtain ⟨N_, on_, nn_, rr_, bb_⟩ := O9.out.frame1 (i := 2) rfl; have hr_ := Kd.F_mono HRI_9.out nn_; refine (RAdd_n A3 c3 (rd_T31 l0 x).f0 (rd_T31 l0 x).f1 (rd_T31 l0 x).f2 on_ hr_ HC3.out HLL.out HU.out HI.out.2 E HE2.out HE3.out).mono ?_; rintro e_ w10 ⟨B5, d5, rfl, hcc_, oo_, kk_⟩; obtain ⟨o_, k_⟩ := bb_ _ _ _ kk_ oo_; refine ⟨_, rfl, ?_⟩; have O10 : Aside0 (Own N w10 [cells gx #[.int .i64 a2_0, .int .i64 a2_1] 41, ObjC gj C L, cells gm #[.int .i64 C, .slice B5 L.length d5] 37, cells gy #[.int .i64 (rd_T31 l0 x).f0, .int .i64 (rd_T31 l0 x).f1, .slice A3 (rd_T31 l0 x).f2.length c3] 31, nrow k31 31 (.slice B5 L.length d5) L]) := ⟨o_⟩; have K10 : Aside0 (KeepS N w w10) := ⟨K9.out.trans k_⟩; have HRI_10 : Aside0 (Kd.F k47 w10 N A3 (rd_T31 l0 x).f2.length (rd_T31 l0 x).f2) := ⟨keepF HRI_9.out k_⟩; clear c9_3_0 f9_3_0 c9_3_1 f9_3_1 c9_3_2 f9_3_2 O9 K9 HRI_9; have c10_3_0 : w10.cell? ⟨gy, 0, none⟩ = some (.int .i64 (rd_T31 l0 x).f0) := (blk_cell (O10.out.blk (i := 3) rfl) 0).trans rfl; have f10_3_0 : w10.frozen? ⟨gy, 0, none⟩ = false := blk_frozen (O10.out.blk (i := 3) rfl) 0; have c10_3_1 : w10.cell? ⟨gy, 1, none⟩ = some (.int .i64 (rd_T31 l0 x).f1) := (blk_cell (O10.out.blk (i := 3) rfl) 1).trans rfl; have f10_3_1 : w10.frozen? ⟨gy, 1, none⟩ = false := blk_frozen (O10.out.blk (i := 3) rfl) 1; have c10_3_2 : w10.cell? ⟨gy, 2, none⟩ = some (.slice A3 (rd_T31 l0 x).f2.length c3) := (blk_cell (O10.out.blk (i := 3) rfl) 2).trans rfl; have f10_3_2 : w10.frozen? ⟨gy, 2, none⟩ = false := blk_frozen (O10.out.blk (i := 3) rfl) 2; clear o_ k_ oo_ kk_ on_ nn_ rr_ bb_ hr_ hcc_))
     go_roundw
     case rel => exact ⟨x + 1, L, by have := HX.out; omega, by have := HX.out; omega, int_eq (by unfold wrap64; have := HX.out; have := HL40.out; omega), ⟨⟨by have := HI.out.1; omega, HI.out.2⟩⟩, ⟨(ObjG.shut (f := fun v => #[.int .i64 C, v]) (i := 2) (j := 4) O10.out rfl rfl (by decide)).pickL [0, 1, 2] (by decide) (by simp)⟩, K10⟩
     case measure => have := HX.out; simp [intOf]; omega
   ·have hxe : x = (l0.length : Int) := by omega
    subst hxe
    have hd : decide ((l0.length : Int) < (l0.length : Int)) = false := decide_eq_false (Int.lt_irrefl _)
    clear hlt hx0 hx1 hF2 hLx
    obtain ⟨wo, hwo⟩ : ∃ wo : World, wo = wr := ⟨_, rfl⟩
    subst hwo
    obtain ⟨Am, cm, h2⟩ := ObjG.open_ OA.out (i := 2) rfl
    have HCM : Aside0 (L.length ≤ cm) := ⟨(h2.nreads (i := 3) rfl).2.1⟩
    obtain ⟨N1, h3, hn1, hF, hback⟩ := h2.hide (i := 3) rfl
    have hFm : Kd.F k31 wo N1 Am L.length L := Kd.N_F hF
    have HN1 := Aside0.mk hn1
    have HRM := Aside0.mk hFm
    have HSH := Aside0.mk (good_short HI.out.2)
    have hzz : (lastOf a2_1 L != lastOf a2_1 L) = false := by simp
    by_cases hw0 : 0 ≤ a2_0
    ·by_cases hw1 : a2_0 < (L.length : Int)
     ·skip
      obtain ⟨ad, A9, c9, e9, hbk, x0, x1, x2, hl9, hF9⟩ := at_FB hFm a2_0 hw0 hw1
      cases e9
      have HC9 := Aside0.mk hl9
      have XX := Aside0.mk (And.intro x0 (And.intro x1 x2))
      have HBK := Aside0.mk hbk
      have HF9 := Aside0.mk hF9
      have HS8 : Aside0 ((rd_T31 L a2_0).f2.length ≤ 8) := ⟨HSH.out a2_0 hw0 hw1⟩
      have HUN : Aside0 ((rd_T31 L a2_0).f2.length ≤ 1000000) := ⟨Nat.le_trans HS8.out (by decide)⟩
      have dp := eq_true hw0
      have dq := eq_true hw1
      have d1 : decide (a2_0 ≥ 0) = true := decide_eq_true hw0
      have d2 : decide (0 ≤ a2_0) = true := d1
      have d3 : decide (a2_0 < (L.length : Int)) = true := decide_eq_true hw1
      have HW0 := Aside0.mk (And.intro hw0 hw1)
      clear hw0 hw1 hbk x0 x1 x2 hl9 hF9
      have O8 : Aside0 (Own N1 wo [cells gx #[.int .i64 a2_0, .int .i64 a2_1] 41, ObjC gj C L, cells gm #[.int .i64 C, .slice (some ad) L.length cm] 37, emp]) := ⟨h3⟩
      have K8 : Aside0 (KeepS N1 wo wo) := ⟨KeepS.refl _ _⟩
      have HRM_8 : Aside0 (Kd.F k31 wo N1 (some ad) L.length L) := ⟨HRM.out⟩
      have HR9_8 : Aside0 (Kd.F k47 wo N1 A9 (rd_T31 L a2_0).f2.length (rd_T31 L a2_0).f2) := ⟨HF9.out⟩
      have c8_0_0 : wo.cell? ⟨gx, 0, none⟩ = some (.int .i64 a2_0) := (blk_cell (O8.out.blk (i := 0) rfl) 0).trans rfl
      have f8_0_0 : wo.frozen? ⟨gx, 0, none⟩ = false := blk_frozen (O8.out.blk (i := 0) rfl) 0
      have c8_0_1 : wo.cell? ⟨gx, 1, none⟩ = some (.int .i64 a2_1) := (blk_cell (O8.out.blk (i := 0) rfl) 1).trans rfl
      have f8_0_1 : wo.frozen? ⟨gx, 1, none⟩ = false := blk_frozen (O8.out.blk (i := 0) rfl) 1
      have c8_2_0 : wo.cell? ⟨gm, 0, none⟩ = some (.int .i64 C) := (blk_cell (O8.out.blk (i := 2) rfl) 0).trans rfl
      have f8_2_0 : wo.frozen? ⟨gm, 0, none⟩ = false := blk_frozen (O8.out.blk (i := 2) rfl) 0
      have c8_2_1 : wo.cell? ⟨gm, 1, none⟩ = some (.slice (some ad) L.length cm) := (blk_cell (O8.out.blk (i := 2) rfl) 1).trans rfl
      have f8_2_1 : wo.frozen? ⟨gm, 1, none⟩ = false := blk_frozen (O8.out.blk (i := 2) rfl) 1
      have n8_0_2 : gx ≠ gm := O8.out.ne (i := 0) (j := 2) rfl rfl (by decide)
      have n8_2_0 : gm ≠ gx := O8.out.ne (i := 2) (j := 0) rfl rfl (by decide)
      clear OA h2 h3 hn1 hF hback hFm
      go_wp2_with (first | ((with_reducible refine gate_callee (f := 18) rfl ?_); refine goesL_ (some 50) rfl rfl Try.func18 (by kernel_rfl) rfl #[.pointer (some ⟨gj, 0, none⟩), .int .i64 a2_0] rfl (by (try simp only [List.map_toArray, List.map_cons, List.map_nil]); first | done | rfl) ?_; obtain ⟨N_, on_, nn_, rr_, bb_⟩ := O8.out.frame1 (i := 1) rfl; refine (At_yes a2_0 on_ HLL.out ⟨fun x a b => Nat.le_trans (HSH.out x a b) (by decide)⟩ HW0.out.1 HW0.out.2).mono ?_; rintro e_ w9 ⟨B7, d7, rfl, oo_, kk_⟩; obtain ⟨o_, k_⟩ := bb_ _ _ _ kk_ oo_; refine ⟨_, rfl, ?_⟩; have O9 : Aside0 (Own N1 w9 [cells gx #[.int .i64 a2_0, .int .i64 a2_1] 41, ObjC gj C L, cells gm #[.int .i64 C, .slice (some ad) L.length cm] 37, emp, nrow k47 47 (.slice B7 (rd_T31 L a2_0).f2.length d7) (rd_T31 L a2_0).f2]) := ⟨o_⟩; have K9 : Aside0 (KeepS N1 wo w9) := ⟨K8.out.trans k_⟩; have HRM_9 : Aside0 (Kd.F k31 w9 N1 (some ad) L.length L) := ⟨keepF HRM_8.out k_⟩; have HR9_9 : Aside0 (Kd.F k47 w9 N1 A9 (rd_T31 L a2_0).f2.length (rd_T31 L a2_0).f2) := ⟨keepF HR9_8.out k_⟩; clear c8_0_0 f8_0_0 c8_0_1 f8_0_1 c8_2_0 f8_2_0 c8_2_1 f8_2_1 n8_0_2 n8_2_0 O8 K8 HRM_8 HR9_8; have c9_0_0 : w9.cell? ⟨gx, 0, none⟩ = some (.int .i64 a2_0) := (blk_cell (O9.out.blk (i := 0) rfl) 0).trans rfl; have f9_0_0 : w9.frozen? ⟨gx, 0, none⟩ = false := blk_frozen (O9.out.blk (i := 0) rfl) 0; have c9_0_1 : w9.cell? ⟨gx, 1, none⟩ = some (.int .i64 a2_1) := (blk_cell (O9.out.blk (i := 0) rfl) 1).trans rfl; have f9_0_1 : w9.frozen? ⟨gx, 1, none⟩ = false := blk_frozen (O9.out.blk (i := 0) rfl) 1; have c9_2_0 : w9.cell? ⟨gm, 0, none⟩ = some (.int .i64 C) := (blk_cell (O9.out.blk (i := 2) rfl) 0).trans rfl; have f9_2_0 : w9.frozen? ⟨gm, 0, none⟩ = false := blk_frozen (O9.out.blk (i := 2) rfl) 0; have c9_2_1 : w9.cell? ⟨gm, 1, none⟩ = some (.slice (some ad) L.length cm) := (blk_cell (O9.out.blk (i := 2) rfl) 1).trans rfl; have f9_2_1 : w9.frozen? ⟨gm, 1, none⟩ = false := blk_frozen (O9.out.blk (i := 2) rfl) 1; have n9_0_2 : gx ≠ gm := O9.out.ne (i := 0) (j := 2) rfl rfl (by decide); have n9_2_0 : gm ≠ gx := O9.out.ne (i := 2) (j := 0) rfl rfl (by decide); clear o_ k_ oo_ kk_ on_ nn_ rr_ bb_) | ((with_reducible refine gate_dst (N := 11) rfl ?_); refine own_box rfl (D := 11) rfl (cs := #[.int .i64 0, .int .i64 0, .slice none 0 0]) (t := 31) ?hr O9.out ?_; (case hr => first | (go_simp; done) | (go_simp; rfl)); intro gr w10 o_ k_; have O10 : Aside0 (Own N1 w10 [cells gx #[.int .i64 a2_0, .int .i64 a2_1] 41, ObjC gj C L, cells gm #[.int .i64 C, .slice (some ad) L.length cm] 37, emp, nrow k47 47 (.slice B7 (rd_T31 L a2_0).f2.length d7) (rd_T31 L a2_0).f2, cells gr #[.int .i64 0, .int .i64 0, .slice none 0 0] 31]) := ⟨o_⟩; have K10 : Aside0 (KeepS N1 wo w10) := ⟨K9.out.trans k_⟩; have HRM_10 : Aside0 (Kd.F k31 w10 N1 (some ad) L.length L) := ⟨keepF HRM_9.out k_⟩; have HR9_10 : Aside0 (Kd.F k47 w10 N1 A9 (rd_T31 L a2_0).f2.length (rd_T31 L a2_0).f2) := ⟨keepF HR9_9.out k_⟩; clear c9_0_0 f9_0_0 c9_0_1 f9_0_1 c9_2_0 f9_2_0 c9_2_1 f9_2_1 n9_0_2 n9_2_0 O9 K9 HRM_9 HR9_9; have c10_0_0 : w10.cell? ⟨gx, 0, none⟩ = some (.int .i64 a2_0) := (blk_cell (O10.out.blk (i := 0) rfl) 0).trans rfl; have f10_0_0 : w10.frozen? ⟨gx, 0, none⟩ = false := blk_frozen (O10.out.blk (i := 0) rfl) 0; have c10_0_1 : w10.cell? ⟨gx, 1, none⟩ = some (.int .i64 a2_1) := (blk_cell (O10.out.blk (i := 0) rfl) 1).trans rfl; have f10_0_1 : w10.frozen? ⟨gx, 1, none⟩ = false := blk_frozen (O10.out.blk (i := 0) rfl) 1; have c10_2_0 : w10.cell? ⟨gm, 0, none⟩ = some (.int .i64 C) := (blk_cell (O10.out.blk (i := 2) rfl) 0).trans rfl; have f10_2_0 : w10.frozen? ⟨gm, 0, none⟩ = false := blk_frozen (O10.out.blk (i := 2) rfl) 0; have c10_2_1 : w10.cell? ⟨gm, 1, none⟩ = some (.slice (some ad) L.length cm) := (blk_cell (O10.out.blk (i := 2) rfl) 1).trans rfl; have f10_2_1 : w10.frozen? ⟨gm, 1, none⟩ = false := blk_frozen (O10.out.blk (i := 2) rfl) 1; have c10_5_0 : w10.cell? ⟨gr, 0, none⟩ = some (.int .i64 0) := (blk_cell (O10.out.blk (i := 5) rfl) 0).trans rfl; have f10_5_0 : w10.frozen? ⟨gr, 0, none⟩ = false := blk_frozen (O10.out.blk (i := 5) rfl) 0; have c10_5_1 : w10.cell? ⟨gr, 1, none⟩ = some (.int .i64 0) := (blk_cell (O10.out.blk (i := 5) rfl) 1).trans rfl; have f10_5_1 : w10.frozen? ⟨gr, 1, none⟩ = false := blk_frozen (O10.out.blk (i := 5) rfl) 1; have c10_5_2 : w10.cell? ⟨gr, 2, none⟩ = some (.slice none 0 0) := (blk_cell (O10.out.blk (i := 5) rfl) 2).trans rfl; have f10_5_2 : w10.frozen? ⟨gr, 2, none⟩ = false := blk_frozen (O10.out.blk (i := 5) rfl) 2; have n10_0_2 : gx ≠ gm := O10.out.ne (i := 0) (j := 2) rfl rfl (by decide); have n10_0_5 : gx ≠ gr := O10.out.ne (i := 0) (j := 5) rfl rfl (by decide); have n10_2_0 : gm ≠ gx := O10.out.ne (i := 2) (j := 0) rfl rfl (by decide); have n10_2_5 : gm ≠ gr := O10.out.ne (i := 2) (j := 5) rfl rfl (by decide); have n10_5_0 : gr ≠ gx := O10.out.ne (i := 5) (j := 0) rfl rfl (by decide); have n10_5_2 : gr ≠ gm := O10.out.ne (i := 5) (j := 2) rfl rfl (by decide); clear o_ k_) | ((with_reducible refine gate_store (t := 31) (p := 11) rfl ?_); refine own_store rfl rfl rfl (w1 := (World.setCell (World.setCell (World.setCell w10 ⟨gr, 0, none⟩ (.int .i64 (rd_T31 L a2_0).f0)) ⟨gr, 1, none⟩ (.int .i64 (rd_T31 L a2_0).f1)) ⟨gr, 2, none⟩ (.slice B7 (rd_T31 L a2_0).f2.length d7))) (N := N1) (l' := [cells gx #[.int .i64 a2_0, .int .i64 a2_1] 41, ObjC gj C L, cells gm #[.int .i64 C, .slice (some ad) L.length cm] 37, emp, nrow k47 47 (.slice B7 (rd_T31 L a2_0).f2.length d7) (rd_T31 L a2_0).f2, cells gr #[.int .i64 (rd_T31 L a2_0).f0, .int .i64 (rd_T31 L a2_0).f1, .slice B7 (rd_T31 L a2_0).f2.length d7] 31]) ?hr ?ho ?hk ?_; (case hr => first | (go_simp; done) | (go_simp; rfl)); (case ho => exact (((O10.out.set (i := 5) rfl 0 (.int .i64 (rd_T31 L a2_0).f0)).set (i := 5) rfl 1 (.int .i64 (rd_T31 L a2_0).f1)).set (i := 5) rfl 2 (.slice B7 (rd_T31 L a2_0).f2.length d7))); (case hk => exact (((KeepS.setCell (O10.out.far (i := 5) rfl) (.int .i64 (rd_T31 L a2_0).f0)).trans (KeepS.setCell (O10.out.far (i := 5) rfl) (.int .i64 (rd_T31 L a2_0).f1))).trans (KeepS.setCell (O10.out.far (i := 5) rfl) (.slice B7 (rd_T31 L a2_0).f2.length d7)))); intro w11 o_ k_; have O11 : Aside0 (Own N1 w11 [cells gx #[.int .i64 a2_0, .int .i64 a2_1] 41, ObjC gj C L, cells gm #[.int .i64 C, .slice (some ad) L.length cm] 37, emp, nrow k47 47 (.slice B7 (rd_T31 L a2_0).f2.length d7) (rd_T31 L a2_0).f2, cells gr #[.int .i64 (rd_T31 L a2_0).f0, .int .i64 (rd_T31 L a2_0).f1, .slice B7 (rd_T31 L a2_0).f2.length d7] 31]) := ⟨o_⟩; have K11 : Aside0 (KeepS N1 wo w11) := ⟨K10.out.trans k_⟩; have HRM_11 : Aside0 (Kd.F k31 w11 N1 (some ad) L.length L) := ⟨keepF HRM_10.out k_⟩; have HR9_11 : Aside0 (Kd.F k47 w11 N1 A9 (rd_T31 L a2_0).f2.length (rd_T31 L a2_0).f2) := ⟨keepF HR9_10.out k_⟩; clear c10_0_0 f10_0_0 c10_0_1 f10_0_1 c10_2_0 f10_2_0 c10_2_1 f10_2_1 c10_5_0 f10_5_0 c10_5_1 f10_5_1 c10_5_2 f10_5_2 n10_0_2 n10_0_5 n10_2_0 n10_2_5 n10_5_0 n10_5_2 O10 K10 HRM_10 HR9_10; have c11_0_0 : w11.cell? ⟨gx, 0, none⟩ = some (.int .i64 a2_0) := (blk_cell (O11.out.blk (i := 0) rfl) 0).trans rfl; have f11_0_0 : w11.frozen? ⟨gx, 0, none⟩ = false := blk_frozen (O11.out.blk (i := 0) rfl) 0; have c11_0_1 : w11.cell? ⟨gx, 1, none⟩ = some (.int .i64 a2_1) := (blk_cell (O11.out.blk (i := 0) rfl) 1).trans rfl; have f11_0_1 : w11.frozen? ⟨gx, 1, none⟩ = false := blk_frozen (O11.out.blk (i := 0) rfl) 1; have c11_2_0 : w11.cell? ⟨gm, 0, none⟩ = some (.int .i64 C) := (blk_cell (O11.out.blk (i := 2) rfl) 0).trans rfl; have f11_2_0 : w11.frozen? ⟨gm, 0, none⟩ = false := blk_frozen (O11.out.blk (i := 2) rfl) 0; have c11_2_1 : w11.cell? ⟨gm, 1, none⟩ = some (.slice (some ad) L.length cm) := (blk_cell (O11.out.blk (i := 2) rfl) 1).trans rfl; have f11_2_1 : w11.frozen? ⟨gm, 1, none⟩ = false := blk_frozen (O11.out.blk (i := 2) rfl) 1; have c11_5_0 : w11.cell? ⟨gr, 0, none⟩ = some (.int .i64 (rd_T31 L a2_0).f0) := (blk_cell (O11.out.blk (i := 5) rfl) 0).trans rfl; have f11_5_0 : w11.frozen? ⟨gr, 0, none⟩ = false := blk_frozen (O11.out.blk (i := 5) rfl) 0; have c11_5_1 : w11.cell? ⟨gr, 1, none⟩ = some (.int .i64 (rd_T31 L a2_0).f1) := (blk_cell (O11.out.blk (i := 5) rfl) 1).trans rfl; have f11_5_1 : w11.frozen? ⟨gr, 1, none⟩ = false := blk_frozen (O11.out.blk (i := 5) rfl) 1; have c11_5_2 : w11.cell? ⟨gr, 2, none⟩ = some (.slice B7 (rd_T31 L a2_0).f2.length d7) := (blk_cell (O11.out.blk (i := 5) rfl) 2).trans rfl; have f11_5_2 : w11.frozen? ⟨gr, 2, none⟩ = false := blk_frozen (O11.out.blk (i := 5) rfl) 2; have n11_0_2 : gx ≠ gm := O11.out.ne (i := 0) (j := 2) rfl rfl (by decide); have n11_0_5 : gx ≠ gr := O11.out.ne (i := 0) (j := 5) rfl rfl (by decide); have n11_2_0 : gm ≠ gx := O11.out.ne (i := 2) (j := 0) rfl rfl (by decide); have n11_2_5 : gm ≠ gr := O11.out.ne (i := 2) (j := 5) rfl rfl (by decide); have n11_5_0 : gr ≠ gx := O11.out.ne (i := 5) (j := 0) rfl rfl (by decide); have n11_5_2 : gr ≠ gm := O11.out.ne (i := 5) (j := 2) rfl rfl (by decide); clear o_ k_))
      refine start_ (n := 14) (S := fun w' => w'.cell? ⟨gx, 0, none⟩ = some (.int .i64 a2_0) ∧ w'.cell? ⟨gx, 1, none⟩ = some (.int .i64 a2_1) ∧ w'.cell? ⟨gm, 0, none⟩ = some (.int .i64 C) ∧ w'.cell? ⟨gm, 1, none⟩ = some (.slice (some ad) L.length cm)) (ds := []) #[false, false, false, false, false, false, false, false, false, false, false, false, false, false] (by kernel_rfl) rfl rfl ⟨((blk_cell (O11.out.blk (i := 0) rfl) 0).trans rfl), ((blk_cell (O11.out.blk (i := 0) rfl) 1).trans rfl), ((blk_cell (O11.out.blk (i := 2) rfl) 0).trans rfl), ((blk_cell (O11.out.blk (i := 2) rfl) 1).trans rfl)⟩ (fun hHeld => ?_)
      obtain ⟨w12, hw_⟩ : ∃ W, W = w11.drew := ⟨_, rfl⟩
      have o_ := O11.out.drew
      have k_ : KeepS N1 w11 w11.drew := KeepS.drew
      rw [← hw_] at o_ k_ hHeld ⊢
      clear hw_
      have O12 : Aside0 (Own N1 w12 [cells gx #[.int .i64 a2_0, .int .i64 a2_1] 41, ObjC gj C L, cells gm #[.int .i64 C, .slice (some ad) L.length cm] 37, emp, nrow k47 47 (.slice B7 (rd_T31 L a2_0).f2.length d7) (rd_T31 L a2_0).f2, cells gr #[.int .i64 (rd_T31 L a2_0).f0, .int .i64 (rd_T31 L a2_0).f1, .slice B7 (rd_T31 L a2_0).f2.length d7] 31]) := ⟨o_⟩
      have K12 : Aside0 (KeepS N1 wo w12) := ⟨K11.out.trans k_⟩
      have HRM_12 : Aside0 (Kd.F k31 w12 N1 (some ad) L.length L) := ⟨keepF HRM_11.out k_⟩
      have HR9_12 : Aside0 (Kd.F k47 w12 N1 A9 (rd_T31 L a2_0).f2.length (rd_T31 L a2_0).f2) := ⟨keepF HR9_11.out k_⟩
      clear c11_0_0 f11_0_0 c11_0_1 f11_0_1 c11_2_0 f11_2_0 c11_2_1 f11_2_1 c11_5_0 f11_5_0 c11_5_1 f11_5_1 c11_5_2 f11_5_2 n11_0_2 n11_0_5 n11_2_0 n11_2_5 n11_5_0 n11_5_2 O11 K11 HRM_11 HR9_11
      have c12_0_0 : w12.cell? ⟨gx, 0, none⟩ = some (.int .i64 a2_0) := (blk_cell (O12.out.blk (i := 0) rfl) 0).trans rfl
      have f12_0_0 : w12.frozen? ⟨gx, 0, none⟩ = false := blk_frozen (O12.out.blk (i := 0) rfl) 0
      have c12_0_1 : w12.cell? ⟨gx, 1, none⟩ = some (.int .i64 a2_1) := (blk_cell (O12.out.blk (i := 0) rfl) 1).trans rfl
      have f12_0_1 : w12.frozen? ⟨gx, 1, none⟩ = false := blk_frozen (O12.out.blk (i := 0) rfl) 1
      have c12_2_0 : w12.cell? ⟨gm, 0, none⟩ = some (.int .i64 C) := (blk_cell (O12.out.blk (i := 2) rfl) 0).trans rfl
      have f12_2_0 : w12.frozen? ⟨gm, 0, none⟩ = false := blk_frozen (O12.out.blk (i := 2) rfl) 0
      have c12_2_1 : w12.cell? ⟨gm, 1, none⟩ = some (.slice (some ad) L.length cm) := (blk_cell (O12.out.blk (i := 2) rfl) 1).trans rfl
      have f12_2_1 : w12.frozen? ⟨gm, 1, none⟩ = false := blk_frozen (O12.out.blk (i := 2) rfl) 1
      have c12_5_0 : w12.cell? ⟨gr, 0, none⟩ = some (.int .i64 (rd_T31 L a2_0).f0) := (blk_cell (O12.out.blk (i := 5) rfl) 0).trans rfl
      have f12_5_0 : w12.frozen? ⟨gr, 0, none⟩ = false := blk_frozen (O12.out.blk (i := 5) rfl) 0
      have c12_5_1 : w12.cell? ⟨gr, 1, none⟩ = some (.int .i64 (rd_T31 L a2_0).f1) := (blk_cell (O12.out.blk (i := 5) rfl) 1).trans rfl
      have f12_5_1 : w12.frozen? ⟨gr, 1, none⟩ = false := blk_frozen (O12.out.blk (i := 5) rfl) 1
      have c12_5_2 : w12.cell? ⟨gr, 2, none⟩ = some (.slice B7 (rd_T31 L a2_0).f2.length d7) := (blk_cell (O12.out.blk (i := 5) rfl) 2).trans rfl
      have f12_5_2 : w12.frozen? ⟨gr, 2, none⟩ = false := blk_frozen (O12.out.blk (i := 5) rfl) 2
      have n12_0_2 : gx ≠ gm := O12.out.ne (i := 0) (j := 2) rfl rfl (by decide)
      have n12_0_5 : gx ≠ gr := O12.out.ne (i := 0) (j := 5) rfl rfl (by decide)
      have n12_2_0 : gm ≠ gx := O12.out.ne (i := 2) (j := 0) rfl rfl (by decide)
      have n12_2_5 : gm ≠ gr := O12.out.ne (i := 2) (j := 5) rfl rfl (by decide)
      have n12_5_0 : gr ≠ gx := O12.out.ne (i := 5) (j := 0) rfl rfl (by decide)
      have n12_5_2 : gr ≠ gm := O12.out.ne (i := 5) (j := 2) rfl rfl (by decide)
      clear o_ k_
      refine pure_ (i := 0) (N := some 53) (v := ?_) (a' := ?_) #[true, false, false, false, false, false, false, false, false, false, false, false, false, false] rfl rfl (by kernel_rfl) (fun _ _ _ h => h) (Or.inl ⟨by rfl, ?_⟩) ?_ ?_
      rotate_left
      ·intro w'
       go_simp
       with_reducible rfl
      rotate_left
      ·simp only [Act.put, List.setIfInBounds_toArray, List.set_cons_zero, List.set_cons_succ, i64_w, i32_w]
       rfl
      refine take_ (i := 1) (N := some 54) (v := ?_) (a' := ?_) #[true, true, false, false, false, false, false, false, false, false, false, false, false, false] rfl rfl (by kernel_rfl) (fun _ _ _ h => h) (Or.inl ⟨by rfl, ?_⟩) hHeld ?_ ?_
      rotate_left
      ·rintro w' ⟨s0, s1, s2, s3⟩
       go_simp
       with_reducible rfl
      rotate_left
      ·simp only [Act.put, List.setIfInBounds_toArray, List.set_cons_zero, List.set_cons_succ, i64_w, i32_w]
       rfl
      refine pure_ (i := 2) (N := some 55) (v := ?_) (a' := ?_) #[true, true, true, false, false, false, false, false, false, false, false, false, false, false] rfl rfl (by kernel_rfl) (fun _ _ _ h => h) (Or.inl ⟨by rfl, ?_⟩) ?_ ?_
      rotate_left
      ·intro w'
       go_simp
       with_reducible rfl
      rotate_left
      ·simp only [Act.put, List.setIfInBounds_toArray, List.set_cons_zero, List.set_cons_succ, i64_w, i32_w]
       rfl
      refine pure_ (i := 3) (N := some 56) (v := ?_) (a' := ?_) #[true, true, true, true, false, false, false, false, false, false, false, false, false, false] rfl rfl (by kernel_rfl) (fun _ _ _ h => h) (Or.inl ⟨by rfl, ?_⟩) ?_ ?_
      rotate_left
      ·intro w'
       go_simp
       with_reducible rfl
      rotate_left
      ·simp only [Act.put, List.setIfInBounds_toArray, List.set_cons_zero, List.set_cons_succ, i64_w, i32_w]
       rfl
      refine pure_ (i := 4) (N := some 57) (v := ?_) (a' := ?_) #[true, true, true, true, true, false, false, false, false, false, false, false, false, false] rfl rfl (by kernel_rfl) (fun _ _ _ h => h) (Or.inl ⟨by rfl, ?_⟩) ?_ ?_
      rotate_left
      ·intro w'
       go_simp
       with_reducible rfl
      rotate_left
      ·simp only [Act.put, List.setIfInBounds_toArray, List.set_cons_zero, List.set_cons_succ, i64_w, i32_w]
       rfl
      refine pure_ (i := 6) (N := some 59) (v := ?_) (a' := ?_) #[true, true, true, true, true, false, true, false, false, false, false, false, false, false] rfl rfl (by kernel_rfl) (fun _ _ _ h => h) (Or.inl ⟨by rfl, ?_⟩) ?_ ?_
      rotate_left
      ·intro w'
       go_simp
       with_reducible rfl
      rotate_left
      ·simp only [Act.put, List.setIfInBounds_toArray, List.set_cons_zero, List.set_cons_succ, i64_w, i32_w]
       rfl
      refine pure_ (i := 7) (N := some 60) (v := ?_) (a' := ?_) #[true, true, true, true, true, false, true, true, false, false, false, false, false, false] rfl rfl (by kernel_rfl) (fun _ _ _ h => h) (Or.inl ⟨by rfl, ?_⟩) ?_ ?_
      rotate_left
      ·intro w'
       go_simp
       with_reducible rfl
      rotate_left
      ·simp only [Act.put, List.setIfInBounds_toArray, List.set_cons_zero, List.set_cons_succ, i64_w, i32_w]
       rfl
      refine pure_ (i := 8) (N := some 61) (v := ?_) (a' := ?_) #[true, true, true, true, true, false, true, true, true, false, false, false, false, false] rfl rfl (by kernel_rfl) (fun _ _ _ h => h) (Or.inl ⟨by rfl, ?_⟩) ?_ ?_
      rotate_left
      ·intro w'
       go_simp
       with_reducible rfl
      rotate_left
      ·simp only [Act.put, List.setIfInBounds_toArray, List.set_cons_zero, List.set_cons_succ, i64_w, i32_w]
       rfl
      refine take_ (i := 5) (N := some 58) (v := ?_) (a' := ?_) #[true, true, true, true, true, true, true, true, true, false, false, false, false, false] rfl rfl (by kernel_rfl) (fun _ _ _ h => h) (Or.inl ⟨by rfl, ?_⟩) hHeld ?_ ?_
      rotate_left
      ·rintro w' ⟨s0, s1, s2, s3⟩
       go_simp
       with_reducible rfl
      rotate_left
      ·simp only [Act.put, List.setIfInBounds_toArray, List.set_cons_zero, List.set_cons_succ, i64_w, i32_w]
       rfl
      refine take_ (i := 9) (N := some 62) (v := ?_) (a' := ?_) #[true, true, true, true, true, true, true, true, true, true, false, false, false, false] rfl rfl (by kernel_rfl) (fun _ _ _ h => h) (Or.inl ⟨by rfl, ?_⟩) hHeld ?_ ?_
      rotate_left
      ·rintro w' ⟨s0, s1, s2, s3⟩
       go_simp
       with_reducible rfl
      rotate_left
      ·simp only [Act.put, List.setIfInBounds_toArray, List.set_cons_zero, List.set_cons_succ, i64_w, i32_w]
       rfl
      refine pure_ (i := 10) (N := some 63) (v := ?_) (a' := ?_) #[true, true, true, true, true, true, true, true, true, true, true, false, false, false] rfl rfl (by kernel_rfl) (fun _ _ _ h => h) (Or.inl ⟨by rfl, ?_⟩) ?_ ?_
      rotate_left
      ·intro w'
       go_simp
       with_reducible rfl
      rotate_left
      ·simp only [Act.put, List.setIfInBounds_toArray, List.set_cons_zero, List.set_cons_succ, i64_w, i32_w]
       rfl
      refine pure_ (i := 11) (N := some 64) (v := ?_) (a' := ?_) #[true, true, true, true, true, true, true, true, true, true, true, true, false, false] rfl rfl (by kernel_rfl) (fun _ _ _ h => h) (Or.inl ⟨by rfl, ?_⟩) ?_ ?_
      rotate_left
      ·intro w'
       go_simp
       with_reducible rfl
      rotate_left
      ·simp only [Act.put, List.setIfInBounds_toArray, List.set_cons_zero, List.set_cons_succ, i64_w, i32_w]
       rfl
      refine pure_ (i := 12) (N := some 65) (v := ?_) (a' := ?_) #[true, true, true, true, true, true, true, true, true, true, true, true, true, false] rfl rfl (by kernel_rfl) (fun _ _ _ h => h) (Or.inl ⟨by rfl, ?_⟩) ?_ ?_
      rotate_left
      ·intro w'
       go_simp
       with_reducible rfl
      rotate_left
      ·simp only [Act.put, List.setIfInBounds_toArray, List.set_cons_zero, List.set_cons_succ, i64_w, i32_w]
       rfl
      refine pure_ (i := 13) (N := some 13) (v := ?_) (a' := ?_) #[true, true, true, true, true, true, true, true, true, true, true, true, true, true] rfl rfl (by kernel_rfl) (fun _ _ _ h => h) (Or.inl ⟨by rfl, ?_⟩) ?_ ?_
      rotate_left
      ·intro w'
       go_simp
       with_reducible rfl
      rotate_left
      ·simp only [Act.put, List.setIfInBounds_toArray, List.set_cons_zero, List.set_cons_succ, i64_w, i32_w]
       rfl
      refine done_ (by kernel_rfl) ?_
      clear hHeld
      go_wp2
      refine start_ (n := 40) (S := fun w' => w'.cell? ⟨gx, 0, none⟩ = some (.int .i64 a2_0) ∧ w'.cell? ⟨gx, 1, none⟩ = some (.int .i64 a2_1) ∧ w'.cell? ⟨gm, 0, none⟩ = some (.int .i64 C) ∧ w'.cell? ⟨gm, 1, none⟩ = some (.slice (some ad) L.length cm) ∧ w'.cell? ⟨gr, 0, none⟩ = some (.int .i64 (rd_T31 L a2_0).f0) ∧ w'.cell? ⟨gr, 1, none⟩ = some (.int .i64 (rd_T31 L a2_0).f1) ∧ w'.cell? ⟨gr, 2, none⟩ = some (.slice B7 (rd_T31 L a2_0).f2.length d7) ∧ w'.cell? (ad.add (a2_0.toNat * 3)) = some (.int .i64 (rd_T31 L a2_0).f0) ∧ w'.cell? ⟨(ad.add (a2_0.toNat * 3)).block, (ad.add (a2_0.toNat * 3)).off + 1, none⟩ = some (.int .i64 (rd_T31 L a2_0).f1) ∧ w'.cell? ⟨(ad.add (a2_0.toNat * 3)).block, (ad.add (a2_0.toNat * 3)).off + 2, none⟩ = some (.slice A9 (rd_T31 L a2_0).f2.length c9)) (ds := []) #[false, false, false, false, false, false, false, false, false, false, false, false, false, false, false, false, false, false, false, false, false, false, false, false, false, false, false, false, false, false, false, false, false, false, false, false, false, false, false, false] (by kernel_rfl) rfl rfl ⟨((blk_cell (O12.out.blk (i := 0) rfl) 0).trans rfl), ((blk_cell (O12.out.blk (i := 0) rfl) 1).trans rfl), ((blk_cell (O12.out.blk (i := 2) rfl) 0).trans rfl), ((blk_cell (O12.out.blk (i := 2) rfl) 1).trans rfl), ((blk_cell (O12.out.blk (i := 5) rfl) 0).trans rfl), ((blk_cell (O12.out.blk (i := 5) rfl) 1).trans rfl), ((blk_cell (O12.out.blk (i := 5) rfl) 2).trans rfl), (keepCell (K12.out.trans KeepS.drew) XX.out.1 HBK.out), (keepCell (K12.out.trans KeepS.drew) XX.out.2.1 HBK.out), (keepCell (K12.out.trans KeepS.drew) XX.out.2.2 HBK.out)⟩ (fun hHeld => ?_)
      obtain ⟨w13, hw_⟩ : ∃ W, W = w12.drew := ⟨_, rfl⟩
      have o_ := O12.out.drew
      have k_ : KeepS N1 w12 w12.drew := KeepS.drew
      rw [← hw_] at o_ k_ hHeld ⊢
      clear hw_
      have O13 : Aside0 (Own N1 w13 [cells gx #[.int .i64 a2_0, .int .i64 a2_1] 41, ObjC gj C L, cells gm #[.int .i64 C, .slice (some ad) L.length cm] 37, emp, nrow k47 47 (.slice B7 (rd_T31 L a2_0).f2.length d7) (rd_T31 L a2_0).f2, cells gr #[.int .i64 (rd_T31 L a2_0).f0, .int .i64 (rd_T31 L a2_0).f1, .slice B7 (rd_T31 L a2_0).f2.length d7] 31]) := ⟨o_⟩
      have K13 : Aside0 (KeepS N1 wo w13) := ⟨K12.out.trans k_⟩
      have HRM_13 : Aside0 (Kd.F k31 w13 N1 (some ad) L.length L) := ⟨keepF HRM_12.out k_⟩
      have HR9_13 : Aside0 (Kd.F k47 w13 N1 A9 (rd_T31 L a2_0).f2.length (rd_T31 L a2_0).f2) := ⟨keepF HR9_12.out k_⟩
      clear c12_0_0 f12_0_0 c12_0_1 f12_0_1 c12_2_0 f12_2_0 c12_2_1 f12_2_1 c12_5_0 f12_5_0 c12_5_1 f12_5_1 c12_5_2 f12_5_2 n12_0_2 n12_0_5 n12_2_0 n12_2_5 n12_5_0 n12_5_2 O12 K12 HRM_12 HR9_12
      have c13_0_0 : w13.cell? ⟨gx, 0, none⟩ = some (.int .i64 a2_0) := (blk_cell (O13.out.blk (i := 0) rfl) 0).trans rfl
      have f13_0_0 : w13.frozen? ⟨gx, 0, none⟩ = false := blk_frozen (O13.out.blk (i := 0) rfl) 0
      have c13_0_1 : w13.cell? ⟨gx, 1, none⟩ = some (.int .i64 a2_1) := (blk_cell (O13.out.blk (i := 0) rfl) 1).trans rfl
      have f13_0_1 : w13.frozen? ⟨gx, 1, none⟩ = false := blk_frozen (O13.out.blk (i := 0) rfl) 1
      have c13_2_0 : w13.cell? ⟨gm, 0, none⟩ = some (.int .i64 C) := (blk_cell (O13.out.blk (i := 2) rfl) 0).trans rfl
      have f13_2_0 : w13.frozen? ⟨gm, 0, none⟩ = false := blk_frozen (O13.out.blk (i := 2) rfl) 0
      have c13_2_1 : w13.cell? ⟨gm, 1, none⟩ = some (.slice (some ad) L.length cm) := (blk_cell (O13.out.blk (i := 2) rfl) 1).trans rfl
      have f13_2_1 : w13.frozen? ⟨gm, 1, none⟩ = false := blk_frozen (O13.out.blk (i := 2) rfl) 1
      have c13_5_0 : w13.cell? ⟨gr, 0, none⟩ = some (.int .i64 (rd_T31 L a2_0).f0) := (blk_cell (O13.out.blk (i := 5) rfl) 0).trans rfl
      have f13_5_0 : w13.frozen? ⟨gr, 0, none⟩ = false := blk_frozen (O13.out.blk (i := 5) rfl) 0
      have c13_5_1 : w13.cell? ⟨gr, 1, none⟩ = some (.int .i64 (rd_T31 L a2_0).f1) := (blk_cell (O13.out.blk (i := 5) rfl) 1).trans rfl
      have f13_5_1 : w13.frozen? ⟨gr, 1, none⟩ = false := blk_frozen (O13.out.blk (i := 5) rfl) 1
      have c13_5_2 : w13.cell? ⟨gr, 2, none⟩ = some (.slice B7 (rd_T31 L a2_0).f2.length d7) := (blk_cell (O13.out.blk (i := 5) rfl) 2).trans rfl
      have f13_5_2 : w13.frozen? ⟨gr, 2, none⟩ = false := blk_frozen (O13.out.blk (i := 5) rfl) 2
      have n13_0_2 : gx ≠ gm := O13.out.ne (i := 0) (j := 2) rfl rfl (by decide)
      have n13_0_5 : gx ≠ gr := O13.out.ne (i := 0) (j := 5) rfl rfl (by decide)
      have n13_2_0 : gm ≠ gx := O13.out.ne (i := 2) (j := 0) rfl rfl (by decide)
      have n13_2_5 : gm ≠ gr := O13.out.ne (i := 2) (j := 5) rfl rfl (by decide)
      have n13_5_0 : gr ≠ gx := O13.out.ne (i := 5) (j := 0) rfl rfl (by decide)
      have n13_5_2 : gr ≠ gm := O13.out.ne (i := 5) (j := 2) rfl rfl (by decide)
      clear o_ k_
      refine pure_ (i := 0) (N := some 66) (v := ?_) (a' := ?_) #[true, false, false, false, false, false, false, false, false, false, false, false, false, false, false, false, false, false, false, false, false, false, false, false, false, false, false, false, false, false, false, false, false, false, false, false, false, false, false, false] rfl rfl (by kernel_rfl) (fun _ _ _ h => h) (Or.inl ⟨by rfl, ?_⟩) ?_ ?_
      rotate_left
      ·intro w'
       go_simp
       with_reducible rfl
      rotate_left
      ·simp only [Act.put, List.setIfInBounds_toArray, List.set_cons_zero, List.set_cons_succ, i64_w, i32_w]
       rfl
      refine pure_ (i := 1) (N := some 67) (v := ?_) (a' := ?_) #[true, true, false, false, false, false, false, false, false, false, false, false, false, false, false, false, false, false, false, false, false, false, false, false, false, false, false, false, false, false, false, false, false, false, false, false, false, false, false, false] rfl rfl (by kernel_rfl) (fun _ _ _ h => h) (Or.inl ⟨by rfl, ?_⟩) ?_ ?_
      rotate_left
      ·intro w'
       go_simp
       with_reducible rfl
      rotate_left
      ·simp only [Act.put, List.setIfInBounds_toArray, List.set_cons_zero, List.set_cons_succ, i64_w, i32_w]
       rfl
      refine pure_ (i := 2) (N := some 68) (v := ?_) (a' := ?_) #[true, true, true, false, false, false, false, false, false, false, false, false, false, false, false, false, false, false, false, false, false, false, false, false, false, false, false, false, false, false, false, false, false, false, false, false, false, false, false, false] rfl rfl (by kernel_rfl) (fun _ _ _ h => h) (Or.inl ⟨by rfl, ?_⟩) ?_ ?_
      rotate_left
      ·intro w'
       go_simp
       with_reducible rfl
      rotate_left
      ·simp only [Act.put, List.setIfInBounds_toArray, List.set_cons_zero, List.set_cons_succ, i64_w, i32_w]
       rfl
      refine pure_ (i := 3) (N := some 69) (v := ?_) (a' := ?_) #[true, true, true, true, false, false, false, false, false, false, false, false, false, false, false, false, false, false, false, false, false, false, false, false, false, false, false, false, false, false, false, false, false, false, false, false, false, false, false, false] rfl rfl (by kernel_rfl) (fun _ _ _ h => h) (Or.inl ⟨by rfl, ?_⟩) ?_ ?_
      rotate_left
      ·intro w'
       go_simp
       with_reducible rfl
      rotate_left
      ·simp only [Act.put, List.setIfInBounds_toArray, List.set_cons_zero, List.set_cons_succ, i64_w, i32_w]
       rfl
      refine pure_ (i := 4) (N := some 70) (v := ?_) (a' := ?_) #[true, true, true, true, true, false, false, false, false, false, false, false, false, false, false, false, false, false, false, false, false, false, false, false, false, false, false, false, false, false, false, false, false, false, false, false, false, false, false, false] rfl rfl (by kernel_rfl) (fun _ _ _ h => h) (Or.inl ⟨by rfl, ?_⟩) ?_ ?_
      rotate_left
      ·intro w'
       go_simp
       with_reducible rfl
      rotate_left
      ·simp only [Act.put, List.setIfInBounds_toArray, List.set_cons_zero, List.set_cons_succ, i64_w, i32_w]
       rfl
      refine pure_ (i := 5) (N := some 71) (v := ?_) (a' := ?_) #[true, true, true, true, true, true, false, false, false, false, false, false, false, false, false, false, false, false, false, false, false, false, false, false, false, false, false, false, false, false, false, false, false, false, false, false, false, false, false, false] rfl rfl (by kernel_rfl) (fun _ _ _ h => h) (Or.inl ⟨by rfl, ?_⟩) ?_ ?_
      rotate_left
      ·intro w'
       go_simp
       with_reducible rfl
      rotate_left
      ·simp only [Act.put, List.setIfInBounds_toArray, List.set_cons_zero, List.set_cons_succ, i64_w, i32_w]
       rfl
      refine pure_ (i := 7) (N := some 73) (v := ?_) (a' := ?_) #[true, true, true, true, true, true, false, true, false, false, false, false, false, false, false, false, false, false, false, false, false, false, false, false, false, false, false, false, false, false, false, false, false, false, false, false, false, false, false, false] rfl rfl (by kernel_rfl) (fun _ _ _ h => h) (Or.inl ⟨by rfl, ?_⟩) ?_ ?_
      rotate_left
      ·intro w'
       go_simp
       with_reducible rfl
      rotate_left
      ·simp only [Act.put, List.setIfInBounds_toArray, List.set_cons_zero, List.set_cons_succ, i64_w, i32_w]
       rfl
      refine pure_ (i := 8) (N := some 74) (v := ?_) (a' := ?_) #[true, true, true, true, true, true, false, true, true, false, false, false, false, false, false, false, false, false, false, false, false, false, false, false, false, false, false, false, false, false, false, false, false, false, false, false, false, false, false, false] rfl rfl (by kernel_rfl) (fun _ _ _ h => h) (Or.inl ⟨by rfl, ?_⟩) ?_ ?_
      rotate_left
      ·intro w'
       go_simp
       with_reducible rfl
      rotate_left
      ·simp only [Act.put, List.setIfInBounds_toArray, List.set_cons_zero, List.set_cons_succ, i64_w, i32_w]
       rfl
      refine pure_ (i := 9) (N := some 75) (v := ?_) (a' := ?_) #[true, true, true, true, true, true, false, true, true, true, false, false, false, false, false, false, false, false, false, false, false, false, false, false, false, false, false, false, false, false, false, false, false, false, false, false, false, false, false, false] rfl rfl (by kernel_rfl) (fun _ _ _ h => h) (Or.inl ⟨by rfl, ?_⟩) ?_ ?_
      rotate_left
      ·intro w'
       go_simp
       with_reducible rfl
      rotate_left
      ·simp only [Act.put, List.setIfInBounds_toArray, List.set_cons_zero, List.set_cons_succ, i64_w, i32_w]
       rfl
      refine pure_ (i := 11) (N := some 77) (v := ?_) (a' := ?_) #[true, true, true, true, true, true, false, true, true, true, false, true, false, false, false, false, false, false, false, false, false, false, false, false, false, false, false, false, false, false, false, false, false, false, false, false, false, false, false, false] rfl rfl (by kernel_rfl) (fun _ _ _ h => h) (Or.inl ⟨by rfl, ?_⟩) ?_ ?_
      rotate_left
      ·intro w'
       go_simp
       with_reducible rfl
      rotate_left
      ·simp only [Act.put, List.setIfInBounds_toArray, List.set_cons_zero, List.set_cons_succ, i64_w, i32_w]
       rfl
      refine take_ (i := 6) (N := some 72) (v := ?_) (a' := ?_) #[true, true, true, true, true, true, true, true, true, true, false, true, false, false, false, false, false, false, false, false, false, false, false, false, false, false, false, false, false, false, false, false, false, false, false, false, false, false, false, false] rfl rfl (by kernel_rfl) (fun _ _ _ h => h) (Or.inl ⟨by rfl, ?_⟩) hHeld ?_ ?_
      rotate_left
      ·rintro w' ⟨s0, s1, s2, s3, s4, s5, s6, s7, s8, s9⟩
       go_simp
       with_reducible rfl
      rotate_left
      ·simp only [Act.put, List.setIfInBounds_toArray, List.set_cons_zero, List.set_cons_succ, i64_w, i32_w]
       rfl
      refine take_ (i := 10) (N := some 76) (v := ?_) (a' := ?_) #[true, true, true, true, true, true, true, true, true, true, true, true, false, false, false, false, false, false, false, false, false, false, false, false, false, false, false, false, false, false, false, false, false, false, false, false, false, false, false, false] rfl rfl (by kernel_rfl) (fun _ _ _ h => h) (Or.inl ⟨by rfl, ?_⟩) hHeld ?_ ?_
      rotate_left
      ·rintro w' ⟨s0, s1, s2, s3, s4, s5, s6, s7, s8, s9⟩
       go_simp
       with_reducible rfl
      rotate_left
      ·simp only [Act.put, List.setIfInBounds_toArray, List.set_cons_zero, List.set_cons_succ, i64_w, i32_w]
       rfl
      refine take_ (i := 12) (N := some 78) (v := ?_) (a' := ?_) #[true, true, true, true, true, true, true, true, true, true, true, true, true, false, false, false, false, false, false, false, false, false, false, false, false, false, false, false, false, false, false, false, false, false, false, false, false, false, false, false] rfl rfl (by kernel_rfl) (fun _ _ _ h => h) (Or.inl ⟨by rfl, ?_⟩) hHeld ?_ ?_
      rotate_left
      ·rintro w' ⟨s0, s1, s2, s3, s4, s5, s6, s7, s8, s9⟩
       go_simp
       with_reducible rfl
      rotate_left
      ·simp only [Act.put, List.setIfInBounds_toArray, List.set_cons_zero, List.set_cons_succ, i64_w, i32_w]
       rfl
      refine pure_ (i := 13) (N := some 79) (v := ?_) (a' := ?_) #[true, true, true, true, true, true, true, true, true, true, true, true, true, true, false, false, false, false, false, false, false, false, false, false, false, false, false, false, false, false, false, false, false, false, false, false, false, false, false, false] rfl rfl (by kernel_rfl) (fun _ _ _ h => h) (Or.inl ⟨by rfl, ?_⟩) ?_ ?_
      rotate_left
      ·intro w'
       go_simp
       with_reducible rfl
      rotate_left
      ·simp only [Act.put, List.setIfInBounds_toArray, List.set_cons_zero, List.set_cons_succ, i64_w, i32_w]
       rfl
      refine take_ (i := 14) (N := some 80) (v := ?_) (a' := ?_) #[true, true, true, true, true, true, true, true, true, true, true, true, true, true, true, false, false, false, false, false, false, false, false, false, false, false, false, false, false, false, false, false, false, false, false, false, false, false, false, false] rfl rfl (by kernel_rfl) (fun _ _ _ h => h) (Or.inl ⟨by rfl, ?_⟩) hHeld ?_ ?_
      rotate_left
      ·rintro w' ⟨s0, s1, s2, s3, s4, s5, s6, s7, s8, s9⟩
       go_simp
       with_reducible rfl
      rotate_left
      ·simp only [Act.put, List.setIfInBounds_toArray, List.set_cons_zero, List.set_cons_succ, i64_w, i32_w]
       rfl
      refine one_ (i := 15) (N := some 81) #[true, true, true, true, true, true, true, true, true, true, true, true, true, true, true, true, false, false, false, false, false, false, false, false, false, false, false, false, false, false, false, false, false, false, false, false, false, false, false, false] rfl rfl (by kernel_rfl) (by decide) (fun K_ hK_ => ?_)
      refine goes_ Try.func19 (by kernel_rfl) rfl #[.agg #[.int .i64 (rd_T31 L a2_0).f0, .int .i64 (rd_T31 L a2_0).f1, .slice B7 (rd_T31 L a2_0).f2.length d7], .agg #[.int .i64 (rd_T31 L a2_0).f0, .int .i64 (rd_T31 L a2_0).f1, .slice A9 (rd_T31 L a2_0).f2.length c9]] (by rfl) rfl rfl (by (try simp only [List.map_toArray, List.map_cons, List.map_nil]); first | done | rfl) ?_
      refine (chapbookref07_Same.calls 30 (rd_T31 L a2_0).f0 (rd_T31 L a2_0).f1 _ _ (rd_T31 L a2_0).f2 (rd_T31 L a2_0).f0 (rd_T31 L a2_0).f1 _ _ (rd_T31 L a2_0).f2 true _ (O13.out.nreads (i := 4) rfl).2.2 (O13.out.nreads (i := 4) rfl).2.1 (Kd.F_now HR9_13.out) HC9.out (psame 30 _ _ _ (by have := HS8.out; omega) (by have := HS8.out; omega))).mono ?_
      rintro e_ w14 ⟨rfl, hb_⟩
      refine ⟨_, rfl, ?_⟩
      have o_ := O13.out.below hb_
      have k_ := KeepS.of_below (N := N1) hb_
      have O14 : Aside0 (Own N1 w14 [cells gx #[.int .i64 a2_0, .int .i64 a2_1] 41, ObjC gj C L, cells gm #[.int .i64 C, .slice (some ad) L.length cm] 37, emp, nrow k47 47 (.slice B7 (rd_T31 L a2_0).f2.length d7) (rd_T31 L a2_0).f2, cells gr #[.int .i64 (rd_T31 L a2_0).f0, .int .i64 (rd_T31 L a2_0).f1, .slice B7 (rd_T31 L a2_0).f2.length d7] 31]) := ⟨o_⟩
      have K14 : Aside0 (KeepS N1 wo w14) := ⟨K13.out.trans k_⟩
      have HRM_14 : Aside0 (Kd.F k31 w14 N1 (some ad) L.length L) := ⟨keepF HRM_13.out k_⟩
      have HR9_14 : Aside0 (Kd.F k47 w14 N1 A9 (rd_T31 L a2_0).f2.length (rd_T31 L a2_0).f2) := ⟨keepF HR9_13.out k_⟩
      clear c13_0_0 f13_0_0 c13_0_1 f13_0_1 c13_2_0 f13_2_0 c13_2_1 f13_2_1 c13_5_0 f13_5_0 c13_5_1 f13_5_1 c13_5_2 f13_5_2 n13_0_2 n13_0_5 n13_2_0 n13_2_5 n13_5_0 n13_5_2 O13 K13 HRM_13 HR9_13
      have c14_0_0 : w14.cell? ⟨gx, 0, none⟩ = some (.int .i64 a2_0) := (blk_cell (O14.out.blk (i := 0) rfl) 0).trans rfl
      have f14_0_0 : w14.frozen? ⟨gx, 0, none⟩ = false := blk_frozen (O14.out.blk (i := 0) rfl) 0
      have c14_0_1 : w14.cell? ⟨gx, 1, none⟩ = some (.int .i64 a2_1) := (blk_cell (O14.out.blk (i := 0) rfl) 1).trans rfl
      have f14_0_1 : w14.frozen? ⟨gx, 1, none⟩ = false := blk_frozen (O14.out.blk (i := 0) rfl) 1
      have c14_2_0 : w14.cell? ⟨gm, 0, none⟩ = some (.int .i64 C) := (blk_cell (O14.out.blk (i := 2) rfl) 0).trans rfl
      have f14_2_0 : w14.frozen? ⟨gm, 0, none⟩ = false := blk_frozen (O14.out.blk (i := 2) rfl) 0
      have c14_2_1 : w14.cell? ⟨gm, 1, none⟩ = some (.slice (some ad) L.length cm) := (blk_cell (O14.out.blk (i := 2) rfl) 1).trans rfl
      have f14_2_1 : w14.frozen? ⟨gm, 1, none⟩ = false := blk_frozen (O14.out.blk (i := 2) rfl) 1
      have c14_5_0 : w14.cell? ⟨gr, 0, none⟩ = some (.int .i64 (rd_T31 L a2_0).f0) := (blk_cell (O14.out.blk (i := 5) rfl) 0).trans rfl
      have f14_5_0 : w14.frozen? ⟨gr, 0, none⟩ = false := blk_frozen (O14.out.blk (i := 5) rfl) 0
      have c14_5_1 : w14.cell? ⟨gr, 1, none⟩ = some (.int .i64 (rd_T31 L a2_0).f1) := (blk_cell (O14.out.blk (i := 5) rfl) 1).trans rfl
      have f14_5_1 : w14.frozen? ⟨gr, 1, none⟩ = false := blk_frozen (O14.out.blk (i := 5) rfl) 1
      have c14_5_2 : w14.cell? ⟨gr, 2, none⟩ = some (.slice B7 (rd_T31 L a2_0).f2.length d7) := (blk_cell (O14.out.blk (i := 5) rfl) 2).trans rfl
      have f14_5_2 : w14.frozen? ⟨gr, 2, none⟩ = false := blk_frozen (O14.out.blk (i := 5) rfl) 2
      have n14_0_2 : gx ≠ gm := O14.out.ne (i := 0) (j := 2) rfl rfl (by decide)
      have n14_0_5 : gx ≠ gr := O14.out.ne (i := 0) (j := 5) rfl rfl (by decide)
      have n14_2_0 : gm ≠ gx := O14.out.ne (i := 2) (j := 0) rfl rfl (by decide)
      have n14_2_5 : gm ≠ gr := O14.out.ne (i := 2) (j := 5) rfl rfl (by decide)
      have n14_5_0 : gr ≠ gx := O14.out.ne (i := 5) (j := 0) rfl rfl (by decide)
      have n14_5_2 : gr ≠ gm := O14.out.ne (i := 5) (j := 2) rfl rfl (by decide)
      clear o_ k_ hb_
      clear hHeld
      refine hK_.out _ _ ⟨((blk_cell (O14.out.blk (i := 0) rfl) 0).trans rfl), ((blk_cell (O14.out.blk (i := 0) rfl) 1).trans rfl), ((blk_cell (O14.out.blk (i := 2) rfl) 0).trans rfl), ((blk_cell (O14.out.blk (i := 2) rfl) 1).trans rfl), ((blk_cell (O14.out.blk (i := 5) rfl) 0).trans rfl), ((blk_cell (O14.out.blk (i := 5) rfl) 1).trans rfl), ((blk_cell (O14.out.blk (i := 5) rfl) 2).trans rfl), (keepCell K14.out XX.out.1 HBK.out), (keepCell K14.out XX.out.2.1 HBK.out), (keepCell K14.out XX.out.2.2 HBK.out)⟩ (fun hHeld => ?_)
      clear hK_ K_
      refine norm_ (a' := ?_) ?_ ?_
      rotate_left
      ·simp only [Act.put, List.setIfInBounds_toArray, List.set_cons_zero, List.set_cons_succ, i64_w, i32_w]
       rfl
      refine pure_ (i := 16) (N := some 82) (v := ?_) (a' := ?_) #[true, true, true, true, true, true, true, true, true, true, true, true, true, true, true, true, true, false, false, false, false, false, false, false, false, false, false, false, false, false, false, false, false, false, false, false, false, false, false, false] rfl rfl (by kernel_rfl) (fun _ _ _ h => h) (Or.inl ⟨by rfl, ?_⟩) ?_ ?_
      rotate_left
      ·intro w'
       go_simp
       with_reducible rfl
      rotate_left
      ·simp only [Act.put, List.setIfInBounds_toArray, List.set_cons_zero, List.set_cons_succ, i64_w, i32_w]
       rfl
      refine pure_ (i := 17) (N := some 83) (v := ?_) (a' := ?_) #[true, true, true, true, true, true, true, true, true, true, true, true, true, true, true, true, true, true, false, false, false, false, false, false, false, false, false, false, false, false, false, false, false, false, false, false, false, false, false, false] rfl rfl (by kernel_rfl) (fun _ _ _ h => h) (Or.inl ⟨by rfl, ?_⟩) ?_ ?_
      rotate_left
      ·intro w'
       go_simp
       with_reducible rfl
      rotate_left
      ·simp only [Act.put, List.setIfInBounds_toArray, List.set_cons_zero, List.set_cons_succ, i64_w, i32_w]
       rfl
      refine pure_ (i := 18) (N := some 84) (v := ?_) (a' := ?_) #[true, true, true, true, true, true, true, true, true, true, true, true, true, true, true, true, true, true, true, false, false, false, false, false, false, false, false, false, false, false, false, false, false, false, false, false, false, false, false, false] rfl rfl (by kernel_rfl) (fun _ _ _ h => h) (Or.inl ⟨by rfl, ?_⟩) ?_ ?_
      rotate_left
      ·intro w'
       go_simp
       with_reducible rfl
      rotate_left
      ·simp only [Act.put, List.setIfInBounds_toArray, List.set_cons_zero, List.set_cons_succ, i64_w, i32_w]
       rfl
      refine pure_ (i := 19) (N := some 85) (v := ?_) (a' := ?_) #[true, true, true, true, true, true, true, true, true, true, true, true, true, true, true, true, true, true, true, true, false, false, false, false, false, false, false, false, false, false, false, false, false, false, false, false, false, false, false, false] rfl rfl (by kernel_rfl) (fun _ _ _ h => h) (Or.inl ⟨by rfl, ?_⟩) ?_ ?_
      rotate_left
      ·intro w'
       go_simp
       with_reducible rfl
      rotate_left
      ·simp only [Act.put, List.setIfInBounds_toArray, List.set_cons_zero, List.set_cons_succ, i64_w, i32_w]
       rfl
      refine pure_ (i := 20) (N := some 86) (v := ?_) (a' := ?_) #[true, true, true, true, true, true, true, true, true, true, true, true, true, true, true, true, true, true, true, true, true, false, false, false, false, false, false, false, false, false, false, false, false, false, false, false, false, false, false, false] rfl rfl (by kernel_rfl) (fun _ _ _ h => h) (Or.inl ⟨by rfl, ?_⟩) ?_ ?_
      rotate_left
      ·intro w'
       go_simp
       with_reducible rfl
      rotate_left
      ·simp only [Act.put, List.setIfInBounds_toArray, List.set_cons_zero, List.set_cons_succ, i64_w, i32_w]
       rfl
      refine pure_ (i := 21) (N := some 87) (v := ?_) (a' := ?_) #[true, true, true, true, true, true, true, true, true, true, true, true, true, true, true, true, true, true, true, true, true, true, false, false, false, false, false, false, false, false, false, false, false, false, false, false, false, false, false, false] rfl rfl (by kernel_rfl) (fun _ _ _ h => h) (Or.inl ⟨by rfl, ?_⟩) ?_ ?_
      rotate_left
      ·intro w'
       go_simp
       with_reducible rfl
      rotate_left
      ·simp only [Act.put, List.setIfInBounds_toArray, List.set_cons_zero, List.set_cons_succ, i64_w, i32_w]
       rfl
      refine pure_ (i := 22) (N := some 88) (v := ?_) (a' := ?_) #[true, true, true, true, true, true, true, true, true, true, true, true, true, true, true, true, true, true, true, true, true, true, true, false, false, false, false, false, false, false, false, false, false, false, false, false, false, false, false, false] rfl rfl (by kernel_rfl) (fun _ _ _ h => h) (Or.inl ⟨by rfl, ?_⟩) ?_ ?_
      rotate_left
      ·intro w'
       go_simp
       with_reducible rfl
      rotate_left
      ·simp only [Act.put, List.setIfInBounds_toArray, List.set_cons_zero, List.set_cons_succ, i64_w, i32_w]
       rfl
      refine pure_ (i := 24) (N := some 90) (v := undef) (a' := ?_) #[true, true, true, true, true, true, true, true, true, true, true, true, true, true, true, true, true, true, true, true, true, true, true, false, true, false, false, false, false, false, false, false, false, false, false, false, false, false, false, false] rfl rfl (by kernel_rfl) (fun _ _ _ h => h) (Or.inr ⟨by rfl, rfl⟩) ?_ ?_
      rotate_left
      ·simp only [Act.put, List.setIfInBounds_toArray, List.set_cons_zero, List.set_cons_succ, i64_w, i32_w]
       rfl
      refine take_ (i := 23) (N := some 89) (v := undef) (a' := ?_) #[true, true, true, true, true, true, true, true, true, true, true, true, true, true, true, true, true, true, true, true, true, true, true, true, true, false, false, false, false, false, false, false, false, false, false, false, false, false, false, false] rfl rfl (by kernel_rfl) (fun _ _ _ h => h) (Or.inr ⟨by rfl, rfl⟩) hHeld ?_ ?_
      rotate_left
      ·simp only [Act.put, List.setIfInBounds_toArray, List.set_cons_zero, List.set_cons_succ, i64_w, i32_w]
       rfl
      refine one_ (i := 25) (N := some 91) #[true, true, true, true, true, true, true, true, true, true, true, true, true, true, true, true, true, true, true, true, true, true, true, true, true, true, false, false, false, false, false, false, false, false, false, false, false, false, false, false] rfl rfl (by kernel_rfl) (by decide) (fun K_ hK_ => ?_)
      refine skipped_ (by rfl) ?_
      clear hHeld
      refine hK_.out _ _ ⟨((blk_cell (O14.out.blk (i := 0) rfl) 0).trans rfl), ((blk_cell (O14.out.blk (i := 0) rfl) 1).trans rfl), ((blk_cell (O14.out.blk (i := 2) rfl) 0).trans rfl), ((blk_cell (O14.out.blk (i := 2) rfl) 1).trans rfl), ((blk_cell (O14.out.blk (i := 5) rfl) 0).trans rfl), ((blk_cell (O14.out.blk (i := 5) rfl) 1).trans rfl), ((blk_cell (O14.out.blk (i := 5) rfl) 2).trans rfl), (keepCell K14.out XX.out.1 HBK.out), (keepCell K14.out XX.out.2.1 HBK.out), (keepCell K14.out XX.out.2.2 HBK.out)⟩ (fun hHeld => ?_)
      clear hK_ K_
      refine norm_ (a' := ?_) ?_ ?_
      rotate_left
      ·simp only [Act.put, List.setIfInBounds_toArray, List.set_cons_zero, List.set_cons_succ, i64_w, i32_w]
       rfl
      refine pure_ (i := 26) (N := some 92) (v := undef) (a' := ?_) #[true, true, true, true, true, true, true, true, true, true, true, true, true, true, true, true, true, true, true, true, true, true, true, true, true, true, true, false, false, false, false, false, false, false, false, false, false, false, false, false] rfl rfl (by kernel_rfl) (fun _ _ _ h => h) (Or.inr ⟨by rfl, rfl⟩) ?_ ?_
      rotate_left
      ·simp only [Act.put, List.setIfInBounds_toArray, List.set_cons_zero, List.set_cons_succ, i64_w, i32_w]
       rfl
      refine pure_ (i := 27) (N := some 93) (v := ?_) (a' := ?_) #[true, true, true, true, true, true, true, true, true, true, true, true, true, true, true, true, true, true, true, true, true, true, true, true, true, true, true, true, false, false, false, false, false, false, false, false, false, false, false, false] rfl rfl (by kernel_rfl) (fun _ _ _ h => h) (Or.inl ⟨by rfl, ?_⟩) ?_ ?_
      rotate_left
      ·intro w'
       go_simp
       with_reducible rfl
      rotate_left
      ·simp only [Act.put, List.setIfInBounds_toArray, List.set_cons_zero, List.set_cons_succ, i64_w, i32_w]
       rfl
      refine pure_ (i := 28) (N := some 94) (v := ?_) (a' := ?_) #[true, true, true, true, true, true, true, true, true, true, true, true, true, true, true, true, true, true, true, true, true, true, true, true, true, true, true, true, true, false, false, false, false, false, false, false, false, false, false, false] rfl rfl (by kernel_rfl) (fun _ _ _ h => h) (Or.inl ⟨by rfl, ?_⟩) ?_ ?_
      rotate_left
      ·intro w'
       go_simp
       with_reducible rfl
      rotate_left
      ·simp only [Act.put, List.setIfInBounds_toArray, List.set_cons_zero, List.set_cons_succ, i64_w, i32_w]
       rfl
      refine pure_ (i := 29) (N := some 95) (v := ?_) (a' := ?_) #[true, true, true, true, true, true, true, true, true, true, true, true, true, true, true, true, true, true, true, true, true, true, true, true, true, true, true, true, true, true, false, false, false, false, false, false, false, false, false, false] rfl rfl (by kernel_rfl) (fun _ _ _ h => h) (Or.inl ⟨by rfl, ?_⟩) ?_ ?_
      rotate_left
      ·intro w'
       go_simp
       with_reducible rfl
      rotate_left
      ·simp only [Act.put, List.setIfInBounds_toArray, List.set_cons_zero, List.set_cons_succ, i64_w, i32_w]
       rfl
      refine pure_ (i := 30) (N := some 96) (v := ?_) (a' := ?_) #[true, true, true, true, true, true, true, true, true, true, true, true, true, true, true, true, true, true, true, true, true, true, true, true, true, true, true, true, true, true, true, false, false, false, false, false, false, false, false, false] rfl rfl (by kernel_rfl) (fun _ _ _ h => h) (Or.inl ⟨by rfl, ?_⟩) ?_ ?_
      rotate_left
      ·intro w'
       go_simp
       with_reducible rfl
      rotate_left
      ·simp only [Act.put, List.setIfInBounds_toArray, List.set_cons_zero, List.set_cons_succ, i64_w, i32_w]
       rfl
      refine pure_ (i := 31) (N := some 97) (v := ?_) (a' := ?_) #[true, true, true, true, true, true, true, true, true, true, true, true, true, true, true, true, true, true, true, true, true, true, true, true, true, true, true, true, true, true, true, true, false, false, false, false, false, false, false, false] rfl rfl (by kernel_rfl) (fun _ _ _ h => h) (Or.inl ⟨by rfl, ?_⟩) ?_ ?_
      rotate_left
      ·intro w'
       go_simp
       with_reducible rfl
      rotate_left
      ·simp only [Act.put, List.setIfInBounds_toArray, List.set_cons_zero, List.set_cons_succ, i64_w, i32_w]
       rfl
      refine pure_ (i := 34) (N := some 100) (v := ?_) (a' := ?_) #[true, true, true, true, true, true, true, true, true, true, true, true, true, true, true, true, true, true, true, true, true, true, true, true, true, true, true, true, true, true, true, true, false, false, true, false, false, false, false, false] rfl rfl (by kernel_rfl) (fun _ _ _ h => h) (Or.inl ⟨by rfl, ?_⟩) ?_ ?_
      rotate_left
      ·intro w'
       go_simp
       with_reducible rfl
      rotate_left
      ·simp only [Act.put, List.setIfInBounds_toArray, List.set_cons_zero, List.set_cons_succ, i64_w, i32_w]
       rfl
      refine pure_ (i := 35) (N := some 101) (v := ?_) (a' := ?_) #[true, true, true, true, true, true, true, true, true, true, true, true, true, true, true, true, true, true, true, true, true, true, true, true, true, true, true, true, true, true, true, true, false, false, true, true, false, false, false, false] rfl rfl (by kernel_rfl) (fun _ _ _ h => h) (Or.inl ⟨by rfl, ?_⟩) ?_ ?_
      rotate_left
      ·intro w'
       go_simp
       with_reducible rfl
      rotate_left
      ·simp only [Act.put, List.setIfInBounds_toArray, List.set_cons_zero, List.set_cons_succ, i64_w, i32_w]
       rfl
      refine take_ (i := 32) (N := some 98) (v := ?_) (a' := ?_) #[true, true, true, true, true, true, true, true, true, true, true, true, true, true, true, true, true, true, true, true, true, true, true, true, true, true, true, true, true, true, true, true, true, false, true, true, false, false, false, false] rfl rfl (by kernel_rfl) (fun _ _ _ h => h) (Or.inl ⟨by rfl, ?_⟩) hHeld ?_ ?_
      rotate_left
      ·rintro w' ⟨s0, s1, s2, s3, s4, s5, s6, s7, s8, s9⟩
       go_simp
       with_reducible rfl
      rotate_left
      ·simp only [Act.put, List.setIfInBounds_toArray, List.set_cons_zero, List.set_cons_succ, i64_w, i32_w]
       rfl
      refine take_ (i := 36) (N := some 102) (v := ?_) (a' := ?_) #[true, true, true, true, true, true, true, true, true, true, true, true, true, true, true, true, true, true, true, true, true, true, true, true, true, true, true, true, true, true, true, true, true, false, true, true, true, false, false, false] rfl rfl (by kernel_rfl) (fun _ _ _ h => h) (Or.inl ⟨by rfl, ?_⟩) hHeld ?_ ?_
      rotate_left
      ·rintro w' ⟨s0, s1, s2, s3, s4, s5, s6, s7, s8, s9⟩
       go_simp
       with_reducible rfl
      rotate_left
      ·simp only [Act.put, List.setIfInBounds_toArray, List.set_cons_zero, List.set_cons_succ, i64_w, i32_w]
       rfl
      refine one_ (i := 33) (N := some 99) #[true, true, true, true, true, true, true, true, true, true, true, true, true, true, true, true, true, true, true, true, true, true, true, true, true, true, true, true, true, true, true, true, true, true, true, true, true, false, false, false] rfl rfl (by kernel_rfl) (by decide) (fun K_ hK_ => ?_)
      refine goes_ Try.func20 (by kernel_rfl) rfl #[.pointer (some ⟨gj, 0, none⟩), .int .i64 a2_1] (by rfl) rfl rfl (by (try simp only [List.map_toArray, List.map_cons, List.map_nil]); first | done | rfl) ?_
      obtain ⟨N_, on_, nn_, rr_, bb_⟩ := O14.out.frame1 (i := 1) rfl
      refine (Last_n a2_1 on_ HCR.out HI.out.2).mono ?_
      rintro e_ w15 ⟨rfl, oo_, kk_⟩
      obtain ⟨o_, k_⟩ := bb_ _ _ _ kk_ oo_
      refine ⟨_, rfl, ?_⟩
      have O15 : Aside0 (Own N1 w15 [cells gx #[.int .i64 a2_0, .int .i64 a2_1] 41, ObjC gj C L, cells gm #[.int .i64 C, .slice (some ad) L.length cm] 37, emp, nrow k47 47 (.slice B7 (rd_T31 L a2_0).f2.length d7) (rd_T31 L a2_0).f2, cells gr #[.int .i64 (rd_T31 L a2_0).f0, .int .i64 (rd_T31 L a2_0).f1, .slice B7 (rd_T31 L a2_0).f2.length d7] 31]) := ⟨o_⟩
      have K15 : Aside0 (KeepS N1 wo w15) := ⟨K14.out.trans k_⟩
      have HRM_15 : Aside0 (Kd.F k31 w15 N1 (some ad) L.length L) := ⟨keepF HRM_14.out k_⟩
      have HR9_15 : Aside0 (Kd.F k47 w15 N1 A9 (rd_T31 L a2_0).f2.length (rd_T31 L a2_0).f2) := ⟨keepF HR9_14.out k_⟩
      clear c14_0_0 f14_0_0 c14_0_1 f14_0_1 c14_2_0 f14_2_0 c14_2_1 f14_2_1 c14_5_0 f14_5_0 c14_5_1 f14_5_1 c14_5_2 f14_5_2 n14_0_2 n14_0_5 n14_2_0 n14_2_5 n14_5_0 n14_5_2 O14 K14 HRM_14 HR9_14
      have c15_0_0 : w15.cell? ⟨gx, 0, none⟩ = some (.int .i64 a2_0) := (blk_cell (O15.out.blk (i := 0) rfl) 0).trans rfl
      have f15_0_0 : w15.frozen? ⟨gx, 0, none⟩ = false := blk_frozen (O15.out.blk (i := 0) rfl) 0
      have c15_0_1 : w15.cell? ⟨gx, 1, none⟩ = some (.int .i64 a2_1) := (blk_cell (O15.out.blk (i := 0) rfl) 1).trans rfl
      have f15_0_1 : w15.frozen? ⟨gx, 1, none⟩ = false := blk_frozen (O15.out.blk (i := 0) rfl) 1
      have c15_2_0 : w15.cell? ⟨gm, 0, none⟩ = some (.int .i64 C) := (blk_cell (O15.out.blk (i := 2) rfl) 0).trans rfl
      have f15_2_0 : w15.frozen? ⟨gm, 0, none⟩ = false := blk_frozen (O15.out.blk (i := 2) rfl) 0
      have c15_2_1 : w15.cell? ⟨gm, 1, none⟩ = some (.slice (some ad) L.length cm) := (blk_cell (O15.out.blk (i := 2) rfl) 1).trans rfl
      have f15_2_1 : w15.frozen? ⟨gm, 1, none⟩ = false := blk_frozen (O15.out.blk (i := 2) rfl) 1
      have c15_5_0 : w15.cell? ⟨gr, 0, none⟩ = some (.int .i64 (rd_T31 L a2_0).f0) := (blk_cell (O15.out.blk (i := 5) rfl) 0).trans rfl
      have f15_5_0 : w15.frozen? ⟨gr, 0, none⟩ = false := blk_frozen (O15.out.blk (i := 5) rfl) 0
      have c15_5_1 : w15.cell? ⟨gr, 1, none⟩ = some (.int .i64 (rd_T31 L a2_0).f1) := (blk_cell (O15.out.blk (i := 5) rfl) 1).trans rfl
      have f15_5_1 : w15.frozen? ⟨gr, 1, none⟩ = false := blk_frozen (O15.out.blk (i := 5) rfl) 1
      have c15_5_2 : w15.cell? ⟨gr, 2, none⟩ = some (.slice B7 (rd_T31 L a2_0).f2.length d7) := (blk_cell (O15.out.blk (i := 5) rfl) 2).trans rfl
      have f15_5_2 : w15.frozen? ⟨gr, 2, none⟩ = false := blk_frozen (O15.out.blk (i := 5) rfl) 2
      have n15_0_2 : gx ≠ gm := O15.out.ne (i := 0) (j := 2) rfl rfl (by decide)
      have n15_0_5 : gx ≠ gr := O15.out.ne (i := 0) (j := 5) rfl rfl (by decide)
      have n15_2_0 : gm ≠ gx := O15.out.ne (i := 2) (j := 0) rfl rfl (by decide)
      have n15_2_5 : gm ≠ gr := O15.out.ne (i := 2) (j := 5) rfl rfl (by decide)
      have n15_5_0 : gr ≠ gx := O15.out.ne (i := 5) (j := 0) rfl rfl (by decide)
      have n15_5_2 : gr ≠ gm := O15.out.ne (i := 5) (j := 2) rfl rfl (by decide)
      clear o_ k_ oo_ kk_ on_ nn_ rr_ bb_
      clear hHeld
      refine hK_.out _ _ ⟨((blk_cell (O15.out.blk (i := 0) rfl) 0).trans rfl), ((blk_cell (O15.out.blk (i := 0) rfl) 1).trans rfl), ((blk_cell (O15.out.blk (i := 2) rfl) 0).trans rfl), ((blk_cell (O15.out.blk (i := 2) rfl) 1).trans rfl), ((blk_cell (O15.out.blk (i := 5) rfl) 0).trans rfl), ((blk_cell (O15.out.blk (i := 5) rfl) 1).trans rfl), ((blk_cell (O15.out.blk (i := 5) rfl) 2).trans rfl), (keepCell K15.out XX.out.1 HBK.out), (keepCell K15.out XX.out.2.1 HBK.out), (keepCell K15.out XX.out.2.2 HBK.out)⟩ (fun hHeld => ?_)
      clear hK_ K_
      refine norm_ (a' := ?_) ?_ ?_
      rotate_left
      ·simp only [Act.put, List.setIfInBounds_toArray, List.set_cons_zero, List.set_cons_succ, i64_w, i32_w]
       rfl
      refine one_ (i := 37) (N := some 103) #[true, true, true, true, true, true, true, true, true, true, true, true, true, true, true, true, true, true, true, true, true, true, true, true, true, true, true, true, true, true, true, true, true, true, true, true, true, true, false, false] rfl rfl (by kernel_rfl) (by decide) (fun K_ hK_ => ?_)
      refine goes_ Try.func21 (by kernel_rfl) rfl #[.pointer (some ⟨gm, 0, none⟩), .int .i64 a2_1] (by rfl) rfl rfl (by (try simp only [List.map_toArray, List.map_cons, List.map_nil]); first | done | rfl) ?_
      obtain ⟨N_, on_, nn_, rr_, bb_⟩ := O15.out.frame1 (i := 2) rfl
      refine (RLastF a2_1 on_ (Kd.F_mono HRM_15.out nn_) HLL.out).mono ?_
      rintro e_ w16 ⟨rfl, oo_, kk_⟩
      obtain ⟨o_, k_⟩ := bb_ _ _ _ kk_ oo_
      refine ⟨_, rfl, ?_⟩
      have O16 : Aside0 (Own N1 w16 [cells gx #[.int .i64 a2_0, .int .i64 a2_1] 41, ObjC gj C L, cells gm #[.int .i64 C, .slice (some ad) L.length cm] 37, emp, nrow k47 47 (.slice B7 (rd_T31 L a2_0).f2.length d7) (rd_T31 L a2_0).f2, cells gr #[.int .i64 (rd_T31 L a2_0).f0, .int .i64 (rd_T31 L a2_0).f1, .slice B7 (rd_T31 L a2_0).f2.length d7] 31]) := ⟨o_⟩
      have K16 : Aside0 (KeepS N1 wo w16) := ⟨K15.out.trans k_⟩
      have HRM_16 : Aside0 (Kd.F k31 w16 N1 (some ad) L.length L) := ⟨keepF HRM_15.out k_⟩
      have HR9_16 : Aside0 (Kd.F k47 w16 N1 A9 (rd_T31 L a2_0).f2.length (rd_T31 L a2_0).f2) := ⟨keepF HR9_15.out k_⟩
      clear c15_0_0 f15_0_0 c15_0_1 f15_0_1 c15_2_0 f15_2_0 c15_2_1 f15_2_1 c15_5_0 f15_5_0 c15_5_1 f15_5_1 c15_5_2 f15_5_2 n15_0_2 n15_0_5 n15_2_0 n15_2_5 n15_5_0 n15_5_2 O15 K15 HRM_15 HR9_15
      have c16_0_0 : w16.cell? ⟨gx, 0, none⟩ = some (.int .i64 a2_0) := (blk_cell (O16.out.blk (i := 0) rfl) 0).trans rfl
      have f16_0_0 : w16.frozen? ⟨gx, 0, none⟩ = false := blk_frozen (O16.out.blk (i := 0) rfl) 0
      have c16_0_1 : w16.cell? ⟨gx, 1, none⟩ = some (.int .i64 a2_1) := (blk_cell (O16.out.blk (i := 0) rfl) 1).trans rfl
      have f16_0_1 : w16.frozen? ⟨gx, 1, none⟩ = false := blk_frozen (O16.out.blk (i := 0) rfl) 1
      have c16_2_0 : w16.cell? ⟨gm, 0, none⟩ = some (.int .i64 C) := (blk_cell (O16.out.blk (i := 2) rfl) 0).trans rfl
      have f16_2_0 : w16.frozen? ⟨gm, 0, none⟩ = false := blk_frozen (O16.out.blk (i := 2) rfl) 0
      have c16_2_1 : w16.cell? ⟨gm, 1, none⟩ = some (.slice (some ad) L.length cm) := (blk_cell (O16.out.blk (i := 2) rfl) 1).trans rfl
      have f16_2_1 : w16.frozen? ⟨gm, 1, none⟩ = false := blk_frozen (O16.out.blk (i := 2) rfl) 1
      have c16_5_0 : w16.cell? ⟨gr, 0, none⟩ = some (.int .i64 (rd_T31 L a2_0).f0) := (blk_cell (O16.out.blk (i := 5) rfl) 0).trans rfl
      have f16_5_0 : w16.frozen? ⟨gr, 0, none⟩ = false := blk_frozen (O16.out.blk (i := 5) rfl) 0
      have c16_5_1 : w16.cell? ⟨gr, 1, none⟩ = some (.int .i64 (rd_T31 L a2_0).f1) := (blk_cell (O16.out.blk (i := 5) rfl) 1).trans rfl
      have f16_5_1 : w16.frozen? ⟨gr, 1, none⟩ = false := blk_frozen (O16.out.blk (i := 5) rfl) 1
      have c16_5_2 : w16.cell? ⟨gr, 2, none⟩ = some (.slice B7 (rd_T31 L a2_0).f2.length d7) := (blk_cell (O16.out.blk (i := 5) rfl) 2).trans rfl
      have f16_5_2 : w16.frozen? ⟨gr, 2, none⟩ = false := blk_frozen (O16.out.blk (i := 5) rfl) 2
      have n16_0_2 : gx ≠ gm := O16.out.ne (i := 0) (j := 2) rfl rfl (by decide)
      have n16_0_5 : gx ≠ gr := O16.out.ne (i := 0) (j := 5) rfl rfl (by decide)
      have n16_2_0 : gm ≠ gx := O16.out.ne (i := 2) (j := 0) rfl rfl (by decide)
      have n16_2_5 : gm ≠ gr := O16.out.ne (i := 2) (j := 5) rfl rfl (by decide)
      have n16_5_0 : gr ≠ gx := O16.out.ne (i := 5) (j := 0) rfl rfl (by decide)
      have n16_5_2 : gr ≠ gm := O16.out.ne (i := 5) (j := 2) rfl rfl (by decide)
      clear o_ k_ oo_ kk_ on_ nn_ rr_ bb_
      clear hHeld
      refine hK_.out _ _ ⟨((blk_cell (O16.out.blk (i := 0) rfl) 0).trans rfl), ((blk_cell (O16.out.blk (i := 0) rfl) 1).trans rfl), ((blk_cell (O16.out.blk (i := 2) rfl) 0).trans rfl), ((blk_cell (O16.out.blk (i := 2) rfl) 1).trans rfl), ((blk_cell (O16.out.blk (i := 5) rfl) 0).trans rfl), ((blk_cell (O16.out.blk (i := 5) rfl) 1).trans rfl), ((blk_cell (O16.out.blk (i := 5) rfl) 2).trans rfl), (keepCell K16.out XX.out.1 HBK.out), (keepCell K16.out XX.out.2.1 HBK.out), (keepCell K16.out XX.out.2.2 HBK.out)⟩ (fun hHeld => ?_)
      clear hK_ K_
      refine norm_ (a' := ?_) ?_ ?_
      rotate_left
      ·simp only [Act.put, List.setIfInBounds_toArray, List.set_cons_zero, List.set_cons_succ, i64_w, i32_w]
       rfl
      refine pure_ (i := 38) (N := some 104) (v := ?_) (a' := ?_) #[true, true, true, true, true, true, true, true, true, true, true, true, true, true, true, true, true, true, true, true, true, true, true, true, true, true, true, true, true, true, true, true, true, true, true, true, true, true, true, false] rfl rfl (by kernel_rfl) (fun _ _ _ h => h) (Or.inl ⟨by rfl, ?_⟩) ?_ ?_
      rotate_left
      ·intro w'
       go_simp
       with_reducible rfl
      rotate_left
      ·simp only [Act.put, List.setIfInBounds_toArray, List.set_cons_zero, List.set_cons_succ, i64_w, i32_w]
       rfl
      refine pure_ (i := 39) (N := some 105) (v := ?_) (a' := ?_) #[true, true, true, true, true, true, true, true, true, true, true, true, true, true, true, true, true, true, true, true, true, true, true, true, true, true, true, true, true, true, true, true, true, true, true, true, true, true, true, true] rfl rfl (by kernel_rfl) (fun _ _ _ h => h) (Or.inl ⟨by rfl, ?_⟩) ?_ ?_
      rotate_left
      ·intro w'
       go_simp
       with_reducible rfl
      rotate_left
      ·simp only [Act.put, List.setIfInBounds_toArray, List.set_cons_zero, List.set_cons_succ, i64_w, i32_w]
       rfl
      refine done_ (by kernel_rfl) ?_
      clear hHeld
      go_wp2
      have HW : Aside0 (Own N1 w16 ([ObjC gj C L, cells gm #[.int .i64 C, .slice (some ad) L.length cm] 37, cells gr #[.int .i64 (rd_T31 L a2_0).f0, .int .i64 (rd_T31 L a2_0).f1, .slice B7 (rd_T31 L a2_0).f2.length d7] 31] ++ [row kU Sep.TU (.slice B7 (rd_T31 L a2_0).f2.length d7) (rd_T31 L a2_0).f2])) := ⟨(O16.out.pickL [1, 2, 5, 4] (by decide) (by simp)).nrow_row (d := kU) looseU (i := 3) rfl⟩
      clear c16_0_0 f16_0_0 c16_0_1 f16_0_1 c16_2_0 f16_2_0 c16_2_1 f16_2_1 c16_5_0 f16_5_0 c16_5_1 f16_5_1 c16_5_2 f16_5_2 n16_0_2 n16_0_5 n16_2_0 n16_2_5 n16_5_0 n16_5_2
      clear O16
      go_loopw [109] (fun i wr => RoU N1 wo [ObjC gj C L, cells gm #[.int .i64 C, .slice (some ad) L.length cm] 37, cells gr #[.int .i64 (rd_T31 L a2_0).f0, .int .i64 (rd_T31 L a2_0).f1, .slice B7 (rd_T31 L a2_0).f2.length d7] 31] B7 (rd_T31 L a2_0).f2.length d7 i wr) (fun i _ => (rd_T31 L a2_0).f2.length - (intOf i).toNat)
      case atStart => exact ⟨0, _, by omega, by omega, rfl, ⟨rfl⟩, HW, K16⟩
      case round =>
       obtain ⟨y, us, hy0, hy1, rfl, HJ, OB, KB⟩ := hrel
       have hun := HUN.out
       by_cases hly : y < ((rd_T31 L a2_0).f2.length : Int)
       ·obtain ⟨au, e4, ⟨zv, hz⟩, hf, hk, us2, hu2, ho⟩ := putK (⟨#[111, 116, 104, 101, 114]⟩ : ByteArray) OB.out (i := 3) rfl y hy0 hly
        cases e4
        have hs3 : wrap64 (y + 1) = y + 1 := by unfold wrap64; omega
        have hp2 := eq_true hy0
        have hq2 := eq_true hly
        have hd2 : decide (y < ((rd_T31 L a2_0).f2.length : Int)) = true := decide_eq_true hly
        have HY := Aside0.mk (And.intro hy0 hly)
        have HO4 := Aside0.mk ho
        have HK4 := Aside0.mk hk
        have HU2 : Aside0 (us2.length = (rd_T31 L a2_0).f2.length) := ⟨hu2.trans HJ.out⟩
        clear ho hk hu2 hun hy0 hy1 hly
        have O17 : Aside0 (Own N1 wr [ObjC gj C L, cells gm #[.int .i64 C, .slice (some ad) L.length cm] 37, cells gr #[.int .i64 (rd_T31 L a2_0).f0, .int .i64 (rd_T31 L a2_0).f1, .slice (some au) (rd_T31 L a2_0).f2.length d7] 31, row kU Sep.TU (.slice (some au) (rd_T31 L a2_0).f2.length d7) us]) := ⟨OB.out⟩
        have K17 : Aside0 (KeepS N1 wo wr) := ⟨KB.out⟩
        have c17_2_0 : wr.cell? ⟨gr, 0, none⟩ = some (.int .i64 (rd_T31 L a2_0).f0) := (blk_cell (O17.out.blk (i := 2) rfl) 0).trans rfl
        have f17_2_0 : wr.frozen? ⟨gr, 0, none⟩ = false := blk_frozen (O17.out.blk (i := 2) rfl) 0
        have c17_2_1 : wr.cell? ⟨gr, 1, none⟩ = some (.int .i64 (rd_T31 L a2_0).f1) := (blk_cell (O17.out.blk (i := 2) rfl) 1).trans rfl
        have f17_2_1 : wr.frozen? ⟨gr, 1, none⟩ = false := blk_frozen (O17.out.blk (i := 2) rfl) 1
        have c17_2_2 : wr.cell? ⟨gr, 2, none⟩ = some (.slice (some au) (rd_T31 L a2_0).f2.length d7) := (blk_cell (O17.out.blk (i := 2) rfl) 2).trans rfl
        have f17_2_2 : wr.frozen? ⟨gr, 2, none⟩ = false := blk_frozen (O17.out.blk (i := 2) rfl) 2
        clear OB KB
        go_wp2_with (first | ((with_reducible refine gate_store (t := 9) (p := 116) rfl ?_); refine own_store rfl rfl rfl (w1 := wr.setCell (au.add (y.toNat * 4)) (.string (⟨#[111, 116, 104, 101, 114]⟩ : ByteArray))) (N := N1) (l' := [ObjC gj C L, cells gm #[.int .i64 C, .slice (some ad) L.length cm] 37, cells gr #[.int .i64 (rd_T31 L a2_0).f0, .int .i64 (rd_T31 L a2_0).f1, .slice (some au) (rd_T31 L a2_0).f2.length d7] 31, row kU Sep.TU (.slice (some au) (rd_T31 L a2_0).f2.length d7) us2]) ?hr HO4.out HK4.out ?_; (case hr => first | (go_simp; done) | (go_simp; rfl)); intro w18 o_ k_; have O18 : Aside0 (Own N1 w18 [ObjC gj C L, cells gm #[.int .i64 C, .slice (some ad) L.length cm] 37, cells gr #[.int .i64 (rd_T31 L a2_0).f0, .int .i64 (rd_T31 L a2_0).f1, .slice (some au) (rd_T31 L a2_0).f2.length d7] 31, row kU Sep.TU (.slice (some au) (rd_T31 L a2_0).f2.length d7) us2]) := ⟨o_⟩; have K18 : Aside0 (KeepS N1 wo w18) := ⟨K17.out.trans k_⟩; clear c17_2_0 f17_2_0 c17_2_1 f17_2_1 c17_2_2 f17_2_2 O17 K17; have c18_2_0 : w18.cell? ⟨gr, 0, none⟩ = some (.int .i64 (rd_T31 L a2_0).f0) := (blk_cell (O18.out.blk (i := 2) rfl) 0).trans rfl; have f18_2_0 : w18.frozen? ⟨gr, 0, none⟩ = false := blk_frozen (O18.out.blk (i := 2) rfl) 0; have c18_2_1 : w18.cell? ⟨gr, 1, none⟩ = some (.int .i64 (rd_T31 L a2_0).f1) := (blk_cell (O18.out.blk (i := 2) rfl) 1).trans rfl; have f18_2_1 : w18.frozen? ⟨gr, 1, none⟩ = false := blk_frozen (O18.out.blk (i := 2) rfl) 1; have c18_2_2 : w18.cell? ⟨gr, 2, none⟩ = some (.slice (some au) (rd_T31 L a2_0).f2.length d7) := (blk_cell (O18.out.blk (i := 2) rfl) 2).trans rfl; have f18_2_2 : w18.frozen? ⟨gr, 2, none⟩ = false := blk_frozen (O18.out.blk (i := 2) rfl) 2; clear o_ k_))
        go_roundw
        case rel => exact ⟨y + 1, us2, by have := HY.out; omega, by have := HY.out; omega, int_eq (by unfold wrap64; have := HY.out; have := HUN.out; omega), HU2, O18, K18⟩
        case measure => have := HY.out; simp [intOf]; omega
       ·have hd2 : decide (y < ((rd_T31 L a2_0).f2.length : Int)) = false := decide_eq_false hly
        clear hly hy0 hy1 hun HJ HW
        have O17 : Aside0 (Own N1 wr [ObjC gj C L, cells gm #[.int .i64 C, .slice (some ad) L.length cm] 37, cells gr #[.int .i64 (rd_T31 L a2_0).f0, .int .i64 (rd_T31 L a2_0).f1, .slice B7 (rd_T31 L a2_0).f2.length d7] 31, row kU Sep.TU (.slice B7 (rd_T31 L a2_0).f2.length d7) us]) := ⟨OB.out⟩
        have K17 : Aside0 (KeepS N1 wo wr) := ⟨KB.out⟩
        clear OB KB
        go_wp2_with (first | ((with_reducible refine gate_callee (f := 17) rfl ?_); refine goesL_ (some 119) rfl rfl Try.func17 (by kernel_rfl) rfl #[.pointer (some ⟨gj, 0, none⟩)] rfl (by (try simp only [List.map_toArray, List.map_cons, List.map_nil]); first | done | rfl) ?_; obtain ⟨N_, on_, nn_, rr_, bb_⟩ := O17.out.frame1 (i := 0) rfl; refine (AllR on_ HLL.out ⟨fun x a b => Nat.le_trans (HSH.out x a b) (by decide)⟩).mono ?_; rintro e_ w18 ⟨B6, d6, rfl, oo_, kk_⟩; obtain ⟨o_, k_⟩ := bb_ _ _ _ kk_ oo_; refine ⟨_, rfl, ?_⟩; have O18 : Aside0 (Own N1 w18 [ObjC gj C L, cells gm #[.int .i64 C, .slice (some ad) L.length cm] 37, cells gr #[.int .i64 (rd_T31 L a2_0).f0, .int .i64 (rd_T31 L a2_0).f1, .slice B7 (rd_T31 L a2_0).f2.length d7] 31, row kU Sep.TU (.slice B7 (rd_T31 L a2_0).f2.length d7) us, row kR Sep.TR (.slice B6 L.length d6) L]) := ⟨o_⟩; have K18 : Aside0 (KeepS N1 wo w18) := ⟨K17.out.trans k_⟩; clear O17 K17; clear o_ k_ oo_ kk_ on_ nn_ rr_ bb_))
        go_loopw [121] (fun i wr => RoR N1 wo [ObjC gj C L, cells gm #[.int .i64 C, .slice (some ad) L.length cm] 37] L.length B6 d6 i wr) (fun i _ => L.length - (intOf i).toNat)
        case atStart => exact ⟨0, L, by omega, by omega, rfl, ⟨rfl⟩, ⟨O18.out.pickL [0, 1, 4] (by decide) (by simp)⟩, K18⟩
        case round =>
         obtain ⟨y, L2, hy0, hy1, rfl, HJ, OB, KB⟩ := hrel
         have hll := HLL.out
         by_cases hly : y < (L.length : Int)
         ·obtain ⟨ae, A7, c7, e7, q0, q1, q2⟩ := at_W OB.out (i := 2) rfl y hy0 hly
          cases e7
          have hs3 : wrap64 (y + 1) = y + 1 := by unfold wrap64; omega
          have hp2 := eq_true hy0
          have hq2 := eq_true hly
          have hd2 : decide (y < (L.length : Int)) = true := decide_eq_true hly
          have HY := Aside0.mk (And.intro hy0 hly)
          have HQC := Aside0.mk q2
          obtain ⟨m7, hm7⟩ : ∃ m, m = (rd_T31 L2 y).f2.length := ⟨_, rfl⟩
          rw [← hm7] at q2
          have HQC2 : Aside0 (wr.cell? ⟨(ae.add (y.toNat * 3)).block, (ae.add (y.toNat * 3)).off + 2, none⟩ = some (.slice A7 m7 c7)) := ⟨by rw [hm7]; exact HQC.out⟩
          have HMB : Aside0 (m7 ≤ 9223372036854775807) := ⟨by have q_ := row_max OB.out (i := 2) rfl y hy0 hly; rw [hm7]; exact q_⟩
          clear HQC hm7 hll hy0 hy1 hly
          have O19 : Aside0 (Own N1 wr [ObjC gj C L, cells gm #[.int .i64 C, .slice (some ad) L.length cm] 37, both (row kR Sep.TR (.slice (some ae) L.length d6) L2) (cellIs ⟨(ae.add (y.toNat * 3)).block, (ae.add (y.toNat * 3)).off + 2, none⟩ (.slice A7 m7 c7))]) := ⟨mark OB.out (i := 2) rfl y HY.out.1 HY.out.2 HQC2.out⟩
          have K19 : Aside0 (KeepS N1 wo wr) := ⟨KB.out⟩
          clear OB KB
          go_wp2_with (first | ((with_reducible refine gate_dst (N := 16) rfl ?_); refine own_box rfl (D := 16) rfl (cs := #[.int .i64 0, .int .i64 0, .slice none 0 0]) (t := 31) ?hr O19.out ?_; (case hr => first | (go_simp; done) | (go_simp; rfl)); intro gq w20 o_ k_; have O20 : Aside0 (Own N1 w20 [ObjC gj C L, cells gm #[.int .i64 C, .slice (some ad) L.length cm] 37, both (row kR Sep.TR (.slice (some ae) L.length d6) L2) (cellIs ⟨(ae.add (y.toNat * 3)).block, (ae.add (y.toNat * 3)).off + 2, none⟩ (.slice A7 m7 c7)), cells gq #[.int .i64 0, .int .i64 0, .slice none 0 0] 31]) := ⟨o_⟩; have K20 : Aside0 (KeepS N1 wo w20) := ⟨K19.out.trans k_⟩; clear O19 K19; have c20_3_0 : w20.cell? ⟨gq, 0, none⟩ = some (.int .i64 0) := (blk_cell (O20.out.blk (i := 3) rfl) 0).trans rfl; have f20_3_0 : w20.frozen? ⟨gq, 0, none⟩ = false := blk_frozen (O20.out.blk (i := 3) rfl) 0; have c20_3_1 : w20.cell? ⟨gq, 1, none⟩ = some (.int .i64 0) := (blk_cell (O20.out.blk (i := 3) rfl) 1).trans rfl; have f20_3_1 : w20.frozen? ⟨gq, 1, none⟩ = false := blk_frozen (O20.out.blk (i := 3) rfl) 1; have c20_3_2 : w20.cell? ⟨gq, 2, none⟩ = some (.slice none 0 0) := (blk_cell (O20.out.blk (i := 3) rfl) 2).trans rfl; have f20_3_2 : w20.frozen? ⟨gq, 2, none⟩ = false := blk_frozen (O20.out.blk (i := 3) rfl) 2; clear o_ k_) | ((with_reducible refine gate_store (t := 31) (p := 16) rfl ?_); refine own_store rfl rfl rfl (w1 := (World.setCell (World.setCell (World.setCell w20 ⟨gq, 0, none⟩ (.int .i64 (rd_T31 L2 y).f0)) ⟨gq, 1, none⟩ (.int .i64 (rd_T31 L2 y).f1)) ⟨gq, 2, none⟩ (.slice A7 m7 c7))) (N := N1) (l' := [ObjC gj C L, cells gm #[.int .i64 C, .slice (some ad) L.length cm] 37, both (row kR Sep.TR (.slice (some ae) L.length d6) L2) (cellIs ⟨(ae.add (y.toNat * 3)).block, (ae.add (y.toNat * 3)).off + 2, none⟩ (.slice A7 m7 c7)), cells gq #[.int .i64 (rd_T31 L2 y).f0, .int .i64 (rd_T31 L2 y).f1, .slice A7 m7 c7] 31]) ?hr ?ho ?hk ?_; (case hr => first | (go_simp; done) | (go_simp; rfl)); (case ho => exact (((O20.out.set (i := 3) rfl 0 (.int .i64 (rd_T31 L2 y).f0)).set (i := 3) rfl 1 (.int .i64 (rd_T31 L2 y).f1)).set (i := 3) rfl 2 (.slice A7 m7 c7))); (case hk => exact (((KeepS.setCell (O20.out.far (i := 3) rfl) (.int .i64 (rd_T31 L2 y).f0)).trans (KeepS.setCell (O20.out.far (i := 3) rfl) (.int .i64 (rd_T31 L2 y).f1))).trans (KeepS.setCell (O20.out.far (i := 3) rfl) (.slice A7 m7 c7)))); intro w21 o_ k_; have O21 : Aside0 (Own N1 w21 [ObjC gj C L, cells gm #[.int .i64 C, .slice (some ad) L.length cm] 37, both (row kR Sep.TR (.slice (some ae) L.length d6) L2) (cellIs ⟨(ae.add (y.toNat * 3)).block, (ae.add (y.toNat * 3)).off + 2, none⟩ (.slice A7 m7 c7)), cells gq #[.int .i64 (rd_T31 L2 y).f0, .int .i64 (rd_T31 L2 y).f1, .slice A7 m7 c7] 31]) := ⟨o_⟩; have K21 : Aside0 (KeepS N1 wo w21) := ⟨K20.out.trans k_⟩; clear c20_3_0 f20_3_0 c20_3_1 f20_3_1 c20_3_2 f20_3_2 O20 K20; have c21_3_0 : w21.cell? ⟨gq, 0, none⟩ = some (.int .i64 (rd_T31 L2 y).f0) := (blk_cell (O21.out.blk (i := 3) rfl) 0).trans rfl; have f21_3_0 : w21.frozen? ⟨gq, 0, none⟩ = false := blk_frozen (O21.out.blk (i := 3) rfl) 0; have c21_3_1 : w21.cell? ⟨gq, 1, none⟩ = some (.int .i64 (rd_T31 L2 y).f1) := (blk_cell (O21.out.blk (i := 3) rfl) 1).trans rfl; have f21_3_1 : w21.frozen? ⟨gq, 1, none⟩ = false := blk_frozen (O21.out.blk (i := 3) rfl) 1; have c21_3_2 : w21.cell? ⟨gq, 2, none⟩ = some (.slice A7 m7 c7) := (blk_cell (O21.out.blk (i := 3) rfl) 2).trans rfl; have f21_3_2 : w21.frozen? ⟨gq, 2, none⟩ = false := blk_frozen (O21.out.blk (i := 3) rfl) 2; clear o_ k_))
          go_loopw [128] (fun i wr => RoQ N1 wo [ObjC gj C L, cells gm #[.int .i64 C, .slice (some ad) L.length cm] 37] gq L.length ae d6 y (rd_T31 L2 y).f0 (rd_T31 L2 y).f1 A7 m7 c7 i wr) (fun i _ => m7 - (intOf i).toNat)
          case atStart => exact ⟨0, L2, by omega, by omega, rfl, HJ, O21, K21⟩
          case round =>
           clear c21_3_0 f21_3_0 c21_3_1 f21_3_1 c21_3_2 f21_3_2
           obtain ⟨u, L3, hu0, hu1, rfl, HJ3, OC, KC⟩ := hrel
           have hmb := HMB.out
           by_cases hlu : u < (m7 : Int)
           ·obtain ⟨a2, e8, ⟨zv, hz⟩, hf, hk, L4, hl4, ho⟩ := putN2 (⟨#[101, 108, 115, 101]⟩ : ByteArray) y u OC.out (i := 2) rfl HY.out.1 HY.out.2 hu0 hlu
            cases e8
            have hs4 : wrap64 (u + 1) = u + 1 := by unfold wrap64; omega
            have hp3 := eq_true hu0
            have hq3 := eq_true hlu
            have hd3 : decide (u < (m7 : Int)) = true := decide_eq_true hlu
            have HUU := Aside0.mk (And.intro hu0 hlu)
            have HO8 := Aside0.mk ho
            have HK8 := Aside0.mk hk
            have HL8 : Aside0 (L4.length = L.length) := ⟨hl4.trans HJ3.out⟩
            clear ho hk hl4 hmb hu0 hu1 hlu
            have O22 : Aside0 (Own N1 wr [ObjC gj C L, cells gm #[.int .i64 C, .slice (some ad) L.length cm] 37, both (row kR Sep.TR (.slice (some ae) L.length d6) L3) (cellIs ⟨(ae.add (y.toNat * 3)).block, (ae.add (y.toNat * 3)).off + 2, none⟩ (.slice (some a2) m7 c7)), cells gq #[.int .i64 (rd_T31 L2 y).f0, .int .i64 (rd_T31 L2 y).f1, .slice (some a2) m7 c7] 31]) := ⟨OC.out⟩
            have K22 : Aside0 (KeepS N1 wo wr) := ⟨KC.out⟩
            have c22_3_0 : wr.cell? ⟨gq, 0, none⟩ = some (.int .i64 (rd_T31 L2 y).f0) := (blk_cell (O22.out.blk (i := 3) rfl) 0).trans rfl
            have f22_3_0 : wr.frozen? ⟨gq, 0, none⟩ = false := blk_frozen (O22.out.blk (i := 3) rfl) 0
            have c22_3_1 : wr.cell? ⟨gq, 1, none⟩ = some (.int .i64 (rd_T31 L2 y).f1) := (blk_cell (O22.out.blk (i := 3) rfl) 1).trans rfl
            have f22_3_1 : wr.frozen? ⟨gq, 1, none⟩ = false := blk_frozen (O22.out.blk (i := 3) rfl) 1
            have c22_3_2 : wr.cell? ⟨gq, 2, none⟩ = some (.slice (some a2) m7 c7) := (blk_cell (O22.out.blk (i := 3) rfl) 2).trans rfl
            have f22_3_2 : wr.frozen? ⟨gq, 2, none⟩ = false := blk_frozen (O22.out.blk (i := 3) rfl) 2
            clear OC KC
            go_wp2_with (first | ((with_reducible refine gate_store (t := 9) (p := 135) rfl ?_); refine own_store rfl rfl rfl (w1 := wr.setCell (a2.add (u.toNat * 4)) (.string (⟨#[101, 108, 115, 101]⟩ : ByteArray))) (N := N1) (l' := [ObjC gj C L, cells gm #[.int .i64 C, .slice (some ad) L.length cm] 37, both (row kR Sep.TR (.slice (some ae) L.length d6) L4) (cellIs ⟨(ae.add (y.toNat * 3)).block, (ae.add (y.toNat * 3)).off + 2, none⟩ (.slice (some a2) m7 c7)), cells gq #[.int .i64 (rd_T31 L2 y).f0, .int .i64 (rd_T31 L2 y).f1, .slice (some a2) m7 c7] 31]) ?hr HO8.out HK8.out ?_; (case hr => first | (go_simp; done) | (go_simp; rfl)); refine fun w23 o_ k_ => ?_; have O23 : Aside0 (Own N1 w23 [ObjC gj C L, cells gm #[.int .i64 C, .slice (some ad) L.length cm] 37, both (row kR Sep.TR (.slice (some ae) L.length d6) L4) (cellIs ⟨(ae.add (y.toNat * 3)).block, (ae.add (y.toNat * 3)).off + 2, none⟩ (.slice (some a2) m7 c7)), cells gq #[.int .i64 (rd_T31 L2 y).f0, .int .i64 (rd_T31 L2 y).f1, .slice (some a2) m7 c7] 31]) := ⟨o_⟩; have K23 : Aside0 (KeepS N1 wo w23) := ⟨K22.out.trans k_⟩; clear c22_3_0 f22_3_0 c22_3_1 f22_3_1 c22_3_2 f22_3_2 O22 K22; have c23_3_0 : w23.cell? ⟨gq, 0, none⟩ = some (.int .i64 (rd_T31 L2 y).f0) := (blk_cell (O23.out.blk (i := 3) rfl) 0).trans rfl; have f23_3_0 : w23.frozen? ⟨gq, 0, none⟩ = false := blk_frozen (O23.out.blk (i := 3) rfl) 0; have c23_3_1 : w23.cell? ⟨gq, 1, none⟩ = some (.int .i64 (rd_T31 L2 y).f1) := (blk_cell (O23.out.blk (i := 3) rfl) 1).trans rfl; have f23_3_1 : w23.frozen? ⟨gq, 1, none⟩ = false := blk_frozen (O23.out.blk (i := 3) rfl) 1; have c23_3_2 : w23.cell? ⟨gq, 2, none⟩ = some (.slice (some a2) m7 c7) := (blk_cell (O23.out.blk (i := 3) rfl) 2).trans rfl; have f23_3_2 : w23.frozen? ⟨gq, 2, none⟩ = false := blk_frozen (O23.out.blk (i := 3) rfl) 2; clear o_ k_))
            go_roundw
            case rel => exact ⟨u + 1, L4, by have := HUU.out; omega, by have := HUU.out; omega, int_eq (by unfold wrap64; have := HUU.out; have := HMB.out; omega), HL8, O23, K23⟩
            case measure => have := HUU.out; simp [intOf]; omega
           ·have hd3 : decide (u < (m7 : Int)) = false := decide_eq_false hlu
            clear hlu hu0 hu1 hmb
            have O22 : Aside0 (Own N1 wr [ObjC gj C L, cells gm #[.int .i64 C, .slice (some ad) L.length cm] 37, both (row kR Sep.TR (.slice (some ae) L.length d6) L3) (cellIs ⟨(ae.add (y.toNat * 3)).block, (ae.add (y.toNat * 3)).off + 2, none⟩ (.slice A7 m7 c7)), cells gq #[.int .i64 (rd_T31 L2 y).f0, .int .i64 (rd_T31 L2 y).f1, .slice A7 m7 c7] 31]) := ⟨OC.out⟩
            have K22 : Aside0 (KeepS N1 wo wr) := ⟨KC.out⟩
            clear OC KC
            go_wp2
            go_roundw
            case rel => exact ⟨y + 1, L3, by have := HY.out; omega, by have := HY.out; omega, int_eq (by unfold wrap64; have := HY.out; have := HLL.out; omega), HJ3, ⟨(unmark O22.out (i := 2) rfl).take 3⟩, K22⟩
            case measure => have := HY.out; simp [intOf]; omega
         ·have hd2 : decide (y < (L.length : Int)) = false := decide_eq_false hly
          clear hly hy0 hy1 hll
          have O19 : Aside0 (Own N1 wr [ObjC gj C L, cells gm #[.int .i64 C, .slice (some ad) L.length cm] 37, row kR Sep.TR (.slice B6 L.length d6) L2]) := ⟨OB.out⟩
          have K19 : Aside0 (KeepS N1 wo wr) := ⟨KB.out⟩
          have HRM_19 : Aside0 (Kd.F k31 wr N1 (some ad) L.length L) := ⟨keepF HRM.out KB.out⟩
          have c19_1_0 : wr.cell? ⟨gm, 0, none⟩ = some (.int .i64 C) := (blk_cell (O19.out.blk (i := 1) rfl) 0).trans rfl
          have f19_1_0 : wr.frozen? ⟨gm, 0, none⟩ = false := blk_frozen (O19.out.blk (i := 1) rfl) 0
          have c19_1_1 : wr.cell? ⟨gm, 1, none⟩ = some (.slice (some ad) L.length cm) := (blk_cell (O19.out.blk (i := 1) rfl) 1).trans rfl
          have f19_1_1 : wr.frozen? ⟨gm, 1, none⟩ = false := blk_frozen (O19.out.blk (i := 1) rfl) 1
          clear OB KB
          go_wp2
          refine start_ (n := 8) (S := fun w' => w'.cell? ⟨gm, 0, none⟩ = some (.int .i64 C) ∧ w'.cell? ⟨gm, 1, none⟩ = some (.slice (some ad) L.length cm)) (ds := []) #[false, false, false, false, false, false, false, false] (by kernel_rfl) rfl rfl ⟨((blk_cell (O19.out.blk (i := 1) rfl) 0).trans rfl), ((blk_cell (O19.out.blk (i := 1) rfl) 1).trans rfl)⟩ (fun hHeld => ?_)
          obtain ⟨w20, hw_⟩ : ∃ W, W = wr.drew := ⟨_, rfl⟩
          have o_ := O19.out.drew
          have k_ : KeepS N1 wr wr.drew := KeepS.drew
          rw [← hw_] at o_ k_ hHeld ⊢
          clear hw_
          have O20 : Aside0 (Own N1 w20 [ObjC gj C L, cells gm #[.int .i64 C, .slice (some ad) L.length cm] 37, row kR Sep.TR (.slice B6 L.length d6) L2]) := ⟨o_⟩
          have K20 : Aside0 (KeepS N1 wo w20) := ⟨K19.out.trans k_⟩
          have HRM_20 : Aside0 (Kd.F k31 w20 N1 (some ad) L.length L) := ⟨keepF HRM_19.out k_⟩
          clear c19_1_0 f19_1_0 c19_1_1 f19_1_1 O19 K19 HRM_19
          have c20_1_0 : w20.cell? ⟨gm, 0, none⟩ = some (.int .i64 C) := (blk_cell (O20.out.blk (i := 1) rfl) 0).trans rfl
          have f20_1_0 : w20.frozen? ⟨gm, 0, none⟩ = false := blk_frozen (O20.out.blk (i := 1) rfl) 0
          have c20_1_1 : w20.cell? ⟨gm, 1, none⟩ = some (.slice (some ad) L.length cm) := (blk_cell (O20.out.blk (i := 1) rfl) 1).trans rfl
          have f20_1_1 : w20.frozen? ⟨gm, 1, none⟩ = false := blk_frozen (O20.out.blk (i := 1) rfl) 1
          clear o_ k_
          refine pure_ (i := 0) (N := some 138) (v := ?_) (a' := ?_) #[true, false, false, false, false, false, false, false] rfl rfl (by kernel_rfl) (fun _ _ _ h => h) (Or.inl ⟨by rfl, ?_⟩) ?_ ?_
          rotate_left
          ·intro w'
           go_simp
           with_reducible rfl
          rotate_left
          ·simp only [Act.put, List.setIfInBounds_toArray, List.set_cons_zero, List.set_cons_succ, i64_w, i32_w]
           rfl
          refine pure_ (i := 2) (N := some 140) (v := ?_) (a' := ?_) #[true, false, true, false, false, false, false, false] rfl rfl (by kernel_rfl) (fun _ _ _ h => h) (Or.inl ⟨by rfl, ?_⟩) ?_ ?_
          rotate_left
          ·intro w'
           go_simp
           with_reducible rfl
          rotate_left
          ·simp only [Act.put, List.setIfInBounds_toArray, List.set_cons_zero, List.set_cons_succ, i64_w, i32_w]
           rfl
          refine pure_ (i := 3) (N := some 141) (v := ?_) (a' := ?_) #[true, false, true, true, false, false, false, false] rfl rfl (by kernel_rfl) (fun _ _ _ h => h) (Or.inl ⟨by rfl, ?_⟩) ?_ ?_
          rotate_left
          ·intro w'
           go_simp
           with_reducible rfl
          rotate_left
          ·simp only [Act.put, List.setIfInBounds_toArray, List.set_cons_zero, List.set_cons_succ, i64_w, i32_w]
           rfl
          refine pure_ (i := 4) (N := some 142) (v := ?_) (a' := ?_) #[true, false, true, true, true, false, false, false] rfl rfl (by kernel_rfl) (fun _ _ _ h => h) (Or.inl ⟨by rfl, ?_⟩) ?_ ?_
          rotate_left
          ·intro w'
           go_simp
           with_reducible rfl
          rotate_left
          ·simp only [Act.put, List.setIfInBounds_toArray, List.set_cons_zero, List.set_cons_succ, i64_w, i32_w]
           rfl
          refine take_ (i := 5) (N := some 143) (v := ?_) (a' := ?_) #[true, false, true, true, true, true, false, false] rfl rfl (by kernel_rfl) (fun _ _ _ h => h) (Or.inl ⟨by rfl, ?_⟩) hHeld ?_ ?_
          rotate_left
          ·rintro w' ⟨s0, s1⟩
           go_simp
           with_reducible rfl
          rotate_left
          ·simp only [Act.put, List.setIfInBounds_toArray, List.set_cons_zero, List.set_cons_succ, i64_w, i32_w]
           rfl
          refine one_ (i := 1) (N := some 139) #[true, true, true, true, true, true, false, false] rfl rfl (by kernel_rfl) (by decide) (fun K_ hK_ => ?_)
          refine goes_ Try.func17 (by kernel_rfl) rfl #[.pointer (some ⟨gj, 0, none⟩)] (by rfl) rfl rfl (by (try simp only [List.map_toArray, List.map_cons, List.map_nil]); first | done | rfl) ?_
          obtain ⟨N_, on_, nn_, rr_, bb_⟩ := O20.out.frame1 (i := 0) rfl
          refine (All_g on_ HLL.out HI.out.2).mono ?_
          rintro e_ w21 ⟨B1, d1, rfl, oo_, kk_⟩
          obtain ⟨o_, k_⟩ := bb_ _ _ _ kk_ oo_
          refine ⟨_, rfl, ?_⟩
          have O21 : Aside0 (Own N1 w21 [ObjC gj C L, cells gm #[.int .i64 C, .slice (some ad) L.length cm] 37, row kR Sep.TR (.slice B6 L.length d6) L2, nrow k31 31 (.slice B1 L.length d1) L]) := ⟨o_⟩
          have K21 : Aside0 (KeepS N1 wo w21) := ⟨K20.out.trans k_⟩
          have HRM_21 : Aside0 (Kd.F k31 w21 N1 (some ad) L.length L) := ⟨keepF HRM_20.out k_⟩
          clear c20_1_0 f20_1_0 c20_1_1 f20_1_1 O20 K20 HRM_20
          have c21_1_0 : w21.cell? ⟨gm, 0, none⟩ = some (.int .i64 C) := (blk_cell (O21.out.blk (i := 1) rfl) 0).trans rfl
          have f21_1_0 : w21.frozen? ⟨gm, 0, none⟩ = false := blk_frozen (O21.out.blk (i := 1) rfl) 0
          have c21_1_1 : w21.cell? ⟨gm, 1, none⟩ = some (.slice (some ad) L.length cm) := (blk_cell (O21.out.blk (i := 1) rfl) 1).trans rfl
          have f21_1_1 : w21.frozen? ⟨gm, 1, none⟩ = false := blk_frozen (O21.out.blk (i := 1) rfl) 1
          clear o_ k_ oo_ kk_ on_ nn_ rr_ bb_
          clear hHeld
          refine hK_.out _ _ ⟨((blk_cell (O21.out.blk (i := 1) rfl) 0).trans rfl), ((blk_cell (O21.out.blk (i := 1) rfl) 1).trans rfl)⟩ (fun hHeld => ?_)
          clear hK_ K_
          refine norm_ (a' := ?_) ?_ ?_
          rotate_left
          ·simp only [Act.put, List.setIfInBounds_toArray, List.set_cons_zero, List.set_cons_succ, i64_w, i32_w]
           rfl
          refine one_ (i := 6) (N := some 144) #[true, true, true, true, true, true, true, false] rfl rfl (by kernel_rfl) (by decide) (fun K_ hK_ => ?_)
          refine goes_ Try.func16 (by kernel_rfl) rfl #[.slice B1 L.length d1, .slice (some ad) L.length cm] (by rfl) rfl rfl (by (try simp only [List.map_toArray, List.map_cons, List.map_nil]); first | done | rfl) ?_
          refine (chapbookref07_SameAll.calls 200 _ _ L _ _ L true _ (O21.out.nreads (i := 3) rfl).2.2 (O21.out.nreads (i := 3) rfl).2.1 (Kd.F_now HRM_21.out) HCM.out (psameAll 8 200 L (by have := HLL.out; omega) HSH.out (by decide) (by have := HI.out.1; have := HL40.out; omega))).mono ?_
          rintro e_ w22 ⟨rfl, hb_⟩
          refine ⟨_, rfl, ?_⟩
          have o_ := O21.out.below hb_
          have k_ := KeepS.of_below (N := N1) hb_
          have O22 : Aside0 (Own N1 w22 [ObjC gj C L, cells gm #[.int .i64 C, .slice (some ad) L.length cm] 37, row kR Sep.TR (.slice B6 L.length d6) L2, nrow k31 31 (.slice B1 L.length d1) L]) := ⟨o_⟩
          have K22 : Aside0 (KeepS N1 wo w22) := ⟨K21.out.trans k_⟩
          have HRM_22 : Aside0 (Kd.F k31 w22 N1 (some ad) L.length L) := ⟨keepF HRM_21.out k_⟩
          clear c21_1_0 f21_1_0 c21_1_1 f21_1_1 O21 K21 HRM_21
          have c22_1_0 : w22.cell? ⟨gm, 0, none⟩ = some (.int .i64 C) := (blk_cell (O22.out.blk (i := 1) rfl) 0).trans rfl
          have f22_1_0 : w22.frozen? ⟨gm, 0, none⟩ = false := blk_frozen (O22.out.blk (i := 1) rfl) 0
          have c22_1_1 : w22.cell? ⟨gm, 1, none⟩ = some (.slice (some ad) L.length cm) := (blk_cell (O22.out.blk (i := 1) rfl) 1).trans rfl
          have f22_1_1 : w22.frozen? ⟨gm, 1, none⟩ = false := blk_frozen (O22.out.blk (i := 1) rfl) 1
          clear o_ k_ hb_
          clear hHeld
          refine hK_.out _ _ ⟨((blk_cell (O22.out.blk (i := 1) rfl) 0).trans rfl), ((blk_cell (O22.out.blk (i := 1) rfl) 1).trans rfl)⟩ (fun hHeld => ?_)
          clear hK_ K_
          refine norm_ (a' := ?_) ?_ ?_
          rotate_left
          ·simp only [Act.put, List.setIfInBounds_toArray, List.set_cons_zero, List.set_cons_succ, i64_w, i32_w]
           rfl
          refine pure_ (i := 7) (N := some 6) (v := ?_) (a' := ?_) #[true, true, true, true, true, true, true, true] rfl rfl (by kernel_rfl) (fun _ _ _ h => h) (Or.inl ⟨by rfl, ?_⟩) ?_ ?_
          rotate_left
          ·intro w'
           go_simp
           with_reducible rfl
          rotate_left
          ·simp only [Act.put, List.setIfInBounds_toArray, List.set_cons_zero, List.set_cons_succ, i64_w, i32_w]
           rfl
          refine done_ (by kernel_rfl) ?_
          clear hHeld
          go_wp2
          go_ret
          exact ⟨rfl, (KA.out.trans (K22.out.mono HN1.out)).below (Nat.le_refl _) (fun k hk => by rw [HN.out]; exact hk)⟩
     ·have HW0 := Aside0.mk (And.intro hw0 (show (L.length : Int) ≤ a2_0 by omega))
      have d1 : decide (a2_0 ≥ 0) = true := decide_eq_true hw0
      have d2 : decide (0 ≤ a2_0) = true := d1
      have d3 : decide (a2_0 < (L.length : Int)) = false := decide_eq_false hw1
      clear hw0 hw1
      have HUN : Aside0 ((0 : Nat) ≤ 1000000) := ⟨by omega⟩
      have O8 : Aside0 (Own N1 wo [cells gx #[.int .i64 a2_0, .int .i64 a2_1] 41, ObjC gj C L, cells gm #[.int .i64 C, .slice Am L.length cm] 37, emp]) := ⟨h3⟩
      have K8 : Aside0 (KeepS N1 wo wo) := ⟨KeepS.refl _ _⟩
      have HRM_8 : Aside0 (Kd.F k31 wo N1 Am L.length L) := ⟨HRM.out⟩
      have c8_0_0 : wo.cell? ⟨gx, 0, none⟩ = some (.int .i64 a2_0) := (blk_cell (O8.out.blk (i := 0) rfl) 0).trans rfl
      have f8_0_0 : wo.frozen? ⟨gx, 0, none⟩ = false := blk_frozen (O8.out.blk (i := 0) rfl) 0
      have c8_0_1 : wo.cell? ⟨gx, 1, none⟩ = some (.int .i64 a2_1) := (blk_cell (O8.out.blk (i := 0) rfl) 1).trans rfl
      have f8_0_1 : wo.frozen? ⟨gx, 1, none⟩ = false := blk_frozen (O8.out.blk (i := 0) rfl) 1
      have c8_2_0 : wo.cell? ⟨gm, 0, none⟩ = some (.int .i64 C) := (blk_cell (O8.out.blk (i := 2) rfl) 0).trans rfl
      have f8_2_0 : wo.frozen? ⟨gm, 0, none⟩ = false := blk_frozen (O8.out.blk (i := 2) rfl) 0
      have c8_2_1 : wo.cell? ⟨gm, 1, none⟩ = some (.slice Am L.length cm) := (blk_cell (O8.out.blk (i := 2) rfl) 1).trans rfl
      have f8_2_1 : wo.frozen? ⟨gm, 1, none⟩ = false := blk_frozen (O8.out.blk (i := 2) rfl) 1
      have n8_0_2 : gx ≠ gm := O8.out.ne (i := 0) (j := 2) rfl rfl (by decide)
      have n8_2_0 : gm ≠ gx := O8.out.ne (i := 2) (j := 0) rfl rfl (by decide)
      clear OA h2 h3 hn1 hF hback hFm
      go_wp2_with (first | ((with_reducible refine gate_callee (f := 18) rfl ?_); refine goesL_ (some 50) rfl rfl Try.func18 (by kernel_rfl) rfl #[.pointer (some ⟨gj, 0, none⟩), .int .i64 a2_0] rfl (by (try simp only [List.map_toArray, List.map_cons, List.map_nil]); first | done | rfl) ?_; obtain ⟨N_, on_, nn_, rr_, bb_⟩ := O8.out.frame1 (i := 1) rfl; refine (At_high a2_0 on_ HLL.out HW0.out.1 HW0.out.2).mono ?_; rintro e_ w9 ⟨rfl, oo_, kk_⟩; obtain ⟨o_, k_⟩ := bb_ _ _ _ kk_ oo_; refine ⟨_, rfl, ?_⟩; have O9 : Aside0 (Own N1 w9 [cells gx #[.int .i64 a2_0, .int .i64 a2_1] 41, ObjC gj C L, cells gm #[.int .i64 C, .slice Am L.length cm] 37, emp]) := ⟨o_⟩; have K9 : Aside0 (KeepS N1 wo w9) := ⟨K8.out.trans k_⟩; have HRM_9 : Aside0 (Kd.F k31 w9 N1 Am L.length L) := ⟨keepF HRM_8.out k_⟩; clear c8_0_0 f8_0_0 c8_0_1 f8_0_1 c8_2_0 f8_2_0 c8_2_1 f8_2_1 n8_0_2 n8_2_0 O8 K8 HRM_8; have c9_0_0 : w9.cell? ⟨gx, 0, none⟩ = some (.int .i64 a2_0) := (blk_cell (O9.out.blk (i := 0) rfl) 0).trans rfl; have f9_0_0 : w9.frozen? ⟨gx, 0, none⟩ = false := blk_frozen (O9.out.blk (i := 0) rfl) 0; have c9_0_1 : w9.cell? ⟨gx, 1, none⟩ = some (.int .i64 a2_1) := (blk_cell (O9.out.blk (i := 0) rfl) 1).trans rfl; have f9_0_1 : w9.frozen? ⟨gx, 1, none⟩ = false := blk_frozen (O9.out.blk (i := 0) rfl) 1; have c9_2_0 : w9.cell? ⟨gm, 0, none⟩ = some (.int .i64 C) := (blk_cell (O9.out.blk (i := 2) rfl) 0).trans rfl; have f9_2_0 : w9.frozen? ⟨gm, 0, none⟩ = false := blk_frozen (O9.out.blk (i := 2) rfl) 0; have c9_2_1 : w9.cell? ⟨gm, 1, none⟩ = some (.slice Am L.length cm) := (blk_cell (O9.out.blk (i := 2) rfl) 1).trans rfl; have f9_2_1 : w9.frozen? ⟨gm, 1, none⟩ = false := blk_frozen (O9.out.blk (i := 2) rfl) 1; have n9_0_2 : gx ≠ gm := O9.out.ne (i := 0) (j := 2) rfl rfl (by decide); have n9_2_0 : gm ≠ gx := O9.out.ne (i := 2) (j := 0) rfl rfl (by decide); clear o_ k_ oo_ kk_ on_ nn_ rr_ bb_) | ((with_reducible refine gate_dst (N := 11) rfl ?_); refine own_box rfl (D := 11) rfl (cs := #[.int .i64 0, .int .i64 0, .slice none 0 0]) (t := 31) ?hr O9.out ?_; (case hr => first | (go_simp; done) | (go_simp; rfl)); intro gr w10 o_ k_; have O10 : Aside0 (Own N1 w10 [cells gx #[.int .i64 a2_0, .int .i64 a2_1] 41, ObjC gj C L, cells gm #[.int .i64 C, .slice Am L.length cm] 37, emp, cells gr #[.int .i64 0, .int .i64 0, .slice none 0 0] 31]) := ⟨o_⟩; have K10 : Aside0 (KeepS N1 wo w10) := ⟨K9.out.trans k_⟩; have HRM_10 : Aside0 (Kd.F k31 w10 N1 Am L.length L) := ⟨keepF HRM_9.out k_⟩; clear c9_0_0 f9_0_0 c9_0_1 f9_0_1 c9_2_0 f9_2_0 c9_2_1 f9_2_1 n9_0_2 n9_2_0 O9 K9 HRM_9; have c10_0_0 : w10.cell? ⟨gx, 0, none⟩ = some (.int .i64 a2_0) := (blk_cell (O10.out.blk (i := 0) rfl) 0).trans rfl; have f10_0_0 : w10.frozen? ⟨gx, 0, none⟩ = false := blk_frozen (O10.out.blk (i := 0) rfl) 0; have c10_0_1 : w10.cell? ⟨gx, 1, none⟩ = some (.int .i64 a2_1) := (blk_cell (O10.out.blk (i := 0) rfl) 1).trans rfl; have f10_0_1 : w10.frozen? ⟨gx, 1, none⟩ = false := blk_frozen (O10.out.blk (i := 0) rfl) 1; have c10_2_0 : w10.cell? ⟨gm, 0, none⟩ = some (.int .i64 C) := (blk_cell (O10.out.blk (i := 2) rfl) 0).trans rfl; have f10_2_0 : w10.frozen? ⟨gm, 0, none⟩ = false := blk_frozen (O10.out.blk (i := 2) rfl) 0; have c10_2_1 : w10.cell? ⟨gm, 1, none⟩ = some (.slice Am L.length cm) := (blk_cell (O10.out.blk (i := 2) rfl) 1).trans rfl; have f10_2_1 : w10.frozen? ⟨gm, 1, none⟩ = false := blk_frozen (O10.out.blk (i := 2) rfl) 1; have c10_4_0 : w10.cell? ⟨gr, 0, none⟩ = some (.int .i64 0) := (blk_cell (O10.out.blk (i := 4) rfl) 0).trans rfl; have f10_4_0 : w10.frozen? ⟨gr, 0, none⟩ = false := blk_frozen (O10.out.blk (i := 4) rfl) 0; have c10_4_1 : w10.cell? ⟨gr, 1, none⟩ = some (.int .i64 0) := (blk_cell (O10.out.blk (i := 4) rfl) 1).trans rfl; have f10_4_1 : w10.frozen? ⟨gr, 1, none⟩ = false := blk_frozen (O10.out.blk (i := 4) rfl) 1; have c10_4_2 : w10.cell? ⟨gr, 2, none⟩ = some (.slice none 0 0) := (blk_cell (O10.out.blk (i := 4) rfl) 2).trans rfl; have f10_4_2 : w10.frozen? ⟨gr, 2, none⟩ = false := blk_frozen (O10.out.blk (i := 4) rfl) 2; have n10_0_2 : gx ≠ gm := O10.out.ne (i := 0) (j := 2) rfl rfl (by decide); have n10_0_4 : gx ≠ gr := O10.out.ne (i := 0) (j := 4) rfl rfl (by decide); have n10_2_0 : gm ≠ gx := O10.out.ne (i := 2) (j := 0) rfl rfl (by decide); have n10_2_4 : gm ≠ gr := O10.out.ne (i := 2) (j := 4) rfl rfl (by decide); have n10_4_0 : gr ≠ gx := O10.out.ne (i := 4) (j := 0) rfl rfl (by decide); have n10_4_2 : gr ≠ gm := O10.out.ne (i := 4) (j := 2) rfl rfl (by decide); clear o_ k_) | ((with_reducible refine gate_store (t := 31) (p := 11) rfl ?_); refine own_store rfl rfl rfl (w1 := (World.setCell (World.setCell (World.setCell w10 ⟨gr, 0, none⟩ (.int .i64 0)) ⟨gr, 1, none⟩ (.int .i64 0)) ⟨gr, 2, none⟩ (.slice none 0 0))) (N := N1) (l' := [cells gx #[.int .i64 a2_0, .int .i64 a2_1] 41, ObjC gj C L, cells gm #[.int .i64 C, .slice Am L.length cm] 37, emp, cells gr #[.int .i64 0, .int .i64 0, .slice none 0 0] 31]) ?hr ?ho ?hk ?_; (case hr => first | (go_simp; done) | (go_simp; rfl)); (case ho => exact (((O10.out.set (i := 4) rfl 0 (.int .i64 0)).set (i := 4) rfl 1 (.int .i64 0)).set (i := 4) rfl 2 (.slice none 0 0))); (case hk => exact (((KeepS.setCell (O10.out.far (i := 4) rfl) (.int .i64 0)).trans (KeepS.setCell (O10.out.far (i := 4) rfl) (.int .i64 0))).trans (KeepS.setCell (O10.out.far (i := 4) rfl) (.slice none 0 0)))); intro w11 o_ k_; have O11 : Aside0 (Own N1 w11 [cells gx #[.int .i64 a2_0, .int .i64 a2_1] 41, ObjC gj C L, cells gm #[.int .i64 C, .slice Am L.length cm] 37, emp, cells gr #[.int .i64 0, .int .i64 0, .slice none 0 0] 31]) := ⟨o_⟩; have K11 : Aside0 (KeepS N1 wo w11) := ⟨K10.out.trans k_⟩; have HRM_11 : Aside0 (Kd.F k31 w11 N1 Am L.length L) := ⟨keepF HRM_10.out k_⟩; clear c10_0_0 f10_0_0 c10_0_1 f10_0_1 c10_2_0 f10_2_0 c10_2_1 f10_2_1 c10_4_0 f10_4_0 c10_4_1 f10_4_1 c10_4_2 f10_4_2 n10_0_2 n10_0_4 n10_2_0 n10_2_4 n10_4_0 n10_4_2 O10 K10 HRM_10; have c11_0_0 : w11.cell? ⟨gx, 0, none⟩ = some (.int .i64 a2_0) := (blk_cell (O11.out.blk (i := 0) rfl) 0).trans rfl; have f11_0_0 : w11.frozen? ⟨gx, 0, none⟩ = false := blk_frozen (O11.out.blk (i := 0) rfl) 0; have c11_0_1 : w11.cell? ⟨gx, 1, none⟩ = some (.int .i64 a2_1) := (blk_cell (O11.out.blk (i := 0) rfl) 1).trans rfl; have f11_0_1 : w11.frozen? ⟨gx, 1, none⟩ = false := blk_frozen (O11.out.blk (i := 0) rfl) 1; have c11_2_0 : w11.cell? ⟨gm, 0, none⟩ = some (.int .i64 C) := (blk_cell (O11.out.blk (i := 2) rfl) 0).trans rfl; have f11_2_0 : w11.frozen? ⟨gm, 0, none⟩ = false := blk_frozen (O11.out.blk (i := 2) rfl) 0; have c11_2_1 : w11.cell? ⟨gm, 1, none⟩ = some (.slice Am L.length cm) := (blk_cell (O11.out.blk (i := 2) rfl) 1).trans rfl; have f11_2_1 : w11.frozen? ⟨gm, 1, none⟩ = false := blk_frozen (O11.out.blk (i := 2) rfl) 1; have c11_4_0 : w11.cell? ⟨gr, 0, none⟩ = some (.int .i64 0) := (blk_cell (O11.out.blk (i := 4) rfl) 0).trans rfl; have f11_4_0 : w11.frozen? ⟨gr, 0, none⟩ = false := blk_frozen (O11.out.blk (i := 4) rfl) 0; have c11_4_1 : w11.cell? ⟨gr, 1, none⟩ = some (.int .i64 0) := (blk_cell (O11.out.blk (i := 4) rfl) 1).trans rfl; have f11_4_1 : w11.frozen? ⟨gr, 1, none⟩ = false := blk_frozen (O11.out.blk (i := 4) rfl) 1; have c11_4_2 : w11.cell? ⟨gr, 2, none⟩ = some (.slice none 0 0) := (blk_cell (O11.out.blk (i := 4) rfl) 2).trans rfl; have f11_4_2 : w11.frozen? ⟨gr, 2, none⟩ = false := blk_frozen (O11.out.blk (i := 4) rfl) 2; have n11_0_2 : gx ≠ gm := O11.out.ne (i := 0) (j := 2) rfl rfl (by decide); have n11_0_4 : gx ≠ gr := O11.out.ne (i := 0) (j := 4) rfl rfl (by decide); have n11_2_0 : gm ≠ gx := O11.out.ne (i := 2) (j := 0) rfl rfl (by decide); have n11_2_4 : gm ≠ gr := O11.out.ne (i := 2) (j := 4) rfl rfl (by decide); have n11_4_0 : gr ≠ gx := O11.out.ne (i := 4) (j := 0) rfl rfl (by decide); have n11_4_2 : gr ≠ gm := O11.out.ne (i := 4) (j := 2) rfl rfl (by decide); clear o_ k_))
      refine start_ (n := 14) (S := fun w' => w'.cell? ⟨gx, 0, none⟩ = some (.int .i64 a2_0) ∧ w'.cell? ⟨gx, 1, none⟩ = some (.int .i64 a2_1) ∧ w'.cell? ⟨gm, 0, none⟩ = some (.int .i64 C) ∧ w'.cell? ⟨gm, 1, none⟩ = some (.slice Am L.length cm)) (ds := []) #[false, false, false, false, false, false, false, false, false, false, false, false, false, false] (by kernel_rfl) rfl rfl ⟨((blk_cell (O11.out.blk (i := 0) rfl) 0).trans rfl), ((blk_cell (O11.out.blk (i := 0) rfl) 1).trans rfl), ((blk_cell (O11.out.blk (i := 2) rfl) 0).trans rfl), ((blk_cell (O11.out.blk (i := 2) rfl) 1).trans rfl)⟩ (fun hHeld => ?_)
      obtain ⟨w12, hw_⟩ : ∃ W, W = w11.drew := ⟨_, rfl⟩
      have o_ := O11.out.drew
      have k_ : KeepS N1 w11 w11.drew := KeepS.drew
      rw [← hw_] at o_ k_ hHeld ⊢
      clear hw_
      have O12 : Aside0 (Own N1 w12 [cells gx #[.int .i64 a2_0, .int .i64 a2_1] 41, ObjC gj C L, cells gm #[.int .i64 C, .slice Am L.length cm] 37, emp, cells gr #[.int .i64 0, .int .i64 0, .slice none 0 0] 31]) := ⟨o_⟩
      have K12 : Aside0 (KeepS N1 wo w12) := ⟨K11.out.trans k_⟩
      have HRM_12 : Aside0 (Kd.F k31 w12 N1 Am L.length L) := ⟨keepF HRM_11.out k_⟩
      clear c11_0_0 f11_0_0 c11_0_1 f11_0_1 c11_2_0 f11_2_0 c11_2_1 f11_2_1 c11_4_0 f11_4_0 c11_4_1 f11_4_1 c11_4_2 f11_4_2 n11_0_2 n11_0_4 n11_2_0 n11_2_4 n11_4_0 n11_4_2 O11 K11 HRM_11
      have c12_0_0 : w12.cell? ⟨gx, 0, none⟩ = some (.int .i64 a2_0) := (blk_cell (O12.out.blk (i := 0) rfl) 0).trans rfl
      have f12_0_0 : w12.frozen? ⟨gx, 0, none⟩ = false := blk_frozen (O12.out.blk (i := 0) rfl) 0
      have c12_0_1 : w12.cell? ⟨gx, 1, none⟩ = some (.int .i64 a2_1) := (blk_cell (O12.out.blk (i := 0) rfl) 1).trans rfl
      have f12_0_1 : w12.frozen? ⟨gx, 1, none⟩ = false := blk_frozen (O12.out.blk (i := 0) rfl) 1
      have c12_2_0 : w12.cell? ⟨gm, 0, none⟩ = some (.int .i64 C) := (blk_cell (O12.out.blk (i := 2) rfl) 0).trans rfl
      have f12_2_0 : w12.frozen? ⟨gm, 0, none⟩ = false := blk_frozen (O12.out.blk (i := 2) rfl) 0
      have c12_2_1 : w12.cell? ⟨gm, 1, none⟩ = some (.slice Am L.length cm) := (blk_cell (O12.out.blk (i := 2) rfl) 1).trans rfl
      have f12_2_1 : w12.frozen? ⟨gm, 1, none⟩ = false := blk_frozen (O12.out.blk (i := 2) rfl) 1
      have c12_4_0 : w12.cell? ⟨gr, 0, none⟩ = some (.int .i64 0) := (blk_cell (O12.out.blk (i := 4) rfl) 0).trans rfl
      have f12_4_0 : w12.frozen? ⟨gr, 0, none⟩ = false := blk_frozen (O12.out.blk (i := 4) rfl) 0
      have c12_4_1 : w12.cell? ⟨gr, 1, none⟩ = some (.int .i64 0) := (blk_cell (O12.out.blk (i := 4) rfl) 1).trans rfl
      have f12_4_1 : w12.frozen? ⟨gr, 1, none⟩ = false := blk_frozen (O12.out.blk (i := 4) rfl) 1
      have c12_4_2 : w12.cell? ⟨gr, 2, none⟩ = some (.slice none 0 0) := (blk_cell (O12.out.blk (i := 4) rfl) 2).trans rfl
      have f12_4_2 : w12.frozen? ⟨gr, 2, none⟩ = false := blk_frozen (O12.out.blk (i := 4) rfl) 2
      have n12_0_2 : gx ≠ gm := O12.out.ne (i := 0) (j := 2) rfl rfl (by decide)
      have n12_0_4 : gx ≠ gr := O12.out.ne (i := 0) (j := 4) rfl rfl (by decide)
      have n12_2_0 : gm ≠ gx := O12.out.ne (i := 2) (j := 0) rfl rfl (by decide)
      have n12_2_4 : gm ≠ gr := O12.out.ne (i := 2) (j := 4) rfl rfl (by decide)
      have n12_4_0 : gr ≠ gx := O12.out.ne (i := 4) (j := 0) rfl rfl (by decide)
      have n12_4_2 : gr ≠ gm := O12.out.ne (i := 4) (j := 2) rfl rfl (by decide)
      clear o_ k_
      refine pure_ (i := 0) (N := some 53) (v := ?_) (a' := ?_) #[true, false, false, false, false, false, false, false, false, false, false, false, false, false] rfl rfl (by kernel_rfl) (fun _ _ _ h => h) (Or.inl ⟨by rfl, ?_⟩) ?_ ?_
      rotate_left
      ·intro w'
       go_simp
       with_reducible rfl
      rotate_left
      ·simp only [Act.put, List.setIfInBounds_toArray, List.set_cons_zero, List.set_cons_succ, i64_w, i32_w]
       rfl
      refine take_ (i := 1) (N := some 54) (v := ?_) (a' := ?_) #[true, true, false, false, false, false, false, false, false, false, false, false, false, false] rfl rfl (by kernel_rfl) (fun _ _ _ h => h) (Or.inl ⟨by rfl, ?_⟩) hHeld ?_ ?_
      rotate_left
      ·rintro w' ⟨s0, s1, s2, s3⟩
       go_simp
       with_reducible rfl
      rotate_left
      ·simp only [Act.put, List.setIfInBounds_toArray, List.set_cons_zero, List.set_cons_succ, i64_w, i32_w]
       rfl
      refine pure_ (i := 2) (N := some 55) (v := ?_) (a' := ?_) #[true, true, true, false, false, false, false, false, false, false, false, false, false, false] rfl rfl (by kernel_rfl) (fun _ _ _ h => h) (Or.inl ⟨by rfl, ?_⟩) ?_ ?_
      rotate_left
      ·intro w'
       go_simp
       with_reducible rfl
      rotate_left
      ·simp only [Act.put, List.setIfInBounds_toArray, List.set_cons_zero, List.set_cons_succ, i64_w, i32_w]
       rfl
      refine pure_ (i := 3) (N := some 56) (v := ?_) (a' := ?_) #[true, true, true, true, false, false, false, false, false, false, false, false, false, false] rfl rfl (by kernel_rfl) (fun _ _ _ h => h) (Or.inl ⟨by rfl, ?_⟩) ?_ ?_
      rotate_left
      ·intro w'
       go_simp
       with_reducible rfl
      rotate_left
      ·simp only [Act.put, List.setIfInBounds_toArray, List.set_cons_zero, List.set_cons_succ, i64_w, i32_w]
       rfl
      refine pure_ (i := 4) (N := some 57) (v := ?_) (a' := ?_) #[true, true, true, true, true, false, false, false, false, false, false, false, false, false] rfl rfl (by kernel_rfl) (fun _ _ _ h => h) (Or.inl ⟨by rfl, ?_⟩) ?_ ?_
      rotate_left
      ·intro w'
       go_simp
       with_reducible rfl
      rotate_left
      ·simp only [Act.put, List.setIfInBounds_toArray, List.set_cons_zero, List.set_cons_succ, i64_w, i32_w]
       rfl
      refine pure_ (i := 6) (N := some 59) (v := ?_) (a' := ?_) #[true, true, true, true, true, false, true, false, false, false, false, false, false, false] rfl rfl (by kernel_rfl) (fun _ _ _ h => h) (Or.inl ⟨by rfl, ?_⟩) ?_ ?_
      rotate_left
      ·intro w'
       go_simp
       with_reducible rfl
      rotate_left
      ·simp only [Act.put, List.setIfInBounds_toArray, List.set_cons_zero, List.set_cons_succ, i64_w, i32_w]
       rfl
      refine pure_ (i := 7) (N := some 60) (v := ?_) (a' := ?_) #[true, true, true, true, true, false, true, true, false, false, false, false, false, false] rfl rfl (by kernel_rfl) (fun _ _ _ h => h) (Or.inl ⟨by rfl, ?_⟩) ?_ ?_
      rotate_left
      ·intro w'
       go_simp
       with_reducible rfl
      rotate_left
      ·simp only [Act.put, List.setIfInBounds_toArray, List.set_cons_zero, List.set_cons_succ, i64_w, i32_w]
       rfl
      refine pure_ (i := 8) (N := some 61) (v := ?_) (a' := ?_) #[true, true, true, true, true, false, true, true, true, false, false, false, false, false] rfl rfl (by kernel_rfl) (fun _ _ _ h => h) (Or.inl ⟨by rfl, ?_⟩) ?_ ?_
      rotate_left
      ·intro w'
       go_simp
       with_reducible rfl
      rotate_left
      ·simp only [Act.put, List.setIfInBounds_toArray, List.set_cons_zero, List.set_cons_succ, i64_w, i32_w]
       rfl
      refine take_ (i := 5) (N := some 58) (v := ?_) (a' := ?_) #[true, true, true, true, true, true, true, true, true, false, false, false, false, false] rfl rfl (by kernel_rfl) (fun _ _ _ h => h) (Or.inl ⟨by rfl, ?_⟩) hHeld ?_ ?_
      rotate_left
      ·rintro w' ⟨s0, s1, s2, s3⟩
       go_simp
       with_reducible rfl
      rotate_left
      ·simp only [Act.put, List.setIfInBounds_toArray, List.set_cons_zero, List.set_cons_succ, i64_w, i32_w]
       rfl
      refine take_ (i := 9) (N := some 62) (v := ?_) (a' := ?_) #[true, true, true, true, true, true, true, true, true, true, false, false, false, false] rfl rfl (by kernel_rfl) (fun _ _ _ h => h) (Or.inl ⟨by rfl, ?_⟩) hHeld ?_ ?_
      rotate_left
      ·rintro w' ⟨s0, s1, s2, s3⟩
       go_simp
       with_reducible rfl
      rotate_left
      ·simp only [Act.put, List.setIfInBounds_toArray, List.set_cons_zero, List.set_cons_succ, i64_w, i32_w]
       rfl
      refine pure_ (i := 10) (N := some 63) (v := ?_) (a' := ?_) #[true, true, true, true, true, true, true, true, true, true, true, false, false, false] rfl rfl (by kernel_rfl) (fun _ _ _ h => h) (Or.inl ⟨by rfl, ?_⟩) ?_ ?_
      rotate_left
      ·intro w'
       go_simp
       with_reducible rfl
      rotate_left
      ·simp only [Act.put, List.setIfInBounds_toArray, List.set_cons_zero, List.set_cons_succ, i64_w, i32_w]
       rfl
      refine pure_ (i := 11) (N := some 64) (v := ?_) (a' := ?_) #[true, true, true, true, true, true, true, true, true, true, true, true, false, false] rfl rfl (by kernel_rfl) (fun _ _ _ h => h) (Or.inl ⟨by rfl, ?_⟩) ?_ ?_
      rotate_left
      ·intro w'
       go_simp
       with_reducible rfl
      rotate_left
      ·simp only [Act.put, List.setIfInBounds_toArray, List.set_cons_zero, List.set_cons_succ, i64_w, i32_w]
       rfl
      refine pure_ (i := 12) (N := some 65) (v := ?_) (a' := ?_) #[true, true, true, true, true, true, true, true, true, true, true, true, true, false] rfl rfl (by kernel_rfl) (fun _ _ _ h => h) (Or.inl ⟨by rfl, ?_⟩) ?_ ?_
      rotate_left
      ·intro w'
       go_simp
       with_reducible rfl
      rotate_left
      ·simp only [Act.put, List.setIfInBounds_toArray, List.set_cons_zero, List.set_cons_succ, i64_w, i32_w]
       rfl
      refine pure_ (i := 13) (N := some 13) (v := ?_) (a' := ?_) #[true, true, true, true, true, true, true, true, true, true, true, true, true, true] rfl rfl (by kernel_rfl) (fun _ _ _ h => h) (Or.inl ⟨by rfl, ?_⟩) ?_ ?_
      rotate_left
      ·intro w'
       go_simp
       with_reducible rfl
      rotate_left
      ·simp only [Act.put, List.setIfInBounds_toArray, List.set_cons_zero, List.set_cons_succ, i64_w, i32_w]
       rfl
      refine done_ (by kernel_rfl) ?_
      clear hHeld
      go_wp2
      refine start_ (n := 40) (S := fun w' => w'.cell? ⟨gx, 0, none⟩ = some (.int .i64 a2_0) ∧ w'.cell? ⟨gx, 1, none⟩ = some (.int .i64 a2_1) ∧ w'.cell? ⟨gm, 0, none⟩ = some (.int .i64 C) ∧ w'.cell? ⟨gm, 1, none⟩ = some (.slice Am L.length cm) ∧ w'.cell? ⟨gr, 0, none⟩ = some (.int .i64 0) ∧ w'.cell? ⟨gr, 1, none⟩ = some (.int .i64 0) ∧ w'.cell? ⟨gr, 2, none⟩ = some (.slice none 0 0)) (ds := []) #[false, false, false, false, false, false, false, false, false, false, false, false, false, false, false, false, false, false, false, false, false, false, false, false, false, false, false, false, false, false, false, false, false, false, false, false, false, false, false, false] (by kernel_rfl) rfl rfl ⟨((blk_cell (O12.out.blk (i := 0) rfl) 0).trans rfl), ((blk_cell (O12.out.blk (i := 0) rfl) 1).trans rfl), ((blk_cell (O12.out.blk (i := 2) rfl) 0).trans rfl), ((blk_cell (O12.out.blk (i := 2) rfl) 1).trans rfl), ((blk_cell (O12.out.blk (i := 4) rfl) 0).trans rfl), ((blk_cell (O12.out.blk (i := 4) rfl) 1).trans rfl), ((blk_cell (O12.out.blk (i := 4) rfl) 2).trans rfl)⟩ (fun hHeld => ?_)
      obtain ⟨w13, hw_⟩ : ∃ W, W = w12.drew := ⟨_, rfl⟩
      have o_ := O12.out.drew
      have k_ : KeepS N1 w12 w12.drew := KeepS.drew
      rw [← hw_] at o_ k_ hHeld ⊢
      clear hw_
      have O13 : Aside0 (Own N1 w13 [cells gx #[.int .i64 a2_0, .int .i64 a2_1] 41, ObjC gj C L, cells gm #[.int .i64 C, .slice Am L.length cm] 37, emp, cells gr #[.int .i64 0, .int .i64 0, .slice none 0 0] 31]) := ⟨o_⟩
      have K13 : Aside0 (KeepS N1 wo w13) := ⟨K12.out.trans k_⟩
      have HRM_13 : Aside0 (Kd.F k31 w13 N1 Am L.length L) := ⟨keepF HRM_12.out k_⟩
      clear c12_0_0 f12_0_0 c12_0_1 f12_0_1 c12_2_0 f12_2_0 c12_2_1 f12_2_1 c12_4_0 f12_4_0 c12_4_1 f12_4_1 c12_4_2 f12_4_2 n12_0_2 n12_0_4 n12_2_0 n12_2_4 n12_4_0 n12_4_2 O12 K12 HRM_12
      have c13_0_0 : w13.cell? ⟨gx, 0, none⟩ = some (.int .i64 a2_0) := (blk_cell (O13.out.blk (i := 0) rfl) 0).trans rfl
      have f13_0_0 : w13.frozen? ⟨gx, 0, none⟩ = false := blk_frozen (O13.out.blk (i := 0) rfl) 0
      have c13_0_1 : w13.cell? ⟨gx, 1, none⟩ = some (.int .i64 a2_1) := (blk_cell (O13.out.blk (i := 0) rfl) 1).trans rfl
      have f13_0_1 : w13.frozen? ⟨gx, 1, none⟩ = false := blk_frozen (O13.out.blk (i := 0) rfl) 1
      have c13_2_0 : w13.cell? ⟨gm, 0, none⟩ = some (.int .i64 C) := (blk_cell (O13.out.blk (i := 2) rfl) 0).trans rfl
      have f13_2_0 : w13.frozen? ⟨gm, 0, none⟩ = false := blk_frozen (O13.out.blk (i := 2) rfl) 0
      have c13_2_1 : w13.cell? ⟨gm, 1, none⟩ = some (.slice Am L.length cm) := (blk_cell (O13.out.blk (i := 2) rfl) 1).trans rfl
      have f13_2_1 : w13.frozen? ⟨gm, 1, none⟩ = false := blk_frozen (O13.out.blk (i := 2) rfl) 1
      have c13_4_0 : w13.cell? ⟨gr, 0, none⟩ = some (.int .i64 0) := (blk_cell (O13.out.blk (i := 4) rfl) 0).trans rfl
      have f13_4_0 : w13.frozen? ⟨gr, 0, none⟩ = false := blk_frozen (O13.out.blk (i := 4) rfl) 0
      have c13_4_1 : w13.cell? ⟨gr, 1, none⟩ = some (.int .i64 0) := (blk_cell (O13.out.blk (i := 4) rfl) 1).trans rfl
      have f13_4_1 : w13.frozen? ⟨gr, 1, none⟩ = false := blk_frozen (O13.out.blk (i := 4) rfl) 1
      have c13_4_2 : w13.cell? ⟨gr, 2, none⟩ = some (.slice none 0 0) := (blk_cell (O13.out.blk (i := 4) rfl) 2).trans rfl
      have f13_4_2 : w13.frozen? ⟨gr, 2, none⟩ = false := blk_frozen (O13.out.blk (i := 4) rfl) 2
      have n13_0_2 : gx ≠ gm := O13.out.ne (i := 0) (j := 2) rfl rfl (by decide)
      have n13_0_4 : gx ≠ gr := O13.out.ne (i := 0) (j := 4) rfl rfl (by decide)
      have n13_2_0 : gm ≠ gx := O13.out.ne (i := 2) (j := 0) rfl rfl (by decide)
      have n13_2_4 : gm ≠ gr := O13.out.ne (i := 2) (j := 4) rfl rfl (by decide)
      have n13_4_0 : gr ≠ gx := O13.out.ne (i := 4) (j := 0) rfl rfl (by decide)
      have n13_4_2 : gr ≠ gm := O13.out.ne (i := 4) (j := 2) rfl rfl (by decide)
      clear o_ k_
      refine pure_ (i := 0) (N := some 66) (v := ?_) (a' := ?_) #[true, false, false, false, false, false, false, false, false, false, false, false, false, false, false, false, false, false, false, false, false, false, false, false, false, false, false, false, false, false, false, false, false, false, false, false, false, false, false, false] rfl rfl (by kernel_rfl) (fun _ _ _ h => h) (Or.inl ⟨by rfl, ?_⟩) ?_ ?_
      rotate_left
      ·intro w'
       go_simp
       with_reducible rfl
      rotate_left
      ·simp only [Act.put, List.setIfInBounds_toArray, List.set_cons_zero, List.set_cons_succ, i64_w, i32_w]
       rfl
      refine pure_ (i := 1) (N := some 67) (v := ?_) (a' := ?_) #[true, true, false, false, false, false, false, false, false, false, false, false, false, false, false, false, false, false, false, false, false, false, false, false, false, false, false, false, false, false, false, false, false, false, false, false, false, false, false, false] rfl rfl (by kernel_rfl) (fun _ _ _ h => h) (Or.inl ⟨by rfl, ?_⟩) ?_ ?_
      rotate_left
      ·intro w'
       go_simp
       with_reducible rfl
      rotate_left
      ·simp only [Act.put, List.setIfInBounds_toArray, List.set_cons_zero, List.set_cons_succ, i64_w, i32_w]
       rfl
      refine pure_ (i := 2) (N := some 68) (v := ?_) (a' := ?_) #[true, true, true, false, false, false, false, false, false, false, false, false, false, false, false, false, false, false, false, false, false, false, false, false, false, false, false, false, false, false, false, false, false, false, false, false, false, false, false, false] rfl rfl (by kernel_rfl) (fun _ _ _ h => h) (Or.inl ⟨by rfl, ?_⟩) ?_ ?_
      rotate_left
      ·intro w'
       go_simp
       with_reducible rfl
      rotate_left
      ·simp only [Act.put, List.setIfInBounds_toArray, List.set_cons_zero, List.set_cons_succ, i64_w, i32_w]
       rfl
      refine pure_ (i := 3) (N := some 69) (v := ?_) (a' := ?_) #[true, true, true, true, false, false, false, false, false, false, false, false, false, false, false, false, false, false, false, false, false, false, false, false, false, false, false, false, false, false, false, false, false, false, false, false, false, false, false, false] rfl rfl (by kernel_rfl) (fun _ _ _ h => h) (Or.inl ⟨by rfl, ?_⟩) ?_ ?_
      rotate_left
      ·intro w'
       go_simp
       with_reducible rfl
      rotate_left
      ·simp only [Act.put, List.setIfInBounds_toArray, List.set_cons_zero, List.set_cons_succ, i64_w, i32_w]
       rfl
      refine pure_ (i := 4) (N := some 70) (v := ?_) (a' := ?_) #[true, true, true, true, true, false, false, false, false, false, false, false, false, false, false, false, false, false, false, false, false, false, false, false, false, false, false, false, false, false, false, false, false, false, false, false, false, false, false, false] rfl rfl (by kernel_rfl) (fun _ _ _ h => h) (Or.inl ⟨by rfl, ?_⟩) ?_ ?_
      rotate_left
      ·intro w'
       go_simp
       with_reducible rfl
      rotate_left
      ·simp only [Act.put, List.setIfInBounds_toArray, List.set_cons_zero, List.set_cons_succ, i64_w, i32_w]
       rfl
      refine pure_ (i := 5) (N := some 71) (v := ?_) (a' := ?_) #[true, true, true, true, true, true, false, false, false, false, false, false, false, false, false, false, false, false, false, false, false, false, false, false, false, false, false, false, false, false, false, false, false, false, false, false, false, false, false, false] rfl rfl (by kernel_rfl) (fun _ _ _ h => h) (Or.inl ⟨by rfl, ?_⟩) ?_ ?_
      rotate_left
      ·intro w'
       go_simp
       with_reducible rfl
      rotate_left
      ·simp only [Act.put, List.setIfInBounds_toArray, List.set_cons_zero, List.set_cons_succ, i64_w, i32_w]
       rfl
      refine pure_ (i := 7) (N := some 73) (v := undef) (a' := ?_) #[true, true, true, true, true, true, false, true, false, false, false, false, false, false, false, false, false, false, false, false, false, false, false, false, false, false, false, false, false, false, false, false, false, false, false, false, false, false, false, false] rfl rfl (by kernel_rfl) (fun _ _ _ h => h) (Or.inr ⟨by rfl, rfl⟩) ?_ ?_
      rotate_left
      ·simp only [Act.put, List.setIfInBounds_toArray, List.set_cons_zero, List.set_cons_succ, i64_w, i32_w]
       rfl
      refine pure_ (i := 8) (N := some 74) (v := undef) (a' := ?_) #[true, true, true, true, true, true, false, true, true, false, false, false, false, false, false, false, false, false, false, false, false, false, false, false, false, false, false, false, false, false, false, false, false, false, false, false, false, false, false, false] rfl rfl (by kernel_rfl) (fun _ _ _ h => h) (Or.inr ⟨by rfl, rfl⟩) ?_ ?_
      rotate_left
      ·simp only [Act.put, List.setIfInBounds_toArray, List.set_cons_zero, List.set_cons_succ, i64_w, i32_w]
       rfl
      refine pure_ (i := 9) (N := some 75) (v := undef) (a' := ?_) #[true, true, true, true, true, true, false, true, true, true, false, false, false, false, false, false, false, false, false, false, false, false, false, false, false, false, false, false, false, false, false, false, false, false, false, false, false, false, false, false] rfl rfl (by kernel_rfl) (fun _ _ _ h => h) (Or.inr ⟨by rfl, rfl⟩) ?_ ?_
      rotate_left
      ·simp only [Act.put, List.setIfInBounds_toArray, List.set_cons_zero, List.set_cons_succ, i64_w, i32_w]
       rfl
      refine pure_ (i := 11) (N := some 77) (v := undef) (a' := ?_) #[true, true, true, true, true, true, false, true, true, true, false, true, false, false, false, false, false, false, false, false, false, false, false, false, false, false, false, false, false, false, false, false, false, false, false, false, false, false, false, false] rfl rfl (by kernel_rfl) (fun _ _ _ h => h) (Or.inr ⟨by rfl, rfl⟩) ?_ ?_
      rotate_left
      ·simp only [Act.put, List.setIfInBounds_toArray, List.set_cons_zero, List.set_cons_succ, i64_w, i32_w]
       rfl
      refine take_ (i := 6) (N := some 72) (v := undef) (a' := ?_) #[true, true, true, true, true, true, true, true, true, true, false, true, false, false, false, false, false, false, false, false, false, false, false, false, false, false, false, false, false, false, false, false, false, false, false, false, false, false, false, false] rfl rfl (by kernel_rfl) (fun _ _ _ h => h) (Or.inr ⟨by rfl, rfl⟩) hHeld ?_ ?_
      rotate_left
      ·simp only [Act.put, List.setIfInBounds_toArray, List.set_cons_zero, List.set_cons_succ, i64_w, i32_w]
       rfl
      refine take_ (i := 10) (N := some 76) (v := undef) (a' := ?_) #[true, true, true, true, true, true, true, true, true, true, true, true, false, false, false, false, false, false, false, false, false, false, false, false, false, false, false, false, false, false, false, false, false, false, false, false, false, false, false, false] rfl rfl (by kernel_rfl) (fun _ _ _ h => h) (Or.inr ⟨by rfl, rfl⟩) hHeld ?_ ?_
      rotate_left
      ·simp only [Act.put, List.setIfInBounds_toArray, List.set_cons_zero, List.set_cons_succ, i64_w, i32_w]
       rfl
      refine take_ (i := 12) (N := some 78) (v := undef) (a' := ?_) #[true, true, true, true, true, true, true, true, true, true, true, true, true, false, false, false, false, false, false, false, false, false, false, false, false, false, false, false, false, false, false, false, false, false, false, false, false, false, false, false] rfl rfl (by kernel_rfl) (fun _ _ _ h => h) (Or.inr ⟨by rfl, rfl⟩) hHeld ?_ ?_
      rotate_left
      ·simp only [Act.put, List.setIfInBounds_toArray, List.set_cons_zero, List.set_cons_succ, i64_w, i32_w]
       rfl
      refine pure_ (i := 13) (N := some 79) (v := undef) (a' := ?_) #[true, true, true, true, true, true, true, true, true, true, true, true, true, true, false, false, false, false, false, false, false, false, false, false, false, false, false, false, false, false, false, false, false, false, false, false, false, false, false, false] rfl rfl (by kernel_rfl) (fun _ _ _ h => h) (Or.inr ⟨by rfl, rfl⟩) ?_ ?_
      rotate_left
      ·simp only [Act.put, List.setIfInBounds_toArray, List.set_cons_zero, List.set_cons_succ, i64_w, i32_w]
       rfl
      refine take_ (i := 14) (N := some 80) (v := undef) (a' := ?_) #[true, true, true, true, true, true, true, true, true, true, true, true, true, true, true, false, false, false, false, false, false, false, false, false, false, false, false, false, false, false, false, false, false, false, false, false, false, false, false, false] rfl rfl (by kernel_rfl) (fun _ _ _ h => h) (Or.inr ⟨by rfl, rfl⟩) hHeld ?_ ?_
      rotate_left
      ·simp only [Act.put, List.setIfInBounds_toArray, List.set_cons_zero, List.set_cons_succ, i64_w, i32_w]
       rfl
      refine one_ (i := 15) (N := some 81) #[true, true, true, true, true, true, true, true, true, true, true, true, true, true, true, true, false, false, false, false, false, false, false, false, false, false, false, false, false, false, false, false, false, false, false, false, false, false, false, false] rfl rfl (by kernel_rfl) (by decide) (fun K_ hK_ => ?_)
      refine skipped_ (by rfl) ?_
      clear hHeld
      refine hK_.out _ _ ⟨((blk_cell (O13.out.blk (i := 0) rfl) 0).trans rfl), ((blk_cell (O13.out.blk (i := 0) rfl) 1).trans rfl), ((blk_cell (O13.out.blk (i := 2) rfl) 0).trans rfl), ((blk_cell (O13.out.blk (i := 2) rfl) 1).trans rfl), ((blk_cell (O13.out.blk (i := 4) rfl) 0).trans rfl), ((blk_cell (O13.out.blk (i := 4) rfl) 1).trans rfl), ((blk_cell (O13.out.blk (i := 4) rfl) 2).trans rfl)⟩ (fun hHeld => ?_)
      clear hK_ K_
      refine norm_ (a' := ?_) ?_ ?_
      rotate_left
      ·simp only [Act.put, List.setIfInBounds_toArray, List.set_cons_zero, List.set_cons_succ, i64_w, i32_w]
       rfl
      refine pure_ (i := 16) (N := some 82) (v := undef) (a' := ?_) #[true, true, true, true, true, true, true, true, true, true, true, true, true, true, true, true, true, false, false, false, false, false, false, false, false, false, false, false, false, false, false, false, false, false, false, false, false, false, false, false] rfl rfl (by kernel_rfl) (fun _ _ _ h => h) (Or.inr ⟨by rfl, rfl⟩) ?_ ?_
      rotate_left
      ·simp only [Act.put, List.setIfInBounds_toArray, List.set_cons_zero, List.set_cons_succ, i64_w, i32_w]
       rfl
      refine pure_ (i := 17) (N := some 83) (v := ?_) (a' := ?_) #[true, true, true, true, true, true, true, true, true, true, true, true, true, true, true, true, true, true, false, false, false, false, false, false, false, false, false, false, false, false, false, false, false, false, false, false, false, false, false, false] rfl rfl (by kernel_rfl) (fun _ _ _ h => h) (Or.inl ⟨by rfl, ?_⟩) ?_ ?_
      rotate_left
      ·intro w'
       go_simp
       with_reducible rfl
      rotate_left
      ·simp only [Act.put, List.setIfInBounds_toArray, List.set_cons_zero, List.set_cons_succ, i64_w, i32_w]
       rfl
      refine pure_ (i := 18) (N := some 84) (v := ?_) (a' := ?_) #[true, true, true, true, true, true, true, true, true, true, true, true, true, true, true, true, true, true, true, false, false, false, false, false, false, false, false, false, false, false, false, false, false, false, false, false, false, false, false, false] rfl rfl (by kernel_rfl) (fun _ _ _ h => h) (Or.inl ⟨by rfl, ?_⟩) ?_ ?_
      rotate_left
      ·intro w'
       go_simp
       with_reducible rfl
      rotate_left
      ·simp only [Act.put, List.setIfInBounds_toArray, List.set_cons_zero, List.set_cons_succ, i64_w, i32_w]
       rfl
      refine pure_ (i := 19) (N := some 85) (v := ?_) (a' := ?_) #[true, true, true, true, true, true, true, true, true, true, true, true, true, true, true, true, true, true, true, true, false, false, false, false, false, false, false, false, false, false, false, false, false, false, false, false, false, false, false, false] rfl rfl (by kernel_rfl) (fun _ _ _ h => h) (Or.inl ⟨by rfl, ?_⟩) ?_ ?_
      rotate_left
      ·intro w'
       go_simp
       with_reducible rfl
      rotate_left
      ·simp only [Act.put, List.setIfInBounds_toArray, List.set_cons_zero, List.set_cons_succ, i64_w, i32_w]
       rfl
      refine pure_ (i := 20) (N := some 86) (v := ?_) (a' := ?_) #[true, true, true, true, true, true, true, true, true, true, true, true, true, true, true, true, true, true, true, true, true, false, false, false, false, false, false, false, false, false, false, false, false, false, false, false, false, false, false, false] rfl rfl (by kernel_rfl) (fun _ _ _ h => h) (Or.inl ⟨by rfl, ?_⟩) ?_ ?_
      rotate_left
      ·intro w'
       go_simp
       with_reducible rfl
      rotate_left
      ·simp only [Act.put, List.setIfInBounds_toArray, List.set_cons_zero, List.set_cons_succ, i64_w, i32_w]
       rfl
      refine pure_ (i := 21) (N := some 87) (v := ?_) (a' := ?_) #[true, true, true, true, true, true, true, true, true, true, true, true, true, true, true, true, true, true, true, true, true, true, false, false, false, false, false, false, false, false, false, false, false, false, false, false, false, false, false, false] rfl rfl (by kernel_rfl) (fun _ _ _ h => h) (Or.inl ⟨by rfl, ?_⟩) ?_ ?_
      rotate_left
      ·intro w'
       go_simp
       with_reducible rfl
      rotate_left
      ·simp only [Act.put, List.setIfInBounds_toArray, List.set_cons_zero, List.set_cons_succ, i64_w, i32_w]
       rfl
      refine pure_ (i := 22) (N := some 88) (v := ?_) (a' := ?_) #[true, true, true, true, true, true, true, true, true, true, true, true, true, true, true, true, true, true, true, true, true, true, true, false, false, false, false, false, false, false, false, false, false, false, false, false, false, false, false, false] rfl rfl (by kernel_rfl) (fun _ _ _ h => h) (Or.inl ⟨by rfl, ?_⟩) ?_ ?_
      rotate_left
      ·intro w'
       go_simp
       with_reducible rfl
      rotate_left
      ·simp only [Act.put, List.setIfInBounds_toArray, List.set_cons_zero, List.set_cons_succ, i64_w, i32_w]
       rfl
      refine pure_ (i := 24) (N := some 90) (v := ?_) (a' := ?_) #[true, true, true, true, true, true, true, true, true, true, true, true, true, true, true, true, true, true, true, true, true, true, true, false, true, false, false, false, false, false, false, false, false, false, false, false, false, false, false, false] rfl rfl (by kernel_rfl) (fun _ _ _ h => h) (Or.inl ⟨by rfl, ?_⟩) ?_ ?_
      rotate_left
      ·intro w'
       go_simp
       with_reducible rfl
      rotate_left
      ·simp only [Act.put, List.setIfInBounds_toArray, List.set_cons_zero, List.set_cons_succ, i64_w, i32_w]
       rfl
      refine take_ (i := 23) (N := some 89) (v := ?_) (a' := ?_) #[true, true, true, true, true, true, true, true, true, true, true, true, true, true, true, true, true, true, true, true, true, true, true, true, true, false, false, false, false, false, false, false, false, false, false, false, false, false, false, false] rfl rfl (by kernel_rfl) (fun _ _ _ h => h) (Or.inl ⟨by rfl, ?_⟩) hHeld ?_ ?_
      rotate_left
      ·rintro w' ⟨s0, s1, s2, s3, s4, s5, s6⟩
       go_simp
       with_reducible rfl
      rotate_left
      ·simp only [Act.put, List.setIfInBounds_toArray, List.set_cons_zero, List.set_cons_succ, i64_w, i32_w]
       rfl
      refine one_ (i := 25) (N := some 91) #[true, true, true, true, true, true, true, true, true, true, true, true, true, true, true, true, true, true, true, true, true, true, true, true, true, true, false, false, false, false, false, false, false, false, false, false, false, false, false, false] rfl rfl (by kernel_rfl) (by decide) (fun K_ hK_ => ?_)
      refine goes_ Try.func19 (by kernel_rfl) rfl #[.agg #[.int .i64 0, .int .i64 0, .slice none 0 0], .agg #[.int .i64 0, .int .i64 0, .slice none 0 0]] (by rfl) rfl rfl (by (try simp only [List.map_toArray, List.map_cons, List.map_nil]); first | done | rfl) ?_
      refine (chapbookref07_Same.calls 30 0 0 none 0 [] 0 0 none 0 [] true _ (Kd.F_now (Kd.F_nil _ _ (fun _ => True))) (Nat.le_refl _) (Kd.F_now (Kd.F_nil _ _ (fun _ => True))) (Nat.le_refl _) (psame 30 _ _ _ (by decide) (by decide))).mono ?_
      rintro e_ w14 ⟨rfl, hb_⟩
      refine ⟨_, rfl, ?_⟩
      have o_ := O13.out.below hb_
      have k_ := KeepS.of_below (N := N1) hb_
      have O14 : Aside0 (Own N1 w14 [cells gx #[.int .i64 a2_0, .int .i64 a2_1] 41, ObjC gj C L, cells gm #[.int .i64 C, .slice Am L.length cm] 37, emp, cells gr #[.int .i64 0, .int .i64 0, .slice none 0 0] 31]) := ⟨o_⟩
      have K14 : Aside0 (KeepS N1 wo w14) := ⟨K13.out.trans k_⟩
      have HRM_14 : Aside0 (Kd.F k31 w14 N1 Am L.length L) := ⟨keepF HRM_13.out k_⟩
      clear c13_0_0 f13_0_0 c13_0_1 f13_0_1 c13_2_0 f13_2_0 c13_2_1 f13_2_1 c13_4_0 f13_4_0 c13_4_1 f13_4_1 c13_4_2 f13_4_2 n13_0_2 n13_0_4 n13_2_0 n13_2_4 n13_4_0 n13_4_2 O13 K13 HRM_13
      have c14_0_0 : w14.cell? ⟨gx, 0, none⟩ = some (.int .i64 a2_0) := (blk_cell (O14.out.blk (i := 0) rfl) 0).trans rfl
      have f14_0_0 : w14.frozen? ⟨gx, 0, none⟩ = false := blk_frozen (O14.out.blk (i := 0) rfl) 0
      have c14_0_1 : w14.cell? ⟨gx, 1, none⟩ = some (.int .i64 a2_1) := (blk_cell (O14.out.blk (i := 0) rfl) 1).trans rfl
      have f14_0_1 : w14.frozen? ⟨gx, 1, none⟩ = false := blk_frozen (O14.out.blk (i := 0) rfl) 1
      have c14_2_0 : w14.cell? ⟨gm, 0, none⟩ = some (.int .i64 C) := (blk_cell (O14.out.blk (i := 2) rfl) 0).trans rfl
      have f14_2_0 : w14.frozen? ⟨gm, 0, none⟩ = false := blk_frozen (O14.out.blk (i := 2) rfl) 0
      have c14_2_1 : w14.cell? ⟨gm, 1, none⟩ = some (.slice Am L.length cm) := (blk_cell (O14.out.blk (i := 2) rfl) 1).trans rfl
      have f14_2_1 : w14.frozen? ⟨gm, 1, none⟩ = false := blk_frozen (O14.out.blk (i := 2) rfl) 1
      have c14_4_0 : w14.cell? ⟨gr, 0, none⟩ = some (.int .i64 0) := (blk_cell (O14.out.blk (i := 4) rfl) 0).trans rfl
      have f14_4_0 : w14.frozen? ⟨gr, 0, none⟩ = false := blk_frozen (O14.out.blk (i := 4) rfl) 0
      have c14_4_1 : w14.cell? ⟨gr, 1, none⟩ = some (.int .i64 0) := (blk_cell (O14.out.blk (i := 4) rfl) 1).trans rfl
      have f14_4_1 : w14.frozen? ⟨gr, 1, none⟩ = false := blk_frozen (O14.out.blk (i := 4) rfl) 1
      have c14_4_2 : w14.cell? ⟨gr, 2, none⟩ = some (.slice none 0 0) := (blk_cell (O14.out.blk (i := 4) rfl) 2).trans rfl
      have f14_4_2 : w14.frozen? ⟨gr, 2, none⟩ = false := blk_frozen (O14.out.blk (i := 4) rfl) 2
      have n14_0_2 : gx ≠ gm := O14.out.ne (i := 0) (j := 2) rfl rfl (by decide)
      have n14_0_4 : gx ≠ gr := O14.out.ne (i := 0) (j := 4) rfl rfl (by decide)
      have n14_2_0 : gm ≠ gx := O14.out.ne (i := 2) (j := 0) rfl rfl (by decide)
      have n14_2_4 : gm ≠ gr := O14.out.ne (i := 2) (j := 4) rfl rfl (by decide)
      have n14_4_0 : gr ≠ gx := O14.out.ne (i := 4) (j := 0) rfl rfl (by decide)
      have n14_4_2 : gr ≠ gm := O14.out.ne (i := 4) (j := 2) rfl rfl (by decide)
      clear o_ k_ hb_
      clear hHeld
      refine hK_.out _ _ ⟨((blk_cell (O14.out.blk (i := 0) rfl) 0).trans rfl), ((blk_cell (O14.out.blk (i := 0) rfl) 1).trans rfl), ((blk_cell (O14.out.blk (i := 2) rfl) 0).trans rfl), ((blk_cell (O14.out.blk (i := 2) rfl) 1).trans rfl), ((blk_cell (O14.out.blk (i := 4) rfl) 0).trans rfl), ((blk_cell (O14.out.blk (i := 4) rfl) 1).trans rfl), ((blk_cell (O14.out.blk (i := 4) rfl) 2).trans rfl)⟩ (fun hHeld => ?_)
      clear hK_ K_
      refine norm_ (a' := ?_) ?_ ?_
      rotate_left
      ·simp only [Act.put, List.setIfInBounds_toArray, List.set_cons_zero, List.set_cons_succ, i64_w, i32_w]
       rfl
      refine pure_ (i := 26) (N := some 92) (v := ?_) (a' := ?_) #[true, true, true, true, true, true, true, true, true, true, true, true, true, true, true, true, true, true, true, true, true, true, true, true, true, true, true, false, false, false, false, false, false, false, false, false, false, false, false, false] rfl rfl (by kernel_rfl) (fun _ _ _ h => h) (Or.inl ⟨by rfl, ?_⟩) ?_ ?_
      rotate_left
      ·intro w'
       go_simp
       with_reducible rfl
      rotate_left
      ·simp only [Act.put, List.setIfInBounds_toArray, List.set_cons_zero, List.set_cons_succ, i64_w, i32_w]
       rfl
      refine pure_ (i := 27) (N := some 93) (v := ?_) (a' := ?_) #[true, true, true, true, true, true, true, true, true, true, true, true, true, true, true, true, true, true, true, true, true, true, true, true, true, true, true, true, false, false, false, false, false, false, false, false, false, false, false, false] rfl rfl (by kernel_rfl) (fun _ _ _ h => h) (Or.inl ⟨by rfl, ?_⟩) ?_ ?_
      rotate_left
      ·intro w'
       go_simp
       with_reducible rfl
      rotate_left
      ·simp only [Act.put, List.setIfInBounds_toArray, List.set_cons_zero, List.set_cons_succ, i64_w, i32_w]
       rfl
      refine pure_ (i := 28) (N := some 94) (v := ?_) (a' := ?_) #[true, true, true, true, true, true, true, true, true, true, true, true, true, true, true, true, true, true, true, true, true, true, true, true, true, true, true, true, true, false, false, false, false, false, false, false, false, false, false, false] rfl rfl (by kernel_rfl) (fun _ _ _ h => h) (Or.inl ⟨by rfl, ?_⟩) ?_ ?_
      rotate_left
      ·intro w'
       go_simp
       with_reducible rfl
      rotate_left
      ·simp only [Act.put, List.setIfInBounds_toArray, List.set_cons_zero, List.set_cons_succ, i64_w, i32_w]
       rfl
      refine pure_ (i := 29) (N := some 95) (v := ?_) (a' := ?_) #[true, true, true, true, true, true, true, true, true, true, true, true, true, true, true, true, true, true, true, true, true, true, true, true, true, true, true, true, true, true, false, false, false, false, false, false, false, false, false, false] rfl rfl (by kernel_rfl) (fun _ _ _ h => h) (Or.inl ⟨by rfl, ?_⟩) ?_ ?_
      rotate_left
      ·intro w'
       go_simp
       with_reducible rfl
      rotate_left
      ·simp only [Act.put, List.setIfInBounds_toArray, List.set_cons_zero, List.set_cons_succ, i64_w, i32_w]
       rfl
      refine pure_ (i := 30) (N := some 96) (v := ?_) (a' := ?_) #[true, true, true, true, true, true, true, true, true, true, true, true, true, true, true, true, true, true, true, true, true, true, true, true, true, true, true, true, true, true, true, false, false, false, false, false, false, false, false, false] rfl rfl (by kernel_rfl) (fun _ _ _ h => h) (Or.inl ⟨by rfl, ?_⟩) ?_ ?_
      rotate_left
      ·intro w'
       go_simp
       with_reducible rfl
      rotate_left
      ·simp only [Act.put, List.setIfInBounds_toArray, List.set_cons_zero, List.set_cons_succ, i64_w, i32_w]
       rfl
      refine pure_ (i := 31) (N := some 97) (v := ?_) (a' := ?_) #[true, true, true, true, true, true, true, true, true, true, true, true, true, true, true, true, true, true, true, true, true, true, true, true, true, true, true, true, true, true, true, true, false, false, false, false, false, false, false, false] rfl rfl (by kernel_rfl) (fun _ _ _ h => h) (Or.inl ⟨by rfl, ?_⟩) ?_ ?_
      rotate_left
      ·intro w'
       go_simp
       with_reducible rfl
      rotate_left
      ·simp only [Act.put, List.setIfInBounds_toArray, List.set_cons_zero, List.set_cons_succ, i64_w, i32_w]
       rfl
      refine pure_ (i := 34) (N := some 100) (v := ?_) (a' := ?_) #[true, true, true, true, true, true, true, true, true, true, true, true, true, true, true, true, true, true, true, true, true, true, true, true, true, true, true, true, true, true, true, true, false, false, true, false, false, false, false, false] rfl rfl (by kernel_rfl) (fun _ _ _ h => h) (Or.inl ⟨by rfl, ?_⟩) ?_ ?_
      rotate_left
      ·intro w'
       go_simp
       with_reducible rfl
      rotate_left
      ·simp only [Act.put, List.setIfInBounds_toArray, List.set_cons_zero, List.set_cons_succ, i64_w, i32_w]
       rfl
      refine pure_ (i := 35) (N := some 101) (v := ?_) (a' := ?_) #[true, true, true, true, true, true, true, true, true, true, true, true, true, true, true, true, true, true, true, true, true, true, true, true, true, true, true, true, true, true, true, true, false, false, true, true, false, false, false, false] rfl rfl (by kernel_rfl) (fun _ _ _ h => h) (Or.inl ⟨by rfl, ?_⟩) ?_ ?_
      rotate_left
      ·intro w'
       go_simp
       with_reducible rfl
      rotate_left
      ·simp only [Act.put, List.setIfInBounds_toArray, List.set_cons_zero, List.set_cons_succ, i64_w, i32_w]
       rfl
      refine take_ (i := 32) (N := some 98) (v := ?_) (a' := ?_) #[true, true, true, true, true, true, true, true, true, true, true, true, true, true, true, true, true, true, true, true, true, true, true, true, true, true, true, true, true, true, true, true, true, false, true, true, false, false, false, false] rfl rfl (by kernel_rfl) (fun _ _ _ h => h) (Or.inl ⟨by rfl, ?_⟩) hHeld ?_ ?_
      rotate_left
      ·rintro w' ⟨s0, s1, s2, s3, s4, s5, s6⟩
       go_simp
       with_reducible rfl
      rotate_left
      ·simp only [Act.put, List.setIfInBounds_toArray, List.set_cons_zero, List.set_cons_succ, i64_w, i32_w]
       rfl
      refine take_ (i := 36) (N := some 102) (v := ?_) (a' := ?_) #[true, true, true, true, true, true, true, true, true, true, true, true, true, true, true, true, true, true, true, true, true, true, true, true, true, true, true, true, true, true, true, true, true, false, true, true, true, false, false, false] rfl rfl (by kernel_rfl) (fun _ _ _ h => h) (Or.inl ⟨by rfl, ?_⟩) hHeld ?_ ?_
      rotate_left
      ·rintro w' ⟨s0, s1, s2, s3, s4, s5, s6⟩
       go_simp
       with_reducible rfl
      rotate_left
      ·simp only [Act.put, List.setIfInBounds_toArray, List.set_cons_zero, List.set_cons_succ, i64_w, i32_w]
       rfl
      refine one_ (i := 33) (N := some 99) #[true, true, true, true, true, true, true, true, true, true, true, true, true, true, true, true, true, true, true, true, true, true, true, true, true, true, true, true, true, true, true, true, true, true, true, true, true, false, false, false] rfl rfl (by kernel_rfl) (by decide) (fun K_ hK_ => ?_)
      refine goes_ Try.func20 (by kernel_rfl) rfl #[.pointer (some ⟨gj, 0, none⟩), .int .i64 a2_1] (by rfl) rfl rfl (by (try simp only [List.map_toArray, List.map_cons, List.map_nil]); first | done | rfl) ?_
      obtain ⟨N_, on_, nn_, rr_, bb_⟩ := O14.out.frame1 (i := 1) rfl
      refine (Last_n a2_1 on_ HCR.out HI.out.2).mono ?_
      rintro e_ w15 ⟨rfl, oo_, kk_⟩
      obtain ⟨o_, k_⟩ := bb_ _ _ _ kk_ oo_
      refine ⟨_, rfl, ?_⟩
      have O15 : Aside0 (Own N1 w15 [cells gx #[.int .i64 a2_0, .int .i64 a2_1] 41, ObjC gj C L, cells gm #[.int .i64 C, .slice Am L.length cm] 37, emp, cells gr #[.int .i64 0, .int .i64 0, .slice none 0 0] 31]) := ⟨o_⟩
      have K15 : Aside0 (KeepS N1 wo w15) := ⟨K14.out.trans k_⟩
      have HRM_15 : Aside0 (Kd.F k31 w15 N1 Am L.length L) := ⟨keepF HRM_14.out k_⟩
      clear c14_0_0 f14_0_0 c14_0_1 f14_0_1 c14_2_0 f14_2_0 c14_2_1 f14_2_1 c14_4_0 f14_4_0 c14_4_1 f14_4_1 c14_4_2 f14_4_2 n14_0_2 n14_0_4 n14_2_0 n14_2_4 n14_4_0 n14_4_2 O14 K14 HRM_14
      have c15_0_0 : w15.cell? ⟨gx, 0, none⟩ = some (.int .i64 a2_0) := (blk_cell (O15.out.blk (i := 0) rfl) 0).trans rfl
      have f15_0_0 : w15.frozen? ⟨gx, 0, none⟩ = false := blk_frozen (O15.out.blk (i := 0) rfl) 0
      have c15_0_1 : w15.cell? ⟨gx, 1, none⟩ = some (.int .i64 a2_1) := (blk_cell (O15.out.blk (i := 0) rfl) 1).trans rfl
      have f15_0_1 : w15.frozen? ⟨gx, 1, none⟩ = false := blk_frozen (O15.out.blk (i := 0) rfl) 1
      have c15_2_0 : w15.cell? ⟨gm, 0, none⟩ = some (.int .i64 C) := (blk_cell (O15.out.blk (i := 2) rfl) 0).trans rfl
      have f15_2_0 : w15.frozen? ⟨gm, 0, none⟩ = false := blk_frozen (O15.out.blk (i := 2) rfl) 0
      have c15_2_1 : w15.cell? ⟨gm, 1, none⟩ = some (.slice Am L.length cm) := (blk_cell (O15.out.blk (i := 2) rfl) 1).trans rfl
      have f15_2_1 : w15.frozen? ⟨gm, 1, none⟩ = false := blk_frozen (O15.out.blk (i := 2) rfl) 1
      have c15_4_0 : w15.cell? ⟨gr, 0, none⟩ = some (.int .i64 0) := (blk_cell (O15.out.blk (i := 4) rfl) 0).trans rfl
      have f15_4_0 : w15.frozen? ⟨gr, 0, none⟩ = false := blk_frozen (O15.out.blk (i := 4) rfl) 0
      have c15_4_1 : w15.cell? ⟨gr, 1, none⟩ = some (.int .i64 0) := (blk_cell (O15.out.blk (i := 4) rfl) 1).trans rfl
      have f15_4_1 : w15.frozen? ⟨gr, 1, none⟩ = false := blk_frozen (O15.out.blk (i := 4) rfl) 1
      have c15_4_2 : w15.cell? ⟨gr, 2, none⟩ = some (.slice none 0 0) := (blk_cell (O15.out.blk (i := 4) rfl) 2).trans rfl
      have f15_4_2 : w15.frozen? ⟨gr, 2, none⟩ = false := blk_frozen (O15.out.blk (i := 4) rfl) 2
      have n15_0_2 : gx ≠ gm := O15.out.ne (i := 0) (j := 2) rfl rfl (by decide)
      have n15_0_4 : gx ≠ gr := O15.out.ne (i := 0) (j := 4) rfl rfl (by decide)
      have n15_2_0 : gm ≠ gx := O15.out.ne (i := 2) (j := 0) rfl rfl (by decide)
      have n15_2_4 : gm ≠ gr := O15.out.ne (i := 2) (j := 4) rfl rfl (by decide)
      have n15_4_0 : gr ≠ gx := O15.out.ne (i := 4) (j := 0) rfl rfl (by decide)
      have n15_4_2 : gr ≠ gm := O15.out.ne (i := 4) (j := 2) rfl rfl (by decide)
      clear o_ k_ oo_ kk_ on_ nn_ rr_ bb_
      clear hHeld
      refine hK_.out _ _ ⟨((blk_cell (O15.out.blk (i := 0) rfl) 0).trans rfl), ((blk_cell (O15.out.blk (i := 0) rfl) 1).trans rfl), ((blk_cell (O15.out.blk (i := 2) rfl) 0).trans rfl), ((blk_cell (O15.out.blk (i := 2) rfl) 1).trans rfl), ((blk_cell (O15.out.blk (i := 4) rfl) 0).trans rfl), ((blk_cell (O15.out.blk (i := 4) rfl) 1).trans rfl), ((blk_cell (O15.out.blk (i := 4) rfl) 2).trans rfl)⟩ (fun hHeld => ?_)
      clear hK_ K_
      refine norm_ (a' := ?_) ?_ ?_
      rotate_left
      ·simp only [Act.put, List.setIfInBounds_toArray, List.set_cons_zero, List.set_cons_succ, i64_w, i32_w]
       rfl
      refine one_ (i := 37) (N := some 103) #[true, true, true, true, true, true, true, true, true, true, true, true, true, true, true, true, true, true, true, true, true, true, true, true, true, true, true, true, true, true, true, true, true, true, true, true, true, true, false, false] rfl rfl (by kernel_rfl) (by decide) (fun K_ hK_ => ?_)
      refine goes_ Try.func21 (by kernel_rfl) rfl #[.pointer (some ⟨gm, 0, none⟩), .int .i64 a2_1] (by rfl) rfl rfl (by (try simp only [List.map_toArray, List.map_cons, List.map_nil]); first | done | rfl) ?_
      obtain ⟨N_, on_, nn_, rr_, bb_⟩ := O15.out.frame1 (i := 2) rfl
      refine (RLastF a2_1 on_ (Kd.F_mono HRM_15.out nn_) HLL.out).mono ?_
      rintro e_ w16 ⟨rfl, oo_, kk_⟩
      obtain ⟨o_, k_⟩ := bb_ _ _ _ kk_ oo_
      refine ⟨_, rfl, ?_⟩
      have O16 : Aside0 (Own N1 w16 [cells gx #[.int .i64 a2_0, .int .i64 a2_1] 41, ObjC gj C L, cells gm #[.int .i64 C, .slice Am L.length cm] 37, emp, cells gr #[.int .i64 0, .int .i64 0, .slice none 0 0] 31]) := ⟨o_⟩
      have K16 : Aside0 (KeepS N1 wo w16) := ⟨K15.out.trans k_⟩
      have HRM_16 : Aside0 (Kd.F k31 w16 N1 Am L.length L) := ⟨keepF HRM_15.out k_⟩
      clear c15_0_0 f15_0_0 c15_0_1 f15_0_1 c15_2_0 f15_2_0 c15_2_1 f15_2_1 c15_4_0 f15_4_0 c15_4_1 f15_4_1 c15_4_2 f15_4_2 n15_0_2 n15_0_4 n15_2_0 n15_2_4 n15_4_0 n15_4_2 O15 K15 HRM_15
      have c16_0_0 : w16.cell? ⟨gx, 0, none⟩ = some (.int .i64 a2_0) := (blk_cell (O16.out.blk (i := 0) rfl) 0).trans rfl
      have f16_0_0 : w16.frozen? ⟨gx, 0, none⟩ = false := blk_frozen (O16.out.blk (i := 0) rfl) 0
      have c16_0_1 : w16.cell? ⟨gx, 1, none⟩ = some (.int .i64 a2_1) := (blk_cell (O16.out.blk (i := 0) rfl) 1).trans rfl
      have f16_0_1 : w16.frozen? ⟨gx, 1, none⟩ = false := blk_frozen (O16.out.blk (i := 0) rfl) 1
      have c16_2_0 : w16.cell? ⟨gm, 0, none⟩ = some (.int .i64 C) := (blk_cell (O16.out.blk (i := 2) rfl) 0).trans rfl
      have f16_2_0 : w16.frozen? ⟨gm, 0, none⟩ = false := blk_frozen (O16.out.blk (i := 2) rfl) 0
      have c16_2_1 : w16.cell? ⟨gm, 1, none⟩ = some (.slice Am L.length cm) := (blk_cell (O16.out.blk (i := 2) rfl) 1).trans rfl
      have f16_2_1 : w16.frozen? ⟨gm, 1, none⟩ = false := blk_frozen (O16.out.blk (i := 2) rfl) 1
      have c16_4_0 : w16.cell? ⟨gr, 0, none⟩ = some (.int .i64 0) := (blk_cell (O16.out.blk (i := 4) rfl) 0).trans rfl
      have f16_4_0 : w16.frozen? ⟨gr, 0, none⟩ = false := blk_frozen (O16.out.blk (i := 4) rfl) 0
      have c16_4_1 : w16.cell? ⟨gr, 1, none⟩ = some (.int .i64 0) := (blk_cell (O16.out.blk (i := 4) rfl) 1).trans rfl
      have f16_4_1 : w16.frozen? ⟨gr, 1, none⟩ = false := blk_frozen (O16.out.blk (i := 4) rfl) 1
      have c16_4_2 : w16.cell? ⟨gr, 2, none⟩ = some (.slice none 0 0) := (blk_cell (O16.out.blk (i := 4) rfl) 2).trans rfl
      have f16_4_2 : w16.frozen? ⟨gr, 2, none⟩ = false := blk_frozen (O16.out.blk (i := 4) rfl) 2
      have n16_0_2 : gx ≠ gm := O16.out.ne (i := 0) (j := 2) rfl rfl (by decide)
      have n16_0_4 : gx ≠ gr := O16.out.ne (i := 0) (j := 4) rfl rfl (by decide)
      have n16_2_0 : gm ≠ gx := O16.out.ne (i := 2) (j := 0) rfl rfl (by decide)
      have n16_2_4 : gm ≠ gr := O16.out.ne (i := 2) (j := 4) rfl rfl (by decide)
      have n16_4_0 : gr ≠ gx := O16.out.ne (i := 4) (j := 0) rfl rfl (by decide)
      have n16_4_2 : gr ≠ gm := O16.out.ne (i := 4) (j := 2) rfl rfl (by decide)
      clear o_ k_ oo_ kk_ on_ nn_ rr_ bb_
      clear hHeld
      refine hK_.out _ _ ⟨((blk_cell (O16.out.blk (i := 0) rfl) 0).trans rfl), ((blk_cell (O16.out.blk (i := 0) rfl) 1).trans rfl), ((blk_cell (O16.out.blk (i := 2) rfl) 0).trans rfl), ((blk_cell (O16.out.blk (i := 2) rfl) 1).trans rfl), ((blk_cell (O16.out.blk (i := 4) rfl) 0).trans rfl), ((blk_cell (O16.out.blk (i := 4) rfl) 1).trans rfl), ((blk_cell (O16.out.blk (i := 4) rfl) 2).trans rfl)⟩ (fun hHeld => ?_)
      clear hK_ K_
      refine norm_ (a' := ?_) ?_ ?_
      rotate_left
      ·simp only [Act.put, List.setIfInBounds_toArray, List.set_cons_zero, List.set_cons_succ, i64_w, i32_w]
       rfl
      refine pure_ (i := 38) (N := some 104) (v := ?_) (a' := ?_) #[true, true, true, true, true, true, true, true, true, true, true, true, true, true, true, true, true, true, true, true, true, true, true, true, true, true, true, true, true, true, true, true, true, true, true, true, true, true, true, false] rfl rfl (by kernel_rfl) (fun _ _ _ h => h) (Or.inl ⟨by rfl, ?_⟩) ?_ ?_
      rotate_left
      ·intro w'
       go_simp
       with_reducible rfl
      rotate_left
      ·simp only [Act.put, List.setIfInBounds_toArray, List.set_cons_zero, List.set_cons_succ, i64_w, i32_w]
       rfl
      refine pure_ (i := 39) (N := some 105) (v := ?_) (a' := ?_) #[true, true, true, true, true, true, true, true, true, true, true, true, true, true, true, true, true, true, true, true, true, true, true, true, true, true, true, true, true, true, true, true, true, true, true, true, true, true, true, true] rfl rfl (by kernel_rfl) (fun _ _ _ h => h) (Or.inl ⟨by rfl, ?_⟩) ?_ ?_
      rotate_left
      ·intro w'
       go_simp
       with_reducible rfl
      rotate_left
      ·simp only [Act.put, List.setIfInBounds_toArray, List.set_cons_zero, List.set_cons_succ, i64_w, i32_w]
       rfl
      refine done_ (by kernel_rfl) ?_
      clear hHeld
      go_wp2
      have HW : Aside0 (Own N1 w16 ([ObjC gj C L, cells gm #[.int .i64 C, .slice Am L.length cm] 37, cells gr #[.int .i64 0, .int .i64 0, .slice none 0 0] 31] ++ [row kU Sep.TU (.slice none 0 0) []])) := ⟨(O16.out.pickL [1, 2, 4] (by decide) (by simp)).push_emp (row kU Sep.TU (.slice none 0 0) []) (fun w => Kd.R_nil _ _ _ _ _)⟩
      clear c16_0_0 f16_0_0 c16_0_1 f16_0_1 c16_2_0 f16_2_0 c16_2_1 f16_2_1 c16_4_0 f16_4_0 c16_4_1 f16_4_1 c16_4_2 f16_4_2 n16_0_2 n16_0_4 n16_2_0 n16_2_4 n16_4_0 n16_4_2
      clear O16
      go_loopw [109] (fun i wr => RoU N1 wo [ObjC gj C L, cells gm #[.int .i64 C, .slice Am L.length cm] 37, cells gr #[.int .i64 0, .int .i64 0, .slice none 0 0] 31] none 0 0 i wr) (fun i _ => 0 - (intOf i).toNat)
      case atStart => exact ⟨0, _, by omega, by omega, rfl, ⟨rfl⟩, HW, K16⟩
      case round =>
       obtain ⟨y, us, hy0, hy1, rfl, HJ, OB, KB⟩ := hrel
       have hun := HUN.out
       by_cases hly : y < (0 : Int)
       ·exact absurd hly (by omega)
       ·have hd2 : decide (y < (0 : Int)) = false := decide_eq_false hly
        clear hly hy0 hy1 hun HJ HW
        have O17 : Aside0 (Own N1 wr [ObjC gj C L, cells gm #[.int .i64 C, .slice Am L.length cm] 37, cells gr #[.int .i64 0, .int .i64 0, .slice none 0 0] 31, row kU Sep.TU (.slice none 0 0) us]) := ⟨OB.out⟩
        have K17 : Aside0 (KeepS N1 wo wr) := ⟨KB.out⟩
        clear OB KB
        go_wp2_with (first | ((with_reducible refine gate_callee (f := 17) rfl ?_); refine goesL_ (some 119) rfl rfl Try.func17 (by kernel_rfl) rfl #[.pointer (some ⟨gj, 0, none⟩)] rfl (by (try simp only [List.map_toArray, List.map_cons, List.map_nil]); first | done | rfl) ?_; obtain ⟨N_, on_, nn_, rr_, bb_⟩ := O17.out.frame1 (i := 0) rfl; refine (AllR on_ HLL.out ⟨fun x a b => Nat.le_trans (HSH.out x a b) (by decide)⟩).mono ?_; rintro e_ w18 ⟨B6, d6, rfl, oo_, kk_⟩; obtain ⟨o_, k_⟩ := bb_ _ _ _ kk_ oo_; refine ⟨_, rfl, ?_⟩; have O18 : Aside0 (Own N1 w18 [ObjC gj C L, cells gm #[.int .i64 C, .slice Am L.length cm] 37, cells gr #[.int .i64 0, .int .i64 0, .slice none 0 0] 31, row kU Sep.TU (.slice none 0 0) us, row kR Sep.TR (.slice B6 L.length d6) L]) := ⟨o_⟩; have K18 : Aside0 (KeepS N1 wo w18) := ⟨K17.out.trans k_⟩; clear O17 K17; clear o_ k_ oo_ kk_ on_ nn_ rr_ bb_))
        go_loopw [121] (fun i wr => RoR N1 wo [ObjC gj C L, cells gm #[.int .i64 C, .slice Am L.length cm] 37] L.length B6 d6 i wr) (fun i _ => L.length - (intOf i).toNat)
        case atStart => exact ⟨0, L, by omega, by omega, rfl, ⟨rfl⟩, ⟨O18.out.pickL [0, 1, 4] (by decide) (by simp)⟩, K18⟩
        case round =>
         obtain ⟨y, L2, hy0, hy1, rfl, HJ, OB, KB⟩ := hrel
         have hll := HLL.out
         by_cases hly : y < (L.length : Int)
         ·obtain ⟨ae, A7, c7, e7, q0, q1, q2⟩ := at_W OB.out (i := 2) rfl y hy0 hly
          cases e7
          have hs3 : wrap64 (y + 1) = y + 1 := by unfold wrap64; omega
          have hp2 := eq_true hy0
          have hq2 := eq_true hly
          have hd2 : decide (y < (L.length : Int)) = true := decide_eq_true hly
          have HY := Aside0.mk (And.intro hy0 hly)
          have HQC := Aside0.mk q2
          obtain ⟨m7, hm7⟩ : ∃ m, m = (rd_T31 L2 y).f2.length := ⟨_, rfl⟩
          rw [← hm7] at q2
          have HQC2 : Aside0 (wr.cell? ⟨(ae.add (y.toNat * 3)).block, (ae.add (y.toNat * 3)).off + 2, none⟩ = some (.slice A7 m7 c7)) := ⟨by rw [hm7]; exact HQC.out⟩
          have HMB : Aside0 (m7 ≤ 9223372036854775807) := ⟨by have q_ := row_max OB.out (i := 2) rfl y hy0 hly; rw [hm7]; exact q_⟩
          clear HQC hm7 hll hy0 hy1 hly
          have O19 : Aside0 (Own N1 wr [ObjC gj C L, cells gm #[.int .i64 C, .slice Am L.length cm] 37, both (row kR Sep.TR (.slice (some ae) L.length d6) L2) (cellIs ⟨(ae.add (y.toNat * 3)).block, (ae.add (y.toNat * 3)).off + 2, none⟩ (.slice A7 m7 c7))]) := ⟨mark OB.out (i := 2) rfl y HY.out.1 HY.out.2 HQC2.out⟩
          have K19 : Aside0 (KeepS N1 wo wr) := ⟨KB.out⟩
          clear OB KB
          go_wp2_with (first | ((with_reducible refine gate_dst (N := 16) rfl ?_); refine own_box rfl (D := 16) rfl (cs := #[.int .i64 0, .int .i64 0, .slice none 0 0]) (t := 31) ?hr O19.out ?_; (case hr => first | (go_simp; done) | (go_simp; rfl)); intro gq w20 o_ k_; have O20 : Aside0 (Own N1 w20 [ObjC gj C L, cells gm #[.int .i64 C, .slice Am L.length cm] 37, both (row kR Sep.TR (.slice (some ae) L.length d6) L2) (cellIs ⟨(ae.add (y.toNat * 3)).block, (ae.add (y.toNat * 3)).off + 2, none⟩ (.slice A7 m7 c7)), cells gq #[.int .i64 0, .int .i64 0, .slice none 0 0] 31]) := ⟨o_⟩; have K20 : Aside0 (KeepS N1 wo w20) := ⟨K19.out.trans k_⟩; clear O19 K19; have c20_3_0 : w20.cell? ⟨gq, 0, none⟩ = some (.int .i64 0) := (blk_cell (O20.out.blk (i := 3) rfl) 0).trans rfl; have f20_3_0 : w20.frozen? ⟨gq, 0, none⟩ = false := blk_frozen (O20.out.blk (i := 3) rfl) 0; have c20_3_1 : w20.cell? ⟨gq, 1, none⟩ = some (.int .i64 0) := (blk_cell (O20.out.blk (i := 3) rfl) 1).trans rfl; have f20_3_1 : w20.frozen? ⟨gq, 1, none⟩ = false := blk_frozen (O20.out.blk (i := 3) rfl) 1; have c20_3_2 : w20.cell? ⟨gq, 2, none⟩ = some (.slice none 0 0) := (blk_cell (O20.out.blk (i := 3) rfl) 2).trans rfl; have f20_3_2 : w20.frozen? ⟨gq, 2, none⟩ = false := blk_frozen (O20.out.blk (i := 3) rfl) 2; clear o_ k_) | ((with_reducible refine gate_store (t := 31) (p := 16) rfl ?_); refine own_store rfl rfl rfl (w1 := (World.setCell (World.setCell (World.setCell w20 ⟨gq, 0, none⟩ (.int .i64 (rd_T31 L2 y).f0)) ⟨gq, 1, none⟩ (.int .i64 (rd_T31 L2 y).f1)) ⟨gq, 2, none⟩ (.slice A7 m7 c7))) (N := N1) (l' := [ObjC gj C L, cells gm #[.int .i64 C, .slice Am L.length cm] 37, both (row kR Sep.TR (.slice (some ae) L.length d6) L2) (cellIs ⟨(ae.add (y.toNat * 3)).block, (ae.add (y.toNat * 3)).off + 2, none⟩ (.slice A7 m7 c7)), cells gq #[.int .i64 (rd_T31 L2 y).f0, .int .i64 (rd_T31 L2 y).f1, .slice A7 m7 c7] 31]) ?hr ?ho ?hk ?_; (case hr => first | (go_simp; done) | (go_simp; rfl)); (case ho => exact (((O20.out.set (i := 3) rfl 0 (.int .i64 (rd_T31 L2 y).f0)).set (i := 3) rfl 1 (.int .i64 (rd_T31 L2 y).f1)).set (i := 3) rfl 2 (.slice A7 m7 c7))); (case hk => exact (((KeepS.setCell (O20.out.far (i := 3) rfl) (.int .i64 (rd_T31 L2 y).f0)).trans (KeepS.setCell (O20.out.far (i := 3) rfl) (.int .i64 (rd_T31 L2 y).f1))).trans (KeepS.setCell (O20.out.far (i := 3) rfl) (.slice A7 m7 c7)))); intro w21 o_ k_; have O21 : Aside0 (Own N1 w21 [ObjC gj C L, cells gm #[.int .i64 C, .slice Am L.length cm] 37, both (row kR Sep.TR (.slice (some ae) L.length d6) L2) (cellIs ⟨(ae.add (y.toNat * 3)).block, (ae.add (y.toNat * 3)).off + 2, none⟩ (.slice A7 m7 c7)), cells gq #[.int .i64 (rd_T31 L2 y).f0, .int .i64 (rd_T31 L2 y).f1, .slice A7 m7 c7] 31]) := ⟨o_⟩; have K21 : Aside0 (KeepS N1 wo w21) := ⟨K20.out.trans k_⟩; clear c20_3_0 f20_3_0 c20_3_1 f20_3_1 c20_3_2 f20_3_2 O20 K20; have c21_3_0 : w21.cell? ⟨gq, 0, none⟩ = some (.int .i64 (rd_T31 L2 y).f0) := (blk_cell (O21.out.blk (i := 3) rfl) 0).trans rfl; have f21_3_0 : w21.frozen? ⟨gq, 0, none⟩ = false := blk_frozen (O21.out.blk (i := 3) rfl) 0; have c21_3_1 : w21.cell? ⟨gq, 1, none⟩ = some (.int .i64 (rd_T31 L2 y).f1) := (blk_cell (O21.out.blk (i := 3) rfl) 1).trans rfl; have f21_3_1 : w21.frozen? ⟨gq, 1, none⟩ = false := blk_frozen (O21.out.blk (i := 3) rfl) 1; have c21_3_2 : w21.cell? ⟨gq, 2, none⟩ = some (.slice A7 m7 c7) := (blk_cell (O21.out.blk (i := 3) rfl) 2).trans rfl; have f21_3_2 : w21.frozen? ⟨gq, 2, none⟩ = false := blk_frozen (O21.out.blk (i := 3) rfl) 2; clear o_ k_))
          go_loopw [128] (fun i wr => RoQ N1 wo [ObjC gj C L, cells gm #[.int .i64 C, .slice Am L.length cm] 37] gq L.length ae d6 y (rd_T31 L2 y).f0 (rd_T31 L2 y).f1 A7 m7 c7 i wr) (fun i _ => m7 - (intOf i).toNat)
          case atStart => exact ⟨0, L2, by omega, by omega, rfl, HJ, O21, K21⟩
          case round =>
           clear c21_3_0 f21_3_0 c21_3_1 f21_3_1 c21_3_2 f21_3_2
           obtain ⟨u, L3, hu0, hu1, rfl, HJ3, OC, KC⟩ := hrel
           have hmb := HMB.out
           by_cases hlu : u < (m7 : Int)
           ·obtain ⟨a2, e8, ⟨zv, hz⟩, hf, hk, L4, hl4, ho⟩ := putN2 (⟨#[101, 108, 115, 101]⟩ : ByteArray) y u OC.out (i := 2) rfl HY.out.1 HY.out.2 hu0 hlu
            cases e8
            have hs4 : wrap64 (u + 1) = u + 1 := by unfold wrap64; omega
            have hp3 := eq_true hu0
            have hq3 := eq_true hlu
            have hd3 : decide (u < (m7 : Int)) = true := decide_eq_true hlu
            have HUU := Aside0.mk (And.intro hu0 hlu)
            have HO8 := Aside0.mk ho
            have HK8 := Aside0.mk hk
            have HL8 : Aside0 (L4.length = L.length) := ⟨hl4.trans HJ3.out⟩
            clear ho hk hl4 hmb hu0 hu1 hlu
            have O22 : Aside0 (Own N1 wr [ObjC gj C L, cells gm #[.int .i64 C, .slice Am L.length cm] 37, both (row kR Sep.TR (.slice (some ae) L.length d6) L3) (cellIs ⟨(ae.add (y.toNat * 3)).block, (ae.add (y.toNat * 3)).off + 2, none⟩ (.slice (some a2) m7 c7)), cells gq #[.int .i64 (rd_T31 L2 y).f0, .int .i64 (rd_T31 L2 y).f1, .slice (some a2) m7 c7] 31]) := ⟨OC.out⟩
            have K22 : Aside0 (KeepS N1 wo wr) := ⟨KC.out⟩
            have c22_3_0 : wr.cell? ⟨gq, 0, none⟩ = some (.int .i64 (rd_T31 L2 y).f0) := (blk_cell (O22.out.blk (i := 3) rfl) 0).trans rfl
            have f22_3_0 : wr.frozen? ⟨gq, 0, none⟩ = false := blk_frozen (O22.out.blk (i := 3) rfl) 0
            have c22_3_1 : wr.cell? ⟨gq, 1, none⟩ = some (.int .i64 (rd_T31 L2 y).f1) := (blk_cell (O22.out.blk (i := 3) rfl) 1).trans rfl
            have f22_3_1 : wr.frozen? ⟨gq, 1, none⟩ = false := blk_frozen (O22.out.blk (i := 3) rfl) 1
            have c22_3_2 : wr.cell? ⟨gq, 2, none⟩ = some (.slice (some a2) m7 c7) := (blk_cell (O22.out.blk (i := 3) rfl) 2).trans rfl
            have f22_3_2 : wr.frozen? ⟨gq, 2, none⟩ = false := blk_frozen (O22.out.blk (i := 3) rfl) 2
            clear OC KC
            go_wp2_with (first | ((with_reducible refine gate_store (t := 9) (p := 135) rfl ?_); refine own_store rfl rfl rfl (w1 := wr.setCell (a2.add (u.toNat * 4)) (.string (⟨#[101, 108, 115, 101]⟩ : ByteArray))) (N := N1) (l' := [ObjC gj C L, cells gm #[.int .i64 C, .slice Am L.length cm] 37, both (row kR Sep.TR (.slice (some ae) L.length d6) L4) (cellIs ⟨(ae.add (y.toNat * 3)).block, (ae.add (y.toNat * 3)).off + 2, none⟩ (.slice (some a2) m7 c7)), cells gq #[.int .i64 (rd_T31 L2 y).f0, .int .i64 (rd_T31 L2 y).f1, .slice (some a2) m7 c7] 31]) ?hr HO8.out HK8.out ?_; (case hr => first | (go_simp; done) | (go_simp; rfl)); refine fun w23 o_ k_ => ?_; have O23 : Aside0 (Own N1 w23 [ObjC gj C L, cells gm #[.int .i64 C, .slice Am L.length cm] 37, both (row kR Sep.TR (.slice (some ae) L.length d6) L4) (cellIs ⟨(ae.add (y.toNat * 3)).block, (ae.add (y.toNat * 3)).off + 2, none⟩ (.slice (some a2) m7 c7)), cells gq #[.int .i64 (rd_T31 L2 y).f0, .int .i64 (rd_T31 L2 y).f1, .slice (some a2) m7 c7] 31]) := ⟨o_⟩; have K23 : Aside0 (KeepS N1 wo w23) := ⟨K22.out.trans k_⟩; clear c22_3_0 f22_3_0 c22_3_1 f22_3_1 c22_3_2 f22_3_2 O22 K22; have c23_3_0 : w23.cell? ⟨gq, 0, none⟩ = some (.int .i64 (rd_T31 L2 y).f0) := (blk_cell (O23.out.blk (i := 3) rfl) 0).trans rfl; have f23_3_0 : w23.frozen? ⟨gq, 0, none⟩ = false := blk_frozen (O23.out.blk (i := 3) rfl) 0; have c23_3_1 : w23.cell? ⟨gq, 1, none⟩ = some (.int .i64 (rd_T31 L2 y).f1) := (blk_cell (O23.out.blk (i := 3) rfl) 1).trans rfl; have f23_3_1 : w23.frozen? ⟨gq, 1, none⟩ = false := blk_frozen (O23.out.blk (i := 3) rfl) 1; have c23_3_2 : w23.cell? ⟨gq, 2, none⟩ = some (.slice (some a2) m7 c7) := (blk_cell (O23.out.blk (i := 3) rfl) 2).trans rfl; have f23_3_2 : w23.frozen? ⟨gq, 2, none⟩ = false := blk_frozen (O23.out.blk (i := 3) rfl) 2; clear o_ k_))
            go_roundw
            case rel => exact ⟨u + 1, L4, by have := HUU.out; omega, by have := HUU.out; omega, int_eq (by unfold wrap64; have := HUU.out; have := HMB.out; omega), HL8, O23, K23⟩
            case measure => have := HUU.out; simp [intOf]; omega
           ·have hd3 : decide (u < (m7 : Int)) = false := decide_eq_false hlu
            clear hlu hu0 hu1 hmb
            have O22 : Aside0 (Own N1 wr [ObjC gj C L, cells gm #[.int .i64 C, .slice Am L.length cm] 37, both (row kR Sep.TR (.slice (some ae) L.length d6) L3) (cellIs ⟨(ae.add (y.toNat * 3)).block, (ae.add (y.toNat * 3)).off + 2, none⟩ (.slice A7 m7 c7)), cells gq #[.int .i64 (rd_T31 L2 y).f0, .int .i64 (rd_T31 L2 y).f1, .slice A7 m7 c7] 31]) := ⟨OC.out⟩
            have K22 : Aside0 (KeepS N1 wo wr) := ⟨KC.out⟩
            clear OC KC
            go_wp2
            go_roundw
            case rel => exact ⟨y + 1, L3, by have := HY.out; omega, by have := HY.out; omega, int_eq (by unfold wrap64; have := HY.out; have := HLL.out; omega), HJ3, ⟨(unmark O22.out (i := 2) rfl).take 3⟩, K22⟩
            case measure => have := HY.out; simp [intOf]; omega
         ·have hd2 : decide (y < (L.length : Int)) = false := decide_eq_false hly
          clear hly hy0 hy1 hll
          have O19 : Aside0 (Own N1 wr [ObjC gj C L, cells gm #[.int .i64 C, .slice Am L.length cm] 37, row kR Sep.TR (.slice B6 L.length d6) L2]) := ⟨OB.out⟩
          have K19 : Aside0 (KeepS N1 wo wr) := ⟨KB.out⟩
          have HRM_19 : Aside0 (Kd.F k31 wr N1 Am L.length L) := ⟨keepF HRM.out KB.out⟩
          have c19_1_0 : wr.cell? ⟨gm, 0, none⟩ = some (.int .i64 C) := (blk_cell (O19.out.blk (i := 1) rfl) 0).trans rfl
          have f19_1_0 : wr.frozen? ⟨gm, 0, none⟩ = false := blk_frozen (O19.out.blk (i := 1) rfl) 0
          have c19_1_1 : wr.cell? ⟨gm, 1, none⟩ = some (.slice Am L.length cm) := (blk_cell (O19.out.blk (i := 1) rfl) 1).trans rfl
          have f19_1_1 : wr.frozen? ⟨gm, 1, none⟩ = false := blk_frozen (O19.out.blk (i := 1) rfl) 1
          clear OB KB
          go_wp2
          refine start_ (n := 8) (S := fun w' => w'.cell? ⟨gm, 0, none⟩ = some (.int .i64 C) ∧ w'.cell? ⟨gm, 1, none⟩ = some (.slice Am L.length cm)) (ds := []) #[false, false, false, false, false, false, false, false] (by kernel_rfl) rfl rfl ⟨((blk_cell (O19.out.blk (i := 1) rfl) 0).trans rfl), ((blk_cell (O19.out.blk (i := 1) rfl) 1).trans rfl)⟩ (fun hHeld => ?_)
          obtain ⟨w20, hw_⟩ : ∃ W, W = wr.drew := ⟨_, rfl⟩
          have o_ := O19.out.drew
          have k_ : KeepS N1 wr wr.drew := KeepS.drew
          rw [← hw_] at o_ k_ hHeld ⊢
          clear hw_
          have O20 : Aside0 (Own N1 w20 [ObjC gj C L, cells gm #[.int .i64 C, .slice Am L.length cm] 37, row kR Sep.TR (.slice B6 L.length d6) L2]) := ⟨o_⟩
          have K20 : Aside0 (KeepS N1 wo w20) := ⟨K19.out.trans k_⟩
          have HRM_20 : Aside0 (Kd.F k31 w20 N1 Am L.length L) := ⟨keepF HRM_19.out k_⟩
          clear c19_1_0 f19_1_0 c19_1_1 f19_1_1 O19 K19 HRM_19
          have c20_1_0 : w20.cell? ⟨gm, 0, none⟩ = some (.int .i64 C) := (blk_cell (O20.out.blk (i := 1) rfl) 0).trans rfl
          have f20_1_0 : w20.frozen? ⟨gm, 0, none⟩ = false := blk_frozen (O20.out.blk (i := 1) rfl) 0
          have c20_1_1 : w20.cell? ⟨gm, 1, none⟩ = some (.slice Am L.length cm) := (blk_cell (O20.out.blk (i := 1) rfl) 1).trans rfl
          have f20_1_1 : w20.frozen? ⟨gm, 1, none⟩ = false := blk_frozen (O20.out.blk (i := 1) rfl) 1
          clear o_ k_
          refine pure_ (i := 0) (N := some 138) (v := ?_) (a' := ?_) #[true, false, false, false, false, false, false, false] rfl rfl (by kernel_rfl) (fun _ _ _ h => h) (Or.inl ⟨by rfl, ?_⟩) ?_ ?_
          rotate_left
          ·intro w'
           go_simp
           with_reducible rfl
          rotate_left
          ·simp only [Act.put, List.setIfInBounds_toArray, List.set_cons_zero, List.set_cons_succ, i64_w, i32_w]
           rfl
          refine pure_ (i := 2) (N := some 140) (v := ?_) (a' := ?_) #[true, false, true, false, false, false, false, false] rfl rfl (by kernel_rfl) (fun _ _ _ h => h) (Or.inl ⟨by rfl, ?_⟩) ?_ ?_
          rotate_left
          ·intro w'
           go_simp
           with_reducible rfl
          rotate_left
          ·simp only [Act.put, List.setIfInBounds_toArray, List.set_cons_zero, List.set_cons_succ, i64_w, i32_w]
           rfl
          refine pure_ (i := 3) (N := some 141) (v := ?_) (a' := ?_) #[true, false, true, true, false, false, false, false] rfl rfl (by kernel_rfl) (fun _ _ _ h => h) (Or.inl ⟨by rfl, ?_⟩) ?_ ?_
          rotate_left
          ·intro w'
           go_simp
           with_reducible rfl
          rotate_left
          ·simp only [Act.put, List.setIfInBounds_toArray, List.set_cons_zero, List.set_cons_succ, i64_w, i32_w]
           rfl
          refine pure_ (i := 4) (N := some 142) (v := ?_) (a' := ?_) #[true, false, true, true, true, false, false, false] rfl rfl (by kernel_rfl) (fun _ _ _ h => h) (Or.inl ⟨by rfl, ?_⟩) ?_ ?_
          rotate_left
          ·intro w'
           go_simp
           with_reducible rfl
          rotate_left
          ·simp only [Act.put, List.setIfInBounds_toArray, List.set_cons_zero, List.set_cons_succ, i64_w, i32_w]
           rfl
          refine take_ (i := 5) (N := some 143) (v := ?_) (a' := ?_) #[true, false, true, true, true, true, false, false] rfl rfl (by kernel_rfl) (fun _ _ _ h => h) (Or.inl ⟨by rfl, ?_⟩) hHeld ?_ ?_
          rotate_left
          ·rintro w' ⟨s0, s1⟩
           go_simp
           with_reducible rfl
          rotate_left
          ·simp only [Act.put, List.setIfInBounds_toArray, List.set_cons_zero, List.set_cons_succ, i64_w, i32_w]
           rfl
          refine one_ (i := 1) (N := some 139) #[true, true, true, true, true, true, false, false] rfl rfl (by kernel_rfl) (by decide) (fun K_ hK_ => ?_)
          refine goes_ Try.func17 (by kernel_rfl) rfl #[.pointer (some ⟨gj, 0, none⟩)] (by rfl) rfl rfl (by (try simp only [List.map_toArray, List.map_cons, List.map_nil]); first | done | rfl) ?_
          obtain ⟨N_, on_, nn_, rr_, bb_⟩ := O20.out.frame1 (i := 0) rfl
          refine (All_g on_ HLL.out HI.out.2).mono ?_
          rintro e_ w21 ⟨B1, d1, rfl, oo_, kk_⟩
          obtain ⟨o_, k_⟩ := bb_ _ _ _ kk_ oo_
          refine ⟨_, rfl, ?_⟩
          have O21 : Aside0 (Own N1 w21 [ObjC gj C L, cells gm #[.int .i64 C, .slice Am L.length cm] 37, row kR Sep.TR (.slice B6 L.length d6) L2, nrow k31 31 (.slice B1 L.length d1) L]) := ⟨o_⟩
          have K21 : Aside0 (KeepS N1 wo w21) := ⟨K20.out.trans k_⟩
          have HRM_21 : Aside0 (Kd.F k31 w21 N1 Am L.length L) := ⟨keepF HRM_20.out k_⟩
          clear c20_1_0 f20_1_0 c20_1_1 f20_1_1 O20 K20 HRM_20
          have c21_1_0 : w21.cell? ⟨gm, 0, none⟩ = some (.int .i64 C) := (blk_cell (O21.out.blk (i := 1) rfl) 0).trans rfl
          have f21_1_0 : w21.frozen? ⟨gm, 0, none⟩ = false := blk_frozen (O21.out.blk (i := 1) rfl) 0
          have c21_1_1 : w21.cell? ⟨gm, 1, none⟩ = some (.slice Am L.length cm) := (blk_cell (O21.out.blk (i := 1) rfl) 1).trans rfl
          have f21_1_1 : w21.frozen? ⟨gm, 1, none⟩ = false := blk_frozen (O21.out.blk (i := 1) rfl) 1
          clear o_ k_ oo_ kk_ on_ nn_ rr_ bb_
          clear hHeld
          refine hK_.out _ _ ⟨((blk_cell (O21.out.blk (i := 1) rfl) 0).trans rfl), ((blk_cell (O21.out.blk (i := 1) rfl) 1).trans rfl)⟩ (fun hHeld => ?_)
          clear hK_ K_
          refine norm_ (a' := ?_) ?_ ?_
          rotate_left
          ·simp only [Act.put, List.setIfInBounds_toArray, List.set_cons_zero, List.set_cons_succ, i64_w, i32_w]
           rfl
          refine one_ (i := 6) (N := some 144) #[true, true, true, true, true, true, true, false] rfl rfl (by kernel_rfl) (by decide) (fun K_ hK_ => ?_)
          refine goes_ Try.func16 (by kernel_rfl) rfl #[.slice B1 L.length d1, .slice Am L.length cm] (by rfl) rfl rfl (by (try simp only [List.map_toArray, List.map_cons, List.map_nil]); first | done | rfl) ?_
          refine (chapbookref07_SameAll.calls 200 _ _ L _ _ L true _ (O21.out.nreads (i := 3) rfl).2.2 (O21.out.nreads (i := 3) rfl).2.1 (Kd.F_now HRM_21.out) HCM.out (psameAll 8 200 L (by have := HLL.out; omega) HSH.out (by decide) (by have := HI.out.1; have := HL40.out; omega))).mono ?_
          rintro e_ w22 ⟨rfl, hb_⟩
          refine ⟨_, rfl, ?_⟩
          have o_ := O21.out.below hb_
          have k_ := KeepS.of_below (N := N1) hb_
          have O22 : Aside0 (Own N1 w22 [ObjC gj C L, cells gm #[.int .i64 C, .slice Am L.length cm] 37, row kR Sep.TR (.slice B6 L.length d6) L2, nrow k31 31 (.slice B1 L.length d1) L]) := ⟨o_⟩
          have K22 : Aside0 (KeepS N1 wo w22) := ⟨K21.out.trans k_⟩
          have HRM_22 : Aside0 (Kd.F k31 w22 N1 Am L.length L) := ⟨keepF HRM_21.out k_⟩
          clear c21_1_0 f21_1_0 c21_1_1 f21_1_1 O21 K21 HRM_21
          have c22_1_0 : w22.cell? ⟨gm, 0, none⟩ = some (.int .i64 C) := (blk_cell (O22.out.blk (i := 1) rfl) 0).trans rfl
          have f22_1_0 : w22.frozen? ⟨gm, 0, none⟩ = false := blk_frozen (O22.out.blk (i := 1) rfl) 0
          have c22_1_1 : w22.cell? ⟨gm, 1, none⟩ = some (.slice Am L.length cm) := (blk_cell (O22.out.blk (i := 1) rfl) 1).trans rfl
          have f22_1_1 : w22.frozen? ⟨gm, 1, none⟩ = false := blk_frozen (O22.out.blk (i := 1) rfl) 1
          clear o_ k_ hb_
          clear hHeld
          refine hK_.out _ _ ⟨((blk_cell (O22.out.blk (i := 1) rfl) 0).trans rfl), ((blk_cell (O22.out.blk (i := 1) rfl) 1).trans rfl)⟩ (fun hHeld => ?_)
          clear hK_ K_
          refine norm_ (a' := ?_) ?_ ?_
          rotate_left
          ·simp only [Act.put, List.setIfInBounds_toArray, List.set_cons_zero, List.set_cons_succ, i64_w, i32_w]
           rfl
          refine pure_ (i := 7) (N := some 6) (v := ?_) (a' := ?_) #[true, true, true, true, true, true, true, true] rfl rfl (by kernel_rfl) (fun _ _ _ h => h) (Or.inl ⟨by rfl, ?_⟩) ?_ ?_
          rotate_left
          ·intro w'
           go_simp
           with_reducible rfl
          rotate_left
          ·simp only [Act.put, List.setIfInBounds_toArray, List.set_cons_zero, List.set_cons_succ, i64_w, i32_w]
           rfl
          refine done_ (by kernel_rfl) ?_
          clear hHeld
          go_wp2
          go_ret
          exact ⟨rfl, (KA.out.trans (K22.out.mono HN1.out)).below (Nat.le_refl _) (fun k hk => by rw [HN.out]; exact hk)⟩
    ·have HW0 : Aside0 (a2_0 < 0) := ⟨by omega⟩
     have d1 : decide (a2_0 ≥ 0) = false := decide_eq_false hw0
     have d2 : decide (0 ≤ a2_0) = false := d1
     clear hw0
     have HUN : Aside0 ((0 : Nat) ≤ 1000000) := ⟨by omega⟩
     have O8 : Aside0 (Own N1 wo [cells gx #[.int .i64 a2_0, .int .i64 a2_1] 41, ObjC gj C L, cells gm #[.int .i64 C, .slice Am L.length cm] 37, emp]) := ⟨h3⟩
     have K8 : Aside0 (KeepS N1 wo wo) := ⟨KeepS.refl _ _⟩
     have HRM_8 : Aside0 (Kd.F k31 wo N1 Am L.length L) := ⟨HRM.out⟩
     have c8_0_0 : wo.cell? ⟨gx, 0, none⟩ = some (.int .i64 a2_0) := (blk_cell (O8.out.blk (i := 0) rfl) 0).trans rfl
     have f8_0_0 : wo.frozen? ⟨gx, 0, none⟩ = false := blk_frozen (O8.out.blk (i := 0) rfl) 0
     have c8_0_1 : wo.cell? ⟨gx, 1, none⟩ = some (.int .i64 a2_1) := (blk_cell (O8.out.blk (i := 0) rfl) 1).trans rfl
     have f8_0_1 : wo.frozen? ⟨gx, 1, none⟩ = false := blk_frozen (O8.out.blk (i := 0) rfl) 1
     have c8_2_0 : wo.cell? ⟨gm, 0, none⟩ = some (.int .i64 C) := (blk_cell (O8.out.blk (i := 2) rfl) 0).trans rfl
     have f8_2_0 : wo.frozen? ⟨gm, 0, none⟩ = false := blk_frozen (O8.out.blk (i := 2) rfl) 0
     have c8_2_1 : wo.cell? ⟨gm, 1, none⟩ = some (.slice Am L.length cm) := (blk_cell (O8.out.blk (i := 2) rfl) 1).trans rfl
     have f8_2_1 : wo.frozen? ⟨gm, 1, none⟩ = false := blk_frozen (O8.out.blk (i := 2) rfl) 1
     have n8_0_2 : gx ≠ gm := O8.out.ne (i := 0) (j := 2) rfl rfl (by decide)
     have n8_2_0 : gm ≠ gx := O8.out.ne (i := 2) (j := 0) rfl rfl (by decide)
     clear OA h2 h3 hn1 hF hback hFm
     go_wp2_with (first | ((with_reducible refine gate_callee (f := 18) rfl ?_); refine goesL_ (some 50) rfl rfl Try.func18 (by kernel_rfl) rfl #[.pointer (some ⟨gj, 0, none⟩), .int .i64 a2_0] rfl (by (try simp only [List.map_toArray, List.map_cons, List.map_nil]); first | done | rfl) ?_; obtain ⟨N_, on_, nn_, rr_, bb_⟩ := O8.out.frame1 (i := 1) rfl; refine (At_low a2_0 on_ HLL.out HW0.out).mono ?_; rintro e_ w9 ⟨rfl, oo_, kk_⟩; obtain ⟨o_, k_⟩ := bb_ _ _ _ kk_ oo_; refine ⟨_, rfl, ?_⟩; have O9 : Aside0 (Own N1 w9 [cells gx #[.int .i64 a2_0, .int .i64 a2_1] 41, ObjC gj C L, cells gm #[.int .i64 C, .slice Am L.length cm] 37, emp]) := ⟨o_⟩; have K9 : Aside0 (KeepS N1 wo w9) := ⟨K8.out.trans k_⟩; have HRM_9 : Aside0 (Kd.F k31 w9 N1 Am L.length L) := ⟨keepF HRM_8.out k_⟩; clear c8_0_0 f8_0_0 c8_0_1 f8_0_1 c8_2_0 f8_2_0 c8_2_1 f8_2_1 n8_0_2 n8_2_0 O8 K8 HRM_8; have c9_0_0 : w9.cell? ⟨gx, 0, none⟩ = some (.int .i64 a2_0) := (blk_cell (O9.out.blk (i := 0) rfl) 0).trans rfl; have f9_0_0 : w9.frozen? ⟨gx, 0, none⟩ = false := blk_frozen (O9.out.blk (i := 0) rfl) 0; have c9_0_1 : w9.cell? ⟨gx, 1, none⟩ = some (.int .i64 a2_1) := (blk_cell (O9.out.blk (i := 0) rfl) 1).trans rfl; have f9_0_1 : w9.frozen? ⟨gx, 1, none⟩ = false := blk_frozen (O9.out.blk (i := 0) rfl) 1; have c9_2_0 : w9.cell? ⟨gm, 0, none⟩ = some (.int .i64 C) := (blk_cell (O9.out.blk (i := 2) rfl) 0).trans rfl; have f9_2_0 : w9.frozen? ⟨gm, 0, none⟩ = false := blk_frozen (O9.out.blk (i := 2) rfl) 0; have c9_2_1 : w9.cell? ⟨gm, 1, none⟩ = some (.slice Am L.length cm) := (blk_cell (O9.out.blk (i := 2) rfl) 1).trans rfl; have f9_2_1 : w9.frozen? ⟨gm, 1, none⟩ = false := blk_frozen (O9.out.blk (i := 2) rfl) 1; have n9_0_2 : gx ≠ gm := O9.out.ne (i := 0) (j := 2) rfl rfl (by decide); have n9_2_0 : gm ≠ gx := O9.out.ne (i := 2) (j := 0) rfl rfl (by decide); clear o_ k_ oo_ kk_ on_ nn_ rr_ bb_) | ((with_reducible refine gate_dst (N := 11) rfl ?_); refine own_box rfl (D := 11) rfl (cs := #[.int .i64 0, .int .i64 0, .slice none 0 0]) (t := 31) ?hr O9.out ?_; (case hr => first | (go_simp; done) | (go_simp; rfl)); intro gr w10 o_ k_; have O10 : Aside0 (Own N1 w10 [cells gx #[.int .i64 a2_0, .int .i64 a2_1] 41, ObjC gj C L, cells gm #[.int .i64 C, .slice Am L.length cm] 37, emp, cells gr #[.int .i64 0, .int .i64 0, .slice none 0 0] 31]) := ⟨o_⟩; have K10 : Aside0 (KeepS N1 wo w10) := ⟨K9.out.trans k_⟩; have HRM_10 : Aside0 (Kd.F k31 w10 N1 Am L.length L) := ⟨keepF HRM_9.out k_⟩; clear c9_0_0 f9_0_0 c9_0_1 f9_0_1 c9_2_0 f9_2_0 c9_2_1 f9_2_1 n9_0_2 n9_2_0 O9 K9 HRM_9; have c10_0_0 : w10.cell? ⟨gx, 0, none⟩ = some (.int .i64 a2_0) := (blk_cell (O10.out.blk (i := 0) rfl) 0).trans rfl; have f10_0_0 : w10.frozen? ⟨gx, 0, none⟩ = false := blk_frozen (O10.out.blk (i := 0) rfl) 0; have c10_0_1 : w10.cell? ⟨gx, 1, none⟩ = some (.int .i64 a2_1) := (blk_cell (O10.out.blk (i := 0) rfl) 1).trans rfl; have f10_0_1 : w10.frozen? ⟨gx, 1, none⟩ = false := blk_frozen (O10.out.blk (i := 0) rfl) 1; have c10_2_0 : w10.cell? ⟨gm, 0, none⟩ = some (.int .i64 C) := (blk_cell (O10.out.blk (i := 2) rfl) 0).trans rfl; have f10_2_0 : w10.frozen? ⟨gm, 0, none⟩ = false := blk_frozen (O10.out.blk (i := 2) rfl) 0; have c10_2_1 : w10.cell? ⟨gm, 1, none⟩ = some (.slice Am L.length cm) := (blk_cell (O10.out.blk (i := 2) rfl) 1).trans rfl; have f10_2_1 : w10.frozen? ⟨gm, 1, none⟩ = false := blk_frozen (O10.out.blk (i := 2) rfl) 1; have c10_4_0 : w10.cell? ⟨gr, 0, none⟩ = some (.int .i64 0) := (blk_cell (O10.out.blk (i := 4) rfl) 0).trans rfl; have f10_4_0 : w10.frozen? ⟨gr, 0, none⟩ = false := blk_frozen (O10.out.blk (i := 4) rfl) 0; have c10_4_1 : w10.cell? ⟨gr, 1, none⟩ = some (.int .i64 0) := (blk_cell (O10.out.blk (i := 4) rfl) 1).trans rfl; have f10_4_1 : w10.frozen? ⟨gr, 1, none⟩ = false := blk_frozen (O10.out.blk (i := 4) rfl) 1; have c10_4_2 : w10.cell? ⟨gr, 2, none⟩ = some (.slice none 0 0) := (blk_cell (O10.out.blk (i := 4) rfl) 2).trans rfl; have f10_4_2 : w10.frozen? ⟨gr, 2, none⟩ = false := blk_frozen (O10.out.blk (i := 4) rfl) 2; have n10_0_2 : gx ≠ gm := O10.out.ne (i := 0) (j := 2) rfl rfl (by decide); have n10_0_4 : gx ≠ gr := O10.out.ne (i := 0) (j := 4) rfl rfl (by decide); have n10_2_0 : gm ≠ gx := O10.out.ne (i := 2) (j := 0) rfl rfl (by decide); have n10_2_4 : gm ≠ gr := O10.out.ne (i := 2) (j := 4) rfl rfl (by decide); have n10_4_0 : gr ≠ gx := O10.out.ne (i := 4) (j := 0) rfl rfl (by decide); have n10_4_2 : gr ≠ gm := O10.out.ne (i := 4) (j := 2) rfl rfl (by decide); clear o_ k_) | ((with_reducible refine gate_store (t := 31) (p := 11) rfl ?_); refine own_store rfl rfl rfl (w1 := (World.setCell (World.setCell (World.setCell w10 ⟨gr, 0, none⟩ (.int .i64 0)) ⟨gr, 1, none⟩ (.int .i64 0)) ⟨gr, 2, none⟩ (.slice none 0 0))) (N := N1) (l' := [cells gx #[.int .i64 a2_0, .int .i64 a2_1] 41, ObjC gj C L, cells gm #[.int .i64 C, .slice Am L.length cm] 37, emp, cells gr #[.int .i64 0, .int .i64 0, .slice none 0 0] 31]) ?hr ?ho ?hk ?_; (case hr => first | (go_simp; done) | (go_simp; rfl)); (case ho => exact (((O10.out.set (i := 4) rfl 0 (.int .i64 0)).set (i := 4) rfl 1 (.int .i64 0)).set (i := 4) rfl 2 (.slice none 0 0))); (case hk => exact (((KeepS.setCell (O10.out.far (i := 4) rfl) (.int .i64 0)).trans (KeepS.setCell (O10.out.far (i := 4) rfl) (.int .i64 0))).trans (KeepS.setCell (O10.out.far (i := 4) rfl) (.slice none 0 0)))); intro w11 o_ k_; have O11 : Aside0 (Own N1 w11 [cells gx #[.int .i64 a2_0, .int .i64 a2_1] 41, ObjC gj C L, cells gm #[.int .i64 C, .slice Am L.length cm] 37, emp, cells gr #[.int .i64 0, .int .i64 0, .slice none 0 0] 31]) := ⟨o_⟩; have K11 : Aside0 (KeepS N1 wo w11) := ⟨K10.out.trans k_⟩; have HRM_11 : Aside0 (Kd.F k31 w11 N1 Am L.length L) := ⟨keepF HRM_10.out k_⟩; clear c10_0_0 f10_0_0 c10_0_1 f10_0_1 c10_2_0 f10_2_0 c10_2_1 f10_2_1 c10_4_0 f10_4_0 c10_4_1 f10_4_1 c10_4_2 f10_4_2 n10_0_2 n10_0_4 n10_2_0 n10_2_4 n10_4_0 n10_4_2 O10 K10 HRM_10; have c11_0_0 : w11.cell? ⟨gx, 0, none⟩ = some (.int .i64 a2_0) := (blk_cell (O11.out.blk (i := 0) rfl) 0).trans rfl; have f11_0_0 : w11.frozen? ⟨gx, 0, none⟩ = false := blk_frozen (O11.out.blk (i := 0) rfl) 0; have c11_0_1 : w11.cell? ⟨gx, 1, none⟩ = some (.int .i64 a2_1) := (blk_cell (O11.out.blk (i := 0) rfl) 1).trans rfl; have f11_0_1 : w11.frozen? ⟨gx, 1, none⟩ = false := blk_frozen (O11.out.blk (i := 0) rfl) 1; have c11_2_0 : w11.cell? ⟨gm, 0, none⟩ = some (.int .i64 C) := (blk_cell (O11.out.blk (i := 2) rfl) 0).trans rfl; have f11_2_0 : w11.frozen? ⟨gm, 0, none⟩ = false := blk_frozen (O11.out.blk (i := 2) rfl) 0; have c11_2_1 : w11.cell? ⟨gm, 1, none⟩ = some (.slice Am L.length cm) := (blk_cell (O11.out.blk (i := 2) rfl) 1).trans rfl; have f11_2_1 : w11.frozen? ⟨gm, 1, none⟩ = false := blk_frozen (O11.out.blk (i := 2) rfl) 1; have c11_4_0 : w11.cell? ⟨gr, 0, none⟩ = some (.int .i64 0) := (blk_cell (O11.out.blk (i := 4) rfl) 0).trans rfl; have f11_4_0 : w11.frozen? ⟨gr, 0, none⟩ = false := blk_frozen (O11.out.blk (i := 4) rfl) 0; have c11_4_1 : w11.cell? ⟨gr, 1, none⟩ = some (.int .i64 0) := (blk_cell (O11.out.blk (i := 4) rfl) 1).trans rfl; have f11_4_1 : w11.frozen? ⟨gr, 1, none⟩ = false := blk_frozen (O11.out.blk (i := 4) rfl) 1; have c11_4_2 : w11.cell? ⟨gr, 2, none⟩ = some (.slice none 0 0) := (blk_cell (O11.out.blk (i := 4) rfl) 2).trans rfl; have f11_4_2 : w11.frozen? ⟨gr, 2, none⟩ = false := blk_frozen (O11.out.blk (i := 4) rfl) 2; have n11_0_2 : gx ≠ gm := O11.out.ne (i := 0) (j := 2) rfl rfl (by decide); have n11_0_4 : gx ≠ gr := O11.out.ne (i := 0) (j := 4) rfl rfl (by decide); have n11_2_0 : gm ≠ gx := O11.out.ne (i := 2) (j := 0) rfl rfl (by decide); have n11_2_4 : gm ≠ gr := O11.out.ne (i := 2) (j := 4) rfl rfl (by decide); have n11_4_0 : gr ≠ gx := O11.out.ne (i := 4) (j := 0) rfl rfl (by decide); have n11_4_2 : gr ≠ gm := O11.out.ne (i := 4) (j := 2) rfl rfl (by decide); clear o_ k_))
     refine start_ (n := 14) (S := fun w' => w'.cell? ⟨gx, 0, none⟩ = some (.int .i64 a2_0) ∧ w'.cell? ⟨gx, 1, none⟩ = some (.int .i64 a2_1) ∧ w'.cell? ⟨gm, 0, none⟩ = some (.int .i64 C) ∧ w'.cell? ⟨gm, 1, none⟩ = some (.slice Am L.length cm)) (ds := []) #[false, false, false, false, false, false, false, false, false, false, false, false, false, false] (by kernel_rfl) rfl rfl ⟨((blk_cell (O11.out.blk (i := 0) rfl) 0).trans rfl), ((blk_cell (O11.out.blk (i := 0) rfl) 1).trans rfl), ((blk_cell (O11.out.blk (i := 2) rfl) 0).trans rfl), ((blk_cell (O11.out.blk (i := 2) rfl) 1).trans rfl)⟩ (fun hHeld => ?_)
     obtain ⟨w12, hw_⟩ : ∃ W, W = w11.drew := ⟨_, rfl⟩
     have o_ := O11.out.drew
     have k_ : KeepS N1 w11 w11.drew := KeepS.drew
     rw [← hw_] at o_ k_ hHeld ⊢
     clear hw_
     have O12 : Aside0 (Own N1 w12 [cells gx #[.int .i64 a2_0, .int .i64 a2_1] 41, ObjC gj C L, cells gm #[.int .i64 C, .slice Am L.length cm] 37, emp, cells gr #[.int .i64 0, .int .i64 0, .slice none 0 0] 31]) := ⟨o_⟩
     have K12 : Aside0 (KeepS N1 wo w12) := ⟨K11.out.trans k_⟩
     have HRM_12 : Aside0 (Kd.F k31 w12 N1 Am L.length L) := ⟨keepF HRM_11.out k_⟩
     clear c11_0_0 f11_0_0 c11_0_1 f11_0_1 c11_2_0 f11_2_0 c11_2_1 f11_2_1 c11_4_0 f11_4_0 c11_4_1 f11_4_1 c11_4_2 f11_4_2 n11_0_2 n11_0_4 n11_2_0 n11_2_4 n11_4_0 n11_4_2 O11 K11 HRM_11
     have c12_0_0 : w12.cell? ⟨gx, 0, none⟩ = some (.int .i64 a2_0) := (blk_cell (O12.out.blk (i := 0) rfl) 0).trans rfl
     have f12_0_0 : w12.frozen? ⟨gx, 0, none⟩ = false := blk_frozen (O12.out.blk (i := 0) rfl) 0
     have c12_0_1 : w12.cell? ⟨gx, 1, none⟩ = some (.int .i64 a2_1) := (blk_cell (O12.out.blk (i := 0) rfl) 1).trans rfl
     have f12_0_1 : w12.frozen? ⟨gx, 1, none⟩ = false := blk_frozen (O12.out.blk (i := 0) rfl) 1
     have c12_2_0 : w12.cell? ⟨gm, 0, none⟩ = some (.int .i64 C) := (blk_cell (O12.out.blk (i := 2) rfl) 0).trans rfl
     have f12_2_0 : w12.frozen? ⟨gm, 0, none⟩ = false := blk_frozen (O12.out.blk (i := 2) rfl) 0
     have c12_2_1 : w12.cell? ⟨gm, 1, none⟩ = some (.slice Am L.length cm) := (blk_cell (O12.out.blk (i := 2) rfl) 1).trans rfl
     have f12_2_1 : w12.frozen? ⟨gm, 1, none⟩ = false := blk_frozen (O12.out.blk (i := 2) rfl) 1
     have c12_4_0 : w12.cell? ⟨gr, 0, none⟩ = some (.int .i64 0) := (blk_cell (O12.out.blk (i := 4) rfl) 0).trans rfl
     have f12_4_0 : w12.frozen? ⟨gr, 0, none⟩ = false := blk_frozen (O12.out.blk (i := 4) rfl) 0
     have c12_4_1 : w12.cell? ⟨gr, 1, none⟩ = some (.int .i64 0) := (blk_cell (O12.out.blk (i := 4) rfl) 1).trans rfl
     have f12_4_1 : w12.frozen? ⟨gr, 1, none⟩ = false := blk_frozen (O12.out.blk (i := 4) rfl) 1
     have c12_4_2 : w12.cell? ⟨gr, 2, none⟩ = some (.slice none 0 0) := (blk_cell (O12.out.blk (i := 4) rfl) 2).trans rfl
     have f12_4_2 : w12.frozen? ⟨gr, 2, none⟩ = false := blk_frozen (O12.out.blk (i := 4) rfl) 2
     have n12_0_2 : gx ≠ gm := O12.out.ne (i := 0) (j := 2) rfl rfl (by decide)
     have n12_0_4 : gx ≠ gr := O12.out.ne (i := 0) (j := 4) rfl rfl (by decide)
     have n12_2_0 : gm ≠ gx := O12.out.ne (i := 2) (j := 0) rfl rfl (by decide)
     have n12_2_4 : gm ≠ gr := O12.out.ne (i := 2) (j := 4) rfl rfl (by decide)
     have n12_4_0 : gr ≠ gx := O12.out.ne (i := 4) (j := 0) rfl rfl (by decide)
     have n12_4_2 : gr ≠ gm := O12.out.ne (i := 4) (j := 2) rfl rfl (by decide)
     clear o_ k_
     refine pure_ (i := 0) (N := some 53) (v := ?_) (a' := ?_) #[true, false, false, false, false, false, false, false, false, false, false, false, false, false] rfl rfl (by kernel_rfl) (fun _ _ _ h => h) (Or.inl ⟨by rfl, ?_⟩) ?_ ?_
     rotate_left
     ·intro w'
      go_simp
      with_reducible rfl
     rotate_left
     ·simp only [Act.put, List.setIfInBounds_toArray, List.set_cons_zero, List.set_cons_succ, i64_w, i32_w]
      rfl
     refine take_ (i := 1) (N := some 54) (v := ?_) (a' := ?_) #[true, true, false, false, false, false, false, false, false, false, false, false, false, false] rfl rfl (by kernel_rfl) (fun _ _ _ h => h) (Or.inl ⟨by rfl, ?_⟩) hHeld ?_ ?_
     rotate_left
     ·rintro w' ⟨s0, s1, s2, s3⟩
      go_simp
      with_reducible rfl
     rotate_left
     ·simp only [Act.put, List.setIfInBounds_toArray, List.set_cons_zero, List.set_cons_succ, i64_w, i32_w]
      rfl
     refine pure_ (i := 2) (N := some 55) (v := ?_) (a' := ?_) #[true, true, true, false, false, false, false, false, false, false, false, false, false, false] rfl rfl (by kernel_rfl) (fun _ _ _ h => h) (Or.inl ⟨by rfl, ?_⟩) ?_ ?_
     rotate_left
     ·intro w'
      go_simp
      with_reducible rfl
     rotate_left
     ·simp only [Act.put, List.setIfInBounds_toArray, List.set_cons_zero, List.set_cons_succ, i64_w, i32_w]
      rfl
     refine pure_ (i := 3) (N := some 56) (v := ?_) (a' := ?_) #[true, true, true, true, false, false, false, false, false, false, false, false, false, false] rfl rfl (by kernel_rfl) (fun _ _ _ h => h) (Or.inl ⟨by rfl, ?_⟩) ?_ ?_
     rotate_left
     ·intro w'
      go_simp
      with_reducible rfl
     rotate_left
     ·simp only [Act.put, List.setIfInBounds_toArray, List.set_cons_zero, List.set_cons_succ, i64_w, i32_w]
      rfl
     refine pure_ (i := 4) (N := some 57) (v := undef) (a' := ?_) #[true, true, true, true, true, false, false, false, false, false, false, false, false, false] rfl rfl (by kernel_rfl) (fun _ _ _ h => h) (Or.inr ⟨by rfl, rfl⟩) ?_ ?_
     rotate_left
     ·simp only [Act.put, List.setIfInBounds_toArray, List.set_cons_zero, List.set_cons_succ, i64_w, i32_w]
      rfl
     refine pure_ (i := 6) (N := some 59) (v := undef) (a' := ?_) #[true, true, true, true, true, false, true, false, false, false, false, false, false, false] rfl rfl (by kernel_rfl) (fun _ _ _ h => h) (Or.inr ⟨by rfl, rfl⟩) ?_ ?_
     rotate_left
     ·simp only [Act.put, List.setIfInBounds_toArray, List.set_cons_zero, List.set_cons_succ, i64_w, i32_w]
      rfl
     refine pure_ (i := 7) (N := some 60) (v := undef) (a' := ?_) #[true, true, true, true, true, false, true, true, false, false, false, false, false, false] rfl rfl (by kernel_rfl) (fun _ _ _ h => h) (Or.inr ⟨by rfl, rfl⟩) ?_ ?_
     rotate_left
     ·simp only [Act.put, List.setIfInBounds_toArray, List.set_cons_zero, List.set_cons_succ, i64_w, i32_w]
      rfl
     refine pure_ (i := 8) (N := some 61) (v := undef) (a' := ?_) #[true, true, true, true, true, false, true, true, true, false, false, false, false, false] rfl rfl (by kernel_rfl) (fun _ _ _ h => h) (Or.inr ⟨by rfl, rfl⟩) ?_ ?_
     rotate_left
     ·simp only [Act.put, List.setIfInBounds_toArray, List.set_cons_zero, List.set_cons_succ, i64_w, i32_w]
      rfl
     refine take_ (i := 5) (N := some 58) (v := undef) (a' := ?_) #[true, true, true, true, true, true, true, true, true, false, false, false, false, false] rfl rfl (by kernel_rfl) (fun _ _ _ h => h) (Or.inr ⟨by rfl, rfl⟩) hHeld ?_ ?_
     rotate_left
     ·simp only [Act.put, List.setIfInBounds_toArray, List.set_cons_zero, List.set_cons_succ, i64_w, i32_w]
      rfl
     refine take_ (i := 9) (N := some 62) (v := undef) (a' := ?_) #[true, true, true, true, true, true, true, true, true, true, false, false, false, false] rfl rfl (by kernel_rfl) (fun _ _ _ h => h) (Or.inr ⟨by rfl, rfl⟩) hHeld ?_ ?_
     rotate_left
     ·simp only [Act.put, List.setIfInBounds_toArray, List.set_cons_zero, List.set_cons_succ, i64_w, i32_w]
      rfl
     refine pure_ (i := 10) (N := some 63) (v := undef) (a' := ?_) #[true, true, true, true, true, true, true, true, true, true, true, false, false, false] rfl rfl (by kernel_rfl) (fun _ _ _ h => h) (Or.inr ⟨by rfl, rfl⟩) ?_ ?_
     rotate_left
     ·simp only [Act.put, List.setIfInBounds_toArray, List.set_cons_zero, List.set_cons_succ, i64_w, i32_w]
      rfl
     refine pure_ (i := 11) (N := some 64) (v := undef) (a' := ?_) #[true, true, true, true, true, true, true, true, true, true, true, true, false, false] rfl rfl (by kernel_rfl) (fun _ _ _ h => h) (Or.inr ⟨by rfl, rfl⟩) ?_ ?_
     rotate_left
     ·simp only [Act.put, List.setIfInBounds_toArray, List.set_cons_zero, List.set_cons_succ, i64_w, i32_w]
      rfl
     refine pure_ (i := 12) (N := some 65) (v := ?_) (a' := ?_) #[true, true, true, true, true, true, true, true, true, true, true, true, true, false] rfl rfl (by kernel_rfl) (fun _ _ _ h => h) (Or.inl ⟨by rfl, ?_⟩) ?_ ?_
     rotate_left
     ·intro w'
      go_simp
      with_reducible rfl
     rotate_left
     ·simp only [Act.put, List.setIfInBounds_toArray, List.set_cons_zero, List.set_cons_succ, i64_w, i32_w]
      rfl
     refine pure_ (i := 13) (N := some 13) (v := ?_) (a' := ?_) #[true, true, true, true, true, true, true, true, true, true, true, true, true, true] rfl rfl (by kernel_rfl) (fun _ _ _ h => h) (Or.inl ⟨by rfl, ?_⟩) ?_ ?_
     rotate_left
     ·intro w'
      go_simp
      with_reducible rfl
     rotate_left
     ·simp only [Act.put, List.setIfInBounds_toArray, List.set_cons_zero, List.set_cons_succ, i64_w, i32_w]
      rfl
     refine done_ (by kernel_rfl) ?_
     clear hHeld
     go_wp2
     refine start_ (n := 40) (S := fun w' => w'.cell? ⟨gx, 0, none⟩ = some (.int .i64 a2_0) ∧ w'.cell? ⟨gx, 1, none⟩ = some (.int .i64 a2_1) ∧ w'.cell? ⟨gm, 0, none⟩ = some (.int .i64 C) ∧ w'.cell? ⟨gm, 1, none⟩ = some (.slice Am L.length cm) ∧ w'.cell? ⟨gr, 0, none⟩ = some (.int .i64 0) ∧ w'.cell? ⟨gr, 1, none⟩ = some (.int .i64 0) ∧ w'.cell? ⟨gr, 2, none⟩ = some (.slice none 0 0)) (ds := []) #[false, false, false, false, false, false, false, false, false, false, false, false, false, false, false, false, false, false, false, false, false, false, false, false, false, false, false, false, false, false, false, false, false, false, false, false, false, false, false, false] (by kernel_rfl) rfl rfl ⟨((blk_cell (O12.out.blk (i := 0) rfl) 0).trans rfl), ((blk_cell (O12.out.blk (i := 0) rfl) 1).trans rfl), ((blk_cell (O12.out.blk (i := 2) rfl) 0).trans rfl), ((blk_cell (O12.out.blk (i := 2) rfl) 1).trans rfl), ((blk_cell (O12.out.blk (i := 4) rfl) 0).trans rfl), ((blk_cell (O12.out.blk (i := 4) rfl) 1).trans rfl), ((blk_cell (O12.out.blk (i := 4) rfl) 2).trans rfl)⟩ (fun hHeld => ?_)
     obtain ⟨w13, hw_⟩ : ∃ W, W = w12.drew := ⟨_, rfl⟩
     have o_ := O12.out.drew
     have k_ : KeepS N1 w12 w12.drew := KeepS.drew
     rw [← hw_] at o_ k_ hHeld ⊢
     clear hw_
     have O13 : Aside0 (Own N1 w13 [cells gx #[.int .i64 a2_0, .int .i64 a2_1] 41, ObjC gj C L, cells gm #[.int .i64 C, .slice Am L.length cm] 37, emp, cells gr #[.int .i64 0, .int .i64 0, .slice none 0 0] 31]) := ⟨o_⟩
     have K13 : Aside0 (KeepS N1 wo w13) := ⟨K12.out.trans k_⟩
     have HRM_13 : Aside0 (Kd.F k31 w13 N1 Am L.length L) := ⟨keepF HRM_12.out k_⟩
     clear c12_0_0 f12_0_0 c12_0_1 f12_0_1 c12_2_0 f12_2_0 c12_2_1 f12_2_1 c12_4_0 f12_4_0 c12_4_1 f12_4_1 c12_4_2 f12_4_2 n12_0_2 n12_0_4 n12_2_0 n12_2_4 n12_4_0 n12_4_2 O12 K12 HRM_12
     have c13_0_0 : w13.cell? ⟨gx, 0, none⟩ = some (.int .i64 a2_0) := (blk_cell (O13.out.blk (i := 0) rfl) 0).trans rfl
     have f13_0_0 : w13.frozen? ⟨gx, 0, none⟩ = false := blk_frozen (O13.out.blk (i := 0) rfl) 0
     have c13_0_1 : w13.cell? ⟨gx, 1, none⟩ = some (.int .i64 a2_1) := (blk_cell (O13.out.blk (i := 0) rfl) 1).trans rfl
     have f13_0_1 : w13.frozen? ⟨gx, 1, none⟩ = false := blk_frozen (O13.out.blk (i := 0) rfl) 1
     have c13_2_0 : w13.cell? ⟨gm, 0, none⟩ = some (.int .i64 C) := (blk_cell (O13.out.blk (i := 2) rfl) 0).trans rfl
     have f13_2_0 : w13.frozen? ⟨gm, 0, none⟩ = false := blk_frozen (O13.out.blk (i := 2) rfl) 0
     have c13_2_1 : w13.cell? ⟨gm, 1, none⟩ = some (.slice Am L.length cm) := (blk_cell (O13.out.blk (i := 2) rfl) 1).trans rfl
     have f13_2_1 : w13.frozen? ⟨gm, 1, none⟩ = false := blk_frozen (O13.out.blk (i := 2) rfl) 1
     have c13_4_0 : w13.cell? ⟨gr, 0, none⟩ = some (.int .i64 0) := (blk_cell (O13.out.blk (i := 4) rfl) 0).trans rfl
     have f13_4_0 : w13.frozen? ⟨gr, 0, none⟩ = false := blk_frozen (O13.out.blk (i := 4) rfl) 0
     have c13_4_1 : w13.cell? ⟨gr, 1, none⟩ = some (.int .i64 0) := (blk_cell (O13.out.blk (i := 4) rfl) 1).trans rfl
     have f13_4_1 : w13.frozen? ⟨gr, 1, none⟩ = false := blk_frozen (O13.out.blk (i := 4) rfl) 1
     have c13_4_2 : w13.cell? ⟨gr, 2, none⟩ = some (.slice none 0 0) := (blk_cell (O13.out.blk (i := 4) rfl) 2).trans rfl
     have f13_4_2 : w13.frozen? ⟨gr, 2, none⟩ = false := blk_frozen (O13.out.blk (i := 4) rfl) 2
     have n13_0_2 : gx ≠ gm := O13.out.ne (i := 0) (j := 2) rfl rfl (by decide)
     have n13_0_4 : gx ≠ gr := O13.out.ne (i := 0) (j := 4) rfl rfl (by decide)
     have n13_2_0 : gm ≠ gx := O13.out.ne (i := 2) (j := 0) rfl rfl (by decide)
     have n13_2_4 : gm ≠ gr := O13.out.ne (i := 2) (j := 4) rfl rfl (by decide)
     have n13_4_0 : gr ≠ gx := O13.out.ne (i := 4) (j := 0) rfl rfl (by decide)
     have n13_4_2 : gr ≠ gm := O13.out.ne (i := 4) (j := 2) rfl rfl (by decide)
     clear o_ k_
     refine pure_ (i := 0) (N := some 66) (v := ?_) (a' := ?_) #[true, false, false, false, false, false, false, false, false, false, false, false, false, false, false, false, false, false, false, false, false, false, false, false, false, false, false, false, false, false, false, false, false, false, false, false, false, false, false, false] rfl rfl (by kernel_rfl) (fun _ _ _ h => h) (Or.inl ⟨by rfl, ?_⟩) ?_ ?_
     rotate_left
     ·intro w'
      go_simp
      with_reducible rfl
     rotate_left
     ·simp only [Act.put, List.setIfInBounds_toArray, List.set_cons_zero, List.set_cons_succ, i64_w, i32_w]
      rfl
     refine pure_ (i := 1) (N := some 67) (v := ?_) (a' := ?_) #[true, true, false, false, false, false, false, false, false, false, false, false, false, false, false, false, false, false, false, false, false, false, false, false, false, false, false, false, false, false, false, false, false, false, false, false, false, false, false, false] rfl rfl (by kernel_rfl) (fun _ _ _ h => h) (Or.inl ⟨by rfl, ?_⟩) ?_ ?_
     rotate_left
     ·intro w'
      go_simp
      with_reducible rfl
     rotate_left
     ·simp only [Act.put, List.setIfInBounds_toArray, List.set_cons_zero, List.set_cons_succ, i64_w, i32_w]
      rfl
     refine pure_ (i := 2) (N := some 68) (v := ?_) (a' := ?_) #[true, true, true, false, false, false, false, false, false, false, false, false, false, false, false, false, false, false, false, false, false, false, false, false, false, false, false, false, false, false, false, false, false, false, false, false, false, false, false, false] rfl rfl (by kernel_rfl) (fun _ _ _ h => h) (Or.inl ⟨by rfl, ?_⟩) ?_ ?_
     rotate_left
     ·intro w'
      go_simp
      with_reducible rfl
     rotate_left
     ·simp only [Act.put, List.setIfInBounds_toArray, List.set_cons_zero, List.set_cons_succ, i64_w, i32_w]
      rfl
     refine pure_ (i := 3) (N := some 69) (v := ?_) (a' := ?_) #[true, true, true, true, false, false, false, false, false, false, false, false, false, false, false, false, false, false, false, false, false, false, false, false, false, false, false, false, false, false, false, false, false, false, false, false, false, false, false, false] rfl rfl (by kernel_rfl) (fun _ _ _ h => h) (Or.inl ⟨by rfl, ?_⟩) ?_ ?_
     rotate_left
     ·intro w'
      go_simp
      with_reducible rfl
     rotate_left
     ·simp only [Act.put, List.setIfInBounds_toArray, List.set_cons_zero, List.set_cons_succ, i64_w, i32_w]
      rfl
     refine pure_ (i := 4) (N := some 70) (v := ?_) (a' := ?_) #[true, true, true, true, true, false, false, false, false, false, false, false, false, false, false, false, false, false, false, false, false, false, false, false, false, false, false, false, false, false, false, false, false, false, false, false, false, false, false, false] rfl rfl (by kernel_rfl) (fun _ _ _ h => h) (Or.inl ⟨by rfl, ?_⟩) ?_ ?_
     rotate_left
     ·intro w'
      go_simp
      with_reducible rfl
     rotate_left
     ·simp only [Act.put, List.setIfInBounds_toArray, List.set_cons_zero, List.set_cons_succ, i64_w, i32_w]
      rfl
     refine pure_ (i := 5) (N := some 71) (v := ?_) (a' := ?_) #[true, true, true, true, true, true, false, false, false, false, false, false, false, false, false, false, false, false, false, false, false, false, false, false, false, false, false, false, false, false, false, false, false, false, false, false, false, false, false, false] rfl rfl (by kernel_rfl) (fun _ _ _ h => h) (Or.inl ⟨by rfl, ?_⟩) ?_ ?_
     rotate_left
     ·intro w'
      go_simp
      with_reducible rfl
     rotate_left
     ·simp only [Act.put, List.setIfInBounds_toArray, List.set_cons_zero, List.set_cons_succ, i64_w, i32_w]
      rfl
     refine pure_ (i := 7) (N := some 73) (v := undef) (a' := ?_) #[true, true, true, true, true, true, false, true, false, false, false, false, false, false, false, false, false, false, false, false, false, false, false, false, false, false, false, false, false, false, false, false, false, false, false, false, false, false, false, false] rfl rfl (by kernel_rfl) (fun _ _ _ h => h) (Or.inr ⟨by rfl, rfl⟩) ?_ ?_
     rotate_left
     ·simp only [Act.put, List.setIfInBounds_toArray, List.set_cons_zero, List.set_cons_succ, i64_w, i32_w]
      rfl
     refine pure_ (i := 8) (N := some 74) (v := undef) (a' := ?_) #[true, true, true, true, true, true, false, true, true, false, false, false, false, false, false, false, false, false, false, false, false, false, false, false, false, false, false, false, false, false, false, false, false, false, false, false, false, false, false, false] rfl rfl (by kernel_rfl) (fun _ _ _ h => h) (Or.inr ⟨by rfl, rfl⟩) ?_ ?_
     rotate_left
     ·simp only [Act.put, List.setIfInBounds_toArray, List.set_cons_zero, List.set_cons_succ, i64_w, i32_w]
      rfl
     refine pure_ (i := 9) (N := some 75) (v := undef) (a' := ?_) #[true, true, true, true, true, true, false, true, true, true, false, false, false, false, false, false, false, false, false, false, false, false, false, false, false, false, false, false, false, false, false, false, false, false, false, false, false, false, false, false] rfl rfl (by kernel_rfl) (fun _ _ _ h => h) (Or.inr ⟨by rfl, rfl⟩) ?_ ?_
     rotate_left
     ·simp only [Act.put, List.setIfInBounds_toArray, List.set_cons_zero, List.set_cons_succ, i64_w, i32_w]
      rfl
     refine pure_ (i := 11) (N := some 77) (v := undef) (a' := ?_) #[true, true, true, true, true, true, false, true, true, true, false, true, false, false, false, false, false, false, false, false, false, false, false, false, false, false, false, false, false, false, false, false, false, false, false, false, false, false, false, false] rfl rfl (by kernel_rfl) (fun _ _ _ h => h) (Or.inr ⟨by rfl, rfl⟩) ?_ ?_
     rotate_left
     ·simp only [Act.put, List.setIfInBounds_toArray, List.set_cons_zero, List.set_cons_succ, i64_w, i32_w]
      rfl
     refine take_ (i := 6) (N := some 72) (v := undef) (a' := ?_) #[true, true, true, true, true, true, true, true, true, true, false, true, false, false, false, false, false, false, false, false, false, false, false, false, false, false, false, false, false, false, false, false, false, false, false, false, false, false, false, false] rfl rfl (by kernel_rfl) (fun _ _ _ h => h) (Or.inr ⟨by rfl, rfl⟩) hHeld ?_ ?_
     rotate_left
     ·simp only [Act.put, List.setIfInBounds_toArray, List.set_cons_zero, List.set_cons_succ, i64_w, i32_w]
      rfl
     refine take_ (i := 10) (N := some 76) (v := undef) (a' := ?_) #[true, true, true, true, true, true, true, true, true, true, true, true, false, false, false, false, false, false, false, false, false, false, false, false, false, false, false, false, false, false, false, false, false, false, false, false, false, false, false, false] rfl rfl (by kernel_rfl) (fun _ _ _ h => h) (Or.inr ⟨by rfl, rfl⟩) hHeld ?_ ?_
     rotate_left
     ·simp only [Act.put, List.setIfInBounds_toArray, List.set_cons_zero, List.set_cons_succ, i64_w, i32_w]
      rfl
     refine take_ (i := 12) (N := some 78) (v := undef) (a' := ?_) #[true, true, true, true, true, true, true, true, true, true, true, true, true, false, false, false, false, false, false, false, false, false, false, false, false, false, false, false, false, false, false, false, false, false, false, false, false, false, false, false] rfl rfl (by kernel_rfl) (fun _ _ _ h => h) (Or.inr ⟨by rfl, rfl⟩) hHeld ?_ ?_
     rotate_left
     ·simp only [Act.put, List.setIfInBounds_toArray, List.set_cons_zero, List.set_cons_succ, i64_w, i32_w]
      rfl
     refine pure_ (i := 13) (N := some 79) (v := undef) (a' := ?_) #[true, true, true, true, true, true, true, true, true, true, true, true, true, true, false, false, false, false, false, false, false, false, false, false, false, false, false, false, false, false, false, false, false, false, false, false, false, false, false, false] rfl rfl (by kernel_rfl) (fun _ _ _ h => h) (Or.inr ⟨by rfl, rfl⟩) ?_ ?_
     rotate_left
     ·simp only [Act.put, List.setIfInBounds_toArray, List.set_cons_zero, List.set_cons_succ, i64_w, i32_w]
      rfl
     refine take_ (i := 14) (N := some 80) (v := undef) (a' := ?_) #[true, true, true, true, true, true, true, true, true, true, true, true, true, true, true, false, false, false, false, false, false, false, false, false, false, false, false, false, false, false, false, false, false, false, false, false, false, false, false, false] rfl rfl (by kernel_rfl) (fun _ _ _ h => h) (Or.inr ⟨by rfl, rfl⟩) hHeld ?_ ?_
     rotate_left
     ·simp only [Act.put, List.setIfInBounds_toArray, List.set_cons_zero, List.set_cons_succ, i64_w, i32_w]
      rfl
     refine one_ (i := 15) (N := some 81) #[true, true, true, true, true, true, true, true, true, true, true, true, true, true, true, true, false, false, false, false, false, false, false, false, false, false, false, false, false, false, false, false, false, false, false, false, false, false, false, false] rfl rfl (by kernel_rfl) (by decide) (fun K_ hK_ => ?_)
     refine skipped_ (by rfl) ?_
     clear hHeld
     refine hK_.out _ _ ⟨((blk_cell (O13.out.blk (i := 0) rfl) 0).trans rfl), ((blk_cell (O13.out.blk (i := 0) rfl) 1).trans rfl), ((blk_cell (O13.out.blk (i := 2) rfl) 0).trans rfl), ((blk_cell (O13.out.blk (i := 2) rfl) 1).trans rfl), ((blk_cell (O13.out.blk (i := 4) rfl) 0).trans rfl), ((blk_cell (O13.out.blk (i := 4) rfl) 1).trans rfl), ((blk_cell (O13.out.blk (i := 4) rfl) 2).trans rfl)⟩ (fun hHeld => ?_)
     clear hK_ K_
     refine norm_ (a' := ?_) ?_ ?_
     rotate_left
     ·simp only [Act.put, List.setIfInBounds_toArray, List.set_cons_zero, List.set_cons_succ, i64_w, i32_w]
      rfl
     refine pure_ (i := 16) (N := some 82) (v := undef) (a' := ?_) #[true, true, true, true, true, true, true, true, true, true, true, true, true, true, true, true, true, false, false, false, false, false, false, false, false, false, false, false, false, false, false, false, false, false, false, false, false, false, false, false] rfl rfl (by kernel_rfl) (fun _ _ _ h => h) (Or.inr ⟨by rfl, rfl⟩) ?_ ?_
     rotate_left
     ·simp only [Act.put, List.setIfInBounds_toArray, List.set_cons_zero, List.set_cons_succ, i64_w, i32_w]
      rfl
     refine pure_ (i := 17) (N := some 83) (v := ?_) (a' := ?_) #[true, true, true, true, true, true, true, true, true, true, true, true, true, true, true, true, true, true, false, false, false, false, false, false, false, false, false, false, false, false, false, false, false, false, false, false, false, false, false, false] rfl rfl (by kernel_rfl) (fun _ _ _ h => h) (Or.inl ⟨by rfl, ?_⟩) ?_ ?_
     rotate_left
     ·intro w'
      go_simp
      with_reducible rfl
     rotate_left
     ·simp only [Act.put, List.setIfInBounds_toArray, List.set_cons_zero, List.set_cons_succ, i64_w, i32_w]
      rfl
     refine pure_ (i := 18) (N := some 84) (v := ?_) (a' := ?_) #[true, true, true, true, true, true, true, true, true, true, true, true, true, true, true, true, true, true, true, false, false, false, false, false, false, false, false, false, false, false, false, false, false, false, false, false, false, false, false, false] rfl rfl (by kernel_rfl) (fun _ _ _ h => h) (Or.inl ⟨by rfl, ?_⟩) ?_ ?_
     rotate_left
     ·intro w'
      go_simp
      with_reducible rfl
     rotate_left
     ·simp only [Act.put, List.setIfInBounds_toArray, List.set_cons_zero, List.set_cons_succ, i64_w, i32_w]
      rfl
     refine pure_ (i := 19) (N := some 85) (v := ?_) (a' := ?_) #[true, true, true, true, true, true, true, true, true, true, true, true, true, true, true, true, true, true, true, true, false, false, false, false, false, false, false, false, false, false, false, false, false, false, false, false, false, false, false, false] rfl rfl (by kernel_rfl) (fun _ _ _ h => h) (Or.inl ⟨by rfl, ?_⟩) ?_ ?_
     rotate_left
     ·intro w'
      go_simp
      with_reducible rfl
     rotate_left
     ·simp only [Act.put, List.setIfInBounds_toArray, List.set_cons_zero, List.set_cons_succ, i64_w, i32_w]
      rfl
     refine pure_ (i := 20) (N := some 86) (v := ?_) (a' := ?_) #[true, true, true, true, true, true, true, true, true, true, true, true, true, true, true, true, true, true, true, true, true, false, false, false, false, false, false, false, false, false, false, false, false, false, false, false, false, false, false, false] rfl rfl (by kernel_rfl) (fun _ _ _ h => h) (Or.inl ⟨by rfl, ?_⟩) ?_ ?_
     rotate_left
     ·intro w'
      go_simp
      with_reducible rfl
     rotate_left
     ·simp only [Act.put, List.setIfInBounds_toArray, List.set_cons_zero, List.set_cons_succ, i64_w, i32_w]
      rfl
     refine pure_ (i := 21) (N := some 87) (v := ?_) (a' := ?_) #[true, true, true, true, true, true, true, true, true, true, true, true, true, true, true, true, true, true, true, true, true, true, false, false, false, false, false, false, false, false, false, false, false, false, false, false, false, false, false, false] rfl rfl (by kernel_rfl) (fun _ _ _ h => h) (Or.inl ⟨by rfl, ?_⟩) ?_ ?_
     rotate_left
     ·intro w'
      go_simp
      with_reducible rfl
     rotate_left
     ·simp only [Act.put, List.setIfInBounds_toArray, List.set_cons_zero, List.set_cons_succ, i64_w, i32_w]
      rfl
     refine pure_ (i := 22) (N := some 88) (v := ?_) (a' := ?_) #[true, true, true, true, true, true, true, true, true, true, true, true, true, true, true, true, true, true, true, true, true, true, true, false, false, false, false, false, false, false, false, false, false, false, false, false, false, false, false, false] rfl rfl (by kernel_rfl) (fun _ _ _ h => h) (Or.inl ⟨by rfl, ?_⟩) ?_ ?_
     rotate_left
     ·intro w'
      go_simp
      with_reducible rfl
     rotate_left
     ·simp only [Act.put, List.setIfInBounds_toArray, List.set_cons_zero, List.set_cons_succ, i64_w, i32_w]
      rfl
     refine pure_ (i := 24) (N := some 90) (v := ?_) (a' := ?_) #[true, true, true, true, true, true, true, true, true, true, true, true, true, true, true, true, true, true, true, true, true, true, true, false, true, false, false, false, false, false, false, false, false, false, false, false, false, false, false, false] rfl rfl (by kernel_rfl) (fun _ _ _ h => h) (Or.inl ⟨by rfl, ?_⟩) ?_ ?_
     rotate_left
     ·intro w'
      go_simp
      with_reducible rfl
     rotate_left
     ·simp only [Act.put, List.setIfInBounds_toArray, List.set_cons_zero, List.set_cons_succ, i64_w, i32_w]
      rfl
     refine take_ (i := 23) (N := some 89) (v := ?_) (a' := ?_) #[true, true, true, true, true, true, true, true, true, true, true, true, true, true, true, true, true, true, true, true, true, true, true, true, true, false, false, false, false, false, false, false, false, false, false, false, false, false, false, false] rfl rfl (by kernel_rfl) (fun _ _ _ h => h) (Or.inl ⟨by rfl, ?_⟩) hHeld ?_ ?_
     rotate_left
     ·rintro w' ⟨s0, s1, s2, s3, s4, s5, s6⟩
      go_simp
      with_reducible rfl
     rotate_left
     ·simp only [Act.put, List.setIfInBounds_toArray, List.set_cons_zero, List.set_cons_succ, i64_w, i32_w]
      rfl
     refine one_ (i := 25) (N := some 91) #[true, true, true, true, true, true, true, true, true, true, true, true, true, true, true, true, true, true, true, true, true, true, true, true, true, true, false, false, false, false, false, false, false, false, false, false, false, false, false, false] rfl rfl (by kernel_rfl) (by decide) (fun K_ hK_ => ?_)
     refine goes_ Try.func19 (by kernel_rfl) rfl #[.agg #[.int .i64 0, .int .i64 0, .slice none 0 0], .agg #[.int .i64 0, .int .i64 0, .slice none 0 0]] (by rfl) rfl rfl (by (try simp only [List.map_toArray, List.map_cons, List.map_nil]); first | done | rfl) ?_
     refine (chapbookref07_Same.calls 30 0 0 none 0 [] 0 0 none 0 [] true _ (Kd.F_now (Kd.F_nil _ _ (fun _ => True))) (Nat.le_refl _) (Kd.F_now (Kd.F_nil _ _ (fun _ => True))) (Nat.le_refl _) (psame 30 _ _ _ (by decide) (by decide))).mono ?_
     rintro e_ w14 ⟨rfl, hb_⟩
     refine ⟨_, rfl, ?_⟩
     have o_ := O13.out.below hb_
     have k_ := KeepS.of_below (N := N1) hb_
     have O14 : Aside0 (Own N1 w14 [cells gx #[.int .i64 a2_0, .int .i64 a2_1] 41, ObjC gj C L, cells gm #[.int .i64 C, .slice Am L.length cm] 37, emp, cells gr #[.int .i64 0, .int .i64 0, .slice none 0 0] 31]) := ⟨o_⟩
     have K14 : Aside0 (KeepS N1 wo w14) := ⟨K13.out.trans k_⟩
     have HRM_14 : Aside0 (Kd.F k31 w14 N1 Am L.length L) := ⟨keepF HRM_13.out k_⟩
     clear c13_0_0 f13_0_0 c13_0_1 f13_0_1 c13_2_0 f13_2_0 c13_2_1 f13_2_1 c13_4_0 f13_4_0 c13_4_1 f13_4_1 c13_4_2 f13_4_2 n13_0_2 n13_0_4 n13_2_0 n13_2_4 n13_4_0 n13_4_2 O13 K13 HRM_13
     have c14_0_0 : w14.cell? ⟨gx, 0, none⟩ = some (.int .i64 a2_0) := (blk_cell (O14.out.blk (i := 0) rfl) 0).trans rfl
     have f14_0_0 : w14.frozen? ⟨gx, 0, none⟩ = false := blk_frozen (O14.out.blk (i := 0) rfl) 0
     have c14_0_1 : w14.cell? ⟨gx, 1, none⟩ = some (.int .i64 a2_1) := (blk_cell (O14.out.blk (i := 0) rfl) 1).trans rfl
     have f14_0_1 : w14.frozen? ⟨gx, 1, none⟩ = false := blk_frozen (O14.out.blk (i := 0) rfl) 1
     have c14_2_0 : w14.cell? ⟨gm, 0, none⟩ = some (.int .i64 C) := (blk_cell (O14.out.blk (i := 2) rfl) 0).trans rfl
     have f14_2_0 : w14.frozen? ⟨gm, 0, none⟩ = false := blk_frozen (O14.out.blk (i := 2) rfl) 0
     have c14_2_1 : w14.cell? ⟨gm, 1, none⟩ = some (.slice Am L.length cm) := (blk_cell (O14.out.blk (i := 2) rfl) 1).trans rfl
     have f14_2_1 : w14.frozen? ⟨gm, 1, none⟩ = false := blk_frozen (O14.out.blk (i := 2) rfl) 1
     have c14_4_0 : w14.cell? ⟨gr, 0, none⟩ = some (.int .i64 0) := (blk_cell (O14.out.blk (i := 4) rfl) 0).trans rfl
     have f14_4_0 : w14.frozen? ⟨gr, 0, none⟩ = false := blk_frozen (O14.out.blk (i := 4) rfl) 0
     have c14_4_1 : w14.cell? ⟨gr, 1, none⟩ = some (.int .i64 0) := (blk_cell (O14.out.blk (i := 4) rfl) 1).trans rfl
     have f14_4_1 : w14.frozen? ⟨gr, 1, none⟩ = false := blk_frozen (O14.out.blk (i := 4) rfl) 1
     have c14_4_2 : w14.cell? ⟨gr, 2, none⟩ = some (.slice none 0 0) := (blk_cell (O14.out.blk (i := 4) rfl) 2).trans rfl
     have f14_4_2 : w14.frozen? ⟨gr, 2, none⟩ = false := blk_frozen (O14.out.blk (i := 4) rfl) 2
     have n14_0_2 : gx ≠ gm := O14.out.ne (i := 0) (j := 2) rfl rfl (by decide)
     have n14_0_4 : gx ≠ gr := O14.out.ne (i := 0) (j := 4) rfl rfl (by decide)
     have n14_2_0 : gm ≠ gx := O14.out.ne (i := 2) (j := 0) rfl rfl (by decide)
     have n14_2_4 : gm ≠ gr := O14.out.ne (i := 2) (j := 4) rfl rfl (by decide)
     have n14_4_0 : gr ≠ gx := O14.out.ne (i := 4) (j := 0) rfl rfl (by decide)
     have n14_4_2 : gr ≠ gm := O14.out.ne (i := 4) (j := 2) rfl rfl (by decide)
     clear o_ k_ hb_
     clear hHeld
     refine hK_.out _ _ ⟨((blk_cell (O14.out.blk (i := 0) rfl) 0).trans rfl), ((blk_cell (O14.out.blk (i := 0) rfl) 1).trans rfl), ((blk_cell (O14.out.blk (i := 2) rfl) 0).trans rfl), ((blk_cell (O14.out.blk (i := 2) rfl) 1).trans rfl), ((blk_cell (O14.out.blk (i := 4) rfl) 0).trans rfl), ((blk_cell (O14.out.blk (i := 4) rfl) 1).trans rfl), ((blk_cell (O14.out.blk (i := 4) rfl) 2).trans rfl)⟩ (fun hHeld => ?_)
     clear hK_ K_
     refine norm_ (a' := ?_) ?_ ?_
     rotate_left
     ·simp only [Act.put, List.setIfInBounds_toArray, List.set_cons_zero, List.set_cons_succ, i64_w, i32_w]
      rfl
     refine pure_ (i := 26) (N := some 92) (v := ?_) (a' := ?_) #[true, true, true, true, true, true, true, true, true, true, true, true, true, true, true, true, true, true, true, true, true, true, true, true, true, true, true, false, false, false, false, false, false, false, false, false, false, false, false, false] rfl rfl (by kernel_rfl) (fun _ _ _ h => h) (Or.inl ⟨by rfl, ?_⟩) ?_ ?_
     rotate_left
     ·intro w'
      go_simp
      with_reducible rfl
     rotate_left
     ·simp only [Act.put, List.setIfInBounds_toArray, List.set_cons_zero, List.set_cons_succ, i64_w, i32_w]
      rfl
     refine pure_ (i := 27) (N := some 93) (v := ?_) (a' := ?_) #[true, true, true, true, true, true, true, true, true, true, true, true, true, true, true, true, true, true, true, true, true, true, true, true, true, true, true, true, false, false, false, false, false, false, false, false, false, false, false, false] rfl rfl (by kernel_rfl) (fun _ _ _ h => h) (Or.inl ⟨by rfl, ?_⟩) ?_ ?_
     rotate_left
     ·intro w'
      go_simp
      with_reducible rfl
     rotate_left
     ·simp only [Act.put, List.setIfInBounds_toArray, List.set_cons_zero, List.set_cons_succ, i64_w, i32_w]
      rfl
     refine pure_ (i := 28) (N := some 94) (v := ?_) (a' := ?_) #[true, true, true, true, true, true, true, true, true, true, true, true, true, true, true, true, true, true, true, true, true, true, true, true, true, true, true, true, true, false, false, false, false, false, false, false, false, false, false, false] rfl rfl (by kernel_rfl) (fun _ _ _ h => h) (Or.inl ⟨by rfl, ?_⟩) ?_ ?_
     rotate_left
     ·intro w'
      go_simp
      with_reducible rfl
     rotate_left
     ·simp only [Act.put, List.setIfInBounds_toArray, List.set_cons_zero, List.set_cons_succ, i64_w, i32_w]
      rfl
     refine pure_ (i := 29) (N := some 95) (v := ?_) (a' := ?_) #[true, true, true, true, true, true, true, true, true, true, true, true, true, true, true, true, true, true, true, true, true, true, true, true, true, true, true, true, true, true, false, false, false, false, false, false, false, false, false, false] rfl rfl (by kernel_rfl) (fun _ _ _ h => h) (Or.inl ⟨by rfl, ?_⟩) ?_ ?_
     rotate_left
     ·intro w'
      go_simp
      with_reducible rfl
     rotate_left
     ·simp only [Act.put, List.setIfInBounds_toArray, List.set_cons_zero, List.set_cons_succ, i64_w, i32_w]
      rfl
     refine pure_ (i := 30) (N := some 96) (v := ?_) (a' := ?_) #[true, true, true, true, true, true, true, true, true, true, true, true, true, true, true, true, true, true, true, true, true, true, true, true, true, true, true, true, true, true, true, false, false, false, false, false, false, false, false, false] rfl rfl (by kernel_rfl) (fun _ _ _ h => h) (Or.inl ⟨by rfl, ?_⟩) ?_ ?_
     rotate_left
     ·intro w'
      go_simp
      with_reducible rfl
     rotate_left
     ·simp only [Act.put, List.setIfInBounds_toArray, List.set_cons_zero, List.set_cons_succ, i64_w, i32_w]
      rfl
     refine pure_ (i := 31) (N := some 97) (v := ?_) (a' := ?_) #[true, true, true, true, true, true, true, true, true, true, true, true, true, true, true, true, true, true, true, true, true, true, true, true, true, true, true, true, true, true, true, true, false, false, false, false, false, false, false, false] rfl rfl (by kernel_rfl) (fun _ _ _ h => h) (Or.inl ⟨by rfl, ?_⟩) ?_ ?_
     rotate_left
     ·intro w'
      go_simp
      with_reducible rfl
     rotate_left
     ·simp only [Act.put, List.setIfInBounds_toArray, List.set_cons_zero, List.set_cons_succ, i64_w, i32_w]
      rfl
     refine pure_ (i := 34) (N := some 100) (v := ?_) (a' := ?_) #[true, true, true, true, true, true, true, true, true, true, true, true, true, true, true, true, true, true, true, true, true, true, true, true, true, true, true, true, true, true, true, true, false, false, true, false, false, false, false, false] rfl rfl (by kernel_rfl) (fun _ _ _ h => h) (Or.inl ⟨by rfl, ?_⟩) ?_ ?_
     rotate_left
     ·intro w'
      go_simp
      with_reducible rfl
     rotate_left
     ·simp only [Act.put, List.setIfInBounds_toArray, List.set_cons_zero, List.set_cons_succ, i64_w, i32_w]
      rfl
     refine pure_ (i := 35) (N := some 101) (v := ?_) (a' := ?_) #[true, true, true, true, true, true, true, true, true, true, true, true, true, true, true, true, true, true, true, true, true, true, true, true, true, true, true, true, true, true, true, true, false, false, true, true, false, false, false, false] rfl rfl (by kernel_rfl) (fun _ _ _ h => h) (Or.inl ⟨by rfl, ?_⟩) ?_ ?_
     rotate_left
     ·intro w'
      go_simp
      with_reducible rfl
     rotate_left
     ·simp only [Act.put, List.setIfInBounds_toArray, List.set_cons_zero, List.set_cons_succ, i64_w, i32_w]
      rfl
     refine take_ (i := 32) (N := some 98) (v := ?_) (a' := ?_) #[true, true, true, true, true, true, true, true, true, true, true, true, true, true, true, true, true, true, true, true, true, true, true, true, true, true, true, true, true, true, true, true, true, false, true, true, false, false, false, false] rfl rfl (by kernel_rfl) (fun _ _ _ h => h) (Or.inl ⟨by rfl, ?_⟩) hHeld ?_ ?_
     rotate_left
     ·rintro w' ⟨s0, s1, s2, s3, s4, s5, s6⟩
      go_simp
      with_reducible rfl
     rotate_left
     ·simp only [Act.put, List.setIfInBounds_toArray, List.set_cons_zero, List.set_cons_succ, i64_w, i32_w]
      rfl
     refine take_ (i := 36) (N := some 102) (v := ?_) (a' := ?_) #[true, true, true, true, true, true, true, true, true, true, true, true, true, true, true, true, true, true, true, true, true, true, true, true, true, true, true, true, true, true, true, true, true, false, true, true, true, false, false, false] rfl rfl (by kernel_rfl) (fun _ _ _ h => h) (Or.inl ⟨by rfl, ?_⟩) hHeld ?_ ?_
     rotate_left
     ·rintro w' ⟨s0, s1, s2, s3, s4, s5, s6⟩
      go_simp
      with_reducible rfl
     rotate_left
     ·simp only [Act.put, List.setIfInBounds_toArray, List.set_cons_zero, List.set_cons_succ, i64_w, i32_w]
      rfl
     refine one_ (i := 33) (N := some 99) #[true, true, true, true, true, true, true, true, true, true, true, true, true, true, true, true, true, true, true, true, true, true, true, true, true, true, true, true, true, true, true, true, true, true, true, true, true, false, false, false] rfl rfl (by kernel_rfl) (by decide) (fun K_ hK_ => ?_)
     refine goes_ Try.func20 (by kernel_rfl) rfl #[.pointer (some ⟨gj, 0, none⟩), .int .i64 a2_1] (by rfl) rfl rfl (by (try simp only [List.map_toArray, List.map_cons, List.map_nil]); first | done | rfl) ?_
     obtain ⟨N_, on_, nn_, rr_, bb_⟩ := O14.out.frame1 (i := 1) rfl
     refine (Last_n a2_1 on_ HCR.out HI.out.2).mono ?_
     rintro e_ w15 ⟨rfl, oo_, kk_⟩
     obtain ⟨o_, k_⟩ := bb_ _ _ _ kk_ oo_
     refine ⟨_, rfl, ?_⟩
     have O15 : Aside0 (Own N1 w15 [cells gx #[.int .i64 a2_0, .int .i64 a2_1] 41, ObjC gj C L, cells gm #[.int .i64 C, .slice Am L.length cm] 37, emp, cells gr #[.int .i64 0, .int .i64 0, .slice none 0 0] 31]) := ⟨o_⟩
     have K15 : Aside0 (KeepS N1 wo w15) := ⟨K14.out.trans k_⟩
     have HRM_15 : Aside0 (Kd.F k31 w15 N1 Am L.length L) := ⟨keepF HRM_14.out k_⟩
     clear c14_0_0 f14_0_0 c14_0_1 f14_0_1 c14_2_0 f14_2_0 c14_2_1 f14_2_1 c14_4_0 f14_4_0 c14_4_1 f14_4_1 c14_4_2 f14_4_2 n14_0_2 n14_0_4 n14_2_0 n14_2_4 n14_4_0 n14_4_2 O14 K14 HRM_14
     have c15_0_0 : w15.cell? ⟨gx, 0, none⟩ = some (.int .i64 a2_0) := (blk_cell (O15.out.blk (i := 0) rfl) 0).trans rfl
     have f15_0_0 : w15.frozen? ⟨gx, 0, none⟩ = false := blk_frozen (O15.out.blk (i := 0) rfl) 0
     have c15_0_1 : w15.cell? ⟨gx, 1, none⟩ = some (.int .i64 a2_1) := (blk_cell (O15.out.blk (i := 0) rfl) 1).trans rfl
     have f15_0_1 : w15.frozen? ⟨gx, 1, none⟩ = false := blk_frozen (O15.out.blk (i := 0) rfl) 1
     have c15_2_0 : w15.cell? ⟨gm, 0, none⟩ = some (.int .i64 C) := (blk_cell (O15.out.blk (i := 2) rfl) 0).trans rfl
     have f15_2_0 : w15.frozen? ⟨gm, 0, none⟩ = false := blk_frozen (O15.out.blk (i := 2) rfl) 0
     have c15_2_1 : w15.cell? ⟨gm, 1, none⟩ = some (.slice Am L.length cm) := (blk_cell (O15.out.blk (i := 2) rfl) 1).trans rfl
     have f15_2_1 : w15.frozen? ⟨gm, 1, none⟩ = false := blk_frozen (O15.out.blk (i := 2) rfl) 1
     have c15_4_0 : w15.cell? ⟨gr, 0, none⟩ = some (.int .i64 0) := (blk_cell (O15.out.blk (i := 4) rfl) 0).trans rfl
     have f15_4_0 : w15.frozen? ⟨gr, 0, none⟩ = false := blk_frozen (O15.out.blk (i := 4) rfl) 0
     have c15_4_1 : w15.cell? ⟨gr, 1, none⟩ = some (.int .i64 0) := (blk_cell (O15.out.blk (i := 4) rfl) 1).trans rfl
     have f15_4_1 : w15.frozen? ⟨gr, 1, none⟩ = false := blk_frozen (O15.out.blk (i := 4) rfl) 1
     have c15_4_2 : w15.cell? ⟨gr, 2, none⟩ = some (.slice none 0 0) := (blk_cell (O15.out.blk (i := 4) rfl) 2).trans rfl
     have f15_4_2 : w15.frozen? ⟨gr, 2, none⟩ = false := blk_frozen (O15.out.blk (i := 4) rfl) 2
     have n15_0_2 : gx ≠ gm := O15.out.ne (i := 0) (j := 2) rfl rfl (by decide)
     have n15_0_4 : gx ≠ gr := O15.out.ne (i := 0) (j := 4) rfl rfl (by decide)
     have n15_2_0 : gm ≠ gx := O15.out.ne (i := 2) (j := 0) rfl rfl (by decide)
     have n15_2_4 : gm ≠ gr := O15.out.ne (i := 2) (j := 4) rfl rfl (by decide)
     have n15_4_0 : gr ≠ gx := O15.out.ne (i := 4) (j := 0) rfl rfl (by decide)
     have n15_4_2 : gr ≠ gm := O15.out.ne (i := 4) (j := 2) rfl rfl (by decide)
     clear o_ k_ oo_ kk_ on_ nn_ rr_ bb_
     clear hHeld
     refine hK_.out _ _ ⟨((blk_cell (O15.out.blk (i := 0) rfl) 0).trans rfl), ((blk_cell (O15.out.blk (i := 0) rfl) 1).trans rfl), ((blk_cell (O15.out.blk (i := 2) rfl) 0).trans rfl), ((blk_cell (O15.out.blk (i := 2) rfl) 1).trans rfl), ((blk_cell (O15.out.blk (i := 4) rfl) 0).trans rfl), ((blk_cell (O15.out.blk (i := 4) rfl) 1).trans rfl), ((blk_cell (O15.out.blk (i := 4) rfl) 2).trans rfl)⟩ (fun hHeld => ?_)
     clear hK_ K_
     refine norm_ (a' := ?_) ?_ ?_
     rotate_left
     ·simp only [Act.put, List.setIfInBounds_toArray, List.set_cons_zero, List.set_cons_succ, i64_w, i32_w]
      rfl
     refine one_ (i := 37) (N := some 103) #[true, true, true, true, true, true, true, true, true, true, true, true, true, true, true, true, true, true, true, true, true, true, true, true, true, true, true, true, true, true, true, true, true, true, true, true, true, true, false, false] rfl rfl (by kernel_rfl) (by decide) (fun K_ hK_ => ?_)
     refine goes_ Try.func21 (by kernel_rfl) rfl #[.pointer (some ⟨gm, 0, none⟩), .int .i64 a2_1] (by rfl) rfl rfl (by (try simp only [List.map_toArray, List.map_cons, List.map_nil]); first | done | rfl) ?_
     obtain ⟨N_, on_, nn_, rr_, bb_⟩ := O15.out.frame1 (i := 2) rfl
     refine (RLastF a2_1 on_ (Kd.F_mono HRM_15.out nn_) HLL.out).mono ?_
     rintro e_ w16 ⟨rfl, oo_, kk_⟩
     obtain ⟨o_, k_⟩ := bb_ _ _ _ kk_ oo_
     refine ⟨_, rfl, ?_⟩
     have O16 : Aside0 (Own N1 w16 [cells gx #[.int .i64 a2_0, .int .i64 a2_1] 41, ObjC gj C L, cells gm #[.int .i64 C, .slice Am L.length cm] 37, emp, cells gr #[.int .i64 0, .int .i64 0, .slice none 0 0] 31]) := ⟨o_⟩
     have K16 : Aside0 (KeepS N1 wo w16) := ⟨K15.out.trans k_⟩
     have HRM_16 : Aside0 (Kd.F k31 w16 N1 Am L.length L) := ⟨keepF HRM_15.out k_⟩
     clear c15_0_0 f15_0_0 c15_0_1 f15_0_1 c15_2_0 f15_2_0 c15_2_1 f15_2_1 c15_4_0 f15_4_0 c15_4_1 f15_4_1 c15_4_2 f15_4_2 n15_0_2 n15_0_4 n15_2_0 n15_2_4 n15_4_0 n15_4_2 O15 K15 HRM_15
     have c16_0_0 : w16.cell? ⟨gx, 0, none⟩ = some (.int .i64 a2_0) := (blk_cell (O16.out.blk (i := 0) rfl) 0).trans rfl
     have f16_0_0 : w16.frozen? ⟨gx, 0, none⟩ = false := blk_frozen (O16.out.blk (i := 0) rfl) 0
     have c16_0_1 : w16.cell? ⟨gx, 1, none⟩ = some (.int .i64 a2_1) := (blk_cell (O16.out.blk (i := 0) rfl) 1).trans rfl
     have f16_0_1 : w16.frozen? ⟨gx, 1, none⟩ = false := blk_frozen (O16.out.blk (i := 0) rfl) 1
     have c16_2_0 : w16.cell? ⟨gm, 0, none⟩ = some (.int .i64 C) := (blk_cell (O16.out.blk (i := 2) rfl) 0).trans rfl
     have f16_2_0 : w16.frozen? ⟨gm, 0, none⟩ = false := blk_frozen (O16.out.blk (i := 2) rfl) 0
     have c16_2_1 : w16.cell? ⟨gm, 1, none⟩ = some (.slice Am L.length cm) := (blk_cell (O16.out.blk (i := 2) rfl) 1).trans rfl
     have f16_2_1 : w16.frozen? ⟨gm, 1, none⟩ = false := blk_frozen (O16.out.blk (i := 2) rfl) 1
     have c16_4_0 : w16.cell? ⟨gr, 0, none⟩ = some (.int .i64 0) := (blk_cell (O16.out.blk (i := 4) rfl) 0).trans rfl
     have f16_4_0 : w16.frozen? ⟨gr, 0, none⟩ = false := blk_frozen (O16.out.blk (i := 4) rfl) 0
     have c16_4_1 : w16.cell? ⟨gr, 1, none⟩ = some (.int .i64 0) := (blk_cell (O16.out.blk (i := 4) rfl) 1).trans rfl
     have f16_4_1 : w16.frozen? ⟨gr, 1, none⟩ = false := blk_frozen (O16.out.blk (i := 4) rfl) 1
     have c16_4_2 : w16.cell? ⟨gr, 2, none⟩ = some (.slice none 0 0) := (blk_cell (O16.out.blk (i := 4) rfl) 2).trans rfl
     have f16_4_2 : w16.frozen? ⟨gr, 2, none⟩ = false := blk_frozen (O16.out.blk (i := 4) rfl) 2
     have n16_0_2 : gx ≠ gm := O16.out.ne (i := 0) (j := 2) rfl rfl (by decide)
     have n16_0_4 : gx ≠ gr := O16.out.ne (i := 0) (j := 4) rfl rfl (by decide)
     have n16_2_0 : gm ≠ gx := O16.out.ne (i := 2) (j := 0) rfl rfl (by decide)
     have n16_2_4 : gm ≠ gr := O16.out.ne (i := 2) (j := 4) rfl rfl (by decide)
     have n16_4_0 : gr ≠ gx := O16.out.ne (i := 4) (j := 0) rfl rfl (by decide)
     have n16_4_2 : gr ≠ gm := O16.out.ne (i := 4) (j := 2) rfl rfl (by decide)
     clear o_ k_ oo_ kk_ on_ nn_ rr_ bb_
     clear hHeld
     refine hK_.out _ _ ⟨((blk_cell (O16.out.blk (i := 0) rfl) 0).trans rfl), ((blk_cell (O16.out.blk (i := 0) rfl) 1).trans rfl), ((blk_cell (O16.out.blk (i := 2) rfl) 0).trans rfl), ((blk_cell (O16.out.blk (i := 2) rfl) 1).trans rfl), ((blk_cell (O16.out.blk (i := 4) rfl) 0).trans rfl), ((blk_cell (O16.out.blk (i := 4) rfl) 1).trans rfl), ((blk_cell (O16.out.blk (i := 4) rfl) 2).trans rfl)⟩ (fun hHeld => ?_)
     clear hK_ K_
     refine norm_ (a' := ?_) ?_ ?_
     rotate_left
     ·simp only [Act.put, List.setIfInBounds_toArray, List.set_cons_zero, List.set_cons_succ, i64_w, i32_w]
      rfl
     refine pure_ (i := 38) (N := some 104) (v := ?_) (a' := ?_) #[true, true, true, true, true, true, true, true, true, true, true, true, true, true, true, true, true, true, true, true, true, true, true, true, true, true, true, true, true, true, true, true, true, true, true, true, true, true, true, false] rfl rfl (by kernel_rfl) (fun _ _ _ h => h) (Or.inl ⟨by rfl, ?_⟩) ?_ ?_
     rotate_left
     ·intro w'
      go_simp
      with_reducible rfl
     rotate_left
     ·simp only [Act.put, List.setIfInBounds_toArray, List.set_cons_zero, List.set_cons_succ, i64_w, i32_w]
      rfl
     refine pure_ (i := 39) (N := some 105) (v := ?_) (a' := ?_) #[true, true, true, true, true, true, true, true, true, true, true, true, true, true, true, true, true, true, true, true, true, true, true, true, true, true, true, true, true, true, true, true, true, true, true, true, true, true, true, true] rfl rfl (by kernel_rfl) (fun _ _ _ h => h) (Or.inl ⟨by rfl, ?_⟩) ?_ ?_
     rotate_left
     ·intro w'
      go_simp
      with_reducible rfl
     rotate_left
     ·simp only [Act.put, List.setIfInBounds_toArray, List.set_cons_zero, List.set_cons_succ, i64_w, i32_w]
      rfl
     refine done_ (by kernel_rfl) ?_
     clear hHeld
     go_wp2
     have HW : Aside0 (Own N1 w16 ([ObjC gj C L, cells gm #[.int .i64 C, .slice Am L.length cm] 37, cells gr #[.int .i64 0, .int .i64 0, .slice none 0 0] 31] ++ [row kU Sep.TU (.slice none 0 0) []])) := ⟨(O16.out.pickL [1, 2, 4] (by decide) (by simp)).push_emp (row kU Sep.TU (.slice none 0 0) []) (fun w => Kd.R_nil _ _ _ _ _)⟩
     clear c16_0_0 f16_0_0 c16_0_1 f16_0_1 c16_2_0 f16_2_0 c16_2_1 f16_2_1 c16_4_0 f16_4_0 c16_4_1 f16_4_1 c16_4_2 f16_4_2 n16_0_2 n16_0_4 n16_2_0 n16_2_4 n16_4_0 n16_4_2
     clear O16
     go_loopw [109] (fun i wr => RoU N1 wo [ObjC gj C L, cells gm #[.int .i64 C, .slice Am L.length cm] 37, cells gr #[.int .i64 0, .int .i64 0, .slice none 0 0] 31] none 0 0 i wr) (fun i _ => 0 - (intOf i).toNat)
     case atStart => exact ⟨0, _, by omega, by omega, rfl, ⟨rfl⟩, HW, K16⟩
     case round =>
      obtain ⟨y, us, hy0, hy1, rfl, HJ, OB, KB⟩ := hrel
      have hun := HUN.out
      by_cases hly : y < (0 : Int)
      ·exact absurd hly (by omega)
      ·have hd2 : decide (y < (0 : Int)) = false := decide_eq_false hly
       clear hly hy0 hy1 hun HJ HW
       have O17 : Aside0 (Own N1 wr [ObjC gj C L, cells gm #[.int .i64 C, .slice Am L.length cm] 37, cells gr #[.int .i64 0, .int .i64 0, .slice none 0 0] 31, row kU Sep.TU (.slice none 0 0) us]) := ⟨OB.out⟩
       have K17 : Aside0 (KeepS N1 wo wr) := ⟨KB.out⟩
       clear OB KB
       go_wp2_with (first | ((with_reducible refine gate_callee (f := 17) rfl ?_); refine goesL_ (some 119) rfl rfl Try.func17 (by kernel_rfl) rfl #[.pointer (some ⟨gj, 0, none⟩)] rfl (by (try simp only [List.map_toArray, List.map_cons, List.map_nil]); first | done | rfl) ?_; obtain ⟨N_, on_, nn_, rr_, bb_⟩ := O17.out.frame1 (i := 0) rfl; refine (AllR on_ HLL.out ⟨fun x a b => Nat.le_trans (HSH.out x a b) (by decide)⟩).mono ?_; rintro e_ w18 ⟨B6, d6, rfl, oo_, kk_⟩; obtain ⟨o_, k_⟩ := bb_ _ _ _ kk_ oo_; refine ⟨_, rfl, ?_⟩; have O18 : Aside0 (Own N1 w18 [ObjC gj C L, cells gm #[.int .i64 C, .slice Am L.length cm] 37, cells gr #[.int .i64 0, .int .i64 0, .slice none 0 0] 31, row kU Sep.TU (.slice none 0 0) us, row kR Sep.TR (.slice B6 L.length d6) L]) := ⟨o_⟩; have K18 : Aside0 (KeepS N1 wo w18) := ⟨K17.out.trans k_⟩; clear O17 K17; clear o_ k_ oo_ kk_ on_ nn_ rr_ bb_))
       go_loopw [121] (fun i wr => RoR N1 wo [ObjC gj C L, cells gm #[.int .i64 C, .slice Am L.length cm] 37] L.length B6 d6 i wr) (fun i _ => L.length - (intOf i).toNat)
       case atStart => exact ⟨0, L, by omega, by omega, rfl, ⟨rfl⟩, ⟨O18.out.pickL [0, 1, 4] (by decide) (by simp)⟩, K18⟩
       case round =>
        obtain ⟨y, L2, hy0, hy1, rfl, HJ, OB, KB⟩ := hrel
        have hll := HLL.out
        by_cases hly : y < (L.length : Int)
        ·obtain ⟨ae, A7, c7, e7, q0, q1, q2⟩ := at_W OB.out (i := 2) rfl y hy0 hly
         cases e7
         have hs3 : wrap64 (y + 1) = y + 1 := by unfold wrap64; omega
         have hp2 := eq_true hy0
         have hq2 := eq_true hly
         have hd2 : decide (y < (L.length : Int)) = true := decide_eq_true hly
         have HY := Aside0.mk (And.intro hy0 hly)
         have HQC := Aside0.mk q2
         obtain ⟨m7, hm7⟩ : ∃ m, m = (rd_T31 L2 y).f2.length := ⟨_, rfl⟩
         rw [← hm7] at q2
         have HQC2 : Aside0 (wr.cell? ⟨(ae.add (y.toNat * 3)).block, (ae.add (y.toNat * 3)).off + 2, none⟩ = some (.slice A7 m7 c7)) := ⟨by rw [hm7]; exact HQC.out⟩
         have HMB : Aside0 (m7 ≤ 9223372036854775807) := ⟨by have q_ := row_max OB.out (i := 2) rfl y hy0 hly; rw [hm7]; exact q_⟩
         clear HQC hm7 hll hy0 hy1 hly
         have O19 : Aside0 (Own N1 wr [ObjC gj C L, cells gm #[.int .i64 C, .slice Am L.length cm] 37, both (row kR Sep.TR (.slice (some ae) L.length d6) L2) (cellIs ⟨(ae.add (y.toNat * 3)).block, (ae.add (y.toNat * 3)).off + 2, none⟩ (.slice A7 m7 c7))]) := ⟨mark OB.out (i := 2) rfl y HY.out.1 HY.out.2 HQC2.out⟩
         have K19 : Aside0 (KeepS N1 wo wr) := ⟨KB.out⟩
         clear OB KB
         go_wp2_with (first | ((with_reducible refine gate_dst (N := 16) rfl ?_); refine own_box rfl (D := 16) rfl (cs := #[.int .i64 0, .int .i64 0, .slice none 0 0]) (t := 31) ?hr O19.out ?_; (case hr => first | (go_simp; done) | (go_simp; rfl)); intro gq w20 o_ k_; have O20 : Aside0 (Own N1 w20 [ObjC gj C L, cells gm #[.int .i64 C, .slice Am L.length cm] 37, both (row kR Sep.TR (.slice (some ae) L.length d6) L2) (cellIs ⟨(ae.add (y.toNat * 3)).block, (ae.add (y.toNat * 3)).off + 2, none⟩ (.slice A7 m7 c7)), cells gq #[.int .i64 0, .int .i64 0, .slice none 0 0] 31]) := ⟨o_⟩; have K20 : Aside0 (KeepS N1 wo w20) := ⟨K19.out.trans k_⟩; clear O19 K19; have c20_3_0 : w20.cell? ⟨gq, 0, none⟩ = some (.int .i64 0) := (blk_cell (O20.out.blk (i := 3) rfl) 0).trans rfl; have f20_3_0 : w20.frozen? ⟨gq, 0, none⟩ = false := blk_frozen (O20.out.blk (i := 3) rfl) 0; have c20_3_1 : w20.cell? ⟨gq, 1, none⟩ = some (.int .i64 0) := (blk_cell (O20.out.blk (i := 3) rfl) 1).trans rfl; have f20_3_1 : w20.frozen? ⟨gq, 1, none⟩ = false := blk_frozen (O20.out.blk (i := 3) rfl) 1; have c20_3_2 : w20.cell? ⟨gq, 2, none⟩ = some (.slice none 0 0) := (blk_cell (O20.out.blk (i := 3) rfl) 2).trans rfl; have f20_3_2 : w20.frozen? ⟨gq, 2, none⟩ = false := blk_frozen (O20.out.blk (i := 3) rfl) 2; clear o_ k_) | ((with_reducible refine gate_store (t := 31) (p := 16) rfl ?_); refine own_store rfl rfl rfl (w1 := (World.setCell (World.setCell (World.setCell w20 ⟨gq, 0, none⟩ (.int .i64 (rd_T31 L2 y).f0)) ⟨gq, 1, none⟩ (.int .i64 (rd_T31 L2 y).f1)) ⟨gq, 2, none⟩ (.slice A7 m7 c7))) (N := N1) (l' := [ObjC gj C L, cells gm #[.int .i64 C, .slice Am L.length cm] 37, both (row kR Sep.TR (.slice (some ae) L.length d6) L2) (cellIs ⟨(ae.add (y.toNat * 3)).block, (ae.add (y.toNat * 3)).off + 2, none⟩ (.slice A7 m7 c7)), cells gq #[.int .i64 (rd_T31 L2 y).f0, .int .i64 (rd_T31 L2 y).f1, .slice A7 m7 c7] 31]) ?hr ?ho ?hk ?_; (case hr => first | (go_simp; done) | (go_simp; rfl)); (case ho => exact (((O20.out.set (i := 3) rfl 0 (.int .i64 (rd_T31 L2 y).f0)).set (i := 3) rfl 1 (.int .i64 (rd_T31 L2 y).f1)).set (i := 3) rfl 2 (.slice A7 m7 c7))); (case hk => exact (((KeepS.setCell (O20.out.far (i := 3) rfl) (.int .i64 (rd_T31 L2 y).f0)).trans (KeepS.setCell (O20.out.far (i := 3) rfl) (.int .i64 (rd_T31 L2 y).f1))).trans (KeepS.setCell (O20.out.far (i := 3) rfl) (.slice A7 m7 c7)))); intro w21 o_ k_; have O21 : Aside0 (Own N1 w21 [ObjC gj C L, cells gm #[.int .i64 C, .slice Am L.length cm] 37, both (row kR Sep.TR (.slice (some ae) L.length d6) L2) (cellIs ⟨(ae.add (y.toNat * 3)).block, (ae.add (y.toNat * 3)).off + 2, none⟩ (.slice A7 m7 c7)), cells gq #[.int .i64 (rd_T31 L2 y).f0, .int .i64 (rd_T31 L2 y).f1, .slice A7 m7 c7] 31]) := ⟨o_⟩; have K21 : Aside0 (KeepS N1 wo w21) := ⟨K20.out.trans k_⟩; clear c20_3_0 f20_3_0 c20_3_1 f20_3_1 c20_3_2 f20_3_2 O20 K20; have c21_3_0 : w21.cell? ⟨gq, 0, none⟩ = some (.int .i64 (rd_T31 L2 y).f0) := (blk_cell (O21.out.blk (i := 3) rfl) 0).trans rfl; have f21_3_0 : w21.frozen? ⟨gq, 0, none⟩ = false := blk_frozen (O21.out.blk (i := 3) rfl) 0; have c21_3_1 : w21.cell? ⟨gq, 1, none⟩ = some (.int .i64 (rd_T31 L2 y).f1) := (blk_cell (O21.out.blk (i := 3) rfl) 1).trans rfl; have f21_3_1 : w21.frozen? ⟨gq, 1, none⟩ = false := blk_frozen (O21.out.blk (i := 3) rfl) 1; have c21_3_2 : w21.cell? ⟨gq, 2, none⟩ = some (.slice A7 m7 c7) := (blk_cell (O21.out.blk (i := 3) rfl) 2).trans rfl; have f21_3_2 : w21.frozen? ⟨gq, 2, none⟩ = false := blk_frozen (O21.out.blk (i := 3) rfl) 2; clear o_ k_))
         go_loopw [128] (fun i wr => RoQ N1 wo [ObjC gj C L, cells gm #[.int .i64 C, .slice Am L.length cm] 37] gq L.length ae d6 y (rd_T31 L2 y).f0 (rd_T31 L2 y).f1 A7 m7 c7 i wr) (fun i _ => m7 - (intOf i).toNat)
         case atStart => exact ⟨0, L2, by omega, by omega, rfl, HJ, O21, K21⟩
         case round =>
          clear c21_3_0 f21_3_0 c21_3_1 f21_3_1 c21_3_2 f21_3_2
          obtain ⟨u, L3, hu0, hu1, rfl, HJ3, OC, KC⟩ := hrel
          have hmb := HMB.out
          by_cases hlu : u < (m7 : Int)
          ·obtain ⟨a2, e8, ⟨zv, hz⟩, hf, hk, L4, hl4, ho⟩ := putN2 (⟨#[101, 108, 115, 101]⟩ : ByteArray) y u OC.out (i := 2) rfl HY.out.1 HY.out.2 hu0 hlu
           cases e8
           have hs4 : wrap64 (u + 1) = u + 1 := by unfold wrap64; omega
           have hp3 := eq_true hu0
           have hq3 := eq_true hlu
           have hd3 : decide (u < (m7 : Int)) = true := decide_eq_true hlu
           have HUU := Aside0.mk (And.intro hu0 hlu)
           have HO8 := Aside0.mk ho
           have HK8 := Aside0.mk hk
           have HL8 : Aside0 (L4.length = L.length) := ⟨hl4.trans HJ3.out⟩
           clear ho hk hl4 hmb hu0 hu1 hlu
           have O22 : Aside0 (Own N1 wr [ObjC gj C L, cells gm #[.int .i64 C, .slice Am L.length cm] 37, both (row kR Sep.TR (.slice (some ae) L.length d6) L3) (cellIs ⟨(ae.add (y.toNat * 3)).block, (ae.add (y.toNat * 3)).off + 2, none⟩ (.slice (some a2) m7 c7)), cells gq #[.int .i64 (rd_T31 L2 y).f0, .int .i64 (rd_T31 L2 y).f1, .slice (some a2) m7 c7] 31]) := ⟨OC.out⟩
           have K22 : Aside0 (KeepS N1 wo wr) := ⟨KC.out⟩
           have c22_3_0 : wr.cell? ⟨gq, 0, none⟩ = some (.int .i64 (rd_T31 L2 y).f0) := (blk_cell (O22.out.blk (i := 3) rfl) 0).trans rfl
           have f22_3_0 : wr.frozen? ⟨gq, 0, none⟩ = false := blk_frozen (O22.out.blk (i := 3) rfl) 0
           have c22_3_1 : wr.cell? ⟨gq, 1, none⟩ = some (.int .i64 (rd_T31 L2 y).f1) := (blk_cell (O22.out.blk (i := 3) rfl) 1).trans rfl
           have f22_3_1 : wr.frozen? ⟨gq, 1, none⟩ = false := blk_frozen (O22.out.blk (i := 3) rfl) 1
           have c22_3_2 : wr.cell? ⟨gq, 2, none⟩ = some (.slice (some a2) m7 c7) := (blk_cell (O22.out.blk (i := 3) rfl) 2).trans rfl
           have f22_3_2 : wr.frozen? ⟨gq, 2, none⟩ = false := blk_frozen (O22.out.blk (i := 3) rfl) 2
           clear OC KC
           go_wp2_with (first | ((with_reducible refine gate_store (t := 9) (p := 135) rfl ?_); refine own_store rfl rfl rfl (w1 := wr.setCell (a2.add (u.toNat * 4)) (.string (⟨#[101, 108, 115, 101]⟩ : ByteArray))) (N := N1) (l' := [ObjC gj C L, cells gm #[.int .i64 C, .slice Am L.length cm] 37, both (row kR Sep.TR (.slice (some ae) L.length d6) L4) (cellIs ⟨(ae.add (y.toNat * 3)).block, (ae.add (y.toNat * 3)).off + 2, none⟩ (.slice (some a2) m7 c7)), cells gq #[.int .i64 (rd_T31 L2 y).f0, .int .i64 (rd_T31 L2 y).f1, .slice (some a2) m7 c7] 31]) ?hr HO8.out HK8.out ?_; (case hr => first | (go_simp; done) | (go_simp; rfl)); refine fun w23 o_ k_ => ?_; have O23 : Aside0 (Own N1 w23 [ObjC gj C L, cells gm #[.int .i64 C, .slice Am L.length cm] 37, both (row kR Sep.TR (.slice (some ae) L.length d6) L4) (cellIs ⟨(ae.add (y.toNat * 3)).block, (ae.add (y.toNat * 3)).off + 2, none⟩ (.slice (some a2) m7 c7)), cells gq #[.int .i64 (rd_T31 L2 y).f0, .int .i64 (rd_T31 L2 y).f1, .slice (some a2) m7 c7] 31]) := ⟨o_⟩; have K23 : Aside0 (KeepS N1 wo w23) := ⟨K22.out.trans k_⟩; clear c22_3_0 f22_3_0 c22_3_1 f22_3_1 c22_3_2 f22_3_2 O22 K22; have c23_3_0 : w23.cell? ⟨gq, 0, none⟩ = some (.int .i64 (rd_T31 L2 y).f0) := (blk_cell (O23.out.blk (i := 3) rfl) 0).trans rfl; have f23_3_0 : w23.frozen? ⟨gq, 0, none⟩ = false := blk_frozen (O23.out.blk (i := 3) rfl) 0; have c23_3_1 : w23.cell? ⟨gq, 1, none⟩ = some (.int .i64 (rd_T31 L2 y).f1) := (blk_cell (O23.out.blk (i := 3) rfl) 1).trans rfl; have f23_3_1 : w23.frozen? ⟨gq, 1, none⟩ = false := blk_frozen (O23.out.blk (i := 3) rfl) 1; have c23_3_2 : w23.cell? ⟨gq, 2, none⟩ = some (.slice (some a2) m7 c7) := (blk_cell (O23.out.blk (i := 3) rfl) 2).trans rfl; have f23_3_2 : w23.frozen? ⟨gq, 2, none⟩ = false := blk_frozen (O23.out.blk (i := 3) rfl) 2; clear o_ k_))
           go_roundw
           case rel => exact ⟨u + 1, L4, by have := HUU.out; omega, by have := HUU.out; omega, int_eq (by unfold wrap64; have := HUU.out; have := HMB.out; omega), HL8, O23, K23⟩
           case measure => have := HUU.out; simp [intOf]; omega
          ·have hd3 : decide (u < (m7 : Int)) = false := decide_eq_false hlu
           clear hlu hu0 hu1 hmb
           have O22 : Aside0 (Own N1 wr [ObjC gj C L, cells gm #[.int .i64 C, .slice Am L.length cm] 37, both (row kR Sep.TR (.slice (some ae) L.length d6) L3) (cellIs ⟨(ae.add (y.toNat * 3)).block, (ae.add (y.toNat * 3)).off + 2, none⟩ (.slice A7 m7 c7)), cells gq #[.int .i64 (rd_T31 L2 y).f0, .int .i64 (rd_T31 L2 y).f1, .slice A7 m7 c7] 31]) := ⟨OC.out⟩
           have K22 : Aside0 (KeepS N1 wo wr) := ⟨KC.out⟩
           clear OC KC
           go_wp2
           go_roundw
           case rel => exact ⟨y + 1, L3, by have := HY.out; omega, by have := HY.out; omega, int_eq (by unfold wrap64; have := HY.out; have := HLL.out; omega), HJ3, ⟨(unmark O22.out (i := 2) rfl).take 3⟩, K22⟩
           case measure => have := HY.out; simp [intOf]; omega
        ·have hd2 : decide (y < (L.length : Int)) = false := decide_eq_false hly
         clear hly hy0 hy1 hll
         have O19 : Aside0 (Own N1 wr [ObjC gj C L, cells gm #[.int .i64 C, .slice Am L.length cm] 37, row kR Sep.TR (.slice B6 L.length d6) L2]) := ⟨OB.out⟩
         have K19 : Aside0 (KeepS N1 wo wr) := ⟨KB.out⟩
         have HRM_19 : Aside0 (Kd.F k31 wr N1 Am L.length L) := ⟨keepF HRM.out KB.out⟩
         have c19_1_0 : wr.cell? ⟨gm, 0, none⟩ = some (.int .i64 C) := (blk_cell (O19.out.blk (i := 1) rfl) 0).trans rfl
         have f19_1_0 : wr.frozen? ⟨gm, 0, none⟩ = false := blk_frozen (O19.out.blk (i := 1) rfl) 0
         have c19_1_1 : wr.cell? ⟨gm, 1, none⟩ = some (.slice Am L.length cm) := (blk_cell (O19.out.blk (i := 1) rfl) 1).trans rfl
         have f19_1_1 : wr.frozen? ⟨gm, 1, none⟩ = false := blk_frozen (O19.out.blk (i := 1) rfl) 1
         clear OB KB
         go_wp2
         refine start_ (n := 8) (S := fun w' => w'.cell? ⟨gm, 0, none⟩ = some (.int .i64 C) ∧ w'.cell? ⟨gm, 1, none⟩ = some (.slice Am L.length cm)) (ds := []) #[false, false, false, false, false, false, false, false] (by kernel_rfl) rfl rfl ⟨((blk_cell (O19.out.blk (i := 1) rfl) 0).trans rfl), ((blk_cell (O19.out.blk (i := 1) rfl) 1).trans rfl)⟩ (fun hHeld => ?_)
         obtain ⟨w20, hw_⟩ : ∃ W, W = wr.drew := ⟨_, rfl⟩
         have o_ := O19.out.drew
         have k_ : KeepS N1 wr wr.drew := KeepS.drew
         rw [← hw_] at o_ k_ hHeld ⊢
         clear hw_
         have O20 : Aside0 (Own N1 w20 [ObjC gj C L, cells gm #[.int .i64 C, .slice Am L.length cm] 37, row kR Sep.TR (.slice B6 L.length d6) L2]) := ⟨o_⟩
         have K20 : Aside0 (KeepS N1 wo w20) := ⟨K19.out.trans k_⟩
         have HRM_20 : Aside0 (Kd.F k31 w20 N1 Am L.length L) := ⟨keepF HRM_19.out k_⟩
         clear c19_1_0 f19_1_0 c19_1_1 f19_1_1 O19 K19 HRM_19
         have c20_1_0 : w20.cell? ⟨gm, 0, none⟩ = some (.int .i64 C) := (blk_cell (O20.out.blk (i := 1) rfl) 0).trans rfl
         have f20_1_0 : w20.frozen? ⟨gm, 0, none⟩ = false := blk_frozen (O20.out.blk (i := 1) rfl) 0
         have c20_1_1 : w20.cell? ⟨gm, 1, none⟩ = some (.slice Am L.length cm) := (blk_cell (O20.out.blk (i := 1) rfl) 1).trans rfl
         have f20_1_1 : w20.frozen? ⟨gm, 1, none⟩ = false := blk_frozen (O20.out.blk (i := 1) rfl) 1
         clear o_ k_
         refine pure_ (i := 0) (N := some 138) (v := ?_) (a' := ?_) #[true, false, false, false, false, false, false, false] rfl rfl (by kernel_rfl) (fun _ _ _ h => h) (Or.inl ⟨by rfl, ?_⟩) ?_ ?_
         rotate_left
         ·intro w'
          go_simp
          with_reducible rfl
         rotate_left
         ·simp only [Act.put, List.setIfInBounds_toArray, List.set_cons_zero, List.set_cons_succ, i64_w, i32_w]
          rfl
         refine pure_ (i := 2) (N := some 140) (v := ?_) (a' := ?_) #[true, false, true, false, false, false, false, false] rfl rfl (by kernel_rfl) (fun _ _ _ h => h) (Or.inl ⟨by rfl, ?_⟩) ?_ ?_
         rotate_left
         ·intro w'
          go_simp
          with_reducible rfl
         rotate_left
         ·simp only [Act.put, List.setIfInBounds_toArray, List.set_cons_zero, List.set_cons_succ, i64_w, i32_w]
          rfl
         refine pure_ (i := 3) (N := some 141) (v := ?_) (a' := ?_) #[true, false, true, true, false, false, false, false] rfl rfl (by kernel_rfl) (fun _ _ _ h => h) (Or.inl ⟨by rfl, ?_⟩) ?_ ?_
         rotate_left
         ·intro w'
          go_simp
          with_reducible rfl
         rotate_left
         ·simp only [Act.put, List.setIfInBounds_toArray, List.set_cons_zero, List.set_cons_succ, i64_w, i32_w]
          rfl
         refine pure_ (i := 4) (N := some 142) (v := ?_) (a' := ?_) #[true, false, true, true, true, false, false, false] rfl rfl (by kernel_rfl) (fun _ _ _ h => h) (Or.inl ⟨by rfl, ?_⟩) ?_ ?_
         rotate_left
         ·intro w'
          go_simp
          with_reducible rfl
         rotate_left
         ·simp only [Act.put, List.setIfInBounds_toArray, List.set_cons_zero, List.set_cons_succ, i64_w, i32_w]
          rfl
         refine take_ (i := 5) (N := some 143) (v := ?_) (a' := ?_) #[true, false, true, true, true, true, false, false] rfl rfl (by kernel_rfl) (fun _ _ _ h => h) (Or.inl ⟨by rfl, ?_⟩) hHeld ?_ ?_
         rotate_left
         ·rintro w' ⟨s0, s1⟩
          go_simp
          with_reducible rfl
         rotate_left
         ·simp only [Act.put, List.setIfInBounds_toArray, List.set_cons_zero, List.set_cons_succ, i64_w, i32_w]
          rfl
         refine one_ (i := 1) (N := some 139) #[true, true, true, true, true, true, false, false] rfl rfl (by kernel_rfl) (by decide) (fun K_ hK_ => ?_)
         refine goes_ Try.func17 (by kernel_rfl) rfl #[.pointer (some ⟨gj, 0, none⟩)] (by rfl) rfl rfl (by (try simp only [List.map_toArray, List.map_cons, List.map_nil]); first | done | rfl) ?_
         obtain ⟨N_, on_, nn_, rr_, bb_⟩ := O20.out.frame1 (i := 0) rfl
         refine (All_g on_ HLL.out HI.out.2).mono ?_
         rintro e_ w21 ⟨B1, d1, rfl, oo_, kk_⟩
         obtain ⟨o_, k_⟩ := bb_ _ _ _ kk_ oo_
         refine ⟨_, rfl, ?_⟩
         have O21 : Aside0 (Own N1 w21 [ObjC gj C L, cells gm #[.int .i64 C, .slice Am L.length cm] 37, row kR Sep.TR (.slice B6 L.length d6) L2, nrow k31 31 (.slice B1 L.length d1) L]) := ⟨o_⟩
         have K21 : Aside0 (KeepS N1 wo w21) := ⟨K20.out.trans k_⟩
         have HRM_21 : Aside0 (Kd.F k31 w21 N1 Am L.length L) := ⟨keepF HRM_20.out k_⟩
         clear c20_1_0 f20_1_0 c20_1_1 f20_1_1 O20 K20 HRM_20
         have c21_1_0 : w21.cell? ⟨gm, 0, none⟩ = some (.int .i64 C) := (blk_cell (O21.out.blk (i := 1) rfl) 0).trans rfl
         have f21_1_0 : w21.frozen? ⟨gm, 0, none⟩ = false := blk_frozen (O21.out.blk (i := 1) rfl) 0
         have c21_1_1 : w21.cell? ⟨gm, 1, none⟩ = some (.slice Am L.length cm) := (blk_cell (O21.out.blk (i := 1) rfl) 1).trans rfl
         have f21_1_1 : w21.frozen? ⟨gm, 1, none⟩ = false := blk_frozen (O21.out.blk (i := 1) rfl) 1
         clear o_ k_ oo_ kk_ on_ nn_ rr_ bb_
         clear hHeld
         refine hK_.out _ _ ⟨((blk_cell (O21.out.blk (i := 1) rfl) 0).trans rfl), ((blk_cell (O21.out.blk (i := 1) rfl) 1).trans rfl)⟩ (fun hHeld => ?_)
         clear hK_ K_
         refine norm_ (a' := ?_) ?_ ?_
         rotate_left
         ·simp only [Act.put, List.setIfInBounds_toArray, List.set_cons_zero, List.set_cons_succ, i64_w, i32_w]
          rfl
         refine one_ (i := 6) (N := some 144) #[true, true, true, true, true, true, true, false] rfl rfl (by kernel_rfl) (by decide) (fun K_ hK_ => ?_)
         refine goes_ Try.func16 (by kernel_rfl) rfl #[.slice B1 L.length d1, .slice Am L.length cm] (by rfl) rfl rfl (by (try simp only [List.map_toArray, List.map_cons, List.map_nil]); first | done | rfl) ?_
         refine (chapbookref07_SameAll.calls 200 _ _ L _ _ L true _ (O21.out.nreads (i := 3) rfl).2.2 (O21.out.nreads (i := 3) rfl).2.1 (Kd.F_now HRM_21.out) HCM.out (psameAll 8 200 L (by have := HLL.out; omega) HSH.out (by decide) (by have := HI.out.1; have := HL40.out; omega))).mono ?_
         rintro e_ w22 ⟨rfl, hb_⟩
         refine ⟨_, rfl, ?_⟩
         have o_ := O21.out.below hb_
         have k_ := KeepS.of_below (N := N1) hb_
         have O22 : Aside0 (Own N1 w22 [ObjC gj C L, cells gm #[.int .i64 C, .slice Am L.length cm] 37, row kR Sep.TR (.slice B6 L.length d6) L2, nrow k31 31 (.slice B1 L.length d1) L]) := ⟨o_⟩
         have K22 : Aside0 (KeepS N1 wo w22) := ⟨K21.out.trans k_⟩
         have HRM_22 : Aside0 (Kd.F k31 w22 N1 Am L.length L) := ⟨keepF HRM_21.out k_⟩
         clear c21_1_0 f21_1_0 c21_1_1 f21_1_1 O21 K21 HRM_21
         have c22_1_0 : w22.cell? ⟨gm, 0, none⟩ = some (.int .i64 C) := (blk_cell (O22.out.blk (i := 1) rfl) 0).trans rfl
         have f22_1_0 : w22.frozen? ⟨gm, 0, none⟩ = false := blk_frozen (O22.out.blk (i := 1) rfl) 0
         have c22_1_1 : w22.cell? ⟨gm, 1, none⟩ = some (.slice Am L.length cm) := (blk_cell (O22.out.blk (i := 1) rfl) 1).trans rfl
         have f22_1_1 : w22.frozen? ⟨gm, 1, none⟩ = false := blk_frozen (O22.out.blk (i := 1) rfl) 1
         clear o_ k_ hb_
         clear hHeld
         refine hK_.out _ _ ⟨((blk_cell (O22.out.blk (i := 1) rfl) 0).trans rfl), ((blk_cell (O22.out.blk (i := 1) rfl) 1).trans rfl)⟩ (fun hHeld => ?_)
         clear hK_ K_
         refine norm_ (a' := ?_) ?_ ?_
         rotate_left
         ·simp only [Act.put, List.setIfInBounds_toArray, List.set_cons_zero, List.set_cons_succ, i64_w, i32_w]
          rfl
         refine pure_ (i := 7) (N := some 6) (v := ?_) (a' := ?_) #[true, true, true, true, true, true, true, true] rfl rfl (by kernel_rfl) (fun _ _ _ h => h) (Or.inl ⟨by rfl, ?_⟩) ?_ ?_
         rotate_left
         ·intro w'
          go_simp
          with_reducible rfl
         rotate_left
         ·simp only [Act.put, List.setIfInBounds_toArray, List.set_cons_zero, List.set_cons_succ, i64_w, i32_w]
          rfl
         refine done_ (by kernel_rfl) ?_
         clear hHeld
         go_wp2
         go_ret
         exact ⟨rfl, (KA.out.trans (K22.out.mono HN1.out)).below (Nat.le_refl _) (fun k hk => by rw [HN.out]; exact hk)⟩
end Go.Proofs.Ytjmoncfgoaaekaa.J
