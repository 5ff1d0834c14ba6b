/- The law PackReads: in every order of reads, over any bytes, what is read, and the first error, are what the document says: a plain walk through its text. -/
import Derived.Test.YtfbdfnclkchofaaDoorYPackReadsRC
import Derived.Test.YtfbdfnclkchofaaDoorYPackReadsPS
namespace Go.Proofs.YtfbdfnclkchofaaDoor.J
set_option linter.unusedSimpArgs false
set_option linter.unusedVariables false
open Go Go.RowKit Go.Proofs.YtfbdfnclkchofaaDoorW.PrintWords Go.Proofs.YtfbdfnclkchofaaDoorW.PrintLast Go.Proofs.YtfbdfnclkchofaaDoorW.PrintMore Go.Proofs.YtfbdfnclkchofaaDoor.Q Go.Proofs.YtfbdfnclkchofaaDoor.Sep Go.Proofs.YtfbdfnclkchofaaDoor.Pure
attribute [local go_sem] max2_int min2_int max_two min_two max_three min_three max_four min_four
def chapbooklaw03_PackReads.f (k : Nat) (a0 : ByteArray) (l1 : List S46) : Option Bool := if a0.size ≤ 140737488351232 ∧ l1.length ≤ 140737488351232 then some true else none
theorem int_eq {a b : Int} (h : a = b) : Value.int .i64 a = .int .i64 b := by rw [h]
def ReI (N : Nat → Prop) (w : World) (a0 : ByteArray) (l0 : List S46) (gr gm : Nat) (i : Value) (wr : World) : Prop := ∃ (x p e : Int), 0 ≤ x ∧ x ≤ (l0.length : Int) ∧ i = .int .i64 x ∧ Aside0 (0 ≤ p ∧ p ≤ a0.size) ∧ Aside0 (Own N wr [RP gr a0 p e, RM gm a0 p e]) ∧ Aside0 (KeepS N w wr)
set_option maxHeartbeats 16000000 in
set_option maxRecDepth 100000 in
theorem chapbooklaw03_PackReads.calls (k : Nat) (a0 : ByteArray) (A1 : Option Addr) (c1 : Nat) (l1 : List (S46)) (r : Bool) (w : World) (HT : Aside0 (Tab w)) (hr1 : Kd.C k46 w A1 l1.length l1) (hc1 : l1.length ≤ c1) (h : chapbooklaw03_PackReads.f k a0 l1 = some r) :
    Calls Tryd.prog 4 #[.string a0, .slice A1 l1.length c1] w fun e_ w' => e_ = .returned (.bool r) ∧ Below w.heap.size w w' := by
  have hsz : a0.size ≤ 140737488351232 ∧ l1.length ≤ 140737488351232 := by
    unfold chapbooklaw03_PackReads.f at h
    split at h
    · assumption
    · cases h
  unfold chapbooklaw03_PackReads.f at h
  rw [if_pos hsz] at h
  obtain rfl : true = r := Option.some.inj h
  clear h
  obtain ⟨A0, eA_⟩ : ∃ A0, A0 = A1 := ⟨_, rfl⟩
  obtain ⟨c0, ec_⟩ : ∃ c0, c0 = c1 := ⟨_, rfl⟩
  obtain ⟨l0, el_⟩ : ∃ l0, l0 = l1 := ⟨_, rfl⟩
  subst eA_
  subst ec_
  subst el_
  have hr0 := hr1
  have hc0 := hc1
  clear hr1 hc1
  obtain ⟨N, hN⟩ : ∃ N : Nat → Prop, N = fun k => k < w.heap.size := ⟨_, rfl⟩
  have HN := Aside0.mk hN
  have HSZ := Aside0.mk hsz.1
  have HRL0 : Aside0 (Kd.F k46 w N A0 l0.length l0) := ⟨by rw [hN]; exact Kd.C_F heapE hr0⟩
  have HR0 := Aside0.mk hr0
  have HC0 := Aside0.mk hc0
  have O0 : Aside0 (Own N w []) := ⟨Own.start_ (fun k hk => by rw [hN] at hk; exact hk)⟩
  have K0 : Aside0 (KeepS N w w) := ⟨KeepS.refl _ _⟩
  clear hN hr0 hc0
  obtain ⟨bb, hgr, hgb⟩ := great03 a0 l0 hsz.2
  have HGR := Aside0.mk (hgr 300 (Nat.le_refl _))
  have HGB := Aside0.mk hgb
  clear hgr hgb hsz
  cases bb with
  | true =>
    go_enter Tryd.func4, Tryd.ntmps4
    go_wp2_with (first | ((with_reducible refine gate_callee (f := 18) rfl ?_); refine goesL_ (some 11) rfl rfl Tryd.func18 (by kernel_rfl) rfl #[.string a0] rfl (by (try simp only [List.map_toArray, List.map_cons, List.map_nil]); first | done | rfl) ?_; obtain ⟨N_, on_, nn_, rr_, bb_⟩ := O0.out.frame0; refine (pRead a0 (Below.refl _ _) on_).mono ?_; rintro e_ w1 ⟨gr, rfl, oo_, kk_⟩; obtain ⟨o_, k_⟩ := bb_ _ _ kk_ oo_; refine ⟨_, rfl, ?_⟩; have O1 : Aside0 (Own N w1 [RP gr a0 0 0]) := ⟨o_⟩; have K1 : Aside0 (KeepS N w w1) := ⟨K0.out.trans k_⟩; clear O0 K0; have c1_0_0 : w1.cell? ⟨gr, 0, none⟩ = some (.string a0) := (blk_cell (O1.out.blk (i := 0) rfl) 0).trans rfl; have f1_0_0 : w1.frozen? ⟨gr, 0, none⟩ = false := blk_frozen (O1.out.blk (i := 0) rfl) 0; have c1_0_1 : w1.cell? ⟨gr, 1, none⟩ = some (.int .i64 0) := (blk_cell (O1.out.blk (i := 0) rfl) 1).trans rfl; have f1_0_1 : w1.frozen? ⟨gr, 1, none⟩ = false := blk_frozen (O1.out.blk (i := 0) rfl) 1; have c1_0_2 : w1.cell? ⟨gr, 2, none⟩ = some (.int .i64 0) := (blk_cell (O1.out.blk (i := 0) rfl) 2).trans rfl; have f1_0_2 : w1.frozen? ⟨gr, 2, none⟩ = false := blk_frozen (O1.out.blk (i := 0) rfl) 2; clear o_ k_ oo_ kk_ on_ nn_ rr_ bb_) | ((with_reducible refine gate_dst (N := 14) rfl ?_); refine own_box rfl (D := 14) rfl (cs := #[.string a0, .int .i64 0, .int .i64 0]) (t := 43) ?hr O1.out ?_; (case hr => first | (go_simp; done) | (go_simp; rfl)); intro gm w2 o_ k_; have O2 : Aside0 (Own N w2 [RP gr a0 0 0, cells gm #[.string a0, .int .i64 0, .int .i64 0] 43]) := ⟨o_⟩; have K2 : Aside0 (KeepS N w w2) := ⟨K1.out.trans k_⟩; clear c1_0_0 f1_0_0 c1_0_1 f1_0_1 c1_0_2 f1_0_2 O1 K1; have c2_0_0 : w2.cell? ⟨gr, 0, none⟩ = some (.string a0) := (blk_cell (O2.out.blk (i := 0) rfl) 0).trans rfl; have f2_0_0 : w2.frozen? ⟨gr, 0, none⟩ = false := blk_frozen (O2.out.blk (i := 0) rfl) 0; have c2_0_1 : w2.cell? ⟨gr, 1, none⟩ = some (.int .i64 0) := (blk_cell (O2.out.blk (i := 0) rfl) 1).trans rfl; have f2_0_1 : w2.frozen? ⟨gr, 1, none⟩ = false := blk_frozen (O2.out.blk (i := 0) rfl) 1; have c2_0_2 : w2.cell? ⟨gr, 2, none⟩ = some (.int .i64 0) := (blk_cell (O2.out.blk (i := 0) rfl) 2).trans rfl; have f2_0_2 : w2.frozen? ⟨gr, 2, none⟩ = false := blk_frozen (O2.out.blk (i := 0) rfl) 2; have c2_1_0 : w2.cell? ⟨gm, 0, none⟩ = some (.string a0) := (blk_cell (O2.out.blk (i := 1) rfl) 0).trans rfl; have f2_1_0 : w2.frozen? ⟨gm, 0, none⟩ = false := blk_frozen (O2.out.blk (i := 1) rfl) 0; have c2_1_1 : w2.cell? ⟨gm, 1, none⟩ = some (.int .i64 0) := (blk_cell (O2.out.blk (i := 1) rfl) 1).trans rfl; have f2_1_1 : w2.frozen? ⟨gm, 1, none⟩ = false := blk_frozen (O2.out.blk (i := 1) rfl) 1; have c2_1_2 : w2.cell? ⟨gm, 2, none⟩ = some (.int .i64 0) := (blk_cell (O2.out.blk (i := 1) rfl) 2).trans rfl; have f2_1_2 : w2.frozen? ⟨gm, 2, none⟩ = false := blk_frozen (O2.out.blk (i := 1) rfl) 2; have n2_0_1 : gr ≠ gm := O2.out.ne (i := 0) (j := 1) rfl rfl (by decide); have n2_1_0 : gm ≠ gr := O2.out.ne (i := 1) (j := 0) rfl rfl (by decide); clear o_ k_) | ((with_reducible refine gate_callee (f := 14) rfl ?_); refine goesL_ (some 15) rfl rfl Tryd.func14 (by kernel_rfl) rfl #[] rfl (by (try simp only [List.map_toArray, List.map_cons, List.map_nil]); first | done | rfl) ?_; refine (chapbooklaw03_awake.calls true _ (Aside0.mk (Tab.below HT.out (K2.out.below (Nat.le_refl _) (fun k hk => by rw [HN.out]; exact hk)))) rfl).mono ?_; rintro e_ w3 ⟨rfl, hb_⟩; refine ⟨_, rfl, ?_⟩; have o_ := O2.out.below hb_; have k_ := KeepS.of_below (N := N) hb_; have O3 : Aside0 (Own N w3 [RP gr a0 0 0, RM gm a0 0 0]) := ⟨o_⟩; have K3 : Aside0 (KeepS N w w3) := ⟨K2.out.trans k_⟩; clear c2_0_0 f2_0_0 c2_0_1 f2_0_1 c2_0_2 f2_0_2 c2_1_0 f2_1_0 c2_1_1 f2_1_1 c2_1_2 f2_1_2 n2_0_1 n2_1_0 O2 K2; have c3_0_0 : w3.cell? ⟨gr, 0, none⟩ = some (.string a0) := (blk_cell (O3.out.blk (i := 0) rfl) 0).trans rfl; have f3_0_0 : w3.frozen? ⟨gr, 0, none⟩ = false := blk_frozen (O3.out.blk (i := 0) rfl) 0; have c3_0_1 : w3.cell? ⟨gr, 1, none⟩ = some (.int .i64 0) := (blk_cell (O3.out.blk (i := 0) rfl) 1).trans rfl; have f3_0_1 : w3.frozen? ⟨gr, 1, none⟩ = false := blk_frozen (O3.out.blk (i := 0) rfl) 1; have c3_0_2 : w3.cell? ⟨gr, 2, none⟩ = some (.int .i64 0) := (blk_cell (O3.out.blk (i := 0) rfl) 2).trans rfl; have f3_0_2 : w3.frozen? ⟨gr, 2, none⟩ = false := blk_frozen (O3.out.blk (i := 0) rfl) 2; have c3_1_0 : w3.cell? ⟨gm, 0, none⟩ = some (.string a0) := (blk_cell (O3.out.blk (i := 1) rfl) 0).trans rfl; have f3_1_0 : w3.frozen? ⟨gm, 0, none⟩ = false := blk_frozen (O3.out.blk (i := 1) rfl) 0; have c3_1_1 : w3.cell? ⟨gm, 1, none⟩ = some (.int .i64 0) := (blk_cell (O3.out.blk (i := 1) rfl) 1).trans rfl; have f3_1_1 : w3.frozen? ⟨gm, 1, none⟩ = false := blk_frozen (O3.out.blk (i := 1) rfl) 1; have c3_1_2 : w3.cell? ⟨gm, 2, none⟩ = some (.int .i64 0) := (blk_cell (O3.out.blk (i := 1) rfl) 2).trans rfl; have f3_1_2 : w3.frozen? ⟨gm, 2, none⟩ = false := blk_frozen (O3.out.blk (i := 1) rfl) 2; have n3_0_1 : gr ≠ gm := O3.out.ne (i := 0) (j := 1) rfl rfl (by decide); have n3_1_0 : gm ≠ gr := O3.out.ne (i := 1) (j := 0) rfl rfl (by decide); clear o_ k_ hb_) | ((with_reducible refine gate_callee (f := 23) rfl ?_); refine gate_guard (by rfl) ?_; refine goesL_ (some 24) rfl rfl Tryd.func23 (by kernel_rfl) rfl #[.string a0, .slice A0 l0.length c0] rfl (by (try simp only [List.map_toArray, List.map_cons, List.map_nil]); first | done | rfl) ?_; refine (chapbooklaw03_great.calls 300 a0 _ _ l0 true _ (Kd.C_below HR0.out (K3.out.below (Nat.le_refl _) (fun k hk => by rw [HN.out]; exact hk))) HC0.out HGR.out).mono ?_; rintro e_ w4 ⟨rfl, hb_⟩; refine ⟨_, rfl, ?_⟩; have o_ := O3.out.below hb_; have k_ := KeepS.of_below (N := N) hb_; have O4 : Aside0 (Own N w4 [RP gr a0 0 0, RM gm a0 0 0]) := ⟨o_⟩; have K4 : Aside0 (KeepS N w w4) := ⟨K3.out.trans k_⟩; clear c3_0_0 f3_0_0 c3_0_1 f3_0_1 c3_0_2 f3_0_2 c3_1_0 f3_1_0 c3_1_1 f3_1_1 c3_1_2 f3_1_2 n3_0_1 n3_1_0 O3 K3; have c4_0_0 : w4.cell? ⟨gr, 0, none⟩ = some (.string a0) := (blk_cell (O4.out.blk (i := 0) rfl) 0).trans rfl; have f4_0_0 : w4.frozen? ⟨gr, 0, none⟩ = false := blk_frozen (O4.out.blk (i := 0) rfl) 0; have c4_0_1 : w4.cell? ⟨gr, 1, none⟩ = some (.int .i64 0) := (blk_cell (O4.out.blk (i := 0) rfl) 1).trans rfl; have f4_0_1 : w4.frozen? ⟨gr, 1, none⟩ = false := blk_frozen (O4.out.blk (i := 0) rfl) 1; have c4_0_2 : w4.cell? ⟨gr, 2, none⟩ = some (.int .i64 0) := (blk_cell (O4.out.blk (i := 0) rfl) 2).trans rfl; have f4_0_2 : w4.frozen? ⟨gr, 2, none⟩ = false := blk_frozen (O4.out.blk (i := 0) rfl) 2; have c4_1_0 : w4.cell? ⟨gm, 0, none⟩ = some (.string a0) := (blk_cell (O4.out.blk (i := 1) rfl) 0).trans rfl; have f4_1_0 : w4.frozen? ⟨gm, 0, none⟩ = false := blk_frozen (O4.out.blk (i := 1) rfl) 0; have c4_1_1 : w4.cell? ⟨gm, 1, none⟩ = some (.int .i64 0) := (blk_cell (O4.out.blk (i := 1) rfl) 1).trans rfl; have f4_1_1 : w4.frozen? ⟨gm, 1, none⟩ = false := blk_frozen (O4.out.blk (i := 1) rfl) 1; have c4_1_2 : w4.cell? ⟨gm, 2, none⟩ = some (.int .i64 0) := (blk_cell (O4.out.blk (i := 1) rfl) 2).trans rfl; have f4_1_2 : w4.frozen? ⟨gm, 2, none⟩ = false := blk_frozen (O4.out.blk (i := 1) rfl) 2; have n4_0_1 : gr ≠ gm := O4.out.ne (i := 0) (j := 1) rfl rfl (by decide); have n4_1_0 : gm ≠ gr := O4.out.ne (i := 1) (j := 0) rfl rfl (by decide); clear o_ k_ hb_) | ((with_reducible refine gate_callee (f := 14) rfl ?_); refine goesL_ (some 26) rfl rfl Tryd.func14 (by kernel_rfl) rfl #[] rfl (by (try simp only [List.map_toArray, List.map_cons, List.map_nil]); first | done | rfl) ?_; refine (chapbooklaw03_awake.calls true _ (Aside0.mk (Tab.below HT.out (K4.out.below (Nat.le_refl _) (fun k hk => by rw [HN.out]; exact hk)))) rfl).mono ?_; rintro e_ w5 ⟨rfl, hb_⟩; refine ⟨_, rfl, ?_⟩; have o_ := O4.out.below hb_; have k_ := KeepS.of_below (N := N) hb_; have O5 : Aside0 (Own N w5 [RP gr a0 0 0, RM gm a0 0 0]) := ⟨o_⟩; have K5 : Aside0 (KeepS N w w5) := ⟨K4.out.trans k_⟩; clear c4_0_0 f4_0_0 c4_0_1 f4_0_1 c4_0_2 f4_0_2 c4_1_0 f4_1_0 c4_1_1 f4_1_1 c4_1_2 f4_1_2 n4_0_1 n4_1_0 O4 K4; have c5_0_0 : w5.cell? ⟨gr, 0, none⟩ = some (.string a0) := (blk_cell (O5.out.blk (i := 0) rfl) 0).trans rfl; have f5_0_0 : w5.frozen? ⟨gr, 0, none⟩ = false := blk_frozen (O5.out.blk (i := 0) rfl) 0; have c5_0_1 : w5.cell? ⟨gr, 1, none⟩ = some (.int .i64 0) := (blk_cell (O5.out.blk (i := 0) rfl) 1).trans rfl; have f5_0_1 : w5.frozen? ⟨gr, 1, none⟩ = false := blk_frozen (O5.out.blk (i := 0) rfl) 1; have c5_0_2 : w5.cell? ⟨gr, 2, none⟩ = some (.int .i64 0) := (blk_cell (O5.out.blk (i := 0) rfl) 2).trans rfl; have f5_0_2 : w5.frozen? ⟨gr, 2, none⟩ = false := blk_frozen (O5.out.blk (i := 0) rfl) 2; have c5_1_0 : w5.cell? ⟨gm, 0, none⟩ = some (.string a0) := (blk_cell (O5.out.blk (i := 1) rfl) 0).trans rfl; have f5_1_0 : w5.frozen? ⟨gm, 0, none⟩ = false := blk_frozen (O5.out.blk (i := 1) rfl) 0; have c5_1_1 : w5.cell? ⟨gm, 1, none⟩ = some (.int .i64 0) := (blk_cell (O5.out.blk (i := 1) rfl) 1).trans rfl; have f5_1_1 : w5.frozen? ⟨gm, 1, none⟩ = false := blk_frozen (O5.out.blk (i := 1) rfl) 1; have c5_1_2 : w5.cell? ⟨gm, 2, none⟩ = some (.int .i64 0) := (blk_cell (O5.out.blk (i := 1) rfl) 2).trans rfl; have f5_1_2 : w5.frozen? ⟨gm, 2, none⟩ = false := blk_frozen (O5.out.blk (i := 1) rfl) 2; have n5_0_1 : gr ≠ gm := O5.out.ne (i := 0) (j := 1) rfl rfl (by decide); have n5_1_0 : gm ≠ gr := O5.out.ne (i := 1) (j := 0) rfl rfl (by decide); clear o_ k_ hb_))
    go_ret
    exact ⟨rfl, (K5.out.below (Nat.le_refl _) (fun k hk => by rw [HN.out]; exact hk))⟩
  | false =>
    obtain ⟨hl500, hl200, hbig⟩ := HGB.out rfl
    have HL200 := Aside0.mk hl200
    clear hl500 hl200 hbig HGB
    go_enter Tryd.func4, Tryd.ntmps4
    go_wp2_with (first | ((with_reducible refine gate_callee (f := 18) rfl ?_); refine goesL_ (some 11) rfl rfl Tryd.func18 (by kernel_rfl) rfl #[.string a0] rfl (by (try simp only [List.map_toArray, List.map_cons, List.map_nil]); first | done | rfl) ?_; obtain ⟨N_, on_, nn_, rr_, bb_⟩ := O0.out.frame0; refine (pRead a0 (Below.refl _ _) on_).mono ?_; rintro e_ w1 ⟨gr, rfl, oo_, kk_⟩; obtain ⟨o_, k_⟩ := bb_ _ _ kk_ oo_; refine ⟨_, rfl, ?_⟩; have O1 : Aside0 (Own N w1 [RP gr a0 0 0]) := ⟨o_⟩; have K1 : Aside0 (KeepS N w w1) := ⟨K0.out.trans k_⟩; clear O0 K0; have c1_0_0 : w1.cell? ⟨gr, 0, none⟩ = some (.string a0) := (blk_cell (O1.out.blk (i := 0) rfl) 0).trans rfl; have f1_0_0 : w1.frozen? ⟨gr, 0, none⟩ = false := blk_frozen (O1.out.blk (i := 0) rfl) 0; have c1_0_1 : w1.cell? ⟨gr, 1, none⟩ = some (.int .i64 0) := (blk_cell (O1.out.blk (i := 0) rfl) 1).trans rfl; have f1_0_1 : w1.frozen? ⟨gr, 1, none⟩ = false := blk_frozen (O1.out.blk (i := 0) rfl) 1; have c1_0_2 : w1.cell? ⟨gr, 2, none⟩ = some (.int .i64 0) := (blk_cell (O1.out.blk (i := 0) rfl) 2).trans rfl; have f1_0_2 : w1.frozen? ⟨gr, 2, none⟩ = false := blk_frozen (O1.out.blk (i := 0) rfl) 2; clear o_ k_ oo_ kk_ on_ nn_ rr_ bb_) | ((with_reducible refine gate_dst (N := 14) rfl ?_); refine own_box rfl (D := 14) rfl (cs := #[.string a0, .int .i64 0, .int .i64 0]) (t := 43) ?hr O1.out ?_; (case hr => first | (go_simp; done) | (go_simp; rfl)); intro gm w2 o_ k_; have O2 : Aside0 (Own N w2 [RP gr a0 0 0, cells gm #[.string a0, .int .i64 0, .int .i64 0] 43]) := ⟨o_⟩; have K2 : Aside0 (KeepS N w w2) := ⟨K1.out.trans k_⟩; clear c1_0_0 f1_0_0 c1_0_1 f1_0_1 c1_0_2 f1_0_2 O1 K1; have c2_0_0 : w2.cell? ⟨gr, 0, none⟩ = some (.string a0) := (blk_cell (O2.out.blk (i := 0) rfl) 0).trans rfl; have f2_0_0 : w2.frozen? ⟨gr, 0, none⟩ = false := blk_frozen (O2.out.blk (i := 0) rfl) 0; have c2_0_1 : w2.cell? ⟨gr, 1, none⟩ = some (.int .i64 0) := (blk_cell (O2.out.blk (i := 0) rfl) 1).trans rfl; have f2_0_1 : w2.frozen? ⟨gr, 1, none⟩ = false := blk_frozen (O2.out.blk (i := 0) rfl) 1; have c2_0_2 : w2.cell? ⟨gr, 2, none⟩ = some (.int .i64 0) := (blk_cell (O2.out.blk (i := 0) rfl) 2).trans rfl; have f2_0_2 : w2.frozen? ⟨gr, 2, none⟩ = false := blk_frozen (O2.out.blk (i := 0) rfl) 2; have c2_1_0 : w2.cell? ⟨gm, 0, none⟩ = some (.string a0) := (blk_cell (O2.out.blk (i := 1) rfl) 0).trans rfl; have f2_1_0 : w2.frozen? ⟨gm, 0, none⟩ = false := blk_frozen (O2.out.blk (i := 1) rfl) 0; have c2_1_1 : w2.cell? ⟨gm, 1, none⟩ = some (.int .i64 0) := (blk_cell (O2.out.blk (i := 1) rfl) 1).trans rfl; have f2_1_1 : w2.frozen? ⟨gm, 1, none⟩ = false := blk_frozen (O2.out.blk (i := 1) rfl) 1; have c2_1_2 : w2.cell? ⟨gm, 2, none⟩ = some (.int .i64 0) := (blk_cell (O2.out.blk (i := 1) rfl) 2).trans rfl; have f2_1_2 : w2.frozen? ⟨gm, 2, none⟩ = false := blk_frozen (O2.out.blk (i := 1) rfl) 2; have n2_0_1 : gr ≠ gm := O2.out.ne (i := 0) (j := 1) rfl rfl (by decide); have n2_1_0 : gm ≠ gr := O2.out.ne (i := 1) (j := 0) rfl rfl (by decide); clear o_ k_) | ((with_reducible refine gate_callee (f := 14) rfl ?_); refine goesL_ (some 15) rfl rfl Tryd.func14 (by kernel_rfl) rfl #[] rfl (by (try simp only [List.map_toArray, List.map_cons, List.map_nil]); first | done | rfl) ?_; refine (chapbooklaw03_awake.calls true _ (Aside0.mk (Tab.below HT.out (K2.out.below (Nat.le_refl _) (fun k hk => by rw [HN.out]; exact hk)))) rfl).mono ?_; rintro e_ w3 ⟨rfl, hb_⟩; refine ⟨_, rfl, ?_⟩; have o_ := O2.out.below hb_; have k_ := KeepS.of_below (N := N) hb_; have O3 : Aside0 (Own N w3 [RP gr a0 0 0, RM gm a0 0 0]) := ⟨o_⟩; have K3 : Aside0 (KeepS N w w3) := ⟨K2.out.trans k_⟩; clear c2_0_0 f2_0_0 c2_0_1 f2_0_1 c2_0_2 f2_0_2 c2_1_0 f2_1_0 c2_1_1 f2_1_1 c2_1_2 f2_1_2 n2_0_1 n2_1_0 O2 K2; have c3_0_0 : w3.cell? ⟨gr, 0, none⟩ = some (.string a0) := (blk_cell (O3.out.blk (i := 0) rfl) 0).trans rfl; have f3_0_0 : w3.frozen? ⟨gr, 0, none⟩ = false := blk_frozen (O3.out.blk (i := 0) rfl) 0; have c3_0_1 : w3.cell? ⟨gr, 1, none⟩ = some (.int .i64 0) := (blk_cell (O3.out.blk (i := 0) rfl) 1).trans rfl; have f3_0_1 : w3.frozen? ⟨gr, 1, none⟩ = false := blk_frozen (O3.out.blk (i := 0) rfl) 1; have c3_0_2 : w3.cell? ⟨gr, 2, none⟩ = some (.int .i64 0) := (blk_cell (O3.out.blk (i := 0) rfl) 2).trans rfl; have f3_0_2 : w3.frozen? ⟨gr, 2, none⟩ = false := blk_frozen (O3.out.blk (i := 0) rfl) 2; have c3_1_0 : w3.cell? ⟨gm, 0, none⟩ = some (.string a0) := (blk_cell (O3.out.blk (i := 1) rfl) 0).trans rfl; have f3_1_0 : w3.frozen? ⟨gm, 0, none⟩ = false := blk_frozen (O3.out.blk (i := 1) rfl) 0; have c3_1_1 : w3.cell? ⟨gm, 1, none⟩ = some (.int .i64 0) := (blk_cell (O3.out.blk (i := 1) rfl) 1).trans rfl; have f3_1_1 : w3.frozen? ⟨gm, 1, none⟩ = false := blk_frozen (O3.out.blk (i := 1) rfl) 1; have c3_1_2 : w3.cell? ⟨gm, 2, none⟩ = some (.int .i64 0) := (blk_cell (O3.out.blk (i := 1) rfl) 2).trans rfl; have f3_1_2 : w3.frozen? ⟨gm, 2, none⟩ = false := blk_frozen (O3.out.blk (i := 1) rfl) 2; have n3_0_1 : gr ≠ gm := O3.out.ne (i := 0) (j := 1) rfl rfl (by decide); have n3_1_0 : gm ≠ gr := O3.out.ne (i := 1) (j := 0) rfl rfl (by decide); clear o_ k_ hb_) | ((with_reducible refine gate_callee (f := 23) rfl ?_); refine gate_guard (by rfl) ?_; refine goesL_ (some 24) rfl rfl Tryd.func23 (by kernel_rfl) rfl #[.string a0, .slice A0 l0.length c0] rfl (by (try simp only [List.map_toArray, List.map_cons, List.map_nil]); first | done | rfl) ?_; refine (chapbooklaw03_great.calls 300 a0 _ _ l0 false _ (Kd.C_below HR0.out (K3.out.below (Nat.le_refl _) (fun k hk => by rw [HN.out]; exact hk))) HC0.out HGR.out).mono ?_; rintro e_ w4 ⟨rfl, hb_⟩; refine ⟨_, rfl, ?_⟩; have o_ := O3.out.below hb_; have k_ := KeepS.of_below (N := N) hb_; have O4 : Aside0 (Own N w4 [RP gr a0 0 0, RM gm a0 0 0]) := ⟨o_⟩; have K4 : Aside0 (KeepS N w w4) := ⟨K3.out.trans k_⟩; clear c3_0_0 f3_0_0 c3_0_1 f3_0_1 c3_0_2 f3_0_2 c3_1_0 f3_1_0 c3_1_1 f3_1_1 c3_1_2 f3_1_2 n3_0_1 n3_1_0 O3 K3; have c4_0_0 : w4.cell? ⟨gr, 0, none⟩ = some (.string a0) := (blk_cell (O4.out.blk (i := 0) rfl) 0).trans rfl; have f4_0_0 : w4.frozen? ⟨gr, 0, none⟩ = false := blk_frozen (O4.out.blk (i := 0) rfl) 0; have c4_0_1 : w4.cell? ⟨gr, 1, none⟩ = some (.int .i64 0) := (blk_cell (O4.out.blk (i := 0) rfl) 1).trans rfl; have f4_0_1 : w4.frozen? ⟨gr, 1, none⟩ = false := blk_frozen (O4.out.blk (i := 0) rfl) 1; have c4_0_2 : w4.cell? ⟨gr, 2, none⟩ = some (.int .i64 0) := (blk_cell (O4.out.blk (i := 0) rfl) 2).trans rfl; have f4_0_2 : w4.frozen? ⟨gr, 2, none⟩ = false := blk_frozen (O4.out.blk (i := 0) rfl) 2; have c4_1_0 : w4.cell? ⟨gm, 0, none⟩ = some (.string a0) := (blk_cell (O4.out.blk (i := 1) rfl) 0).trans rfl; have f4_1_0 : w4.frozen? ⟨gm, 0, none⟩ = false := blk_frozen (O4.out.blk (i := 1) rfl) 0; have c4_1_1 : w4.cell? ⟨gm, 1, none⟩ = some (.int .i64 0) := (blk_cell (O4.out.blk (i := 1) rfl) 1).trans rfl; have f4_1_1 : w4.frozen? ⟨gm, 1, none⟩ = false := blk_frozen (O4.out.blk (i := 1) rfl) 1; have c4_1_2 : w4.cell? ⟨gm, 2, none⟩ = some (.int .i64 0) := (blk_cell (O4.out.blk (i := 1) rfl) 2).trans rfl; have f4_1_2 : w4.frozen? ⟨gm, 2, none⟩ = false := blk_frozen (O4.out.blk (i := 1) rfl) 2; have n4_0_1 : gr ≠ gm := O4.out.ne (i := 0) (j := 1) rfl rfl (by decide); have n4_1_0 : gm ≠ gr := O4.out.ne (i := 1) (j := 0) rfl rfl (by decide); clear o_ k_ hb_))
    go_loopw [29] (fun i wr => ReI N w a0 l0 gr gm i wr) (fun i _ => l0.length - (intOf i).toNat)
    case atStart => exact ⟨0, 0, 0, by omega, by omega, rfl, ⟨by omega, by omega⟩, O4, K4⟩
    case round =>
      clear c4_0_0 f4_0_0 c4_0_1 f4_0_1 c4_0_2 f4_0_2 c4_1_0 f4_1_0 c4_1_1 f4_1_1 c4_1_2 f4_1_2 n4_0_1 n4_1_0
      obtain ⟨x, p, e, hx0, hx1, rfl, HI, OA, KA⟩ := hrel
      have hF2 := keepF HRL0.out KA.out
      have hLx := HL200.out
      by_cases hlt : x < (l0.length : Int)
      · obtain ⟨ad, e3, x0, x1, x2⟩ := at_E hF2 x hx0 hlt
        cases e3
        have hs2 : wrap64 (x + 1) = x + 1 := by unfold wrap64; omega
        have hp := eq_true hx0
        have hq := eq_true hlt
        have hd : decide (x < (l0.length : Int)) = true := decide_eq_true hlt
        have HX := Aside0.mk (And.intro hx0 hlt)
        clear hF2 hlt hx0 hx1
        have O5 : Aside0 (Own N wr [RP gr a0 p e, RM gm a0 p e]) := ⟨OA.out⟩
        have K5 : Aside0 (KeepS N w wr) := ⟨KA.out⟩
        have c5_0_0 : wr.cell? ⟨gr, 0, none⟩ = some (.string a0) := (blk_cell (O5.out.blk (i := 0) rfl) 0).trans rfl
        have f5_0_0 : wr.frozen? ⟨gr, 0, none⟩ = false := blk_frozen (O5.out.blk (i := 0) rfl) 0
        have c5_0_1 : wr.cell? ⟨gr, 1, none⟩ = some (.int .i64 p) := (blk_cell (O5.out.blk (i := 0) rfl) 1).trans rfl
        have f5_0_1 : wr.frozen? ⟨gr, 1, none⟩ = false := blk_frozen (O5.out.blk (i := 0) rfl) 1
        have c5_0_2 : wr.cell? ⟨gr, 2, none⟩ = some (.int .i64 e) := (blk_cell (O5.out.blk (i := 0) rfl) 2).trans rfl
        have f5_0_2 : wr.frozen? ⟨gr, 2, none⟩ = false := blk_frozen (O5.out.blk (i := 0) rfl) 2
        have c5_1_0 : wr.cell? ⟨gm, 0, none⟩ = some (.string a0) := (blk_cell (O5.out.blk (i := 1) rfl) 0).trans rfl
        have f5_1_0 : wr.frozen? ⟨gm, 0, none⟩ = false := blk_frozen (O5.out.blk (i := 1) rfl) 0
        have c5_1_1 : wr.cell? ⟨gm, 1, none⟩ = some (.int .i64 p) := (blk_cell (O5.out.blk (i := 1) rfl) 1).trans rfl
        have f5_1_1 : wr.frozen? ⟨gm, 1, none⟩ = false := blk_frozen (O5.out.blk (i := 1) rfl) 1
        have c5_1_2 : wr.cell? ⟨gm, 2, none⟩ = some (.int .i64 e) := (blk_cell (O5.out.blk (i := 1) rfl) 2).trans rfl
        have f5_1_2 : wr.frozen? ⟨gm, 2, none⟩ = false := blk_frozen (O5.out.blk (i := 1) rfl) 2
        have n5_0_1 : gr ≠ gm := O5.out.ne (i := 0) (j := 1) rfl rfl (by decide)
        have n5_1_0 : gm ≠ gr := O5.out.ne (i := 1) (j := 0) rfl rfl (by decide)
        clear OA KA
        by_cases hk1 : (rd_T46 l0 x).f0 = 1
        · have hb1 : ((rd_T46 l0 x).f0 == 1) = true := beq_iff_eq.2 hk1
          clear hk1
          obtain ⟨⟨v, p2, e2⟩, hq0⟩ : ∃ q, q = numR a0 p e (rd_T46 l0 x).f1 := ⟨_, rfl⟩
          have HQ := Aside0.mk hq0.symm
          clear hq0
          have hvv : (v == v) = true := by simp
          have hvd : decide (v = v) = true := by simp
          have hee : (e2 != e2) = false := by simp
          go_wp2_with (first | ((with_reducible refine gate_dst (N := 8) rfl ?_); refine own_box rfl (D := 8) rfl (cs := #[.int .i64 0, .int .i64 0, .string (⟨#[]⟩ : ByteArray)]) (t := 46) ?hr O5.out ?_; (case hr => first | (go_simp; done) | (go_simp; rfl)); intro gx w6 o_ k_; have O6 : Aside0 (Own N w6 [RP gr a0 p e, RM gm a0 p e, cells gx #[.int .i64 0, .int .i64 0, .string (⟨#[]⟩ : ByteArray)] 46]) := ⟨o_⟩; have K6 : Aside0 (KeepS N w w6) := ⟨K5.out.trans k_⟩; clear c5_0_0 f5_0_0 c5_0_1 f5_0_1 c5_0_2 f5_0_2 c5_1_0 f5_1_0 c5_1_1 f5_1_1 c5_1_2 f5_1_2 n5_0_1 n5_1_0 O5 K5; have c6_0_0 : w6.cell? ⟨gr, 0, none⟩ = some (.string a0) := (blk_cell (O6.out.blk (i := 0) rfl) 0).trans rfl; have f6_0_0 : w6.frozen? ⟨gr, 0, none⟩ = false := blk_frozen (O6.out.blk (i := 0) rfl) 0; have c6_0_1 : w6.cell? ⟨gr, 1, none⟩ = some (.int .i64 p) := (blk_cell (O6.out.blk (i := 0) rfl) 1).trans rfl; have f6_0_1 : w6.frozen? ⟨gr, 1, none⟩ = false := blk_frozen (O6.out.blk (i := 0) rfl) 1; have c6_0_2 : w6.cell? ⟨gr, 2, none⟩ = some (.int .i64 e) := (blk_cell (O6.out.blk (i := 0) rfl) 2).trans rfl; have f6_0_2 : w6.frozen? ⟨gr, 2, none⟩ = false := blk_frozen (O6.out.blk (i := 0) rfl) 2; have c6_1_0 : w6.cell? ⟨gm, 0, none⟩ = some (.string a0) := (blk_cell (O6.out.blk (i := 1) rfl) 0).trans rfl; have f6_1_0 : w6.frozen? ⟨gm, 0, none⟩ = false := blk_frozen (O6.out.blk (i := 1) rfl) 0; have c6_1_1 : w6.cell? ⟨gm, 1, none⟩ = some (.int .i64 p) := (blk_cell (O6.out.blk (i := 1) rfl) 1).trans rfl; have f6_1_1 : w6.frozen? ⟨gm, 1, none⟩ = false := blk_frozen (O6.out.blk (i := 1) rfl) 1; have c6_1_2 : w6.cell? ⟨gm, 2, none⟩ = some (.int .i64 e) := (blk_cell (O6.out.blk (i := 1) rfl) 2).trans rfl; have f6_1_2 : w6.frozen? ⟨gm, 2, none⟩ = false := blk_frozen (O6.out.blk (i := 1) rfl) 2; have c6_2_0 : w6.cell? ⟨gx, 0, none⟩ = some (.int .i64 0) := (blk_cell (O6.out.blk (i := 2) rfl) 0).trans rfl; have f6_2_0 : w6.frozen? ⟨gx, 0, none⟩ = false := blk_frozen (O6.out.blk (i := 2) rfl) 0; have c6_2_1 : w6.cell? ⟨gx, 1, none⟩ = some (.int .i64 0) := (blk_cell (O6.out.blk (i := 2) rfl) 1).trans rfl; have f6_2_1 : w6.frozen? ⟨gx, 1, none⟩ = false := blk_frozen (O6.out.blk (i := 2) rfl) 1; have c6_2_2 : w6.cell? ⟨gx, 2, none⟩ = some (.string (⟨#[]⟩ : ByteArray)) := (blk_cell (O6.out.blk (i := 2) rfl) 2).trans rfl; have f6_2_2 : w6.frozen? ⟨gx, 2, none⟩ = false := blk_frozen (O6.out.blk (i := 2) rfl) 2; have n6_0_1 : gr ≠ gm := O6.out.ne (i := 0) (j := 1) rfl rfl (by decide); have n6_0_2 : gr ≠ gx := O6.out.ne (i := 0) (j := 2) rfl rfl (by decide); have n6_1_0 : gm ≠ gr := O6.out.ne (i := 1) (j := 0) rfl rfl (by decide); have n6_1_2 : gm ≠ gx := O6.out.ne (i := 1) (j := 2) rfl rfl (by decide); have n6_2_0 : gx ≠ gr := O6.out.ne (i := 2) (j := 0) rfl rfl (by decide); have n6_2_1 : gx ≠ gm := O6.out.ne (i := 2) (j := 1) rfl rfl (by decide); clear o_ k_) | ((with_reducible refine gate_store (t := 46) (p := 8) rfl ?_); refine own_store rfl rfl rfl (w1 := (World.setCell (World.setCell (World.setCell w6 ⟨gx, 0, none⟩ (.int .i64 (rd_T46 l0 x).f0)) ⟨gx, 1, none⟩ (.int .i64 (rd_T46 l0 x).f1)) ⟨gx, 2, none⟩ (.string (rd_T46 l0 x).f2))) (N := N) (l' := [RP gr a0 p e, RM gm a0 p e, cells gx #[.int .i64 (rd_T46 l0 x).f0, .int .i64 (rd_T46 l0 x).f1, .string (rd_T46 l0 x).f2] 46]) ?hr ?ho ?hk ?_; (case hr => first | (go_simp; done) | (go_simp; rfl)); (case ho => exact (((O6.out.set (i := 2) rfl 0 (.int .i64 (rd_T46 l0 x).f0)).set (i := 2) rfl 1 (.int .i64 (rd_T46 l0 x).f1)).set (i := 2) rfl 2 (.string (rd_T46 l0 x).f2))); (case hk => exact (((KeepS.setCell (O6.out.far (i := 2) rfl) (.int .i64 (rd_T46 l0 x).f0)).trans (KeepS.setCell (O6.out.far (i := 2) rfl) (.int .i64 (rd_T46 l0 x).f1))).trans (KeepS.setCell (O6.out.far (i := 2) rfl) (.string (rd_T46 l0 x).f2)))); intro w7 o_ k_; have O7 : Aside0 (Own N w7 [RP gr a0 p e, RM gm a0 p e, cells gx #[.int .i64 (rd_T46 l0 x).f0, .int .i64 (rd_T46 l0 x).f1, .string (rd_T46 l0 x).f2] 46]) := ⟨o_⟩; have K7 : Aside0 (KeepS N w w7) := ⟨K6.out.trans k_⟩; clear c6_0_0 f6_0_0 c6_0_1 f6_0_1 c6_0_2 f6_0_2 c6_1_0 f6_1_0 c6_1_1 f6_1_1 c6_1_2 f6_1_2 c6_2_0 f6_2_0 c6_2_1 f6_2_1 c6_2_2 f6_2_2 n6_0_1 n6_0_2 n6_1_0 n6_1_2 n6_2_0 n6_2_1 O6 K6; have c7_0_0 : w7.cell? ⟨gr, 0, none⟩ = some (.string a0) := (blk_cell (O7.out.blk (i := 0) rfl) 0).trans rfl; have f7_0_0 : w7.frozen? ⟨gr, 0, none⟩ = false := blk_frozen (O7.out.blk (i := 0) rfl) 0; have c7_0_1 : w7.cell? ⟨gr, 1, none⟩ = some (.int .i64 p) := (blk_cell (O7.out.blk (i := 0) rfl) 1).trans rfl; have f7_0_1 : w7.frozen? ⟨gr, 1, none⟩ = false := blk_frozen (O7.out.blk (i := 0) rfl) 1; have c7_0_2 : w7.cell? ⟨gr, 2, none⟩ = some (.int .i64 e) := (blk_cell (O7.out.blk (i := 0) rfl) 2).trans rfl; have f7_0_2 : w7.frozen? ⟨gr, 2, none⟩ = false := blk_frozen (O7.out.blk (i := 0) rfl) 2; have c7_1_0 : w7.cell? ⟨gm, 0, none⟩ = some (.string a0) := (blk_cell (O7.out.blk (i := 1) rfl) 0).trans rfl; have f7_1_0 : w7.frozen? ⟨gm, 0, none⟩ = false := blk_frozen (O7.out.blk (i := 1) rfl) 0; have c7_1_1 : w7.cell? ⟨gm, 1, none⟩ = some (.int .i64 p) := (blk_cell (O7.out.blk (i := 1) rfl) 1).trans rfl; have f7_1_1 : w7.frozen? ⟨gm, 1, none⟩ = false := blk_frozen (O7.out.blk (i := 1) rfl) 1; have c7_1_2 : w7.cell? ⟨gm, 2, none⟩ = some (.int .i64 e) := (blk_cell (O7.out.blk (i := 1) rfl) 2).trans rfl; have f7_1_2 : w7.frozen? ⟨gm, 2, none⟩ = false := blk_frozen (O7.out.blk (i := 1) rfl) 2; have c7_2_0 : w7.cell? ⟨gx, 0, none⟩ = some (.int .i64 (rd_T46 l0 x).f0) := (blk_cell (O7.out.blk (i := 2) rfl) 0).trans rfl; have f7_2_0 : w7.frozen? ⟨gx, 0, none⟩ = false := blk_frozen (O7.out.blk (i := 2) rfl) 0; have c7_2_1 : w7.cell? ⟨gx, 1, none⟩ = some (.int .i64 (rd_T46 l0 x).f1) := (blk_cell (O7.out.blk (i := 2) rfl) 1).trans rfl; have f7_2_1 : w7.frozen? ⟨gx, 1, none⟩ = false := blk_frozen (O7.out.blk (i := 2) rfl) 1; have c7_2_2 : w7.cell? ⟨gx, 2, none⟩ = some (.string (rd_T46 l0 x).f2) := (blk_cell (O7.out.blk (i := 2) rfl) 2).trans rfl; have f7_2_2 : w7.frozen? ⟨gx, 2, none⟩ = false := blk_frozen (O7.out.blk (i := 2) rfl) 2; have n7_0_1 : gr ≠ gm := O7.out.ne (i := 0) (j := 1) rfl rfl (by decide); have n7_0_2 : gr ≠ gx := O7.out.ne (i := 0) (j := 2) rfl rfl (by decide); have n7_1_0 : gm ≠ gr := O7.out.ne (i := 1) (j := 0) rfl rfl (by decide); have n7_1_2 : gm ≠ gx := O7.out.ne (i := 1) (j := 2) rfl rfl (by decide); have n7_2_0 : gx ≠ gr := O7.out.ne (i := 2) (j := 0) rfl rfl (by decide); have n7_2_1 : gx ≠ gm := O7.out.ne (i := 2) (j := 1) rfl rfl (by decide); clear o_ k_))
          refine start_ (n := 10) (S := fun w' => w'.cell? ⟨gx, 0, none⟩ = some (.int .i64 (rd_T46 l0 x).f0) ∧ w'.cell? ⟨gx, 1, none⟩ = some (.int .i64 (rd_T46 l0 x).f1) ∧ w'.cell? ⟨gx, 2, none⟩ = some (.string (rd_T46 l0 x).f2)) (ds := []) #[false, false, false, false, false, false, false, false, false, false] (by kernel_rfl) rfl rfl ⟨((blk_cell (O7.out.blk (i := 2) rfl) 0).trans rfl), ((blk_cell (O7.out.blk (i := 2) rfl) 1).trans rfl), ((blk_cell (O7.out.blk (i := 2) rfl) 2).trans rfl)⟩ (fun hHeld => ?_)
          obtain ⟨w8, hw_⟩ : ∃ W, W = w7.drew := ⟨_, rfl⟩
          have o_ := O7.out.drew
          have k_ : KeepS N w7 w7.drew := KeepS.drew
          rw [← hw_] at o_ k_ hHeld ⊢
          clear hw_
          have O8 : Aside0 (Own N w8 [RP gr a0 p e, RM gm a0 p e, cells gx #[.int .i64 (rd_T46 l0 x).f0, .int .i64 (rd_T46 l0 x).f1, .string (rd_T46 l0 x).f2] 46]) := ⟨o_⟩
          have K8 : Aside0 (KeepS N w w8) := ⟨K7.out.trans k_⟩
          clear c7_0_0 f7_0_0 c7_0_1 f7_0_1 c7_0_2 f7_0_2 c7_1_0 f7_1_0 c7_1_1 f7_1_1 c7_1_2 f7_1_2 c7_2_0 f7_2_0 c7_2_1 f7_2_1 c7_2_2 f7_2_2 n7_0_1 n7_0_2 n7_1_0 n7_1_2 n7_2_0 n7_2_1 O7 K7
          have c8_0_0 : w8.cell? ⟨gr, 0, none⟩ = some (.string a0) := (blk_cell (O8.out.blk (i := 0) rfl) 0).trans rfl
          have f8_0_0 : w8.frozen? ⟨gr, 0, none⟩ = false := blk_frozen (O8.out.blk (i := 0) rfl) 0
          have c8_0_1 : w8.cell? ⟨gr, 1, none⟩ = some (.int .i64 p) := (blk_cell (O8.out.blk (i := 0) rfl) 1).trans rfl
          have f8_0_1 : w8.frozen? ⟨gr, 1, none⟩ = false := blk_frozen (O8.out.blk (i := 0) rfl) 1
          have c8_0_2 : w8.cell? ⟨gr, 2, none⟩ = some (.int .i64 e) := (blk_cell (O8.out.blk (i := 0) rfl) 2).trans rfl
          have f8_0_2 : w8.frozen? ⟨gr, 2, none⟩ = false := blk_frozen (O8.out.blk (i := 0) rfl) 2
          have c8_1_0 : w8.cell? ⟨gm, 0, none⟩ = some (.string a0) := (blk_cell (O8.out.blk (i := 1) rfl) 0).trans rfl
          have f8_1_0 : w8.frozen? ⟨gm, 0, none⟩ = false := blk_frozen (O8.out.blk (i := 1) rfl) 0
          have c8_1_1 : w8.cell? ⟨gm, 1, none⟩ = some (.int .i64 p) := (blk_cell (O8.out.blk (i := 1) rfl) 1).trans rfl
          have f8_1_1 : w8.frozen? ⟨gm, 1, none⟩ = false := blk_frozen (O8.out.blk (i := 1) rfl) 1
          have c8_1_2 : w8.cell? ⟨gm, 2, none⟩ = some (.int .i64 e) := (blk_cell (O8.out.blk (i := 1) rfl) 2).trans rfl
          have f8_1_2 : w8.frozen? ⟨gm, 2, none⟩ = false := blk_frozen (O8.out.blk (i := 1) rfl) 2
          have c8_2_0 : w8.cell? ⟨gx, 0, none⟩ = some (.int .i64 (rd_T46 l0 x).f0) := (blk_cell (O8.out.blk (i := 2) rfl) 0).trans rfl
          have f8_2_0 : w8.frozen? ⟨gx, 0, none⟩ = false := blk_frozen (O8.out.blk (i := 2) rfl) 0
          have c8_2_1 : w8.cell? ⟨gx, 1, none⟩ = some (.int .i64 (rd_T46 l0 x).f1) := (blk_cell (O8.out.blk (i := 2) rfl) 1).trans rfl
          have f8_2_1 : w8.frozen? ⟨gx, 1, none⟩ = false := blk_frozen (O8.out.blk (i := 2) rfl) 1
          have c8_2_2 : w8.cell? ⟨gx, 2, none⟩ = some (.string (rd_T46 l0 x).f2) := (blk_cell (O8.out.blk (i := 2) rfl) 2).trans rfl
          have f8_2_2 : w8.frozen? ⟨gx, 2, none⟩ = false := blk_frozen (O8.out.blk (i := 2) rfl) 2
          have n8_0_1 : gr ≠ gm := O8.out.ne (i := 0) (j := 1) rfl rfl (by decide)
          have n8_0_2 : gr ≠ gx := O8.out.ne (i := 0) (j := 2) rfl rfl (by decide)
          have n8_1_0 : gm ≠ gr := O8.out.ne (i := 1) (j := 0) rfl rfl (by decide)
          have n8_1_2 : gm ≠ gx := O8.out.ne (i := 1) (j := 2) rfl rfl (by decide)
          have n8_2_0 : gx ≠ gr := O8.out.ne (i := 2) (j := 0) rfl rfl (by decide)
          have n8_2_1 : gx ≠ gm := O8.out.ne (i := 2) (j := 1) rfl rfl (by decide)
          clear o_ k_
          refine pure_ (i := 0) (N := some 37) (v := ?_) (a' := ?_) #[true, false, false, false, false, false, false, false, false, false] rfl rfl (by kernel_rfl) (fun _ _ _ h => h) (Or.inl ⟨by rfl, ?_⟩) ?_ ?_
          rotate_left
          · intro w'
            go_simp
            with_reducible rfl
          rotate_left
          · simp only [Act.put, List.setIfInBounds_toArray, List.set_cons_zero, List.set_cons_succ, i64_w, i32_w]
            rfl
          refine pure_ (i := 1) (N := some 38) (v := ?_) (a' := ?_) #[true, true, false, false, false, false, false, false, false, false] rfl rfl (by kernel_rfl) (fun _ _ _ h => h) (Or.inl ⟨by rfl, ?_⟩) ?_ ?_
          rotate_left
          · intro w'
            go_simp
            with_reducible rfl
          rotate_left
          · simp only [Act.put, List.setIfInBounds_toArray, List.set_cons_zero, List.set_cons_succ, i64_w, i32_w]
            rfl
          refine pure_ (i := 4) (N := some 41) (v := ?_) (a' := ?_) #[true, true, false, false, true, false, false, false, false, false] rfl rfl (by kernel_rfl) (fun _ _ _ h => h) (Or.inl ⟨by rfl, ?_⟩) ?_ ?_
          rotate_left
          · intro w'
            go_simp
            with_reducible rfl
          rotate_left
          · simp only [Act.put, List.setIfInBounds_toArray, List.set_cons_zero, List.set_cons_succ, i64_w, i32_w]
            rfl
          refine pure_ (i := 5) (N := some 42) (v := ?_) (a' := ?_) #[true, true, false, false, true, true, false, false, false, false] rfl rfl (by kernel_rfl) (fun _ _ _ h => h) (Or.inl ⟨by rfl, ?_⟩) ?_ ?_
          rotate_left
          · intro w'
            go_simp
            with_reducible rfl
          rotate_left
          · simp only [Act.put, List.setIfInBounds_toArray, List.set_cons_zero, List.set_cons_succ, i64_w, i32_w]
            rfl
          refine take_ (i := 2) (N := some 39) (v := ?_) (a' := ?_) #[true, true, true, false, true, true, false, false, false, false] rfl rfl (by kernel_rfl) (fun _ _ _ h => h) (Or.inl ⟨by rfl, ?_⟩) hHeld ?_ ?_
          rotate_left
          · rintro w' ⟨s0, s1, s2⟩
            go_simp
            with_reducible rfl
          rotate_left
          · simp only [Act.put, List.setIfInBounds_toArray, List.set_cons_zero, List.set_cons_succ, i64_w, i32_w]
            rfl
          refine take_ (i := 6) (N := some 43) (v := ?_) (a' := ?_) #[true, true, true, false, true, true, true, false, false, false] rfl rfl (by kernel_rfl) (fun _ _ _ h => h) (Or.inl ⟨by rfl, ?_⟩) hHeld ?_ ?_
          rotate_left
          · rintro w' ⟨s0, s1, s2⟩
            go_simp
            with_reducible rfl
          rotate_left
          · simp only [Act.put, List.setIfInBounds_toArray, List.set_cons_zero, List.set_cons_succ, i64_w, i32_w]
            rfl
          refine one_ (i := 3) (N := some 40) #[true, true, true, true, true, true, true, false, false, false] rfl rfl (by kernel_rfl) (by decide) (fun K_ hK_ => ?_)
          refine goes_ Tryd.func19 (by kernel_rfl) rfl #[.pointer (some ⟨gr, 0, none⟩), .int .i64 (rd_T46 l0 x).f1] (by rfl) rfl rfl (by (try simp only [List.map_toArray, List.map_cons, List.map_nil]); first | done | rfl) ?_
          obtain ⟨N_, on_, nn_, rr_, bb_⟩ := O8.out.frame1 (i := 0) rfl
          refine (pNum HT (K8.out.below (Nat.le_refl _) (fun k hk => by rw [HN.out]; exact hk)) (Nat.le_of_not_lt (fun q_ => (O8.out.far (i := 0) rfl) (by rw [HN.out]; exact q_))) HSZ.out _ v p2 e2 HQ.out on_).mono ?_
          rintro e_ w9 ⟨rfl, oo_, kk_⟩
          obtain ⟨o_, k_⟩ := bb_ _ _ _ kk_ oo_
          refine ⟨_, rfl, ?_⟩
          have O9 : Aside0 (Own N w9 [RP gr a0 p2 e2, RM gm a0 p e, cells gx #[.int .i64 (rd_T46 l0 x).f0, .int .i64 (rd_T46 l0 x).f1, .string (rd_T46 l0 x).f2] 46]) := ⟨o_⟩
          have K9 : Aside0 (KeepS N w w9) := ⟨K8.out.trans k_⟩
          clear c8_0_0 f8_0_0 c8_0_1 f8_0_1 c8_0_2 f8_0_2 c8_1_0 f8_1_0 c8_1_1 f8_1_1 c8_1_2 f8_1_2 c8_2_0 f8_2_0 c8_2_1 f8_2_1 c8_2_2 f8_2_2 n8_0_1 n8_0_2 n8_1_0 n8_1_2 n8_2_0 n8_2_1 O8 K8
          have c9_0_0 : w9.cell? ⟨gr, 0, none⟩ = some (.string a0) := (blk_cell (O9.out.blk (i := 0) rfl) 0).trans rfl
          have f9_0_0 : w9.frozen? ⟨gr, 0, none⟩ = false := blk_frozen (O9.out.blk (i := 0) rfl) 0
          have c9_0_1 : w9.cell? ⟨gr, 1, none⟩ = some (.int .i64 p2) := (blk_cell (O9.out.blk (i := 0) rfl) 1).trans rfl
          have f9_0_1 : w9.frozen? ⟨gr, 1, none⟩ = false := blk_frozen (O9.out.blk (i := 0) rfl) 1
          have c9_0_2 : w9.cell? ⟨gr, 2, none⟩ = some (.int .i64 e2) := (blk_cell (O9.out.blk (i := 0) rfl) 2).trans rfl
          have f9_0_2 : w9.frozen? ⟨gr, 2, none⟩ = false := blk_frozen (O9.out.blk (i := 0) rfl) 2
          have c9_1_0 : w9.cell? ⟨gm, 0, none⟩ = some (.string a0) := (blk_cell (O9.out.blk (i := 1) rfl) 0).trans rfl
          have f9_1_0 : w9.frozen? ⟨gm, 0, none⟩ = false := blk_frozen (O9.out.blk (i := 1) rfl) 0
          have c9_1_1 : w9.cell? ⟨gm, 1, none⟩ = some (.int .i64 p) := (blk_cell (O9.out.blk (i := 1) rfl) 1).trans rfl
          have f9_1_1 : w9.frozen? ⟨gm, 1, none⟩ = false := blk_frozen (O9.out.blk (i := 1) rfl) 1
          have c9_1_2 : w9.cell? ⟨gm, 2, none⟩ = some (.int .i64 e) := (blk_cell (O9.out.blk (i := 1) rfl) 2).trans rfl
          have f9_1_2 : w9.frozen? ⟨gm, 2, none⟩ = false := blk_frozen (O9.out.blk (i := 1) rfl) 2
          have c9_2_0 : w9.cell? ⟨gx, 0, none⟩ = some (.int .i64 (rd_T46 l0 x).f0) := (blk_cell (O9.out.blk (i := 2) rfl) 0).trans rfl
          have f9_2_0 : w9.frozen? ⟨gx, 0, none⟩ = false := blk_frozen (O9.out.blk (i := 2) rfl) 0
          have c9_2_1 : w9.cell? ⟨gx, 1, none⟩ = some (.int .i64 (rd_T46 l0 x).f1) := (blk_cell (O9.out.blk (i := 2) rfl) 1).trans rfl
          have f9_2_1 : w9.frozen? ⟨gx, 1, none⟩ = false := blk_frozen (O9.out.blk (i := 2) rfl) 1
          have c9_2_2 : w9.cell? ⟨gx, 2, none⟩ = some (.string (rd_T46 l0 x).f2) := (blk_cell (O9.out.blk (i := 2) rfl) 2).trans rfl
          have f9_2_2 : w9.frozen? ⟨gx, 2, none⟩ = false := blk_frozen (O9.out.blk (i := 2) rfl) 2
          have n9_0_1 : gr ≠ gm := O9.out.ne (i := 0) (j := 1) rfl rfl (by decide)
          have n9_0_2 : gr ≠ gx := O9.out.ne (i := 0) (j := 2) rfl rfl (by decide)
          have n9_1_0 : gm ≠ gr := O9.out.ne (i := 1) (j := 0) rfl rfl (by decide)
          have n9_1_2 : gm ≠ gx := O9.out.ne (i := 1) (j := 2) rfl rfl (by decide)
          have n9_2_0 : gx ≠ gr := O9.out.ne (i := 2) (j := 0) rfl rfl (by decide)
          have n9_2_1 : gx ≠ gm := O9.out.ne (i := 2) (j := 1) rfl rfl (by decide)
          clear o_ k_ oo_ kk_ on_ nn_ rr_ bb_
          clear hHeld
          refine hK_.out _ _ ⟨((blk_cell (O9.out.blk (i := 2) rfl) 0).trans rfl), ((blk_cell (O9.out.blk (i := 2) rfl) 1).trans rfl), ((blk_cell (O9.out.blk (i := 2) rfl) 2).trans rfl)⟩ (fun hHeld => ?_)
          clear hK_ K_
          refine norm_ (a' := ?_) ?_ ?_
          rotate_left
          · simp only [Act.put, List.setIfInBounds_toArray, List.set_cons_zero, List.set_cons_succ, i64_w, i32_w]
            rfl
          refine one_ (i := 7) (N := some 44) #[true, true, true, true, true, true, true, true, false, false] rfl rfl (by kernel_rfl) (by decide) (fun K_ hK_ => ?_)
          refine goes_ Tryd.func24 (by kernel_rfl) rfl #[.pointer (some ⟨gm, 0, none⟩), .int .i64 (rd_T46 l0 x).f1] (by rfl) rfl rfl (by (try simp only [List.map_toArray, List.map_cons, List.map_nil]); first | done | rfl) ?_
          obtain ⟨N_, on_, nn_, rr_, bb_⟩ := O9.out.frame1 (i := 1) rfl
          refine (rNum (K9.out.below (Nat.le_refl _) (fun k hk => by rw [HN.out]; exact hk)) (Nat.le_of_not_lt (fun q_ => (O9.out.far (i := 1) rfl) (by rw [HN.out]; exact q_))) HSZ.out _ v p2 e2 HQ.out on_).mono ?_
          rintro e_ w10 ⟨rfl, oo_, kk_⟩
          obtain ⟨o_, k_⟩ := bb_ _ _ _ kk_ oo_
          refine ⟨_, rfl, ?_⟩
          have O10 : Aside0 (Own N w10 [RP gr a0 p2 e2, RM gm a0 p2 e2, cells gx #[.int .i64 (rd_T46 l0 x).f0, .int .i64 (rd_T46 l0 x).f1, .string (rd_T46 l0 x).f2] 46]) := ⟨o_⟩
          have K10 : Aside0 (KeepS N w w10) := ⟨K9.out.trans k_⟩
          clear c9_0_0 f9_0_0 c9_0_1 f9_0_1 c9_0_2 f9_0_2 c9_1_0 f9_1_0 c9_1_1 f9_1_1 c9_1_2 f9_1_2 c9_2_0 f9_2_0 c9_2_1 f9_2_1 c9_2_2 f9_2_2 n9_0_1 n9_0_2 n9_1_0 n9_1_2 n9_2_0 n9_2_1 O9 K9
          have c10_0_0 : w10.cell? ⟨gr, 0, none⟩ = some (.string a0) := (blk_cell (O10.out.blk (i := 0) rfl) 0).trans rfl
          have f10_0_0 : w10.frozen? ⟨gr, 0, none⟩ = false := blk_frozen (O10.out.blk (i := 0) rfl) 0
          have c10_0_1 : w10.cell? ⟨gr, 1, none⟩ = some (.int .i64 p2) := (blk_cell (O10.out.blk (i := 0) rfl) 1).trans rfl
          have f10_0_1 : w10.frozen? ⟨gr, 1, none⟩ = false := blk_frozen (O10.out.blk (i := 0) rfl) 1
          have c10_0_2 : w10.cell? ⟨gr, 2, none⟩ = some (.int .i64 e2) := (blk_cell (O10.out.blk (i := 0) rfl) 2).trans rfl
          have f10_0_2 : w10.frozen? ⟨gr, 2, none⟩ = false := blk_frozen (O10.out.blk (i := 0) rfl) 2
          have c10_1_0 : w10.cell? ⟨gm, 0, none⟩ = some (.string a0) := (blk_cell (O10.out.blk (i := 1) rfl) 0).trans rfl
          have f10_1_0 : w10.frozen? ⟨gm, 0, none⟩ = false := blk_frozen (O10.out.blk (i := 1) rfl) 0
          have c10_1_1 : w10.cell? ⟨gm, 1, none⟩ = some (.int .i64 p2) := (blk_cell (O10.out.blk (i := 1) rfl) 1).trans rfl
          have f10_1_1 : w10.frozen? ⟨gm, 1, none⟩ = false := blk_frozen (O10.out.blk (i := 1) rfl) 1
          have c10_1_2 : w10.cell? ⟨gm, 2, none⟩ = some (.int .i64 e2) := (blk_cell (O10.out.blk (i := 1) rfl) 2).trans rfl
          have f10_1_2 : w10.frozen? ⟨gm, 2, none⟩ = false := blk_frozen (O10.out.blk (i := 1) rfl) 2
          have c10_2_0 : w10.cell? ⟨gx, 0, none⟩ = some (.int .i64 (rd_T46 l0 x).f0) := (blk_cell (O10.out.blk (i := 2) rfl) 0).trans rfl
          have f10_2_0 : w10.frozen? ⟨gx, 0, none⟩ = false := blk_frozen (O10.out.blk (i := 2) rfl) 0
          have c10_2_1 : w10.cell? ⟨gx, 1, none⟩ = some (.int .i64 (rd_T46 l0 x).f1) := (blk_cell (O10.out.blk (i := 2) rfl) 1).trans rfl
          have f10_2_1 : w10.frozen? ⟨gx, 1, none⟩ = false := blk_frozen (O10.out.blk (i := 2) rfl) 1
          have c10_2_2 : w10.cell? ⟨gx, 2, none⟩ = some (.string (rd_T46 l0 x).f2) := (blk_cell (O10.out.blk (i := 2) rfl) 2).trans rfl
          have f10_2_2 : w10.frozen? ⟨gx, 2, none⟩ = false := blk_frozen (O10.out.blk (i := 2) rfl) 2
          have n10_0_1 : gr ≠ gm := O10.out.ne (i := 0) (j := 1) rfl rfl (by decide)
          have n10_0_2 : gr ≠ gx := O10.out.ne (i := 0) (j := 2) rfl rfl (by decide)
          have n10_1_0 : gm ≠ gr := O10.out.ne (i := 1) (j := 0) rfl rfl (by decide)
          have n10_1_2 : gm ≠ gx := O10.out.ne (i := 1) (j := 2) rfl rfl (by decide)
          have n10_2_0 : gx ≠ gr := O10.out.ne (i := 2) (j := 0) rfl rfl (by decide)
          have n10_2_1 : gx ≠ gm := O10.out.ne (i := 2) (j := 1) rfl rfl (by decide)
          clear o_ k_ oo_ kk_ on_ nn_ rr_ bb_
          clear hHeld
          refine hK_.out _ _ ⟨((blk_cell (O10.out.blk (i := 2) rfl) 0).trans rfl), ((blk_cell (O10.out.blk (i := 2) rfl) 1).trans rfl), ((blk_cell (O10.out.blk (i := 2) rfl) 2).trans rfl)⟩ (fun hHeld => ?_)
          clear hK_ K_
          refine norm_ (a' := ?_) ?_ ?_
          rotate_left
          · simp only [Act.put, List.setIfInBounds_toArray, List.set_cons_zero, List.set_cons_succ, i64_w, i32_w]
            rfl
          refine pure_ (i := 8) (N := some 45) (v := ?_) (a' := ?_) #[true, true, true, true, true, true, true, true, true, false] rfl rfl (by kernel_rfl) (fun _ _ _ h => h) (Or.inl ⟨by rfl, ?_⟩) ?_ ?_
          rotate_left
          · intro w'
            go_simp
            with_reducible rfl
          rotate_left
          · simp only [Act.put, List.setIfInBounds_toArray, List.set_cons_zero, List.set_cons_succ, i64_w, i32_w]
            rfl
          refine pure_ (i := 9) (N := some 9) (v := ?_) (a' := ?_) #[true, true, true, true, true, true, true, true, true, true] rfl rfl (by kernel_rfl) (fun _ _ _ h => h) (Or.inl ⟨by rfl, ?_⟩) ?_ ?_
          rotate_left
          · intro w'
            go_simp
            with_reducible rfl
          rotate_left
          · simp only [Act.put, List.setIfInBounds_toArray, List.set_cons_zero, List.set_cons_succ, i64_w, i32_w]
            rfl
          refine done_ (by kernel_rfl) ?_
          clear hHeld
          go_wp2
          refine start_ (n := 11) (S := fun w' => w'.cell? ⟨gm, 0, none⟩ = some (.string a0) ∧ w'.cell? ⟨gm, 1, none⟩ = some (.int .i64 p2) ∧ w'.cell? ⟨gm, 2, none⟩ = some (.int .i64 e2)) (ds := []) #[false, false, false, false, false, false, false, false, false, false, false] (by kernel_rfl) rfl rfl ⟨((blk_cell (O10.out.blk (i := 1) rfl) 0).trans rfl), ((blk_cell (O10.out.blk (i := 1) rfl) 1).trans rfl), ((blk_cell (O10.out.blk (i := 1) rfl) 2).trans rfl)⟩ (fun hHeld => ?_)
          obtain ⟨w11, hw_⟩ : ∃ W, W = w10.drew := ⟨_, rfl⟩
          have o_ := O10.out.drew
          have k_ : KeepS N w10 w10.drew := KeepS.drew
          rw [← hw_] at o_ k_ hHeld ⊢
          clear hw_
          have O11 : Aside0 (Own N w11 [RP gr a0 p2 e2, RM gm a0 p2 e2, cells gx #[.int .i64 (rd_T46 l0 x).f0, .int .i64 (rd_T46 l0 x).f1, .string (rd_T46 l0 x).f2] 46]) := ⟨o_⟩
          have K11 : Aside0 (KeepS N w w11) := ⟨K10.out.trans k_⟩
          clear c10_0_0 f10_0_0 c10_0_1 f10_0_1 c10_0_2 f10_0_2 c10_1_0 f10_1_0 c10_1_1 f10_1_1 c10_1_2 f10_1_2 c10_2_0 f10_2_0 c10_2_1 f10_2_1 c10_2_2 f10_2_2 n10_0_1 n10_0_2 n10_1_0 n10_1_2 n10_2_0 n10_2_1 O10 K10
          have c11_0_0 : w11.cell? ⟨gr, 0, none⟩ = some (.string a0) := (blk_cell (O11.out.blk (i := 0) rfl) 0).trans rfl
          have f11_0_0 : w11.frozen? ⟨gr, 0, none⟩ = false := blk_frozen (O11.out.blk (i := 0) rfl) 0
          have c11_0_1 : w11.cell? ⟨gr, 1, none⟩ = some (.int .i64 p2) := (blk_cell (O11.out.blk (i := 0) rfl) 1).trans rfl
          have f11_0_1 : w11.frozen? ⟨gr, 1, none⟩ = false := blk_frozen (O11.out.blk (i := 0) rfl) 1
          have c11_0_2 : w11.cell? ⟨gr, 2, none⟩ = some (.int .i64 e2) := (blk_cell (O11.out.blk (i := 0) rfl) 2).trans rfl
          have f11_0_2 : w11.frozen? ⟨gr, 2, none⟩ = false := blk_frozen (O11.out.blk (i := 0) rfl) 2
          have c11_1_0 : w11.cell? ⟨gm, 0, none⟩ = some (.string a0) := (blk_cell (O11.out.blk (i := 1) rfl) 0).trans rfl
          have f11_1_0 : w11.frozen? ⟨gm, 0, none⟩ = false := blk_frozen (O11.out.blk (i := 1) rfl) 0
          have c11_1_1 : w11.cell? ⟨gm, 1, none⟩ = some (.int .i64 p2) := (blk_cell (O11.out.blk (i := 1) rfl) 1).trans rfl
          have f11_1_1 : w11.frozen? ⟨gm, 1, none⟩ = false := blk_frozen (O11.out.blk (i := 1) rfl) 1
          have c11_1_2 : w11.cell? ⟨gm, 2, none⟩ = some (.int .i64 e2) := (blk_cell (O11.out.blk (i := 1) rfl) 2).trans rfl
          have f11_1_2 : w11.frozen? ⟨gm, 2, none⟩ = false := blk_frozen (O11.out.blk (i := 1) rfl) 2
          have c11_2_0 : w11.cell? ⟨gx, 0, none⟩ = some (.int .i64 (rd_T46 l0 x).f0) := (blk_cell (O11.out.blk (i := 2) rfl) 0).trans rfl
          have f11_2_0 : w11.frozen? ⟨gx, 0, none⟩ = false := blk_frozen (O11.out.blk (i := 2) rfl) 0
          have c11_2_1 : w11.cell? ⟨gx, 1, none⟩ = some (.int .i64 (rd_T46 l0 x).f1) := (blk_cell (O11.out.blk (i := 2) rfl) 1).trans rfl
          have f11_2_1 : w11.frozen? ⟨gx, 1, none⟩ = false := blk_frozen (O11.out.blk (i := 2) rfl) 1
          have c11_2_2 : w11.cell? ⟨gx, 2, none⟩ = some (.string (rd_T46 l0 x).f2) := (blk_cell (O11.out.blk (i := 2) rfl) 2).trans rfl
          have f11_2_2 : w11.frozen? ⟨gx, 2, none⟩ = false := blk_frozen (O11.out.blk (i := 2) rfl) 2
          have n11_0_1 : gr ≠ gm := O11.out.ne (i := 0) (j := 1) rfl rfl (by decide)
          have n11_0_2 : gr ≠ gx := O11.out.ne (i := 0) (j := 2) rfl rfl (by decide)
          have n11_1_0 : gm ≠ gr := O11.out.ne (i := 1) (j := 0) rfl rfl (by decide)
          have n11_1_2 : gm ≠ gx := O11.out.ne (i := 1) (j := 2) rfl rfl (by decide)
          have n11_2_0 : gx ≠ gr := O11.out.ne (i := 2) (j := 0) rfl rfl (by decide)
          have n11_2_1 : gx ≠ gm := O11.out.ne (i := 2) (j := 1) rfl rfl (by decide)
          clear o_ k_
          refine pure_ (i := 0) (N := some 81) (v := ?_) (a' := ?_) #[true, false, false, false, false, false, false, false, false, false, false] rfl rfl (by kernel_rfl) (fun _ _ _ h => h) (Or.inl ⟨by rfl, ?_⟩) ?_ ?_
          rotate_left
          · intro w'
            go_simp
            with_reducible rfl
          rotate_left
          · simp only [Act.put, List.setIfInBounds_toArray, List.set_cons_zero, List.set_cons_succ, i64_w, i32_w]
            rfl
          refine pure_ (i := 1) (N := some 82) (v := ?_) (a' := ?_) #[true, true, false, false, false, false, false, false, false, false, false] rfl rfl (by kernel_rfl) (fun _ _ _ h => h) (Or.inl ⟨by rfl, ?_⟩) ?_ ?_
          rotate_left
          · intro w'
            go_simp
            with_reducible rfl
          rotate_left
          · simp only [Act.put, List.setIfInBounds_toArray, List.set_cons_zero, List.set_cons_succ, i64_w, i32_w]
            rfl
          refine pure_ (i := 2) (N := some 83) (v := ?_) (a' := ?_) #[true, true, true, false, false, false, false, false, false, false, false] rfl rfl (by kernel_rfl) (fun _ _ _ h => h) (Or.inl ⟨by rfl, ?_⟩) ?_ ?_
          rotate_left
          · intro w'
            go_simp
            with_reducible rfl
          rotate_left
          · simp only [Act.put, List.setIfInBounds_toArray, List.set_cons_zero, List.set_cons_succ, i64_w, i32_w]
            rfl
          refine pure_ (i := 3) (N := some 84) (v := ?_) (a' := ?_) #[true, true, true, true, false, false, false, false, false, false, false] rfl rfl (by kernel_rfl) (fun _ _ _ h => h) (Or.inl ⟨by rfl, ?_⟩) ?_ ?_
          rotate_left
          · intro w'
            go_simp
            with_reducible rfl
          rotate_left
          · simp only [Act.put, List.setIfInBounds_toArray, List.set_cons_zero, List.set_cons_succ, i64_w, i32_w]
            rfl
          refine pure_ (i := 5) (N := some 86) (v := ?_) (a' := ?_) #[true, true, true, true, false, true, false, false, false, false, false] rfl rfl (by kernel_rfl) (fun _ _ _ h => h) (Or.inl ⟨by rfl, ?_⟩) ?_ ?_
          rotate_left
          · intro w'
            go_simp
            with_reducible rfl
          rotate_left
          · simp only [Act.put, List.setIfInBounds_toArray, List.set_cons_zero, List.set_cons_succ, i64_w, i32_w]
            rfl
          refine pure_ (i := 6) (N := some 87) (v := ?_) (a' := ?_) #[true, true, true, true, false, true, true, false, false, false, false] rfl rfl (by kernel_rfl) (fun _ _ _ h => h) (Or.inl ⟨by rfl, ?_⟩) ?_ ?_
          rotate_left
          · intro w'
            go_simp
            with_reducible rfl
          rotate_left
          · simp only [Act.put, List.setIfInBounds_toArray, List.set_cons_zero, List.set_cons_succ, i64_w, i32_w]
            rfl
          refine pure_ (i := 7) (N := some 88) (v := ?_) (a' := ?_) #[true, true, true, true, false, true, true, true, false, false, false] rfl rfl (by kernel_rfl) (fun _ _ _ h => h) (Or.inl ⟨by rfl, ?_⟩) ?_ ?_
          rotate_left
          · intro w'
            go_simp
            with_reducible rfl
          rotate_left
          · simp only [Act.put, List.setIfInBounds_toArray, List.set_cons_zero, List.set_cons_succ, i64_w, i32_w]
            rfl
          refine take_ (i := 8) (N := some 89) (v := ?_) (a' := ?_) #[true, true, true, true, false, true, true, true, true, false, false] rfl rfl (by kernel_rfl) (fun _ _ _ h => h) (Or.inl ⟨by rfl, ?_⟩) hHeld ?_ ?_
          rotate_left
          · rintro w' ⟨s0, s1, s2⟩
            go_simp
            with_reducible rfl
          rotate_left
          · simp only [Act.put, List.setIfInBounds_toArray, List.set_cons_zero, List.set_cons_succ, i64_w, i32_w]
            rfl
          refine one_ (i := 4) (N := some 85) #[true, true, true, true, true, true, true, true, true, false, false] rfl rfl (by kernel_rfl) (by decide) (fun K_ hK_ => ?_)
          refine goes_ Tryd.func22 (by kernel_rfl) rfl #[.pointer (some ⟨gr, 0, none⟩)] (by rfl) rfl rfl (by (try simp only [List.map_toArray, List.map_cons, List.map_nil]); first | done | rfl) ?_
          obtain ⟨N_, on_, nn_, rr_, bb_⟩ := O11.out.frame1 (i := 0) rfl
          refine (pErr (K11.out.below (Nat.le_refl _) (fun k hk => by rw [HN.out]; exact hk)) (Nat.le_of_not_lt (fun q_ => (O11.out.far (i := 0) rfl) (by rw [HN.out]; exact q_))) on_).mono ?_
          rintro e_ w12 ⟨rfl, oo_, kk_⟩
          obtain ⟨o_, k_⟩ := bb_ _ _ _ kk_ oo_
          refine ⟨_, rfl, ?_⟩
          have O12 : Aside0 (Own N w12 [RP gr a0 p2 e2, RM gm a0 p2 e2, cells gx #[.int .i64 (rd_T46 l0 x).f0, .int .i64 (rd_T46 l0 x).f1, .string (rd_T46 l0 x).f2] 46]) := ⟨o_⟩
          have K12 : Aside0 (KeepS N w w12) := ⟨K11.out.trans k_⟩
          clear c11_0_0 f11_0_0 c11_0_1 f11_0_1 c11_0_2 f11_0_2 c11_1_0 f11_1_0 c11_1_1 f11_1_1 c11_1_2 f11_1_2 c11_2_0 f11_2_0 c11_2_1 f11_2_1 c11_2_2 f11_2_2 n11_0_1 n11_0_2 n11_1_0 n11_1_2 n11_2_0 n11_2_1 O11 K11
          have c12_0_0 : w12.cell? ⟨gr, 0, none⟩ = some (.string a0) := (blk_cell (O12.out.blk (i := 0) rfl) 0).trans rfl
          have f12_0_0 : w12.frozen? ⟨gr, 0, none⟩ = false := blk_frozen (O12.out.blk (i := 0) rfl) 0
          have c12_0_1 : w12.cell? ⟨gr, 1, none⟩ = some (.int .i64 p2) := (blk_cell (O12.out.blk (i := 0) rfl) 1).trans rfl
          have f12_0_1 : w12.frozen? ⟨gr, 1, none⟩ = false := blk_frozen (O12.out.blk (i := 0) rfl) 1
          have c12_0_2 : w12.cell? ⟨gr, 2, none⟩ = some (.int .i64 e2) := (blk_cell (O12.out.blk (i := 0) rfl) 2).trans rfl
          have f12_0_2 : w12.frozen? ⟨gr, 2, none⟩ = false := blk_frozen (O12.out.blk (i := 0) rfl) 2
          have c12_1_0 : w12.cell? ⟨gm, 0, none⟩ = some (.string a0) := (blk_cell (O12.out.blk (i := 1) rfl) 0).trans rfl
          have f12_1_0 : w12.frozen? ⟨gm, 0, none⟩ = false := blk_frozen (O12.out.blk (i := 1) rfl) 0
          have c12_1_1 : w12.cell? ⟨gm, 1, none⟩ = some (.int .i64 p2) := (blk_cell (O12.out.blk (i := 1) rfl) 1).trans rfl
          have f12_1_1 : w12.frozen? ⟨gm, 1, none⟩ = false := blk_frozen (O12.out.blk (i := 1) rfl) 1
          have c12_1_2 : w12.cell? ⟨gm, 2, none⟩ = some (.int .i64 e2) := (blk_cell (O12.out.blk (i := 1) rfl) 2).trans rfl
          have f12_1_2 : w12.frozen? ⟨gm, 2, none⟩ = false := blk_frozen (O12.out.blk (i := 1) rfl) 2
          have c12_2_0 : w12.cell? ⟨gx, 0, none⟩ = some (.int .i64 (rd_T46 l0 x).f0) := (blk_cell (O12.out.blk (i := 2) rfl) 0).trans rfl
          have f12_2_0 : w12.frozen? ⟨gx, 0, none⟩ = false := blk_frozen (O12.out.blk (i := 2) rfl) 0
          have c12_2_1 : w12.cell? ⟨gx, 1, none⟩ = some (.int .i64 (rd_T46 l0 x).f1) := (blk_cell (O12.out.blk (i := 2) rfl) 1).trans rfl
          have f12_2_1 : w12.frozen? ⟨gx, 1, none⟩ = false := blk_frozen (O12.out.blk (i := 2) rfl) 1
          have c12_2_2 : w12.cell? ⟨gx, 2, none⟩ = some (.string (rd_T46 l0 x).f2) := (blk_cell (O12.out.blk (i := 2) rfl) 2).trans rfl
          have f12_2_2 : w12.frozen? ⟨gx, 2, none⟩ = false := blk_frozen (O12.out.blk (i := 2) rfl) 2
          have n12_0_1 : gr ≠ gm := O12.out.ne (i := 0) (j := 1) rfl rfl (by decide)
          have n12_0_2 : gr ≠ gx := O12.out.ne (i := 0) (j := 2) rfl rfl (by decide)
          have n12_1_0 : gm ≠ gr := O12.out.ne (i := 1) (j := 0) rfl rfl (by decide)
          have n12_1_2 : gm ≠ gx := O12.out.ne (i := 1) (j := 2) rfl rfl (by decide)
          have n12_2_0 : gx ≠ gr := O12.out.ne (i := 2) (j := 0) rfl rfl (by decide)
          have n12_2_1 : gx ≠ gm := O12.out.ne (i := 2) (j := 1) rfl rfl (by decide)
          clear o_ k_ oo_ kk_ on_ nn_ rr_ bb_
          clear hHeld
          refine hK_.out _ _ ⟨((blk_cell (O12.out.blk (i := 1) rfl) 0).trans rfl), ((blk_cell (O12.out.blk (i := 1) rfl) 1).trans rfl), ((blk_cell (O12.out.blk (i := 1) rfl) 2).trans rfl)⟩ (fun hHeld => ?_)
          clear hK_ K_
          refine norm_ (a' := ?_) ?_ ?_
          rotate_left
          · simp only [Act.put, List.setIfInBounds_toArray, List.set_cons_zero, List.set_cons_succ, i64_w, i32_w]
            rfl
          refine pure_ (i := 9) (N := some 90) (v := ?_) (a' := ?_) #[true, true, true, true, true, true, true, true, true, true, false] rfl rfl (by kernel_rfl) (fun _ _ _ h => h) (Or.inl ⟨by rfl, ?_⟩) ?_ ?_
          rotate_left
          · intro w'
            go_simp
            with_reducible rfl
          rotate_left
          · simp only [Act.put, List.setIfInBounds_toArray, List.set_cons_zero, List.set_cons_succ, i64_w, i32_w]
            rfl
          refine pure_ (i := 10) (N := some 91) (v := ?_) (a' := ?_) #[true, true, true, true, true, true, true, true, true, true, true] rfl rfl (by kernel_rfl) (fun _ _ _ h => h) (Or.inl ⟨by rfl, ?_⟩) ?_ ?_
          rotate_left
          · intro w'
            go_simp
            with_reducible rfl
          rotate_left
          · simp only [Act.put, List.setIfInBounds_toArray, List.set_cons_zero, List.set_cons_succ, i64_w, i32_w]
            rfl
          refine done_ (by kernel_rfl) ?_
          clear hHeld
          go_wp2
          go_roundw
          case rel => exact ⟨x + 1, p2, e2, by have := HX.out; omega, by have := HX.out; omega, int_eq (by unfold wrap64; have := HX.out; have := HL200.out; omega), ⟨by have q_ := numR_place a0 p e (rd_T46 l0 x).f1 HI.out.1 HI.out.2; rw [HQ.out] at q_; exact ⟨q_.1, q_.2.1⟩⟩, ⟨O12.out.pick2 (a := 0) (b := 1) rfl rfl (by decide)⟩, K12⟩
          case measure => have := HX.out; simp [intOf]; omega
        have hb1 : ((rd_T46 l0 x).f0 == 1) = false := beq_eq_false_iff_ne.2 hk1
        clear hk1
        by_cases hk2 : (rd_T46 l0 x).f0 = 2
        · have hb2 : ((rd_T46 l0 x).f0 == 2) = true := beq_iff_eq.2 hk2
          clear hk2
          obtain ⟨⟨v, p2, e2⟩, hq0⟩ : ∃ q, q = sgnR a0 p e := ⟨_, rfl⟩
          have HQ := Aside0.mk hq0.symm
          clear hq0
          have hvv : (v == v) = true := by simp
          have hvd : decide (v = v) = true := by simp
          have hee : (e2 != e2) = false := by simp
          go_wp2_with (first | ((with_reducible refine gate_dst (N := 8) rfl ?_); refine own_box rfl (D := 8) rfl (cs := #[.int .i64 0, .int .i64 0, .string (⟨#[]⟩ : ByteArray)]) (t := 46) ?hr O5.out ?_; (case hr => first | (go_simp; done) | (go_simp; rfl)); intro gx w6 o_ k_; have O6 : Aside0 (Own N w6 [RP gr a0 p e, RM gm a0 p e, cells gx #[.int .i64 0, .int .i64 0, .string (⟨#[]⟩ : ByteArray)] 46]) := ⟨o_⟩; have K6 : Aside0 (KeepS N w w6) := ⟨K5.out.trans k_⟩; clear c5_0_0 f5_0_0 c5_0_1 f5_0_1 c5_0_2 f5_0_2 c5_1_0 f5_1_0 c5_1_1 f5_1_1 c5_1_2 f5_1_2 n5_0_1 n5_1_0 O5 K5; have c6_0_0 : w6.cell? ⟨gr, 0, none⟩ = some (.string a0) := (blk_cell (O6.out.blk (i := 0) rfl) 0).trans rfl; have f6_0_0 : w6.frozen? ⟨gr, 0, none⟩ = false := blk_frozen (O6.out.blk (i := 0) rfl) 0; have c6_0_1 : w6.cell? ⟨gr, 1, none⟩ = some (.int .i64 p) := (blk_cell (O6.out.blk (i := 0) rfl) 1).trans rfl; have f6_0_1 : w6.frozen? ⟨gr, 1, none⟩ = false := blk_frozen (O6.out.blk (i := 0) rfl) 1; have c6_0_2 : w6.cell? ⟨gr, 2, none⟩ = some (.int .i64 e) := (blk_cell (O6.out.blk (i := 0) rfl) 2).trans rfl; have f6_0_2 : w6.frozen? ⟨gr, 2, none⟩ = false := blk_frozen (O6.out.blk (i := 0) rfl) 2; have c6_1_0 : w6.cell? ⟨gm, 0, none⟩ = some (.string a0) := (blk_cell (O6.out.blk (i := 1) rfl) 0).trans rfl; have f6_1_0 : w6.frozen? ⟨gm, 0, none⟩ = false := blk_frozen (O6.out.blk (i := 1) rfl) 0; have c6_1_1 : w6.cell? ⟨gm, 1, none⟩ = some (.int .i64 p) := (blk_cell (O6.out.blk (i := 1) rfl) 1).trans rfl; have f6_1_1 : w6.frozen? ⟨gm, 1, none⟩ = false := blk_frozen (O6.out.blk (i := 1) rfl) 1; have c6_1_2 : w6.cell? ⟨gm, 2, none⟩ = some (.int .i64 e) := (blk_cell (O6.out.blk (i := 1) rfl) 2).trans rfl; have f6_1_2 : w6.frozen? ⟨gm, 2, none⟩ = false := blk_frozen (O6.out.blk (i := 1) rfl) 2; have c6_2_0 : w6.cell? ⟨gx, 0, none⟩ = some (.int .i64 0) := (blk_cell (O6.out.blk (i := 2) rfl) 0).trans rfl; have f6_2_0 : w6.frozen? ⟨gx, 0, none⟩ = false := blk_frozen (O6.out.blk (i := 2) rfl) 0; have c6_2_1 : w6.cell? ⟨gx, 1, none⟩ = some (.int .i64 0) := (blk_cell (O6.out.blk (i := 2) rfl) 1).trans rfl; have f6_2_1 : w6.frozen? ⟨gx, 1, none⟩ = false := blk_frozen (O6.out.blk (i := 2) rfl) 1; have c6_2_2 : w6.cell? ⟨gx, 2, none⟩ = some (.string (⟨#[]⟩ : ByteArray)) := (blk_cell (O6.out.blk (i := 2) rfl) 2).trans rfl; have f6_2_2 : w6.frozen? ⟨gx, 2, none⟩ = false := blk_frozen (O6.out.blk (i := 2) rfl) 2; have n6_0_1 : gr ≠ gm := O6.out.ne (i := 0) (j := 1) rfl rfl (by decide); have n6_0_2 : gr ≠ gx := O6.out.ne (i := 0) (j := 2) rfl rfl (by decide); have n6_1_0 : gm ≠ gr := O6.out.ne (i := 1) (j := 0) rfl rfl (by decide); have n6_1_2 : gm ≠ gx := O6.out.ne (i := 1) (j := 2) rfl rfl (by decide); have n6_2_0 : gx ≠ gr := O6.out.ne (i := 2) (j := 0) rfl rfl (by decide); have n6_2_1 : gx ≠ gm := O6.out.ne (i := 2) (j := 1) rfl rfl (by decide); clear o_ k_) | ((with_reducible refine gate_store (t := 46) (p := 8) rfl ?_); refine own_store rfl rfl rfl (w1 := (World.setCell (World.setCell (World.setCell w6 ⟨gx, 0, none⟩ (.int .i64 (rd_T46 l0 x).f0)) ⟨gx, 1, none⟩ (.int .i64 (rd_T46 l0 x).f1)) ⟨gx, 2, none⟩ (.string (rd_T46 l0 x).f2))) (N := N) (l' := [RP gr a0 p e, RM gm a0 p e, cells gx #[.int .i64 (rd_T46 l0 x).f0, .int .i64 (rd_T46 l0 x).f1, .string (rd_T46 l0 x).f2] 46]) ?hr ?ho ?hk ?_; (case hr => first | (go_simp; done) | (go_simp; rfl)); (case ho => exact (((O6.out.set (i := 2) rfl 0 (.int .i64 (rd_T46 l0 x).f0)).set (i := 2) rfl 1 (.int .i64 (rd_T46 l0 x).f1)).set (i := 2) rfl 2 (.string (rd_T46 l0 x).f2))); (case hk => exact (((KeepS.setCell (O6.out.far (i := 2) rfl) (.int .i64 (rd_T46 l0 x).f0)).trans (KeepS.setCell (O6.out.far (i := 2) rfl) (.int .i64 (rd_T46 l0 x).f1))).trans (KeepS.setCell (O6.out.far (i := 2) rfl) (.string (rd_T46 l0 x).f2)))); intro w7 o_ k_; have O7 : Aside0 (Own N w7 [RP gr a0 p e, RM gm a0 p e, cells gx #[.int .i64 (rd_T46 l0 x).f0, .int .i64 (rd_T46 l0 x).f1, .string (rd_T46 l0 x).f2] 46]) := ⟨o_⟩; have K7 : Aside0 (KeepS N w w7) := ⟨K6.out.trans k_⟩; clear c6_0_0 f6_0_0 c6_0_1 f6_0_1 c6_0_2 f6_0_2 c6_1_0 f6_1_0 c6_1_1 f6_1_1 c6_1_2 f6_1_2 c6_2_0 f6_2_0 c6_2_1 f6_2_1 c6_2_2 f6_2_2 n6_0_1 n6_0_2 n6_1_0 n6_1_2 n6_2_0 n6_2_1 O6 K6; have c7_0_0 : w7.cell? ⟨gr, 0, none⟩ = some (.string a0) := (blk_cell (O7.out.blk (i := 0) rfl) 0).trans rfl; have f7_0_0 : w7.frozen? ⟨gr, 0, none⟩ = false := blk_frozen (O7.out.blk (i := 0) rfl) 0; have c7_0_1 : w7.cell? ⟨gr, 1, none⟩ = some (.int .i64 p) := (blk_cell (O7.out.blk (i := 0) rfl) 1).trans rfl; have f7_0_1 : w7.frozen? ⟨gr, 1, none⟩ = false := blk_frozen (O7.out.blk (i := 0) rfl) 1; have c7_0_2 : w7.cell? ⟨gr, 2, none⟩ = some (.int .i64 e) := (blk_cell (O7.out.blk (i := 0) rfl) 2).trans rfl; have f7_0_2 : w7.frozen? ⟨gr, 2, none⟩ = false := blk_frozen (O7.out.blk (i := 0) rfl) 2; have c7_1_0 : w7.cell? ⟨gm, 0, none⟩ = some (.string a0) := (blk_cell (O7.out.blk (i := 1) rfl) 0).trans rfl; have f7_1_0 : w7.frozen? ⟨gm, 0, none⟩ = false := blk_frozen (O7.out.blk (i := 1) rfl) 0; have c7_1_1 : w7.cell? ⟨gm, 1, none⟩ = some (.int .i64 p) := (blk_cell (O7.out.blk (i := 1) rfl) 1).trans rfl; have f7_1_1 : w7.frozen? ⟨gm, 1, none⟩ = false := blk_frozen (O7.out.blk (i := 1) rfl) 1; have c7_1_2 : w7.cell? ⟨gm, 2, none⟩ = some (.int .i64 e) := (blk_cell (O7.out.blk (i := 1) rfl) 2).trans rfl; have f7_1_2 : w7.frozen? ⟨gm, 2, none⟩ = false := blk_frozen (O7.out.blk (i := 1) rfl) 2; have c7_2_0 : w7.cell? ⟨gx, 0, none⟩ = some (.int .i64 (rd_T46 l0 x).f0) := (blk_cell (O7.out.blk (i := 2) rfl) 0).trans rfl; have f7_2_0 : w7.frozen? ⟨gx, 0, none⟩ = false := blk_frozen (O7.out.blk (i := 2) rfl) 0; have c7_2_1 : w7.cell? ⟨gx, 1, none⟩ = some (.int .i64 (rd_T46 l0 x).f1) := (blk_cell (O7.out.blk (i := 2) rfl) 1).trans rfl; have f7_2_1 : w7.frozen? ⟨gx, 1, none⟩ = false := blk_frozen (O7.out.blk (i := 2) rfl) 1; have c7_2_2 : w7.cell? ⟨gx, 2, none⟩ = some (.string (rd_T46 l0 x).f2) := (blk_cell (O7.out.blk (i := 2) rfl) 2).trans rfl; have f7_2_2 : w7.frozen? ⟨gx, 2, none⟩ = false := blk_frozen (O7.out.blk (i := 2) rfl) 2; have n7_0_1 : gr ≠ gm := O7.out.ne (i := 0) (j := 1) rfl rfl (by decide); have n7_0_2 : gr ≠ gx := O7.out.ne (i := 0) (j := 2) rfl rfl (by decide); have n7_1_0 : gm ≠ gr := O7.out.ne (i := 1) (j := 0) rfl rfl (by decide); have n7_1_2 : gm ≠ gx := O7.out.ne (i := 1) (j := 2) rfl rfl (by decide); have n7_2_0 : gx ≠ gr := O7.out.ne (i := 2) (j := 0) rfl rfl (by decide); have n7_2_1 : gx ≠ gm := O7.out.ne (i := 2) (j := 1) rfl rfl (by decide); clear o_ k_) | ((with_reducible refine gate_callee (f := 25) rfl ?_); refine goesL_ (some 49) rfl rfl Tryd.func25 (by kernel_rfl) rfl #[.pointer (some ⟨gr, 0, none⟩)] rfl (by (try simp only [List.map_toArray, List.map_cons, List.map_nil]); first | done | rfl) ?_; obtain ⟨N_, on_, nn_, rr_, bb_⟩ := O7.out.frame1 (i := 0) rfl; refine (pSgn HT (K7.out.below (Nat.le_refl _) (fun k hk => by rw [HN.out]; exact hk)) (Nat.le_of_not_lt (fun q_ => (O7.out.far (i := 0) rfl) (by rw [HN.out]; exact q_))) HSZ.out v p2 e2 HQ.out on_).mono ?_; rintro e_ w8 ⟨rfl, oo_, kk_⟩; obtain ⟨o_, k_⟩ := bb_ _ _ _ kk_ oo_; refine ⟨_, rfl, ?_⟩; have O8 : Aside0 (Own N w8 [RP gr a0 p2 e2, RM gm a0 p e, cells gx #[.int .i64 (rd_T46 l0 x).f0, .int .i64 (rd_T46 l0 x).f1, .string (rd_T46 l0 x).f2] 46]) := ⟨o_⟩; have K8 : Aside0 (KeepS N w w8) := ⟨K7.out.trans k_⟩; clear c7_0_0 f7_0_0 c7_0_1 f7_0_1 c7_0_2 f7_0_2 c7_1_0 f7_1_0 c7_1_1 f7_1_1 c7_1_2 f7_1_2 c7_2_0 f7_2_0 c7_2_1 f7_2_1 c7_2_2 f7_2_2 n7_0_1 n7_0_2 n7_1_0 n7_1_2 n7_2_0 n7_2_1 O7 K7; have c8_0_0 : w8.cell? ⟨gr, 0, none⟩ = some (.string a0) := (blk_cell (O8.out.blk (i := 0) rfl) 0).trans rfl; have f8_0_0 : w8.frozen? ⟨gr, 0, none⟩ = false := blk_frozen (O8.out.blk (i := 0) rfl) 0; have c8_0_1 : w8.cell? ⟨gr, 1, none⟩ = some (.int .i64 p2) := (blk_cell (O8.out.blk (i := 0) rfl) 1).trans rfl; have f8_0_1 : w8.frozen? ⟨gr, 1, none⟩ = false := blk_frozen (O8.out.blk (i := 0) rfl) 1; have c8_0_2 : w8.cell? ⟨gr, 2, none⟩ = some (.int .i64 e2) := (blk_cell (O8.out.blk (i := 0) rfl) 2).trans rfl; have f8_0_2 : w8.frozen? ⟨gr, 2, none⟩ = false := blk_frozen (O8.out.blk (i := 0) rfl) 2; have c8_1_0 : w8.cell? ⟨gm, 0, none⟩ = some (.string a0) := (blk_cell (O8.out.blk (i := 1) rfl) 0).trans rfl; have f8_1_0 : w8.frozen? ⟨gm, 0, none⟩ = false := blk_frozen (O8.out.blk (i := 1) rfl) 0; have c8_1_1 : w8.cell? ⟨gm, 1, none⟩ = some (.int .i64 p) := (blk_cell (O8.out.blk (i := 1) rfl) 1).trans rfl; have f8_1_1 : w8.frozen? ⟨gm, 1, none⟩ = false := blk_frozen (O8.out.blk (i := 1) rfl) 1; have c8_1_2 : w8.cell? ⟨gm, 2, none⟩ = some (.int .i64 e) := (blk_cell (O8.out.blk (i := 1) rfl) 2).trans rfl; have f8_1_2 : w8.frozen? ⟨gm, 2, none⟩ = false := blk_frozen (O8.out.blk (i := 1) rfl) 2; have c8_2_0 : w8.cell? ⟨gx, 0, none⟩ = some (.int .i64 (rd_T46 l0 x).f0) := (blk_cell (O8.out.blk (i := 2) rfl) 0).trans rfl; have f8_2_0 : w8.frozen? ⟨gx, 0, none⟩ = false := blk_frozen (O8.out.blk (i := 2) rfl) 0; have c8_2_1 : w8.cell? ⟨gx, 1, none⟩ = some (.int .i64 (rd_T46 l0 x).f1) := (blk_cell (O8.out.blk (i := 2) rfl) 1).trans rfl; have f8_2_1 : w8.frozen? ⟨gx, 1, none⟩ = false := blk_frozen (O8.out.blk (i := 2) rfl) 1; have c8_2_2 : w8.cell? ⟨gx, 2, none⟩ = some (.string (rd_T46 l0 x).f2) := (blk_cell (O8.out.blk (i := 2) rfl) 2).trans rfl; have f8_2_2 : w8.frozen? ⟨gx, 2, none⟩ = false := blk_frozen (O8.out.blk (i := 2) rfl) 2; have n8_0_1 : gr ≠ gm := O8.out.ne (i := 0) (j := 1) rfl rfl (by decide); have n8_0_2 : gr ≠ gx := O8.out.ne (i := 0) (j := 2) rfl rfl (by decide); have n8_1_0 : gm ≠ gr := O8.out.ne (i := 1) (j := 0) rfl rfl (by decide); have n8_1_2 : gm ≠ gx := O8.out.ne (i := 1) (j := 2) rfl rfl (by decide); have n8_2_0 : gx ≠ gr := O8.out.ne (i := 2) (j := 0) rfl rfl (by decide); have n8_2_1 : gx ≠ gm := O8.out.ne (i := 2) (j := 1) rfl rfl (by decide); clear o_ k_ oo_ kk_ on_ nn_ rr_ bb_) | ((with_reducible refine gate_callee (f := 26) rfl ?_); refine goesL_ (some 51) rfl rfl Tryd.func26 (by kernel_rfl) rfl #[.pointer (some ⟨gm, 0, none⟩)] rfl (by (try simp only [List.map_toArray, List.map_cons, List.map_nil]); first | done | rfl) ?_; obtain ⟨N_, on_, nn_, rr_, bb_⟩ := O8.out.frame1 (i := 1) rfl; refine (rSgn (K8.out.below (Nat.le_refl _) (fun k hk => by rw [HN.out]; exact hk)) (Nat.le_of_not_lt (fun q_ => (O8.out.far (i := 1) rfl) (by rw [HN.out]; exact q_))) HSZ.out v p2 e2 HQ.out on_).mono ?_; rintro e_ w9 ⟨rfl, oo_, kk_⟩; obtain ⟨o_, k_⟩ := bb_ _ _ _ kk_ oo_; refine ⟨_, rfl, ?_⟩; have O9 : Aside0 (Own N w9 [RP gr a0 p2 e2, RM gm a0 p2 e2, cells gx #[.int .i64 (rd_T46 l0 x).f0, .int .i64 (rd_T46 l0 x).f1, .string (rd_T46 l0 x).f2] 46]) := ⟨o_⟩; have K9 : Aside0 (KeepS N w w9) := ⟨K8.out.trans k_⟩; clear c8_0_0 f8_0_0 c8_0_1 f8_0_1 c8_0_2 f8_0_2 c8_1_0 f8_1_0 c8_1_1 f8_1_1 c8_1_2 f8_1_2 c8_2_0 f8_2_0 c8_2_1 f8_2_1 c8_2_2 f8_2_2 n8_0_1 n8_0_2 n8_1_0 n8_1_2 n8_2_0 n8_2_1 O8 K8; have c9_0_0 : w9.cell? ⟨gr, 0, none⟩ = some (.string a0) := (blk_cell (O9.out.blk (i := 0) rfl) 0).trans rfl; have f9_0_0 : w9.frozen? ⟨gr, 0, none⟩ = false := blk_frozen (O9.out.blk (i := 0) rfl) 0; have c9_0_1 : w9.cell? ⟨gr, 1, none⟩ = some (.int .i64 p2) := (blk_cell (O9.out.blk (i := 0) rfl) 1).trans rfl; have f9_0_1 : w9.frozen? ⟨gr, 1, none⟩ = false := blk_frozen (O9.out.blk (i := 0) rfl) 1; have c9_0_2 : w9.cell? ⟨gr, 2, none⟩ = some (.int .i64 e2) := (blk_cell (O9.out.blk (i := 0) rfl) 2).trans rfl; have f9_0_2 : w9.frozen? ⟨gr, 2, none⟩ = false := blk_frozen (O9.out.blk (i := 0) rfl) 2; have c9_1_0 : w9.cell? ⟨gm, 0, none⟩ = some (.string a0) := (blk_cell (O9.out.blk (i := 1) rfl) 0).trans rfl; have f9_1_0 : w9.frozen? ⟨gm, 0, none⟩ = false := blk_frozen (O9.out.blk (i := 1) rfl) 0; have c9_1_1 : w9.cell? ⟨gm, 1, none⟩ = some (.int .i64 p2) := (blk_cell (O9.out.blk (i := 1) rfl) 1).trans rfl; have f9_1_1 : w9.frozen? ⟨gm, 1, none⟩ = false := blk_frozen (O9.out.blk (i := 1) rfl) 1; have c9_1_2 : w9.cell? ⟨gm, 2, none⟩ = some (.int .i64 e2) := (blk_cell (O9.out.blk (i := 1) rfl) 2).trans rfl; have f9_1_2 : w9.frozen? ⟨gm, 2, none⟩ = false := blk_frozen (O9.out.blk (i := 1) rfl) 2; have c9_2_0 : w9.cell? ⟨gx, 0, none⟩ = some (.int .i64 (rd_T46 l0 x).f0) := (blk_cell (O9.out.blk (i := 2) rfl) 0).trans rfl; have f9_2_0 : w9.frozen? ⟨gx, 0, none⟩ = false := blk_frozen (O9.out.blk (i := 2) rfl) 0; have c9_2_1 : w9.cell? ⟨gx, 1, none⟩ = some (.int .i64 (rd_T46 l0 x).f1) := (blk_cell (O9.out.blk (i := 2) rfl) 1).trans rfl; have f9_2_1 : w9.frozen? ⟨gx, 1, none⟩ = false := blk_frozen (O9.out.blk (i := 2) rfl) 1; have c9_2_2 : w9.cell? ⟨gx, 2, none⟩ = some (.string (rd_T46 l0 x).f2) := (blk_cell (O9.out.blk (i := 2) rfl) 2).trans rfl; have f9_2_2 : w9.frozen? ⟨gx, 2, none⟩ = false := blk_frozen (O9.out.blk (i := 2) rfl) 2; have n9_0_1 : gr ≠ gm := O9.out.ne (i := 0) (j := 1) rfl rfl (by decide); have n9_0_2 : gr ≠ gx := O9.out.ne (i := 0) (j := 2) rfl rfl (by decide); have n9_1_0 : gm ≠ gr := O9.out.ne (i := 1) (j := 0) rfl rfl (by decide); have n9_1_2 : gm ≠ gx := O9.out.ne (i := 1) (j := 2) rfl rfl (by decide); have n9_2_0 : gx ≠ gr := O9.out.ne (i := 2) (j := 0) rfl rfl (by decide); have n9_2_1 : gx ≠ gm := O9.out.ne (i := 2) (j := 1) rfl rfl (by decide); clear o_ k_ oo_ kk_ on_ nn_ rr_ bb_))
          refine start_ (n := 11) (S := fun w' => w'.cell? ⟨gm, 0, none⟩ = some (.string a0) ∧ w'.cell? ⟨gm, 1, none⟩ = some (.int .i64 p2) ∧ w'.cell? ⟨gm, 2, none⟩ = some (.int .i64 e2)) (ds := []) #[false, false, false, false, false, false, false, false, false, false, false] (by kernel_rfl) rfl rfl ⟨((blk_cell (O9.out.blk (i := 1) rfl) 0).trans rfl), ((blk_cell (O9.out.blk (i := 1) rfl) 1).trans rfl), ((blk_cell (O9.out.blk (i := 1) rfl) 2).trans rfl)⟩ (fun hHeld => ?_)
          obtain ⟨w10, hw_⟩ : ∃ W, W = w9.drew := ⟨_, rfl⟩
          have o_ := O9.out.drew
          have k_ : KeepS N w9 w9.drew := KeepS.drew
          rw [← hw_] at o_ k_ hHeld ⊢
          clear hw_
          have O10 : Aside0 (Own N w10 [RP gr a0 p2 e2, RM gm a0 p2 e2, cells gx #[.int .i64 (rd_T46 l0 x).f0, .int .i64 (rd_T46 l0 x).f1, .string (rd_T46 l0 x).f2] 46]) := ⟨o_⟩
          have K10 : Aside0 (KeepS N w w10) := ⟨K9.out.trans k_⟩
          clear c9_0_0 f9_0_0 c9_0_1 f9_0_1 c9_0_2 f9_0_2 c9_1_0 f9_1_0 c9_1_1 f9_1_1 c9_1_2 f9_1_2 c9_2_0 f9_2_0 c9_2_1 f9_2_1 c9_2_2 f9_2_2 n9_0_1 n9_0_2 n9_1_0 n9_1_2 n9_2_0 n9_2_1 O9 K9
          have c10_0_0 : w10.cell? ⟨gr, 0, none⟩ = some (.string a0) := (blk_cell (O10.out.blk (i := 0) rfl) 0).trans rfl
          have f10_0_0 : w10.frozen? ⟨gr, 0, none⟩ = false := blk_frozen (O10.out.blk (i := 0) rfl) 0
          have c10_0_1 : w10.cell? ⟨gr, 1, none⟩ = some (.int .i64 p2) := (blk_cell (O10.out.blk (i := 0) rfl) 1).trans rfl
          have f10_0_1 : w10.frozen? ⟨gr, 1, none⟩ = false := blk_frozen (O10.out.blk (i := 0) rfl) 1
          have c10_0_2 : w10.cell? ⟨gr, 2, none⟩ = some (.int .i64 e2) := (blk_cell (O10.out.blk (i := 0) rfl) 2).trans rfl
          have f10_0_2 : w10.frozen? ⟨gr, 2, none⟩ = false := blk_frozen (O10.out.blk (i := 0) rfl) 2
          have c10_1_0 : w10.cell? ⟨gm, 0, none⟩ = some (.string a0) := (blk_cell (O10.out.blk (i := 1) rfl) 0).trans rfl
          have f10_1_0 : w10.frozen? ⟨gm, 0, none⟩ = false := blk_frozen (O10.out.blk (i := 1) rfl) 0
          have c10_1_1 : w10.cell? ⟨gm, 1, none⟩ = some (.int .i64 p2) := (blk_cell (O10.out.blk (i := 1) rfl) 1).trans rfl
          have f10_1_1 : w10.frozen? ⟨gm, 1, none⟩ = false := blk_frozen (O10.out.blk (i := 1) rfl) 1
          have c10_1_2 : w10.cell? ⟨gm, 2, none⟩ = some (.int .i64 e2) := (blk_cell (O10.out.blk (i := 1) rfl) 2).trans rfl
          have f10_1_2 : w10.frozen? ⟨gm, 2, none⟩ = false := blk_frozen (O10.out.blk (i := 1) rfl) 2
          have c10_2_0 : w10.cell? ⟨gx, 0, none⟩ = some (.int .i64 (rd_T46 l0 x).f0) := (blk_cell (O10.out.blk (i := 2) rfl) 0).trans rfl
          have f10_2_0 : w10.frozen? ⟨gx, 0, none⟩ = false := blk_frozen (O10.out.blk (i := 2) rfl) 0
          have c10_2_1 : w10.cell? ⟨gx, 1, none⟩ = some (.int .i64 (rd_T46 l0 x).f1) := (blk_cell (O10.out.blk (i := 2) rfl) 1).trans rfl
          have f10_2_1 : w10.frozen? ⟨gx, 1, none⟩ = false := blk_frozen (O10.out.blk (i := 2) rfl) 1
          have c10_2_2 : w10.cell? ⟨gx, 2, none⟩ = some (.string (rd_T46 l0 x).f2) := (blk_cell (O10.out.blk (i := 2) rfl) 2).trans rfl
          have f10_2_2 : w10.frozen? ⟨gx, 2, none⟩ = false := blk_frozen (O10.out.blk (i := 2) rfl) 2
          have n10_0_1 : gr ≠ gm := O10.out.ne (i := 0) (j := 1) rfl rfl (by decide)
          have n10_0_2 : gr ≠ gx := O10.out.ne (i := 0) (j := 2) rfl rfl (by decide)
          have n10_1_0 : gm ≠ gr := O10.out.ne (i := 1) (j := 0) rfl rfl (by decide)
          have n10_1_2 : gm ≠ gx := O10.out.ne (i := 1) (j := 2) rfl rfl (by decide)
          have n10_2_0 : gx ≠ gr := O10.out.ne (i := 2) (j := 0) rfl rfl (by decide)
          have n10_2_1 : gx ≠ gm := O10.out.ne (i := 2) (j := 1) rfl rfl (by decide)
          clear o_ k_
          refine pure_ (i := 0) (N := some 81) (v := ?_) (a' := ?_) #[true, false, false, false, false, false, false, false, false, false, false] rfl rfl (by kernel_rfl) (fun _ _ _ h => h) (Or.inl ⟨by rfl, ?_⟩) ?_ ?_
          rotate_left
          · intro w'
            go_simp
            with_reducible rfl
          rotate_left
          · simp only [Act.put, List.setIfInBounds_toArray, List.set_cons_zero, List.set_cons_succ, i64_w, i32_w]
            rfl
          refine pure_ (i := 1) (N := some 82) (v := ?_) (a' := ?_) #[true, true, false, false, false, false, false, false, false, false, false] rfl rfl (by kernel_rfl) (fun _ _ _ h => h) (Or.inl ⟨by rfl, ?_⟩) ?_ ?_
          rotate_left
          · intro w'
            go_simp
            with_reducible rfl
          rotate_left
          · simp only [Act.put, List.setIfInBounds_toArray, List.set_cons_zero, List.set_cons_succ, i64_w, i32_w]
            rfl
          refine pure_ (i := 2) (N := some 83) (v := ?_) (a' := ?_) #[true, true, true, false, false, false, false, false, false, false, false] rfl rfl (by kernel_rfl) (fun _ _ _ h => h) (Or.inl ⟨by rfl, ?_⟩) ?_ ?_
          rotate_left
          · intro w'
            go_simp
            with_reducible rfl
          rotate_left
          · simp only [Act.put, List.setIfInBounds_toArray, List.set_cons_zero, List.set_cons_succ, i64_w, i32_w]
            rfl
          refine pure_ (i := 3) (N := some 84) (v := ?_) (a' := ?_) #[true, true, true, true, false, false, false, false, false, false, false] rfl rfl (by kernel_rfl) (fun _ _ _ h => h) (Or.inl ⟨by rfl, ?_⟩) ?_ ?_
          rotate_left
          · intro w'
            go_simp
            with_reducible rfl
          rotate_left
          · simp only [Act.put, List.setIfInBounds_toArray, List.set_cons_zero, List.set_cons_succ, i64_w, i32_w]
            rfl
          refine pure_ (i := 5) (N := some 86) (v := ?_) (a' := ?_) #[true, true, true, true, false, true, false, false, false, false, false] rfl rfl (by kernel_rfl) (fun _ _ _ h => h) (Or.inl ⟨by rfl, ?_⟩) ?_ ?_
          rotate_left
          · intro w'
            go_simp
            with_reducible rfl
          rotate_left
          · simp only [Act.put, List.setIfInBounds_toArray, List.set_cons_zero, List.set_cons_succ, i64_w, i32_w]
            rfl
          refine pure_ (i := 6) (N := some 87) (v := ?_) (a' := ?_) #[true, true, true, true, false, true, true, false, false, false, false] rfl rfl (by kernel_rfl) (fun _ _ _ h => h) (Or.inl ⟨by rfl, ?_⟩) ?_ ?_
          rotate_left
          · intro w'
            go_simp
            with_reducible rfl
          rotate_left
          · simp only [Act.put, List.setIfInBounds_toArray, List.set_cons_zero, List.set_cons_succ, i64_w, i32_w]
            rfl
          refine pure_ (i := 7) (N := some 88) (v := ?_) (a' := ?_) #[true, true, true, true, false, true, true, true, false, false, false] rfl rfl (by kernel_rfl) (fun _ _ _ h => h) (Or.inl ⟨by rfl, ?_⟩) ?_ ?_
          rotate_left
          · intro w'
            go_simp
            with_reducible rfl
          rotate_left
          · simp only [Act.put, List.setIfInBounds_toArray, List.set_cons_zero, List.set_cons_succ, i64_w, i32_w]
            rfl
          refine take_ (i := 8) (N := some 89) (v := ?_) (a' := ?_) #[true, true, true, true, false, true, true, true, true, false, false] rfl rfl (by kernel_rfl) (fun _ _ _ h => h) (Or.inl ⟨by rfl, ?_⟩) hHeld ?_ ?_
          rotate_left
          · rintro w' ⟨s0, s1, s2⟩
            go_simp
            with_reducible rfl
          rotate_left
          · simp only [Act.put, List.setIfInBounds_toArray, List.set_cons_zero, List.set_cons_succ, i64_w, i32_w]
            rfl
          refine one_ (i := 4) (N := some 85) #[true, true, true, true, true, true, true, true, true, false, false] rfl rfl (by kernel_rfl) (by decide) (fun K_ hK_ => ?_)
          refine goes_ Tryd.func22 (by kernel_rfl) rfl #[.pointer (some ⟨gr, 0, none⟩)] (by rfl) rfl rfl (by (try simp only [List.map_toArray, List.map_cons, List.map_nil]); first | done | rfl) ?_
          obtain ⟨N_, on_, nn_, rr_, bb_⟩ := O10.out.frame1 (i := 0) rfl
          refine (pErr (K10.out.below (Nat.le_refl _) (fun k hk => by rw [HN.out]; exact hk)) (Nat.le_of_not_lt (fun q_ => (O10.out.far (i := 0) rfl) (by rw [HN.out]; exact q_))) on_).mono ?_
          rintro e_ w11 ⟨rfl, oo_, kk_⟩
          obtain ⟨o_, k_⟩ := bb_ _ _ _ kk_ oo_
          refine ⟨_, rfl, ?_⟩
          have O11 : Aside0 (Own N w11 [RP gr a0 p2 e2, RM gm a0 p2 e2, cells gx #[.int .i64 (rd_T46 l0 x).f0, .int .i64 (rd_T46 l0 x).f1, .string (rd_T46 l0 x).f2] 46]) := ⟨o_⟩
          have K11 : Aside0 (KeepS N w w11) := ⟨K10.out.trans k_⟩
          clear c10_0_0 f10_0_0 c10_0_1 f10_0_1 c10_0_2 f10_0_2 c10_1_0 f10_1_0 c10_1_1 f10_1_1 c10_1_2 f10_1_2 c10_2_0 f10_2_0 c10_2_1 f10_2_1 c10_2_2 f10_2_2 n10_0_1 n10_0_2 n10_1_0 n10_1_2 n10_2_0 n10_2_1 O10 K10
          have c11_0_0 : w11.cell? ⟨gr, 0, none⟩ = some (.string a0) := (blk_cell (O11.out.blk (i := 0) rfl) 0).trans rfl
          have f11_0_0 : w11.frozen? ⟨gr, 0, none⟩ = false := blk_frozen (O11.out.blk (i := 0) rfl) 0
          have c11_0_1 : w11.cell? ⟨gr, 1, none⟩ = some (.int .i64 p2) := (blk_cell (O11.out.blk (i := 0) rfl) 1).trans rfl
          have f11_0_1 : w11.frozen? ⟨gr, 1, none⟩ = false := blk_frozen (O11.out.blk (i := 0) rfl) 1
          have c11_0_2 : w11.cell? ⟨gr, 2, none⟩ = some (.int .i64 e2) := (blk_cell (O11.out.blk (i := 0) rfl) 2).trans rfl
          have f11_0_2 : w11.frozen? ⟨gr, 2, none⟩ = false := blk_frozen (O11.out.blk (i := 0) rfl) 2
          have c11_1_0 : w11.cell? ⟨gm, 0, none⟩ = some (.string a0) := (blk_cell (O11.out.blk (i := 1) rfl) 0).trans rfl
          have f11_1_0 : w11.frozen? ⟨gm, 0, none⟩ = false := blk_frozen (O11.out.blk (i := 1) rfl) 0
          have c11_1_1 : w11.cell? ⟨gm, 1, none⟩ = some (.int .i64 p2) := (blk_cell (O11.out.blk (i := 1) rfl) 1).trans rfl
          have f11_1_1 : w11.frozen? ⟨gm, 1, none⟩ = false := blk_frozen (O11.out.blk (i := 1) rfl) 1
          have c11_1_2 : w11.cell? ⟨gm, 2, none⟩ = some (.int .i64 e2) := (blk_cell (O11.out.blk (i := 1) rfl) 2).trans rfl
          have f11_1_2 : w11.frozen? ⟨gm, 2, none⟩ = false := blk_frozen (O11.out.blk (i := 1) rfl) 2
          have c11_2_0 : w11.cell? ⟨gx, 0, none⟩ = some (.int .i64 (rd_T46 l0 x).f0) := (blk_cell (O11.out.blk (i := 2) rfl) 0).trans rfl
          have f11_2_0 : w11.frozen? ⟨gx, 0, none⟩ = false := blk_frozen (O11.out.blk (i := 2) rfl) 0
          have c11_2_1 : w11.cell? ⟨gx, 1, none⟩ = some (.int .i64 (rd_T46 l0 x).f1) := (blk_cell (O11.out.blk (i := 2) rfl) 1).trans rfl
          have f11_2_1 : w11.frozen? ⟨gx, 1, none⟩ = false := blk_frozen (O11.out.blk (i := 2) rfl) 1
          have c11_2_2 : w11.cell? ⟨gx, 2, none⟩ = some (.string (rd_T46 l0 x).f2) := (blk_cell (O11.out.blk (i := 2) rfl) 2).trans rfl
          have f11_2_2 : w11.frozen? ⟨gx, 2, none⟩ = false := blk_frozen (O11.out.blk (i := 2) rfl) 2
          have n11_0_1 : gr ≠ gm := O11.out.ne (i := 0) (j := 1) rfl rfl (by decide)
          have n11_0_2 : gr ≠ gx := O11.out.ne (i := 0) (j := 2) rfl rfl (by decide)
          have n11_1_0 : gm ≠ gr := O11.out.ne (i := 1) (j := 0) rfl rfl (by decide)
          have n11_1_2 : gm ≠ gx := O11.out.ne (i := 1) (j := 2) rfl rfl (by decide)
          have n11_2_0 : gx ≠ gr := O11.out.ne (i := 2) (j := 0) rfl rfl (by decide)
          have n11_2_1 : gx ≠ gm := O11.out.ne (i := 2) (j := 1) rfl rfl (by decide)
          clear o_ k_ oo_ kk_ on_ nn_ rr_ bb_
          clear hHeld
          refine hK_.out _ _ ⟨((blk_cell (O11.out.blk (i := 1) rfl) 0).trans rfl), ((blk_cell (O11.out.blk (i := 1) rfl) 1).trans rfl), ((blk_cell (O11.out.blk (i := 1) rfl) 2).trans rfl)⟩ (fun hHeld => ?_)
          clear hK_ K_
          refine norm_ (a' := ?_) ?_ ?_
          rotate_left
          · simp only [Act.put, List.setIfInBounds_toArray, List.set_cons_zero, List.set_cons_succ, i64_w, i32_w]
            rfl
          refine pure_ (i := 9) (N := some 90) (v := ?_) (a' := ?_) #[true, true, true, true, true, true, true, true, true, true, false] rfl rfl (by kernel_rfl) (fun _ _ _ h => h) (Or.inl ⟨by rfl, ?_⟩) ?_ ?_
          rotate_left
          · intro w'
            go_simp
            with_reducible rfl
          rotate_left
          · simp only [Act.put, List.setIfInBounds_toArray, List.set_cons_zero, List.set_cons_succ, i64_w, i32_w]
            rfl
          refine pure_ (i := 10) (N := some 91) (v := ?_) (a' := ?_) #[true, true, true, true, true, true, true, true, true, true, true] rfl rfl (by kernel_rfl) (fun _ _ _ h => h) (Or.inl ⟨by rfl, ?_⟩) ?_ ?_
          rotate_left
          · intro w'
            go_simp
            with_reducible rfl
          rotate_left
          · simp only [Act.put, List.setIfInBounds_toArray, List.set_cons_zero, List.set_cons_succ, i64_w, i32_w]
            rfl
          refine done_ (by kernel_rfl) ?_
          clear hHeld
          go_wp2
          go_roundw
          case rel => exact ⟨x + 1, p2, e2, by have := HX.out; omega, by have := HX.out; omega, int_eq (by unfold wrap64; have := HX.out; have := HL200.out; omega), ⟨by have q_ := sgnR_place a0 p e HI.out.1 HI.out.2; rw [HQ.out] at q_; exact ⟨q_.1, q_.2.1⟩⟩, ⟨O11.out.pick2 (a := 0) (b := 1) rfl rfl (by decide)⟩, K11⟩
          case measure => have := HX.out; simp [intOf]; omega
        have hb2 : ((rd_T46 l0 x).f0 == 2) = false := beq_eq_false_iff_ne.2 hk2
        clear hk2
        by_cases hk3 : (rd_T46 l0 x).f0 = 3
        · have hb3 : ((rd_T46 l0 x).f0 == 3) = true := beq_iff_eq.2 hk3
          clear hk3
          obtain ⟨⟨v, p2, e2⟩, hq0⟩ : ∃ q, q = txtR a0 p e (rd_T46 l0 x).f1 := ⟨_, rfl⟩
          have HQ := Aside0.mk hq0.symm
          clear hq0
          have hvd : decide (v = v) = true := by simp
          have hee : (e2 != e2) = false := by simp
          go_wp2_with (first | ((with_reducible refine gate_dst (N := 8) rfl ?_); refine own_box rfl (D := 8) rfl (cs := #[.int .i64 0, .int .i64 0, .string (⟨#[]⟩ : ByteArray)]) (t := 46) ?hr O5.out ?_; (case hr => first | (go_simp; done) | (go_simp; rfl)); intro gx w6 o_ k_; have O6 : Aside0 (Own N w6 [RP gr a0 p e, RM gm a0 p e, cells gx #[.int .i64 0, .int .i64 0, .string (⟨#[]⟩ : ByteArray)] 46]) := ⟨o_⟩; have K6 : Aside0 (KeepS N w w6) := ⟨K5.out.trans k_⟩; clear c5_0_0 f5_0_0 c5_0_1 f5_0_1 c5_0_2 f5_0_2 c5_1_0 f5_1_0 c5_1_1 f5_1_1 c5_1_2 f5_1_2 n5_0_1 n5_1_0 O5 K5; have c6_0_0 : w6.cell? ⟨gr, 0, none⟩ = some (.string a0) := (blk_cell (O6.out.blk (i := 0) rfl) 0).trans rfl; have f6_0_0 : w6.frozen? ⟨gr, 0, none⟩ = false := blk_frozen (O6.out.blk (i := 0) rfl) 0; have c6_0_1 : w6.cell? ⟨gr, 1, none⟩ = some (.int .i64 p) := (blk_cell (O6.out.blk (i := 0) rfl) 1).trans rfl; have f6_0_1 : w6.frozen? ⟨gr, 1, none⟩ = false := blk_frozen (O6.out.blk (i := 0) rfl) 1; have c6_0_2 : w6.cell? ⟨gr, 2, none⟩ = some (.int .i64 e) := (blk_cell (O6.out.blk (i := 0) rfl) 2).trans rfl; have f6_0_2 : w6.frozen? ⟨gr, 2, none⟩ = false := blk_frozen (O6.out.blk (i := 0) rfl) 2; have c6_1_0 : w6.cell? ⟨gm, 0, none⟩ = some (.string a0) := (blk_cell (O6.out.blk (i := 1) rfl) 0).trans rfl; have f6_1_0 : w6.frozen? ⟨gm, 0, none⟩ = false := blk_frozen (O6.out.blk (i := 1) rfl) 0; have c6_1_1 : w6.cell? ⟨gm, 1, none⟩ = some (.int .i64 p) := (blk_cell (O6.out.blk (i := 1) rfl) 1).trans rfl; have f6_1_1 : w6.frozen? ⟨gm, 1, none⟩ = false := blk_frozen (O6.out.blk (i := 1) rfl) 1; have c6_1_2 : w6.cell? ⟨gm, 2, none⟩ = some (.int .i64 e) := (blk_cell (O6.out.blk (i := 1) rfl) 2).trans rfl; have f6_1_2 : w6.frozen? ⟨gm, 2, none⟩ = false := blk_frozen (O6.out.blk (i := 1) rfl) 2; have c6_2_0 : w6.cell? ⟨gx, 0, none⟩ = some (.int .i64 0) := (blk_cell (O6.out.blk (i := 2) rfl) 0).trans rfl; have f6_2_0 : w6.frozen? ⟨gx, 0, none⟩ = false := blk_frozen (O6.out.blk (i := 2) rfl) 0; have c6_2_1 : w6.cell? ⟨gx, 1, none⟩ = some (.int .i64 0) := (blk_cell (O6.out.blk (i := 2) rfl) 1).trans rfl; have f6_2_1 : w6.frozen? ⟨gx, 1, none⟩ = false := blk_frozen (O6.out.blk (i := 2) rfl) 1; have c6_2_2 : w6.cell? ⟨gx, 2, none⟩ = some (.string (⟨#[]⟩ : ByteArray)) := (blk_cell (O6.out.blk (i := 2) rfl) 2).trans rfl; have f6_2_2 : w6.frozen? ⟨gx, 2, none⟩ = false := blk_frozen (O6.out.blk (i := 2) rfl) 2; have n6_0_1 : gr ≠ gm := O6.out.ne (i := 0) (j := 1) rfl rfl (by decide); have n6_0_2 : gr ≠ gx := O6.out.ne (i := 0) (j := 2) rfl rfl (by decide); have n6_1_0 : gm ≠ gr := O6.out.ne (i := 1) (j := 0) rfl rfl (by decide); have n6_1_2 : gm ≠ gx := O6.out.ne (i := 1) (j := 2) rfl rfl (by decide); have n6_2_0 : gx ≠ gr := O6.out.ne (i := 2) (j := 0) rfl rfl (by decide); have n6_2_1 : gx ≠ gm := O6.out.ne (i := 2) (j := 1) rfl rfl (by decide); clear o_ k_) | ((with_reducible refine gate_store (t := 46) (p := 8) rfl ?_); refine own_store rfl rfl rfl (w1 := (World.setCell (World.setCell (World.setCell w6 ⟨gx, 0, none⟩ (.int .i64 (rd_T46 l0 x).f0)) ⟨gx, 1, none⟩ (.int .i64 (rd_T46 l0 x).f1)) ⟨gx, 2, none⟩ (.string (rd_T46 l0 x).f2))) (N := N) (l' := [RP gr a0 p e, RM gm a0 p e, cells gx #[.int .i64 (rd_T46 l0 x).f0, .int .i64 (rd_T46 l0 x).f1, .string (rd_T46 l0 x).f2] 46]) ?hr ?ho ?hk ?_; (case hr => first | (go_simp; done) | (go_simp; rfl)); (case ho => exact (((O6.out.set (i := 2) rfl 0 (.int .i64 (rd_T46 l0 x).f0)).set (i := 2) rfl 1 (.int .i64 (rd_T46 l0 x).f1)).set (i := 2) rfl 2 (.string (rd_T46 l0 x).f2))); (case hk => exact (((KeepS.setCell (O6.out.far (i := 2) rfl) (.int .i64 (rd_T46 l0 x).f0)).trans (KeepS.setCell (O6.out.far (i := 2) rfl) (.int .i64 (rd_T46 l0 x).f1))).trans (KeepS.setCell (O6.out.far (i := 2) rfl) (.string (rd_T46 l0 x).f2)))); intro w7 o_ k_; have O7 : Aside0 (Own N w7 [RP gr a0 p e, RM gm a0 p e, cells gx #[.int .i64 (rd_T46 l0 x).f0, .int .i64 (rd_T46 l0 x).f1, .string (rd_T46 l0 x).f2] 46]) := ⟨o_⟩; have K7 : Aside0 (KeepS N w w7) := ⟨K6.out.trans k_⟩; clear c6_0_0 f6_0_0 c6_0_1 f6_0_1 c6_0_2 f6_0_2 c6_1_0 f6_1_0 c6_1_1 f6_1_1 c6_1_2 f6_1_2 c6_2_0 f6_2_0 c6_2_1 f6_2_1 c6_2_2 f6_2_2 n6_0_1 n6_0_2 n6_1_0 n6_1_2 n6_2_0 n6_2_1 O6 K6; have c7_0_0 : w7.cell? ⟨gr, 0, none⟩ = some (.string a0) := (blk_cell (O7.out.blk (i := 0) rfl) 0).trans rfl; have f7_0_0 : w7.frozen? ⟨gr, 0, none⟩ = false := blk_frozen (O7.out.blk (i := 0) rfl) 0; have c7_0_1 : w7.cell? ⟨gr, 1, none⟩ = some (.int .i64 p) := (blk_cell (O7.out.blk (i := 0) rfl) 1).trans rfl; have f7_0_1 : w7.frozen? ⟨gr, 1, none⟩ = false := blk_frozen (O7.out.blk (i := 0) rfl) 1; have c7_0_2 : w7.cell? ⟨gr, 2, none⟩ = some (.int .i64 e) := (blk_cell (O7.out.blk (i := 0) rfl) 2).trans rfl; have f7_0_2 : w7.frozen? ⟨gr, 2, none⟩ = false := blk_frozen (O7.out.blk (i := 0) rfl) 2; have c7_1_0 : w7.cell? ⟨gm, 0, none⟩ = some (.string a0) := (blk_cell (O7.out.blk (i := 1) rfl) 0).trans rfl; have f7_1_0 : w7.frozen? ⟨gm, 0, none⟩ = false := blk_frozen (O7.out.blk (i := 1) rfl) 0; have c7_1_1 : w7.cell? ⟨gm, 1, none⟩ = some (.int .i64 p) := (blk_cell (O7.out.blk (i := 1) rfl) 1).trans rfl; have f7_1_1 : w7.frozen? ⟨gm, 1, none⟩ = false := blk_frozen (O7.out.blk (i := 1) rfl) 1; have c7_1_2 : w7.cell? ⟨gm, 2, none⟩ = some (.int .i64 e) := (blk_cell (O7.out.blk (i := 1) rfl) 2).trans rfl; have f7_1_2 : w7.frozen? ⟨gm, 2, none⟩ = false := blk_frozen (O7.out.blk (i := 1) rfl) 2; have c7_2_0 : w7.cell? ⟨gx, 0, none⟩ = some (.int .i64 (rd_T46 l0 x).f0) := (blk_cell (O7.out.blk (i := 2) rfl) 0).trans rfl; have f7_2_0 : w7.frozen? ⟨gx, 0, none⟩ = false := blk_frozen (O7.out.blk (i := 2) rfl) 0; have c7_2_1 : w7.cell? ⟨gx, 1, none⟩ = some (.int .i64 (rd_T46 l0 x).f1) := (blk_cell (O7.out.blk (i := 2) rfl) 1).trans rfl; have f7_2_1 : w7.frozen? ⟨gx, 1, none⟩ = false := blk_frozen (O7.out.blk (i := 2) rfl) 1; have c7_2_2 : w7.cell? ⟨gx, 2, none⟩ = some (.string (rd_T46 l0 x).f2) := (blk_cell (O7.out.blk (i := 2) rfl) 2).trans rfl; have f7_2_2 : w7.frozen? ⟨gx, 2, none⟩ = false := blk_frozen (O7.out.blk (i := 2) rfl) 2; have n7_0_1 : gr ≠ gm := O7.out.ne (i := 0) (j := 1) rfl rfl (by decide); have n7_0_2 : gr ≠ gx := O7.out.ne (i := 0) (j := 2) rfl rfl (by decide); have n7_1_0 : gm ≠ gr := O7.out.ne (i := 1) (j := 0) rfl rfl (by decide); have n7_1_2 : gm ≠ gx := O7.out.ne (i := 1) (j := 2) rfl rfl (by decide); have n7_2_0 : gx ≠ gr := O7.out.ne (i := 2) (j := 0) rfl rfl (by decide); have n7_2_1 : gx ≠ gm := O7.out.ne (i := 2) (j := 1) rfl rfl (by decide); clear o_ k_))
          refine start_ (n := 10) (S := fun w' => w'.cell? ⟨gx, 0, none⟩ = some (.int .i64 (rd_T46 l0 x).f0) ∧ w'.cell? ⟨gx, 1, none⟩ = some (.int .i64 (rd_T46 l0 x).f1) ∧ w'.cell? ⟨gx, 2, none⟩ = some (.string (rd_T46 l0 x).f2)) (ds := []) #[false, false, false, false, false, false, false, false, false, false] (by kernel_rfl) rfl rfl ⟨((blk_cell (O7.out.blk (i := 2) rfl) 0).trans rfl), ((blk_cell (O7.out.blk (i := 2) rfl) 1).trans rfl), ((blk_cell (O7.out.blk (i := 2) rfl) 2).trans rfl)⟩ (fun hHeld => ?_)
          obtain ⟨w8, hw_⟩ : ∃ W, W = w7.drew := ⟨_, rfl⟩
          have o_ := O7.out.drew
          have k_ : KeepS N w7 w7.drew := KeepS.drew
          rw [← hw_] at o_ k_ hHeld ⊢
          clear hw_
          have O8 : Aside0 (Own N w8 [RP gr a0 p e, RM gm a0 p e, cells gx #[.int .i64 (rd_T46 l0 x).f0, .int .i64 (rd_T46 l0 x).f1, .string (rd_T46 l0 x).f2] 46]) := ⟨o_⟩
          have K8 : Aside0 (KeepS N w w8) := ⟨K7.out.trans k_⟩
          clear c7_0_0 f7_0_0 c7_0_1 f7_0_1 c7_0_2 f7_0_2 c7_1_0 f7_1_0 c7_1_1 f7_1_1 c7_1_2 f7_1_2 c7_2_0 f7_2_0 c7_2_1 f7_2_1 c7_2_2 f7_2_2 n7_0_1 n7_0_2 n7_1_0 n7_1_2 n7_2_0 n7_2_1 O7 K7
          have c8_0_0 : w8.cell? ⟨gr, 0, none⟩ = some (.string a0) := (blk_cell (O8.out.blk (i := 0) rfl) 0).trans rfl
          have f8_0_0 : w8.frozen? ⟨gr, 0, none⟩ = false := blk_frozen (O8.out.blk (i := 0) rfl) 0
          have c8_0_1 : w8.cell? ⟨gr, 1, none⟩ = some (.int .i64 p) := (blk_cell (O8.out.blk (i := 0) rfl) 1).trans rfl
          have f8_0_1 : w8.frozen? ⟨gr, 1, none⟩ = false := blk_frozen (O8.out.blk (i := 0) rfl) 1
          have c8_0_2 : w8.cell? ⟨gr, 2, none⟩ = some (.int .i64 e) := (blk_cell (O8.out.blk (i := 0) rfl) 2).trans rfl
          have f8_0_2 : w8.frozen? ⟨gr, 2, none⟩ = false := blk_frozen (O8.out.blk (i := 0) rfl) 2
          have c8_1_0 : w8.cell? ⟨gm, 0, none⟩ = some (.string a0) := (blk_cell (O8.out.blk (i := 1) rfl) 0).trans rfl
          have f8_1_0 : w8.frozen? ⟨gm, 0, none⟩ = false := blk_frozen (O8.out.blk (i := 1) rfl) 0
          have c8_1_1 : w8.cell? ⟨gm, 1, none⟩ = some (.int .i64 p) := (blk_cell (O8.out.blk (i := 1) rfl) 1).trans rfl
          have f8_1_1 : w8.frozen? ⟨gm, 1, none⟩ = false := blk_frozen (O8.out.blk (i := 1) rfl) 1
          have c8_1_2 : w8.cell? ⟨gm, 2, none⟩ = some (.int .i64 e) := (blk_cell (O8.out.blk (i := 1) rfl) 2).trans rfl
          have f8_1_2 : w8.frozen? ⟨gm, 2, none⟩ = false := blk_frozen (O8.out.blk (i := 1) rfl) 2
          have c8_2_0 : w8.cell? ⟨gx, 0, none⟩ = some (.int .i64 (rd_T46 l0 x).f0) := (blk_cell (O8.out.blk (i := 2) rfl) 0).trans rfl
          have f8_2_0 : w8.frozen? ⟨gx, 0, none⟩ = false := blk_frozen (O8.out.blk (i := 2) rfl) 0
          have c8_2_1 : w8.cell? ⟨gx, 1, none⟩ = some (.int .i64 (rd_T46 l0 x).f1) := (blk_cell (O8.out.blk (i := 2) rfl) 1).trans rfl
          have f8_2_1 : w8.frozen? ⟨gx, 1, none⟩ = false := blk_frozen (O8.out.blk (i := 2) rfl) 1
          have c8_2_2 : w8.cell? ⟨gx, 2, none⟩ = some (.string (rd_T46 l0 x).f2) := (blk_cell (O8.out.blk (i := 2) rfl) 2).trans rfl
          have f8_2_2 : w8.frozen? ⟨gx, 2, none⟩ = false := blk_frozen (O8.out.blk (i := 2) rfl) 2
          have n8_0_1 : gr ≠ gm := O8.out.ne (i := 0) (j := 1) rfl rfl (by decide)
          have n8_0_2 : gr ≠ gx := O8.out.ne (i := 0) (j := 2) rfl rfl (by decide)
          have n8_1_0 : gm ≠ gr := O8.out.ne (i := 1) (j := 0) rfl rfl (by decide)
          have n8_1_2 : gm ≠ gx := O8.out.ne (i := 1) (j := 2) rfl rfl (by decide)
          have n8_2_0 : gx ≠ gr := O8.out.ne (i := 2) (j := 0) rfl rfl (by decide)
          have n8_2_1 : gx ≠ gm := O8.out.ne (i := 2) (j := 1) rfl rfl (by decide)
          clear o_ k_
          refine pure_ (i := 0) (N := some 55) (v := ?_) (a' := ?_) #[true, false, false, false, false, false, false, false, false, false] rfl rfl (by kernel_rfl) (fun _ _ _ h => h) (Or.inl ⟨by rfl, ?_⟩) ?_ ?_
          rotate_left
          · intro w'
            go_simp
            with_reducible rfl
          rotate_left
          · simp only [Act.put, List.setIfInBounds_toArray, List.set_cons_zero, List.set_cons_succ, i64_w, i32_w]
            rfl
          refine pure_ (i := 1) (N := some 56) (v := ?_) (a' := ?_) #[true, true, false, false, false, false, false, false, false, false] rfl rfl (by kernel_rfl) (fun _ _ _ h => h) (Or.inl ⟨by rfl, ?_⟩) ?_ ?_
          rotate_left
          · intro w'
            go_simp
            with_reducible rfl
          rotate_left
          · simp only [Act.put, List.setIfInBounds_toArray, List.set_cons_zero, List.set_cons_succ, i64_w, i32_w]
            rfl
          refine pure_ (i := 4) (N := some 59) (v := ?_) (a' := ?_) #[true, true, false, false, true, false, false, false, false, false] rfl rfl (by kernel_rfl) (fun _ _ _ h => h) (Or.inl ⟨by rfl, ?_⟩) ?_ ?_
          rotate_left
          · intro w'
            go_simp
            with_reducible rfl
          rotate_left
          · simp only [Act.put, List.setIfInBounds_toArray, List.set_cons_zero, List.set_cons_succ, i64_w, i32_w]
            rfl
          refine pure_ (i := 5) (N := some 60) (v := ?_) (a' := ?_) #[true, true, false, false, true, true, false, false, false, false] rfl rfl (by kernel_rfl) (fun _ _ _ h => h) (Or.inl ⟨by rfl, ?_⟩) ?_ ?_
          rotate_left
          · intro w'
            go_simp
            with_reducible rfl
          rotate_left
          · simp only [Act.put, List.setIfInBounds_toArray, List.set_cons_zero, List.set_cons_succ, i64_w, i32_w]
            rfl
          refine take_ (i := 2) (N := some 57) (v := ?_) (a' := ?_) #[true, true, true, false, true, true, false, false, false, false] rfl rfl (by kernel_rfl) (fun _ _ _ h => h) (Or.inl ⟨by rfl, ?_⟩) hHeld ?_ ?_
          rotate_left
          · rintro w' ⟨s0, s1, s2⟩
            go_simp
            with_reducible rfl
          rotate_left
          · simp only [Act.put, List.setIfInBounds_toArray, List.set_cons_zero, List.set_cons_succ, i64_w, i32_w]
            rfl
          refine take_ (i := 6) (N := some 61) (v := ?_) (a' := ?_) #[true, true, true, false, true, true, true, false, false, false] rfl rfl (by kernel_rfl) (fun _ _ _ h => h) (Or.inl ⟨by rfl, ?_⟩) hHeld ?_ ?_
          rotate_left
          · rintro w' ⟨s0, s1, s2⟩
            go_simp
            with_reducible rfl
          rotate_left
          · simp only [Act.put, List.setIfInBounds_toArray, List.set_cons_zero, List.set_cons_succ, i64_w, i32_w]
            rfl
          refine one_ (i := 3) (N := some 58) #[true, true, true, true, true, true, true, false, false, false] rfl rfl (by kernel_rfl) (by decide) (fun K_ hK_ => ?_)
          refine goes_ Tryd.func20 (by kernel_rfl) rfl #[.pointer (some ⟨gr, 0, none⟩), .int .i64 (rd_T46 l0 x).f1] (by rfl) rfl rfl (by (try simp only [List.map_toArray, List.map_cons, List.map_nil]); first | done | rfl) ?_
          obtain ⟨N_, on_, nn_, rr_, bb_⟩ := O8.out.frame1 (i := 0) rfl
          refine (pTxt HT (K8.out.below (Nat.le_refl _) (fun k hk => by rw [HN.out]; exact hk)) (Nat.le_of_not_lt (fun q_ => (O8.out.far (i := 0) rfl) (by rw [HN.out]; exact q_))) HSZ.out HI.out.1 HI.out.2 _ v p2 e2 HQ.out on_).mono ?_
          rintro e_ w9 ⟨rfl, oo_, kk_⟩
          obtain ⟨o_, k_⟩ := bb_ _ _ _ kk_ oo_
          refine ⟨_, rfl, ?_⟩
          have O9 : Aside0 (Own N w9 [RP gr a0 p2 e2, RM gm a0 p e, cells gx #[.int .i64 (rd_T46 l0 x).f0, .int .i64 (rd_T46 l0 x).f1, .string (rd_T46 l0 x).f2] 46]) := ⟨o_⟩
          have K9 : Aside0 (KeepS N w w9) := ⟨K8.out.trans k_⟩
          clear c8_0_0 f8_0_0 c8_0_1 f8_0_1 c8_0_2 f8_0_2 c8_1_0 f8_1_0 c8_1_1 f8_1_1 c8_1_2 f8_1_2 c8_2_0 f8_2_0 c8_2_1 f8_2_1 c8_2_2 f8_2_2 n8_0_1 n8_0_2 n8_1_0 n8_1_2 n8_2_0 n8_2_1 O8 K8
          have c9_0_0 : w9.cell? ⟨gr, 0, none⟩ = some (.string a0) := (blk_cell (O9.out.blk (i := 0) rfl) 0).trans rfl
          have f9_0_0 : w9.frozen? ⟨gr, 0, none⟩ = false := blk_frozen (O9.out.blk (i := 0) rfl) 0
          have c9_0_1 : w9.cell? ⟨gr, 1, none⟩ = some (.int .i64 p2) := (blk_cell (O9.out.blk (i := 0) rfl) 1).trans rfl
          have f9_0_1 : w9.frozen? ⟨gr, 1, none⟩ = false := blk_frozen (O9.out.blk (i := 0) rfl) 1
          have c9_0_2 : w9.cell? ⟨gr, 2, none⟩ = some (.int .i64 e2) := (blk_cell (O9.out.blk (i := 0) rfl) 2).trans rfl
          have f9_0_2 : w9.frozen? ⟨gr, 2, none⟩ = false := blk_frozen (O9.out.blk (i := 0) rfl) 2
          have c9_1_0 : w9.cell? ⟨gm, 0, none⟩ = some (.string a0) := (blk_cell (O9.out.blk (i := 1) rfl) 0).trans rfl
          have f9_1_0 : w9.frozen? ⟨gm, 0, none⟩ = false := blk_frozen (O9.out.blk (i := 1) rfl) 0
          have c9_1_1 : w9.cell? ⟨gm, 1, none⟩ = some (.int .i64 p) := (blk_cell (O9.out.blk (i := 1) rfl) 1).trans rfl
          have f9_1_1 : w9.frozen? ⟨gm, 1, none⟩ = false := blk_frozen (O9.out.blk (i := 1) rfl) 1
          have c9_1_2 : w9.cell? ⟨gm, 2, none⟩ = some (.int .i64 e) := (blk_cell (O9.out.blk (i := 1) rfl) 2).trans rfl
          have f9_1_2 : w9.frozen? ⟨gm, 2, none⟩ = false := blk_frozen (O9.out.blk (i := 1) rfl) 2
          have c9_2_0 : w9.cell? ⟨gx, 0, none⟩ = some (.int .i64 (rd_T46 l0 x).f0) := (blk_cell (O9.out.blk (i := 2) rfl) 0).trans rfl
          have f9_2_0 : w9.frozen? ⟨gx, 0, none⟩ = false := blk_frozen (O9.out.blk (i := 2) rfl) 0
          have c9_2_1 : w9.cell? ⟨gx, 1, none⟩ = some (.int .i64 (rd_T46 l0 x).f1) := (blk_cell (O9.out.blk (i := 2) rfl) 1).trans rfl
          have f9_2_1 : w9.frozen? ⟨gx, 1, none⟩ = false := blk_frozen (O9.out.blk (i := 2) rfl) 1
          have c9_2_2 : w9.cell? ⟨gx, 2, none⟩ = some (.string (rd_T46 l0 x).f2) := (blk_cell (O9.out.blk (i := 2) rfl) 2).trans rfl
          have f9_2_2 : w9.frozen? ⟨gx, 2, none⟩ = false := blk_frozen (O9.out.blk (i := 2) rfl) 2
          have n9_0_1 : gr ≠ gm := O9.out.ne (i := 0) (j := 1) rfl rfl (by decide)
          have n9_0_2 : gr ≠ gx := O9.out.ne (i := 0) (j := 2) rfl rfl (by decide)
          have n9_1_0 : gm ≠ gr := O9.out.ne (i := 1) (j := 0) rfl rfl (by decide)
          have n9_1_2 : gm ≠ gx := O9.out.ne (i := 1) (j := 2) rfl rfl (by decide)
          have n9_2_0 : gx ≠ gr := O9.out.ne (i := 2) (j := 0) rfl rfl (by decide)
          have n9_2_1 : gx ≠ gm := O9.out.ne (i := 2) (j := 1) rfl rfl (by decide)
          clear o_ k_ oo_ kk_ on_ nn_ rr_ bb_
          clear hHeld
          refine hK_.out _ _ ⟨((blk_cell (O9.out.blk (i := 2) rfl) 0).trans rfl), ((blk_cell (O9.out.blk (i := 2) rfl) 1).trans rfl), ((blk_cell (O9.out.blk (i := 2) rfl) 2).trans rfl)⟩ (fun hHeld => ?_)
          clear hK_ K_
          refine norm_ (a' := ?_) ?_ ?_
          rotate_left
          · simp only [Act.put, List.setIfInBounds_toArray, List.set_cons_zero, List.set_cons_succ, i64_w, i32_w]
            rfl
          refine one_ (i := 7) (N := some 62) #[true, true, true, true, true, true, true, true, false, false] rfl rfl (by kernel_rfl) (by decide) (fun K_ hK_ => ?_)
          refine goes_ Tryd.func27 (by kernel_rfl) rfl #[.pointer (some ⟨gm, 0, none⟩), .int .i64 (rd_T46 l0 x).f1] (by rfl) rfl rfl (by (try simp only [List.map_toArray, List.map_cons, List.map_nil]); first | done | rfl) ?_
          obtain ⟨N_, on_, nn_, rr_, bb_⟩ := O9.out.frame1 (i := 1) rfl
          refine (rTxt (K9.out.below (Nat.le_refl _) (fun k hk => by rw [HN.out]; exact hk)) (Nat.le_of_not_lt (fun q_ => (O9.out.far (i := 1) rfl) (by rw [HN.out]; exact q_))) HSZ.out HI.out.1 HI.out.2 _ v p2 e2 HQ.out on_).mono ?_
          rintro e_ w10 ⟨rfl, oo_, kk_⟩
          obtain ⟨o_, k_⟩ := bb_ _ _ _ kk_ oo_
          refine ⟨_, rfl, ?_⟩
          have O10 : Aside0 (Own N w10 [RP gr a0 p2 e2, RM gm a0 p2 e2, cells gx #[.int .i64 (rd_T46 l0 x).f0, .int .i64 (rd_T46 l0 x).f1, .string (rd_T46 l0 x).f2] 46]) := ⟨o_⟩
          have K10 : Aside0 (KeepS N w w10) := ⟨K9.out.trans k_⟩
          clear c9_0_0 f9_0_0 c9_0_1 f9_0_1 c9_0_2 f9_0_2 c9_1_0 f9_1_0 c9_1_1 f9_1_1 c9_1_2 f9_1_2 c9_2_0 f9_2_0 c9_2_1 f9_2_1 c9_2_2 f9_2_2 n9_0_1 n9_0_2 n9_1_0 n9_1_2 n9_2_0 n9_2_1 O9 K9
          have c10_0_0 : w10.cell? ⟨gr, 0, none⟩ = some (.string a0) := (blk_cell (O10.out.blk (i := 0) rfl) 0).trans rfl
          have f10_0_0 : w10.frozen? ⟨gr, 0, none⟩ = false := blk_frozen (O10.out.blk (i := 0) rfl) 0
          have c10_0_1 : w10.cell? ⟨gr, 1, none⟩ = some (.int .i64 p2) := (blk_cell (O10.out.blk (i := 0) rfl) 1).trans rfl
          have f10_0_1 : w10.frozen? ⟨gr, 1, none⟩ = false := blk_frozen (O10.out.blk (i := 0) rfl) 1
          have c10_0_2 : w10.cell? ⟨gr, 2, none⟩ = some (.int .i64 e2) := (blk_cell (O10.out.blk (i := 0) rfl) 2).trans rfl
          have f10_0_2 : w10.frozen? ⟨gr, 2, none⟩ = false := blk_frozen (O10.out.blk (i := 0) rfl) 2
          have c10_1_0 : w10.cell? ⟨gm, 0, none⟩ = some (.string a0) := (blk_cell (O10.out.blk (i := 1) rfl) 0).trans rfl
          have f10_1_0 : w10.frozen? ⟨gm, 0, none⟩ = false := blk_frozen (O10.out.blk (i := 1) rfl) 0
          have c10_1_1 : w10.cell? ⟨gm, 1, none⟩ = some (.int .i64 p2) := (blk_cell (O10.out.blk (i := 1) rfl) 1).trans rfl
          have f10_1_1 : w10.frozen? ⟨gm, 1, none⟩ = false := blk_frozen (O10.out.blk (i := 1) rfl) 1
          have c10_1_2 : w10.cell? ⟨gm, 2, none⟩ = some (.int .i64 e2) := (blk_cell (O10.out.blk (i := 1) rfl) 2).trans rfl
          have f10_1_2 : w10.frozen? ⟨gm, 2, none⟩ = false := blk_frozen (O10.out.blk (i := 1) rfl) 2
          have c10_2_0 : w10.cell? ⟨gx, 0, none⟩ = some (.int .i64 (rd_T46 l0 x).f0) := (blk_cell (O10.out.blk (i := 2) rfl) 0).trans rfl
          have f10_2_0 : w10.frozen? ⟨gx, 0, none⟩ = false := blk_frozen (O10.out.blk (i := 2) rfl) 0
          have c10_2_1 : w10.cell? ⟨gx, 1, none⟩ = some (.int .i64 (rd_T46 l0 x).f1) := (blk_cell (O10.out.blk (i := 2) rfl) 1).trans rfl
          have f10_2_1 : w10.frozen? ⟨gx, 1, none⟩ = false := blk_frozen (O10.out.blk (i := 2) rfl) 1
          have c10_2_2 : w10.cell? ⟨gx, 2, none⟩ = some (.string (rd_T46 l0 x).f2) := (blk_cell (O10.out.blk (i := 2) rfl) 2).trans rfl
          have f10_2_2 : w10.frozen? ⟨gx, 2, none⟩ = false := blk_frozen (O10.out.blk (i := 2) rfl) 2
          have n10_0_1 : gr ≠ gm := O10.out.ne (i := 0) (j := 1) rfl rfl (by decide)
          have n10_0_2 : gr ≠ gx := O10.out.ne (i := 0) (j := 2) rfl rfl (by decide)
          have n10_1_0 : gm ≠ gr := O10.out.ne (i := 1) (j := 0) rfl rfl (by decide)
          have n10_1_2 : gm ≠ gx := O10.out.ne (i := 1) (j := 2) rfl rfl (by decide)
          have n10_2_0 : gx ≠ gr := O10.out.ne (i := 2) (j := 0) rfl rfl (by decide)
          have n10_2_1 : gx ≠ gm := O10.out.ne (i := 2) (j := 1) rfl rfl (by decide)
          clear o_ k_ oo_ kk_ on_ nn_ rr_ bb_
          clear hHeld
          refine hK_.out _ _ ⟨((blk_cell (O10.out.blk (i := 2) rfl) 0).trans rfl), ((blk_cell (O10.out.blk (i := 2) rfl) 1).trans rfl), ((blk_cell (O10.out.blk (i := 2) rfl) 2).trans rfl)⟩ (fun hHeld => ?_)
          clear hK_ K_
          refine norm_ (a' := ?_) ?_ ?_
          rotate_left
          · simp only [Act.put, List.setIfInBounds_toArray, List.set_cons_zero, List.set_cons_succ, i64_w, i32_w]
            rfl
          refine pure_ (i := 8) (N := some 63) (v := ?_) (a' := ?_) #[true, true, true, true, true, true, true, true, true, false] rfl rfl (by kernel_rfl) (fun _ _ _ h => h) (Or.inl ⟨by rfl, ?_⟩) ?_ ?_
          rotate_left
          · intro w'
            go_simp
            with_reducible rfl
          rotate_left
          · simp only [Act.put, List.setIfInBounds_toArray, List.set_cons_zero, List.set_cons_succ, i64_w, i32_w]
            rfl
          refine pure_ (i := 9) (N := some 9) (v := ?_) (a' := ?_) #[true, true, true, true, true, true, true, true, true, true] rfl rfl (by kernel_rfl) (fun _ _ _ h => h) (Or.inl ⟨by rfl, ?_⟩) ?_ ?_
          rotate_left
          · intro w'
            go_simp
            with_reducible rfl
          rotate_left
          · simp only [Act.put, List.setIfInBounds_toArray, List.set_cons_zero, List.set_cons_succ, i64_w, i32_w]
            rfl
          refine done_ (by kernel_rfl) ?_
          clear hHeld
          go_wp2
          refine start_ (n := 11) (S := fun w' => w'.cell? ⟨gm, 0, none⟩ = some (.string a0) ∧ w'.cell? ⟨gm, 1, none⟩ = some (.int .i64 p2) ∧ w'.cell? ⟨gm, 2, none⟩ = some (.int .i64 e2)) (ds := []) #[false, false, false, false, false, false, false, false, false, false, false] (by kernel_rfl) rfl rfl ⟨((blk_cell (O10.out.blk (i := 1) rfl) 0).trans rfl), ((blk_cell (O10.out.blk (i := 1) rfl) 1).trans rfl), ((blk_cell (O10.out.blk (i := 1) rfl) 2).trans rfl)⟩ (fun hHeld => ?_)
          obtain ⟨w11, hw_⟩ : ∃ W, W = w10.drew := ⟨_, rfl⟩
          have o_ := O10.out.drew
          have k_ : KeepS N w10 w10.drew := KeepS.drew
          rw [← hw_] at o_ k_ hHeld ⊢
          clear hw_
          have O11 : Aside0 (Own N w11 [RP gr a0 p2 e2, RM gm a0 p2 e2, cells gx #[.int .i64 (rd_T46 l0 x).f0, .int .i64 (rd_T46 l0 x).f1, .string (rd_T46 l0 x).f2] 46]) := ⟨o_⟩
          have K11 : Aside0 (KeepS N w w11) := ⟨K10.out.trans k_⟩
          clear c10_0_0 f10_0_0 c10_0_1 f10_0_1 c10_0_2 f10_0_2 c10_1_0 f10_1_0 c10_1_1 f10_1_1 c10_1_2 f10_1_2 c10_2_0 f10_2_0 c10_2_1 f10_2_1 c10_2_2 f10_2_2 n10_0_1 n10_0_2 n10_1_0 n10_1_2 n10_2_0 n10_2_1 O10 K10
          have c11_0_0 : w11.cell? ⟨gr, 0, none⟩ = some (.string a0) := (blk_cell (O11.out.blk (i := 0) rfl) 0).trans rfl
          have f11_0_0 : w11.frozen? ⟨gr, 0, none⟩ = false := blk_frozen (O11.out.blk (i := 0) rfl) 0
          have c11_0_1 : w11.cell? ⟨gr, 1, none⟩ = some (.int .i64 p2) := (blk_cell (O11.out.blk (i := 0) rfl) 1).trans rfl
          have f11_0_1 : w11.frozen? ⟨gr, 1, none⟩ = false := blk_frozen (O11.out.blk (i := 0) rfl) 1
          have c11_0_2 : w11.cell? ⟨gr, 2, none⟩ = some (.int .i64 e2) := (blk_cell (O11.out.blk (i := 0) rfl) 2).trans rfl
          have f11_0_2 : w11.frozen? ⟨gr, 2, none⟩ = false := blk_frozen (O11.out.blk (i := 0) rfl) 2
          have c11_1_0 : w11.cell? ⟨gm, 0, none⟩ = some (.string a0) := (blk_cell (O11.out.blk (i := 1) rfl) 0).trans rfl
          have f11_1_0 : w11.frozen? ⟨gm, 0, none⟩ = false := blk_frozen (O11.out.blk (i := 1) rfl) 0
          have c11_1_1 : w11.cell? ⟨gm, 1, none⟩ = some (.int .i64 p2) := (blk_cell (O11.out.blk (i := 1) rfl) 1).trans rfl
          have f11_1_1 : w11.frozen? ⟨gm, 1, none⟩ = false := blk_frozen (O11.out.blk (i := 1) rfl) 1
          have c11_1_2 : w11.cell? ⟨gm, 2, none⟩ = some (.int .i64 e2) := (blk_cell (O11.out.blk (i := 1) rfl) 2).trans rfl
          have f11_1_2 : w11.frozen? ⟨gm, 2, none⟩ = false := blk_frozen (O11.out.blk (i := 1) rfl) 2
          have c11_2_0 : w11.cell? ⟨gx, 0, none⟩ = some (.int .i64 (rd_T46 l0 x).f0) := (blk_cell (O11.out.blk (i := 2) rfl) 0).trans rfl
          have f11_2_0 : w11.frozen? ⟨gx, 0, none⟩ = false := blk_frozen (O11.out.blk (i := 2) rfl) 0
          have c11_2_1 : w11.cell? ⟨gx, 1, none⟩ = some (.int .i64 (rd_T46 l0 x).f1) := (blk_cell (O11.out.blk (i := 2) rfl) 1).trans rfl
          have f11_2_1 : w11.frozen? ⟨gx, 1, none⟩ = false := blk_frozen (O11.out.blk (i := 2) rfl) 1
          have c11_2_2 : w11.cell? ⟨gx, 2, none⟩ = some (.string (rd_T46 l0 x).f2) := (blk_cell (O11.out.blk (i := 2) rfl) 2).trans rfl
          have f11_2_2 : w11.frozen? ⟨gx, 2, none⟩ = false := blk_frozen (O11.out.blk (i := 2) rfl) 2
          have n11_0_1 : gr ≠ gm := O11.out.ne (i := 0) (j := 1) rfl rfl (by decide)
          have n11_0_2 : gr ≠ gx := O11.out.ne (i := 0) (j := 2) rfl rfl (by decide)
          have n11_1_0 : gm ≠ gr := O11.out.ne (i := 1) (j := 0) rfl rfl (by decide)
          have n11_1_2 : gm ≠ gx := O11.out.ne (i := 1) (j := 2) rfl rfl (by decide)
          have n11_2_0 : gx ≠ gr := O11.out.ne (i := 2) (j := 0) rfl rfl (by decide)
          have n11_2_1 : gx ≠ gm := O11.out.ne (i := 2) (j := 1) rfl rfl (by decide)
          clear o_ k_
          refine pure_ (i := 0) (N := some 81) (v := ?_) (a' := ?_) #[true, false, false, false, false, false, false, false, false, false, false] rfl rfl (by kernel_rfl) (fun _ _ _ h => h) (Or.inl ⟨by rfl, ?_⟩) ?_ ?_
          rotate_left
          · intro w'
            go_simp
            with_reducible rfl
          rotate_left
          · simp only [Act.put, List.setIfInBounds_toArray, List.set_cons_zero, List.set_cons_succ, i64_w, i32_w]
            rfl
          refine pure_ (i := 1) (N := some 82) (v := ?_) (a' := ?_) #[true, true, false, false, false, false, false, false, false, false, false] rfl rfl (by kernel_rfl) (fun _ _ _ h => h) (Or.inl ⟨by rfl, ?_⟩) ?_ ?_
          rotate_left
          · intro w'
            go_simp
            with_reducible rfl
          rotate_left
          · simp only [Act.put, List.setIfInBounds_toArray, List.set_cons_zero, List.set_cons_succ, i64_w, i32_w]
            rfl
          refine pure_ (i := 2) (N := some 83) (v := ?_) (a' := ?_) #[true, true, true, false, false, false, false, false, false, false, false] rfl rfl (by kernel_rfl) (fun _ _ _ h => h) (Or.inl ⟨by rfl, ?_⟩) ?_ ?_
          rotate_left
          · intro w'
            go_simp
            with_reducible rfl
          rotate_left
          · simp only [Act.put, List.setIfInBounds_toArray, List.set_cons_zero, List.set_cons_succ, i64_w, i32_w]
            rfl
          refine pure_ (i := 3) (N := some 84) (v := ?_) (a' := ?_) #[true, true, true, true, false, false, false, false, false, false, false] rfl rfl (by kernel_rfl) (fun _ _ _ h => h) (Or.inl ⟨by rfl, ?_⟩) ?_ ?_
          rotate_left
          · intro w'
            go_simp
            with_reducible rfl
          rotate_left
          · simp only [Act.put, List.setIfInBounds_toArray, List.set_cons_zero, List.set_cons_succ, i64_w, i32_w]
            rfl
          refine pure_ (i := 5) (N := some 86) (v := ?_) (a' := ?_) #[true, true, true, true, false, true, false, false, false, false, false] rfl rfl (by kernel_rfl) (fun _ _ _ h => h) (Or.inl ⟨by rfl, ?_⟩) ?_ ?_
          rotate_left
          · intro w'
            go_simp
            with_reducible rfl
          rotate_left
          · simp only [Act.put, List.setIfInBounds_toArray, List.set_cons_zero, List.set_cons_succ, i64_w, i32_w]
            rfl
          refine pure_ (i := 6) (N := some 87) (v := ?_) (a' := ?_) #[true, true, true, true, false, true, true, false, false, false, false] rfl rfl (by kernel_rfl) (fun _ _ _ h => h) (Or.inl ⟨by rfl, ?_⟩) ?_ ?_
          rotate_left
          · intro w'
            go_simp
            with_reducible rfl
          rotate_left
          · simp only [Act.put, List.setIfInBounds_toArray, List.set_cons_zero, List.set_cons_succ, i64_w, i32_w]
            rfl
          refine pure_ (i := 7) (N := some 88) (v := ?_) (a' := ?_) #[true, true, true, true, false, true, true, true, false, false, false] rfl rfl (by kernel_rfl) (fun _ _ _ h => h) (Or.inl ⟨by rfl, ?_⟩) ?_ ?_
          rotate_left
          · intro w'
            go_simp
            with_reducible rfl
          rotate_left
          · simp only [Act.put, List.setIfInBounds_toArray, List.set_cons_zero, List.set_cons_succ, i64_w, i32_w]
            rfl
          refine take_ (i := 8) (N := some 89) (v := ?_) (a' := ?_) #[true, true, true, true, false, true, true, true, true, false, false] rfl rfl (by kernel_rfl) (fun _ _ _ h => h) (Or.inl ⟨by rfl, ?_⟩) hHeld ?_ ?_
          rotate_left
          · rintro w' ⟨s0, s1, s2⟩
            go_simp
            with_reducible rfl
          rotate_left
          · simp only [Act.put, List.setIfInBounds_toArray, List.set_cons_zero, List.set_cons_succ, i64_w, i32_w]
            rfl
          refine one_ (i := 4) (N := some 85) #[true, true, true, true, true, true, true, true, true, false, false] rfl rfl (by kernel_rfl) (by decide) (fun K_ hK_ => ?_)
          refine goes_ Tryd.func22 (by kernel_rfl) rfl #[.pointer (some ⟨gr, 0, none⟩)] (by rfl) rfl rfl (by (try simp only [List.map_toArray, List.map_cons, List.map_nil]); first | done | rfl) ?_
          obtain ⟨N_, on_, nn_, rr_, bb_⟩ := O11.out.frame1 (i := 0) rfl
          refine (pErr (K11.out.below (Nat.le_refl _) (fun k hk => by rw [HN.out]; exact hk)) (Nat.le_of_not_lt (fun q_ => (O11.out.far (i := 0) rfl) (by rw [HN.out]; exact q_))) on_).mono ?_
          rintro e_ w12 ⟨rfl, oo_, kk_⟩
          obtain ⟨o_, k_⟩ := bb_ _ _ _ kk_ oo_
          refine ⟨_, rfl, ?_⟩
          have O12 : Aside0 (Own N w12 [RP gr a0 p2 e2, RM gm a0 p2 e2, cells gx #[.int .i64 (rd_T46 l0 x).f0, .int .i64 (rd_T46 l0 x).f1, .string (rd_T46 l0 x).f2] 46]) := ⟨o_⟩
          have K12 : Aside0 (KeepS N w w12) := ⟨K11.out.trans k_⟩
          clear c11_0_0 f11_0_0 c11_0_1 f11_0_1 c11_0_2 f11_0_2 c11_1_0 f11_1_0 c11_1_1 f11_1_1 c11_1_2 f11_1_2 c11_2_0 f11_2_0 c11_2_1 f11_2_1 c11_2_2 f11_2_2 n11_0_1 n11_0_2 n11_1_0 n11_1_2 n11_2_0 n11_2_1 O11 K11
          have c12_0_0 : w12.cell? ⟨gr, 0, none⟩ = some (.string a0) := (blk_cell (O12.out.blk (i := 0) rfl) 0).trans rfl
          have f12_0_0 : w12.frozen? ⟨gr, 0, none⟩ = false := blk_frozen (O12.out.blk (i := 0) rfl) 0
          have c12_0_1 : w12.cell? ⟨gr, 1, none⟩ = some (.int .i64 p2) := (blk_cell (O12.out.blk (i := 0) rfl) 1).trans rfl
          have f12_0_1 : w12.frozen? ⟨gr, 1, none⟩ = false := blk_frozen (O12.out.blk (i := 0) rfl) 1
          have c12_0_2 : w12.cell? ⟨gr, 2, none⟩ = some (.int .i64 e2) := (blk_cell (O12.out.blk (i := 0) rfl) 2).trans rfl
          have f12_0_2 : w12.frozen? ⟨gr, 2, none⟩ = false := blk_frozen (O12.out.blk (i := 0) rfl) 2
          have c12_1_0 : w12.cell? ⟨gm, 0, none⟩ = some (.string a0) := (blk_cell (O12.out.blk (i := 1) rfl) 0).trans rfl
          have f12_1_0 : w12.frozen? ⟨gm, 0, none⟩ = false := blk_frozen (O12.out.blk (i := 1) rfl) 0
          have c12_1_1 : w12.cell? ⟨gm, 1, none⟩ = some (.int .i64 p2) := (blk_cell (O12.out.blk (i := 1) rfl) 1).trans rfl
          have f12_1_1 : w12.frozen? ⟨gm, 1, none⟩ = false := blk_frozen (O12.out.blk (i := 1) rfl) 1
          have c12_1_2 : w12.cell? ⟨gm, 2, none⟩ = some (.int .i64 e2) := (blk_cell (O12.out.blk (i := 1) rfl) 2).trans rfl
          have f12_1_2 : w12.frozen? ⟨gm, 2, none⟩ = false := blk_frozen (O12.out.blk (i := 1) rfl) 2
          have c12_2_0 : w12.cell? ⟨gx, 0, none⟩ = some (.int .i64 (rd_T46 l0 x).f0) := (blk_cell (O12.out.blk (i := 2) rfl) 0).trans rfl
          have f12_2_0 : w12.frozen? ⟨gx, 0, none⟩ = false := blk_frozen (O12.out.blk (i := 2) rfl) 0
          have c12_2_1 : w12.cell? ⟨gx, 1, none⟩ = some (.int .i64 (rd_T46 l0 x).f1) := (blk_cell (O12.out.blk (i := 2) rfl) 1).trans rfl
          have f12_2_1 : w12.frozen? ⟨gx, 1, none⟩ = false := blk_frozen (O12.out.blk (i := 2) rfl) 1
          have c12_2_2 : w12.cell? ⟨gx, 2, none⟩ = some (.string (rd_T46 l0 x).f2) := (blk_cell (O12.out.blk (i := 2) rfl) 2).trans rfl
          have f12_2_2 : w12.frozen? ⟨gx, 2, none⟩ = false := blk_frozen (O12.out.blk (i := 2) rfl) 2
          have n12_0_1 : gr ≠ gm := O12.out.ne (i := 0) (j := 1) rfl rfl (by decide)
          have n12_0_2 : gr ≠ gx := O12.out.ne (i := 0) (j := 2) rfl rfl (by decide)
          have n12_1_0 : gm ≠ gr := O12.out.ne (i := 1) (j := 0) rfl rfl (by decide)
          have n12_1_2 : gm ≠ gx := O12.out.ne (i := 1) (j := 2) rfl rfl (by decide)
          have n12_2_0 : gx ≠ gr := O12.out.ne (i := 2) (j := 0) rfl rfl (by decide)
          have n12_2_1 : gx ≠ gm := O12.out.ne (i := 2) (j := 1) rfl rfl (by decide)
          clear o_ k_ oo_ kk_ on_ nn_ rr_ bb_
          clear hHeld
          refine hK_.out _ _ ⟨((blk_cell (O12.out.blk (i := 1) rfl) 0).trans rfl), ((blk_cell (O12.out.blk (i := 1) rfl) 1).trans rfl), ((blk_cell (O12.out.blk (i := 1) rfl) 2).trans rfl)⟩ (fun hHeld => ?_)
          clear hK_ K_
          refine norm_ (a' := ?_) ?_ ?_
          rotate_left
          · simp only [Act.put, List.setIfInBounds_toArray, List.set_cons_zero, List.set_cons_succ, i64_w, i32_w]
            rfl
          refine pure_ (i := 9) (N := some 90) (v := ?_) (a' := ?_) #[true, true, true, true, true, true, true, true, true, true, false] rfl rfl (by kernel_rfl) (fun _ _ _ h => h) (Or.inl ⟨by rfl, ?_⟩) ?_ ?_
          rotate_left
          · intro w'
            go_simp
            with_reducible rfl
          rotate_left
          · simp only [Act.put, List.setIfInBounds_toArray, List.set_cons_zero, List.set_cons_succ, i64_w, i32_w]
            rfl
          refine pure_ (i := 10) (N := some 91) (v := ?_) (a' := ?_) #[true, true, true, true, true, true, true, true, true, true, true] rfl rfl (by kernel_rfl) (fun _ _ _ h => h) (Or.inl ⟨by rfl, ?_⟩) ?_ ?_
          rotate_left
          · intro w'
            go_simp
            with_reducible rfl
          rotate_left
          · simp only [Act.put, List.setIfInBounds_toArray, List.set_cons_zero, List.set_cons_succ, i64_w, i32_w]
            rfl
          refine done_ (by kernel_rfl) ?_
          clear hHeld
          go_wp2
          go_roundw
          case rel => exact ⟨x + 1, p2, e2, by have := HX.out; omega, by have := HX.out; omega, int_eq (by unfold wrap64; have := HX.out; have := HL200.out; omega), ⟨by have q_ := txtR_place a0 p e (rd_T46 l0 x).f1 HI.out.1 HI.out.2; rw [HQ.out] at q_; exact ⟨q_.1, q_.2.1⟩⟩, ⟨O12.out.pick2 (a := 0) (b := 1) rfl rfl (by decide)⟩, K12⟩
          case measure => have := HX.out; simp [intOf]; omega
        have hb3 : ((rd_T46 l0 x).f0 == 3) = false := beq_eq_false_iff_ne.2 hk3
        clear hk3
        by_cases hk4 : (rd_T46 l0 x).f0 = 4
        · have hb4 : ((rd_T46 l0 x).f0 == 4) = true := beq_iff_eq.2 hk4
          clear hk4
          have hee : ((failR e (rd_T46 l0 x).f1) != (failR e (rd_T46 l0 x).f1)) = false := by simp
          go_wp2_with (first | ((with_reducible refine gate_dst (N := 8) rfl ?_); refine own_box rfl (D := 8) rfl (cs := #[.int .i64 0, .int .i64 0, .string (⟨#[]⟩ : ByteArray)]) (t := 46) ?hr O5.out ?_; (case hr => first | (go_simp; done) | (go_simp; rfl)); intro gx w6 o_ k_; have O6 : Aside0 (Own N w6 [RP gr a0 p e, RM gm a0 p e, cells gx #[.int .i64 0, .int .i64 0, .string (⟨#[]⟩ : ByteArray)] 46]) := ⟨o_⟩; have K6 : Aside0 (KeepS N w w6) := ⟨K5.out.trans k_⟩; clear c5_0_0 f5_0_0 c5_0_1 f5_0_1 c5_0_2 f5_0_2 c5_1_0 f5_1_0 c5_1_1 f5_1_1 c5_1_2 f5_1_2 n5_0_1 n5_1_0 O5 K5; have c6_0_0 : w6.cell? ⟨gr, 0, none⟩ = some (.string a0) := (blk_cell (O6.out.blk (i := 0) rfl) 0).trans rfl; have f6_0_0 : w6.frozen? ⟨gr, 0, none⟩ = false := blk_frozen (O6.out.blk (i := 0) rfl) 0; have c6_0_1 : w6.cell? ⟨gr, 1, none⟩ = some (.int .i64 p) := (blk_cell (O6.out.blk (i := 0) rfl) 1).trans rfl; have f6_0_1 : w6.frozen? ⟨gr, 1, none⟩ = false := blk_frozen (O6.out.blk (i := 0) rfl) 1; have c6_0_2 : w6.cell? ⟨gr, 2, none⟩ = some (.int .i64 e) := (blk_cell (O6.out.blk (i := 0) rfl) 2).trans rfl; have f6_0_2 : w6.frozen? ⟨gr, 2, none⟩ = false := blk_frozen (O6.out.blk (i := 0) rfl) 2; have c6_1_0 : w6.cell? ⟨gm, 0, none⟩ = some (.string a0) := (blk_cell (O6.out.blk (i := 1) rfl) 0).trans rfl; have f6_1_0 : w6.frozen? ⟨gm, 0, none⟩ = false := blk_frozen (O6.out.blk (i := 1) rfl) 0; have c6_1_1 : w6.cell? ⟨gm, 1, none⟩ = some (.int .i64 p) := (blk_cell (O6.out.blk (i := 1) rfl) 1).trans rfl; have f6_1_1 : w6.frozen? ⟨gm, 1, none⟩ = false := blk_frozen (O6.out.blk (i := 1) rfl) 1; have c6_1_2 : w6.cell? ⟨gm, 2, none⟩ = some (.int .i64 e) := (blk_cell (O6.out.blk (i := 1) rfl) 2).trans rfl; have f6_1_2 : w6.frozen? ⟨gm, 2, none⟩ = false := blk_frozen (O6.out.blk (i := 1) rfl) 2; have c6_2_0 : w6.cell? ⟨gx, 0, none⟩ = some (.int .i64 0) := (blk_cell (O6.out.blk (i := 2) rfl) 0).trans rfl; have f6_2_0 : w6.frozen? ⟨gx, 0, none⟩ = false := blk_frozen (O6.out.blk (i := 2) rfl) 0; have c6_2_1 : w6.cell? ⟨gx, 1, none⟩ = some (.int .i64 0) := (blk_cell (O6.out.blk (i := 2) rfl) 1).trans rfl; have f6_2_1 : w6.frozen? ⟨gx, 1, none⟩ = false := blk_frozen (O6.out.blk (i := 2) rfl) 1; have c6_2_2 : w6.cell? ⟨gx, 2, none⟩ = some (.string (⟨#[]⟩ : ByteArray)) := (blk_cell (O6.out.blk (i := 2) rfl) 2).trans rfl; have f6_2_2 : w6.frozen? ⟨gx, 2, none⟩ = false := blk_frozen (O6.out.blk (i := 2) rfl) 2; have n6_0_1 : gr ≠ gm := O6.out.ne (i := 0) (j := 1) rfl rfl (by decide); have n6_0_2 : gr ≠ gx := O6.out.ne (i := 0) (j := 2) rfl rfl (by decide); have n6_1_0 : gm ≠ gr := O6.out.ne (i := 1) (j := 0) rfl rfl (by decide); have n6_1_2 : gm ≠ gx := O6.out.ne (i := 1) (j := 2) rfl rfl (by decide); have n6_2_0 : gx ≠ gr := O6.out.ne (i := 2) (j := 0) rfl rfl (by decide); have n6_2_1 : gx ≠ gm := O6.out.ne (i := 2) (j := 1) rfl rfl (by decide); clear o_ k_) | ((with_reducible refine gate_store (t := 46) (p := 8) rfl ?_); refine own_store rfl rfl rfl (w1 := (World.setCell (World.setCell (World.setCell w6 ⟨gx, 0, none⟩ (.int .i64 (rd_T46 l0 x).f0)) ⟨gx, 1, none⟩ (.int .i64 (rd_T46 l0 x).f1)) ⟨gx, 2, none⟩ (.string (rd_T46 l0 x).f2))) (N := N) (l' := [RP gr a0 p e, RM gm a0 p e, cells gx #[.int .i64 (rd_T46 l0 x).f0, .int .i64 (rd_T46 l0 x).f1, .string (rd_T46 l0 x).f2] 46]) ?hr ?ho ?hk ?_; (case hr => first | (go_simp; done) | (go_simp; rfl)); (case ho => exact (((O6.out.set (i := 2) rfl 0 (.int .i64 (rd_T46 l0 x).f0)).set (i := 2) rfl 1 (.int .i64 (rd_T46 l0 x).f1)).set (i := 2) rfl 2 (.string (rd_T46 l0 x).f2))); (case hk => exact (((KeepS.setCell (O6.out.far (i := 2) rfl) (.int .i64 (rd_T46 l0 x).f0)).trans (KeepS.setCell (O6.out.far (i := 2) rfl) (.int .i64 (rd_T46 l0 x).f1))).trans (KeepS.setCell (O6.out.far (i := 2) rfl) (.string (rd_T46 l0 x).f2)))); intro w7 o_ k_; have O7 : Aside0 (Own N w7 [RP gr a0 p e, RM gm a0 p e, cells gx #[.int .i64 (rd_T46 l0 x).f0, .int .i64 (rd_T46 l0 x).f1, .string (rd_T46 l0 x).f2] 46]) := ⟨o_⟩; have K7 : Aside0 (KeepS N w w7) := ⟨K6.out.trans k_⟩; clear c6_0_0 f6_0_0 c6_0_1 f6_0_1 c6_0_2 f6_0_2 c6_1_0 f6_1_0 c6_1_1 f6_1_1 c6_1_2 f6_1_2 c6_2_0 f6_2_0 c6_2_1 f6_2_1 c6_2_2 f6_2_2 n6_0_1 n6_0_2 n6_1_0 n6_1_2 n6_2_0 n6_2_1 O6 K6; have c7_0_0 : w7.cell? ⟨gr, 0, none⟩ = some (.string a0) := (blk_cell (O7.out.blk (i := 0) rfl) 0).trans rfl; have f7_0_0 : w7.frozen? ⟨gr, 0, none⟩ = false := blk_frozen (O7.out.blk (i := 0) rfl) 0; have c7_0_1 : w7.cell? ⟨gr, 1, none⟩ = some (.int .i64 p) := (blk_cell (O7.out.blk (i := 0) rfl) 1).trans rfl; have f7_0_1 : w7.frozen? ⟨gr, 1, none⟩ = false := blk_frozen (O7.out.blk (i := 0) rfl) 1; have c7_0_2 : w7.cell? ⟨gr, 2, none⟩ = some (.int .i64 e) := (blk_cell (O7.out.blk (i := 0) rfl) 2).trans rfl; have f7_0_2 : w7.frozen? ⟨gr, 2, none⟩ = false := blk_frozen (O7.out.blk (i := 0) rfl) 2; have c7_1_0 : w7.cell? ⟨gm, 0, none⟩ = some (.string a0) := (blk_cell (O7.out.blk (i := 1) rfl) 0).trans rfl; have f7_1_0 : w7.frozen? ⟨gm, 0, none⟩ = false := blk_frozen (O7.out.blk (i := 1) rfl) 0; have c7_1_1 : w7.cell? ⟨gm, 1, none⟩ = some (.int .i64 p) := (blk_cell (O7.out.blk (i := 1) rfl) 1).trans rfl; have f7_1_1 : w7.frozen? ⟨gm, 1, none⟩ = false := blk_frozen (O7.out.blk (i := 1) rfl) 1; have c7_1_2 : w7.cell? ⟨gm, 2, none⟩ = some (.int .i64 e) := (blk_cell (O7.out.blk (i := 1) rfl) 2).trans rfl; have f7_1_2 : w7.frozen? ⟨gm, 2, none⟩ = false := blk_frozen (O7.out.blk (i := 1) rfl) 2; have c7_2_0 : w7.cell? ⟨gx, 0, none⟩ = some (.int .i64 (rd_T46 l0 x).f0) := (blk_cell (O7.out.blk (i := 2) rfl) 0).trans rfl; have f7_2_0 : w7.frozen? ⟨gx, 0, none⟩ = false := blk_frozen (O7.out.blk (i := 2) rfl) 0; have c7_2_1 : w7.cell? ⟨gx, 1, none⟩ = some (.int .i64 (rd_T46 l0 x).f1) := (blk_cell (O7.out.blk (i := 2) rfl) 1).trans rfl; have f7_2_1 : w7.frozen? ⟨gx, 1, none⟩ = false := blk_frozen (O7.out.blk (i := 2) rfl) 1; have c7_2_2 : w7.cell? ⟨gx, 2, none⟩ = some (.string (rd_T46 l0 x).f2) := (blk_cell (O7.out.blk (i := 2) rfl) 2).trans rfl; have f7_2_2 : w7.frozen? ⟨gx, 2, none⟩ = false := blk_frozen (O7.out.blk (i := 2) rfl) 2; have n7_0_1 : gr ≠ gm := O7.out.ne (i := 0) (j := 1) rfl rfl (by decide); have n7_0_2 : gr ≠ gx := O7.out.ne (i := 0) (j := 2) rfl rfl (by decide); have n7_1_0 : gm ≠ gr := O7.out.ne (i := 1) (j := 0) rfl rfl (by decide); have n7_1_2 : gm ≠ gx := O7.out.ne (i := 1) (j := 2) rfl rfl (by decide); have n7_2_0 : gx ≠ gr := O7.out.ne (i := 2) (j := 0) rfl rfl (by decide); have n7_2_1 : gx ≠ gm := O7.out.ne (i := 2) (j := 1) rfl rfl (by decide); clear o_ k_) | ((with_reducible refine gate_callee (f := 28) rfl ?_); refine goesL_ (some 69) rfl rfl Tryd.func28 (by kernel_rfl) rfl #[.pointer (some ⟨gr, 0, none⟩), .int .i64 (rd_T46 l0 x).f1] rfl (by (try simp only [List.map_toArray, List.map_cons, List.map_nil]); first | done | rfl) ?_; obtain ⟨N_, on_, nn_, rr_, bb_⟩ := O7.out.frame1 (i := 0) rfl; refine (pFail (K7.out.below (Nat.le_refl _) (fun k hk => by rw [HN.out]; exact hk)) (Nat.le_of_not_lt (fun q_ => (O7.out.far (i := 0) rfl) (by rw [HN.out]; exact q_))) _ on_).mono ?_; rintro e_ w8 ⟨rfl, oo_, kk_⟩; obtain ⟨o_, k_⟩ := bb_ _ _ _ kk_ oo_; refine ⟨_, rfl, ?_⟩; have O8 : Aside0 (Own N w8 [RP gr a0 p (failR e (rd_T46 l0 x).f1), RM gm a0 p e, cells gx #[.int .i64 (rd_T46 l0 x).f0, .int .i64 (rd_T46 l0 x).f1, .string (rd_T46 l0 x).f2] 46]) := ⟨o_⟩; have K8 : Aside0 (KeepS N w w8) := ⟨K7.out.trans k_⟩; clear c7_0_0 f7_0_0 c7_0_1 f7_0_1 c7_0_2 f7_0_2 c7_1_0 f7_1_0 c7_1_1 f7_1_1 c7_1_2 f7_1_2 c7_2_0 f7_2_0 c7_2_1 f7_2_1 c7_2_2 f7_2_2 n7_0_1 n7_0_2 n7_1_0 n7_1_2 n7_2_0 n7_2_1 O7 K7; have c8_0_0 : w8.cell? ⟨gr, 0, none⟩ = some (.string a0) := (blk_cell (O8.out.blk (i := 0) rfl) 0).trans rfl; have f8_0_0 : w8.frozen? ⟨gr, 0, none⟩ = false := blk_frozen (O8.out.blk (i := 0) rfl) 0; have c8_0_1 : w8.cell? ⟨gr, 1, none⟩ = some (.int .i64 p) := (blk_cell (O8.out.blk (i := 0) rfl) 1).trans rfl; have f8_0_1 : w8.frozen? ⟨gr, 1, none⟩ = false := blk_frozen (O8.out.blk (i := 0) rfl) 1; have c8_0_2 : w8.cell? ⟨gr, 2, none⟩ = some (.int .i64 (failR e (rd_T46 l0 x).f1)) := (blk_cell (O8.out.blk (i := 0) rfl) 2).trans rfl; have f8_0_2 : w8.frozen? ⟨gr, 2, none⟩ = false := blk_frozen (O8.out.blk (i := 0) rfl) 2; have c8_1_0 : w8.cell? ⟨gm, 0, none⟩ = some (.string a0) := (blk_cell (O8.out.blk (i := 1) rfl) 0).trans rfl; have f8_1_0 : w8.frozen? ⟨gm, 0, none⟩ = false := blk_frozen (O8.out.blk (i := 1) rfl) 0; have c8_1_1 : w8.cell? ⟨gm, 1, none⟩ = some (.int .i64 p) := (blk_cell (O8.out.blk (i := 1) rfl) 1).trans rfl; have f8_1_1 : w8.frozen? ⟨gm, 1, none⟩ = false := blk_frozen (O8.out.blk (i := 1) rfl) 1; have c8_1_2 : w8.cell? ⟨gm, 2, none⟩ = some (.int .i64 e) := (blk_cell (O8.out.blk (i := 1) rfl) 2).trans rfl; have f8_1_2 : w8.frozen? ⟨gm, 2, none⟩ = false := blk_frozen (O8.out.blk (i := 1) rfl) 2; have c8_2_0 : w8.cell? ⟨gx, 0, none⟩ = some (.int .i64 (rd_T46 l0 x).f0) := (blk_cell (O8.out.blk (i := 2) rfl) 0).trans rfl; have f8_2_0 : w8.frozen? ⟨gx, 0, none⟩ = false := blk_frozen (O8.out.blk (i := 2) rfl) 0; have c8_2_1 : w8.cell? ⟨gx, 1, none⟩ = some (.int .i64 (rd_T46 l0 x).f1) := (blk_cell (O8.out.blk (i := 2) rfl) 1).trans rfl; have f8_2_1 : w8.frozen? ⟨gx, 1, none⟩ = false := blk_frozen (O8.out.blk (i := 2) rfl) 1; have c8_2_2 : w8.cell? ⟨gx, 2, none⟩ = some (.string (rd_T46 l0 x).f2) := (blk_cell (O8.out.blk (i := 2) rfl) 2).trans rfl; have f8_2_2 : w8.frozen? ⟨gx, 2, none⟩ = false := blk_frozen (O8.out.blk (i := 2) rfl) 2; have n8_0_1 : gr ≠ gm := O8.out.ne (i := 0) (j := 1) rfl rfl (by decide); have n8_0_2 : gr ≠ gx := O8.out.ne (i := 0) (j := 2) rfl rfl (by decide); have n8_1_0 : gm ≠ gr := O8.out.ne (i := 1) (j := 0) rfl rfl (by decide); have n8_1_2 : gm ≠ gx := O8.out.ne (i := 1) (j := 2) rfl rfl (by decide); have n8_2_0 : gx ≠ gr := O8.out.ne (i := 2) (j := 0) rfl rfl (by decide); have n8_2_1 : gx ≠ gm := O8.out.ne (i := 2) (j := 1) rfl rfl (by decide); clear o_ k_ oo_ kk_ on_ nn_ rr_ bb_) | ((with_reducible refine gate_callee (f := 29) rfl ?_); refine goesL_ (some 73) rfl rfl Tryd.func29 (by kernel_rfl) rfl #[.pointer (some ⟨gm, 0, none⟩), .int .i64 (rd_T46 l0 x).f1] rfl (by (try simp only [List.map_toArray, List.map_cons, List.map_nil]); first | done | rfl) ?_; obtain ⟨N_, on_, nn_, rr_, bb_⟩ := O8.out.frame1 (i := 1) rfl; refine (rFail (K8.out.below (Nat.le_refl _) (fun k hk => by rw [HN.out]; exact hk)) (Nat.le_of_not_lt (fun q_ => (O8.out.far (i := 1) rfl) (by rw [HN.out]; exact q_))) _ on_).mono ?_; rintro e_ w9 ⟨rfl, oo_, kk_⟩; obtain ⟨o_, k_⟩ := bb_ _ _ _ kk_ oo_; refine ⟨_, rfl, ?_⟩; have O9 : Aside0 (Own N w9 [RP gr a0 p (failR e (rd_T46 l0 x).f1), RM gm a0 p (failR e (rd_T46 l0 x).f1), cells gx #[.int .i64 (rd_T46 l0 x).f0, .int .i64 (rd_T46 l0 x).f1, .string (rd_T46 l0 x).f2] 46]) := ⟨o_⟩; have K9 : Aside0 (KeepS N w w9) := ⟨K8.out.trans k_⟩; clear c8_0_0 f8_0_0 c8_0_1 f8_0_1 c8_0_2 f8_0_2 c8_1_0 f8_1_0 c8_1_1 f8_1_1 c8_1_2 f8_1_2 c8_2_0 f8_2_0 c8_2_1 f8_2_1 c8_2_2 f8_2_2 n8_0_1 n8_0_2 n8_1_0 n8_1_2 n8_2_0 n8_2_1 O8 K8; have c9_0_0 : w9.cell? ⟨gr, 0, none⟩ = some (.string a0) := (blk_cell (O9.out.blk (i := 0) rfl) 0).trans rfl; have f9_0_0 : w9.frozen? ⟨gr, 0, none⟩ = false := blk_frozen (O9.out.blk (i := 0) rfl) 0; have c9_0_1 : w9.cell? ⟨gr, 1, none⟩ = some (.int .i64 p) := (blk_cell (O9.out.blk (i := 0) rfl) 1).trans rfl; have f9_0_1 : w9.frozen? ⟨gr, 1, none⟩ = false := blk_frozen (O9.out.blk (i := 0) rfl) 1; have c9_0_2 : w9.cell? ⟨gr, 2, none⟩ = some (.int .i64 (failR e (rd_T46 l0 x).f1)) := (blk_cell (O9.out.blk (i := 0) rfl) 2).trans rfl; have f9_0_2 : w9.frozen? ⟨gr, 2, none⟩ = false := blk_frozen (O9.out.blk (i := 0) rfl) 2; have c9_1_0 : w9.cell? ⟨gm, 0, none⟩ = some (.string a0) := (blk_cell (O9.out.blk (i := 1) rfl) 0).trans rfl; have f9_1_0 : w9.frozen? ⟨gm, 0, none⟩ = false := blk_frozen (O9.out.blk (i := 1) rfl) 0; have c9_1_1 : w9.cell? ⟨gm, 1, none⟩ = some (.int .i64 p) := (blk_cell (O9.out.blk (i := 1) rfl) 1).trans rfl; have f9_1_1 : w9.frozen? ⟨gm, 1, none⟩ = false := blk_frozen (O9.out.blk (i := 1) rfl) 1; have c9_1_2 : w9.cell? ⟨gm, 2, none⟩ = some (.int .i64 (failR e (rd_T46 l0 x).f1)) := (blk_cell (O9.out.blk (i := 1) rfl) 2).trans rfl; have f9_1_2 : w9.frozen? ⟨gm, 2, none⟩ = false := blk_frozen (O9.out.blk (i := 1) rfl) 2; have c9_2_0 : w9.cell? ⟨gx, 0, none⟩ = some (.int .i64 (rd_T46 l0 x).f0) := (blk_cell (O9.out.blk (i := 2) rfl) 0).trans rfl; have f9_2_0 : w9.frozen? ⟨gx, 0, none⟩ = false := blk_frozen (O9.out.blk (i := 2) rfl) 0; have c9_2_1 : w9.cell? ⟨gx, 1, none⟩ = some (.int .i64 (rd_T46 l0 x).f1) := (blk_cell (O9.out.blk (i := 2) rfl) 1).trans rfl; have f9_2_1 : w9.frozen? ⟨gx, 1, none⟩ = false := blk_frozen (O9.out.blk (i := 2) rfl) 1; have c9_2_2 : w9.cell? ⟨gx, 2, none⟩ = some (.string (rd_T46 l0 x).f2) := (blk_cell (O9.out.blk (i := 2) rfl) 2).trans rfl; have f9_2_2 : w9.frozen? ⟨gx, 2, none⟩ = false := blk_frozen (O9.out.blk (i := 2) rfl) 2; have n9_0_1 : gr ≠ gm := O9.out.ne (i := 0) (j := 1) rfl rfl (by decide); have n9_0_2 : gr ≠ gx := O9.out.ne (i := 0) (j := 2) rfl rfl (by decide); have n9_1_0 : gm ≠ gr := O9.out.ne (i := 1) (j := 0) rfl rfl (by decide); have n9_1_2 : gm ≠ gx := O9.out.ne (i := 1) (j := 2) rfl rfl (by decide); have n9_2_0 : gx ≠ gr := O9.out.ne (i := 2) (j := 0) rfl rfl (by decide); have n9_2_1 : gx ≠ gm := O9.out.ne (i := 2) (j := 1) rfl rfl (by decide); clear o_ k_ oo_ kk_ on_ nn_ rr_ bb_))
          refine start_ (n := 11) (S := fun w' => w'.cell? ⟨gm, 0, none⟩ = some (.string a0) ∧ w'.cell? ⟨gm, 1, none⟩ = some (.int .i64 p) ∧ w'.cell? ⟨gm, 2, none⟩ = some (.int .i64 (failR e (rd_T46 l0 x).f1))) (ds := []) #[false, false, false, false, false, false, false, false, false, false, false] (by kernel_rfl) rfl rfl ⟨((blk_cell (O9.out.blk (i := 1) rfl) 0).trans rfl), ((blk_cell (O9.out.blk (i := 1) rfl) 1).trans rfl), ((blk_cell (O9.out.blk (i := 1) rfl) 2).trans rfl)⟩ (fun hHeld => ?_)
          obtain ⟨w10, hw_⟩ : ∃ W, W = w9.drew := ⟨_, rfl⟩
          have o_ := O9.out.drew
          have k_ : KeepS N w9 w9.drew := KeepS.drew
          rw [← hw_] at o_ k_ hHeld ⊢
          clear hw_
          have O10 : Aside0 (Own N w10 [RP gr a0 p (failR e (rd_T46 l0 x).f1), RM gm a0 p (failR e (rd_T46 l0 x).f1), cells gx #[.int .i64 (rd_T46 l0 x).f0, .int .i64 (rd_T46 l0 x).f1, .string (rd_T46 l0 x).f2] 46]) := ⟨o_⟩
          have K10 : Aside0 (KeepS N w w10) := ⟨K9.out.trans k_⟩
          clear c9_0_0 f9_0_0 c9_0_1 f9_0_1 c9_0_2 f9_0_2 c9_1_0 f9_1_0 c9_1_1 f9_1_1 c9_1_2 f9_1_2 c9_2_0 f9_2_0 c9_2_1 f9_2_1 c9_2_2 f9_2_2 n9_0_1 n9_0_2 n9_1_0 n9_1_2 n9_2_0 n9_2_1 O9 K9
          have c10_0_0 : w10.cell? ⟨gr, 0, none⟩ = some (.string a0) := (blk_cell (O10.out.blk (i := 0) rfl) 0).trans rfl
          have f10_0_0 : w10.frozen? ⟨gr, 0, none⟩ = false := blk_frozen (O10.out.blk (i := 0) rfl) 0
          have c10_0_1 : w10.cell? ⟨gr, 1, none⟩ = some (.int .i64 p) := (blk_cell (O10.out.blk (i := 0) rfl) 1).trans rfl
          have f10_0_1 : w10.frozen? ⟨gr, 1, none⟩ = false := blk_frozen (O10.out.blk (i := 0) rfl) 1
          have c10_0_2 : w10.cell? ⟨gr, 2, none⟩ = some (.int .i64 (failR e (rd_T46 l0 x).f1)) := (blk_cell (O10.out.blk (i := 0) rfl) 2).trans rfl
          have f10_0_2 : w10.frozen? ⟨gr, 2, none⟩ = false := blk_frozen (O10.out.blk (i := 0) rfl) 2
          have c10_1_0 : w10.cell? ⟨gm, 0, none⟩ = some (.string a0) := (blk_cell (O10.out.blk (i := 1) rfl) 0).trans rfl
          have f10_1_0 : w10.frozen? ⟨gm, 0, none⟩ = false := blk_frozen (O10.out.blk (i := 1) rfl) 0
          have c10_1_1 : w10.cell? ⟨gm, 1, none⟩ = some (.int .i64 p) := (blk_cell (O10.out.blk (i := 1) rfl) 1).trans rfl
          have f10_1_1 : w10.frozen? ⟨gm, 1, none⟩ = false := blk_frozen (O10.out.blk (i := 1) rfl) 1
          have c10_1_2 : w10.cell? ⟨gm, 2, none⟩ = some (.int .i64 (failR e (rd_T46 l0 x).f1)) := (blk_cell (O10.out.blk (i := 1) rfl) 2).trans rfl
          have f10_1_2 : w10.frozen? ⟨gm, 2, none⟩ = false := blk_frozen (O10.out.blk (i := 1) rfl) 2
          have c10_2_0 : w10.cell? ⟨gx, 0, none⟩ = some (.int .i64 (rd_T46 l0 x).f0) := (blk_cell (O10.out.blk (i := 2) rfl) 0).trans rfl
          have f10_2_0 : w10.frozen? ⟨gx, 0, none⟩ = false := blk_frozen (O10.out.blk (i := 2) rfl) 0
          have c10_2_1 : w10.cell? ⟨gx, 1, none⟩ = some (.int .i64 (rd_T46 l0 x).f1) := (blk_cell (O10.out.blk (i := 2) rfl) 1).trans rfl
          have f10_2_1 : w10.frozen? ⟨gx, 1, none⟩ = false := blk_frozen (O10.out.blk (i := 2) rfl) 1
          have c10_2_2 : w10.cell? ⟨gx, 2, none⟩ = some (.string (rd_T46 l0 x).f2) := (blk_cell (O10.out.blk (i := 2) rfl) 2).trans rfl
          have f10_2_2 : w10.frozen? ⟨gx, 2, none⟩ = false := blk_frozen (O10.out.blk (i := 2) rfl) 2
          have n10_0_1 : gr ≠ gm := O10.out.ne (i := 0) (j := 1) rfl rfl (by decide)
          have n10_0_2 : gr ≠ gx := O10.out.ne (i := 0) (j := 2) rfl rfl (by decide)
          have n10_1_0 : gm ≠ gr := O10.out.ne (i := 1) (j := 0) rfl rfl (by decide)
          have n10_1_2 : gm ≠ gx := O10.out.ne (i := 1) (j := 2) rfl rfl (by decide)
          have n10_2_0 : gx ≠ gr := O10.out.ne (i := 2) (j := 0) rfl rfl (by decide)
          have n10_2_1 : gx ≠ gm := O10.out.ne (i := 2) (j := 1) rfl rfl (by decide)
          clear o_ k_
          refine pure_ (i := 0) (N := some 81) (v := ?_) (a' := ?_) #[true, false, false, false, false, false, false, false, false, false, false] rfl rfl (by kernel_rfl) (fun _ _ _ h => h) (Or.inl ⟨by rfl, ?_⟩) ?_ ?_
          rotate_left
          · intro w'
            go_simp
            with_reducible rfl
          rotate_left
          · simp only [Act.put, List.setIfInBounds_toArray, List.set_cons_zero, List.set_cons_succ, i64_w, i32_w]
            rfl
          refine pure_ (i := 1) (N := some 82) (v := ?_) (a' := ?_) #[true, true, false, false, false, false, false, false, false, false, false] rfl rfl (by kernel_rfl) (fun _ _ _ h => h) (Or.inl ⟨by rfl, ?_⟩) ?_ ?_
          rotate_left
          · intro w'
            go_simp
            with_reducible rfl
          rotate_left
          · simp only [Act.put, List.setIfInBounds_toArray, List.set_cons_zero, List.set_cons_succ, i64_w, i32_w]
            rfl
          refine pure_ (i := 2) (N := some 83) (v := ?_) (a' := ?_) #[true, true, true, false, false, false, false, false, false, false, false] rfl rfl (by kernel_rfl) (fun _ _ _ h => h) (Or.inl ⟨by rfl, ?_⟩) ?_ ?_
          rotate_left
          · intro w'
            go_simp
            with_reducible rfl
          rotate_left
          · simp only [Act.put, List.setIfInBounds_toArray, List.set_cons_zero, List.set_cons_succ, i64_w, i32_w]
            rfl
          refine pure_ (i := 3) (N := some 84) (v := ?_) (a' := ?_) #[true, true, true, true, false, false, false, false, false, false, false] rfl rfl (by kernel_rfl) (fun _ _ _ h => h) (Or.inl ⟨by rfl, ?_⟩) ?_ ?_
          rotate_left
          · intro w'
            go_simp
            with_reducible rfl
          rotate_left
          · simp only [Act.put, List.setIfInBounds_toArray, List.set_cons_zero, List.set_cons_succ, i64_w, i32_w]
            rfl
          refine pure_ (i := 5) (N := some 86) (v := ?_) (a' := ?_) #[true, true, true, true, false, true, false, false, false, false, false] rfl rfl (by kernel_rfl) (fun _ _ _ h => h) (Or.inl ⟨by rfl, ?_⟩) ?_ ?_
          rotate_left
          · intro w'
            go_simp
            with_reducible rfl
          rotate_left
          · simp only [Act.put, List.setIfInBounds_toArray, List.set_cons_zero, List.set_cons_succ, i64_w, i32_w]
            rfl
          refine pure_ (i := 6) (N := some 87) (v := ?_) (a' := ?_) #[true, true, true, true, false, true, true, false, false, false, false] rfl rfl (by kernel_rfl) (fun _ _ _ h => h) (Or.inl ⟨by rfl, ?_⟩) ?_ ?_
          rotate_left
          · intro w'
            go_simp
            with_reducible rfl
          rotate_left
          · simp only [Act.put, List.setIfInBounds_toArray, List.set_cons_zero, List.set_cons_succ, i64_w, i32_w]
            rfl
          refine pure_ (i := 7) (N := some 88) (v := ?_) (a' := ?_) #[true, true, true, true, false, true, true, true, false, false, false] rfl rfl (by kernel_rfl) (fun _ _ _ h => h) (Or.inl ⟨by rfl, ?_⟩) ?_ ?_
          rotate_left
          · intro w'
            go_simp
            with_reducible rfl
          rotate_left
          · simp only [Act.put, List.setIfInBounds_toArray, List.set_cons_zero, List.set_cons_succ, i64_w, i32_w]
            rfl
          refine take_ (i := 8) (N := some 89) (v := ?_) (a' := ?_) #[true, true, true, true, false, true, true, true, true, false, false] rfl rfl (by kernel_rfl) (fun _ _ _ h => h) (Or.inl ⟨by rfl, ?_⟩) hHeld ?_ ?_
          rotate_left
          · rintro w' ⟨s0, s1, s2⟩
            go_simp
            with_reducible rfl
          rotate_left
          · simp only [Act.put, List.setIfInBounds_toArray, List.set_cons_zero, List.set_cons_succ, i64_w, i32_w]
            rfl
          refine one_ (i := 4) (N := some 85) #[true, true, true, true, true, true, true, true, true, false, false] rfl rfl (by kernel_rfl) (by decide) (fun K_ hK_ => ?_)
          refine goes_ Tryd.func22 (by kernel_rfl) rfl #[.pointer (some ⟨gr, 0, none⟩)] (by rfl) rfl rfl (by (try simp only [List.map_toArray, List.map_cons, List.map_nil]); first | done | rfl) ?_
          obtain ⟨N_, on_, nn_, rr_, bb_⟩ := O10.out.frame1 (i := 0) rfl
          refine (pErr (K10.out.below (Nat.le_refl _) (fun k hk => by rw [HN.out]; exact hk)) (Nat.le_of_not_lt (fun q_ => (O10.out.far (i := 0) rfl) (by rw [HN.out]; exact q_))) on_).mono ?_
          rintro e_ w11 ⟨rfl, oo_, kk_⟩
          obtain ⟨o_, k_⟩ := bb_ _ _ _ kk_ oo_
          refine ⟨_, rfl, ?_⟩
          have O11 : Aside0 (Own N w11 [RP gr a0 p (failR e (rd_T46 l0 x).f1), RM gm a0 p (failR e (rd_T46 l0 x).f1), cells gx #[.int .i64 (rd_T46 l0 x).f0, .int .i64 (rd_T46 l0 x).f1, .string (rd_T46 l0 x).f2] 46]) := ⟨o_⟩
          have K11 : Aside0 (KeepS N w w11) := ⟨K10.out.trans k_⟩
          clear c10_0_0 f10_0_0 c10_0_1 f10_0_1 c10_0_2 f10_0_2 c10_1_0 f10_1_0 c10_1_1 f10_1_1 c10_1_2 f10_1_2 c10_2_0 f10_2_0 c10_2_1 f10_2_1 c10_2_2 f10_2_2 n10_0_1 n10_0_2 n10_1_0 n10_1_2 n10_2_0 n10_2_1 O10 K10
          have c11_0_0 : w11.cell? ⟨gr, 0, none⟩ = some (.string a0) := (blk_cell (O11.out.blk (i := 0) rfl) 0).trans rfl
          have f11_0_0 : w11.frozen? ⟨gr, 0, none⟩ = false := blk_frozen (O11.out.blk (i := 0) rfl) 0
          have c11_0_1 : w11.cell? ⟨gr, 1, none⟩ = some (.int .i64 p) := (blk_cell (O11.out.blk (i := 0) rfl) 1).trans rfl
          have f11_0_1 : w11.frozen? ⟨gr, 1, none⟩ = false := blk_frozen (O11.out.blk (i := 0) rfl) 1
          have c11_0_2 : w11.cell? ⟨gr, 2, none⟩ = some (.int .i64 (failR e (rd_T46 l0 x).f1)) := (blk_cell (O11.out.blk (i := 0) rfl) 2).trans rfl
          have f11_0_2 : w11.frozen? ⟨gr, 2, none⟩ = false := blk_frozen (O11.out.blk (i := 0) rfl) 2
          have c11_1_0 : w11.cell? ⟨gm, 0, none⟩ = some (.string a0) := (blk_cell (O11.out.blk (i := 1) rfl) 0).trans rfl
          have f11_1_0 : w11.frozen? ⟨gm, 0, none⟩ = false := blk_frozen (O11.out.blk (i := 1) rfl) 0
          have c11_1_1 : w11.cell? ⟨gm, 1, none⟩ = some (.int .i64 p) := (blk_cell (O11.out.blk (i := 1) rfl) 1).trans rfl
          have f11_1_1 : w11.frozen? ⟨gm, 1, none⟩ = false := blk_frozen (O11.out.blk (i := 1) rfl) 1
          have c11_1_2 : w11.cell? ⟨gm, 2, none⟩ = some (.int .i64 (failR e (rd_T46 l0 x).f1)) := (blk_cell (O11.out.blk (i := 1) rfl) 2).trans rfl
          have f11_1_2 : w11.frozen? ⟨gm, 2, none⟩ = false := blk_frozen (O11.out.blk (i := 1) rfl) 2
          have c11_2_0 : w11.cell? ⟨gx, 0, none⟩ = some (.int .i64 (rd_T46 l0 x).f0) := (blk_cell (O11.out.blk (i := 2) rfl) 0).trans rfl
          have f11_2_0 : w11.frozen? ⟨gx, 0, none⟩ = false := blk_frozen (O11.out.blk (i := 2) rfl) 0
          have c11_2_1 : w11.cell? ⟨gx, 1, none⟩ = some (.int .i64 (rd_T46 l0 x).f1) := (blk_cell (O11.out.blk (i := 2) rfl) 1).trans rfl
          have f11_2_1 : w11.frozen? ⟨gx, 1, none⟩ = false := blk_frozen (O11.out.blk (i := 2) rfl) 1
          have c11_2_2 : w11.cell? ⟨gx, 2, none⟩ = some (.string (rd_T46 l0 x).f2) := (blk_cell (O11.out.blk (i := 2) rfl) 2).trans rfl
          have f11_2_2 : w11.frozen? ⟨gx, 2, none⟩ = false := blk_frozen (O11.out.blk (i := 2) rfl) 2
          have n11_0_1 : gr ≠ gm := O11.out.ne (i := 0) (j := 1) rfl rfl (by decide)
          have n11_0_2 : gr ≠ gx := O11.out.ne (i := 0) (j := 2) rfl rfl (by decide)
          have n11_1_0 : gm ≠ gr := O11.out.ne (i := 1) (j := 0) rfl rfl (by decide)
          have n11_1_2 : gm ≠ gx := O11.out.ne (i := 1) (j := 2) rfl rfl (by decide)
          have n11_2_0 : gx ≠ gr := O11.out.ne (i := 2) (j := 0) rfl rfl (by decide)
          have n11_2_1 : gx ≠ gm := O11.out.ne (i := 2) (j := 1) rfl rfl (by decide)
          clear o_ k_ oo_ kk_ on_ nn_ rr_ bb_
          clear hHeld
          refine hK_.out _ _ ⟨((blk_cell (O11.out.blk (i := 1) rfl) 0).trans rfl), ((blk_cell (O11.out.blk (i := 1) rfl) 1).trans rfl), ((blk_cell (O11.out.blk (i := 1) rfl) 2).trans rfl)⟩ (fun hHeld => ?_)
          clear hK_ K_
          refine norm_ (a' := ?_) ?_ ?_
          rotate_left
          · simp only [Act.put, List.setIfInBounds_toArray, List.set_cons_zero, List.set_cons_succ, i64_w, i32_w]
            rfl
          refine pure_ (i := 9) (N := some 90) (v := ?_) (a' := ?_) #[true, true, true, true, true, true, true, true, true, true, false] rfl rfl (by kernel_rfl) (fun _ _ _ h => h) (Or.inl ⟨by rfl, ?_⟩) ?_ ?_
          rotate_left
          · intro w'
            go_simp
            with_reducible rfl
          rotate_left
          · simp only [Act.put, List.setIfInBounds_toArray, List.set_cons_zero, List.set_cons_succ, i64_w, i32_w]
            rfl
          refine pure_ (i := 10) (N := some 91) (v := ?_) (a' := ?_) #[true, true, true, true, true, true, true, true, true, true, true] rfl rfl (by kernel_rfl) (fun _ _ _ h => h) (Or.inl ⟨by rfl, ?_⟩) ?_ ?_
          rotate_left
          · intro w'
            go_simp
            with_reducible rfl
          rotate_left
          · simp only [Act.put, List.setIfInBounds_toArray, List.set_cons_zero, List.set_cons_succ, i64_w, i32_w]
            rfl
          refine done_ (by kernel_rfl) ?_
          clear hHeld
          go_wp2
          go_roundw
          case rel => exact ⟨x + 1, p, (failR e (rd_T46 l0 x).f1), by have := HX.out; omega, by have := HX.out; omega, int_eq (by unfold wrap64; have := HX.out; have := HL200.out; omega), ⟨HI.out⟩, ⟨O11.out.pick2 (a := 0) (b := 1) rfl rfl (by decide)⟩, K11⟩
          case measure => have := HX.out; simp [intOf]; omega
        have hb4 : ((rd_T46 l0 x).f0 == 4) = false := beq_eq_false_iff_ne.2 hk4
        clear hk4
        by_cases hk5 : (rd_T46 l0 x).f0 = 5
        · have hb5 : ((rd_T46 l0 x).f0 == 5) = true := beq_iff_eq.2 hk5
          clear hk5
          have hvv : ((endR a0 p e) == (endR a0 p e)) = true := by simp
          have hee : ((endR a0 p e) != (endR a0 p e)) = false := by simp
          go_wp2_with (first | ((with_reducible refine gate_dst (N := 8) rfl ?_); refine own_box rfl (D := 8) rfl (cs := #[.int .i64 0, .int .i64 0, .string (⟨#[]⟩ : ByteArray)]) (t := 46) ?hr O5.out ?_; (case hr => first | (go_simp; done) | (go_simp; rfl)); intro gx w6 o_ k_; have O6 : Aside0 (Own N w6 [RP gr a0 p e, RM gm a0 p e, cells gx #[.int .i64 0, .int .i64 0, .string (⟨#[]⟩ : ByteArray)] 46]) := ⟨o_⟩; have K6 : Aside0 (KeepS N w w6) := ⟨K5.out.trans k_⟩; clear c5_0_0 f5_0_0 c5_0_1 f5_0_1 c5_0_2 f5_0_2 c5_1_0 f5_1_0 c5_1_1 f5_1_1 c5_1_2 f5_1_2 n5_0_1 n5_1_0 O5 K5; have c6_0_0 : w6.cell? ⟨gr, 0, none⟩ = some (.string a0) := (blk_cell (O6.out.blk (i := 0) rfl) 0).trans rfl; have f6_0_0 : w6.frozen? ⟨gr, 0, none⟩ = false := blk_frozen (O6.out.blk (i := 0) rfl) 0; have c6_0_1 : w6.cell? ⟨gr, 1, none⟩ = some (.int .i64 p) := (blk_cell (O6.out.blk (i := 0) rfl) 1).trans rfl; have f6_0_1 : w6.frozen? ⟨gr, 1, none⟩ = false := blk_frozen (O6.out.blk (i := 0) rfl) 1; have c6_0_2 : w6.cell? ⟨gr, 2, none⟩ = some (.int .i64 e) := (blk_cell (O6.out.blk (i := 0) rfl) 2).trans rfl; have f6_0_2 : w6.frozen? ⟨gr, 2, none⟩ = false := blk_frozen (O6.out.blk (i := 0) rfl) 2; have c6_1_0 : w6.cell? ⟨gm, 0, none⟩ = some (.string a0) := (blk_cell (O6.out.blk (i := 1) rfl) 0).trans rfl; have f6_1_0 : w6.frozen? ⟨gm, 0, none⟩ = false := blk_frozen (O6.out.blk (i := 1) rfl) 0; have c6_1_1 : w6.cell? ⟨gm, 1, none⟩ = some (.int .i64 p) := (blk_cell (O6.out.blk (i := 1) rfl) 1).trans rfl; have f6_1_1 : w6.frozen? ⟨gm, 1, none⟩ = false := blk_frozen (O6.out.blk (i := 1) rfl) 1; have c6_1_2 : w6.cell? ⟨gm, 2, none⟩ = some (.int .i64 e) := (blk_cell (O6.out.blk (i := 1) rfl) 2).trans rfl; have f6_1_2 : w6.frozen? ⟨gm, 2, none⟩ = false := blk_frozen (O6.out.blk (i := 1) rfl) 2; have c6_2_0 : w6.cell? ⟨gx, 0, none⟩ = some (.int .i64 0) := (blk_cell (O6.out.blk (i := 2) rfl) 0).trans rfl; have f6_2_0 : w6.frozen? ⟨gx, 0, none⟩ = false := blk_frozen (O6.out.blk (i := 2) rfl) 0; have c6_2_1 : w6.cell? ⟨gx, 1, none⟩ = some (.int .i64 0) := (blk_cell (O6.out.blk (i := 2) rfl) 1).trans rfl; have f6_2_1 : w6.frozen? ⟨gx, 1, none⟩ = false := blk_frozen (O6.out.blk (i := 2) rfl) 1; have c6_2_2 : w6.cell? ⟨gx, 2, none⟩ = some (.string (⟨#[]⟩ : ByteArray)) := (blk_cell (O6.out.blk (i := 2) rfl) 2).trans rfl; have f6_2_2 : w6.frozen? ⟨gx, 2, none⟩ = false := blk_frozen (O6.out.blk (i := 2) rfl) 2; have n6_0_1 : gr ≠ gm := O6.out.ne (i := 0) (j := 1) rfl rfl (by decide); have n6_0_2 : gr ≠ gx := O6.out.ne (i := 0) (j := 2) rfl rfl (by decide); have n6_1_0 : gm ≠ gr := O6.out.ne (i := 1) (j := 0) rfl rfl (by decide); have n6_1_2 : gm ≠ gx := O6.out.ne (i := 1) (j := 2) rfl rfl (by decide); have n6_2_0 : gx ≠ gr := O6.out.ne (i := 2) (j := 0) rfl rfl (by decide); have n6_2_1 : gx ≠ gm := O6.out.ne (i := 2) (j := 1) rfl rfl (by decide); clear o_ k_) | ((with_reducible refine gate_store (t := 46) (p := 8) rfl ?_); refine own_store rfl rfl rfl (w1 := (World.setCell (World.setCell (World.setCell w6 ⟨gx, 0, none⟩ (.int .i64 (rd_T46 l0 x).f0)) ⟨gx, 1, none⟩ (.int .i64 (rd_T46 l0 x).f1)) ⟨gx, 2, none⟩ (.string (rd_T46 l0 x).f2))) (N := N) (l' := [RP gr a0 p e, RM gm a0 p e, cells gx #[.int .i64 (rd_T46 l0 x).f0, .int .i64 (rd_T46 l0 x).f1, .string (rd_T46 l0 x).f2] 46]) ?hr ?ho ?hk ?_; (case hr => first | (go_simp; done) | (go_simp; rfl)); (case ho => exact (((O6.out.set (i := 2) rfl 0 (.int .i64 (rd_T46 l0 x).f0)).set (i := 2) rfl 1 (.int .i64 (rd_T46 l0 x).f1)).set (i := 2) rfl 2 (.string (rd_T46 l0 x).f2))); (case hk => exact (((KeepS.setCell (O6.out.far (i := 2) rfl) (.int .i64 (rd_T46 l0 x).f0)).trans (KeepS.setCell (O6.out.far (i := 2) rfl) (.int .i64 (rd_T46 l0 x).f1))).trans (KeepS.setCell (O6.out.far (i := 2) rfl) (.string (rd_T46 l0 x).f2)))); intro w7 o_ k_; have O7 : Aside0 (Own N w7 [RP gr a0 p e, RM gm a0 p e, cells gx #[.int .i64 (rd_T46 l0 x).f0, .int .i64 (rd_T46 l0 x).f1, .string (rd_T46 l0 x).f2] 46]) := ⟨o_⟩; have K7 : Aside0 (KeepS N w w7) := ⟨K6.out.trans k_⟩; clear c6_0_0 f6_0_0 c6_0_1 f6_0_1 c6_0_2 f6_0_2 c6_1_0 f6_1_0 c6_1_1 f6_1_1 c6_1_2 f6_1_2 c6_2_0 f6_2_0 c6_2_1 f6_2_1 c6_2_2 f6_2_2 n6_0_1 n6_0_2 n6_1_0 n6_1_2 n6_2_0 n6_2_1 O6 K6; have c7_0_0 : w7.cell? ⟨gr, 0, none⟩ = some (.string a0) := (blk_cell (O7.out.blk (i := 0) rfl) 0).trans rfl; have f7_0_0 : w7.frozen? ⟨gr, 0, none⟩ = false := blk_frozen (O7.out.blk (i := 0) rfl) 0; have c7_0_1 : w7.cell? ⟨gr, 1, none⟩ = some (.int .i64 p) := (blk_cell (O7.out.blk (i := 0) rfl) 1).trans rfl; have f7_0_1 : w7.frozen? ⟨gr, 1, none⟩ = false := blk_frozen (O7.out.blk (i := 0) rfl) 1; have c7_0_2 : w7.cell? ⟨gr, 2, none⟩ = some (.int .i64 e) := (blk_cell (O7.out.blk (i := 0) rfl) 2).trans rfl; have f7_0_2 : w7.frozen? ⟨gr, 2, none⟩ = false := blk_frozen (O7.out.blk (i := 0) rfl) 2; have c7_1_0 : w7.cell? ⟨gm, 0, none⟩ = some (.string a0) := (blk_cell (O7.out.blk (i := 1) rfl) 0).trans rfl; have f7_1_0 : w7.frozen? ⟨gm, 0, none⟩ = false := blk_frozen (O7.out.blk (i := 1) rfl) 0; have c7_1_1 : w7.cell? ⟨gm, 1, none⟩ = some (.int .i64 p) := (blk_cell (O7.out.blk (i := 1) rfl) 1).trans rfl; have f7_1_1 : w7.frozen? ⟨gm, 1, none⟩ = false := blk_frozen (O7.out.blk (i := 1) rfl) 1; have c7_1_2 : w7.cell? ⟨gm, 2, none⟩ = some (.int .i64 e) := (blk_cell (O7.out.blk (i := 1) rfl) 2).trans rfl; have f7_1_2 : w7.frozen? ⟨gm, 2, none⟩ = false := blk_frozen (O7.out.blk (i := 1) rfl) 2; have c7_2_0 : w7.cell? ⟨gx, 0, none⟩ = some (.int .i64 (rd_T46 l0 x).f0) := (blk_cell (O7.out.blk (i := 2) rfl) 0).trans rfl; have f7_2_0 : w7.frozen? ⟨gx, 0, none⟩ = false := blk_frozen (O7.out.blk (i := 2) rfl) 0; have c7_2_1 : w7.cell? ⟨gx, 1, none⟩ = some (.int .i64 (rd_T46 l0 x).f1) := (blk_cell (O7.out.blk (i := 2) rfl) 1).trans rfl; have f7_2_1 : w7.frozen? ⟨gx, 1, none⟩ = false := blk_frozen (O7.out.blk (i := 2) rfl) 1; have c7_2_2 : w7.cell? ⟨gx, 2, none⟩ = some (.string (rd_T46 l0 x).f2) := (blk_cell (O7.out.blk (i := 2) rfl) 2).trans rfl; have f7_2_2 : w7.frozen? ⟨gx, 2, none⟩ = false := blk_frozen (O7.out.blk (i := 2) rfl) 2; have n7_0_1 : gr ≠ gm := O7.out.ne (i := 0) (j := 1) rfl rfl (by decide); have n7_0_2 : gr ≠ gx := O7.out.ne (i := 0) (j := 2) rfl rfl (by decide); have n7_1_0 : gm ≠ gr := O7.out.ne (i := 1) (j := 0) rfl rfl (by decide); have n7_1_2 : gm ≠ gx := O7.out.ne (i := 1) (j := 2) rfl rfl (by decide); have n7_2_0 : gx ≠ gr := O7.out.ne (i := 2) (j := 0) rfl rfl (by decide); have n7_2_1 : gx ≠ gm := O7.out.ne (i := 2) (j := 1) rfl rfl (by decide); clear o_ k_) | ((with_reducible refine gate_callee (f := 21) rfl ?_); refine goesL_ (some 77) rfl rfl Tryd.func21 (by kernel_rfl) rfl #[.pointer (some ⟨gr, 0, none⟩)] rfl (by (try simp only [List.map_toArray, List.map_cons, List.map_nil]); first | done | rfl) ?_; obtain ⟨N_, on_, nn_, rr_, bb_⟩ := O7.out.frame1 (i := 0) rfl; refine (pEnd (K7.out.below (Nat.le_refl _) (fun k hk => by rw [HN.out]; exact hk)) (Nat.le_of_not_lt (fun q_ => (O7.out.far (i := 0) rfl) (by rw [HN.out]; exact q_))) on_).mono ?_; rintro e_ w8 ⟨rfl, oo_, kk_⟩; obtain ⟨o_, k_⟩ := bb_ _ _ _ kk_ oo_; refine ⟨_, rfl, ?_⟩; have O8 : Aside0 (Own N w8 [RP gr a0 p (endR a0 p e), RM gm a0 p e, cells gx #[.int .i64 (rd_T46 l0 x).f0, .int .i64 (rd_T46 l0 x).f1, .string (rd_T46 l0 x).f2] 46]) := ⟨o_⟩; have K8 : Aside0 (KeepS N w w8) := ⟨K7.out.trans k_⟩; clear c7_0_0 f7_0_0 c7_0_1 f7_0_1 c7_0_2 f7_0_2 c7_1_0 f7_1_0 c7_1_1 f7_1_1 c7_1_2 f7_1_2 c7_2_0 f7_2_0 c7_2_1 f7_2_1 c7_2_2 f7_2_2 n7_0_1 n7_0_2 n7_1_0 n7_1_2 n7_2_0 n7_2_1 O7 K7; have c8_0_0 : w8.cell? ⟨gr, 0, none⟩ = some (.string a0) := (blk_cell (O8.out.blk (i := 0) rfl) 0).trans rfl; have f8_0_0 : w8.frozen? ⟨gr, 0, none⟩ = false := blk_frozen (O8.out.blk (i := 0) rfl) 0; have c8_0_1 : w8.cell? ⟨gr, 1, none⟩ = some (.int .i64 p) := (blk_cell (O8.out.blk (i := 0) rfl) 1).trans rfl; have f8_0_1 : w8.frozen? ⟨gr, 1, none⟩ = false := blk_frozen (O8.out.blk (i := 0) rfl) 1; have c8_0_2 : w8.cell? ⟨gr, 2, none⟩ = some (.int .i64 (endR a0 p e)) := (blk_cell (O8.out.blk (i := 0) rfl) 2).trans rfl; have f8_0_2 : w8.frozen? ⟨gr, 2, none⟩ = false := blk_frozen (O8.out.blk (i := 0) rfl) 2; have c8_1_0 : w8.cell? ⟨gm, 0, none⟩ = some (.string a0) := (blk_cell (O8.out.blk (i := 1) rfl) 0).trans rfl; have f8_1_0 : w8.frozen? ⟨gm, 0, none⟩ = false := blk_frozen (O8.out.blk (i := 1) rfl) 0; have c8_1_1 : w8.cell? ⟨gm, 1, none⟩ = some (.int .i64 p) := (blk_cell (O8.out.blk (i := 1) rfl) 1).trans rfl; have f8_1_1 : w8.frozen? ⟨gm, 1, none⟩ = false := blk_frozen (O8.out.blk (i := 1) rfl) 1; have c8_1_2 : w8.cell? ⟨gm, 2, none⟩ = some (.int .i64 e) := (blk_cell (O8.out.blk (i := 1) rfl) 2).trans rfl; have f8_1_2 : w8.frozen? ⟨gm, 2, none⟩ = false := blk_frozen (O8.out.blk (i := 1) rfl) 2; have c8_2_0 : w8.cell? ⟨gx, 0, none⟩ = some (.int .i64 (rd_T46 l0 x).f0) := (blk_cell (O8.out.blk (i := 2) rfl) 0).trans rfl; have f8_2_0 : w8.frozen? ⟨gx, 0, none⟩ = false := blk_frozen (O8.out.blk (i := 2) rfl) 0; have c8_2_1 : w8.cell? ⟨gx, 1, none⟩ = some (.int .i64 (rd_T46 l0 x).f1) := (blk_cell (O8.out.blk (i := 2) rfl) 1).trans rfl; have f8_2_1 : w8.frozen? ⟨gx, 1, none⟩ = false := blk_frozen (O8.out.blk (i := 2) rfl) 1; have c8_2_2 : w8.cell? ⟨gx, 2, none⟩ = some (.string (rd_T46 l0 x).f2) := (blk_cell (O8.out.blk (i := 2) rfl) 2).trans rfl; have f8_2_2 : w8.frozen? ⟨gx, 2, none⟩ = false := blk_frozen (O8.out.blk (i := 2) rfl) 2; have n8_0_1 : gr ≠ gm := O8.out.ne (i := 0) (j := 1) rfl rfl (by decide); have n8_0_2 : gr ≠ gx := O8.out.ne (i := 0) (j := 2) rfl rfl (by decide); have n8_1_0 : gm ≠ gr := O8.out.ne (i := 1) (j := 0) rfl rfl (by decide); have n8_1_2 : gm ≠ gx := O8.out.ne (i := 1) (j := 2) rfl rfl (by decide); have n8_2_0 : gx ≠ gr := O8.out.ne (i := 2) (j := 0) rfl rfl (by decide); have n8_2_1 : gx ≠ gm := O8.out.ne (i := 2) (j := 1) rfl rfl (by decide); clear o_ k_ oo_ kk_ on_ nn_ rr_ bb_) | ((with_reducible refine gate_callee (f := 30) rfl ?_); refine goesL_ (some 79) rfl rfl Tryd.func30 (by kernel_rfl) rfl #[.pointer (some ⟨gm, 0, none⟩)] rfl (by (try simp only [List.map_toArray, List.map_cons, List.map_nil]); first | done | rfl) ?_; obtain ⟨N_, on_, nn_, rr_, bb_⟩ := O8.out.frame1 (i := 1) rfl; refine (rEnd (K8.out.below (Nat.le_refl _) (fun k hk => by rw [HN.out]; exact hk)) (Nat.le_of_not_lt (fun q_ => (O8.out.far (i := 1) rfl) (by rw [HN.out]; exact q_))) on_).mono ?_; rintro e_ w9 ⟨rfl, oo_, kk_⟩; obtain ⟨o_, k_⟩ := bb_ _ _ _ kk_ oo_; refine ⟨_, rfl, ?_⟩; have O9 : Aside0 (Own N w9 [RP gr a0 p (endR a0 p e), RM gm a0 p (endR a0 p e), cells gx #[.int .i64 (rd_T46 l0 x).f0, .int .i64 (rd_T46 l0 x).f1, .string (rd_T46 l0 x).f2] 46]) := ⟨o_⟩; have K9 : Aside0 (KeepS N w w9) := ⟨K8.out.trans k_⟩; clear c8_0_0 f8_0_0 c8_0_1 f8_0_1 c8_0_2 f8_0_2 c8_1_0 f8_1_0 c8_1_1 f8_1_1 c8_1_2 f8_1_2 c8_2_0 f8_2_0 c8_2_1 f8_2_1 c8_2_2 f8_2_2 n8_0_1 n8_0_2 n8_1_0 n8_1_2 n8_2_0 n8_2_1 O8 K8; have c9_0_0 : w9.cell? ⟨gr, 0, none⟩ = some (.string a0) := (blk_cell (O9.out.blk (i := 0) rfl) 0).trans rfl; have f9_0_0 : w9.frozen? ⟨gr, 0, none⟩ = false := blk_frozen (O9.out.blk (i := 0) rfl) 0; have c9_0_1 : w9.cell? ⟨gr, 1, none⟩ = some (.int .i64 p) := (blk_cell (O9.out.blk (i := 0) rfl) 1).trans rfl; have f9_0_1 : w9.frozen? ⟨gr, 1, none⟩ = false := blk_frozen (O9.out.blk (i := 0) rfl) 1; have c9_0_2 : w9.cell? ⟨gr, 2, none⟩ = some (.int .i64 (endR a0 p e)) := (blk_cell (O9.out.blk (i := 0) rfl) 2).trans rfl; have f9_0_2 : w9.frozen? ⟨gr, 2, none⟩ = false := blk_frozen (O9.out.blk (i := 0) rfl) 2; have c9_1_0 : w9.cell? ⟨gm, 0, none⟩ = some (.string a0) := (blk_cell (O9.out.blk (i := 1) rfl) 0).trans rfl; have f9_1_0 : w9.frozen? ⟨gm, 0, none⟩ = false := blk_frozen (O9.out.blk (i := 1) rfl) 0; have c9_1_1 : w9.cell? ⟨gm, 1, none⟩ = some (.int .i64 p) := (blk_cell (O9.out.blk (i := 1) rfl) 1).trans rfl; have f9_1_1 : w9.frozen? ⟨gm, 1, none⟩ = false := blk_frozen (O9.out.blk (i := 1) rfl) 1; have c9_1_2 : w9.cell? ⟨gm, 2, none⟩ = some (.int .i64 (endR a0 p e)) := (blk_cell (O9.out.blk (i := 1) rfl) 2).trans rfl; have f9_1_2 : w9.frozen? ⟨gm, 2, none⟩ = false := blk_frozen (O9.out.blk (i := 1) rfl) 2; have c9_2_0 : w9.cell? ⟨gx, 0, none⟩ = some (.int .i64 (rd_T46 l0 x).f0) := (blk_cell (O9.out.blk (i := 2) rfl) 0).trans rfl; have f9_2_0 : w9.frozen? ⟨gx, 0, none⟩ = false := blk_frozen (O9.out.blk (i := 2) rfl) 0; have c9_2_1 : w9.cell? ⟨gx, 1, none⟩ = some (.int .i64 (rd_T46 l0 x).f1) := (blk_cell (O9.out.blk (i := 2) rfl) 1).trans rfl; have f9_2_1 : w9.frozen? ⟨gx, 1, none⟩ = false := blk_frozen (O9.out.blk (i := 2) rfl) 1; have c9_2_2 : w9.cell? ⟨gx, 2, none⟩ = some (.string (rd_T46 l0 x).f2) := (blk_cell (O9.out.blk (i := 2) rfl) 2).trans rfl; have f9_2_2 : w9.frozen? ⟨gx, 2, none⟩ = false := blk_frozen (O9.out.blk (i := 2) rfl) 2; have n9_0_1 : gr ≠ gm := O9.out.ne (i := 0) (j := 1) rfl rfl (by decide); have n9_0_2 : gr ≠ gx := O9.out.ne (i := 0) (j := 2) rfl rfl (by decide); have n9_1_0 : gm ≠ gr := O9.out.ne (i := 1) (j := 0) rfl rfl (by decide); have n9_1_2 : gm ≠ gx := O9.out.ne (i := 1) (j := 2) rfl rfl (by decide); have n9_2_0 : gx ≠ gr := O9.out.ne (i := 2) (j := 0) rfl rfl (by decide); have n9_2_1 : gx ≠ gm := O9.out.ne (i := 2) (j := 1) rfl rfl (by decide); clear o_ k_ oo_ kk_ on_ nn_ rr_ bb_))
          refine start_ (n := 11) (S := fun w' => w'.cell? ⟨gm, 0, none⟩ = some (.string a0) ∧ w'.cell? ⟨gm, 1, none⟩ = some (.int .i64 p) ∧ w'.cell? ⟨gm, 2, none⟩ = some (.int .i64 (endR a0 p e))) (ds := []) #[false, false, false, false, false, false, false, false, false, false, false] (by kernel_rfl) rfl rfl ⟨((blk_cell (O9.out.blk (i := 1) rfl) 0).trans rfl), ((blk_cell (O9.out.blk (i := 1) rfl) 1).trans rfl), ((blk_cell (O9.out.blk (i := 1) rfl) 2).trans rfl)⟩ (fun hHeld => ?_)
          obtain ⟨w10, hw_⟩ : ∃ W, W = w9.drew := ⟨_, rfl⟩
          have o_ := O9.out.drew
          have k_ : KeepS N w9 w9.drew := KeepS.drew
          rw [← hw_] at o_ k_ hHeld ⊢
          clear hw_
          have O10 : Aside0 (Own N w10 [RP gr a0 p (endR a0 p e), RM gm a0 p (endR a0 p e), cells gx #[.int .i64 (rd_T46 l0 x).f0, .int .i64 (rd_T46 l0 x).f1, .string (rd_T46 l0 x).f2] 46]) := ⟨o_⟩
          have K10 : Aside0 (KeepS N w w10) := ⟨K9.out.trans k_⟩
          clear c9_0_0 f9_0_0 c9_0_1 f9_0_1 c9_0_2 f9_0_2 c9_1_0 f9_1_0 c9_1_1 f9_1_1 c9_1_2 f9_1_2 c9_2_0 f9_2_0 c9_2_1 f9_2_1 c9_2_2 f9_2_2 n9_0_1 n9_0_2 n9_1_0 n9_1_2 n9_2_0 n9_2_1 O9 K9
          have c10_0_0 : w10.cell? ⟨gr, 0, none⟩ = some (.string a0) := (blk_cell (O10.out.blk (i := 0) rfl) 0).trans rfl
          have f10_0_0 : w10.frozen? ⟨gr, 0, none⟩ = false := blk_frozen (O10.out.blk (i := 0) rfl) 0
          have c10_0_1 : w10.cell? ⟨gr, 1, none⟩ = some (.int .i64 p) := (blk_cell (O10.out.blk (i := 0) rfl) 1).trans rfl
          have f10_0_1 : w10.frozen? ⟨gr, 1, none⟩ = false := blk_frozen (O10.out.blk (i := 0) rfl) 1
          have c10_0_2 : w10.cell? ⟨gr, 2, none⟩ = some (.int .i64 (endR a0 p e)) := (blk_cell (O10.out.blk (i := 0) rfl) 2).trans rfl
          have f10_0_2 : w10.frozen? ⟨gr, 2, none⟩ = false := blk_frozen (O10.out.blk (i := 0) rfl) 2
          have c10_1_0 : w10.cell? ⟨gm, 0, none⟩ = some (.string a0) := (blk_cell (O10.out.blk (i := 1) rfl) 0).trans rfl
          have f10_1_0 : w10.frozen? ⟨gm, 0, none⟩ = false := blk_frozen (O10.out.blk (i := 1) rfl) 0
          have c10_1_1 : w10.cell? ⟨gm, 1, none⟩ = some (.int .i64 p) := (blk_cell (O10.out.blk (i := 1) rfl) 1).trans rfl
          have f10_1_1 : w10.frozen? ⟨gm, 1, none⟩ = false := blk_frozen (O10.out.blk (i := 1) rfl) 1
          have c10_1_2 : w10.cell? ⟨gm, 2, none⟩ = some (.int .i64 (endR a0 p e)) := (blk_cell (O10.out.blk (i := 1) rfl) 2).trans rfl
          have f10_1_2 : w10.frozen? ⟨gm, 2, none⟩ = false := blk_frozen (O10.out.blk (i := 1) rfl) 2
          have c10_2_0 : w10.cell? ⟨gx, 0, none⟩ = some (.int .i64 (rd_T46 l0 x).f0) := (blk_cell (O10.out.blk (i := 2) rfl) 0).trans rfl
          have f10_2_0 : w10.frozen? ⟨gx, 0, none⟩ = false := blk_frozen (O10.out.blk (i := 2) rfl) 0
          have c10_2_1 : w10.cell? ⟨gx, 1, none⟩ = some (.int .i64 (rd_T46 l0 x).f1) := (blk_cell (O10.out.blk (i := 2) rfl) 1).trans rfl
          have f10_2_1 : w10.frozen? ⟨gx, 1, none⟩ = false := blk_frozen (O10.out.blk (i := 2) rfl) 1
          have c10_2_2 : w10.cell? ⟨gx, 2, none⟩ = some (.string (rd_T46 l0 x).f2) := (blk_cell (O10.out.blk (i := 2) rfl) 2).trans rfl
          have f10_2_2 : w10.frozen? ⟨gx, 2, none⟩ = false := blk_frozen (O10.out.blk (i := 2) rfl) 2
          have n10_0_1 : gr ≠ gm := O10.out.ne (i := 0) (j := 1) rfl rfl (by decide)
          have n10_0_2 : gr ≠ gx := O10.out.ne (i := 0) (j := 2) rfl rfl (by decide)
          have n10_1_0 : gm ≠ gr := O10.out.ne (i := 1) (j := 0) rfl rfl (by decide)
          have n10_1_2 : gm ≠ gx := O10.out.ne (i := 1) (j := 2) rfl rfl (by decide)
          have n10_2_0 : gx ≠ gr := O10.out.ne (i := 2) (j := 0) rfl rfl (by decide)
          have n10_2_1 : gx ≠ gm := O10.out.ne (i := 2) (j := 1) rfl rfl (by decide)
          clear o_ k_
          refine pure_ (i := 0) (N := some 81) (v := ?_) (a' := ?_) #[true, false, false, false, false, false, false, false, false, false, false] rfl rfl (by kernel_rfl) (fun _ _ _ h => h) (Or.inl ⟨by rfl, ?_⟩) ?_ ?_
          rotate_left
          · intro w'
            go_simp
            with_reducible rfl
          rotate_left
          · simp only [Act.put, List.setIfInBounds_toArray, List.set_cons_zero, List.set_cons_succ, i64_w, i32_w]
            rfl
          refine pure_ (i := 1) (N := some 82) (v := ?_) (a' := ?_) #[true, true, false, false, false, false, false, false, false, false, false] rfl rfl (by kernel_rfl) (fun _ _ _ h => h) (Or.inl ⟨by rfl, ?_⟩) ?_ ?_
          rotate_left
          · intro w'
            go_simp
            with_reducible rfl
          rotate_left
          · simp only [Act.put, List.setIfInBounds_toArray, List.set_cons_zero, List.set_cons_succ, i64_w, i32_w]
            rfl
          refine pure_ (i := 2) (N := some 83) (v := ?_) (a' := ?_) #[true, true, true, false, false, false, false, false, false, false, false] rfl rfl (by kernel_rfl) (fun _ _ _ h => h) (Or.inl ⟨by rfl, ?_⟩) ?_ ?_
          rotate_left
          · intro w'
            go_simp
            with_reducible rfl
          rotate_left
          · simp only [Act.put, List.setIfInBounds_toArray, List.set_cons_zero, List.set_cons_succ, i64_w, i32_w]
            rfl
          refine pure_ (i := 3) (N := some 84) (v := ?_) (a' := ?_) #[true, true, true, true, false, false, false, false, false, false, false] rfl rfl (by kernel_rfl) (fun _ _ _ h => h) (Or.inl ⟨by rfl, ?_⟩) ?_ ?_
          rotate_left
          · intro w'
            go_simp
            with_reducible rfl
          rotate_left
          · simp only [Act.put, List.setIfInBounds_toArray, List.set_cons_zero, List.set_cons_succ, i64_w, i32_w]
            rfl
          refine pure_ (i := 5) (N := some 86) (v := ?_) (a' := ?_) #[true, true, true, true, false, true, false, false, false, false, false] rfl rfl (by kernel_rfl) (fun _ _ _ h => h) (Or.inl ⟨by rfl, ?_⟩) ?_ ?_
          rotate_left
          · intro w'
            go_simp
            with_reducible rfl
          rotate_left
          · simp only [Act.put, List.setIfInBounds_toArray, List.set_cons_zero, List.set_cons_succ, i64_w, i32_w]
            rfl
          refine pure_ (i := 6) (N := some 87) (v := ?_) (a' := ?_) #[true, true, true, true, false, true, true, false, false, false, false] rfl rfl (by kernel_rfl) (fun _ _ _ h => h) (Or.inl ⟨by rfl, ?_⟩) ?_ ?_
          rotate_left
          · intro w'
            go_simp
            with_reducible rfl
          rotate_left
          · simp only [Act.put, List.setIfInBounds_toArray, List.set_cons_zero, List.set_cons_succ, i64_w, i32_w]
            rfl
          refine pure_ (i := 7) (N := some 88) (v := ?_) (a' := ?_) #[true, true, true, true, false, true, true, true, false, false, false] rfl rfl (by kernel_rfl) (fun _ _ _ h => h) (Or.inl ⟨by rfl, ?_⟩) ?_ ?_
          rotate_left
          · intro w'
            go_simp
            with_reducible rfl
          rotate_left
          · simp only [Act.put, List.setIfInBounds_toArray, List.set_cons_zero, List.set_cons_succ, i64_w, i32_w]
            rfl
          refine take_ (i := 8) (N := some 89) (v := ?_) (a' := ?_) #[true, true, true, true, false, true, true, true, true, false, false] rfl rfl (by kernel_rfl) (fun _ _ _ h => h) (Or.inl ⟨by rfl, ?_⟩) hHeld ?_ ?_
          rotate_left
          · rintro w' ⟨s0, s1, s2⟩
            go_simp
            with_reducible rfl
          rotate_left
          · simp only [Act.put, List.setIfInBounds_toArray, List.set_cons_zero, List.set_cons_succ, i64_w, i32_w]
            rfl
          refine one_ (i := 4) (N := some 85) #[true, true, true, true, true, true, true, true, true, false, false] rfl rfl (by kernel_rfl) (by decide) (fun K_ hK_ => ?_)
          refine goes_ Tryd.func22 (by kernel_rfl) rfl #[.pointer (some ⟨gr, 0, none⟩)] (by rfl) rfl rfl (by (try simp only [List.map_toArray, List.map_cons, List.map_nil]); first | done | rfl) ?_
          obtain ⟨N_, on_, nn_, rr_, bb_⟩ := O10.out.frame1 (i := 0) rfl
          refine (pErr (K10.out.below (Nat.le_refl _) (fun k hk => by rw [HN.out]; exact hk)) (Nat.le_of_not_lt (fun q_ => (O10.out.far (i := 0) rfl) (by rw [HN.out]; exact q_))) on_).mono ?_
          rintro e_ w11 ⟨rfl, oo_, kk_⟩
          obtain ⟨o_, k_⟩ := bb_ _ _ _ kk_ oo_
          refine ⟨_, rfl, ?_⟩
          have O11 : Aside0 (Own N w11 [RP gr a0 p (endR a0 p e), RM gm a0 p (endR a0 p e), cells gx #[.int .i64 (rd_T46 l0 x).f0, .int .i64 (rd_T46 l0 x).f1, .string (rd_T46 l0 x).f2] 46]) := ⟨o_⟩
          have K11 : Aside0 (KeepS N w w11) := ⟨K10.out.trans k_⟩
          clear c10_0_0 f10_0_0 c10_0_1 f10_0_1 c10_0_2 f10_0_2 c10_1_0 f10_1_0 c10_1_1 f10_1_1 c10_1_2 f10_1_2 c10_2_0 f10_2_0 c10_2_1 f10_2_1 c10_2_2 f10_2_2 n10_0_1 n10_0_2 n10_1_0 n10_1_2 n10_2_0 n10_2_1 O10 K10
          have c11_0_0 : w11.cell? ⟨gr, 0, none⟩ = some (.string a0) := (blk_cell (O11.out.blk (i := 0) rfl) 0).trans rfl
          have f11_0_0 : w11.frozen? ⟨gr, 0, none⟩ = false := blk_frozen (O11.out.blk (i := 0) rfl) 0
          have c11_0_1 : w11.cell? ⟨gr, 1, none⟩ = some (.int .i64 p) := (blk_cell (O11.out.blk (i := 0) rfl) 1).trans rfl
          have f11_0_1 : w11.frozen? ⟨gr, 1, none⟩ = false := blk_frozen (O11.out.blk (i := 0) rfl) 1
          have c11_0_2 : w11.cell? ⟨gr, 2, none⟩ = some (.int .i64 (endR a0 p e)) := (blk_cell (O11.out.blk (i := 0) rfl) 2).trans rfl
          have f11_0_2 : w11.frozen? ⟨gr, 2, none⟩ = false := blk_frozen (O11.out.blk (i := 0) rfl) 2
          have c11_1_0 : w11.cell? ⟨gm, 0, none⟩ = some (.string a0) := (blk_cell (O11.out.blk (i := 1) rfl) 0).trans rfl
          have f11_1_0 : w11.frozen? ⟨gm, 0, none⟩ = false := blk_frozen (O11.out.blk (i := 1) rfl) 0
          have c11_1_1 : w11.cell? ⟨gm, 1, none⟩ = some (.int .i64 p) := (blk_cell (O11.out.blk (i := 1) rfl) 1).trans rfl
          have f11_1_1 : w11.frozen? ⟨gm, 1, none⟩ = false := blk_frozen (O11.out.blk (i := 1) rfl) 1
          have c11_1_2 : w11.cell? ⟨gm, 2, none⟩ = some (.int .i64 (endR a0 p e)) := (blk_cell (O11.out.blk (i := 1) rfl) 2).trans rfl
          have f11_1_2 : w11.frozen? ⟨gm, 2, none⟩ = false := blk_frozen (O11.out.blk (i := 1) rfl) 2
          have c11_2_0 : w11.cell? ⟨gx, 0, none⟩ = some (.int .i64 (rd_T46 l0 x).f0) := (blk_cell (O11.out.blk (i := 2) rfl) 0).trans rfl
          have f11_2_0 : w11.frozen? ⟨gx, 0, none⟩ = false := blk_frozen (O11.out.blk (i := 2) rfl) 0
          have c11_2_1 : w11.cell? ⟨gx, 1, none⟩ = some (.int .i64 (rd_T46 l0 x).f1) := (blk_cell (O11.out.blk (i := 2) rfl) 1).trans rfl
          have f11_2_1 : w11.frozen? ⟨gx, 1, none⟩ = false := blk_frozen (O11.out.blk (i := 2) rfl) 1
          have c11_2_2 : w11.cell? ⟨gx, 2, none⟩ = some (.string (rd_T46 l0 x).f2) := (blk_cell (O11.out.blk (i := 2) rfl) 2).trans rfl
          have f11_2_2 : w11.frozen? ⟨gx, 2, none⟩ = false := blk_frozen (O11.out.blk (i := 2) rfl) 2
          have n11_0_1 : gr ≠ gm := O11.out.ne (i := 0) (j := 1) rfl rfl (by decide)
          have n11_0_2 : gr ≠ gx := O11.out.ne (i := 0) (j := 2) rfl rfl (by decide)
          have n11_1_0 : gm ≠ gr := O11.out.ne (i := 1) (j := 0) rfl rfl (by decide)
          have n11_1_2 : gm ≠ gx := O11.out.ne (i := 1) (j := 2) rfl rfl (by decide)
          have n11_2_0 : gx ≠ gr := O11.out.ne (i := 2) (j := 0) rfl rfl (by decide)
          have n11_2_1 : gx ≠ gm := O11.out.ne (i := 2) (j := 1) rfl rfl (by decide)
          clear o_ k_ oo_ kk_ on_ nn_ rr_ bb_
          clear hHeld
          refine hK_.out _ _ ⟨((blk_cell (O11.out.blk (i := 1) rfl) 0).trans rfl), ((blk_cell (O11.out.blk (i := 1) rfl) 1).trans rfl), ((blk_cell (O11.out.blk (i := 1) rfl) 2).trans rfl)⟩ (fun hHeld => ?_)
          clear hK_ K_
          refine norm_ (a' := ?_) ?_ ?_
          rotate_left
          · simp only [Act.put, List.setIfInBounds_toArray, List.set_cons_zero, List.set_cons_succ, i64_w, i32_w]
            rfl
          refine pure_ (i := 9) (N := some 90) (v := ?_) (a' := ?_) #[true, true, true, true, true, true, true, true, true, true, false] rfl rfl (by kernel_rfl) (fun _ _ _ h => h) (Or.inl ⟨by rfl, ?_⟩) ?_ ?_
          rotate_left
          · intro w'
            go_simp
            with_reducible rfl
          rotate_left
          · simp only [Act.put, List.setIfInBounds_toArray, List.set_cons_zero, List.set_cons_succ, i64_w, i32_w]
            rfl
          refine pure_ (i := 10) (N := some 91) (v := ?_) (a' := ?_) #[true, true, true, true, true, true, true, true, true, true, true] rfl rfl (by kernel_rfl) (fun _ _ _ h => h) (Or.inl ⟨by rfl, ?_⟩) ?_ ?_
          rotate_left
          · intro w'
            go_simp
            with_reducible rfl
          rotate_left
          · simp only [Act.put, List.setIfInBounds_toArray, List.set_cons_zero, List.set_cons_succ, i64_w, i32_w]
            rfl
          refine done_ (by kernel_rfl) ?_
          clear hHeld
          go_wp2
          go_roundw
          case rel => exact ⟨x + 1, p, (endR a0 p e), by have := HX.out; omega, by have := HX.out; omega, int_eq (by unfold wrap64; have := HX.out; have := HL200.out; omega), ⟨HI.out⟩, ⟨O11.out.pick2 (a := 0) (b := 1) rfl rfl (by decide)⟩, K11⟩
          case measure => have := HX.out; simp [intOf]; omega
        have hb5 : ((rd_T46 l0 x).f0 == 5) = false := beq_eq_false_iff_ne.2 hk5
        clear hk5
        have hee : (e != e) = false := by simp
        go_wp2_with (first | ((with_reducible refine gate_dst (N := 8) rfl ?_); refine own_box rfl (D := 8) rfl (cs := #[.int .i64 0, .int .i64 0, .string (⟨#[]⟩ : ByteArray)]) (t := 46) ?hr O5.out ?_; (case hr => first | (go_simp; done) | (go_simp; rfl)); intro gx w6 o_ k_; have O6 : Aside0 (Own N w6 [RP gr a0 p e, RM gm a0 p e, cells gx #[.int .i64 0, .int .i64 0, .string (⟨#[]⟩ : ByteArray)] 46]) := ⟨o_⟩; have K6 : Aside0 (KeepS N w w6) := ⟨K5.out.trans k_⟩; clear c5_0_0 f5_0_0 c5_0_1 f5_0_1 c5_0_2 f5_0_2 c5_1_0 f5_1_0 c5_1_1 f5_1_1 c5_1_2 f5_1_2 n5_0_1 n5_1_0 O5 K5; have c6_0_0 : w6.cell? ⟨gr, 0, none⟩ = some (.string a0) := (blk_cell (O6.out.blk (i := 0) rfl) 0).trans rfl; have f6_0_0 : w6.frozen? ⟨gr, 0, none⟩ = false := blk_frozen (O6.out.blk (i := 0) rfl) 0; have c6_0_1 : w6.cell? ⟨gr, 1, none⟩ = some (.int .i64 p) := (blk_cell (O6.out.blk (i := 0) rfl) 1).trans rfl; have f6_0_1 : w6.frozen? ⟨gr, 1, none⟩ = false := blk_frozen (O6.out.blk (i := 0) rfl) 1; have c6_0_2 : w6.cell? ⟨gr, 2, none⟩ = some (.int .i64 e) := (blk_cell (O6.out.blk (i := 0) rfl) 2).trans rfl; have f6_0_2 : w6.frozen? ⟨gr, 2, none⟩ = false := blk_frozen (O6.out.blk (i := 0) rfl) 2; have c6_1_0 : w6.cell? ⟨gm, 0, none⟩ = some (.string a0) := (blk_cell (O6.out.blk (i := 1) rfl) 0).trans rfl; have f6_1_0 : w6.frozen? ⟨gm, 0, none⟩ = false := blk_frozen (O6.out.blk (i := 1) rfl) 0; have c6_1_1 : w6.cell? ⟨gm, 1, none⟩ = some (.int .i64 p) := (blk_cell (O6.out.blk (i := 1) rfl) 1).trans rfl; have f6_1_1 : w6.frozen? ⟨gm, 1, none⟩ = false := blk_frozen (O6.out.blk (i := 1) rfl) 1; have c6_1_2 : w6.cell? ⟨gm, 2, none⟩ = some (.int .i64 e) := (blk_cell (O6.out.blk (i := 1) rfl) 2).trans rfl; have f6_1_2 : w6.frozen? ⟨gm, 2, none⟩ = false := blk_frozen (O6.out.blk (i := 1) rfl) 2; have c6_2_0 : w6.cell? ⟨gx, 0, none⟩ = some (.int .i64 0) := (blk_cell (O6.out.blk (i := 2) rfl) 0).trans rfl; have f6_2_0 : w6.frozen? ⟨gx, 0, none⟩ = false := blk_frozen (O6.out.blk (i := 2) rfl) 0; have c6_2_1 : w6.cell? ⟨gx, 1, none⟩ = some (.int .i64 0) := (blk_cell (O6.out.blk (i := 2) rfl) 1).trans rfl; have f6_2_1 : w6.frozen? ⟨gx, 1, none⟩ = false := blk_frozen (O6.out.blk (i := 2) rfl) 1; have c6_2_2 : w6.cell? ⟨gx, 2, none⟩ = some (.string (⟨#[]⟩ : ByteArray)) := (blk_cell (O6.out.blk (i := 2) rfl) 2).trans rfl; have f6_2_2 : w6.frozen? ⟨gx, 2, none⟩ = false := blk_frozen (O6.out.blk (i := 2) rfl) 2; have n6_0_1 : gr ≠ gm := O6.out.ne (i := 0) (j := 1) rfl rfl (by decide); have n6_0_2 : gr ≠ gx := O6.out.ne (i := 0) (j := 2) rfl rfl (by decide); have n6_1_0 : gm ≠ gr := O6.out.ne (i := 1) (j := 0) rfl rfl (by decide); have n6_1_2 : gm ≠ gx := O6.out.ne (i := 1) (j := 2) rfl rfl (by decide); have n6_2_0 : gx ≠ gr := O6.out.ne (i := 2) (j := 0) rfl rfl (by decide); have n6_2_1 : gx ≠ gm := O6.out.ne (i := 2) (j := 1) rfl rfl (by decide); clear o_ k_) | ((with_reducible refine gate_store (t := 46) (p := 8) rfl ?_); refine own_store rfl rfl rfl (w1 := (World.setCell (World.setCell (World.setCell w6 ⟨gx, 0, none⟩ (.int .i64 (rd_T46 l0 x).f0)) ⟨gx, 1, none⟩ (.int .i64 (rd_T46 l0 x).f1)) ⟨gx, 2, none⟩ (.string (rd_T46 l0 x).f2))) (N := N) (l' := [RP gr a0 p e, RM gm a0 p e, cells gx #[.int .i64 (rd_T46 l0 x).f0, .int .i64 (rd_T46 l0 x).f1, .string (rd_T46 l0 x).f2] 46]) ?hr ?ho ?hk ?_; (case hr => first | (go_simp; done) | (go_simp; rfl)); (case ho => exact (((O6.out.set (i := 2) rfl 0 (.int .i64 (rd_T46 l0 x).f0)).set (i := 2) rfl 1 (.int .i64 (rd_T46 l0 x).f1)).set (i := 2) rfl 2 (.string (rd_T46 l0 x).f2))); (case hk => exact (((KeepS.setCell (O6.out.far (i := 2) rfl) (.int .i64 (rd_T46 l0 x).f0)).trans (KeepS.setCell (O6.out.far (i := 2) rfl) (.int .i64 (rd_T46 l0 x).f1))).trans (KeepS.setCell (O6.out.far (i := 2) rfl) (.string (rd_T46 l0 x).f2)))); intro w7 o_ k_; have O7 : Aside0 (Own N w7 [RP gr a0 p e, RM gm a0 p e, cells gx #[.int .i64 (rd_T46 l0 x).f0, .int .i64 (rd_T46 l0 x).f1, .string (rd_T46 l0 x).f2] 46]) := ⟨o_⟩; have K7 : Aside0 (KeepS N w w7) := ⟨K6.out.trans k_⟩; clear c6_0_0 f6_0_0 c6_0_1 f6_0_1 c6_0_2 f6_0_2 c6_1_0 f6_1_0 c6_1_1 f6_1_1 c6_1_2 f6_1_2 c6_2_0 f6_2_0 c6_2_1 f6_2_1 c6_2_2 f6_2_2 n6_0_1 n6_0_2 n6_1_0 n6_1_2 n6_2_0 n6_2_1 O6 K6; have c7_0_0 : w7.cell? ⟨gr, 0, none⟩ = some (.string a0) := (blk_cell (O7.out.blk (i := 0) rfl) 0).trans rfl; have f7_0_0 : w7.frozen? ⟨gr, 0, none⟩ = false := blk_frozen (O7.out.blk (i := 0) rfl) 0; have c7_0_1 : w7.cell? ⟨gr, 1, none⟩ = some (.int .i64 p) := (blk_cell (O7.out.blk (i := 0) rfl) 1).trans rfl; have f7_0_1 : w7.frozen? ⟨gr, 1, none⟩ = false := blk_frozen (O7.out.blk (i := 0) rfl) 1; have c7_0_2 : w7.cell? ⟨gr, 2, none⟩ = some (.int .i64 e) := (blk_cell (O7.out.blk (i := 0) rfl) 2).trans rfl; have f7_0_2 : w7.frozen? ⟨gr, 2, none⟩ = false := blk_frozen (O7.out.blk (i := 0) rfl) 2; have c7_1_0 : w7.cell? ⟨gm, 0, none⟩ = some (.string a0) := (blk_cell (O7.out.blk (i := 1) rfl) 0).trans rfl; have f7_1_0 : w7.frozen? ⟨gm, 0, none⟩ = false := blk_frozen (O7.out.blk (i := 1) rfl) 0; have c7_1_1 : w7.cell? ⟨gm, 1, none⟩ = some (.int .i64 p) := (blk_cell (O7.out.blk (i := 1) rfl) 1).trans rfl; have f7_1_1 : w7.frozen? ⟨gm, 1, none⟩ = false := blk_frozen (O7.out.blk (i := 1) rfl) 1; have c7_1_2 : w7.cell? ⟨gm, 2, none⟩ = some (.int .i64 e) := (blk_cell (O7.out.blk (i := 1) rfl) 2).trans rfl; have f7_1_2 : w7.frozen? ⟨gm, 2, none⟩ = false := blk_frozen (O7.out.blk (i := 1) rfl) 2; have c7_2_0 : w7.cell? ⟨gx, 0, none⟩ = some (.int .i64 (rd_T46 l0 x).f0) := (blk_cell (O7.out.blk (i := 2) rfl) 0).trans rfl; have f7_2_0 : w7.frozen? ⟨gx, 0, none⟩ = false := blk_frozen (O7.out.blk (i := 2) rfl) 0; have c7_2_1 : w7.cell? ⟨gx, 1, none⟩ = some (.int .i64 (rd_T46 l0 x).f1) := (blk_cell (O7.out.blk (i := 2) rfl) 1).trans rfl; have f7_2_1 : w7.frozen? ⟨gx, 1, none⟩ = false := blk_frozen (O7.out.blk (i := 2) rfl) 1; have c7_2_2 : w7.cell? ⟨gx, 2, none⟩ = some (.string (rd_T46 l0 x).f2) := (blk_cell (O7.out.blk (i := 2) rfl) 2).trans rfl; have f7_2_2 : w7.frozen? ⟨gx, 2, none⟩ = false := blk_frozen (O7.out.blk (i := 2) rfl) 2; have n7_0_1 : gr ≠ gm := O7.out.ne (i := 0) (j := 1) rfl rfl (by decide); have n7_0_2 : gr ≠ gx := O7.out.ne (i := 0) (j := 2) rfl rfl (by decide); have n7_1_0 : gm ≠ gr := O7.out.ne (i := 1) (j := 0) rfl rfl (by decide); have n7_1_2 : gm ≠ gx := O7.out.ne (i := 1) (j := 2) rfl rfl (by decide); have n7_2_0 : gx ≠ gr := O7.out.ne (i := 2) (j := 0) rfl rfl (by decide); have n7_2_1 : gx ≠ gm := O7.out.ne (i := 2) (j := 1) rfl rfl (by decide); clear o_ k_))
        refine start_ (n := 11) (S := fun w' => w'.cell? ⟨gm, 0, none⟩ = some (.string a0) ∧ w'.cell? ⟨gm, 1, none⟩ = some (.int .i64 p) ∧ w'.cell? ⟨gm, 2, none⟩ = some (.int .i64 e)) (ds := []) #[false, false, false, false, false, false, false, false, false, false, false] (by kernel_rfl) rfl rfl ⟨((blk_cell (O7.out.blk (i := 1) rfl) 0).trans rfl), ((blk_cell (O7.out.blk (i := 1) rfl) 1).trans rfl), ((blk_cell (O7.out.blk (i := 1) rfl) 2).trans rfl)⟩ (fun hHeld => ?_)
        obtain ⟨w8, hw_⟩ : ∃ W, W = w7.drew := ⟨_, rfl⟩
        have o_ := O7.out.drew
        have k_ : KeepS N w7 w7.drew := KeepS.drew
        rw [← hw_] at o_ k_ hHeld ⊢
        clear hw_
        have O8 : Aside0 (Own N w8 [RP gr a0 p e, RM gm a0 p e, cells gx #[.int .i64 (rd_T46 l0 x).f0, .int .i64 (rd_T46 l0 x).f1, .string (rd_T46 l0 x).f2] 46]) := ⟨o_⟩
        have K8 : Aside0 (KeepS N w w8) := ⟨K7.out.trans k_⟩
        clear c7_0_0 f7_0_0 c7_0_1 f7_0_1 c7_0_2 f7_0_2 c7_1_0 f7_1_0 c7_1_1 f7_1_1 c7_1_2 f7_1_2 c7_2_0 f7_2_0 c7_2_1 f7_2_1 c7_2_2 f7_2_2 n7_0_1 n7_0_2 n7_1_0 n7_1_2 n7_2_0 n7_2_1 O7 K7
        have c8_0_0 : w8.cell? ⟨gr, 0, none⟩ = some (.string a0) := (blk_cell (O8.out.blk (i := 0) rfl) 0).trans rfl
        have f8_0_0 : w8.frozen? ⟨gr, 0, none⟩ = false := blk_frozen (O8.out.blk (i := 0) rfl) 0
        have c8_0_1 : w8.cell? ⟨gr, 1, none⟩ = some (.int .i64 p) := (blk_cell (O8.out.blk (i := 0) rfl) 1).trans rfl
        have f8_0_1 : w8.frozen? ⟨gr, 1, none⟩ = false := blk_frozen (O8.out.blk (i := 0) rfl) 1
        have c8_0_2 : w8.cell? ⟨gr, 2, none⟩ = some (.int .i64 e) := (blk_cell (O8.out.blk (i := 0) rfl) 2).trans rfl
        have f8_0_2 : w8.frozen? ⟨gr, 2, none⟩ = false := blk_frozen (O8.out.blk (i := 0) rfl) 2
        have c8_1_0 : w8.cell? ⟨gm, 0, none⟩ = some (.string a0) := (blk_cell (O8.out.blk (i := 1) rfl) 0).trans rfl
        have f8_1_0 : w8.frozen? ⟨gm, 0, none⟩ = false := blk_frozen (O8.out.blk (i := 1) rfl) 0
        have c8_1_1 : w8.cell? ⟨gm, 1, none⟩ = some (.int .i64 p) := (blk_cell (O8.out.blk (i := 1) rfl) 1).trans rfl
        have f8_1_1 : w8.frozen? ⟨gm, 1, none⟩ = false := blk_frozen (O8.out.blk (i := 1) rfl) 1
        have c8_1_2 : w8.cell? ⟨gm, 2, none⟩ = some (.int .i64 e) := (blk_cell (O8.out.blk (i := 1) rfl) 2).trans rfl
        have f8_1_2 : w8.frozen? ⟨gm, 2, none⟩ = false := blk_frozen (O8.out.blk (i := 1) rfl) 2
        have c8_2_0 : w8.cell? ⟨gx, 0, none⟩ = some (.int .i64 (rd_T46 l0 x).f0) := (blk_cell (O8.out.blk (i := 2) rfl) 0).trans rfl
        have f8_2_0 : w8.frozen? ⟨gx, 0, none⟩ = false := blk_frozen (O8.out.blk (i := 2) rfl) 0
        have c8_2_1 : w8.cell? ⟨gx, 1, none⟩ = some (.int .i64 (rd_T46 l0 x).f1) := (blk_cell (O8.out.blk (i := 2) rfl) 1).trans rfl
        have f8_2_1 : w8.frozen? ⟨gx, 1, none⟩ = false := blk_frozen (O8.out.blk (i := 2) rfl) 1
        have c8_2_2 : w8.cell? ⟨gx, 2, none⟩ = some (.string (rd_T46 l0 x).f2) := (blk_cell (O8.out.blk (i := 2) rfl) 2).trans rfl
        have f8_2_2 : w8.frozen? ⟨gx, 2, none⟩ = false := blk_frozen (O8.out.blk (i := 2) rfl) 2
        have n8_0_1 : gr ≠ gm := O8.out.ne (i := 0) (j := 1) rfl rfl (by decide)
        have n8_0_2 : gr ≠ gx := O8.out.ne (i := 0) (j := 2) rfl rfl (by decide)
        have n8_1_0 : gm ≠ gr := O8.out.ne (i := 1) (j := 0) rfl rfl (by decide)
        have n8_1_2 : gm ≠ gx := O8.out.ne (i := 1) (j := 2) rfl rfl (by decide)
        have n8_2_0 : gx ≠ gr := O8.out.ne (i := 2) (j := 0) rfl rfl (by decide)
        have n8_2_1 : gx ≠ gm := O8.out.ne (i := 2) (j := 1) rfl rfl (by decide)
        clear o_ k_
        refine pure_ (i := 0) (N := some 81) (v := ?_) (a' := ?_) #[true, false, false, false, false, false, false, false, false, false, false] rfl rfl (by kernel_rfl) (fun _ _ _ h => h) (Or.inl ⟨by rfl, ?_⟩) ?_ ?_
        rotate_left
        · intro w'
          go_simp
          with_reducible rfl
        rotate_left
        · simp only [Act.put, List.setIfInBounds_toArray, List.set_cons_zero, List.set_cons_succ, i64_w, i32_w]
          rfl
        refine pure_ (i := 1) (N := some 82) (v := ?_) (a' := ?_) #[true, true, false, false, false, false, false, false, false, false, false] rfl rfl (by kernel_rfl) (fun _ _ _ h => h) (Or.inl ⟨by rfl, ?_⟩) ?_ ?_
        rotate_left
        · intro w'
          go_simp
          with_reducible rfl
        rotate_left
        · simp only [Act.put, List.setIfInBounds_toArray, List.set_cons_zero, List.set_cons_succ, i64_w, i32_w]
          rfl
        refine pure_ (i := 2) (N := some 83) (v := ?_) (a' := ?_) #[true, true, true, false, false, false, false, false, false, false, false] rfl rfl (by kernel_rfl) (fun _ _ _ h => h) (Or.inl ⟨by rfl, ?_⟩) ?_ ?_
        rotate_left
        · intro w'
          go_simp
          with_reducible rfl
        rotate_left
        · simp only [Act.put, List.setIfInBounds_toArray, List.set_cons_zero, List.set_cons_succ, i64_w, i32_w]
          rfl
        refine pure_ (i := 3) (N := some 84) (v := ?_) (a' := ?_) #[true, true, true, true, false, false, false, false, false, false, false] rfl rfl (by kernel_rfl) (fun _ _ _ h => h) (Or.inl ⟨by rfl, ?_⟩) ?_ ?_
        rotate_left
        · intro w'
          go_simp
          with_reducible rfl
        rotate_left
        · simp only [Act.put, List.setIfInBounds_toArray, List.set_cons_zero, List.set_cons_succ, i64_w, i32_w]
          rfl
        refine pure_ (i := 5) (N := some 86) (v := ?_) (a' := ?_) #[true, true, true, true, false, true, false, false, false, false, false] rfl rfl (by kernel_rfl) (fun _ _ _ h => h) (Or.inl ⟨by rfl, ?_⟩) ?_ ?_
        rotate_left
        · intro w'
          go_simp
          with_reducible rfl
        rotate_left
        · simp only [Act.put, List.setIfInBounds_toArray, List.set_cons_zero, List.set_cons_succ, i64_w, i32_w]
          rfl
        refine pure_ (i := 6) (N := some 87) (v := ?_) (a' := ?_) #[true, true, true, true, false, true, true, false, false, false, false] rfl rfl (by kernel_rfl) (fun _ _ _ h => h) (Or.inl ⟨by rfl, ?_⟩) ?_ ?_
        rotate_left
        · intro w'
          go_simp
          with_reducible rfl
        rotate_left
        · simp only [Act.put, List.setIfInBounds_toArray, List.set_cons_zero, List.set_cons_succ, i64_w, i32_w]
          rfl
        refine pure_ (i := 7) (N := some 88) (v := ?_) (a' := ?_) #[true, true, true, true, false, true, true, true, false, false, false] rfl rfl (by kernel_rfl) (fun _ _ _ h => h) (Or.inl ⟨by rfl, ?_⟩) ?_ ?_
        rotate_left
        · intro w'
          go_simp
          with_reducible rfl
        rotate_left
        · simp only [Act.put, List.setIfInBounds_toArray, List.set_cons_zero, List.set_cons_succ, i64_w, i32_w]
          rfl
        refine take_ (i := 8) (N := some 89) (v := ?_) (a' := ?_) #[true, true, true, true, false, true, true, true, true, false, false] rfl rfl (by kernel_rfl) (fun _ _ _ h => h) (Or.inl ⟨by rfl, ?_⟩) hHeld ?_ ?_
        rotate_left
        · rintro w' ⟨s0, s1, s2⟩
          go_simp
          with_reducible rfl
        rotate_left
        · simp only [Act.put, List.setIfInBounds_toArray, List.set_cons_zero, List.set_cons_succ, i64_w, i32_w]
          rfl
        refine one_ (i := 4) (N := some 85) #[true, true, true, true, true, true, true, true, true, false, false] rfl rfl (by kernel_rfl) (by decide) (fun K_ hK_ => ?_)
        refine goes_ Tryd.func22 (by kernel_rfl) rfl #[.pointer (some ⟨gr, 0, none⟩)] (by rfl) rfl rfl (by (try simp only [List.map_toArray, List.map_cons, List.map_nil]); first | done | rfl) ?_
        obtain ⟨N_, on_, nn_, rr_, bb_⟩ := O8.out.frame1 (i := 0) rfl
        refine (pErr (K8.out.below (Nat.le_refl _) (fun k hk => by rw [HN.out]; exact hk)) (Nat.le_of_not_lt (fun q_ => (O8.out.far (i := 0) rfl) (by rw [HN.out]; exact q_))) on_).mono ?_
        rintro e_ w9 ⟨rfl, oo_, kk_⟩
        obtain ⟨o_, k_⟩ := bb_ _ _ _ kk_ oo_
        refine ⟨_, rfl, ?_⟩
        have O9 : Aside0 (Own N w9 [RP gr a0 p e, RM gm a0 p e, cells gx #[.int .i64 (rd_T46 l0 x).f0, .int .i64 (rd_T46 l0 x).f1, .string (rd_T46 l0 x).f2] 46]) := ⟨o_⟩
        have K9 : Aside0 (KeepS N w w9) := ⟨K8.out.trans k_⟩
        clear c8_0_0 f8_0_0 c8_0_1 f8_0_1 c8_0_2 f8_0_2 c8_1_0 f8_1_0 c8_1_1 f8_1_1 c8_1_2 f8_1_2 c8_2_0 f8_2_0 c8_2_1 f8_2_1 c8_2_2 f8_2_2 n8_0_1 n8_0_2 n8_1_0 n8_1_2 n8_2_0 n8_2_1 O8 K8
        have c9_0_0 : w9.cell? ⟨gr, 0, none⟩ = some (.string a0) := (blk_cell (O9.out.blk (i := 0) rfl) 0).trans rfl
        have f9_0_0 : w9.frozen? ⟨gr, 0, none⟩ = false := blk_frozen (O9.out.blk (i := 0) rfl) 0
        have c9_0_1 : w9.cell? ⟨gr, 1, none⟩ = some (.int .i64 p) := (blk_cell (O9.out.blk (i := 0) rfl) 1).trans rfl
        have f9_0_1 : w9.frozen? ⟨gr, 1, none⟩ = false := blk_frozen (O9.out.blk (i := 0) rfl) 1
        have c9_0_2 : w9.cell? ⟨gr, 2, none⟩ = some (.int .i64 e) := (blk_cell (O9.out.blk (i := 0) rfl) 2).trans rfl
        have f9_0_2 : w9.frozen? ⟨gr, 2, none⟩ = false := blk_frozen (O9.out.blk (i := 0) rfl) 2
        have c9_1_0 : w9.cell? ⟨gm, 0, none⟩ = some (.string a0) := (blk_cell (O9.out.blk (i := 1) rfl) 0).trans rfl
        have f9_1_0 : w9.frozen? ⟨gm, 0, none⟩ = false := blk_frozen (O9.out.blk (i := 1) rfl) 0
        have c9_1_1 : w9.cell? ⟨gm, 1, none⟩ = some (.int .i64 p) := (blk_cell (O9.out.blk (i := 1) rfl) 1).trans rfl
        have f9_1_1 : w9.frozen? ⟨gm, 1, none⟩ = false := blk_frozen (O9.out.blk (i := 1) rfl) 1
        have c9_1_2 : w9.cell? ⟨gm, 2, none⟩ = some (.int .i64 e) := (blk_cell (O9.out.blk (i := 1) rfl) 2).trans rfl
        have f9_1_2 : w9.frozen? ⟨gm, 2, none⟩ = false := blk_frozen (O9.out.blk (i := 1) rfl) 2
        have c9_2_0 : w9.cell? ⟨gx, 0, none⟩ = some (.int .i64 (rd_T46 l0 x).f0) := (blk_cell (O9.out.blk (i := 2) rfl) 0).trans rfl
        have f9_2_0 : w9.frozen? ⟨gx, 0, none⟩ = false := blk_frozen (O9.out.blk (i := 2) rfl) 0
        have c9_2_1 : w9.cell? ⟨gx, 1, none⟩ = some (.int .i64 (rd_T46 l0 x).f1) := (blk_cell (O9.out.blk (i := 2) rfl) 1).trans rfl
        have f9_2_1 : w9.frozen? ⟨gx, 1, none⟩ = false := blk_frozen (O9.out.blk (i := 2) rfl) 1
        have c9_2_2 : w9.cell? ⟨gx, 2, none⟩ = some (.string (rd_T46 l0 x).f2) := (blk_cell (O9.out.blk (i := 2) rfl) 2).trans rfl
        have f9_2_2 : w9.frozen? ⟨gx, 2, none⟩ = false := blk_frozen (O9.out.blk (i := 2) rfl) 2
        have n9_0_1 : gr ≠ gm := O9.out.ne (i := 0) (j := 1) rfl rfl (by decide)
        have n9_0_2 : gr ≠ gx := O9.out.ne (i := 0) (j := 2) rfl rfl (by decide)
        have n9_1_0 : gm ≠ gr := O9.out.ne (i := 1) (j := 0) rfl rfl (by decide)
        have n9_1_2 : gm ≠ gx := O9.out.ne (i := 1) (j := 2) rfl rfl (by decide)
        have n9_2_0 : gx ≠ gr := O9.out.ne (i := 2) (j := 0) rfl rfl (by decide)
        have n9_2_1 : gx ≠ gm := O9.out.ne (i := 2) (j := 1) rfl rfl (by decide)
        clear o_ k_ oo_ kk_ on_ nn_ rr_ bb_
        clear hHeld
        refine hK_.out _ _ ⟨((blk_cell (O9.out.blk (i := 1) rfl) 0).trans rfl), ((blk_cell (O9.out.blk (i := 1) rfl) 1).trans rfl), ((blk_cell (O9.out.blk (i := 1) rfl) 2).trans rfl)⟩ (fun hHeld => ?_)
        clear hK_ K_
        refine norm_ (a' := ?_) ?_ ?_
        rotate_left
        · simp only [Act.put, List.setIfInBounds_toArray, List.set_cons_zero, List.set_cons_succ, i64_w, i32_w]
          rfl
        refine pure_ (i := 9) (N := some 90) (v := ?_) (a' := ?_) #[true, true, true, true, true, true, true, true, true, true, false] rfl rfl (by kernel_rfl) (fun _ _ _ h => h) (Or.inl ⟨by rfl, ?_⟩) ?_ ?_
        rotate_left
        · intro w'
          go_simp
          with_reducible rfl
        rotate_left
        · simp only [Act.put, List.setIfInBounds_toArray, List.set_cons_zero, List.set_cons_succ, i64_w, i32_w]
          rfl
        refine pure_ (i := 10) (N := some 91) (v := ?_) (a' := ?_) #[true, true, true, true, true, true, true, true, true, true, true] rfl rfl (by kernel_rfl) (fun _ _ _ h => h) (Or.inl ⟨by rfl, ?_⟩) ?_ ?_
        rotate_left
        · intro w'
          go_simp
          with_reducible rfl
        rotate_left
        · simp only [Act.put, List.setIfInBounds_toArray, List.set_cons_zero, List.set_cons_succ, i64_w, i32_w]
          rfl
        refine done_ (by kernel_rfl) ?_
        clear hHeld
        go_wp2
        go_roundw
        case rel => exact ⟨x + 1, p, e, by have := HX.out; omega, by have := HX.out; omega, int_eq (by unfold wrap64; have := HX.out; have := HL200.out; omega), ⟨HI.out⟩, ⟨O9.out.pick2 (a := 0) (b := 1) rfl rfl (by decide)⟩, K9⟩
        case measure => have := HX.out; simp [intOf]; omega
      · have hxe : x = (l0.length : Int) := by omega
        subst hxe
        have hd : decide ((l0.length : Int) < (l0.length : Int)) = false := decide_eq_false (Int.lt_irrefl _)
        clear hlt hx0 hx1 hF2 hLx
        have O6 : Aside0 (Own N wr [RP gr a0 p e, RM gm a0 p e]) := ⟨OA.out⟩
        have K6 : Aside0 (KeepS N w wr) := ⟨KA.out⟩
        clear OA KA
        go_wp2
        go_ret
        exact ⟨rfl, (K6.out.below (Nat.le_refl _) (fun k hk => by rw [HN.out]; exact hk))⟩
end Go.Proofs.YtfbdfnclkchofaaDoor.J
