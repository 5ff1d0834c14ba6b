/- The law CommitOrder: of each origin the rounds stand there in the order of their numbers, from 1 on, without gaps: a plain walk through its text. -/
import Derived.Test.YtjmoncfgoaaekaaYCommitOrderC6
import Derived.Test.YtjmoncfgoaaekaaYCommitOrderC3
import Derived.Test.YtjmoncfgoaaekaaYCommitOrderC8
import Derived.Test.YtjmoncfgoaaekaaYCommitOrderHRAid
import Derived.Test.YtjmoncfgoaaekaaYCommitOrderMap
namespace Go.Proofs.Ytjmoncfgoaaekaa.J
set_option linter.unusedSimpArgs false
set_option linter.unusedVariables false
open Go Go.RowKit Go.Proofs.YtjmoncfgoaaekaaW.PrintWords Go.Proofs.YtjmoncfgoaaekaaW.PrintLast Go.Proofs.YtjmoncfgoaaekaaW.PrintMore Go.Proofs.Ytjmoncfgoaaekaa.Q Go.Proofs.Ytjmoncfgoaaekaa.Sep Go.Proofs.Ytjmoncfgoaaekaa.Pure
attribute [local go_sem] max2_int min2_int max_two min_two max_three min_three max_four min_four
open Go.Maps
def chapbooklaw14_CommitOrder.f (a0 : Int) (l1 : List Rnd) : Option Bool := some true
theorem keyI : Keyed Try.prog 3 := int_keyed Try.underlying3
theorem zeroI (w : World) : (zeroValue 3).run Try.prog w = .ok (.int .i64 0) w := by kernel_rfl
def Gap (L : List Rnd) : Prop := ∀ x : Int, 0 ≤ x → x < L.length → (rd_T31 L x).f1 = lastOf (rd_T31 L x).f0 (upTo L x) + 1
theorem gap_nil : Gap [] := fun x h0 h1 => by simp at h1; omega
theorem rd_front (L : List Rnd) (r : Rnd) (x : Int) (h0 : 0 ≤ x) (h1 : x < L.length) : rd_T31 (L ++ [r]) x = rd_T31 L x := by
  unfold rd_T31
  rw [List.getD_eq_getElem?_getD, List.getD_eq_getElem?_getD, List.getElem?_append_left (by omega)]
theorem upTo_front (L : List Rnd) (r : Rnd) (x : Int) (h0 : 0 ≤ x) (h1 : x ≤ L.length) : upTo (L ++ [r]) x = upTo L x := by
  unfold upTo
  exact List.take_append_of_le_length (by omega)
theorem rd_end (L : List Rnd) (r : Rnd) : rd_T31 (L ++ [r]) (L.length : Int) = r := by
  unfold rd_T31
  rw [Int.toNat_natCast, List.getD_eq_getElem?_getD, List.getElem?_append_right (Nat.le_refl _), Nat.sub_self]
  rfl
theorem gap_snoc {C : Int} {L : List Rnd} {r : Rnd} (h : Gap L) (he : addE C L r = 0) : Gap (L ++ [r]) := fun x h0 h1 => by
  rw [List.length_append] at h1
  simp only [List.length_cons, List.length_nil] at h1
  by_cases hx : x < L.length
  · rw [rd_front L r x h0 hx, upTo_front L r x h0 (by omega)]
    exact h x h0 hx
  · obtain rfl : x = (L.length : Int) := by omega
    rw [rd_end, upTo_front L r _ h0 (by omega), upTo_all]
    exact (addE_0 he).2.2
def Tally (C : Int) (D : DataW Unit) (M : List Rnd) : Prop := (∀ o : Int, D.atKey (.int .i64 o) (.lit (.int .i64 0)) = .lit (.int .i64 (lastOf o M))) ∧ (∀ kl, Maps.has D kl = true → ∃ o : Int, kl = .int .i64 o ∧ 1 ≤ o ∧ o ≤ C) ∧ IsMap D
theorem tally_nil (C : Int) : Tally C (.map []) [] := ⟨fun o => rfl, fun kl h => by simp [Maps.has] at h, isMap_empty⟩
theorem tally_snoc {C : Int} {D : DataW Unit} {M : List Rnd} {r : Rnd} (h : Tally C D M) (h1 : 1 ≤ r.f0) (h2 : r.f0 ≤ C) : Tally C (D.put (.int .i64 r.f0) (.lit (.int .i64 r.f1))) (M ++ [r]) := by
  refine ⟨fun o => ?_, fun kl hk => ?_, h.2.2.put _ _⟩
  · rw [lastOf_snoc]
    by_cases ho : r.f0 = o
    · subst ho
      rw [if_pos rfl]
      exact atKey_put_same (k := .int .i64 r.f0) h.2.2 trivial _ _
    · rw [if_neg ho, atKey_put_other (fun e => ho (by injection e with _ e; exact e.symm))]
      exact h.1 o
  · by_cases ho : kl = .int .i64 r.f0
    · exact ⟨r.f0, ho, h1, h2⟩
    · rw [has_put_other ho] at hk
      exact h.2.1 kl hk
theorem lit_eq {c d : Int} {x : DataW Unit} (h : x = .lit (.int .i64 c)) (k : x = .lit (.int .i64 d)) : c = d := by
  rw [h] at k
  injection k with k
  injection k with _ k
def OrI (N : Nat → Prop) (w : World) (l0 : List Rnd) (gj : Nat) (C : Int) (i : Value) (wr : World) : Prop := ∃ (x : Int) (L : List Rnd), 0 ≤ x ∧ x ≤ (l0.length : Int) ∧ i = .int .i64 x ∧ Aside0 ((L.length : Int) ≤ x ∧ Good C L ∧ Gap L) ∧ Aside0 (Own N wr [ObjC gj C L]) ∧ Aside0 (KeepS N w wr)
def OrM (N : Nat → Prop) (w : World) (L : List Rnd) (gj gm : Nat) (C : Int) (i : Value) (wr : World) : Prop := ∃ (y : Int) (n : Nat) (D : DataW Unit), 0 ≤ y ∧ y ≤ (L.length : Int) ∧ i = .int .i64 y ∧ Aside0 ((n : Int) ≤ y ∧ Tally C D (upTo L y)) ∧ Aside0 (Own N wr [ObjC gj C L, mp Try.prog 3 (plainElem (H := Unit) Try.prog 3) gm n D]) ∧ Aside0 (KeepS N w wr)
def OrR (N : Nat → Prop) (w : World) (L : List Rnd) (gj gm gr n : Nat) (D : DataW Unit) (C : Int) (wr : World) : Prop := ∃ (left : Lit → Bool) (cnt : Nat), Aside0 (∀ kl, left kl = true → Maps.has D kl = true) ∧ Aside0 (Own N wr [ObjC gj C L, rng Try.prog 3 (plainElem (H := Unit) Try.prog 3) gm gr n D left cnt]) ∧ Aside0 (KeepS N w wr)
set_option maxHeartbeats 16000000 in
set_option maxRecDepth 100000 in
theorem chapbooklaw14_CommitOrder.calls (a0 : Int) (A1 : Option Addr) (c1 : Nat) (l1 : List Rnd) (r : Bool) (w : World) (hr1 : Kd.C k31 w A1 l1.length l1) (hc1 : l1.length ≤ c1) (h : chapbooklaw14_CommitOrder.f a0 l1 = some r) :
    Calls Try.prog 6 #[.int .i64 a0, .slice A1 l1.length c1] w fun e_ w' => e_ = .returned (.bool r) ∧ Below w.heap.size w w' := by
  obtain rfl : true = r := Option.some.inj h
  obtain ⟨A0, eA_⟩ : ∃ A0, A0 = A1 := ⟨_, rfl⟩
  obtain ⟨c0, ec_⟩ : ∃ c0, c0 = c1 := ⟨_, rfl⟩
  obtain ⟨l0, el_⟩ : ∃ l0, l0 = l1 := ⟨_, rfl⟩
  subst eA_
  subst ec_
  subst el_
  have hr0 := hr1
  have hc0 := hc1
  clear hr1 hc1
  obtain ⟨N, hN⟩ : ∃ N : Nat → Prop, N = fun k => k < w.heap.size := ⟨_, rfl⟩
  have HN := Aside0.mk hN
  have HRL0 : Aside0 (Kd.F k31 w N A0 l0.length l0) := ⟨by rw [hN]; exact Kd.C_F heapR hr0⟩
  have HR0 := Aside0.mk hr0
  have HC0 := Aside0.mk hc0
  obtain ⟨C, hC⟩ : ∃ C, C = mn (mx a0 1) 64 := ⟨_, rfl⟩
  have HCE := Aside0.mk hC.symm
  have HCR : Aside0 (1 ≤ C ∧ C ≤ 64) := ⟨by rw [hC]; exact C_range _⟩
  clear hC
  have O0 : Aside0 (Own N w []) := ⟨Own.start_ (fun k hk => by rw [hN] at hk; exact hk)⟩
  have K0 : Aside0 (KeepS N w w) := ⟨KeepS.refl _ _⟩
  clear hN hr0 hc0
  obtain ⟨b, hgr, hgb⟩ := great14_ok l0
  have HGR := Aside0.mk hgr
  have HGB := Aside0.mk hgb
  clear hgr hgb h
  cases b with
  | true =>
    go_enter Try.func6, Try.ntmps6
    go_wp2_with (first | ((with_reducible refine gate_callee (f := 9) rfl ?_); refine goesL_ (some 14) rfl rfl Try.func9 (by kernel_rfl) rfl #[.int .i64 a0] rfl (by (try simp only [List.map_toArray, List.map_cons, List.map_nil]); first | done | rfl) ?_; obtain ⟨N_, on_, nn_, rr_, bb_⟩ := O0.out.frame0; refine (New_n a0 C HCE.out on_).mono ?_; rintro e_ w1 ⟨gj, rfl, oo_, kk_⟩; obtain ⟨o_, k_⟩ := bb_ _ _ kk_ oo_; refine ⟨_, rfl, ?_⟩; have O1 : Aside0 (Own N w1 [ObjC gj C []]) := ⟨o_⟩; have K1 : Aside0 (KeepS N w w1) := ⟨K0.out.trans k_⟩; clear O0 K0; clear o_ k_ oo_ kk_ on_ nn_ rr_ bb_) | ((with_reducible refine gate_callee (f := 11) rfl ?_); refine goesL_ (some 15) rfl rfl Try.func11 (by kernel_rfl) rfl #[] rfl (by (try simp only [List.map_toArray, List.map_cons, List.map_nil]); first | done | rfl) ?_; refine (awake _).mono ?_; rintro e_ w2 ⟨rfl, hb_⟩; refine ⟨_, rfl, ?_⟩; have o_ := O1.out.below hb_; have k_ := KeepS.of_below (N := N) hb_; have O2 : Aside0 (Own N w2 [ObjC gj C []]) := ⟨o_⟩; have K2 : Aside0 (KeepS N w w2) := ⟨K1.out.trans k_⟩; clear O1 K1; clear o_ k_ hb_) | ((with_reducible refine gate_callee (f := 12) rfl ?_); refine gate_guard (by rfl) ?_; refine goesL_ (some 23) rfl rfl Try.func12 (by kernel_rfl) rfl #[.slice A0 l0.length c0] rfl (by (try simp only [List.map_toArray, List.map_cons, List.map_nil]); first | done | rfl) ?_; refine (chapbookref07_GreatAll.calls 300 _ _ l0 true _ (Kd.C_below HR0.out (K2.out.below (Nat.le_refl _) (fun k hk => by rw [HN.out]; exact hk))) HC0.out HGR.out).mono ?_; rintro e_ w3 ⟨rfl, hb_⟩; refine ⟨_, rfl, ?_⟩; have o_ := O2.out.below hb_; have k_ := KeepS.of_below (N := N) hb_; have O3 : Aside0 (Own N w3 [ObjC gj C []]) := ⟨o_⟩; have K3 : Aside0 (KeepS N w w3) := ⟨K2.out.trans k_⟩; clear O2 K2; clear o_ k_ hb_) | ((with_reducible refine gate_callee (f := 11) rfl ?_); refine goesL_ (some 25) rfl rfl Try.func11 (by kernel_rfl) rfl #[] rfl (by (try simp only [List.map_toArray, List.map_cons, List.map_nil]); first | done | rfl) ?_; refine (awake _).mono ?_; rintro e_ w4 ⟨rfl, hb_⟩; refine ⟨_, rfl, ?_⟩; have o_ := O3.out.below hb_; have k_ := KeepS.of_below (N := N) hb_; have O4 : Aside0 (Own N w4 [ObjC gj C []]) := ⟨o_⟩; have K4 : Aside0 (KeepS N w w4) := ⟨K3.out.trans k_⟩; clear O3 K3; clear o_ k_ hb_))
    go_ret
    exact ⟨rfl, K4.out.below (Nat.le_refl _) (fun k hk => by rw [HN.out]; exact hk)⟩
  | false =>
    obtain ⟨hl40, hl20⟩ := HGB.out rfl
    have HL40 := Aside0.mk hl40
    have HL20 := Aside0.mk hl20
    clear hl40 hl20 HGB
    go_enter Try.func6, Try.ntmps6
    go_wp2_with (first | ((with_reducible refine gate_callee (f := 9) rfl ?_); refine goesL_ (some 14) rfl rfl Try.func9 (by kernel_rfl) rfl #[.int .i64 a0] rfl (by (try simp only [List.map_toArray, List.map_cons, List.map_nil]); first | done | rfl) ?_; obtain ⟨N_, on_, nn_, rr_, bb_⟩ := O0.out.frame0; refine (New_n a0 C HCE.out on_).mono ?_; rintro e_ w1 ⟨gj, rfl, oo_, kk_⟩; obtain ⟨o_, k_⟩ := bb_ _ _ kk_ oo_; refine ⟨_, rfl, ?_⟩; have O1 : Aside0 (Own N w1 [ObjC gj C []]) := ⟨o_⟩; have K1 : Aside0 (KeepS N w w1) := ⟨K0.out.trans k_⟩; clear O0 K0; clear o_ k_ oo_ kk_ on_ nn_ rr_ bb_) | ((with_reducible refine gate_callee (f := 11) rfl ?_); refine goesL_ (some 15) rfl rfl Try.func11 (by kernel_rfl) rfl #[] rfl (by (try simp only [List.map_toArray, List.map_cons, List.map_nil]); first | done | rfl) ?_; refine (awake _).mono ?_; rintro e_ w2 ⟨rfl, hb_⟩; refine ⟨_, rfl, ?_⟩; have o_ := O1.out.below hb_; have k_ := KeepS.of_below (N := N) hb_; have O2 : Aside0 (Own N w2 [ObjC gj C []]) := ⟨o_⟩; have K2 : Aside0 (KeepS N w w2) := ⟨K1.out.trans k_⟩; clear O1 K1; clear o_ k_ hb_) | ((with_reducible refine gate_callee (f := 12) rfl ?_); refine gate_guard (by rfl) ?_; refine goesL_ (some 23) rfl rfl Try.func12 (by kernel_rfl) rfl #[.slice A0 l0.length c0] rfl (by (try simp only [List.map_toArray, List.map_cons, List.map_nil]); first | done | rfl) ?_; refine (chapbookref07_GreatAll.calls 300 _ _ l0 false _ (Kd.C_below HR0.out (K2.out.below (Nat.le_refl _) (fun k hk => by rw [HN.out]; exact hk))) HC0.out HGR.out).mono ?_; rintro e_ w3 ⟨rfl, hb_⟩; refine ⟨_, rfl, ?_⟩; have o_ := O2.out.below hb_; have k_ := KeepS.of_below (N := N) hb_; have O3 : Aside0 (Own N w3 [ObjC gj C []]) := ⟨o_⟩; have K3 : Aside0 (KeepS N w w3) := ⟨K2.out.trans k_⟩; clear O2 K2; clear o_ k_ hb_))
    go_loopw [28] (fun i wr => OrI N w l0 gj C i wr) (fun i _ => l0.length - (intOf i).toNat)
    case atStart => exact ⟨0, [], by omega, by omega, rfl, ⟨by decide, good_nil _, gap_nil⟩, O3, K3⟩
    case round =>
      obtain ⟨x, L, hx0, hx1, rfl, HI, OA, KA⟩ := hrel
      have hF2 := keepF HRL0.out KA.out
      have hLx := HL40.out
      have HLL : Aside0 (L.length ≤ 1000000) := ⟨by have := HI.out.1; omega⟩
      by_cases hlt : x < (l0.length : Int)
      · obtain ⟨ad, A3, c3, e3, x0, x1, x2, hl3, hF3⟩ := at_F hF2 x hx0 hlt
        cases e3
        have HC3 := Aside0.mk hl3
        have HF3 := Aside0.mk hF3
        have hs2 : wrap64 (x + 1) = x + 1 := by unfold wrap64; omega
        have hp := eq_true hx0
        have hq := eq_true hlt
        have hd : decide (x < (l0.length : Int)) = true := decide_eq_true hlt
        have HX := Aside0.mk (And.intro hx0 hlt)
        have HU : Aside0 ((rd_T31 l0 x).f2.length ≤ 1000000) := ⟨Nat.le_trans (HL20.out x hx0 hlt) (by decide)⟩
        clear hF3 hF2 hl3
        have O4 : Aside0 (Own N wr [ObjC gj C L]) := ⟨OA.out⟩
        have K4 : Aside0 (KeepS N w wr) := ⟨KA.out⟩
        have HRI_4 : Aside0 (Kd.F k47 wr N A3 (rd_T31 l0 x).f2.length (rd_T31 l0 x).f2) := ⟨HF3.out⟩
        clear OA KA HF3
        by_cases he : addE C L (rd_T31 l0 x) = 0
        · have HE := Aside0.mk he
          clear he hlt hx0 hx1
          go_wp2_with (first | ((with_reducible refine gate_dst (N := 7) rfl ?_); refine own_box rfl (D := 7) rfl (cs := #[.int .i64 0, .int .i64 0, .slice none 0 0]) (t := 31) ?hr O4.out ?_; (case hr => first | (go_simp; done) | (go_simp; rfl)); intro gx w5 o_ k_; have O5 : Aside0 (Own N w5 [ObjC gj C L, cells gx #[.int .i64 0, .int .i64 0, .slice none 0 0] 31]) := ⟨o_⟩; have K5 : Aside0 (KeepS N w w5) := ⟨K4.out.trans k_⟩; have HRI_5 : Aside0 (Kd.F k47 w5 N A3 (rd_T31 l0 x).f2.length (rd_T31 l0 x).f2) := ⟨keepF HRI_4.out k_⟩; clear O4 K4 HRI_4; have c5_1_0 : w5.cell? ⟨gx, 0, none⟩ = some (.int .i64 0) := (blk_cell (O5.out.blk (i := 1) rfl) 0).trans rfl; have f5_1_0 : w5.frozen? ⟨gx, 0, none⟩ = false := blk_frozen (O5.out.blk (i := 1) rfl) 0; have c5_1_1 : w5.cell? ⟨gx, 1, none⟩ = some (.int .i64 0) := (blk_cell (O5.out.blk (i := 1) rfl) 1).trans rfl; have f5_1_1 : w5.frozen? ⟨gx, 1, none⟩ = false := blk_frozen (O5.out.blk (i := 1) rfl) 1; have c5_1_2 : w5.cell? ⟨gx, 2, none⟩ = some (.slice none 0 0) := (blk_cell (O5.out.blk (i := 1) rfl) 2).trans rfl; have f5_1_2 : w5.frozen? ⟨gx, 2, none⟩ = false := blk_frozen (O5.out.blk (i := 1) rfl) 2; clear o_ k_) | ((with_reducible refine gate_store (t := 31) (p := 7) rfl ?_); refine own_store rfl rfl rfl (w1 := (World.setCell (World.setCell (World.setCell w5 ⟨gx, 0, none⟩ (.int .i64 (rd_T31 l0 x).f0)) ⟨gx, 1, none⟩ (.int .i64 (rd_T31 l0 x).f1)) ⟨gx, 2, none⟩ (.slice A3 (rd_T31 l0 x).f2.length c3))) (N := N) (l' := [ObjC gj C L, cells gx #[.int .i64 (rd_T31 l0 x).f0, .int .i64 (rd_T31 l0 x).f1, .slice A3 (rd_T31 l0 x).f2.length c3] 31]) ?hr ?ho ?hk ?_; (case hr => first | (go_simp; done) | (go_simp; rfl)); (case ho => exact (((O5.out.set (i := 1) rfl 0 (.int .i64 (rd_T31 l0 x).f0)).set (i := 1) rfl 1 (.int .i64 (rd_T31 l0 x).f1)).set (i := 1) rfl 2 (.slice A3 (rd_T31 l0 x).f2.length c3))); (case hk => exact (((KeepS.setCell (O5.out.far (i := 1) rfl) (.int .i64 (rd_T31 l0 x).f0)).trans (KeepS.setCell (O5.out.far (i := 1) rfl) (.int .i64 (rd_T31 l0 x).f1))).trans (KeepS.setCell (O5.out.far (i := 1) rfl) (.slice A3 (rd_T31 l0 x).f2.length c3)))); intro w6 o_ k_; have O6 : Aside0 (Own N w6 [ObjC gj C L, cells gx #[.int .i64 (rd_T31 l0 x).f0, .int .i64 (rd_T31 l0 x).f1, .slice A3 (rd_T31 l0 x).f2.length c3] 31]) := ⟨o_⟩; have K6 : Aside0 (KeepS N w w6) := ⟨K5.out.trans k_⟩; have HRI_6 : Aside0 (Kd.F k47 w6 N A3 (rd_T31 l0 x).f2.length (rd_T31 l0 x).f2) := ⟨keepF HRI_5.out k_⟩; clear c5_1_0 f5_1_0 c5_1_1 f5_1_1 c5_1_2 f5_1_2 O5 K5 HRI_5; have c6_1_0 : w6.cell? ⟨gx, 0, none⟩ = some (.int .i64 (rd_T31 l0 x).f0) := (blk_cell (O6.out.blk (i := 1) rfl) 0).trans rfl; have f6_1_0 : w6.frozen? ⟨gx, 0, none⟩ = false := blk_frozen (O6.out.blk (i := 1) rfl) 0; have c6_1_1 : w6.cell? ⟨gx, 1, none⟩ = some (.int .i64 (rd_T31 l0 x).f1) := (blk_cell (O6.out.blk (i := 1) rfl) 1).trans rfl; have f6_1_1 : w6.frozen? ⟨gx, 1, none⟩ = false := blk_frozen (O6.out.blk (i := 1) rfl) 1; have c6_1_2 : w6.cell? ⟨gx, 2, none⟩ = some (.slice A3 (rd_T31 l0 x).f2.length c3) := (blk_cell (O6.out.blk (i := 1) rfl) 2).trans rfl; have f6_1_2 : w6.frozen? ⟨gx, 2, none⟩ = false := blk_frozen (O6.out.blk (i := 1) rfl) 2; clear o_ k_) | ((with_reducible refine gate_callee (f := 13) rfl ?_); refine goesL_ (some 34) rfl rfl Try.func13 (by kernel_rfl) rfl #[.pointer (some ⟨gj, 0, none⟩), .agg #[.int .i64 (rd_T31 l0 x).f0, .int .i64 (rd_T31 l0 x).f1, .slice A3 (rd_T31 l0 x).f2.length c3]] rfl (by (try simp only [List.map_toArray, List.map_cons, List.map_nil]); first | done | rfl) ?_; obtain ⟨N_, on_, nn_, rr_, bb_⟩ := O6.out.frame1 (i := 0) rfl; have hr_ := Kd.F_mono HRI_6.out nn_; refine (Add_y A3 c3 (rd_T31 l0 x).f0 (rd_T31 l0 x).f1 (rd_T31 l0 x).f2 on_ hr_ HC3.out HLL.out HU.out HI.out.2.1 HE.out).mono ?_; rintro e_ w7 ⟨rfl, oo_, kk_⟩; obtain ⟨o_, k_⟩ := bb_ _ _ _ kk_ oo_; refine ⟨_, rfl, ?_⟩; have O7 : Aside0 (Own N w7 [ObjC gj C (L ++ [(rd_T31 l0 x)]), cells gx #[.int .i64 (rd_T31 l0 x).f0, .int .i64 (rd_T31 l0 x).f1, .slice A3 (rd_T31 l0 x).f2.length c3] 31]) := ⟨o_⟩; have K7 : Aside0 (KeepS N w w7) := ⟨K6.out.trans k_⟩; have HRI_7 : Aside0 (Kd.F k47 w7 N A3 (rd_T31 l0 x).f2.length (rd_T31 l0 x).f2) := ⟨keepF HRI_6.out k_⟩; clear c6_1_0 f6_1_0 c6_1_1 f6_1_1 c6_1_2 f6_1_2 O6 K6 HRI_6; have c7_1_0 : w7.cell? ⟨gx, 0, none⟩ = some (.int .i64 (rd_T31 l0 x).f0) := (blk_cell (O7.out.blk (i := 1) rfl) 0).trans rfl; have f7_1_0 : w7.frozen? ⟨gx, 0, none⟩ = false := blk_frozen (O7.out.blk (i := 1) rfl) 0; have c7_1_1 : w7.cell? ⟨gx, 1, none⟩ = some (.int .i64 (rd_T31 l0 x).f1) := (blk_cell (O7.out.blk (i := 1) rfl) 1).trans rfl; have f7_1_1 : w7.frozen? ⟨gx, 1, none⟩ = false := blk_frozen (O7.out.blk (i := 1) rfl) 1; have c7_1_2 : w7.cell? ⟨gx, 2, none⟩ = some (.slice A3 (rd_T31 l0 x).f2.length c3) := (blk_cell (O7.out.blk (i := 1) rfl) 2).trans rfl; have f7_1_2 : w7.frozen? ⟨gx, 2, none⟩ = false := blk_frozen (O7.out.blk (i := 1) rfl) 2; clear o_ k_ oo_ kk_ on_ nn_ rr_ bb_ hr_))
          go_roundw
          case rel => exact ⟨x + 1, (L ++ [(rd_T31 l0 x)]), by have := HX.out; omega, by have := HX.out; omega, int_eq (by unfold wrap64; have := HX.out; have := HL40.out; omega), ⟨by have := HI.out.1; have := HX.out; simp; omega, good_snoc HI.out.2.1 HE.out, gap_snoc HI.out.2.2 HE.out⟩, ⟨O7.out.pick1 (a := 0) rfl⟩, K7⟩
          case measure => have := HX.out; simp [intOf]; omega
        · have HE := Aside0.mk he
          obtain ⟨E, hE⟩ : ∃ E, E = addE C L (rd_T31 l0 x) := ⟨_, rfl⟩
          have HE2 := Aside0.mk hE.symm
          have HE3 : Aside0 (E ≠ 0) := ⟨by rw [hE]; exact he⟩
          clear hE
          clear he hlt hx0 hx1
          go_wp2_with (first | ((with_reducible refine gate_dst (N := 7) rfl ?_); refine own_box rfl (D := 7) rfl (cs := #[.int .i64 0, .int .i64 0, .slice none 0 0]) (t := 31) ?hr O4.out ?_; (case hr => first | (go_simp; done) | (go_simp; rfl)); intro gx w5 o_ k_; have O5 : Aside0 (Own N w5 [ObjC gj C L, cells gx #[.int .i64 0, .int .i64 0, .slice none 0 0] 31]) := ⟨o_⟩; have K5 : Aside0 (KeepS N w w5) := ⟨K4.out.trans k_⟩; have HRI_5 : Aside0 (Kd.F k47 w5 N A3 (rd_T31 l0 x).f2.length (rd_T31 l0 x).f2) := ⟨keepF HRI_4.out k_⟩; clear O4 K4 HRI_4; have c5_1_0 : w5.cell? ⟨gx, 0, none⟩ = some (.int .i64 0) := (blk_cell (O5.out.blk (i := 1) rfl) 0).trans rfl; have f5_1_0 : w5.frozen? ⟨gx, 0, none⟩ = false := blk_frozen (O5.out.blk (i := 1) rfl) 0; have c5_1_1 : w5.cell? ⟨gx, 1, none⟩ = some (.int .i64 0) := (blk_cell (O5.out.blk (i := 1) rfl) 1).trans rfl; have f5_1_1 : w5.frozen? ⟨gx, 1, none⟩ = false := blk_frozen (O5.out.blk (i := 1) rfl) 1; have c5_1_2 : w5.cell? ⟨gx, 2, none⟩ = some (.slice none 0 0) := (blk_cell (O5.out.blk (i := 1) rfl) 2).trans rfl; have f5_1_2 : w5.frozen? ⟨gx, 2, none⟩ = false := blk_frozen (O5.out.blk (i := 1) rfl) 2; clear o_ k_) | ((with_reducible refine gate_store (t := 31) (p := 7) rfl ?_); refine own_store rfl rfl rfl (w1 := (World.setCell (World.setCell (World.setCell w5 ⟨gx, 0, none⟩ (.int .i64 (rd_T31 l0 x).f0)) ⟨gx, 1, none⟩ (.int .i64 (rd_T31 l0 x).f1)) ⟨gx, 2, none⟩ (.slice A3 (rd_T31 l0 x).f2.length c3))) (N := N) (l' := [ObjC gj C L, cells gx #[.int .i64 (rd_T31 l0 x).f0, .int .i64 (rd_T31 l0 x).f1, .slice A3 (rd_T31 l0 x).f2.length c3] 31]) ?hr ?ho ?hk ?_; (case hr => first | (go_simp; done) | (go_simp; rfl)); (case ho => exact (((O5.out.set (i := 1) rfl 0 (.int .i64 (rd_T31 l0 x).f0)).set (i := 1) rfl 1 (.int .i64 (rd_T31 l0 x).f1)).set (i := 1) rfl 2 (.slice A3 (rd_T31 l0 x).f2.length c3))); (case hk => exact (((KeepS.setCell (O5.out.far (i := 1) rfl) (.int .i64 (rd_T31 l0 x).f0)).trans (KeepS.setCell (O5.out.far (i := 1) rfl) (.int .i64 (rd_T31 l0 x).f1))).trans (KeepS.setCell (O5.out.far (i := 1) rfl) (.slice A3 (rd_T31 l0 x).f2.length c3)))); intro w6 o_ k_; have O6 : Aside0 (Own N w6 [ObjC gj C L, cells gx #[.int .i64 (rd_T31 l0 x).f0, .int .i64 (rd_T31 l0 x).f1, .slice A3 (rd_T31 l0 x).f2.length c3] 31]) := ⟨o_⟩; have K6 : Aside0 (KeepS N w w6) := ⟨K5.out.trans k_⟩; have HRI_6 : Aside0 (Kd.F k47 w6 N A3 (rd_T31 l0 x).f2.length (rd_T31 l0 x).f2) := ⟨keepF HRI_5.out k_⟩; clear c5_1_0 f5_1_0 c5_1_1 f5_1_1 c5_1_2 f5_1_2 O5 K5 HRI_5; have c6_1_0 : w6.cell? ⟨gx, 0, none⟩ = some (.int .i64 (rd_T31 l0 x).f0) := (blk_cell (O6.out.blk (i := 1) rfl) 0).trans rfl; have f6_1_0 : w6.frozen? ⟨gx, 0, none⟩ = false := blk_frozen (O6.out.blk (i := 1) rfl) 0; have c6_1_1 : w6.cell? ⟨gx, 1, none⟩ = some (.int .i64 (rd_T31 l0 x).f1) := (blk_cell (O6.out.blk (i := 1) rfl) 1).trans rfl; have f6_1_1 : w6.frozen? ⟨gx, 1, none⟩ = false := blk_frozen (O6.out.blk (i := 1) rfl) 1; have c6_1_2 : w6.cell? ⟨gx, 2, none⟩ = some (.slice A3 (rd_T31 l0 x).f2.length c3) := (blk_cell (O6.out.blk (i := 1) rfl) 2).trans rfl; have f6_1_2 : w6.frozen? ⟨gx, 2, none⟩ = false := blk_frozen (O6.out.blk (i := 1) rfl) 2; clear o_ k_) | ((with_reducible refine gate_callee (f := 13) rfl ?_); refine goesL_ (some 34) rfl rfl Try.func13 (by kernel_rfl) rfl #[.pointer (some ⟨gj, 0, none⟩), .agg #[.int .i64 (rd_T31 l0 x).f0, .int .i64 (rd_T31 l0 x).f1, .slice A3 (rd_T31 l0 x).f2.length c3]] rfl (by (try simp only [List.map_toArray, List.map_cons, List.map_nil]); first | done | rfl) ?_; obtain ⟨N_, on_, nn_, rr_, bb_⟩ := O6.out.frame1 (i := 0) rfl; have hr_ := Kd.F_mono HRI_6.out nn_; refine (Add_n A3 c3 (rd_T31 l0 x).f0 (rd_T31 l0 x).f1 (rd_T31 l0 x).f2 on_ hr_ HC3.out HLL.out HU.out HI.out.2.1 E HE2.out HE3.out).mono ?_; rintro e_ w7 ⟨rfl, oo_, kk_⟩; obtain ⟨o_, k_⟩ := bb_ _ _ _ kk_ oo_; refine ⟨_, rfl, ?_⟩; have O7 : Aside0 (Own N w7 [ObjC gj C L, cells gx #[.int .i64 (rd_T31 l0 x).f0, .int .i64 (rd_T31 l0 x).f1, .slice A3 (rd_T31 l0 x).f2.length c3] 31]) := ⟨o_⟩; have K7 : Aside0 (KeepS N w w7) := ⟨K6.out.trans k_⟩; have HRI_7 : Aside0 (Kd.F k47 w7 N A3 (rd_T31 l0 x).f2.length (rd_T31 l0 x).f2) := ⟨keepF HRI_6.out k_⟩; clear c6_1_0 f6_1_0 c6_1_1 f6_1_1 c6_1_2 f6_1_2 O6 K6 HRI_6; have c7_1_0 : w7.cell? ⟨gx, 0, none⟩ = some (.int .i64 (rd_T31 l0 x).f0) := (blk_cell (O7.out.blk (i := 1) rfl) 0).trans rfl; have f7_1_0 : w7.frozen? ⟨gx, 0, none⟩ = false := blk_frozen (O7.out.blk (i := 1) rfl) 0; have c7_1_1 : w7.cell? ⟨gx, 1, none⟩ = some (.int .i64 (rd_T31 l0 x).f1) := (blk_cell (O7.out.blk (i := 1) rfl) 1).trans rfl; have f7_1_1 : w7.frozen? ⟨gx, 1, none⟩ = false := blk_frozen (O7.out.blk (i := 1) rfl) 1; have c7_1_2 : w7.cell? ⟨gx, 2, none⟩ = some (.slice A3 (rd_T31 l0 x).f2.length c3) := (blk_cell (O7.out.blk (i := 1) rfl) 2).trans rfl; have f7_1_2 : w7.frozen? ⟨gx, 2, none⟩ = false := blk_frozen (O7.out.blk (i := 1) rfl) 2; clear o_ k_ oo_ kk_ on_ nn_ rr_ bb_ hr_))
          go_roundw
          case rel => exact ⟨x + 1, L, by have := HX.out; omega, by have := HX.out; omega, int_eq (by unfold wrap64; have := HX.out; have := HL40.out; omega), ⟨by have := HI.out.1; omega, HI.out.2⟩, ⟨O7.out.pick1 (a := 0) rfl⟩, K7⟩
          case measure => have := HX.out; simp [intOf]; omega
      · have hxe : x = (l0.length : Int) := by omega
        subst hxe
        have hd : decide ((l0.length : Int) < (l0.length : Int)) = false := decide_eq_false (Int.lt_irrefl _)
        clear hlt hx0 hx1 hF2 hLx
        have O5 : Aside0 (Own N wr [ObjC gj C L]) := ⟨OA.out⟩
        have K5 : Aside0 (KeepS N w wr) := ⟨KA.out⟩
        clear OA KA
        go_wp2_with (first | ((with_reducible refine gate_dst (N := 36) rfl ?_); refine own_map Try.prog 3 (plainElem (H := Unit) Try.prog 3) rfl (T := 36) rfl ?hr O5.out ?_; (case hr => first | rfl | (go_simp; done) | (go_simp; rfl)); intro gm w6 o_ k_; have O6 : Aside0 (Own N w6 [ObjC gj C L, mp Try.prog 3 (plainElem (H := Unit) Try.prog 3) gm 0 (.map [])]) := ⟨o_⟩; have K6 : Aside0 (KeepS N w w6) := ⟨K5.out.trans k_⟩; clear O5 K5; clear o_ k_) | ((with_reducible refine gate_callee (f := 17) rfl ?_); refine goesL_ (some 38) rfl rfl Try.func17 (by kernel_rfl) rfl #[.pointer (some ⟨gj, 0, none⟩)] rfl (by (try simp only [List.map_toArray, List.map_cons, List.map_nil]); first | done | rfl) ?_; obtain ⟨N_, on_, nn_, rr_, bb_⟩ := O6.out.frame1 (i := 0) rfl; refine (All_g on_ HLL.out HI.out.2.1).mono ?_; rintro e_ w7 ⟨B6, d6, rfl, oo_, kk_⟩; obtain ⟨o_, k_⟩ := bb_ _ _ _ kk_ oo_; refine ⟨_, rfl, ?_⟩; have O7 : Aside0 (Own N w7 [ObjC gj C L, mp Try.prog 3 (plainElem (H := Unit) Try.prog 3) gm 0 (.map []), nrow k31 31 (.slice B6 L.length d6) L]) := ⟨o_⟩; have K7 : Aside0 (KeepS N w w7) := ⟨K6.out.trans k_⟩; clear O6 K6; clear o_ k_ oo_ kk_ on_ nn_ rr_ bb_))
        obtain ⟨N1, h3, hn1, hF, hback⟩ := O7.out.hide (i := 2) rfl
        have HN1 := Aside0.mk hn1
        have HRM : Aside0 (Kd.F k31 w7 N1 B6 L.length L) := ⟨Kd.N_F hF⟩
        clear hn1 hF hback
        have KW := K7
        clear O7 K7
        have O9 : Aside0 (Own N1 w7 [ObjC gj C L, mp Try.prog 3 (plainElem (H := Unit) Try.prog 3) gm 0 (.map [])]) := ⟨h3.take 2⟩
        clear h3
        go_loopw [40] (fun i wr => OrM N1 w7 L gj gm C i wr) (fun i _ => L.length - (intOf i).toNat)
        case atStart => exact ⟨0, 0, .map [], by omega, by omega, rfl, ⟨by omega, tally_nil C⟩, O9, ⟨KeepS.refl _ _⟩⟩
        case round =>
          obtain ⟨y, n, D, hy0, hy1, rfl, HJ, OB, KB⟩ := hrel
          have hF2 := keepF HRM.out KB.out
          have hll := HLL.out
          by_cases hly : y < (L.length : Int)
          · obtain ⟨ad, A3, c3, e3, x0, x1, x2, hl3, hF3⟩ := at_F hF2 y hy0 hly
            cases e3
            have hs2 : wrap64 (y + 1) = y + 1 := by unfold wrap64; omega
            have hp := eq_true hy0
            have hq := eq_true hly
            have hd2 : decide (y < (L.length : Int)) = true := decide_eq_true hly
            have HY := Aside0.mk (And.intro hy0 hly)
            have hgood := HI.out.2.1 _ (mem_rd hy0 hly)
            have hm1 := may_1 hgood.1
            have hgap := HI.out.2.2 y hy0 hly
            obtain ⟨p, hpp⟩ : ∃ p, p = lastOf (rd_T31 L y).f0 (upTo L y) := ⟨_, rfl⟩
            rw [← hpp] at hgap
            have HP := Aside0.mk hpp
            have hw1 : IntKind.i64.wrap (p + 1) = (rd_T31 L y).f1 := by rw [IntKind.wrap_i64]; omega
            have hw2 : wrap64 (p + 1) = (rd_T31 L y).f1 := by unfold wrap64; omega
            have hbb : ((rd_T31 L y).f1 != (rd_T31 L y).f1) = false := by simp
            have HK1 : Aside0 ((Lit.int .i64 (rd_T31 L y).f0).wf = true) := ⟨WalkArith.wf_i64 (by omega)⟩
            have HK2 : Aside0 ((Lit.int .i64 (rd_T31 L y).f1).wf = true) := ⟨WalkArith.wf_i64 (by omega)⟩
            have HTS : Aside0 (Tally C (D.put (.int .i64 (rd_T31 L y).f0) (.lit (.int .i64 (rd_T31 L y).f1))) (upTo L (y + 1))) := ⟨by rw [upTo_snoc L y hy0 hly]; exact tally_snoc HJ.out.2 hm1.1 hgood.2⟩
            have HNM : Aside0 (n < maxLen) := ⟨by have := HJ.out.1; unfold maxLen; omega⟩
            clear hgood hm1 hgap hpp hF2 hF3 hl3 hll hy0 hy1 hly
            have O9 : Aside0 (Own N1 wr [ObjC gj C L, mp Try.prog 3 (plainElem (H := Unit) Try.prog 3) gm n D]) := ⟨OB.out⟩
            have K9 : Aside0 (KeepS N1 w7 wr) := ⟨KB.out⟩
            clear OB KB
            go_wp2_with (first | ((with_reducible refine gate_dst (N := 10) rfl ?_); refine own_box rfl (D := 10) rfl (cs := #[.int .i64 0, .int .i64 0, .slice none 0 0]) (t := 31) ?hr O9.out ?_; (case hr => first | (go_simp; done) | (go_simp; rfl)); intro gy w10 o_ k_; have O10 : Aside0 (Own N1 w10 [ObjC gj C L, mp Try.prog 3 (plainElem (H := Unit) Try.prog 3) gm n D, cells gy #[.int .i64 0, .int .i64 0, .slice none 0 0] 31]) := ⟨o_⟩; have K10 : Aside0 (KeepS N1 w7 w10) := ⟨K9.out.trans k_⟩; clear O9 K9; have c10_2_0 : w10.cell? ⟨gy, 0, none⟩ = some (.int .i64 0) := (blk_cell (O10.out.blk (i := 2) rfl) 0).trans rfl; have f10_2_0 : w10.frozen? ⟨gy, 0, none⟩ = false := blk_frozen (O10.out.blk (i := 2) rfl) 0; have c10_2_1 : w10.cell? ⟨gy, 1, none⟩ = some (.int .i64 0) := (blk_cell (O10.out.blk (i := 2) rfl) 1).trans rfl; have f10_2_1 : w10.frozen? ⟨gy, 1, none⟩ = false := blk_frozen (O10.out.blk (i := 2) rfl) 1; have c10_2_2 : w10.cell? ⟨gy, 2, none⟩ = some (.slice none 0 0) := (blk_cell (O10.out.blk (i := 2) rfl) 2).trans rfl; have f10_2_2 : w10.frozen? ⟨gy, 2, none⟩ = false := blk_frozen (O10.out.blk (i := 2) rfl) 2; clear o_ k_) | ((with_reducible refine gate_store (t := 31) (p := 10) rfl ?_); refine own_store rfl rfl rfl (w1 := (World.setCell (World.setCell (World.setCell w10 ⟨gy, 0, none⟩ (.int .i64 (rd_T31 L y).f0)) ⟨gy, 1, none⟩ (.int .i64 (rd_T31 L y).f1)) ⟨gy, 2, none⟩ (.slice A3 (rd_T31 L y).f2.length c3))) (N := N1) (l' := [ObjC gj C L, mp Try.prog 3 (plainElem (H := Unit) Try.prog 3) gm n D, cells gy #[.int .i64 (rd_T31 L y).f0, .int .i64 (rd_T31 L y).f1, .slice A3 (rd_T31 L y).f2.length c3] 31]) ?hr ?ho ?hk ?_; (case hr => first | (go_simp; done) | (go_simp; rfl)); (case ho => exact (((O10.out.set (i := 2) rfl 0 (.int .i64 (rd_T31 L y).f0)).set (i := 2) rfl 1 (.int .i64 (rd_T31 L y).f1)).set (i := 2) rfl 2 (.slice A3 (rd_T31 L y).f2.length c3))); (case hk => exact (((KeepS.setCell (O10.out.far (i := 2) rfl) (.int .i64 (rd_T31 L y).f0)).trans (KeepS.setCell (O10.out.far (i := 2) rfl) (.int .i64 (rd_T31 L y).f1))).trans (KeepS.setCell (O10.out.far (i := 2) rfl) (.slice A3 (rd_T31 L y).f2.length c3)))); intro w11 o_ k_; have O11 : Aside0 (Own N1 w11 [ObjC gj C L, mp Try.prog 3 (plainElem (H := Unit) Try.prog 3) gm n D, cells gy #[.int .i64 (rd_T31 L y).f0, .int .i64 (rd_T31 L y).f1, .slice A3 (rd_T31 L y).f2.length c3] 31]) := ⟨o_⟩; have K11 : Aside0 (KeepS N1 w7 w11) := ⟨K10.out.trans k_⟩; clear c10_2_0 f10_2_0 c10_2_1 f10_2_1 c10_2_2 f10_2_2 O10 K10; have c11_2_0 : w11.cell? ⟨gy, 0, none⟩ = some (.int .i64 (rd_T31 L y).f0) := (blk_cell (O11.out.blk (i := 2) rfl) 0).trans rfl; have f11_2_0 : w11.frozen? ⟨gy, 0, none⟩ = false := blk_frozen (O11.out.blk (i := 2) rfl) 0; have c11_2_1 : w11.cell? ⟨gy, 1, none⟩ = some (.int .i64 (rd_T31 L y).f1) := (blk_cell (O11.out.blk (i := 2) rfl) 1).trans rfl; have f11_2_1 : w11.frozen? ⟨gy, 1, none⟩ = false := blk_frozen (O11.out.blk (i := 2) rfl) 1; have c11_2_2 : w11.cell? ⟨gy, 2, none⟩ = some (.slice A3 (rd_T31 L y).f2.length c3) := (blk_cell (O11.out.blk (i := 2) rfl) 2).trans rfl; have f11_2_2 : w11.frozen? ⟨gy, 2, none⟩ = false := blk_frozen (O11.out.blk (i := 2) rfl) 2; clear o_ k_) | ((with_reducible refine gate_dst (N := 47) rfl ?_); refine wpList_lookup_own_int _ rfl _ _ 49 rfl 3 3 .i64 keyI Try.underlying49 Try.underlying3 (zeroI _) gm n D rfl (O11.out.map (i := 1) rfl) (.int .i64 (rd_T31 L y).f0) (.int .i64 (rd_T31 L y).f0) rfl (keyOf_int_mk Try.underlying3 HK1.out) ?_; intro c_ hat_ hwc_; obtain rfl : c_ = p := (lit_eq hat_ (HJ.out.2.1 _)).trans HP.out.symm; clear hat_ hwc_) | (at_mapUpdate; refine wpList_mapUpdate_own _ rfl _ _ _ 49 rfl 3 3 keyI Try.underlying49 _ gm n D rfl (O11.out.map (i := 1) rfl) HNM.out (.int .i64 (rd_T31 L y).f0) (.int .i64 (rd_T31 L y).f1) (.int .i64 (rd_T31 L y).f0) rfl rfl (keyOf_int_mk Try.underlying3 HK1.out) (.lit (.int .i64 (rd_T31 L y).f1)) [] (plainElem_int Try.underlying3 HK2.out) ?_; intro w12 hown_ hg_; obtain ⟨o_, k_⟩ := O11.out.mapset (i := 1) rfl hown_ hg_; have O12 : Aside0 (Own N1 w12 [ObjC gj C L, mp Try.prog 3 (plainElem (H := Unit) Try.prog 3) gm (n + 1) (D.put (.int .i64 (rd_T31 L y).f0) (.lit (.int .i64 (rd_T31 L y).f1))), cells gy #[.int .i64 (rd_T31 L y).f0, .int .i64 (rd_T31 L y).f1, .slice A3 (rd_T31 L y).f2.length c3] 31]) := ⟨o_⟩; have K12 : Aside0 (KeepS N1 w7 w12) := ⟨K11.out.trans k_⟩; clear c11_2_0 f11_2_0 c11_2_1 f11_2_1 c11_2_2 f11_2_2 O11 K11; have c12_2_0 : w12.cell? ⟨gy, 0, none⟩ = some (.int .i64 (rd_T31 L y).f0) := (blk_cell (O12.out.blk (i := 2) rfl) 0).trans rfl; have f12_2_0 : w12.frozen? ⟨gy, 0, none⟩ = false := blk_frozen (O12.out.blk (i := 2) rfl) 0; have c12_2_1 : w12.cell? ⟨gy, 1, none⟩ = some (.int .i64 (rd_T31 L y).f1) := (blk_cell (O12.out.blk (i := 2) rfl) 1).trans rfl; have f12_2_1 : w12.frozen? ⟨gy, 1, none⟩ = false := blk_frozen (O12.out.blk (i := 2) rfl) 1; have c12_2_2 : w12.cell? ⟨gy, 2, none⟩ = some (.slice A3 (rd_T31 L y).f2.length c3) := (blk_cell (O12.out.blk (i := 2) rfl) 2).trans rfl; have f12_2_2 : w12.frozen? ⟨gy, 2, none⟩ = false := blk_frozen (O12.out.blk (i := 2) rfl) 2; clear o_ k_ hown_ hg_) | ((with_reducible refine gate_dst (N := 54) rfl ?_); refine wpList_lookup_own_int _ rfl _ _ 49 rfl 3 3 .i64 keyI Try.underlying49 Try.underlying3 (zeroI _) gm (n + 1) (D.put (.int .i64 (rd_T31 L y).f0) (.lit (.int .i64 (rd_T31 L y).f1))) rfl (O12.out.map (i := 1) rfl) (.int .i64 (rd_T31 L y).f0) (.int .i64 (rd_T31 L y).f0) rfl (keyOf_int_mk Try.underlying3 HK1.out) ?_; intro c_ hat_ hwc_; obtain rfl : c_ = (rd_T31 L y).f1 := lit_eq hat_ (atKey_put_same (k := .int .i64 (rd_T31 L y).f0) HJ.out.2.2.2 trivial _ _); clear hat_ hwc_))
            go_roundw
            case rel => exact ⟨y + 1, n + 1, (D.put (.int .i64 (rd_T31 L y).f0) (.lit (.int .i64 (rd_T31 L y).f1))), by have := HY.out; omega, by have := HY.out; omega, int_eq (by unfold wrap64; have := HY.out; have := HLL.out; omega), ⟨by have := HJ.out.1; omega, HTS.out⟩, ⟨O12.out.take 2⟩, K12⟩
            case measure => have := HY.out; simp [intOf]; omega
          · obtain rfl : y = (L.length : Int) := by omega
            have hd2 : decide ((L.length : Int) < (L.length : Int)) = false := decide_eq_false (Int.lt_irrefl _)
            have HT : Aside0 (Tally C D L) := ⟨by have q_ := HJ.out.2; rwa [upTo_all] at q_⟩
            clear hly hy0 hy1 hll hF2
            have O9 : Aside0 (Own N1 wr [ObjC gj C L, mp Try.prog 3 (plainElem (H := Unit) Try.prog 3) gm n D]) := ⟨OB.out⟩
            have K9 : Aside0 (KeepS N1 w7 wr) := ⟨KB.out⟩
            clear OB KB
            go_wp2_with (first | (at_range; refine wpList_range_own _ rfl _ 49 rfl 3 3 keyI Try.underlying49 _ gm n D rfl (O9.out.map (i := 1) rfl) ?_; intro w10 hrg_ hg_ hs_; obtain ⟨o_, k_⟩ := O9.out.mapitr (i := 1) rfl hrg_ hg_ (Nat.le_refl _); clear hrg_ hg_ hs_; obtain ⟨gr, hgr_⟩ : ∃ gr, gr = wr.heap.size := ⟨_, rfl⟩; rw [← hgr_] at o_ ⊢; clear hgr_; have O10 : Aside0 (Own N1 w10 [ObjC gj C L, rng Try.prog 3 (plainElem (H := Unit) Try.prog 3) gm gr n D (Maps.has D) (Maps.size D)]) := ⟨o_⟩; have K10 : Aside0 (KeepS N1 w7 w10) := ⟨K9.out.trans k_⟩; clear O9 K9; clear o_ k_))
            go_frame
            go_loopw [11] (fun _ wr => OrR N1 w7 L gj gm gr n D C wr) (fun _ wr => wr.rangeLeft gm gr)
            case atStart => exact ⟨_, _, ⟨fun _ h => h⟩, O10, K10⟩
            case round =>
              obtain ⟨left, cnt, HLF, OC, KC⟩ := hrel
              have O11 : Aside0 (Own N1 wr [ObjC gj C L, rng Try.prog 3 (plainElem (H := Unit) Try.prog 3) gm gr n D left cnt]) := ⟨OC.out⟩
              have K11 : Aside0 (KeepS N1 w7 wr) := ⟨KC.out⟩
              clear OC KC
              go_wp2_with (first | (at_next; refine wpList_next_ranges_ii _ rfl _ rfl 3 3 .i64 .i64 keyI Try.underlying3 Try.underlying3 gm gr n D left cnt rfl (O11.out.itr (i := 1) rfl) ?_ ?_) | go_in)
              · intro _ hl0
                go_wp2
                go_ret
                exact ⟨rfl, (KW.out.trans (K11.out.mono HN1.out)).below (Nat.le_refl _) (fun k hk => by rw [HN.out]; exact hk)⟩
              · intro q c w12 cnt1 hwx hwc hlx hat hrg1 hlt hg1 hs1 hen
                obtain rfl : c = lastOf q L := lit_eq (hat _) (HT.out.1 _)
                obtain ⟨q', eq_, hq1, hq2⟩ := HT.out.2.1 _ (HLF.out _ hlx)
                obtain rfl : q = q' := by injection eq_
                obtain ⟨o_, k_⟩ := O11.out.itrstep (i := 1) rfl hrg1 hg1
                have HM : Aside0 (w12.rangeLeft gm gr < wr.rangeLeft gm gr) := ⟨by rw [hrg1.left_eq, (O11.out.itr (i := 1) rfl).left_eq]; exact hlt⟩
                have HR1 := Aside0.mk hrg1
                have O12 : Aside0 (Own N1 w12 [ObjC gj C L, rng Try.prog 3 (plainElem (H := Unit) Try.prog 3) gm gr n D (fun z => left z && !z.sameKey (.int .i64 q)) cnt1]) := ⟨o_⟩
                have K12 : Aside0 (KeepS N1 w7 w12) := ⟨K11.out.trans k_⟩
                clear O11 K11
                clear o_ k_ hat hrg1 hg1 hs1 hlt hlx hwx hwc eq_
                have hce := HCE.out
                have hcr := HCR.out
                have hci : (if 64 < if a0 < 1 then 1 else a0 then 64 else if a0 < 1 then 1 else a0) = C := by (have e_ := hce; simp only [mn, mx] at e_; (repeat' split at e_) <;> (repeat' split) <;> omega)
                have h1 : decide (q < 1) = false := decide_eq_false (by omega)
                have h2 : decide (C < q) = false := decide_eq_false (by omega)
                have h3 : decide (q > C) = false := decide_eq_false (by omega)
                have hbb : (lastOf q L != lastOf q L) = false := by simp
                clear hq1 hq2 hcr
                go_wp2_with (first | ((with_reducible refine gate_callee (f := 20) rfl ?_); refine goesL_ (some 66) rfl rfl Try.func20 (by kernel_rfl) rfl #[.pointer (some ⟨gj, 0, none⟩), .int .i64 q] rfl (by (try simp only [List.map_toArray, List.map_cons, List.map_nil]); first | done | rfl) ?_; obtain ⟨N_, on_, nn_, rr_, bb_⟩ := O12.out.frame1 (i := 0) rfl; refine (Last_n q on_ HCR.out HI.out.2.1).mono ?_; rintro e_ w13 ⟨rfl, oo_, kk_⟩; obtain ⟨o_, k_⟩ := bb_ _ _ _ kk_ oo_; refine ⟨_, rfl, ?_⟩; have O13 : Aside0 (Own N1 w13 [ObjC gj C L, rng Try.prog 3 (plainElem (H := Unit) Try.prog 3) gm gr n D (fun z => left z && !z.sameKey (.int .i64 q)) cnt1]) := ⟨o_⟩; have K13 : Aside0 (KeepS N1 w7 w13) := ⟨K12.out.trans k_⟩; clear O12 K12; clear o_ k_ oo_ kk_ on_ nn_ rr_ bb_))
                go_roundw
                case rel => exact ⟨_, cnt1, ⟨fun kl h => by rw [Bool.and_eq_true] at h; exact HLF.out kl h.1⟩, O13, K13⟩
                case measure => rw [(O13.out.itr (i := 1) rfl).left_eq]; have q_ := HM.out; rw [HR1.out.left_eq] at q_; exact q_
end Go.Proofs.Ytjmoncfgoaaekaa.J
