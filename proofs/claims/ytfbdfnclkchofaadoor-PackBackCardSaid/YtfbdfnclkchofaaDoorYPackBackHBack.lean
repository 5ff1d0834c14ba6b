/- The law PackBack: fields that are put are read as they were, one behind the other, and nothing is left: a plain walk through its text. -/
import Derived.Test.YtfbdfnclkchofaaDoorYPackBackHWrites
import Derived.Test.YtfbdfnclkchofaaDoorYPackBackHBounds
namespace Go.Proofs.YtfbdfnclkchofaaDoor.J
set_option linter.unusedSimpArgs false
set_option linter.unusedVariables false
open Go Go.RowKit Go.Proofs.YtfbdfnclkchofaaDoorW.PrintWords Go.Proofs.YtfbdfnclkchofaaDoorW.PrintLast Go.Proofs.YtfbdfnclkchofaaDoorW.PrintMore Go.Proofs.YtfbdfnclkchofaaDoor.Q Go.Proofs.YtfbdfnclkchofaaDoor.Sep Go.Proofs.YtfbdfnclkchofaaDoor.Pure Go.Proofs.YtfbdfnclkchofaaDoor.Wr
attribute [local go_sem] max2_int min2_int max_two min_two max_three min_three max_four min_four
def pieceB (z : S46) : ByteArray := if z.f0 = 1 then (numP z.f1).1 else if z.f0 = 2 then (sgnP z.f1).1 else txtP z.f2
def pieceW (z : S46) : Bool := if z.f0 = 1 then (numP z.f1).2 else if z.f0 = 2 then (sgnP z.f1).2 else false
def catL : List S46 → ByteArray
  | [] => nil'
  | z :: r => pieceB z ++ catL r
theorem rd_drop (l : List S46) (x : Int) (h0 : 0 ≤ x) (h1 : x < l.length) : l.drop x.toNat = rd_T46 l x :: l.drop (x + 1).toNat := by
  have hl : x.toNat < l.length := by omega
  rw [List.drop_eq_getElem_cons hl]
  unfold rd_T46
  rw [List.getD_eq_getElem?_getD, List.getElem?_eq_getElem hl, show (x + 1).toNat = x.toNat + 1 by omega]
  rfl
def Right (l : List S46) (x : Int) : Prop := ∀ y : Int, 0 ≤ y → y < x → pieceW (rd_T46 l y) = false
theorem right_0 (l : List S46) : Right l 0 := fun y a b => by omega
theorem right_s {l : List S46} {x : Int} (h : Right l x) (h2 : pieceW (rd_T46 l x) = false) : Right l (x + 1) := fun y a b => by
  by_cases e : y = x
  · rw [e]; exact h2
  · exact h y a (by omega)
theorem cat_s {l : List S46} {x : Int} {X : ByteArray} (h0 : 0 ≤ x) (h1 : x < l.length) (h : X ++ catL (l.drop x.toNat) = catL l) : (X ++ pieceB (rd_T46 l x)) ++ catL (l.drop (x + 1).toNat) = catL l := by
  rw [rd_drop l x h0 h1] at h
  rw [ByteArray.append_assoc]
  exact h
def Rest (l : List S46) (b : ByteArray) (x p : Int) : Prop := Str b p (catL (l.drop x.toNat)) ∧ p + (catL (l.drop x.toNat)).size = b.size
theorem rest_s {l : List S46} {b : ByteArray} {x p : Int} (h0 : 0 ≤ x) (h1 : x < l.length) (h : Rest l b x p) : Str b p (pieceB (rd_T46 l x)) ∧ Rest l b (x + 1) (p + (pieceB (rd_T46 l x)).size) := by
  obtain ⟨a, c⟩ := h
  rw [rd_drop l x h0 h1] at a c
  have a' : Str b p (pieceB (rd_T46 l x) ++ catL (l.drop (x + 1).toNat)) := a
  have c' : p + (pieceB (rd_T46 l x) ++ catL (l.drop (x + 1).toNat)).size = b.size := c
  rw [ByteArray.size_append] at c'
  exact ⟨a'.left, a'.right, by omega⟩
theorem rest_end {l : List S46} {b : ByteArray} {p : Int} (h : Rest l b l.length p) : endR b p 0 = 0 := by
  obtain ⟨_, c⟩ := h
  rw [Int.toNat_natCast, List.drop_length] at c
  have c2 : p + ((0 : Nat) : Int) = b.size := c
  unfold endR
  rw [if_pos rfl, if_neg (by omega)]
theorem cap60 : capR 1152921504606846976 = 1152921504606846976 := by decide
theorem cap200 : capR 200 = 200 := by decide
theorem pN {z : S46} (h : z.f0 = 1) : pieceB z = (numP z.f1).1 ∧ pieceW z = (numP z.f1).2 := by unfold pieceB pieceW; rw [if_pos h, if_pos h]; exact ⟨rfl, rfl⟩
theorem pS {z : S46} (h : z.f0 = 2) : pieceB z = (sgnP z.f1).1 ∧ pieceW z = (sgnP z.f1).2 := by
  unfold pieceB pieceW
  have h1 : ¬ z.f0 = 1 := by omega
  rw [if_neg h1, if_neg h1, if_pos h, if_pos h]; exact ⟨rfl, rfl⟩
theorem pT {z : S46} (h : z.f0 ≠ 1) (h2 : z.f0 ≠ 2) : pieceB z = txtP z.f2 ∧ pieceW z = false := by unfold pieceB pieceW; rw [if_neg h, if_neg h, if_neg h2, if_neg h2]; exact ⟨rfl, rfl⟩
theorem backN {b : ByteArray} {p : Int} {z : S46} (h : z.f0 = 1) (hw : pieceW z = false) (hs : Str b p (pieceB z)) (hl : z.f1 ≤ 1152921504606846976) : numR b p 0 1152921504606846976 = (z.f1, p + (pieceB z).size, 0) := by
  rw [(pN h).2] at hw
  rw [(pN h).1] at hs ⊢
  unfold numP at hw hs ⊢
  split at hw
  · rename_i hr
    rw [if_pos hr] at hs ⊢
    exact numR_str hr.1 (by rw [cap60]; exact hl) hs
  · cases hw
theorem backO {b : ByteArray} {p : Int} {z : S46} (h : z.f0 = 1) (hw : pieceW z = false) (hs : Str b p (pieceB z)) (hl : ¬ z.f1 ≤ 1152921504606846976) : numR b p 0 1152921504606846976 = (0, p + (pieceB z).size, 1) := by
  rw [(pN h).2] at hw
  rw [(pN h).1] at hs ⊢
  unfold numP at hw hs ⊢
  split at hw
  · rename_i hr
    rw [if_pos hr] at hs ⊢
    exact numR_over hr.1 hr.2 (by rw [cap60]; omega) hs
  · cases hw
theorem backS {b : ByteArray} {p : Int} {z : S46} (h : z.f0 = 2) (hw : pieceW z = false) (hs : Str b p (pieceB z)) : sgnR b p 0 = (z.f1, p + (pieceB z).size, 0) := by
  rw [(pS h).2] at hw
  rw [(pS h).1] at hs ⊢
  unfold sgnP at hw hs ⊢
  split at hw
  · rename_i hr
    rw [if_pos hr] at hs ⊢
    exact sgnR_str hr.1 hr.2 hs
  · cases hw
theorem backT {b : ByteArray} {p : Int} {z : S46} (h : z.f0 ≠ 1) (h2 : z.f0 ≠ 2) (hs : Str b p (pieceB z)) (hl : z.f2.size ≤ 200) : txtR b p 0 200 = (z.f2, p + (pieceB z).size, 0) := by
  rw [(pT h h2).1] at hs ⊢
  exact txtR_str (by rw [cap200]; omega) hs
noncomputable def chapbooklaw03_PackBack.f (k : Nat) (l0 : List S46) : Option Bool := open Classical in if (∀ z ∈ l0, G46 z) ∧ l0.length ≤ 140737488351232 then some true else none
def BaI (N : Nat → Prop) (w : World) (l0 : List S46) (gw : Nat) (i : Value) (wr : World) : Prop := ∃ (x : Int) (X : ByteArray) (q : Bool), 0 ≤ x ∧ x ≤ (l0.length : Int) ∧ i = .int .i64 x ∧ Aside0 ((X.size : Int) ≤ 300 * x ∧ X ++ catL (l0.drop x.toNat) = catL l0 ∧ (q = false → Right l0 x)) ∧ Aside0 (Own N wr [WR gw (X, q)]) ∧ Aside0 (KeepS N w wr)
def BaI2 (N : Nat → Prop) (w : World) (l0 : List S46) (gr : Nat) (b : ByteArray) (i : Value) (wr : World) : Prop := ∃ (x p : Int), 0 ≤ x ∧ x ≤ (l0.length : Int) ∧ i = .int .i64 x ∧ Aside0 (0 ≤ p ∧ p ≤ b.size ∧ Rest l0 b x p) ∧ Aside0 (Own N wr [RP gr b p 0]) ∧ Aside0 (KeepS N w wr)
set_option maxHeartbeats 16000000 in
set_option maxRecDepth 100000 in
theorem chapbooklaw03_PackBack.calls (k : Nat) (A0 : Option Addr) (c0 : Nat) (l0 : List (S46)) (r : Bool) (w : World) (HT : Aside0 (Tab w)) (hr0 : Kd.C k46 w A0 l0.length l0) (hc0 : l0.length ≤ c0) (h : chapbooklaw03_PackBack.f k l0 = some r) :
    Calls Tryd.prog 7 #[.slice A0 l0.length c0] w fun e_ w' => e_ = .returned (.bool r) ∧ Below w.heap.size w w' := by
  have hsz : (∀ z ∈ l0, G46 z) ∧ l0.length ≤ 140737488351232 := by
    unfold chapbooklaw03_PackBack.f at h
    split at h
    · assumption
    · cases h
  unfold chapbooklaw03_PackBack.f at h
  rw [if_pos hsz] at h
  obtain rfl : true = r := Option.some.inj h
  clear h
  obtain ⟨N, hN⟩ : ∃ N : Nat → Prop, N = fun k => k < w.heap.size := ⟨_, rfl⟩
  have HN := Aside0.mk hN
  have HG := Aside0.mk hsz.1
  have HRL0 : Aside0 (Kd.F k46 w N A0 l0.length l0) := ⟨by rw [hN]; exact Kd.C_F heapE hr0⟩
  have HR0 := Aside0.mk hr0
  have HC0 := Aside0.mk hc0
  have O0 : Aside0 (Own N w []) := ⟨Own.start_ (fun k hk => by rw [hN] at hk; exact hk)⟩
  have K0 : Aside0 (KeepS N w w) := ⟨KeepS.refl _ _⟩
  clear hN hr0 hc0
  obtain ⟨bb, hgr, hgb⟩ := great03 (⟨#[]⟩ : ByteArray) l0 hsz.2
  have HGR := Aside0.mk (hgr 300 (Nat.le_refl _))
  have HGB := Aside0.mk hgb
  clear hgr hgb hsz
  cases bb with
  | true =>
    go_enter Tryd.func7, Tryd.ntmps7
    go_wp2_with (first | ((with_reducible refine gate_callee (f := 14) rfl ?_); refine goesL_ (some 12) rfl rfl Tryd.func14 (by kernel_rfl) rfl #[] rfl (by (try simp only [List.map_toArray, List.map_cons, List.map_nil]); first | done | rfl) ?_; refine (chapbooklaw03_awake.calls true _ (Aside0.mk (Tab.below HT.out (K0.out.below (Nat.le_refl _) (fun k hk => by rw [HN.out]; exact hk)))) rfl).mono ?_; rintro e_ w1 ⟨rfl, hb_⟩; refine ⟨_, rfl, ?_⟩; have o_ := O0.out.below hb_; have k_ := KeepS.of_below (N := N) hb_; have O1 : Aside0 (Own N w1 []) := ⟨o_⟩; have K1 : Aside0 (KeepS N w w1) := ⟨K0.out.trans k_⟩; clear O0 K0; clear o_ k_ hb_) | ((with_reducible refine gate_callee (f := 23) rfl ?_); refine gate_guard (by rfl) ?_; refine goesL_ (some 16) rfl rfl Tryd.func23 (by kernel_rfl) rfl #[.string (⟨#[]⟩ : ByteArray), .slice A0 l0.length c0] rfl (by (try simp only [List.map_toArray, List.map_cons, List.map_nil]); first | done | rfl) ?_; refine (chapbooklaw03_great.calls 300 _ _ _ l0 true _ (Kd.C_below HR0.out (K1.out.below (Nat.le_refl _) (fun k hk => by rw [HN.out]; exact hk))) HC0.out HGR.out).mono ?_; rintro e_ w2 ⟨rfl, hb_⟩; refine ⟨_, rfl, ?_⟩; have o_ := O1.out.below hb_; have k_ := KeepS.of_below (N := N) hb_; have O2 : Aside0 (Own N w2 []) := ⟨o_⟩; have K2 : Aside0 (KeepS N w w2) := ⟨K1.out.trans k_⟩; clear O1 K1; clear o_ k_ hb_) | ((with_reducible refine gate_callee (f := 14) rfl ?_); refine goesL_ (some 18) rfl rfl Tryd.func14 (by kernel_rfl) rfl #[] rfl (by (try simp only [List.map_toArray, List.map_cons, List.map_nil]); first | done | rfl) ?_; refine (chapbooklaw03_awake.calls true _ (Aside0.mk (Tab.below HT.out (K2.out.below (Nat.le_refl _) (fun k hk => by rw [HN.out]; exact hk)))) rfl).mono ?_; rintro e_ w3 ⟨rfl, hb_⟩; refine ⟨_, rfl, ?_⟩; have o_ := O2.out.below hb_; have k_ := KeepS.of_below (N := N) hb_; have O3 : Aside0 (Own N w3 []) := ⟨o_⟩; have K3 : Aside0 (KeepS N w w3) := ⟨K2.out.trans k_⟩; clear O2 K2; clear o_ k_ hb_))
    go_ret
    exact ⟨rfl, (K3.out.below (Nat.le_refl _) (fun k hk => by rw [HN.out]; exact hk))⟩
  | false =>
    obtain ⟨hl500, hl200, hbig⟩ := HGB.out rfl
    have HL200 := Aside0.mk hl200
    have HBIG := Aside0.mk hbig
    clear hl500 hl200 hbig HGB
    go_enter Tryd.func7, Tryd.ntmps7
    go_wp2_with (first | ((with_reducible refine gate_callee (f := 14) rfl ?_); refine goesL_ (some 12) rfl rfl Tryd.func14 (by kernel_rfl) rfl #[] rfl (by (try simp only [List.map_toArray, List.map_cons, List.map_nil]); first | done | rfl) ?_; refine (chapbooklaw03_awake.calls true _ (Aside0.mk (Tab.below HT.out (K0.out.below (Nat.le_refl _) (fun k hk => by rw [HN.out]; exact hk)))) rfl).mono ?_; rintro e_ w1 ⟨rfl, hb_⟩; refine ⟨_, rfl, ?_⟩; have o_ := O0.out.below hb_; have k_ := KeepS.of_below (N := N) hb_; have O1 : Aside0 (Own N w1 []) := ⟨o_⟩; have K1 : Aside0 (KeepS N w w1) := ⟨K0.out.trans k_⟩; clear O0 K0; clear o_ k_ hb_) | ((with_reducible refine gate_callee (f := 23) rfl ?_); refine gate_guard (by rfl) ?_; refine goesL_ (some 16) rfl rfl Tryd.func23 (by kernel_rfl) rfl #[.string (⟨#[]⟩ : ByteArray), .slice A0 l0.length c0] rfl (by (try simp only [List.map_toArray, List.map_cons, List.map_nil]); first | done | rfl) ?_; refine (chapbooklaw03_great.calls 300 _ _ _ l0 false _ (Kd.C_below HR0.out (K1.out.below (Nat.le_refl _) (fun k hk => by rw [HN.out]; exact hk))) HC0.out HGR.out).mono ?_; rintro e_ w2 ⟨rfl, hb_⟩; refine ⟨_, rfl, ?_⟩; have o_ := O1.out.below hb_; have k_ := KeepS.of_below (N := N) hb_; have O2 : Aside0 (Own N w2 []) := ⟨o_⟩; have K2 : Aside0 (KeepS N w w2) := ⟨K1.out.trans k_⟩; clear O1 K1; clear o_ k_ hb_) | ((with_reducible refine gate_dst (N := 3) rfl ?_); refine own_box rfl (D := 3) rfl (cs := #[.pointer none, .slice none 0 0, .bool false]) (t := 28) ?hr O2.out ?_; (case hr => first | (go_simp; done) | (go_simp; rfl)); intro gw w3 o_ k_; have O3 : Aside0 (Own N w3 [cells gw #[.pointer none, .slice none 0 0, .bool false] 28]) := ⟨o_⟩; have K3 : Aside0 (KeepS N w w3) := ⟨K2.out.trans k_⟩; clear O2 K2; have c3_0_0 : w3.cell? ⟨gw, 0, none⟩ = some (.pointer none) := (blk_cell (O3.out.blk (i := 0) rfl) 0).trans rfl; have f3_0_0 : w3.frozen? ⟨gw, 0, none⟩ = false := blk_frozen (O3.out.blk (i := 0) rfl) 0; have c3_0_1 : w3.cell? ⟨gw, 1, none⟩ = some (.slice none 0 0) := (blk_cell (O3.out.blk (i := 0) rfl) 1).trans rfl; have f3_0_1 : w3.frozen? ⟨gw, 1, none⟩ = false := blk_frozen (O3.out.blk (i := 0) rfl) 1; have c3_0_2 : w3.cell? ⟨gw, 2, none⟩ = some (.bool false) := (blk_cell (O3.out.blk (i := 0) rfl) 2).trans rfl; have f3_0_2 : w3.frozen? ⟨gw, 2, none⟩ = false := blk_frozen (O3.out.blk (i := 0) rfl) 2; clear o_ k_; have O4 : Aside0 (Own N w3 [WR gw (nil', false)]) := ⟨wNew O3.out (i := 0) rfl⟩; clear O3))
    go_loopw [21] (fun i wr => BaI N w l0 gw i wr) (fun i _ => l0.length - (intOf i).toNat)
    case atStart => exact ⟨0, nil', false, by omega, by omega, rfl, ⟨by decide, ByteArray.empty_append, fun _ => right_0 _⟩, O4, K3⟩
    case round =>
      clear c3_0_0 f3_0_0 c3_0_1 f3_0_1 c3_0_2 f3_0_2
      obtain ⟨x, X, q, hx0, hx1, rfl, HI, OA, KA⟩ := hrel
      have hF2 := keepF HRL0.out KA.out
      have hLx := HL200.out
      by_cases hlt : x < (l0.length : Int)
      · obtain ⟨ad, e3, x0, x1, x2⟩ := at_E hF2 x hx0 hlt
        cases e3
        have hs2 : wrap64 (x + 1) = x + 1 := by unfold wrap64; omega
        have hp := eq_true hx0
        have hq := eq_true hlt
        have hd : decide (x < (l0.length : Int)) = true := decide_eq_true hlt
        have HX := Aside0.mk (And.intro hx0 hlt)
        have HWF : Aside0 ((Lit.int .i64 (rd_T46 l0 x).f1).wf = true) := ⟨(HG.out _ (rd_mem x hx0 hlt)).2.1⟩
        have HS2 : Aside0 ((rd_T46 l0 x).f2.size ≤ 200) := ⟨big_no HBIG.out x hx0 hlt⟩
        clear hF2 hlt hx0 hx1
        have O5 : Aside0 (Own N wr [WR gw (X, q)]) := ⟨OA.out⟩
        have K5 : Aside0 (KeepS N w wr) := ⟨KA.out⟩
        clear OA KA
        by_cases hk1 : (rd_T46 l0 x).f0 = 1
        · have hb1 : ((rd_T46 l0 x).f0 == 1) = true := beq_iff_eq.2 hk1
          have HK := Aside0.mk hk1
          clear hk1
          go_wp2_with (first | ((with_reducible refine gate_dst (N := 5) rfl ?_); refine own_box rfl (D := 5) rfl (cs := #[.int .i64 0, .int .i64 0, .string (⟨#[]⟩ : ByteArray)]) (t := 46) ?hr O5.out ?_; (case hr => first | (go_simp; done) | (go_simp; rfl)); intro gx w6 o_ k_; have O6 : Aside0 (Own N w6 [WR gw (X, q), cells gx #[.int .i64 0, .int .i64 0, .string (⟨#[]⟩ : ByteArray)] 46]) := ⟨o_⟩; have K6 : Aside0 (KeepS N w w6) := ⟨K5.out.trans k_⟩; clear O5 K5; have c6_1_0 : w6.cell? ⟨gx, 0, none⟩ = some (.int .i64 0) := (blk_cell (O6.out.blk (i := 1) rfl) 0).trans rfl; have f6_1_0 : w6.frozen? ⟨gx, 0, none⟩ = false := blk_frozen (O6.out.blk (i := 1) rfl) 0; have c6_1_1 : w6.cell? ⟨gx, 1, none⟩ = some (.int .i64 0) := (blk_cell (O6.out.blk (i := 1) rfl) 1).trans rfl; have f6_1_1 : w6.frozen? ⟨gx, 1, none⟩ = false := blk_frozen (O6.out.blk (i := 1) rfl) 1; have c6_1_2 : w6.cell? ⟨gx, 2, none⟩ = some (.string (⟨#[]⟩ : ByteArray)) := (blk_cell (O6.out.blk (i := 1) rfl) 2).trans rfl; have f6_1_2 : w6.frozen? ⟨gx, 2, none⟩ = false := blk_frozen (O6.out.blk (i := 1) rfl) 2; clear o_ k_) | ((with_reducible refine gate_store (t := 46) (p := 5) rfl ?_); refine own_store rfl rfl rfl (w1 := (World.setCell (World.setCell (World.setCell w6 ⟨gx, 0, none⟩ (.int .i64 (rd_T46 l0 x).f0)) ⟨gx, 1, none⟩ (.int .i64 (rd_T46 l0 x).f1)) ⟨gx, 2, none⟩ (.string (rd_T46 l0 x).f2))) (N := N) (l' := [WR gw (X, q), cells gx #[.int .i64 (rd_T46 l0 x).f0, .int .i64 (rd_T46 l0 x).f1, .string (rd_T46 l0 x).f2] 46]) ?hr ?ho ?hk ?_; (case hr => first | (go_simp; done) | (go_simp; rfl)); (case ho => exact (((O6.out.set (i := 1) rfl 0 (.int .i64 (rd_T46 l0 x).f0)).set (i := 1) rfl 1 (.int .i64 (rd_T46 l0 x).f1)).set (i := 1) rfl 2 (.string (rd_T46 l0 x).f2))); (case hk => exact (((KeepS.setCell (O6.out.far (i := 1) rfl) (.int .i64 (rd_T46 l0 x).f0)).trans (KeepS.setCell (O6.out.far (i := 1) rfl) (.int .i64 (rd_T46 l0 x).f1))).trans (KeepS.setCell (O6.out.far (i := 1) rfl) (.string (rd_T46 l0 x).f2)))); intro w7 o_ k_; have O7 : Aside0 (Own N w7 [WR gw (X, q), cells gx #[.int .i64 (rd_T46 l0 x).f0, .int .i64 (rd_T46 l0 x).f1, .string (rd_T46 l0 x).f2] 46]) := ⟨o_⟩; have K7 : Aside0 (KeepS N w w7) := ⟨K6.out.trans k_⟩; clear c6_1_0 f6_1_0 c6_1_1 f6_1_1 c6_1_2 f6_1_2 O6 K6; have c7_1_0 : w7.cell? ⟨gx, 0, none⟩ = some (.int .i64 (rd_T46 l0 x).f0) := (blk_cell (O7.out.blk (i := 1) rfl) 0).trans rfl; have f7_1_0 : w7.frozen? ⟨gx, 0, none⟩ = false := blk_frozen (O7.out.blk (i := 1) rfl) 0; have c7_1_1 : w7.cell? ⟨gx, 1, none⟩ = some (.int .i64 (rd_T46 l0 x).f1) := (blk_cell (O7.out.blk (i := 1) rfl) 1).trans rfl; have f7_1_1 : w7.frozen? ⟨gx, 1, none⟩ = false := blk_frozen (O7.out.blk (i := 1) rfl) 1; have c7_1_2 : w7.cell? ⟨gx, 2, none⟩ = some (.string (rd_T46 l0 x).f2) := (blk_cell (O7.out.blk (i := 1) rfl) 2).trans rfl; have f7_1_2 : w7.frozen? ⟨gx, 2, none⟩ = false := blk_frozen (O7.out.blk (i := 1) rfl) 2; clear o_ k_) | ((with_reducible refine gate_callee (f := 15) rfl ?_); refine goesL_ (some 34) rfl rfl Tryd.func15 (by kernel_rfl) rfl #[.pointer (some ⟨gw, 0, none⟩), .int .i64 (rd_T46 l0 x).f1] rfl (by (try simp only [List.map_toArray, List.map_cons, List.map_nil]); first | done | rfl) ?_; obtain ⟨N_, on_, nn_, rr_, bb_⟩ := O7.out.frame1 (i := 0) rfl; refine (wNum (Aside0.mk (Tab.below HT.out (K7.out.below (Nat.le_refl _) (fun k hk => by rw [HN.out]; exact hk)))) (rd_T46 l0 x).f1 HWF.out (by have := HI.out.1; have := HX.out; have := HL200.out; have := HS2.out; show X.size ≤ 140737488355000; omega) on_).mono ?_; rintro e_ w8 ⟨rfl, oo_, kk_⟩; obtain ⟨o_, k_⟩ := bb_ _ _ _ kk_ oo_; refine ⟨_, rfl, ?_⟩; have O8 : Aside0 (Own N w8 [WR gw (addN (X, q) (rd_T46 l0 x).f1), cells gx #[.int .i64 (rd_T46 l0 x).f0, .int .i64 (rd_T46 l0 x).f1, .string (rd_T46 l0 x).f2] 46]) := ⟨o_⟩; have K8 : Aside0 (KeepS N w w8) := ⟨K7.out.trans k_⟩; clear c7_1_0 f7_1_0 c7_1_1 f7_1_1 c7_1_2 f7_1_2 O7 K7; have c8_1_0 : w8.cell? ⟨gx, 0, none⟩ = some (.int .i64 (rd_T46 l0 x).f0) := (blk_cell (O8.out.blk (i := 1) rfl) 0).trans rfl; have f8_1_0 : w8.frozen? ⟨gx, 0, none⟩ = false := blk_frozen (O8.out.blk (i := 1) rfl) 0; have c8_1_1 : w8.cell? ⟨gx, 1, none⟩ = some (.int .i64 (rd_T46 l0 x).f1) := (blk_cell (O8.out.blk (i := 1) rfl) 1).trans rfl; have f8_1_1 : w8.frozen? ⟨gx, 1, none⟩ = false := blk_frozen (O8.out.blk (i := 1) rfl) 1; have c8_1_2 : w8.cell? ⟨gx, 2, none⟩ = some (.string (rd_T46 l0 x).f2) := (blk_cell (O8.out.blk (i := 1) rfl) 2).trans rfl; have f8_1_2 : w8.frozen? ⟨gx, 2, none⟩ = false := blk_frozen (O8.out.blk (i := 1) rfl) 2; clear o_ k_ oo_ kk_ on_ nn_ rr_ bb_))
          go_roundw
          case rel => exact ⟨x + 1, X ++ (numP (rd_T46 l0 x).f1).1, q || (numP (rd_T46 l0 x).f1).2, by have := HX.out; omega, by have := HX.out; omega, int_eqW (by unfold wrap64; have := HX.out; have := HL200.out; omega), ⟨by rw [ByteArray.size_append]; have q_ := numP_size (rd_T46 l0 x).f1; have := HI.out.1; omega, by rw [← (pN HK.out).1]; exact cat_s HX.out.1 HX.out.2 HI.out.2.1, fun h_ => right_s (HI.out.2.2 (Bool.or_eq_false_iff.1 h_).1) ((pN HK.out).2.trans (Bool.or_eq_false_iff.1 h_).2)⟩, ⟨O8.out.pick1 (a := 0) rfl⟩, K8⟩
          case measure => have := HX.out; simp [intOf]; omega
        have hb1 : ((rd_T46 l0 x).f0 == 1) = false := beq_eq_false_iff_ne.2 hk1
        by_cases hk2 : (rd_T46 l0 x).f0 = 2
        · have hb2 : ((rd_T46 l0 x).f0 == 2) = true := beq_iff_eq.2 hk2
          have HK := Aside0.mk hk2
          clear hk2 hk1
          go_wp2_with (first | ((with_reducible refine gate_dst (N := 5) rfl ?_); refine own_box rfl (D := 5) rfl (cs := #[.int .i64 0, .int .i64 0, .string (⟨#[]⟩ : ByteArray)]) (t := 46) ?hr O5.out ?_; (case hr => first | (go_simp; done) | (go_simp; rfl)); intro gx w6 o_ k_; have O6 : Aside0 (Own N w6 [WR gw (X, q), cells gx #[.int .i64 0, .int .i64 0, .string (⟨#[]⟩ : ByteArray)] 46]) := ⟨o_⟩; have K6 : Aside0 (KeepS N w w6) := ⟨K5.out.trans k_⟩; clear O5 K5; have c6_1_0 : w6.cell? ⟨gx, 0, none⟩ = some (.int .i64 0) := (blk_cell (O6.out.blk (i := 1) rfl) 0).trans rfl; have f6_1_0 : w6.frozen? ⟨gx, 0, none⟩ = false := blk_frozen (O6.out.blk (i := 1) rfl) 0; have c6_1_1 : w6.cell? ⟨gx, 1, none⟩ = some (.int .i64 0) := (blk_cell (O6.out.blk (i := 1) rfl) 1).trans rfl; have f6_1_1 : w6.frozen? ⟨gx, 1, none⟩ = false := blk_frozen (O6.out.blk (i := 1) rfl) 1; have c6_1_2 : w6.cell? ⟨gx, 2, none⟩ = some (.string (⟨#[]⟩ : ByteArray)) := (blk_cell (O6.out.blk (i := 1) rfl) 2).trans rfl; have f6_1_2 : w6.frozen? ⟨gx, 2, none⟩ = false := blk_frozen (O6.out.blk (i := 1) rfl) 2; clear o_ k_) | ((with_reducible refine gate_store (t := 46) (p := 5) rfl ?_); refine own_store rfl rfl rfl (w1 := (World.setCell (World.setCell (World.setCell w6 ⟨gx, 0, none⟩ (.int .i64 (rd_T46 l0 x).f0)) ⟨gx, 1, none⟩ (.int .i64 (rd_T46 l0 x).f1)) ⟨gx, 2, none⟩ (.string (rd_T46 l0 x).f2))) (N := N) (l' := [WR gw (X, q), cells gx #[.int .i64 (rd_T46 l0 x).f0, .int .i64 (rd_T46 l0 x).f1, .string (rd_T46 l0 x).f2] 46]) ?hr ?ho ?hk ?_; (case hr => first | (go_simp; done) | (go_simp; rfl)); (case ho => exact (((O6.out.set (i := 1) rfl 0 (.int .i64 (rd_T46 l0 x).f0)).set (i := 1) rfl 1 (.int .i64 (rd_T46 l0 x).f1)).set (i := 1) rfl 2 (.string (rd_T46 l0 x).f2))); (case hk => exact (((KeepS.setCell (O6.out.far (i := 1) rfl) (.int .i64 (rd_T46 l0 x).f0)).trans (KeepS.setCell (O6.out.far (i := 1) rfl) (.int .i64 (rd_T46 l0 x).f1))).trans (KeepS.setCell (O6.out.far (i := 1) rfl) (.string (rd_T46 l0 x).f2)))); intro w7 o_ k_; have O7 : Aside0 (Own N w7 [WR gw (X, q), cells gx #[.int .i64 (rd_T46 l0 x).f0, .int .i64 (rd_T46 l0 x).f1, .string (rd_T46 l0 x).f2] 46]) := ⟨o_⟩; have K7 : Aside0 (KeepS N w w7) := ⟨K6.out.trans k_⟩; clear c6_1_0 f6_1_0 c6_1_1 f6_1_1 c6_1_2 f6_1_2 O6 K6; have c7_1_0 : w7.cell? ⟨gx, 0, none⟩ = some (.int .i64 (rd_T46 l0 x).f0) := (blk_cell (O7.out.blk (i := 1) rfl) 0).trans rfl; have f7_1_0 : w7.frozen? ⟨gx, 0, none⟩ = false := blk_frozen (O7.out.blk (i := 1) rfl) 0; have c7_1_1 : w7.cell? ⟨gx, 1, none⟩ = some (.int .i64 (rd_T46 l0 x).f1) := (blk_cell (O7.out.blk (i := 1) rfl) 1).trans rfl; have f7_1_1 : w7.frozen? ⟨gx, 1, none⟩ = false := blk_frozen (O7.out.blk (i := 1) rfl) 1; have c7_1_2 : w7.cell? ⟨gx, 2, none⟩ = some (.string (rd_T46 l0 x).f2) := (blk_cell (O7.out.blk (i := 1) rfl) 2).trans rfl; have f7_1_2 : w7.frozen? ⟨gx, 2, none⟩ = false := blk_frozen (O7.out.blk (i := 1) rfl) 2; clear o_ k_) | ((with_reducible refine gate_callee (f := 32) rfl ?_); refine goesL_ (some 39) rfl rfl Tryd.func32 (by kernel_rfl) rfl #[.pointer (some ⟨gw, 0, none⟩), .int .i64 (rd_T46 l0 x).f1] rfl (by (try simp only [List.map_toArray, List.map_cons, List.map_nil]); first | done | rfl) ?_; obtain ⟨N_, on_, nn_, rr_, bb_⟩ := O7.out.frame1 (i := 0) rfl; refine (wSgn (Aside0.mk (Tab.below HT.out (K7.out.below (Nat.le_refl _) (fun k hk => by rw [HN.out]; exact hk)))) (rd_T46 l0 x).f1 HWF.out (by have := HI.out.1; have := HX.out; have := HL200.out; have := HS2.out; show X.size ≤ 140737488355000; omega) on_).mono ?_; rintro e_ w8 ⟨rfl, oo_, kk_⟩; obtain ⟨o_, k_⟩ := bb_ _ _ _ kk_ oo_; refine ⟨_, rfl, ?_⟩; have O8 : Aside0 (Own N w8 [WR gw (addS (X, q) (rd_T46 l0 x).f1), cells gx #[.int .i64 (rd_T46 l0 x).f0, .int .i64 (rd_T46 l0 x).f1, .string (rd_T46 l0 x).f2] 46]) := ⟨o_⟩; have K8 : Aside0 (KeepS N w w8) := ⟨K7.out.trans k_⟩; clear c7_1_0 f7_1_0 c7_1_1 f7_1_1 c7_1_2 f7_1_2 O7 K7; have c8_1_0 : w8.cell? ⟨gx, 0, none⟩ = some (.int .i64 (rd_T46 l0 x).f0) := (blk_cell (O8.out.blk (i := 1) rfl) 0).trans rfl; have f8_1_0 : w8.frozen? ⟨gx, 0, none⟩ = false := blk_frozen (O8.out.blk (i := 1) rfl) 0; have c8_1_1 : w8.cell? ⟨gx, 1, none⟩ = some (.int .i64 (rd_T46 l0 x).f1) := (blk_cell (O8.out.blk (i := 1) rfl) 1).trans rfl; have f8_1_1 : w8.frozen? ⟨gx, 1, none⟩ = false := blk_frozen (O8.out.blk (i := 1) rfl) 1; have c8_1_2 : w8.cell? ⟨gx, 2, none⟩ = some (.string (rd_T46 l0 x).f2) := (blk_cell (O8.out.blk (i := 1) rfl) 2).trans rfl; have f8_1_2 : w8.frozen? ⟨gx, 2, none⟩ = false := blk_frozen (O8.out.blk (i := 1) rfl) 2; clear o_ k_ oo_ kk_ on_ nn_ rr_ bb_))
          go_roundw
          case rel => exact ⟨x + 1, X ++ (sgnP (rd_T46 l0 x).f1).1, q || (sgnP (rd_T46 l0 x).f1).2, by have := HX.out; omega, by have := HX.out; omega, int_eqW (by unfold wrap64; have := HX.out; have := HL200.out; omega), ⟨by rw [ByteArray.size_append]; have q_ := sgnP_size (rd_T46 l0 x).f1; have := HI.out.1; omega, by rw [← (pS HK.out).1]; exact cat_s HX.out.1 HX.out.2 HI.out.2.1, fun h_ => right_s (HI.out.2.2 (Bool.or_eq_false_iff.1 h_).1) ((pS HK.out).2.trans (Bool.or_eq_false_iff.1 h_).2)⟩, ⟨O8.out.pick1 (a := 0) rfl⟩, K8⟩
          case measure => have := HX.out; simp [intOf]; omega
        have hb2 : ((rd_T46 l0 x).f0 == 2) = false := beq_eq_false_iff_ne.2 hk2
        have HK := Aside0.mk (And.intro hk1 hk2)
        clear hk1 hk2
        go_wp2_with (first | ((with_reducible refine gate_dst (N := 5) rfl ?_); refine own_box rfl (D := 5) rfl (cs := #[.int .i64 0, .int .i64 0, .string (⟨#[]⟩ : ByteArray)]) (t := 46) ?hr O5.out ?_; (case hr => first | (go_simp; done) | (go_simp; rfl)); intro gx w6 o_ k_; have O6 : Aside0 (Own N w6 [WR gw (X, q), cells gx #[.int .i64 0, .int .i64 0, .string (⟨#[]⟩ : ByteArray)] 46]) := ⟨o_⟩; have K6 : Aside0 (KeepS N w w6) := ⟨K5.out.trans k_⟩; clear O5 K5; have c6_1_0 : w6.cell? ⟨gx, 0, none⟩ = some (.int .i64 0) := (blk_cell (O6.out.blk (i := 1) rfl) 0).trans rfl; have f6_1_0 : w6.frozen? ⟨gx, 0, none⟩ = false := blk_frozen (O6.out.blk (i := 1) rfl) 0; have c6_1_1 : w6.cell? ⟨gx, 1, none⟩ = some (.int .i64 0) := (blk_cell (O6.out.blk (i := 1) rfl) 1).trans rfl; have f6_1_1 : w6.frozen? ⟨gx, 1, none⟩ = false := blk_frozen (O6.out.blk (i := 1) rfl) 1; have c6_1_2 : w6.cell? ⟨gx, 2, none⟩ = some (.string (⟨#[]⟩ : ByteArray)) := (blk_cell (O6.out.blk (i := 1) rfl) 2).trans rfl; have f6_1_2 : w6.frozen? ⟨gx, 2, none⟩ = false := blk_frozen (O6.out.blk (i := 1) rfl) 2; clear o_ k_) | ((with_reducible refine gate_store (t := 46) (p := 5) rfl ?_); refine own_store rfl rfl rfl (w1 := (World.setCell (World.setCell (World.setCell w6 ⟨gx, 0, none⟩ (.int .i64 (rd_T46 l0 x).f0)) ⟨gx, 1, none⟩ (.int .i64 (rd_T46 l0 x).f1)) ⟨gx, 2, none⟩ (.string (rd_T46 l0 x).f2))) (N := N) (l' := [WR gw (X, q), cells gx #[.int .i64 (rd_T46 l0 x).f0, .int .i64 (rd_T46 l0 x).f1, .string (rd_T46 l0 x).f2] 46]) ?hr ?ho ?hk ?_; (case hr => first | (go_simp; done) | (go_simp; rfl)); (case ho => exact (((O6.out.set (i := 1) rfl 0 (.int .i64 (rd_T46 l0 x).f0)).set (i := 1) rfl 1 (.int .i64 (rd_T46 l0 x).f1)).set (i := 1) rfl 2 (.string (rd_T46 l0 x).f2))); (case hk => exact (((KeepS.setCell (O6.out.far (i := 1) rfl) (.int .i64 (rd_T46 l0 x).f0)).trans (KeepS.setCell (O6.out.far (i := 1) rfl) (.int .i64 (rd_T46 l0 x).f1))).trans (KeepS.setCell (O6.out.far (i := 1) rfl) (.string (rd_T46 l0 x).f2)))); intro w7 o_ k_; have O7 : Aside0 (Own N w7 [WR gw (X, q), cells gx #[.int .i64 (rd_T46 l0 x).f0, .int .i64 (rd_T46 l0 x).f1, .string (rd_T46 l0 x).f2] 46]) := ⟨o_⟩; have K7 : Aside0 (KeepS N w w7) := ⟨K6.out.trans k_⟩; clear c6_1_0 f6_1_0 c6_1_1 f6_1_1 c6_1_2 f6_1_2 O6 K6; have c7_1_0 : w7.cell? ⟨gx, 0, none⟩ = some (.int .i64 (rd_T46 l0 x).f0) := (blk_cell (O7.out.blk (i := 1) rfl) 0).trans rfl; have f7_1_0 : w7.frozen? ⟨gx, 0, none⟩ = false := blk_frozen (O7.out.blk (i := 1) rfl) 0; have c7_1_1 : w7.cell? ⟨gx, 1, none⟩ = some (.int .i64 (rd_T46 l0 x).f1) := (blk_cell (O7.out.blk (i := 1) rfl) 1).trans rfl; have f7_1_1 : w7.frozen? ⟨gx, 1, none⟩ = false := blk_frozen (O7.out.blk (i := 1) rfl) 1; have c7_1_2 : w7.cell? ⟨gx, 2, none⟩ = some (.string (rd_T46 l0 x).f2) := (blk_cell (O7.out.blk (i := 1) rfl) 2).trans rfl; have f7_1_2 : w7.frozen? ⟨gx, 2, none⟩ = false := blk_frozen (O7.out.blk (i := 1) rfl) 2; clear o_ k_) | ((with_reducible refine gate_callee (f := 16) rfl ?_); refine goesL_ (some 29) rfl rfl Tryd.func16 (by kernel_rfl) rfl #[.pointer (some ⟨gw, 0, none⟩), .string (rd_T46 l0 x).f2] rfl (by (try simp only [List.map_toArray, List.map_cons, List.map_nil]); first | done | rfl) ?_; obtain ⟨N_, on_, nn_, rr_, bb_⟩ := O7.out.frame1 (i := 0) rfl; refine (wTxt (Aside0.mk (Tab.below HT.out (K7.out.below (Nat.le_refl _) (fun k hk => by rw [HN.out]; exact hk)))) (rd_T46 l0 x).f2 (by have := HI.out.1; have := HX.out; have := HL200.out; have := HS2.out; show X.size + (rd_T46 l0 x).f2.size ≤ 140737488355000; omega) on_).mono ?_; rintro e_ w8 ⟨rfl, oo_, kk_⟩; obtain ⟨o_, k_⟩ := bb_ _ _ _ kk_ oo_; refine ⟨_, rfl, ?_⟩; have O8 : Aside0 (Own N w8 [WR gw (addT (X, q) (rd_T46 l0 x).f2), cells gx #[.int .i64 (rd_T46 l0 x).f0, .int .i64 (rd_T46 l0 x).f1, .string (rd_T46 l0 x).f2] 46]) := ⟨o_⟩; have K8 : Aside0 (KeepS N w w8) := ⟨K7.out.trans k_⟩; clear c7_1_0 f7_1_0 c7_1_1 f7_1_1 c7_1_2 f7_1_2 O7 K7; have c8_1_0 : w8.cell? ⟨gx, 0, none⟩ = some (.int .i64 (rd_T46 l0 x).f0) := (blk_cell (O8.out.blk (i := 1) rfl) 0).trans rfl; have f8_1_0 : w8.frozen? ⟨gx, 0, none⟩ = false := blk_frozen (O8.out.blk (i := 1) rfl) 0; have c8_1_1 : w8.cell? ⟨gx, 1, none⟩ = some (.int .i64 (rd_T46 l0 x).f1) := (blk_cell (O8.out.blk (i := 1) rfl) 1).trans rfl; have f8_1_1 : w8.frozen? ⟨gx, 1, none⟩ = false := blk_frozen (O8.out.blk (i := 1) rfl) 1; have c8_1_2 : w8.cell? ⟨gx, 2, none⟩ = some (.string (rd_T46 l0 x).f2) := (blk_cell (O8.out.blk (i := 1) rfl) 2).trans rfl; have f8_1_2 : w8.frozen? ⟨gx, 2, none⟩ = false := blk_frozen (O8.out.blk (i := 1) rfl) 2; clear o_ k_ oo_ kk_ on_ nn_ rr_ bb_))
        go_roundw
        case rel => exact ⟨x + 1, X ++ txtP (rd_T46 l0 x).f2, q, by have := HX.out; omega, by have := HX.out; omega, int_eqW (by unfold wrap64; have := HX.out; have := HL200.out; omega), ⟨by rw [ByteArray.size_append]; have q_ : (txtP (rd_T46 l0 x).f2).size ≤ 208 := (by rw [txtP_sz]; have q_ : (enc ((rd_T46 l0 x).f2.size : Int)).size ≤ 8 := enc_size _; have := HS2.out; omega); have := HI.out.1; omega, by rw [← (pT HK.out.1 HK.out.2).1]; exact cat_s HX.out.1 HX.out.2 HI.out.2.1, fun h_ => right_s (HI.out.2.2 h_) (pT HK.out.1 HK.out.2).2⟩, ⟨O8.out.pick1 (a := 0) rfl⟩, K8⟩
        case measure => have := HX.out; simp [intOf]; omega
      · have hxe : x = (l0.length : Int) := by omega
        subst hxe
        have hd : decide ((l0.length : Int) < (l0.length : Int)) = false := decide_eq_false (Int.lt_irrefl _)
        have hX : X = catL l0 := by have q_ := HI.out.2.1; rw [Int.toNat_natCast, List.drop_length] at q_; rw [← q_]; exact ByteArray.append_empty.symm
        have HXX := Aside0.mk hX
        clear hX hlt hx0 hx1 hF2
        have O6 : Aside0 (Own N wr [WR gw (X, q)]) := ⟨OA.out⟩
        have K6 : Aside0 (KeepS N w wr) := ⟨KA.out⟩
        clear OA KA
        have hXs := HI.out.1
        have HXS : Aside0 (X.size ≤ 140737488351232) := ⟨by omega⟩
        clear hXs hLx
        have h10 : ((1 : Int) != 0) = true := by decide
        have h00 : ((0 : Int) != 0) = false := by decide
        have h0e : ((0 : Int) == 0) = true := by decide
        have h11 : ((1 : Int) == 1) = true := by decide
        have hnl : decide ((⟨#[]⟩ : ByteArray) = ⟨#[]⟩) = true := by simp
        cases q with
        | true =>
          go_wp2_with (first | ((with_reducible refine gate_callee (f := 17) rfl ?_); refine goesL_ (some 42) rfl rfl Tryd.func17 (by kernel_rfl) rfl #[.pointer (some ⟨gw, 0, none⟩)] rfl (by (try simp only [List.map_toArray, List.map_cons, List.map_nil]); first | done | rfl) ?_; obtain ⟨N_, on_, nn_, rr_, bb_⟩ := O6.out.frame1 (i := 0) rfl; refine (wBytes (⟨#[]⟩ : ByteArray) 1 told_w on_).mono ?_; rintro e_ w7 ⟨rfl, oo_, kk_⟩; obtain ⟨o_, k_⟩ := bb_ _ _ _ kk_ oo_; refine ⟨_, rfl, ?_⟩; have O7 : Aside0 (Own N w7 [WR gw (X, true)]) := ⟨o_⟩; have K7 : Aside0 (KeepS N w w7) := ⟨K6.out.trans k_⟩; clear O6 K6; clear o_ k_ oo_ kk_ on_ nn_ rr_ bb_))
          go_ret
          exact ⟨rfl, (K7.out.below (Nat.le_refl _) (fun k hk => by rw [HN.out]; exact hk))⟩
        | false =>
          have HRT := Aside0.mk (HI.out.2.2 rfl)
          go_wp2_with (first | ((with_reducible refine gate_callee (f := 17) rfl ?_); refine goesL_ (some 42) rfl rfl Tryd.func17 (by kernel_rfl) rfl #[.pointer (some ⟨gw, 0, none⟩)] rfl (by (try simp only [List.map_toArray, List.map_cons, List.map_nil]); first | done | rfl) ?_; obtain ⟨N_, on_, nn_, rr_, bb_⟩ := O6.out.frame1 (i := 0) rfl; refine (wBytes X 0 told_r on_).mono ?_; rintro e_ w7 ⟨rfl, oo_, kk_⟩; obtain ⟨o_, k_⟩ := bb_ _ _ _ kk_ oo_; refine ⟨_, rfl, ?_⟩; have O7 : Aside0 (Own N w7 [WR gw (X, false)]) := ⟨o_⟩; have K7 : Aside0 (KeepS N w w7) := ⟨K6.out.trans k_⟩; clear O6 K6; clear o_ k_ oo_ kk_ on_ nn_ rr_ bb_) | ((with_reducible refine gate_callee (f := 18) rfl ?_); refine goesL_ (some 50) rfl rfl Tryd.func18 (by kernel_rfl) rfl #[.string X] rfl (by (try simp only [List.map_toArray, List.map_cons, List.map_nil]); first | done | rfl) ?_; obtain ⟨N_, on_, nn_, rr_, bb_⟩ := O7.out.frame0; refine (pRead X (Below.refl _ _) on_).mono ?_; rintro e_ w8 ⟨gr, rfl, oo_, kk_⟩; obtain ⟨o_, k_⟩ := bb_ _ _ kk_ oo_; refine ⟨_, rfl, ?_⟩; have O8 : Aside0 (Own N w8 [WR gw (X, false), RP gr X 0 0]) := ⟨o_⟩; have K8 : Aside0 (KeepS N w w8) := ⟨K7.out.trans k_⟩; clear O7 K7; clear o_ k_ oo_ kk_ on_ nn_ rr_ bb_))
          go_loopw [55] (fun i wr => BaI2 N w l0 gr X i wr) (fun i _ => l0.length - (intOf i).toNat)
          case atStart => exact ⟨0, 0, by omega, by omega, rfl, ⟨by omega, by omega, by rw [HXX.out]; exact ⟨Str.whole _, by show (0 : Int) + (catL l0).size = (catL l0).size; omega⟩⟩, ⟨O8.out.pick1 (a := 1) rfl⟩, K8⟩
          case round =>
            clear HI
            obtain ⟨x, p, hx0, hx1, rfl, HI, OA, KA⟩ := hrel
            have hF2 := keepF HRL0.out KA.out
            have hLx := HL200.out
            by_cases hlt : x < (l0.length : Int)
            · obtain ⟨ad, e3, x0, x1, x2⟩ := at_E hF2 x hx0 hlt
              cases e3
              have hs2 : wrap64 (x + 1) = x + 1 := by unfold wrap64; omega
              have hp := eq_true hx0
              have hq := eq_true hlt
              have hd : decide (x < (l0.length : Int)) = true := decide_eq_true hlt
              have HX := Aside0.mk (And.intro hx0 hlt)
              have HWF : Aside0 ((Lit.int .i64 (rd_T46 l0 x).f1).wf = true) := ⟨(HG.out _ (rd_mem x hx0 hlt)).2.1⟩
              have HS2 : Aside0 ((rd_T46 l0 x).f2.size ≤ 200) := ⟨big_no HBIG.out x hx0 hlt⟩
              clear hF2 hlt hx0 hx1
              have O9 : Aside0 (Own N wr [RP gr X p 0]) := ⟨OA.out⟩
              have K9 : Aside0 (KeepS N w wr) := ⟨KA.out⟩
              have c9_0_0 : wr.cell? ⟨gr, 0, none⟩ = some (.string X) := (blk_cell (O9.out.blk (i := 0) rfl) 0).trans rfl
              have f9_0_0 : wr.frozen? ⟨gr, 0, none⟩ = false := blk_frozen (O9.out.blk (i := 0) rfl) 0
              have c9_0_1 : wr.cell? ⟨gr, 1, none⟩ = some (.int .i64 p) := (blk_cell (O9.out.blk (i := 0) rfl) 1).trans rfl
              have f9_0_1 : wr.frozen? ⟨gr, 1, none⟩ = false := blk_frozen (O9.out.blk (i := 0) rfl) 1
              have c9_0_2 : wr.cell? ⟨gr, 2, none⟩ = some (.int .i64 0) := (blk_cell (O9.out.blk (i := 0) rfl) 2).trans rfl
              have f9_0_2 : wr.frozen? ⟨gr, 2, none⟩ = false := blk_frozen (O9.out.blk (i := 0) rfl) 2
              clear OA KA
              have hst := rest_s HX.out.1 HX.out.2 HI.out.2.2
              have HST := Aside0.mk hst
              have HPW := Aside0.mk (HRT.out x HX.out.1 HX.out.2)
              clear hst
              obtain ⟨p2, hp2⟩ : ∃ p2 : Int, p2 = p + (pieceB (rd_T46 l0 x)).size := ⟨_, rfl⟩
              have HP2 := Aside0.mk hp2
              clear hp2
              have hvv : ((rd_T46 l0 x).f1 != (rd_T46 l0 x).f1) = false := by simp
              have hve : ((rd_T46 l0 x).f1 == (rd_T46 l0 x).f1) = true := by simp
              have hvd : decide ((rd_T46 l0 x).f2 = (rd_T46 l0 x).f2) = true := by simp
              by_cases hk1 : (rd_T46 l0 x).f0 = 1
              · have hb1 : ((rd_T46 l0 x).f0 == 1) = true := beq_iff_eq.2 hk1
                have HK := Aside0.mk hk1
                clear hk1
                by_cases hl : (rd_T46 l0 x).f1 ≤ 1152921504606846976
                · have HQ : Aside0 (numR X p 0 1152921504606846976 = ((rd_T46 l0 x).f1, p2, 0)) := ⟨by rw [HP2.out]; exact backN HK.out HPW.out HST.out.1 hl⟩
                  have d1 : decide ((rd_T46 l0 x).f1 ≤ 1152921504606846976) = true := decide_eq_true hl
                  have d2 : decide ((rd_T46 l0 x).f1 > 1152921504606846976) = false := decide_eq_false (by omega)
                  have d3 : decide (1152921504606846976 < (rd_T46 l0 x).f1) = false := d2
                  clear hl
                  go_wp2_with (first | ((with_reducible refine gate_dst (N := 10) rfl ?_); refine own_box rfl (D := 10) rfl (cs := #[.int .i64 0, .int .i64 0, .string (⟨#[]⟩ : ByteArray)]) (t := 46) ?hr O9.out ?_; (case hr => first | (go_simp; done) | (go_simp; rfl)); intro gx w10 o_ k_; have O10 : Aside0 (Own N w10 [RP gr X p 0, cells gx #[.int .i64 0, .int .i64 0, .string (⟨#[]⟩ : ByteArray)] 46]) := ⟨o_⟩; have K10 : Aside0 (KeepS N w w10) := ⟨K9.out.trans k_⟩; clear c9_0_0 f9_0_0 c9_0_1 f9_0_1 c9_0_2 f9_0_2 O9 K9; have c10_0_0 : w10.cell? ⟨gr, 0, none⟩ = some (.string X) := (blk_cell (O10.out.blk (i := 0) rfl) 0).trans rfl; have f10_0_0 : w10.frozen? ⟨gr, 0, none⟩ = false := blk_frozen (O10.out.blk (i := 0) rfl) 0; have c10_0_1 : w10.cell? ⟨gr, 1, none⟩ = some (.int .i64 p) := (blk_cell (O10.out.blk (i := 0) rfl) 1).trans rfl; have f10_0_1 : w10.frozen? ⟨gr, 1, none⟩ = false := blk_frozen (O10.out.blk (i := 0) rfl) 1; have c10_0_2 : w10.cell? ⟨gr, 2, none⟩ = some (.int .i64 0) := (blk_cell (O10.out.blk (i := 0) rfl) 2).trans rfl; have f10_0_2 : w10.frozen? ⟨gr, 2, none⟩ = false := blk_frozen (O10.out.blk (i := 0) rfl) 2; have c10_1_0 : w10.cell? ⟨gx, 0, none⟩ = some (.int .i64 0) := (blk_cell (O10.out.blk (i := 1) rfl) 0).trans rfl; have f10_1_0 : w10.frozen? ⟨gx, 0, none⟩ = false := blk_frozen (O10.out.blk (i := 1) rfl) 0; have c10_1_1 : w10.cell? ⟨gx, 1, none⟩ = some (.int .i64 0) := (blk_cell (O10.out.blk (i := 1) rfl) 1).trans rfl; have f10_1_1 : w10.frozen? ⟨gx, 1, none⟩ = false := blk_frozen (O10.out.blk (i := 1) rfl) 1; have c10_1_2 : w10.cell? ⟨gx, 2, none⟩ = some (.string (⟨#[]⟩ : ByteArray)) := (blk_cell (O10.out.blk (i := 1) rfl) 2).trans rfl; have f10_1_2 : w10.frozen? ⟨gx, 2, none⟩ = false := blk_frozen (O10.out.blk (i := 1) rfl) 2; have n10_0_1 : gr ≠ gx := O10.out.ne (i := 0) (j := 1) rfl rfl (by decide); have n10_1_0 : gx ≠ gr := O10.out.ne (i := 1) (j := 0) rfl rfl (by decide); clear o_ k_) | ((with_reducible refine gate_store (t := 46) (p := 10) rfl ?_); refine own_store rfl rfl rfl (w1 := (World.setCell (World.setCell (World.setCell w10 ⟨gx, 0, none⟩ (.int .i64 (rd_T46 l0 x).f0)) ⟨gx, 1, none⟩ (.int .i64 (rd_T46 l0 x).f1)) ⟨gx, 2, none⟩ (.string (rd_T46 l0 x).f2))) (N := N) (l' := [RP gr X p 0, cells gx #[.int .i64 (rd_T46 l0 x).f0, .int .i64 (rd_T46 l0 x).f1, .string (rd_T46 l0 x).f2] 46]) ?hr ?ho ?hk ?_; (case hr => first | (go_simp; done) | (go_simp; rfl)); (case ho => exact (((O10.out.set (i := 1) rfl 0 (.int .i64 (rd_T46 l0 x).f0)).set (i := 1) rfl 1 (.int .i64 (rd_T46 l0 x).f1)).set (i := 1) rfl 2 (.string (rd_T46 l0 x).f2))); (case hk => exact (((KeepS.setCell (O10.out.far (i := 1) rfl) (.int .i64 (rd_T46 l0 x).f0)).trans (KeepS.setCell (O10.out.far (i := 1) rfl) (.int .i64 (rd_T46 l0 x).f1))).trans (KeepS.setCell (O10.out.far (i := 1) rfl) (.string (rd_T46 l0 x).f2)))); intro w11 o_ k_; have O11 : Aside0 (Own N w11 [RP gr X p 0, cells gx #[.int .i64 (rd_T46 l0 x).f0, .int .i64 (rd_T46 l0 x).f1, .string (rd_T46 l0 x).f2] 46]) := ⟨o_⟩; have K11 : Aside0 (KeepS N w w11) := ⟨K10.out.trans k_⟩; clear c10_0_0 f10_0_0 c10_0_1 f10_0_1 c10_0_2 f10_0_2 c10_1_0 f10_1_0 c10_1_1 f10_1_1 c10_1_2 f10_1_2 n10_0_1 n10_1_0 O10 K10; have c11_0_0 : w11.cell? ⟨gr, 0, none⟩ = some (.string X) := (blk_cell (O11.out.blk (i := 0) rfl) 0).trans rfl; have f11_0_0 : w11.frozen? ⟨gr, 0, none⟩ = false := blk_frozen (O11.out.blk (i := 0) rfl) 0; have c11_0_1 : w11.cell? ⟨gr, 1, none⟩ = some (.int .i64 p) := (blk_cell (O11.out.blk (i := 0) rfl) 1).trans rfl; have f11_0_1 : w11.frozen? ⟨gr, 1, none⟩ = false := blk_frozen (O11.out.blk (i := 0) rfl) 1; have c11_0_2 : w11.cell? ⟨gr, 2, none⟩ = some (.int .i64 0) := (blk_cell (O11.out.blk (i := 0) rfl) 2).trans rfl; have f11_0_2 : w11.frozen? ⟨gr, 2, none⟩ = false := blk_frozen (O11.out.blk (i := 0) rfl) 2; have c11_1_0 : w11.cell? ⟨gx, 0, none⟩ = some (.int .i64 (rd_T46 l0 x).f0) := (blk_cell (O11.out.blk (i := 1) rfl) 0).trans rfl; have f11_1_0 : w11.frozen? ⟨gx, 0, none⟩ = false := blk_frozen (O11.out.blk (i := 1) rfl) 0; have c11_1_1 : w11.cell? ⟨gx, 1, none⟩ = some (.int .i64 (rd_T46 l0 x).f1) := (blk_cell (O11.out.blk (i := 1) rfl) 1).trans rfl; have f11_1_1 : w11.frozen? ⟨gx, 1, none⟩ = false := blk_frozen (O11.out.blk (i := 1) rfl) 1; have c11_1_2 : w11.cell? ⟨gx, 2, none⟩ = some (.string (rd_T46 l0 x).f2) := (blk_cell (O11.out.blk (i := 1) rfl) 2).trans rfl; have f11_1_2 : w11.frozen? ⟨gx, 2, none⟩ = false := blk_frozen (O11.out.blk (i := 1) rfl) 2; have n11_0_1 : gr ≠ gx := O11.out.ne (i := 0) (j := 1) rfl rfl (by decide); have n11_1_0 : gx ≠ gr := O11.out.ne (i := 1) (j := 0) rfl rfl (by decide); clear o_ k_) | ((with_reducible refine gate_callee (f := 19) rfl ?_); refine goesL_ (some 69) rfl rfl Tryd.func19 (by kernel_rfl) rfl #[.pointer (some ⟨gr, 0, none⟩), .int .i64 1152921504606846976] rfl (by (try simp only [List.map_toArray, List.map_cons, List.map_nil]); first | done | rfl) ?_; obtain ⟨N_, on_, nn_, rr_, bb_⟩ := O11.out.frame1 (i := 0) rfl; refine (pNum HT (K11.out.below (Nat.le_refl _) (fun k hk => by rw [HN.out]; exact hk)) (Nat.le_of_not_lt (fun q_ => (O11.out.far (i := 0) rfl) (by rw [HN.out]; exact q_))) HXS.out 1152921504606846976 (rd_T46 l0 x).f1 p2 0 HQ.out on_).mono ?_; rintro e_ w12 ⟨rfl, oo_, kk_⟩; obtain ⟨o_, k_⟩ := bb_ _ _ _ kk_ oo_; refine ⟨_, rfl, ?_⟩; have O12 : Aside0 (Own N w12 [RP gr X p2 0, cells gx #[.int .i64 (rd_T46 l0 x).f0, .int .i64 (rd_T46 l0 x).f1, .string (rd_T46 l0 x).f2] 46]) := ⟨o_⟩; have K12 : Aside0 (KeepS N w w12) := ⟨K11.out.trans k_⟩; clear c11_0_0 f11_0_0 c11_0_1 f11_0_1 c11_0_2 f11_0_2 c11_1_0 f11_1_0 c11_1_1 f11_1_1 c11_1_2 f11_1_2 n11_0_1 n11_1_0 O11 K11; have c12_0_0 : w12.cell? ⟨gr, 0, none⟩ = some (.string X) := (blk_cell (O12.out.blk (i := 0) rfl) 0).trans rfl; have f12_0_0 : w12.frozen? ⟨gr, 0, none⟩ = false := blk_frozen (O12.out.blk (i := 0) rfl) 0; have c12_0_1 : w12.cell? ⟨gr, 1, none⟩ = some (.int .i64 p2) := (blk_cell (O12.out.blk (i := 0) rfl) 1).trans rfl; have f12_0_1 : w12.frozen? ⟨gr, 1, none⟩ = false := blk_frozen (O12.out.blk (i := 0) rfl) 1; have c12_0_2 : w12.cell? ⟨gr, 2, none⟩ = some (.int .i64 0) := (blk_cell (O12.out.blk (i := 0) rfl) 2).trans rfl; have f12_0_2 : w12.frozen? ⟨gr, 2, none⟩ = false := blk_frozen (O12.out.blk (i := 0) rfl) 2; have c12_1_0 : w12.cell? ⟨gx, 0, none⟩ = some (.int .i64 (rd_T46 l0 x).f0) := (blk_cell (O12.out.blk (i := 1) rfl) 0).trans rfl; have f12_1_0 : w12.frozen? ⟨gx, 0, none⟩ = false := blk_frozen (O12.out.blk (i := 1) rfl) 0; have c12_1_1 : w12.cell? ⟨gx, 1, none⟩ = some (.int .i64 (rd_T46 l0 x).f1) := (blk_cell (O12.out.blk (i := 1) rfl) 1).trans rfl; have f12_1_1 : w12.frozen? ⟨gx, 1, none⟩ = false := blk_frozen (O12.out.blk (i := 1) rfl) 1; have c12_1_2 : w12.cell? ⟨gx, 2, none⟩ = some (.string (rd_T46 l0 x).f2) := (blk_cell (O12.out.blk (i := 1) rfl) 2).trans rfl; have f12_1_2 : w12.frozen? ⟨gx, 2, none⟩ = false := blk_frozen (O12.out.blk (i := 1) rfl) 2; have n12_0_1 : gr ≠ gx := O12.out.ne (i := 0) (j := 1) rfl rfl (by decide); have n12_1_0 : gx ≠ gr := O12.out.ne (i := 1) (j := 0) rfl rfl (by decide); clear o_ k_ oo_ kk_ on_ nn_ rr_ bb_))
                  go_roundw
                  case rel => exact ⟨x + 1, p2, by have := HX.out; omega, by have := HX.out; omega, int_eqW (by unfold wrap64; have := HX.out; have := HL200.out; omega), ⟨by have := HI.out.1; have := HP2.out; omega, by have q_ := HST.out.1.2.1; have := HP2.out; omega, by rw [HP2.out]; exact HST.out.2⟩, ⟨O12.out.pick1 (a := 0) rfl⟩, K12⟩
                  case measure => have := HX.out; simp [intOf]; omega
                · have HQ : Aside0 (numR X p 0 1152921504606846976 = (0, p2, 1)) := ⟨by rw [HP2.out]; exact backO HK.out HPW.out HST.out.1 hl⟩
                  have d1 : decide ((rd_T46 l0 x).f1 ≤ 1152921504606846976) = false := decide_eq_false hl
                  have d2 : decide ((rd_T46 l0 x).f1 > 1152921504606846976) = true := decide_eq_true (by omega)
                  have d3 : decide (1152921504606846976 < (rd_T46 l0 x).f1) = true := d2
                  clear hl
                  go_wp2_with (first | ((with_reducible refine gate_dst (N := 10) rfl ?_); refine own_box rfl (D := 10) rfl (cs := #[.int .i64 0, .int .i64 0, .string (⟨#[]⟩ : ByteArray)]) (t := 46) ?hr O9.out ?_; (case hr => first | (go_simp; done) | (go_simp; rfl)); intro gx w10 o_ k_; have O10 : Aside0 (Own N w10 [RP gr X p 0, cells gx #[.int .i64 0, .int .i64 0, .string (⟨#[]⟩ : ByteArray)] 46]) := ⟨o_⟩; have K10 : Aside0 (KeepS N w w10) := ⟨K9.out.trans k_⟩; clear c9_0_0 f9_0_0 c9_0_1 f9_0_1 c9_0_2 f9_0_2 O9 K9; have c10_0_0 : w10.cell? ⟨gr, 0, none⟩ = some (.string X) := (blk_cell (O10.out.blk (i := 0) rfl) 0).trans rfl; have f10_0_0 : w10.frozen? ⟨gr, 0, none⟩ = false := blk_frozen (O10.out.blk (i := 0) rfl) 0; have c10_0_1 : w10.cell? ⟨gr, 1, none⟩ = some (.int .i64 p) := (blk_cell (O10.out.blk (i := 0) rfl) 1).trans rfl; have f10_0_1 : w10.frozen? ⟨gr, 1, none⟩ = false := blk_frozen (O10.out.blk (i := 0) rfl) 1; have c10_0_2 : w10.cell? ⟨gr, 2, none⟩ = some (.int .i64 0) := (blk_cell (O10.out.blk (i := 0) rfl) 2).trans rfl; have f10_0_2 : w10.frozen? ⟨gr, 2, none⟩ = false := blk_frozen (O10.out.blk (i := 0) rfl) 2; have c10_1_0 : w10.cell? ⟨gx, 0, none⟩ = some (.int .i64 0) := (blk_cell (O10.out.blk (i := 1) rfl) 0).trans rfl; have f10_1_0 : w10.frozen? ⟨gx, 0, none⟩ = false := blk_frozen (O10.out.blk (i := 1) rfl) 0; have c10_1_1 : w10.cell? ⟨gx, 1, none⟩ = some (.int .i64 0) := (blk_cell (O10.out.blk (i := 1) rfl) 1).trans rfl; have f10_1_1 : w10.frozen? ⟨gx, 1, none⟩ = false := blk_frozen (O10.out.blk (i := 1) rfl) 1; have c10_1_2 : w10.cell? ⟨gx, 2, none⟩ = some (.string (⟨#[]⟩ : ByteArray)) := (blk_cell (O10.out.blk (i := 1) rfl) 2).trans rfl; have f10_1_2 : w10.frozen? ⟨gx, 2, none⟩ = false := blk_frozen (O10.out.blk (i := 1) rfl) 2; have n10_0_1 : gr ≠ gx := O10.out.ne (i := 0) (j := 1) rfl rfl (by decide); have n10_1_0 : gx ≠ gr := O10.out.ne (i := 1) (j := 0) rfl rfl (by decide); clear o_ k_) | ((with_reducible refine gate_store (t := 46) (p := 10) rfl ?_); refine own_store rfl rfl rfl (w1 := (World.setCell (World.setCell (World.setCell w10 ⟨gx, 0, none⟩ (.int .i64 (rd_T46 l0 x).f0)) ⟨gx, 1, none⟩ (.int .i64 (rd_T46 l0 x).f1)) ⟨gx, 2, none⟩ (.string (rd_T46 l0 x).f2))) (N := N) (l' := [RP gr X p 0, cells gx #[.int .i64 (rd_T46 l0 x).f0, .int .i64 (rd_T46 l0 x).f1, .string (rd_T46 l0 x).f2] 46]) ?hr ?ho ?hk ?_; (case hr => first | (go_simp; done) | (go_simp; rfl)); (case ho => exact (((O10.out.set (i := 1) rfl 0 (.int .i64 (rd_T46 l0 x).f0)).set (i := 1) rfl 1 (.int .i64 (rd_T46 l0 x).f1)).set (i := 1) rfl 2 (.string (rd_T46 l0 x).f2))); (case hk => exact (((KeepS.setCell (O10.out.far (i := 1) rfl) (.int .i64 (rd_T46 l0 x).f0)).trans (KeepS.setCell (O10.out.far (i := 1) rfl) (.int .i64 (rd_T46 l0 x).f1))).trans (KeepS.setCell (O10.out.far (i := 1) rfl) (.string (rd_T46 l0 x).f2)))); intro w11 o_ k_; have O11 : Aside0 (Own N w11 [RP gr X p 0, cells gx #[.int .i64 (rd_T46 l0 x).f0, .int .i64 (rd_T46 l0 x).f1, .string (rd_T46 l0 x).f2] 46]) := ⟨o_⟩; have K11 : Aside0 (KeepS N w w11) := ⟨K10.out.trans k_⟩; clear c10_0_0 f10_0_0 c10_0_1 f10_0_1 c10_0_2 f10_0_2 c10_1_0 f10_1_0 c10_1_1 f10_1_1 c10_1_2 f10_1_2 n10_0_1 n10_1_0 O10 K10; have c11_0_0 : w11.cell? ⟨gr, 0, none⟩ = some (.string X) := (blk_cell (O11.out.blk (i := 0) rfl) 0).trans rfl; have f11_0_0 : w11.frozen? ⟨gr, 0, none⟩ = false := blk_frozen (O11.out.blk (i := 0) rfl) 0; have c11_0_1 : w11.cell? ⟨gr, 1, none⟩ = some (.int .i64 p) := (blk_cell (O11.out.blk (i := 0) rfl) 1).trans rfl; have f11_0_1 : w11.frozen? ⟨gr, 1, none⟩ = false := blk_frozen (O11.out.blk (i := 0) rfl) 1; have c11_0_2 : w11.cell? ⟨gr, 2, none⟩ = some (.int .i64 0) := (blk_cell (O11.out.blk (i := 0) rfl) 2).trans rfl; have f11_0_2 : w11.frozen? ⟨gr, 2, none⟩ = false := blk_frozen (O11.out.blk (i := 0) rfl) 2; have c11_1_0 : w11.cell? ⟨gx, 0, none⟩ = some (.int .i64 (rd_T46 l0 x).f0) := (blk_cell (O11.out.blk (i := 1) rfl) 0).trans rfl; have f11_1_0 : w11.frozen? ⟨gx, 0, none⟩ = false := blk_frozen (O11.out.blk (i := 1) rfl) 0; have c11_1_1 : w11.cell? ⟨gx, 1, none⟩ = some (.int .i64 (rd_T46 l0 x).f1) := (blk_cell (O11.out.blk (i := 1) rfl) 1).trans rfl; have f11_1_1 : w11.frozen? ⟨gx, 1, none⟩ = false := blk_frozen (O11.out.blk (i := 1) rfl) 1; have c11_1_2 : w11.cell? ⟨gx, 2, none⟩ = some (.string (rd_T46 l0 x).f2) := (blk_cell (O11.out.blk (i := 1) rfl) 2).trans rfl; have f11_1_2 : w11.frozen? ⟨gx, 2, none⟩ = false := blk_frozen (O11.out.blk (i := 1) rfl) 2; have n11_0_1 : gr ≠ gx := O11.out.ne (i := 0) (j := 1) rfl rfl (by decide); have n11_1_0 : gx ≠ gr := O11.out.ne (i := 1) (j := 0) rfl rfl (by decide); clear o_ k_) | ((with_reducible refine gate_callee (f := 19) rfl ?_); refine goesL_ (some 69) rfl rfl Tryd.func19 (by kernel_rfl) rfl #[.pointer (some ⟨gr, 0, none⟩), .int .i64 1152921504606846976] rfl (by (try simp only [List.map_toArray, List.map_cons, List.map_nil]); first | done | rfl) ?_; obtain ⟨N_, on_, nn_, rr_, bb_⟩ := O11.out.frame1 (i := 0) rfl; refine (pNum HT (K11.out.below (Nat.le_refl _) (fun k hk => by rw [HN.out]; exact hk)) (Nat.le_of_not_lt (fun q_ => (O11.out.far (i := 0) rfl) (by rw [HN.out]; exact q_))) HXS.out 1152921504606846976 0 p2 1 HQ.out on_).mono ?_; rintro e_ w12 ⟨rfl, oo_, kk_⟩; obtain ⟨o_, k_⟩ := bb_ _ _ _ kk_ oo_; refine ⟨_, rfl, ?_⟩; have O12 : Aside0 (Own N w12 [RP gr X p2 1, cells gx #[.int .i64 (rd_T46 l0 x).f0, .int .i64 (rd_T46 l0 x).f1, .string (rd_T46 l0 x).f2] 46]) := ⟨o_⟩; have K12 : Aside0 (KeepS N w w12) := ⟨K11.out.trans k_⟩; clear c11_0_0 f11_0_0 c11_0_1 f11_0_1 c11_0_2 f11_0_2 c11_1_0 f11_1_0 c11_1_1 f11_1_1 c11_1_2 f11_1_2 n11_0_1 n11_1_0 O11 K11; have c12_0_0 : w12.cell? ⟨gr, 0, none⟩ = some (.string X) := (blk_cell (O12.out.blk (i := 0) rfl) 0).trans rfl; have f12_0_0 : w12.frozen? ⟨gr, 0, none⟩ = false := blk_frozen (O12.out.blk (i := 0) rfl) 0; have c12_0_1 : w12.cell? ⟨gr, 1, none⟩ = some (.int .i64 p2) := (blk_cell (O12.out.blk (i := 0) rfl) 1).trans rfl; have f12_0_1 : w12.frozen? ⟨gr, 1, none⟩ = false := blk_frozen (O12.out.blk (i := 0) rfl) 1; have c12_0_2 : w12.cell? ⟨gr, 2, none⟩ = some (.int .i64 1) := (blk_cell (O12.out.blk (i := 0) rfl) 2).trans rfl; have f12_0_2 : w12.frozen? ⟨gr, 2, none⟩ = false := blk_frozen (O12.out.blk (i := 0) rfl) 2; have c12_1_0 : w12.cell? ⟨gx, 0, none⟩ = some (.int .i64 (rd_T46 l0 x).f0) := (blk_cell (O12.out.blk (i := 1) rfl) 0).trans rfl; have f12_1_0 : w12.frozen? ⟨gx, 0, none⟩ = false := blk_frozen (O12.out.blk (i := 1) rfl) 0; have c12_1_1 : w12.cell? ⟨gx, 1, none⟩ = some (.int .i64 (rd_T46 l0 x).f1) := (blk_cell (O12.out.blk (i := 1) rfl) 1).trans rfl; have f12_1_1 : w12.frozen? ⟨gx, 1, none⟩ = false := blk_frozen (O12.out.blk (i := 1) rfl) 1; have c12_1_2 : w12.cell? ⟨gx, 2, none⟩ = some (.string (rd_T46 l0 x).f2) := (blk_cell (O12.out.blk (i := 1) rfl) 2).trans rfl; have f12_1_2 : w12.frozen? ⟨gx, 2, none⟩ = false := blk_frozen (O12.out.blk (i := 1) rfl) 2; have n12_0_1 : gr ≠ gx := O12.out.ne (i := 0) (j := 1) rfl rfl (by decide); have n12_1_0 : gx ≠ gr := O12.out.ne (i := 1) (j := 0) rfl rfl (by decide); clear o_ k_ oo_ kk_ on_ nn_ rr_ bb_) | ((with_reducible refine gate_callee (f := 22) rfl ?_); refine gate_guard (by rfl) ?_; refine goesL_ (some 86) rfl rfl Tryd.func22 (by kernel_rfl) rfl #[.pointer (some ⟨gr, 0, none⟩)] rfl (by (try simp only [List.map_toArray, List.map_cons, List.map_nil]); first | done | rfl) ?_; obtain ⟨N_, on_, nn_, rr_, bb_⟩ := O12.out.frame1 (i := 0) rfl; refine (pErr (K12.out.below (Nat.le_refl _) (fun k hk => by rw [HN.out]; exact hk)) (Nat.le_of_not_lt (fun q_ => (O12.out.far (i := 0) rfl) (by rw [HN.out]; exact q_))) on_).mono ?_; rintro e_ w13 ⟨rfl, oo_, kk_⟩; obtain ⟨o_, k_⟩ := bb_ _ _ _ kk_ oo_; refine ⟨_, rfl, ?_⟩; have O13 : Aside0 (Own N w13 [RP gr X p2 1, cells gx #[.int .i64 (rd_T46 l0 x).f0, .int .i64 (rd_T46 l0 x).f1, .string (rd_T46 l0 x).f2] 46]) := ⟨o_⟩; have K13 : Aside0 (KeepS N w w13) := ⟨K12.out.trans k_⟩; clear c12_0_0 f12_0_0 c12_0_1 f12_0_1 c12_0_2 f12_0_2 c12_1_0 f12_1_0 c12_1_1 f12_1_1 c12_1_2 f12_1_2 n12_0_1 n12_1_0 O12 K12; have c13_0_0 : w13.cell? ⟨gr, 0, none⟩ = some (.string X) := (blk_cell (O13.out.blk (i := 0) rfl) 0).trans rfl; have f13_0_0 : w13.frozen? ⟨gr, 0, none⟩ = false := blk_frozen (O13.out.blk (i := 0) rfl) 0; have c13_0_1 : w13.cell? ⟨gr, 1, none⟩ = some (.int .i64 p2) := (blk_cell (O13.out.blk (i := 0) rfl) 1).trans rfl; have f13_0_1 : w13.frozen? ⟨gr, 1, none⟩ = false := blk_frozen (O13.out.blk (i := 0) rfl) 1; have c13_0_2 : w13.cell? ⟨gr, 2, none⟩ = some (.int .i64 1) := (blk_cell (O13.out.blk (i := 0) rfl) 2).trans rfl; have f13_0_2 : w13.frozen? ⟨gr, 2, none⟩ = false := blk_frozen (O13.out.blk (i := 0) rfl) 2; have c13_1_0 : w13.cell? ⟨gx, 0, none⟩ = some (.int .i64 (rd_T46 l0 x).f0) := (blk_cell (O13.out.blk (i := 1) rfl) 0).trans rfl; have f13_1_0 : w13.frozen? ⟨gx, 0, none⟩ = false := blk_frozen (O13.out.blk (i := 1) rfl) 0; have c13_1_1 : w13.cell? ⟨gx, 1, none⟩ = some (.int .i64 (rd_T46 l0 x).f1) := (blk_cell (O13.out.blk (i := 1) rfl) 1).trans rfl; have f13_1_1 : w13.frozen? ⟨gx, 1, none⟩ = false := blk_frozen (O13.out.blk (i := 1) rfl) 1; have c13_1_2 : w13.cell? ⟨gx, 2, none⟩ = some (.string (rd_T46 l0 x).f2) := (blk_cell (O13.out.blk (i := 1) rfl) 2).trans rfl; have f13_1_2 : w13.frozen? ⟨gx, 2, none⟩ = false := blk_frozen (O13.out.blk (i := 1) rfl) 2; have n13_0_1 : gr ≠ gx := O13.out.ne (i := 0) (j := 1) rfl rfl (by decide); have n13_1_0 : gx ≠ gr := O13.out.ne (i := 1) (j := 0) rfl rfl (by decide); clear o_ k_ oo_ kk_ on_ nn_ rr_ bb_))
                  go_ret
                  exact ⟨rfl, (K13.out.below (Nat.le_refl _) (fun k hk => by rw [HN.out]; exact hk))⟩
              have hb1 : ((rd_T46 l0 x).f0 == 1) = false := beq_eq_false_iff_ne.2 hk1
              by_cases hk2 : (rd_T46 l0 x).f0 = 2
              · have hb2 : ((rd_T46 l0 x).f0 == 2) = true := beq_iff_eq.2 hk2
                have HK := Aside0.mk hk2
                clear hk2 hk1
                go_wp2_with (first | ((with_reducible refine gate_dst (N := 10) rfl ?_); refine own_box rfl (D := 10) rfl (cs := #[.int .i64 0, .int .i64 0, .string (⟨#[]⟩ : ByteArray)]) (t := 46) ?hr O9.out ?_; (case hr => first | (go_simp; done) | (go_simp; rfl)); intro gx w10 o_ k_; have O10 : Aside0 (Own N w10 [RP gr X p 0, cells gx #[.int .i64 0, .int .i64 0, .string (⟨#[]⟩ : ByteArray)] 46]) := ⟨o_⟩; have K10 : Aside0 (KeepS N w w10) := ⟨K9.out.trans k_⟩; clear c9_0_0 f9_0_0 c9_0_1 f9_0_1 c9_0_2 f9_0_2 O9 K9; have c10_0_0 : w10.cell? ⟨gr, 0, none⟩ = some (.string X) := (blk_cell (O10.out.blk (i := 0) rfl) 0).trans rfl; have f10_0_0 : w10.frozen? ⟨gr, 0, none⟩ = false := blk_frozen (O10.out.blk (i := 0) rfl) 0; have c10_0_1 : w10.cell? ⟨gr, 1, none⟩ = some (.int .i64 p) := (blk_cell (O10.out.blk (i := 0) rfl) 1).trans rfl; have f10_0_1 : w10.frozen? ⟨gr, 1, none⟩ = false := blk_frozen (O10.out.blk (i := 0) rfl) 1; have c10_0_2 : w10.cell? ⟨gr, 2, none⟩ = some (.int .i64 0) := (blk_cell (O10.out.blk (i := 0) rfl) 2).trans rfl; have f10_0_2 : w10.frozen? ⟨gr, 2, none⟩ = false := blk_frozen (O10.out.blk (i := 0) rfl) 2; have c10_1_0 : w10.cell? ⟨gx, 0, none⟩ = some (.int .i64 0) := (blk_cell (O10.out.blk (i := 1) rfl) 0).trans rfl; have f10_1_0 : w10.frozen? ⟨gx, 0, none⟩ = false := blk_frozen (O10.out.blk (i := 1) rfl) 0; have c10_1_1 : w10.cell? ⟨gx, 1, none⟩ = some (.int .i64 0) := (blk_cell (O10.out.blk (i := 1) rfl) 1).trans rfl; have f10_1_1 : w10.frozen? ⟨gx, 1, none⟩ = false := blk_frozen (O10.out.blk (i := 1) rfl) 1; have c10_1_2 : w10.cell? ⟨gx, 2, none⟩ = some (.string (⟨#[]⟩ : ByteArray)) := (blk_cell (O10.out.blk (i := 1) rfl) 2).trans rfl; have f10_1_2 : w10.frozen? ⟨gx, 2, none⟩ = false := blk_frozen (O10.out.blk (i := 1) rfl) 2; have n10_0_1 : gr ≠ gx := O10.out.ne (i := 0) (j := 1) rfl rfl (by decide); have n10_1_0 : gx ≠ gr := O10.out.ne (i := 1) (j := 0) rfl rfl (by decide); clear o_ k_) | ((with_reducible refine gate_store (t := 46) (p := 10) rfl ?_); refine own_store rfl rfl rfl (w1 := (World.setCell (World.setCell (World.setCell w10 ⟨gx, 0, none⟩ (.int .i64 (rd_T46 l0 x).f0)) ⟨gx, 1, none⟩ (.int .i64 (rd_T46 l0 x).f1)) ⟨gx, 2, none⟩ (.string (rd_T46 l0 x).f2))) (N := N) (l' := [RP gr X p 0, cells gx #[.int .i64 (rd_T46 l0 x).f0, .int .i64 (rd_T46 l0 x).f1, .string (rd_T46 l0 x).f2] 46]) ?hr ?ho ?hk ?_; (case hr => first | (go_simp; done) | (go_simp; rfl)); (case ho => exact (((O10.out.set (i := 1) rfl 0 (.int .i64 (rd_T46 l0 x).f0)).set (i := 1) rfl 1 (.int .i64 (rd_T46 l0 x).f1)).set (i := 1) rfl 2 (.string (rd_T46 l0 x).f2))); (case hk => exact (((KeepS.setCell (O10.out.far (i := 1) rfl) (.int .i64 (rd_T46 l0 x).f0)).trans (KeepS.setCell (O10.out.far (i := 1) rfl) (.int .i64 (rd_T46 l0 x).f1))).trans (KeepS.setCell (O10.out.far (i := 1) rfl) (.string (rd_T46 l0 x).f2)))); intro w11 o_ k_; have O11 : Aside0 (Own N w11 [RP gr X p 0, cells gx #[.int .i64 (rd_T46 l0 x).f0, .int .i64 (rd_T46 l0 x).f1, .string (rd_T46 l0 x).f2] 46]) := ⟨o_⟩; have K11 : Aside0 (KeepS N w w11) := ⟨K10.out.trans k_⟩; clear c10_0_0 f10_0_0 c10_0_1 f10_0_1 c10_0_2 f10_0_2 c10_1_0 f10_1_0 c10_1_1 f10_1_1 c10_1_2 f10_1_2 n10_0_1 n10_1_0 O10 K10; have c11_0_0 : w11.cell? ⟨gr, 0, none⟩ = some (.string X) := (blk_cell (O11.out.blk (i := 0) rfl) 0).trans rfl; have f11_0_0 : w11.frozen? ⟨gr, 0, none⟩ = false := blk_frozen (O11.out.blk (i := 0) rfl) 0; have c11_0_1 : w11.cell? ⟨gr, 1, none⟩ = some (.int .i64 p) := (blk_cell (O11.out.blk (i := 0) rfl) 1).trans rfl; have f11_0_1 : w11.frozen? ⟨gr, 1, none⟩ = false := blk_frozen (O11.out.blk (i := 0) rfl) 1; have c11_0_2 : w11.cell? ⟨gr, 2, none⟩ = some (.int .i64 0) := (blk_cell (O11.out.blk (i := 0) rfl) 2).trans rfl; have f11_0_2 : w11.frozen? ⟨gr, 2, none⟩ = false := blk_frozen (O11.out.blk (i := 0) rfl) 2; have c11_1_0 : w11.cell? ⟨gx, 0, none⟩ = some (.int .i64 (rd_T46 l0 x).f0) := (blk_cell (O11.out.blk (i := 1) rfl) 0).trans rfl; have f11_1_0 : w11.frozen? ⟨gx, 0, none⟩ = false := blk_frozen (O11.out.blk (i := 1) rfl) 0; have c11_1_1 : w11.cell? ⟨gx, 1, none⟩ = some (.int .i64 (rd_T46 l0 x).f1) := (blk_cell (O11.out.blk (i := 1) rfl) 1).trans rfl; have f11_1_1 : w11.frozen? ⟨gx, 1, none⟩ = false := blk_frozen (O11.out.blk (i := 1) rfl) 1; have c11_1_2 : w11.cell? ⟨gx, 2, none⟩ = some (.string (rd_T46 l0 x).f2) := (blk_cell (O11.out.blk (i := 1) rfl) 2).trans rfl; have f11_1_2 : w11.frozen? ⟨gx, 2, none⟩ = false := blk_frozen (O11.out.blk (i := 1) rfl) 2; have n11_0_1 : gr ≠ gx := O11.out.ne (i := 0) (j := 1) rfl rfl (by decide); have n11_1_0 : gx ≠ gr := O11.out.ne (i := 1) (j := 0) rfl rfl (by decide); clear o_ k_))
                refine start_ (n := 5) (S := fun w' => w'.cell? ⟨gx, 0, none⟩ = some (.int .i64 (rd_T46 l0 x).f0) ∧ w'.cell? ⟨gx, 1, none⟩ = some (.int .i64 (rd_T46 l0 x).f1) ∧ w'.cell? ⟨gx, 2, none⟩ = some (.string (rd_T46 l0 x).f2)) (ds := []) #[false, false, false, false, false] (by kernel_rfl) rfl rfl ⟨((blk_cell (O11.out.blk (i := 1) rfl) 0).trans rfl), ((blk_cell (O11.out.blk (i := 1) rfl) 1).trans rfl), ((blk_cell (O11.out.blk (i := 1) rfl) 2).trans rfl)⟩ (fun hHeld => ?_)
                obtain ⟨w12, hw_⟩ : ∃ W, W = w11.drew := ⟨_, rfl⟩
                have o_ := O11.out.drew
                have k_ : KeepS N w11 w11.drew := KeepS.drew
                rw [← hw_] at o_ k_ hHeld ⊢
                clear hw_
                have O12 : Aside0 (Own N w12 [RP gr X p 0, cells gx #[.int .i64 (rd_T46 l0 x).f0, .int .i64 (rd_T46 l0 x).f1, .string (rd_T46 l0 x).f2] 46]) := ⟨o_⟩
                have K12 : Aside0 (KeepS N w w12) := ⟨K11.out.trans k_⟩
                clear c11_0_0 f11_0_0 c11_0_1 f11_0_1 c11_0_2 f11_0_2 c11_1_0 f11_1_0 c11_1_1 f11_1_1 c11_1_2 f11_1_2 n11_0_1 n11_1_0 O11 K11
                have c12_0_0 : w12.cell? ⟨gr, 0, none⟩ = some (.string X) := (blk_cell (O12.out.blk (i := 0) rfl) 0).trans rfl
                have f12_0_0 : w12.frozen? ⟨gr, 0, none⟩ = false := blk_frozen (O12.out.blk (i := 0) rfl) 0
                have c12_0_1 : w12.cell? ⟨gr, 1, none⟩ = some (.int .i64 p) := (blk_cell (O12.out.blk (i := 0) rfl) 1).trans rfl
                have f12_0_1 : w12.frozen? ⟨gr, 1, none⟩ = false := blk_frozen (O12.out.blk (i := 0) rfl) 1
                have c12_0_2 : w12.cell? ⟨gr, 2, none⟩ = some (.int .i64 0) := (blk_cell (O12.out.blk (i := 0) rfl) 2).trans rfl
                have f12_0_2 : w12.frozen? ⟨gr, 2, none⟩ = false := blk_frozen (O12.out.blk (i := 0) rfl) 2
                have c12_1_0 : w12.cell? ⟨gx, 0, none⟩ = some (.int .i64 (rd_T46 l0 x).f0) := (blk_cell (O12.out.blk (i := 1) rfl) 0).trans rfl
                have f12_1_0 : w12.frozen? ⟨gx, 0, none⟩ = false := blk_frozen (O12.out.blk (i := 1) rfl) 0
                have c12_1_1 : w12.cell? ⟨gx, 1, none⟩ = some (.int .i64 (rd_T46 l0 x).f1) := (blk_cell (O12.out.blk (i := 1) rfl) 1).trans rfl
                have f12_1_1 : w12.frozen? ⟨gx, 1, none⟩ = false := blk_frozen (O12.out.blk (i := 1) rfl) 1
                have c12_1_2 : w12.cell? ⟨gx, 2, none⟩ = some (.string (rd_T46 l0 x).f2) := (blk_cell (O12.out.blk (i := 1) rfl) 2).trans rfl
                have f12_1_2 : w12.frozen? ⟨gx, 2, none⟩ = false := blk_frozen (O12.out.blk (i := 1) rfl) 2
                have n12_0_1 : gr ≠ gx := O12.out.ne (i := 0) (j := 1) rfl rfl (by decide)
                have n12_1_0 : gx ≠ gr := O12.out.ne (i := 1) (j := 0) rfl rfl (by decide)
                clear o_ k_
                refine pure_ (i := 0) (N := some 91) (v := ?_) (a' := ?_) #[true, false, false, false, false] rfl rfl (by kernel_rfl) (fun _ _ _ h => h) (Or.inl ⟨by rfl, ?_⟩) ?_ ?_
                rotate_left
                · intro w'
                  go_simp
                  with_reducible rfl
                rotate_left
                · simp only [Act.put, List.setIfInBounds_toArray, List.set_cons_zero, List.set_cons_succ, i64_w, i32_w]
                  rfl
                refine pure_ (i := 2) (N := some 93) (v := ?_) (a' := ?_) #[true, false, true, false, false] rfl rfl (by kernel_rfl) (fun _ _ _ h => h) (Or.inl ⟨by rfl, ?_⟩) ?_ ?_
                rotate_left
                · intro w'
                  go_simp
                  with_reducible rfl
                rotate_left
                · simp only [Act.put, List.setIfInBounds_toArray, List.set_cons_zero, List.set_cons_succ, i64_w, i32_w]
                  rfl
                refine take_ (i := 3) (N := some 94) (v := ?_) (a' := ?_) #[true, false, true, true, false] rfl rfl (by kernel_rfl) (fun _ _ _ h => h) (Or.inl ⟨by rfl, ?_⟩) hHeld ?_ ?_
                rotate_left
                · rintro w' ⟨s0, s1, s2⟩
                  go_simp
                  with_reducible rfl
                rotate_left
                · simp only [Act.put, List.setIfInBounds_toArray, List.set_cons_zero, List.set_cons_succ, i64_w, i32_w]
                  rfl
                refine one_ (i := 1) (N := some 92) #[true, true, true, true, false] rfl rfl (by kernel_rfl) (by decide) (fun K_ hK_ => ?_)
                have HQ : Aside0 (sgnR X p 0 = ((rd_T46 l0 x).f1, p2, 0)) := ⟨by rw [HP2.out]; exact backS HK.out HPW.out HST.out.1⟩
                refine goes_ Tryd.func25 (by kernel_rfl) rfl #[.pointer (some ⟨gr, 0, none⟩)] (by rfl) rfl rfl (by (try simp only [List.map_toArray, List.map_cons, List.map_nil]); first | done | rfl) ?_
                obtain ⟨N_, on_, nn_, rr_, bb_⟩ := O12.out.frame1 (i := 0) rfl
                refine (pSgn HT (K12.out.below (Nat.le_refl _) (fun k hk => by rw [HN.out]; exact hk)) (Nat.le_of_not_lt (fun q_ => (O12.out.far (i := 0) rfl) (by rw [HN.out]; exact q_))) HXS.out (rd_T46 l0 x).f1 p2 0 HQ.out on_).mono ?_
                rintro e_ w13 ⟨rfl, oo_, kk_⟩
                obtain ⟨o_, k_⟩ := bb_ _ _ _ kk_ oo_
                refine ⟨_, rfl, ?_⟩
                have O13 : Aside0 (Own N w13 [RP gr X p2 0, cells gx #[.int .i64 (rd_T46 l0 x).f0, .int .i64 (rd_T46 l0 x).f1, .string (rd_T46 l0 x).f2] 46]) := ⟨o_⟩
                have K13 : Aside0 (KeepS N w w13) := ⟨K12.out.trans k_⟩
                clear c12_0_0 f12_0_0 c12_0_1 f12_0_1 c12_0_2 f12_0_2 c12_1_0 f12_1_0 c12_1_1 f12_1_1 c12_1_2 f12_1_2 n12_0_1 n12_1_0 O12 K12
                have c13_0_0 : w13.cell? ⟨gr, 0, none⟩ = some (.string X) := (blk_cell (O13.out.blk (i := 0) rfl) 0).trans rfl
                have f13_0_0 : w13.frozen? ⟨gr, 0, none⟩ = false := blk_frozen (O13.out.blk (i := 0) rfl) 0
                have c13_0_1 : w13.cell? ⟨gr, 1, none⟩ = some (.int .i64 p2) := (blk_cell (O13.out.blk (i := 0) rfl) 1).trans rfl
                have f13_0_1 : w13.frozen? ⟨gr, 1, none⟩ = false := blk_frozen (O13.out.blk (i := 0) rfl) 1
                have c13_0_2 : w13.cell? ⟨gr, 2, none⟩ = some (.int .i64 0) := (blk_cell (O13.out.blk (i := 0) rfl) 2).trans rfl
                have f13_0_2 : w13.frozen? ⟨gr, 2, none⟩ = false := blk_frozen (O13.out.blk (i := 0) rfl) 2
                have c13_1_0 : w13.cell? ⟨gx, 0, none⟩ = some (.int .i64 (rd_T46 l0 x).f0) := (blk_cell (O13.out.blk (i := 1) rfl) 0).trans rfl
                have f13_1_0 : w13.frozen? ⟨gx, 0, none⟩ = false := blk_frozen (O13.out.blk (i := 1) rfl) 0
                have c13_1_1 : w13.cell? ⟨gx, 1, none⟩ = some (.int .i64 (rd_T46 l0 x).f1) := (blk_cell (O13.out.blk (i := 1) rfl) 1).trans rfl
                have f13_1_1 : w13.frozen? ⟨gx, 1, none⟩ = false := blk_frozen (O13.out.blk (i := 1) rfl) 1
                have c13_1_2 : w13.cell? ⟨gx, 2, none⟩ = some (.string (rd_T46 l0 x).f2) := (blk_cell (O13.out.blk (i := 1) rfl) 2).trans rfl
                have f13_1_2 : w13.frozen? ⟨gx, 2, none⟩ = false := blk_frozen (O13.out.blk (i := 1) rfl) 2
                have n13_0_1 : gr ≠ gx := O13.out.ne (i := 0) (j := 1) rfl rfl (by decide)
                have n13_1_0 : gx ≠ gr := O13.out.ne (i := 1) (j := 0) rfl rfl (by decide)
                clear o_ k_ oo_ kk_ on_ nn_ rr_ bb_
                clear hHeld
                refine hK_.out _ _ ⟨((blk_cell (O13.out.blk (i := 1) rfl) 0).trans rfl), ((blk_cell (O13.out.blk (i := 1) rfl) 1).trans rfl), ((blk_cell (O13.out.blk (i := 1) rfl) 2).trans rfl)⟩ (fun hHeld => ?_)
                clear hK_ K_
                refine norm_ (a' := ?_) ?_ ?_
                rotate_left
                · simp only [Act.put, List.setIfInBounds_toArray, List.set_cons_zero, List.set_cons_succ, i64_w, i32_w]
                  rfl
                refine pure_ (i := 4) (N := some 95) (v := ?_) (a' := ?_) #[true, true, true, true, true] rfl rfl (by kernel_rfl) (fun _ _ _ h => h) (Or.inl ⟨by rfl, ?_⟩) ?_ ?_
                rotate_left
                · intro w'
                  go_simp
                  with_reducible rfl
                rotate_left
                · simp only [Act.put, List.setIfInBounds_toArray, List.set_cons_zero, List.set_cons_succ, i64_w, i32_w]
                  rfl
                refine done_ (by kernel_rfl) ?_
                clear hHeld
                go_wp2
                go_roundw
                case rel => exact ⟨x + 1, p2, by have := HX.out; omega, by have := HX.out; omega, int_eqW (by unfold wrap64; have := HX.out; have := HL200.out; omega), ⟨by have := HI.out.1; have := HP2.out; omega, by have q_ := HST.out.1.2.1; have := HP2.out; omega, by rw [HP2.out]; exact HST.out.2⟩, ⟨O13.out.pick1 (a := 0) rfl⟩, K13⟩
                case measure => have := HX.out; simp [intOf]; omega
              have hb2 : ((rd_T46 l0 x).f0 == 2) = false := beq_eq_false_iff_ne.2 hk2
              have HK := Aside0.mk (And.intro hk1 hk2)
              clear hk1 hk2
              go_wp2_with (first | ((with_reducible refine gate_dst (N := 10) rfl ?_); refine own_box rfl (D := 10) rfl (cs := #[.int .i64 0, .int .i64 0, .string (⟨#[]⟩ : ByteArray)]) (t := 46) ?hr O9.out ?_; (case hr => first | (go_simp; done) | (go_simp; rfl)); intro gx w10 o_ k_; have O10 : Aside0 (Own N w10 [RP gr X p 0, cells gx #[.int .i64 0, .int .i64 0, .string (⟨#[]⟩ : ByteArray)] 46]) := ⟨o_⟩; have K10 : Aside0 (KeepS N w w10) := ⟨K9.out.trans k_⟩; clear c9_0_0 f9_0_0 c9_0_1 f9_0_1 c9_0_2 f9_0_2 O9 K9; have c10_0_0 : w10.cell? ⟨gr, 0, none⟩ = some (.string X) := (blk_cell (O10.out.blk (i := 0) rfl) 0).trans rfl; have f10_0_0 : w10.frozen? ⟨gr, 0, none⟩ = false := blk_frozen (O10.out.blk (i := 0) rfl) 0; have c10_0_1 : w10.cell? ⟨gr, 1, none⟩ = some (.int .i64 p) := (blk_cell (O10.out.blk (i := 0) rfl) 1).trans rfl; have f10_0_1 : w10.frozen? ⟨gr, 1, none⟩ = false := blk_frozen (O10.out.blk (i := 0) rfl) 1; have c10_0_2 : w10.cell? ⟨gr, 2, none⟩ = some (.int .i64 0) := (blk_cell (O10.out.blk (i := 0) rfl) 2).trans rfl; have f10_0_2 : w10.frozen? ⟨gr, 2, none⟩ = false := blk_frozen (O10.out.blk (i := 0) rfl) 2; have c10_1_0 : w10.cell? ⟨gx, 0, none⟩ = some (.int .i64 0) := (blk_cell (O10.out.blk (i := 1) rfl) 0).trans rfl; have f10_1_0 : w10.frozen? ⟨gx, 0, none⟩ = false := blk_frozen (O10.out.blk (i := 1) rfl) 0; have c10_1_1 : w10.cell? ⟨gx, 1, none⟩ = some (.int .i64 0) := (blk_cell (O10.out.blk (i := 1) rfl) 1).trans rfl; have f10_1_1 : w10.frozen? ⟨gx, 1, none⟩ = false := blk_frozen (O10.out.blk (i := 1) rfl) 1; have c10_1_2 : w10.cell? ⟨gx, 2, none⟩ = some (.string (⟨#[]⟩ : ByteArray)) := (blk_cell (O10.out.blk (i := 1) rfl) 2).trans rfl; have f10_1_2 : w10.frozen? ⟨gx, 2, none⟩ = false := blk_frozen (O10.out.blk (i := 1) rfl) 2; have n10_0_1 : gr ≠ gx := O10.out.ne (i := 0) (j := 1) rfl rfl (by decide); have n10_1_0 : gx ≠ gr := O10.out.ne (i := 1) (j := 0) rfl rfl (by decide); clear o_ k_) | ((with_reducible refine gate_store (t := 46) (p := 10) rfl ?_); refine own_store rfl rfl rfl (w1 := (World.setCell (World.setCell (World.setCell w10 ⟨gx, 0, none⟩ (.int .i64 (rd_T46 l0 x).f0)) ⟨gx, 1, none⟩ (.int .i64 (rd_T46 l0 x).f1)) ⟨gx, 2, none⟩ (.string (rd_T46 l0 x).f2))) (N := N) (l' := [RP gr X p 0, cells gx #[.int .i64 (rd_T46 l0 x).f0, .int .i64 (rd_T46 l0 x).f1, .string (rd_T46 l0 x).f2] 46]) ?hr ?ho ?hk ?_; (case hr => first | (go_simp; done) | (go_simp; rfl)); (case ho => exact (((O10.out.set (i := 1) rfl 0 (.int .i64 (rd_T46 l0 x).f0)).set (i := 1) rfl 1 (.int .i64 (rd_T46 l0 x).f1)).set (i := 1) rfl 2 (.string (rd_T46 l0 x).f2))); (case hk => exact (((KeepS.setCell (O10.out.far (i := 1) rfl) (.int .i64 (rd_T46 l0 x).f0)).trans (KeepS.setCell (O10.out.far (i := 1) rfl) (.int .i64 (rd_T46 l0 x).f1))).trans (KeepS.setCell (O10.out.far (i := 1) rfl) (.string (rd_T46 l0 x).f2)))); intro w11 o_ k_; have O11 : Aside0 (Own N w11 [RP gr X p 0, cells gx #[.int .i64 (rd_T46 l0 x).f0, .int .i64 (rd_T46 l0 x).f1, .string (rd_T46 l0 x).f2] 46]) := ⟨o_⟩; have K11 : Aside0 (KeepS N w w11) := ⟨K10.out.trans k_⟩; clear c10_0_0 f10_0_0 c10_0_1 f10_0_1 c10_0_2 f10_0_2 c10_1_0 f10_1_0 c10_1_1 f10_1_1 c10_1_2 f10_1_2 n10_0_1 n10_1_0 O10 K10; have c11_0_0 : w11.cell? ⟨gr, 0, none⟩ = some (.string X) := (blk_cell (O11.out.blk (i := 0) rfl) 0).trans rfl; have f11_0_0 : w11.frozen? ⟨gr, 0, none⟩ = false := blk_frozen (O11.out.blk (i := 0) rfl) 0; have c11_0_1 : w11.cell? ⟨gr, 1, none⟩ = some (.int .i64 p) := (blk_cell (O11.out.blk (i := 0) rfl) 1).trans rfl; have f11_0_1 : w11.frozen? ⟨gr, 1, none⟩ = false := blk_frozen (O11.out.blk (i := 0) rfl) 1; have c11_0_2 : w11.cell? ⟨gr, 2, none⟩ = some (.int .i64 0) := (blk_cell (O11.out.blk (i := 0) rfl) 2).trans rfl; have f11_0_2 : w11.frozen? ⟨gr, 2, none⟩ = false := blk_frozen (O11.out.blk (i := 0) rfl) 2; have c11_1_0 : w11.cell? ⟨gx, 0, none⟩ = some (.int .i64 (rd_T46 l0 x).f0) := (blk_cell (O11.out.blk (i := 1) rfl) 0).trans rfl; have f11_1_0 : w11.frozen? ⟨gx, 0, none⟩ = false := blk_frozen (O11.out.blk (i := 1) rfl) 0; have c11_1_1 : w11.cell? ⟨gx, 1, none⟩ = some (.int .i64 (rd_T46 l0 x).f1) := (blk_cell (O11.out.blk (i := 1) rfl) 1).trans rfl; have f11_1_1 : w11.frozen? ⟨gx, 1, none⟩ = false := blk_frozen (O11.out.blk (i := 1) rfl) 1; have c11_1_2 : w11.cell? ⟨gx, 2, none⟩ = some (.string (rd_T46 l0 x).f2) := (blk_cell (O11.out.blk (i := 1) rfl) 2).trans rfl; have f11_1_2 : w11.frozen? ⟨gx, 2, none⟩ = false := blk_frozen (O11.out.blk (i := 1) rfl) 2; have n11_0_1 : gr ≠ gx := O11.out.ne (i := 0) (j := 1) rfl rfl (by decide); have n11_1_0 : gx ≠ gr := O11.out.ne (i := 1) (j := 0) rfl rfl (by decide); clear o_ k_))
              refine start_ (n := 5) (S := fun w' => w'.cell? ⟨gx, 0, none⟩ = some (.int .i64 (rd_T46 l0 x).f0) ∧ w'.cell? ⟨gx, 1, none⟩ = some (.int .i64 (rd_T46 l0 x).f1) ∧ w'.cell? ⟨gx, 2, none⟩ = some (.string (rd_T46 l0 x).f2)) (ds := []) #[false, false, false, false, false] (by kernel_rfl) rfl rfl ⟨((blk_cell (O11.out.blk (i := 1) rfl) 0).trans rfl), ((blk_cell (O11.out.blk (i := 1) rfl) 1).trans rfl), ((blk_cell (O11.out.blk (i := 1) rfl) 2).trans rfl)⟩ (fun hHeld => ?_)
              obtain ⟨w12, hw_⟩ : ∃ W, W = w11.drew := ⟨_, rfl⟩
              have o_ := O11.out.drew
              have k_ : KeepS N w11 w11.drew := KeepS.drew
              rw [← hw_] at o_ k_ hHeld ⊢
              clear hw_
              have O12 : Aside0 (Own N w12 [RP gr X p 0, cells gx #[.int .i64 (rd_T46 l0 x).f0, .int .i64 (rd_T46 l0 x).f1, .string (rd_T46 l0 x).f2] 46]) := ⟨o_⟩
              have K12 : Aside0 (KeepS N w w12) := ⟨K11.out.trans k_⟩
              clear c11_0_0 f11_0_0 c11_0_1 f11_0_1 c11_0_2 f11_0_2 c11_1_0 f11_1_0 c11_1_1 f11_1_1 c11_1_2 f11_1_2 n11_0_1 n11_1_0 O11 K11
              have c12_0_0 : w12.cell? ⟨gr, 0, none⟩ = some (.string X) := (blk_cell (O12.out.blk (i := 0) rfl) 0).trans rfl
              have f12_0_0 : w12.frozen? ⟨gr, 0, none⟩ = false := blk_frozen (O12.out.blk (i := 0) rfl) 0
              have c12_0_1 : w12.cell? ⟨gr, 1, none⟩ = some (.int .i64 p) := (blk_cell (O12.out.blk (i := 0) rfl) 1).trans rfl
              have f12_0_1 : w12.frozen? ⟨gr, 1, none⟩ = false := blk_frozen (O12.out.blk (i := 0) rfl) 1
              have c12_0_2 : w12.cell? ⟨gr, 2, none⟩ = some (.int .i64 0) := (blk_cell (O12.out.blk (i := 0) rfl) 2).trans rfl
              have f12_0_2 : w12.frozen? ⟨gr, 2, none⟩ = false := blk_frozen (O12.out.blk (i := 0) rfl) 2
              have c12_1_0 : w12.cell? ⟨gx, 0, none⟩ = some (.int .i64 (rd_T46 l0 x).f0) := (blk_cell (O12.out.blk (i := 1) rfl) 0).trans rfl
              have f12_1_0 : w12.frozen? ⟨gx, 0, none⟩ = false := blk_frozen (O12.out.blk (i := 1) rfl) 0
              have c12_1_1 : w12.cell? ⟨gx, 1, none⟩ = some (.int .i64 (rd_T46 l0 x).f1) := (blk_cell (O12.out.blk (i := 1) rfl) 1).trans rfl
              have f12_1_1 : w12.frozen? ⟨gx, 1, none⟩ = false := blk_frozen (O12.out.blk (i := 1) rfl) 1
              have c12_1_2 : w12.cell? ⟨gx, 2, none⟩ = some (.string (rd_T46 l0 x).f2) := (blk_cell (O12.out.blk (i := 1) rfl) 2).trans rfl
              have f12_1_2 : w12.frozen? ⟨gx, 2, none⟩ = false := blk_frozen (O12.out.blk (i := 1) rfl) 2
              have n12_0_1 : gr ≠ gx := O12.out.ne (i := 0) (j := 1) rfl rfl (by decide)
              have n12_1_0 : gx ≠ gr := O12.out.ne (i := 1) (j := 0) rfl rfl (by decide)
              clear o_ k_
              refine pure_ (i := 0) (N := some 61) (v := ?_) (a' := ?_) #[true, false, false, false, false] rfl rfl (by kernel_rfl) (fun _ _ _ h => h) (Or.inl ⟨by rfl, ?_⟩) ?_ ?_
              rotate_left
              · intro w'
                go_simp
                with_reducible rfl
              rotate_left
              · simp only [Act.put, List.setIfInBounds_toArray, List.set_cons_zero, List.set_cons_succ, i64_w, i32_w]
                rfl
              refine pure_ (i := 2) (N := some 63) (v := ?_) (a' := ?_) #[true, false, true, false, false] rfl rfl (by kernel_rfl) (fun _ _ _ h => h) (Or.inl ⟨by rfl, ?_⟩) ?_ ?_
              rotate_left
              · intro w'
                go_simp
                with_reducible rfl
              rotate_left
              · simp only [Act.put, List.setIfInBounds_toArray, List.set_cons_zero, List.set_cons_succ, i64_w, i32_w]
                rfl
              refine take_ (i := 3) (N := some 64) (v := ?_) (a' := ?_) #[true, false, true, true, false] rfl rfl (by kernel_rfl) (fun _ _ _ h => h) (Or.inl ⟨by rfl, ?_⟩) hHeld ?_ ?_
              rotate_left
              · rintro w' ⟨s0, s1, s2⟩
                go_simp
                with_reducible rfl
              rotate_left
              · simp only [Act.put, List.setIfInBounds_toArray, List.set_cons_zero, List.set_cons_succ, i64_w, i32_w]
                rfl
              refine one_ (i := 1) (N := some 62) #[true, true, true, true, false] rfl rfl (by kernel_rfl) (by decide) (fun K_ hK_ => ?_)
              have HQ : Aside0 (txtR X p 0 200 = ((rd_T46 l0 x).f2, p2, 0)) := ⟨by rw [HP2.out]; exact backT HK.out.1 HK.out.2 HST.out.1 HS2.out⟩
              refine goes_ Tryd.func20 (by kernel_rfl) rfl #[.pointer (some ⟨gr, 0, none⟩), .int .i64 200] (by rfl) rfl rfl (by (try simp only [List.map_toArray, List.map_cons, List.map_nil]); first | done | rfl) ?_
              obtain ⟨N_, on_, nn_, rr_, bb_⟩ := O12.out.frame1 (i := 0) rfl
              refine (pTxt HT (K12.out.below (Nat.le_refl _) (fun k hk => by rw [HN.out]; exact hk)) (Nat.le_of_not_lt (fun q_ => (O12.out.far (i := 0) rfl) (by rw [HN.out]; exact q_))) HXS.out HI.out.1 HI.out.2.1 200 (rd_T46 l0 x).f2 p2 0 HQ.out on_).mono ?_
              rintro e_ w13 ⟨rfl, oo_, kk_⟩
              obtain ⟨o_, k_⟩ := bb_ _ _ _ kk_ oo_
              refine ⟨_, rfl, ?_⟩
              have O13 : Aside0 (Own N w13 [RP gr X p2 0, cells gx #[.int .i64 (rd_T46 l0 x).f0, .int .i64 (rd_T46 l0 x).f1, .string (rd_T46 l0 x).f2] 46]) := ⟨o_⟩
              have K13 : Aside0 (KeepS N w w13) := ⟨K12.out.trans k_⟩
              clear c12_0_0 f12_0_0 c12_0_1 f12_0_1 c12_0_2 f12_0_2 c12_1_0 f12_1_0 c12_1_1 f12_1_1 c12_1_2 f12_1_2 n12_0_1 n12_1_0 O12 K12
              have c13_0_0 : w13.cell? ⟨gr, 0, none⟩ = some (.string X) := (blk_cell (O13.out.blk (i := 0) rfl) 0).trans rfl
              have f13_0_0 : w13.frozen? ⟨gr, 0, none⟩ = false := blk_frozen (O13.out.blk (i := 0) rfl) 0
              have c13_0_1 : w13.cell? ⟨gr, 1, none⟩ = some (.int .i64 p2) := (blk_cell (O13.out.blk (i := 0) rfl) 1).trans rfl
              have f13_0_1 : w13.frozen? ⟨gr, 1, none⟩ = false := blk_frozen (O13.out.blk (i := 0) rfl) 1
              have c13_0_2 : w13.cell? ⟨gr, 2, none⟩ = some (.int .i64 0) := (blk_cell (O13.out.blk (i := 0) rfl) 2).trans rfl
              have f13_0_2 : w13.frozen? ⟨gr, 2, none⟩ = false := blk_frozen (O13.out.blk (i := 0) rfl) 2
              have c13_1_0 : w13.cell? ⟨gx, 0, none⟩ = some (.int .i64 (rd_T46 l0 x).f0) := (blk_cell (O13.out.blk (i := 1) rfl) 0).trans rfl
              have f13_1_0 : w13.frozen? ⟨gx, 0, none⟩ = false := blk_frozen (O13.out.blk (i := 1) rfl) 0
              have c13_1_1 : w13.cell? ⟨gx, 1, none⟩ = some (.int .i64 (rd_T46 l0 x).f1) := (blk_cell (O13.out.blk (i := 1) rfl) 1).trans rfl
              have f13_1_1 : w13.frozen? ⟨gx, 1, none⟩ = false := blk_frozen (O13.out.blk (i := 1) rfl) 1
              have c13_1_2 : w13.cell? ⟨gx, 2, none⟩ = some (.string (rd_T46 l0 x).f2) := (blk_cell (O13.out.blk (i := 1) rfl) 2).trans rfl
              have f13_1_2 : w13.frozen? ⟨gx, 2, none⟩ = false := blk_frozen (O13.out.blk (i := 1) rfl) 2
              have n13_0_1 : gr ≠ gx := O13.out.ne (i := 0) (j := 1) rfl rfl (by decide)
              have n13_1_0 : gx ≠ gr := O13.out.ne (i := 1) (j := 0) rfl rfl (by decide)
              clear o_ k_ oo_ kk_ on_ nn_ rr_ bb_
              clear hHeld
              refine hK_.out _ _ ⟨((blk_cell (O13.out.blk (i := 1) rfl) 0).trans rfl), ((blk_cell (O13.out.blk (i := 1) rfl) 1).trans rfl), ((blk_cell (O13.out.blk (i := 1) rfl) 2).trans rfl)⟩ (fun hHeld => ?_)
              clear hK_ K_
              refine norm_ (a' := ?_) ?_ ?_
              rotate_left
              · simp only [Act.put, List.setIfInBounds_toArray, List.set_cons_zero, List.set_cons_succ, i64_w, i32_w]
                rfl
              refine pure_ (i := 4) (N := some 65) (v := ?_) (a' := ?_) #[true, true, true, true, true] rfl rfl (by kernel_rfl) (fun _ _ _ h => h) (Or.inl ⟨by rfl, ?_⟩) ?_ ?_
              rotate_left
              · intro w'
                go_simp
                with_reducible rfl
              rotate_left
              · simp only [Act.put, List.setIfInBounds_toArray, List.set_cons_zero, List.set_cons_succ, i64_w, i32_w]
                rfl
              refine done_ (by kernel_rfl) ?_
              clear hHeld
              go_wp2
              go_roundw
              case rel => exact ⟨x + 1, p2, by have := HX.out; omega, by have := HX.out; omega, int_eqW (by unfold wrap64; have := HX.out; have := HL200.out; omega), ⟨by have := HI.out.1; have := HP2.out; omega, by have q_ := HST.out.1.2.1; have := HP2.out; omega, by rw [HP2.out]; exact HST.out.2⟩, ⟨O13.out.pick1 (a := 0) rfl⟩, K13⟩
              case measure => have := HX.out; simp [intOf]; omega
            · have hxe : x = (l0.length : Int) := by omega
              subst hxe
              have hd : decide ((l0.length : Int) < (l0.length : Int)) = false := decide_eq_false (Int.lt_irrefl _)
              have HEN := Aside0.mk (rest_end HI.out.2.2)
              clear hlt hx0 hx1 hF2 hLx
              have O10 : Aside0 (Own N wr [RP gr X p 0]) := ⟨OA.out⟩
              have K10 : Aside0 (KeepS N w wr) := ⟨KA.out⟩
              have c10_0_0 : wr.cell? ⟨gr, 0, none⟩ = some (.string X) := (blk_cell (O10.out.blk (i := 0) rfl) 0).trans rfl
              have f10_0_0 : wr.frozen? ⟨gr, 0, none⟩ = false := blk_frozen (O10.out.blk (i := 0) rfl) 0
              have c10_0_1 : wr.cell? ⟨gr, 1, none⟩ = some (.int .i64 p) := (blk_cell (O10.out.blk (i := 0) rfl) 1).trans rfl
              have f10_0_1 : wr.frozen? ⟨gr, 1, none⟩ = false := blk_frozen (O10.out.blk (i := 0) rfl) 1
              have c10_0_2 : wr.cell? ⟨gr, 2, none⟩ = some (.int .i64 0) := (blk_cell (O10.out.blk (i := 0) rfl) 2).trans rfl
              have f10_0_2 : wr.frozen? ⟨gr, 2, none⟩ = false := blk_frozen (O10.out.blk (i := 0) rfl) 2
              clear OA KA
              go_wp2_with (first | ((with_reducible refine gate_callee (f := 21) rfl ?_); refine goesL_ (some 98) rfl rfl Tryd.func21 (by kernel_rfl) rfl #[.pointer (some ⟨gr, 0, none⟩)] rfl (by (try simp only [List.map_toArray, List.map_cons, List.map_nil]); first | done | rfl) ?_; obtain ⟨N_, on_, nn_, rr_, bb_⟩ := O10.out.frame1 (i := 0) rfl; refine (pEnd_e 0 HEN.out (K10.out.below (Nat.le_refl _) (fun k hk => by rw [HN.out]; exact hk)) (Nat.le_of_not_lt (fun q_ => (O10.out.far (i := 0) rfl) (by rw [HN.out]; exact q_))) on_).mono ?_; rintro e_ w11 ⟨rfl, oo_, kk_⟩; obtain ⟨o_, k_⟩ := bb_ _ _ _ kk_ oo_; refine ⟨_, rfl, ?_⟩; have O11 : Aside0 (Own N w11 [RP gr X p 0]) := ⟨o_⟩; have K11 : Aside0 (KeepS N w w11) := ⟨K10.out.trans k_⟩; clear c10_0_0 f10_0_0 c10_0_1 f10_0_1 c10_0_2 f10_0_2 O10 K10; have c11_0_0 : w11.cell? ⟨gr, 0, none⟩ = some (.string X) := (blk_cell (O11.out.blk (i := 0) rfl) 0).trans rfl; have f11_0_0 : w11.frozen? ⟨gr, 0, none⟩ = false := blk_frozen (O11.out.blk (i := 0) rfl) 0; have c11_0_1 : w11.cell? ⟨gr, 1, none⟩ = some (.int .i64 p) := (blk_cell (O11.out.blk (i := 0) rfl) 1).trans rfl; have f11_0_1 : w11.frozen? ⟨gr, 1, none⟩ = false := blk_frozen (O11.out.blk (i := 0) rfl) 1; have c11_0_2 : w11.cell? ⟨gr, 2, none⟩ = some (.int .i64 0) := (blk_cell (O11.out.blk (i := 0) rfl) 2).trans rfl; have f11_0_2 : w11.frozen? ⟨gr, 2, none⟩ = false := blk_frozen (O11.out.blk (i := 0) rfl) 2; clear o_ k_ oo_ kk_ on_ nn_ rr_ bb_))
              go_ret
              exact ⟨rfl, (K11.out.below (Nat.le_refl _) (fun k hk => by rw [HN.out]; exact hk))⟩
end Go.Proofs.YtfbdfnclkchofaaDoor.J
