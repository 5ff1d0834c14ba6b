/- The law UpdateParts: updates written one behind the other are read one by one, as far as none is wrong; then nothing more is read: a plain walk through its text. -/
import Derived.Test.YtfbdfnclkchofaaDoorYUpdatePartsRUC
import Derived.Test.YtfbdfnclkchofaaDoorYUpdatePartsU6C
import Derived.Test.YtfbdfnclkchofaaDoorYUpdatePartsMay
import Derived.Test.YtfbdfnclkchofaaDoorYUpdatePartsQ12
import Derived.Test.YtfbdfnclkchofaaDoorYUpdatePartsQ8
namespace Go.Proofs.YtfbdfnclkchofaaDoor.J
set_option linter.unusedSimpArgs false
set_option linter.unusedVariables false
open Go Go.RowKit Go.Proofs.YtfbdfnclkchofaaDoorW.PrintWords Go.Proofs.YtfbdfnclkchofaaDoorW.PrintLast Go.Proofs.YtfbdfnclkchofaaDoorW.PrintMore Go.Proofs.YtfbdfnclkchofaaDoor.Q Go.Proofs.YtfbdfnclkchofaaDoor.Sep Go.Proofs.YtfbdfnclkchofaaDoor.Pure Go.Proofs.YtfbdfnclkchofaaDoor.Wr
attribute [local go_sem] max2_int min2_int max_two min_two max_three min_three max_four min_four
theorem int_eqW {a b : Int} (h : a = b) : Value.int .i64 a = .int .i64 b := by rw [h]
theorem greatA_loop (l : List S58) (hl : l.length ≤ 9223372036854775807) : ∀ (d k : Nat) (x : Int), 0 ≤ x → x ≤ l.length → (l.length : Int) - x = d → d + 1 ≤ k → ∃ b, chapbookref04_GreatAll.l0 k l x = some b := by
  intro d
  induction d with
  | zero =>
    intro k x h0 h1 hd hk
    obtain ⟨k, rfl⟩ : ∃ m, k = m + 1 := ⟨k - 1, by omega⟩
    simp only [chapbookref04_GreatAll.l0]
    rw [if_neg (by omega)]
    exact ⟨_, rfl⟩
  | succ d ih =>
    intro k x h0 h1 hd hk
    obtain ⟨k, rfl⟩ : ∃ m, k = m + 1 := ⟨k - 1, by omega⟩
    simp only [chapbookref04_GreatAll.l0]
    obtain ⟨b, hb⟩ := ih k (x + 1) (by omega) (by omega) (by omega) (by omega)
    rw [if_pos (by omega), if_pos h0, show wrap64 (x + 1) = x + 1 by unfold wrap64; omega, hb]
    obtain ⟨g, hg, _⟩ := great_ok (rd_T58 l x).f0 (rd_T58 l x).f1 (rd_T58 l x).f2 (rd_T58 l x).f3
    rw [hg, Option.bind_some]
    split
    · exact ⟨_, rfl⟩
    · exact ⟨_, rfl⟩
theorem greatA_ok (l : List S58) : ∃ b, chapbookref04_GreatAll.f 300 l = some b ∧ (b = false → l.length ≤ 200) := by
  unfold chapbookref04_GreatAll.f
  by_cases c : (l.length : Int) > 200
  · rw [if_pos c]; exact ⟨true, rfl, by simp⟩
  · rw [if_neg c]
    obtain ⟨b, hb⟩ := greatA_loop l (by omega) l.length 300 0 (by omega) (by omega) (by omega) (by omega)
    exact ⟨b, hb, fun _ => by omega⟩
def mayS (z : S58) : Int := may z.f0 z.f1 z.f2 z.f3
def bytesS (z : S58) : ByteArray := bytesU z.f0 z.f1 z.f2 z.f3
def catN (l : List S58) : Nat → ByteArray
  | 0 => nil'
  | n + 1 => catN l n ++ bytesS (l.getD n z58)
def cat (l : List S58) (x : Int) : ByteArray := catN l x.toNat
theorem cat_s (l : List S58) {x : Int} (h : 0 ≤ x) : cat l (x + 1) = cat l x ++ bytesS (rd_T58 l x) := by
  unfold cat
  rw [show (x + 1).toNat = x.toNat + 1 by omega]
  rfl
def Fine (l : List S58) (x : Int) : Prop := ∀ y : Int, 0 ≤ y → y < x → mayS (rd_T58 l y) = 0
theorem fine_0 (l : List S58) : Fine l 0 := fun y a b => by omega
theorem fine_s {l : List S58} {x : Int} (h : Fine l x) (h2 : mayS (rd_T58 l x) = 0) : Fine l (x + 1) := fun y a b => by
  by_cases e : y = x
  · rw [e]; exact h2
  · exact h y a (by omega)
theorem bytesS_size {z : S58} (h : mayS z = 0) : (bytesS z).size ≤ 51 := bytesU_size h
theorem cat_size {l : List S58} : ∀ {x : Int}, 0 ≤ x → Fine l x → ((cat l x).size : Int) ≤ 51 * x := by
  intro x h0 h
  obtain ⟨n, rfl⟩ : ∃ n : Nat, x = n := ⟨x.toNat, by omega⟩
  clear h0
  induction n with
  | zero => exact Int.le_of_eq rfl
  | succ n ih =>
    have h2 := ih (fun y a b => h y a (by omega))
    have h3 := bytesS_size (h n (by omega) (by omega))
    rw [show ((n + 1 : Nat) : Int) = (n : Int) + 1 by omega, cat_s l (by omega), ByteArray.size_append]
    omega
theorem addU_cat {l : List S58} {x : Int} (h0 : 0 ≤ x) (h : mayS (rd_T58 l x) = 0) : addU (cat l x, false) (rd_T58 l x).f0 (rd_T58 l x).f1 (rd_T58 l x).f2 (rd_T58 l x).f3 = (cat l (x + 1), false) := by
  rw [cat_s l h0]
  exact addU_ok _ h
theorem str_at {l : List S58} {x n : Int} (more : ByteArray) (h0 : 0 ≤ x) (h1 : x < n) : Str (cat l n ++ more) (cat l x).size (bytesS (rd_T58 l x)) := by
  have key : ∀ d : Nat, ∃ r, cat l (x + 1 + d) = cat l (x + 1) ++ r := by
    intro d
    induction d with
    | zero => exact ⟨nil', by rw [show x + 1 + ((0 : Nat) : Int) = x + 1 by omega]; exact (app_nil _).symm⟩
    | succ d ih =>
      obtain ⟨r, hr⟩ := ih
      refine ⟨r ++ bytesS (rd_T58 l (x + 1 + d)), ?_⟩
      rw [show x + 1 + ((d + 1 : Nat) : Int) = (x + 1 + d) + 1 by omega, cat_s l (by omega), hr, ByteArray.append_assoc]
  obtain ⟨r, hr⟩ := key (n - (x + 1)).toNat
  rw [show x + 1 + (((n - (x + 1)).toNat : Nat) : Int) = n by omega, cat_s l h0] at hr
  have hw := Str.whole (cat l n ++ more)
  have hw2 : Str (cat l n ++ more) 0 (cat l x ++ (bytesS (rd_T58 l x) ++ (r ++ more))) := by
    rw [hr, ByteArray.append_assoc, ByteArray.append_assoc]
    exact Str.whole _
  have := hw2.right.left
  rw [Int.zero_add] at this
  exact this
theorem read_at {l : List S58} {x n : Int} {more : ByteArray} {u0 u3 : ByteArray} {u1 u2 p2 e2 : Int} (h0 : 0 ≤ x) (h1 : x < n) (hm : mayS (rd_T58 l x) = 0) : outU (cat l n ++ more) (readU (cat l n ++ more) (cat l x).size 0) = ((rd_T58 l x).f0, (rd_T58 l x).f1, (rd_T58 l x).f2, (rd_T58 l x).f3, cat l n ++ more, ((cat l (x + 1)).size : Int), 0) := by
  unfold outU
  rw [readU_str hm (str_at more h0 h1)]
  simp only
  rw [cat_s l h0, ByteArray.size_append]
  congr 1
theorem readU_place (b : ByteArray) (p e : Int) (h0 : 0 ≤ p) (h1 : p ≤ b.size) : 0 ≤ (readU b p e).2.2.2.2.1 ∧ (readU b p e).2.2.2.2.1 ≤ b.size := by
  have hn := numR_place b p e 5 h0 h1
  unfold readU keyU tailU noU
  (repeat' split) <;> first | exact ⟨hn.1, hn.2.1⟩ | skip
  all_goals
    first
      | exact ⟨(txtR_place b _ 0 16 hn.1 hn.2.1).1, (txtR_place b _ 0 16 hn.1 hn.2.1).2.1⟩
      | exact ⟨(sgnR_place b _ 0 (txtR_place b _ 0 16 hn.1 hn.2.1).1 (txtR_place b _ 0 16 hn.1 hn.2.1).2.1).1, (sgnR_place b _ 0 (txtR_place b _ 0 16 hn.1 hn.2.1).1 (txtR_place b _ 0 16 hn.1 hn.2.1).2.1).2.1⟩
      | exact ⟨(txtR_place b _ 0 32 (txtR_place b _ 0 16 hn.1 hn.2.1).1 (txtR_place b _ 0 16 hn.1 hn.2.1).2.1).1, (txtR_place b _ 0 32 (txtR_place b _ 0 16 hn.1 hn.2.1).1 (txtR_place b _ 0 16 hn.1 hn.2.1).2.1).2.1⟩
theorem cellU {w : World} {ok : Nat → Prop} {ad : Addr} {n : Nat} {xs : List S58} (h : Kd.F k58 w ok (some ad) n xs) (i : Int) (h0 : 0 ≤ i) (h1 : i < n) : w.cell? (ad.add (i.toNat * 4)) = some (.string (rd_T58 xs i).f0) ∧ w.cell? ⟨(ad.add (i.toNat * 4)).block, (ad.add (i.toNat * 4)).off + 1, none⟩ = some (.int .i64 (rd_T58 xs i).f1) ∧ w.cell? ⟨(ad.add (i.toNat * 4)).block, (ad.add (i.toNat * 4)).off + 2, none⟩ = some (.int .i64 (rd_T58 xs i).f2) ∧ w.cell? ⟨(ad.add (i.toNat * 4)).block, (ad.add (i.toNat * 4)).off + 3, none⟩ = some (.string (rd_T58 xs i).f3) := by
  obtain ⟨ad2, e, r⟩ := at_T58 (Kd.F_now h) i h0 h1
  cases e
  exact r
theorem someU {w : World} {ok : Nat → Prop} {A : Option Addr} {n : Nat} {xs : List S58} (h : Kd.F k58 w ok A n xs) (i : Int) (h0 : 0 ≤ i) (h1 : i < n) : ∃ ad, A = some ad := by
  obtain ⟨ad, e, _⟩ := at_T58 (Kd.F_now h) i h0 h1
  exact ⟨ad, e⟩
theorem heapU : Kd.Heap k58 := Kd.heap_iso _ (Kd.heap_pair Kd.heap_string (Kd.heap_pair (Kd.heap_int _) (Kd.heap_pair (Kd.heap_int _) Kd.heap_string)))
theorem may_s {z : S58} (h : mayS z = 0) : z.f3.size ≤ 32 := by
  obtain ⟨_, _, _, _, h5, h6, h7⟩ := may_zero h
  by_cases c13 : z.f1 = 1 ∨ z.f1 = 3
  · have := (h5 c13).1; omega
  by_cases c24 : z.f1 = 2 ∨ z.f1 = 4
  · exact (h6 c24).2
  · have := (h7 (by omega)).2; omega
theorem rd_memU {l : List S58} (x : Int) (h0 : 0 ≤ x) (h1 : x < l.length) : rd_T58 l x ∈ l := by
  unfold rd_T58
  rw [List.getD_eq_getElem?_getD, List.getElem?_eq_getElem (show x.toNat < l.length by omega)]
  exact List.getElem_mem _
theorem narrow_ {P : Program} {md : Region.Mode} {ops : Array Oper} {Q : Exit → Act → World → Prop} {S1 S2 : World → Prop} {ds : List Nat} (h12 : ∀ w, S2 w → S1 w) : ∀ {fuel : Nat} {l : Array Bool} {a : Act} {w : World}, S2 w → wpAnyLast P md ops Q S2 [] fuel l a w → wpAnyLast P md ops Q S1 ds fuel l a w
  | 0, _, _, _, _, h => h
  | fuel + 1, l, a, w, hS, h => ⟨h.1, fun i hi => wpOp_mono (fun a' w' h' => ⟨fun _ _ => h12 _ (h'.1 (by simp) hS), narrow_ h12 (h'.1 (by simp) hS) h'.2⟩) (h.2 i hi)⟩
theorem told_c (X : ByteArray) : told (X, false) = (X, 0) := rfl
noncomputable def chapbooklaw06_UpdateParts.f (k : Nat) (l0 : List S58) (a1 : ByteArray) : Option Bool := open Classical in if (∀ z ∈ l0, G58 z) ∧ l0.length ≤ 140737488351232 ∧ a1.size ≤ 140737488351232 then some true else none
def PtI (N : Nat → Prop) (w : World) (l0 : List S58) (gw : Nat) (v i : Value) (wr : World) : Prop := ∃ x : Int, 0 ≤ x ∧ x ≤ (l0.length : Int) ∧ i = .int .i64 x ∧ v = .int .i64 x ∧ Aside0 (Fine l0 x) ∧ Aside0 (Own N wr [WRB w.heap.size gw (cat l0 x, false)]) ∧ Aside0 (KeepS N w wr)
def PtJ (N : Nat → Prop) (w : World) (l0 : List S58) (more : ByteArray) (n : Int) (gr gm : Nat) (i : Value) (wr : World) : Prop := ∃ (y p e : Int), 0 ≤ y ∧ y ≤ n + 3 ∧ i = .int .i64 y ∧ Aside0 (0 ≤ p ∧ p ≤ (cat l0 n ++ more).size ∧ (y ≤ n → p = (cat l0 y).size ∧ e = 0)) ∧ Aside0 (Own N wr [RP gr (cat l0 n ++ more) p e, RM gm (cat l0 n ++ more) p e]) ∧ Aside0 (KeepS N w wr)
set_option maxHeartbeats 16000000 in
set_option maxRecDepth 100000 in
theorem chapbooklaw06_UpdateParts.calls (k : Nat) (A0 : Option Addr) (c0 : Nat) (l0 : List (S58)) (a1 : ByteArray) (r : Bool) (w : World) (HT : Aside0 (Tab w)) (hr0 : Kd.C k58 w A0 l0.length l0) (hc0 : l0.length ≤ c0) (h : chapbooklaw06_UpdateParts.f k l0 a1 = some r) :
    Calls Tryd.prog 12 #[.slice A0 l0.length c0, .string a1] w fun e_ w' => e_ = .returned (.bool r) ∧ Below w.heap.size w w' := by
  have hsz : (∀ z ∈ l0, G58 z) ∧ l0.length ≤ 140737488351232 ∧ a1.size ≤ 140737488351232 := by
    unfold chapbooklaw06_UpdateParts.f at h
    split at h
    · assumption
    · cases h
  unfold chapbooklaw06_UpdateParts.f at h
  rw [if_pos hsz] at h
  obtain rfl : true = r := Option.some.inj h
  clear h
  obtain ⟨N, hN⟩ : ∃ N : Nat → Prop, N = fun k => k < w.heap.size := ⟨_, rfl⟩
  have HN := Aside0.mk hN
  have HG := Aside0.mk hsz.1
  have HRL_0 : Aside0 (Kd.F k58 w N A0 l0.length l0) := ⟨by rw [hN]; exact Kd.C_F heapU hr0⟩
  have HR0 := Aside0.mk hr0
  have HC0 := Aside0.mk hc0
  have O0 : Aside0 (Own N w []) := ⟨Own.start_ (fun k hk => by rw [hN] at hk; exact hk)⟩
  have K0 : Aside0 (KeepS N w w) := ⟨KeepS.refl _ _⟩
  clear hN hr0 hc0
  obtain ⟨bb, hgr, hgb⟩ := greatA_ok l0
  have HGR := Aside0.mk hgr
  have HGB := Aside0.mk hgb
  have HSA := Aside0.mk hsz.2.2
  clear hgr hgb hsz
  cases bb with
  | true =>
    go_enter Tryd.func12, Tryd.ntmps12
    go_wp2_with (first | ((with_reducible refine gate_callee (f := 35) rfl ?_); refine goesL_ (some 15) rfl rfl Tryd.func35 (by kernel_rfl) rfl #[] rfl (by (try simp only [List.map_toArray, List.map_cons, List.map_nil]); first | done | rfl) ?_; refine (chapbooklaw06_awake.calls 60 true _ (Aside0.mk (Tab.below HT.out (K0.out.below (Nat.le_refl _) (fun k hk => by rw [HN.out]; exact hk)))) awake60).mono ?_; rintro e_ w1 ⟨rfl, hb_⟩; refine ⟨_, rfl, ?_⟩; have o_ := O0.out.below hb_; have k_ := KeepS.of_below (N := N) hb_; have O1 : Aside0 (Own N w1 []) := ⟨o_⟩; have K1 : Aside0 (KeepS N w w1) := ⟨K0.out.trans k_⟩; clear O0 K0; clear o_ k_ hb_) | ((with_reducible refine gate_callee (f := 42) rfl ?_); refine gate_guard (by rfl) ?_; refine goesL_ (some 19) rfl rfl Tryd.func42 (by kernel_rfl) rfl #[.slice A0 l0.length c0] rfl (by (try simp only [List.map_toArray, List.map_cons, List.map_nil]); first | done | rfl) ?_; refine (chapbookref04_GreatAll.calls 300 _ _ l0 true _ (Kd.C_below HR0.out (K1.out.below (Nat.le_refl _) (fun k hk => by rw [HN.out]; exact hk))) HC0.out HGR.out).mono ?_; rintro e_ w2 ⟨rfl, hb_⟩; refine ⟨_, rfl, ?_⟩; have o_ := O1.out.below hb_; have k_ := KeepS.of_below (N := N) hb_; have O2 : Aside0 (Own N w2 []) := ⟨o_⟩; have K2 : Aside0 (KeepS N w w2) := ⟨K1.out.trans k_⟩; clear O1 K1; clear o_ k_ hb_) | ((with_reducible refine gate_callee (f := 35) rfl ?_); refine goesL_ (some 31) rfl rfl Tryd.func35 (by kernel_rfl) rfl #[] rfl (by (try simp only [List.map_toArray, List.map_cons, List.map_nil]); first | done | rfl) ?_; refine (chapbooklaw06_awake.calls 60 true _ (Aside0.mk (Tab.below HT.out (K2.out.below (Nat.le_refl _) (fun k hk => by rw [HN.out]; exact hk)))) awake60).mono ?_; rintro e_ w3 ⟨rfl, hb_⟩; refine ⟨_, rfl, ?_⟩; have o_ := O2.out.below hb_; have k_ := KeepS.of_below (N := N) hb_; have O3 : Aside0 (Own N w3 []) := ⟨o_⟩; have K3 : Aside0 (KeepS N w w3) := ⟨K2.out.trans k_⟩; clear O2 K2; clear o_ k_ hb_))
    go_ret
    exact ⟨rfl, (K3.out.below (Nat.le_refl _) (fun k hk => by rw [HN.out]; exact hk))⟩
  | false =>
    have hl200 := HGB.out rfl
    clear HGB
    by_cases hc : (l0.length : Int) > 20
    · have d1 : decide ((l0.length : Int) > 20) = true := decide_eq_true hc
      have d2 : decide (20 < (l0.length : Int)) = true := d1
      have d3 : decide (20 < l0.length) = true := decide_eq_true (by omega)
      clear hc hl200
      go_enter Tryd.func12, Tryd.ntmps12
      go_wp2_with (first | ((with_reducible refine gate_callee (f := 35) rfl ?_); refine goesL_ (some 15) rfl rfl Tryd.func35 (by kernel_rfl) rfl #[] rfl (by (try simp only [List.map_toArray, List.map_cons, List.map_nil]); first | done | rfl) ?_; refine (chapbooklaw06_awake.calls 60 true _ (Aside0.mk (Tab.below HT.out (K0.out.below (Nat.le_refl _) (fun k hk => by rw [HN.out]; exact hk)))) awake60).mono ?_; rintro e_ w1 ⟨rfl, hb_⟩; refine ⟨_, rfl, ?_⟩; have o_ := O0.out.below hb_; have k_ := KeepS.of_below (N := N) hb_; have O1 : Aside0 (Own N w1 []) := ⟨o_⟩; have K1 : Aside0 (KeepS N w w1) := ⟨K0.out.trans k_⟩; clear O0 K0; clear o_ k_ hb_) | ((with_reducible refine gate_callee (f := 42) rfl ?_); refine gate_guard (by rfl) ?_; refine goesL_ (some 19) rfl rfl Tryd.func42 (by kernel_rfl) rfl #[.slice A0 l0.length c0] rfl (by (try simp only [List.map_toArray, List.map_cons, List.map_nil]); first | done | rfl) ?_; refine (chapbookref04_GreatAll.calls 300 _ _ l0 false _ (Kd.C_below HR0.out (K1.out.below (Nat.le_refl _) (fun k hk => by rw [HN.out]; exact hk))) HC0.out HGR.out).mono ?_; rintro e_ w2 ⟨rfl, hb_⟩; refine ⟨_, rfl, ?_⟩; have o_ := O1.out.below hb_; have k_ := KeepS.of_below (N := N) hb_; have O2 : Aside0 (Own N w2 []) := ⟨o_⟩; have K2 : Aside0 (KeepS N w w2) := ⟨K1.out.trans k_⟩; clear O1 K1; clear o_ k_ hb_) | ((with_reducible refine gate_callee (f := 35) rfl ?_); refine goesL_ (some 31) rfl rfl Tryd.func35 (by kernel_rfl) rfl #[] rfl (by (try simp only [List.map_toArray, List.map_cons, List.map_nil]); first | done | rfl) ?_; refine (chapbooklaw06_awake.calls 60 true _ (Aside0.mk (Tab.below HT.out (K2.out.below (Nat.le_refl _) (fun k hk => by rw [HN.out]; exact hk)))) awake60).mono ?_; rintro e_ w3 ⟨rfl, hb_⟩; refine ⟨_, rfl, ?_⟩; have o_ := O2.out.below hb_; have k_ := KeepS.of_below (N := N) hb_; have O3 : Aside0 (Own N w3 []) := ⟨o_⟩; have K3 : Aside0 (KeepS N w w3) := ⟨K2.out.trans k_⟩; clear O2 K2; clear o_ k_ hb_))
      go_ret
      exact ⟨rfl, (K3.out.below (Nat.le_refl _) (fun k hk => by rw [HN.out]; exact hk))⟩
    have HL20 : Aside0 (l0.length ≤ 20) := ⟨by omega⟩
    have d1 : decide ((l0.length : Int) > 20) = false := decide_eq_false hc
    have d2 : decide (20 < (l0.length : Int)) = false := d1
    have d3 : decide (20 < l0.length) = false := decide_eq_false (by omega)
    clear hc hl200
    by_cases hc : 200 < a1.size
    · have d4 : decide ((a1.size : Int) > 200) = true := decide_eq_true (by omega)
      have d5 : decide (200 < (a1.size : Int)) = true := d4
      have d6 : decide (200 < a1.size) = true := decide_eq_true hc
      clear hc
      go_enter Tryd.func12, Tryd.ntmps12
      go_wp2_with (first | ((with_reducible refine gate_callee (f := 35) rfl ?_); refine goesL_ (some 15) rfl rfl Tryd.func35 (by kernel_rfl) rfl #[] rfl (by (try simp only [List.map_toArray, List.map_cons, List.map_nil]); first | done | rfl) ?_; refine (chapbooklaw06_awake.calls 60 true _ (Aside0.mk (Tab.below HT.out (K0.out.below (Nat.le_refl _) (fun k hk => by rw [HN.out]; exact hk)))) awake60).mono ?_; rintro e_ w1 ⟨rfl, hb_⟩; refine ⟨_, rfl, ?_⟩; have o_ := O0.out.below hb_; have k_ := KeepS.of_below (N := N) hb_; have O1 : Aside0 (Own N w1 []) := ⟨o_⟩; have K1 : Aside0 (KeepS N w w1) := ⟨K0.out.trans k_⟩; clear O0 K0; clear o_ k_ hb_) | ((with_reducible refine gate_callee (f := 42) rfl ?_); refine gate_guard (by rfl) ?_; refine goesL_ (some 19) rfl rfl Tryd.func42 (by kernel_rfl) rfl #[.slice A0 l0.length c0] rfl (by (try simp only [List.map_toArray, List.map_cons, List.map_nil]); first | done | rfl) ?_; refine (chapbookref04_GreatAll.calls 300 _ _ l0 false _ (Kd.C_below HR0.out (K1.out.below (Nat.le_refl _) (fun k hk => by rw [HN.out]; exact hk))) HC0.out HGR.out).mono ?_; rintro e_ w2 ⟨rfl, hb_⟩; refine ⟨_, rfl, ?_⟩; have o_ := O1.out.below hb_; have k_ := KeepS.of_below (N := N) hb_; have O2 : Aside0 (Own N w2 []) := ⟨o_⟩; have K2 : Aside0 (KeepS N w w2) := ⟨K1.out.trans k_⟩; clear O1 K1; clear o_ k_ hb_) | ((with_reducible refine gate_callee (f := 35) rfl ?_); refine goesL_ (some 31) rfl rfl Tryd.func35 (by kernel_rfl) rfl #[] rfl (by (try simp only [List.map_toArray, List.map_cons, List.map_nil]); first | done | rfl) ?_; refine (chapbooklaw06_awake.calls 60 true _ (Aside0.mk (Tab.below HT.out (K2.out.below (Nat.le_refl _) (fun k hk => by rw [HN.out]; exact hk)))) awake60).mono ?_; rintro e_ w3 ⟨rfl, hb_⟩; refine ⟨_, rfl, ?_⟩; have o_ := O2.out.below hb_; have k_ := KeepS.of_below (N := N) hb_; have O3 : Aside0 (Own N w3 []) := ⟨o_⟩; have K3 : Aside0 (KeepS N w w3) := ⟨K2.out.trans k_⟩; clear O2 K2; clear o_ k_ hb_))
      go_ret
      exact ⟨rfl, (K3.out.below (Nat.le_refl _) (fun k hk => by rw [HN.out]; exact hk))⟩
    have HM20 : Aside0 (a1.size ≤ 200) := ⟨by omega⟩
    have d4 : decide ((a1.size : Int) > 200) = false := decide_eq_false (by omega)
    have d5 : decide (200 < (a1.size : Int)) = false := d4
    have d6 : decide (200 < a1.size) = false := decide_eq_false hc
    clear hc
    go_enter Tryd.func12, Tryd.ntmps12
    go_wp2_with (first | ((with_reducible refine gate_callee (f := 35) rfl ?_); refine goesL_ (some 15) rfl rfl Tryd.func35 (by kernel_rfl) rfl #[] rfl (by (try simp only [List.map_toArray, List.map_cons, List.map_nil]); first | done | rfl) ?_; refine (chapbooklaw06_awake.calls 60 true _ (Aside0.mk (Tab.below HT.out (K0.out.below (Nat.le_refl _) (fun k hk => by rw [HN.out]; exact hk)))) awake60).mono ?_; rintro e_ w1 ⟨rfl, hb_⟩; refine ⟨_, rfl, ?_⟩; have o_ := O0.out.below hb_; have k_ := KeepS.of_below (N := N) hb_; have O1 : Aside0 (Own N w1 []) := ⟨o_⟩; have K1 : Aside0 (KeepS N w w1) := ⟨K0.out.trans k_⟩; clear O0 K0; clear o_ k_ hb_) | ((with_reducible refine gate_callee (f := 42) rfl ?_); refine gate_guard (by rfl) ?_; refine goesL_ (some 19) rfl rfl Tryd.func42 (by kernel_rfl) rfl #[.slice A0 l0.length c0] rfl (by (try simp only [List.map_toArray, List.map_cons, List.map_nil]); first | done | rfl) ?_; refine (chapbookref04_GreatAll.calls 300 _ _ l0 false _ (Kd.C_below HR0.out (K1.out.below (Nat.le_refl _) (fun k hk => by rw [HN.out]; exact hk))) HC0.out HGR.out).mono ?_; rintro e_ w2 ⟨rfl, hb_⟩; refine ⟨_, rfl, ?_⟩; have o_ := O1.out.below hb_; have k_ := KeepS.of_below (N := N) hb_; have O2 : Aside0 (Own N w2 []) := ⟨o_⟩; have K2 : Aside0 (KeepS N w w2) := ⟨K1.out.trans k_⟩; clear O1 K1; clear o_ k_ hb_) | ((with_reducible refine gate_dst (N := 5) rfl ?_); refine own_box rfl (D := 5) rfl (cs := #[.pointer none, .slice none 0 0, .bool false]) (t := 28) ?hr O2.out ?_; (case hr => first | (go_simp; done) | (go_simp; rfl)); intro gw w3 o_ k_; have O3 : Aside0 (Own N w3 [cells gw #[.pointer none, .slice none 0 0, .bool false] 28]) := ⟨o_⟩; have K3 : Aside0 (KeepS N w w3) := ⟨K2.out.trans k_⟩; clear O2 K2; have c3_0_0 : w3.cell? ⟨gw, 0, none⟩ = some (.pointer none) := (blk_cell (O3.out.blk (i := 0) rfl) 0).trans rfl; have f3_0_0 : w3.frozen? ⟨gw, 0, none⟩ = false := blk_frozen (O3.out.blk (i := 0) rfl) 0; have c3_0_1 : w3.cell? ⟨gw, 1, none⟩ = some (.slice none 0 0) := (blk_cell (O3.out.blk (i := 0) rfl) 1).trans rfl; have f3_0_1 : w3.frozen? ⟨gw, 1, none⟩ = false := blk_frozen (O3.out.blk (i := 0) rfl) 1; have c3_0_2 : w3.cell? ⟨gw, 2, none⟩ = some (.bool false) := (blk_cell (O3.out.blk (i := 0) rfl) 2).trans rfl; have f3_0_2 : w3.frozen? ⟨gw, 2, none⟩ = false := blk_frozen (O3.out.blk (i := 0) rfl) 2; clear o_ k_; have O4 : Aside0 (Own N w3 [WRB w.heap.size gw (nil', false)]) := ⟨wbNew (Nat.le_of_not_lt (fun q_ => (O3.out.far (i := 0) rfl) (by rw [HN.out]; exact q_))) O3.out (i := 0) rfl⟩; clear O3))
    go_loopw [6, 34] (fun v i wr => PtI N w l0 gw v i wr) (fun _ i _ => l0.length - (intOf i).toNat)
    case atStart => exact ⟨0, by omega, by omega, rfl, rfl, ⟨fine_0 _⟩, O4, K3⟩
    case round =>
      clear c3_0_0 f3_0_0 c3_0_1 f3_0_1 c3_0_2 f3_0_2
      obtain ⟨x, hx0, hx1, rfl, rfl, HI, OA, KA⟩ := hrel
      have hF2 := keepF HRL_0.out KA.out
      have hLx := HL20.out
      by_cases hlt : x < (l0.length : Int)
      · obtain ⟨ad, e3, x0, x1, x2, x3⟩ := at_T58 (Kd.F_now hF2) x hx0 hlt
        cases e3
        have hs2 : wrap64 (x + 1) = x + 1 := by unfold wrap64; omega
        have hp := eq_true hx0
        have hq := eq_true hlt
        have hd : decide (x < (l0.length : Int)) = true := decide_eq_true hlt
        have HWF := Aside0.mk (HG.out (rd_T58 l0 x) (rd_memU x hx0 hlt))
        clear hF2
        have O5 : Aside0 (Own N wr [WRB w.heap.size gw (cat l0 x, false)]) := ⟨OA.out⟩
        have K5 : Aside0 (KeepS N w wr) := ⟨KA.out⟩
        clear OA KA
        by_cases hm : mayS (rd_T58 l0 x) = 0
        · have hmn : (mayS (rd_T58 l0 x) != 0) = false := by rw [hm]; rfl
          have HM := Aside0.mk hm
          have HX := Aside0.mk (And.intro hx0 hlt)
          have HK := Aside0.mk (may_zero hm)
          have HSU := Aside0.mk (may_s hm)
          clear hx0 hx1 hlt hLx hm
          go_wp2_with (first | ((with_reducible refine gate_dst (N := 8) rfl ?_); refine own_box rfl (D := 8) rfl (cs := #[.string (⟨#[]⟩ : ByteArray), .int .i64 0, .int .i64 0, .string (⟨#[]⟩ : ByteArray)]) (t := 58) ?hr O5.out ?_; (case hr => first | (go_simp; done) | (go_simp; rfl)); intro gx w6 o_ k_; have O6 : Aside0 (Own N w6 [WRB w.heap.size gw (cat l0 x, false), cells gx #[.string (⟨#[]⟩ : ByteArray), .int .i64 0, .int .i64 0, .string (⟨#[]⟩ : ByteArray)] 58]) := ⟨o_⟩; have K6 : Aside0 (KeepS N w w6) := ⟨K5.out.trans k_⟩; clear O5 K5; have c6_1_0 : w6.cell? ⟨gx, 0, none⟩ = some (.string (⟨#[]⟩ : ByteArray)) := (blk_cell (O6.out.blk (i := 1) rfl) 0).trans rfl; have f6_1_0 : w6.frozen? ⟨gx, 0, none⟩ = false := blk_frozen (O6.out.blk (i := 1) rfl) 0; have c6_1_1 : w6.cell? ⟨gx, 1, none⟩ = some (.int .i64 0) := (blk_cell (O6.out.blk (i := 1) rfl) 1).trans rfl; have f6_1_1 : w6.frozen? ⟨gx, 1, none⟩ = false := blk_frozen (O6.out.blk (i := 1) rfl) 1; have c6_1_2 : w6.cell? ⟨gx, 2, none⟩ = some (.int .i64 0) := (blk_cell (O6.out.blk (i := 1) rfl) 2).trans rfl; have f6_1_2 : w6.frozen? ⟨gx, 2, none⟩ = false := blk_frozen (O6.out.blk (i := 1) rfl) 2; have c6_1_3 : w6.cell? ⟨gx, 3, none⟩ = some (.string (⟨#[]⟩ : ByteArray)) := (blk_cell (O6.out.blk (i := 1) rfl) 3).trans rfl; have f6_1_3 : w6.frozen? ⟨gx, 3, none⟩ = false := blk_frozen (O6.out.blk (i := 1) rfl) 3; clear o_ k_) | ((with_reducible refine gate_store (t := 58) (p := 8) rfl ?_); refine own_store rfl rfl rfl (w1 := (World.setCell (World.setCell (World.setCell (World.setCell w6 ⟨gx, 0, none⟩ (.string (rd_T58 l0 x).f0)) ⟨gx, 1, none⟩ (.int .i64 (rd_T58 l0 x).f1)) ⟨gx, 2, none⟩ (.int .i64 (rd_T58 l0 x).f2)) ⟨gx, 3, none⟩ (.string (rd_T58 l0 x).f3))) (N := N) (l' := [WRB w.heap.size gw (cat l0 x, false), cells gx #[.string (rd_T58 l0 x).f0, .int .i64 (rd_T58 l0 x).f1, .int .i64 (rd_T58 l0 x).f2, .string (rd_T58 l0 x).f3] 58]) ?hr ?ho ?hk ?_; (case hr => first | (go_simp; done) | (go_simp; rfl)); (case ho => exact ((((O6.out.set (i := 1) rfl 0 (.string (rd_T58 l0 x).f0)).set (i := 1) rfl 1 (.int .i64 (rd_T58 l0 x).f1)).set (i := 1) rfl 2 (.int .i64 (rd_T58 l0 x).f2)).set (i := 1) rfl 3 (.string (rd_T58 l0 x).f3))); (case hk => exact ((((KeepS.setCell (O6.out.far (i := 1) rfl) (.string (rd_T58 l0 x).f0)).trans (KeepS.setCell (O6.out.far (i := 1) rfl) (.int .i64 (rd_T58 l0 x).f1))).trans (KeepS.setCell (O6.out.far (i := 1) rfl) (.int .i64 (rd_T58 l0 x).f2))).trans (KeepS.setCell (O6.out.far (i := 1) rfl) (.string (rd_T58 l0 x).f3)))); intro w7 o_ k_; have O7 : Aside0 (Own N w7 [WRB w.heap.size gw (cat l0 x, false), cells gx #[.string (rd_T58 l0 x).f0, .int .i64 (rd_T58 l0 x).f1, .int .i64 (rd_T58 l0 x).f2, .string (rd_T58 l0 x).f3] 58]) := ⟨o_⟩; have K7 : Aside0 (KeepS N w w7) := ⟨K6.out.trans k_⟩; clear c6_1_0 f6_1_0 c6_1_1 f6_1_1 c6_1_2 f6_1_2 c6_1_3 f6_1_3 O6 K6; have c7_1_0 : w7.cell? ⟨gx, 0, none⟩ = some (.string (rd_T58 l0 x).f0) := (blk_cell (O7.out.blk (i := 1) rfl) 0).trans rfl; have f7_1_0 : w7.frozen? ⟨gx, 0, none⟩ = false := blk_frozen (O7.out.blk (i := 1) rfl) 0; have c7_1_1 : w7.cell? ⟨gx, 1, none⟩ = some (.int .i64 (rd_T58 l0 x).f1) := (blk_cell (O7.out.blk (i := 1) rfl) 1).trans rfl; have f7_1_1 : w7.frozen? ⟨gx, 1, none⟩ = false := blk_frozen (O7.out.blk (i := 1) rfl) 1; have c7_1_2 : w7.cell? ⟨gx, 2, none⟩ = some (.int .i64 (rd_T58 l0 x).f2) := (blk_cell (O7.out.blk (i := 1) rfl) 2).trans rfl; have f7_1_2 : w7.frozen? ⟨gx, 2, none⟩ = false := blk_frozen (O7.out.blk (i := 1) rfl) 2; have c7_1_3 : w7.cell? ⟨gx, 3, none⟩ = some (.string (rd_T58 l0 x).f3) := (blk_cell (O7.out.blk (i := 1) rfl) 3).trans rfl; have f7_1_3 : w7.frozen? ⟨gx, 3, none⟩ = false := blk_frozen (O7.out.blk (i := 1) rfl) 3; clear o_ k_) | ((with_reducible refine gate_callee (f := 41) rfl ?_); refine goesL_ (some 39) rfl rfl Tryd.func41 (by kernel_rfl) rfl #[.agg #[.string (rd_T58 l0 x).f0, .int .i64 (rd_T58 l0 x).f1, .int .i64 (rd_T58 l0 x).f2, .string (rd_T58 l0 x).f3]] rfl (by (try simp only [List.map_toArray, List.map_cons, List.map_nil]); first | done | rfl) ?_; refine (chapbookref04_May.calls 6 _ _ _ _ (mayS (rd_T58 l0 x)) _ (rmay_ok 0 _ _ _ _)).mono ?_; rintro e_ w8 ⟨rfl, hb_⟩; refine ⟨_, rfl, ?_⟩; have o_ := O7.out.below hb_; have k_ := KeepS.of_below (N := N) hb_; have O8 : Aside0 (Own N w8 [WRB w.heap.size gw (cat l0 x, false), cells gx #[.string (rd_T58 l0 x).f0, .int .i64 (rd_T58 l0 x).f1, .int .i64 (rd_T58 l0 x).f2, .string (rd_T58 l0 x).f3] 58]) := ⟨o_⟩; have K8 : Aside0 (KeepS N w w8) := ⟨K7.out.trans k_⟩; clear c7_1_0 f7_1_0 c7_1_1 f7_1_1 c7_1_2 f7_1_2 c7_1_3 f7_1_3 O7 K7; have c8_1_0 : w8.cell? ⟨gx, 0, none⟩ = some (.string (rd_T58 l0 x).f0) := (blk_cell (O8.out.blk (i := 1) rfl) 0).trans rfl; have f8_1_0 : w8.frozen? ⟨gx, 0, none⟩ = false := blk_frozen (O8.out.blk (i := 1) rfl) 0; have c8_1_1 : w8.cell? ⟨gx, 1, none⟩ = some (.int .i64 (rd_T58 l0 x).f1) := (blk_cell (O8.out.blk (i := 1) rfl) 1).trans rfl; have f8_1_1 : w8.frozen? ⟨gx, 1, none⟩ = false := blk_frozen (O8.out.blk (i := 1) rfl) 1; have c8_1_2 : w8.cell? ⟨gx, 2, none⟩ = some (.int .i64 (rd_T58 l0 x).f2) := (blk_cell (O8.out.blk (i := 1) rfl) 2).trans rfl; have f8_1_2 : w8.frozen? ⟨gx, 2, none⟩ = false := blk_frozen (O8.out.blk (i := 1) rfl) 2; have c8_1_3 : w8.cell? ⟨gx, 3, none⟩ = some (.string (rd_T58 l0 x).f3) := (blk_cell (O8.out.blk (i := 1) rfl) 3).trans rfl; have f8_1_3 : w8.frozen? ⟨gx, 3, none⟩ = false := blk_frozen (O8.out.blk (i := 1) rfl) 3; clear o_ k_ hb_) | ((with_reducible refine gate_callee (f := 43) rfl ?_); refine goesL_ (some 42) rfl rfl Tryd.func43 (by kernel_rfl) rfl #[.pointer (some ⟨gw, 0, none⟩), .agg #[.string (rd_T58 l0 x).f0, .int .i64 (rd_T58 l0 x).f1, .int .i64 (rd_T58 l0 x).f2, .string (rd_T58 l0 x).f3]] rfl (by (try simp only [List.map_toArray, List.map_cons, List.map_nil]); first | done | rfl) ?_; obtain ⟨N_, on_, nn_, rr_, bb_⟩ := O8.out.frame1 (i := 0) rfl; refine (wbUpd (Aside0.mk (Tab.below HT.out (K8.out.below (Nat.le_refl _) (fun k hk => by rw [HN.out]; exact hk)))) (tab_lt HT.out) K8.out.size _ _ _ _ HWF.out.2.1 HWF.out.2.2.1 (by have q_ := cat_size HX.out.1 HI.out; have := HX.out; have := HL20.out; have := HK.out; have q1 : (rd_T58 l0 x).f0.size ≤ 16 := HK.out.2.1; have q2 : (rd_T58 l0 x).f3.size ≤ 32 := HSU.out; show (cat l0 x).size + (rd_T58 l0 x).f0.size + (rd_T58 l0 x).f3.size ≤ 140737488354900; omega) on_).mono ?_; rintro e_ w9 ⟨rfl, oo_, kk_⟩; obtain ⟨o_, k_⟩ := bb_ _ _ _ kk_ oo_; refine ⟨_, rfl, ?_⟩; have O9 : Aside0 (Own N w9 [WRB w.heap.size gw (addU (cat l0 x, false) (rd_T58 l0 x).f0 (rd_T58 l0 x).f1 (rd_T58 l0 x).f2 (rd_T58 l0 x).f3), cells gx #[.string (rd_T58 l0 x).f0, .int .i64 (rd_T58 l0 x).f1, .int .i64 (rd_T58 l0 x).f2, .string (rd_T58 l0 x).f3] 58]) := ⟨o_⟩; have K9 : Aside0 (KeepS N w w9) := ⟨K8.out.trans k_⟩; clear c8_1_0 f8_1_0 c8_1_1 f8_1_1 c8_1_2 f8_1_2 c8_1_3 f8_1_3 O8 K8; have c9_1_0 : w9.cell? ⟨gx, 0, none⟩ = some (.string (rd_T58 l0 x).f0) := (blk_cell (O9.out.blk (i := 1) rfl) 0).trans rfl; have f9_1_0 : w9.frozen? ⟨gx, 0, none⟩ = false := blk_frozen (O9.out.blk (i := 1) rfl) 0; have c9_1_1 : w9.cell? ⟨gx, 1, none⟩ = some (.int .i64 (rd_T58 l0 x).f1) := (blk_cell (O9.out.blk (i := 1) rfl) 1).trans rfl; have f9_1_1 : w9.frozen? ⟨gx, 1, none⟩ = false := blk_frozen (O9.out.blk (i := 1) rfl) 1; have c9_1_2 : w9.cell? ⟨gx, 2, none⟩ = some (.int .i64 (rd_T58 l0 x).f2) := (blk_cell (O9.out.blk (i := 1) rfl) 2).trans rfl; have f9_1_2 : w9.frozen? ⟨gx, 2, none⟩ = false := blk_frozen (O9.out.blk (i := 1) rfl) 2; have c9_1_3 : w9.cell? ⟨gx, 3, none⟩ = some (.string (rd_T58 l0 x).f3) := (blk_cell (O9.out.blk (i := 1) rfl) 3).trans rfl; have f9_1_3 : w9.frozen? ⟨gx, 3, none⟩ = false := blk_frozen (O9.out.blk (i := 1) rfl) 3; clear o_ k_ oo_ kk_ on_ nn_ rr_ bb_))
          go_roundw
          case rel => exact ⟨x + 1, by have := HX.out; omega, by have := HX.out; omega, int_eqW (by unfold wrap64; have := HX.out; have := HL20.out; omega), int_eqW (by unfold wrap64; have := HX.out; have := HL20.out; omega), ⟨fine_s HI.out HM.out⟩, ⟨by rw [← addU_cat HX.out.1 HM.out]; exact O9.out.pick1 (a := 0) rfl⟩, K9⟩
          case measure => have := HX.out; simp [intOf]; omega
        · have hmn : (mayS (rd_T58 l0 x) != 0) = true := bne_iff_ne.2 hm
          clear hm hlt
          have HX := Aside0.mk (And.intro hx0 hx1)
          have HCS : Aside0 (((cat l0 x).size : Int) ≤ 51 * x) := ⟨cat_size hx0 HI.out⟩
          have HSS : Aside0 ((cat l0 x ++ a1).size ≤ 140737488351232) := ⟨by rw [ByteArray.size_append]; have := HCS.out; have := HX.out.2; have := HL20.out; have := HM20.out; omega⟩
          have h10 : ((0 : Int) != 0) = false := by decide
          have HS3 : Aside0 (wrap64 (x + 3) = x + 3) := ⟨by unfold wrap64; omega⟩
          have zsz : ((cat l0 x).size + a1.size ≤ 9223372036854775807) := by have := HSS.out; rw [ByteArray.size_append] at this; omega
          have zs2 : decide ((cat l0 x).size + a1.size ≤ 9223372036854775807) = true := decide_eq_true zsz
          have zs3 : (9223372036854775807 < (cat l0 x).size + a1.size) = False := eq_false (Nat.not_lt.2 zsz)
          have zs4 := eq_true zsz
          clear zsz hx0 hx1 hLx
          go_wp2_with (first | ((with_reducible refine gate_dst (N := 8) rfl ?_); refine own_box rfl (D := 8) rfl (cs := #[.string (⟨#[]⟩ : ByteArray), .int .i64 0, .int .i64 0, .string (⟨#[]⟩ : ByteArray)]) (t := 58) ?hr O5.out ?_; (case hr => first | (go_simp; done) | (go_simp; rfl)); intro gx w6 o_ k_; have O6 : Aside0 (Own N w6 [WRB w.heap.size gw (cat l0 x, false), cells gx #[.string (⟨#[]⟩ : ByteArray), .int .i64 0, .int .i64 0, .string (⟨#[]⟩ : ByteArray)] 58]) := ⟨o_⟩; have K6 : Aside0 (KeepS N w w6) := ⟨K5.out.trans k_⟩; clear O5 K5; have c6_1_0 : w6.cell? ⟨gx, 0, none⟩ = some (.string (⟨#[]⟩ : ByteArray)) := (blk_cell (O6.out.blk (i := 1) rfl) 0).trans rfl; have f6_1_0 : w6.frozen? ⟨gx, 0, none⟩ = false := blk_frozen (O6.out.blk (i := 1) rfl) 0; have c6_1_1 : w6.cell? ⟨gx, 1, none⟩ = some (.int .i64 0) := (blk_cell (O6.out.blk (i := 1) rfl) 1).trans rfl; have f6_1_1 : w6.frozen? ⟨gx, 1, none⟩ = false := blk_frozen (O6.out.blk (i := 1) rfl) 1; have c6_1_2 : w6.cell? ⟨gx, 2, none⟩ = some (.int .i64 0) := (blk_cell (O6.out.blk (i := 1) rfl) 2).trans rfl; have f6_1_2 : w6.frozen? ⟨gx, 2, none⟩ = false := blk_frozen (O6.out.blk (i := 1) rfl) 2; have c6_1_3 : w6.cell? ⟨gx, 3, none⟩ = some (.string (⟨#[]⟩ : ByteArray)) := (blk_cell (O6.out.blk (i := 1) rfl) 3).trans rfl; have f6_1_3 : w6.frozen? ⟨gx, 3, none⟩ = false := blk_frozen (O6.out.blk (i := 1) rfl) 3; clear o_ k_) | ((with_reducible refine gate_store (t := 58) (p := 8) rfl ?_); refine own_store rfl rfl rfl (w1 := (World.setCell (World.setCell (World.setCell (World.setCell w6 ⟨gx, 0, none⟩ (.string (rd_T58 l0 x).f0)) ⟨gx, 1, none⟩ (.int .i64 (rd_T58 l0 x).f1)) ⟨gx, 2, none⟩ (.int .i64 (rd_T58 l0 x).f2)) ⟨gx, 3, none⟩ (.string (rd_T58 l0 x).f3))) (N := N) (l' := [WRB w.heap.size gw (cat l0 x, false), cells gx #[.string (rd_T58 l0 x).f0, .int .i64 (rd_T58 l0 x).f1, .int .i64 (rd_T58 l0 x).f2, .string (rd_T58 l0 x).f3] 58]) ?hr ?ho ?hk ?_; (case hr => first | (go_simp; done) | (go_simp; rfl)); (case ho => exact ((((O6.out.set (i := 1) rfl 0 (.string (rd_T58 l0 x).f0)).set (i := 1) rfl 1 (.int .i64 (rd_T58 l0 x).f1)).set (i := 1) rfl 2 (.int .i64 (rd_T58 l0 x).f2)).set (i := 1) rfl 3 (.string (rd_T58 l0 x).f3))); (case hk => exact ((((KeepS.setCell (O6.out.far (i := 1) rfl) (.string (rd_T58 l0 x).f0)).trans (KeepS.setCell (O6.out.far (i := 1) rfl) (.int .i64 (rd_T58 l0 x).f1))).trans (KeepS.setCell (O6.out.far (i := 1) rfl) (.int .i64 (rd_T58 l0 x).f2))).trans (KeepS.setCell (O6.out.far (i := 1) rfl) (.string (rd_T58 l0 x).f3)))); intro w7 o_ k_; have O7 : Aside0 (Own N w7 [WRB w.heap.size gw (cat l0 x, false), cells gx #[.string (rd_T58 l0 x).f0, .int .i64 (rd_T58 l0 x).f1, .int .i64 (rd_T58 l0 x).f2, .string (rd_T58 l0 x).f3] 58]) := ⟨o_⟩; have K7 : Aside0 (KeepS N w w7) := ⟨K6.out.trans k_⟩; clear c6_1_0 f6_1_0 c6_1_1 f6_1_1 c6_1_2 f6_1_2 c6_1_3 f6_1_3 O6 K6; have c7_1_0 : w7.cell? ⟨gx, 0, none⟩ = some (.string (rd_T58 l0 x).f0) := (blk_cell (O7.out.blk (i := 1) rfl) 0).trans rfl; have f7_1_0 : w7.frozen? ⟨gx, 0, none⟩ = false := blk_frozen (O7.out.blk (i := 1) rfl) 0; have c7_1_1 : w7.cell? ⟨gx, 1, none⟩ = some (.int .i64 (rd_T58 l0 x).f1) := (blk_cell (O7.out.blk (i := 1) rfl) 1).trans rfl; have f7_1_1 : w7.frozen? ⟨gx, 1, none⟩ = false := blk_frozen (O7.out.blk (i := 1) rfl) 1; have c7_1_2 : w7.cell? ⟨gx, 2, none⟩ = some (.int .i64 (rd_T58 l0 x).f2) := (blk_cell (O7.out.blk (i := 1) rfl) 2).trans rfl; have f7_1_2 : w7.frozen? ⟨gx, 2, none⟩ = false := blk_frozen (O7.out.blk (i := 1) rfl) 2; have c7_1_3 : w7.cell? ⟨gx, 3, none⟩ = some (.string (rd_T58 l0 x).f3) := (blk_cell (O7.out.blk (i := 1) rfl) 3).trans rfl; have f7_1_3 : w7.frozen? ⟨gx, 3, none⟩ = false := blk_frozen (O7.out.blk (i := 1) rfl) 3; clear o_ k_) | ((with_reducible refine gate_callee (f := 41) rfl ?_); refine goesL_ (some 39) rfl rfl Tryd.func41 (by kernel_rfl) rfl #[.agg #[.string (rd_T58 l0 x).f0, .int .i64 (rd_T58 l0 x).f1, .int .i64 (rd_T58 l0 x).f2, .string (rd_T58 l0 x).f3]] rfl (by (try simp only [List.map_toArray, List.map_cons, List.map_nil]); first | done | rfl) ?_; refine (chapbookref04_May.calls 6 _ _ _ _ (mayS (rd_T58 l0 x)) _ (rmay_ok 0 _ _ _ _)).mono ?_; rintro e_ w8 ⟨rfl, hb_⟩; refine ⟨_, rfl, ?_⟩; have o_ := O7.out.below hb_; have k_ := KeepS.of_below (N := N) hb_; have O8 : Aside0 (Own N w8 [WRB w.heap.size gw (cat l0 x, false), cells gx #[.string (rd_T58 l0 x).f0, .int .i64 (rd_T58 l0 x).f1, .int .i64 (rd_T58 l0 x).f2, .string (rd_T58 l0 x).f3] 58]) := ⟨o_⟩; have K8 : Aside0 (KeepS N w w8) := ⟨K7.out.trans k_⟩; clear c7_1_0 f7_1_0 c7_1_1 f7_1_1 c7_1_2 f7_1_2 c7_1_3 f7_1_3 O7 K7; have c8_1_0 : w8.cell? ⟨gx, 0, none⟩ = some (.string (rd_T58 l0 x).f0) := (blk_cell (O8.out.blk (i := 1) rfl) 0).trans rfl; have f8_1_0 : w8.frozen? ⟨gx, 0, none⟩ = false := blk_frozen (O8.out.blk (i := 1) rfl) 0; have c8_1_1 : w8.cell? ⟨gx, 1, none⟩ = some (.int .i64 (rd_T58 l0 x).f1) := (blk_cell (O8.out.blk (i := 1) rfl) 1).trans rfl; have f8_1_1 : w8.frozen? ⟨gx, 1, none⟩ = false := blk_frozen (O8.out.blk (i := 1) rfl) 1; have c8_1_2 : w8.cell? ⟨gx, 2, none⟩ = some (.int .i64 (rd_T58 l0 x).f2) := (blk_cell (O8.out.blk (i := 1) rfl) 2).trans rfl; have f8_1_2 : w8.frozen? ⟨gx, 2, none⟩ = false := blk_frozen (O8.out.blk (i := 1) rfl) 2; have c8_1_3 : w8.cell? ⟨gx, 3, none⟩ = some (.string (rd_T58 l0 x).f3) := (blk_cell (O8.out.blk (i := 1) rfl) 3).trans rfl; have f8_1_3 : w8.frozen? ⟨gx, 3, none⟩ = false := blk_frozen (O8.out.blk (i := 1) rfl) 3; clear o_ k_ hb_) | ((with_reducible refine gate_callee (f := 17) rfl ?_); refine goesL_ (some 47) rfl rfl Tryd.func17 (by kernel_rfl) rfl #[.pointer (some ⟨gw, 0, none⟩)] rfl (by (try simp only [List.map_toArray, List.map_cons, List.map_nil]); first | done | rfl) ?_; obtain ⟨N_, on_, nn_, rr_, bb_⟩ := O8.out.frame1 (i := 0) rfl; refine (wbBytes K8.out.size (cat l0 x) 0 (told_c _) on_).mono ?_; rintro e_ w9 ⟨rfl, oo_, kk_⟩; obtain ⟨o_, k_⟩ := bb_ _ _ _ kk_ oo_; refine ⟨_, rfl, ?_⟩; have O9 : Aside0 (Own N w9 [WRB w.heap.size gw (cat l0 x, false), cells gx #[.string (rd_T58 l0 x).f0, .int .i64 (rd_T58 l0 x).f1, .int .i64 (rd_T58 l0 x).f2, .string (rd_T58 l0 x).f3] 58]) := ⟨o_⟩; have K9 : Aside0 (KeepS N w w9) := ⟨K8.out.trans k_⟩; clear c8_1_0 f8_1_0 c8_1_1 f8_1_1 c8_1_2 f8_1_2 c8_1_3 f8_1_3 O8 K8; have c9_1_0 : w9.cell? ⟨gx, 0, none⟩ = some (.string (rd_T58 l0 x).f0) := (blk_cell (O9.out.blk (i := 1) rfl) 0).trans rfl; have f9_1_0 : w9.frozen? ⟨gx, 0, none⟩ = false := blk_frozen (O9.out.blk (i := 1) rfl) 0; have c9_1_1 : w9.cell? ⟨gx, 1, none⟩ = some (.int .i64 (rd_T58 l0 x).f1) := (blk_cell (O9.out.blk (i := 1) rfl) 1).trans rfl; have f9_1_1 : w9.frozen? ⟨gx, 1, none⟩ = false := blk_frozen (O9.out.blk (i := 1) rfl) 1; have c9_1_2 : w9.cell? ⟨gx, 2, none⟩ = some (.int .i64 (rd_T58 l0 x).f2) := (blk_cell (O9.out.blk (i := 1) rfl) 2).trans rfl; have f9_1_2 : w9.frozen? ⟨gx, 2, none⟩ = false := blk_frozen (O9.out.blk (i := 1) rfl) 2; have c9_1_3 : w9.cell? ⟨gx, 3, none⟩ = some (.string (rd_T58 l0 x).f3) := (blk_cell (O9.out.blk (i := 1) rfl) 3).trans rfl; have f9_1_3 : w9.frozen? ⟨gx, 3, none⟩ = false := blk_frozen (O9.out.blk (i := 1) rfl) 3; clear o_ k_ oo_ kk_ on_ nn_ rr_ bb_) | ((with_reducible refine gate_callee (f := 18) rfl ?_); refine goesL_ (some 53) rfl rfl Tryd.func18 (by kernel_rfl) rfl #[.string (cat l0 x ++ a1)] rfl (by (try simp only [List.map_toArray, List.map_cons, List.map_nil]); first | done | rfl) ?_; obtain ⟨N_, on_, nn_, rr_, bb_⟩ := O9.out.frame0; refine (pRead (cat l0 x ++ a1) (Below.refl _ _) on_).mono ?_; rintro e_ w10 ⟨gr, rfl, oo_, kk_⟩; obtain ⟨o_, k_⟩ := bb_ _ _ kk_ oo_; refine ⟨_, rfl, ?_⟩; have O10 : Aside0 (Own N w10 [WRB w.heap.size gw (cat l0 x, false), cells gx #[.string (rd_T58 l0 x).f0, .int .i64 (rd_T58 l0 x).f1, .int .i64 (rd_T58 l0 x).f2, .string (rd_T58 l0 x).f3] 58, RP gr (cat l0 x ++ a1) 0 0]) := ⟨o_⟩; have K10 : Aside0 (KeepS N w w10) := ⟨K9.out.trans k_⟩; clear c9_1_0 f9_1_0 c9_1_1 f9_1_1 c9_1_2 f9_1_2 c9_1_3 f9_1_3 O9 K9; have c10_1_0 : w10.cell? ⟨gx, 0, none⟩ = some (.string (rd_T58 l0 x).f0) := (blk_cell (O10.out.blk (i := 1) rfl) 0).trans rfl; have f10_1_0 : w10.frozen? ⟨gx, 0, none⟩ = false := blk_frozen (O10.out.blk (i := 1) rfl) 0; have c10_1_1 : w10.cell? ⟨gx, 1, none⟩ = some (.int .i64 (rd_T58 l0 x).f1) := (blk_cell (O10.out.blk (i := 1) rfl) 1).trans rfl; have f10_1_1 : w10.frozen? ⟨gx, 1, none⟩ = false := blk_frozen (O10.out.blk (i := 1) rfl) 1; have c10_1_2 : w10.cell? ⟨gx, 2, none⟩ = some (.int .i64 (rd_T58 l0 x).f2) := (blk_cell (O10.out.blk (i := 1) rfl) 2).trans rfl; have f10_1_2 : w10.frozen? ⟨gx, 2, none⟩ = false := blk_frozen (O10.out.blk (i := 1) rfl) 2; have c10_1_3 : w10.cell? ⟨gx, 3, none⟩ = some (.string (rd_T58 l0 x).f3) := (blk_cell (O10.out.blk (i := 1) rfl) 3).trans rfl; have f10_1_3 : w10.frozen? ⟨gx, 3, none⟩ = false := blk_frozen (O10.out.blk (i := 1) rfl) 3; clear o_ k_ oo_ kk_ on_ nn_ rr_ bb_) | ((with_reducible refine gate_dst (N := 58) rfl ?_); refine own_box rfl (D := 58) rfl (cs := #[.string (cat l0 x ++ a1), .int .i64 0, .int .i64 0]) (t := 43) ?hr O10.out ?_; (case hr => first | (go_simp; done) | (go_simp; rfl)); intro gm w11 o_ k_; have O11 : Aside0 (Own N w11 [WRB w.heap.size gw (cat l0 x, false), cells gx #[.string (rd_T58 l0 x).f0, .int .i64 (rd_T58 l0 x).f1, .int .i64 (rd_T58 l0 x).f2, .string (rd_T58 l0 x).f3] 58, RP gr (cat l0 x ++ a1) 0 0, cells gm #[.string (cat l0 x ++ a1), .int .i64 0, .int .i64 0] 43]) := ⟨o_⟩; have K11 : Aside0 (KeepS N w w11) := ⟨K10.out.trans k_⟩; clear c10_1_0 f10_1_0 c10_1_1 f10_1_1 c10_1_2 f10_1_2 c10_1_3 f10_1_3 O10 K10; have c11_1_0 : w11.cell? ⟨gx, 0, none⟩ = some (.string (rd_T58 l0 x).f0) := (blk_cell (O11.out.blk (i := 1) rfl) 0).trans rfl; have f11_1_0 : w11.frozen? ⟨gx, 0, none⟩ = false := blk_frozen (O11.out.blk (i := 1) rfl) 0; have c11_1_1 : w11.cell? ⟨gx, 1, none⟩ = some (.int .i64 (rd_T58 l0 x).f1) := (blk_cell (O11.out.blk (i := 1) rfl) 1).trans rfl; have f11_1_1 : w11.frozen? ⟨gx, 1, none⟩ = false := blk_frozen (O11.out.blk (i := 1) rfl) 1; have c11_1_2 : w11.cell? ⟨gx, 2, none⟩ = some (.int .i64 (rd_T58 l0 x).f2) := (blk_cell (O11.out.blk (i := 1) rfl) 2).trans rfl; have f11_1_2 : w11.frozen? ⟨gx, 2, none⟩ = false := blk_frozen (O11.out.blk (i := 1) rfl) 2; have c11_1_3 : w11.cell? ⟨gx, 3, none⟩ = some (.string (rd_T58 l0 x).f3) := (blk_cell (O11.out.blk (i := 1) rfl) 3).trans rfl; have f11_1_3 : w11.frozen? ⟨gx, 3, none⟩ = false := blk_frozen (O11.out.blk (i := 1) rfl) 3; have c11_3_0 : w11.cell? ⟨gm, 0, none⟩ = some (.string (cat l0 x ++ a1)) := (blk_cell (O11.out.blk (i := 3) rfl) 0).trans rfl; have f11_3_0 : w11.frozen? ⟨gm, 0, none⟩ = false := blk_frozen (O11.out.blk (i := 3) rfl) 0; have c11_3_1 : w11.cell? ⟨gm, 1, none⟩ = some (.int .i64 0) := (blk_cell (O11.out.blk (i := 3) rfl) 1).trans rfl; have f11_3_1 : w11.frozen? ⟨gm, 1, none⟩ = false := blk_frozen (O11.out.blk (i := 3) rfl) 1; have c11_3_2 : w11.cell? ⟨gm, 2, none⟩ = some (.int .i64 0) := (blk_cell (O11.out.blk (i := 3) rfl) 2).trans rfl; have f11_3_2 : w11.frozen? ⟨gm, 2, none⟩ = false := blk_frozen (O11.out.blk (i := 3) rfl) 2; have n11_1_3 : gx ≠ gm := O11.out.ne (i := 1) (j := 3) rfl rfl (by decide); have n11_3_1 : gm ≠ gx := O11.out.ne (i := 3) (j := 1) rfl rfl (by decide); clear o_ k_))
          go_loopw [67] (fun i wr => PtJ N w l0 a1 x gr gm i wr) (fun i _ => (x + 3).toNat - (intOf i).toNat)
          case atStart => exact ⟨0, 0, 0, by omega, by have := HX.out; omega, rfl, ⟨by omega, by omega, fun _ => ⟨rfl, rfl⟩⟩, ⟨O11.out.pick2 (a := 2) (b := 3) rfl rfl (by decide)⟩, K11⟩
          case round =>
            clear c11_1_0 f11_1_0 c11_1_1 f11_1_1 c11_1_2 f11_1_2 c11_1_3 f11_1_3 c11_3_0 f11_3_0 c11_3_1 f11_3_1 c11_3_2 f11_3_2 n11_1_3 n11_3_1
            obtain ⟨y, p, e, hy0, hy1, rfl, HJ, OA2, KA2⟩ := hrel
            have hxx := HX.out
            have hl20 := HL20.out
            by_cases hlt : y < x + 3
            · have hd : decide (y < wrap64 (x + 3)) = true := by rw [HS3.out]; exact decide_eq_true hlt
              have hs2 : wrap64 (y + 1) = y + 1 := by unfold wrap64; omega
              have HY := Aside0.mk (And.intro hy0 hlt)
              have hee : ∀ q : Int, (q != q) = false := fun q => by simp
              have hvv : ∀ q : ByteArray, decide (q = q) = true := fun q => by simp
              by_cases hyx : y < x
              · have hd2 : decide (y < x) = true := decide_eq_true hyx
                have hpe := HJ.out.2.2 (Int.le_of_lt hyx)
                obtain ⟨rfl, rfl⟩ := hpe
                have hyl : y < (l0.length : Int) := by omega
                have HYL := Aside0.mk hyl
                have ey0 := eq_true hy0
                have ey1 := eq_true hyl
                have HMY := Aside0.mk (HI.out y hy0 hyx)
                have HQ := Aside0.mk (read_at (u0 := nil') (u3 := nil') (u1 := 0) (u2 := 0) (p2 := 0) (e2 := 0) (l := l0) (more := a1) hy0 hyx HMY.out)
                have HYX := Aside0.mk hyx
                clear hyx hyl hy1 hxx hl20 hlt
                have hpl := HJ.out
                have HPL : Aside0 (0 ≤ ((cat l0 y).size : Int) ∧ ((cat l0 y).size : Int) ≤ (cat l0 x ++ a1).size) := ⟨hpl.1, hpl.2.1⟩
                clear hpl hy0
                have O12 : Aside0 (Own N wr [RP gr (cat l0 x ++ a1) ((cat l0 y).size : Int) 0, RM gm (cat l0 x ++ a1) ((cat l0 y).size : Int) 0]) := ⟨OA2.out⟩
                have K12 : Aside0 (KeepS N w wr) := ⟨KA2.out⟩
                have HRJ_12 : Aside0 (Kd.F k58 wr N (some ad) l0.length l0) := ⟨keepF HRL_0.out KA2.out⟩
                have c12_0_0 : wr.cell? ⟨gr, 0, none⟩ = some (.string (cat l0 x ++ a1)) := (blk_cell (O12.out.blk (i := 0) rfl) 0).trans rfl
                have f12_0_0 : wr.frozen? ⟨gr, 0, none⟩ = false := blk_frozen (O12.out.blk (i := 0) rfl) 0
                have c12_0_1 : wr.cell? ⟨gr, 1, none⟩ = some (.int .i64 ((cat l0 y).size : Int)) := (blk_cell (O12.out.blk (i := 0) rfl) 1).trans rfl
                have f12_0_1 : wr.frozen? ⟨gr, 1, none⟩ = false := blk_frozen (O12.out.blk (i := 0) rfl) 1
                have c12_0_2 : wr.cell? ⟨gr, 2, none⟩ = some (.int .i64 0) := (blk_cell (O12.out.blk (i := 0) rfl) 2).trans rfl
                have f12_0_2 : wr.frozen? ⟨gr, 2, none⟩ = false := blk_frozen (O12.out.blk (i := 0) rfl) 2
                have c12_1_0 : wr.cell? ⟨gm, 0, none⟩ = some (.string (cat l0 x ++ a1)) := (blk_cell (O12.out.blk (i := 1) rfl) 0).trans rfl
                have f12_1_0 : wr.frozen? ⟨gm, 0, none⟩ = false := blk_frozen (O12.out.blk (i := 1) rfl) 0
                have c12_1_1 : wr.cell? ⟨gm, 1, none⟩ = some (.int .i64 ((cat l0 y).size : Int)) := (blk_cell (O12.out.blk (i := 1) rfl) 1).trans rfl
                have f12_1_1 : wr.frozen? ⟨gm, 1, none⟩ = false := blk_frozen (O12.out.blk (i := 1) rfl) 1
                have c12_1_2 : wr.cell? ⟨gm, 2, none⟩ = some (.int .i64 0) := (blk_cell (O12.out.blk (i := 1) rfl) 2).trans rfl
                have f12_1_2 : wr.frozen? ⟨gm, 2, none⟩ = false := blk_frozen (O12.out.blk (i := 1) rfl) 2
                have n12_0_1 : gr ≠ gm := O12.out.ne (i := 0) (j := 1) rfl rfl (by decide)
                have n12_1_0 : gm ≠ gr := O12.out.ne (i := 1) (j := 0) rfl rfl (by decide)
                clear OA2 KA2
                go_wp2_with (first | ((with_reducible refine gate_callee (f := 44) rfl ?_); refine goesL_ (some 71) rfl rfl Tryd.func44 (by kernel_rfl) rfl #[.pointer (some ⟨gr, 0, none⟩)] rfl (by (try simp only [List.map_toArray, List.map_cons, List.map_nil]); first | done | rfl) ?_; obtain ⟨N_, on_, nn_, rr_, bb_⟩ := O12.out.frame1 (i := 0) rfl; refine (pUpd HT (K12.out.below (Nat.le_refl _) (fun k hk => by rw [HN.out]; exact hk)) (Nat.le_of_not_lt (fun q_ => (O12.out.far (i := 0) rfl) (by rw [HN.out]; exact q_))) HSS.out HPL.out.1 HPL.out.2 (rd_T58 l0 y).f0 (rd_T58 l0 y).f1 (rd_T58 l0 y).f2 (rd_T58 l0 y).f3 ((cat l0 (y + 1)).size : Int) 0 HQ.out on_).mono ?_; rintro e_ w13 ⟨rfl, oo_, kk_⟩; obtain ⟨o_, k_⟩ := bb_ _ _ _ kk_ oo_; refine ⟨_, rfl, ?_⟩; have O13 : Aside0 (Own N w13 [RP gr (cat l0 x ++ a1) ((cat l0 (y + 1)).size : Int) 0, RM gm (cat l0 x ++ a1) ((cat l0 y).size : Int) 0]) := ⟨o_⟩; have K13 : Aside0 (KeepS N w w13) := ⟨K12.out.trans k_⟩; have HRJ_13 : Aside0 (Kd.F k58 w13 N (some ad) l0.length l0) := ⟨keepF HRJ_12.out k_⟩; clear c12_0_0 f12_0_0 c12_0_1 f12_0_1 c12_0_2 f12_0_2 c12_1_0 f12_1_0 c12_1_1 f12_1_1 c12_1_2 f12_1_2 n12_0_1 n12_1_0 O12 K12 HRJ_12; have c13_0_0 : w13.cell? ⟨gr, 0, none⟩ = some (.string (cat l0 x ++ a1)) := (blk_cell (O13.out.blk (i := 0) rfl) 0).trans rfl; have f13_0_0 : w13.frozen? ⟨gr, 0, none⟩ = false := blk_frozen (O13.out.blk (i := 0) rfl) 0; have c13_0_1 : w13.cell? ⟨gr, 1, none⟩ = some (.int .i64 ((cat l0 (y + 1)).size : Int)) := (blk_cell (O13.out.blk (i := 0) rfl) 1).trans rfl; have f13_0_1 : w13.frozen? ⟨gr, 1, none⟩ = false := blk_frozen (O13.out.blk (i := 0) rfl) 1; have c13_0_2 : w13.cell? ⟨gr, 2, none⟩ = some (.int .i64 0) := (blk_cell (O13.out.blk (i := 0) rfl) 2).trans rfl; have f13_0_2 : w13.frozen? ⟨gr, 2, none⟩ = false := blk_frozen (O13.out.blk (i := 0) rfl) 2; have c13_1_0 : w13.cell? ⟨gm, 0, none⟩ = some (.string (cat l0 x ++ a1)) := (blk_cell (O13.out.blk (i := 1) rfl) 0).trans rfl; have f13_1_0 : w13.frozen? ⟨gm, 0, none⟩ = false := blk_frozen (O13.out.blk (i := 1) rfl) 0; have c13_1_1 : w13.cell? ⟨gm, 1, none⟩ = some (.int .i64 ((cat l0 y).size : Int)) := (blk_cell (O13.out.blk (i := 1) rfl) 1).trans rfl; have f13_1_1 : w13.frozen? ⟨gm, 1, none⟩ = false := blk_frozen (O13.out.blk (i := 1) rfl) 1; have c13_1_2 : w13.cell? ⟨gm, 2, none⟩ = some (.int .i64 0) := (blk_cell (O13.out.blk (i := 1) rfl) 2).trans rfl; have f13_1_2 : w13.frozen? ⟨gm, 2, none⟩ = false := blk_frozen (O13.out.blk (i := 1) rfl) 2; have n13_0_1 : gr ≠ gm := O13.out.ne (i := 0) (j := 1) rfl rfl (by decide); have n13_1_0 : gm ≠ gr := O13.out.ne (i := 1) (j := 0) rfl rfl (by decide); clear o_ k_ oo_ kk_ on_ nn_ rr_ bb_) | ((with_reducible refine gate_dst (N := 14) rfl ?_); refine own_box rfl (D := 14) rfl (cs := #[.string (⟨#[]⟩ : ByteArray), .int .i64 0, .int .i64 0, .string (⟨#[]⟩ : ByteArray)]) (t := 58) ?hr O13.out ?_; (case hr => first | (go_simp; done) | (go_simp; rfl)); intro gu w14 o_ k_; have O14 : Aside0 (Own N w14 [RP gr (cat l0 x ++ a1) ((cat l0 (y + 1)).size : Int) 0, RM gm (cat l0 x ++ a1) ((cat l0 y).size : Int) 0, cells gu #[.string (⟨#[]⟩ : ByteArray), .int .i64 0, .int .i64 0, .string (⟨#[]⟩ : ByteArray)] 58]) := ⟨o_⟩; have K14 : Aside0 (KeepS N w w14) := ⟨K13.out.trans k_⟩; have HRJ_14 : Aside0 (Kd.F k58 w14 N (some ad) l0.length l0) := ⟨keepF HRJ_13.out k_⟩; clear c13_0_0 f13_0_0 c13_0_1 f13_0_1 c13_0_2 f13_0_2 c13_1_0 f13_1_0 c13_1_1 f13_1_1 c13_1_2 f13_1_2 n13_0_1 n13_1_0 O13 K13 HRJ_13; have c14_0_0 : w14.cell? ⟨gr, 0, none⟩ = some (.string (cat l0 x ++ a1)) := (blk_cell (O14.out.blk (i := 0) rfl) 0).trans rfl; have f14_0_0 : w14.frozen? ⟨gr, 0, none⟩ = false := blk_frozen (O14.out.blk (i := 0) rfl) 0; have c14_0_1 : w14.cell? ⟨gr, 1, none⟩ = some (.int .i64 ((cat l0 (y + 1)).size : Int)) := (blk_cell (O14.out.blk (i := 0) rfl) 1).trans rfl; have f14_0_1 : w14.frozen? ⟨gr, 1, none⟩ = false := blk_frozen (O14.out.blk (i := 0) rfl) 1; have c14_0_2 : w14.cell? ⟨gr, 2, none⟩ = some (.int .i64 0) := (blk_cell (O14.out.blk (i := 0) rfl) 2).trans rfl; have f14_0_2 : w14.frozen? ⟨gr, 2, none⟩ = false := blk_frozen (O14.out.blk (i := 0) rfl) 2; have c14_1_0 : w14.cell? ⟨gm, 0, none⟩ = some (.string (cat l0 x ++ a1)) := (blk_cell (O14.out.blk (i := 1) rfl) 0).trans rfl; have f14_1_0 : w14.frozen? ⟨gm, 0, none⟩ = false := blk_frozen (O14.out.blk (i := 1) rfl) 0; have c14_1_1 : w14.cell? ⟨gm, 1, none⟩ = some (.int .i64 ((cat l0 y).size : Int)) := (blk_cell (O14.out.blk (i := 1) rfl) 1).trans rfl; have f14_1_1 : w14.frozen? ⟨gm, 1, none⟩ = false := blk_frozen (O14.out.blk (i := 1) rfl) 1; have c14_1_2 : w14.cell? ⟨gm, 2, none⟩ = some (.int .i64 0) := (blk_cell (O14.out.blk (i := 1) rfl) 2).trans rfl; have f14_1_2 : w14.frozen? ⟨gm, 2, none⟩ = false := blk_frozen (O14.out.blk (i := 1) rfl) 2; have c14_2_0 : w14.cell? ⟨gu, 0, none⟩ = some (.string (⟨#[]⟩ : ByteArray)) := (blk_cell (O14.out.blk (i := 2) rfl) 0).trans rfl; have f14_2_0 : w14.frozen? ⟨gu, 0, none⟩ = false := blk_frozen (O14.out.blk (i := 2) rfl) 0; have c14_2_1 : w14.cell? ⟨gu, 1, none⟩ = some (.int .i64 0) := (blk_cell (O14.out.blk (i := 2) rfl) 1).trans rfl; have f14_2_1 : w14.frozen? ⟨gu, 1, none⟩ = false := blk_frozen (O14.out.blk (i := 2) rfl) 1; have c14_2_2 : w14.cell? ⟨gu, 2, none⟩ = some (.int .i64 0) := (blk_cell (O14.out.blk (i := 2) rfl) 2).trans rfl; have f14_2_2 : w14.frozen? ⟨gu, 2, none⟩ = false := blk_frozen (O14.out.blk (i := 2) rfl) 2; have c14_2_3 : w14.cell? ⟨gu, 3, none⟩ = some (.string (⟨#[]⟩ : ByteArray)) := (blk_cell (O14.out.blk (i := 2) rfl) 3).trans rfl; have f14_2_3 : w14.frozen? ⟨gu, 3, none⟩ = false := blk_frozen (O14.out.blk (i := 2) rfl) 3; have n14_0_1 : gr ≠ gm := O14.out.ne (i := 0) (j := 1) rfl rfl (by decide); have n14_0_2 : gr ≠ gu := O14.out.ne (i := 0) (j := 2) rfl rfl (by decide); have n14_1_0 : gm ≠ gr := O14.out.ne (i := 1) (j := 0) rfl rfl (by decide); have n14_1_2 : gm ≠ gu := O14.out.ne (i := 1) (j := 2) rfl rfl (by decide); have n14_2_0 : gu ≠ gr := O14.out.ne (i := 2) (j := 0) rfl rfl (by decide); have n14_2_1 : gu ≠ gm := O14.out.ne (i := 2) (j := 1) rfl rfl (by decide); clear o_ k_) | ((with_reducible refine gate_store (t := 58) (p := 14) rfl ?_); refine own_store rfl rfl rfl (w1 := (World.setCell (World.setCell (World.setCell (World.setCell w14 ⟨gu, 0, none⟩ (.string (rd_T58 l0 y).f0)) ⟨gu, 1, none⟩ (.int .i64 (rd_T58 l0 y).f1)) ⟨gu, 2, none⟩ (.int .i64 (rd_T58 l0 y).f2)) ⟨gu, 3, none⟩ (.string (rd_T58 l0 y).f3))) (N := N) (l' := [RP gr (cat l0 x ++ a1) ((cat l0 (y + 1)).size : Int) 0, RM gm (cat l0 x ++ a1) ((cat l0 y).size : Int) 0, cells gu #[.string (rd_T58 l0 y).f0, .int .i64 (rd_T58 l0 y).f1, .int .i64 (rd_T58 l0 y).f2, .string (rd_T58 l0 y).f3] 58]) ?hr ?ho ?hk ?_; (case hr => first | (go_simp; done) | (go_simp; rfl)); (case ho => exact ((((O14.out.set (i := 2) rfl 0 (.string (rd_T58 l0 y).f0)).set (i := 2) rfl 1 (.int .i64 (rd_T58 l0 y).f1)).set (i := 2) rfl 2 (.int .i64 (rd_T58 l0 y).f2)).set (i := 2) rfl 3 (.string (rd_T58 l0 y).f3))); (case hk => exact ((((KeepS.setCell (O14.out.far (i := 2) rfl) (.string (rd_T58 l0 y).f0)).trans (KeepS.setCell (O14.out.far (i := 2) rfl) (.int .i64 (rd_T58 l0 y).f1))).trans (KeepS.setCell (O14.out.far (i := 2) rfl) (.int .i64 (rd_T58 l0 y).f2))).trans (KeepS.setCell (O14.out.far (i := 2) rfl) (.string (rd_T58 l0 y).f3)))); intro w15 o_ k_; have O15 : Aside0 (Own N w15 [RP gr (cat l0 x ++ a1) ((cat l0 (y + 1)).size : Int) 0, RM gm (cat l0 x ++ a1) ((cat l0 y).size : Int) 0, cells gu #[.string (rd_T58 l0 y).f0, .int .i64 (rd_T58 l0 y).f1, .int .i64 (rd_T58 l0 y).f2, .string (rd_T58 l0 y).f3] 58]) := ⟨o_⟩; have K15 : Aside0 (KeepS N w w15) := ⟨K14.out.trans k_⟩; have HRJ_15 : Aside0 (Kd.F k58 w15 N (some ad) l0.length l0) := ⟨keepF HRJ_14.out k_⟩; clear c14_0_0 f14_0_0 c14_0_1 f14_0_1 c14_0_2 f14_0_2 c14_1_0 f14_1_0 c14_1_1 f14_1_1 c14_1_2 f14_1_2 c14_2_0 f14_2_0 c14_2_1 f14_2_1 c14_2_2 f14_2_2 c14_2_3 f14_2_3 n14_0_1 n14_0_2 n14_1_0 n14_1_2 n14_2_0 n14_2_1 O14 K14 HRJ_14; have c15_0_0 : w15.cell? ⟨gr, 0, none⟩ = some (.string (cat l0 x ++ a1)) := (blk_cell (O15.out.blk (i := 0) rfl) 0).trans rfl; have f15_0_0 : w15.frozen? ⟨gr, 0, none⟩ = false := blk_frozen (O15.out.blk (i := 0) rfl) 0; have c15_0_1 : w15.cell? ⟨gr, 1, none⟩ = some (.int .i64 ((cat l0 (y + 1)).size : Int)) := (blk_cell (O15.out.blk (i := 0) rfl) 1).trans rfl; have f15_0_1 : w15.frozen? ⟨gr, 1, none⟩ = false := blk_frozen (O15.out.blk (i := 0) rfl) 1; have c15_0_2 : w15.cell? ⟨gr, 2, none⟩ = some (.int .i64 0) := (blk_cell (O15.out.blk (i := 0) rfl) 2).trans rfl; have f15_0_2 : w15.frozen? ⟨gr, 2, none⟩ = false := blk_frozen (O15.out.blk (i := 0) rfl) 2; have c15_1_0 : w15.cell? ⟨gm, 0, none⟩ = some (.string (cat l0 x ++ a1)) := (blk_cell (O15.out.blk (i := 1) rfl) 0).trans rfl; have f15_1_0 : w15.frozen? ⟨gm, 0, none⟩ = false := blk_frozen (O15.out.blk (i := 1) rfl) 0; have c15_1_1 : w15.cell? ⟨gm, 1, none⟩ = some (.int .i64 ((cat l0 y).size : Int)) := (blk_cell (O15.out.blk (i := 1) rfl) 1).trans rfl; have f15_1_1 : w15.frozen? ⟨gm, 1, none⟩ = false := blk_frozen (O15.out.blk (i := 1) rfl) 1; have c15_1_2 : w15.cell? ⟨gm, 2, none⟩ = some (.int .i64 0) := (blk_cell (O15.out.blk (i := 1) rfl) 2).trans rfl; have f15_1_2 : w15.frozen? ⟨gm, 2, none⟩ = false := blk_frozen (O15.out.blk (i := 1) rfl) 2; have c15_2_0 : w15.cell? ⟨gu, 0, none⟩ = some (.string (rd_T58 l0 y).f0) := (blk_cell (O15.out.blk (i := 2) rfl) 0).trans rfl; have f15_2_0 : w15.frozen? ⟨gu, 0, none⟩ = false := blk_frozen (O15.out.blk (i := 2) rfl) 0; have c15_2_1 : w15.cell? ⟨gu, 1, none⟩ = some (.int .i64 (rd_T58 l0 y).f1) := (blk_cell (O15.out.blk (i := 2) rfl) 1).trans rfl; have f15_2_1 : w15.frozen? ⟨gu, 1, none⟩ = false := blk_frozen (O15.out.blk (i := 2) rfl) 1; have c15_2_2 : w15.cell? ⟨gu, 2, none⟩ = some (.int .i64 (rd_T58 l0 y).f2) := (blk_cell (O15.out.blk (i := 2) rfl) 2).trans rfl; have f15_2_2 : w15.frozen? ⟨gu, 2, none⟩ = false := blk_frozen (O15.out.blk (i := 2) rfl) 2; have c15_2_3 : w15.cell? ⟨gu, 3, none⟩ = some (.string (rd_T58 l0 y).f3) := (blk_cell (O15.out.blk (i := 2) rfl) 3).trans rfl; have f15_2_3 : w15.frozen? ⟨gu, 3, none⟩ = false := blk_frozen (O15.out.blk (i := 2) rfl) 3; have n15_0_1 : gr ≠ gm := O15.out.ne (i := 0) (j := 1) rfl rfl (by decide); have n15_0_2 : gr ≠ gu := O15.out.ne (i := 0) (j := 2) rfl rfl (by decide); have n15_1_0 : gm ≠ gr := O15.out.ne (i := 1) (j := 0) rfl rfl (by decide); have n15_1_2 : gm ≠ gu := O15.out.ne (i := 1) (j := 2) rfl rfl (by decide); have n15_2_0 : gu ≠ gr := O15.out.ne (i := 2) (j := 0) rfl rfl (by decide); have n15_2_1 : gu ≠ gm := O15.out.ne (i := 2) (j := 1) rfl rfl (by decide); clear o_ k_))
                refine start_ (n := 26) (S := fun w' => w'.cell? ⟨gu, 0, none⟩ = some (.string (rd_T58 l0 y).f0) ∧ w'.cell? ⟨gu, 1, none⟩ = some (.int .i64 (rd_T58 l0 y).f1) ∧ w'.cell? ⟨gu, 2, none⟩ = some (.int .i64 (rd_T58 l0 y).f2) ∧ w'.cell? ⟨gu, 3, none⟩ = some (.string (rd_T58 l0 y).f3) ∧ w'.cell? (ad.add (y.toNat * 4)) = some (.string (rd_T58 l0 y).f0) ∧ w'.cell? ⟨(ad.add (y.toNat * 4)).block, (ad.add (y.toNat * 4)).off + 1, none⟩ = some (.int .i64 (rd_T58 l0 y).f1) ∧ w'.cell? ⟨(ad.add (y.toNat * 4)).block, (ad.add (y.toNat * 4)).off + 2, none⟩ = some (.int .i64 (rd_T58 l0 y).f2) ∧ w'.cell? ⟨(ad.add (y.toNat * 4)).block, (ad.add (y.toNat * 4)).off + 3, none⟩ = some (.string (rd_T58 l0 y).f3)) (ds := []) #[false, false, false, false, false, false, false, false, false, false, false, false, false, false, false, false, false, false, false, false, false, false, false, false, false, false] (by kernel_rfl) rfl rfl ⟨((blk_cell (O15.out.blk (i := 2) rfl) 0).trans rfl), ((blk_cell (O15.out.blk (i := 2) rfl) 1).trans rfl), ((blk_cell (O15.out.blk (i := 2) rfl) 2).trans rfl), ((blk_cell (O15.out.blk (i := 2) rfl) 3).trans rfl), ((cellU HRJ_15.out y HY.out.1 HYL.out).1), ((cellU HRJ_15.out y HY.out.1 HYL.out).2.1), ((cellU HRJ_15.out y HY.out.1 HYL.out).2.2.1), ((cellU HRJ_15.out y HY.out.1 HYL.out).2.2.2)⟩ (fun hHeld => ?_)
                obtain ⟨w16, hw_⟩ : ∃ W, W = w15.drew := ⟨_, rfl⟩
                have o_ := O15.out.drew
                have k_ : KeepS N w15 w15.drew := KeepS.drew
                rw [← hw_] at o_ k_ hHeld ⊢
                clear hw_
                have O16 : Aside0 (Own N w16 [RP gr (cat l0 x ++ a1) ((cat l0 (y + 1)).size : Int) 0, RM gm (cat l0 x ++ a1) ((cat l0 y).size : Int) 0, cells gu #[.string (rd_T58 l0 y).f0, .int .i64 (rd_T58 l0 y).f1, .int .i64 (rd_T58 l0 y).f2, .string (rd_T58 l0 y).f3] 58]) := ⟨o_⟩
                have K16 : Aside0 (KeepS N w w16) := ⟨K15.out.trans k_⟩
                have HRJ_16 : Aside0 (Kd.F k58 w16 N (some ad) l0.length l0) := ⟨keepF HRJ_15.out k_⟩
                clear c15_0_0 f15_0_0 c15_0_1 f15_0_1 c15_0_2 f15_0_2 c15_1_0 f15_1_0 c15_1_1 f15_1_1 c15_1_2 f15_1_2 c15_2_0 f15_2_0 c15_2_1 f15_2_1 c15_2_2 f15_2_2 c15_2_3 f15_2_3 n15_0_1 n15_0_2 n15_1_0 n15_1_2 n15_2_0 n15_2_1 O15 K15 HRJ_15
                have c16_0_0 : w16.cell? ⟨gr, 0, none⟩ = some (.string (cat l0 x ++ a1)) := (blk_cell (O16.out.blk (i := 0) rfl) 0).trans rfl
                have f16_0_0 : w16.frozen? ⟨gr, 0, none⟩ = false := blk_frozen (O16.out.blk (i := 0) rfl) 0
                have c16_0_1 : w16.cell? ⟨gr, 1, none⟩ = some (.int .i64 ((cat l0 (y + 1)).size : Int)) := (blk_cell (O16.out.blk (i := 0) rfl) 1).trans rfl
                have f16_0_1 : w16.frozen? ⟨gr, 1, none⟩ = false := blk_frozen (O16.out.blk (i := 0) rfl) 1
                have c16_0_2 : w16.cell? ⟨gr, 2, none⟩ = some (.int .i64 0) := (blk_cell (O16.out.blk (i := 0) rfl) 2).trans rfl
                have f16_0_2 : w16.frozen? ⟨gr, 2, none⟩ = false := blk_frozen (O16.out.blk (i := 0) rfl) 2
                have c16_1_0 : w16.cell? ⟨gm, 0, none⟩ = some (.string (cat l0 x ++ a1)) := (blk_cell (O16.out.blk (i := 1) rfl) 0).trans rfl
                have f16_1_0 : w16.frozen? ⟨gm, 0, none⟩ = false := blk_frozen (O16.out.blk (i := 1) rfl) 0
                have c16_1_1 : w16.cell? ⟨gm, 1, none⟩ = some (.int .i64 ((cat l0 y).size : Int)) := (blk_cell (O16.out.blk (i := 1) rfl) 1).trans rfl
                have f16_1_1 : w16.frozen? ⟨gm, 1, none⟩ = false := blk_frozen (O16.out.blk (i := 1) rfl) 1
                have c16_1_2 : w16.cell? ⟨gm, 2, none⟩ = some (.int .i64 0) := (blk_cell (O16.out.blk (i := 1) rfl) 2).trans rfl
                have f16_1_2 : w16.frozen? ⟨gm, 2, none⟩ = false := blk_frozen (O16.out.blk (i := 1) rfl) 2
                have c16_2_0 : w16.cell? ⟨gu, 0, none⟩ = some (.string (rd_T58 l0 y).f0) := (blk_cell (O16.out.blk (i := 2) rfl) 0).trans rfl
                have f16_2_0 : w16.frozen? ⟨gu, 0, none⟩ = false := blk_frozen (O16.out.blk (i := 2) rfl) 0
                have c16_2_1 : w16.cell? ⟨gu, 1, none⟩ = some (.int .i64 (rd_T58 l0 y).f1) := (blk_cell (O16.out.blk (i := 2) rfl) 1).trans rfl
                have f16_2_1 : w16.frozen? ⟨gu, 1, none⟩ = false := blk_frozen (O16.out.blk (i := 2) rfl) 1
                have c16_2_2 : w16.cell? ⟨gu, 2, none⟩ = some (.int .i64 (rd_T58 l0 y).f2) := (blk_cell (O16.out.blk (i := 2) rfl) 2).trans rfl
                have f16_2_2 : w16.frozen? ⟨gu, 2, none⟩ = false := blk_frozen (O16.out.blk (i := 2) rfl) 2
                have c16_2_3 : w16.cell? ⟨gu, 3, none⟩ = some (.string (rd_T58 l0 y).f3) := (blk_cell (O16.out.blk (i := 2) rfl) 3).trans rfl
                have f16_2_3 : w16.frozen? ⟨gu, 3, none⟩ = false := blk_frozen (O16.out.blk (i := 2) rfl) 3
                have n16_0_1 : gr ≠ gm := O16.out.ne (i := 0) (j := 1) rfl rfl (by decide)
                have n16_0_2 : gr ≠ gu := O16.out.ne (i := 0) (j := 2) rfl rfl (by decide)
                have n16_1_0 : gm ≠ gr := O16.out.ne (i := 1) (j := 0) rfl rfl (by decide)
                have n16_1_2 : gm ≠ gu := O16.out.ne (i := 1) (j := 2) rfl rfl (by decide)
                have n16_2_0 : gu ≠ gr := O16.out.ne (i := 2) (j := 0) rfl rfl (by decide)
                have n16_2_1 : gu ≠ gm := O16.out.ne (i := 2) (j := 1) rfl rfl (by decide)
                clear o_ k_
                refine pure_ (i := 0) (N := some 72) (v := ?_) (a' := ?_) #[true, false, false, false, false, false, false, false, false, false, false, false, false, false, false, false, false, false, false, false, false, false, false, false, false, false] rfl rfl (by kernel_rfl) (fun _ _ _ h => h) (Or.inl ⟨by rfl, ?_⟩) ?_ ?_
                rotate_left
                · intro w'
                  go_simp
                  with_reducible rfl
                rotate_left
                · simp only [Act.put, List.setIfInBounds_toArray, List.set_cons_zero, List.set_cons_succ, i64_w, i32_w]
                  rfl
                refine pure_ (i := 1) (N := some 73) (v := ?_) (a' := ?_) #[true, true, false, false, false, false, false, false, false, false, false, false, false, false, false, false, false, false, false, false, false, false, false, false, false, false] rfl rfl (by kernel_rfl) (fun _ _ _ h => h) (Or.inl ⟨by rfl, ?_⟩) ?_ ?_
                rotate_left
                · intro w'
                  go_simp
                  with_reducible rfl
                rotate_left
                · simp only [Act.put, List.setIfInBounds_toArray, List.set_cons_zero, List.set_cons_succ, i64_w, i32_w]
                  rfl
                refine pure_ (i := 2) (N := some 74) (v := ?_) (a' := ?_) #[true, true, true, false, false, false, false, false, false, false, false, false, false, false, false, false, false, false, false, false, false, false, false, false, false, false] rfl rfl (by kernel_rfl) (fun _ _ _ h => h) (Or.inl ⟨by rfl, ?_⟩) ?_ ?_
                rotate_left
                · intro w'
                  go_simp
                  with_reducible rfl
                rotate_left
                · simp only [Act.put, List.setIfInBounds_toArray, List.set_cons_zero, List.set_cons_succ, i64_w, i32_w]
                  rfl
                refine pure_ (i := 3) (N := some 75) (v := ?_) (a' := ?_) #[true, true, true, true, false, false, false, false, false, false, false, false, false, false, false, false, false, false, false, false, false, false, false, false, false, false] rfl rfl (by kernel_rfl) (fun _ _ _ h => h) (Or.inl ⟨by rfl, ?_⟩) ?_ ?_
                rotate_left
                · intro w'
                  go_simp
                  with_reducible rfl
                rotate_left
                · simp only [Act.put, List.setIfInBounds_toArray, List.set_cons_zero, List.set_cons_succ, i64_w, i32_w]
                  rfl
                refine pure_ (i := 5) (N := some 77) (v := ?_) (a' := ?_) #[true, true, true, true, false, true, false, false, false, false, false, false, false, false, false, false, false, false, false, false, false, false, false, false, false, false] rfl rfl (by kernel_rfl) (fun _ _ _ h => h) (Or.inl ⟨by rfl, ?_⟩) ?_ ?_
                rotate_left
                · intro w'
                  go_simp
                  with_reducible rfl
                rotate_left
                · simp only [Act.put, List.setIfInBounds_toArray, List.set_cons_zero, List.set_cons_succ, i64_w, i32_w]
                  rfl
                refine pure_ (i := 6) (N := some 78) (v := ?_) (a' := ?_) #[true, true, true, true, false, true, true, false, false, false, false, false, false, false, false, false, false, false, false, false, false, false, false, false, false, false] rfl rfl (by kernel_rfl) (fun _ _ _ h => h) (Or.inl ⟨by rfl, ?_⟩) ?_ ?_
                rotate_left
                · intro w'
                  go_simp
                  with_reducible rfl
                rotate_left
                · simp only [Act.put, List.setIfInBounds_toArray, List.set_cons_zero, List.set_cons_succ, i64_w, i32_w]
                  rfl
                refine pure_ (i := 7) (N := some 79) (v := ?_) (a' := ?_) #[true, true, true, true, false, true, true, true, false, false, false, false, false, false, false, false, false, false, false, false, false, false, false, false, false, false] rfl rfl (by kernel_rfl) (fun _ _ _ h => h) (Or.inl ⟨by rfl, ?_⟩) ?_ ?_
                rotate_left
                · intro w'
                  go_simp
                  with_reducible rfl
                rotate_left
                · simp only [Act.put, List.setIfInBounds_toArray, List.set_cons_zero, List.set_cons_succ, i64_w, i32_w]
                  rfl
                refine take_ (i := 4) (N := some 76) (v := ?_) (a' := ?_) #[true, true, true, true, true, true, true, true, false, false, false, false, false, false, false, false, false, false, false, false, false, false, false, false, false, false] rfl rfl (by kernel_rfl) (fun _ _ _ h => h) (Or.inl ⟨by rfl, ?_⟩) hHeld ?_ ?_
                rotate_left
                · rintro w' ⟨s0, s1, s2, s3, s4, s5, s6, s7⟩
                  go_simp
                  with_reducible rfl
                rotate_left
                · simp only [Act.put, List.setIfInBounds_toArray, List.set_cons_zero, List.set_cons_succ, i64_w, i32_w]
                  rfl
                refine take_ (i := 8) (N := some 80) (v := ?_) (a' := ?_) #[true, true, true, true, true, true, true, true, true, false, false, false, false, false, false, false, false, false, false, false, false, false, false, false, false, false] rfl rfl (by kernel_rfl) (fun _ _ _ h => h) (Or.inl ⟨by rfl, ?_⟩) hHeld ?_ ?_
                rotate_left
                · rintro w' ⟨s0, s1, s2, s3, s4, s5, s6, s7⟩
                  go_simp
                  with_reducible rfl
                rotate_left
                · simp only [Act.put, List.setIfInBounds_toArray, List.set_cons_zero, List.set_cons_succ, i64_w, i32_w]
                  rfl
                refine pure_ (i := 9) (N := some 81) (v := ?_) (a' := ?_) #[true, true, true, true, true, true, true, true, true, true, false, false, false, false, false, false, false, false, false, false, false, false, false, false, false, false] rfl rfl (by kernel_rfl) (fun _ _ _ h => h) (Or.inl ⟨by rfl, ?_⟩) ?_ ?_
                rotate_left
                · intro w'
                  go_simp
                  with_reducible rfl
                rotate_left
                · simp only [Act.put, List.setIfInBounds_toArray, List.set_cons_zero, List.set_cons_succ, i64_w, i32_w]
                  rfl
                refine pure_ (i := 10) (N := some 82) (v := ?_) (a' := ?_) #[true, true, true, true, true, true, true, true, true, true, true, false, false, false, false, false, false, false, false, false, false, false, false, false, false, false] rfl rfl (by kernel_rfl) (fun _ _ _ h => h) (Or.inl ⟨by rfl, ?_⟩) ?_ ?_
                rotate_left
                · intro w'
                  go_simp
                  with_reducible rfl
                rotate_left
                · simp only [Act.put, List.setIfInBounds_toArray, List.set_cons_zero, List.set_cons_succ, i64_w, i32_w]
                  rfl
                refine pure_ (i := 11) (N := some 83) (v := ?_) (a' := ?_) #[true, true, true, true, true, true, true, true, true, true, true, true, false, false, false, false, false, false, false, false, false, false, false, false, false, false] rfl rfl (by kernel_rfl) (fun _ _ _ h => h) (Or.inl ⟨by rfl, ?_⟩) ?_ ?_
                rotate_left
                · intro w'
                  go_simp
                  with_reducible rfl
                rotate_left
                · simp only [Act.put, List.setIfInBounds_toArray, List.set_cons_zero, List.set_cons_succ, i64_w, i32_w]
                  rfl
                refine pure_ (i := 13) (N := some 85) (v := ?_) (a' := ?_) #[true, true, true, true, true, true, true, true, true, true, true, true, false, true, false, false, false, false, false, false, false, false, false, false, false, false] rfl rfl (by kernel_rfl) (fun _ _ _ h => h) (Or.inl ⟨by rfl, ?_⟩) ?_ ?_
                rotate_left
                · intro w'
                  go_simp
                  with_reducible rfl
                rotate_left
                · simp only [Act.put, List.setIfInBounds_toArray, List.set_cons_zero, List.set_cons_succ, i64_w, i32_w]
                  rfl
                refine take_ (i := 12) (N := some 84) (v := ?_) (a' := ?_) #[true, true, true, true, true, true, true, true, true, true, true, true, true, true, false, false, false, false, false, false, false, false, false, false, false, false] rfl rfl (by kernel_rfl) (fun _ _ _ h => h) (Or.inl ⟨by rfl, ?_⟩) hHeld ?_ ?_
                rotate_left
                · rintro w' ⟨s0, s1, s2, s3, s4, s5, s6, s7⟩
                  go_simp
                  with_reducible rfl
                rotate_left
                · simp only [Act.put, List.setIfInBounds_toArray, List.set_cons_zero, List.set_cons_succ, i64_w, i32_w]
                  rfl
                refine one_ (i := 14) (N := some 86) #[true, true, true, true, true, true, true, true, true, true, true, true, true, true, true, false, false, false, false, false, false, false, false, false, false, false] rfl rfl (by kernel_rfl) (by decide) (fun K_ hK_ => ?_)
                refine goes_ Tryd.func45 (by kernel_rfl) rfl #[.pointer (some ⟨gm, 0, none⟩)] (by rfl) rfl rfl (by (try simp only [List.map_toArray, List.map_cons, List.map_nil]); first | done | rfl) ?_
                obtain ⟨N_, on_, nn_, rr_, bb_⟩ := O16.out.frame1 (i := 1) rfl
                refine (rUpd (K16.out.below (Nat.le_refl _) (fun k hk => by rw [HN.out]; exact hk)) (Nat.le_of_not_lt (fun q_ => (O16.out.far (i := 1) rfl) (by rw [HN.out]; exact q_))) HSS.out HPL.out.1 HPL.out.2 (rd_T58 l0 y).f0 (rd_T58 l0 y).f1 (rd_T58 l0 y).f2 (rd_T58 l0 y).f3 ((cat l0 (y + 1)).size : Int) 0 HQ.out on_).mono ?_
                rintro e_ w17 ⟨rfl, oo_, kk_⟩
                obtain ⟨o_, k_⟩ := bb_ _ _ _ kk_ oo_
                refine ⟨_, rfl, ?_⟩
                have O17 : Aside0 (Own N w17 [RP gr (cat l0 x ++ a1) ((cat l0 (y + 1)).size : Int) 0, RM gm (cat l0 x ++ a1) ((cat l0 (y + 1)).size : Int) 0, cells gu #[.string (rd_T58 l0 y).f0, .int .i64 (rd_T58 l0 y).f1, .int .i64 (rd_T58 l0 y).f2, .string (rd_T58 l0 y).f3] 58]) := ⟨o_⟩
                have K17 : Aside0 (KeepS N w w17) := ⟨K16.out.trans k_⟩
                have HRJ_17 : Aside0 (Kd.F k58 w17 N (some ad) l0.length l0) := ⟨keepF HRJ_16.out k_⟩
                clear c16_0_0 f16_0_0 c16_0_1 f16_0_1 c16_0_2 f16_0_2 c16_1_0 f16_1_0 c16_1_1 f16_1_1 c16_1_2 f16_1_2 c16_2_0 f16_2_0 c16_2_1 f16_2_1 c16_2_2 f16_2_2 c16_2_3 f16_2_3 n16_0_1 n16_0_2 n16_1_0 n16_1_2 n16_2_0 n16_2_1 O16 K16 HRJ_16
                have c17_0_0 : w17.cell? ⟨gr, 0, none⟩ = some (.string (cat l0 x ++ a1)) := (blk_cell (O17.out.blk (i := 0) rfl) 0).trans rfl
                have f17_0_0 : w17.frozen? ⟨gr, 0, none⟩ = false := blk_frozen (O17.out.blk (i := 0) rfl) 0
                have c17_0_1 : w17.cell? ⟨gr, 1, none⟩ = some (.int .i64 ((cat l0 (y + 1)).size : Int)) := (blk_cell (O17.out.blk (i := 0) rfl) 1).trans rfl
                have f17_0_1 : w17.frozen? ⟨gr, 1, none⟩ = false := blk_frozen (O17.out.blk (i := 0) rfl) 1
                have c17_0_2 : w17.cell? ⟨gr, 2, none⟩ = some (.int .i64 0) := (blk_cell (O17.out.blk (i := 0) rfl) 2).trans rfl
                have f17_0_2 : w17.frozen? ⟨gr, 2, none⟩ = false := blk_frozen (O17.out.blk (i := 0) rfl) 2
                have c17_1_0 : w17.cell? ⟨gm, 0, none⟩ = some (.string (cat l0 x ++ a1)) := (blk_cell (O17.out.blk (i := 1) rfl) 0).trans rfl
                have f17_1_0 : w17.frozen? ⟨gm, 0, none⟩ = false := blk_frozen (O17.out.blk (i := 1) rfl) 0
                have c17_1_1 : w17.cell? ⟨gm, 1, none⟩ = some (.int .i64 ((cat l0 (y + 1)).size : Int)) := (blk_cell (O17.out.blk (i := 1) rfl) 1).trans rfl
                have f17_1_1 : w17.frozen? ⟨gm, 1, none⟩ = false := blk_frozen (O17.out.blk (i := 1) rfl) 1
                have c17_1_2 : w17.cell? ⟨gm, 2, none⟩ = some (.int .i64 0) := (blk_cell (O17.out.blk (i := 1) rfl) 2).trans rfl
                have f17_1_2 : w17.frozen? ⟨gm, 2, none⟩ = false := blk_frozen (O17.out.blk (i := 1) rfl) 2
                have c17_2_0 : w17.cell? ⟨gu, 0, none⟩ = some (.string (rd_T58 l0 y).f0) := (blk_cell (O17.out.blk (i := 2) rfl) 0).trans rfl
                have f17_2_0 : w17.frozen? ⟨gu, 0, none⟩ = false := blk_frozen (O17.out.blk (i := 2) rfl) 0
                have c17_2_1 : w17.cell? ⟨gu, 1, none⟩ = some (.int .i64 (rd_T58 l0 y).f1) := (blk_cell (O17.out.blk (i := 2) rfl) 1).trans rfl
                have f17_2_1 : w17.frozen? ⟨gu, 1, none⟩ = false := blk_frozen (O17.out.blk (i := 2) rfl) 1
                have c17_2_2 : w17.cell? ⟨gu, 2, none⟩ = some (.int .i64 (rd_T58 l0 y).f2) := (blk_cell (O17.out.blk (i := 2) rfl) 2).trans rfl
                have f17_2_2 : w17.frozen? ⟨gu, 2, none⟩ = false := blk_frozen (O17.out.blk (i := 2) rfl) 2
                have c17_2_3 : w17.cell? ⟨gu, 3, none⟩ = some (.string (rd_T58 l0 y).f3) := (blk_cell (O17.out.blk (i := 2) rfl) 3).trans rfl
                have f17_2_3 : w17.frozen? ⟨gu, 3, none⟩ = false := blk_frozen (O17.out.blk (i := 2) rfl) 3
                have n17_0_1 : gr ≠ gm := O17.out.ne (i := 0) (j := 1) rfl rfl (by decide)
                have n17_0_2 : gr ≠ gu := O17.out.ne (i := 0) (j := 2) rfl rfl (by decide)
                have n17_1_0 : gm ≠ gr := O17.out.ne (i := 1) (j := 0) rfl rfl (by decide)
                have n17_1_2 : gm ≠ gu := O17.out.ne (i := 1) (j := 2) rfl rfl (by decide)
                have n17_2_0 : gu ≠ gr := O17.out.ne (i := 2) (j := 0) rfl rfl (by decide)
                have n17_2_1 : gu ≠ gm := O17.out.ne (i := 2) (j := 1) rfl rfl (by decide)
                clear o_ k_ oo_ kk_ on_ nn_ rr_ bb_
                clear hHeld
                refine hK_.out _ _ ⟨((blk_cell (O17.out.blk (i := 2) rfl) 0).trans rfl), ((blk_cell (O17.out.blk (i := 2) rfl) 1).trans rfl), ((blk_cell (O17.out.blk (i := 2) rfl) 2).trans rfl), ((blk_cell (O17.out.blk (i := 2) rfl) 3).trans rfl), ((cellU HRJ_17.out y HY.out.1 HYL.out).1), ((cellU HRJ_17.out y HY.out.1 HYL.out).2.1), ((cellU HRJ_17.out y HY.out.1 HYL.out).2.2.1), ((cellU HRJ_17.out y HY.out.1 HYL.out).2.2.2)⟩ (fun hHeld => ?_)
                clear hK_ K_
                refine norm_ (a' := ?_) ?_ ?_
                rotate_left
                · simp only [Act.put, List.setIfInBounds_toArray, List.set_cons_zero, List.set_cons_succ, i64_w, i32_w]
                  rfl
                clear hHeld
                have hHeld : (fun w' : World => w'.cell? ⟨gm, 2, none⟩ = some (.int .i64 0) ∧ w'.cell? ⟨gu, 0, none⟩ = some (.string (rd_T58 l0 y).f0) ∧ w'.cell? ⟨gu, 1, none⟩ = some (.int .i64 (rd_T58 l0 y).f1) ∧ w'.cell? ⟨gu, 2, none⟩ = some (.int .i64 (rd_T58 l0 y).f2) ∧ w'.cell? ⟨gu, 3, none⟩ = some (.string (rd_T58 l0 y).f3) ∧ w'.cell? (ad.add (y.toNat * 4)) = some (.string (rd_T58 l0 y).f0) ∧ w'.cell? ⟨(ad.add (y.toNat * 4)).block, (ad.add (y.toNat * 4)).off + 1, none⟩ = some (.int .i64 (rd_T58 l0 y).f1) ∧ w'.cell? ⟨(ad.add (y.toNat * 4)).block, (ad.add (y.toNat * 4)).off + 2, none⟩ = some (.int .i64 (rd_T58 l0 y).f2) ∧ w'.cell? ⟨(ad.add (y.toNat * 4)).block, (ad.add (y.toNat * 4)).off + 3, none⟩ = some (.string (rd_T58 l0 y).f3)) w17 := ⟨((blk_cell (O17.out.blk (i := 1) rfl) 2).trans rfl), ((blk_cell (O17.out.blk (i := 2) rfl) 0).trans rfl), ((blk_cell (O17.out.blk (i := 2) rfl) 1).trans rfl), ((blk_cell (O17.out.blk (i := 2) rfl) 2).trans rfl), ((blk_cell (O17.out.blk (i := 2) rfl) 3).trans rfl), ((cellU HRJ_17.out y HY.out.1 HYL.out).1), ((cellU HRJ_17.out y HY.out.1 HYL.out).2.1), ((cellU HRJ_17.out y HY.out.1 HYL.out).2.2.1), ((cellU HRJ_17.out y HY.out.1 HYL.out).2.2.2)⟩
                refine narrow_ (S2 := fun w' => w'.cell? ⟨gm, 2, none⟩ = some (.int .i64 0) ∧ w'.cell? ⟨gu, 0, none⟩ = some (.string (rd_T58 l0 y).f0) ∧ w'.cell? ⟨gu, 1, none⟩ = some (.int .i64 (rd_T58 l0 y).f1) ∧ w'.cell? ⟨gu, 2, none⟩ = some (.int .i64 (rd_T58 l0 y).f2) ∧ w'.cell? ⟨gu, 3, none⟩ = some (.string (rd_T58 l0 y).f3) ∧ w'.cell? (ad.add (y.toNat * 4)) = some (.string (rd_T58 l0 y).f0) ∧ w'.cell? ⟨(ad.add (y.toNat * 4)).block, (ad.add (y.toNat * 4)).off + 1, none⟩ = some (.int .i64 (rd_T58 l0 y).f1) ∧ w'.cell? ⟨(ad.add (y.toNat * 4)).block, (ad.add (y.toNat * 4)).off + 2, none⟩ = some (.int .i64 (rd_T58 l0 y).f2) ∧ w'.cell? ⟨(ad.add (y.toNat * 4)).block, (ad.add (y.toNat * 4)).off + 3, none⟩ = some (.string (rd_T58 l0 y).f3)) (fun w_ h_ => h_.2) hHeld ?_
                simp only at hHeld
                refine pure_ (i := 15) (N := some 87) (v := ?_) (a' := ?_) #[true, true, true, true, true, true, true, true, true, true, true, true, true, true, true, true, false, false, false, false, false, false, false, false, false, false] rfl rfl (by kernel_rfl) (fun _ _ _ h => h) (Or.inl ⟨by rfl, ?_⟩) ?_ ?_
                rotate_left
                · intro w'
                  go_simp
                  with_reducible rfl
                rotate_left
                · simp only [Act.put, List.setIfInBounds_toArray, List.set_cons_zero, List.set_cons_succ, i64_w, i32_w]
                  rfl
                refine pure_ (i := 16) (N := some 88) (v := ?_) (a' := ?_) #[true, true, true, true, true, true, true, true, true, true, true, true, true, true, true, true, true, false, false, false, false, false, false, false, false, false] rfl rfl (by kernel_rfl) (fun _ _ _ h => h) (Or.inl ⟨by rfl, ?_⟩) ?_ ?_
                rotate_left
                · intro w'
                  go_simp
                  with_reducible rfl
                rotate_left
                · simp only [Act.put, List.setIfInBounds_toArray, List.set_cons_zero, List.set_cons_succ, i64_w, i32_w]
                  rfl
                refine pure_ (i := 17) (N := some 89) (v := ?_) (a' := ?_) #[true, true, true, true, true, true, true, true, true, true, true, true, true, true, true, true, true, true, false, false, false, false, false, false, false, false] rfl rfl (by kernel_rfl) (fun _ _ _ h => h) (Or.inl ⟨by rfl, ?_⟩) ?_ ?_
                rotate_left
                · intro w'
                  go_simp
                  with_reducible rfl
                rotate_left
                · simp only [Act.put, List.setIfInBounds_toArray, List.set_cons_zero, List.set_cons_succ, i64_w, i32_w]
                  rfl
                refine pure_ (i := 18) (N := some 90) (v := ?_) (a' := ?_) #[true, true, true, true, true, true, true, true, true, true, true, true, true, true, true, true, true, true, true, false, false, false, false, false, false, false] rfl rfl (by kernel_rfl) (fun _ _ _ h => h) (Or.inl ⟨by rfl, ?_⟩) ?_ ?_
                rotate_left
                · intro w'
                  go_simp
                  with_reducible rfl
                rotate_left
                · simp only [Act.put, List.setIfInBounds_toArray, List.set_cons_zero, List.set_cons_succ, i64_w, i32_w]
                  rfl
                refine pure_ (i := 20) (N := some 92) (v := ?_) (a' := ?_) #[true, true, true, true, true, true, true, true, true, true, true, true, true, true, true, true, true, true, true, false, true, false, false, false, false, false] rfl rfl (by kernel_rfl) (fun _ _ _ h => h) (Or.inl ⟨by rfl, ?_⟩) ?_ ?_
                rotate_left
                · intro w'
                  go_simp
                  with_reducible rfl
                rotate_left
                · simp only [Act.put, List.setIfInBounds_toArray, List.set_cons_zero, List.set_cons_succ, i64_w, i32_w]
                  rfl
                refine pure_ (i := 21) (N := some 93) (v := ?_) (a' := ?_) #[true, true, true, true, true, true, true, true, true, true, true, true, true, true, true, true, true, true, true, false, true, true, false, false, false, false] rfl rfl (by kernel_rfl) (fun _ _ _ h => h) (Or.inl ⟨by rfl, ?_⟩) ?_ ?_
                rotate_left
                · intro w'
                  go_simp
                  with_reducible rfl
                rotate_left
                · simp only [Act.put, List.setIfInBounds_toArray, List.set_cons_zero, List.set_cons_succ, i64_w, i32_w]
                  rfl
                refine pure_ (i := 22) (N := some 94) (v := ?_) (a' := ?_) #[true, true, true, true, true, true, true, true, true, true, true, true, true, true, true, true, true, true, true, false, true, true, true, false, false, false] rfl rfl (by kernel_rfl) (fun _ _ _ h => h) (Or.inl ⟨by rfl, ?_⟩) ?_ ?_
                rotate_left
                · intro w'
                  go_simp
                  with_reducible rfl
                rotate_left
                · simp only [Act.put, List.setIfInBounds_toArray, List.set_cons_zero, List.set_cons_succ, i64_w, i32_w]
                  rfl
                refine take_ (i := 23) (N := some 95) (v := ?_) (a' := ?_) #[true, true, true, true, true, true, true, true, true, true, true, true, true, true, true, true, true, true, true, false, true, true, true, true, false, false] rfl rfl (by kernel_rfl) (fun _ _ _ h => h) (Or.inl ⟨by rfl, ?_⟩) hHeld ?_ ?_
                rotate_left
                · rintro w' ⟨s0, s1, s2, s3, s4, s5, s6, s7, s8⟩
                  go_simp
                  with_reducible rfl
                rotate_left
                · simp only [Act.put, List.setIfInBounds_toArray, List.set_cons_zero, List.set_cons_succ, i64_w, i32_w]
                  rfl
                refine one_ (i := 19) (N := some 91) #[true, true, true, true, true, true, true, true, true, true, true, true, true, true, true, true, true, true, true, true, true, true, true, true, false, false] rfl rfl (by kernel_rfl) (by decide) (fun K_ hK_ => ?_)
                refine goes_ Tryd.func22 (by kernel_rfl) rfl #[.pointer (some ⟨gr, 0, none⟩)] (by rfl) rfl rfl (by (try simp only [List.map_toArray, List.map_cons, List.map_nil]); first | done | rfl) ?_
                obtain ⟨N_, on_, nn_, rr_, bb_⟩ := O17.out.frame1 (i := 0) rfl
                refine (pErr (K17.out.below (Nat.le_refl _) (fun k hk => by rw [HN.out]; exact hk)) (Nat.le_of_not_lt (fun q_ => (O17.out.far (i := 0) rfl) (by rw [HN.out]; exact q_))) on_).mono ?_
                rintro e_ w18 ⟨rfl, oo_, kk_⟩
                obtain ⟨o_, k_⟩ := bb_ _ _ _ kk_ oo_
                refine ⟨_, rfl, ?_⟩
                have O18 : Aside0 (Own N w18 [RP gr (cat l0 x ++ a1) ((cat l0 (y + 1)).size : Int) 0, RM gm (cat l0 x ++ a1) ((cat l0 (y + 1)).size : Int) 0, cells gu #[.string (rd_T58 l0 y).f0, .int .i64 (rd_T58 l0 y).f1, .int .i64 (rd_T58 l0 y).f2, .string (rd_T58 l0 y).f3] 58]) := ⟨o_⟩
                have K18 : Aside0 (KeepS N w w18) := ⟨K17.out.trans k_⟩
                have HRJ_18 : Aside0 (Kd.F k58 w18 N (some ad) l0.length l0) := ⟨keepF HRJ_17.out k_⟩
                clear c17_0_0 f17_0_0 c17_0_1 f17_0_1 c17_0_2 f17_0_2 c17_1_0 f17_1_0 c17_1_1 f17_1_1 c17_1_2 f17_1_2 c17_2_0 f17_2_0 c17_2_1 f17_2_1 c17_2_2 f17_2_2 c17_2_3 f17_2_3 n17_0_1 n17_0_2 n17_1_0 n17_1_2 n17_2_0 n17_2_1 O17 K17 HRJ_17
                have c18_0_0 : w18.cell? ⟨gr, 0, none⟩ = some (.string (cat l0 x ++ a1)) := (blk_cell (O18.out.blk (i := 0) rfl) 0).trans rfl
                have f18_0_0 : w18.frozen? ⟨gr, 0, none⟩ = false := blk_frozen (O18.out.blk (i := 0) rfl) 0
                have c18_0_1 : w18.cell? ⟨gr, 1, none⟩ = some (.int .i64 ((cat l0 (y + 1)).size : Int)) := (blk_cell (O18.out.blk (i := 0) rfl) 1).trans rfl
                have f18_0_1 : w18.frozen? ⟨gr, 1, none⟩ = false := blk_frozen (O18.out.blk (i := 0) rfl) 1
                have c18_0_2 : w18.cell? ⟨gr, 2, none⟩ = some (.int .i64 0) := (blk_cell (O18.out.blk (i := 0) rfl) 2).trans rfl
                have f18_0_2 : w18.frozen? ⟨gr, 2, none⟩ = false := blk_frozen (O18.out.blk (i := 0) rfl) 2
                have c18_1_0 : w18.cell? ⟨gm, 0, none⟩ = some (.string (cat l0 x ++ a1)) := (blk_cell (O18.out.blk (i := 1) rfl) 0).trans rfl
                have f18_1_0 : w18.frozen? ⟨gm, 0, none⟩ = false := blk_frozen (O18.out.blk (i := 1) rfl) 0
                have c18_1_1 : w18.cell? ⟨gm, 1, none⟩ = some (.int .i64 ((cat l0 (y + 1)).size : Int)) := (blk_cell (O18.out.blk (i := 1) rfl) 1).trans rfl
                have f18_1_1 : w18.frozen? ⟨gm, 1, none⟩ = false := blk_frozen (O18.out.blk (i := 1) rfl) 1
                have c18_1_2 : w18.cell? ⟨gm, 2, none⟩ = some (.int .i64 0) := (blk_cell (O18.out.blk (i := 1) rfl) 2).trans rfl
                have f18_1_2 : w18.frozen? ⟨gm, 2, none⟩ = false := blk_frozen (O18.out.blk (i := 1) rfl) 2
                have c18_2_0 : w18.cell? ⟨gu, 0, none⟩ = some (.string (rd_T58 l0 y).f0) := (blk_cell (O18.out.blk (i := 2) rfl) 0).trans rfl
                have f18_2_0 : w18.frozen? ⟨gu, 0, none⟩ = false := blk_frozen (O18.out.blk (i := 2) rfl) 0
                have c18_2_1 : w18.cell? ⟨gu, 1, none⟩ = some (.int .i64 (rd_T58 l0 y).f1) := (blk_cell (O18.out.blk (i := 2) rfl) 1).trans rfl
                have f18_2_1 : w18.frozen? ⟨gu, 1, none⟩ = false := blk_frozen (O18.out.blk (i := 2) rfl) 1
                have c18_2_2 : w18.cell? ⟨gu, 2, none⟩ = some (.int .i64 (rd_T58 l0 y).f2) := (blk_cell (O18.out.blk (i := 2) rfl) 2).trans rfl
                have f18_2_2 : w18.frozen? ⟨gu, 2, none⟩ = false := blk_frozen (O18.out.blk (i := 2) rfl) 2
                have c18_2_3 : w18.cell? ⟨gu, 3, none⟩ = some (.string (rd_T58 l0 y).f3) := (blk_cell (O18.out.blk (i := 2) rfl) 3).trans rfl
                have f18_2_3 : w18.frozen? ⟨gu, 3, none⟩ = false := blk_frozen (O18.out.blk (i := 2) rfl) 3
                have n18_0_1 : gr ≠ gm := O18.out.ne (i := 0) (j := 1) rfl rfl (by decide)
                have n18_0_2 : gr ≠ gu := O18.out.ne (i := 0) (j := 2) rfl rfl (by decide)
                have n18_1_0 : gm ≠ gr := O18.out.ne (i := 1) (j := 0) rfl rfl (by decide)
                have n18_1_2 : gm ≠ gu := O18.out.ne (i := 1) (j := 2) rfl rfl (by decide)
                have n18_2_0 : gu ≠ gr := O18.out.ne (i := 2) (j := 0) rfl rfl (by decide)
                have n18_2_1 : gu ≠ gm := O18.out.ne (i := 2) (j := 1) rfl rfl (by decide)
                clear o_ k_ oo_ kk_ on_ nn_ rr_ bb_
                clear hHeld
                refine hK_.out _ _ ⟨((blk_cell (O18.out.blk (i := 1) rfl) 2).trans rfl), ((blk_cell (O18.out.blk (i := 2) rfl) 0).trans rfl), ((blk_cell (O18.out.blk (i := 2) rfl) 1).trans rfl), ((blk_cell (O18.out.blk (i := 2) rfl) 2).trans rfl), ((blk_cell (O18.out.blk (i := 2) rfl) 3).trans rfl), ((cellU HRJ_18.out y HY.out.1 HYL.out).1), ((cellU HRJ_18.out y HY.out.1 HYL.out).2.1), ((cellU HRJ_18.out y HY.out.1 HYL.out).2.2.1), ((cellU HRJ_18.out y HY.out.1 HYL.out).2.2.2)⟩ (fun hHeld => ?_)
                clear hK_ K_
                refine norm_ (a' := ?_) ?_ ?_
                rotate_left
                · simp only [Act.put, List.setIfInBounds_toArray, List.set_cons_zero, List.set_cons_succ, i64_w, i32_w]
                  rfl
                refine pure_ (i := 24) (N := some 96) (v := ?_) (a' := ?_) #[true, true, true, true, true, true, true, true, true, true, true, true, true, true, true, true, true, true, true, true, true, true, true, true, true, false] rfl rfl (by kernel_rfl) (fun _ _ _ h => h) (Or.inl ⟨by rfl, ?_⟩) ?_ ?_
                rotate_left
                · intro w'
                  go_simp
                  with_reducible rfl
                rotate_left
                · simp only [Act.put, List.setIfInBounds_toArray, List.set_cons_zero, List.set_cons_succ, i64_w, i32_w]
                  rfl
                refine pure_ (i := 25) (N := some 97) (v := ?_) (a' := ?_) #[true, true, true, true, true, true, true, true, true, true, true, true, true, true, true, true, true, true, true, true, true, true, true, true, true, true] rfl rfl (by kernel_rfl) (fun _ _ _ h => h) (Or.inl ⟨by rfl, ?_⟩) ?_ ?_
                rotate_left
                · intro w'
                  go_simp
                  with_reducible rfl
                rotate_left
                · simp only [Act.put, List.setIfInBounds_toArray, List.set_cons_zero, List.set_cons_succ, i64_w, i32_w]
                  rfl
                refine done_ (by kernel_rfl) ?_
                clear hHeld
                go_wp2
                go_roundw
                case rel => exact ⟨y + 1, ((cat l0 (y + 1)).size : Int), 0, by have := HY.out; omega, by have := HY.out; omega, int_eqW (by unfold wrap64; have := HY.out; have := HX.out; have := HL20.out; omega), ⟨by omega, by have := HPL.out; have := str_at (l := l0) (n := x) a1 HY.out.1 HYX.out; have q_ := this.2.1; rw [cat_s l0 HY.out.1, ByteArray.size_append]; omega, fun _ => ⟨rfl, rfl⟩⟩, ⟨O18.out.pick2 (a := 0) (b := 1) rfl rfl (by decide)⟩, K18⟩
                case measure => have := HY.out; simp [intOf]; omega
              · have hd2 : decide (y < x) = false := decide_eq_false hyx
                obtain ⟨u0, u1, u2, u3, p2, e2, hq⟩ : ∃ u0 u1 u2 u3 p2 e2, outU (cat l0 x ++ a1) (readU (cat l0 x ++ a1) p e) = (u0, u1, u2, u3, cat l0 x ++ a1, p2, e2) := ⟨_, _, _, _, _, _, rfl⟩
                have HQ := Aside0.mk hq
                have HPL : Aside0 (0 ≤ p ∧ p ≤ (cat l0 x ++ a1).size) := ⟨HJ.out.1, HJ.out.2.1⟩
                have hp2 : p2 = (readU (cat l0 x ++ a1) p e).2.2.2.2.1 := by unfold outU at hq; injection hq with _ hq; injection hq with _ hq; injection hq with _ hq; injection hq with _ hq; injection hq with _ hq; injection hq with hq _; exact hq.symm
                have HP2 : Aside0 (0 ≤ p2 ∧ p2 ≤ (cat l0 x ++ a1).size) := ⟨by rw [hp2]; exact readU_place _ _ _ HPL.out.1 HPL.out.2⟩
                have HYX := Aside0.mk hyx
                clear hq hp2 hyx hy0 hy1 hxx hl20 hlt
                have O12 : Aside0 (Own N wr [RP gr (cat l0 x ++ a1) p e, RM gm (cat l0 x ++ a1) p e]) := ⟨OA2.out⟩
                have K12 : Aside0 (KeepS N w wr) := ⟨KA2.out⟩
                have c12_0_0 : wr.cell? ⟨gr, 0, none⟩ = some (.string (cat l0 x ++ a1)) := (blk_cell (O12.out.blk (i := 0) rfl) 0).trans rfl
                have f12_0_0 : wr.frozen? ⟨gr, 0, none⟩ = false := blk_frozen (O12.out.blk (i := 0) rfl) 0
                have c12_0_1 : wr.cell? ⟨gr, 1, none⟩ = some (.int .i64 p) := (blk_cell (O12.out.blk (i := 0) rfl) 1).trans rfl
                have f12_0_1 : wr.frozen? ⟨gr, 1, none⟩ = false := blk_frozen (O12.out.blk (i := 0) rfl) 1
                have c12_0_2 : wr.cell? ⟨gr, 2, none⟩ = some (.int .i64 e) := (blk_cell (O12.out.blk (i := 0) rfl) 2).trans rfl
                have f12_0_2 : wr.frozen? ⟨gr, 2, none⟩ = false := blk_frozen (O12.out.blk (i := 0) rfl) 2
                have c12_1_0 : wr.cell? ⟨gm, 0, none⟩ = some (.string (cat l0 x ++ a1)) := (blk_cell (O12.out.blk (i := 1) rfl) 0).trans rfl
                have f12_1_0 : wr.frozen? ⟨gm, 0, none⟩ = false := blk_frozen (O12.out.blk (i := 1) rfl) 0
                have c12_1_1 : wr.cell? ⟨gm, 1, none⟩ = some (.int .i64 p) := (blk_cell (O12.out.blk (i := 1) rfl) 1).trans rfl
                have f12_1_1 : wr.frozen? ⟨gm, 1, none⟩ = false := blk_frozen (O12.out.blk (i := 1) rfl) 1
                have c12_1_2 : wr.cell? ⟨gm, 2, none⟩ = some (.int .i64 e) := (blk_cell (O12.out.blk (i := 1) rfl) 2).trans rfl
                have f12_1_2 : wr.frozen? ⟨gm, 2, none⟩ = false := blk_frozen (O12.out.blk (i := 1) rfl) 2
                have n12_0_1 : gr ≠ gm := O12.out.ne (i := 0) (j := 1) rfl rfl (by decide)
                have n12_1_0 : gm ≠ gr := O12.out.ne (i := 1) (j := 0) rfl rfl (by decide)
                clear OA2 KA2
                go_wp2_with (first | ((with_reducible refine gate_callee (f := 44) rfl ?_); refine goesL_ (some 71) rfl rfl Tryd.func44 (by kernel_rfl) rfl #[.pointer (some ⟨gr, 0, none⟩)] rfl (by (try simp only [List.map_toArray, List.map_cons, List.map_nil]); first | done | rfl) ?_; obtain ⟨N_, on_, nn_, rr_, bb_⟩ := O12.out.frame1 (i := 0) rfl; refine (pUpd HT (K12.out.below (Nat.le_refl _) (fun k hk => by rw [HN.out]; exact hk)) (Nat.le_of_not_lt (fun q_ => (O12.out.far (i := 0) rfl) (by rw [HN.out]; exact q_))) HSS.out HPL.out.1 HPL.out.2 u0 u1 u2 u3 p2 e2 HQ.out on_).mono ?_; rintro e_ w13 ⟨rfl, oo_, kk_⟩; obtain ⟨o_, k_⟩ := bb_ _ _ _ kk_ oo_; refine ⟨_, rfl, ?_⟩; have O13 : Aside0 (Own N w13 [RP gr (cat l0 x ++ a1) p2 e2, RM gm (cat l0 x ++ a1) p e]) := ⟨o_⟩; have K13 : Aside0 (KeepS N w w13) := ⟨K12.out.trans k_⟩; clear c12_0_0 f12_0_0 c12_0_1 f12_0_1 c12_0_2 f12_0_2 c12_1_0 f12_1_0 c12_1_1 f12_1_1 c12_1_2 f12_1_2 n12_0_1 n12_1_0 O12 K12; have c13_0_0 : w13.cell? ⟨gr, 0, none⟩ = some (.string (cat l0 x ++ a1)) := (blk_cell (O13.out.blk (i := 0) rfl) 0).trans rfl; have f13_0_0 : w13.frozen? ⟨gr, 0, none⟩ = false := blk_frozen (O13.out.blk (i := 0) rfl) 0; have c13_0_1 : w13.cell? ⟨gr, 1, none⟩ = some (.int .i64 p2) := (blk_cell (O13.out.blk (i := 0) rfl) 1).trans rfl; have f13_0_1 : w13.frozen? ⟨gr, 1, none⟩ = false := blk_frozen (O13.out.blk (i := 0) rfl) 1; have c13_0_2 : w13.cell? ⟨gr, 2, none⟩ = some (.int .i64 e2) := (blk_cell (O13.out.blk (i := 0) rfl) 2).trans rfl; have f13_0_2 : w13.frozen? ⟨gr, 2, none⟩ = false := blk_frozen (O13.out.blk (i := 0) rfl) 2; have c13_1_0 : w13.cell? ⟨gm, 0, none⟩ = some (.string (cat l0 x ++ a1)) := (blk_cell (O13.out.blk (i := 1) rfl) 0).trans rfl; have f13_1_0 : w13.frozen? ⟨gm, 0, none⟩ = false := blk_frozen (O13.out.blk (i := 1) rfl) 0; have c13_1_1 : w13.cell? ⟨gm, 1, none⟩ = some (.int .i64 p) := (blk_cell (O13.out.blk (i := 1) rfl) 1).trans rfl; have f13_1_1 : w13.frozen? ⟨gm, 1, none⟩ = false := blk_frozen (O13.out.blk (i := 1) rfl) 1; have c13_1_2 : w13.cell? ⟨gm, 2, none⟩ = some (.int .i64 e) := (blk_cell (O13.out.blk (i := 1) rfl) 2).trans rfl; have f13_1_2 : w13.frozen? ⟨gm, 2, none⟩ = false := blk_frozen (O13.out.blk (i := 1) rfl) 2; have n13_0_1 : gr ≠ gm := O13.out.ne (i := 0) (j := 1) rfl rfl (by decide); have n13_1_0 : gm ≠ gr := O13.out.ne (i := 1) (j := 0) rfl rfl (by decide); clear o_ k_ oo_ kk_ on_ nn_ rr_ bb_) | ((with_reducible refine gate_dst (N := 14) rfl ?_); refine own_box rfl (D := 14) rfl (cs := #[.string (⟨#[]⟩ : ByteArray), .int .i64 0, .int .i64 0, .string (⟨#[]⟩ : ByteArray)]) (t := 58) ?hr O13.out ?_; (case hr => first | (go_simp; done) | (go_simp; rfl)); intro gu w14 o_ k_; have O14 : Aside0 (Own N w14 [RP gr (cat l0 x ++ a1) p2 e2, RM gm (cat l0 x ++ a1) p e, cells gu #[.string (⟨#[]⟩ : ByteArray), .int .i64 0, .int .i64 0, .string (⟨#[]⟩ : ByteArray)] 58]) := ⟨o_⟩; have K14 : Aside0 (KeepS N w w14) := ⟨K13.out.trans k_⟩; clear c13_0_0 f13_0_0 c13_0_1 f13_0_1 c13_0_2 f13_0_2 c13_1_0 f13_1_0 c13_1_1 f13_1_1 c13_1_2 f13_1_2 n13_0_1 n13_1_0 O13 K13; have c14_0_0 : w14.cell? ⟨gr, 0, none⟩ = some (.string (cat l0 x ++ a1)) := (blk_cell (O14.out.blk (i := 0) rfl) 0).trans rfl; have f14_0_0 : w14.frozen? ⟨gr, 0, none⟩ = false := blk_frozen (O14.out.blk (i := 0) rfl) 0; have c14_0_1 : w14.cell? ⟨gr, 1, none⟩ = some (.int .i64 p2) := (blk_cell (O14.out.blk (i := 0) rfl) 1).trans rfl; have f14_0_1 : w14.frozen? ⟨gr, 1, none⟩ = false := blk_frozen (O14.out.blk (i := 0) rfl) 1; have c14_0_2 : w14.cell? ⟨gr, 2, none⟩ = some (.int .i64 e2) := (blk_cell (O14.out.blk (i := 0) rfl) 2).trans rfl; have f14_0_2 : w14.frozen? ⟨gr, 2, none⟩ = false := blk_frozen (O14.out.blk (i := 0) rfl) 2; have c14_1_0 : w14.cell? ⟨gm, 0, none⟩ = some (.string (cat l0 x ++ a1)) := (blk_cell (O14.out.blk (i := 1) rfl) 0).trans rfl; have f14_1_0 : w14.frozen? ⟨gm, 0, none⟩ = false := blk_frozen (O14.out.blk (i := 1) rfl) 0; have c14_1_1 : w14.cell? ⟨gm, 1, none⟩ = some (.int .i64 p) := (blk_cell (O14.out.blk (i := 1) rfl) 1).trans rfl; have f14_1_1 : w14.frozen? ⟨gm, 1, none⟩ = false := blk_frozen (O14.out.blk (i := 1) rfl) 1; have c14_1_2 : w14.cell? ⟨gm, 2, none⟩ = some (.int .i64 e) := (blk_cell (O14.out.blk (i := 1) rfl) 2).trans rfl; have f14_1_2 : w14.frozen? ⟨gm, 2, none⟩ = false := blk_frozen (O14.out.blk (i := 1) rfl) 2; have c14_2_0 : w14.cell? ⟨gu, 0, none⟩ = some (.string (⟨#[]⟩ : ByteArray)) := (blk_cell (O14.out.blk (i := 2) rfl) 0).trans rfl; have f14_2_0 : w14.frozen? ⟨gu, 0, none⟩ = false := blk_frozen (O14.out.blk (i := 2) rfl) 0; have c14_2_1 : w14.cell? ⟨gu, 1, none⟩ = some (.int .i64 0) := (blk_cell (O14.out.blk (i := 2) rfl) 1).trans rfl; have f14_2_1 : w14.frozen? ⟨gu, 1, none⟩ = false := blk_frozen (O14.out.blk (i := 2) rfl) 1; have c14_2_2 : w14.cell? ⟨gu, 2, none⟩ = some (.int .i64 0) := (blk_cell (O14.out.blk (i := 2) rfl) 2).trans rfl; have f14_2_2 : w14.frozen? ⟨gu, 2, none⟩ = false := blk_frozen (O14.out.blk (i := 2) rfl) 2; have c14_2_3 : w14.cell? ⟨gu, 3, none⟩ = some (.string (⟨#[]⟩ : ByteArray)) := (blk_cell (O14.out.blk (i := 2) rfl) 3).trans rfl; have f14_2_3 : w14.frozen? ⟨gu, 3, none⟩ = false := blk_frozen (O14.out.blk (i := 2) rfl) 3; have n14_0_1 : gr ≠ gm := O14.out.ne (i := 0) (j := 1) rfl rfl (by decide); have n14_0_2 : gr ≠ gu := O14.out.ne (i := 0) (j := 2) rfl rfl (by decide); have n14_1_0 : gm ≠ gr := O14.out.ne (i := 1) (j := 0) rfl rfl (by decide); have n14_1_2 : gm ≠ gu := O14.out.ne (i := 1) (j := 2) rfl rfl (by decide); have n14_2_0 : gu ≠ gr := O14.out.ne (i := 2) (j := 0) rfl rfl (by decide); have n14_2_1 : gu ≠ gm := O14.out.ne (i := 2) (j := 1) rfl rfl (by decide); clear o_ k_) | ((with_reducible refine gate_store (t := 58) (p := 14) rfl ?_); refine own_store rfl rfl rfl (w1 := (World.setCell (World.setCell (World.setCell (World.setCell w14 ⟨gu, 0, none⟩ (.string u0)) ⟨gu, 1, none⟩ (.int .i64 u1)) ⟨gu, 2, none⟩ (.int .i64 u2)) ⟨gu, 3, none⟩ (.string u3))) (N := N) (l' := [RP gr (cat l0 x ++ a1) p2 e2, RM gm (cat l0 x ++ a1) p e, cells gu #[.string u0, .int .i64 u1, .int .i64 u2, .string u3] 58]) ?hr ?ho ?hk ?_; (case hr => first | (go_simp; done) | (go_simp; rfl)); (case ho => exact ((((O14.out.set (i := 2) rfl 0 (.string u0)).set (i := 2) rfl 1 (.int .i64 u1)).set (i := 2) rfl 2 (.int .i64 u2)).set (i := 2) rfl 3 (.string u3))); (case hk => exact ((((KeepS.setCell (O14.out.far (i := 2) rfl) (.string u0)).trans (KeepS.setCell (O14.out.far (i := 2) rfl) (.int .i64 u1))).trans (KeepS.setCell (O14.out.far (i := 2) rfl) (.int .i64 u2))).trans (KeepS.setCell (O14.out.far (i := 2) rfl) (.string u3)))); intro w15 o_ k_; have O15 : Aside0 (Own N w15 [RP gr (cat l0 x ++ a1) p2 e2, RM gm (cat l0 x ++ a1) p e, cells gu #[.string u0, .int .i64 u1, .int .i64 u2, .string u3] 58]) := ⟨o_⟩; have K15 : Aside0 (KeepS N w w15) := ⟨K14.out.trans k_⟩; clear c14_0_0 f14_0_0 c14_0_1 f14_0_1 c14_0_2 f14_0_2 c14_1_0 f14_1_0 c14_1_1 f14_1_1 c14_1_2 f14_1_2 c14_2_0 f14_2_0 c14_2_1 f14_2_1 c14_2_2 f14_2_2 c14_2_3 f14_2_3 n14_0_1 n14_0_2 n14_1_0 n14_1_2 n14_2_0 n14_2_1 O14 K14; have c15_0_0 : w15.cell? ⟨gr, 0, none⟩ = some (.string (cat l0 x ++ a1)) := (blk_cell (O15.out.blk (i := 0) rfl) 0).trans rfl; have f15_0_0 : w15.frozen? ⟨gr, 0, none⟩ = false := blk_frozen (O15.out.blk (i := 0) rfl) 0; have c15_0_1 : w15.cell? ⟨gr, 1, none⟩ = some (.int .i64 p2) := (blk_cell (O15.out.blk (i := 0) rfl) 1).trans rfl; have f15_0_1 : w15.frozen? ⟨gr, 1, none⟩ = false := blk_frozen (O15.out.blk (i := 0) rfl) 1; have c15_0_2 : w15.cell? ⟨gr, 2, none⟩ = some (.int .i64 e2) := (blk_cell (O15.out.blk (i := 0) rfl) 2).trans rfl; have f15_0_2 : w15.frozen? ⟨gr, 2, none⟩ = false := blk_frozen (O15.out.blk (i := 0) rfl) 2; have c15_1_0 : w15.cell? ⟨gm, 0, none⟩ = some (.string (cat l0 x ++ a1)) := (blk_cell (O15.out.blk (i := 1) rfl) 0).trans rfl; have f15_1_0 : w15.frozen? ⟨gm, 0, none⟩ = false := blk_frozen (O15.out.blk (i := 1) rfl) 0; have c15_1_1 : w15.cell? ⟨gm, 1, none⟩ = some (.int .i64 p) := (blk_cell (O15.out.blk (i := 1) rfl) 1).trans rfl; have f15_1_1 : w15.frozen? ⟨gm, 1, none⟩ = false := blk_frozen (O15.out.blk (i := 1) rfl) 1; have c15_1_2 : w15.cell? ⟨gm, 2, none⟩ = some (.int .i64 e) := (blk_cell (O15.out.blk (i := 1) rfl) 2).trans rfl; have f15_1_2 : w15.frozen? ⟨gm, 2, none⟩ = false := blk_frozen (O15.out.blk (i := 1) rfl) 2; have c15_2_0 : w15.cell? ⟨gu, 0, none⟩ = some (.string u0) := (blk_cell (O15.out.blk (i := 2) rfl) 0).trans rfl; have f15_2_0 : w15.frozen? ⟨gu, 0, none⟩ = false := blk_frozen (O15.out.blk (i := 2) rfl) 0; have c15_2_1 : w15.cell? ⟨gu, 1, none⟩ = some (.int .i64 u1) := (blk_cell (O15.out.blk (i := 2) rfl) 1).trans rfl; have f15_2_1 : w15.frozen? ⟨gu, 1, none⟩ = false := blk_frozen (O15.out.blk (i := 2) rfl) 1; have c15_2_2 : w15.cell? ⟨gu, 2, none⟩ = some (.int .i64 u2) := (blk_cell (O15.out.blk (i := 2) rfl) 2).trans rfl; have f15_2_2 : w15.frozen? ⟨gu, 2, none⟩ = false := blk_frozen (O15.out.blk (i := 2) rfl) 2; have c15_2_3 : w15.cell? ⟨gu, 3, none⟩ = some (.string u3) := (blk_cell (O15.out.blk (i := 2) rfl) 3).trans rfl; have f15_2_3 : w15.frozen? ⟨gu, 3, none⟩ = false := blk_frozen (O15.out.blk (i := 2) rfl) 3; have n15_0_1 : gr ≠ gm := O15.out.ne (i := 0) (j := 1) rfl rfl (by decide); have n15_0_2 : gr ≠ gu := O15.out.ne (i := 0) (j := 2) rfl rfl (by decide); have n15_1_0 : gm ≠ gr := O15.out.ne (i := 1) (j := 0) rfl rfl (by decide); have n15_1_2 : gm ≠ gu := O15.out.ne (i := 1) (j := 2) rfl rfl (by decide); have n15_2_0 : gu ≠ gr := O15.out.ne (i := 2) (j := 0) rfl rfl (by decide); have n15_2_1 : gu ≠ gm := O15.out.ne (i := 2) (j := 1) rfl rfl (by decide); clear o_ k_))
                refine start_ (n := 26) (S := fun w' => w'.cell? ⟨gu, 0, none⟩ = some (.string u0) ∧ w'.cell? ⟨gu, 1, none⟩ = some (.int .i64 u1) ∧ w'.cell? ⟨gu, 2, none⟩ = some (.int .i64 u2) ∧ w'.cell? ⟨gu, 3, none⟩ = some (.string u3)) (ds := []) #[false, false, false, false, false, false, false, false, false, false, false, false, false, false, false, false, false, false, false, false, false, false, false, false, false, false] (by kernel_rfl) rfl rfl ⟨((blk_cell (O15.out.blk (i := 2) rfl) 0).trans rfl), ((blk_cell (O15.out.blk (i := 2) rfl) 1).trans rfl), ((blk_cell (O15.out.blk (i := 2) rfl) 2).trans rfl), ((blk_cell (O15.out.blk (i := 2) rfl) 3).trans rfl)⟩ (fun hHeld => ?_)
                obtain ⟨w16, hw_⟩ : ∃ W, W = w15.drew := ⟨_, rfl⟩
                have o_ := O15.out.drew
                have k_ : KeepS N w15 w15.drew := KeepS.drew
                rw [← hw_] at o_ k_ hHeld ⊢
                clear hw_
                have O16 : Aside0 (Own N w16 [RP gr (cat l0 x ++ a1) p2 e2, RM gm (cat l0 x ++ a1) p e, cells gu #[.string u0, .int .i64 u1, .int .i64 u2, .string u3] 58]) := ⟨o_⟩
                have K16 : Aside0 (KeepS N w w16) := ⟨K15.out.trans k_⟩
                clear c15_0_0 f15_0_0 c15_0_1 f15_0_1 c15_0_2 f15_0_2 c15_1_0 f15_1_0 c15_1_1 f15_1_1 c15_1_2 f15_1_2 c15_2_0 f15_2_0 c15_2_1 f15_2_1 c15_2_2 f15_2_2 c15_2_3 f15_2_3 n15_0_1 n15_0_2 n15_1_0 n15_1_2 n15_2_0 n15_2_1 O15 K15
                have c16_0_0 : w16.cell? ⟨gr, 0, none⟩ = some (.string (cat l0 x ++ a1)) := (blk_cell (O16.out.blk (i := 0) rfl) 0).trans rfl
                have f16_0_0 : w16.frozen? ⟨gr, 0, none⟩ = false := blk_frozen (O16.out.blk (i := 0) rfl) 0
                have c16_0_1 : w16.cell? ⟨gr, 1, none⟩ = some (.int .i64 p2) := (blk_cell (O16.out.blk (i := 0) rfl) 1).trans rfl
                have f16_0_1 : w16.frozen? ⟨gr, 1, none⟩ = false := blk_frozen (O16.out.blk (i := 0) rfl) 1
                have c16_0_2 : w16.cell? ⟨gr, 2, none⟩ = some (.int .i64 e2) := (blk_cell (O16.out.blk (i := 0) rfl) 2).trans rfl
                have f16_0_2 : w16.frozen? ⟨gr, 2, none⟩ = false := blk_frozen (O16.out.blk (i := 0) rfl) 2
                have c16_1_0 : w16.cell? ⟨gm, 0, none⟩ = some (.string (cat l0 x ++ a1)) := (blk_cell (O16.out.blk (i := 1) rfl) 0).trans rfl
                have f16_1_0 : w16.frozen? ⟨gm, 0, none⟩ = false := blk_frozen (O16.out.blk (i := 1) rfl) 0
                have c16_1_1 : w16.cell? ⟨gm, 1, none⟩ = some (.int .i64 p) := (blk_cell (O16.out.blk (i := 1) rfl) 1).trans rfl
                have f16_1_1 : w16.frozen? ⟨gm, 1, none⟩ = false := blk_frozen (O16.out.blk (i := 1) rfl) 1
                have c16_1_2 : w16.cell? ⟨gm, 2, none⟩ = some (.int .i64 e) := (blk_cell (O16.out.blk (i := 1) rfl) 2).trans rfl
                have f16_1_2 : w16.frozen? ⟨gm, 2, none⟩ = false := blk_frozen (O16.out.blk (i := 1) rfl) 2
                have c16_2_0 : w16.cell? ⟨gu, 0, none⟩ = some (.string u0) := (blk_cell (O16.out.blk (i := 2) rfl) 0).trans rfl
                have f16_2_0 : w16.frozen? ⟨gu, 0, none⟩ = false := blk_frozen (O16.out.blk (i := 2) rfl) 0
                have c16_2_1 : w16.cell? ⟨gu, 1, none⟩ = some (.int .i64 u1) := (blk_cell (O16.out.blk (i := 2) rfl) 1).trans rfl
                have f16_2_1 : w16.frozen? ⟨gu, 1, none⟩ = false := blk_frozen (O16.out.blk (i := 2) rfl) 1
                have c16_2_2 : w16.cell? ⟨gu, 2, none⟩ = some (.int .i64 u2) := (blk_cell (O16.out.blk (i := 2) rfl) 2).trans rfl
                have f16_2_2 : w16.frozen? ⟨gu, 2, none⟩ = false := blk_frozen (O16.out.blk (i := 2) rfl) 2
                have c16_2_3 : w16.cell? ⟨gu, 3, none⟩ = some (.string u3) := (blk_cell (O16.out.blk (i := 2) rfl) 3).trans rfl
                have f16_2_3 : w16.frozen? ⟨gu, 3, none⟩ = false := blk_frozen (O16.out.blk (i := 2) rfl) 3
                have n16_0_1 : gr ≠ gm := O16.out.ne (i := 0) (j := 1) rfl rfl (by decide)
                have n16_0_2 : gr ≠ gu := O16.out.ne (i := 0) (j := 2) rfl rfl (by decide)
                have n16_1_0 : gm ≠ gr := O16.out.ne (i := 1) (j := 0) rfl rfl (by decide)
                have n16_1_2 : gm ≠ gu := O16.out.ne (i := 1) (j := 2) rfl rfl (by decide)
                have n16_2_0 : gu ≠ gr := O16.out.ne (i := 2) (j := 0) rfl rfl (by decide)
                have n16_2_1 : gu ≠ gm := O16.out.ne (i := 2) (j := 1) rfl rfl (by decide)
                clear o_ k_
                refine pure_ (i := 0) (N := some 72) (v := ?_) (a' := ?_) #[true, false, false, false, false, false, false, false, false, false, false, false, false, false, false, false, false, false, false, false, false, false, false, false, false, false] rfl rfl (by kernel_rfl) (fun _ _ _ h => h) (Or.inl ⟨by rfl, ?_⟩) ?_ ?_
                rotate_left
                · intro w'
                  go_simp
                  with_reducible rfl
                rotate_left
                · simp only [Act.put, List.setIfInBounds_toArray, List.set_cons_zero, List.set_cons_succ, i64_w, i32_w]
                  rfl
                refine pure_ (i := 1) (N := some 73) (v := ?_) (a' := ?_) #[true, true, false, false, false, false, false, false, false, false, false, false, false, false, false, false, false, false, false, false, false, false, false, false, false, false] rfl rfl (by kernel_rfl) (fun _ _ _ h => h) (Or.inl ⟨by rfl, ?_⟩) ?_ ?_
                rotate_left
                · intro w'
                  go_simp
                  with_reducible rfl
                rotate_left
                · simp only [Act.put, List.setIfInBounds_toArray, List.set_cons_zero, List.set_cons_succ, i64_w, i32_w]
                  rfl
                refine pure_ (i := 2) (N := some 74) (v := ?_) (a' := ?_) #[true, true, true, false, false, false, false, false, false, false, false, false, false, false, false, false, false, false, false, false, false, false, false, false, false, false] rfl rfl (by kernel_rfl) (fun _ _ _ h => h) (Or.inl ⟨by rfl, ?_⟩) ?_ ?_
                rotate_left
                · intro w'
                  go_simp
                  with_reducible rfl
                rotate_left
                · simp only [Act.put, List.setIfInBounds_toArray, List.set_cons_zero, List.set_cons_succ, i64_w, i32_w]
                  rfl
                refine pure_ (i := 3) (N := some 75) (v := ?_) (a' := ?_) #[true, true, true, true, false, false, false, false, false, false, false, false, false, false, false, false, false, false, false, false, false, false, false, false, false, false] rfl rfl (by kernel_rfl) (fun _ _ _ h => h) (Or.inl ⟨by rfl, ?_⟩) ?_ ?_
                rotate_left
                · intro w'
                  go_simp
                  with_reducible rfl
                rotate_left
                · simp only [Act.put, List.setIfInBounds_toArray, List.set_cons_zero, List.set_cons_succ, i64_w, i32_w]
                  rfl
                refine pure_ (i := 5) (N := some 77) (v := undef) (a' := ?_) #[true, true, true, true, false, true, false, false, false, false, false, false, false, false, false, false, false, false, false, false, false, false, false, false, false, false] rfl rfl (by kernel_rfl) (fun _ _ _ h => h) (Or.inr ⟨by rfl, rfl⟩) ?_ ?_
                rotate_left
                · simp only [Act.put, List.setIfInBounds_toArray, List.set_cons_zero, List.set_cons_succ, i64_w, i32_w]
                  rfl
                refine pure_ (i := 6) (N := some 78) (v := undef) (a' := ?_) #[true, true, true, true, false, true, true, false, false, false, false, false, false, false, false, false, false, false, false, false, false, false, false, false, false, false] rfl rfl (by kernel_rfl) (fun _ _ _ h => h) (Or.inr ⟨by rfl, rfl⟩) ?_ ?_
                rotate_left
                · simp only [Act.put, List.setIfInBounds_toArray, List.set_cons_zero, List.set_cons_succ, i64_w, i32_w]
                  rfl
                refine pure_ (i := 7) (N := some 79) (v := undef) (a' := ?_) #[true, true, true, true, false, true, true, true, false, false, false, false, false, false, false, false, false, false, false, false, false, false, false, false, false, false] rfl rfl (by kernel_rfl) (fun _ _ _ h => h) (Or.inr ⟨by rfl, rfl⟩) ?_ ?_
                rotate_left
                · simp only [Act.put, List.setIfInBounds_toArray, List.set_cons_zero, List.set_cons_succ, i64_w, i32_w]
                  rfl
                refine take_ (i := 4) (N := some 76) (v := undef) (a' := ?_) #[true, true, true, true, true, true, true, true, false, false, false, false, false, false, false, false, false, false, false, false, false, false, false, false, false, false] rfl rfl (by kernel_rfl) (fun _ _ _ h => h) (Or.inr ⟨by rfl, rfl⟩) hHeld ?_ ?_
                rotate_left
                · simp only [Act.put, List.setIfInBounds_toArray, List.set_cons_zero, List.set_cons_succ, i64_w, i32_w]
                  rfl
                refine take_ (i := 8) (N := some 80) (v := undef) (a' := ?_) #[true, true, true, true, true, true, true, true, true, false, false, false, false, false, false, false, false, false, false, false, false, false, false, false, false, false] rfl rfl (by kernel_rfl) (fun _ _ _ h => h) (Or.inr ⟨by rfl, rfl⟩) hHeld ?_ ?_
                rotate_left
                · simp only [Act.put, List.setIfInBounds_toArray, List.set_cons_zero, List.set_cons_succ, i64_w, i32_w]
                  rfl
                refine pure_ (i := 9) (N := some 81) (v := undef) (a' := ?_) #[true, true, true, true, true, true, true, true, true, true, false, false, false, false, false, false, false, false, false, false, false, false, false, false, false, false] rfl rfl (by kernel_rfl) (fun _ _ _ h => h) (Or.inr ⟨by rfl, rfl⟩) ?_ ?_
                rotate_left
                · simp only [Act.put, List.setIfInBounds_toArray, List.set_cons_zero, List.set_cons_succ, i64_w, i32_w]
                  rfl
                refine pure_ (i := 10) (N := some 82) (v := ?_) (a' := ?_) #[true, true, true, true, true, true, true, true, true, true, true, false, false, false, false, false, false, false, false, false, false, false, false, false, false, false] rfl rfl (by kernel_rfl) (fun _ _ _ h => h) (Or.inl ⟨by rfl, ?_⟩) ?_ ?_
                rotate_left
                · intro w'
                  go_simp
                  with_reducible rfl
                rotate_left
                · simp only [Act.put, List.setIfInBounds_toArray, List.set_cons_zero, List.set_cons_succ, i64_w, i32_w]
                  rfl
                refine pure_ (i := 11) (N := some 83) (v := ?_) (a' := ?_) #[true, true, true, true, true, true, true, true, true, true, true, true, false, false, false, false, false, false, false, false, false, false, false, false, false, false] rfl rfl (by kernel_rfl) (fun _ _ _ h => h) (Or.inl ⟨by rfl, ?_⟩) ?_ ?_
                rotate_left
                · intro w'
                  go_simp
                  with_reducible rfl
                rotate_left
                · simp only [Act.put, List.setIfInBounds_toArray, List.set_cons_zero, List.set_cons_succ, i64_w, i32_w]
                  rfl
                refine pure_ (i := 13) (N := some 85) (v := ?_) (a' := ?_) #[true, true, true, true, true, true, true, true, true, true, true, true, false, true, false, false, false, false, false, false, false, false, false, false, false, false] rfl rfl (by kernel_rfl) (fun _ _ _ h => h) (Or.inl ⟨by rfl, ?_⟩) ?_ ?_
                rotate_left
                · intro w'
                  go_simp
                  with_reducible rfl
                rotate_left
                · simp only [Act.put, List.setIfInBounds_toArray, List.set_cons_zero, List.set_cons_succ, i64_w, i32_w]
                  rfl
                refine take_ (i := 12) (N := some 84) (v := ?_) (a' := ?_) #[true, true, true, true, true, true, true, true, true, true, true, true, true, true, false, false, false, false, false, false, false, false, false, false, false, false] rfl rfl (by kernel_rfl) (fun _ _ _ h => h) (Or.inl ⟨by rfl, ?_⟩) hHeld ?_ ?_
                rotate_left
                · rintro w' ⟨s0, s1, s2, s3⟩
                  go_simp
                  with_reducible rfl
                rotate_left
                · simp only [Act.put, List.setIfInBounds_toArray, List.set_cons_zero, List.set_cons_succ, i64_w, i32_w]
                  rfl
                refine one_ (i := 14) (N := some 86) #[true, true, true, true, true, true, true, true, true, true, true, true, true, true, true, false, false, false, false, false, false, false, false, false, false, false] rfl rfl (by kernel_rfl) (by decide) (fun K_ hK_ => ?_)
                refine goes_ Tryd.func45 (by kernel_rfl) rfl #[.pointer (some ⟨gm, 0, none⟩)] (by rfl) rfl rfl (by (try simp only [List.map_toArray, List.map_cons, List.map_nil]); first | done | rfl) ?_
                obtain ⟨N_, on_, nn_, rr_, bb_⟩ := O16.out.frame1 (i := 1) rfl
                refine (rUpd (K16.out.below (Nat.le_refl _) (fun k hk => by rw [HN.out]; exact hk)) (Nat.le_of_not_lt (fun q_ => (O16.out.far (i := 1) rfl) (by rw [HN.out]; exact q_))) HSS.out HPL.out.1 HPL.out.2 u0 u1 u2 u3 p2 e2 HQ.out on_).mono ?_
                rintro e_ w17 ⟨rfl, oo_, kk_⟩
                obtain ⟨o_, k_⟩ := bb_ _ _ _ kk_ oo_
                refine ⟨_, rfl, ?_⟩
                have O17 : Aside0 (Own N w17 [RP gr (cat l0 x ++ a1) p2 e2, RM gm (cat l0 x ++ a1) p2 e2, cells gu #[.string u0, .int .i64 u1, .int .i64 u2, .string u3] 58]) := ⟨o_⟩
                have K17 : Aside0 (KeepS N w w17) := ⟨K16.out.trans k_⟩
                clear c16_0_0 f16_0_0 c16_0_1 f16_0_1 c16_0_2 f16_0_2 c16_1_0 f16_1_0 c16_1_1 f16_1_1 c16_1_2 f16_1_2 c16_2_0 f16_2_0 c16_2_1 f16_2_1 c16_2_2 f16_2_2 c16_2_3 f16_2_3 n16_0_1 n16_0_2 n16_1_0 n16_1_2 n16_2_0 n16_2_1 O16 K16
                have c17_0_0 : w17.cell? ⟨gr, 0, none⟩ = some (.string (cat l0 x ++ a1)) := (blk_cell (O17.out.blk (i := 0) rfl) 0).trans rfl
                have f17_0_0 : w17.frozen? ⟨gr, 0, none⟩ = false := blk_frozen (O17.out.blk (i := 0) rfl) 0
                have c17_0_1 : w17.cell? ⟨gr, 1, none⟩ = some (.int .i64 p2) := (blk_cell (O17.out.blk (i := 0) rfl) 1).trans rfl
                have f17_0_1 : w17.frozen? ⟨gr, 1, none⟩ = false := blk_frozen (O17.out.blk (i := 0) rfl) 1
                have c17_0_2 : w17.cell? ⟨gr, 2, none⟩ = some (.int .i64 e2) := (blk_cell (O17.out.blk (i := 0) rfl) 2).trans rfl
                have f17_0_2 : w17.frozen? ⟨gr, 2, none⟩ = false := blk_frozen (O17.out.blk (i := 0) rfl) 2
                have c17_1_0 : w17.cell? ⟨gm, 0, none⟩ = some (.string (cat l0 x ++ a1)) := (blk_cell (O17.out.blk (i := 1) rfl) 0).trans rfl
                have f17_1_0 : w17.frozen? ⟨gm, 0, none⟩ = false := blk_frozen (O17.out.blk (i := 1) rfl) 0
                have c17_1_1 : w17.cell? ⟨gm, 1, none⟩ = some (.int .i64 p2) := (blk_cell (O17.out.blk (i := 1) rfl) 1).trans rfl
                have f17_1_1 : w17.frozen? ⟨gm, 1, none⟩ = false := blk_frozen (O17.out.blk (i := 1) rfl) 1
                have c17_1_2 : w17.cell? ⟨gm, 2, none⟩ = some (.int .i64 e2) := (blk_cell (O17.out.blk (i := 1) rfl) 2).trans rfl
                have f17_1_2 : w17.frozen? ⟨gm, 2, none⟩ = false := blk_frozen (O17.out.blk (i := 1) rfl) 2
                have c17_2_0 : w17.cell? ⟨gu, 0, none⟩ = some (.string u0) := (blk_cell (O17.out.blk (i := 2) rfl) 0).trans rfl
                have f17_2_0 : w17.frozen? ⟨gu, 0, none⟩ = false := blk_frozen (O17.out.blk (i := 2) rfl) 0
                have c17_2_1 : w17.cell? ⟨gu, 1, none⟩ = some (.int .i64 u1) := (blk_cell (O17.out.blk (i := 2) rfl) 1).trans rfl
                have f17_2_1 : w17.frozen? ⟨gu, 1, none⟩ = false := blk_frozen (O17.out.blk (i := 2) rfl) 1
                have c17_2_2 : w17.cell? ⟨gu, 2, none⟩ = some (.int .i64 u2) := (blk_cell (O17.out.blk (i := 2) rfl) 2).trans rfl
                have f17_2_2 : w17.frozen? ⟨gu, 2, none⟩ = false := blk_frozen (O17.out.blk (i := 2) rfl) 2
                have c17_2_3 : w17.cell? ⟨gu, 3, none⟩ = some (.string u3) := (blk_cell (O17.out.blk (i := 2) rfl) 3).trans rfl
                have f17_2_3 : w17.frozen? ⟨gu, 3, none⟩ = false := blk_frozen (O17.out.blk (i := 2) rfl) 3
                have n17_0_1 : gr ≠ gm := O17.out.ne (i := 0) (j := 1) rfl rfl (by decide)
                have n17_0_2 : gr ≠ gu := O17.out.ne (i := 0) (j := 2) rfl rfl (by decide)
                have n17_1_0 : gm ≠ gr := O17.out.ne (i := 1) (j := 0) rfl rfl (by decide)
                have n17_1_2 : gm ≠ gu := O17.out.ne (i := 1) (j := 2) rfl rfl (by decide)
                have n17_2_0 : gu ≠ gr := O17.out.ne (i := 2) (j := 0) rfl rfl (by decide)
                have n17_2_1 : gu ≠ gm := O17.out.ne (i := 2) (j := 1) rfl rfl (by decide)
                clear o_ k_ oo_ kk_ on_ nn_ rr_ bb_
                clear hHeld
                refine hK_.out _ _ ⟨((blk_cell (O17.out.blk (i := 2) rfl) 0).trans rfl), ((blk_cell (O17.out.blk (i := 2) rfl) 1).trans rfl), ((blk_cell (O17.out.blk (i := 2) rfl) 2).trans rfl), ((blk_cell (O17.out.blk (i := 2) rfl) 3).trans rfl)⟩ (fun hHeld => ?_)
                clear hK_ K_
                refine norm_ (a' := ?_) ?_ ?_
                rotate_left
                · simp only [Act.put, List.setIfInBounds_toArray, List.set_cons_zero, List.set_cons_succ, i64_w, i32_w]
                  rfl
                clear hHeld
                have hHeld : (fun w' : World => w'.cell? ⟨gm, 2, none⟩ = some (.int .i64 e2) ∧ w'.cell? ⟨gu, 0, none⟩ = some (.string u0) ∧ w'.cell? ⟨gu, 1, none⟩ = some (.int .i64 u1) ∧ w'.cell? ⟨gu, 2, none⟩ = some (.int .i64 u2) ∧ w'.cell? ⟨gu, 3, none⟩ = some (.string u3)) w17 := ⟨((blk_cell (O17.out.blk (i := 1) rfl) 2).trans rfl), ((blk_cell (O17.out.blk (i := 2) rfl) 0).trans rfl), ((blk_cell (O17.out.blk (i := 2) rfl) 1).trans rfl), ((blk_cell (O17.out.blk (i := 2) rfl) 2).trans rfl), ((blk_cell (O17.out.blk (i := 2) rfl) 3).trans rfl)⟩
                refine narrow_ (S2 := fun w' => w'.cell? ⟨gm, 2, none⟩ = some (.int .i64 e2) ∧ w'.cell? ⟨gu, 0, none⟩ = some (.string u0) ∧ w'.cell? ⟨gu, 1, none⟩ = some (.int .i64 u1) ∧ w'.cell? ⟨gu, 2, none⟩ = some (.int .i64 u2) ∧ w'.cell? ⟨gu, 3, none⟩ = some (.string u3)) (fun w_ h_ => h_.2) hHeld ?_
                simp only at hHeld
                refine pure_ (i := 15) (N := some 87) (v := ?_) (a' := ?_) #[true, true, true, true, true, true, true, true, true, true, true, true, true, true, true, true, false, false, false, false, false, false, false, false, false, false] rfl rfl (by kernel_rfl) (fun _ _ _ h => h) (Or.inl ⟨by rfl, ?_⟩) ?_ ?_
                rotate_left
                · intro w'
                  go_simp
                  with_reducible rfl
                rotate_left
                · simp only [Act.put, List.setIfInBounds_toArray, List.set_cons_zero, List.set_cons_succ, i64_w, i32_w]
                  rfl
                refine pure_ (i := 16) (N := some 88) (v := ?_) (a' := ?_) #[true, true, true, true, true, true, true, true, true, true, true, true, true, true, true, true, true, false, false, false, false, false, false, false, false, false] rfl rfl (by kernel_rfl) (fun _ _ _ h => h) (Or.inl ⟨by rfl, ?_⟩) ?_ ?_
                rotate_left
                · intro w'
                  go_simp
                  with_reducible rfl
                rotate_left
                · simp only [Act.put, List.setIfInBounds_toArray, List.set_cons_zero, List.set_cons_succ, i64_w, i32_w]
                  rfl
                refine pure_ (i := 17) (N := some 89) (v := ?_) (a' := ?_) #[true, true, true, true, true, true, true, true, true, true, true, true, true, true, true, true, true, true, false, false, false, false, false, false, false, false] rfl rfl (by kernel_rfl) (fun _ _ _ h => h) (Or.inl ⟨by rfl, ?_⟩) ?_ ?_
                rotate_left
                · intro w'
                  go_simp
                  with_reducible rfl
                rotate_left
                · simp only [Act.put, List.setIfInBounds_toArray, List.set_cons_zero, List.set_cons_succ, i64_w, i32_w]
                  rfl
                refine pure_ (i := 18) (N := some 90) (v := ?_) (a' := ?_) #[true, true, true, true, true, true, true, true, true, true, true, true, true, true, true, true, true, true, true, false, false, false, false, false, false, false] rfl rfl (by kernel_rfl) (fun _ _ _ h => h) (Or.inl ⟨by rfl, ?_⟩) ?_ ?_
                rotate_left
                · intro w'
                  go_simp
                  with_reducible rfl
                rotate_left
                · simp only [Act.put, List.setIfInBounds_toArray, List.set_cons_zero, List.set_cons_succ, i64_w, i32_w]
                  rfl
                refine pure_ (i := 20) (N := some 92) (v := ?_) (a' := ?_) #[true, true, true, true, true, true, true, true, true, true, true, true, true, true, true, true, true, true, true, false, true, false, false, false, false, false] rfl rfl (by kernel_rfl) (fun _ _ _ h => h) (Or.inl ⟨by rfl, ?_⟩) ?_ ?_
                rotate_left
                · intro w'
                  go_simp
                  with_reducible rfl
                rotate_left
                · simp only [Act.put, List.setIfInBounds_toArray, List.set_cons_zero, List.set_cons_succ, i64_w, i32_w]
                  rfl
                refine pure_ (i := 21) (N := some 93) (v := ?_) (a' := ?_) #[true, true, true, true, true, true, true, true, true, true, true, true, true, true, true, true, true, true, true, false, true, true, false, false, false, false] rfl rfl (by kernel_rfl) (fun _ _ _ h => h) (Or.inl ⟨by rfl, ?_⟩) ?_ ?_
                rotate_left
                · intro w'
                  go_simp
                  with_reducible rfl
                rotate_left
                · simp only [Act.put, List.setIfInBounds_toArray, List.set_cons_zero, List.set_cons_succ, i64_w, i32_w]
                  rfl
                refine pure_ (i := 22) (N := some 94) (v := ?_) (a' := ?_) #[true, true, true, true, true, true, true, true, true, true, true, true, true, true, true, true, true, true, true, false, true, true, true, false, false, false] rfl rfl (by kernel_rfl) (fun _ _ _ h => h) (Or.inl ⟨by rfl, ?_⟩) ?_ ?_
                rotate_left
                · intro w'
                  go_simp
                  with_reducible rfl
                rotate_left
                · simp only [Act.put, List.setIfInBounds_toArray, List.set_cons_zero, List.set_cons_succ, i64_w, i32_w]
                  rfl
                refine take_ (i := 23) (N := some 95) (v := ?_) (a' := ?_) #[true, true, true, true, true, true, true, true, true, true, true, true, true, true, true, true, true, true, true, false, true, true, true, true, false, false] rfl rfl (by kernel_rfl) (fun _ _ _ h => h) (Or.inl ⟨by rfl, ?_⟩) hHeld ?_ ?_
                rotate_left
                · rintro w' ⟨s0, s1, s2, s3, s4⟩
                  go_simp
                  with_reducible rfl
                rotate_left
                · simp only [Act.put, List.setIfInBounds_toArray, List.set_cons_zero, List.set_cons_succ, i64_w, i32_w]
                  rfl
                refine one_ (i := 19) (N := some 91) #[true, true, true, true, true, true, true, true, true, true, true, true, true, true, true, true, true, true, true, true, true, true, true, true, false, false] rfl rfl (by kernel_rfl) (by decide) (fun K_ hK_ => ?_)
                refine goes_ Tryd.func22 (by kernel_rfl) rfl #[.pointer (some ⟨gr, 0, none⟩)] (by rfl) rfl rfl (by (try simp only [List.map_toArray, List.map_cons, List.map_nil]); first | done | rfl) ?_
                obtain ⟨N_, on_, nn_, rr_, bb_⟩ := O17.out.frame1 (i := 0) rfl
                refine (pErr (K17.out.below (Nat.le_refl _) (fun k hk => by rw [HN.out]; exact hk)) (Nat.le_of_not_lt (fun q_ => (O17.out.far (i := 0) rfl) (by rw [HN.out]; exact q_))) on_).mono ?_
                rintro e_ w18 ⟨rfl, oo_, kk_⟩
                obtain ⟨o_, k_⟩ := bb_ _ _ _ kk_ oo_
                refine ⟨_, rfl, ?_⟩
                have O18 : Aside0 (Own N w18 [RP gr (cat l0 x ++ a1) p2 e2, RM gm (cat l0 x ++ a1) p2 e2, cells gu #[.string u0, .int .i64 u1, .int .i64 u2, .string u3] 58]) := ⟨o_⟩
                have K18 : Aside0 (KeepS N w w18) := ⟨K17.out.trans k_⟩
                clear c17_0_0 f17_0_0 c17_0_1 f17_0_1 c17_0_2 f17_0_2 c17_1_0 f17_1_0 c17_1_1 f17_1_1 c17_1_2 f17_1_2 c17_2_0 f17_2_0 c17_2_1 f17_2_1 c17_2_2 f17_2_2 c17_2_3 f17_2_3 n17_0_1 n17_0_2 n17_1_0 n17_1_2 n17_2_0 n17_2_1 O17 K17
                have c18_0_0 : w18.cell? ⟨gr, 0, none⟩ = some (.string (cat l0 x ++ a1)) := (blk_cell (O18.out.blk (i := 0) rfl) 0).trans rfl
                have f18_0_0 : w18.frozen? ⟨gr, 0, none⟩ = false := blk_frozen (O18.out.blk (i := 0) rfl) 0
                have c18_0_1 : w18.cell? ⟨gr, 1, none⟩ = some (.int .i64 p2) := (blk_cell (O18.out.blk (i := 0) rfl) 1).trans rfl
                have f18_0_1 : w18.frozen? ⟨gr, 1, none⟩ = false := blk_frozen (O18.out.blk (i := 0) rfl) 1
                have c18_0_2 : w18.cell? ⟨gr, 2, none⟩ = some (.int .i64 e2) := (blk_cell (O18.out.blk (i := 0) rfl) 2).trans rfl
                have f18_0_2 : w18.frozen? ⟨gr, 2, none⟩ = false := blk_frozen (O18.out.blk (i := 0) rfl) 2
                have c18_1_0 : w18.cell? ⟨gm, 0, none⟩ = some (.string (cat l0 x ++ a1)) := (blk_cell (O18.out.blk (i := 1) rfl) 0).trans rfl
                have f18_1_0 : w18.frozen? ⟨gm, 0, none⟩ = false := blk_frozen (O18.out.blk (i := 1) rfl) 0
                have c18_1_1 : w18.cell? ⟨gm, 1, none⟩ = some (.int .i64 p2) := (blk_cell (O18.out.blk (i := 1) rfl) 1).trans rfl
                have f18_1_1 : w18.frozen? ⟨gm, 1, none⟩ = false := blk_frozen (O18.out.blk (i := 1) rfl) 1
                have c18_1_2 : w18.cell? ⟨gm, 2, none⟩ = some (.int .i64 e2) := (blk_cell (O18.out.blk (i := 1) rfl) 2).trans rfl
                have f18_1_2 : w18.frozen? ⟨gm, 2, none⟩ = false := blk_frozen (O18.out.blk (i := 1) rfl) 2
                have c18_2_0 : w18.cell? ⟨gu, 0, none⟩ = some (.string u0) := (blk_cell (O18.out.blk (i := 2) rfl) 0).trans rfl
                have f18_2_0 : w18.frozen? ⟨gu, 0, none⟩ = false := blk_frozen (O18.out.blk (i := 2) rfl) 0
                have c18_2_1 : w18.cell? ⟨gu, 1, none⟩ = some (.int .i64 u1) := (blk_cell (O18.out.blk (i := 2) rfl) 1).trans rfl
                have f18_2_1 : w18.frozen? ⟨gu, 1, none⟩ = false := blk_frozen (O18.out.blk (i := 2) rfl) 1
                have c18_2_2 : w18.cell? ⟨gu, 2, none⟩ = some (.int .i64 u2) := (blk_cell (O18.out.blk (i := 2) rfl) 2).trans rfl
                have f18_2_2 : w18.frozen? ⟨gu, 2, none⟩ = false := blk_frozen (O18.out.blk (i := 2) rfl) 2
                have c18_2_3 : w18.cell? ⟨gu, 3, none⟩ = some (.string u3) := (blk_cell (O18.out.blk (i := 2) rfl) 3).trans rfl
                have f18_2_3 : w18.frozen? ⟨gu, 3, none⟩ = false := blk_frozen (O18.out.blk (i := 2) rfl) 3
                have n18_0_1 : gr ≠ gm := O18.out.ne (i := 0) (j := 1) rfl rfl (by decide)
                have n18_0_2 : gr ≠ gu := O18.out.ne (i := 0) (j := 2) rfl rfl (by decide)
                have n18_1_0 : gm ≠ gr := O18.out.ne (i := 1) (j := 0) rfl rfl (by decide)
                have n18_1_2 : gm ≠ gu := O18.out.ne (i := 1) (j := 2) rfl rfl (by decide)
                have n18_2_0 : gu ≠ gr := O18.out.ne (i := 2) (j := 0) rfl rfl (by decide)
                have n18_2_1 : gu ≠ gm := O18.out.ne (i := 2) (j := 1) rfl rfl (by decide)
                clear o_ k_ oo_ kk_ on_ nn_ rr_ bb_
                clear hHeld
                refine hK_.out _ _ ⟨((blk_cell (O18.out.blk (i := 1) rfl) 2).trans rfl), ((blk_cell (O18.out.blk (i := 2) rfl) 0).trans rfl), ((blk_cell (O18.out.blk (i := 2) rfl) 1).trans rfl), ((blk_cell (O18.out.blk (i := 2) rfl) 2).trans rfl), ((blk_cell (O18.out.blk (i := 2) rfl) 3).trans rfl)⟩ (fun hHeld => ?_)
                clear hK_ K_
                refine norm_ (a' := ?_) ?_ ?_
                rotate_left
                · simp only [Act.put, List.setIfInBounds_toArray, List.set_cons_zero, List.set_cons_succ, i64_w, i32_w]
                  rfl
                refine pure_ (i := 24) (N := some 96) (v := ?_) (a' := ?_) #[true, true, true, true, true, true, true, true, true, true, true, true, true, true, true, true, true, true, true, true, true, true, true, true, true, false] rfl rfl (by kernel_rfl) (fun _ _ _ h => h) (Or.inl ⟨by rfl, ?_⟩) ?_ ?_
                rotate_left
                · intro w'
                  go_simp
                  with_reducible rfl
                rotate_left
                · simp only [Act.put, List.setIfInBounds_toArray, List.set_cons_zero, List.set_cons_succ, i64_w, i32_w]
                  rfl
                refine pure_ (i := 25) (N := some 97) (v := ?_) (a' := ?_) #[true, true, true, true, true, true, true, true, true, true, true, true, true, true, true, true, true, true, true, true, true, true, true, true, true, true] rfl rfl (by kernel_rfl) (fun _ _ _ h => h) (Or.inl ⟨by rfl, ?_⟩) ?_ ?_
                rotate_left
                · intro w'
                  go_simp
                  with_reducible rfl
                rotate_left
                · simp only [Act.put, List.setIfInBounds_toArray, List.set_cons_zero, List.set_cons_succ, i64_w, i32_w]
                  rfl
                refine done_ (by kernel_rfl) ?_
                clear hHeld
                go_wp2
                go_roundw
                case rel => exact ⟨y + 1, p2, e2, by have := HY.out; omega, by have := HY.out; omega, int_eqW (by unfold wrap64; have := HY.out; have := HX.out; have := HL20.out; omega), ⟨HP2.out.1, HP2.out.2, fun q_ => by have := HYX.out; omega⟩, ⟨O18.out.pick2 (a := 0) (b := 1) rfl rfl (by decide)⟩, K18⟩
                case measure => have := HY.out; simp [intOf]; omega
            · have hd : decide (y < wrap64 (x + 3)) = false := by rw [HS3.out]; exact decide_eq_false hlt
              clear hlt hy0 hy1 hxx hl20
              have O12 : Aside0 (Own N wr [RP gr (cat l0 x ++ a1) p e, RM gm (cat l0 x ++ a1) p e]) := ⟨OA2.out⟩
              have K12 : Aside0 (KeepS N w wr) := ⟨KA2.out⟩
              clear OA2 KA2
              go_wp2_with (first | ((with_reducible refine gate_callee (f := 21) rfl ?_); refine goesL_ (some 100) rfl rfl Tryd.func21 (by kernel_rfl) rfl #[.pointer (some ⟨gr, 0, none⟩)] rfl (by (try simp only [List.map_toArray, List.map_cons, List.map_nil]); first | done | rfl) ?_; obtain ⟨N_, on_, nn_, rr_, bb_⟩ := O12.out.frame1 (i := 0) rfl; refine (pEnd (K12.out.below (Nat.le_refl _) (fun k hk => by rw [HN.out]; exact hk)) (Nat.le_of_not_lt (fun q_ => (O12.out.far (i := 0) rfl) (by rw [HN.out]; exact q_))) on_).mono ?_; rintro e_ w13 ⟨rfl, oo_, kk_⟩; obtain ⟨o_, k_⟩ := bb_ _ _ _ kk_ oo_; refine ⟨_, rfl, ?_⟩; have O13 : Aside0 (Own N w13 [RP gr (cat l0 x ++ a1) p (endR (cat l0 x ++ a1) p e), RM gm (cat l0 x ++ a1) p e]) := ⟨o_⟩; have K13 : Aside0 (KeepS N w w13) := ⟨K12.out.trans k_⟩; clear O12 K12; clear o_ k_ oo_ kk_ on_ nn_ rr_ bb_) | ((with_reducible refine gate_callee (f := 30) rfl ?_); refine goesL_ (some 102) rfl rfl Tryd.func30 (by kernel_rfl) rfl #[.pointer (some ⟨gm, 0, none⟩)] rfl (by (try simp only [List.map_toArray, List.map_cons, List.map_nil]); first | done | rfl) ?_; obtain ⟨N_, on_, nn_, rr_, bb_⟩ := O13.out.frame1 (i := 1) rfl; refine (rEnd (K13.out.below (Nat.le_refl _) (fun k hk => by rw [HN.out]; exact hk)) (Nat.le_of_not_lt (fun q_ => (O13.out.far (i := 1) rfl) (by rw [HN.out]; exact q_))) on_).mono ?_; rintro e_ w14 ⟨rfl, oo_, kk_⟩; obtain ⟨o_, k_⟩ := bb_ _ _ _ kk_ oo_; refine ⟨_, rfl, ?_⟩; have O14 : Aside0 (Own N w14 [RP gr (cat l0 x ++ a1) p (endR (cat l0 x ++ a1) p e), RM gm (cat l0 x ++ a1) p (endR (cat l0 x ++ a1) p e)]) := ⟨o_⟩; have K14 : Aside0 (KeepS N w w14) := ⟨K13.out.trans k_⟩; clear O13 K13; clear o_ k_ oo_ kk_ on_ nn_ rr_ bb_))
              go_ret
              exact ⟨by first | rfl | simp, (K14.out.below (Nat.le_refl _) (fun k hk => by rw [HN.out]; exact hk))⟩
      · have hd : decide (x < (l0.length : Int)) = false := decide_eq_false hlt
        clear hlt hF2
        have O6 : Aside0 (Own N wr [WRB w.heap.size gw (cat l0 x, false)]) := ⟨OA.out⟩
        have K6 : Aside0 (KeepS N w wr) := ⟨KA.out⟩
        clear OA KA
        have HX := Aside0.mk (And.intro hx0 hx1)
        have HCS : Aside0 (((cat l0 x).size : Int) ≤ 51 * x) := ⟨cat_size hx0 HI.out⟩
        have HSS : Aside0 ((cat l0 x ++ a1).size ≤ 140737488351232) := ⟨by rw [ByteArray.size_append]; have := HCS.out; have := HX.out.2; have := HL20.out; have := HM20.out; omega⟩
        have h10 : ((0 : Int) != 0) = false := by decide
        have HS3 : Aside0 (wrap64 (x + 3) = x + 3) := ⟨by unfold wrap64; omega⟩
        have zsz : ((cat l0 x).size + a1.size ≤ 9223372036854775807) := by have := HSS.out; rw [ByteArray.size_append] at this; omega
        have zs2 : decide ((cat l0 x).size + a1.size ≤ 9223372036854775807) = true := decide_eq_true zsz
        have zs3 : (9223372036854775807 < (cat l0 x).size + a1.size) = False := eq_false (Nat.not_lt.2 zsz)
        have zs4 := eq_true zsz
        clear zsz hx0 hx1 hLx
        go_wp2_with (first | ((with_reducible refine gate_callee (f := 17) rfl ?_); refine goesL_ (some 47) rfl rfl Tryd.func17 (by kernel_rfl) rfl #[.pointer (some ⟨gw, 0, none⟩)] rfl (by (try simp only [List.map_toArray, List.map_cons, List.map_nil]); first | done | rfl) ?_; obtain ⟨N_, on_, nn_, rr_, bb_⟩ := O6.out.frame1 (i := 0) rfl; refine (wbBytes K6.out.size (cat l0 x) 0 (told_c _) on_).mono ?_; rintro e_ w7 ⟨rfl, oo_, kk_⟩; obtain ⟨o_, k_⟩ := bb_ _ _ _ kk_ oo_; refine ⟨_, rfl, ?_⟩; have O7 : Aside0 (Own N w7 [WRB w.heap.size gw (cat l0 x, false)]) := ⟨o_⟩; have K7 : Aside0 (KeepS N w w7) := ⟨K6.out.trans k_⟩; clear O6 K6; clear o_ k_ oo_ kk_ on_ nn_ rr_ bb_) | ((with_reducible refine gate_callee (f := 18) rfl ?_); refine goesL_ (some 53) rfl rfl Tryd.func18 (by kernel_rfl) rfl #[.string (cat l0 x ++ a1)] rfl (by (try simp only [List.map_toArray, List.map_cons, List.map_nil]); first | done | rfl) ?_; obtain ⟨N_, on_, nn_, rr_, bb_⟩ := O7.out.frame0; refine (pRead (cat l0 x ++ a1) (Below.refl _ _) on_).mono ?_; rintro e_ w8 ⟨gr, rfl, oo_, kk_⟩; obtain ⟨o_, k_⟩ := bb_ _ _ kk_ oo_; refine ⟨_, rfl, ?_⟩; have O8 : Aside0 (Own N w8 [WRB w.heap.size gw (cat l0 x, false), RP gr (cat l0 x ++ a1) 0 0]) := ⟨o_⟩; have K8 : Aside0 (KeepS N w w8) := ⟨K7.out.trans k_⟩; clear O7 K7; clear o_ k_ oo_ kk_ on_ nn_ rr_ bb_) | ((with_reducible refine gate_dst (N := 58) rfl ?_); refine own_box rfl (D := 58) rfl (cs := #[.string (cat l0 x ++ a1), .int .i64 0, .int .i64 0]) (t := 43) ?hr O8.out ?_; (case hr => first | (go_simp; done) | (go_simp; rfl)); intro gm w9 o_ k_; have O9 : Aside0 (Own N w9 [WRB w.heap.size gw (cat l0 x, false), RP gr (cat l0 x ++ a1) 0 0, cells gm #[.string (cat l0 x ++ a1), .int .i64 0, .int .i64 0] 43]) := ⟨o_⟩; have K9 : Aside0 (KeepS N w w9) := ⟨K8.out.trans k_⟩; clear O8 K8; have c9_2_0 : w9.cell? ⟨gm, 0, none⟩ = some (.string (cat l0 x ++ a1)) := (blk_cell (O9.out.blk (i := 2) rfl) 0).trans rfl; have f9_2_0 : w9.frozen? ⟨gm, 0, none⟩ = false := blk_frozen (O9.out.blk (i := 2) rfl) 0; have c9_2_1 : w9.cell? ⟨gm, 1, none⟩ = some (.int .i64 0) := (blk_cell (O9.out.blk (i := 2) rfl) 1).trans rfl; have f9_2_1 : w9.frozen? ⟨gm, 1, none⟩ = false := blk_frozen (O9.out.blk (i := 2) rfl) 1; have c9_2_2 : w9.cell? ⟨gm, 2, none⟩ = some (.int .i64 0) := (blk_cell (O9.out.blk (i := 2) rfl) 2).trans rfl; have f9_2_2 : w9.frozen? ⟨gm, 2, none⟩ = false := blk_frozen (O9.out.blk (i := 2) rfl) 2; clear o_ k_))
        go_loopw [67] (fun i wr => PtJ N w l0 a1 x gr gm i wr) (fun i _ => (x + 3).toNat - (intOf i).toNat)
        case atStart => exact ⟨0, 0, 0, by omega, by have := HX.out; omega, rfl, ⟨by omega, by omega, fun _ => ⟨rfl, rfl⟩⟩, ⟨O9.out.pick2 (a := 1) (b := 2) rfl rfl (by decide)⟩, K9⟩
        case round =>
          clear c9_2_0 f9_2_0 c9_2_1 f9_2_1 c9_2_2 f9_2_2
          obtain ⟨y, p, e, hy0, hy1, rfl, HJ, OA2, KA2⟩ := hrel
          have hxx := HX.out
          have hl20 := HL20.out
          by_cases hlt : y < x + 3
          · have hd : decide (y < wrap64 (x + 3)) = true := by rw [HS3.out]; exact decide_eq_true hlt
            have hs2 : wrap64 (y + 1) = y + 1 := by unfold wrap64; omega
            have HY := Aside0.mk (And.intro hy0 hlt)
            have hee : ∀ q : Int, (q != q) = false := fun q => by simp
            have hvv : ∀ q : ByteArray, decide (q = q) = true := fun q => by simp
            by_cases hyx : y < x
            · have hd2 : decide (y < x) = true := decide_eq_true hyx
              obtain ⟨ad, ea⟩ := someU HRL_0.out y hy0 (show y < (l0.length : Int) by omega)
              subst ea
              have hpe := HJ.out.2.2 (Int.le_of_lt hyx)
              obtain ⟨rfl, rfl⟩ := hpe
              have hyl : y < (l0.length : Int) := by omega
              have HYL := Aside0.mk hyl
              have ey0 := eq_true hy0
              have ey1 := eq_true hyl
              have HMY := Aside0.mk (HI.out y hy0 hyx)
              have HQ := Aside0.mk (read_at (u0 := nil') (u3 := nil') (u1 := 0) (u2 := 0) (p2 := 0) (e2 := 0) (l := l0) (more := a1) hy0 hyx HMY.out)
              have HYX := Aside0.mk hyx
              clear hyx hyl hy1 hxx hl20 hlt
              have hpl := HJ.out
              have HPL : Aside0 (0 ≤ ((cat l0 y).size : Int) ∧ ((cat l0 y).size : Int) ≤ (cat l0 x ++ a1).size) := ⟨hpl.1, hpl.2.1⟩
              clear hpl hy0
              have O10 : Aside0 (Own N wr [RP gr (cat l0 x ++ a1) ((cat l0 y).size : Int) 0, RM gm (cat l0 x ++ a1) ((cat l0 y).size : Int) 0]) := ⟨OA2.out⟩
              have K10 : Aside0 (KeepS N w wr) := ⟨KA2.out⟩
              have HRJ_10 : Aside0 (Kd.F k58 wr N (some ad) l0.length l0) := ⟨keepF HRL_0.out KA2.out⟩
              have c10_0_0 : wr.cell? ⟨gr, 0, none⟩ = some (.string (cat l0 x ++ a1)) := (blk_cell (O10.out.blk (i := 0) rfl) 0).trans rfl
              have f10_0_0 : wr.frozen? ⟨gr, 0, none⟩ = false := blk_frozen (O10.out.blk (i := 0) rfl) 0
              have c10_0_1 : wr.cell? ⟨gr, 1, none⟩ = some (.int .i64 ((cat l0 y).size : Int)) := (blk_cell (O10.out.blk (i := 0) rfl) 1).trans rfl
              have f10_0_1 : wr.frozen? ⟨gr, 1, none⟩ = false := blk_frozen (O10.out.blk (i := 0) rfl) 1
              have c10_0_2 : wr.cell? ⟨gr, 2, none⟩ = some (.int .i64 0) := (blk_cell (O10.out.blk (i := 0) rfl) 2).trans rfl
              have f10_0_2 : wr.frozen? ⟨gr, 2, none⟩ = false := blk_frozen (O10.out.blk (i := 0) rfl) 2
              have c10_1_0 : wr.cell? ⟨gm, 0, none⟩ = some (.string (cat l0 x ++ a1)) := (blk_cell (O10.out.blk (i := 1) rfl) 0).trans rfl
              have f10_1_0 : wr.frozen? ⟨gm, 0, none⟩ = false := blk_frozen (O10.out.blk (i := 1) rfl) 0
              have c10_1_1 : wr.cell? ⟨gm, 1, none⟩ = some (.int .i64 ((cat l0 y).size : Int)) := (blk_cell (O10.out.blk (i := 1) rfl) 1).trans rfl
              have f10_1_1 : wr.frozen? ⟨gm, 1, none⟩ = false := blk_frozen (O10.out.blk (i := 1) rfl) 1
              have c10_1_2 : wr.cell? ⟨gm, 2, none⟩ = some (.int .i64 0) := (blk_cell (O10.out.blk (i := 1) rfl) 2).trans rfl
              have f10_1_2 : wr.frozen? ⟨gm, 2, none⟩ = false := blk_frozen (O10.out.blk (i := 1) rfl) 2
              have n10_0_1 : gr ≠ gm := O10.out.ne (i := 0) (j := 1) rfl rfl (by decide)
              have n10_1_0 : gm ≠ gr := O10.out.ne (i := 1) (j := 0) rfl rfl (by decide)
              clear OA2 KA2
              go_wp2_with (first | ((with_reducible refine gate_callee (f := 44) rfl ?_); refine goesL_ (some 71) rfl rfl Tryd.func44 (by kernel_rfl) rfl #[.pointer (some ⟨gr, 0, none⟩)] rfl (by (try simp only [List.map_toArray, List.map_cons, List.map_nil]); first | done | rfl) ?_; obtain ⟨N_, on_, nn_, rr_, bb_⟩ := O10.out.frame1 (i := 0) rfl; refine (pUpd HT (K10.out.below (Nat.le_refl _) (fun k hk => by rw [HN.out]; exact hk)) (Nat.le_of_not_lt (fun q_ => (O10.out.far (i := 0) rfl) (by rw [HN.out]; exact q_))) HSS.out HPL.out.1 HPL.out.2 (rd_T58 l0 y).f0 (rd_T58 l0 y).f1 (rd_T58 l0 y).f2 (rd_T58 l0 y).f3 ((cat l0 (y + 1)).size : Int) 0 HQ.out on_).mono ?_; rintro e_ w11 ⟨rfl, oo_, kk_⟩; obtain ⟨o_, k_⟩ := bb_ _ _ _ kk_ oo_; refine ⟨_, rfl, ?_⟩; have O11 : Aside0 (Own N w11 [RP gr (cat l0 x ++ a1) ((cat l0 (y + 1)).size : Int) 0, RM gm (cat l0 x ++ a1) ((cat l0 y).size : Int) 0]) := ⟨o_⟩; have K11 : Aside0 (KeepS N w w11) := ⟨K10.out.trans k_⟩; have HRJ_11 : Aside0 (Kd.F k58 w11 N (some ad) l0.length l0) := ⟨keepF HRJ_10.out k_⟩; clear c10_0_0 f10_0_0 c10_0_1 f10_0_1 c10_0_2 f10_0_2 c10_1_0 f10_1_0 c10_1_1 f10_1_1 c10_1_2 f10_1_2 n10_0_1 n10_1_0 O10 K10 HRJ_10; have c11_0_0 : w11.cell? ⟨gr, 0, none⟩ = some (.string (cat l0 x ++ a1)) := (blk_cell (O11.out.blk (i := 0) rfl) 0).trans rfl; have f11_0_0 : w11.frozen? ⟨gr, 0, none⟩ = false := blk_frozen (O11.out.blk (i := 0) rfl) 0; have c11_0_1 : w11.cell? ⟨gr, 1, none⟩ = some (.int .i64 ((cat l0 (y + 1)).size : Int)) := (blk_cell (O11.out.blk (i := 0) rfl) 1).trans rfl; have f11_0_1 : w11.frozen? ⟨gr, 1, none⟩ = false := blk_frozen (O11.out.blk (i := 0) rfl) 1; have c11_0_2 : w11.cell? ⟨gr, 2, none⟩ = some (.int .i64 0) := (blk_cell (O11.out.blk (i := 0) rfl) 2).trans rfl; have f11_0_2 : w11.frozen? ⟨gr, 2, none⟩ = false := blk_frozen (O11.out.blk (i := 0) rfl) 2; have c11_1_0 : w11.cell? ⟨gm, 0, none⟩ = some (.string (cat l0 x ++ a1)) := (blk_cell (O11.out.blk (i := 1) rfl) 0).trans rfl; have f11_1_0 : w11.frozen? ⟨gm, 0, none⟩ = false := blk_frozen (O11.out.blk (i := 1) rfl) 0; have c11_1_1 : w11.cell? ⟨gm, 1, none⟩ = some (.int .i64 ((cat l0 y).size : Int)) := (blk_cell (O11.out.blk (i := 1) rfl) 1).trans rfl; have f11_1_1 : w11.frozen? ⟨gm, 1, none⟩ = false := blk_frozen (O11.out.blk (i := 1) rfl) 1; have c11_1_2 : w11.cell? ⟨gm, 2, none⟩ = some (.int .i64 0) := (blk_cell (O11.out.blk (i := 1) rfl) 2).trans rfl; have f11_1_2 : w11.frozen? ⟨gm, 2, none⟩ = false := blk_frozen (O11.out.blk (i := 1) rfl) 2; have n11_0_1 : gr ≠ gm := O11.out.ne (i := 0) (j := 1) rfl rfl (by decide); have n11_1_0 : gm ≠ gr := O11.out.ne (i := 1) (j := 0) rfl rfl (by decide); clear o_ k_ oo_ kk_ on_ nn_ rr_ bb_) | ((with_reducible refine gate_dst (N := 14) rfl ?_); refine own_box rfl (D := 14) rfl (cs := #[.string (⟨#[]⟩ : ByteArray), .int .i64 0, .int .i64 0, .string (⟨#[]⟩ : ByteArray)]) (t := 58) ?hr O11.out ?_; (case hr => first | (go_simp; done) | (go_simp; rfl)); intro gu w12 o_ k_; have O12 : Aside0 (Own N w12 [RP gr (cat l0 x ++ a1) ((cat l0 (y + 1)).size : Int) 0, RM gm (cat l0 x ++ a1) ((cat l0 y).size : Int) 0, cells gu #[.string (⟨#[]⟩ : ByteArray), .int .i64 0, .int .i64 0, .string (⟨#[]⟩ : ByteArray)] 58]) := ⟨o_⟩; have K12 : Aside0 (KeepS N w w12) := ⟨K11.out.trans k_⟩; have HRJ_12 : Aside0 (Kd.F k58 w12 N (some ad) l0.length l0) := ⟨keepF HRJ_11.out k_⟩; clear c11_0_0 f11_0_0 c11_0_1 f11_0_1 c11_0_2 f11_0_2 c11_1_0 f11_1_0 c11_1_1 f11_1_1 c11_1_2 f11_1_2 n11_0_1 n11_1_0 O11 K11 HRJ_11; have c12_0_0 : w12.cell? ⟨gr, 0, none⟩ = some (.string (cat l0 x ++ a1)) := (blk_cell (O12.out.blk (i := 0) rfl) 0).trans rfl; have f12_0_0 : w12.frozen? ⟨gr, 0, none⟩ = false := blk_frozen (O12.out.blk (i := 0) rfl) 0; have c12_0_1 : w12.cell? ⟨gr, 1, none⟩ = some (.int .i64 ((cat l0 (y + 1)).size : Int)) := (blk_cell (O12.out.blk (i := 0) rfl) 1).trans rfl; have f12_0_1 : w12.frozen? ⟨gr, 1, none⟩ = false := blk_frozen (O12.out.blk (i := 0) rfl) 1; have c12_0_2 : w12.cell? ⟨gr, 2, none⟩ = some (.int .i64 0) := (blk_cell (O12.out.blk (i := 0) rfl) 2).trans rfl; have f12_0_2 : w12.frozen? ⟨gr, 2, none⟩ = false := blk_frozen (O12.out.blk (i := 0) rfl) 2; have c12_1_0 : w12.cell? ⟨gm, 0, none⟩ = some (.string (cat l0 x ++ a1)) := (blk_cell (O12.out.blk (i := 1) rfl) 0).trans rfl; have f12_1_0 : w12.frozen? ⟨gm, 0, none⟩ = false := blk_frozen (O12.out.blk (i := 1) rfl) 0; have c12_1_1 : w12.cell? ⟨gm, 1, none⟩ = some (.int .i64 ((cat l0 y).size : Int)) := (blk_cell (O12.out.blk (i := 1) rfl) 1).trans rfl; have f12_1_1 : w12.frozen? ⟨gm, 1, none⟩ = false := blk_frozen (O12.out.blk (i := 1) rfl) 1; have c12_1_2 : w12.cell? ⟨gm, 2, none⟩ = some (.int .i64 0) := (blk_cell (O12.out.blk (i := 1) rfl) 2).trans rfl; have f12_1_2 : w12.frozen? ⟨gm, 2, none⟩ = false := blk_frozen (O12.out.blk (i := 1) rfl) 2; have c12_2_0 : w12.cell? ⟨gu, 0, none⟩ = some (.string (⟨#[]⟩ : ByteArray)) := (blk_cell (O12.out.blk (i := 2) rfl) 0).trans rfl; have f12_2_0 : w12.frozen? ⟨gu, 0, none⟩ = false := blk_frozen (O12.out.blk (i := 2) rfl) 0; have c12_2_1 : w12.cell? ⟨gu, 1, none⟩ = some (.int .i64 0) := (blk_cell (O12.out.blk (i := 2) rfl) 1).trans rfl; have f12_2_1 : w12.frozen? ⟨gu, 1, none⟩ = false := blk_frozen (O12.out.blk (i := 2) rfl) 1; have c12_2_2 : w12.cell? ⟨gu, 2, none⟩ = some (.int .i64 0) := (blk_cell (O12.out.blk (i := 2) rfl) 2).trans rfl; have f12_2_2 : w12.frozen? ⟨gu, 2, none⟩ = false := blk_frozen (O12.out.blk (i := 2) rfl) 2; have c12_2_3 : w12.cell? ⟨gu, 3, none⟩ = some (.string (⟨#[]⟩ : ByteArray)) := (blk_cell (O12.out.blk (i := 2) rfl) 3).trans rfl; have f12_2_3 : w12.frozen? ⟨gu, 3, none⟩ = false := blk_frozen (O12.out.blk (i := 2) rfl) 3; have n12_0_1 : gr ≠ gm := O12.out.ne (i := 0) (j := 1) rfl rfl (by decide); have n12_0_2 : gr ≠ gu := O12.out.ne (i := 0) (j := 2) rfl rfl (by decide); have n12_1_0 : gm ≠ gr := O12.out.ne (i := 1) (j := 0) rfl rfl (by decide); have n12_1_2 : gm ≠ gu := O12.out.ne (i := 1) (j := 2) rfl rfl (by decide); have n12_2_0 : gu ≠ gr := O12.out.ne (i := 2) (j := 0) rfl rfl (by decide); have n12_2_1 : gu ≠ gm := O12.out.ne (i := 2) (j := 1) rfl rfl (by decide); clear o_ k_) | ((with_reducible refine gate_store (t := 58) (p := 14) rfl ?_); refine own_store rfl rfl rfl (w1 := (World.setCell (World.setCell (World.setCell (World.setCell w12 ⟨gu, 0, none⟩ (.string (rd_T58 l0 y).f0)) ⟨gu, 1, none⟩ (.int .i64 (rd_T58 l0 y).f1)) ⟨gu, 2, none⟩ (.int .i64 (rd_T58 l0 y).f2)) ⟨gu, 3, none⟩ (.string (rd_T58 l0 y).f3))) (N := N) (l' := [RP gr (cat l0 x ++ a1) ((cat l0 (y + 1)).size : Int) 0, RM gm (cat l0 x ++ a1) ((cat l0 y).size : Int) 0, cells gu #[.string (rd_T58 l0 y).f0, .int .i64 (rd_T58 l0 y).f1, .int .i64 (rd_T58 l0 y).f2, .string (rd_T58 l0 y).f3] 58]) ?hr ?ho ?hk ?_; (case hr => first | (go_simp; done) | (go_simp; rfl)); (case ho => exact ((((O12.out.set (i := 2) rfl 0 (.string (rd_T58 l0 y).f0)).set (i := 2) rfl 1 (.int .i64 (rd_T58 l0 y).f1)).set (i := 2) rfl 2 (.int .i64 (rd_T58 l0 y).f2)).set (i := 2) rfl 3 (.string (rd_T58 l0 y).f3))); (case hk => exact ((((KeepS.setCell (O12.out.far (i := 2) rfl) (.string (rd_T58 l0 y).f0)).trans (KeepS.setCell (O12.out.far (i := 2) rfl) (.int .i64 (rd_T58 l0 y).f1))).trans (KeepS.setCell (O12.out.far (i := 2) rfl) (.int .i64 (rd_T58 l0 y).f2))).trans (KeepS.setCell (O12.out.far (i := 2) rfl) (.string (rd_T58 l0 y).f3)))); intro w13 o_ k_; have O13 : Aside0 (Own N w13 [RP gr (cat l0 x ++ a1) ((cat l0 (y + 1)).size : Int) 0, RM gm (cat l0 x ++ a1) ((cat l0 y).size : Int) 0, cells gu #[.string (rd_T58 l0 y).f0, .int .i64 (rd_T58 l0 y).f1, .int .i64 (rd_T58 l0 y).f2, .string (rd_T58 l0 y).f3] 58]) := ⟨o_⟩; have K13 : Aside0 (KeepS N w w13) := ⟨K12.out.trans k_⟩; have HRJ_13 : Aside0 (Kd.F k58 w13 N (some ad) l0.length l0) := ⟨keepF HRJ_12.out k_⟩; clear c12_0_0 f12_0_0 c12_0_1 f12_0_1 c12_0_2 f12_0_2 c12_1_0 f12_1_0 c12_1_1 f12_1_1 c12_1_2 f12_1_2 c12_2_0 f12_2_0 c12_2_1 f12_2_1 c12_2_2 f12_2_2 c12_2_3 f12_2_3 n12_0_1 n12_0_2 n12_1_0 n12_1_2 n12_2_0 n12_2_1 O12 K12 HRJ_12; have c13_0_0 : w13.cell? ⟨gr, 0, none⟩ = some (.string (cat l0 x ++ a1)) := (blk_cell (O13.out.blk (i := 0) rfl) 0).trans rfl; have f13_0_0 : w13.frozen? ⟨gr, 0, none⟩ = false := blk_frozen (O13.out.blk (i := 0) rfl) 0; have c13_0_1 : w13.cell? ⟨gr, 1, none⟩ = some (.int .i64 ((cat l0 (y + 1)).size : Int)) := (blk_cell (O13.out.blk (i := 0) rfl) 1).trans rfl; have f13_0_1 : w13.frozen? ⟨gr, 1, none⟩ = false := blk_frozen (O13.out.blk (i := 0) rfl) 1; have c13_0_2 : w13.cell? ⟨gr, 2, none⟩ = some (.int .i64 0) := (blk_cell (O13.out.blk (i := 0) rfl) 2).trans rfl; have f13_0_2 : w13.frozen? ⟨gr, 2, none⟩ = false := blk_frozen (O13.out.blk (i := 0) rfl) 2; have c13_1_0 : w13.cell? ⟨gm, 0, none⟩ = some (.string (cat l0 x ++ a1)) := (blk_cell (O13.out.blk (i := 1) rfl) 0).trans rfl; have f13_1_0 : w13.frozen? ⟨gm, 0, none⟩ = false := blk_frozen (O13.out.blk (i := 1) rfl) 0; have c13_1_1 : w13.cell? ⟨gm, 1, none⟩ = some (.int .i64 ((cat l0 y).size : Int)) := (blk_cell (O13.out.blk (i := 1) rfl) 1).trans rfl; have f13_1_1 : w13.frozen? ⟨gm, 1, none⟩ = false := blk_frozen (O13.out.blk (i := 1) rfl) 1; have c13_1_2 : w13.cell? ⟨gm, 2, none⟩ = some (.int .i64 0) := (blk_cell (O13.out.blk (i := 1) rfl) 2).trans rfl; have f13_1_2 : w13.frozen? ⟨gm, 2, none⟩ = false := blk_frozen (O13.out.blk (i := 1) rfl) 2; have c13_2_0 : w13.cell? ⟨gu, 0, none⟩ = some (.string (rd_T58 l0 y).f0) := (blk_cell (O13.out.blk (i := 2) rfl) 0).trans rfl; have f13_2_0 : w13.frozen? ⟨gu, 0, none⟩ = false := blk_frozen (O13.out.blk (i := 2) rfl) 0; have c13_2_1 : w13.cell? ⟨gu, 1, none⟩ = some (.int .i64 (rd_T58 l0 y).f1) := (blk_cell (O13.out.blk (i := 2) rfl) 1).trans rfl; have f13_2_1 : w13.frozen? ⟨gu, 1, none⟩ = false := blk_frozen (O13.out.blk (i := 2) rfl) 1; have c13_2_2 : w13.cell? ⟨gu, 2, none⟩ = some (.int .i64 (rd_T58 l0 y).f2) := (blk_cell (O13.out.blk (i := 2) rfl) 2).trans rfl; have f13_2_2 : w13.frozen? ⟨gu, 2, none⟩ = false := blk_frozen (O13.out.blk (i := 2) rfl) 2; have c13_2_3 : w13.cell? ⟨gu, 3, none⟩ = some (.string (rd_T58 l0 y).f3) := (blk_cell (O13.out.blk (i := 2) rfl) 3).trans rfl; have f13_2_3 : w13.frozen? ⟨gu, 3, none⟩ = false := blk_frozen (O13.out.blk (i := 2) rfl) 3; have n13_0_1 : gr ≠ gm := O13.out.ne (i := 0) (j := 1) rfl rfl (by decide); have n13_0_2 : gr ≠ gu := O13.out.ne (i := 0) (j := 2) rfl rfl (by decide); have n13_1_0 : gm ≠ gr := O13.out.ne (i := 1) (j := 0) rfl rfl (by decide); have n13_1_2 : gm ≠ gu := O13.out.ne (i := 1) (j := 2) rfl rfl (by decide); have n13_2_0 : gu ≠ gr := O13.out.ne (i := 2) (j := 0) rfl rfl (by decide); have n13_2_1 : gu ≠ gm := O13.out.ne (i := 2) (j := 1) rfl rfl (by decide); clear o_ k_))
              refine start_ (n := 26) (S := fun w' => w'.cell? ⟨gu, 0, none⟩ = some (.string (rd_T58 l0 y).f0) ∧ w'.cell? ⟨gu, 1, none⟩ = some (.int .i64 (rd_T58 l0 y).f1) ∧ w'.cell? ⟨gu, 2, none⟩ = some (.int .i64 (rd_T58 l0 y).f2) ∧ w'.cell? ⟨gu, 3, none⟩ = some (.string (rd_T58 l0 y).f3) ∧ w'.cell? (ad.add (y.toNat * 4)) = some (.string (rd_T58 l0 y).f0) ∧ w'.cell? ⟨(ad.add (y.toNat * 4)).block, (ad.add (y.toNat * 4)).off + 1, none⟩ = some (.int .i64 (rd_T58 l0 y).f1) ∧ w'.cell? ⟨(ad.add (y.toNat * 4)).block, (ad.add (y.toNat * 4)).off + 2, none⟩ = some (.int .i64 (rd_T58 l0 y).f2) ∧ w'.cell? ⟨(ad.add (y.toNat * 4)).block, (ad.add (y.toNat * 4)).off + 3, none⟩ = some (.string (rd_T58 l0 y).f3)) (ds := []) #[false, false, false, false, false, false, false, false, false, false, false, false, false, false, false, false, false, false, false, false, false, false, false, false, false, false] (by kernel_rfl) rfl rfl ⟨((blk_cell (O13.out.blk (i := 2) rfl) 0).trans rfl), ((blk_cell (O13.out.blk (i := 2) rfl) 1).trans rfl), ((blk_cell (O13.out.blk (i := 2) rfl) 2).trans rfl), ((blk_cell (O13.out.blk (i := 2) rfl) 3).trans rfl), ((cellU HRJ_13.out y HY.out.1 HYL.out).1), ((cellU HRJ_13.out y HY.out.1 HYL.out).2.1), ((cellU HRJ_13.out y HY.out.1 HYL.out).2.2.1), ((cellU HRJ_13.out y HY.out.1 HYL.out).2.2.2)⟩ (fun hHeld => ?_)
              obtain ⟨w14, hw_⟩ : ∃ W, W = w13.drew := ⟨_, rfl⟩
              have o_ := O13.out.drew
              have k_ : KeepS N w13 w13.drew := KeepS.drew
              rw [← hw_] at o_ k_ hHeld ⊢
              clear hw_
              have O14 : Aside0 (Own N w14 [RP gr (cat l0 x ++ a1) ((cat l0 (y + 1)).size : Int) 0, RM gm (cat l0 x ++ a1) ((cat l0 y).size : Int) 0, cells gu #[.string (rd_T58 l0 y).f0, .int .i64 (rd_T58 l0 y).f1, .int .i64 (rd_T58 l0 y).f2, .string (rd_T58 l0 y).f3] 58]) := ⟨o_⟩
              have K14 : Aside0 (KeepS N w w14) := ⟨K13.out.trans k_⟩
              have HRJ_14 : Aside0 (Kd.F k58 w14 N (some ad) l0.length l0) := ⟨keepF HRJ_13.out k_⟩
              clear c13_0_0 f13_0_0 c13_0_1 f13_0_1 c13_0_2 f13_0_2 c13_1_0 f13_1_0 c13_1_1 f13_1_1 c13_1_2 f13_1_2 c13_2_0 f13_2_0 c13_2_1 f13_2_1 c13_2_2 f13_2_2 c13_2_3 f13_2_3 n13_0_1 n13_0_2 n13_1_0 n13_1_2 n13_2_0 n13_2_1 O13 K13 HRJ_13
              have c14_0_0 : w14.cell? ⟨gr, 0, none⟩ = some (.string (cat l0 x ++ a1)) := (blk_cell (O14.out.blk (i := 0) rfl) 0).trans rfl
              have f14_0_0 : w14.frozen? ⟨gr, 0, none⟩ = false := blk_frozen (O14.out.blk (i := 0) rfl) 0
              have c14_0_1 : w14.cell? ⟨gr, 1, none⟩ = some (.int .i64 ((cat l0 (y + 1)).size : Int)) := (blk_cell (O14.out.blk (i := 0) rfl) 1).trans rfl
              have f14_0_1 : w14.frozen? ⟨gr, 1, none⟩ = false := blk_frozen (O14.out.blk (i := 0) rfl) 1
              have c14_0_2 : w14.cell? ⟨gr, 2, none⟩ = some (.int .i64 0) := (blk_cell (O14.out.blk (i := 0) rfl) 2).trans rfl
              have f14_0_2 : w14.frozen? ⟨gr, 2, none⟩ = false := blk_frozen (O14.out.blk (i := 0) rfl) 2
              have c14_1_0 : w14.cell? ⟨gm, 0, none⟩ = some (.string (cat l0 x ++ a1)) := (blk_cell (O14.out.blk (i := 1) rfl) 0).trans rfl
              have f14_1_0 : w14.frozen? ⟨gm, 0, none⟩ = false := blk_frozen (O14.out.blk (i := 1) rfl) 0
              have c14_1_1 : w14.cell? ⟨gm, 1, none⟩ = some (.int .i64 ((cat l0 y).size : Int)) := (blk_cell (O14.out.blk (i := 1) rfl) 1).trans rfl
              have f14_1_1 : w14.frozen? ⟨gm, 1, none⟩ = false := blk_frozen (O14.out.blk (i := 1) rfl) 1
              have c14_1_2 : w14.cell? ⟨gm, 2, none⟩ = some (.int .i64 0) := (blk_cell (O14.out.blk (i := 1) rfl) 2).trans rfl
              have f14_1_2 : w14.frozen? ⟨gm, 2, none⟩ = false := blk_frozen (O14.out.blk (i := 1) rfl) 2
              have c14_2_0 : w14.cell? ⟨gu, 0, none⟩ = some (.string (rd_T58 l0 y).f0) := (blk_cell (O14.out.blk (i := 2) rfl) 0).trans rfl
              have f14_2_0 : w14.frozen? ⟨gu, 0, none⟩ = false := blk_frozen (O14.out.blk (i := 2) rfl) 0
              have c14_2_1 : w14.cell? ⟨gu, 1, none⟩ = some (.int .i64 (rd_T58 l0 y).f1) := (blk_cell (O14.out.blk (i := 2) rfl) 1).trans rfl
              have f14_2_1 : w14.frozen? ⟨gu, 1, none⟩ = false := blk_frozen (O14.out.blk (i := 2) rfl) 1
              have c14_2_2 : w14.cell? ⟨gu, 2, none⟩ = some (.int .i64 (rd_T58 l0 y).f2) := (blk_cell (O14.out.blk (i := 2) rfl) 2).trans rfl
              have f14_2_2 : w14.frozen? ⟨gu, 2, none⟩ = false := blk_frozen (O14.out.blk (i := 2) rfl) 2
              have c14_2_3 : w14.cell? ⟨gu, 3, none⟩ = some (.string (rd_T58 l0 y).f3) := (blk_cell (O14.out.blk (i := 2) rfl) 3).trans rfl
              have f14_2_3 : w14.frozen? ⟨gu, 3, none⟩ = false := blk_frozen (O14.out.blk (i := 2) rfl) 3
              have n14_0_1 : gr ≠ gm := O14.out.ne (i := 0) (j := 1) rfl rfl (by decide)
              have n14_0_2 : gr ≠ gu := O14.out.ne (i := 0) (j := 2) rfl rfl (by decide)
              have n14_1_0 : gm ≠ gr := O14.out.ne (i := 1) (j := 0) rfl rfl (by decide)
              have n14_1_2 : gm ≠ gu := O14.out.ne (i := 1) (j := 2) rfl rfl (by decide)
              have n14_2_0 : gu ≠ gr := O14.out.ne (i := 2) (j := 0) rfl rfl (by decide)
              have n14_2_1 : gu ≠ gm := O14.out.ne (i := 2) (j := 1) rfl rfl (by decide)
              clear o_ k_
              refine pure_ (i := 0) (N := some 72) (v := ?_) (a' := ?_) #[true, false, false, false, false, false, false, false, false, false, false, false, false, false, false, false, false, false, false, false, false, false, false, false, false, false] rfl rfl (by kernel_rfl) (fun _ _ _ h => h) (Or.inl ⟨by rfl, ?_⟩) ?_ ?_
              rotate_left
              · intro w'
                go_simp
                with_reducible rfl
              rotate_left
              · simp only [Act.put, List.setIfInBounds_toArray, List.set_cons_zero, List.set_cons_succ, i64_w, i32_w]
                rfl
              refine pure_ (i := 1) (N := some 73) (v := ?_) (a' := ?_) #[true, true, false, false, false, false, false, false, false, false, false, false, false, false, false, false, false, false, false, false, false, false, false, false, false, false] rfl rfl (by kernel_rfl) (fun _ _ _ h => h) (Or.inl ⟨by rfl, ?_⟩) ?_ ?_
              rotate_left
              · intro w'
                go_simp
                with_reducible rfl
              rotate_left
              · simp only [Act.put, List.setIfInBounds_toArray, List.set_cons_zero, List.set_cons_succ, i64_w, i32_w]
                rfl
              refine pure_ (i := 2) (N := some 74) (v := ?_) (a' := ?_) #[true, true, true, false, false, false, false, false, false, false, false, false, false, false, false, false, false, false, false, false, false, false, false, false, false, false] rfl rfl (by kernel_rfl) (fun _ _ _ h => h) (Or.inl ⟨by rfl, ?_⟩) ?_ ?_
              rotate_left
              · intro w'
                go_simp
                with_reducible rfl
              rotate_left
              · simp only [Act.put, List.setIfInBounds_toArray, List.set_cons_zero, List.set_cons_succ, i64_w, i32_w]
                rfl
              refine pure_ (i := 3) (N := some 75) (v := ?_) (a' := ?_) #[true, true, true, true, false, false, false, false, false, false, false, false, false, false, false, false, false, false, false, false, false, false, false, false, false, false] rfl rfl (by kernel_rfl) (fun _ _ _ h => h) (Or.inl ⟨by rfl, ?_⟩) ?_ ?_
              rotate_left
              · intro w'
                go_simp
                with_reducible rfl
              rotate_left
              · simp only [Act.put, List.setIfInBounds_toArray, List.set_cons_zero, List.set_cons_succ, i64_w, i32_w]
                rfl
              refine pure_ (i := 5) (N := some 77) (v := ?_) (a' := ?_) #[true, true, true, true, false, true, false, false, false, false, false, false, false, false, false, false, false, false, false, false, false, false, false, false, false, false] rfl rfl (by kernel_rfl) (fun _ _ _ h => h) (Or.inl ⟨by rfl, ?_⟩) ?_ ?_
              rotate_left
              · intro w'
                go_simp
                with_reducible rfl
              rotate_left
              · simp only [Act.put, List.setIfInBounds_toArray, List.set_cons_zero, List.set_cons_succ, i64_w, i32_w]
                rfl
              refine pure_ (i := 6) (N := some 78) (v := ?_) (a' := ?_) #[true, true, true, true, false, true, true, false, false, false, false, false, false, false, false, false, false, false, false, false, false, false, false, false, false, false] rfl rfl (by kernel_rfl) (fun _ _ _ h => h) (Or.inl ⟨by rfl, ?_⟩) ?_ ?_
              rotate_left
              · intro w'
                go_simp
                with_reducible rfl
              rotate_left
              · simp only [Act.put, List.setIfInBounds_toArray, List.set_cons_zero, List.set_cons_succ, i64_w, i32_w]
                rfl
              refine pure_ (i := 7) (N := some 79) (v := ?_) (a' := ?_) #[true, true, true, true, false, true, true, true, false, false, false, false, false, false, false, false, false, false, false, false, false, false, false, false, false, false] rfl rfl (by kernel_rfl) (fun _ _ _ h => h) (Or.inl ⟨by rfl, ?_⟩) ?_ ?_
              rotate_left
              · intro w'
                go_simp
                with_reducible rfl
              rotate_left
              · simp only [Act.put, List.setIfInBounds_toArray, List.set_cons_zero, List.set_cons_succ, i64_w, i32_w]
                rfl
              refine take_ (i := 4) (N := some 76) (v := ?_) (a' := ?_) #[true, true, true, true, true, true, true, true, false, false, false, false, false, false, false, false, false, false, false, false, false, false, false, false, false, false] rfl rfl (by kernel_rfl) (fun _ _ _ h => h) (Or.inl ⟨by rfl, ?_⟩) hHeld ?_ ?_
              rotate_left
              · rintro w' ⟨s0, s1, s2, s3, s4, s5, s6, s7⟩
                go_simp
                with_reducible rfl
              rotate_left
              · simp only [Act.put, List.setIfInBounds_toArray, List.set_cons_zero, List.set_cons_succ, i64_w, i32_w]
                rfl
              refine take_ (i := 8) (N := some 80) (v := ?_) (a' := ?_) #[true, true, true, true, true, true, true, true, true, false, false, false, false, false, false, false, false, false, false, false, false, false, false, false, false, false] rfl rfl (by kernel_rfl) (fun _ _ _ h => h) (Or.inl ⟨by rfl, ?_⟩) hHeld ?_ ?_
              rotate_left
              · rintro w' ⟨s0, s1, s2, s3, s4, s5, s6, s7⟩
                go_simp
                with_reducible rfl
              rotate_left
              · simp only [Act.put, List.setIfInBounds_toArray, List.set_cons_zero, List.set_cons_succ, i64_w, i32_w]
                rfl
              refine pure_ (i := 9) (N := some 81) (v := ?_) (a' := ?_) #[true, true, true, true, true, true, true, true, true, true, false, false, false, false, false, false, false, false, false, false, false, false, false, false, false, false] rfl rfl (by kernel_rfl) (fun _ _ _ h => h) (Or.inl ⟨by rfl, ?_⟩) ?_ ?_
              rotate_left
              · intro w'
                go_simp
                with_reducible rfl
              rotate_left
              · simp only [Act.put, List.setIfInBounds_toArray, List.set_cons_zero, List.set_cons_succ, i64_w, i32_w]
                rfl
              refine pure_ (i := 10) (N := some 82) (v := ?_) (a' := ?_) #[true, true, true, true, true, true, true, true, true, true, true, false, false, false, false, false, false, false, false, false, false, false, false, false, false, false] rfl rfl (by kernel_rfl) (fun _ _ _ h => h) (Or.inl ⟨by rfl, ?_⟩) ?_ ?_
              rotate_left
              · intro w'
                go_simp
                with_reducible rfl
              rotate_left
              · simp only [Act.put, List.setIfInBounds_toArray, List.set_cons_zero, List.set_cons_succ, i64_w, i32_w]
                rfl
              refine pure_ (i := 11) (N := some 83) (v := ?_) (a' := ?_) #[true, true, true, true, true, true, true, true, true, true, true, true, false, false, false, false, false, false, false, false, false, false, false, false, false, false] rfl rfl (by kernel_rfl) (fun _ _ _ h => h) (Or.inl ⟨by rfl, ?_⟩) ?_ ?_
              rotate_left
              · intro w'
                go_simp
                with_reducible rfl
              rotate_left
              · simp only [Act.put, List.setIfInBounds_toArray, List.set_cons_zero, List.set_cons_succ, i64_w, i32_w]
                rfl
              refine pure_ (i := 13) (N := some 85) (v := ?_) (a' := ?_) #[true, true, true, true, true, true, true, true, true, true, true, true, false, true, false, false, false, false, false, false, false, false, false, false, false, false] rfl rfl (by kernel_rfl) (fun _ _ _ h => h) (Or.inl ⟨by rfl, ?_⟩) ?_ ?_
              rotate_left
              · intro w'
                go_simp
                with_reducible rfl
              rotate_left
              · simp only [Act.put, List.setIfInBounds_toArray, List.set_cons_zero, List.set_cons_succ, i64_w, i32_w]
                rfl
              refine take_ (i := 12) (N := some 84) (v := ?_) (a' := ?_) #[true, true, true, true, true, true, true, true, true, true, true, true, true, true, false, false, false, false, false, false, false, false, false, false, false, false] rfl rfl (by kernel_rfl) (fun _ _ _ h => h) (Or.inl ⟨by rfl, ?_⟩) hHeld ?_ ?_
              rotate_left
              · rintro w' ⟨s0, s1, s2, s3, s4, s5, s6, s7⟩
                go_simp
                with_reducible rfl
              rotate_left
              · simp only [Act.put, List.setIfInBounds_toArray, List.set_cons_zero, List.set_cons_succ, i64_w, i32_w]
                rfl
              refine one_ (i := 14) (N := some 86) #[true, true, true, true, true, true, true, true, true, true, true, true, true, true, true, false, false, false, false, false, false, false, false, false, false, false] rfl rfl (by kernel_rfl) (by decide) (fun K_ hK_ => ?_)
              refine goes_ Tryd.func45 (by kernel_rfl) rfl #[.pointer (some ⟨gm, 0, none⟩)] (by rfl) rfl rfl (by (try simp only [List.map_toArray, List.map_cons, List.map_nil]); first | done | rfl) ?_
              obtain ⟨N_, on_, nn_, rr_, bb_⟩ := O14.out.frame1 (i := 1) rfl
              refine (rUpd (K14.out.below (Nat.le_refl _) (fun k hk => by rw [HN.out]; exact hk)) (Nat.le_of_not_lt (fun q_ => (O14.out.far (i := 1) rfl) (by rw [HN.out]; exact q_))) HSS.out HPL.out.1 HPL.out.2 (rd_T58 l0 y).f0 (rd_T58 l0 y).f1 (rd_T58 l0 y).f2 (rd_T58 l0 y).f3 ((cat l0 (y + 1)).size : Int) 0 HQ.out on_).mono ?_
              rintro e_ w15 ⟨rfl, oo_, kk_⟩
              obtain ⟨o_, k_⟩ := bb_ _ _ _ kk_ oo_
              refine ⟨_, rfl, ?_⟩
              have O15 : Aside0 (Own N w15 [RP gr (cat l0 x ++ a1) ((cat l0 (y + 1)).size : Int) 0, RM gm (cat l0 x ++ a1) ((cat l0 (y + 1)).size : Int) 0, cells gu #[.string (rd_T58 l0 y).f0, .int .i64 (rd_T58 l0 y).f1, .int .i64 (rd_T58 l0 y).f2, .string (rd_T58 l0 y).f3] 58]) := ⟨o_⟩
              have K15 : Aside0 (KeepS N w w15) := ⟨K14.out.trans k_⟩
              have HRJ_15 : Aside0 (Kd.F k58 w15 N (some ad) l0.length l0) := ⟨keepF HRJ_14.out k_⟩
              clear c14_0_0 f14_0_0 c14_0_1 f14_0_1 c14_0_2 f14_0_2 c14_1_0 f14_1_0 c14_1_1 f14_1_1 c14_1_2 f14_1_2 c14_2_0 f14_2_0 c14_2_1 f14_2_1 c14_2_2 f14_2_2 c14_2_3 f14_2_3 n14_0_1 n14_0_2 n14_1_0 n14_1_2 n14_2_0 n14_2_1 O14 K14 HRJ_14
              have c15_0_0 : w15.cell? ⟨gr, 0, none⟩ = some (.string (cat l0 x ++ a1)) := (blk_cell (O15.out.blk (i := 0) rfl) 0).trans rfl
              have f15_0_0 : w15.frozen? ⟨gr, 0, none⟩ = false := blk_frozen (O15.out.blk (i := 0) rfl) 0
              have c15_0_1 : w15.cell? ⟨gr, 1, none⟩ = some (.int .i64 ((cat l0 (y + 1)).size : Int)) := (blk_cell (O15.out.blk (i := 0) rfl) 1).trans rfl
              have f15_0_1 : w15.frozen? ⟨gr, 1, none⟩ = false := blk_frozen (O15.out.blk (i := 0) rfl) 1
              have c15_0_2 : w15.cell? ⟨gr, 2, none⟩ = some (.int .i64 0) := (blk_cell (O15.out.blk (i := 0) rfl) 2).trans rfl
              have f15_0_2 : w15.frozen? ⟨gr, 2, none⟩ = false := blk_frozen (O15.out.blk (i := 0) rfl) 2
              have c15_1_0 : w15.cell? ⟨gm, 0, none⟩ = some (.string (cat l0 x ++ a1)) := (blk_cell (O15.out.blk (i := 1) rfl) 0).trans rfl
              have f15_1_0 : w15.frozen? ⟨gm, 0, none⟩ = false := blk_frozen (O15.out.blk (i := 1) rfl) 0
              have c15_1_1 : w15.cell? ⟨gm, 1, none⟩ = some (.int .i64 ((cat l0 (y + 1)).size : Int)) := (blk_cell (O15.out.blk (i := 1) rfl) 1).trans rfl
              have f15_1_1 : w15.frozen? ⟨gm, 1, none⟩ = false := blk_frozen (O15.out.blk (i := 1) rfl) 1
              have c15_1_2 : w15.cell? ⟨gm, 2, none⟩ = some (.int .i64 0) := (blk_cell (O15.out.blk (i := 1) rfl) 2).trans rfl
              have f15_1_2 : w15.frozen? ⟨gm, 2, none⟩ = false := blk_frozen (O15.out.blk (i := 1) rfl) 2
              have c15_2_0 : w15.cell? ⟨gu, 0, none⟩ = some (.string (rd_T58 l0 y).f0) := (blk_cell (O15.out.blk (i := 2) rfl) 0).trans rfl
              have f15_2_0 : w15.frozen? ⟨gu, 0, none⟩ = false := blk_frozen (O15.out.blk (i := 2) rfl) 0
              have c15_2_1 : w15.cell? ⟨gu, 1, none⟩ = some (.int .i64 (rd_T58 l0 y).f1) := (blk_cell (O15.out.blk (i := 2) rfl) 1).trans rfl
              have f15_2_1 : w15.frozen? ⟨gu, 1, none⟩ = false := blk_frozen (O15.out.blk (i := 2) rfl) 1
              have c15_2_2 : w15.cell? ⟨gu, 2, none⟩ = some (.int .i64 (rd_T58 l0 y).f2) := (blk_cell (O15.out.blk (i := 2) rfl) 2).trans rfl
              have f15_2_2 : w15.frozen? ⟨gu, 2, none⟩ = false := blk_frozen (O15.out.blk (i := 2) rfl) 2
              have c15_2_3 : w15.cell? ⟨gu, 3, none⟩ = some (.string (rd_T58 l0 y).f3) := (blk_cell (O15.out.blk (i := 2) rfl) 3).trans rfl
              have f15_2_3 : w15.frozen? ⟨gu, 3, none⟩ = false := blk_frozen (O15.out.blk (i := 2) rfl) 3
              have n15_0_1 : gr ≠ gm := O15.out.ne (i := 0) (j := 1) rfl rfl (by decide)
              have n15_0_2 : gr ≠ gu := O15.out.ne (i := 0) (j := 2) rfl rfl (by decide)
              have n15_1_0 : gm ≠ gr := O15.out.ne (i := 1) (j := 0) rfl rfl (by decide)
              have n15_1_2 : gm ≠ gu := O15.out.ne (i := 1) (j := 2) rfl rfl (by decide)
              have n15_2_0 : gu ≠ gr := O15.out.ne (i := 2) (j := 0) rfl rfl (by decide)
              have n15_2_1 : gu ≠ gm := O15.out.ne (i := 2) (j := 1) rfl rfl (by decide)
              clear o_ k_ oo_ kk_ on_ nn_ rr_ bb_
              clear hHeld
              refine hK_.out _ _ ⟨((blk_cell (O15.out.blk (i := 2) rfl) 0).trans rfl), ((blk_cell (O15.out.blk (i := 2) rfl) 1).trans rfl), ((blk_cell (O15.out.blk (i := 2) rfl) 2).trans rfl), ((blk_cell (O15.out.blk (i := 2) rfl) 3).trans rfl), ((cellU HRJ_15.out y HY.out.1 HYL.out).1), ((cellU HRJ_15.out y HY.out.1 HYL.out).2.1), ((cellU HRJ_15.out y HY.out.1 HYL.out).2.2.1), ((cellU HRJ_15.out y HY.out.1 HYL.out).2.2.2)⟩ (fun hHeld => ?_)
              clear hK_ K_
              refine norm_ (a' := ?_) ?_ ?_
              rotate_left
              · simp only [Act.put, List.setIfInBounds_toArray, List.set_cons_zero, List.set_cons_succ, i64_w, i32_w]
                rfl
              clear hHeld
              have hHeld : (fun w' : World => w'.cell? ⟨gm, 2, none⟩ = some (.int .i64 0) ∧ w'.cell? ⟨gu, 0, none⟩ = some (.string (rd_T58 l0 y).f0) ∧ w'.cell? ⟨gu, 1, none⟩ = some (.int .i64 (rd_T58 l0 y).f1) ∧ w'.cell? ⟨gu, 2, none⟩ = some (.int .i64 (rd_T58 l0 y).f2) ∧ w'.cell? ⟨gu, 3, none⟩ = some (.string (rd_T58 l0 y).f3) ∧ w'.cell? (ad.add (y.toNat * 4)) = some (.string (rd_T58 l0 y).f0) ∧ w'.cell? ⟨(ad.add (y.toNat * 4)).block, (ad.add (y.toNat * 4)).off + 1, none⟩ = some (.int .i64 (rd_T58 l0 y).f1) ∧ w'.cell? ⟨(ad.add (y.toNat * 4)).block, (ad.add (y.toNat * 4)).off + 2, none⟩ = some (.int .i64 (rd_T58 l0 y).f2) ∧ w'.cell? ⟨(ad.add (y.toNat * 4)).block, (ad.add (y.toNat * 4)).off + 3, none⟩ = some (.string (rd_T58 l0 y).f3)) w15 := ⟨((blk_cell (O15.out.blk (i := 1) rfl) 2).trans rfl), ((blk_cell (O15.out.blk (i := 2) rfl) 0).trans rfl), ((blk_cell (O15.out.blk (i := 2) rfl) 1).trans rfl), ((blk_cell (O15.out.blk (i := 2) rfl) 2).trans rfl), ((blk_cell (O15.out.blk (i := 2) rfl) 3).trans rfl), ((cellU HRJ_15.out y HY.out.1 HYL.out).1), ((cellU HRJ_15.out y HY.out.1 HYL.out).2.1), ((cellU HRJ_15.out y HY.out.1 HYL.out).2.2.1), ((cellU HRJ_15.out y HY.out.1 HYL.out).2.2.2)⟩
              refine narrow_ (S2 := fun w' => w'.cell? ⟨gm, 2, none⟩ = some (.int .i64 0) ∧ w'.cell? ⟨gu, 0, none⟩ = some (.string (rd_T58 l0 y).f0) ∧ w'.cell? ⟨gu, 1, none⟩ = some (.int .i64 (rd_T58 l0 y).f1) ∧ w'.cell? ⟨gu, 2, none⟩ = some (.int .i64 (rd_T58 l0 y).f2) ∧ w'.cell? ⟨gu, 3, none⟩ = some (.string (rd_T58 l0 y).f3) ∧ w'.cell? (ad.add (y.toNat * 4)) = some (.string (rd_T58 l0 y).f0) ∧ w'.cell? ⟨(ad.add (y.toNat * 4)).block, (ad.add (y.toNat * 4)).off + 1, none⟩ = some (.int .i64 (rd_T58 l0 y).f1) ∧ w'.cell? ⟨(ad.add (y.toNat * 4)).block, (ad.add (y.toNat * 4)).off + 2, none⟩ = some (.int .i64 (rd_T58 l0 y).f2) ∧ w'.cell? ⟨(ad.add (y.toNat * 4)).block, (ad.add (y.toNat * 4)).off + 3, none⟩ = some (.string (rd_T58 l0 y).f3)) (fun w_ h_ => h_.2) hHeld ?_
              simp only at hHeld
              refine pure_ (i := 15) (N := some 87) (v := ?_) (a' := ?_) #[true, true, true, true, true, true, true, true, true, true, true, true, true, true, true, true, false, false, false, false, false, false, false, false, false, false] rfl rfl (by kernel_rfl) (fun _ _ _ h => h) (Or.inl ⟨by rfl, ?_⟩) ?_ ?_
              rotate_left
              · intro w'
                go_simp
                with_reducible rfl
              rotate_left
              · simp only [Act.put, List.setIfInBounds_toArray, List.set_cons_zero, List.set_cons_succ, i64_w, i32_w]
                rfl
              refine pure_ (i := 16) (N := some 88) (v := ?_) (a' := ?_) #[true, true, true, true, true, true, true, true, true, true, true, true, true, true, true, true, true, false, false, false, false, false, false, false, false, false] rfl rfl (by kernel_rfl) (fun _ _ _ h => h) (Or.inl ⟨by rfl, ?_⟩) ?_ ?_
              rotate_left
              · intro w'
                go_simp
                with_reducible rfl
              rotate_left
              · simp only [Act.put, List.setIfInBounds_toArray, List.set_cons_zero, List.set_cons_succ, i64_w, i32_w]
                rfl
              refine pure_ (i := 17) (N := some 89) (v := ?_) (a' := ?_) #[true, true, true, true, true, true, true, true, true, true, true, true, true, true, true, true, true, true, false, false, false, false, false, false, false, false] rfl rfl (by kernel_rfl) (fun _ _ _ h => h) (Or.inl ⟨by rfl, ?_⟩) ?_ ?_
              rotate_left
              · intro w'
                go_simp
                with_reducible rfl
              rotate_left
              · simp only [Act.put, List.setIfInBounds_toArray, List.set_cons_zero, List.set_cons_succ, i64_w, i32_w]
                rfl
              refine pure_ (i := 18) (N := some 90) (v := ?_) (a' := ?_) #[true, true, true, true, true, true, true, true, true, true, true, true, true, true, true, true, true, true, true, false, false, false, false, false, false, false] rfl rfl (by kernel_rfl) (fun _ _ _ h => h) (Or.inl ⟨by rfl, ?_⟩) ?_ ?_
              rotate_left
              · intro w'
                go_simp
                with_reducible rfl
              rotate_left
              · simp only [Act.put, List.setIfInBounds_toArray, List.set_cons_zero, List.set_cons_succ, i64_w, i32_w]
                rfl
              refine pure_ (i := 20) (N := some 92) (v := ?_) (a' := ?_) #[true, true, true, true, true, true, true, true, true, true, true, true, true, true, true, true, true, true, true, false, true, false, false, false, false, false] rfl rfl (by kernel_rfl) (fun _ _ _ h => h) (Or.inl ⟨by rfl, ?_⟩) ?_ ?_
              rotate_left
              · intro w'
                go_simp
                with_reducible rfl
              rotate_left
              · simp only [Act.put, List.setIfInBounds_toArray, List.set_cons_zero, List.set_cons_succ, i64_w, i32_w]
                rfl
              refine pure_ (i := 21) (N := some 93) (v := ?_) (a' := ?_) #[true, true, true, true, true, true, true, true, true, true, true, true, true, true, true, true, true, true, true, false, true, true, false, false, false, false] rfl rfl (by kernel_rfl) (fun _ _ _ h => h) (Or.inl ⟨by rfl, ?_⟩) ?_ ?_
              rotate_left
              · intro w'
                go_simp
                with_reducible rfl
              rotate_left
              · simp only [Act.put, List.setIfInBounds_toArray, List.set_cons_zero, List.set_cons_succ, i64_w, i32_w]
                rfl
              refine pure_ (i := 22) (N := some 94) (v := ?_) (a' := ?_) #[true, true, true, true, true, true, true, true, true, true, true, true, true, true, true, true, true, true, true, false, true, true, true, false, false, false] rfl rfl (by kernel_rfl) (fun _ _ _ h => h) (Or.inl ⟨by rfl, ?_⟩) ?_ ?_
              rotate_left
              · intro w'
                go_simp
                with_reducible rfl
              rotate_left
              · simp only [Act.put, List.setIfInBounds_toArray, List.set_cons_zero, List.set_cons_succ, i64_w, i32_w]
                rfl
              refine take_ (i := 23) (N := some 95) (v := ?_) (a' := ?_) #[true, true, true, true, true, true, true, true, true, true, true, true, true, true, true, true, true, true, true, false, true, true, true, true, false, false] rfl rfl (by kernel_rfl) (fun _ _ _ h => h) (Or.inl ⟨by rfl, ?_⟩) hHeld ?_ ?_
              rotate_left
              · rintro w' ⟨s0, s1, s2, s3, s4, s5, s6, s7, s8⟩
                go_simp
                with_reducible rfl
              rotate_left
              · simp only [Act.put, List.setIfInBounds_toArray, List.set_cons_zero, List.set_cons_succ, i64_w, i32_w]
                rfl
              refine one_ (i := 19) (N := some 91) #[true, true, true, true, true, true, true, true, true, true, true, true, true, true, true, true, true, true, true, true, true, true, true, true, false, false] rfl rfl (by kernel_rfl) (by decide) (fun K_ hK_ => ?_)
              refine goes_ Tryd.func22 (by kernel_rfl) rfl #[.pointer (some ⟨gr, 0, none⟩)] (by rfl) rfl rfl (by (try simp only [List.map_toArray, List.map_cons, List.map_nil]); first | done | rfl) ?_
              obtain ⟨N_, on_, nn_, rr_, bb_⟩ := O15.out.frame1 (i := 0) rfl
              refine (pErr (K15.out.below (Nat.le_refl _) (fun k hk => by rw [HN.out]; exact hk)) (Nat.le_of_not_lt (fun q_ => (O15.out.far (i := 0) rfl) (by rw [HN.out]; exact q_))) on_).mono ?_
              rintro e_ w16 ⟨rfl, oo_, kk_⟩
              obtain ⟨o_, k_⟩ := bb_ _ _ _ kk_ oo_
              refine ⟨_, rfl, ?_⟩
              have O16 : Aside0 (Own N w16 [RP gr (cat l0 x ++ a1) ((cat l0 (y + 1)).size : Int) 0, RM gm (cat l0 x ++ a1) ((cat l0 (y + 1)).size : Int) 0, cells gu #[.string (rd_T58 l0 y).f0, .int .i64 (rd_T58 l0 y).f1, .int .i64 (rd_T58 l0 y).f2, .string (rd_T58 l0 y).f3] 58]) := ⟨o_⟩
              have K16 : Aside0 (KeepS N w w16) := ⟨K15.out.trans k_⟩
              have HRJ_16 : Aside0 (Kd.F k58 w16 N (some ad) l0.length l0) := ⟨keepF HRJ_15.out k_⟩
              clear c15_0_0 f15_0_0 c15_0_1 f15_0_1 c15_0_2 f15_0_2 c15_1_0 f15_1_0 c15_1_1 f15_1_1 c15_1_2 f15_1_2 c15_2_0 f15_2_0 c15_2_1 f15_2_1 c15_2_2 f15_2_2 c15_2_3 f15_2_3 n15_0_1 n15_0_2 n15_1_0 n15_1_2 n15_2_0 n15_2_1 O15 K15 HRJ_15
              have c16_0_0 : w16.cell? ⟨gr, 0, none⟩ = some (.string (cat l0 x ++ a1)) := (blk_cell (O16.out.blk (i := 0) rfl) 0).trans rfl
              have f16_0_0 : w16.frozen? ⟨gr, 0, none⟩ = false := blk_frozen (O16.out.blk (i := 0) rfl) 0
              have c16_0_1 : w16.cell? ⟨gr, 1, none⟩ = some (.int .i64 ((cat l0 (y + 1)).size : Int)) := (blk_cell (O16.out.blk (i := 0) rfl) 1).trans rfl
              have f16_0_1 : w16.frozen? ⟨gr, 1, none⟩ = false := blk_frozen (O16.out.blk (i := 0) rfl) 1
              have c16_0_2 : w16.cell? ⟨gr, 2, none⟩ = some (.int .i64 0) := (blk_cell (O16.out.blk (i := 0) rfl) 2).trans rfl
              have f16_0_2 : w16.frozen? ⟨gr, 2, none⟩ = false := blk_frozen (O16.out.blk (i := 0) rfl) 2
              have c16_1_0 : w16.cell? ⟨gm, 0, none⟩ = some (.string (cat l0 x ++ a1)) := (blk_cell (O16.out.blk (i := 1) rfl) 0).trans rfl
              have f16_1_0 : w16.frozen? ⟨gm, 0, none⟩ = false := blk_frozen (O16.out.blk (i := 1) rfl) 0
              have c16_1_1 : w16.cell? ⟨gm, 1, none⟩ = some (.int .i64 ((cat l0 (y + 1)).size : Int)) := (blk_cell (O16.out.blk (i := 1) rfl) 1).trans rfl
              have f16_1_1 : w16.frozen? ⟨gm, 1, none⟩ = false := blk_frozen (O16.out.blk (i := 1) rfl) 1
              have c16_1_2 : w16.cell? ⟨gm, 2, none⟩ = some (.int .i64 0) := (blk_cell (O16.out.blk (i := 1) rfl) 2).trans rfl
              have f16_1_2 : w16.frozen? ⟨gm, 2, none⟩ = false := blk_frozen (O16.out.blk (i := 1) rfl) 2
              have c16_2_0 : w16.cell? ⟨gu, 0, none⟩ = some (.string (rd_T58 l0 y).f0) := (blk_cell (O16.out.blk (i := 2) rfl) 0).trans rfl
              have f16_2_0 : w16.frozen? ⟨gu, 0, none⟩ = false := blk_frozen (O16.out.blk (i := 2) rfl) 0
              have c16_2_1 : w16.cell? ⟨gu, 1, none⟩ = some (.int .i64 (rd_T58 l0 y).f1) := (blk_cell (O16.out.blk (i := 2) rfl) 1).trans rfl
              have f16_2_1 : w16.frozen? ⟨gu, 1, none⟩ = false := blk_frozen (O16.out.blk (i := 2) rfl) 1
              have c16_2_2 : w16.cell? ⟨gu, 2, none⟩ = some (.int .i64 (rd_T58 l0 y).f2) := (blk_cell (O16.out.blk (i := 2) rfl) 2).trans rfl
              have f16_2_2 : w16.frozen? ⟨gu, 2, none⟩ = false := blk_frozen (O16.out.blk (i := 2) rfl) 2
              have c16_2_3 : w16.cell? ⟨gu, 3, none⟩ = some (.string (rd_T58 l0 y).f3) := (blk_cell (O16.out.blk (i := 2) rfl) 3).trans rfl
              have f16_2_3 : w16.frozen? ⟨gu, 3, none⟩ = false := blk_frozen (O16.out.blk (i := 2) rfl) 3
              have n16_0_1 : gr ≠ gm := O16.out.ne (i := 0) (j := 1) rfl rfl (by decide)
              have n16_0_2 : gr ≠ gu := O16.out.ne (i := 0) (j := 2) rfl rfl (by decide)
              have n16_1_0 : gm ≠ gr := O16.out.ne (i := 1) (j := 0) rfl rfl (by decide)
              have n16_1_2 : gm ≠ gu := O16.out.ne (i := 1) (j := 2) rfl rfl (by decide)
              have n16_2_0 : gu ≠ gr := O16.out.ne (i := 2) (j := 0) rfl rfl (by decide)
              have n16_2_1 : gu ≠ gm := O16.out.ne (i := 2) (j := 1) rfl rfl (by decide)
              clear o_ k_ oo_ kk_ on_ nn_ rr_ bb_
              clear hHeld
              refine hK_.out _ _ ⟨((blk_cell (O16.out.blk (i := 1) rfl) 2).trans rfl), ((blk_cell (O16.out.blk (i := 2) rfl) 0).trans rfl), ((blk_cell (O16.out.blk (i := 2) rfl) 1).trans rfl), ((blk_cell (O16.out.blk (i := 2) rfl) 2).trans rfl), ((blk_cell (O16.out.blk (i := 2) rfl) 3).trans rfl), ((cellU HRJ_16.out y HY.out.1 HYL.out).1), ((cellU HRJ_16.out y HY.out.1 HYL.out).2.1), ((cellU HRJ_16.out y HY.out.1 HYL.out).2.2.1), ((cellU HRJ_16.out y HY.out.1 HYL.out).2.2.2)⟩ (fun hHeld => ?_)
              clear hK_ K_
              refine norm_ (a' := ?_) ?_ ?_
              rotate_left
              · simp only [Act.put, List.setIfInBounds_toArray, List.set_cons_zero, List.set_cons_succ, i64_w, i32_w]
                rfl
              refine pure_ (i := 24) (N := some 96) (v := ?_) (a' := ?_) #[true, true, true, true, true, true, true, true, true, true, true, true, true, true, true, true, true, true, true, true, true, true, true, true, true, false] rfl rfl (by kernel_rfl) (fun _ _ _ h => h) (Or.inl ⟨by rfl, ?_⟩) ?_ ?_
              rotate_left
              · intro w'
                go_simp
                with_reducible rfl
              rotate_left
              · simp only [Act.put, List.setIfInBounds_toArray, List.set_cons_zero, List.set_cons_succ, i64_w, i32_w]
                rfl
              refine pure_ (i := 25) (N := some 97) (v := ?_) (a' := ?_) #[true, true, true, true, true, true, true, true, true, true, true, true, true, true, true, true, true, true, true, true, true, true, true, true, true, true] rfl rfl (by kernel_rfl) (fun _ _ _ h => h) (Or.inl ⟨by rfl, ?_⟩) ?_ ?_
              rotate_left
              · intro w'
                go_simp
                with_reducible rfl
              rotate_left
              · simp only [Act.put, List.setIfInBounds_toArray, List.set_cons_zero, List.set_cons_succ, i64_w, i32_w]
                rfl
              refine done_ (by kernel_rfl) ?_
              clear hHeld
              go_wp2
              go_roundw
              case rel => exact ⟨y + 1, ((cat l0 (y + 1)).size : Int), 0, by have := HY.out; omega, by have := HY.out; omega, int_eqW (by unfold wrap64; have := HY.out; have := HX.out; have := HL20.out; omega), ⟨by omega, by have := HPL.out; have := str_at (l := l0) (n := x) a1 HY.out.1 HYX.out; have q_ := this.2.1; rw [cat_s l0 HY.out.1, ByteArray.size_append]; omega, fun _ => ⟨rfl, rfl⟩⟩, ⟨O16.out.pick2 (a := 0) (b := 1) rfl rfl (by decide)⟩, K16⟩
              case measure => have := HY.out; simp [intOf]; omega
            · have hd2 : decide (y < x) = false := decide_eq_false hyx
              obtain ⟨u0, u1, u2, u3, p2, e2, hq⟩ : ∃ u0 u1 u2 u3 p2 e2, outU (cat l0 x ++ a1) (readU (cat l0 x ++ a1) p e) = (u0, u1, u2, u3, cat l0 x ++ a1, p2, e2) := ⟨_, _, _, _, _, _, rfl⟩
              have HQ := Aside0.mk hq
              have HPL : Aside0 (0 ≤ p ∧ p ≤ (cat l0 x ++ a1).size) := ⟨HJ.out.1, HJ.out.2.1⟩
              have hp2 : p2 = (readU (cat l0 x ++ a1) p e).2.2.2.2.1 := by unfold outU at hq; injection hq with _ hq; injection hq with _ hq; injection hq with _ hq; injection hq with _ hq; injection hq with _ hq; injection hq with hq _; exact hq.symm
              have HP2 : Aside0 (0 ≤ p2 ∧ p2 ≤ (cat l0 x ++ a1).size) := ⟨by rw [hp2]; exact readU_place _ _ _ HPL.out.1 HPL.out.2⟩
              have HYX := Aside0.mk hyx
              clear hq hp2 hyx hy0 hy1 hxx hl20 hlt
              have O10 : Aside0 (Own N wr [RP gr (cat l0 x ++ a1) p e, RM gm (cat l0 x ++ a1) p e]) := ⟨OA2.out⟩
              have K10 : Aside0 (KeepS N w wr) := ⟨KA2.out⟩
              have c10_0_0 : wr.cell? ⟨gr, 0, none⟩ = some (.string (cat l0 x ++ a1)) := (blk_cell (O10.out.blk (i := 0) rfl) 0).trans rfl
              have f10_0_0 : wr.frozen? ⟨gr, 0, none⟩ = false := blk_frozen (O10.out.blk (i := 0) rfl) 0
              have c10_0_1 : wr.cell? ⟨gr, 1, none⟩ = some (.int .i64 p) := (blk_cell (O10.out.blk (i := 0) rfl) 1).trans rfl
              have f10_0_1 : wr.frozen? ⟨gr, 1, none⟩ = false := blk_frozen (O10.out.blk (i := 0) rfl) 1
              have c10_0_2 : wr.cell? ⟨gr, 2, none⟩ = some (.int .i64 e) := (blk_cell (O10.out.blk (i := 0) rfl) 2).trans rfl
              have f10_0_2 : wr.frozen? ⟨gr, 2, none⟩ = false := blk_frozen (O10.out.blk (i := 0) rfl) 2
              have c10_1_0 : wr.cell? ⟨gm, 0, none⟩ = some (.string (cat l0 x ++ a1)) := (blk_cell (O10.out.blk (i := 1) rfl) 0).trans rfl
              have f10_1_0 : wr.frozen? ⟨gm, 0, none⟩ = false := blk_frozen (O10.out.blk (i := 1) rfl) 0
              have c10_1_1 : wr.cell? ⟨gm, 1, none⟩ = some (.int .i64 p) := (blk_cell (O10.out.blk (i := 1) rfl) 1).trans rfl
              have f10_1_1 : wr.frozen? ⟨gm, 1, none⟩ = false := blk_frozen (O10.out.blk (i := 1) rfl) 1
              have c10_1_2 : wr.cell? ⟨gm, 2, none⟩ = some (.int .i64 e) := (blk_cell (O10.out.blk (i := 1) rfl) 2).trans rfl
              have f10_1_2 : wr.frozen? ⟨gm, 2, none⟩ = false := blk_frozen (O10.out.blk (i := 1) rfl) 2
              have n10_0_1 : gr ≠ gm := O10.out.ne (i := 0) (j := 1) rfl rfl (by decide)
              have n10_1_0 : gm ≠ gr := O10.out.ne (i := 1) (j := 0) rfl rfl (by decide)
              clear OA2 KA2
              go_wp2_with (first | ((with_reducible refine gate_callee (f := 44) rfl ?_); refine goesL_ (some 71) rfl rfl Tryd.func44 (by kernel_rfl) rfl #[.pointer (some ⟨gr, 0, none⟩)] rfl (by (try simp only [List.map_toArray, List.map_cons, List.map_nil]); first | done | rfl) ?_; obtain ⟨N_, on_, nn_, rr_, bb_⟩ := O10.out.frame1 (i := 0) rfl; refine (pUpd HT (K10.out.below (Nat.le_refl _) (fun k hk => by rw [HN.out]; exact hk)) (Nat.le_of_not_lt (fun q_ => (O10.out.far (i := 0) rfl) (by rw [HN.out]; exact q_))) HSS.out HPL.out.1 HPL.out.2 u0 u1 u2 u3 p2 e2 HQ.out on_).mono ?_; rintro e_ w11 ⟨rfl, oo_, kk_⟩; obtain ⟨o_, k_⟩ := bb_ _ _ _ kk_ oo_; refine ⟨_, rfl, ?_⟩; have O11 : Aside0 (Own N w11 [RP gr (cat l0 x ++ a1) p2 e2, RM gm (cat l0 x ++ a1) p e]) := ⟨o_⟩; have K11 : Aside0 (KeepS N w w11) := ⟨K10.out.trans k_⟩; clear c10_0_0 f10_0_0 c10_0_1 f10_0_1 c10_0_2 f10_0_2 c10_1_0 f10_1_0 c10_1_1 f10_1_1 c10_1_2 f10_1_2 n10_0_1 n10_1_0 O10 K10; have c11_0_0 : w11.cell? ⟨gr, 0, none⟩ = some (.string (cat l0 x ++ a1)) := (blk_cell (O11.out.blk (i := 0) rfl) 0).trans rfl; have f11_0_0 : w11.frozen? ⟨gr, 0, none⟩ = false := blk_frozen (O11.out.blk (i := 0) rfl) 0; have c11_0_1 : w11.cell? ⟨gr, 1, none⟩ = some (.int .i64 p2) := (blk_cell (O11.out.blk (i := 0) rfl) 1).trans rfl; have f11_0_1 : w11.frozen? ⟨gr, 1, none⟩ = false := blk_frozen (O11.out.blk (i := 0) rfl) 1; have c11_0_2 : w11.cell? ⟨gr, 2, none⟩ = some (.int .i64 e2) := (blk_cell (O11.out.blk (i := 0) rfl) 2).trans rfl; have f11_0_2 : w11.frozen? ⟨gr, 2, none⟩ = false := blk_frozen (O11.out.blk (i := 0) rfl) 2; have c11_1_0 : w11.cell? ⟨gm, 0, none⟩ = some (.string (cat l0 x ++ a1)) := (blk_cell (O11.out.blk (i := 1) rfl) 0).trans rfl; have f11_1_0 : w11.frozen? ⟨gm, 0, none⟩ = false := blk_frozen (O11.out.blk (i := 1) rfl) 0; have c11_1_1 : w11.cell? ⟨gm, 1, none⟩ = some (.int .i64 p) := (blk_cell (O11.out.blk (i := 1) rfl) 1).trans rfl; have f11_1_1 : w11.frozen? ⟨gm, 1, none⟩ = false := blk_frozen (O11.out.blk (i := 1) rfl) 1; have c11_1_2 : w11.cell? ⟨gm, 2, none⟩ = some (.int .i64 e) := (blk_cell (O11.out.blk (i := 1) rfl) 2).trans rfl; have f11_1_2 : w11.frozen? ⟨gm, 2, none⟩ = false := blk_frozen (O11.out.blk (i := 1) rfl) 2; have n11_0_1 : gr ≠ gm := O11.out.ne (i := 0) (j := 1) rfl rfl (by decide); have n11_1_0 : gm ≠ gr := O11.out.ne (i := 1) (j := 0) rfl rfl (by decide); clear o_ k_ oo_ kk_ on_ nn_ rr_ bb_) | ((with_reducible refine gate_dst (N := 14) rfl ?_); refine own_box rfl (D := 14) rfl (cs := #[.string (⟨#[]⟩ : ByteArray), .int .i64 0, .int .i64 0, .string (⟨#[]⟩ : ByteArray)]) (t := 58) ?hr O11.out ?_; (case hr => first | (go_simp; done) | (go_simp; rfl)); intro gu w12 o_ k_; have O12 : Aside0 (Own N w12 [RP gr (cat l0 x ++ a1) p2 e2, RM gm (cat l0 x ++ a1) p e, cells gu #[.string (⟨#[]⟩ : ByteArray), .int .i64 0, .int .i64 0, .string (⟨#[]⟩ : ByteArray)] 58]) := ⟨o_⟩; have K12 : Aside0 (KeepS N w w12) := ⟨K11.out.trans k_⟩; clear c11_0_0 f11_0_0 c11_0_1 f11_0_1 c11_0_2 f11_0_2 c11_1_0 f11_1_0 c11_1_1 f11_1_1 c11_1_2 f11_1_2 n11_0_1 n11_1_0 O11 K11; have c12_0_0 : w12.cell? ⟨gr, 0, none⟩ = some (.string (cat l0 x ++ a1)) := (blk_cell (O12.out.blk (i := 0) rfl) 0).trans rfl; have f12_0_0 : w12.frozen? ⟨gr, 0, none⟩ = false := blk_frozen (O12.out.blk (i := 0) rfl) 0; have c12_0_1 : w12.cell? ⟨gr, 1, none⟩ = some (.int .i64 p2) := (blk_cell (O12.out.blk (i := 0) rfl) 1).trans rfl; have f12_0_1 : w12.frozen? ⟨gr, 1, none⟩ = false := blk_frozen (O12.out.blk (i := 0) rfl) 1; have c12_0_2 : w12.cell? ⟨gr, 2, none⟩ = some (.int .i64 e2) := (blk_cell (O12.out.blk (i := 0) rfl) 2).trans rfl; have f12_0_2 : w12.frozen? ⟨gr, 2, none⟩ = false := blk_frozen (O12.out.blk (i := 0) rfl) 2; have c12_1_0 : w12.cell? ⟨gm, 0, none⟩ = some (.string (cat l0 x ++ a1)) := (blk_cell (O12.out.blk (i := 1) rfl) 0).trans rfl; have f12_1_0 : w12.frozen? ⟨gm, 0, none⟩ = false := blk_frozen (O12.out.blk (i := 1) rfl) 0; have c12_1_1 : w12.cell? ⟨gm, 1, none⟩ = some (.int .i64 p) := (blk_cell (O12.out.blk (i := 1) rfl) 1).trans rfl; have f12_1_1 : w12.frozen? ⟨gm, 1, none⟩ = false := blk_frozen (O12.out.blk (i := 1) rfl) 1; have c12_1_2 : w12.cell? ⟨gm, 2, none⟩ = some (.int .i64 e) := (blk_cell (O12.out.blk (i := 1) rfl) 2).trans rfl; have f12_1_2 : w12.frozen? ⟨gm, 2, none⟩ = false := blk_frozen (O12.out.blk (i := 1) rfl) 2; have c12_2_0 : w12.cell? ⟨gu, 0, none⟩ = some (.string (⟨#[]⟩ : ByteArray)) := (blk_cell (O12.out.blk (i := 2) rfl) 0).trans rfl; have f12_2_0 : w12.frozen? ⟨gu, 0, none⟩ = false := blk_frozen (O12.out.blk (i := 2) rfl) 0; have c12_2_1 : w12.cell? ⟨gu, 1, none⟩ = some (.int .i64 0) := (blk_cell (O12.out.blk (i := 2) rfl) 1).trans rfl; have f12_2_1 : w12.frozen? ⟨gu, 1, none⟩ = false := blk_frozen (O12.out.blk (i := 2) rfl) 1; have c12_2_2 : w12.cell? ⟨gu, 2, none⟩ = some (.int .i64 0) := (blk_cell (O12.out.blk (i := 2) rfl) 2).trans rfl; have f12_2_2 : w12.frozen? ⟨gu, 2, none⟩ = false := blk_frozen (O12.out.blk (i := 2) rfl) 2; have c12_2_3 : w12.cell? ⟨gu, 3, none⟩ = some (.string (⟨#[]⟩ : ByteArray)) := (blk_cell (O12.out.blk (i := 2) rfl) 3).trans rfl; have f12_2_3 : w12.frozen? ⟨gu, 3, none⟩ = false := blk_frozen (O12.out.blk (i := 2) rfl) 3; have n12_0_1 : gr ≠ gm := O12.out.ne (i := 0) (j := 1) rfl rfl (by decide); have n12_0_2 : gr ≠ gu := O12.out.ne (i := 0) (j := 2) rfl rfl (by decide); have n12_1_0 : gm ≠ gr := O12.out.ne (i := 1) (j := 0) rfl rfl (by decide); have n12_1_2 : gm ≠ gu := O12.out.ne (i := 1) (j := 2) rfl rfl (by decide); have n12_2_0 : gu ≠ gr := O12.out.ne (i := 2) (j := 0) rfl rfl (by decide); have n12_2_1 : gu ≠ gm := O12.out.ne (i := 2) (j := 1) rfl rfl (by decide); clear o_ k_) | ((with_reducible refine gate_store (t := 58) (p := 14) rfl ?_); refine own_store rfl rfl rfl (w1 := (World.setCell (World.setCell (World.setCell (World.setCell w12 ⟨gu, 0, none⟩ (.string u0)) ⟨gu, 1, none⟩ (.int .i64 u1)) ⟨gu, 2, none⟩ (.int .i64 u2)) ⟨gu, 3, none⟩ (.string u3))) (N := N) (l' := [RP gr (cat l0 x ++ a1) p2 e2, RM gm (cat l0 x ++ a1) p e, cells gu #[.string u0, .int .i64 u1, .int .i64 u2, .string u3] 58]) ?hr ?ho ?hk ?_; (case hr => first | (go_simp; done) | (go_simp; rfl)); (case ho => exact ((((O12.out.set (i := 2) rfl 0 (.string u0)).set (i := 2) rfl 1 (.int .i64 u1)).set (i := 2) rfl 2 (.int .i64 u2)).set (i := 2) rfl 3 (.string u3))); (case hk => exact ((((KeepS.setCell (O12.out.far (i := 2) rfl) (.string u0)).trans (KeepS.setCell (O12.out.far (i := 2) rfl) (.int .i64 u1))).trans (KeepS.setCell (O12.out.far (i := 2) rfl) (.int .i64 u2))).trans (KeepS.setCell (O12.out.far (i := 2) rfl) (.string u3)))); intro w13 o_ k_; have O13 : Aside0 (Own N w13 [RP gr (cat l0 x ++ a1) p2 e2, RM gm (cat l0 x ++ a1) p e, cells gu #[.string u0, .int .i64 u1, .int .i64 u2, .string u3] 58]) := ⟨o_⟩; have K13 : Aside0 (KeepS N w w13) := ⟨K12.out.trans k_⟩; clear c12_0_0 f12_0_0 c12_0_1 f12_0_1 c12_0_2 f12_0_2 c12_1_0 f12_1_0 c12_1_1 f12_1_1 c12_1_2 f12_1_2 c12_2_0 f12_2_0 c12_2_1 f12_2_1 c12_2_2 f12_2_2 c12_2_3 f12_2_3 n12_0_1 n12_0_2 n12_1_0 n12_1_2 n12_2_0 n12_2_1 O12 K12; have c13_0_0 : w13.cell? ⟨gr, 0, none⟩ = some (.string (cat l0 x ++ a1)) := (blk_cell (O13.out.blk (i := 0) rfl) 0).trans rfl; have f13_0_0 : w13.frozen? ⟨gr, 0, none⟩ = false := blk_frozen (O13.out.blk (i := 0) rfl) 0; have c13_0_1 : w13.cell? ⟨gr, 1, none⟩ = some (.int .i64 p2) := (blk_cell (O13.out.blk (i := 0) rfl) 1).trans rfl; have f13_0_1 : w13.frozen? ⟨gr, 1, none⟩ = false := blk_frozen (O13.out.blk (i := 0) rfl) 1; have c13_0_2 : w13.cell? ⟨gr, 2, none⟩ = some (.int .i64 e2) := (blk_cell (O13.out.blk (i := 0) rfl) 2).trans rfl; have f13_0_2 : w13.frozen? ⟨gr, 2, none⟩ = false := blk_frozen (O13.out.blk (i := 0) rfl) 2; have c13_1_0 : w13.cell? ⟨gm, 0, none⟩ = some (.string (cat l0 x ++ a1)) := (blk_cell (O13.out.blk (i := 1) rfl) 0).trans rfl; have f13_1_0 : w13.frozen? ⟨gm, 0, none⟩ = false := blk_frozen (O13.out.blk (i := 1) rfl) 0; have c13_1_1 : w13.cell? ⟨gm, 1, none⟩ = some (.int .i64 p) := (blk_cell (O13.out.blk (i := 1) rfl) 1).trans rfl; have f13_1_1 : w13.frozen? ⟨gm, 1, none⟩ = false := blk_frozen (O13.out.blk (i := 1) rfl) 1; have c13_1_2 : w13.cell? ⟨gm, 2, none⟩ = some (.int .i64 e) := (blk_cell (O13.out.blk (i := 1) rfl) 2).trans rfl; have f13_1_2 : w13.frozen? ⟨gm, 2, none⟩ = false := blk_frozen (O13.out.blk (i := 1) rfl) 2; have c13_2_0 : w13.cell? ⟨gu, 0, none⟩ = some (.string u0) := (blk_cell (O13.out.blk (i := 2) rfl) 0).trans rfl; have f13_2_0 : w13.frozen? ⟨gu, 0, none⟩ = false := blk_frozen (O13.out.blk (i := 2) rfl) 0; have c13_2_1 : w13.cell? ⟨gu, 1, none⟩ = some (.int .i64 u1) := (blk_cell (O13.out.blk (i := 2) rfl) 1).trans rfl; have f13_2_1 : w13.frozen? ⟨gu, 1, none⟩ = false := blk_frozen (O13.out.blk (i := 2) rfl) 1; have c13_2_2 : w13.cell? ⟨gu, 2, none⟩ = some (.int .i64 u2) := (blk_cell (O13.out.blk (i := 2) rfl) 2).trans rfl; have f13_2_2 : w13.frozen? ⟨gu, 2, none⟩ = false := blk_frozen (O13.out.blk (i := 2) rfl) 2; have c13_2_3 : w13.cell? ⟨gu, 3, none⟩ = some (.string u3) := (blk_cell (O13.out.blk (i := 2) rfl) 3).trans rfl; have f13_2_3 : w13.frozen? ⟨gu, 3, none⟩ = false := blk_frozen (O13.out.blk (i := 2) rfl) 3; have n13_0_1 : gr ≠ gm := O13.out.ne (i := 0) (j := 1) rfl rfl (by decide); have n13_0_2 : gr ≠ gu := O13.out.ne (i := 0) (j := 2) rfl rfl (by decide); have n13_1_0 : gm ≠ gr := O13.out.ne (i := 1) (j := 0) rfl rfl (by decide); have n13_1_2 : gm ≠ gu := O13.out.ne (i := 1) (j := 2) rfl rfl (by decide); have n13_2_0 : gu ≠ gr := O13.out.ne (i := 2) (j := 0) rfl rfl (by decide); have n13_2_1 : gu ≠ gm := O13.out.ne (i := 2) (j := 1) rfl rfl (by decide); clear o_ k_))
              refine start_ (n := 26) (S := fun w' => w'.cell? ⟨gu, 0, none⟩ = some (.string u0) ∧ w'.cell? ⟨gu, 1, none⟩ = some (.int .i64 u1) ∧ w'.cell? ⟨gu, 2, none⟩ = some (.int .i64 u2) ∧ w'.cell? ⟨gu, 3, none⟩ = some (.string u3)) (ds := []) #[false, false, false, false, false, false, false, false, false, false, false, false, false, false, false, false, false, false, false, false, false, false, false, false, false, false] (by kernel_rfl) rfl rfl ⟨((blk_cell (O13.out.blk (i := 2) rfl) 0).trans rfl), ((blk_cell (O13.out.blk (i := 2) rfl) 1).trans rfl), ((blk_cell (O13.out.blk (i := 2) rfl) 2).trans rfl), ((blk_cell (O13.out.blk (i := 2) rfl) 3).trans rfl)⟩ (fun hHeld => ?_)
              obtain ⟨w14, hw_⟩ : ∃ W, W = w13.drew := ⟨_, rfl⟩
              have o_ := O13.out.drew
              have k_ : KeepS N w13 w13.drew := KeepS.drew
              rw [← hw_] at o_ k_ hHeld ⊢
              clear hw_
              have O14 : Aside0 (Own N w14 [RP gr (cat l0 x ++ a1) p2 e2, RM gm (cat l0 x ++ a1) p e, cells gu #[.string u0, .int .i64 u1, .int .i64 u2, .string u3] 58]) := ⟨o_⟩
              have K14 : Aside0 (KeepS N w w14) := ⟨K13.out.trans k_⟩
              clear c13_0_0 f13_0_0 c13_0_1 f13_0_1 c13_0_2 f13_0_2 c13_1_0 f13_1_0 c13_1_1 f13_1_1 c13_1_2 f13_1_2 c13_2_0 f13_2_0 c13_2_1 f13_2_1 c13_2_2 f13_2_2 c13_2_3 f13_2_3 n13_0_1 n13_0_2 n13_1_0 n13_1_2 n13_2_0 n13_2_1 O13 K13
              have c14_0_0 : w14.cell? ⟨gr, 0, none⟩ = some (.string (cat l0 x ++ a1)) := (blk_cell (O14.out.blk (i := 0) rfl) 0).trans rfl
              have f14_0_0 : w14.frozen? ⟨gr, 0, none⟩ = false := blk_frozen (O14.out.blk (i := 0) rfl) 0
              have c14_0_1 : w14.cell? ⟨gr, 1, none⟩ = some (.int .i64 p2) := (blk_cell (O14.out.blk (i := 0) rfl) 1).trans rfl
              have f14_0_1 : w14.frozen? ⟨gr, 1, none⟩ = false := blk_frozen (O14.out.blk (i := 0) rfl) 1
              have c14_0_2 : w14.cell? ⟨gr, 2, none⟩ = some (.int .i64 e2) := (blk_cell (O14.out.blk (i := 0) rfl) 2).trans rfl
              have f14_0_2 : w14.frozen? ⟨gr, 2, none⟩ = false := blk_frozen (O14.out.blk (i := 0) rfl) 2
              have c14_1_0 : w14.cell? ⟨gm, 0, none⟩ = some (.string (cat l0 x ++ a1)) := (blk_cell (O14.out.blk (i := 1) rfl) 0).trans rfl
              have f14_1_0 : w14.frozen? ⟨gm, 0, none⟩ = false := blk_frozen (O14.out.blk (i := 1) rfl) 0
              have c14_1_1 : w14.cell? ⟨gm, 1, none⟩ = some (.int .i64 p) := (blk_cell (O14.out.blk (i := 1) rfl) 1).trans rfl
              have f14_1_1 : w14.frozen? ⟨gm, 1, none⟩ = false := blk_frozen (O14.out.blk (i := 1) rfl) 1
              have c14_1_2 : w14.cell? ⟨gm, 2, none⟩ = some (.int .i64 e) := (blk_cell (O14.out.blk (i := 1) rfl) 2).trans rfl
              have f14_1_2 : w14.frozen? ⟨gm, 2, none⟩ = false := blk_frozen (O14.out.blk (i := 1) rfl) 2
              have c14_2_0 : w14.cell? ⟨gu, 0, none⟩ = some (.string u0) := (blk_cell (O14.out.blk (i := 2) rfl) 0).trans rfl
              have f14_2_0 : w14.frozen? ⟨gu, 0, none⟩ = false := blk_frozen (O14.out.blk (i := 2) rfl) 0
              have c14_2_1 : w14.cell? ⟨gu, 1, none⟩ = some (.int .i64 u1) := (blk_cell (O14.out.blk (i := 2) rfl) 1).trans rfl
              have f14_2_1 : w14.frozen? ⟨gu, 1, none⟩ = false := blk_frozen (O14.out.blk (i := 2) rfl) 1
              have c14_2_2 : w14.cell? ⟨gu, 2, none⟩ = some (.int .i64 u2) := (blk_cell (O14.out.blk (i := 2) rfl) 2).trans rfl
              have f14_2_2 : w14.frozen? ⟨gu, 2, none⟩ = false := blk_frozen (O14.out.blk (i := 2) rfl) 2
              have c14_2_3 : w14.cell? ⟨gu, 3, none⟩ = some (.string u3) := (blk_cell (O14.out.blk (i := 2) rfl) 3).trans rfl
              have f14_2_3 : w14.frozen? ⟨gu, 3, none⟩ = false := blk_frozen (O14.out.blk (i := 2) rfl) 3
              have n14_0_1 : gr ≠ gm := O14.out.ne (i := 0) (j := 1) rfl rfl (by decide)
              have n14_0_2 : gr ≠ gu := O14.out.ne (i := 0) (j := 2) rfl rfl (by decide)
              have n14_1_0 : gm ≠ gr := O14.out.ne (i := 1) (j := 0) rfl rfl (by decide)
              have n14_1_2 : gm ≠ gu := O14.out.ne (i := 1) (j := 2) rfl rfl (by decide)
              have n14_2_0 : gu ≠ gr := O14.out.ne (i := 2) (j := 0) rfl rfl (by decide)
              have n14_2_1 : gu ≠ gm := O14.out.ne (i := 2) (j := 1) rfl rfl (by decide)
              clear o_ k_
              refine pure_ (i := 0) (N := some 72) (v := ?_) (a' := ?_) #[true, false, false, false, false, false, false, false, false, false, false, false, false, false, false, false, false, false, false, false, false, false, false, false, false, false] rfl rfl (by kernel_rfl) (fun _ _ _ h => h) (Or.inl ⟨by rfl, ?_⟩) ?_ ?_
              rotate_left
              · intro w'
                go_simp
                with_reducible rfl
              rotate_left
              · simp only [Act.put, List.setIfInBounds_toArray, List.set_cons_zero, List.set_cons_succ, i64_w, i32_w]
                rfl
              refine pure_ (i := 1) (N := some 73) (v := ?_) (a' := ?_) #[true, true, false, false, false, false, false, false, false, false, false, false, false, false, false, false, false, false, false, false, false, false, false, false, false, false] rfl rfl (by kernel_rfl) (fun _ _ _ h => h) (Or.inl ⟨by rfl, ?_⟩) ?_ ?_
              rotate_left
              · intro w'
                go_simp
                with_reducible rfl
              rotate_left
              · simp only [Act.put, List.setIfInBounds_toArray, List.set_cons_zero, List.set_cons_succ, i64_w, i32_w]
                rfl
              refine pure_ (i := 2) (N := some 74) (v := ?_) (a' := ?_) #[true, true, true, false, false, false, false, false, false, false, false, false, false, false, false, false, false, false, false, false, false, false, false, false, false, false] rfl rfl (by kernel_rfl) (fun _ _ _ h => h) (Or.inl ⟨by rfl, ?_⟩) ?_ ?_
              rotate_left
              · intro w'
                go_simp
                with_reducible rfl
              rotate_left
              · simp only [Act.put, List.setIfInBounds_toArray, List.set_cons_zero, List.set_cons_succ, i64_w, i32_w]
                rfl
              refine pure_ (i := 3) (N := some 75) (v := ?_) (a' := ?_) #[true, true, true, true, false, false, false, false, false, false, false, false, false, false, false, false, false, false, false, false, false, false, false, false, false, false] rfl rfl (by kernel_rfl) (fun _ _ _ h => h) (Or.inl ⟨by rfl, ?_⟩) ?_ ?_
              rotate_left
              · intro w'
                go_simp
                with_reducible rfl
              rotate_left
              · simp only [Act.put, List.setIfInBounds_toArray, List.set_cons_zero, List.set_cons_succ, i64_w, i32_w]
                rfl
              refine pure_ (i := 5) (N := some 77) (v := undef) (a' := ?_) #[true, true, true, true, false, true, false, false, false, false, false, false, false, false, false, false, false, false, false, false, false, false, false, false, false, false] rfl rfl (by kernel_rfl) (fun _ _ _ h => h) (Or.inr ⟨by rfl, rfl⟩) ?_ ?_
              rotate_left
              · simp only [Act.put, List.setIfInBounds_toArray, List.set_cons_zero, List.set_cons_succ, i64_w, i32_w]
                rfl
              refine pure_ (i := 6) (N := some 78) (v := undef) (a' := ?_) #[true, true, true, true, false, true, true, false, false, false, false, false, false, false, false, false, false, false, false, false, false, false, false, false, false, false] rfl rfl (by kernel_rfl) (fun _ _ _ h => h) (Or.inr ⟨by rfl, rfl⟩) ?_ ?_
              rotate_left
              · simp only [Act.put, List.setIfInBounds_toArray, List.set_cons_zero, List.set_cons_succ, i64_w, i32_w]
                rfl
              refine pure_ (i := 7) (N := some 79) (v := undef) (a' := ?_) #[true, true, true, true, false, true, true, true, false, false, false, false, false, false, false, false, false, false, false, false, false, false, false, false, false, false] rfl rfl (by kernel_rfl) (fun _ _ _ h => h) (Or.inr ⟨by rfl, rfl⟩) ?_ ?_
              rotate_left
              · simp only [Act.put, List.setIfInBounds_toArray, List.set_cons_zero, List.set_cons_succ, i64_w, i32_w]
                rfl
              refine take_ (i := 4) (N := some 76) (v := undef) (a' := ?_) #[true, true, true, true, true, true, true, true, false, false, false, false, false, false, false, false, false, false, false, false, false, false, false, false, false, false] rfl rfl (by kernel_rfl) (fun _ _ _ h => h) (Or.inr ⟨by rfl, rfl⟩) hHeld ?_ ?_
              rotate_left
              · simp only [Act.put, List.setIfInBounds_toArray, List.set_cons_zero, List.set_cons_succ, i64_w, i32_w]
                rfl
              refine take_ (i := 8) (N := some 80) (v := undef) (a' := ?_) #[true, true, true, true, true, true, true, true, true, false, false, false, false, false, false, false, false, false, false, false, false, false, false, false, false, false] rfl rfl (by kernel_rfl) (fun _ _ _ h => h) (Or.inr ⟨by rfl, rfl⟩) hHeld ?_ ?_
              rotate_left
              · simp only [Act.put, List.setIfInBounds_toArray, List.set_cons_zero, List.set_cons_succ, i64_w, i32_w]
                rfl
              refine pure_ (i := 9) (N := some 81) (v := undef) (a' := ?_) #[true, true, true, true, true, true, true, true, true, true, false, false, false, false, false, false, false, false, false, false, false, false, false, false, false, false] rfl rfl (by kernel_rfl) (fun _ _ _ h => h) (Or.inr ⟨by rfl, rfl⟩) ?_ ?_
              rotate_left
              · simp only [Act.put, List.setIfInBounds_toArray, List.set_cons_zero, List.set_cons_succ, i64_w, i32_w]
                rfl
              refine pure_ (i := 10) (N := some 82) (v := ?_) (a' := ?_) #[true, true, true, true, true, true, true, true, true, true, true, false, false, false, false, false, false, false, false, false, false, false, false, false, false, false] rfl rfl (by kernel_rfl) (fun _ _ _ h => h) (Or.inl ⟨by rfl, ?_⟩) ?_ ?_
              rotate_left
              · intro w'
                go_simp
                with_reducible rfl
              rotate_left
              · simp only [Act.put, List.setIfInBounds_toArray, List.set_cons_zero, List.set_cons_succ, i64_w, i32_w]
                rfl
              refine pure_ (i := 11) (N := some 83) (v := ?_) (a' := ?_) #[true, true, true, true, true, true, true, true, true, true, true, true, false, false, false, false, false, false, false, false, false, false, false, false, false, false] rfl rfl (by kernel_rfl) (fun _ _ _ h => h) (Or.inl ⟨by rfl, ?_⟩) ?_ ?_
              rotate_left
              · intro w'
                go_simp
                with_reducible rfl
              rotate_left
              · simp only [Act.put, List.setIfInBounds_toArray, List.set_cons_zero, List.set_cons_succ, i64_w, i32_w]
                rfl
              refine pure_ (i := 13) (N := some 85) (v := ?_) (a' := ?_) #[true, true, true, true, true, true, true, true, true, true, true, true, false, true, false, false, false, false, false, false, false, false, false, false, false, false] rfl rfl (by kernel_rfl) (fun _ _ _ h => h) (Or.inl ⟨by rfl, ?_⟩) ?_ ?_
              rotate_left
              · intro w'
                go_simp
                with_reducible rfl
              rotate_left
              · simp only [Act.put, List.setIfInBounds_toArray, List.set_cons_zero, List.set_cons_succ, i64_w, i32_w]
                rfl
              refine take_ (i := 12) (N := some 84) (v := ?_) (a' := ?_) #[true, true, true, true, true, true, true, true, true, true, true, true, true, true, false, false, false, false, false, false, false, false, false, false, false, false] rfl rfl (by kernel_rfl) (fun _ _ _ h => h) (Or.inl ⟨by rfl, ?_⟩) hHeld ?_ ?_
              rotate_left
              · rintro w' ⟨s0, s1, s2, s3⟩
                go_simp
                with_reducible rfl
              rotate_left
              · simp only [Act.put, List.setIfInBounds_toArray, List.set_cons_zero, List.set_cons_succ, i64_w, i32_w]
                rfl
              refine one_ (i := 14) (N := some 86) #[true, true, true, true, true, true, true, true, true, true, true, true, true, true, true, false, false, false, false, false, false, false, false, false, false, false] rfl rfl (by kernel_rfl) (by decide) (fun K_ hK_ => ?_)
              refine goes_ Tryd.func45 (by kernel_rfl) rfl #[.pointer (some ⟨gm, 0, none⟩)] (by rfl) rfl rfl (by (try simp only [List.map_toArray, List.map_cons, List.map_nil]); first | done | rfl) ?_
              obtain ⟨N_, on_, nn_, rr_, bb_⟩ := O14.out.frame1 (i := 1) rfl
              refine (rUpd (K14.out.below (Nat.le_refl _) (fun k hk => by rw [HN.out]; exact hk)) (Nat.le_of_not_lt (fun q_ => (O14.out.far (i := 1) rfl) (by rw [HN.out]; exact q_))) HSS.out HPL.out.1 HPL.out.2 u0 u1 u2 u3 p2 e2 HQ.out on_).mono ?_
              rintro e_ w15 ⟨rfl, oo_, kk_⟩
              obtain ⟨o_, k_⟩ := bb_ _ _ _ kk_ oo_
              refine ⟨_, rfl, ?_⟩
              have O15 : Aside0 (Own N w15 [RP gr (cat l0 x ++ a1) p2 e2, RM gm (cat l0 x ++ a1) p2 e2, cells gu #[.string u0, .int .i64 u1, .int .i64 u2, .string u3] 58]) := ⟨o_⟩
              have K15 : Aside0 (KeepS N w w15) := ⟨K14.out.trans k_⟩
              clear c14_0_0 f14_0_0 c14_0_1 f14_0_1 c14_0_2 f14_0_2 c14_1_0 f14_1_0 c14_1_1 f14_1_1 c14_1_2 f14_1_2 c14_2_0 f14_2_0 c14_2_1 f14_2_1 c14_2_2 f14_2_2 c14_2_3 f14_2_3 n14_0_1 n14_0_2 n14_1_0 n14_1_2 n14_2_0 n14_2_1 O14 K14
              have c15_0_0 : w15.cell? ⟨gr, 0, none⟩ = some (.string (cat l0 x ++ a1)) := (blk_cell (O15.out.blk (i := 0) rfl) 0).trans rfl
              have f15_0_0 : w15.frozen? ⟨gr, 0, none⟩ = false := blk_frozen (O15.out.blk (i := 0) rfl) 0
              have c15_0_1 : w15.cell? ⟨gr, 1, none⟩ = some (.int .i64 p2) := (blk_cell (O15.out.blk (i := 0) rfl) 1).trans rfl
              have f15_0_1 : w15.frozen? ⟨gr, 1, none⟩ = false := blk_frozen (O15.out.blk (i := 0) rfl) 1
              have c15_0_2 : w15.cell? ⟨gr, 2, none⟩ = some (.int .i64 e2) := (blk_cell (O15.out.blk (i := 0) rfl) 2).trans rfl
              have f15_0_2 : w15.frozen? ⟨gr, 2, none⟩ = false := blk_frozen (O15.out.blk (i := 0) rfl) 2
              have c15_1_0 : w15.cell? ⟨gm, 0, none⟩ = some (.string (cat l0 x ++ a1)) := (blk_cell (O15.out.blk (i := 1) rfl) 0).trans rfl
              have f15_1_0 : w15.frozen? ⟨gm, 0, none⟩ = false := blk_frozen (O15.out.blk (i := 1) rfl) 0
              have c15_1_1 : w15.cell? ⟨gm, 1, none⟩ = some (.int .i64 p2) := (blk_cell (O15.out.blk (i := 1) rfl) 1).trans rfl
              have f15_1_1 : w15.frozen? ⟨gm, 1, none⟩ = false := blk_frozen (O15.out.blk (i := 1) rfl) 1
              have c15_1_2 : w15.cell? ⟨gm, 2, none⟩ = some (.int .i64 e2) := (blk_cell (O15.out.blk (i := 1) rfl) 2).trans rfl
              have f15_1_2 : w15.frozen? ⟨gm, 2, none⟩ = false := blk_frozen (O15.out.blk (i := 1) rfl) 2
              have c15_2_0 : w15.cell? ⟨gu, 0, none⟩ = some (.string u0) := (blk_cell (O15.out.blk (i := 2) rfl) 0).trans rfl
              have f15_2_0 : w15.frozen? ⟨gu, 0, none⟩ = false := blk_frozen (O15.out.blk (i := 2) rfl) 0
              have c15_2_1 : w15.cell? ⟨gu, 1, none⟩ = some (.int .i64 u1) := (blk_cell (O15.out.blk (i := 2) rfl) 1).trans rfl
              have f15_2_1 : w15.frozen? ⟨gu, 1, none⟩ = false := blk_frozen (O15.out.blk (i := 2) rfl) 1
              have c15_2_2 : w15.cell? ⟨gu, 2, none⟩ = some (.int .i64 u2) := (blk_cell (O15.out.blk (i := 2) rfl) 2).trans rfl
              have f15_2_2 : w15.frozen? ⟨gu, 2, none⟩ = false := blk_frozen (O15.out.blk (i := 2) rfl) 2
              have c15_2_3 : w15.cell? ⟨gu, 3, none⟩ = some (.string u3) := (blk_cell (O15.out.blk (i := 2) rfl) 3).trans rfl
              have f15_2_3 : w15.frozen? ⟨gu, 3, none⟩ = false := blk_frozen (O15.out.blk (i := 2) rfl) 3
              have n15_0_1 : gr ≠ gm := O15.out.ne (i := 0) (j := 1) rfl rfl (by decide)
              have n15_0_2 : gr ≠ gu := O15.out.ne (i := 0) (j := 2) rfl rfl (by decide)
              have n15_1_0 : gm ≠ gr := O15.out.ne (i := 1) (j := 0) rfl rfl (by decide)
              have n15_1_2 : gm ≠ gu := O15.out.ne (i := 1) (j := 2) rfl rfl (by decide)
              have n15_2_0 : gu ≠ gr := O15.out.ne (i := 2) (j := 0) rfl rfl (by decide)
              have n15_2_1 : gu ≠ gm := O15.out.ne (i := 2) (j := 1) rfl rfl (by decide)
              clear o_ k_ oo_ kk_ on_ nn_ rr_ bb_
              clear hHeld
              refine hK_.out _ _ ⟨((blk_cell (O15.out.blk (i := 2) rfl) 0).trans rfl), ((blk_cell (O15.out.blk (i := 2) rfl) 1).trans rfl), ((blk_cell (O15.out.blk (i := 2) rfl) 2).trans rfl), ((blk_cell (O15.out.blk (i := 2) rfl) 3).trans rfl)⟩ (fun hHeld => ?_)
              clear hK_ K_
              refine norm_ (a' := ?_) ?_ ?_
              rotate_left
              · simp only [Act.put, List.setIfInBounds_toArray, List.set_cons_zero, List.set_cons_succ, i64_w, i32_w]
                rfl
              clear hHeld
              have hHeld : (fun w' : World => w'.cell? ⟨gm, 2, none⟩ = some (.int .i64 e2) ∧ w'.cell? ⟨gu, 0, none⟩ = some (.string u0) ∧ w'.cell? ⟨gu, 1, none⟩ = some (.int .i64 u1) ∧ w'.cell? ⟨gu, 2, none⟩ = some (.int .i64 u2) ∧ w'.cell? ⟨gu, 3, none⟩ = some (.string u3)) w15 := ⟨((blk_cell (O15.out.blk (i := 1) rfl) 2).trans rfl), ((blk_cell (O15.out.blk (i := 2) rfl) 0).trans rfl), ((blk_cell (O15.out.blk (i := 2) rfl) 1).trans rfl), ((blk_cell (O15.out.blk (i := 2) rfl) 2).trans rfl), ((blk_cell (O15.out.blk (i := 2) rfl) 3).trans rfl)⟩
              refine narrow_ (S2 := fun w' => w'.cell? ⟨gm, 2, none⟩ = some (.int .i64 e2) ∧ w'.cell? ⟨gu, 0, none⟩ = some (.string u0) ∧ w'.cell? ⟨gu, 1, none⟩ = some (.int .i64 u1) ∧ w'.cell? ⟨gu, 2, none⟩ = some (.int .i64 u2) ∧ w'.cell? ⟨gu, 3, none⟩ = some (.string u3)) (fun w_ h_ => h_.2) hHeld ?_
              simp only at hHeld
              refine pure_ (i := 15) (N := some 87) (v := ?_) (a' := ?_) #[true, true, true, true, true, true, true, true, true, true, true, true, true, true, true, true, false, false, false, false, false, false, false, false, false, false] rfl rfl (by kernel_rfl) (fun _ _ _ h => h) (Or.inl ⟨by rfl, ?_⟩) ?_ ?_
              rotate_left
              · intro w'
                go_simp
                with_reducible rfl
              rotate_left
              · simp only [Act.put, List.setIfInBounds_toArray, List.set_cons_zero, List.set_cons_succ, i64_w, i32_w]
                rfl
              refine pure_ (i := 16) (N := some 88) (v := ?_) (a' := ?_) #[true, true, true, true, true, true, true, true, true, true, true, true, true, true, true, true, true, false, false, false, false, false, false, false, false, false] rfl rfl (by kernel_rfl) (fun _ _ _ h => h) (Or.inl ⟨by rfl, ?_⟩) ?_ ?_
              rotate_left
              · intro w'
                go_simp
                with_reducible rfl
              rotate_left
              · simp only [Act.put, List.setIfInBounds_toArray, List.set_cons_zero, List.set_cons_succ, i64_w, i32_w]
                rfl
              refine pure_ (i := 17) (N := some 89) (v := ?_) (a' := ?_) #[true, true, true, true, true, true, true, true, true, true, true, true, true, true, true, true, true, true, false, false, false, false, false, false, false, false] rfl rfl (by kernel_rfl) (fun _ _ _ h => h) (Or.inl ⟨by rfl, ?_⟩) ?_ ?_
              rotate_left
              · intro w'
                go_simp
                with_reducible rfl
              rotate_left
              · simp only [Act.put, List.setIfInBounds_toArray, List.set_cons_zero, List.set_cons_succ, i64_w, i32_w]
                rfl
              refine pure_ (i := 18) (N := some 90) (v := ?_) (a' := ?_) #[true, true, true, true, true, true, true, true, true, true, true, true, true, true, true, true, true, true, true, false, false, false, false, false, false, false] rfl rfl (by kernel_rfl) (fun _ _ _ h => h) (Or.inl ⟨by rfl, ?_⟩) ?_ ?_
              rotate_left
              · intro w'
                go_simp
                with_reducible rfl
              rotate_left
              · simp only [Act.put, List.setIfInBounds_toArray, List.set_cons_zero, List.set_cons_succ, i64_w, i32_w]
                rfl
              refine pure_ (i := 20) (N := some 92) (v := ?_) (a' := ?_) #[true, true, true, true, true, true, true, true, true, true, true, true, true, true, true, true, true, true, true, false, true, false, false, false, false, false] rfl rfl (by kernel_rfl) (fun _ _ _ h => h) (Or.inl ⟨by rfl, ?_⟩) ?_ ?_
              rotate_left
              · intro w'
                go_simp
                with_reducible rfl
              rotate_left
              · simp only [Act.put, List.setIfInBounds_toArray, List.set_cons_zero, List.set_cons_succ, i64_w, i32_w]
                rfl
              refine pure_ (i := 21) (N := some 93) (v := ?_) (a' := ?_) #[true, true, true, true, true, true, true, true, true, true, true, true, true, true, true, true, true, true, true, false, true, true, false, false, false, false] rfl rfl (by kernel_rfl) (fun _ _ _ h => h) (Or.inl ⟨by rfl, ?_⟩) ?_ ?_
              rotate_left
              · intro w'
                go_simp
                with_reducible rfl
              rotate_left
              · simp only [Act.put, List.setIfInBounds_toArray, List.set_cons_zero, List.set_cons_succ, i64_w, i32_w]
                rfl
              refine pure_ (i := 22) (N := some 94) (v := ?_) (a' := ?_) #[true, true, true, true, true, true, true, true, true, true, true, true, true, true, true, true, true, true, true, false, true, true, true, false, false, false] rfl rfl (by kernel_rfl) (fun _ _ _ h => h) (Or.inl ⟨by rfl, ?_⟩) ?_ ?_
              rotate_left
              · intro w'
                go_simp
                with_reducible rfl
              rotate_left
              · simp only [Act.put, List.setIfInBounds_toArray, List.set_cons_zero, List.set_cons_succ, i64_w, i32_w]
                rfl
              refine take_ (i := 23) (N := some 95) (v := ?_) (a' := ?_) #[true, true, true, true, true, true, true, true, true, true, true, true, true, true, true, true, true, true, true, false, true, true, true, true, false, false] rfl rfl (by kernel_rfl) (fun _ _ _ h => h) (Or.inl ⟨by rfl, ?_⟩) hHeld ?_ ?_
              rotate_left
              · rintro w' ⟨s0, s1, s2, s3, s4⟩
                go_simp
                with_reducible rfl
              rotate_left
              · simp only [Act.put, List.setIfInBounds_toArray, List.set_cons_zero, List.set_cons_succ, i64_w, i32_w]
                rfl
              refine one_ (i := 19) (N := some 91) #[true, true, true, true, true, true, true, true, true, true, true, true, true, true, true, true, true, true, true, true, true, true, true, true, false, false] rfl rfl (by kernel_rfl) (by decide) (fun K_ hK_ => ?_)
              refine goes_ Tryd.func22 (by kernel_rfl) rfl #[.pointer (some ⟨gr, 0, none⟩)] (by rfl) rfl rfl (by (try simp only [List.map_toArray, List.map_cons, List.map_nil]); first | done | rfl) ?_
              obtain ⟨N_, on_, nn_, rr_, bb_⟩ := O15.out.frame1 (i := 0) rfl
              refine (pErr (K15.out.below (Nat.le_refl _) (fun k hk => by rw [HN.out]; exact hk)) (Nat.le_of_not_lt (fun q_ => (O15.out.far (i := 0) rfl) (by rw [HN.out]; exact q_))) on_).mono ?_
              rintro e_ w16 ⟨rfl, oo_, kk_⟩
              obtain ⟨o_, k_⟩ := bb_ _ _ _ kk_ oo_
              refine ⟨_, rfl, ?_⟩
              have O16 : Aside0 (Own N w16 [RP gr (cat l0 x ++ a1) p2 e2, RM gm (cat l0 x ++ a1) p2 e2, cells gu #[.string u0, .int .i64 u1, .int .i64 u2, .string u3] 58]) := ⟨o_⟩
              have K16 : Aside0 (KeepS N w w16) := ⟨K15.out.trans k_⟩
              clear c15_0_0 f15_0_0 c15_0_1 f15_0_1 c15_0_2 f15_0_2 c15_1_0 f15_1_0 c15_1_1 f15_1_1 c15_1_2 f15_1_2 c15_2_0 f15_2_0 c15_2_1 f15_2_1 c15_2_2 f15_2_2 c15_2_3 f15_2_3 n15_0_1 n15_0_2 n15_1_0 n15_1_2 n15_2_0 n15_2_1 O15 K15
              have c16_0_0 : w16.cell? ⟨gr, 0, none⟩ = some (.string (cat l0 x ++ a1)) := (blk_cell (O16.out.blk (i := 0) rfl) 0).trans rfl
              have f16_0_0 : w16.frozen? ⟨gr, 0, none⟩ = false := blk_frozen (O16.out.blk (i := 0) rfl) 0
              have c16_0_1 : w16.cell? ⟨gr, 1, none⟩ = some (.int .i64 p2) := (blk_cell (O16.out.blk (i := 0) rfl) 1).trans rfl
              have f16_0_1 : w16.frozen? ⟨gr, 1, none⟩ = false := blk_frozen (O16.out.blk (i := 0) rfl) 1
              have c16_0_2 : w16.cell? ⟨gr, 2, none⟩ = some (.int .i64 e2) := (blk_cell (O16.out.blk (i := 0) rfl) 2).trans rfl
              have f16_0_2 : w16.frozen? ⟨gr, 2, none⟩ = false := blk_frozen (O16.out.blk (i := 0) rfl) 2
              have c16_1_0 : w16.cell? ⟨gm, 0, none⟩ = some (.string (cat l0 x ++ a1)) := (blk_cell (O16.out.blk (i := 1) rfl) 0).trans rfl
              have f16_1_0 : w16.frozen? ⟨gm, 0, none⟩ = false := blk_frozen (O16.out.blk (i := 1) rfl) 0
              have c16_1_1 : w16.cell? ⟨gm, 1, none⟩ = some (.int .i64 p2) := (blk_cell (O16.out.blk (i := 1) rfl) 1).trans rfl
              have f16_1_1 : w16.frozen? ⟨gm, 1, none⟩ = false := blk_frozen (O16.out.blk (i := 1) rfl) 1
              have c16_1_2 : w16.cell? ⟨gm, 2, none⟩ = some (.int .i64 e2) := (blk_cell (O16.out.blk (i := 1) rfl) 2).trans rfl
              have f16_1_2 : w16.frozen? ⟨gm, 2, none⟩ = false := blk_frozen (O16.out.blk (i := 1) rfl) 2
              have c16_2_0 : w16.cell? ⟨gu, 0, none⟩ = some (.string u0) := (blk_cell (O16.out.blk (i := 2) rfl) 0).trans rfl
              have f16_2_0 : w16.frozen? ⟨gu, 0, none⟩ = false := blk_frozen (O16.out.blk (i := 2) rfl) 0
              have c16_2_1 : w16.cell? ⟨gu, 1, none⟩ = some (.int .i64 u1) := (blk_cell (O16.out.blk (i := 2) rfl) 1).trans rfl
              have f16_2_1 : w16.frozen? ⟨gu, 1, none⟩ = false := blk_frozen (O16.out.blk (i := 2) rfl) 1
              have c16_2_2 : w16.cell? ⟨gu, 2, none⟩ = some (.int .i64 u2) := (blk_cell (O16.out.blk (i := 2) rfl) 2).trans rfl
              have f16_2_2 : w16.frozen? ⟨gu, 2, none⟩ = false := blk_frozen (O16.out.blk (i := 2) rfl) 2
              have c16_2_3 : w16.cell? ⟨gu, 3, none⟩ = some (.string u3) := (blk_cell (O16.out.blk (i := 2) rfl) 3).trans rfl
              have f16_2_3 : w16.frozen? ⟨gu, 3, none⟩ = false := blk_frozen (O16.out.blk (i := 2) rfl) 3
              have n16_0_1 : gr ≠ gm := O16.out.ne (i := 0) (j := 1) rfl rfl (by decide)
              have n16_0_2 : gr ≠ gu := O16.out.ne (i := 0) (j := 2) rfl rfl (by decide)
              have n16_1_0 : gm ≠ gr := O16.out.ne (i := 1) (j := 0) rfl rfl (by decide)
              have n16_1_2 : gm ≠ gu := O16.out.ne (i := 1) (j := 2) rfl rfl (by decide)
              have n16_2_0 : gu ≠ gr := O16.out.ne (i := 2) (j := 0) rfl rfl (by decide)
              have n16_2_1 : gu ≠ gm := O16.out.ne (i := 2) (j := 1) rfl rfl (by decide)
              clear o_ k_ oo_ kk_ on_ nn_ rr_ bb_
              clear hHeld
              refine hK_.out _ _ ⟨((blk_cell (O16.out.blk (i := 1) rfl) 2).trans rfl), ((blk_cell (O16.out.blk (i := 2) rfl) 0).trans rfl), ((blk_cell (O16.out.blk (i := 2) rfl) 1).trans rfl), ((blk_cell (O16.out.blk (i := 2) rfl) 2).trans rfl), ((blk_cell (O16.out.blk (i := 2) rfl) 3).trans rfl)⟩ (fun hHeld => ?_)
              clear hK_ K_
              refine norm_ (a' := ?_) ?_ ?_
              rotate_left
              · simp only [Act.put, List.setIfInBounds_toArray, List.set_cons_zero, List.set_cons_succ, i64_w, i32_w]
                rfl
              refine pure_ (i := 24) (N := some 96) (v := ?_) (a' := ?_) #[true, true, true, true, true, true, true, true, true, true, true, true, true, true, true, true, true, true, true, true, true, true, true, true, true, false] rfl rfl (by kernel_rfl) (fun _ _ _ h => h) (Or.inl ⟨by rfl, ?_⟩) ?_ ?_
              rotate_left
              · intro w'
                go_simp
                with_reducible rfl
              rotate_left
              · simp only [Act.put, List.setIfInBounds_toArray, List.set_cons_zero, List.set_cons_succ, i64_w, i32_w]
                rfl
              refine pure_ (i := 25) (N := some 97) (v := ?_) (a' := ?_) #[true, true, true, true, true, true, true, true, true, true, true, true, true, true, true, true, true, true, true, true, true, true, true, true, true, true] rfl rfl (by kernel_rfl) (fun _ _ _ h => h) (Or.inl ⟨by rfl, ?_⟩) ?_ ?_
              rotate_left
              · intro w'
                go_simp
                with_reducible rfl
              rotate_left
              · simp only [Act.put, List.setIfInBounds_toArray, List.set_cons_zero, List.set_cons_succ, i64_w, i32_w]
                rfl
              refine done_ (by kernel_rfl) ?_
              clear hHeld
              go_wp2
              go_roundw
              case rel => exact ⟨y + 1, p2, e2, by have := HY.out; omega, by have := HY.out; omega, int_eqW (by unfold wrap64; have := HY.out; have := HX.out; have := HL20.out; omega), ⟨HP2.out.1, HP2.out.2, fun q_ => by have := HYX.out; omega⟩, ⟨O16.out.pick2 (a := 0) (b := 1) rfl rfl (by decide)⟩, K16⟩
              case measure => have := HY.out; simp [intOf]; omega
          · have hd : decide (y < wrap64 (x + 3)) = false := by rw [HS3.out]; exact decide_eq_false hlt
            clear hlt hy0 hy1 hxx hl20
            have O10 : Aside0 (Own N wr [RP gr (cat l0 x ++ a1) p e, RM gm (cat l0 x ++ a1) p e]) := ⟨OA2.out⟩
            have K10 : Aside0 (KeepS N w wr) := ⟨KA2.out⟩
            clear OA2 KA2
            go_wp2_with (first | ((with_reducible refine gate_callee (f := 21) rfl ?_); refine goesL_ (some 100) rfl rfl Tryd.func21 (by kernel_rfl) rfl #[.pointer (some ⟨gr, 0, none⟩)] rfl (by (try simp only [List.map_toArray, List.map_cons, List.map_nil]); first | done | rfl) ?_; obtain ⟨N_, on_, nn_, rr_, bb_⟩ := O10.out.frame1 (i := 0) rfl; refine (pEnd (K10.out.below (Nat.le_refl _) (fun k hk => by rw [HN.out]; exact hk)) (Nat.le_of_not_lt (fun q_ => (O10.out.far (i := 0) rfl) (by rw [HN.out]; exact q_))) on_).mono ?_; rintro e_ w11 ⟨rfl, oo_, kk_⟩; obtain ⟨o_, k_⟩ := bb_ _ _ _ kk_ oo_; refine ⟨_, rfl, ?_⟩; have O11 : Aside0 (Own N w11 [RP gr (cat l0 x ++ a1) p (endR (cat l0 x ++ a1) p e), RM gm (cat l0 x ++ a1) p e]) := ⟨o_⟩; have K11 : Aside0 (KeepS N w w11) := ⟨K10.out.trans k_⟩; clear O10 K10; clear o_ k_ oo_ kk_ on_ nn_ rr_ bb_) | ((with_reducible refine gate_callee (f := 30) rfl ?_); refine goesL_ (some 102) rfl rfl Tryd.func30 (by kernel_rfl) rfl #[.pointer (some ⟨gm, 0, none⟩)] rfl (by (try simp only [List.map_toArray, List.map_cons, List.map_nil]); first | done | rfl) ?_; obtain ⟨N_, on_, nn_, rr_, bb_⟩ := O11.out.frame1 (i := 1) rfl; refine (rEnd (K11.out.below (Nat.le_refl _) (fun k hk => by rw [HN.out]; exact hk)) (Nat.le_of_not_lt (fun q_ => (O11.out.far (i := 1) rfl) (by rw [HN.out]; exact q_))) on_).mono ?_; rintro e_ w12 ⟨rfl, oo_, kk_⟩; obtain ⟨o_, k_⟩ := bb_ _ _ _ kk_ oo_; refine ⟨_, rfl, ?_⟩; have O12 : Aside0 (Own N w12 [RP gr (cat l0 x ++ a1) p (endR (cat l0 x ++ a1) p e), RM gm (cat l0 x ++ a1) p (endR (cat l0 x ++ a1) p e)]) := ⟨o_⟩; have K12 : Aside0 (KeepS N w w12) := ⟨K11.out.trans k_⟩; clear O11 K11; clear o_ k_ oo_ kk_ on_ nn_ rr_ bb_))
            go_ret
            exact ⟨by first | rfl | simp, (K12.out.below (Nat.le_refl _) (fun k hk => by rw [HN.out]; exact hk))⟩
end Go.Proofs.YtfbdfnclkchofaaDoor.J
