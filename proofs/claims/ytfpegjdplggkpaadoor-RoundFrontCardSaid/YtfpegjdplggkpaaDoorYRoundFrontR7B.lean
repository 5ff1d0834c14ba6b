/- Reading what a round's bytes are: whole, in the other direction, cut off, and with more behind. -/
import Derived.Test.YtfpegjdplggkpaaDoorYRoundFrontR7A
import Derived.Test.YtfpegjdplggkpaaDoorYRoundFrontUB
namespace Go.Proofs.YtfpegjdplggkpaaDoor.Pure
set_option linter.unusedSimpArgs false
set_option linter.unusedVariables false
open Go Go.RowKit Go.Proofs.YtfpegjdplggkpaaDoorW.PrintWords Go.Proofs.YtfpegjdplggkpaaDoorW.PrintLast Go.Proofs.YtfpegjdplggkpaaDoorW.PrintMore Go.Proofs.YtfpegjdplggkpaaDoor.Q
theorem cap64 : capR 64 = 64 := by decide
theorem cap40 : capR 1099511627776 = 1099511627776 := by decide
theorem headR_str {b : ByteArray} {p n l : Int} (h0 : 1 ≤ n) (hl : n ≤ capR l) (h : Str b p (enc n)) : headR b p l = (n, p + (enc n).size, 0) := by
  unfold headR
  rw [numR_str (by omega) hl h]
  simp only
  rw [if_pos trivial, if_neg (by omega)]
theorem headR_cut {b : ByteArray} {p n l : Int} (h0 : 0 ≤ n) (h1 : n < 4611686018427387904) (h : Cut b p (enc n)) : headR b p l = (0, p, 2) := by
  unfold headR
  rw [numR_cut h0 h1 h]
  simp only
  rw [if_neg (by decide)]
theorem upsR_str {b : ByteArray} : ∀ (l : List Upd) (p : Int), (∀ z ∈ l, mayU z = 0) → 0 ≤ p → p ≤ b.size → Str b p (catB l) → upsR b l.length p = (l, p + (catB l).size, 0)
  | [], p, _, h0, h1, _ => by
    show (([] : List Upd), p, (0 : Int)) = ([], p + ((0 : Nat) : Int), 0)
    rw [Int.natCast_zero, Int.add_zero]
  | z :: r, p, hm, h0, h1, hs => by
    have hs' : Str b p (bytesU z.f0 z.f1 z.f2 z.f3 ++ catB r) := hs
    have hr := readU_str (hm z (by simp)) hs'.left
    have hz := hs'.right
    have ih := upsR_str r _ (fun y hy => hm y (by simp [hy])) (by have := hz.1; exact this) (by have := hz.2.1; omega) hz
    show (if (readU b p 0).2.2.2.2.2 = 0 then _ else _) = _
    rw [hr]
    simp only
    rw [if_pos trivial, ih]
    have e : (catB (z :: r)).size = (bytesU z.f0 z.f1 z.f2 z.f3).size + (catB r).size := ByteArray.size_append
    unfold updR
    rw [hr, e]
    simp only [Int.natCast_add, Int.add_assoc]
theorem upsR_ok {b : ByteArray} {n : Nat} {p : Int} (he : (readU b p 0).2.2.2.2.2 = 0) : upsR b (n + 1) p = (updR b p :: (upsR b n (readU b p 0).2.2.2.2.1).1, (upsR b n (readU b p 0).2.2.2.2.1).2) := by
  show (if _ then _ else _) = _
  rw [if_pos he]
theorem upsR_bad {b : ByteArray} {n : Nat} {p : Int} (he : (readU b p 0).2.2.2.2.2 ≠ 0) : upsR b (n + 1) p = ([], (readU b p 0).2.2.2.2.1, (readU b p 0).2.2.2.2.2) := by
  show (if _ then _ else _) = _
  rw [if_neg he]
theorem upsR_cut {b : ByteArray} : ∀ (l : List Upd) (p : Int), (∀ z ∈ l, mayU z = 0) → Cut b p (catB l) → ∃ q, (upsR b l.length p).2 = (q, 2)
  | [], p, _, h => by
    obtain ⟨a, c, d, _⟩ := h
    have d' : (b.size : Int) < p + ((0 : Nat) : Int) := d
    omega
  | z :: r, p, hm, h => by
    have h' : Cut b p (bytesU z.f0 z.f1 z.f2 z.f3 ++ catB r) := h
    rcases h'.split with h2 | ⟨g, h2⟩
    · obtain ⟨q, hq⟩ := readU_cut (hm z (by simp)) h2
      refine ⟨q, ?_⟩
      show (upsR b (r.length + 1) p).2 = _
      rw [upsR_bad (by rw [hq]; exact (show (2 : Int) ≠ 0 by decide)), hq]
      rfl
    · have hr := readU_str (hm z (by simp)) g
      obtain ⟨q, hq⟩ := upsR_cut r _ (fun y hy => hm y (by simp [hy])) h2
      refine ⟨q, ?_⟩
      show (upsR b (r.length + 1) p).2 = _
      rw [upsR_ok (by rw [hr]), hr]
      exact hq
theorem headB_eq (o n m : Int) : headB o n m = enc o ++ enc n ++ enc m := rfl
theorem head3 {b : ByteArray} {o n m : Int} (h1 : 1 ≤ o) (h2 : o ≤ 64) (h3 : 1 ≤ n) (h4 : n ≤ 1099511627776) (h5 : 1 ≤ m) (h6 : m ≤ 8) (h : Str b 0 (headB o n m)) :
    getR b = getR3 b o n (upsR b m.toNat (headB o n m).size) := by
  rw [headB_eq] at h ⊢
  unfold getR
  rw [headR_str h1 (by rw [cap64]; exact h2) h.left.left]
  simp only
  rw [if_neg (fun h => h rfl)]
  unfold getR1
  rw [headR_str h3 (by rw [cap40]; exact h4) h.left.right]
  simp only
  rw [if_neg (fun h => h rfl)]
  unfold getR2
  have hr := h.right
  rw [ByteArray.size_append, show (0 : Int) + (((enc o).size + (enc n).size : Nat) : Int) = 0 + (enc o).size + (enc n).size by omega] at hr
  rw [headR_str h5 (by rw [cap8]; exact h6) hr]
  simp only
  rw [if_neg (fun h => h rfl), show (0 : Int) + (enc o).size + (enc n).size + (enc m).size = ((enc o ++ enc n ++ enc m).size : Int) by rw [ByteArray.size_append, ByteArray.size_append]; omega]
theorem getR_more {o n : Int} {l : List Upd} (hm : mayR o n l = 0) (more : ByteArray) : getR (bytesR o n l ++ more) = if more.size = 0 then (o, n, l, 0) else noR 4 := by
  obtain ⟨h1, h2, h3, h4, h5, h6, h7⟩ := mayR_zero hm
  have hw := Str.whole (bytesR o n l ++ more)
  have hb : Str (bytesR o n l ++ more) 0 (headB o n l.length ++ catB l) := hw.left
  rw [head3 h1 h2 h3 h4 (by omega) (by omega) hb.left, Int.toNat_natCast]
  have hr := hb.right
  rw [Int.zero_add] at hr
  have hz : ((bytesR o n l ++ more).size : Int) = (headB o n l.length).size + (catB l).size + more.size := by
    unfold bytesR
    rw [ByteArray.size_append, ByteArray.size_append]
    omega
  rw [upsR_str l _ h7 (by omega) (by omega) hr]
  unfold getR3
  simp only
  rw [if_neg (fun h => h rfl)]
  unfold endR
  rw [if_pos rfl]
  by_cases hs : more.size = 0
  · rw [if_pos hs, if_neg (show ¬ ((headB o n l.length).size : Int) + (catB l).size < ((bytesR o n l ++ more).size : Int) by omega), if_neg (fun h => h rfl)]
  · rw [if_neg hs, if_pos (show ((headB o n l.length).size : Int) + (catB l).size < ((bytesR o n l ++ more).size : Int) by omega), if_pos (by decide)]
theorem getR_cut {o n : Int} {l : List Upd} (hm : mayR o n l = 0) {cut : Nat} (hc : cut < (bytesR o n l).size) : getR ((bytesR o n l).extract 0 cut) = noR 2 := by
  obtain ⟨h1, h2, h3, h4, h5, h6, h7⟩ := mayR_zero hm
  have h : Cut ((bytesR o n l).extract 0 cut) 0 (headB o n l.length ++ catB l) := cut_of (bytesR o n l) cut hc
  generalize (bytesR o n l).extract 0 cut = b at h ⊢
  have two : (2 : Int) ≠ 0 := by decide
  rcases h.split with h | ⟨g, h⟩
  · rw [headB_eq] at h
    unfold getR
    rcases h.split with h | ⟨g, h⟩
    · rcases h.split with h | ⟨g, h⟩
      · rw [headR_cut (by omega) (by omega) h]
        exact if_pos two
      · rw [headR_str h1 (by rw [cap64]; exact h2) g]
        simp only
        rw [if_neg (fun h => h rfl)]
        unfold getR1
        rw [headR_cut (by omega) (by omega) h]
        exact if_pos two
    · rw [headR_str h1 (by rw [cap64]; exact h2) g.left]
      simp only
      rw [if_neg (fun h => h rfl)]
      unfold getR1
      rw [headR_str h3 (by rw [cap40]; exact h4) g.right]
      simp only
      rw [if_neg (fun h => h rfl)]
      unfold getR2
      rw [ByteArray.size_append, show (0 : Int) + (((enc o).size + (enc n).size : Nat) : Int) = 0 + (enc o).size + (enc n).size by omega] at h
      rw [headR_cut (by omega) (by omega) h]
      exact if_pos two
  · rw [head3 h1 h2 h3 h4 (by omega) (by omega) g, Int.toNat_natCast]
    rw [Int.zero_add] at h
    obtain ⟨q, hq⟩ := upsR_cut l _ h7 h
    unfold getR3
    rw [hq]
    exact if_pos two
end Go.Proofs.YtfpegjdplggkpaaDoor.Pure
