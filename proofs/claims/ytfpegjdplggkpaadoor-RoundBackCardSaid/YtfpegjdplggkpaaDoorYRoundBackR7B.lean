/- Reading what a round's bytes are: whole, in the other direction, cut off, and with more behind. -/
import Derived.Test.YtfpegjdplggkpaaDoorYRoundBackStr
import Derived.Test.YtfpegjdplggkpaaDoorYRoundBackUA
import Derived.Test.YtfpegjdplggkpaaDoorYRoundBackRU
import Derived.Test.YtfpegjdplggkpaaDoorYRoundBackR7A
namespace Go.Proofs.YtfpegjdplggkpaaDoor.Pure
set_option linter.unusedSimpArgs false
set_option linter.unusedVariables false
open Go Go.RowKit Go.Proofs.YtfpegjdplggkpaaDoorW.PrintWords Go.Proofs.YtfpegjdplggkpaaDoorW.PrintLast Go.Proofs.YtfpegjdplggkpaaDoorW.PrintMore Go.Proofs.YtfpegjdplggkpaaDoor.Q
theorem cap5 : capR 5 = 5 := by decide
theorem cap16 : capR 16 = 16 := by decide
theorem cap32 : capR 32 = 32 := by decide
theorem not_nil {s : ByteArray} (h : 1 ≤ s.size) : ¬ s.toList = [] := fun e => by have := (nil_size s).1 e; omega
theorem nil_of {s : ByteArray} (h : s.size = 0) : s = nil' := by apply ByteArray.ext; apply Array.ext'; exact List.eq_nil_of_length_eq_zero (by simpa using h)
def restU (c n : Int) (s : ByteArray) : ByteArray := if c = 1 ∨ c = 3 then enc (zz n) else if c = 2 ∨ c = 4 then Wr.txtP s else nil'
theorem bytesU_eq (k : ByteArray) (c n : Int) (s : ByteArray) : bytesU k c n s = (enc c ++ Wr.txtP k) ++ restU c n s := rfl
theorem readU_str {b k s : ByteArray} {p c n : Int} (hm : may k c n s = 0) (h : Str b p (bytesU k c n s)) : readU b p 0 = (k, c, n, s, p + (bytesU k c n s).size, 0) := by
  obtain ⟨m1, m2, m3, m4, m5, m6, m7⟩ := may_zero hm
  rw [bytesU_eq] at h ⊢
  have hc := numR_str (l := 5) (n := c) (by omega) (by rw [cap5]; omega) h.left.left
  have hk := txtR_str (l := 16) (s := k) (by rw [cap16]; omega) h.left.right
  have hr := h.right
  unfold readU
  rw [hc]
  simp only
  rw [if_pos trivial, if_neg (by omega)]
  unfold keyU
  rw [hk]
  simp only
  rw [if_pos trivial, if_neg (not_nil m1)]
  rw [ByteArray.size_append, show p + (((enc c).size + (Wr.txtP k).size : Nat) : Int) = p + (enc c).size + (Wr.txtP k).size by omega] at hr
  have fin : p + ((enc c ++ Wr.txtP k ++ restU c n s).size : Int) = p + (enc c).size + (Wr.txtP k).size + (restU c n s).size := by rw [ByteArray.size_append, ByteArray.size_append]; omega
  rw [fin]
  unfold tailU
  unfold restU at hr ⊢
  by_cases c13 : c = 1 ∨ c = 3
  · obtain ⟨a1, a2, a3⟩ := m5 c13
    rw [if_pos c13] at hr ⊢
    rw [if_pos c13]
    have hs := sgnR_str a2 a3 hr
    rw [hs]
    simp only
    rw [if_pos trivial, nil_of a1]
    rfl
  rw [if_neg c13] at hr ⊢
  rw [if_neg c13]
  by_cases c24 : c = 2 ∨ c = 4
  · obtain ⟨a1, a2⟩ := m6 c24
    rw [if_pos c24] at hr ⊢
    rw [if_pos c24]
    have hs := txtR_str (l := 32) (s := s) (by rw [cap32]; omega) hr
    rw [hs]
    simp only
    rw [if_pos trivial, a1]
  · obtain ⟨a1, a2⟩ := m7 (by omega)
    have z : ((nil' : ByteArray).size : Int) = 0 := rfl
    simp only [if_neg c24]
    rw [if_pos trivial, nil_of a2, a1, z, Int.add_zero]
end Go.Proofs.YtfpegjdplggkpaaDoor.Pure
namespace Go.Proofs.YtfpegjdplggkpaaDoor.Pure
set_option linter.unusedSimpArgs false
set_option linter.unusedVariables false
open Go Go.RowKit Go.Proofs.YtfpegjdplggkpaaDoorW.PrintWords Go.Proofs.YtfpegjdplggkpaaDoorW.PrintLast Go.Proofs.YtfpegjdplggkpaaDoorW.PrintMore Go.Proofs.YtfpegjdplggkpaaDoor.Q
theorem cap64 : capR 64 = 64 := by decide
theorem cap40 : capR 1099511627776 = 1099511627776 := by decide
theorem headR_str {b : ByteArray} {p n l : Int} (h0 : 1 ≤ n) (hl : n ≤ capR l) (h : Str b p (enc n)) : headR b p l = (n, p + (enc n).size, 0) := by
  unfold headR
  rw [numR_str (by omega) hl h]
  simp only
  rw [if_pos trivial, if_neg (by omega)]
theorem upsR_str {b : ByteArray} : ∀ (l : List Upd) (p : Int), (∀ z ∈ l, mayU z = 0) → 0 ≤ p → p ≤ b.size → Str b p (catB l) → upsR b l.length p = (l, p + (catB l).size, 0)
  | [], p, _, h0, h1, _ => by
    show (([] : List Upd), p, (0 : Int)) = ([], p + ((0 : Nat) : Int), 0)
    rw [Int.natCast_zero, Int.add_zero]
  | z :: r, p, hm, h0, h1, hs => by
    have hs' : Str b p (bytesU z.f0 z.f1 z.f2 z.f3 ++ catB r) := hs
    have hr := readU_str (hm z (by simp)) hs'.left
    have hz := hs'.right
    have ih := upsR_str r _ (fun y hy => hm y (by simp [hy])) (by have := hz.1; exact this) (by have := hz.2.1; omega) hz
    show (if (readU b p 0).2.2.2.2.2 = 0 then _ else _) = _
    rw [hr]
    simp only
    rw [if_pos trivial, ih]
    have e : (catB (z :: r)).size = (bytesU z.f0 z.f1 z.f2 z.f3).size + (catB r).size := ByteArray.size_append
    unfold updR
    rw [hr, e]
    simp only [Int.natCast_add, Int.add_assoc]
theorem headB_eq (o n m : Int) : headB o n m = enc o ++ enc n ++ enc m := rfl
theorem head3 {b : ByteArray} {o n m : Int} (h1 : 1 ≤ o) (h2 : o ≤ 64) (h3 : 1 ≤ n) (h4 : n ≤ 1099511627776) (h5 : 1 ≤ m) (h6 : m ≤ 8) (h : Str b 0 (headB o n m)) :
    getR b = getR3 b o n (upsR b m.toNat (headB o n m).size) := by
  rw [headB_eq] at h ⊢
  unfold getR
  rw [headR_str h1 (by rw [cap64]; exact h2) h.left.left]
  simp only
  rw [if_neg (fun h => h rfl)]
  unfold getR1
  rw [headR_str h3 (by rw [cap40]; exact h4) h.left.right]
  simp only
  rw [if_neg (fun h => h rfl)]
  unfold getR2
  have hr := h.right
  rw [ByteArray.size_append, show (0 : Int) + (((enc o).size + (enc n).size : Nat) : Int) = 0 + (enc o).size + (enc n).size by omega] at hr
  rw [headR_str h5 (by rw [cap8]; exact h6) hr]
  simp only
  rw [if_neg (fun h => h rfl), show (0 : Int) + (enc o).size + (enc n).size + (enc m).size = ((enc o ++ enc n ++ enc m).size : Int) by rw [ByteArray.size_append, ByteArray.size_append]; omega]
theorem getR_more {o n : Int} {l : List Upd} (hm : mayR o n l = 0) (more : ByteArray) : getR (bytesR o n l ++ more) = if more.size = 0 then (o, n, l, 0) else noR 4 := by
  obtain ⟨h1, h2, h3, h4, h5, h6, h7⟩ := mayR_zero hm
  have hw := Str.whole (bytesR o n l ++ more)
  have hb : Str (bytesR o n l ++ more) 0 (headB o n l.length ++ catB l) := hw.left
  rw [head3 h1 h2 h3 h4 (by omega) (by omega) hb.left, Int.toNat_natCast]
  have hr := hb.right
  rw [Int.zero_add] at hr
  have hz : ((bytesR o n l ++ more).size : Int) = (headB o n l.length).size + (catB l).size + more.size := by
    unfold bytesR
    rw [ByteArray.size_append, ByteArray.size_append]
    omega
  rw [upsR_str l _ h7 (by omega) (by omega) hr]
  unfold getR3
  simp only
  rw [if_neg (fun h => h rfl)]
  unfold endR
  rw [if_pos rfl]
  by_cases hs : more.size = 0
  · rw [if_pos hs, if_neg (show ¬ ((headB o n l.length).size : Int) + (catB l).size < ((bytesR o n l ++ more).size : Int) by omega), if_neg (fun h => h rfl)]
  · rw [if_neg hs, if_pos (show ((headB o n l.length).size : Int) + (catB l).size < ((bytesR o n l ++ more).size : Int) by omega), if_pos (by decide)]
theorem getR_bytes {o n : Int} {l : List Upd} (hm : mayR o n l = 0) : getR (bytesR o n l) = (o, n, l, 0) := by
  have := getR_more hm nil'
  rw [app_nil] at this
  exact this
end Go.Proofs.YtfpegjdplggkpaaDoor.Pure
