/- Reading what an update's bytes are: whole, in the other direction, and cut off. -/
import Derived.Test.YtfpegjdplggkpaaDoorYRoundFrontStr2
import Derived.Test.YtfpegjdplggkpaaDoorYRoundFrontUA
import Derived.Test.YtfpegjdplggkpaaDoorYRoundFrontRU
namespace Go.Proofs.YtfpegjdplggkpaaDoor.Pure
set_option linter.unusedSimpArgs false
set_option linter.unusedVariables false
open Go Go.RowKit Go.Proofs.YtfpegjdplggkpaaDoorW.PrintWords Go.Proofs.YtfpegjdplggkpaaDoorW.PrintLast Go.Proofs.YtfpegjdplggkpaaDoorW.PrintMore Go.Proofs.YtfpegjdplggkpaaDoor.Q
theorem cap5 : capR 5 = 5 := by decide
theorem cap16 : capR 16 = 16 := by decide
theorem cap32 : capR 32 = 32 := by decide
theorem not_nil {s : ByteArray} (h : 1 ≤ s.size) : ¬ s.toList = [] := fun e => by have := (nil_size s).1 e; omega
theorem nil_of {s : ByteArray} (h : s.size = 0) : s = nil' := by apply ByteArray.ext; apply Array.ext'; exact List.eq_nil_of_length_eq_zero (by simpa using h)
def restU (c n : Int) (s : ByteArray) : ByteArray := if c = 1 ∨ c = 3 then enc (zz n) else if c = 2 ∨ c = 4 then Wr.txtP s else nil'
theorem bytesU_eq (k : ByteArray) (c n : Int) (s : ByteArray) : bytesU k c n s = (enc c ++ Wr.txtP k) ++ restU c n s := rfl
theorem readU_str {b k s : ByteArray} {p c n : Int} (hm : may k c n s = 0) (h : Str b p (bytesU k c n s)) : readU b p 0 = (k, c, n, s, p + (bytesU k c n s).size, 0) := by
  obtain ⟨m1, m2, m3, m4, m5, m6, m7⟩ := may_zero hm
  rw [bytesU_eq] at h ⊢
  have hc := numR_str (l := 5) (n := c) (by omega) (by rw [cap5]; omega) h.left.left
  have hk := txtR_str (l := 16) (s := k) (by rw [cap16]; omega) h.left.right
  have hr := h.right
  unfold readU
  rw [hc]
  simp only
  rw [if_pos trivial, if_neg (by omega)]
  unfold keyU
  rw [hk]
  simp only
  rw [if_pos trivial, if_neg (not_nil m1)]
  rw [ByteArray.size_append, show p + (((enc c).size + (Wr.txtP k).size : Nat) : Int) = p + (enc c).size + (Wr.txtP k).size by omega] at hr
  have fin : p + ((enc c ++ Wr.txtP k ++ restU c n s).size : Int) = p + (enc c).size + (Wr.txtP k).size + (restU c n s).size := by rw [ByteArray.size_append, ByteArray.size_append]; omega
  rw [fin]
  unfold tailU
  unfold restU at hr ⊢
  by_cases c13 : c = 1 ∨ c = 3
  · obtain ⟨a1, a2, a3⟩ := m5 c13
    rw [if_pos c13] at hr ⊢
    rw [if_pos c13]
    have hs := sgnR_str a2 a3 hr
    rw [hs]
    simp only
    rw [if_pos trivial, nil_of a1]
    rfl
  rw [if_neg c13] at hr ⊢
  rw [if_neg c13]
  by_cases c24 : c = 2 ∨ c = 4
  · obtain ⟨a1, a2⟩ := m6 c24
    rw [if_pos c24] at hr ⊢
    rw [if_pos c24]
    have hs := txtR_str (l := 32) (s := s) (by rw [cap32]; omega) hr
    rw [hs]
    simp only
    rw [if_pos trivial, a1]
  · obtain ⟨a1, a2⟩ := m7 (by omega)
    have z : ((nil' : ByteArray).size : Int) = 0 := rfl
    simp only [if_neg c24]
    rw [if_pos trivial, nil_of a2, a1, z, Int.add_zero]
theorem readU_cut {b k s : ByteArray} {p c n : Int} (hm : may k c n s = 0) (h : Cut b p (bytesU k c n s)) : ∃ q, readU b p 0 = noU q 2 := by
  obtain ⟨m1, m2, m3, m4, m5, m6, m7⟩ := may_zero hm
  rw [bytesU_eq] at h
  have two : ¬ ((2 : Int) = 0) := by decide
  unfold readU
  rcases h.split with h | ⟨g, h⟩
  · rcases h.split with h | ⟨g, h⟩
    · rw [numR_cut (by omega) (by omega) h]
      simp only
      rw [if_neg two]
      exact ⟨_, rfl⟩
    · rw [numR_str (l := 5) (n := c) (by omega) (by rw [cap5]; omega) g]
      simp only
      rw [if_pos trivial, if_neg (by omega)]
      obtain ⟨q, hq⟩ := txtR_cut (l := 16) (s := k) (by rw [cap16]; omega) h
      unfold keyU
      rw [hq]
      simp only
      rw [if_neg two]
      exact ⟨_, rfl⟩
  · have hc := numR_str (l := 5) (n := c) (by omega) (by rw [cap5]; omega) g.left
    have hk := txtR_str (l := 16) (s := k) (by rw [cap16]; omega) g.right
    rw [ByteArray.size_append, show p + (((enc c).size + (Wr.txtP k).size : Nat) : Int) = p + (enc c).size + (Wr.txtP k).size by omega] at h
    rw [hc]
    simp only
    rw [if_pos trivial, if_neg (by omega)]
    unfold keyU
    rw [hk]
    simp only
    rw [if_pos trivial, if_neg (not_nil m1)]
    unfold tailU
    unfold restU at h
    by_cases c13 : c = 1 ∨ c = 3
    · obtain ⟨a1, a2, a3⟩ := m5 c13
      rw [if_pos c13] at h ⊢
      rw [sgnR_cut (n := zz n) (by unfold zz; split <;> omega) (by unfold zz; split <;> omega) h]
      simp only
      rw [if_neg two]
      exact ⟨_, rfl⟩
    rw [if_neg c13] at h ⊢
    by_cases c24 : c = 2 ∨ c = 4
    · obtain ⟨a1, a2⟩ := m6 c24
      rw [if_pos c24] at h ⊢
      obtain ⟨q, hq⟩ := txtR_cut (l := 32) (s := s) (by rw [cap32]; omega) h
      rw [hq]
      simp only
      rw [if_neg two]
      exact ⟨_, rfl⟩
    · rw [if_neg c24] at h
      obtain ⟨a, d, e, _⟩ := h
      have e' : (b.size : Int) < p + (enc c).size + (Wr.txtP k).size + ((0 : Nat) : Int) := e
      omega
end Go.Proofs.YtfpegjdplggkpaaDoor.Pure
