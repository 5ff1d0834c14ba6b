/- Reading what an update's bytes are: whole, in the other direction, and cut off. -/
import Derived.Test.YtfbdfnclkchofaaDoorYUpdateOneStr2
import Derived.Test.YtfbdfnclkchofaaDoorYUpdateOneU6
namespace Go.Proofs.YtfbdfnclkchofaaDoor.Pure
set_option linter.unusedSimpArgs false
set_option linter.unusedVariables false
open Go Go.RowKit Go.Proofs.YtfbdfnclkchofaaDoorW.PrintWords Go.Proofs.YtfbdfnclkchofaaDoorW.PrintLast Go.Proofs.YtfbdfnclkchofaaDoorW.PrintMore Go.Proofs.YtfbdfnclkchofaaDoor.Q
theorem cap5 : capR 5 = 5 := by decide
theorem cap16 : capR 16 = 16 := by decide
theorem cap32 : capR 32 = 32 := by decide
def restU (c n : Int) (s : ByteArray) : ByteArray := if c = 1 ∨ c = 3 then enc (zz n) else if c = 2 ∨ c = 4 then Wr.txtP s else nil'
theorem bytesU_eq (k : ByteArray) (c n : Int) (s : ByteArray) : bytesU k c n s = (enc c ++ Wr.txtP k) ++ restU c n s := rfl
theorem readU_inv {b : ByteArray} {p : Int} (h0 : 0 ≤ p) (h1 : p ≤ b.size) (h : (readU b p 0).2.2.2.2.2 = 0) :
    may (readU b p 0).1 (readU b p 0).2.1 (readU b p 0).2.2.1 (readU b p 0).2.2.2.1 = 0 ∧ Str b p (bytesU (readU b p 0).1 (readU b p 0).2.1 (readU b p 0).2.2.1 (readU b p 0).2.2.2.1) ∧
      (readU b p 0).2.2.2.2.1 = p + (bytesU (readU b p 0).1 (readU b p 0).2.1 (readU b p 0).2.2.1 (readU b p 0).2.2.2.1).size := by
  have hp := numR_place b p 0 5 h0 h1
  unfold readU at h ⊢
  by_cases hn : (numR b p 0 5).2.2 = 0
  case neg => rw [if_neg hn] at h; exact absurd h hn
  rw [if_pos hn] at h ⊢
  obtain ⟨i1, i2, i3, i4⟩ := numR_inv hn
  rw [cap5] at i4
  by_cases hz : (numR b p 0 5).1 = 0
  · rw [if_pos hz] at h; simp [noU] at h
  rw [if_neg hz] at h ⊢
  generalize numR b p 0 5 = a at *
  obtain ⟨c, q, e⟩ := a
  simp only at *
  have hq := txtR_place b q 0 16 hp.1 hp.2.1
  unfold keyU at h ⊢
  by_cases ht : (txtR b q 0 16).2.2 = 0
  case neg => rw [if_neg ht] at h; exact absurd h ht
  rw [if_pos ht] at h ⊢
  obtain ⟨j1, j2, j3⟩ := txtR_inv hp.1 hp.2.1 ht
  rw [cap16] at j3
  by_cases hl : (txtR b q 0 16).1.toList = []
  · rw [if_pos hl] at h; simp [noU] at h
  rw [if_neg hl] at h ⊢
  generalize txtR b q 0 16 = t at *
  obtain ⟨k, r, e2⟩ := t
  simp only at *
  have hk1 : 1 ≤ k.size := by
    have := mt (nil_size k).2 hl
    omega
  subst i2
  have jn : Str b p (enc c ++ Wr.txtP k) := i1.join j1
  have jz : r = p + ((enc c ++ Wr.txtP k).size : Int) := by rw [ByteArray.size_append, j2]; omega
  have fin : ∀ (n : Int) (s : ByteArray) (z : Int), may k c n s = 0 → Str b r (restU c n s) → z = r + (restU c n s).size → may k c n s = 0 ∧ Str b p (bytesU k c n s) ∧ z = p + (bytesU k c n s).size := by
    intro n s z a1 a2 a3
    rw [bytesU_eq]
    refine ⟨a1, jn.join (by rw [← jz]; exact a2), ?_⟩
    rw [ByteArray.size_append, a3, jz]
    omega
  unfold tailU at h ⊢
  have kk : ¬ ((k.size : Int) < 1 ∨ (k.size : Int) > 16) := by omega
  by_cases c13 : c = 1 ∨ c = 3
  · rw [if_pos c13] at h ⊢
    by_cases hs : (sgnR b r 0).2.2 = 0
    case neg => rw [if_neg hs] at h; exact absurd h hs
    rw [if_pos hs]
    obtain ⟨s1, s2, s3, s4⟩ := sgnR_inv hs
    simp only
    refine fin _ _ _ ?_ ?_ ?_
    · unfold may
      rw [if_neg kk, if_pos c13, if_pos nil_list, if_neg (by omega)]
    · unfold restU; rw [if_pos c13]; exact s1
    · unfold restU; rw [if_pos c13]; exact s2
  rw [if_neg c13] at h ⊢
  by_cases c24 : c = 2 ∨ c = 4
  · rw [if_pos c24] at h ⊢
    by_cases hs : (txtR b r 0 32).2.2 = 0
    case neg => rw [if_neg hs] at h; exact absurd h hs
    rw [if_pos hs]
    obtain ⟨s1, s2, s3⟩ := txtR_inv hq.1 hq.2.1 hs
    rw [cap32] at s3
    simp only
    refine fin _ _ _ ?_ ?_ ?_
    · unfold may
      rw [if_neg kk, if_neg c13, if_pos c24, if_pos rfl, if_neg (by omega)]
    · unfold restU; rw [if_neg c13, if_pos c24]; exact s1
    · unfold restU; rw [if_neg c13, if_pos c24]; exact s2
  · rw [if_neg c24] at h ⊢
    rw [if_pos rfl]
    simp only
    refine fin _ _ _ ?_ ?_ ?_
    · unfold may
      rw [if_neg kk, if_neg c13, if_neg c24, if_pos (by omega), if_pos ⟨rfl, nil_list⟩]
    · unfold restU; rw [if_neg c13, if_neg c24]; exact Str.none hq.1 hq.2.1
    · unfold restU; rw [if_neg c13, if_neg c24]; show r = r + ((0 : Nat) : Int); omega
end Go.Proofs.YtfbdfnclkchofaaDoor.Pure
