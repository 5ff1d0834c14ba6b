/- What an update's bytes are got as: whole, in the other direction, cut off. -/
import Derived.Test.YtfbdfnclkchofaaDoorYUpdateOneU6B
namespace Go.Proofs.YtfbdfnclkchofaaDoor.Pure
set_option linter.unusedSimpArgs false
set_option linter.unusedVariables false
open Go Go.RowKit Go.Proofs.YtfbdfnclkchofaaDoorW.PrintWords Go.Proofs.YtfbdfnclkchofaaDoorW.PrintLast Go.Proofs.YtfbdfnclkchofaaDoorW.PrintMore Go.Proofs.YtfbdfnclkchofaaDoor.Q
theorem gotU_ok {b : ByteArray} (h : (gotU b).2.2.2.2 = 0) : may (gotU b).1 (gotU b).2.1 (gotU b).2.2.1 (gotU b).2.2.2.1 = 0 ∧ bytesU (gotU b).1 (gotU b).2.1 (gotU b).2.2.1 (gotU b).2.2.2.1 = b := by
  unfold gotU at h ⊢
  by_cases he : endR b (readU b 0 0).2.2.2.2.1 (readU b 0 0).2.2.2.2.2 = 0
  · rw [if_pos he]
    have h2 : (readU b 0 0).2.2.2.2.2 = 0 := by
      unfold endR at he
      by_cases h3 : (readU b 0 0).2.2.2.2.2 = 0
      · exact h3
      · rw [if_neg h3] at he; exact he
    have h4 : ¬ ((readU b 0 0).2.2.2.2.1 < (b.size : Int)) := by
      intro hlt
      unfold endR at he
      rw [if_pos h2, if_pos hlt] at he
      exact absurd he (by decide)
    obtain ⟨i1, i2, i3⟩ := readU_inv (b := b) (p := 0) (by omega) (by omega) h2
    refine ⟨i1, ?_⟩
    have i4 := i2.2.1
    exact (i2.all (by omega)).symm
  · rw [if_neg he] at h
    exact absurd h he
theorem gotU_no {b : ByteArray} (h : (gotU b).2.2.2.2 ≠ 0) : gotU b = (nil', 0, 0, nil', (gotU b).2.2.2.2) := by
  unfold gotU at h ⊢
  by_cases he : endR b (readU b 0 0).2.2.2.2.1 (readU b 0 0).2.2.2.2.2 = 0
  · rw [if_pos he] at h; exact absurd rfl h
  · rw [if_neg he]
end Go.Proofs.YtfbdfnclkchofaaDoor.Pure
