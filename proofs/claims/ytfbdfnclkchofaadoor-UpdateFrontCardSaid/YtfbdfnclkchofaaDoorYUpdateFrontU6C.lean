/- What an update's bytes are got as: whole, in the other direction, cut off. -/
import Derived.Test.YtfbdfnclkchofaaDoorYUpdateFrontU6B
namespace Go.Proofs.YtfbdfnclkchofaaDoor.Pure
set_option linter.unusedSimpArgs false
set_option linter.unusedVariables false
open Go Go.RowKit Go.Proofs.YtfbdfnclkchofaaDoorW.PrintWords Go.Proofs.YtfbdfnclkchofaaDoorW.PrintLast Go.Proofs.YtfbdfnclkchofaaDoorW.PrintMore Go.Proofs.YtfbdfnclkchofaaDoor.Q
theorem sz_small {n : Int} (h : n < 64) : szL n = 1 := by unfold szL; rw [if_pos h]
theorem bytesU_size {k : ByteArray} {c n : Int} {s : ByteArray} (hm : may k c n s = 0) : (bytesU k c n s).size ≤ 51 := by
  obtain ⟨m1, m2, m3, m4, m5, m6, m7⟩ := may_zero hm
  rw [bytesU_eq, ByteArray.size_append, ByteArray.size_append, txtP_sz]
  have e1 := enc_sz c
  rw [sz_small (by omega)] at e1
  have e2 := enc_sz (k.size : Int)
  rw [sz_small (by omega)] at e2
  have e3 : (restU c n s).size ≤ 33 := by
    unfold restU
    split
    · have := Wr.enc_size (zz n)
      show (strOfNums _).size ≤ 33
      omega
    · split
      · rename_i h
        have := (m6 h).2
        rw [txtP_sz]
        have e4 := enc_sz (s.size : Int)
        rw [sz_small (by omega)] at e4
        omega
      · exact Nat.zero_le _
  omega
theorem gotU_cut {k : ByteArray} {c n : Int} {s : ByteArray} (hm : may k c n s = 0) {cut : Nat} (h : cut < (bytesU k c n s).size) : gotU ((bytesU k c n s).extract 0 cut) = (nil', 0, 0, nil', 2) := by
  obtain ⟨q, hq⟩ := readU_cut hm (cut_of (bytesU k c n s) cut h)
  unfold gotU
  rw [hq]
  simp only [noU]
  have he : endR ((bytesU k c n s).extract 0 cut) q 2 = 2 := by unfold endR; rw [if_neg (by decide)]
  simp only [he]
  rw [if_neg (by decide)]
end Go.Proofs.YtfbdfnclkchofaaDoor.Pure
