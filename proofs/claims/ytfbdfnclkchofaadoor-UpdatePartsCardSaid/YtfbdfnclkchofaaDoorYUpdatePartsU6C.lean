/- What an update's bytes are got as: whole, in the other direction, cut off. -/
import Derived.Test.YtfbdfnclkchofaaDoorYUpdatePartsU6B
namespace Go.Proofs.YtfbdfnclkchofaaDoor.Pure
set_option linter.unusedSimpArgs false
set_option linter.unusedVariables false
open Go Go.RowKit Go.Proofs.YtfbdfnclkchofaaDoorW.PrintWords Go.Proofs.YtfbdfnclkchofaaDoorW.PrintLast Go.Proofs.YtfbdfnclkchofaaDoorW.PrintMore Go.Proofs.YtfbdfnclkchofaaDoor.Q
theorem sz_small {n : Int} (h : n < 64) : szL n = 1 := by unfold szL; rw [if_pos h]
theorem bytesU_size {k : ByteArray} {c n : Int} {s : ByteArray} (hm : may k c n s = 0) : (bytesU k c n s).size ≤ 51 := by
  obtain ⟨m1, m2, m3, m4, m5, m6, m7⟩ := may_zero hm
  rw [bytesU_eq, ByteArray.size_append, ByteArray.size_append, txtP_sz]
  have e1 := enc_sz c
  rw [sz_small (by omega)] at e1
  have e2 := enc_sz (k.size : Int)
  rw [sz_small (by omega)] at e2
  have e3 : (restU c n s).size ≤ 33 := by
    unfold restU
    split
    · have := Wr.enc_size (zz n)
      show (strOfNums _).size ≤ 33
      omega
    · split
      · rename_i h
        have := (m6 h).2
        rw [txtP_sz]
        have e4 := enc_sz (s.size : Int)
        rw [sz_small (by omega)] at e4
        omega
      · exact Nat.zero_le _
  omega
end Go.Proofs.YtfbdfnclkchofaaDoor.Pure
