/- What Put and Get of an update come to, for the program and for the reference. -/
import Derived.Test.YtfbdfnclkchofaaDoorYPackWritesRd
import Derived.Test.YtfbdfnclkchofaaDoorYPackWritesQ8
import Derived.Test.YtfbdfnclkchofaaDoorYPackWritesQ11
import Derived.Test.YtfbdfnclkchofaaDoorYPackWritesQ7
import Derived.Test.YtfbdfnclkchofaaDoorYPackWritesQ9
import Derived.Test.YtfbdfnclkchofaaDoorYPackWritesUPut
import Derived.Test.YtfbdfnclkchofaaDoorYPackWritesRGet06
import Derived.Test.YtfbdfnclkchofaaDoorYPackWritesQ10
import Derived.OpenShut
namespace Go.Proofs.YtfbdfnclkchofaaDoor.Pure
set_option linter.unusedSimpArgs false
open Go Go.RowKit Go.Proofs.YtfbdfnclkchofaaDoorW.PrintWords Go.Proofs.YtfbdfnclkchofaaDoorW.PrintLast Go.Proofs.YtfbdfnclkchofaaDoorW.PrintMore Go.Proofs.YtfbdfnclkchofaaDoor.Q
def zz (n : Int) : Int := if n < 0 then -2 * n - 1 else 2 * n
theorem rnumber (k : Nat) (n : Int) (h0 : 0 ≤ n) (h1 : n < 4611686018427387904) : chapbookref03_Number.f (k + 12) n = some (strOfNums (encL n), true) := by
  unfold chapbookref03_Number.f
  rw [if_neg (by omega), u64in n h0 (by omega), rput_ok k n h0 h1]
  rfl
theorem rtext (k : Nat) (s : ByteArray) (h : s.size ≤ 140737488354900) : chapbookref03_Text.f (k + 12) s = some (Wr.txtP s) := by
  unfold chapbookref03_Text.f
  have := Wr.enc_size s.size
  rw [rnumber k s.size (by omega) (by omega), Option.bind_some]
  simp only
  rw [if_pos (by omega)]
  rfl
theorem rsigned (k : Nat) (n : Int) (h0 : -2305843009213693952 ≤ n) (h1 : n < 2305843009213693952) : chapbookref03_Signed.f (k + 12) n = some (strOfNums (encL (zz n)), true) := by
  unfold chapbookref03_Signed.f
  have e : zz n = if n < 0 then -2 * n - 1 else 2 * n := rfl
  rw [rzig_ok (k + 11) n h0 h1, Option.bind_some]
  simp only [if_true]
  rw [← e, rput_ok k (zz n) (by unfold zz; split <;> omega) (by unfold zz; split <;> omega)]
  rfl
end Go.Proofs.YtfbdfnclkchofaaDoor.Pure
