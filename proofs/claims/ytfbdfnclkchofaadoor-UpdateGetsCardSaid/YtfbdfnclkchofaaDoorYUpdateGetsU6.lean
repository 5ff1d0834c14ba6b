/- What Put and Get of an update come to, for the program and for the reference. -/
import Derived.Test.YtfbdfnclkchofaaDoorYUpdateGetsRU
import Derived.Test.YtfbdfnclkchofaaDoorYUpdateGetsQ7
import Derived.Test.YtfbdfnclkchofaaDoorYUpdateGetsQ9
import Derived.Test.YtfbdfnclkchofaaDoorYUpdateGetsUPut
import Derived.Test.YtfbdfnclkchofaaDoorYUpdateGetsRGet06
import Derived.Test.YtfbdfnclkchofaaDoorYUpdateGetsQ10
import Derived.Test.YtfbdfnclkchofaaDoorYUpdateGetsQ8
import Derived.OpenShut
namespace Go.Proofs.YtfbdfnclkchofaaDoor.Pure
set_option linter.unusedSimpArgs false
open Go Go.RowKit Go.Proofs.YtfbdfnclkchofaaDoorW.PrintWords Go.Proofs.YtfbdfnclkchofaaDoorW.PrintLast Go.Proofs.YtfbdfnclkchofaaDoorW.PrintMore Go.Proofs.YtfbdfnclkchofaaDoor.Q
def gotU (b : ByteArray) : ByteArray × Int × Int × ByteArray × Int :=
  if endR b (readU b 0 0).2.2.2.2.1 (readU b 0 0).2.2.2.2.2 = 0 then ((readU b 0 0).1, (readU b 0 0).2.1, (readU b 0 0).2.2.1, (readU b 0 0).2.2.2.1, 0) else (nil', 0, 0, nil', endR b (readU b 0 0).2.2.2.2.1 (readU b 0 0).2.2.2.2.2)
theorem pgot (j : Nat) (b : ByteArray) (hs : b.size ≤ 140737488351232) : update_Get.f (j + 18) b = some (gotU b) := by
  unfold update_Get.f gotU
  rw [show pack_Read.f b = some (b, 0, 0) from rfl, Option.bind_some]
  simp only
  rw [pread j b 0 0 hs (by omega) (by omega), Option.bind_some]
  simp only [outU]
  rw [pend, Option.bind_some]
  simp only
  by_cases h : endR b (readU b 0 0).2.2.2.2.1 (readU b 0 0).2.2.2.2.2 = 0
  · rw [if_pos h, if_pos h]
  · rw [if_neg h, if_neg h]
theorem rend (b : ByteArray) (p e : Int) : chapbookref03_Reader_End.f b p e = some (endR b p e, b, p, endR b p e) := by
  unfold chapbookref03_Reader_End.f endR
  by_cases he : e = 0
  · rw [if_pos he, if_pos he]
    by_cases c : p < b.size
    · rw [if_pos c, if_pos c]
    · rw [if_neg c, if_neg c, he]
  · rw [if_neg he, if_neg he]
theorem rgot (j : Nat) (b : ByteArray) (hs : b.size ≤ 140737488351232) : chapbookref06_Get.f (j + 25) b = some (gotU b) := by
  unfold chapbookref06_Get.f gotU
  rw [rread j b 0 0 hs (by omega) (by omega), Option.bind_some]
  simp only [outU]
  rw [rend, Option.bind_some]
  simp only
  by_cases h : endR b (readU b 0 0).2.2.2.2.1 (readU b 0 0).2.2.2.2.2 = 0
  · rw [if_pos h, if_pos h]
  · rw [if_neg h, if_neg h]
theorem awake60 : chapbooklaw06_awake.f 60 = some true := by kernel_rfl
theorem awake59 : chapbooklaw06_awake.f 59 = some true := by kernel_rfl
end Go.Proofs.YtfbdfnclkchofaaDoor.Pure
