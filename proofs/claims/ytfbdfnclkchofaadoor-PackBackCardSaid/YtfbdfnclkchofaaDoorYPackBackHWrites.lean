/- The law PackWrites: any fields have the bytes that the document says, one behind the other, or none, if one has none: a plain walk through its text. -/
import Derived.Test.YtfbdfnclkchofaaDoorYPackBackWC
import Derived.Test.YtfbdfnclkchofaaDoorYPackBackRd
import Derived.Test.YtfbdfnclkchofaaDoorYPackBackQ8
import Derived.Test.YtfbdfnclkchofaaDoorYPackBackQ11
import Derived.Test.YtfbdfnclkchofaaDoorYPackBackQ7
import Derived.Test.YtfbdfnclkchofaaDoorYPackBackQ9
import Derived.Test.YtfbdfnclkchofaaDoorYPackBackUPut
import Derived.Test.YtfbdfnclkchofaaDoorYPackBackRGet06
import Derived.Test.YtfbdfnclkchofaaDoorYPackBackQ10
import Derived.OpenShut
namespace Go.Proofs.YtfbdfnclkchofaaDoor.J
set_option linter.unusedSimpArgs false
set_option linter.unusedVariables false
open Go Go.RowKit Go.Proofs.YtfbdfnclkchofaaDoorW.PrintWords Go.Proofs.YtfbdfnclkchofaaDoorW.PrintLast Go.Proofs.YtfbdfnclkchofaaDoorW.PrintMore Go.Proofs.YtfbdfnclkchofaaDoor.Q Go.Proofs.YtfbdfnclkchofaaDoor.Sep Go.Proofs.YtfbdfnclkchofaaDoor.Pure Go.Proofs.YtfbdfnclkchofaaDoor.Wr
attribute [local go_sem] max2_int min2_int max_two min_two max_three min_three max_four min_four
theorem told_r {X : ByteArray} : told (X, false) = (X, 0) := rfl
theorem told_w {X : ByteArray} : told (X, true) = ((⟨#[]⟩ : ByteArray), 1) := rfl
theorem big_no {l : List S46} (h : big l = false) (x : Int) (h0 : 0 ≤ x) (h1 : x < l.length) : (rd_T46 l x).f2.size ≤ 200 := by
  unfold big at h
  rw [List.any_eq_false] at h
  have hl : x.toNat < l.length := by omega
  have hm : rd_T46 l x ∈ l := by
    unfold rd_T46
    rw [List.getD_eq_getElem?_getD, List.getElem?_eq_getElem hl]
    exact List.getElem_mem hl
  have := h _ hm
  simp only [decide_eq_true_eq] at this
  omega
theorem rd_mem {l : List S46} (x : Int) (h0 : 0 ≤ x) (h1 : x < l.length) : rd_T46 l x ∈ l := by
  unfold rd_T46
  have hl : x.toNat < l.length := by omega
  rw [List.getD_eq_getElem?_getD, List.getElem?_eq_getElem hl]
  exact List.getElem_mem hl
theorem int_eqW {a b : Int} (h : a = b) : Value.int .i64 a = .int .i64 b := by rw [h]
end Go.Proofs.YtfbdfnclkchofaaDoor.J
