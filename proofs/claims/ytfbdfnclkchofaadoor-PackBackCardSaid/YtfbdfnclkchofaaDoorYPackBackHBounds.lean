/- The law PackBounds: a number is read by any bound that it isn't above, and by no other one; a text by its length: a plain walk through its text. -/
import Derived.Test.YtfbdfnclkchofaaDoorYPackBackWC
namespace Go.Proofs.YtfbdfnclkchofaaDoor.J
set_option linter.unusedSimpArgs false
set_option linter.unusedVariables false
open Go Go.RowKit Go.Proofs.YtfbdfnclkchofaaDoorW.PrintWords Go.Proofs.YtfbdfnclkchofaaDoorW.PrintLast Go.Proofs.YtfbdfnclkchofaaDoorW.PrintMore Go.Proofs.YtfbdfnclkchofaaDoor.Q Go.Proofs.YtfbdfnclkchofaaDoor.Sep Go.Proofs.YtfbdfnclkchofaaDoor.Pure Go.Proofs.YtfbdfnclkchofaaDoor.Wr
attribute [local go_sem] max2_int min2_int max_two min_two max_three min_three max_four min_four
theorem pEnd_e {N : Nat → Prop} {w0 w : World} {g : Nat} {b : ByteArray} {p e : Int} (e2 : Int) (hq : endR b p e = e2) (hB : Below w0.heap.size w0 w) (hge : w0.heap.size ≤ g) (h : Own N w [RP g b p e]) :
    Calls Tryd.prog 21 #[.pointer (some ⟨g, 0, none⟩)] w fun e_ w' => e_ = .returned (.int .i64 e2) ∧ Own N w' [RP g b p e2] ∧ KeepS N w w' := by
  subst hq
  exact pEnd hB hge h
end Go.Proofs.YtfbdfnclkchofaaDoor.J
