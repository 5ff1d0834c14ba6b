/- Reading an update, both sides, as turns of a Reader. -/
import Derived.Test.YtfbdfnclkchofaaDoorYUpdatePartsWCB
import Derived.Test.YtfbdfnclkchofaaDoorYUpdatePartsRU
import Derived.Test.YtfbdfnclkchofaaDoorYUpdatePartsQ8
import Derived.Test.YtfbdfnclkchofaaDoorYUpdatePartsQ11
namespace Go.Proofs.YtfbdfnclkchofaaDoor.J
set_option linter.unusedSimpArgs false
set_option linter.unusedVariables false
open Go Go.RowKit Go.Proofs.YtfbdfnclkchofaaDoorW.PrintWords Go.Proofs.YtfbdfnclkchofaaDoorW.PrintLast Go.Proofs.YtfbdfnclkchofaaDoorW.PrintMore Go.Proofs.YtfbdfnclkchofaaDoor.Q Go.Proofs.YtfbdfnclkchofaaDoor.Sep Go.Proofs.YtfbdfnclkchofaaDoor.Pure
variable {N : Nat → Prop} {w0 w : World} {g : Nat} {b : ByteArray} {p e : Int}
theorem pUpd (HT : Aside0 (Tab w0)) (hB : Below w0.heap.size w0 w) (hge : w0.heap.size ≤ g) (hs : b.size ≤ 140737488351232) (h0 : 0 ≤ p) (h1 : p ≤ b.size) (k : ByteArray) (c n : Int) (s : ByteArray) (p2 e2 : Int) (hq : outU b (readU b p e) = (k, c, n, s, b, p2, e2)) (h : Own N w [RP g b p e]) :
    Calls Tryd.prog 44 #[.pointer (some ⟨g, 0, none⟩)] w fun e_ w' => e_ = .returned (.agg #[.string k, .int .i64 c, .int .i64 n, .string s]) ∧ Own N w' [RP g b p2 e2] ∧ KeepS N w w' :=
  (update_Read.calls 18 g b p e k c n s b p2 e2 w0 w HT ⟨h.blk (i := 0) rfl, hge⟩ hB ((pread 0 b p e hs h0 h1).trans (by rw [hq]))).mono fun e_ w' ⟨he, hI, hB', hK⟩ => ⟨he, obj_step h hB hB' hI.1 hK⟩
theorem rUpd (hB : Below w0.heap.size w0 w) (hge : w0.heap.size ≤ g) (hs : b.size ≤ 140737488351232) (h0 : 0 ≤ p) (h1 : p ≤ b.size) (k : ByteArray) (c n : Int) (s : ByteArray) (p2 e2 : Int) (hq : outU b (readU b p e) = (k, c, n, s, b, p2, e2)) (h : Own N w [RM g b p e]) :
    Calls Tryd.prog 45 #[.pointer (some ⟨g, 0, none⟩)] w fun e_ w' => e_ = .returned (.agg #[.string k, .int .i64 c, .int .i64 n, .string s]) ∧ Own N w' [RM g b p2 e2] ∧ KeepS N w w' :=
  (chapbookref06_Read.calls 25 g b p e k c n s b p2 e2 w0 w ⟨h.blk (i := 0) rfl, hge⟩ hB ((rread 0 b p e hs h0 h1).trans (by rw [hq]))).mono fun e_ w' ⟨he, hI, hB', hK⟩ => ⟨he, obj_step h hB hB' hI.1 hK⟩
end Go.Proofs.YtfbdfnclkchofaaDoor.J
