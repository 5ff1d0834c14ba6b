/- A Reader of package pack, and the document's one, as resources: what each call makes of it. -/
import Derived.Test.YtfbdfnclkchofaaDoorYPackWritesEv
import Derived.Test.YtfbdfnclkchofaaDoorYPackWritesRd
import Derived.Test.YtfbdfnclkchofaaDoorYPackWritesQ2
import Derived.Test.YtfbdfnclkchofaaDoorYPackWritesQ3
import Derived.Test.YtfbdfnclkchofaaDoorYPackWritesQ5
namespace Go.Proofs.YtfbdfnclkchofaaDoor.J
set_option linter.unusedSimpArgs false
set_option linter.unusedVariables false
open Go Go.RowKit Go.Proofs.YtfbdfnclkchofaaDoorW.PrintWords Go.Proofs.YtfbdfnclkchofaaDoorW.PrintLast Go.Proofs.YtfbdfnclkchofaaDoorW.PrintMore Go.Proofs.YtfbdfnclkchofaaDoor.Q Go.Proofs.YtfbdfnclkchofaaDoor.Sep Go.Proofs.YtfbdfnclkchofaaDoor.Pure
variable {N : Nat → Prop} {w0 w : World} {g : Nat} {b : ByteArray} {p e : Int}
theorem at_E {w : World} {ok : Nat → Prop} {A : Option Addr} {n : Nat} {xs : List S46} (h : Kd.F k46 w ok A n xs) (i : Int) (h0 : 0 ≤ i) (h1 : i < n) : ∃ ad, A = some ad ∧ w.cell? (ad.add (i.toNat * 3)) = some (.int .i64 (rd_T46 xs i).f0) ∧ w.cell? ⟨(ad.add (i.toNat * 3)).block, (ad.add (i.toNat * 3)).off + 1, none⟩ = some (.int .i64 (rd_T46 xs i).f1) ∧ w.cell? ⟨(ad.add (i.toNat * 3)).block, (ad.add (i.toNat * 3)).off + 2, none⟩ = some (.string (rd_T46 xs i).f2) := by
  obtain ⟨ad, c, e, _, hK, hc0, _⟩ := Kd.F_get h z46 i h0 h1
  have hc : ∀ j u, c[j]? = some u → w.cell? (ad.add (i.toNat * 3 + j)) = some u := hc0
  obtain rfl := k46_open (Kd.FK_now hK)
  exact ⟨ad, e, hc 0 _ rfl, by rw [← add_field _ _ 1 (by omega)]; exact hc 1 _ rfl, by rw [← add_field _ _ 2 (by omega)]; exact hc 2 _ rfl⟩
theorem heapE : Kd.Heap k46 := Kd.heap_iso _ (Kd.heap_pair (Kd.heap_int _) (Kd.heap_pair (Kd.heap_int _) Kd.heap_string))
end Go.Proofs.YtfbdfnclkchofaaDoor.J
