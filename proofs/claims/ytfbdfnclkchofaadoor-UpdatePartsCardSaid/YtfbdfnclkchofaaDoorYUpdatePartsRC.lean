/- A Reader of package pack, and the document's one, as resources: what each call makes of it. -/
import Derived.Test.YtfbdfnclkchofaaDoorYUpdatePartsEv
import Derived.Test.YtfbdfnclkchofaaDoorYUpdatePartsRd
import Derived.Test.YtfbdfnclkchofaaDoorYUpdatePartsQ2
import Derived.Test.YtfbdfnclkchofaaDoorYUpdatePartsQ3
import Derived.Test.YtfbdfnclkchofaaDoorYUpdatePartsQ5
namespace Go.Proofs.YtfbdfnclkchofaaDoor.J
set_option linter.unusedSimpArgs false
set_option linter.unusedVariables false
open Go Go.RowKit Go.Proofs.YtfbdfnclkchofaaDoorW.PrintWords Go.Proofs.YtfbdfnclkchofaaDoorW.PrintLast Go.Proofs.YtfbdfnclkchofaaDoorW.PrintMore Go.Proofs.YtfbdfnclkchofaaDoor.Q Go.Proofs.YtfbdfnclkchofaaDoor.Sep Go.Proofs.YtfbdfnclkchofaaDoor.Pure
theorem obj_step {N : Nat → Prop} {w0 w w' : World} {g : Nat} {t : TypeId} {cs cs' : Array Value} (h : Own N w [cells g cs t]) (hB : Below w0.heap.size w0 w) (hB' : Below w0.heap.size w0 w') (hb : w'.heap[g]? = some (.cells cs' t (0, 0))) (hk : KeepBut w w' g none) :
    Own N w' [cells g cs' t] ∧ KeepS N w w' :=
  ⟨h.upd (i := 0) rfl (cells g cs' t) (fun F hp hf => ⟨hk.1, fun k hk1 hk2 => hk.2 k hk1 (fun e => hk2 (by rw [show k = g from e]; exact hp.1)) (by simp), F, ⟨hp.1, hb⟩, fun k hk3 => .inl hk3⟩),
   ⟨hB'.os.trans hB.os.symm, hB'.tape.trans hB.tape.symm, hB'.output.trans hB.output.symm, hk.1, fun k hk1 hn => hk.2 k hk1 (fun e => h.far (i := 0) rfl (e ▸ hn)) (by simp)⟩⟩
abbrev RP (g : Nat) (b : ByteArray) (p e : Int) : HP := cells g #[.string b, .int .i64 p, .int .i64 e] 85
abbrev RM (g : Nat) (b : ByteArray) (p e : Int) : HP := cells g #[.string b, .int .i64 p, .int .i64 e] 43
theorem rend (b : ByteArray) (p e : Int) : chapbookref03_Reader_End.f b p e = some (endR b p e, b, p, endR b p e) := by
  unfold chapbookref03_Reader_End.f endR
  split
  · rename_i h; subst h; split <;> rfl
  · rfl
variable {N : Nat → Prop} {w0 w : World} {g : Nat} {b : ByteArray} {p e : Int}
theorem pEnd (hB : Below w0.heap.size w0 w) (hge : w0.heap.size ≤ g) (h : Own N w [RP g b p e]) :
    Calls Tryd.prog 21 #[.pointer (some ⟨g, 0, none⟩)] w fun e_ w' => e_ = .returned (.int .i64 (endR b p e)) ∧ Own N w' [RP g b p (endR b p e)] ∧ KeepS N w w' :=
  (pack_Reader_End.calls g b p e _ _ _ _ w0 w ⟨h.blk (i := 0) rfl, hge⟩ hB (pend b p e)).mono fun e_ w' ⟨he, hI, hB', hK⟩ => ⟨he, obj_step h hB hB' hI.1 hK⟩
theorem rEnd (hB : Below w0.heap.size w0 w) (hge : w0.heap.size ≤ g) (h : Own N w [RM g b p e]) :
    Calls Tryd.prog 30 #[.pointer (some ⟨g, 0, none⟩)] w fun e_ w' => e_ = .returned (.int .i64 (endR b p e)) ∧ Own N w' [RM g b p (endR b p e)] ∧ KeepS N w w' :=
  (chapbookref03_Reader_End.calls g b p e _ _ _ _ w0 w ⟨h.blk (i := 0) rfl, hge⟩ hB (rend b p e)).mono fun e_ w' ⟨he, hI, hB', hK⟩ => ⟨he, obj_step h hB hB' hI.1 hK⟩
theorem pErr (hB : Below w0.heap.size w0 w) (hge : w0.heap.size ≤ g) (h : Own N w [RP g b p e]) :
    Calls Tryd.prog 22 #[.pointer (some ⟨g, 0, none⟩)] w fun e_ w' => e_ = .returned (.int .i64 e) ∧ Own N w' [RP g b p e] ∧ KeepS N w w' :=
  (pack_Reader_Err.calls g b p e _ _ _ _ w0 w ⟨h.blk (i := 0) rfl, hge⟩ hB rfl).mono fun e_ w' ⟨he, hI, hB', hK⟩ => ⟨he, obj_step h hB hB' hI.1 hK⟩
theorem pRead {N : Nat → Prop} {w0 w : World} (b : ByteArray) (hB : Below w0.heap.size w0 w) (h : Own N w []) :
    Calls Tryd.prog 18 #[.string b] w fun e_ w' => ∃ g, e_ = .returned (.pointer (some ⟨g, 0, none⟩)) ∧ Own N w' [RP g b 0 0] ∧ KeepS N w w' :=
  (pack_Read.calls b _ _ _ w w (Below.refl _ _) rfl).mono fun e_ w' ⟨g, he, hI, _, hb⟩ => ⟨g, he, h.push (RP g b 0 0) hb.size (fun k hk => hb.block k hk) (F := fun k => k = g) ⟨rfl, hI.1⟩ (fun k hk => by rw [hk]; exact hI.2), KeepS.of_below hb⟩
end Go.Proofs.YtfbdfnclkchofaaDoor.J
