/- A Reader of package pack, and the document's one, as resources: what each call makes of it. -/
import Derived.Test.YtfbdfnclkchofaaDoorYPackBackEv
import Derived.Test.YtfbdfnclkchofaaDoorYPackBackRd
import Derived.Test.YtfbdfnclkchofaaDoorYPackBackQ2
import Derived.Test.YtfbdfnclkchofaaDoorYPackBackQ3
import Derived.Test.YtfbdfnclkchofaaDoorYPackBackQ5
namespace Go.Proofs.YtfbdfnclkchofaaDoor.J
set_option linter.unusedSimpArgs false
set_option linter.unusedVariables false
open Go Go.RowKit Go.Proofs.YtfbdfnclkchofaaDoorW.PrintWords Go.Proofs.YtfbdfnclkchofaaDoorW.PrintLast Go.Proofs.YtfbdfnclkchofaaDoorW.PrintMore Go.Proofs.YtfbdfnclkchofaaDoor.Q Go.Proofs.YtfbdfnclkchofaaDoor.Sep Go.Proofs.YtfbdfnclkchofaaDoor.Pure
theorem obj_step {N : Nat → Prop} {w0 w w' : World} {g : Nat} {t : TypeId} {cs cs' : Array Value} (h : Own N w [cells g cs t]) (hB : Below w0.heap.size w0 w) (hB' : Below w0.heap.size w0 w') (hb : w'.heap[g]? = some (.cells cs' t (0, 0))) (hk : KeepBut w w' g none) :
    Own N w' [cells g cs' t] ∧ KeepS N w w' :=
  ⟨h.upd (i := 0) rfl (cells g cs' t) (fun F hp hf => ⟨hk.1, fun k hk1 hk2 => hk.2 k hk1 (fun e => hk2 (by rw [show k = g from e]; exact hp.1)) (by simp), F, ⟨hp.1, hb⟩, fun k hk3 => .inl hk3⟩),
   ⟨hB'.os.trans hB.os.symm, hB'.tape.trans hB.tape.symm, hB'.output.trans hB.output.symm, hk.1, fun k hk1 hn => hk.2 k hk1 (fun e => h.far (i := 0) rfl (e ▸ hn)) (by simp)⟩⟩
abbrev RP (g : Nat) (b : ByteArray) (p e : Int) : HP := cells g #[.string b, .int .i64 p, .int .i64 e] 85
variable {N : Nat → Prop} {w0 w : World} {g : Nat} {b : ByteArray} {p e : Int}
theorem pNum (HT : Aside0 (Tab w0)) (hB : Below w0.heap.size w0 w) (hge : w0.heap.size ≤ g) (hs : b.size ≤ 140737488351232) (l v p2 e2 : Int) (hq : numR b p e l = (v, p2, e2)) (h : Own N w [RP g b p e]) :
    Calls Tryd.prog 19 #[.pointer (some ⟨g, 0, none⟩), .int .i64 l] w fun e_ w' => e_ = .returned (.int .i64 v) ∧ Own N w' [RP g b p2 e2] ∧ KeepS N w w' := by
  have h1 : v = (numR b p e l).1 := by rw [hq]
  have h2 : p2 = (numR b p e l).2.1 := by rw [hq]
  have h3 : e2 = (numR b p e l).2.2 := by rw [hq]
  subst h1 h2 h3
  exact (pack_Reader_Number.calls 14 g b p e l _ _ _ _ w0 w HT ⟨h.blk (i := 0) rfl, hge⟩ hB (pnum 0 b p e l hs)).mono fun e_ w' ⟨he, hI, hB', hK⟩ => ⟨he, obj_step h hB hB' hI.1 hK⟩
theorem pSgn (HT : Aside0 (Tab w0)) (hB : Below w0.heap.size w0 w) (hge : w0.heap.size ≤ g) (hs : b.size ≤ 140737488351232) (v p2 e2 : Int) (hq : sgnR b p e = (v, p2, e2)) (h : Own N w [RP g b p e]) :
    Calls Tryd.prog 25 #[.pointer (some ⟨g, 0, none⟩)] w fun e_ w' => e_ = .returned (.int .i64 v) ∧ Own N w' [RP g b p2 e2] ∧ KeepS N w w' := by
  have h1 : v = (sgnR b p e).1 := by rw [hq]
  have h2 : p2 = (sgnR b p e).2.1 := by rw [hq]
  have h3 : e2 = (sgnR b p e).2.2 := by rw [hq]
  subst h1 h2 h3
  exact (pack_Reader_Signed.calls 14 g b p e _ _ _ _ w0 w HT ⟨h.blk (i := 0) rfl, hge⟩ hB (psgn 0 b p e hs)).mono fun e_ w' ⟨he, hI, hB', hK⟩ => ⟨he, obj_step h hB hB' hI.1 hK⟩
theorem pTxt (HT : Aside0 (Tab w0)) (hB : Below w0.heap.size w0 w) (hge : w0.heap.size ≤ g) (hs : b.size ≤ 140737488351232) (h0 : 0 ≤ p) (h1 : p ≤ b.size) (l : Int) (v : ByteArray) (p2 e2 : Int) (hq : txtR b p e l = (v, p2, e2)) (h : Own N w [RP g b p e]) :
    Calls Tryd.prog 20 #[.pointer (some ⟨g, 0, none⟩), .int .i64 l] w fun e_ w' => e_ = .returned (.string v) ∧ Own N w' [RP g b p2 e2] ∧ KeepS N w w' := by
  have h3 : v = (txtR b p e l).1 := by rw [hq]
  have h4 : p2 = (txtR b p e l).2.1 := by rw [hq]
  have h5 : e2 = (txtR b p e l).2.2 := by rw [hq]
  subst h3 h4 h5
  exact (pack_Reader_Text.calls 14 g b p e l _ _ _ _ w0 w HT ⟨h.blk (i := 0) rfl, hge⟩ hB (ptxt 0 b p e l hs h0 h1)).mono fun e_ w' ⟨he, hI, hB', hK⟩ => ⟨he, obj_step h hB hB' hI.1 hK⟩
theorem pEnd (hB : Below w0.heap.size w0 w) (hge : w0.heap.size ≤ g) (h : Own N w [RP g b p e]) :
    Calls Tryd.prog 21 #[.pointer (some ⟨g, 0, none⟩)] w fun e_ w' => e_ = .returned (.int .i64 (endR b p e)) ∧ Own N w' [RP g b p (endR b p e)] ∧ KeepS N w w' :=
  (pack_Reader_End.calls g b p e _ _ _ _ w0 w ⟨h.blk (i := 0) rfl, hge⟩ hB (pend b p e)).mono fun e_ w' ⟨he, hI, hB', hK⟩ => ⟨he, obj_step h hB hB' hI.1 hK⟩
theorem pErr (hB : Below w0.heap.size w0 w) (hge : w0.heap.size ≤ g) (h : Own N w [RP g b p e]) :
    Calls Tryd.prog 22 #[.pointer (some ⟨g, 0, none⟩)] w fun e_ w' => e_ = .returned (.int .i64 e) ∧ Own N w' [RP g b p e] ∧ KeepS N w w' :=
  (pack_Reader_Err.calls g b p e _ _ _ _ w0 w ⟨h.blk (i := 0) rfl, hge⟩ hB rfl).mono fun e_ w' ⟨he, hI, hB', hK⟩ => ⟨he, obj_step h hB hB' hI.1 hK⟩
theorem pRead {N : Nat → Prop} {w0 w : World} (b : ByteArray) (hB : Below w0.heap.size w0 w) (h : Own N w []) :
    Calls Tryd.prog 18 #[.string b] w fun e_ w' => ∃ g, e_ = .returned (.pointer (some ⟨g, 0, none⟩)) ∧ Own N w' [RP g b 0 0] ∧ KeepS N w w' :=
  (pack_Read.calls b _ _ _ w w (Below.refl _ _) rfl).mono fun e_ w' ⟨g, he, hI, _, hb⟩ => ⟨g, he, h.push (RP g b 0 0) hb.size (fun k hk => hb.block k hk) (F := fun k => k = g) ⟨rfl, hI.1⟩ (fun k hk => by rw [hk]; exact hI.2), KeepS.of_below hb⟩
theorem at_E {w : World} {ok : Nat → Prop} {A : Option Addr} {n : Nat} {xs : List S46} (h : Kd.F k46 w ok A n xs) (i : Int) (h0 : 0 ≤ i) (h1 : i < n) : ∃ ad, A = some ad ∧ w.cell? (ad.add (i.toNat * 3)) = some (.int .i64 (rd_T46 xs i).f0) ∧ w.cell? ⟨(ad.add (i.toNat * 3)).block, (ad.add (i.toNat * 3)).off + 1, none⟩ = some (.int .i64 (rd_T46 xs i).f1) ∧ w.cell? ⟨(ad.add (i.toNat * 3)).block, (ad.add (i.toNat * 3)).off + 2, none⟩ = some (.string (rd_T46 xs i).f2) := by
  obtain ⟨ad, c, e, _, hK, hc0, _⟩ := Kd.F_get h z46 i h0 h1
  have hc : ∀ j u, c[j]? = some u → w.cell? (ad.add (i.toNat * 3 + j)) = some u := hc0
  obtain rfl := k46_open (Kd.FK_now hK)
  exact ⟨ad, e, hc 0 _ rfl, by rw [← add_field _ _ 1 (by omega)]; exact hc 1 _ rfl, by rw [← add_field _ _ 2 (by omega)]; exact hc 2 _ rfl⟩
theorem heapE : Kd.Heap k46 := Kd.heap_iso _ (Kd.heap_pair (Kd.heap_int _) (Kd.heap_pair (Kd.heap_int _) Kd.heap_string))
end Go.Proofs.YtfbdfnclkchofaaDoor.J
