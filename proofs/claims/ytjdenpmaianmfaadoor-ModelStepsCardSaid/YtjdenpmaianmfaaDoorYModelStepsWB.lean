/- A Writer of package pack as a resource over a base B (its blocks lie from B on): what update.Write makes of it. -/
import Derived.Test.YtjdenpmaianmfaaDoorYModelStepsEv
import Derived.Test.YtjdenpmaianmfaaDoorYModelStepsUA
namespace Go.Proofs.YtjdenpmaianmfaaDoor.J
set_option linter.unusedSimpArgs false
set_option linter.unusedVariables false
open Go Go.RowKit Go.Proofs.YtjdenpmaianmfaaDoorW.PrintWords Go.Proofs.YtjdenpmaianmfaaDoorW.PrintLast Go.Proofs.YtjdenpmaianmfaaDoorW.PrintMore Go.Proofs.YtjdenpmaianmfaaDoor.Q Go.Proofs.YtjdenpmaianmfaaDoor.Sep Go.Proofs.YtjdenpmaianmfaaDoor.Pure Go.Proofs.YtjdenpmaianmfaaDoor.Wr
def WRowB (B g : Nat) (row : Option Nat) (x : Wst) : HP where
 P := fun F w => Has B g row x w ∧ F g ∧ ∀ k, row = some k → F k
 move := fun h _ hk => ⟨Is.kept h.1 (hk g h.2.1 (Is.lt h.1)) (fun k e => hk k (h.2.2 k e) (Is.row_ge h.1 e).2), h.2⟩
 mono := fun h hf => ⟨h.1, hf _ h.2.1, fun k e => hf _ (h.2.2 k e)⟩
 bound := fun h => ⟨h.1, ⟨h.2.1, Is.lt h.1⟩, fun k e => ⟨h.2.2 k e, (Is.row_ge h.1 e).2⟩⟩
def WRB (B g : Nat) (x : Wst) : HP := ex fun row : Option Nat => WRowB B g row x
theorem wb_step {N : Nat → Prop} {w w' : World} {B g : Nat} {row : Option Nat} {x z : Wst} (h : Own N w [WRowB B g row x]) (t : Went B g row z w w') : Own N w' [WRB B g z] ∧ KeepS N w w' := by
 obtain ⟨row', hi', hB, hk, hr⟩ := t
 refine ⟨h.upd (i := 0) rfl (WRB B g z) (fun F hp hf => ⟨hk.1, fun k hk1 hk2 => hk.2 k hk1 (fun e => hk2 (by rw [e]; exact hp.2.1)) (fun e => hk2 (hp.2.2 k e.symm)), fun k => F k ∨ w.heap.size ≤ k, ⟨row', hi', .inl hp.2.1, fun k e => ?_⟩, fun k hk3 => hk3⟩), ?_⟩
 ·rcases hr with rfl | ⟨q, rfl, hq⟩
  ·exact .inl (hp.2.2 k e)
  ·injection e with e
   subst e
   exact .inr hq
 ·obtain ⟨hN, Fs, h1, h2, h3⟩ := h
  have hp := h1 0 _ rfl
  exact ⟨hB.os, hB.tape, hB.output, hk.1, fun k hk1 hn => hk.2 k hk1 (fun e => (h2 0 k (by rw [e]; exact hp.2.1)).1 hn) (fun e => (h2 0 k (hp.2.2 k e.symm)).1 hn)⟩
variable {N : Nat → Prop} {w : World} {B g : Nat} {x : Wst}
theorem wbOpen (h : Own N w [WRB B g x]) : ∃ row, Own N w [WRowB B g row x] ∧ Has B g row x w := by
 obtain ⟨row, h2⟩ := h.of_ex (i := 0) rfl
 refine ⟨row, h2, ?_⟩
 obtain ⟨hN, Fs, h1, _⟩ := h2
 exact (h1 0 _ rfl).1
theorem wbUpd (HT : Aside0 (Tab w)) (ht : 0 < B) (hBw : B ≤ w.heap.size) (k : ByteArray) (c n : Int) (s : ByteArray) (hc : (Lit.int .i64 c).wf = true) (hn : (Lit.int .i64 n).wf = true) (hs : x.1.size + k.size + s.size ≤ 140737488354900) (h : Own N w [WRB B g x]) :
  Calls Tryd.prog 105 #[.pointer (some ⟨g, 0, none⟩), .agg #[.string k, .int .i64 c, .int .i64 n, .string s]] w fun e_ w' => e_ = .returned (.tuple #[]) ∧ Own N w' [WRB B g (addU x k c n s)] ∧ KeepS N w w' := by
 obtain ⟨row, h2, hh⟩ := wbOpen h
 exact (Write k c n s hc hn hh hBw ht HT hs).mono fun e_ w' ⟨he, t⟩ => ⟨he, wb_step h2 t⟩
theorem wbNum (HT : Aside0 (Tab w)) (hBw : B ≤ w.heap.size) (n : Int) (hn : (Lit.int .i64 n).wf = true) (hs : x.1.size ≤ 140737488355000) (h : Own N w [WRB B g x]) :
  Calls Tryd.prog 104 #[.pointer (some ⟨g, 0, none⟩), .int .i64 n] w fun e_ w' => e_ = .returned (.tuple #[]) ∧ Own N w' [WRB B g (addN x n)] ∧ KeepS N w w' := by
 obtain ⟨row, h2, hh⟩ := wbOpen h
 exact (Number_ n hn hh hBw HT hs).mono fun e_ w' ⟨he, t⟩ => ⟨he, wb_step h2 t⟩
theorem wbBytes (hBw : B ≤ w.heap.size) (b : ByteArray) (e : Int) (hq : told x = (b, e)) (h : Own N w [WRB B g x]) :
  Calls Tryd.prog 106 #[.pointer (some ⟨g, 0, none⟩)] w fun e_ w' => e_ = .returned (.tuple #[.string b, .int .i64 e]) ∧ Own N w' [WRB B g x] ∧ KeepS N w w' := by
 obtain ⟨row, h2, hh⟩ := wbOpen h
 have h1 : b = (told x).1 := by rw [hq]
 have h3 : e = (told x).2 := by rw [hq]
 subst h1 h3
 exact (Bytes_ hh hBw).mono fun e_ w' ⟨he, hi, hb, hk⟩ => ⟨he, wb_step h2 ⟨row, hi, hb, hk, .inl rfl⟩⟩
theorem wbNew {l : List HP} {i : Nat} (hg : B ≤ g) (h : Own N w l) (hi : l[i]? = some (cells g #[.pointer none, .slice none 0 0, .bool false] 158)) : Own N w (l.set i (WRB B g (nil', false))) :=
 h.conv hi _ (fun F hp _ => ⟨none, ⟨.pointer none, .slice none 0 0, rfl, hg, hp.2, World.ownsRowF_nil _ _ _ _, .inl rfl⟩, hp.1, fun k e => by cases e⟩)
end Go.Proofs.YtjdenpmaianmfaaDoor.J
