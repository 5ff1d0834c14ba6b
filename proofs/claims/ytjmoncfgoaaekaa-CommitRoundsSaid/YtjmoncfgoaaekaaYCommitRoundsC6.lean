/- What the laws of package commit ask of its calls. -/
import Derived.Test.YtjmoncfgoaaekaaYCommitRoundsC5
import Derived.Test.YtjmoncfgoaaekaaYCommitRoundsG14
namespace Go.Proofs.Ytjmoncfgoaaekaa.J
set_option linter.unusedSimpArgs false
set_option linter.unusedVariables false
open Go Go.RowKit Go.Proofs.YtjmoncfgoaaekaaW.PrintWords Go.Proofs.YtjmoncfgoaaekaaW.PrintLast Go.Proofs.YtjmoncfgoaaekaaW.PrintMore Go.Proofs.Ytjmoncfgoaaekaa.Q Go.Proofs.Ytjmoncfgoaaekaa.Sep Go.Proofs.Ytjmoncfgoaaekaa.Pure
theorem heapU : Kd.Heap k47 := Kd.heap_iso _ (Kd.heap_pair Kd.heap_string (Kd.heap_pair (Kd.heap_int _) (Kd.heap_pair (Kd.heap_int _) Kd.heap_string)))
theorem heapR : Kd.Heap k31 := Kd.heap_iso _ (Kd.heap_pair (Kd.heap_int _) (Kd.heap_pair (Kd.heap_int _) (Kd.heap_slice _ heapU)))
theorem at_FB {w : World} {ok : Nat → Prop} {A : Option Addr} {n : Nat} {xs : List Rnd} (h : Kd.F k31 w ok A n xs) (i : Int) (h0 : 0 ≤ i) (h1 : i < n) : ∃ ad A2 c2, A = some ad ∧ ok (ad.add (i.toNat * 3)).block ∧ w.cell? (ad.add (i.toNat * 3)) = some (.int .i64 (rd_T31 xs i).f0) ∧ w.cell? ⟨(ad.add (i.toNat * 3)).block, (ad.add (i.toNat * 3)).off + 1, none⟩ = some (.int .i64 (rd_T31 xs i).f1) ∧ w.cell? ⟨(ad.add (i.toNat * 3)).block, (ad.add (i.toNat * 3)).off + 2, none⟩ = some (.slice A2 (rd_T31 xs i).f2.length c2) ∧ (rd_T31 xs i).f2.length ≤ c2 ∧ Kd.F k47 w ok A2 (rd_T31 xs i).f2.length (rd_T31 xs i).f2 := by
  obtain ⟨ad, A2, c2, e, r⟩ := at_F h i h0 h1
  obtain ⟨ad', c', e', _, _, _, hb⟩ := Kd.F_get h z31 i h0 h1
  rw [e] at e'
  injection e' with e'
  subst e'
  exact ⟨ad, A2, c2, e, by rw [add_block]; exact hb (by decide), r⟩
theorem keepCell {N : Nat → Prop} {w w' : World} {a : Addr} {v : Value} (hk : KeepS N w w') (h : w.cell? a = some v) (hb : N a.block) : w'.cell? a = some v :=
  (World.cell?_of_block (w := w) (hk.block a.block (World.block_lt_of_cell? w _ h) hb)).trans h
variable {N : Nat → Prop} {w : World} {g : Nat} {C : Int} {L : List Rnd}
theorem New_n (n C : Int) (hn : mn (mx n 1) 64 = C) (h : Own N w []) :
    Calls Try.prog 9 #[.int .i64 n] w fun e w' => ∃ g, e = .returned (.pointer (some ⟨g, 0, none⟩)) ∧ Own N w' [ObjC g C []] ∧ KeepS N w w' := by
  rw [← hn]
  exact New n h
theorem C_range (n : Int) : 1 ≤ mn (mx n 1) 64 ∧ mn (mx n 1) 64 ≤ 64 := by unfold mn mx; (repeat' split) <;> omega
theorem All_g (h : Own N w [ObjC g C L]) (hL : L.length ≤ 1000000) (hg : Good C L) :
    Calls Try.prog 17 #[.pointer (some ⟨g, 0, none⟩)] w fun e_ w' => ∃ A1 c1, e_ = .returned (.slice A1 L.length c1) ∧ Own N w' [ObjC g C L, nrow k31 31 (.slice A1 L.length c1) L] ∧ KeepS N w w' :=
  All h hL ⟨fun x a b => Nat.le_trans (good_short hg x a b) (by decide)⟩
end Go.Proofs.Ytjmoncfgoaaekaa.J
