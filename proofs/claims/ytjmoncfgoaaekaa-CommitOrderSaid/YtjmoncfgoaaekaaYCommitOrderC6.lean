/- What the laws of package commit ask of its calls. -/
import Derived.Test.YtjmoncfgoaaekaaYCommitOrderC5
import Derived.Test.YtjmoncfgoaaekaaYCommitOrderG14
namespace Go.Proofs.Ytjmoncfgoaaekaa.J
set_option linter.unusedSimpArgs false
set_option linter.unusedVariables false
open Go Go.RowKit Go.Proofs.YtjmoncfgoaaekaaW.PrintWords Go.Proofs.YtjmoncfgoaaekaaW.PrintLast Go.Proofs.YtjmoncfgoaaekaaW.PrintMore Go.Proofs.Ytjmoncfgoaaekaa.Q Go.Proofs.Ytjmoncfgoaaekaa.Sep Go.Proofs.Ytjmoncfgoaaekaa.Pure
theorem heapU : Kd.Heap k47 := Kd.heap_iso _ (Kd.heap_pair Kd.heap_string (Kd.heap_pair (Kd.heap_int _) (Kd.heap_pair (Kd.heap_int _) Kd.heap_string)))
theorem heapR : Kd.Heap k31 := Kd.heap_iso _ (Kd.heap_pair (Kd.heap_int _) (Kd.heap_pair (Kd.heap_int _) (Kd.heap_slice _ heapU)))
variable {N : Nat → Prop} {w : World} {g : Nat} {C : Int} {L : List Rnd}
theorem New_n (n C : Int) (hn : mn (mx n 1) 64 = C) (h : Own N w []) :
    Calls Try.prog 9 #[.int .i64 n] w fun e w' => ∃ g, e = .returned (.pointer (some ⟨g, 0, none⟩)) ∧ Own N w' [ObjC g C []] ∧ KeepS N w w' := by
  rw [← hn]
  exact New n h
theorem C_range (n : Int) : 1 ≤ mn (mx n 1) 64 ∧ mn (mx n 1) 64 ≤ 64 := by unfold mn mx; (repeat' split) <;> omega
theorem All_g (h : Own N w [ObjC g C L]) (hL : L.length ≤ 1000000) (hg : Good C L) :
    Calls Try.prog 17 #[.pointer (some ⟨g, 0, none⟩)] w fun e_ w' => ∃ A1 c1, e_ = .returned (.slice A1 L.length c1) ∧ Own N w' [ObjC g C L, nrow k31 31 (.slice A1 L.length c1) L] ∧ KeepS N w w' :=
  All h hL ⟨fun x a b => Nat.le_trans (good_short hg x a b) (by decide)⟩
end Go.Proofs.Ytjmoncfgoaaekaa.J
