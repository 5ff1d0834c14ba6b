/- The pieces that a Feed hands to a Link: plainly. -/
import Derived.Test.YtjmoncfgoaaekaaDoorYFeedPlaysS0
import Derived.Test.YtjmoncfgoaaekaaDoorYFeedPlaysC3
import Derived.Test.YtjmoncfgoaaekaaDoorYFeedPlaysR7P
namespace Go.Proofs.YtjmoncfgoaaekaaDoor.J
set_option linter.unusedSimpArgs false
set_option linter.unusedVariables false
open Go Go.RowKit Go.Proofs.YtjmoncfgoaaekaaDoorW.PrintWords Go.Proofs.YtjmoncfgoaaekaaDoorW.PrintLast Go.Proofs.YtjmoncfgoaaekaaDoorW.PrintMore Go.Proofs.YtjmoncfgoaaekaaDoor.Q Go.Proofs.YtjmoncfgoaaekaaDoor.Sep Go.Proofs.YtjmoncfgoaaekaaDoor.Pure
def bR (r : Rnd) : ByteArray := bytesR r.f0 r.f1 r.f2
def pcs (S : Int) : List Rnd → List Piece
 | [] => []
 | r :: l => (S + 1, bR r) :: pcs (S + 1) l
theorem pcs_nil (S : Int) : pcs S [] = [] := rfl
theorem pcs_len : ∀ (l : List Rnd) (S : Int), (pcs S l).length = l.length
 | [], _ => rfl
 | r :: l, S => by rw [pcs, List.length_cons, List.length_cons, pcs_len l]
theorem pcs_snoc : ∀ (l : List Rnd) (S : Int) (r : Rnd), pcs S (l ++ [r]) = pcs S l ++ [(S + l.length + 1, bR r)]
 | [], S, r => by simp [pcs]
 | q :: l, S, r => by
  rw [List.cons_append, pcs, pcs_snoc l, pcs, List.cons_append, List.length_cons]
  congr 4
  omega
def seg (L : List Rnd) (a m : Int) : List Rnd := (L.drop a.toNat).take m.toNat
theorem seg_0 (L : List Rnd) (a : Int) : seg L a 0 = [] := by simp [seg]
theorem seg_len {L : List Rnd} {a m : Int} (h0 : 0 ≤ a) (h1 : 0 ≤ m) (h : a + m ≤ L.length) : ((seg L a m).length : Int) = m := by
 unfold seg
 rw [List.length_take, List.length_drop]
 omega
theorem seg_snoc {L : List Rnd} {a m : Int} (h0 : 0 ≤ a) (h1 : 0 ≤ m) (h : a + m < L.length) : seg L a (m + 1) = seg L a m ++ [rd_T43 L (a + m)] := by
 unfold seg rd_T43
 rw [show (m + 1).toNat = m.toNat + 1 by omega, List.take_succ_eq_append_getElem (by rw [List.length_drop]; omega), List.getElem_drop, show (a + m).toNat = a.toNat + m.toNat by omega, List.getD_eq_getElem?_getD, List.getElem?_eq_getElem (by omega)]
 rfl
theorem pcs_seg {L : List Rnd} {a m : Int} (S : Int) (h0 : 0 ≤ a) (h1 : 0 ≤ m) (h : a + m < L.length) : pcs S (seg L a (m + 1)) = pcs S (seg L a m) ++ [(S + m + 1, bR (rd_T43 L (a + m)))] := by
 rw [seg_snoc h0 h1 h, pcs_snoc, seg_len h0 h1 (by omega)]
def Pumps (L : List Rnd) (W : Int) (xs : List Piece) (a m : Int) : Prop := 0 ≤ m ∧ a + m ≤ L.length ∧ xs.length + m ≤ W ∧ (a + m = L.length ∨ xs.length + m = W)
theorem Pumps.one {L : List Rnd} {W : Int} {xs : List Piece} {a m m' : Int} (h : Pumps L W xs a m) (h' : Pumps L W xs a m') : m = m' := by
 unfold Pumps at h h'
 omega
end Go.Proofs.YtjmoncfgoaaekaaDoor.J
