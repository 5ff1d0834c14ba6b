/- Short words for side goals that a walk shows by itself. -/
import Derived.Test.YtjdenpmaianmfaaDoorYClientPlaysWLast
import Derived.Test.YtjdenpmaianmfaaDoorYClientPlaysWMore
namespace Go.Proofs.YtjdenpmaianmfaaDoorW.PrintWords
set_option linter.unusedVariables false
open Go Go.RowKit
section
variable {α : Sort _} {x y : α} {B g : Nat} {w0 w w' : World} {ob : Obj}
theorem gs_ (e : x = y := by first | (go_simp; done) | (go_simp; rfl)) : x = y := e
theorem am_ (e : x = y := by (try simp only [List.map_toArray, List.map_cons, List.map_nil]); first | done | rfl | (simp only [List.length_drop, List.length_take]; rfl)) : x = y := e
theorem er_ (e : x = y := by first | rfl | (simp; done) | (simp [*]; done) | (simp; exact isEmpty_bne _)) : x = y := e
theorem es_ (e : x = y := by first | rfl | (simp; done) | (simp [*]; done)) : x = y := e
theorem ew_ (e : x = y := by first | rfl | (simp [errW_none, errW_some] <;> rfl) | (simp [*, errW_none, errW_some] <;> rfl)) : x = y := e
theorem bl_ (H : Aside0 (Below B w0 w)) (e : Below B w0 w → Below B w0 w' := by (intro h_; repeat (first | (with_reducible first | exact h_ | apply below_alloc | apply pw_below_drewN | apply below_drew1 | refine below_set ?_ (Aside0.out (by assumption))) | exact h_))) : Below B w0 w' := e H.out
theorem bk_ (H : Aside0 (w.heap[g]? = some ob)) (e : w.heap[g]? = some ob → w'.heap[g]? = some ob := by (intro h_; (with_reducible repeat (first | refine blk_drewN ?_ _ | refine blk_drew ?_ | refine blk_alloc ?_ _)); exact h_)) : w'.heap[g]? = some ob := e H.out
theorem kb3_ {v0 v1 v2 : Value} {t : TypeId} (h : Aside0 (w.heap[g]? = some (.cells #[v0, v1, v2] t (0, 0)))) : w.cell? ⟨g, 0, none⟩ = some v0 ∧ w.cell? ⟨g, 1, none⟩ = some v1 ∧ w.cell? ⟨g, 2, none⟩ = some v2 ∧ ∀ i, w.frozen? ⟨g, i, none⟩ = false := ⟨(blk_cell h.out 0).trans rfl, (blk_cell h.out 1).trans rfl, (blk_cell h.out 2).trans rfl, fun i => blk_frozen h.out i⟩
theorem kb4_ {v0 v1 v2 v3 : Value} {t : TypeId} (h : Aside0 (w.heap[g]? = some (.cells #[v0, v1, v2, v3] t (0, 0)))) : w.cell? ⟨g, 0, none⟩ = some v0 ∧ w.cell? ⟨g, 1, none⟩ = some v1 ∧ w.cell? ⟨g, 2, none⟩ = some v2 ∧ w.cell? ⟨g, 3, none⟩ = some v3 ∧ ∀ i, w.frozen? ⟨g, i, none⟩ = false := ⟨(blk_cell h.out 0).trans rfl, (blk_cell h.out 1).trans rfl, (blk_cell h.out 2).trans rfl, (blk_cell h.out 3).trans rfl, fun i => blk_frozen h.out i⟩
theorem kb8_ {v0 v1 v2 v3 v4 v5 v6 v7 : Value} {t : TypeId} (h : Aside0 (w.heap[g]? = some (.cells #[v0, v1, v2, v3, v4, v5, v6, v7] t (0, 0)))) : w.cell? ⟨g, 0, none⟩ = some v0 ∧ w.cell? ⟨g, 1, none⟩ = some v1 ∧ w.cell? ⟨g, 2, none⟩ = some v2 ∧ w.cell? ⟨g, 3, none⟩ = some v3 ∧ w.cell? ⟨g, 4, none⟩ = some v4 ∧ w.cell? ⟨g, 5, none⟩ = some v5 ∧ w.cell? ⟨g, 6, none⟩ = some v6 ∧ w.cell? ⟨g, 7, none⟩ = some v7 ∧ ∀ i, w.frozen? ⟨g, i, none⟩ = false := ⟨(blk_cell h.out 0).trans rfl, (blk_cell h.out 1).trans rfl, (blk_cell h.out 2).trans rfl, (blk_cell h.out 3).trans rfl, (blk_cell h.out 4).trans rfl, (blk_cell h.out 5).trans rfl, (blk_cell h.out 6).trans rfl, (blk_cell h.out 7).trans rfl, fun i => blk_frozen h.out i⟩
theorem j1_ {p0 F R : Prop} (h : p0 ∧ F) (r : R) : p0 ∧ R := ⟨h.1, r⟩
theorem j2_ {p0 p1 F R : Prop} (h : p0 ∧ p1 ∧ F) (r : R) : p0 ∧ p1 ∧ R := ⟨h.1, h.2.1, r⟩
theorem p3_ {p0 p1 p2 F : Prop} (h : p0 ∧ p1 ∧ p2 ∧ F) : p0 ∧ p1 ∧ p2 := ⟨h.1, h.2.1, h.2.2.1⟩
theorem j3_ {p0 p1 p2 F R : Prop} (h : p0 ∧ p1 ∧ p2 ∧ F) (r : R) : p0 ∧ p1 ∧ p2 ∧ R := ⟨h.1, h.2.1, h.2.2.1, r⟩
theorem p4_ {p0 p1 p2 p3 F : Prop} (h : p0 ∧ p1 ∧ p2 ∧ p3 ∧ F) : p0 ∧ p1 ∧ p2 ∧ p3 := ⟨h.1, h.2.1, h.2.2.1, h.2.2.2.1⟩
theorem j4_ {p0 p1 p2 p3 F R : Prop} (h : p0 ∧ p1 ∧ p2 ∧ p3 ∧ F) (r : R) : p0 ∧ p1 ∧ p2 ∧ p3 ∧ R := ⟨h.1, h.2.1, h.2.2.1, h.2.2.2.1, r⟩
theorem p7_ {p0 p1 p2 p3 p4 p5 p6 F : Prop} (h : p0 ∧ p1 ∧ p2 ∧ p3 ∧ p4 ∧ p5 ∧ p6 ∧ F) : p0 ∧ p1 ∧ p2 ∧ p3 ∧ p4 ∧ p5 ∧ p6 := ⟨h.1, h.2.1, h.2.2.1, h.2.2.2.1, h.2.2.2.2.1, h.2.2.2.2.2.1, h.2.2.2.2.2.2.1⟩
theorem j7_ {p0 p1 p2 p3 p4 p5 p6 F R : Prop} (h : p0 ∧ p1 ∧ p2 ∧ p3 ∧ p4 ∧ p5 ∧ p6 ∧ F) (r : R) : p0 ∧ p1 ∧ p2 ∧ p3 ∧ p4 ∧ p5 ∧ p6 ∧ R := ⟨h.1, h.2.1, h.2.2.1, h.2.2.2.1, h.2.2.2.2.1, h.2.2.2.2.2.1, h.2.2.2.2.2.2.1, r⟩
theorem p8_ {p0 p1 p2 p3 p4 p5 p6 p7 F : Prop} (h : p0 ∧ p1 ∧ p2 ∧ p3 ∧ p4 ∧ p5 ∧ p6 ∧ p7 ∧ F) : p0 ∧ p1 ∧ p2 ∧ p3 ∧ p4 ∧ p5 ∧ p6 ∧ p7 := ⟨h.1, h.2.1, h.2.2.1, h.2.2.2.1, h.2.2.2.2.1, h.2.2.2.2.2.1, h.2.2.2.2.2.2.1, h.2.2.2.2.2.2.2.1⟩
end
section
variable {P : Program} {ops : Array Oper} {rest : List Oper} {o : Oper} {a : Act} {Q : Exit → Act → World → Prop} {W : World}
theorem gD (N : Tmp) (_hN : o.dst = some N) (h : wpList P ops Q (o :: rest) a W) : wpList P ops Q (o :: rest) a W := h
theorem gT (t : TypeId) (p : Tmp) {v : Operand} (_ho : o.op = .store t (.tmp p) v) (h : wpList P ops Q (o :: rest) a W) : wpList P ops Q (o :: rest) a W := h
theorem gC (f : FuncId) {as : Array Operand} {ts : Array TypeId} (_ho : o.op = .call { callee := .value (.func f), args := as, argTypes := ts }) (h : wpList P ops Q (o :: rest) a W) : wpList P ops Q (o :: rest) a W := h
end
end Go.Proofs.YtjdenpmaianmfaaDoorW.PrintWords
