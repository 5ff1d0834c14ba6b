/- Short words for side goals that a walk shows by itself. -/
import Derived.Test.YtjdenpmaianmfaaDoorY6WMore
namespace Go.Proofs.YtjdenpmaianmfaaDoorW.PrintWords
set_option linter.unusedVariables false
open Go RowKit YtjdenpmaianmfaaDoorW.PrintLast
section
variable {α : Sort _} {x y : α} {B g : Nat} {w0 w w' : World} {ob : Obj}
theorem gs_ (e : x = y := by first | (go_simp; done) | (go_simp; rfl)) : x = y := e
theorem am_ (e : x = y := by (try simp only [List.map_toArray, List.map_cons, List.map_nil]); first | done | rfl | (simp only [List.length_drop, List.length_take]; rfl)) : x = y := e
theorem er_ (e : x = y := by first | rfl | (simp; done) | (simp [*]; done) | (simp; exact isEmpty_bne _)) : x = y := e
theorem es_ (e : x = y := by first | rfl | (simp; done) | (simp [*]; done)) : x = y := e
theorem ew_ (e : x = y := by first | rfl | (simp [errW_none, errW_some] <;> rfl) | (simp [*, errW_none, errW_some] <;> rfl)) : x = y := e
theorem bl_ (H : Aside0 (Below B w0 w)) (e : Below B w0 w → Below B w0 w' := by (intro h_; repeat (first | (with_reducible first | exact h_ | apply below_alloc | apply pw_below_drewN | apply below_drew1 | refine below_set ?_ (Aside0.out (by assumption))) | exact h_))) : Below B w0 w' := e H.out
theorem bk_ (H : Aside0 (w.heap[g]? = some ob)) (e : w.heap[g]? = some ob → w'.heap[g]? = some ob := by (intro h_; (with_reducible repeat (first | refine blk_drewN ?_ _ | refine blk_drew ?_ | refine blk_alloc ?_ _)); exact h_)) : w'.heap[g]? = some ob := e H.out
theorem kb3_ {v0 v1 v2 : Value} {t : TypeId} (h : Aside0 (w.heap[g]? = some (.cells #[v0, v1, v2] t (0, 0)))) : w.cell? ⟨g, 0, none⟩ = some v0 ∧ w.cell? ⟨g, 1, none⟩ = some v1 ∧ w.cell? ⟨g, 2, none⟩ = some v2 ∧ ∀ i, w.frozen? ⟨g, i, none⟩ = false := ⟨(blk_cell h.out 0).trans rfl, (blk_cell h.out 1).trans rfl, (blk_cell h.out 2).trans rfl, fun i => blk_frozen h.out i⟩
theorem kb4_ {v0 v1 v2 v3 : Value} {t : TypeId} (h : Aside0 (w.heap[g]? = some (.cells #[v0, v1, v2, v3] t (0, 0)))) : w.cell? ⟨g, 0, none⟩ = some v0 ∧ w.cell? ⟨g, 1, none⟩ = some v1 ∧ w.cell? ⟨g, 2, none⟩ = some v2 ∧ w.cell? ⟨g, 3, none⟩ = some v3 ∧ ∀ i, w.frozen? ⟨g, i, none⟩ = false := ⟨(blk_cell h.out 0).trans rfl, (blk_cell h.out 1).trans rfl, (blk_cell h.out 2).trans rfl, (blk_cell h.out 3).trans rfl, fun i => blk_frozen h.out i⟩
theorem kb6_ {v0 v1 v2 v3 v4 v5 : Value} {t : TypeId} (h : Aside0 (w.heap[g]? = some (.cells #[v0, v1, v2, v3, v4, v5] t (0, 0)))) : w.cell? ⟨g, 0, none⟩ = some v0 ∧ w.cell? ⟨g, 1, none⟩ = some v1 ∧ w.cell? ⟨g, 2, none⟩ = some v2 ∧ w.cell? ⟨g, 3, none⟩ = some v3 ∧ w.cell? ⟨g, 4, none⟩ = some v4 ∧ w.cell? ⟨g, 5, none⟩ = some v5 ∧ ∀ i, w.frozen? ⟨g, i, none⟩ = false := ⟨(blk_cell h.out 0).trans rfl, (blk_cell h.out 1).trans rfl, (blk_cell h.out 2).trans rfl, (blk_cell h.out 3).trans rfl, (blk_cell h.out 4).trans rfl, (blk_cell h.out 5).trans rfl, fun i => blk_frozen h.out i⟩
theorem j1_ {p0 F R : Prop} (h : p0 ∧ F) (r : R) : p0 ∧ R := ⟨h.1, r⟩
theorem p3_ {p0 p1 p2 F : Prop} (h : p0 ∧ p1 ∧ p2 ∧ F) : p0 ∧ p1 ∧ p2 := ⟨h.1, h.2.1, h.2.2.1⟩
theorem p4_ {p0 p1 p2 p3 F : Prop} (h : p0 ∧ p1 ∧ p2 ∧ p3 ∧ F) : p0 ∧ p1 ∧ p2 ∧ p3 := ⟨h.1, h.2.1, h.2.2.1, h.2.2.2.1⟩
theorem j4_ {p0 p1 p2 p3 F R : Prop} (h : p0 ∧ p1 ∧ p2 ∧ p3 ∧ F) (r : R) : p0 ∧ p1 ∧ p2 ∧ p3 ∧ R := ⟨h.1, h.2.1, h.2.2.1, h.2.2.2.1, r⟩
theorem p5_ {p0 p1 p2 p3 p4 F : Prop} (h : p0 ∧ p1 ∧ p2 ∧ p3 ∧ p4 ∧ F) : p0 ∧ p1 ∧ p2 ∧ p3 ∧ p4 := ⟨h.1, h.2.1, h.2.2.1, h.2.2.2.1, h.2.2.2.2.1⟩
theorem p8_ {p0 p1 p2 p3 p4 p5 p6 p7 F : Prop} (h : p0 ∧ p1 ∧ p2 ∧ p3 ∧ p4 ∧ p5 ∧ p6 ∧ p7 ∧ F) : p0 ∧ p1 ∧ p2 ∧ p3 ∧ p4 ∧ p5 ∧ p6 ∧ p7 := ⟨h.1, h.2.1, h.2.2.1, h.2.2.2.1, h.2.2.2.2.1, h.2.2.2.2.2.1, h.2.2.2.2.2.2.1, h.2.2.2.2.2.2.2.1⟩
theorem rp_ {p q : Prop} {β : Type _} {y t : β} (H : p) (hy : y = t) (e : y = t → p → q := by (intro hy_ H_; first | (rw [hy_]; with_reducible exact H_) | (have H2_ := (Option.bind_some _ _).symm.trans H_; rw [hy_]; with_reducible exact H2_) | (have H2_ := (Option.bind_some _ _).symm.trans H_; with_reducible exact H2_) | with_reducible exact H_ | (rw [hy_]; exact H_) | exact H_)) : q := e hy H
theorem hx_ {p : Addr} {v : Value} (HB : Aside0 (Below w.heap.size w w')) (h : w.cell? p = some v) : w'.cell? p = some v := (HB.out.cell (World.block_lt_of_cell? w _ h)).trans h
theorem bb_ {w2 : World} (H : Aside0 (w.heap[g]? = some ob)) (hb : Below w'.heap.size w' w2) (e : w.heap[g]? = some ob → w'.heap[g]? = some ob := by (intro h_; (with_reducible repeat (first | refine blk_drewN ?_ _ | refine blk_drew ?_ | refine blk_alloc ?_ _)); exact h_)) : Aside0 (w2.heap[g]? = some ob) := ⟨blk_below (e H.out) hb⟩
theorem Am {p : Prop} (h : p) : Aside0 p := ⟨h⟩
theorem od_ {p : Prop} [Decidable p] (h : decide p = true := by first | (with_reducible assumption) | assumption) : p := of_decide_eq_true h
theorem gw_ (hg : g = w'.heap.size) (H : Aside0 (Below w0.heap.size w0 w)) (e : Below w0.heap.size w0 w → Below w0.heap.size w0 w' := by (intro h_; repeat (first | (with_reducible first | exact h_ | apply below_alloc | apply pw_below_drewN | apply below_drew1 | refine below_set ?_ (Aside0.out (by assumption))) | exact h_))) : w0.heap.size ≤ g := by rw [hg]; exact below_size (e H.out)
theorem nl_ {g2 : Nat} (hg : g2 = w'.heap.size) (H : Aside0 (w.heap[g]? = some ob)) (e : w.heap[g]? = some ob → w'.heap[g]? = some ob := by (intro h_; (with_reducible repeat (first | refine blk_drewN ?_ _ | refine blk_drew ?_ | refine blk_alloc ?_ _)); exact h_)) : g ≠ g2 := by rw [hg]; exact Nat.ne_of_lt (blk_lt (e H.out))
theorem ng_ {g2 : Nat} (hg : g2 = w'.heap.size) (H : Aside0 (w.heap[g]? = some ob)) (e : w.heap[g]? = some ob → w'.heap[g]? = some ob := by (intro h_; (with_reducible repeat (first | refine blk_drewN ?_ _ | refine blk_drew ?_ | refine blk_alloc ?_ _)); exact h_)) : g2 ≠ g := by rw [hg]; exact Nat.ne_of_gt (blk_lt (e H.out))
theorem rk_ {β : Type} {d : Kd β} {t : TypeId} {ok : Nat → Prop} {v : Value} {xs : List β} (H : Aside0 (d.R t w B ok v xs)) (e : d.R t w B ok v xs → d.R t w' B ok v xs := by (intro h_; (with_reducible repeat (first | apply Kd.R_alloc | apply Kd.R_drewN | apply Kd.R_drew)); exact h_)) : d.R t w' B ok v xs := e H.out
theorem ck_ {β : Type} {d : Kd β} {A : Option Addr} {n : Nat} {xs : List β} (H : Aside0 (d.C w A n xs)) (e : d.C w A n xs → d.C w' A n xs := by (intro h_; repeat (first | (with_reducible exact h_) | (with_reducible refine Kd.C_alloc ?_ _) | (with_reducible refine Kd.C_drewN ?_ _) | (with_reducible refine Kd.C_drew ?_) | exact h_))) : d.C w' A n xs := e H.out
instance : Coe Int Value := ⟨fun x => .int .i64 x⟩
instance : Coe Nat Value := ⟨fun n => .int .i64 (n : Int)⟩
instance : Coe ByteArray Value := ⟨fun x => .string x⟩
instance : Coe Bool Value := ⟨fun x => .bool x⟩
end
section
variable {P : Program} {ops : Array Oper} {rest : List Oper} {o : Oper} {a : Act} {Q : Exit → Act → World → Prop} {W : World}
theorem gD (N : Tmp) (_hN : o.dst = some N) (h : wpList P ops Q (o :: rest) a W) : wpList P ops Q (o :: rest) a W := h
theorem gT (t : TypeId) (p : Tmp) {v : Operand} (_ho : o.op = .store t (.tmp p) v) (h : wpList P ops Q (o :: rest) a W) : wpList P ops Q (o :: rest) a W := h
theorem gC (f : FuncId) {as : Array Operand} {ts : Array TypeId} (_ho : o.op = .call { callee := .value (.func f), args := as, argTypes := ts }) (h : wpList P ops Q (o :: rest) a W) : wpList P ops Q (o :: rest) a W := h
abbrev c1_ (g : Nat) (v0 : Value) (w : World) : Prop := w.cell? ⟨g, 0, none⟩ = some v0
abbrev d1_ (g : Nat) (v0 : Value) (R : World → Prop) (w : World) : Prop := w.cell? ⟨g, 0, none⟩ = some v0 ∧ R w
abbrev d2_ (g : Nat) (v0 v1 : Value) (R : World → Prop) (w : World) : Prop := w.cell? ⟨g, 0, none⟩ = some v0 ∧ w.cell? ⟨g, 1, none⟩ = some v1 ∧ R w
abbrev c3_ (g : Nat) (v0 v1 v2 : Value) (w : World) : Prop := w.cell? ⟨g, 0, none⟩ = some v0 ∧ w.cell? ⟨g, 1, none⟩ = some v1 ∧ w.cell? ⟨g, 2, none⟩ = some v2
abbrev d3_ (g : Nat) (v0 v1 v2 : Value) (R : World → Prop) (w : World) : Prop := w.cell? ⟨g, 0, none⟩ = some v0 ∧ w.cell? ⟨g, 1, none⟩ = some v1 ∧ w.cell? ⟨g, 2, none⟩ = some v2 ∧ R w
abbrev c4_ (g : Nat) (v0 v1 v2 v3 : Value) (w : World) : Prop := w.cell? ⟨g, 0, none⟩ = some v0 ∧ w.cell? ⟨g, 1, none⟩ = some v1 ∧ w.cell? ⟨g, 2, none⟩ = some v2 ∧ w.cell? ⟨g, 3, none⟩ = some v3
abbrev d4_ (g : Nat) (v0 v1 v2 v3 : Value) (R : World → Prop) (w : World) : Prop := w.cell? ⟨g, 0, none⟩ = some v0 ∧ w.cell? ⟨g, 1, none⟩ = some v1 ∧ w.cell? ⟨g, 2, none⟩ = some v2 ∧ w.cell? ⟨g, 3, none⟩ = some v3 ∧ R w
abbrev c5_ (g : Nat) (v0 v1 v2 v3 v4 : Value) (w : World) : Prop := w.cell? ⟨g, 0, none⟩ = some v0 ∧ w.cell? ⟨g, 1, none⟩ = some v1 ∧ w.cell? ⟨g, 2, none⟩ = some v2 ∧ w.cell? ⟨g, 3, none⟩ = some v3 ∧ w.cell? ⟨g, 4, none⟩ = some v4
abbrev d5_ (g : Nat) (v0 v1 v2 v3 v4 : Value) (R : World → Prop) (w : World) : Prop := w.cell? ⟨g, 0, none⟩ = some v0 ∧ w.cell? ⟨g, 1, none⟩ = some v1 ∧ w.cell? ⟨g, 2, none⟩ = some v2 ∧ w.cell? ⟨g, 3, none⟩ = some v3 ∧ w.cell? ⟨g, 4, none⟩ = some v4 ∧ R w
abbrev c8_ (g : Nat) (v0 v1 v2 v3 v4 v5 v6 v7 : Value) (w : World) : Prop := w.cell? ⟨g, 0, none⟩ = some v0 ∧ w.cell? ⟨g, 1, none⟩ = some v1 ∧ w.cell? ⟨g, 2, none⟩ = some v2 ∧ w.cell? ⟨g, 3, none⟩ = some v3 ∧ w.cell? ⟨g, 4, none⟩ = some v4 ∧ w.cell? ⟨g, 5, none⟩ = some v5 ∧ w.cell? ⟨g, 6, none⟩ = some v6 ∧ w.cell? ⟨g, 7, none⟩ = some v7
end
section
variable {P : Program} {ops : Array Oper} {Q : Exit → Act → World → Prop} {md : Region.Mode} {S : World → Prop} {ds : List Nat} {oi oj : Oper} {fuel : Nat} {l l' li lj : Array Bool} {a a' : Act} {w : World}
theorem nR_ (h : wpAnyLast P md ops Q S ds fuel l a' w) (ha : a = a' := by (simp only [Act.put, List.setIfInBounds_toArray, List.set_cons_zero, List.set_cons_succ, i64_w, i32_w]; rfl)) : wpAnyLast P md ops Q S ds fuel l a w := norm_ ha h
theorem nA_ (h : wpAnyLast P md ops Q S ds fuel l a' w) (ha : a = a' := by (simp only [putAll, Act.put, List.setIfInBounds_toArray, List.set_cons_zero, List.set_cons_succ]; rfl)) : wpAnyLast P md ops Q S ds fuel l a w := norm_ ha h
theorem tW_ (i j : Nat) (Ni Nj : Option Tmp)
  (h1 : ∀ K : Act → World → Prop, Shut (∀ a' w', S w' → (S w' → wpAnyLast P md ops Q S ds fuel li a' w') → K a' w') → if Region.wanted oi (yielded ops a.tmps) = true then Oper.wp P oi a w K Q else K (a.put Ni undef) w)
  (h2 : ∀ K : Act → World → Prop, Shut (∀ a' w', S w' → (S w' → wpAnyLast P md ops Q S ds fuel lj a' w') → K a' w') → if Region.wanted oj (yielded ops a.tmps) = true then Oper.wp P oj a w K Q else K (a.put Nj undef) w)
  (hi : ops[i]? = some oi := by rfl) (hj : ops[j]? = some oj := by rfl) (hNi : oi.dst = Ni := by rfl) (hNj : oj.dst = Nj := by rfl) (hli : l.setIfInBounds i true = li := by (simp only [List.setIfInBounds_toArray, List.set_cons_zero, List.set_cons_succ]; rfl)) (hlj : l.setIfInBounds j true = lj := by (simp only [List.setIfInBounds_toArray, List.set_cons_zero, List.set_cons_succ]; rfl))
  (hc : (Region.ready md ops l == [i, j] && l.setIfInBounds i true == li && l.setIfInBounds j true == lj) = true := by kernel_rfl) (hdi : i ∉ ds := by decide) (hdj : j ∉ ds := by decide) : wpAnyLast P md ops Q S ds (fuel + 1) l a w := two_ li lj hi hj hNi hNj hc hdi hdj h1 h2
theorem dN {n : Nat} (h : Q .normal a w) (hr : (Region.ready md ops l == []) = true := by kernel_rfl) : wpAnyLast P md ops Q S ds n l a w := done_ hr h
end
end Go.Proofs.YtjdenpmaianmfaaDoorW.PrintWords
