/- Steps of a walk that keep a list of resources: a new block, a store, a literal, an append, alone and in a region that draws its order. Plain lemmas, for any program. -/
import Derived.Test.YtcmldinhecjcmaaYValueSteadySep
import Derived.Test.YtcmldinhecjcmaaYValueSteadyWMore
namespace Go.Proofs.Ytcmldinhecjcmaa.Sep
set_option linter.unusedSimpArgs false
set_option linter.unusedVariables false
open Go Go.RowKit Go.Proofs.YtcmldinhecjcmaaW.PrintWords Go.Proofs.YtcmldinhecjcmaaW.PrintLast Go.Proofs.YtcmldinhecjcmaaW.PrintMore
section
variable {P : Program} {ops : Array Oper} {rest : List Oper} {o : Oper} {a : Act} {Q : Exit → Act → World → Prop} {Kc : Act → World → Prop} {N : Nat → Prop} {W : World} {l l' : List HP}
theorem own_box (hgd : o.guard = none) {D : Tmp} (_hd : o.dst = some D) {cs : Array Value} {t : TypeId}
    (hrun : (execOp a.eval o).run P W = .ok (.value (.pointer (some ⟨W.heap.size, 0, none⟩))) (W.alloc (.cells cs t (0, 0)))) (h : Own N W l)
    (k : ∀ g w1, Own N w1 (l ++ [cells g cs t]) → KeepS N W w1 → wpList P ops Q rest (a.put o.dst (.pointer (some ⟨g, 0, none⟩))) w1) : wpList P ops Q (o :: rest) a W :=
  Kd.event_run hgd hrun (k _ _ (h.new cs t) (KeepS.alloc _))
theorem own_store {w1 : World} (hgd : o.guard = none) {t : TypeId} {p : Tmp} {v : Operand} (_ho : o.op = .store t (.tmp p) v) (hN : o.dst = none)
    (hrun : (execOp a.eval o).run P W = .ok .skip w1) (h : Own N w1 l') (hk : KeepS N W w1) (k : ∀ w', Own N w' l' → KeepS N W w' → wpList P ops Q rest a w') : wpList P ops Q (o :: rest) a W :=
  store_event hgd _ho hN hrun (fun w' e => by subst e; exact k _ h hk)
variable {α : Type} {e : TypeId} {d : Kd α} {xs ys : List α}
theorem own_lit (d : Kd α) {inner : List Value} (hgd : o.guard = none) {D : Tmp} (_hd : o.dst = some D)
    (hrun : (execOp a.eval o).run P W = .ok (.value (.slice (some ⟨W.heap.size, 0, none⟩) xs.length xs.length)) (W.alloc (.cells inner.toArray e)))
    (hrep : Reps (Kd.FK d W (fun _ => False)) d.sz xs inner) (hm : xs.length ≤ 9223372036854775807) (h : Own N W l)
    (k : ∀ A c w1, Own N w1 (l ++ [nrow d e (.slice A xs.length c) xs]) → KeepS N W w1 → wpList P ops Q rest (a.put o.dst (.slice A xs.length c)) w1) : wpList P ops Q (o :: rest) a W := by
  refine Kd.N_lit d (w0 := W) W.heap.size e hgd (N' := D) _hd (ok := fun k => k = W.heap.size) (okp := fun _ => False) hrun hrep (fun _ h => h.elim) rfl (Below.refl _ _) (Nat.le_refl _) hm ?_
  intro v1 w1 hn hb hg hat
  obtain ⟨A, c, rfl⟩ := Kd.N_slice hn
  exact k A c w1 (h.pushN hb hn (fun k hk => Nat.le_of_eq hk.symm)) (KeepS.of_below hb)
theorem own_lit_step (d : Kd α) {inner : List Value} {N' : Tmp} (hN : o.dst = some N') (hw : Region.wanted o (yielded ops a.tmps) = true)
    (hrun : (execOp a.eval o).run P W = .ok (.value (.slice (some ⟨W.heap.size, 0, none⟩) xs.length xs.length)) (W.alloc (.cells inner.toArray e)))
    (hrep : Reps (Kd.FK d W (fun _ => False)) d.sz xs inner) (hm : xs.length ≤ 9223372036854775807) (h : Own N W l)
    (k : ∀ A c w1, Own N w1 (l ++ [nrow d e (.slice A xs.length c) xs]) → KeepS N W w1 → Kc (a.put (some N') (.slice A xs.length c)) w1) : if Region.wanted o (yielded ops a.tmps) = true then Oper.wp P o a W Kc Q else Kc (a.put (some N') undef) W := by
  rw [← hN]
  refine Kd.N_lit_step d (w0 := W) W.heap.size e hw (N' := N') hN (ok := fun k => k = W.heap.size) (okp := fun _ => False) hrun hrep (fun _ h => h.elim) rfl (Below.refl _ _) (Nat.le_refl _) hm ?_
  intro v1 w1 hn hb hg hat
  obtain ⟨A, c, rfl⟩ := Kd.N_slice hn
  rw [hN]
  exact k A c w1 (h.pushN hb hn (fun k hk => Nat.le_of_eq hk.symm)) (KeepS.of_below hb)
end
section
variable {α : Type} {d : Kd α} {e : TypeId} {N : Nat → Prop} {W : World} {l : List HP} {i j : Nat} {v : Value} {A : Option Addr} {m c : Nat} {xs ys : List α} {p : α} {cs : List Value}
variable {P : Program} {ops : Array Oper} {o : Oper} {a : Act} {Q : Exit → Act → World → Prop} {Kc : Act → World → Prop}
end
end Go.Proofs.Ytcmldinhecjcmaa.Sep
