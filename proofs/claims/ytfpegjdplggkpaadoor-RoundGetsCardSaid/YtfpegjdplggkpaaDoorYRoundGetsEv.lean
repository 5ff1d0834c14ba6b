/- Steps of a walk that keep a list of resources: a new block, a store, a literal, an append, alone and in a region that draws its order. Plain lemmas, for any program. -/
import Derived.Test.YtfpegjdplggkpaaDoorYRoundGetsSep
import Derived.Test.YtfpegjdplggkpaaDoorYRoundGetsWMore
namespace Go.Proofs.YtfpegjdplggkpaaDoor.Sep
set_option linter.unusedSimpArgs false
set_option linter.unusedVariables false
open Go Go.RowKit Go.Proofs.YtfpegjdplggkpaaDoorW.PrintWords Go.Proofs.YtfpegjdplggkpaaDoorW.PrintLast Go.Proofs.YtfpegjdplggkpaaDoorW.PrintMore
section
variable {P : Program} {ops : Array Oper} {rest : List Oper} {o : Oper} {a : Act} {Q : Exit → Act → World → Prop} {Kc : Act → World → Prop} {N : Nat → Prop} {W : World} {l l' : List HP}
theorem own_box (hgd : o.guard = none) {D : Tmp} (_hd : o.dst = some D) {cs : Array Value} {t : TypeId}
  (hrun : (execOp a.eval o).run P W = .ok (.value (.pointer (some ⟨W.heap.size, 0, none⟩))) (W.alloc (.cells cs t (0, 0)))) (h : Own N W l)
  (k : ∀ g w1, Own N w1 (l ++ [cells g cs t]) → KeepS N W w1 → wpList P ops Q rest (a.put o.dst (.pointer (some ⟨g, 0, none⟩))) w1) : wpList P ops Q (o :: rest) a W :=
 Kd.event_run hgd hrun (k _ _ (h.new cs t) (KeepS.alloc _))
theorem own_box_step {N' : Option Tmp} (hN : o.dst = N') (hw : Region.wanted o (yielded ops a.tmps) = true) {cs : Array Value} {t : TypeId}
  (hrun : (execOp a.eval o).run P W = .ok (.value (.pointer (some ⟨W.heap.size, 0, none⟩))) (W.alloc (.cells cs t (0, 0)))) (h : Own N W l)
  (k : ∀ g w1, Own N w1 (l ++ [cells g cs t]) → KeepS N W w1 → Kc (a.put N' (.pointer (some ⟨g, 0, none⟩))) w1) : if Region.wanted o (yielded ops a.tmps) = true then Oper.wp P o a W Kc Q else Kc (a.put N' undef) W :=
 value_ hw hN hrun (k _ _ (h.new cs t) (KeepS.alloc _))
theorem own_store {w1 : World} (hgd : o.guard = none) {t : TypeId} {p : Tmp} {v : Operand} (_ho : o.op = .store t (.tmp p) v) (hN : o.dst = none)
  (hrun : (execOp a.eval o).run P W = .ok .skip w1) (h : Own N w1 l') (hk : KeepS N W w1) (k : ∀ w', Own N w' l' → KeepS N W w' → wpList P ops Q rest a w') : wpList P ops Q (o :: rest) a W :=
 store_event hgd _ho hN hrun (fun w' e => by subst e; exact k _ h hk)
theorem own_store_step {w1 : World} (hw : Region.wanted o (yielded ops a.tmps) = true) (hN : o.dst = none)
  (hrun : (execOp a.eval o).run P W = .ok .skip w1) (h : Own N w1 l') (hk : KeepS N W w1) (k : ∀ w', Own N w' l' → KeepS N W w' → Kc a w') : if Region.wanted o (yielded ops a.tmps) = true then Oper.wp P o a W Kc Q else Kc (a.put none undef) W :=
 skip_ hw hN hrun (k _ h hk)
variable {α : Type} {e : TypeId} {d : Kd α} {xs ys : List α}
end
section
variable {α : Type} {d : Kd α} {e : TypeId} {N : Nat → Prop} {W : World} {l : List HP} {i j : Nat} {v : Value} {A : Option Addr} {m c : Nat} {xs ys : List α} {p : α} {cs : List Value}
variable {P : Program} {ops : Array Oper} {o : Oper} {a : Act} {Q : Exit → Act → World → Prop} {Kc : Act → World → Prop}
end
end Go.Proofs.YtfpegjdplggkpaaDoor.Sep
