/- A map as a resource; its operations in a walk. -/
import Derived.Test.YtjdenpmaianmfaaDoorYModelPrefixEv
import Derived.Maps.RangeWalk
namespace Go.Proofs.YtjdenpmaianmfaaDoor.Sep
set_option linter.unusedSimpArgs false
set_option linter.unusedVariables false
open Go Go.RowKit Go.Proofs.YtjdenpmaianmfaaDoorW.PrintWords Go.Proofs.YtjdenpmaianmfaaDoorW.PrintLast Go.Proofs.YtjdenpmaianmfaaDoorW.PrintMore
section
variable (Pr : Program) (K : TypeId) (R : Value → Option (DataW Unit × List MemPlace))
def mp (b n : Nat) (D : DataW Unit) : HP where
 P := fun F w => F b ∧ w.ownsMap Pr K R b n D
 move := fun h hs hk => by
  obtain ⟨hF, es, clock, hb, r⟩ := h
  exact ⟨hF, es, clock, (hk _ hF (blk_lt hb)).trans hb, r⟩
 mono := fun h hf => ⟨hf _ h.1, h.2⟩
 bound := fun h => ⟨⟨h.1, h.2.lt⟩, h.2⟩
end
variable {Pr : Program} {K : TypeId} {R : Value → Option (DataW Unit × List MemPlace)} {N : Nat → Prop} {w w' W : World} {l : List HP} {i b r n cnt : Nat} {D : DataW Unit} {left : Lit → Bool}
theorem Own.newmap (h : Own N w l) : Own N (w.alloc (.map #[] 0)) (l ++ [mp Pr K R w.heap.size 0 (.map [])]) :=
 h.push _ (by simp) (fun k hk => (MapKept.heap_alloc w _).2 k hk) (F := fun k => k = w.heap.size) ⟨rfl, World.ownsMap_made w Pr K R⟩ (fun k hk => Nat.le_of_eq hk.symm)
theorem Own.map (h : Own N w l) (hi : l[i]? = some (mp Pr K R b n D)) : w.ownsMap Pr K R b n D := by
 obtain ⟨F, h1⟩ := h.fact hi
 exact h1.2
theorem Own.mapfar (h : Own N w l) (hi : l[i]? = some (mp Pr K R b n D)) : ¬ N b := by
 obtain ⟨hN, Fs, h1, h2, h3⟩ := h
 exact (h2 i b (h1 i _ hi).1).1
theorem Own.mapset {n' : Nat} {D' : DataW Unit} (h : Own N w l) (hi : l[i]? = some (mp Pr K R b n D)) (hm : w'.ownsMap Pr K R b n' D') (hg : w.grownBy w' (some b)) : Own N w' (l.set i (mp Pr K R b n' D')) ∧ KeepS N w w' := by
 refine ⟨h.upd hi _ (fun F hp hf => ⟨hg.size, fun k hk hnf => hg.block k hk (fun e => hnf (by cases e; exact hp.1)), F, ⟨hp.1, hm⟩, fun k hk => .inl hk⟩), KeepS.grown hg (fun k e => by cases e; exact h.mapfar hi)⟩
section
variable {ops : Array Oper} {rest : List Oper} {o : Oper} {a : Act} {Q : Exit → Act → World → Prop}
theorem own_map (Pr : Program) (K : TypeId) (R : Value → Option (DataW Unit × List MemPlace)) (hgd : o.guard = none) {T : Tmp} (_hd : o.dst = some T) (hrun : (execOp a.eval o).run Pr W = .ok (.value (.map (some W.heap.size))) (W.alloc (.map #[] 0))) (h : Own N W l)
  (k : ∀ g w1, Own N w1 (l ++ [mp Pr K R g 0 (.map [])]) → KeepS N W w1 → wpList Pr ops Q rest (a.put o.dst (.map (some g))) w1) : wpList Pr ops Q (o :: rest) a W :=
 Kd.event_run hgd hrun (k _ _ h.newmap (KeepS.alloc _))
end
end Go.Proofs.YtjdenpmaianmfaaDoor.Sep
