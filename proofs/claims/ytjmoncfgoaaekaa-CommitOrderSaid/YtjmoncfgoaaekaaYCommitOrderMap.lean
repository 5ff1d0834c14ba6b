/- A map as a resource; its operations in a walk. -/
import Derived.Test.YtjmoncfgoaaekaaYCommitOrderEv
import Derived.Maps.RangeWalk
namespace Go.Proofs.Ytjmoncfgoaaekaa.Sep
set_option linter.unusedSimpArgs false
set_option linter.unusedVariables false
open Go Go.RowKit Go.Proofs.YtjmoncfgoaaekaaW.PrintWords Go.Proofs.YtjmoncfgoaaekaaW.PrintLast Go.Proofs.YtjmoncfgoaaekaaW.PrintMore
section
variable (Pr : Program) (K : TypeId) (R : Value → Option (DataW Unit × List MemPlace))
def mp (b n : Nat) (D : DataW Unit) : HP where
  P := fun F w => F b ∧ w.ownsMap Pr K R b n D
  move := fun h hs hk => by
    obtain ⟨hF, es, clock, hb, r⟩ := h
    exact ⟨hF, es, clock, (hk _ hF (blk_lt hb)).trans hb, r⟩
  mono := fun h hf => ⟨hf _ h.1, h.2⟩
  bound := fun h => ⟨⟨h.1, h.2.lt⟩, h.2⟩
def rng (b r n : Nat) (D : DataW Unit) (left : Lit → Bool) (cnt : Nat) : HP where
  P := fun F w => (F b ∧ F r) ∧ w.ranges Pr K R b r n D left cnt
  move := fun h hs hk => by
    obtain ⟨hF, es, clock, since, seen, c0, hb, F, hz, hD, hr, rest⟩ := h
    exact ⟨hF, es, clock, since, seen, c0, (hk _ hF.1 (blk_lt hb)).trans hb, F, hz, hD, (hk _ hF.2 (blk_lt hr)).trans hr, rest⟩
  mono := fun h hf => ⟨⟨hf _ h.1.1, hf _ h.1.2⟩, h.2⟩
  bound := fun h => ⟨⟨⟨h.1.1, h.2.owns.lt⟩, ⟨h.1.2, h.2.lt⟩⟩, h.2⟩
end
variable {Pr : Program} {K : TypeId} {R : Value → Option (DataW Unit × List MemPlace)} {N : Nat → Prop} {w w' W : World} {l : List HP} {i b r n cnt : Nat} {D : DataW Unit} {left : Lit → Bool}
theorem Own.newmap (h : Own N w l) : Own N (w.alloc (.map #[] 0)) (l ++ [mp Pr K R w.heap.size 0 (.map [])]) :=
  h.push _ (by simp) (fun k hk => (MapKept.heap_alloc w _).2 k hk) (F := fun k => k = w.heap.size) ⟨rfl, World.ownsMap_made w Pr K R⟩ (fun k hk => Nat.le_of_eq hk.symm)
theorem Own.map (h : Own N w l) (hi : l[i]? = some (mp Pr K R b n D)) : w.ownsMap Pr K R b n D := by
  obtain ⟨F, h1⟩ := h.fact hi
  exact h1.2
theorem Own.itr (h : Own N w l) (hi : l[i]? = some (rng Pr K R b r n D left cnt)) : w.ranges Pr K R b r n D left cnt := by
  obtain ⟨F, h1⟩ := h.fact hi
  exact h1.2
theorem Own.mapfar (h : Own N w l) (hi : l[i]? = some (mp Pr K R b n D)) : ¬ N b := by
  obtain ⟨hN, Fs, h1, h2, h3⟩ := h
  exact (h2 i b (h1 i _ hi).1).1
theorem Own.itrfar (h : Own N w l) (hi : l[i]? = some (rng Pr K R b r n D left cnt)) : ¬ N r := by
  obtain ⟨hN, Fs, h1, h2, h3⟩ := h
  exact (h2 i r (h1 i _ hi).1.2).1
theorem Own.mapset {n' : Nat} {D' : DataW Unit} (h : Own N w l) (hi : l[i]? = some (mp Pr K R b n D)) (hm : w'.ownsMap Pr K R b n' D') (hg : w.grownBy w' (some b)) : Own N w' (l.set i (mp Pr K R b n' D')) ∧ KeepS N w w' := by
  refine ⟨h.upd hi _ (fun F hp hf => ⟨hg.size, fun k hk hnf => hg.block k hk (fun e => hnf (by cases e; exact hp.1)), F, ⟨hp.1, hm⟩, fun k hk => .inl hk⟩), KeepS.grown hg (fun k e => by cases e; exact h.mapfar hi)⟩
theorem Own.mapitr (h : Own N w l) (hi : l[i]? = some (mp Pr K R b n D)) (hm : w'.ranges Pr K R b r n D left cnt) (hg : w.grownBy w' none) (hr : w.heap.size ≤ r) : Own N w' (l.set i (rng Pr K R b r n D left cnt)) ∧ KeepS N w w' :=
  ⟨h.upd hi _ (fun F hp hf => ⟨hg.size, fun k hk _ => hg.block k hk (by simp), fun k => F k ∨ k = r, ⟨⟨.inl hp.1, .inr rfl⟩, hm⟩, fun k hk => hk.elim .inl (fun e => .inr (by omega))⟩), KeepS.grown hg (fun k e => by cases e)⟩
theorem Own.itrstep {left' : Lit → Bool} {cnt' : Nat} (h : Own N w l) (hi : l[i]? = some (rng Pr K R b r n D left cnt)) (hm : w'.ranges Pr K R b r n D left' cnt') (hg : w.grownBy w' (some r)) : Own N w' (l.set i (rng Pr K R b r n D left' cnt')) ∧ KeepS N w w' :=
  ⟨h.upd hi _ (fun F hp hf => ⟨hg.size, fun k hk hnf => hg.block k hk (fun e => hnf (by cases e; exact hp.1.2)), F, ⟨hp.1, hm⟩, fun k hk => .inl hk⟩), KeepS.grown hg (fun k e => by cases e; exact h.itrfar hi)⟩
section
variable {ops : Array Oper} {rest : List Oper} {o : Oper} {a : Act} {Q : Exit → Act → World → Prop}
theorem own_map (Pr : Program) (K : TypeId) (R : Value → Option (DataW Unit × List MemPlace)) (hgd : o.guard = none) {T : Tmp} (_hd : o.dst = some T) (hrun : (execOp a.eval o).run Pr W = .ok (.value (.map (some W.heap.size))) (W.alloc (.map #[] 0))) (h : Own N W l)
    (k : ∀ g w1, Own N w1 (l ++ [mp Pr K R g 0 (.map [])]) → KeepS N W w1 → wpList Pr ops Q rest (a.put o.dst (.map (some g))) w1) : wpList Pr ops Q (o :: rest) a W :=
  Kd.event_run hgd hrun (k _ _ h.newmap (KeepS.alloc _))
end
end Go.Proofs.Ytjmoncfgoaaekaa.Sep
