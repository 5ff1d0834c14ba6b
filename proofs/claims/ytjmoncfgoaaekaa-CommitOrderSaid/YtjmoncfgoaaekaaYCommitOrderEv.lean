/- Steps of a walk that keep a list of resources: a new block, a store, a literal, an append, alone and in a region that draws its order. Plain lemmas, for any program. -/
import Derived.Test.YtjmoncfgoaaekaaYCommitOrderSep
import Derived.Test.YtjmoncfgoaaekaaYCommitOrderWMore
namespace Go.Proofs.Ytjmoncfgoaaekaa.Sep
set_option linter.unusedSimpArgs false
set_option linter.unusedVariables false
open Go Go.RowKit Go.Proofs.YtjmoncfgoaaekaaW.PrintWords Go.Proofs.YtjmoncfgoaaekaaW.PrintLast Go.Proofs.YtjmoncfgoaaekaaW.PrintMore
section
variable {P : Program} {ops : Array Oper} {rest : List Oper} {o : Oper} {a : Act} {Q : Exit → Act → World → Prop} {Kc : Act → World → Prop} {N : Nat → Prop} {W : World} {l l' : List HP}
theorem own_box (hgd : o.guard = none) {D : Tmp} (_hd : o.dst = some D) {cs : Array Value} {t : TypeId}
    (hrun : (execOp a.eval o).run P W = .ok (.value (.pointer (some ⟨W.heap.size, 0, none⟩))) (W.alloc (.cells cs t (0, 0)))) (h : Own N W l)
    (k : ∀ g w1, Own N w1 (l ++ [cells g cs t]) → KeepS N W w1 → wpList P ops Q rest (a.put o.dst (.pointer (some ⟨g, 0, none⟩))) w1) : wpList P ops Q (o :: rest) a W :=
  Kd.event_run hgd hrun (k _ _ (h.new cs t) (KeepS.alloc _))
theorem own_boxB (hgd : o.guard = none) {D : Tmp} (_hd : o.dst = some D) {cs : Array Value} {t : TypeId}
    (hrun : (execOp a.eval o).run P W = .ok (.value (.pointer (some ⟨W.heap.size, 0, none⟩))) (W.alloc (.cells cs t (0, 0)))) (h : Own N W l)
    (k : ∀ g w1, Own N w1 (l ++ [cells g cs t]) → KeepS N W w1 → Below W.heap.size W w1 → wpList P ops Q rest (a.put o.dst (.pointer (some ⟨g, 0, none⟩))) w1) : wpList P ops Q (o :: rest) a W :=
  Kd.event_run hgd hrun (k _ _ (h.new cs t) (KeepS.alloc _) ((Below.refl _ W).alloc (Nat.le_refl _) _))
theorem own_store {w1 : World} (hgd : o.guard = none) {t : TypeId} {p : Tmp} {v : Operand} (_ho : o.op = .store t (.tmp p) v) (hN : o.dst = none)
    (hrun : (execOp a.eval o).run P W = .ok .skip w1) (h : Own N w1 l') (hk : KeepS N W w1) (k : ∀ w', Own N w' l' → KeepS N W w' → wpList P ops Q rest a w') : wpList P ops Q (o :: rest) a W :=
  store_event hgd _ho hN hrun (fun w' e => by subst e; exact k _ h hk)
theorem own_store_step {w1 : World} (hw : Region.wanted o (yielded ops a.tmps) = true) (hN : o.dst = none)
    (hrun : (execOp a.eval o).run P W = .ok .skip w1) (h : Own N w1 l') (hk : KeepS N W w1) (k : ∀ w', Own N w' l' → KeepS N W w' → Kc a w') : if Region.wanted o (yielded ops a.tmps) = true then Oper.wp P o a W Kc Q else Kc (a.put none undef) W :=
  skip_ hw hN hrun (k _ h hk)
variable {α : Type} {e : TypeId} {d : Kd α} {xs ys : List α}
theorem own_lit (d : Kd α) {inner : List Value} (hgd : o.guard = none) {D : Tmp} (_hd : o.dst = some D)
    (hrun : (execOp a.eval o).run P W = .ok (.value (.slice (some ⟨W.heap.size, 0, none⟩) xs.length xs.length)) (W.alloc (.cells inner.toArray e)))
    (hrep : Reps (Kd.FK d W (fun _ => False)) d.sz xs inner) (hm : xs.length ≤ 9223372036854775807) (h : Own N W l)
    (k : ∀ A c w1, Own N w1 (l ++ [nrow d e (.slice A xs.length c) xs]) → KeepS N W w1 → wpList P ops Q rest (a.put o.dst (.slice A xs.length c)) w1) : wpList P ops Q (o :: rest) a W := by
  refine Kd.N_lit d (w0 := W) W.heap.size e hgd (N' := D) _hd (ok := fun k => k = W.heap.size) (okp := fun _ => False) hrun hrep (fun _ h => h.elim) rfl (Below.refl _ _) (Nat.le_refl _) hm ?_
  intro v1 w1 hn hb hg hat
  obtain ⟨A, c, rfl⟩ := Kd.N_slice hn
  exact k A c w1 (h.pushN hb hn (fun k hk => Nat.le_of_eq hk.symm)) (KeepS.of_below hb)
end
section
variable {α : Type} {d : Kd α} {e : TypeId} {N : Nat → Prop} {W : World} {l : List HP} {i j : Nat} {v : Value} {A : Option Addr} {m c : Nat} {xs ys : List α} {p : α} {cs : List Value}
variable {P : Program} {ops : Array Oper} {o : Oper} {a : Act} {Q : Exit → Act → World → Prop} {Kc : Act → World → Prop}
theorem Own.append_step (d : Kd α) (h : Own N W l) (hi : l[i]? = some (nrow d e v xs)) (hj : l[j]? = some (elt d p cs)) (hij : i ≠ j) {N' : Option Tmp} (hN : o.dst = N') (hw : Region.wanted o (yielded ops a.tmps) = true) (s x : Operand) (t : TypeId) (z : Value) (bytes : Nat)
    (ho : o.op = .call { callee := .builtin .append, args := #[s, x], argTypes := #[t, t] })
    (ht : P.underlying t = some (.slice e)) (hinfo : (P.info? e).map (fun i => (i.zero, i.size, i.bytes)) = some (some z, d.sz, bytes)) (hz : z.cells.size = d.sz) (hs0 : 0 < d.sz) (hb0 : 0 < bytes)
    (hs : a.eval s = v) (hx : a.eval x = .slice (some ⟨W.heap.size, 0, none⟩) 1 1) (hl : (xs.length + 1) * bytes ≤ 140737488355328)
    (hc : ∀ A1 c1 w1, Own N w1 ((l.set i (nrow d e (.slice A1 (xs.length + 1) c1) (xs ++ [p]))).set j emp) → KeepS N W w1 → Kc (a.put N' (.slice A1 (xs.length + 1) c1)) w1) :
    if Region.wanted o (yielded ops a.tmps) = true then Oper.wp P o a (W.alloc (.cells cs.toArray e)) Kc Q else Kc (a.put N' undef) (W.alloc (.cells cs.toArray e)) := by
  subst hN
  obtain ⟨hN, Fs, h1, h2, h3⟩ := h
  have hi0 := h1 i _ hi
  have hj0 := h1 j _ hj
  refine Kd.N_append_step d (w0 := W) 0 hw s x t e z bytes ho ht hinfo hz hs0 hb0 v xs p cs (fun k => Fs i k ∨ Fs j k ∨ W.heap.size ≤ k) (Fs j) hs hx hj0 ?_ (fun k hk => .inr (.inr hk)) (Kd.N_mono hi0 (fun k hk => .inl hk)) (Below.refl _ _) (Nat.zero_le _) hl ?_
  · exact fun k hk => ⟨.inr (.inl hk), fun he => hij (h3 _ _ k (hi0.1 k he.symm) hk)⟩
  · intro v1 w1 hn _ hg hat
    obtain ⟨A1, c1, rfl⟩ := Kd.N_slice hn
    rw [List.length_append, List.length_singleton] at hn ⊢
    refine hc A1 c1 w1 (merge hN h1 h2 h3 (List.getElem?_eq_some_iff.1 hi).1 (List.getElem?_eq_some_iff.1 hj).1 hij hg.size ?_ _ hn) (KeepS.grown hg (fun k hk hn => (h2 i k (hi0.1 k hk)).1 hn))
    exact fun k hk hno => hg.block k hk (fun he => hno (.inl (hi0.1 k he.symm)))
end
end Go.Proofs.Ytjmoncfgoaaekaa.Sep
