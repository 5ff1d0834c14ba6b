/- Steps of a walk that keep a list of resources: a new block, a store, a literal, an append, alone and in a region that draws its order. Plain lemmas, for any program. -/
import Derived.Test.YtjdenpmaianmfaaDoorY6SepL
import Derived.Test.YtjdenpmaianmfaaDoorY6WMore
namespace Go.Proofs.YtjdenpmaianmfaaDoor.Sep
set_option linter.unusedSimpArgs false
set_option linter.unusedVariables false
open Go RowKit YtjdenpmaianmfaaDoorW.PrintWords YtjdenpmaianmfaaDoorW.PrintLast YtjdenpmaianmfaaDoorW.PrintMore
section
variable {P : Program} {ops : Array Oper} {rest : List Oper} {o : Oper} {a : Act} {Q : Exit → Act → World → Prop} {Kc : Act → World → Prop} {N : Nat → Prop} {W : World} {l l' : List HP}
theorem own_box (hgd : o.guard = none) {D : Tmp} (_hd : o.dst = some D) {cs : Array Value} {t : TypeId}
  (hrun : (execOp a.eval o).run P W = .ok (.value (.pointer (some ⟨W.heap.size, 0, none⟩))) (W.alloc (.cells cs t (0, 0)))) (h : Own N W l)
  (k : ∀ g w1, Own N w1 (l ++ [cells g cs t]) → KeepS N W w1 → wpList P ops Q rest (a.put o.dst (.pointer (some ⟨g, 0, none⟩))) w1) : wpList P ops Q (o :: rest) a W :=
 Kd.event_run hgd hrun (k _ _ (h.new cs t) (KeepS.alloc _))
theorem own_box_step {N' : Option Tmp} (hN : o.dst = N') (hw : Region.wanted o (yielded ops a.tmps) = true) {cs : Array Value} {t : TypeId}
  (hrun : (execOp a.eval o).run P W = .ok (.value (.pointer (some ⟨W.heap.size, 0, none⟩))) (W.alloc (.cells cs t (0, 0)))) (h : Own N W l)
  (k : ∀ g w1, Own N w1 (l ++ [cells g cs t]) → KeepS N W w1 → Kc (a.put N' (.pointer (some ⟨g, 0, none⟩))) w1) : if Region.wanted o (yielded ops a.tmps) = true then Oper.wp P o a W Kc Q else Kc (a.put N' undef) W :=
 value_ hw hN hrun (k _ _ (h.new cs t) (KeepS.alloc _))
theorem own_store {w1 : World} (hgd : o.guard = none) {t : TypeId} {p : Tmp} {v : Operand} (_ho : o.op = .store t (.tmp p) v) (hN : o.dst = none)
  (hrun : (execOp a.eval o).run P W = .ok .skip w1) (h : Own N w1 l') (hk : KeepS N W w1) (k : ∀ w', Own N w' l' → KeepS N W w' → wpList P ops Q rest a w') : wpList P ops Q (o :: rest) a W :=
 store_event hgd _ho hN hrun (fun w' e => by subst e; exact k _ h hk)
theorem own_store_step {w1 : World} (hw : Region.wanted o (yielded ops a.tmps) = true) (hN : o.dst = none)
  (hrun : (execOp a.eval o).run P W = .ok .skip w1) (h : Own N w1 l') (hk : KeepS N W w1) (k : ∀ w', Own N w' l' → KeepS N W w' → Kc a w') : if Region.wanted o (yielded ops a.tmps) = true then Oper.wp P o a W Kc Q else Kc (a.put none undef) W :=
 skip_ hw hN hrun (k _ h hk)
variable {α : Type} {e : TypeId} {d : Kd α} {xs ys : List α}
theorem own_lit (d : Kd α) {inner : List Value} (hgd : o.guard = none) {D : Tmp} (_hd : o.dst = some D)
  (hrun : (execOp a.eval o).run P W = .ok (.value (.slice (some ⟨W.heap.size, 0, none⟩) xs.length xs.length)) (W.alloc (.cells inner.toArray e)))
  (hrep : Reps (Kd.FK d W (fun _ => False)) d.sz xs inner) (hm : xs.length ≤ 9223372036854775807) (h : Own N W l)
  (k : ∀ A c w1, Own N w1 (l ++ [nrow d e (.slice A xs.length c) xs]) → KeepS N W w1 → wpList P ops Q rest (a.put o.dst (.slice A xs.length c)) w1) : wpList P ops Q (o :: rest) a W := by
 refine Kd.N_lit d (w0 := W) W.heap.size e hgd (N' := D) _hd (ok := fun k => k = W.heap.size) (okp := fun _ => False) hrun hrep (fun _ h => h.elim) rfl (Below.refl _ _) (Nat.le_refl _) hm ?_
 intro v1 w1 hn hb hg hat
 obtain ⟨A, c, rfl⟩ := Kd.N_slice hn
 exact k A c w1 (h.pushN hb hn (fun k hk => Nat.le_of_eq hk.symm)) (KeepS.of_below hb)
theorem own_lit_step (d : Kd α) {inner : List Value} {N' : Tmp} (hN : o.dst = some N') (hw : Region.wanted o (yielded ops a.tmps) = true)
  (hrun : (execOp a.eval o).run P W = .ok (.value (.slice (some ⟨W.heap.size, 0, none⟩) xs.length xs.length)) (W.alloc (.cells inner.toArray e)))
  (hrep : Reps (Kd.FK d W (fun _ => False)) d.sz xs inner) (hm : xs.length ≤ 9223372036854775807) (h : Own N W l)
  (k : ∀ A c w1, Own N w1 (l ++ [nrow d e (.slice A xs.length c) xs]) → KeepS N W w1 → Kc (a.put (some N') (.slice A xs.length c)) w1) : if Region.wanted o (yielded ops a.tmps) = true then Oper.wp P o a W Kc Q else Kc (a.put (some N') undef) W := by
 rw [← hN]
 refine Kd.N_lit_step d (w0 := W) W.heap.size e hw (N' := N') hN (ok := fun k => k = W.heap.size) (okp := fun _ => False) hrun hrep (fun _ h => h.elim) rfl (Below.refl _ _) (Nat.le_refl _) hm ?_
 intro v1 w1 hn hb hg hat
 obtain ⟨A, c, rfl⟩ := Kd.N_slice hn
 rw [hN]
 exact k A c w1 (h.pushN hb hn (fun k hk => Nat.le_of_eq hk.symm)) (KeepS.of_below hb)
end
section
variable {α : Type} {d : Kd α} {e : TypeId} {N : Nat → Prop} {W : World} {l : List HP} {i j : Nat} {v : Value} {A : Option Addr} {m c : Nat} {xs ys : List α} {p : α} {cs : List Value}
variable {P : Program} {ops : Array Oper} {o : Oper} {a : Act} {Q : Exit → Act → World → Prop} {Kc : Act → World → Prop}
theorem Own.append_flat_step (d : Kd α) (hd : Flat d) (h : Own N W l) (hi : l[i]? = some (nrow d e v xs)) (HR : d.C W A m ys) {N' : Option Tmp} (hN' : o.dst = N') (hw : Region.wanted o (yielded ops a.tmps) = true) (s x : Operand) (t : TypeId) (z : Value) (bytes : Nat)
  (ho : o.op = .call { callee := .builtin .append, args := #[s, x], argTypes := #[t, t] })
  (ht : P.underlying t = some (.slice e)) (hinfo : (P.info? e).map (fun i => (i.zero, i.size, i.bytes)) = some (some z, d.sz, bytes)) (hz : z.cells.size = d.sz) (hs0 : 0 < d.sz) (hb0 : 0 < bytes)
  (hs : a.eval s = v) (hx : a.eval x = .slice A m c) (hl : (xs.length + m) * bytes ≤ 140737488355328)
  (hc : ∀ A1 c1 w1, Own N w1 (l.set i (nrow d e (.slice A1 (xs ++ ys).length c1) (xs ++ ys))) → KeepS N W w1 → Kc (a.put N' (.slice A1 (xs ++ ys).length c1)) w1) :
  if Region.wanted o (yielded ops a.tmps) = true then Oper.wp P o a W Kc Q else Kc (a.put N' undef) W := by
 subst hN'
 have hown := h
 obtain ⟨hN, Fs, h1, h2, h3⟩ := h
 have hi0 := h1 i _ hi
 obtain ⟨h0, rows, hlr, hR, hfk⟩ := hi0
 obtain ⟨news, hnl, hnr, hnf⟩ := Kd.reads_raw HR (fun y c hk => ⟨d.K_len hk, d.K_one hk⟩)
 refine Kd.R_append_rows_step (Kd.raw d.sz) (w0 := W) 0 hw s x t e z bytes ho ht hinfo hz hs0 hb0 v rows news A m c (fun _ => True) (fun _ => False) hs hx (Kd.raw_any hR) hnr (fun _ _ hk => hk) (fun _ hk => hk.elim) (fun _ _ => trivial) (Below.refl _ _) (Nat.zero_le _) (by rw [hlr]; exact hl) ?_
 intro v1 w1 hr hb hg hat
 have hn := Kd.N_appended (d := d) (ok := fun k => Fs i k ∨ W.heap.size ≤ k) (okp := fun _ => False) (fun k hk => .inl (h0 k hk)) hlr (fun j x c hx hc => Kd.FK_mono (hfk j x c hx hc) (fun k hk => ⟨.inl hk.1, hk.2⟩)) hnl (fun j x c hx hc => hd.FK (hnf j x c hx hc)) (fun _ hk => hk.elim) (fun k hk => .inr hk) hr hg hat
 obtain ⟨A1, c1, rfl⟩ := Kd.N_slice hn
 refine hc A1 c1 w1 ?_ (KeepS.grown hg (fun k hk hn => (h2 i k (h0 k hk)).1 hn))
 refine ⟨fun k hk => Nat.lt_of_lt_of_le (hN k hk) hg.size, fun m k => (m = i ∧ (Fs i k ∨ W.heap.size ≤ k) ∧ k < w1.heap.size) ∨ (m ≠ i ∧ Fs m k), ?_, ?_, ?_⟩
 ·intro m R hm
  by_cases hmi : m = i
  ·subst hmi
   rw [List.getElem?_set_self (List.getElem?_eq_some_iff.1 hi).1] at hm
   injection hm with hm
   subst hm
   exact HP.mono _ (HP.bound _ (show (nrow d e _ _).P _ w1 from hn)) (fun k hf => .inl ⟨rfl, hf⟩)
  ·rw [List.getElem?_set_ne (fun e => hmi e.symm)] at hm
   exact R.mono (R.move (h1 m R hm) hg.size (fun k hf hlt => hg.block k hlt (fun he => hmi (h3 _ _ k hf (h0 k he.symm))))) (fun k hf => .inr ⟨hmi, hf⟩)
 ·rintro m k (⟨rfl, hf | hf, hl⟩ | ⟨_, hf⟩)
  ·exact ⟨(h2 _ k hf).1, hl⟩
  ·exact ⟨fun hn => by have := hN k hn; omega, hl⟩
  ·exact ⟨(h2 m k hf).1, Nat.lt_of_lt_of_le (h2 m k hf).2 hg.size⟩
 ·rintro m n k (⟨rfl, hf, hl⟩ | ⟨a, hf⟩) (⟨rfl, hf', hl'⟩ | ⟨a', hf'⟩)
  ·rfl
  ·rcases hf with hf | hf
   ·exact absurd (h3 _ _ k hf hf') (fun e => a' e.symm)
   ·have := (h2 n k hf').2
    omega
  ·rcases hf' with hf' | hf'
   ·exact absurd (h3 _ _ k hf hf') a
   ·have := (h2 m k hf).2
    omega
  ·exact h3 _ _ k hf hf'
end
theorem blk5_ {w : World} {g : Nat} {t : TypeId} {v0 v1 v2 v3 v4 : Value} (h : w.heap[g]? = some (.cells #[v0, v1, v2, v3, v4] t (0, 0))) : w.cell? ⟨g, 0, none⟩ = some v0 ∧ w.cell? ⟨g, 1, none⟩ = some v1 ∧ w.cell? ⟨g, 2, none⟩ = some v2 ∧ w.cell? ⟨g, 3, none⟩ = some v3 ∧ w.cell? ⟨g, 4, none⟩ = some v4 ∧ ∀ i, w.frozen? ⟨g, i, none⟩ = false := ⟨(blk_cell h 0).trans rfl, (blk_cell h 1).trans rfl, (blk_cell h 2).trans rfl, (blk_cell h 3).trans rfl, (blk_cell h 4).trans rfl, fun i => blk_frozen h i⟩
section
variable {P : Program} {ops : Array Oper} {Q : Exit → Act → World → Prop} {md : Region.Mode} {S : World → Prop} {ds : List Nat} {oi : Oper} {v : Value} {fuel : Nat} {l l' : Array Bool} {a a' : Act} {w : World}
theorem sP {id n : Nat} (hS : S w.drew) (h : S w.drew → wpAnyLast P .any ops Q S ds n l a w.drew) (hm : P.follows .mixedOrders = true := by kernel_rfl) (hn : ops.size = n := by rfl) (hl : Array.replicate n false = l := by (simp only [Array.replicate, List.replicate_succ, List.replicate_zero]; rfl)) : (Code.region id ops true).wp P Q a w := start_ l hm hn hl hS h
theorem pP (i : Nat) (N : Option Tmp) (h : wpAnyLast P md ops Q S ds fuel l' a' w)
  (hi : ops[i]? = some oi := by rfl) (hN : oi.dst = N := by rfl) (hl : l.setIfInBounds i true = l' := by (simp only [List.setIfInBounds_toArray, List.set_cons_zero, List.set_cons_succ]; rfl)) (hc : anyB md ops l l' i = true := by kernel_rfl)
  (hQ : ∀ c a w, Q (.panic c) (a.put oi.dst v) w → Q (.panic c) a w := by exact fun _ _ _ h => h) (hg : Region.wanted oi (yielded ops a.tmps) = true := by rfl)
  (hy : ∀ w', (execOp a.eval oi).run P w' = .ok (.value v) w' := by (intro w'; go_simp; with_reducible rfl)) (ha : a.put N v = a' := by (simp only [Act.put, List.setIfInBounds_toArray, List.set_cons_zero, List.set_cons_succ, i64_w, i32_w]; rfl)) :
  wpAnyLast P md ops Q S ds (fuel + 1) l a w := pure_ l' hi hN hc hQ (.inl ⟨hg, hy⟩) ha h
theorem tP (i : Nat) (N : Option Tmp) (hS : S w) (h : wpAnyLast P md ops Q S ds fuel l' a' w)
  (hi : ops[i]? = some oi := by rfl) (hN : oi.dst = N := by rfl) (hl : l.setIfInBounds i true = l' := by (simp only [List.setIfInBounds_toArray, List.set_cons_zero, List.set_cons_succ]; rfl)) (hc : takeB md ops ds l l' i = true := by kernel_rfl)
  (hQ : ∀ c a w, Q (.panic c) (a.put oi.dst v) w → Q (.panic c) a w := by exact fun _ _ _ h => h) (hg : Region.wanted oi (yielded ops a.tmps) = true := by rfl)
  (hy : ∀ w', S w' → (execOp a.eval oi).run P w' = .ok (.value v) w' := by (intro w' s_; (try dsimp only at s_); go_simp; with_reducible rfl)) (ha : a.put N v = a' := by (simp only [Act.put, List.setIfInBounds_toArray, List.set_cons_zero, List.set_cons_succ, i64_w, i32_w]; rfl)) :
  wpAnyLast P md ops Q S ds (fuel + 1) l a w := take_ l' hi hN hc hQ (.inl ⟨hg, hy⟩) hS ha h
theorem pS (i : Nat) (N : Option Tmp) (h : wpAnyLast P md ops Q S ds fuel l' a' w)
  (hi : ops[i]? = some oi := by rfl) (hN : oi.dst = N := by rfl) (hl : l.setIfInBounds i true = l' := by (simp only [List.setIfInBounds_toArray, List.set_cons_zero, List.set_cons_succ]; rfl)) (hc : anyB md ops l l' i = true := by kernel_rfl)
  (hQ : ∀ c a w, Q (.panic c) (a.put oi.dst undef) w → Q (.panic c) a w := by exact fun _ _ _ h => h) (hg : Region.wanted oi (yielded ops a.tmps) = false := by rfl)
  (ha : a.put N undef = a' := by (simp only [Act.put, List.setIfInBounds_toArray, List.set_cons_zero, List.set_cons_succ, i64_w, i32_w]; rfl)) :
  wpAnyLast P md ops Q S ds (fuel + 1) l a w := pure_ l' hi hN hc hQ (.inr ⟨hg, rfl⟩) ha h
theorem tS (i : Nat) (N : Option Tmp) (hS : S w) (h : wpAnyLast P md ops Q S ds fuel l' a' w)
  (hi : ops[i]? = some oi := by rfl) (hN : oi.dst = N := by rfl) (hl : l.setIfInBounds i true = l' := by (simp only [List.setIfInBounds_toArray, List.set_cons_zero, List.set_cons_succ]; rfl)) (hc : takeB md ops ds l l' i = true := by kernel_rfl)
  (hQ : ∀ c a w, Q (.panic c) (a.put oi.dst undef) w → Q (.panic c) a w := by exact fun _ _ _ h => h) (hg : Region.wanted oi (yielded ops a.tmps) = false := by rfl)
  (ha : a.put N undef = a' := by (simp only [Act.put, List.setIfInBounds_toArray, List.set_cons_zero, List.set_cons_succ, i64_w, i32_w]; rfl)) :
  wpAnyLast P md ops Q S ds (fuel + 1) l a w := take_ l' hi hN hc hQ (.inr ⟨hg, rfl⟩) hS ha h
theorem nP (h : wpAnyLast P md ops Q S ds fuel l a' w) (ha : a = a' := by (simp only [Act.put, List.setIfInBounds_toArray, List.set_cons_zero, List.set_cons_succ, i64_w, i32_w]; rfl)) : wpAnyLast P md ops Q S ds fuel l a w := norm_ ha h
theorem oP (i : Nat) (N : Option Tmp) (h : ∀ K : Act → World → Prop, Shut (∀ a' w', S w' → (S w' → wpAnyLast P md ops Q S ds fuel l' a' w') → K a' w') → if Region.wanted oi (yielded ops a.tmps) = true then Oper.wp P oi a w K Q else K (a.put N undef) w)
  (hi : ops[i]? = some oi := by rfl) (hN : oi.dst = N := by rfl) (hl : l.setIfInBounds i true = l' := by (simp only [List.setIfInBounds_toArray, List.set_cons_zero, List.set_cons_succ]; rfl)) (hc : readyB md ops l l' i = true := by kernel_rfl) (hd : i ∉ ds := by decide) :
  wpAnyLast P md ops Q S ds (fuel + 1) l a w := one_ l' hi hN hc hd h
theorem lP (i : Nat) (N : Option Tmp) (h : ∀ K : Act → World → Prop, Shut (∀ a' w', wpAnyLast P md ops Q S ds fuel l' a' w' → K a' w') → if Region.wanted oi (yielded ops a.tmps) = true then Oper.wp P oi a w K Q else K (a.put N undef) w)
  (hi : ops[i]? = some oi := by rfl) (hN : oi.dst = N := by rfl) (hl : l.setIfInBounds i true = l' := by (simp only [List.setIfInBounds_toArray, List.set_cons_zero, List.set_cons_succ]; rfl)) (hc : readyB md ops l l' i = true := by kernel_rfl) (hd : i ∈ ds := by decide) :
  wpAnyLast P md ops Q S ds (fuel + 1) l a w := last_ l' hi hN hc hd h
theorem gP {rest : List Oper} (N : Option Tmp) {f : FuncId} {fn : Func} (hf : P.funcs[f]? = some fn) (args : Array Value) {as : Array Operand} {ts : Array TypeId} (h : Calls P f args w fun e w' => ∃ v, e = .returned v ∧ wpList P ops Q rest (a.put N v) w')
  (hd : oi.dst = N := by rfl) (hop : oi.op = .call { callee := .value (.func f), args := as, argTypes := ts } := by rfl) (hg : oi.guard = none := by rfl) (hname : (fn.name == "runtime.NumGoroutine") = false := by kernel_rfl) (hb : fn.body.isSome = true := by rfl)
  (hargs : as.map a.eval = args := by ((try simp only [List.map_toArray, List.map_cons, List.map_nil]); first | done | rfl)) : wpList P ops Q (oi :: rest) a w := goesL_ N hd hg hf hname hb args hop hargs h
theorem hP {K : Act → World → Prop} {N : Option Tmp} {f : FuncId} {fn : Func} (hf : P.funcs[f]? = some fn) (args : Array Value) {as : Array Operand} {ts : Array TypeId} (h : Calls P f args w fun e w' => ∃ v, e = .returned v ∧ K (a.put N v) w')
  (hN : oi.dst = N := by rfl) (hop : oi.op = .call { callee := .value (.func f), args := as, argTypes := ts } := by rfl) (hname : (fn.name == "runtime.NumGoroutine") = false := by kernel_rfl) (hb : fn.body.isSome = true := by rfl) (hw : Region.wanted oi (yielded ops a.tmps) = true := by rfl)
  (hargs : as.map a.eval = args := by ((try simp only [List.map_toArray, List.map_cons, List.map_nil]); first | done | rfl)) : if Region.wanted oi (yielded ops a.tmps) = true then Oper.wp P oi a w K Q else K (a.put N undef) w := goes_ hf hname hb args hw hN hop hargs h
end
section
variable {P : Program} {ops : Array Oper} {rest : List Oper} {o : Oper} {a : Act} {Q : Exit → Act → World → Prop} {Kc : Act → World → Prop} {N : Nat → Prop} {W : World} {l l' : List HP}
theorem bP (D : Tmp) (cs : Array Value) (t : TypeId) (h : Own N W l) (k : ∀ g w1, Own N w1 (l ++ [cells g cs t]) → KeepS N W w1 → wpList P ops Q rest (a.put o.dst (.pointer (some ⟨g, 0, none⟩))) w1) (hd : o.dst = some D := by rfl) (hgd : o.guard = none := by rfl)
  (hrun : (execOp a.eval o).run P W = .ok (.value (.pointer (some ⟨W.heap.size, 0, none⟩))) (W.alloc (.cells cs t (0, 0))) := by first | (go_simp; done) | (go_simp; rfl)) : wpList P ops Q (o :: rest) a W := own_box hgd hd hrun h k
theorem cP {N' : Option Tmp} (cs : Array Value) (t : TypeId) (h : Own N W l) (k : ∀ g w1, Own N w1 (l ++ [cells g cs t]) → KeepS N W w1 → Kc (a.put N' (.pointer (some ⟨g, 0, none⟩))) w1) (hN : o.dst = N' := by rfl) (hw : Region.wanted o (yielded ops a.tmps) = true := by rfl)
  (hrun : (execOp a.eval o).run P W = .ok (.value (.pointer (some ⟨W.heap.size, 0, none⟩))) (W.alloc (.cells cs t (0, 0))) := by first | (go_simp; done) | (go_simp; rfl)) : if Region.wanted o (yielded ops a.tmps) = true then Oper.wp P o a W Kc Q else Kc (a.put N' undef) W := own_box_step hN hw hrun h k
end
def putW (W : World) (g : Nat) : Nat → List Value → World
 | _, [] => W
 | j, v :: r => putW (W.setCell ⟨g, j, none⟩ v) g (j + 1) r
def putA (cs : Array Value) : Nat → List Value → Array Value
 | _, [] => cs
 | j, v :: r => putA (cs.setIfInBounds j v) (j + 1) r
theorem set_same {α : Type _} {l : List α} {i : Nat} {x : α} (h : l[i]? = some x) : l.set i x = l := by
 refine List.ext_getElem? (fun m => ?_)
 by_cases e : m = i
 ·subst e
  rw [List.getElem?_set_self (List.getElem?_eq_some_iff.1 h).1, h]
 ·rw [List.getElem?_set_ne (fun q => e q.symm)]
section
variable {N : Nat → Prop} {w w0 w1 : World} {l l' : List HP} {b : Nat} {t : TypeId}
theorem Own.puts {i : Nat} : ∀ (vs : List Value) (j : Nat) {w : World} {l : List HP} {cs : Array Value}, Own N w l → l[i]? = some (cells b cs t) → Own N (putW w b j vs) (l.set i (cells b (putA cs j vs) t)) ∧ KeepS N w (putW w b j vs)
 | [], _, w, l, cs, h, hi => ⟨by rw [putW, putA, set_same hi]; exact h, KeepS.refl _ _⟩
 | v :: r, j, w, l, cs, h, hi => by
  have q := Own.puts r (j + 1) (h.set hi j v) (by rw [List.getElem?_set_self (List.getElem?_eq_some_iff.1 hi).1])
  rw [List.set_set] at q
  exact ⟨q.1, (h.set_keep hi j v).trans q.2⟩
theorem ok_ (K : Aside0 (KeepS N w w0)) (o : Own N w1 l) (k : KeepS N w0 w1) (e : l = l' := by ((try simp only [setL, putA, List.set_cons_zero, List.set_cons_succ, List.cons_append, List.nil_append, List.setIfInBounds_toArray, List.length_cons, List.length_nil, Nat.zero_add, Nat.reduceAdd]); rfl)) : Aside0 (Own N w1 l') ∧ Aside0 (KeepS N w w1) := ⟨⟨e ▸ o⟩, ⟨K.out.trans k⟩⟩
theorem k1_ {g : Nat} {v0 : Value} (h : Aside0 (Own N w l)) (i : Nat) (hi : l[i]? = some (cells g #[v0] t) := by rfl) : w.cell? ⟨g, 0, none⟩ = some v0 ∧ ∀ i, w.frozen? ⟨g, i, none⟩ = false := ⟨(blk_cell (h.out.blk hi) 0).trans rfl, fun i => blk_frozen (h.out.blk hi) i⟩
theorem k3_ {g : Nat} {v0 v1 v2 : Value} (h : Aside0 (Own N w l)) (i : Nat) (hi : l[i]? = some (cells g #[v0, v1, v2] t) := by rfl) : w.cell? ⟨g, 0, none⟩ = some v0 ∧ w.cell? ⟨g, 1, none⟩ = some v1 ∧ w.cell? ⟨g, 2, none⟩ = some v2 ∧ ∀ i, w.frozen? ⟨g, i, none⟩ = false := ⟨(blk_cell (h.out.blk hi) 0).trans rfl, (blk_cell (h.out.blk hi) 1).trans rfl, (blk_cell (h.out.blk hi) 2).trans rfl, fun i => blk_frozen (h.out.blk hi) i⟩
theorem k4_ {g : Nat} {v0 v1 v2 v3 : Value} (h : Aside0 (Own N w l)) (i : Nat) (hi : l[i]? = some (cells g #[v0, v1, v2, v3] t) := by rfl) : w.cell? ⟨g, 0, none⟩ = some v0 ∧ w.cell? ⟨g, 1, none⟩ = some v1 ∧ w.cell? ⟨g, 2, none⟩ = some v2 ∧ w.cell? ⟨g, 3, none⟩ = some v3 ∧ ∀ i, w.frozen? ⟨g, i, none⟩ = false := ⟨(blk_cell (h.out.blk hi) 0).trans rfl, (blk_cell (h.out.blk hi) 1).trans rfl, (blk_cell (h.out.blk hi) 2).trans rfl, (blk_cell (h.out.blk hi) 3).trans rfl, fun i => blk_frozen (h.out.blk hi) i⟩
theorem k5_ {g : Nat} {v0 v1 v2 v3 v4 : Value} (h : Aside0 (Own N w l)) (i : Nat) (hi : l[i]? = some (cells g #[v0, v1, v2, v3, v4] t) := by rfl) : w.cell? ⟨g, 0, none⟩ = some v0 ∧ w.cell? ⟨g, 1, none⟩ = some v1 ∧ w.cell? ⟨g, 2, none⟩ = some v2 ∧ w.cell? ⟨g, 3, none⟩ = some v3 ∧ w.cell? ⟨g, 4, none⟩ = some v4 ∧ ∀ i, w.frozen? ⟨g, i, none⟩ = false := ⟨(blk_cell (h.out.blk hi) 0).trans rfl, (blk_cell (h.out.blk hi) 1).trans rfl, (blk_cell (h.out.blk hi) 2).trans rfl, (blk_cell (h.out.blk hi) 3).trans rfl, (blk_cell (h.out.blk hi) 4).trans rfl, fun i => blk_frozen (h.out.blk hi) i⟩
theorem k6_ {g : Nat} {v0 v1 v2 v3 v4 v5 : Value} (h : Aside0 (Own N w l)) (i : Nat) (hi : l[i]? = some (cells g #[v0, v1, v2, v3, v4, v5] t) := by rfl) : w.cell? ⟨g, 0, none⟩ = some v0 ∧ w.cell? ⟨g, 1, none⟩ = some v1 ∧ w.cell? ⟨g, 2, none⟩ = some v2 ∧ w.cell? ⟨g, 3, none⟩ = some v3 ∧ w.cell? ⟨g, 4, none⟩ = some v4 ∧ w.cell? ⟨g, 5, none⟩ = some v5 ∧ ∀ i, w.frozen? ⟨g, i, none⟩ = false := ⟨(blk_cell (h.out.blk hi) 0).trans rfl, (blk_cell (h.out.blk hi) 1).trans rfl, (blk_cell (h.out.blk hi) 2).trans rfl, (blk_cell (h.out.blk hi) 3).trans rfl, (blk_cell (h.out.blk hi) 4).trans rfl, (blk_cell (h.out.blk hi) 5).trans rfl, fun i => blk_frozen (h.out.blk hi) i⟩
theorem k8_ {g : Nat} {v0 v1 v2 v3 v4 v5 v6 v7 : Value} (h : Aside0 (Own N w l)) (i : Nat) (hi : l[i]? = some (cells g #[v0, v1, v2, v3, v4, v5, v6, v7] t) := by rfl) : w.cell? ⟨g, 0, none⟩ = some v0 ∧ w.cell? ⟨g, 1, none⟩ = some v1 ∧ w.cell? ⟨g, 2, none⟩ = some v2 ∧ w.cell? ⟨g, 3, none⟩ = some v3 ∧ w.cell? ⟨g, 4, none⟩ = some v4 ∧ w.cell? ⟨g, 5, none⟩ = some v5 ∧ w.cell? ⟨g, 6, none⟩ = some v6 ∧ w.cell? ⟨g, 7, none⟩ = some v7 ∧ ∀ i, w.frozen? ⟨g, i, none⟩ = false := ⟨(blk_cell (h.out.blk hi) 0).trans rfl, (blk_cell (h.out.blk hi) 1).trans rfl, (blk_cell (h.out.blk hi) 2).trans rfl, (blk_cell (h.out.blk hi) 3).trans rfl, (blk_cell (h.out.blk hi) 4).trans rfl, (blk_cell (h.out.blk hi) 5).trans rfl, (blk_cell (h.out.blk hi) 6).trans rfl, (blk_cell (h.out.blk hi) 7).trans rfl, fun i => blk_frozen (h.out.blk hi) i⟩
end
section
variable {P : Program} {ops : Array Oper} {rest : List Oper} {o : Oper} {a : Act} {Q : Exit → Act → World → Prop} {Kc : Act → World → Prop} {N : Nat → Prop} {W : World} {l : List HP} {g : Nat} {cs : Array Value} {t' : TypeId}
theorem wS (i j : Nat) (vs : List Value) {t : TypeId} {p : Tmp} {v : Operand} (h : Aside0 (Own N W l)) (k : ∀ w', Own N w' (l.set i (cells g (putA cs j vs) t')) → KeepS N W w' → wpList P ops Q rest a w') (hi : l[i]? = some (cells g cs t') := by rfl) (ho : o.op = .store t (.tmp p) v := by rfl) (hN : o.dst = none := by rfl) (hgd : o.guard = none := by rfl)
  (hrun : (execOp a.eval o).run P W = .ok .skip (putW W g j vs) := by (simp only [putW, Nat.zero_add, Nat.reduceAdd]; first | (go_simp; done) | (go_simp; rfl))) : wpList P ops Q (o :: rest) a W := own_store hgd ho hN hrun (h.out.puts vs j hi).1 (h.out.puts vs j hi).2 k
theorem xS (i j : Nat) (vs : List Value) (h : Aside0 (Own N W l)) (k : ∀ w', Own N w' (l.set i (cells g (putA cs j vs) t')) → KeepS N W w' → Kc a w') (hi : l[i]? = some (cells g cs t') := by rfl) (hN : o.dst = none := by rfl) (hw : Region.wanted o (yielded ops a.tmps) = true := by rfl)
  (hrun : (execOp a.eval o).run P W = .ok .skip (putW W g j vs) := by (simp only [putW, Nat.zero_add, Nat.reduceAdd]; first | (go_simp; done) | (go_simp; rfl))) : if Region.wanted o (yielded ops a.tmps) = true then Oper.wp P o a W Kc Q else Kc (a.put none undef) W := own_store_step hw hN hrun (h.out.puts vs j hi).1 (h.out.puts vs j hi).2 k
end
end Go.Proofs.YtjdenpmaianmfaaDoor.Sep
