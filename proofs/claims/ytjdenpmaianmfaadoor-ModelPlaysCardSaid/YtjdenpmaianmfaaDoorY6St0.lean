/- Stores into a row of one's own: into an element; appends of elements with their rows; a row that is handed back. -/
import Derived.Test.YtjdenpmaianmfaaDoorY6Ev
namespace Go.Proofs.YtjdenpmaianmfaaDoor.Sep
set_option linter.unusedSimpArgs false
set_option linter.unusedVariables false
open Go RowKit YtjdenpmaianmfaaDoorW.PrintWords YtjdenpmaianmfaaDoorW.PrintLast YtjdenpmaianmfaaDoorW.PrintMore
section
variable {α β : Type} {d : Kd α} {e : Nat} {base : Nat} {ok : Nat → Prop} {w w' : World} {xs : List α} {v u : Value} {g f n c : Nat}
def Loose (d : Kd α) : Prop := ∀ {w w' : World} {base : Nat} {ok : Nat → Prop} {x : α} {cs : List Value}, d.K w x cs → d.M w' base ok x cs
theorem N_R (hd : Loose d) (h : Kd.N d e w base ok v xs) : d.R e w base ok v xs := by
 obtain ⟨h0, rows, hl, ⟨_, inner, ho, hr⟩, hf⟩ := h
 refine ⟨h0, inner, by rw [← hl]; exact ho, by rw [← hl]; exact hr.1, fun j p hj => ?_⟩
 have hjl : j < rows.length := by rw [hl]; exact (List.getElem?_eq_some_iff.1 hj).1
 have h2 := hr.2 j _ (List.getElem?_eq_getElem hjl)
 have h3 := Kd.FK_now (hf j p _ hj (List.getElem?_eq_getElem hjl))
 rw [← h2.1] at h3
 exact hd h3
theorem list_choose {P : Nat → α → Prop} (m : Nat) (h : ∀ j, j < m → ∃ x, P j x) : ∃ l : List α, l.length = m ∧ ∀ j x, l[j]? = some x → P j x := by
 induction m with
 | zero => exact ⟨[], rfl, fun j x hj => by simp at hj⟩
 | succ m ih =>
  obtain ⟨l, hl, hp⟩ := ih (fun j hj => h j (by omega))
  obtain ⟨x, hx⟩ := h m (by omega)
  refine ⟨l ++ [x], by rw [List.length_append, hl]; rfl, fun j y hj => ?_⟩
  rcases Nat.lt_or_ge j l.length with hlt | hge
  ·rw [List.getElem?_append_left hlt] at hj
   exact hp j y hj
  ·rw [List.getElem?_append_right hge] at hj
   have hj0 : j - l.length = 0 := by
    have := (List.getElem?_eq_some_iff.1 hj).1
    simp at this
    omega
   rw [hj0] at hj
   simp only [List.getElem?_cons_zero, Option.some.injEq] at hj
   subst hj
   rw [show j = m by omega]
   exact hx
theorem chunk_same (l : List Value) (i sz f : Nat) (u : Value) : ((l.set (i * sz + f) u).drop (i * sz)).take sz = ((l.drop (i * sz)).take sz).set f u := by
 rw [List.drop_set, if_neg (by omega), List.take_set, Nat.add_sub_cancel_left]
theorem chunk_other (l : List Value) (i j sz f : Nat) (u : Value) (hf : f < sz) (hij : j ≠ i) : ((l.set (i * sz + f) u).drop (j * sz)).take sz = (l.drop (j * sz)).take sz := by
 rw [List.drop_set]
 split
 ·rfl
 ·rename_i h
  have h2 : j < i := by
   rcases Nat.lt_or_ge j i with h3 | h3
   ·exact h3
   ·have : i + 1 ≤ j := by omega
    have := Nat.mul_le_mul_right sz this
    rw [Nat.add_mul, Nat.one_mul] at this
    omega
  have h4 : (j + 1) * sz ≤ i * sz := Nat.mul_le_mul_right sz h2
  rw [Nat.add_mul, Nat.one_mul] at h4
  rw [List.take_set, List.set_eq_of_length_le]
  rw [List.length_take]
  omega
def Puts (d : Kd α) (f : Nat) (u : Value) : Prop := ∀ {w : World} {x : α} {cs : List Value}, d.K w x cs → ∃ x', d.K w x' (cs.set f u)
theorem R_put (hd : Loose d) (hu : Puts d f u) (hf : f < d.sz) (h : d.R e w base ok v xs) (i : Nat) : ∃ xs', xs'.length = xs.length ∧ d.R e (w.setCell ⟨g, i * d.sz + f, none⟩ u) base ok v xs' := by
 obtain ⟨h0, inner, ho, hr⟩ := h
 by_cases hg : v.ownBlock = some g
 ·rcases ho.2 with ⟨rfl, _⟩ | ⟨g', cap, cur, rfl, _⟩
  ·simp [Value.ownBlock] at hg
  have : g' = g := by simpa [Value.ownBlock] using hg
  subst this
  have hst := (ho.stored (i * d.sz + f) u).1
  obtain ⟨xs', hl, hx⟩ := list_choose (P := fun j x => d.M (w.setCell ⟨g', i * d.sz + f, none⟩ u) base (fun k => ok k ∧ some k ≠ Value.ownBlock (.slice (some ⟨g', 0, none⟩) xs.length cap)) x (((inner.set (i * d.sz + f) u).drop (j * d.sz)).take d.sz)) xs.length (fun j hj => by
   have hm := hr.2 j _ (List.getElem?_eq_getElem hj)
   by_cases hji : j = i
   ·subst hji
    rw [chunk_same]
    obtain ⟨x', hx'⟩ := hu (d.K_of_M hm)
    exact ⟨x', hd hx'⟩
   ·rw [chunk_other _ _ _ _ _ _ hf hji]
    exact ⟨_, hd (d.K_of_M hm)⟩)
  exact ⟨xs', hl, h0, inner.set (i * d.sz + f) u, by rw [hl]; exact hst, by rw [List.length_set, hl]; exact hr.1, hx⟩
 ·refine ⟨xs, rfl, h0, inner, own_move ho (fun k hk => Below.heap_setCell _ _ _ _ (fun e => hg (by rw [hk, e]))), hr.imp_ (fun _ _ hp => hd (d.K_of_M hp))⟩
theorem R_at (h : d.R e w base ok (.slice (some ⟨g, c, none⟩) n f) xs) : c = 0 ∧ n = xs.length ∧ ok g ∧ ∃ cells, w.heap[g]? = some (.cells cells e (0, 0)) ∧ n * d.sz ≤ cells.size := by
 obtain ⟨h0, inner, ho, hr⟩ := h
 rcases ho.2 with ⟨h1, _⟩ | ⟨g', cap, cur, h1, _, hh, hn, _, hs, _⟩
 ·simp at h1
 ·simp only [Value.slice.injEq, Option.some.injEq, Addr.mk.injEq, and_true] at h1
  obtain ⟨⟨rfl, rfl⟩, rfl, rfl⟩ := h1
  exact ⟨rfl, rfl, h0 _ rfl, cur, hh, by rw [hs]; exact Nat.mul_le_mul_right _ hn⟩
theorem R_some {A : Option Addr} (h : d.R e w base ok (.slice A n f) xs) (hn : 0 < n) : ∃ g, A = some ⟨g, 0, none⟩ := by
 obtain ⟨h0, inner, ho, hr⟩ := h
 rcases ho.2 with ⟨h1, _⟩ | ⟨g', cap, cur, h1, _⟩
 ·simp only [Value.slice.injEq] at h1; omega
 ·simp only [Value.slice.injEq] at h1
  exact ⟨g', h1.1⟩
end
section
variable {α : Type} {d : Kd α} {e : Nat} {N : Nat → Prop} {w w' W : World} {l : List HP} {i : Nat} {v u : Value} {A : Option Addr} {n c f : Nat} {xs : List α} {x : α} {cs : List Value}
theorem Own.nrow_row (hd : Loose d) (h : Own N w l) (hi : l[i]? = some (nrow d e v xs)) : Own N w (l.set i (row d e v xs)) := h.conv hi _ (fun F hp _ => N_R hd hp)
theorem Own.pushW {B : Nat} {ok : Nat → Prop} (h : Own N w l) (hb : Below w.heap.size w w') (hB : w.heap.size ≤ B) (hr : d.R e w' B ok v xs) : Own N w' (l ++ [row d e v xs]) :=
 h.push (row d e v xs) hb.size (fun k hk => hb.block k hk) (F := fun k => ok k ∧ B ≤ k ∧ k < w'.heap.size ∧ ∃ q, q ∈ e :: d.E ∧ ∃ cells, w'.heap[k]? = some (.cells cells q (0, 0))) (Kd.R_lower (Kd.R_bound hr) (Nat.zero_le _)) (fun k hk => Nat.le_trans hB hk.2.1)
theorem Own.appendR (d : Kd α) {p : α} {j : Nat} {P : Program} {ops : Array Oper} {rest : List Oper} {o : Oper} {a : Act} {Q : Exit → Act → World → Prop} (h : Own N W l) (hi : l[i]? = some (row d e v xs)) (hj : l[j]? = some (elem d p cs)) (hij : i ≠ j) (hgd : o.guard = none) (s x : Operand) (t : TypeId) (z : Value) (bytes : Nat)
  (ho : o.op = .call { callee := .builtin .append, args := #[s, x], argTypes := #[t, t] })
  (ht : P.underlying t = some (.slice e)) (hinfo : (P.info? e).map (fun i => (i.zero, i.size, i.bytes)) = some (some z, d.sz, bytes)) (hz : z.cells.size = d.sz) (hs0 : 0 < d.sz) (hb0 : 0 < bytes)
  (hs : a.eval s = v) (hx : a.eval x = .slice (some ⟨W.heap.size, 0, none⟩) 1 1) (hl : (xs.length + 1) * bytes ≤ 140737488355328)
  (hc : ∀ A1 c1 w1, Own N w1 ((l.set i (row d e (.slice A1 (xs.length + 1) c1) (xs ++ [p]))).set j emp) → KeepS N W w1 → wpList P ops Q rest (a.put o.dst (.slice A1 (xs.length + 1) c1)) w1) :
  wpList P ops Q (o :: rest) a (W.alloc (.cells cs.toArray e)) := by
 obtain ⟨hN, Fs, h1, h2, h3⟩ := h
 have hi0 : d.R e W 0 (Fs i) v xs := h1 i _ hi
 have hj0 : d.M W 0 (Fs j) p cs := h1 j _ hj
 refine Kd.R_append d (w0 := W) 0 hgd s x t e z bytes ho ht hinfo hz hs0 hb0 v xs p cs (fun k => Fs i k ∨ Fs j k ∨ W.heap.size ≤ k) (Fs j) hs hx hj0 ?_ (fun k hk => .inr (.inr hk)) (Kd.R_mono hi0 (fun k hk => .inl hk)) (Below.refl _ _) (Nat.zero_le _) hl ?_
 ·exact fun k hk => ⟨.inr (.inl hk), fun he => hij (h3 _ _ k (hi0.1 k he.symm) hk)⟩
 ·intro v1 w1 hn _ hg hat
  obtain ⟨A1, c1, rfl⟩ := Kd.R_slice hn
  rw [List.length_append, List.length_singleton] at hn ⊢
  refine hc A1 c1 w1 (merge hN h1 h2 h3 (List.getElem?_eq_some_iff.1 hi).1 (List.getElem?_eq_some_iff.1 hj).1 hij hg.size ?_ _ hn) (KeepS.grown hg (fun k hk hn => (h2 i k (hi0.1 k hk)).1 hn))
  exact fun k hk hno => hg.block k hk (fun he => hno (.inl (hi0.1 k he.symm)))
end
section
variable {α : Type} {d : Kd α} {e : Nat} {N : Nat → Prop} {w : World} {l : List HP} {i B : Nat} {v : Value} {xs : List α}
end
end Go.Proofs.YtjdenpmaianmfaaDoor.Sep
