/- Stores into a row of one's own: into an element; appends of elements with their rows; a row that is handed back. -/
import Derived.Test.YtfpegjdplggkpaaDoorYRoundSameEv
namespace Go.Proofs.YtfpegjdplggkpaaDoor.Sep
set_option linter.unusedSimpArgs false
set_option linter.unusedVariables false
open Go Go.RowKit Go.Proofs.YtfpegjdplggkpaaDoorW.PrintWords Go.Proofs.YtfpegjdplggkpaaDoorW.PrintLast Go.Proofs.YtfpegjdplggkpaaDoorW.PrintMore
section
variable {α β : Type} {d : Kd α} {e : Nat} {base : Nat} {ok : Nat → Prop} {w w' : World} {xs : List α} {v u : Value} {g f n c : Nat}
def Loose (d : Kd α) : Prop := ∀ {w w' : World} {base : Nat} {ok : Nat → Prop} {x : α} {cs : List Value}, d.K w x cs → d.M w' base ok x cs
theorem list_choose {P : Nat → α → Prop} (m : Nat) (h : ∀ j, j < m → ∃ x, P j x) : ∃ l : List α, l.length = m ∧ ∀ j x, l[j]? = some x → P j x := by
  induction m with
  | zero => exact ⟨[], rfl, fun j x hj => by simp at hj⟩
  | succ m ih =>
    obtain ⟨l, hl, hp⟩ := ih (fun j hj => h j (by omega))
    obtain ⟨x, hx⟩ := h m (by omega)
    refine ⟨l ++ [x], by rw [List.length_append, hl]; rfl, fun j y hj => ?_⟩
    rcases Nat.lt_or_ge j l.length with hlt | hge
    · rw [List.getElem?_append_left hlt] at hj
      exact hp j y hj
    · rw [List.getElem?_append_right hge] at hj
      have hj0 : j - l.length = 0 := by
        have := (List.getElem?_eq_some_iff.1 hj).1
        simp at this
        omega
      rw [hj0] at hj
      simp only [List.getElem?_cons_zero, Option.some.injEq] at hj
      subst hj
      rw [show j = m by omega]
      exact hx
theorem chunk_same (l : List Value) (i sz f : Nat) (u : Value) : ((l.set (i * sz + f) u).drop (i * sz)).take sz = ((l.drop (i * sz)).take sz).set f u := by
  rw [List.drop_set, if_neg (by omega), List.take_set, Nat.add_sub_cancel_left]
theorem chunk_other (l : List Value) (i j sz f : Nat) (u : Value) (hf : f < sz) (hij : j ≠ i) : ((l.set (i * sz + f) u).drop (j * sz)).take sz = (l.drop (j * sz)).take sz := by
  rw [List.drop_set]
  split
  · rfl
  · rename_i h
    have h2 : j < i := by
      rcases Nat.lt_or_ge j i with h3 | h3
      · exact h3
      · have : i + 1 ≤ j := by omega
        have := Nat.mul_le_mul_right sz this
        rw [Nat.add_mul, Nat.one_mul] at this
        omega
    have h4 : (j + 1) * sz ≤ i * sz := Nat.mul_le_mul_right sz h2
    rw [Nat.add_mul, Nat.one_mul] at h4
    rw [List.take_set, List.set_eq_of_length_le]
    rw [List.length_take]
    omega
def Puts (d : Kd α) (f : Nat) (u : Value) : Prop := ∀ {w : World} {x : α} {cs : List Value}, d.K w x cs → ∃ x', d.K w x' (cs.set f u)
theorem R_put (hd : Loose d) (hu : Puts d f u) (hf : f < d.sz) (h : d.R e w base ok v xs) (i : Nat) : ∃ xs', xs'.length = xs.length ∧ d.R e (w.setCell ⟨g, i * d.sz + f, none⟩ u) base ok v xs' := by
  obtain ⟨h0, inner, ho, hr⟩ := h
  by_cases hg : v.ownBlock = some g
  · rcases ho.2 with ⟨rfl, _⟩ | ⟨g', cap, cur, rfl, _⟩
    · simp [Value.ownBlock] at hg
    have : g' = g := by simpa [Value.ownBlock] using hg
    subst this
    have hst := (ho.stored (i * d.sz + f) u).1
    obtain ⟨xs', hl, hx⟩ := list_choose (P := fun j x => d.M (w.setCell ⟨g', i * d.sz + f, none⟩ u) base (fun k => ok k ∧ some k ≠ Value.ownBlock (.slice (some ⟨g', 0, none⟩) xs.length cap)) x (((inner.set (i * d.sz + f) u).drop (j * d.sz)).take d.sz)) xs.length (fun j hj => by
      have hm := hr.2 j _ (List.getElem?_eq_getElem hj)
      by_cases hji : j = i
      · subst hji
        rw [chunk_same]
        obtain ⟨x', hx'⟩ := hu (d.K_of_M hm)
        exact ⟨x', hd hx'⟩
      · rw [chunk_other _ _ _ _ _ _ hf hji]
        exact ⟨_, hd (d.K_of_M hm)⟩)
    exact ⟨xs', hl, h0, inner.set (i * d.sz + f) u, by rw [hl]; exact hst, by rw [List.length_set, hl]; exact hr.1, hx⟩
  · refine ⟨xs, rfl, h0, inner, own_move ho (fun k hk => Below.heap_setCell _ _ _ _ (fun e => hg (by rw [hk, e]))), hr.imp_ (fun _ _ hp => hd (d.K_of_M hp))⟩
end
section
variable {α : Type} {d : Kd α} {e : Nat} {N : Nat → Prop} {w w' W : World} {l : List HP} {i : Nat} {v u : Value} {A : Option Addr} {n c f : Nat} {xs : List α} {x : α} {cs : List Value}
end
section
variable {α : Type} {d : Kd α} {e : Nat} {N : Nat → Prop} {w : World} {l : List HP} {i B : Nat} {v : Value} {xs : List α}
end
end Go.Proofs.YtfpegjdplggkpaaDoor.Sep
