/- Resources: what a call owns in memory, as a list. Each resource is known by its blocks, and no two share one; what a callee is not handed stays as it is. Plain lemmas over worlds, for any program. -/
import Derived.Test.YtjdenpmaianmfaaDoorY6WNEv
namespace Go.Proofs.YtjdenpmaianmfaaDoor.Sep
set_option linter.unusedSimpArgs false
set_option linter.unusedVariables false
open Go RowKit YtjdenpmaianmfaaDoorW.PrintWords
structure KeepS (N : Nat → Prop) (w w' : World) : Prop where
 os : w'.os = w.os
 tape : w'.tape = w.tape
 output : w'.output = w.output
 size : w.heap.size ≤ w'.heap.size
 block : ∀ k, k < w.heap.size → N k → w'.heap[k]? = w.heap[k]?
section
variable {N N' : Nat → Prop} {w w1 w2 w' : World}
theorem KeepS.refl (N : Nat → Prop) (w : World) : KeepS N w w := ⟨rfl, rfl, rfl, Nat.le_refl _, fun _ _ _ => rfl⟩
theorem KeepS.trans (h : KeepS N w w1) (k : KeepS N w1 w2) : KeepS N w w2 :=
 ⟨k.os.trans h.os, k.tape.trans h.tape, k.output.trans h.output, Nat.le_trans h.size k.size, fun i hi hn => (k.block i (Nat.lt_of_lt_of_le hi h.size) hn).trans (h.block i hi hn)⟩
theorem KeepS.mono (h : KeepS N' w w') (hn : ∀ k, N k → N' k) : KeepS N w w' := ⟨h.os, h.tape, h.output, h.size, fun k hk n => h.block k hk (hn k n)⟩
theorem KeepS.of_below (h : Below w.heap.size w w') : KeepS N w w' := ⟨h.os, h.tape, h.output, h.size, fun k hk _ => h.block k hk⟩
theorem KeepS.below (h : KeepS N w w') {B : Nat} (hB : B ≤ w.heap.size) (hN : ∀ k, k < B → N k) : Below B w w' := ⟨h.os, h.tape, h.output, h.size, fun k hk => h.block k (Nat.lt_of_lt_of_le hk hB) (hN k hk)⟩
theorem KeepS.grown {row : Option Nat} (hg : w.grownBy w' row) (hr : ∀ k, row = some k → ¬ N k) : KeepS N w w' :=
 ⟨hg.os, hg.tape, hg.output, hg.size, fun k hk hn => hg.block k hk (fun e => hr k e.symm hn)⟩
theorem KeepS.setCell {p : Addr} (hb : ¬ N p.block) (u : Value) : KeepS N w (w.setCell p u) :=
 ⟨rfl, rfl, rfl, by simp [World.setCell], fun k _ hn => Below.heap_setCell _ _ _ _ (fun e => hb (e ▸ hn))⟩
theorem KeepS.alloc (o : Obj) : KeepS N w (w.alloc o) := KeepS.of_below ((Below.refl _ w).alloc (Nat.le_refl _) o)
theorem KeepS.drew : KeepS N w w.drew := KeepS.of_below (Below.drew (Below.refl _ w))
end
structure HP where
 P : (Nat → Prop) → World → Prop
 move : ∀ {F : Nat → Prop} {w w' : World}, P F w → w.heap.size ≤ w'.heap.size → (∀ k, F k → k < w.heap.size → w'.heap[k]? = w.heap[k]?) → P F w'
 mono : ∀ {F F' : Nat → Prop} {w : World}, P F w → (∀ k, F k → F' k) → P F' w
 bound : ∀ {F : Nat → Prop} {w : World}, P F w → P (fun k => F k ∧ k < w.heap.size) w
def emp : HP := ⟨fun _ _ => True, fun _ _ _ => trivial, fun _ _ => trivial, fun _ => trivial⟩
def cells (b : Nat) (cs : Array Value) (t : TypeId) : HP where
 P := fun F w => F b ∧ w.heap[b]? = some (.cells cs t (0, 0))
 move := fun h _ hk => ⟨h.1, (hk b h.1 (blk_lt h.2)).trans h.2⟩
 mono := fun h hf => ⟨hf _ h.1, h.2⟩
 bound := fun h => ⟨⟨h.1, blk_lt h.2⟩, h.2⟩
def row {α : Type} (d : Kd α) (e : Nat) (v : Value) (xs : List α) : HP where
 P := fun F w => d.R e w 0 F v xs
 move := fun h _ hk => Kd.R_step h hk
 mono := fun h hf => Kd.R_mono h hf
 bound := fun h => Kd.R_mono (Kd.R_bound h) (fun k hk => ⟨hk.1, hk.2.2.1⟩)
def elem {α : Type} (d : Kd α) (x : α) (cs : List Value) : HP where
 P := fun F w => d.M w 0 F x cs
 move := fun h _ hk => Kd.M_step h hk
 mono := fun h hf => d.M_mono hf h
 bound := fun h => d.M_mono (fun k hk => ⟨hk.1, hk.2.2.1⟩) (d.M_bound h)
def nrow {α : Type} (d : Kd α) (e : Nat) (v : Value) (xs : List α) : HP where
 P := fun F w => Kd.N d e w 0 F v xs
 move := fun h _ hk => Kd.N_step h hk
 mono := fun h hf => Kd.N_mono h hf
 bound := fun h => Kd.N_bound h
def rd {α : Type} (d : Kd α) (A : Option Addr) (n : Nat) (xs : List α) : HP where
 P := fun F w => Kd.F d w F A n xs
 move := fun h _ hk => Kd.F_step h hk
 mono := fun h hf => Kd.F_mono h hf
 bound := fun h => Kd.F_bound h
def star (a b : HP) : HP where
 P := fun F w => ∃ F1 F2, a.P F1 w ∧ b.P F2 w ∧ (∀ k, F1 k → F2 k → False) ∧ (∀ k, F1 k → F k) ∧ (∀ k, F2 k → F k)
 move := fun ⟨F1, F2, h1, h2, hd, g1, g2⟩ hs hk => ⟨F1, F2, a.move h1 hs (fun k hf => hk k (g1 k hf)), b.move h2 hs (fun k hf => hk k (g2 k hf)), hd, g1, g2⟩
 mono := fun ⟨F1, F2, h1, h2, hd, g1, g2⟩ hf => ⟨F1, F2, h1, h2, hd, fun k h => hf k (g1 k h), fun k h => hf k (g2 k h)⟩
 bound := fun ⟨F1, F2, h1, h2, hd, g1, g2⟩ => ⟨_, _, a.bound h1, b.bound h2, fun k h h' => hd k h.1 h'.1, fun k h => ⟨g1 k h.1, h.2⟩, fun k h => ⟨g2 k h.1, h.2⟩⟩
def both (a b : HP) : HP where
 P := fun F w => a.P F w ∧ b.P F w
 move := fun h hs hk => ⟨a.move h.1 hs hk, b.move h.2 hs hk⟩
 mono := fun h hf => ⟨a.mono h.1 hf, b.mono h.2 hf⟩
 bound := fun h => ⟨a.bound h.1, b.bound h.2⟩
def ex {α : Sort 1} (f : α → HP) : HP where
 P := fun F w => ∃ a, (f a).P F w
 move := fun ⟨a, h⟩ hs hk => ⟨a, (f a).move h hs hk⟩
 mono := fun ⟨a, h⟩ hf => ⟨a, (f a).mono h hf⟩
 bound := fun ⟨a, h⟩ => ⟨a, (f a).bound h⟩
def also (φ : Prop) (a : HP) : HP where
 P := fun F w => φ ∧ a.P F w
 move := fun h hs hk => ⟨h.1, a.move h.2 hs hk⟩
 mono := fun h hf => ⟨h.1, a.mono h.2 hf⟩
 bound := fun h => ⟨h.1, a.bound h.2⟩
def Own (N : Nat → Prop) (w : World) (l : List HP) : Prop :=
 (∀ k, N k → k < w.heap.size) ∧ ∃ Fs : Nat → Nat → Prop, (∀ (i : Nat) (P : HP), l[i]? = some P → P.P (Fs i) w) ∧ (∀ i k, Fs i k → ¬ N k ∧ k < w.heap.size) ∧ (∀ i j k, Fs i k → Fs j k → i = j)
section
variable {N N' : Nat → Prop} {w w' : World} {l : List HP} {i j : Nat} {P Q P1 P2 : HP}
theorem Own.start_ (hN : ∀ k, N k → k < w.heap.size) : Own N w [] := ⟨hN, fun _ _ => False, fun i P h => by simp at h, fun _ _ h => h.elim, fun _ _ _ h => h.elim⟩
theorem Own.step (h : Own N w l) (hs : w.heap.size ≤ w'.heap.size) (hk : ∀ k, k < w.heap.size → ¬ N k → w'.heap[k]? = w.heap[k]?) : Own N w' l := by
 obtain ⟨hN, Fs, h1, h2, h3⟩ := h
 exact ⟨fun k hk => Nat.lt_of_lt_of_le (hN k hk) hs, Fs, fun i P hi => P.move (h1 i P hi) hs (fun k hf hlt => hk k hlt (h2 i k hf).1), fun i k hf => ⟨(h2 i k hf).1, Nat.lt_of_lt_of_le (h2 i k hf).2 hs⟩, h3⟩
theorem Own.below (h : Own N w l) (hb : Below w.heap.size w w') : Own N w' l := h.step hb.size (fun k hk _ => hb.block k hk)
theorem Own.drew (h : Own N w l) : Own N w.drew l := h.below (Below.drew (Below.refl _ w))
theorem Own.upd (h : Own N w l) (hi : l[i]? = some P) (Q : HP)
  (hk : ∀ F : Nat → Prop, P.P F w → (∀ k, F k → ¬ N k ∧ k < w.heap.size) → w.heap.size ≤ w'.heap.size ∧ (∀ k, k < w.heap.size → ¬ F k → w'.heap[k]? = w.heap[k]?) ∧ ∃ F' : Nat → Prop, Q.P F' w' ∧ ∀ k, F' k → F k ∨ w.heap.size ≤ k) : Own N w' (l.set i Q) := by
 obtain ⟨hN, Fs, h1, h2, h3⟩ := h
 obtain ⟨hs, hkeep, F', hq, hF⟩ := hk (Fs i) (h1 i P hi) (fun k hf => h2 i k hf)
 have hlt : i < l.length := (List.getElem?_eq_some_iff.1 hi).1
 refine ⟨fun k hk => Nat.lt_of_lt_of_le (hN k hk) hs, fun m k => (m = i ∧ F' k ∧ k < w'.heap.size) ∨ (m ≠ i ∧ Fs m k), ?_, ?_, ?_⟩
 ·intro m R hm
  by_cases hmi : m = i
  ·subst hmi
   rw [List.getElem?_set_self hlt] at hm
   injection hm with hm
   subst hm
   exact Q.mono (Q.bound hq) (fun k hf => .inl ⟨rfl, hf⟩)
  ·rw [List.getElem?_set_ne (fun e => hmi e.symm)] at hm
   exact R.mono (R.move (h1 m R hm) hs (fun k hf hlt => hkeep k hlt (fun hi => hmi (h3 m i k hf hi)))) (fun k hf => .inr ⟨hmi, hf⟩)
 ·rintro m k (⟨rfl, hf, hl⟩ | ⟨hm, hf⟩)
  ·refine ⟨fun hn => ?_, hl⟩
   rcases hF k hf with hf | hf
   ·exact (h2 m k hf).1 hn
   ·have := hN k hn
    omega
  ·exact ⟨(h2 m k hf).1, Nat.lt_of_lt_of_le (h2 m k hf).2 hs⟩
 ·rintro m n k (⟨rfl, hf, hl⟩ | ⟨hm, hf⟩) (⟨rfl, hf', hl'⟩ | ⟨hn, hf'⟩)
  ·rfl
  ·rcases hF k hf with hf | hf
   ·exact absurd (h3 m n k hf hf') (fun e => hn e.symm)
   ·have := (h2 n k hf').2
    omega
  ·rcases hF k hf' with hf' | hf'
   ·exact absurd (h3 m n k hf hf') (fun e => hm e)
   ·have := (h2 m k hf).2
    omega
  ·exact h3 m n k hf hf'
theorem Own.conv (h : Own N w l) (hi : l[i]? = some P) (Q : HP) (hk : ∀ F : Nat → Prop, P.P F w → (∀ k, F k → ¬ N k ∧ k < w.heap.size) → Q.P F w) : Own N w (l.set i Q) :=
 h.upd hi Q (fun F hp hf => ⟨Nat.le_refl _, fun _ _ _ => rfl, F, hk F hp hf, fun k hk => .inl hk⟩)
theorem Own.of_ex {α : Sort 1} {f : α → HP} (h : Own N w l) (hi : l[i]? = some (ex f)) : ∃ a, Own N w (l.set i (f a)) := by
 obtain ⟨a, ha⟩ : ∃ a, (f a).P (h.2.choose i) w := h.2.choose_spec.1 i _ hi
 obtain ⟨hN, Fs, h1, h2, h3⟩ := h
 obtain ⟨a, ha⟩ := h1 i _ hi
 have hlt : i < l.length := (List.getElem?_eq_some_iff.1 hi).1
 refine ⟨a, hN, Fs, fun m R hm => ?_, h2, h3⟩
 by_cases hmi : m = i
 ·subst hmi
  rw [List.getElem?_set_self hlt] at hm
  injection hm with hm
  subst hm
  exact ha
 ·rw [List.getElem?_set_ne (fun e => hmi e.symm)] at hm
  exact h1 m R hm
theorem Own.of_also {φ : Prop} (h : Own N w l) (hi : l[i]? = some (also φ P)) : φ ∧ Own N w (l.set i P) := by
 refine ⟨?_, h.conv hi P (fun _ hp _ => hp.2)⟩
 obtain ⟨hN, Fs, h1, h2, h3⟩ := h
 exact (h1 i _ hi).1
theorem Own.push (h : Own N w l) (Q : HP) (hs : w.heap.size ≤ w'.heap.size) (hk : ∀ k, k < w.heap.size → w'.heap[k]? = w.heap[k]?) {F : Nat → Prop} (hq : Q.P F w') (hF : ∀ k, F k → w.heap.size ≤ k) : Own N w' (l ++ [Q]) := by
 obtain ⟨hN, Fs, h1, h2, h3⟩ := h
 refine ⟨fun k hk => Nat.lt_of_lt_of_le (hN k hk) hs, fun m k => (m = l.length ∧ F k ∧ k < w'.heap.size) ∨ (m < l.length ∧ Fs m k), ?_, ?_, ?_⟩
 ·intro m R hm
  rcases Nat.lt_or_ge m l.length with hml | hml
  ·rw [List.getElem?_append_left hml] at hm
   exact R.mono (R.move (h1 m R hm) hs (fun k _ hlt => hk k hlt)) (fun k hf => .inr ⟨hml, hf⟩)
  ·have hm' : m = l.length := by
    have := (List.getElem?_eq_some_iff.1 hm).1
    rw [List.length_append, List.length_singleton] at this
    omega
   subst hm'
   have : Q = R := by simpa using hm
   subst this
   exact Q.mono (Q.bound hq) (fun k hf => .inl ⟨rfl, hf⟩)
 ·rintro m k (⟨rfl, hf, hl⟩ | ⟨hm, hf⟩)
  ·refine ⟨fun hn => ?_, hl⟩
   have := hN k hn
   have := hF k hf
   omega
  ·exact ⟨(h2 m k hf).1, Nat.lt_of_lt_of_le (h2 m k hf).2 hs⟩
 ·rintro m n k (⟨rfl, hf, hl⟩ | ⟨hm, hf⟩) (⟨rfl, hf', hl'⟩ | ⟨hn, hf'⟩)
  ·rfl
  ·have := hF k hf
   have := (h2 n k hf').2
   omega
  ·have := hF k hf'
   have := (h2 m k hf).2
   omega
  ·exact h3 m n k hf hf'
theorem Own.push_emp (h : Own N w l) (Q : HP) (hq : ∀ w, Q.P (fun _ => False) w) : Own N w (l ++ [Q]) := h.push Q (Nat.le_refl _) (fun _ _ => rfl) (hq w) (fun _ h => h.elim)
theorem Own.take (h : Own N w l) (n : Nat) : Own N w (l.take n) := by
 obtain ⟨hN, Fs, h1, h2, h3⟩ := h
 refine ⟨hN, Fs, fun m R hm => h1 m R ?_, h2, h3⟩
 rw [List.getElem?_take] at hm
 split at hm
 ·exact hm
 ·simp at hm
theorem Own.pick {l' : List HP} (h : Own N w l) (f : List Nat) (hn : f.Nodup) (hf : ∀ (m : Nat) (P : HP), l'[m]? = some P → ∃ i, f[m]? = some i ∧ l[i]? = some P) : Own N w l' := by
 obtain ⟨hN, Fs, h1, h2, h3⟩ := h
 refine ⟨hN, fun m k => ∃ i, f[m]? = some i ∧ Fs i k, ?_, ?_, ?_⟩
 ·intro m P hm
  obtain ⟨i, hi, hl⟩ := hf m P hm
  exact P.mono (h1 i P hl) (fun k hk => ⟨i, hi, hk⟩)
 ·rintro m k ⟨i, _, hk⟩
  exact h2 i k hk
 ·rintro m n k ⟨i, hi, hk⟩ ⟨j, hj, hk'⟩
  have := h3 i j k hk hk'
  subst this
  obtain ⟨a, ha⟩ := List.getElem?_eq_some_iff.1 hi
  obtain ⟨b, hb⟩ := List.getElem?_eq_some_iff.1 hj
  exact (List.getElem_inj hn).1 (ha.trans hb.symm)
theorem Own.pickL (h : Own N w l) (f : List Nat) (hn : f.Nodup) (hl : ∀ i ∈ f, i < l.length) : Own N w (f.map fun i => l.getD i emp) :=
 h.pick f hn (fun m P hm => by
  rw [List.getElem?_map, Option.map_eq_some_iff] at hm
  obtain ⟨i, hi, rfl⟩ := hm
  have hlt := hl i (List.mem_of_getElem? hi)
  refine ⟨i, hi, ?_⟩
  rw [List.getD_eq_getElem?_getD, List.getElem?_eq_getElem hlt]
  rfl)
theorem Own.pick1 {a : Nat} {P1 : HP} (h : Own N w l) (ha : l[a]? = some P1) : Own N w [P1] :=
 h.pick [a] (by simp) (fun m P hm => by
  rcases m with _ | m
  ·simp only [List.getElem?_cons_zero, Option.some.injEq] at hm; subst hm; exact ⟨a, rfl, ha⟩
  ·simp at hm)
theorem Own.split (h : Own N w l) (hi : l[i]? = some (star P Q)) : Own N w (l.set i P ++ [Q]) := by
 obtain ⟨hN, Fs, h1, h2, h3⟩ := h
 obtain ⟨F1, F2, p1, p2, hd, g1, g2⟩ := h1 i _ hi
 have hlt : i < l.length := (List.getElem?_eq_some_iff.1 hi).1
 refine ⟨hN, fun m k => (m = i ∧ F1 k) ∨ (m = l.length ∧ F2 k) ∨ (m ≠ i ∧ m < l.length ∧ Fs m k), ?_, ?_, ?_⟩
 ·intro m R hm
  rcases Nat.lt_or_ge m l.length with hml | hml
  ·rw [List.getElem?_append_left (by rw [List.length_set]; exact hml)] at hm
   by_cases hmi : m = i
   ·subst hmi
    rw [List.getElem?_set_self hlt] at hm
    injection hm with hm
    subst hm
    exact P.mono p1 (fun k hf => .inl ⟨rfl, hf⟩)
   ·rw [List.getElem?_set_ne (fun e => hmi e.symm)] at hm
    exact R.mono (h1 m R hm) (fun k hf => .inr (.inr ⟨hmi, hml, hf⟩))
  ·have hm' : m = l.length := by
    have := (List.getElem?_eq_some_iff.1 hm).1
    rw [List.length_append, List.length_singleton, List.length_set] at this
    omega
   subst hm'
   have : Q = R := by
    rw [List.getElem?_append_right (by rw [List.length_set]; exact Nat.le_refl _), List.length_set, Nat.sub_self] at hm
    simpa using hm
   subst this
   exact Q.mono p2 (fun k hf => .inr (.inl ⟨rfl, hf⟩))
 ·rintro m k (⟨rfl, hf⟩ | ⟨rfl, hf⟩ | ⟨_, _, hf⟩)
  ·exact h2 _ k (g1 k hf)
  ·exact h2 _ k (g2 k hf)
  ·exact h2 _ k hf
 ·rintro m n k (⟨rfl, hf⟩ | ⟨rfl, hf⟩ | ⟨a, b, hf⟩) (⟨rfl, hf'⟩ | ⟨rfl, hf'⟩ | ⟨a', b', hf'⟩)
  ·rfl
  ·exact (hd k hf hf').elim
  ·exact absurd (h3 _ _ k (g1 k hf) hf') (fun e => a' e.symm)
  ·exact (hd k hf' hf).elim
  ·rfl
  ·exact absurd (h3 _ _ k (g2 k hf) hf') (fun e => a' e.symm)
  ·exact absurd (h3 _ _ k hf (g1 k hf')) a
  ·exact absurd (h3 _ _ k hf (g2 k hf')) a
  ·exact h3 _ _ k hf hf'
theorem Own.join (h : Own N w l) (hi : l[i]? = some P) (hj : l[j]? = some Q) (hij : i ≠ j) : Own N w ((l.set i (star P Q)).set j emp) := by
 obtain ⟨hN, Fs, h1, h2, h3⟩ := h
 have hlt : i < l.length := (List.getElem?_eq_some_iff.1 hi).1
 have hlj : j < l.length := (List.getElem?_eq_some_iff.1 hj).1
 refine ⟨hN, fun m k => (m = i ∧ (Fs i k ∨ Fs j k)) ∨ (m ≠ i ∧ m ≠ j ∧ Fs m k), ?_, ?_, ?_⟩
 ·intro m R hm
  by_cases hmj : m = j
  ·subst hmj
   rw [List.getElem?_set_self (by rw [List.length_set]; exact hlj)] at hm
   injection hm with hm
   subst hm
   trivial
  rw [List.getElem?_set_ne (fun e => hmj e.symm)] at hm
  by_cases hmi : m = i
  ·subst hmi
   rw [List.getElem?_set_self hlt] at hm
   injection hm with hm
   subst hm
   exact ⟨Fs m, Fs j, h1 _ _ hi, h1 _ _ hj, fun k a b => hij (h3 _ _ k a b), fun k a => .inl ⟨rfl, .inl a⟩, fun k a => .inl ⟨rfl, .inr a⟩⟩
  ·rw [List.getElem?_set_ne (fun e => hmi e.symm)] at hm
   exact R.mono (h1 m R hm) (fun k hf => .inr ⟨hmi, hmj, hf⟩)
 ·rintro m k (⟨rfl, hf | hf⟩ | ⟨_, _, hf⟩)
  ·exact h2 _ k hf
  ·exact h2 _ k hf
  ·exact h2 _ k hf
 ·rintro m n k (⟨rfl, hf | hf⟩ | ⟨a, b, hf⟩) (⟨rfl, hf' | hf'⟩ | ⟨a', b', hf'⟩)
  ·rfl
  ·rfl
  ·exact absurd (h3 _ _ k hf hf') (fun e => a' e.symm)
  ·rfl
  ·rfl
  ·exact absurd (h3 _ _ k hf hf') (fun e => b' e.symm)
  ·exact absurd (h3 _ _ k hf hf') a
  ·exact absurd (h3 _ _ k hf hf') b
  ·exact h3 _ _ k hf hf'
theorem Own.frame1 (h : Own N w l) (hi : l[i]? = some P) : ∃ N' : Nat → Prop, Own N' w [P] ∧ (∀ k, N k → N' k) ∧ (∀ (j : Nat) (X : HP), j ≠ i → l[j]? = some X → X.P N' w) ∧
  (∀ w' Q rest, KeepS N' w w' → Own N' w' (Q :: rest) → Own N w' (l.set i Q ++ rest) ∧ KeepS N w w') := by
 obtain ⟨hN, Fs, h1, h2, h3⟩ := h
 have hlt : i < l.length := (List.getElem?_eq_some_iff.1 hi).1
 refine ⟨fun k => N k ∨ ∃ j, j ≠ i ∧ Fs j k, ⟨?_, fun m k => m = 0 ∧ Fs i k, ?_, ?_, ?_⟩, fun k hk => .inl hk, ?_, ?_⟩
 ·rintro k (hk | ⟨j, _, hf⟩)
  ·exact hN k hk
  ·exact (h2 j k hf).2
 ·intro m R hm
  have hm0 : m = 0 := by
   have := (List.getElem?_eq_some_iff.1 hm).1
   rw [List.length_singleton] at this
   omega
  subst hm0
  have : P = R := by simpa using hm
  subst this
  exact P.mono (h1 i P hi) (fun k hf => ⟨rfl, hf⟩)
 ·rintro m k ⟨_, hf⟩
  refine ⟨?_, (h2 i k hf).2⟩
  rintro (hn | ⟨j, hj, hf'⟩)
  ·exact (h2 i k hf).1 hn
  ·exact hj (h3 j i k hf' hf)
 ·rintro m n k ⟨rfl, _⟩ ⟨rfl, _⟩
  rfl
 ·intro j X hj hX
  exact X.mono (h1 j X hX) (fun k hf => .inr ⟨j, hj, hf⟩)
 ·intro w' Q rest hk hq
  obtain ⟨hN', Gs, q1, q2, q3⟩ := hq
  refine ⟨⟨fun k hn => hN' k (.inl hn), fun m k => (m = i ∧ Gs 0 k) ∨ (m ≠ i ∧ m < l.length ∧ Fs m k) ∨ (l.length ≤ m ∧ Gs (m - l.length + 1) k), ?_, ?_, ?_⟩, hk.mono (fun k hn => .inl hn)⟩
  ·intro m R hm
   rcases Nat.lt_or_ge m l.length with hml | hml
   ·rw [List.getElem?_append_left (by rw [List.length_set]; exact hml)] at hm
    by_cases hmi : m = i
    ·subst hmi
     rw [List.getElem?_set_self hlt] at hm
     injection hm with hm
     subst hm
     exact Q.mono (q1 0 Q rfl) (fun k hf => .inl ⟨rfl, hf⟩)
    ·rw [List.getElem?_set_ne (fun e => hmi e.symm)] at hm
     exact R.mono (R.move (h1 m R hm) hk.size (fun k hf hlt => hk.block k hlt (.inr ⟨m, hmi, hf⟩))) (fun k hf => .inr (.inl ⟨hmi, hml, hf⟩))
   ·rw [List.getElem?_append_right (by rw [List.length_set]; exact hml), List.length_set] at hm
    exact R.mono (q1 (m - l.length + 1) R (by rw [List.getElem?_cons_succ]; exact hm)) (fun k hf => .inr (.inr ⟨hml, hf⟩))
  ·rintro m k (⟨rfl, hf⟩ | ⟨_, _, hf⟩ | ⟨_, hf⟩)
   ·exact ⟨fun hn => (q2 _ k hf).1 (.inl hn), (q2 _ k hf).2⟩
   ·exact ⟨(h2 m k hf).1, Nat.lt_of_lt_of_le (h2 m k hf).2 hk.size⟩
   ·exact ⟨fun hn => (q2 _ k hf).1 (.inl hn), (q2 _ k hf).2⟩
  ·have far : ∀ {m n k}, Gs m k → n ≠ i → Fs n k → False := fun {m n k} hg hn hf => (q2 m k hg).1 (.inr ⟨n, hn, hf⟩)
   rintro m n k (⟨rfl, hf⟩ | ⟨a, b, hf⟩ | ⟨a, hf⟩) (⟨rfl, hf'⟩ | ⟨a', b', hf'⟩ | ⟨a', hf'⟩)
   ·rfl
   ·exact (far hf a' hf').elim
   ·have := q3 _ _ k hf hf'
    omega
   ·exact (far hf' a hf).elim
   ·exact h3 _ _ k hf hf'
   ·exact (far hf' a hf).elim
   ·have := q3 _ _ k hf hf'
    omega
   ·exact (far hf a' hf').elim
   ·have := q3 _ _ k hf hf'
    omega
theorem Own.frame0 (h : Own N w l) : ∃ N' : Nat → Prop, Own N' w [] ∧ (∀ k, N k → N' k) ∧ (∀ (j : Nat) (X : HP), l[j]? = some X → X.P N' w) ∧
  (∀ w' rest, KeepS N' w w' → Own N' w' rest → Own N w' (l ++ rest) ∧ KeepS N w w') := by
 have h' : Own N w (emp :: l) := by
  obtain ⟨hN, Fs, h1, h2, h3⟩ := h
  refine ⟨hN, fun m k => ∃ n, m = n + 1 ∧ Fs n k, ?_, ?_, ?_⟩
  ·intro m R hm
   cases m with
   | zero => injection hm with hm; subst hm; trivial
   | succ m => exact R.mono (h1 m R (by simpa using hm)) (fun k hf => ⟨m, rfl, hf⟩)
  ·rintro m k ⟨n, _, hf⟩
   exact h2 n k hf
  ·rintro m n k ⟨a, rfl, hf⟩ ⟨b, rfl, hf'⟩
   rw [h3 a b k hf hf']
 obtain ⟨N', o, hn, hr, hb⟩ := h'.frame1 (i := 0) rfl
 refine ⟨N', ?_, hn, fun j X hj => hr (j + 1) X (by omega) (by simpa using hj), fun w' rest hk ho => ?_⟩
 ·have := o.take 0
  simpa using this
 ·have ho' : Own N' w' (emp :: rest) := by
   obtain ⟨hN, Fs, h1, h2, h3⟩ := ho
   refine ⟨hN, fun m k => ∃ n, m = n + 1 ∧ Fs n k, ?_, ?_, ?_⟩
   ·intro m R hm
    cases m with
    | zero => injection hm with hm; subst hm; trivial
    | succ m => exact R.mono (h1 m R (by simpa using hm)) (fun k hf => ⟨m, rfl, hf⟩)
   ·rintro m k ⟨n, _, hf⟩
    exact h2 n k hf
   ·rintro m n k ⟨a, rfl, hf⟩ ⟨b, rfl, hf'⟩
    rw [h3 a b k hf hf']
  obtain ⟨q, k⟩ := hb w' emp rest hk ho'
  refine ⟨?_, k⟩
  have q' : Own N w' (emp :: (l ++ rest)) := q
  obtain ⟨hN, Fs, h1, h2, h3⟩ := q'
  exact ⟨hN, fun m k => Fs (m + 1) k, fun m R hm => h1 (m + 1) R (by simpa using hm), fun m k hf => h2 _ k hf, fun m n k a b => by have := h3 _ _ k a b; omega⟩
end
section
variable {N : Nat → Prop} {w w' : World} {l : List HP} {i j : Nat} {b b' : Nat} {cs cs' : Array Value} {t t' : TypeId}
theorem Own.blk (h : Own N w l) (hi : l[i]? = some (cells b cs t)) : w.heap[b]? = some (.cells cs t (0, 0)) := by
 obtain ⟨hN, Fs, h1, h2, h3⟩ := h
 exact (h1 i _ hi).2
theorem Own.far (h : Own N w l) (hi : l[i]? = some (cells b cs t)) : ¬ N b := by
 obtain ⟨hN, Fs, h1, h2, h3⟩ := h
 exact (h2 i b (h1 i _ hi).1).1
theorem Own.ne (h : Own N w l) (hi : l[i]? = some (cells b cs t)) (hj : l[j]? = some (cells b' cs' t')) (hij : i ≠ j) : b ≠ b' := by
 obtain ⟨hN, Fs, h1, h2, h3⟩ := h
 rintro rfl
 exact hij (h3 i j b (h1 i _ hi).1 (h1 j _ hj).1)
theorem Own.fact (h : Own N w l) {P : HP} (hi : l[i]? = some P) : ∃ F, P.P F w := by
 obtain ⟨hN, Fs, h1, h2, h3⟩ := h
 exact ⟨_, h1 i P hi⟩
theorem Own.new (h : Own N w l) (cs : Array Value) (t : TypeId) : Own N (w.alloc (.cells cs t)) (l ++ [cells w.heap.size cs t]) :=
 h.push (cells w.heap.size cs t) (by simp) (fun k hk => Below.heap_alloc _ _ _ hk) (F := fun k => k = w.heap.size) ⟨rfl, heap_alloc_new w _⟩ (fun k hk => by omega)
theorem Own.set (h : Own N w l) (hi : l[i]? = some (cells b cs t)) (j : Nat) (v : Value) : Own N (w.setCell ⟨b, j, none⟩ v) (l.set i (cells b (cs.setIfInBounds j v) t)) :=
 h.upd hi _ (fun F hp hf => ⟨by simp [World.setCell], fun k _ hk => Below.heap_setCell _ _ _ _ (fun e => hk (by rw [show k = b from e]; exact hp.1)), F, ⟨hp.1, blk_set hp.2 j v⟩, fun k hk => .inl hk⟩)
theorem Own.set_keep (h : Own N w l) (hi : l[i]? = some (cells b cs t)) (j : Nat) (v : Value) : KeepS N w (w.setCell ⟨b, j, none⟩ v) := KeepS.setCell (h.far hi) v
end
section
variable {α : Type} {d : Kd α} {e : Nat} {N N' : Nat → Prop} {w w' W : World} {l : List HP} {i j : Nat} {v : Value} {A : Option Addr} {n c : Nat} {xs ys : List α} {x : α} {cs : List Value}
theorem keepF (h : Kd.F d w N A n xs) (hk : KeepS N w w') : Kd.F d w' N A n xs := Kd.F_step h (fun k hn hlt => hk.block k hlt hn)
theorem keepFK (h : Kd.FK d w N x cs) (hk : KeepS N w w') : Kd.FK d w' N x cs := Kd.FK_step h (fun k hn hlt => hk.block k hlt hn)
theorem Own.nslice (h : Own N w l) (hi : l[i]? = some (nrow d e v xs)) : ∃ A c, v = .slice A xs.length c := by
 obtain ⟨F, hf⟩ := h.fact hi
 exact Kd.N_slice hf
theorem Own.nreads (h : Own N w l) (hi : l[i]? = some (nrow d e (.slice A n c) xs)) : n = xs.length ∧ n ≤ c ∧ Kd.C d w A n xs := by
 obtain ⟨F, hf⟩ := h.fact hi
 obtain ⟨h1, h2, h3⟩ := Kd.N_reads' hf
 subst h1
 exact ⟨rfl, h2, h3⟩
theorem Own.pushR {B : Nat} {ok : Nat → Prop} (h : Own N w l) (hb : Below w.heap.size w w') (hB : w.heap.size ≤ B) (hr : d.R e w' B ok v xs) : Own N w' (l ++ [nrow d e v xs]) :=
 h.push (nrow d e v xs) hb.size (fun k hk => hb.block k hk) (F := fun k => ok k ∧ B ≤ k ∧ k < w'.heap.size ∧ ∃ q, q ∈ e :: d.E ∧ ∃ cells, w'.heap[k]? = some (.cells cells q (0, 0))) (Kd.N_lower (Kd.R_N (Kd.R_bound hr)) (Nat.zero_le _)) (fun k hk => Nat.le_trans hB hk.2.1)
theorem Own.pushN {B : Nat} {ok : Nat → Prop} (h : Own N w l) (hb : Below w.heap.size w w') (hr : Kd.N d e w' B ok v xs) (hB : ∀ k, ok k → w.heap.size ≤ k) : Own N w' (l ++ [nrow d e v xs]) :=
 h.push (nrow d e v xs) hb.size (fun k hk => hb.block k hk) (Kd.N_lower hr (Nat.zero_le _)) hB
end
theorem merge {N : Nat → Prop} {w w' : World} {l : List HP} {i j : Nat} {Fs : Nat → Nat → Prop} (hN : ∀ k, N k → k < w.heap.size) (h1 : ∀ (i : Nat) (P : HP), l[i]? = some P → P.P (Fs i) w) (h2 : ∀ i k, Fs i k → ¬ N k ∧ k < w.heap.size) (h3 : ∀ i j k, Fs i k → Fs j k → i = j)
  (hi : i < l.length) (hj : j < l.length) (hij : i ≠ j) (hs : w.heap.size ≤ w'.heap.size) (hk : ∀ k, k < w.heap.size → ¬ (Fs i k ∨ Fs j k) → w'.heap[k]? = w.heap[k]?) (Q : HP) (hq : Q.P (fun k => Fs i k ∨ Fs j k ∨ w.heap.size ≤ k) w') : Own N w' ((l.set i Q).set j emp) := by
 refine ⟨fun k hk => Nat.lt_of_lt_of_le (hN k hk) hs, fun m k => (m = i ∧ (Fs i k ∨ Fs j k ∨ w.heap.size ≤ k) ∧ k < w'.heap.size) ∨ (m ≠ i ∧ m ≠ j ∧ Fs m k), ?_, ?_, ?_⟩
 ·intro m R hm
  by_cases hmj : m = j
  ·subst hmj
   rw [List.getElem?_set_self (by rw [List.length_set]; exact hj)] at hm
   injection hm with hm
   subst hm
   trivial
  rw [List.getElem?_set_ne (fun e => hmj e.symm)] at hm
  by_cases hmi : m = i
  ·subst hmi
   rw [List.getElem?_set_self hi] at hm
   injection hm with hm
   subst hm
   exact Q.mono (Q.bound hq) (fun k hf => .inl ⟨rfl, hf⟩)
  ·rw [List.getElem?_set_ne (fun e => hmi e.symm)] at hm
   exact R.mono (R.move (h1 m R hm) hs (fun k hf hlt => hk k hlt (fun ho => ho.elim (fun a => hmi (h3 _ _ k hf a)) (fun a => hmj (h3 _ _ k hf a))))) (fun k hf => .inr ⟨hmi, hmj, hf⟩)
 ·rintro m k (⟨rfl, hf, hl⟩ | ⟨_, _, hf⟩)
  ·refine ⟨fun hn => ?_, hl⟩
   rcases hf with hf | hf | hf
   ·exact (h2 _ k hf).1 hn
   ·exact (h2 _ k hf).1 hn
   ·have := hN k hn
    omega
  ·exact ⟨(h2 m k hf).1, Nat.lt_of_lt_of_le (h2 m k hf).2 hs⟩
 ·rintro m n k (⟨rfl, hf, hl⟩ | ⟨a, b, hf⟩) (⟨rfl, hf', hl'⟩ | ⟨a', b', hf'⟩)
  ·rfl
  ·rcases hf with hf | hf | hf
   ·exact absurd (h3 _ _ k hf hf') (fun e => a' e.symm)
   ·exact absurd (h3 _ _ k hf hf') (fun e => b' e.symm)
   ·have := (h2 n k hf').2
    omega
  ·rcases hf' with hf' | hf' | hf'
   ·exact absurd (h3 _ _ k hf hf') a
   ·exact absurd (h3 _ _ k hf hf') b
   ·have := (h2 m k hf).2
    omega
  ·exact h3 _ _ k hf hf'
def Flat {α : Type} (d : Kd α) : Prop := ∀ {w w' : World} {x : α} {c : List Value}, d.K w x c → d.K w' x c
theorem flat_scalar {α : Type} {enc : α → Value} {h1 : ∀ x, (enc x).oneCell' = true} : Flat (Kd.scalar enc h1) := fun h => h
theorem flat_pair {α β : Type} {a : Kd α} {b : Kd β} (ha : Flat a) (hb : Flat b) : Flat (Kd.pair a b) := fun ⟨c0, c1, e, h0, h1⟩ => ⟨c0, c1, e, ha h0, hb h1⟩
theorem flat_iso {α β : Type} {d : Kd α} (f : β → α) (hd : Flat d) : Flat (Kd.iso d f) := fun h => hd h
theorem Flat.FK {α : Type} {d : Kd α} (hd : Flat d) {w : World} {ok : Nat → Prop} {x : α} {c : List Value} (h : d.K w x c) : Kd.FK d w ok x c := fun _ _ => hd h
section
variable {α : Type} {d : Kd α} {e : TypeId} {N : Nat → Prop} {W : World} {l : List HP} {i j : Nat} {v : Value} {A : Option Addr} {m c : Nat} {xs ys : List α} {p : α} {cs : List Value}
variable {P : Program} {ops : Array Oper} {rest : List Oper} {o : Oper} {a : Act} {Q : Exit → Act → World → Prop}
theorem Own.append_flat (d : Kd α) (hd : Flat d) (h : Own N W l) (hi : l[i]? = some (nrow d e v xs)) (HR : d.C W A m ys) (hgd : o.guard = none) (s x : Operand) (t : TypeId) (z : Value) (bytes : Nat)
  (ho : o.op = .call { callee := .builtin .append, args := #[s, x], argTypes := #[t, t] })
  (ht : P.underlying t = some (.slice e)) (hinfo : (P.info? e).map (fun i => (i.zero, i.size, i.bytes)) = some (some z, d.sz, bytes)) (hz : z.cells.size = d.sz) (hs0 : 0 < d.sz) (hb0 : 0 < bytes)
  (hs : a.eval s = v) (hx : a.eval x = .slice A m c) (hl : (xs.length + m) * bytes ≤ 140737488355328)
  (hc : ∀ A1 c1 w1, Own N w1 (l.set i (nrow d e (.slice A1 (xs ++ ys).length c1) (xs ++ ys))) → KeepS N W w1 → wpList P ops Q rest (a.put o.dst (.slice A1 (xs ++ ys).length c1)) w1) :
  wpList P ops Q (o :: rest) a W := by
 have hown := h
 obtain ⟨hN, Fs, h1, h2, h3⟩ := h
 have hi0 := h1 i _ hi
 obtain ⟨h0, rows, hlr, hR, hfk⟩ := hi0
 obtain ⟨news, hnl, hnr, hnf⟩ := Kd.reads_raw HR (fun y c hk => ⟨d.K_len hk, d.K_one hk⟩)
 refine Kd.R_append_rows (Kd.raw d.sz) (w0 := W) 0 hgd s x t e z bytes ho ht hinfo hz hs0 hb0 v rows news A m c (fun _ => True) (fun _ => False) hs hx (Kd.raw_any hR) hnr (fun _ _ hk => hk) (fun _ hk => hk.elim) (fun _ _ => trivial) (Below.refl _ _) (Nat.zero_le _) (by rw [hlr]; exact hl) ?_
 intro v1 w1 hr hb hg hat
 have hn := Kd.N_appended (d := d) (ok := fun k => Fs i k ∨ W.heap.size ≤ k) (okp := fun _ => False) (fun k hk => .inl (h0 k hk)) hlr (fun j x c hx hc => Kd.FK_mono (hfk j x c hx hc) (fun k hk => ⟨.inl hk.1, hk.2⟩)) hnl (fun j x c hx hc => hd.FK (hnf j x c hx hc)) (fun _ hk => hk.elim) (fun k hk => .inr hk) hr hg hat
 obtain ⟨A1, c1, rfl⟩ := Kd.N_slice hn
 refine hc A1 c1 w1 ?_ (KeepS.grown hg (fun k hk hn => (h2 i k (h0 k hk)).1 hn))
 refine ⟨fun k hk => Nat.lt_of_lt_of_le (hN k hk) hg.size, fun m k => (m = i ∧ (Fs i k ∨ W.heap.size ≤ k) ∧ k < w1.heap.size) ∨ (m ≠ i ∧ Fs m k), ?_, ?_, ?_⟩
 ·intro m R hm
  by_cases hmi : m = i
  ·subst hmi
   rw [List.getElem?_set_self (List.getElem?_eq_some_iff.1 hi).1] at hm
   injection hm with hm
   subst hm
   exact HP.mono _ (HP.bound _ (show (nrow d e _ _).P _ w1 from hn)) (fun k hf => .inl ⟨rfl, hf⟩)
  ·rw [List.getElem?_set_ne (fun e => hmi e.symm)] at hm
   exact R.mono (R.move (h1 m R hm) hg.size (fun k hf hlt => hg.block k hlt (fun he => hmi (h3 _ _ k hf (h0 k he.symm))))) (fun k hf => .inr ⟨hmi, hf⟩)
 ·rintro m k (⟨rfl, hf | hf, hl⟩ | ⟨_, hf⟩)
  ·exact ⟨(h2 _ k hf).1, hl⟩
  ·exact ⟨fun hn => by have := hN k hn; omega, hl⟩
  ·exact ⟨(h2 m k hf).1, Nat.lt_of_lt_of_le (h2 m k hf).2 hg.size⟩
 ·rintro m n k (⟨rfl, hf, hl⟩ | ⟨a, hf⟩) (⟨rfl, hf', hl'⟩ | ⟨a', hf'⟩)
  ·rfl
  ·rcases hf with hf | hf
   ·exact absurd (h3 _ _ k hf hf') (fun e => a' e.symm)
   ·have := (h2 n k hf').2
    omega
  ·rcases hf' with hf' | hf'
   ·exact absurd (h3 _ _ k hf hf') a
   ·have := (h2 m k hf).2
    omega
  ·exact h3 _ _ k hf hf'
end
end Go.Proofs.YtjdenpmaianmfaaDoor.Sep
