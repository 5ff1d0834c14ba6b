/- Resources: what a call owns in memory, as a list. Each resource is known by its blocks, and no two share one; what a callee is not handed stays as it is. Plain lemmas over worlds, for any program. -/
import Derived.Test.YtcmldinhecjcmaaYValueSteadyWNEv
namespace Go.Proofs.Ytcmldinhecjcmaa.Sep
set_option linter.unusedSimpArgs false
set_option linter.unusedVariables false
open Go Go.RowKit Go.Proofs.YtcmldinhecjcmaaW.PrintWords
structure KeepS (N : Nat → Prop) (w w' : World) : Prop where
  os : w'.os = w.os
  tape : w'.tape = w.tape
  output : w'.output = w.output
  size : w.heap.size ≤ w'.heap.size
  block : ∀ k, k < w.heap.size → N k → w'.heap[k]? = w.heap[k]?
section
variable {N N' : Nat → Prop} {w w1 w2 w' : World}
theorem KeepS.refl (N : Nat → Prop) (w : World) : KeepS N w w := ⟨rfl, rfl, rfl, Nat.le_refl _, fun _ _ _ => rfl⟩
theorem KeepS.trans (h : KeepS N w w1) (k : KeepS N w1 w2) : KeepS N w w2 :=
  ⟨k.os.trans h.os, k.tape.trans h.tape, k.output.trans h.output, Nat.le_trans h.size k.size, fun i hi hn => (k.block i (Nat.lt_of_lt_of_le hi h.size) hn).trans (h.block i hi hn)⟩
theorem KeepS.mono (h : KeepS N' w w') (hn : ∀ k, N k → N' k) : KeepS N w w' := ⟨h.os, h.tape, h.output, h.size, fun k hk n => h.block k hk (hn k n)⟩
theorem KeepS.of_below (h : Below w.heap.size w w') : KeepS N w w' := ⟨h.os, h.tape, h.output, h.size, fun k hk _ => h.block k hk⟩
theorem KeepS.all (h : KeepS (fun _ => True) w w') : Below w.heap.size w w' := ⟨h.os, h.tape, h.output, h.size, fun k hk => h.block k hk trivial⟩
theorem KeepS.below (h : KeepS N w w') {B : Nat} (hB : B ≤ w.heap.size) (hN : ∀ k, k < B → N k) : Below B w w' := ⟨h.os, h.tape, h.output, h.size, fun k hk => h.block k (Nat.lt_of_lt_of_le hk hB) (hN k hk)⟩
theorem KeepS.setCell {p : Addr} (hb : ¬ N p.block) (u : Value) : KeepS N w (w.setCell p u) :=
  ⟨rfl, rfl, rfl, by simp [World.setCell], fun k _ hn => Below.heap_setCell _ _ _ _ (fun e => hb (e ▸ hn))⟩
theorem KeepS.alloc (o : Obj) : KeepS N w (w.alloc o) := KeepS.of_below ((Below.refl _ w).alloc (Nat.le_refl _) o)
theorem KeepS.drew : KeepS N w w.drew := KeepS.of_below (Below.drew (Below.refl _ w))
theorem KeepS.drewN (n : Nat) : KeepS N w (w.drewN n) := KeepS.of_below (pw_below_drewN (Below.refl _ w) n)
end
structure HP where
  P : (Nat → Prop) → World → Prop
  move : ∀ {F : Nat → Prop} {w w' : World}, P F w → w.heap.size ≤ w'.heap.size → (∀ k, F k → k < w.heap.size → w'.heap[k]? = w.heap[k]?) → P F w'
  mono : ∀ {F F' : Nat → Prop} {w : World}, P F w → (∀ k, F k → F' k) → P F' w
  bound : ∀ {F : Nat → Prop} {w : World}, P F w → P (fun k => F k ∧ k < w.heap.size) w
def emp : HP := ⟨fun _ _ => True, fun _ _ _ => trivial, fun _ _ => trivial, fun _ => trivial⟩
def cells (b : Nat) (cs : Array Value) (t : TypeId) : HP where
  P := fun F w => F b ∧ w.heap[b]? = some (.cells cs t (0, 0))
  move := fun h _ hk => ⟨h.1, (hk b h.1 (blk_lt h.2)).trans h.2⟩
  mono := fun h hf => ⟨hf _ h.1, h.2⟩
  bound := fun h => ⟨⟨h.1, blk_lt h.2⟩, h.2⟩
def row {α : Type} (d : Kd α) (e : Nat) (v : Value) (xs : List α) : HP where
  P := fun F w => d.R e w 0 F v xs
  move := fun h _ hk => Kd.R_step h hk
  mono := fun h hf => Kd.R_mono h hf
  bound := fun h => Kd.R_mono (Kd.R_bound h) (fun k hk => ⟨hk.1, hk.2.2.1⟩)
def nrow {α : Type} (d : Kd α) (e : Nat) (v : Value) (xs : List α) : HP where
  P := fun F w => Kd.N d e w 0 F v xs
  move := fun h _ hk => Kd.N_step h hk
  mono := fun h hf => Kd.N_mono h hf
  bound := fun h => Kd.N_bound h
def star (a b : HP) : HP where
  P := fun F w => ∃ F1 F2, a.P F1 w ∧ b.P F2 w ∧ (∀ k, F1 k → F2 k → False) ∧ (∀ k, F1 k → F k) ∧ (∀ k, F2 k → F k)
  move := fun ⟨F1, F2, h1, h2, hd, g1, g2⟩ hs hk => ⟨F1, F2, a.move h1 hs (fun k hf => hk k (g1 k hf)), b.move h2 hs (fun k hf => hk k (g2 k hf)), hd, g1, g2⟩
  mono := fun ⟨F1, F2, h1, h2, hd, g1, g2⟩ hf => ⟨F1, F2, h1, h2, hd, fun k h => hf k (g1 k h), fun k h => hf k (g2 k h)⟩
  bound := fun ⟨F1, F2, h1, h2, hd, g1, g2⟩ => ⟨_, _, a.bound h1, b.bound h2, fun k h h' => hd k h.1 h'.1, fun k h => ⟨g1 k h.1, h.2⟩, fun k h => ⟨g2 k h.1, h.2⟩⟩
def Own (N : Nat → Prop) (w : World) (l : List HP) : Prop :=
  (∀ k, N k → k < w.heap.size) ∧ ∃ Fs : Nat → Nat → Prop, (∀ (i : Nat) (P : HP), l[i]? = some P → P.P (Fs i) w) ∧ (∀ i k, Fs i k → ¬ N k ∧ k < w.heap.size) ∧ (∀ i j k, Fs i k → Fs j k → i = j)
section
variable {N N' : Nat → Prop} {w w' : World} {l : List HP} {i j : Nat} {P Q P1 P2 : HP}
theorem Own.start_ (hN : ∀ k, N k → k < w.heap.size) : Own N w [] := ⟨hN, fun _ _ => False, fun i P h => by simp at h, fun _ _ h => h.elim, fun _ _ _ h => h.elim⟩
theorem Own.step (h : Own N w l) (hs : w.heap.size ≤ w'.heap.size) (hk : ∀ k, k < w.heap.size → ¬ N k → w'.heap[k]? = w.heap[k]?) : Own N w' l := by
  obtain ⟨hN, Fs, h1, h2, h3⟩ := h
  exact ⟨fun k hk => Nat.lt_of_lt_of_le (hN k hk) hs, Fs, fun i P hi => P.move (h1 i P hi) hs (fun k hf hlt => hk k hlt (h2 i k hf).1), fun i k hf => ⟨(h2 i k hf).1, Nat.lt_of_lt_of_le (h2 i k hf).2 hs⟩, h3⟩
theorem Own.below (h : Own N w l) (hb : Below w.heap.size w w') : Own N w' l := h.step hb.size (fun k hk _ => hb.block k hk)
theorem Own.drew (h : Own N w l) : Own N w.drew l := h.below (Below.drew (Below.refl _ w))
theorem Own.drewN (h : Own N w l) (n : Nat) : Own N (w.drewN n) l := h.below (pw_below_drewN (Below.refl _ w) n)
theorem Own.alloc (h : Own N w l) (o : Obj) : Own N (w.alloc o) l := h.below ((Below.refl _ w).alloc (Nat.le_refl _) o)
theorem Own.upd (h : Own N w l) (hi : l[i]? = some P) (Q : HP)
    (hk : ∀ F : Nat → Prop, P.P F w → (∀ k, F k → ¬ N k ∧ k < w.heap.size) → w.heap.size ≤ w'.heap.size ∧ (∀ k, k < w.heap.size → ¬ F k → w'.heap[k]? = w.heap[k]?) ∧ ∃ F' : Nat → Prop, Q.P F' w' ∧ ∀ k, F' k → F k ∨ w.heap.size ≤ k) : Own N w' (l.set i Q) := by
  obtain ⟨hN, Fs, h1, h2, h3⟩ := h
  obtain ⟨hs, hkeep, F', hq, hF⟩ := hk (Fs i) (h1 i P hi) (fun k hf => h2 i k hf)
  have hlt : i < l.length := (List.getElem?_eq_some_iff.1 hi).1
  refine ⟨fun k hk => Nat.lt_of_lt_of_le (hN k hk) hs, fun m k => (m = i ∧ F' k ∧ k < w'.heap.size) ∨ (m ≠ i ∧ Fs m k), ?_, ?_, ?_⟩
  · intro m R hm
    by_cases hmi : m = i
    · subst hmi
      rw [List.getElem?_set_self hlt] at hm
      injection hm with hm
      subst hm
      exact Q.mono (Q.bound hq) (fun k hf => .inl ⟨rfl, hf⟩)
    · rw [List.getElem?_set_ne (fun e => hmi e.symm)] at hm
      exact R.mono (R.move (h1 m R hm) hs (fun k hf hlt => hkeep k hlt (fun hi => hmi (h3 m i k hf hi)))) (fun k hf => .inr ⟨hmi, hf⟩)
  · rintro m k (⟨rfl, hf, hl⟩ | ⟨hm, hf⟩)
    · refine ⟨fun hn => ?_, hl⟩
      rcases hF k hf with hf | hf
      · exact (h2 m k hf).1 hn
      · have := hN k hn
        omega
    · exact ⟨(h2 m k hf).1, Nat.lt_of_lt_of_le (h2 m k hf).2 hs⟩
  · rintro m n k (⟨rfl, hf, hl⟩ | ⟨hm, hf⟩) (⟨rfl, hf', hl'⟩ | ⟨hn, hf'⟩)
    · rfl
    · rcases hF k hf with hf | hf
      · exact absurd (h3 m n k hf hf') (fun e => hn e.symm)
      · have := (h2 n k hf').2
        omega
    · rcases hF k hf' with hf' | hf'
      · exact absurd (h3 m n k hf hf') (fun e => hm e)
      · have := (h2 m k hf).2
        omega
    · exact h3 m n k hf hf'
theorem Own.conv (h : Own N w l) (hi : l[i]? = some P) (Q : HP) (hk : ∀ F : Nat → Prop, P.P F w → (∀ k, F k → ¬ N k ∧ k < w.heap.size) → Q.P F w) : Own N w (l.set i Q) :=
  h.upd hi Q (fun F hp hf => ⟨Nat.le_refl _, fun _ _ _ => rfl, F, hk F hp hf, fun k hk => .inl hk⟩)
theorem Own.drop (h : Own N w l) (i : Nat) : Own N w (l.set i emp) := by
  rcases Nat.lt_or_ge i l.length with hi | hi
  · exact h.conv (List.getElem?_eq_getElem hi) emp (fun _ _ _ => trivial)
  · rw [List.set_eq_of_length_le hi]
    exact h
theorem Own.push (h : Own N w l) (Q : HP) (hs : w.heap.size ≤ w'.heap.size) (hk : ∀ k, k < w.heap.size → w'.heap[k]? = w.heap[k]?) {F : Nat → Prop} (hq : Q.P F w') (hF : ∀ k, F k → w.heap.size ≤ k) : Own N w' (l ++ [Q]) := by
  obtain ⟨hN, Fs, h1, h2, h3⟩ := h
  refine ⟨fun k hk => Nat.lt_of_lt_of_le (hN k hk) hs, fun m k => (m = l.length ∧ F k ∧ k < w'.heap.size) ∨ (m < l.length ∧ Fs m k), ?_, ?_, ?_⟩
  · intro m R hm
    rcases Nat.lt_or_ge m l.length with hml | hml
    · rw [List.getElem?_append_left hml] at hm
      exact R.mono (R.move (h1 m R hm) hs (fun k _ hlt => hk k hlt)) (fun k hf => .inr ⟨hml, hf⟩)
    · have hm' : m = l.length := by
        have := (List.getElem?_eq_some_iff.1 hm).1
        rw [List.length_append, List.length_singleton] at this
        omega
      subst hm'
      have : Q = R := by simpa using hm
      subst this
      exact Q.mono (Q.bound hq) (fun k hf => .inl ⟨rfl, hf⟩)
  · rintro m k (⟨rfl, hf, hl⟩ | ⟨hm, hf⟩)
    · refine ⟨fun hn => ?_, hl⟩
      have := hN k hn
      have := hF k hf
      omega
    · exact ⟨(h2 m k hf).1, Nat.lt_of_lt_of_le (h2 m k hf).2 hs⟩
  · rintro m n k (⟨rfl, hf, hl⟩ | ⟨hm, hf⟩) (⟨rfl, hf', hl'⟩ | ⟨hn, hf'⟩)
    · rfl
    · have := hF k hf
      have := (h2 n k hf').2
      omega
    · have := hF k hf'
      have := (h2 m k hf).2
      omega
    · exact h3 m n k hf hf'
theorem Own.take (h : Own N w l) (n : Nat) : Own N w (l.take n) := by
  obtain ⟨hN, Fs, h1, h2, h3⟩ := h
  refine ⟨hN, Fs, fun m R hm => h1 m R ?_, h2, h3⟩
  rw [List.getElem?_take] at hm
  split at hm
  · exact hm
  · simp at hm
theorem Own.pick {l' : List HP} (h : Own N w l) (f : List Nat) (hn : f.Nodup) (hf : ∀ (m : Nat) (P : HP), l'[m]? = some P → ∃ i, f[m]? = some i ∧ l[i]? = some P) : Own N w l' := by
  obtain ⟨hN, Fs, h1, h2, h3⟩ := h
  refine ⟨hN, fun m k => ∃ i, f[m]? = some i ∧ Fs i k, ?_, ?_, ?_⟩
  · intro m P hm
    obtain ⟨i, hi, hl⟩ := hf m P hm
    exact P.mono (h1 i P hl) (fun k hk => ⟨i, hi, hk⟩)
  · rintro m k ⟨i, _, hk⟩
    exact h2 i k hk
  · rintro m n k ⟨i, hi, hk⟩ ⟨j, hj, hk'⟩
    have := h3 i j k hk hk'
    subst this
    obtain ⟨a, ha⟩ := List.getElem?_eq_some_iff.1 hi
    obtain ⟨b, hb⟩ := List.getElem?_eq_some_iff.1 hj
    exact (List.getElem_inj hn).1 (ha.trans hb.symm)
theorem Own.pickL (h : Own N w l) (f : List Nat) (hn : f.Nodup) (hl : ∀ i ∈ f, i < l.length) : Own N w (f.map fun i => l.getD i emp) :=
  h.pick f hn (fun m P hm => by
    rw [List.getElem?_map, Option.map_eq_some_iff] at hm
    obtain ⟨i, hi, rfl⟩ := hm
    have hlt := hl i (List.mem_of_getElem? hi)
    refine ⟨i, hi, ?_⟩
    rw [List.getD_eq_getElem?_getD, List.getElem?_eq_getElem hlt]
    rfl)
theorem Own.split (h : Own N w l) (hi : l[i]? = some (star P Q)) : Own N w (l.set i P ++ [Q]) := by
  obtain ⟨hN, Fs, h1, h2, h3⟩ := h
  obtain ⟨F1, F2, p1, p2, hd, g1, g2⟩ := h1 i _ hi
  have hlt : i < l.length := (List.getElem?_eq_some_iff.1 hi).1
  refine ⟨hN, fun m k => (m = i ∧ F1 k) ∨ (m = l.length ∧ F2 k) ∨ (m ≠ i ∧ m < l.length ∧ Fs m k), ?_, ?_, ?_⟩
  · intro m R hm
    rcases Nat.lt_or_ge m l.length with hml | hml
    · rw [List.getElem?_append_left (by rw [List.length_set]; exact hml)] at hm
      by_cases hmi : m = i
      · subst hmi
        rw [List.getElem?_set_self hlt] at hm
        injection hm with hm
        subst hm
        exact P.mono p1 (fun k hf => .inl ⟨rfl, hf⟩)
      · rw [List.getElem?_set_ne (fun e => hmi e.symm)] at hm
        exact R.mono (h1 m R hm) (fun k hf => .inr (.inr ⟨hmi, hml, hf⟩))
    · have hm' : m = l.length := by
        have := (List.getElem?_eq_some_iff.1 hm).1
        rw [List.length_append, List.length_singleton, List.length_set] at this
        omega
      subst hm'
      have : Q = R := by
        rw [List.getElem?_append_right (by rw [List.length_set]; exact Nat.le_refl _), List.length_set, Nat.sub_self] at hm
        simpa using hm
      subst this
      exact Q.mono p2 (fun k hf => .inr (.inl ⟨rfl, hf⟩))
  · rintro m k (⟨rfl, hf⟩ | ⟨rfl, hf⟩ | ⟨_, _, hf⟩)
    · exact h2 _ k (g1 k hf)
    · exact h2 _ k (g2 k hf)
    · exact h2 _ k hf
  · rintro m n k (⟨rfl, hf⟩ | ⟨rfl, hf⟩ | ⟨a, b, hf⟩) (⟨rfl, hf'⟩ | ⟨rfl, hf'⟩ | ⟨a', b', hf'⟩)
    · rfl
    · exact (hd k hf hf').elim
    · exact absurd (h3 _ _ k (g1 k hf) hf') (fun e => a' e.symm)
    · exact (hd k hf' hf).elim
    · rfl
    · exact absurd (h3 _ _ k (g2 k hf) hf') (fun e => a' e.symm)
    · exact absurd (h3 _ _ k hf (g1 k hf')) a
    · exact absurd (h3 _ _ k hf (g2 k hf')) a
    · exact h3 _ _ k hf hf'
end
section
variable {N : Nat → Prop} {w w' : World} {l : List HP} {i j : Nat} {b b' : Nat} {cs cs' : Array Value} {t t' : TypeId}
theorem Own.blk (h : Own N w l) (hi : l[i]? = some (cells b cs t)) : w.heap[b]? = some (.cells cs t (0, 0)) := by
  obtain ⟨hN, Fs, h1, h2, h3⟩ := h
  exact (h1 i _ hi).2
theorem Own.far (h : Own N w l) (hi : l[i]? = some (cells b cs t)) : ¬ N b := by
  obtain ⟨hN, Fs, h1, h2, h3⟩ := h
  exact (h2 i b (h1 i _ hi).1).1
theorem Own.fact (h : Own N w l) {P : HP} (hi : l[i]? = some P) : ∃ F, P.P F w := by
  obtain ⟨hN, Fs, h1, h2, h3⟩ := h
  exact ⟨_, h1 i P hi⟩
theorem Own.new (h : Own N w l) (cs : Array Value) (t : TypeId) : Own N (w.alloc (.cells cs t)) (l ++ [cells w.heap.size cs t]) :=
  h.push (cells w.heap.size cs t) (by simp) (fun k hk => Below.heap_alloc _ _ _ hk) (F := fun k => k = w.heap.size) ⟨rfl, heap_alloc_new w _⟩ (fun k hk => by omega)
theorem Own.set (h : Own N w l) (hi : l[i]? = some (cells b cs t)) (j : Nat) (v : Value) : Own N (w.setCell ⟨b, j, none⟩ v) (l.set i (cells b (cs.setIfInBounds j v) t)) :=
  h.upd hi _ (fun F hp hf => ⟨by simp [World.setCell], fun k _ hk => Below.heap_setCell _ _ _ _ (fun e => hk (by rw [show k = b from e]; exact hp.1)), F, ⟨hp.1, blk_set hp.2 j v⟩, fun k hk => .inl hk⟩)
end
section
variable {α : Type} {d : Kd α} {e : Nat} {N N' : Nat → Prop} {w w' W : World} {l : List HP} {i j : Nat} {v : Value} {A : Option Addr} {n c : Nat} {xs ys : List α} {x : α} {cs : List Value}
theorem Own.nreads (h : Own N w l) (hi : l[i]? = some (nrow d e (.slice A n c) xs)) : n = xs.length ∧ n ≤ c ∧ Kd.C d w A n xs := by
  obtain ⟨F, hf⟩ := h.fact hi
  obtain ⟨h1, h2, h3⟩ := Kd.N_reads' hf
  subst h1
  exact ⟨rfl, h2, h3⟩
theorem Own.pushN {B : Nat} {ok : Nat → Prop} (h : Own N w l) (hb : Below w.heap.size w w') (hr : Kd.N d e w' B ok v xs) (hB : ∀ k, ok k → w.heap.size ≤ k) : Own N w' (l ++ [nrow d e v xs]) :=
  h.push (nrow d e v xs) hb.size (fun k hk => hb.block k hk) (Kd.N_lower hr (Nat.zero_le _)) hB
end
def Flat {α : Type} (d : Kd α) : Prop := ∀ {w w' : World} {x : α} {c : List Value}, d.K w x c → d.K w' x c
theorem flat_scalar {α : Type} {enc : α → Value} {h1 : ∀ x, (enc x).oneCell' = true} : Flat (Kd.scalar enc h1) := fun h => h
theorem flat_pair {α β : Type} {a : Kd α} {b : Kd β} (ha : Flat a) (hb : Flat b) : Flat (Kd.pair a b) := fun ⟨c0, c1, e, h0, h1⟩ => ⟨c0, c1, e, ha h0, hb h1⟩
theorem flat_iso {α β : Type} {d : Kd α} (f : β → α) (hd : Flat d) : Flat (Kd.iso d f) := fun h => hd h
theorem Flat.FK {α : Type} {d : Kd α} (hd : Flat d) {w : World} {ok : Nat → Prop} {x : α} {c : List Value} (h : d.K w x c) : Kd.FK d w ok x c := fun _ _ => hd h
section
variable {α : Type} {d : Kd α} {e : TypeId} {N : Nat → Prop} {W : World} {l : List HP} {i j : Nat} {v : Value} {A : Option Addr} {m c : Nat} {xs ys : List α} {p : α} {cs : List Value}
variable {P : Program} {ops : Array Oper} {rest : List Oper} {o : Oper} {a : Act} {Q : Exit → Act → World → Prop}
end
end Go.Proofs.Ytcmldinhecjcmaa.Sep
