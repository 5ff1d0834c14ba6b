/- A callee is handed any of the resources: the others are foreign to it. Plain lemmas, for any program. -/
import Derived.Test.YtjdenpmaianmfaaDoorY6Sep
namespace Go.Proofs.YtjdenpmaianmfaaDoor.Sep
set_option linter.unusedSimpArgs false
set_option linter.unusedVariables false
open Go RowKit YtjdenpmaianmfaaDoorW.PrintWords
def setL : List HP → List Nat → List HP → List HP
 | l, i :: f, Q :: q => setL (l.set i Q) f q
 | l, [], _ => l
 | l, _ :: _, [] => l
theorem setL_len : ∀ (f : List Nat) (l q : List HP), (setL l f q).length = l.length
 | [], l, q => by cases q <;> rfl
 | i :: f, l, [] => rfl
 | i :: f, l, Q :: q => by rw [setL, setL_len f, List.length_set]
theorem setL_out : ∀ (f : List Nat) (l q : List HP) (m : Nat), m ∉ f → (setL l f q)[m]? = l[m]?
 | [], l, q, m, _ => by cases q <;> rfl
 | i :: f, l, [], m, _ => rfl
 | i :: f, l, Q :: q, m, hm => by
  rw [setL, setL_out f _ q m (fun h => hm (List.mem_cons_of_mem _ h)), List.getElem?_set_ne (fun e => hm (by rw [← e]; exact List.mem_cons_self))]
theorem setL_in : ∀ (f : List Nat) (l q : List HP) (p m : Nat), f.Nodup → f[p]? = some m → m < l.length → f.length = q.length → (setL l f q)[m]? = q[p]?
 | [], l, q, p, m, _, h, _, _ => by simp at h
 | i :: f, l, [], p, m, _, _, _, h => by simp at h
 | i :: f, l, Q :: q, p, m, hn, h, hl, hq => by
  rw [List.nodup_cons] at hn
  rw [setL]
  cases p with
  | zero =>
   simp only [List.getElem?_cons_zero, Option.some.injEq] at h
   subst h
   rw [setL_out f _ q i hn.1, List.getElem?_set_self hl]
   rfl
  | succ p =>
   rw [List.getElem?_cons_succ] at h
   rw [setL_in f _ q p m hn.2 h (by rw [List.length_set]; exact hl) (by simpa using hq), List.getElem?_cons_succ]
section
variable {N : Nat → Prop} {w : World} {l : List HP}
theorem Own.frameL (h : Own N w l) (f : List Nat) (hn : f.Nodup) (hf : ∀ i ∈ f, i < l.length) :
  ∃ N' : Nat → Prop, Own N' w (f.map fun i => l.getD i emp) ∧ (∀ k, N k → N' k) ∧ (∀ (m : Nat) (X : HP), m ∉ f → l[m]? = some X → X.P N' w) ∧
  (∀ (w' : World) (q rest : List HP), f.length = q.length → KeepS N' w w' → Own N' w' (q ++ rest) → Own N w' (setL l f q ++ rest) ∧ KeepS N w w') := by
 have hown := h
 obtain ⟨hN, Fs, h1, h2, h3⟩ := h
 have inj : ∀ p p' m, f[p]? = some m → f[p']? = some m → p = p' := fun p p' m a b => by
  obtain ⟨a1, a2⟩ := List.getElem?_eq_some_iff.1 a
  obtain ⟨b1, b2⟩ := List.getElem?_eq_some_iff.1 b
  exact (List.getElem_inj hn).1 (a2.trans b2.symm)
 refine ⟨fun k => N k ∨ ∃ j, j ∉ f ∧ Fs j k, ⟨?_, fun m k => ∃ i, f[m]? = some i ∧ Fs i k, ?_, ?_, ?_⟩, fun k hk => .inl hk, ?_, ?_⟩
 ·rintro k (hk | ⟨j, _, hf'⟩)
  ·exact hN k hk
  ·exact (h2 j k hf').2
 ·intro m R hm
  rw [List.getElem?_map, Option.map_eq_some_iff] at hm
  obtain ⟨i, hi, rfl⟩ := hm
  have hlt := hf i (List.mem_of_getElem? hi)
  have hg : l[i]? = some (l.getD i emp) := by
   rw [List.getD_eq_getElem?_getD, List.getElem?_eq_getElem hlt]
   rfl
  exact HP.mono _ (h1 i _ hg) (fun k hk => ⟨i, hi, hk⟩)
 ·rintro m k ⟨i, hi, hk⟩
  refine ⟨?_, (h2 i k hk).2⟩
  rintro (hn' | ⟨j, hj, hk'⟩)
  ·exact (h2 i k hk).1 hn'
  ·have := h3 i j k hk hk'
   subst this
   exact hj (List.mem_of_getElem? hi)
 ·rintro m n k ⟨i, hi, hk⟩ ⟨j, hj, hk'⟩
  have := h3 i j k hk hk'
  subst this
  exact inj m n i hi hj
 ·intro m X hm hX
  exact X.mono (h1 m X hX) (fun k hk => .inr ⟨m, hm, hk⟩)
 ·intro w' q rest hq hk ho
  obtain ⟨hN', Gs, q1, q2, q3⟩ := ho
  refine ⟨⟨fun k hn' => hN' k (.inl hn'), fun m k => (∃ p, f[p]? = some m ∧ Gs p k) ∨ (m ∉ f ∧ m < l.length ∧ Fs m k) ∨ (l.length ≤ m ∧ Gs (f.length + (m - l.length)) k), ?_, ?_, ?_⟩, hk.mono (fun k hn' => .inl hn')⟩
  ·intro m R hm
   rcases Nat.lt_or_ge m l.length with hml | hml
   ·rw [List.getElem?_append_left (by rw [setL_len]; exact hml)] at hm
    by_cases hmf : m ∈ f
    ·obtain ⟨p, hp⟩ := List.getElem?_of_mem hmf
     rw [setL_in f l q p m hn hp hml hq] at hm
     refine R.mono (q1 p R ?_) (fun k hk' => .inl ⟨p, hp, hk'⟩)
     rw [List.getElem?_append_left (List.getElem?_eq_some_iff.1 hm).1]
     exact hm
    ·rw [setL_out f l q m hmf] at hm
     exact R.mono (R.move (h1 m R hm) hk.size (fun k hk' hlt => hk.block k hlt (.inr ⟨m, hmf, hk'⟩))) (fun k hk' => .inr (.inl ⟨hmf, hml, hk'⟩))
   ·rw [List.getElem?_append_right (by rw [setL_len]; exact hml), setL_len] at hm
    refine R.mono (q1 (f.length + (m - l.length)) R ?_) (fun k hk' => .inr (.inr ⟨hml, hk'⟩))
    rw [List.getElem?_append_right (by omega), hq, Nat.add_sub_cancel_left]
    exact hm
  ·rintro m k (⟨p, _, hg⟩ | ⟨_, _, hf'⟩ | ⟨_, hg⟩)
   ·exact ⟨fun hn' => (q2 p k hg).1 (.inl hn'), (q2 p k hg).2⟩
   ·exact ⟨(h2 m k hf').1, Nat.lt_of_lt_of_le (h2 m k hf').2 hk.size⟩
   ·exact ⟨fun hn' => (q2 _ k hg).1 (.inl hn'), (q2 _ k hg).2⟩
  ·rintro m n k (⟨p, hp, hg⟩ | ⟨a, b, hf'⟩ | ⟨a, hg⟩) (⟨p', hp', hg'⟩ | ⟨a', b', hf''⟩ | ⟨a', hg'⟩)
   ·have := q3 p p' k hg hg'
    subst this
    rw [hp] at hp'
    exact Option.some.inj hp'
   ·exact ((q2 p k hg).1 (.inr ⟨n, a', hf''⟩)).elim
   ·have h4 := q3 p _ k hg hg'
    have h5 := (List.getElem?_eq_some_iff.1 hp).1
    omega
   ·exact ((q2 p' k hg').1 (.inr ⟨m, a, hf'⟩)).elim
   ·exact h3 m n k hf' hf''
   ·exact ((q2 _ k hg').1 (.inr ⟨m, a, hf'⟩)).elim
   ·have h4 := q3 _ p' k hg hg'
    have h5 := (List.getElem?_eq_some_iff.1 hp').1
    omega
   ·exact ((q2 _ k hg).1 (.inr ⟨n, a', hf''⟩)).elim
   ·have h4 := q3 _ _ k hg hg'
    omega
end
end Go.Proofs.YtjdenpmaianmfaaDoor.Sep
