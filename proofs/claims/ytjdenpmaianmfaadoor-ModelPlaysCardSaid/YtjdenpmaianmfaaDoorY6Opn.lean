/- How arguments that read as data are opened: cells that read as data of a type are a value of the type's kind (whole numbers, bools, texts, structs, arrays, slices of these, at any depth), with the bounds that the reading gives. -/
import Derived.Test.YtjdenpmaianmfaaDoorY6WWords
import Derived.ProofKit
import Derived.OpenShut
import Derived.SizedLaws
import Derived.Lib.SmallJoins
namespace Go.Proofs.YtjdenpmaianmfaaDoor.Opn
open Go RowKit YtjdenpmaianmfaaDoorW.PrintWords Go.ChangeShapes Go.WideShapes Go.ChangeAt
def Opens {α : Type} (P : Program) (t : TypeId) (d : Kd α) (G : α → Prop) : Prop :=
 ∀ {H : Type} (enc : TypeId × Value → H) (w : World) (spare : Nat → Bool) (held : Bool) (fuel : Nat) (cs : List Value) (y : DataW H × List MemPlace),
  DataW.trod enc P w 0 spare held fuel t cs = some y → (∀ n ∈ y.1.weights P t, n ≤ reachBytes) → ∃ x, d.K w x cs ∧ G x
section
variable {α β : Type} {P : Program} {t e : TypeId} {d : Kd α} {G : α → Prop}
theorem opens_int {k : IntKind} (hu : P.underlying t = some (.int k)) : Opens P t (Kd.int k) (fun x => (Lit.int k x).wf = true) := by
 intro H enc w spare held fuel cs y h _
 obtain ⟨n, rfl, _, hw⟩ := DataW.trod_int hu h
 exact ⟨n, rfl, hw⟩
theorem opens_string (hu : P.underlying t = some .string) : Opens P t Kd.string (fun s => s.size ≤ 140737488351232) := by
 intro H enc w spare held fuel cs y h hw
 obtain ⟨s, rfl, rfl, _⟩ := DataW.trod_string hu h
 refine ⟨s, rfl, ?_⟩
 have := hw s.data.toList.length (by simp [DataW.weights])
 have e : reachBytes = 140737488351232 := by decide
 rw [e] at this
 simpa using this
theorem weights_all {H : Type} {P : Program} {e : TypeId} : ∀ {l : List (DataW H)} {i : Nat} {y : DataW H}, l[i]? = some y → ∀ n ∈ y.weights P e, n ∈ DataW.weightsAll P e l
 | [], i, y, h, _, _ => by simp at h
 | x :: l, 0, y, h, n, hn => by
  simp only [List.getElem?_cons_zero, Option.some.injEq] at h
  subst h
  simp only [DataW.weightsAll, List.mem_append]
  exact Or.inl hn
 | x :: l, i + 1, y, h, n, hn => by
  simp only [List.getElem?_cons_succ] at h
  simp only [DataW.weightsAll, List.mem_append]
  exact Or.inr (weights_all h n hn)
theorem opens_slice (hu : P.underlying t = some (.slice e)) (hsz : P.cellsOf e = d.sz) {B : Nat} (hB : P.bytesOf e = B) (he : Opens P e d G) :
  Opens P t (Kd.slice e d) (fun xs : List α => xs.length * B ≤ 140737488351232 ∧ xs.length ≤ maxLen ∧ ∀ x ∈ xs, G x) := by
 intro H enc w spare held fuel cs y h hw
 have hr : reachBytes = 140737488351232 := by decide
 rcases DataW.trod_slice hu h with ⟨rfl, rfl⟩ | ⟨a, len, cap, elems, rest, n, rfl, rfl, rfl, hb, hl, hm, hlen, hel, _, _⟩
 ·exact ⟨[], ⟨none, 0, rfl, Nat.le_refl _, rfl, by simp, fun h0 => absurd h0 (by simp)⟩, by simp, by simp, fun x hx => by simp at hx⟩
 simp only [DataW.weights, hu] at hw
 have each : ∀ i, i < len → ∃ x c, c.length = d.sz ∧ d.K w x c ∧ G x ∧ ∀ k u, c[k]? = some u → w.cell? (a.add (i * d.sz + k)) = some u := by
  intro i hi
  have h1 := hel i hi
  have hi' : i < elems.length := by omega
  rw [List.getElem?_eq_getElem hi', Option.bind_eq_some_iff] at h1
  obtain ⟨c, hc, htr⟩ := h1
  obtain ⟨x, hK, hG⟩ := he enc w spare held n c _ htr (fun m hm' => hw m (List.mem_cons_of_mem _ (List.mem_append_left _ (weights_all (i := i) (by simp [hi']) m hm'))))
  obtain ⟨_, hcl, hcc⟩ := World.cells?_some hc
  refine ⟨x, c, d.K_len hK, hK, hG, fun k u hu' => ?_⟩
  have hk : k < c.length := (List.getElem?_eq_some_iff.1 hu').1
  have h2 := hcc k (by omega)
  rw [hu', hsz] at h2
  rw [← h2]
  congr 1
  exact (add_add a (i * d.sz) k).symm
 have build : ∀ m, m ≤ len → ∃ xs : List α, xs.length = m ∧ (∀ x ∈ xs, G x) ∧ ∀ j p, xs[j]? = some p → ∃ c, c.length = d.sz ∧ d.K w p c ∧ ∀ k u, c[k]? = some u → w.cell? (a.add (j * d.sz + k)) = some u := by
  intro m
  induction m with
  | zero => exact fun _ => ⟨[], rfl, fun x hx => by simp at hx, fun j p hp => by simp at hp⟩
  | succ m ih =>
   intro hm'
   obtain ⟨xs, h1, h2, h3⟩ := ih (by omega)
   obtain ⟨x, c, g1, g2, g3, g4⟩ := each m (by omega)
   refine ⟨xs ++ [x], by simp [h1], fun y hy => ?_, fun j p hp => ?_⟩
   ·rcases List.mem_append.1 hy with hy | hy
    ·exact h2 y hy
    ·rw [List.mem_singleton.1 hy]; exact g3
   ·by_cases hj : j < xs.length
    ·rw [List.getElem?_append_left hj] at hp
     exact h3 j p hp
    ·have hj' : j = m := by
      have := (List.getElem?_eq_some_iff.1 hp).1
      rw [List.length_append, List.length_singleton] at this
      omega
     subst hj'
     have hp' : x = p := by simpa [← h1] using hp
     subst hp'
     exact ⟨c, g1, g2, g4⟩
 obtain ⟨xs, h1, h2, h3⟩ := build len (Nat.le_refl _)
 have hcap : (9223372036854775807 : Nat) = maxLen := by decide
 refine ⟨xs, ⟨some a, cap, by rw [h1], by rw [h1]; exact hl, rfl, by rw [h1]; omega, fun _ => ⟨a, rfl, h3⟩⟩, ?_, by rw [h1]; omega, h2⟩
 have := hw _ (List.mem_cons_self)
 rw [hB, hr] at this
 simp only [List.length_map] at this
 refine Nat.le_trans (Nat.mul_le_mul_right _ ?_) this
 omega
def OpensF (P : Program) (l : List (TypeId × Nat)) (o : Nat) (d : Kd α) (G : α → Prop) : Prop :=
 ∀ {H : Type} (enc : TypeId × Value → H) (w : World) (spare : Nat → Bool) (held : Bool) (fuel : Nat) (cs : List Value) (xs : List (DataW H × List MemPlace)),
  (∀ (i : Nat) (f : TypeId × Nat), l[i]? = some f → DataW.trod enc P w 0 spare held fuel f.1 ((cs.drop f.2).take (P.cellsOf f.1)) = xs[i]?) → xs.length = l.length → cs.length = o + d.sz →
  (∀ n ∈ DataW.weightsEach P (l.map (·.1)) (xs.map (·.1)), n ≤ reachBytes) → ∃ x, d.K w x (cs.drop o) ∧ G x
theorem opensF_last {o : Nat} (hc : P.cellsOf t = d.sz) (h : Opens P t d G) : OpensF P [(t, o)] o d G := by
 intro H enc w spare held fuel cs xs hx hl hcs hw
 match xs, hl with
 | [x], _ =>
  have h1 := hx 0 _ rfl
  have e : (cs.drop o).take (P.cellsOf t) = cs.drop o := by rw [hc]; exact List.take_of_length_le (by simp; omega)
  simp only [e] at h1
  exact h enc w spare held fuel _ _ h1 (fun n hn => hw n (by simpa [DataW.weightsEach] using hn))
theorem opensF_cons {o o' : Nat} {l : List (TypeId × Nat)} {b : Kd β} {Gb : β → Prop} (hc : P.cellsOf t = d.sz) (ho : o + d.sz = o') (h : Opens P t d G) (hb : OpensF P l o' b Gb) : OpensF P ((t, o) :: l) o (Kd.pair d b) (fun x : α × β => G x.1 ∧ Gb x.2) := by
 intro H enc w spare held fuel cs xs hx hl hcs hw
 subst ho
 match xs, hl with
 | x :: xs, hl =>
  have h1 := hx 0 _ rfl
  have hsz : (Kd.pair d b).sz = d.sz + b.sz := rfl
  simp only [List.map_cons, DataW.weightsEach] at hw
  obtain ⟨p, hp, gp⟩ := h enc w spare held fuel _ _ h1 (fun n hn => hw n (List.mem_append_left _ hn))
  obtain ⟨q, hq, gq⟩ := hb enc w spare held fuel cs xs (fun i f hf => by simpa using hx (i + 1) f (by simpa using hf)) (by simpa using hl) (by omega) (fun n hn => hw n (List.mem_append_right _ hn))
  refine ⟨(p, q), ⟨_, _, ?_, hp, hq⟩, gp, gq⟩
  show cs.drop o = (cs.drop o).take (P.cellsOf t) ++ cs.drop (o + d.sz)
  rw [hc, ← List.drop_drop, List.take_append_drop]
theorem opens_struct {fs : Array Field} {l : List (TypeId × Nat)} (hu : P.underlying t = some (.struct fs)) (hl : fs.toList.map (fun f => (f.type, f.offset)) = l) (hc : P.cellsOf t = d.sz) (h : OpensF P l 0 d G)
  (f : β → α) (g : α → β) (hfg : ∀ y, f (g y) = y) : Opens P t (Kd.iso d f) (fun x => G (f x)) := by
 intro H enc w spare held fuel cs y hy hw
 obtain ⟨xs, n, rfl, rfl, hlen, hxs, hel⟩ := DataW.trod_struct hu hy
 have ll : l.length = fs.size := by rw [← hl]; simp
 obtain ⟨x, hK, hG⟩ := h enc w spare held n cs xs (fun i q hq => by
  rw [← hl] at hq
  simp only [List.getElem?_map, Option.map_eq_some_iff] at hq
  obtain ⟨q', hq', rfl⟩ := hq
  exact hel i q' (by simpa using hq')) (by omega) (by omega) (fun m hm => hw m (by
   simp only [DataW.weights, hu]
   have e : fs.toList.map (·.type) = l.map (·.1) := by rw [← hl]; simp
   rw [e]
   exact hm))
 refine ⟨g x, ?_, ?_⟩
 ·show d.K w (f (g x)) cs
  rw [hfg]
  simpa using hK
 ·show G (f (g x))
  rw [hfg]
  exact hG
theorem arg_open {H : Type} {enc : TypeId × Value → H} {W : World} {spare : Nat → Bool} {held : Bool} {v : Value} {dat : DataW H} {ps : List MemPlace} {ts : List TypeId} {ds : List (DataW H)} {j : Nat} (ho : Opens P t d G)
  (h : DataW.Trod enc P W 0 spare held t v dat ps) (hsz : (DataW.weightsEach P ts ds).all (· ≤ reachBytes) = true) (ht : ts[j]? = some t) (hd : ds[j]? = some dat) : ∃ x, d.K W x v.cells.toList ∧ G x := by
 obtain ⟨fuel, hf⟩ := h
 exact ho enc W spare held fuel _ _ hf (fun n hn => by simpa using List.all_eq_true.1 hsz n (DataW.weights_mem_each ht hd n hn))
theorem agg_of {t : TypeId} {fs : Array Field} {r : Reach} {base : Nat} {W : World} {v : Value} {cs : List Value} (hu : P.underlying t = some (.struct fs)) (hv : Value.okWide P W r base t v) (h : v.cells.toList = cs) : v = .agg cs.toArray := by
 obtain ⟨c, rfl, _⟩ := okWide_struct hu hv
 subst h
 simp [Value.cells]
theorem slice_of {t e : TypeId} {r : Reach} {base : Nat} {W : World} {v : Value} {A : Option Addr} {n c : Nat} (hu : P.underlying t = some (.slice e)) (hv : Value.okWide P W r base t v) (h : v.cells.toList = [.slice A n c]) : v = .slice A n c := by
 obtain ⟨a0, len, cap, rfl⟩ := okWide_slice hu hv
 simpa [Value.cells] using h
end
end Go.Proofs.YtjdenpmaianmfaaDoor.Opn
