/- A Sender as a resource (chapter 10's, for the laws of chapter 15). -/
import Derived.Test.YtjmoncfgoaaekaaDoorYFeedPlaysEv
import Derived.Laws.IdiomCopy
import Derived.ArgAppend
namespace Go.Proofs.YtjmoncfgoaaekaaDoor.Sep
set_option linter.unusedSimpArgs false
set_option linter.unusedVariables false
open Go Go.RowKit Go.Proofs.YtjmoncfgoaaekaaDoorW.PrintWords Go.Proofs.YtjmoncfgoaaekaaDoorW.PrintLast Go.Proofs.YtjmoncfgoaaekaaDoorW.PrintMore
section
variable {α β : Type} {d : Kd α} {e : Nat} {base : Nat} {ok : Nat → Prop} {w w' : World} {xs : List α} {v u : Value} {g f n c : Nat}
def Loose (d : Kd α) : Prop := ∀ {w w' : World} {base : Nat} {ok : Nat → Prop} {x : α} {cs : List Value}, d.K w x cs → d.M w' base ok x cs
theorem loose_scalar {enc : α → Value} {h1 : ∀ x, (enc x).oneCell' = true} : Loose (Kd.scalar enc h1) := fun h => h
theorem loose_pair {a : Kd α} {b : Kd β} (ha : Loose a) (hb : Loose b) : Loose (Kd.pair a b) := fun ⟨c0, c1, e, h0, h1⟩ => ⟨c0, c1, e, ha h0, hb h1⟩
theorem list_choose {P : Nat → α → Prop} (m : Nat) (h : ∀ j, j < m → ∃ x, P j x) : ∃ l : List α, l.length = m ∧ ∀ j x, l[j]? = some x → P j x := by
 induction m with
 | zero => exact ⟨[], rfl, fun j x hj => by simp at hj⟩
 | succ m ih =>
  obtain ⟨l, hl, hp⟩ := ih (fun j hj => h j (by omega))
  obtain ⟨x, hx⟩ := h m (by omega)
  refine ⟨l ++ [x], by rw [List.length_append, hl]; rfl, fun j y hj => ?_⟩
  rcases Nat.lt_or_ge j l.length with hlt | hge
  ·rw [List.getElem?_append_left hlt] at hj
   exact hp j y hj
  ·rw [List.getElem?_append_right hge] at hj
   have hj0 : j - l.length = 0 := by
    have := (List.getElem?_eq_some_iff.1 hj).1
    simp at this
    omega
   rw [hj0] at hj
   simp only [List.getElem?_cons_zero, Option.some.injEq] at hj
   subst hj
   rw [show j = m by omega]
   exact hx
theorem chunk_same (l : List Value) (i sz f : Nat) (u : Value) : ((l.set (i * sz + f) u).drop (i * sz)).take sz = ((l.drop (i * sz)).take sz).set f u := by
 rw [List.drop_set, if_neg (by omega), List.take_set, Nat.add_sub_cancel_left]
theorem chunk_other (l : List Value) (i j sz f : Nat) (u : Value) (hf : f < sz) (hij : j ≠ i) : ((l.set (i * sz + f) u).drop (j * sz)).take sz = (l.drop (j * sz)).take sz := by
 rw [List.drop_set]
 split
 ·rfl
 ·rename_i h
  have h2 : j < i := by
   rcases Nat.lt_or_ge j i with h3 | h3
   ·exact h3
   ·have : i + 1 ≤ j := by omega
    have := Nat.mul_le_mul_right sz this
    rw [Nat.add_mul, Nat.one_mul] at this
    omega
  have h4 : (j + 1) * sz ≤ i * sz := Nat.mul_le_mul_right sz h2
  rw [Nat.add_mul, Nat.one_mul] at h4
  rw [List.take_set, List.set_eq_of_length_le]
  rw [List.length_take]
  omega
def Puts (d : Kd α) (f : Nat) (u : Value) : Prop := ∀ {w : World} {x : α} {cs : List Value}, d.K w x cs → ∃ x', d.K w x' (cs.set f u)
theorem R_put (hd : Loose d) (hu : Puts d f u) (hf : f < d.sz) (h : d.R e w base ok v xs) (i : Nat) : ∃ xs', xs'.length = xs.length ∧ d.R e (w.setCell ⟨g, i * d.sz + f, none⟩ u) base ok v xs' := by
 obtain ⟨h0, inner, ho, hr⟩ := h
 by_cases hg : v.ownBlock = some g
 ·rcases ho.2 with ⟨rfl, _⟩ | ⟨g', cap, cur, rfl, _⟩
  ·simp [Value.ownBlock] at hg
  have : g' = g := by simpa [Value.ownBlock] using hg
  subst this
  have hst := (ho.stored (i * d.sz + f) u).1
  obtain ⟨xs', hl, hx⟩ := list_choose (P := fun j x => d.M (w.setCell ⟨g', i * d.sz + f, none⟩ u) base (fun k => ok k ∧ some k ≠ Value.ownBlock (.slice (some ⟨g', 0, none⟩) xs.length cap)) x (((inner.set (i * d.sz + f) u).drop (j * d.sz)).take d.sz)) xs.length (fun j hj => by
   have hm := hr.2 j _ (List.getElem?_eq_getElem hj)
   by_cases hji : j = i
   ·subst hji
    rw [chunk_same]
    obtain ⟨x', hx'⟩ := hu (d.K_of_M hm)
    exact ⟨x', hd hx'⟩
   ·rw [chunk_other _ _ _ _ _ _ hf hji]
    exact ⟨_, hd (d.K_of_M hm)⟩)
  exact ⟨xs', hl, h0, inner.set (i * d.sz + f) u, by rw [hl]; exact hst, by rw [List.length_set, hl]; exact hr.1, hx⟩
 ·refine ⟨xs, rfl, h0, inner, own_move ho (fun k hk => Below.heap_setCell _ _ _ _ (fun e => hg (by rw [hk, e]))), hr.imp_ (fun _ _ hp => hd (d.K_of_M hp))⟩
end
section
variable {α : Type} {d : Kd α} {e : Nat} {N : Nat → Prop} {w w' W : World} {l : List HP} {i : Nat} {v u : Value} {A : Option Addr} {n c f : Nat} {xs : List α} {x : α} {cs : List Value}
end
section
variable {α : Type} {d : Kd α} {e : Nat} {N : Nat → Prop} {w : World} {l : List HP} {i B : Nat} {v : Value} {xs : List α}
end
end Go.Proofs.YtjmoncfgoaaekaaDoor.Sep
namespace Go.Proofs.YtjmoncfgoaaekaaDoor.Sep
set_option linter.unusedSimpArgs false
set_option linter.unusedVariables false
open Go Go.RowKit Go.Proofs.YtjmoncfgoaaekaaDoorW.PrintWords Go.Proofs.YtjmoncfgoaaekaaDoorW.PrintLast Go.Proofs.YtjmoncfgoaaekaaDoorW.PrintMore
def qrow {α : Type} (d : Kd α) (e : Nat) (v : Value) (xs : List α) : HP where
 P := fun F w => d.Q e w 0 F v xs
 move := fun h _ hk => Kd.Q_step h hk
 mono := fun h hf => Kd.Q_mono h hf
 bound := fun h => Kd.Q_mono (Kd.Q_bound h) (fun k hk => ⟨hk.1, hk.2.2.1⟩)
section
variable {α : Type} {d : Kd α} {e : Nat} {N : Nat → Prop} {w w' W : World} {l : List HP} {i : Nat} {v : Value} {A : Option Addr} {n c : Nat} {xs : List α}
theorem Own.qslice (h : Own N w l) (hi : l[i]? = some (qrow d e v xs)) : ∃ A c, v = .slice A xs.length c ∧ xs.length ≤ c := by
 obtain ⟨F, hf⟩ := h.fact hi
 exact Kd.Q_slice hf
theorem Own.qreads (h : Own N w l) (hi : l[i]? = some (qrow d e (.slice A n c) xs)) : n = xs.length ∧ n ≤ c ∧ Kd.C d w A n xs := by
 obtain ⟨F, hf⟩ := h.fact hi
 obtain ⟨h1, h2, h3⟩ := Kd.Q_reads' hf
 subst h1
 exact ⟨rfl, h2, h3⟩
theorem Own.row_qrow (h : Own N w l) (hi : l[i]? = some (row d e v xs)) : Own N w (l.set i (qrow d e v xs)) := h.conv hi _ (fun F hp _ => Kd.Q_of_R hp)
theorem Own.qnil (h : Own N w l) (d : Kd α) (e : Nat) : Own N w (l ++ [qrow d e (.slice none 0 0) []]) := h.push_emp _ (fun w => Kd.Q_nil d e w 0 _)
theorem Own.regrown {B : Nat} {v1 : Value} {ys : List α} {P : HP} (h : Own N w l) (hi : l[i]? = some P) (hb : Below w.heap.size w w') (hB : w.heap.size ≤ B) (hr : d.R e w' B (fun _ => True) v1 ys) : Own N w' (l.set i (row d e v1 ys)) :=
 h.upd hi _ (fun F _ _ => ⟨hb.size, fun k hk _ => hb.block k hk, fun k => B ≤ k ∧ k < w'.heap.size, Kd.R_mono (Kd.R_lower (Kd.R_bound hr) (Nat.zero_le _)) (fun k hk => ⟨hk.2.1, hk.2.2.1⟩), fun k hk => .inr (Nat.le_trans hB hk.1)⟩)
end
end Go.Proofs.YtjmoncfgoaaekaaDoor.Sep
namespace Go.Proofs.YtjmoncfgoaaekaaDoor.Sep
set_option linter.unusedSimpArgs false
set_option linter.unusedVariables false
open Go Go.RowKit Go.Proofs.YtjmoncfgoaaekaaDoorW.PrintWords Go.Proofs.YtjmoncfgoaaekaaDoorW.PrintLast Go.Proofs.YtjmoncfgoaaekaaDoorW.PrintMore
theorem zeroCells_len (z : Array Value) (n : Nat) : (Builtin.zeroCells z n).toList.length = n * z.size := by simp [Builtin.zeroCells]
theorem zeroCells_one {z : Array Value} (h1 : ∀ u ∈ z.toList, u.oneCell' = true) (n : Nat) : ∀ u ∈ (Builtin.zeroCells z n).toList, u.oneCell' = true := by
 intro u hu
 obtain ⟨j, hj, he⟩ := List.getElem_of_mem hu
 have hj2 : j < n * z.size := by rw [← zeroCells_len]; exact hj
 have hz : 0 < z.size := by
  rcases Nat.eq_zero_or_pos z.size with h | h
  ·rw [h, Nat.mul_zero] at hj2; omega
  ·exact h
 have hm : j % z.size < z.size := Nat.mod_lt _ hz
 simp only [Builtin.zeroCells, Array.getElem_toList, Array.getElem_map, Array.getElem_range] at he
 rw [getElem!_pos z _ hm] at he
 rw [← he]
 exact h1 _ (by simp)
theorem run_clear {P : Program} (w : World) (t e ty : TypeId) (z : Value) (ht : P.underlying t = some (.slice e)) (hv : ∀ w, (zeroValue e).run P w = .ok z w) (h1 : ∀ u ∈ z.cells.toList, u.oneCell' = true) (b o n c : Nat) (hn : 0 < n)
  (hc : ∀ j, j < n * z.cells.size → (w.cell? ⟨b, o + j, none⟩).isSome = true) (hf : ∀ j, j < n * z.cells.size → w.frozen? ⟨b, o + j, none⟩ = false) :
  (Builtin.clear_ #[t] ty #[.slice (some ⟨b, o, none⟩) n c]).run P w = .ok (.tuple #[]) (w.setCells b o (Builtin.zeroCells z.cells n).toList) := by
 have hst := run_storeCells_cells (P := P) b o (Builtin.zeroCells z.cells n).toList 0 w (by rw [zeroCells_len]; simpa using hc) (by rw [zeroCells_len]; simpa using hf) (zeroCells_one h1 n)
 simp only [Nat.add_zero] at hst
 obtain ⟨m, rfl⟩ : ∃ m, n = m + 1 := ⟨n - 1, by omega⟩
 simp [Builtin.clear_, run_underlying ht, hv, hst]
theorem run_clear_none {P : Program} (w : World) (t e ty : TypeId) (ht : P.underlying t = some (.slice e)) (A : Option Addr) (c : Nat) : (Builtin.clear_ #[t] ty #[.slice A 0 c]).run P w = .ok (.tuple #[]) w := by
 cases A <;> simp [Builtin.clear_, run_underlying ht]
section
variable {w : World} {base n size g o : Nat} {e : TypeId} {v : Value} {xs vs : List Value} {cur : Array Value}
theorem q_ahead (h : QRow w base e size v n xs) (hb : w.heap[g]? = some (.cells cur e (0, 0))) (hlen : o + vs.length ≤ cur.size) (hbe : ∀ off m c, v = .slice (some ⟨g, off, none⟩) m c → 0 < m → o + vs.length ≤ off) (hbe0 : ∀ off m c, v = .slice (some ⟨g, off, none⟩) m c → m = 0 ∨ o + vs.length ≤ off) : QRow (w.setCells g o vs) base e size v n xs := by
 obtain ⟨cur', h3, h4, h5⟩ := setCells_row vs o w cur hb hlen
 refine ⟨h.1, ?_⟩
 rcases h.2 with ⟨hn, A, hv, hA⟩ | ⟨g', off, cap, cur0, hv, hbg, hg, hnc, hcm, hcs, ht⟩
 ·refine .inl ⟨hn, A, hv, fun a ha => ⟨(hA a ha).1, ?_⟩⟩
  obtain ⟨_, c2, h2⟩ := hA a ha
  by_cases hag : a.block = g
  ·rw [hag]; exact ⟨cur', h3⟩
  ·exact ⟨c2, (setCells_far vs o _ hag).trans h2⟩
 ·by_cases hgg : g' = g
  ·subst hgg
   rw [hb] at hg
   simp only [Option.some.injEq, Obj.cells.injEq, and_true] at hg
   subst hg
   refine .inr ⟨g', off, cap, cur', hv, hbg, h3, hnc, hcm, by rw [h4]; exact hcs, ?_⟩
   rcases hbe0 _ _ _ hv with hn0 | hle
   ·have hx : xs = [] := List.eq_nil_of_length_eq_zero (by rw [h.1, hn0, Nat.zero_mul])
    rw [hn0, Nat.zero_mul, List.take_zero, hx]
   ·rw [← ht, h5, List.append_assoc]
    congr 1
    have hl1 : (cur.toList.take o).length = o := by rw [List.length_take, Array.length_toList]; omega
    rw [List.drop_append, List.drop_eq_nil_of_le (by rw [hl1]; omega), List.nil_append, hl1, List.drop_append, List.drop_eq_nil_of_le (by omega), List.nil_append, List.drop_drop]
    congr 1
    omega
  ·exact .inr ⟨g', off, cap, cur0, hv, hbg, (setCells_far vs o _ hgg).trans hg, hnc, hcm, hcs, ht⟩
end
section
variable {α : Type} {d : Kd α} {e : Nat} {N : Nat → Prop} {w w' W : World} {l : List HP} {i : Nat} {v : Value} {A : Option Addr} {n c : Nat} {xs : List α}
theorem Q_clear {P : Program} {ok : Nat → Prop} (t ty : TypeId) (z : Value) (ht : P.underlying t = some (.slice e)) (hv : ∀ w, (zeroValue e).run P w = .ok z w) (h1 : ∀ u ∈ z.cells.toList, u.oneCell' = true) (hz : z.cells.size = d.sz) (c' : Nat)
  (h : d.Q e w 0 ok (.slice A n c) xs) {k : Nat} (hk : k ≤ xs.length) :
  ∃ w1, (Builtin.clear_ #[t] ty #[.slice A k c']).run P w = .ok (.tuple #[]) w1 ∧ d.Q e w1 0 ok (.slice (if c = k then A else A.map (·.add (k * d.sz))) (n - k) (c - k)) (xs.drop k) ∧ w.grownBy w1 (Value.slice A n c).ownBlock := by
 have hd := Kd.Q_drop h hk
 have hn : n = xs.length := (Kd.Q_reads' h).1
 subst hn
 by_cases hk0 : k = 0
 ·subst hk0
  exact ⟨w, run_clear_none w t e ty ht A c', hd, ⟨rfl, rfl, rfl, Nat.le_refl _, fun _ _ _ => rfl⟩⟩
 obtain ⟨h0, inner, hown, hr⟩ := h
 rcases hown.2 with ⟨hn0, _⟩ | ⟨g, off, cap, cur, hvv, hbg, hg, hnc, hcm, hcs, htk⟩
 ·omega
 simp only [Value.slice.injEq, true_and] at hvv
 obtain ⟨rfl, rfl⟩ := hvv
 have hkc : k * d.sz ≤ c * d.sz := Nat.mul_le_mul_right _ (by omega)
 have hsz : off * d.sz + k * d.sz ≤ cur.size := by rw [hcs, Nat.add_mul]; omega
 have hrun := run_clear (P := P) w t e ty z ht hv h1 g (off * d.sz) k c' (by omega) (fun j hj => by rw [hz] at hj; rw [blk_cell hg]; simp; omega) (fun j hj => blk_frozen hg _)
 have hvl : (Builtin.zeroCells z.cells k).toList.length = k * d.sz := by rw [zeroCells_len, hz]
 obtain ⟨s1, s2, s3, s4⟩ := setCells_same g (Builtin.zeroCells z.cells k).toList (off * d.sz) w
 refine ⟨_, hrun, ?_, ⟨s1, s2, s3, by rw [s4]; exact Nat.le_refl _, fun j _ hj => setCells_far _ _ j (fun e => hj (by rw [e]; rfl))⟩⟩
 obtain ⟨d0, inner2, down, dr⟩ := hd
 have hob : (Value.slice (if c = k then some (⟨g, off * d.sz, none⟩ : Addr) else (some (⟨g, off * d.sz, none⟩ : Addr)).map (·.add (k * d.sz))) (xs.length - k) (c - k)).ownBlock = some g := by
  split
  ·rfl
  ·simp [Value.ownBlock, add_at]
 refine ⟨d0, inner2, q_ahead down hg (by rw [hvl]; exact hsz) ?_ ?_, dr.imp_ (fun x cs hm => d.M_move (fun j hj => setCells_far _ _ j (fun e => hj.2 (by rw [hob, e]))) hm)⟩
 ·intro off2 m c2 he hm
  split at he
  ·simp only [Value.slice.injEq] at he; omega
  ·rw [Option.map_some, add_at] at he
   simp only [Value.slice.injEq, Option.some.injEq, Addr.mk.injEq, true_and, and_true] at he
   rw [hvl]; omega
 ·intro off2 m c2 he
  split at he
  ·simp only [Value.slice.injEq] at he; left; omega
  ·rw [Option.map_some, add_at] at he
   simp only [Value.slice.injEq, Option.some.injEq, Addr.mk.injEq, true_and, and_true] at he
   right; rw [hvl]; omega
theorem Own.qclear {P : Program} (h : Own N w l) (hi : l[i]? = some (qrow d e (.slice A n c) xs)) (t ty : TypeId) (z : Value) (ht : P.underlying t = some (.slice e)) (hv : ∀ w, (zeroValue e).run P w = .ok z w) (h1 : ∀ u ∈ z.cells.toList, u.oneCell' = true) (hz : z.cells.size = d.sz) (c' : Nat) {k : Nat} (hk : k ≤ xs.length) :
  ∃ w1, (Builtin.clear_ #[t] ty #[.slice A k c']).run P w = .ok (.tuple #[]) w1 ∧ Own N w1 (l.set i (qrow d e (.slice (if c = k then A else A.map (·.add (k * d.sz))) (n - k) (c - k)) (xs.drop k))) ∧ KeepS N w w1 := by
 have hown := h
 obtain ⟨hN, Fs, q1, q2, q3⟩ := h
 have hq : d.Q e w 0 (Fs i) (.slice A n c) xs := q1 i _ hi
 obtain ⟨w1, hrun, hq1, hg⟩ := Q_clear (P := P) t ty z ht hv h1 hz c' hq hk
 refine ⟨w1, hrun, ?_, KeepS.grown hg (fun k hk hn => (q2 i k (hq.1 k hk)).1 hn)⟩
 refine hown.upd hi _ (fun F hp hf => ?_)
 obtain ⟨w2, hrun2, hq2, hg2⟩ := Q_clear (P := P) t ty z ht hv h1 hz c' hp hk
 rw [hrun] at hrun2
 injection hrun2 with _ hw
 subst hw
 exact ⟨hg2.size, fun k hk hnf => hg2.block k hk (fun e => hnf (hp.1 k e.symm)), F, hq2, fun k hk => .inl hk⟩
end
end Go.Proofs.YtjmoncfgoaaekaaDoor.Sep
namespace Go.Proofs.YtjmoncfgoaaekaaDoor.Sep
set_option linter.unusedSimpArgs false
set_option linter.unusedVariables false
open Go Go.RowKit Go.Proofs.YtjmoncfgoaaekaaDoorW.PrintWords Go.Proofs.YtjmoncfgoaaekaaDoorW.PrintLast Go.Proofs.YtjmoncfgoaaekaaDoorW.PrintMore
section
variable {α : Type} {d : Kd α} {e : Nat} {N : Nat → Prop} {w w' W : World} {l : List HP} {i j : Nat} {v : Value} {A B : Option Addr} {n c c2 : Nat} {xs : List α}
theorem Q_grow2 {P : Program} (hd : Loose d) {ok : Nat → Prop} (t ty : TypeId) (z : Value) (bytes : Nat) {p : α}
  (ht : P.underlying t = some (.slice e)) (hinfo : (P.info? e).map (fun i => (i.zero, i.size, i.bytes)) = some (some z, d.sz, bytes)) (hz : z.cells.size = d.sz) (hs0 : 0 < d.sz) (hb0 : 0 < bytes)
  (hp : Kd.C d W B 1 [p]) (HO : d.Q e W 0 ok (.slice A n c) xs) (hl : (xs.length + 1) * bytes ≤ 140737488355328) :
  ∃ v1 w1, (Builtin.append_ #[t, t] ty #[.slice A n n, .slice B 1 c2]).run P W = .ok v1 w1 ∧ d.R e w1 W.heap.size (fun _ => True) v1 (xs ++ [p]) ∧ Below W.heap.size W w1 := by
 have hn : n = xs.length := (Kd.Q_reads' HO).1
 subst hn
 obtain ⟨h0, inner, hown, hr⟩ := HO
 obtain ⟨i0, hi, hzz⟩ := Option.map_eq_some_iff.1 hinfo
 simp only [Prod.mk.injEq] at hzz
 obtain ⟨hz0, hz1, hz2⟩ := hzz
 have hlen : xs.length + 1 ≤ 140737488355328 := Nat.le_trans (Nat.le_mul_of_pos_right _ hb0) hl
 obtain ⟨ad, rfl, hc0⟩ := hp.2.2 (by omega)
 obtain ⟨cs, hcl, hk, hc1⟩ := hc0 0 p rfl
 have hnews : ∀ j u, cs[j]? = some u → W.cell? (ad.add j) = some u := fun j u hu => by have := hc1 j u hu; rwa [Nat.zero_mul, Nat.zero_add] at this
 have fin : ∀ (v1 : Value) (w1 : World), w1.ownsRow W.heap.size e d.sz v1 (xs.length + 1) (inner ++ cs) → W.grownBy w1 none → d.R e w1 W.heap.size (fun _ => True) v1 (xs ++ [p]) ∧ Below W.heap.size W w1 := by
  intro v1 w1 ho hg
  refine ⟨⟨fun _ _ => trivial, inner ++ cs, by rw [List.length_append, List.length_singleton]; exact ho, ?_⟩, ⟨hg.os, hg.tape, hg.output, hg.size, fun k hk => hg.block k hk (by simp)⟩⟩
  exact (hr.imp_ (fun _ _ hm => hd (d.K_of_M hm))).snoc (hd hk) hcl
 cases A with
 | none =>
  have hx : xs.length = 0 := by
   rcases hown.2 with ⟨hx, _⟩ | ⟨g, off, cap, cur, hv, _⟩
   ·exact hx
   ·simp at hv
  have hin : inner = [] := List.eq_nil_of_length_eq_zero (by rw [hown.1, hx, Nat.zero_mul])
  subst hin
  obtain ⟨v1, w1, hrun, ho, hg, _⟩ := run_append_own_at (P := P) W W.heap.size t ty e i0 z d.sz bytes ht hi hz0 hz1 hz2 hz hs0 (.slice none 0 0) 0 [] ⟨by simp, .inl ⟨rfl, rfl⟩⟩ ad 1 c2 cs (by rw [hcl, Nat.one_mul]) hnews (d.K_one hk) (by simp only [maxLen]; omega) (by rw [hx] at hl; exact hl) (Nat.le_refl _)
  rw [hx]
  exact ⟨v1, w1, hrun, fin v1 w1 (by rw [hx]; exact ho) hg⟩
 | some b =>
  have hcells : ∀ j u, inner[j]? = some u → W.cell? (b.add j) = some u := by
   by_cases h00 : 0 < xs.length
   ·obtain ⟨ad', he, hc⟩ := q_cells hown h00
    injection he with he
    subst he
    exact hc
   ·have hin : inner = [] := List.eq_nil_of_length_eq_zero (by rw [hown.1, show xs.length = 0 by omega, Nat.zero_mul])
    intro j u hj
    rw [hin] at hj
    simp at hj
  obtain ⟨v1, w1, hrun, ho, hg⟩ := run_append_arg_grows (P := P) (w := W) t ty e i0 z d.sz bytes ht hi hz0 hz1 hz2 hz hs0 b xs.length xs.length inner hown.1 hcells ad 1 c2 cs (by rw [hcl, Nat.one_mul]) hnews (by omega) (by simp only [maxLen]; omega) hl
  exact ⟨v1, w1, hrun, fin v1 w1 ho hg⟩
theorem Own.append3r_step {P : Program} {ops : Array Oper} {o : Oper} {a : Act} {Qe : Exit → Act → World → Prop} {Kc : Act → World → Prop} (hd : Loose d) {p : α} {N' : Option Tmp} (h : Own N W l) (hi : l[i]? = some (qrow d e (.slice A n c) xs)) (hp : Kd.C d W B 1 [p]) (hN : o.dst = N') (hw : Region.wanted o (yielded ops a.tmps) = true) (s x : Operand) (t : TypeId) (z : Value) (bytes : Nat)
  (ho : o.op = .call { callee := .builtin .append, args := #[s, x], argTypes := #[t, t] })
  (ht : P.underlying t = some (.slice e)) (hinfo : (P.info? e).map (fun i => (i.zero, i.size, i.bytes)) = some (some z, d.sz, bytes)) (hz : z.cells.size = d.sz) (hs0 : 0 < d.sz) (hb0 : 0 < bytes)
  (hs : a.eval s = .slice A n n) (hx : a.eval x = .slice B 1 c2) (hl : (xs.length + 1) * bytes ≤ 140737488355328)
  (hc : ∀ A1 c1 w1, Own N w1 (l.set i (row d e (.slice A1 (xs.length + 1) c1) (xs ++ [p]))) → KeepS N W w1 → Kc (a.put N' (.slice A1 (xs.length + 1) c1)) w1) :
  if Region.wanted o (yielded ops a.tmps) = true then Oper.wp P o a W Kc Qe else Kc (a.put N' undef) W := by
 subst hN
 obtain ⟨F, hf⟩ := h.fact hi
 obtain ⟨v1, w1, hr, h1, h2⟩ := Q_grow2 (P := P) (c2 := c2) hd t o.type z bytes ht hinfo hz hs0 hb0 hp hf hl
 obtain ⟨A1, c1, rfl⟩ := Kd.R_slice h1
 rw [if_pos hw]
 unfold Oper.wp execOp
 simp only [ho, resolve, invoke, builtin, Sem.run_bind, Sem.run_pure, Result.andThen_ok, List.map_toArray, List.map_cons, List.map_nil, hs, hx, hr]
 rw [List.length_append, List.length_singleton] at h1 ⊢
 exact hc A1 c1 w1 (h.regrown hi h2 (Nat.le_refl _) h1) (KeepS.of_below h2)
end
end Go.Proofs.YtjmoncfgoaaekaaDoor.Sep
namespace Go.Proofs.YtjmoncfgoaaekaaDoor.J
set_option linter.unusedSimpArgs false
set_option linter.unusedVariables false
open Go Go.RowKit Go.Proofs.YtjmoncfgoaaekaaDoorW.PrintWords Go.Proofs.YtjmoncfgoaaekaaDoorW.PrintLast Go.Proofs.YtjmoncfgoaaekaaDoorW.PrintMore Go.Proofs.YtjmoncfgoaaekaaDoor.Sep
abbrev Piece := Int × ByteArray
def kP : Kd Piece := Kd.pair (Kd.int .i64) Kd.string
theorem kP_open {w : World} {x : Piece} {cs : List Value} (h : kP.K w x cs) : cs = [.int .i64 x.1, .string x.2] := by
 obtain ⟨c0, c1, rfl, h0, h1⟩ := h
 rw [show c0 = [.int .i64 x.1] from h0, show c1 = [.string x.2] from h1]
 rfl
theorem kP_mk (w : World) (x : Piece) : kP.K w x [.int .i64 x.1, .string x.2] := ⟨[.int .i64 x.1], [.string x.2], rfl, rfl, rfl⟩
theorem looseP : Loose kP := loose_pair loose_scalar loose_scalar
theorem flatP : Flat kP := flat_pair flat_scalar flat_scalar
theorem repP (w : World) (x : Piece) : Reps (Kd.FK kP w (fun _ => False)) 2 [x] [.int .i64 x.1, .string x.2] := (Reps.none _ 2).snoc (flatP.FK (kP_mk w x)) rfl
def SendO (g : Nat) (W La S : Int) (xs : List Piece) : HP := ex fun v : Value => star (cells g #[.int .i64 W, .int .i64 La, .int .i64 S, v] 136) (qrow kP 102 v xs)
section
variable {N : Nat → Prop} {w : World} {l : List HP} {i j g : Nat} {W La S : Int} {xs : List Piece} {v : Value}
theorem SendO.open_ (h : Own N w l) (hi : l[i]? = some (SendO g W La S xs)) :
  ∃ A c, Own N w ((l.set i (cells g #[.int .i64 W, .int .i64 La, .int .i64 S, .slice A xs.length c] 136)) ++ [qrow kP 102 (.slice A xs.length c) xs]) := by
 obtain ⟨v, hv⟩ := h.of_ex hi
 have hlt : i < l.length := (List.getElem?_eq_some_iff.1 hi).1
 have h2 := hv.split (i := i) (List.getElem?_set_self hlt)
 rw [List.set_set] at h2
 obtain ⟨A, c, rfl, _⟩ := h2.qslice (i := l.length) (by
  rw [List.getElem?_append_right (by simp), List.length_set, Nat.sub_self]; rfl)
 exact ⟨A, c, h2⟩
theorem SendO.shut (h : Own N w l) (hi : l[i]? = some (cells g #[.int .i64 W, .int .i64 La, .int .i64 S, v] 136)) (hj : l[j]? = some (qrow kP 102 v xs)) (hij : i ≠ j) :
  Own N w ((l.set i (SendO g W La S xs)).set j emp) := by
 have h2 := h.join hi hj hij
 have hlt : i < l.length := (List.getElem?_eq_some_iff.1 hi).1
 have h3 := h2.to_ex (f := fun v : Value => star (cells g #[.int .i64 W, .int .i64 La, .int .i64 S, v] 136) (qrow kP 102 v xs)) v (i := i) (by
  rw [List.getElem?_set_ne (fun e => hij e.symm), List.getElem?_set_self hlt])
 rw [List.set_comm _ _ hij, List.set_set, List.set_comm _ _ hij.symm] at h3
 exact h3
end
end Go.Proofs.YtjmoncfgoaaekaaDoor.J
