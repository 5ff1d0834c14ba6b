/- The document's Client and its Journal as one resource; its turns, and the program's, each in all cases at once. -/
import Derived.Test.YtjdenpmaianmfaaDoorYClientPushesEv
import Derived.Test.YtjdenpmaianmfaaDoorYClientPushesQ0
import Derived.Laws.IdiomCopy
import Derived.ArgAppend
import Derived.Test.YtjdenpmaianmfaaDoorYClientPushesRp1
import Derived.Test.YtjdenpmaianmfaaDoorYClientPushesQ4
import Derived.Test.YtjdenpmaianmfaaDoorYClientPushesSq
import Derived.Test.YtjdenpmaianmfaaDoorProg
import Derived.Test.YtjdenpmaianmfaaDoorYClientPushesJ0
import Derived.Test.YtjdenpmaianmfaaDoorYClientPushesRM
import Derived.Test.YtjdenpmaianmfaaDoorYClientPushesSepL
import Derived.Test.YtjdenpmaianmfaaDoorYClientPushesRPut
import Derived.Test.YtjdenpmaianmfaaDoorYClientPushesUA
import Derived.Test.YtjdenpmaianmfaaDoorYClientPushesPre0
import Derived.Test.YtjdenpmaianmfaaDoorYClientPushesQ8
import Derived.Test.YtjdenpmaianmfaaDoorYClientPushesQ9
import Derived.Test.YtjdenpmaianmfaaDoorYClientPushesQ10
import Derived.Test.YtjdenpmaianmfaaDoorYClientPushesKy0
import Derived.Test.YtjdenpmaianmfaaDoorYClientPushesSz
namespace Go.Proofs.YtjdenpmaianmfaaDoor.Sep
set_option linter.unusedSimpArgs false
set_option linter.unusedVariables false
open Go Go.RowKit Go.Proofs.YtjdenpmaianmfaaDoorW.PrintWords Go.Proofs.YtjdenpmaianmfaaDoorW.PrintLast Go.Proofs.YtjdenpmaianmfaaDoorW.PrintMore
section
variable {α β : Type} {d : Kd α} {e : Nat} {base : Nat} {ok : Nat → Prop} {w w' : World} {xs : List α} {v u : Value} {g f n c : Nat}
def Loose (d : Kd α) : Prop := ∀ {w w' : World} {base : Nat} {ok : Nat → Prop} {x : α} {cs : List Value}, d.K w x cs → d.M w' base ok x cs
theorem list_choose {P : Nat → α → Prop} (m : Nat) (h : ∀ j, j < m → ∃ x, P j x) : ∃ l : List α, l.length = m ∧ ∀ j x, l[j]? = some x → P j x := by
 induction m with
 | zero => exact ⟨[], rfl, fun j x hj => by simp at hj⟩
 | succ m ih =>
  obtain ⟨l, hl, hp⟩ := ih (fun j hj => h j (by omega))
  obtain ⟨x, hx⟩ := h m (by omega)
  refine ⟨l ++ [x], by rw [List.length_append, hl]; rfl, fun j y hj => ?_⟩
  rcases Nat.lt_or_ge j l.length with hlt | hge
  ·rw [List.getElem?_append_left hlt] at hj
   exact hp j y hj
  ·rw [List.getElem?_append_right hge] at hj
   have hj0 : j - l.length = 0 := by
    have := (List.getElem?_eq_some_iff.1 hj).1
    simp at this
    omega
   rw [hj0] at hj
   simp only [List.getElem?_cons_zero, Option.some.injEq] at hj
   subst hj
   rw [show j = m by omega]
   exact hx
theorem chunk_same (l : List Value) (i sz f : Nat) (u : Value) : ((l.set (i * sz + f) u).drop (i * sz)).take sz = ((l.drop (i * sz)).take sz).set f u := by
 rw [List.drop_set, if_neg (by omega), List.take_set, Nat.add_sub_cancel_left]
theorem chunk_other (l : List Value) (i j sz f : Nat) (u : Value) (hf : f < sz) (hij : j ≠ i) : ((l.set (i * sz + f) u).drop (j * sz)).take sz = (l.drop (j * sz)).take sz := by
 rw [List.drop_set]
 split
 ·rfl
 ·rename_i h
  have h2 : j < i := by
   rcases Nat.lt_or_ge j i with h3 | h3
   ·exact h3
   ·have : i + 1 ≤ j := by omega
    have := Nat.mul_le_mul_right sz this
    rw [Nat.add_mul, Nat.one_mul] at this
    omega
  have h4 : (j + 1) * sz ≤ i * sz := Nat.mul_le_mul_right sz h2
  rw [Nat.add_mul, Nat.one_mul] at h4
  rw [List.take_set, List.set_eq_of_length_le]
  rw [List.length_take]
  omega
def Puts (d : Kd α) (f : Nat) (u : Value) : Prop := ∀ {w : World} {x : α} {cs : List Value}, d.K w x cs → ∃ x', d.K w x' (cs.set f u)
theorem R_put (hd : Loose d) (hu : Puts d f u) (hf : f < d.sz) (h : d.R e w base ok v xs) (i : Nat) : ∃ xs', xs'.length = xs.length ∧ d.R e (w.setCell ⟨g, i * d.sz + f, none⟩ u) base ok v xs' := by
 obtain ⟨h0, inner, ho, hr⟩ := h
 by_cases hg : v.ownBlock = some g
 ·rcases ho.2 with ⟨rfl, _⟩ | ⟨g', cap, cur, rfl, _⟩
  ·simp [Value.ownBlock] at hg
  have : g' = g := by simpa [Value.ownBlock] using hg
  subst this
  have hst := (ho.stored (i * d.sz + f) u).1
  obtain ⟨xs', hl, hx⟩ := list_choose (P := fun j x => d.M (w.setCell ⟨g', i * d.sz + f, none⟩ u) base (fun k => ok k ∧ some k ≠ Value.ownBlock (.slice (some ⟨g', 0, none⟩) xs.length cap)) x (((inner.set (i * d.sz + f) u).drop (j * d.sz)).take d.sz)) xs.length (fun j hj => by
   have hm := hr.2 j _ (List.getElem?_eq_getElem hj)
   by_cases hji : j = i
   ·subst hji
    rw [chunk_same]
    obtain ⟨x', hx'⟩ := hu (d.K_of_M hm)
    exact ⟨x', hd hx'⟩
   ·rw [chunk_other _ _ _ _ _ _ hf hji]
    exact ⟨_, hd (d.K_of_M hm)⟩)
  exact ⟨xs', hl, h0, inner.set (i * d.sz + f) u, by rw [hl]; exact hst, by rw [List.length_set, hl]; exact hr.1, hx⟩
 ·refine ⟨xs, rfl, h0, inner, own_move ho (fun k hk => Below.heap_setCell _ _ _ _ (fun e => hg (by rw [hk, e]))), hr.imp_ (fun _ _ hp => hd (d.K_of_M hp))⟩
end
section
variable {α : Type} {d : Kd α} {e : Nat} {N : Nat → Prop} {w w' W : World} {l : List HP} {i : Nat} {v u : Value} {A : Option Addr} {n c f : Nat} {xs : List α} {x : α} {cs : List Value}
theorem Own.row_nrow (h : Own N w l) (hi : l[i]? = some (row d e v xs)) : Own N w (l.set i (nrow d e v xs)) := h.conv hi _ (fun F hp _ => Kd.R_N hp)
theorem Own.pushW {B : Nat} {ok : Nat → Prop} (h : Own N w l) (hb : Below w.heap.size w w') (hB : w.heap.size ≤ B) (hr : d.R e w' B ok v xs) : Own N w' (l ++ [row d e v xs]) :=
 h.push (row d e v xs) hb.size (fun k hk => hb.block k hk) (F := fun k => ok k ∧ B ≤ k ∧ k < w'.heap.size ∧ ∃ q, q ∈ e :: d.E ∧ ∃ cells, w'.heap[k]? = some (.cells cells q (0, 0))) (Kd.R_lower (Kd.R_bound hr) (Nat.zero_le _)) (fun k hk => Nat.le_trans hB hk.2.1)
theorem Own.appendR (d : Kd α) {p : α} {j : Nat} {P : Program} {ops : Array Oper} {rest : List Oper} {o : Oper} {a : Act} {Q : Exit → Act → World → Prop} (h : Own N W l) (hi : l[i]? = some (row d e v xs)) (hj : l[j]? = some (elem d p cs)) (hij : i ≠ j) (hgd : o.guard = none) (s x : Operand) (t : TypeId) (z : Value) (bytes : Nat)
  (ho : o.op = .call { callee := .builtin .append, args := #[s, x], argTypes := #[t, t] })
  (ht : P.underlying t = some (.slice e)) (hinfo : (P.info? e).map (fun i => (i.zero, i.size, i.bytes)) = some (some z, d.sz, bytes)) (hz : z.cells.size = d.sz) (hs0 : 0 < d.sz) (hb0 : 0 < bytes)
  (hs : a.eval s = v) (hx : a.eval x = .slice (some ⟨W.heap.size, 0, none⟩) 1 1) (hl : (xs.length + 1) * bytes ≤ 140737488355328)
  (hc : ∀ A1 c1 w1, Own N w1 ((l.set i (row d e (.slice A1 (xs.length + 1) c1) (xs ++ [p]))).set j emp) → KeepS N W w1 → wpList P ops Q rest (a.put o.dst (.slice A1 (xs.length + 1) c1)) w1) :
  wpList P ops Q (o :: rest) a (W.alloc (.cells cs.toArray e)) := by
 obtain ⟨hN, Fs, h1, h2, h3⟩ := h
 have hi0 : d.R e W 0 (Fs i) v xs := h1 i _ hi
 have hj0 : d.M W 0 (Fs j) p cs := h1 j _ hj
 refine Kd.R_append d (w0 := W) 0 hgd s x t e z bytes ho ht hinfo hz hs0 hb0 v xs p cs (fun k => Fs i k ∨ Fs j k ∨ W.heap.size ≤ k) (Fs j) hs hx hj0 ?_ (fun k hk => .inr (.inr hk)) (Kd.R_mono hi0 (fun k hk => .inl hk)) (Below.refl _ _) (Nat.zero_le _) hl ?_
 ·exact fun k hk => ⟨.inr (.inl hk), fun he => hij (h3 _ _ k (hi0.1 k he.symm) hk)⟩
 ·intro v1 w1 hn _ hg hat
  obtain ⟨A1, c1, rfl⟩ := Kd.R_slice hn
  rw [List.length_append, List.length_singleton] at hn ⊢
  refine hc A1 c1 w1 (merge hN h1 h2 h3 (List.getElem?_eq_some_iff.1 hi).1 (List.getElem?_eq_some_iff.1 hj).1 hij hg.size ?_ _ hn) (KeepS.grown hg (fun k hk hn => (h2 i k (hi0.1 k hk)).1 hn))
  exact fun k hk hno => hg.block k hk (fun he => hno (.inl (hi0.1 k he.symm)))
end
section
variable {α : Type} {d : Kd α} {e : Nat} {N : Nat → Prop} {w : World} {l : List HP} {i B : Nat} {v : Value} {xs : List α}
end
end Go.Proofs.YtjdenpmaianmfaaDoor.Sep
namespace Go.Proofs.YtjdenpmaianmfaaDoor.Sep
set_option linter.unusedSimpArgs false
set_option linter.unusedVariables false
open Go Go.RowKit Go.Proofs.YtjdenpmaianmfaaDoorW.PrintWords Go.Proofs.YtjdenpmaianmfaaDoorW.PrintLast Go.Proofs.YtjdenpmaianmfaaDoorW.PrintMore Go.Proofs.YtjdenpmaianmfaaDoor.Q
section
abbrev kU := k32
abbrev kR := k35
abbrev TU : TypeId := 32
variable {N : Nat → Prop} {w w' : World} {l : List HP} {i : Nat} {v u : Value} {A A2 : Option Addr} {n m c c2 f g base : Nat} {L : List S35} {ok : Nat → Prop} {cs : Array Value}
theorem rowElem (r : S35) (h : Own N w l) (hi : l[i]? = some (row kU TU (.slice A n c) r.f2)) : Own N w (l.set i (elem kR r [.int .i64 r.f0, .int .i64 r.f1, .slice A n c])) :=
 h.conv hi _ (fun F hp _ => ⟨[.int .i64 r.f0], [.int .i64 r.f1, .slice A n c], rfl, rfl, [.int .i64 r.f1], [.slice A n c], rfl, rfl, _, rfl, hp⟩)
end
end Go.Proofs.YtjdenpmaianmfaaDoor.Sep
namespace Go.Proofs.YtjdenpmaianmfaaDoor.Sep
set_option linter.unusedSimpArgs false
set_option linter.unusedVariables false
open Go Go.RowKit Go.Proofs.YtjdenpmaianmfaaDoorW.PrintWords Go.Proofs.YtjdenpmaianmfaaDoorW.PrintLast Go.Proofs.YtjdenpmaianmfaaDoorW.PrintMore
def qrow {α : Type} (d : Kd α) (e : Nat) (v : Value) (xs : List α) : HP where
 P := fun F w => d.Q e w 0 F v xs
 move := fun h _ hk => Kd.Q_step h hk
 mono := fun h hf => Kd.Q_mono h hf
 bound := fun h => Kd.Q_mono (Kd.Q_bound h) (fun k hk => ⟨hk.1, hk.2.2.1⟩)
section
variable {α : Type} {d : Kd α} {e : Nat} {N : Nat → Prop} {w w' W : World} {l : List HP} {i : Nat} {v : Value} {A : Option Addr} {n c : Nat} {xs : List α}
theorem Own.qslice (h : Own N w l) (hi : l[i]? = some (qrow d e v xs)) : ∃ A c, v = .slice A xs.length c ∧ xs.length ≤ c := by
 obtain ⟨F, hf⟩ := h.fact hi
 exact Kd.Q_slice hf
theorem Own.qreads (h : Own N w l) (hi : l[i]? = some (qrow d e (.slice A n c) xs)) : n = xs.length ∧ n ≤ c ∧ Kd.C d w A n xs := by
 obtain ⟨F, hf⟩ := h.fact hi
 obtain ⟨h1, h2, h3⟩ := Kd.Q_reads' hf
 subst h1
 exact ⟨rfl, h2, h3⟩
theorem Own.row_qrow (h : Own N w l) (hi : l[i]? = some (row d e v xs)) : Own N w (l.set i (qrow d e v xs)) := h.conv hi _ (fun F hp _ => Kd.Q_of_R hp)
theorem Own.qnil (h : Own N w l) (d : Kd α) (e : Nat) : Own N w (l ++ [qrow d e (.slice none 0 0) []]) := h.push_emp _ (fun w => Kd.Q_nil d e w 0 _)
end
end Go.Proofs.YtjdenpmaianmfaaDoor.Sep
namespace Go.Proofs.YtjdenpmaianmfaaDoor.Sep
set_option linter.unusedSimpArgs false
set_option linter.unusedVariables false
open Go Go.RowKit Go.Proofs.YtjdenpmaianmfaaDoorW.PrintWords Go.Proofs.YtjdenpmaianmfaaDoorW.PrintLast Go.Proofs.YtjdenpmaianmfaaDoorW.PrintMore
section
variable {w : World} {base n size g o : Nat} {e : TypeId} {v : Value} {xs vs : List Value} {cur : Array Value}
end
section
variable {α : Type} {d : Kd α} {e : Nat} {N : Nat → Prop} {w w' W : World} {l : List HP} {i : Nat} {v : Value} {A : Option Addr} {n c : Nat} {xs : List α}
theorem Own.qdrop (h : Own N w l) (hi : l[i]? = some (qrow d e (.slice A n c) xs)) (k : Nat) (hk : k ≤ xs.length) : Own N w (l.set i (qrow d e (.slice (if c = k then A else A.map (·.add (k * d.sz))) (n - k) (c - k)) (xs.drop k))) :=
 h.conv hi _ (fun F hp _ => Kd.Q_drop hp hk)
end
end Go.Proofs.YtjdenpmaianmfaaDoor.Sep
namespace Go.Proofs.YtjdenpmaianmfaaDoor.J
set_option linter.unusedSimpArgs false
set_option linter.unusedVariables false
open Go Go.RowKit Go.Proofs.YtjdenpmaianmfaaDoorW.PrintWords Go.Proofs.YtjdenpmaianmfaaDoorW.PrintLast Go.Proofs.YtjdenpmaianmfaaDoorW.PrintMore Go.Proofs.YtjdenpmaianmfaaDoor.Q Go.Proofs.YtjdenpmaianmfaaDoor.Sep
theorem copyC (o n : Int) (ups : List S32) (hu : ups.length ≤ 1000000) : round_Copy.f o n ups = some (o, n, ups) := by
 unfold round_Copy.f api_Update.f
 rw [if_pos (by omega)]
 rfl
def CellN (N : Nat → Prop) (w : World) (g : Nat) (cs : Array Value) (t : TypeId) : Prop := N g ∧ w.heap[g]? = some (.cells cs t (0, 0))
theorem CellN.keep {N : Nat → Prop} {w w' : World} {g : Nat} {cs : Array Value} {t : TypeId} (h : CellN N w g cs t) (k : KeepS N w w') : CellN N w' g cs t := ⟨h.1, (k.block g (blk_lt h.2) h.1).trans h.2⟩
theorem CellN.mono {N N' : Nat → Prop} {w : World} {g : Nat} {cs : Array Value} {t : TypeId} (h : CellN N w g cs t) (hn : ∀ k, N k → N' k) : CellN N' w g cs t := ⟨hn _ h.1, h.2⟩
def Lead (N : Nat → Prop) (w : World) (rows : List (List Value)) (xs : List S35) : Prop := rows.length = xs.length ∧ ∀ (j : Nat) (x : S35) (c : List Value), xs[j]? = some x → rows[j]? = some c → Kd.FK k35 w N x c
theorem Lead.none (N : Nat → Prop) (w : World) : Lead N w [] [] := ⟨rfl, fun j x c h => by simp at h⟩
theorem Lead.keep {N : Nat → Prop} {w w' : World} {rows : List (List Value)} {xs : List S35} (h : Lead N w rows xs) (hk : KeepS N w w') : Lead N w' rows xs := ⟨h.1, fun j x c a b => keepFK (h.2 j x c a b) hk⟩
theorem Lead.mono {N N' : Nat → Prop} {w : World} {rows : List (List Value)} {xs : List S35} (h : Lead N w rows xs) (hn : ∀ k, N k → N' k) : Lead N' w rows xs := ⟨h.1, fun j x c a b => Kd.FK_mono (h.2 j x c a b) hn⟩
theorem Lead.append {N : Nat → Prop} {w : World} {r1 r2 : List (List Value)} {x1 x2 : List S35} (h : Lead N w r1 x1) (k : Lead N w r2 x2) : Lead N w (r1 ++ r2) (x1 ++ x2) := by
 refine ⟨by simp [h.1, k.1], fun j y d a b => ?_⟩
 rcases Nat.lt_or_ge j x1.length with hj | hj
 ·rw [List.getElem?_append_left hj] at a
  rw [List.getElem?_append_left (by rw [h.1]; exact hj)] at b
  exact h.2 j y d a b
 ·rw [List.getElem?_append_right hj] at a
  rw [List.getElem?_append_right (by rw [h.1]; exact hj), h.1] at b
  exact k.2 _ y d a b
theorem rawOf {N : Nat → Prop} {w : World} {A : Option Addr} {n : Nat} {L : List S35} (h : Kd.F k35 w N A n L) : ∃ rows : List (List Value), rows.length = L.length ∧ Kd.C (Kd.raw 3) w A n rows ∧ Lead N w rows L := by
 obtain ⟨news, h1, h2, h3⟩ := Kd.reads_raw (Kd.F_rows h) (fun x c hk => ⟨k35.K_len (Kd.FK_now hk), k35.K_one (Kd.FK_now hk)⟩)
 exact ⟨news, h1, h2, h1, h3⟩
theorem flatRaw : Flat (Kd.raw 3) := fun h => h
theorem lead_C {N N2 : Nat → Prop} {w : World} {l : List HP} {i n c : Nat} {A : Option Addr} {rows : List (List Value)} {X : List S35} (h : Own N w l) (hi : l[i]? = some (nrow (Kd.raw 3) 35 (.slice A n c) rows)) (hl : Lead N2 w rows X) : n = X.length ∧ n ≤ c ∧ Kd.C k35 w A X.length X := by
 obtain ⟨h1, h2, h3⟩ := h.nreads hi
 refine ⟨h1.trans hl.1, h2, rfl, (by have := h3.2.1; rw [h1, hl.1] at this; exact this), fun hp => ?_⟩
 obtain ⟨ad, he, hc⟩ := h3.2.2 (by rw [h1, hl.1]; exact hp)
 refine ⟨ad, he, fun j x hx => ?_⟩
 have hj : j < rows.length := by rw [hl.1]; exact (List.getElem?_eq_some_iff.1 hx).1
 obtain ⟨c', hcl, hK, hcc⟩ := hc j _ (List.getElem?_eq_getElem hj)
 have hk := Kd.FK_now (hl.2 j x _ hx (List.getElem?_eq_getElem hj))
 refine ⟨c', hcl, ?_, hcc⟩
 rw [show c' = rows[j] from hK.1]
 exact hk
theorem slice_len17 {A : Option Addr} {n m c : Nat} (h : n = m) : Value.slice A n c = .slice A m c := by rw [h]
def upR (L : List S35) (x : Int) : List S35 := L.take x.toNat
theorem upR_step (L : List S35) (x : Int) (h0 : 0 ≤ x) (h1 : x < L.length) : upR L (x + 1) = upR L x ++ [rd_T35 L x] := take_snoc17 L z35 x h0 h1
theorem upR_all (L : List S35) : upR L L.length = L := by unfold upR; rw [Int.toNat_natCast, List.take_length]
theorem upR_len (L : List S35) (x : Int) : (upR L x).length ≤ L.length := by unfold upR; rw [List.length_take]; exact Nat.min_le_right _ _
abbrev cliC (jp : Value) (o mtu push : Int) (vk vp vo : Value) : Array Value := #[jp, .int .i64 o, .int .i64 mtu, .int .i64 push, vk, vp, vo]
set_option maxHeartbeats 16000000
set_option maxRecDepth 100000
theorem infoU7 : (Tryd.prog.info? 32).map (fun i => (i.zero, i.size, i.bytes)) = some (some (.agg #[.string ⟨#[]⟩, .int .i64 0, .int .i64 0, .string ⟨#[]⟩]), 4, 48) := by kernel_rfl
def CpI (N : Nat → Prop) (w : World) (L : List S35) (v i : Value) (wr : World) : Prop := ∃ (x : Int) (A2 : Option Addr) (c2 : Nat), 0 ≤ x ∧ x ≤ (L.length : Int) ∧ i = .int .i64 x ∧ v = .slice A2 (upR L x).length c2 ∧ Aside0 (Own N wr [row k35 35 (.slice A2 (upR L x).length c2) (upR L x)]) ∧ Aside0 (KeepS N w wr)
theorem Copies {N : Nat → Prop} {w : World} (A0 : Option Addr) (c0 : Nat) (L : List S35) (h : Own N w []) (hF : Kd.F k35 w N A0 L.length L) (hL : L.length ≤ 1000000) (HU : Aside0 (∀ x : Int, 0 ≤ x → x < L.length → (rd_T35 L x).f2.length ≤ 1000000)) :
  Calls Tryd.prog 62 #[.slice A0 L.length c0] w fun e_ w' => ∃ A1 c1, e_ = .returned (.slice A1 L.length c1) ∧ Own N w' [row k35 35 (.slice A1 L.length c1) L] ∧ KeepS N w w' := by
 have HRL0 := Aside0.mk hF
 have HL := Aside0.mk hL
 have O0 : Aside0 (Own N w [row k35 35 (.slice none 0 0) []]) := ⟨h.push_emp (row k35 35 (.slice none 0 0) []) (fun w => Kd.R_nil _ _ _ _ _)⟩
 have K0 : Aside0 (KeepS N w w) := ⟨KeepS.refl _ _⟩
 clear h hF hL
 go_enter Tryd.func62, Tryd.ntmps62
 go_wp2
 go_loopw [3, 8] (fun v i wr => CpI N w L v i wr) (fun _ i _ => L.length - (intOf i).toNat)
 case atStart => exact ⟨0, none, 0, by omega, by omega, rfl, rfl, O0, K0⟩
 case round =>
  obtain ⟨x, A2, c2, hx0, hx1, rfl, rfl, OA, KA⟩ := hrel
  have hF2 := keepF HRL0.out KA.out
  have hl := HL.out
  by_cases hlt : x < (L.length : Int)
  ·obtain ⟨ad, A3, c3, e3, x0, x1, x2, hl3, hF3⟩ := at_F hF2 x hx0 hlt
   cases e3
   have HC3 := Aside0.mk hl3
   have HF3 := Aside0.mk hF3
   have hs2 : wrap64 (x + 1) = x + 1 := by unfold wrap64; omega
   have hp := eq_true hx0
   have hq := eq_true hlt
   have hd : decide (x < (L.length : Int)) = true := decide_eq_true hlt
   have HX := Aside0.mk (And.intro hx0 hlt)
   have HS : Aside0 (upR L (x + 1) = (upR L x) ++ [(rd_T35 L x)]) := ⟨upR_step L x hx0 hlt⟩
   have HFL : Aside0 ((upR L x).length ≤ 1000000) := ⟨Nat.le_trans (upR_len L x) hl⟩
   have HCP : Aside0 ((rd_T35 L x).f2.length ≤ 1000000) := ⟨HU.out x hx0 hlt⟩
   clear hF3 hF2 hl3 hl hx0 hx1 hlt
   have O1 : Aside0 (Own N wr [row k35 35 (.slice A2 (upR L x).length c2) (upR L x)]) := ⟨OA.out⟩
   have K1 : Aside0 (KeepS N w wr) := ⟨KA.out⟩
   have HRI_1 : Aside0 (Kd.F k32 wr N A3 (rd_T35 L x).f2.length (rd_T35 L x).f2) := ⟨HF3.out⟩
   clear OA KA HF3
   go_wp2_with (first | ((with_reducible refine gD 5 rfl ?_); refine bP 5 #[.int .i64 0, .int .i64 0, .slice none 0 0] 35 O1.out ?_; intro gr w2 o_ k_; obtain ⟨O2, K2⟩ := ok_ K1 o_ k_; have HRI_2 := Aside0.mk (keepF HRI_1.out k_); clear O1 K1 HRI_1 o_ k_; have a1 := k3_ O2 1) | ((with_reducible refine gT 35 5 rfl ?_); refine wS 1 0 [.int .i64 (rd_T35 L x).f0, .int .i64 (rd_T35 L x).f1, .slice A3 (rd_T35 L x).f2.length c3] O2 ?_; intro w3 o_ k_; obtain ⟨O3, K3⟩ := ok_ K2 o_ k_; have HRI_3 := Aside0.mk (keepF HRI_2.out k_); clear a1 O2 K2 HRI_2 o_ k_; have a1 := k3_ O3 1) | ((with_reducible refine gC 72 rfl ?_); refine gP (some 14) Tryd.func72 #[.agg #[.int .i64 (rd_T35 L x).f0, .int .i64 (rd_T35 L x).f1, .slice A3 (rd_T35 L x).f2.length c3]] ?_; refine (round_Copy.calls (rd_T35 L x).f0 (rd_T35 L x).f1 _ _ (rd_T35 L x).f2 (rd_T35 L x).f0 (rd_T35 L x).f1 (rd_T35 L x).f2 _ (Kd.F_now HRI_3.out) HC3.out (copyC _ _ _ HCP.out)).mono ?_; rintro e_ w4 ⟨v_, rfl, hR_, hb_⟩; obtain ⟨A4, c4, e__⟩ := Kd.R_slice hR_; subst e__; refine ⟨_, rfl, ?_⟩; have o_ := O3.out.pushW hb_ (Nat.le_refl _) hR_; have k_ := KeepS.of_below (N := N) hb_; obtain ⟨O4, K4⟩ := ok_ K3 o_ k_; have HRI_4 := Aside0.mk (keepF HRI_3.out k_); clear a1 O3 K3 HRI_3 o_ k_ hb_ hR_; have a1 := k3_ O4 1; have O5 : Aside0 (Own N w4 [row k35 35 (.slice A2 (upR L x).length c2) (upR L x), cells gr #[.int .i64 (rd_T35 L x).f0, .int .i64 (rd_T35 L x).f1, .slice A3 (rd_T35 L x).f2.length c3] 35, elem k35 (rd_T35 L x) [.int .i64 (rd_T35 L x).f0, .int .i64 (rd_T35 L x).f1, .slice A4 (rd_T35 L x).f2.length c4]]) := ⟨rowElem (rd_T35 L x) (i := 2) O4.out rfl⟩; clear O4) | ((with_reducible refine gate_builtin (b := .append) (xs := #[.tmp 12, .tmp 15]) rfl ?_); at_builtin; refine Own.appendR k35 O5.out (i := 0) (j := 2) rfl rfl (by decide) rfl (.tmp 12) (.tmp 15) 40 ((.agg #[.int .i64 0, .int .i64 0, .slice none 0 0])) 40 rfl Tryd.underlying40 infoR rfl (by decide) (by decide) rfl rfl (by have := HFL.out; omega) ?_; intro A5 c5 w6 o_ k_; obtain ⟨O6, K6⟩ := ok_ K4 o_ k_; have HRI_6 := Aside0.mk (keepF HRI_4.out k_); clear a1 O5 K4 HRI_4 o_ k_; have a1 := k3_ O6 1))
   go_roundw
   case rel => exact ⟨x + 1, A5, c5, by have := HX.out; omega, by have := HX.out; omega, int_eq17 (by unfold wrap64; have := HX.out; have := HL.out; omega), slice_len17 (by rw [HS.out, List.length_append]; rfl), ⟨by rw [HS.out]; simp only [List.length_append, List.length_singleton]; exact O6.out.take 1⟩, K6⟩
   case measure => have := HX.out; simp [intOf]; omega
  ·have hxe : x = (L.length : Int) := by omega
   subst hxe
   have hd : decide ((L.length : Int) < (L.length : Int)) = false := decide_eq_false (Int.lt_irrefl _)
   rw [upR_all] at OA
   clear hlt hx0 hx1 hF2 hl
   go_wp2
   go_ret
   exact ⟨A2, c2, by first | rfl | (rw [upR_all]; done) | simp [upR_all], OA.out, KA.out⟩
theorem CKnown {N : Nat → Prop} {w : World} {g : Nat} {jp : Value} {o mtu push : Int} {A4 A5 A6 : Option Addr} {c4 c5 c6 : Nat} {K P : List S35} {U : List S32} (h : Own N w []) (hg : CellN N w g #[jp, .int .i64 o, .int .i64 mtu, .int .i64 push, .slice A4 K.length c4, .slice A5 P.length c5, .slice A6 U.length c6] 111) (hF : Kd.F k35 w N A4 K.length K) (hL : K.length ≤ 1000000) (HUB : Aside0 (∀ x : Int, 0 ≤ x → x < K.length → (rd_T35 K x).f2.length ≤ 1000000)) :
  Calls Tryd.prog 20 #[.pointer (some ⟨g, 0, none⟩)] w fun e_ w' => ∃ A1 c1, e_ = .returned (.slice A1 K.length c1) ∧ Own N w' [row k35 35 (.slice A1 K.length c1) K] ∧ KeepS N w w' := by
 have HCG_0 := Aside0.mk hg
 have HX_0 : Aside0 (Kd.F k35 w N A4 K.length K) := ⟨hF⟩
 have O0 : Aside0 (Own N w []) := ⟨h⟩
 have K0 : Aside0 (KeepS N w w) := ⟨KeepS.refl _ _⟩
 obtain ⟨pa, pb, pc, pd, pe, pf, pg, pz⟩ := blk7_ (HCG_0.out.2)
 clear h hg hF
 go_enter Tryd.func20, Tryd.ntmps20
 have HL := Aside0.mk hL
 clear hL
 go_wp2_with (first | ((with_reducible refine gC 62 rfl ?_); refine gP (some 7) Tryd.func62 #[.slice A4 K.length c4] ?_; obtain ⟨N_, on_, nn_, rr_, bb_⟩ := O0.out.frame0; refine (Copies A4 c4 K on_ (Kd.F_mono HX_0.out nn_) HL.out HUB).mono ?_; rintro e_ w1 ⟨A1, c1, rfl, oo_, kk_⟩; obtain ⟨o_, k_⟩ := bb_ _ _ kk_ oo_; refine ⟨_, rfl, ?_⟩; obtain ⟨O1, K1⟩ := ok_ K0 o_ k_; have HCG_1 := Aside0.mk (CellN.keep HCG_0.out k_); have HX_1 := Aside0.mk (keepF HX_0.out k_); clear pa pb pc pd pe pf pg pz O0 K0 HCG_0 HX_0; obtain ⟨pa, pb, pc, pd, pe, pf, pg, pz⟩ := blk7_ (HCG_1.out.2); clear o_ k_ oo_ kk_ on_ nn_ rr_ bb_))
 go_ret
 exact ⟨A1, c1, rfl, O1.out, K1.out⟩
theorem CPending {N : Nat → Prop} {w : World} {g : Nat} {jp : Value} {o mtu push : Int} {A4 A5 A6 : Option Addr} {c4 c5 c6 : Nat} {K P : List S35} {U : List S32} (h : Own N w []) (hg : CellN N w g #[jp, .int .i64 o, .int .i64 mtu, .int .i64 push, .slice A4 K.length c4, .slice A5 P.length c5, .slice A6 U.length c6] 111) (hF : Kd.F k35 w N A5 P.length P) (hL : P.length ≤ 1000000) (HUB : Aside0 (∀ x : Int, 0 ≤ x → x < P.length → (rd_T35 P x).f2.length ≤ 1000000)) :
  Calls Tryd.prog 21 #[.pointer (some ⟨g, 0, none⟩)] w fun e_ w' => ∃ A1 c1, e_ = .returned (.slice A1 P.length c1) ∧ Own N w' [row k35 35 (.slice A1 P.length c1) P] ∧ KeepS N w w' := by
 have HCG_0 := Aside0.mk hg
 have HX_0 : Aside0 (Kd.F k35 w N A5 P.length P) := ⟨hF⟩
 have O0 : Aside0 (Own N w []) := ⟨h⟩
 have K0 : Aside0 (KeepS N w w) := ⟨KeepS.refl _ _⟩
 obtain ⟨pa, pb, pc, pd, pe, pf, pg, pz⟩ := blk7_ (HCG_0.out.2)
 clear h hg hF
 go_enter Tryd.func21, Tryd.ntmps21
 have HL := Aside0.mk hL
 clear hL
 go_wp2_with (first | ((with_reducible refine gC 62 rfl ?_); refine gP (some 7) Tryd.func62 #[.slice A5 P.length c5] ?_; obtain ⟨N_, on_, nn_, rr_, bb_⟩ := O0.out.frame0; refine (Copies A5 c5 P on_ (Kd.F_mono HX_0.out nn_) HL.out HUB).mono ?_; rintro e_ w1 ⟨A1, c1, rfl, oo_, kk_⟩; obtain ⟨o_, k_⟩ := bb_ _ _ kk_ oo_; refine ⟨_, rfl, ?_⟩; obtain ⟨O1, K1⟩ := ok_ K0 o_ k_; have HCG_1 := Aside0.mk (CellN.keep HCG_0.out k_); have HX_1 := Aside0.mk (keepF HX_0.out k_); clear pa pb pc pd pe pf pg pz O0 K0 HCG_0 HX_0; obtain ⟨pa, pb, pc, pd, pe, pf, pg, pz⟩ := blk7_ (HCG_1.out.2); clear o_ k_ oo_ kk_ on_ nn_ rr_ bb_))
 go_ret
 exact ⟨A1, c1, rfl, O1.out, K1.out⟩
theorem COpen {N : Nat → Prop} {w : World} {g : Nat} {jp : Value} {o mtu push : Int} {A4 A5 A6 : Option Addr} {c4 c5 c6 : Nat} {K P : List S35} {U : List S32} (h : Own N w []) (hg : CellN N w g #[jp, .int .i64 o, .int .i64 mtu, .int .i64 push, .slice A4 K.length c4, .slice A5 P.length c5, .slice A6 U.length c6] 111) (hF : Kd.F k32 w N A6 U.length U) (hL : U.length ≤ 1000000) :
  Calls Tryd.prog 23 #[.pointer (some ⟨g, 0, none⟩)] w fun e_ w' => ∃ A1 c1, e_ = .returned (.slice A1 U.length c1) ∧ Own N w' [nrow k32 32 (.slice A1 U.length c1) U] ∧ KeepS N w w' := by
 have HCG_0 := Aside0.mk hg
 have HX_0 : Aside0 (Kd.F k32 w N A6 U.length U) := ⟨hF⟩
 have O0 : Aside0 (Own N w []) := ⟨h⟩
 have K0 : Aside0 (KeepS N w w) := ⟨KeepS.refl _ _⟩
 obtain ⟨pa, pb, pc, pd, pe, pf, pg, pz⟩ := blk7_ (HCG_0.out.2)
 clear h hg hF
 go_enter Tryd.func23, Tryd.ntmps23
 have HL := Aside0.mk hL
 clear hL
 go_wp2_with (first | ((with_reducible refine gD 3 rfl ?_); refine own_lit k32 (N := N) (e := 32) (xs := []) (inner := []) rfl (D := 3) rfl gs_ (Reps.none _ _) (by simp) O0.out ?_; intro A0 c0 w1 o_ k_; obtain ⟨O1, K1⟩ := ok_ K0 o_ k_; have HCG_1 := Aside0.mk (CellN.keep HCG_0.out k_); have HX_1 := Aside0.mk (keepF HX_0.out k_); clear pa pb pc pd pe pf pg pz O0 K0 HCG_0 HX_0; obtain ⟨pa, pb, pc, pd, pe, pf, pg, pz⟩ := blk7_ (HCG_1.out.2); clear o_ k_) | ((with_reducible refine gate_builtin (b := .append) (xs := #[.tmp 3, .tmp 7]) rfl ?_); at_builtin; refine Own.append_flat k32 flatU O1.out (i := 0) (ys := U) rfl (Kd.F_now HX_1.out) rfl (.tmp 3) (.tmp 7) 33 ((.agg #[.string ⟨#[]⟩, .int .i64 0, .int .i64 0, .string ⟨#[]⟩])) 48 rfl Tryd.underlying33 infoU7 rfl (by decide) (by decide) rfl rfl (by have := HL.out; simp only [List.length_nil]; omega) ?_; intro A1 c1 w2 o_ k_; obtain ⟨O2, K2⟩ := ok_ K1 o_ k_; have HCG_2 := Aside0.mk (CellN.keep HCG_1.out k_); have HX_2 := Aside0.mk (keepF HX_1.out k_); clear pa pb pc pd pe pf pg pz O1 K1 HCG_1 HX_1; obtain ⟨pa, pb, pc, pd, pe, pf, pg, pz⟩ := blk7_ (HCG_2.out.2); clear o_ k_))
 go_ret
 exact ⟨A1, c1, rfl, O2.out, K2.out⟩
theorem CConf {N : Nat → Prop} {w : World} {g : Nat} {jp : Value} {o mtu push : Int} {A4 A5 A6 : Option Addr} {c4 c5 c6 : Nat} {K P : List S35} {U : List S32} (h : Own N w []) (hg : CellN N w g #[jp, .int .i64 o, .int .i64 mtu, .int .i64 push, .slice A4 K.length c4, .slice A5 P.length c5, .slice A6 U.length c6] 111) :
  Calls Tryd.prog 24 #[.pointer (some ⟨g, 0, none⟩)] w fun e_ w' => e_ = .returned (.bool (decide (P.length = 0) && decide (U.length = 0))) ∧ Own N w' [] ∧ KeepS N w w' := by
 have HCG_0 := Aside0.mk hg
 have O0 : Aside0 (Own N w []) := ⟨h⟩
 have K0 : Aside0 (KeepS N w w) := ⟨KeepS.refl _ _⟩
 obtain ⟨pa, pb, pc, pd, pe, pf, pg, pz⟩ := blk7_ (HCG_0.out.2)
 clear h hg 
 go_enter Tryd.func24, Tryd.ntmps24
 by_cases hp : P.length = 0
 ·have d1 : ((P.length : Int) == 0) = true := by simp [hp]
  by_cases hu : U.length = 0
  ·have d2 : ((U.length : Int) == 0) = true := by simp [hu]
   go_wp2
   go_ret
   exact ⟨by rw [decide_eq_true hp, decide_eq_true hu]; rfl, O0.out, K0.out⟩
  ·have d2 : ((U.length : Int) == 0) = false := beq_eq_false_iff_ne.mpr (by omega)
   go_wp2
   go_ret
   exact ⟨by rw [decide_eq_true hp, decide_eq_false hu]; rfl, O0.out, K0.out⟩
 ·have d1 : ((P.length : Int) == 0) = false := beq_eq_false_iff_ne.mpr (by omega)
  go_wp2
  go_ret
  exact ⟨by rw [decide_eq_false hp]; rfl, O0.out, K0.out⟩
theorem CSeen {N : Nat → Prop} {w : World} {g : Nat} {jp : Value} {o mtu push : Int} {A4 A5 A6 : Option Addr} {c4 c5 c6 : Nat} {K P : List S35} {U : List S32} (h : Own N w []) (hg : CellN N w g #[jp, .int .i64 o, .int .i64 mtu, .int .i64 push, .slice A4 K.length c4, .slice A5 P.length c5, .slice A6 U.length c6] 111) (hK : Kd.F k35 w N A4 K.length K) (hP : Kd.F k35 w N A5 P.length P) (hL : K.length + P.length ≤ 1000000) :
  Calls Tryd.prog 64 #[.pointer (some ⟨g, 0, none⟩)] w fun e_ w' => ∃ A1 c1 rows, e_ = .returned (.slice A1 (K ++ P).length c1) ∧ Own N w' [nrow (Kd.raw 3) 35 (.slice A1 (K ++ P).length c1) rows] ∧ Lead N w' rows (K ++ P) ∧ KeepS N w w' := by
 have HCG_0 := Aside0.mk hg
 have HK_0 : Aside0 (Kd.F k35 w N A4 K.length K) := ⟨hK⟩
 have HP_0 : Aside0 (Kd.F k35 w N A5 P.length P) := ⟨hP⟩
 have O0 : Aside0 (Own N w []) := ⟨h⟩
 have K0 : Aside0 (KeepS N w w) := ⟨KeepS.refl _ _⟩
 obtain ⟨pa, pb, pc, pd, pe, pf, pg, pz⟩ := blk7_ (HCG_0.out.2)
 clear h hg hK hP
 go_enter Tryd.func64, Tryd.ntmps64
 have HL := Aside0.mk hL
 clear hL
 go_wp2
 refine sP (n := 12) (S := c7_ g (jp) (.int .i64 o) (.int .i64 mtu) (.int .i64 push) (.slice A4 K.length c4) (.slice A5 P.length c5) (.slice A6 U.length c6)) (ds := [10]) ⟨pa, pb, pc, pd, pe, pf, pg⟩ (fun hHeld => ?_)
 obtain ⟨w1, hw_⟩ : ∃ W, W = w.drew := ⟨_, rfl⟩
 have o_ := O0.out.drew
 have k_ : KeepS N w w.drew := KeepS.drew
 rw [← hw_] at o_ k_ hHeld ⊢
 clear hw_
 obtain ⟨O1, K1⟩ := ok_ K0 o_ k_
 have HCG_1 := Aside0.mk (CellN.keep HCG_0.out k_)
 have HK_1 := Aside0.mk (keepF HK_0.out k_)
 have HP_1 := Aside0.mk (keepF HP_0.out k_)
 clear pa pb pc pd pe pf pg pz O0 K0 HCG_0 HK_0 HP_0
 obtain ⟨pa, pb, pc, pd, pe, pf, pg, pz⟩ := blk7_ (HCG_1.out.2)
 clear o_ k_
 refine pP 1 (some 4) ?_
 refine pP 2 (some 5) ?_
 refine pP 3 (some 6) ?_
 refine pP 6 (some 9) ?_
 refine pP 7 (some 10) ?_
 refine pP 8 (some 11) ?_
 refine tP 4 (some 7) hHeld ?_
 refine tP 9 (some 12) hHeld ?_
 refine oP 0 (some 3) (fun K_ hK_ => ?_)
 refine own_lit_step (Kd.raw 3) (N := N) (e := 35) (xs := []) (inner := []) rfl rfl gs_ (Reps.none _ _) (by decide) O1.out ?_
 intro A7 c7 w2 o_ k_
 obtain ⟨O2, K2⟩ := ok_ K1 o_ k_
 have HCG_2 := Aside0.mk (CellN.keep HCG_1.out k_)
 have HK_2 := Aside0.mk (keepF HK_1.out k_)
 have HP_2 := Aside0.mk (keepF HP_1.out k_)
 clear pa pb pc pd pe pf pg pz O1 K1 HCG_1 HK_1 HP_1
 obtain ⟨pa, pb, pc, pd, pe, pf, pg, pz⟩ := blk7_ (HCG_2.out.2)
 clear o_ k_
 clear hHeld
 refine hK_.out _ _ ⟨pa, pb, pc, pd, pe, pf, pg⟩ (fun hHeld => ?_)
 clear hK_ K_
 refine nP ?_
 refine oP 5 (some 8) (fun K_ hK_ => ?_)
 obtain ⟨rK, lrK, qrK, LrK⟩ := rawOf HK_2.out
 have HLDrK_2 : Aside0 (Lead N w2 rK K) := ⟨LrK⟩
 have HNrK := Aside0.mk lrK
 clear lrK LrK
 refine Own.append_flat_step (Kd.raw 3) flatRaw O2.out (i := 0) rfl qrK rfl (by rfl) (.tmp 3) (.tmp 7) 40 (.agg #[.int .i64 0, .int .i64 0, .slice none 0 0]) 40 rfl Tryd.underlying40 infoR rfl (by decide) (by decide) rfl rfl (by have := HL.out; (try simp only [List.length_nil, List.length_append]); omega) ?_
 intro A8 c8 w3 o_ k_
 obtain ⟨O3, K3⟩ := ok_ K2 o_ k_
 have HCG_3 := Aside0.mk (CellN.keep HCG_2.out k_)
 have HK_3 := Aside0.mk (keepF HK_2.out k_)
 have HP_3 := Aside0.mk (keepF HP_2.out k_)
 have HLDrK_3 := Aside0.mk (Lead.keep HLDrK_2.out k_)
 clear pa pb pc pd pe pf pg pz O2 K2 HCG_2 HK_2 HP_2 HLDrK_2
 obtain ⟨pa, pb, pc, pd, pe, pf, pg, pz⟩ := blk7_ (HCG_3.out.2)
 clear o_ k_ qrK
 clear hHeld
 refine hK_.out _ _ ⟨pa, pb, pc, pd, pe, pf, pg⟩ (fun hHeld => ?_)
 clear hK_ K_
 refine nP ?_
 refine lP 10 (some 13) (fun K_ hK_ => ?_)
 obtain ⟨rP, lrP, qrP, LrP⟩ := rawOf HP_3.out
 have HLDrP_3 : Aside0 (Lead N w3 rP P) := ⟨LrP⟩
 have HNrP := Aside0.mk lrP
 clear lrP LrP
 refine Own.append_flat_step (Kd.raw 3) flatRaw O3.out (i := 0) rfl qrP rfl (by rfl) (.tmp 8) (.tmp 12) 40 (.agg #[.int .i64 0, .int .i64 0, .slice none 0 0]) 40 rfl Tryd.underlying40 infoR rfl (by decide) (by decide) rfl rfl (by have := HL.out; have := HNrK.out; (try simp only [List.length_nil, List.length_append]); omega) ?_
 intro A9 c9 w4 o_ k_
 obtain ⟨O4, K4⟩ := ok_ K3 o_ k_
 have HCG_4 := Aside0.mk (CellN.keep HCG_3.out k_)
 have HK_4 := Aside0.mk (keepF HK_3.out k_)
 have HP_4 := Aside0.mk (keepF HP_3.out k_)
 have HLDrK_4 := Aside0.mk (Lead.keep HLDrK_3.out k_)
 have HLDrP_4 := Aside0.mk (Lead.keep HLDrP_3.out k_)
 clear pa pb pc pd pe pf pg pz O3 K3 HCG_3 HK_3 HP_3 HLDrK_3 HLDrP_3
 obtain ⟨pa, pb, pc, pd, pe, pf, pg, pz⟩ := blk7_ (HCG_4.out.2)
 clear o_ k_ qrP
 refine hK_.out _ _ ?_
 clear hK_ K_
 refine nP ?_
 refine pP 11 (some 2) ?_
 refine done_ (by kernel_rfl) ?_
 clear hHeld
 go_wp2
 go_ret
 have hl_ : (([] ++ rK) ++ rP).length = (K ++ P).length := by rw [List.nil_append, List.length_append, List.length_append, HNrK.out, HNrP.out]
 exact ⟨A9, c9, ([] ++ rK) ++ rP, by first | (show Ending.returned (Value.slice A9 (([] ++ rK) ++ rP).length c9) = _; rw [hl_]) | (show Ending.returned (Value.slice A9 (rK.length + rP.length) c9) = _; rw [HNrK.out, HNrP.out, ← List.length_append]), by rw [← hl_]; exact O4.out, (by have h_ := HLDrK_4.out.append HLDrP_4.out; exact h_), K4.out⟩
theorem CRead (key : ByteArray) (hs : key.size ≤ maxLen) {N : Nat → Prop} {w : World} {g : Nat} {jp : Value} {o mtu push : Int} {A4 A5 A6 : Option Addr} {c4 c5 c6 : Nat} {K P : List S35} {U : List S32} (h : Own N w []) (hg : CellN N w g #[jp, .int .i64 o, .int .i64 mtu, .int .i64 push, .slice A4 K.length c4, .slice A5 P.length c5, .slice A6 U.length c6] 111) (hK : Kd.F k35 w N A4 K.length K) (hP : Kd.F k35 w N A5 P.length P) (hU : Kd.F k32 w N A6 U.length U) (hL : K.length + P.length ≤ 1000000) (hb : (flatR (K ++ P)).length + U.length < 1000000) :
  Calls Tryd.prog 25 #[.pointer (some ⟨g, 0, none⟩), .string key] w fun e_ w' => e_ = .returned (valV (stateOf U (K ++ P) key)) ∧ Own N w' [] ∧ KeepS N w w' := by
 have HCG_0 := Aside0.mk hg
 have HK_0 : Aside0 (Kd.F k35 w N A4 K.length K) := ⟨hK⟩
 have HP_0 : Aside0 (Kd.F k35 w N A5 P.length P) := ⟨hP⟩
 have HU_0 : Aside0 (Kd.F k32 w N A6 U.length U) := ⟨hU⟩
 have O0 : Aside0 (Own N w []) := ⟨h⟩
 have K0 : Aside0 (KeepS N w w) := ⟨KeepS.refl _ _⟩
 obtain ⟨pa, pb, pc, pd, pe, pf, pg, pz⟩ := blk7_ (HCG_0.out.2)
 clear h hg hK hP hU
 go_enter Tryd.func25, Tryd.ntmps25
 have HL := Aside0.mk hL
 have HB := Aside0.mk hb
 clear hL hb
 have HS := Aside0.mk hs
 clear hs
 go_wp2_with (first | ((with_reducible refine gD 4 rfl ?_); refine bP 4 #[.int .i64 0, .int .i64 0, .string ⟨#[]⟩] 49 O0.out ?_; intro gv w1 o_ k_; obtain ⟨O1, K1⟩ := ok_ K0 o_ k_; have HCG_1 := Aside0.mk (CellN.keep HCG_0.out k_); have HK_1 := Aside0.mk (keepF HK_0.out k_); have HP_1 := Aside0.mk (keepF HP_0.out k_); have HU_1 := Aside0.mk (keepF HU_0.out k_); clear pa pb pc pd pe pf pg pz O0 K0 HCG_0 HK_0 HP_0 HU_0; have a0 := k3_ O1 0; obtain ⟨pa, pb, pc, pd, pe, pf, pg, pz⟩ := blk7_ (HCG_1.out.2); clear o_ k_))
 refine sP (n := 9) (S := d7_ g (jp) (.int .i64 o) (.int .i64 mtu) (.int .i64 push) (.slice A4 K.length c4) (.slice A5 P.length c5) (.slice A6 U.length c6) (c3_ gv (.int .i64 0) (.int .i64 0) (.string ⟨#[]⟩))) (ds := [8]) ⟨pa, pb, pc, pd, pe, pf, pg, a0.1, a0.2.1, a0.2.2.1⟩ (fun hHeld => ?_)
 obtain ⟨w2, hw_⟩ : ∃ W, W = w1.drew := ⟨_, rfl⟩
 have o_ := O1.out.drew
 have k_ : KeepS N w1 w1.drew := KeepS.drew
 rw [← hw_] at o_ k_ hHeld ⊢
 clear hw_
 obtain ⟨O2, K2⟩ := ok_ K1 o_ k_
 have HCG_2 := Aside0.mk (CellN.keep HCG_1.out k_)
 have HK_2 := Aside0.mk (keepF HK_1.out k_)
 have HP_2 := Aside0.mk (keepF HP_1.out k_)
 have HU_2 := Aside0.mk (keepF HU_1.out k_)
 clear a0 pa pb pc pd pe pf pg pz O1 K1 HCG_1 HK_1 HP_1 HU_1
 have a0 := k3_ O2 0
 obtain ⟨pa, pb, pc, pd, pe, pf, pg, pz⟩ := blk7_ (HCG_2.out.2)
 clear o_ k_
 refine pP 0 (some 5) ?_
 refine pP 1 (some 6) ?_
 refine pP 2 (some 7) ?_
 refine pP 3 (some 8) ?_
 refine pP 5 (some 10) ?_
 refine tP 4 (some 9) hHeld ?_
 refine oP 6 (some 11) (fun K_ hK_ => ?_)
 refine hP Tryd.func64 #[.pointer (some ⟨g, 0, none⟩)] ?_
 obtain ⟨N_, on_, nn_, rr_, bb_⟩ := O2.out.frame0
 refine (CSeen (w := w2) on_ (HCG_2.out.mono nn_) (Kd.F_mono HK_2.out nn_) (Kd.F_mono HP_2.out nn_) HL.out).mono ?_
 rintro e_ w3 ⟨A1, c1, rows, rfl, oo_, ll_, kk_⟩
 obtain ⟨o_, k_⟩ := bb_ _ _ kk_ oo_
 refine ⟨_, rfl, ?_⟩
 obtain ⟨O3, K3⟩ := ok_ K2 o_ k_
 have HCG_3 := Aside0.mk (CellN.keep HCG_2.out k_)
 have HK_3 := Aside0.mk (keepF HK_2.out k_)
 have HP_3 := Aside0.mk (keepF HP_2.out k_)
 have HU_3 := Aside0.mk (keepF HU_2.out k_)
 clear a0 pa pb pc pd pe pf pg pz O2 K2 HCG_2 HK_2 HP_2 HU_2
 have a0 := k3_ O3 0
 obtain ⟨pa, pb, pc, pd, pe, pf, pg, pz⟩ := blk7_ (HCG_3.out.2)
 have HSC := Aside0.mk (lead_C (i := 1) o_ rfl ll_)
 clear o_ k_ oo_ kk_ on_ nn_ rr_ bb_ ll_
 clear hHeld
 refine hK_.out _ _ ⟨pa, pb, pc, pd, pe, pf, pg, a0.1, a0.2.1, a0.2.2.1⟩ (fun hHeld => ?_)
 clear hK_ K_
 refine nP ?_
 refine oP 7 (some 12) (fun K_ hK_ => ?_)
 refine hP Tryd.func63 #[.string key, .slice A6 U.length c6, .slice A1 (K ++ P).length c1] ?_
 refine (RpRead key HS.out A6 c6 U A1 c1 (K ++ P) (Kd.F_now HU_3.out) HSC.out.2.2 HB.out).mono ?_
 rintro e_ w4 ⟨rfl, hb_⟩
 refine ⟨_, rfl, ?_⟩
 have o_ := O3.out.below hb_
 have k_ := KeepS.of_below (N := N) hb_
 obtain ⟨O4, K4⟩ := ok_ K3 o_ k_
 have HCG_4 := Aside0.mk (CellN.keep HCG_3.out k_)
 have HK_4 := Aside0.mk (keepF HK_3.out k_)
 have HP_4 := Aside0.mk (keepF HP_3.out k_)
 have HU_4 := Aside0.mk (keepF HU_3.out k_)
 clear a0 pa pb pc pd pe pf pg pz O3 K3 HCG_3 HK_3 HP_3 HU_3
 have a0 := k3_ O4 0
 obtain ⟨pa, pb, pc, pd, pe, pf, pg, pz⟩ := blk7_ (HCG_4.out.2)
 clear o_ k_ hb_
 clear hHeld
 refine hK_.out _ _ ⟨pa, pb, pc, pd, pe, pf, pg, a0.1, a0.2.1, a0.2.2.1⟩ (fun hHeld => ?_)
 clear hK_ K_
 refine nP ?_
 refine lP 8 none (fun K_ hK_ => ?_)
 refine xS 0 0 [.int .i64 (stateOf U (K ++ P) key).1, .int .i64 (stateOf U (K ++ P) key).2.1, .string (stateOf U (K ++ P) key).2.2] O4 ?_
 intro w5 o_ k_
 obtain ⟨O5, K5⟩ := ok_ K4 o_ k_
 have HCG_5 := Aside0.mk (CellN.keep HCG_4.out k_)
 have HK_5 := Aside0.mk (keepF HK_4.out k_)
 have HP_5 := Aside0.mk (keepF HP_4.out k_)
 have HU_5 := Aside0.mk (keepF HU_4.out k_)
 clear a0 pa pb pc pd pe pf pg pz O4 K4 HCG_4 HK_4 HP_4 HU_4
 have a0 := k3_ O5 0
 obtain ⟨pa, pb, pc, pd, pe, pf, pg, pz⟩ := blk7_ (HCG_5.out.2)
 clear o_ k_
 refine hK_.out _ _ ?_
 clear hK_ K_
 refine done_ (by kernel_rfl) ?_
 clear hHeld
 go_wp2
 refine bodyPost_ret (results_cell_row rfl _ _ gv 49 #[.int .i64 (stateOf U (K ++ P) key).1, .int .i64 (stateOf U (K ++ P) key).2.1, .string (stateOf U (K ++ P) key).2.2] (0, 0) _ rfl (O5.out.blk (i := 0) rfl) Tryd.underlying49 rfl (by kernel_rfl)) rfl ?_
 exact ⟨rfl, O5.out.take 0, K5.out⟩
theorem CLen {N : Nat → Prop} {w : World} {g : Nat} {jp : Value} {o mtu push : Int} {A4 A5 A6 : Option Addr} {c4 c5 c6 : Nat} {K P : List S35} {U : List S32} (h : Own N w []) (hg : CellN N w g #[jp, .int .i64 o, .int .i64 mtu, .int .i64 push, .slice A4 K.length c4, .slice A5 P.length c5, .slice A6 U.length c6] 111) (hK : Kd.F k35 w N A4 K.length K) (hP : Kd.F k35 w N A5 P.length P) (hU : Kd.F k32 w N A6 U.length U) (hL : K.length + P.length ≤ 1000000) (hb : (flatR (K ++ P)).length + U.length < 1000000) :
  Calls Tryd.prog 27 #[.pointer (some ⟨g, 0, none⟩)] w fun e_ w' => ∃ ks : List ByteArray, ks.Nodup ∧ (∀ key, key ∈ ks ↔ (stateOf U (K ++ P) key).1 ≠ 0) ∧ e_ = .returned (.int .i64 ks.length) ∧ Own N w' [] ∧ KeepS N w w' := by
 have HCG_0 := Aside0.mk hg
 have HK_0 : Aside0 (Kd.F k35 w N A4 K.length K) := ⟨hK⟩
 have HP_0 : Aside0 (Kd.F k35 w N A5 P.length P) := ⟨hP⟩
 have HU_0 : Aside0 (Kd.F k32 w N A6 U.length U) := ⟨hU⟩
 have O0 : Aside0 (Own N w []) := ⟨h⟩
 have K0 : Aside0 (KeepS N w w) := ⟨KeepS.refl _ _⟩
 obtain ⟨pa, pb, pc, pd, pe, pf, pg, pz⟩ := blk7_ (HCG_0.out.2)
 clear h hg hK hP hU
 go_enter Tryd.func27, Tryd.ntmps27
 have HL := Aside0.mk hL
 have HB := Aside0.mk hb
 clear hL hb
 go_wp2
 refine sP (n := 8) (S := c7_ g (jp) (.int .i64 o) (.int .i64 mtu) (.int .i64 push) (.slice A4 K.length c4) (.slice A5 P.length c5) (.slice A6 U.length c6)) (ds := []) ⟨pa, pb, pc, pd, pe, pf, pg⟩ (fun hHeld => ?_)
 obtain ⟨w1, hw_⟩ : ∃ W, W = w.drew := ⟨_, rfl⟩
 have o_ := O0.out.drew
 have k_ : KeepS N w w.drew := KeepS.drew
 rw [← hw_] at o_ k_ hHeld ⊢
 clear hw_
 obtain ⟨O1, K1⟩ := ok_ K0 o_ k_
 have HCG_1 := Aside0.mk (CellN.keep HCG_0.out k_)
 have HK_1 := Aside0.mk (keepF HK_0.out k_)
 have HP_1 := Aside0.mk (keepF HP_0.out k_)
 have HU_1 := Aside0.mk (keepF HU_0.out k_)
 clear pa pb pc pd pe pf pg pz O0 K0 HCG_0 HK_0 HP_0 HU_0
 obtain ⟨pa, pb, pc, pd, pe, pf, pg, pz⟩ := blk7_ (HCG_1.out.2)
 clear o_ k_
 refine pP 0 (some 3) ?_
 refine pP 1 (some 4) ?_
 refine pP 2 (some 5) ?_
 refine pP 4 (some 7) ?_
 refine tP 3 (some 6) hHeld ?_
 refine oP 5 (some 8) (fun K_ hK_ => ?_)
 refine hP Tryd.func64 #[.pointer (some ⟨g, 0, none⟩)] ?_
 obtain ⟨N_, on_, nn_, rr_, bb_⟩ := O1.out.frame0
 refine (CSeen (w := w1) on_ (HCG_1.out.mono nn_) (Kd.F_mono HK_1.out nn_) (Kd.F_mono HP_1.out nn_) HL.out).mono ?_
 rintro e_ w2 ⟨A1, c1, rows, rfl, oo_, ll_, kk_⟩
 obtain ⟨o_, k_⟩ := bb_ _ _ kk_ oo_
 refine ⟨_, rfl, ?_⟩
 obtain ⟨O2, K2⟩ := ok_ K1 o_ k_
 have HCG_2 := Aside0.mk (CellN.keep HCG_1.out k_)
 have HK_2 := Aside0.mk (keepF HK_1.out k_)
 have HP_2 := Aside0.mk (keepF HP_1.out k_)
 have HU_2 := Aside0.mk (keepF HU_1.out k_)
 clear pa pb pc pd pe pf pg pz O1 K1 HCG_1 HK_1 HP_1 HU_1
 obtain ⟨pa, pb, pc, pd, pe, pf, pg, pz⟩ := blk7_ (HCG_2.out.2)
 have HSC := Aside0.mk (lead_C (i := 0) o_ rfl ll_)
 clear o_ k_ oo_ kk_ on_ nn_ rr_ bb_ ll_
 clear hHeld
 refine hK_.out _ _ ⟨pa, pb, pc, pd, pe, pf, pg⟩ (fun hHeld => ?_)
 clear hK_ K_
 refine nP ?_
 refine oP 6 (some 9) (fun K_ hK_ => ?_)
 refine hP Tryd.func66 #[.slice A6 U.length c6, .slice A1 (K ++ P).length c1] ?_
 refine (RpLen A6 c6 U A1 c1 (K ++ P) (Kd.F_now HU_2.out) HSC.out.2.2 HB.out).mono ?_
 rintro e_ w3 ⟨ks, k1, k2, rfl, hb_⟩
 refine ⟨_, rfl, ?_⟩
 have o_ := O2.out.below hb_
 have k_ := KeepS.of_below (N := N) hb_
 obtain ⟨O3, K3⟩ := ok_ K2 o_ k_
 have HCG_3 := Aside0.mk (CellN.keep HCG_2.out k_)
 have HK_3 := Aside0.mk (keepF HK_2.out k_)
 have HP_3 := Aside0.mk (keepF HP_2.out k_)
 have HU_3 := Aside0.mk (keepF HU_2.out k_)
 clear pa pb pc pd pe pf pg pz O2 K2 HCG_2 HK_2 HP_2 HU_2
 obtain ⟨pa, pb, pc, pd, pe, pf, pg, pz⟩ := blk7_ (HCG_3.out.2)
 clear o_ k_ hb_
 clear hHeld
 refine hK_.out _ _ ⟨pa, pb, pc, pd, pe, pf, pg⟩ (fun hHeld => ?_)
 clear hK_ K_
 refine nP ?_
 refine pP 7 (some 2) ?_
 refine done_ (by kernel_rfl) ?_
 clear hHeld
 go_wp2
 go_ret
 exact ⟨ks, k1, k2, rfl, O3.out.take 0, K3.out⟩
section
variable {α : Type} {e : Nat} {N : Nat → Prop} {W : World} {l : List HP} {i j : Nat} {v : Value} {xs : List α} {cs : List Value}
theorem appendQ_step (d : Kd α) {p : α} {P : Program} {ops : Array Oper} {o : Oper} {a : Act} {Q : Exit → Act → World → Prop} {Kc : Act → World → Prop} (h : Own N W l) (hi : l[i]? = some (qrow d e v xs)) (hj : l[j]? = some (elem d p cs)) (hij : i ≠ j) {N' : Option Tmp} (hN : o.dst = N') (hw : Region.wanted o (yielded ops a.tmps) = true) (s x : Operand) (t : TypeId) (z : Value) (bytes : Nat)
  (ho : o.op = .call { callee := .builtin .append, args := #[s, x], argTypes := #[t, t] })
  (ht : P.underlying t = some (.slice e)) (hinfo : (P.info? e).map (fun i => (i.zero, i.size, i.bytes)) = some (some z, d.sz, bytes)) (hz : z.cells.size = d.sz) (hs0 : 0 < d.sz) (hb0 : 0 < bytes)
  (hs : a.eval s = v) (hx : a.eval x = .slice (some ⟨W.heap.size, 0, none⟩) 1 1) (hl : (xs.length + 1) * bytes ≤ 140737488355328)
  (hc : ∀ A1 c1 w1, Own N w1 ((l.set i (qrow d e (.slice A1 (xs.length + 1) c1) (xs ++ [p]))).set j emp) → KeepS N W w1 → Kc (a.put N' (.slice A1 (xs.length + 1) c1)) w1) :
  if Region.wanted o (yielded ops a.tmps) = true then Oper.wp P o a (W.alloc (.cells cs.toArray e)) Kc Q else Kc (a.put N' undef) (W.alloc (.cells cs.toArray e)) := by
 subst hN
 obtain ⟨hN, Fs, h1, h2, h3⟩ := h
 have hi0 : d.Q e W 0 (Fs i) v xs := h1 i _ hi
 have hj0 : d.M W 0 (Fs j) p cs := h1 j _ hj
 refine Kd.Q_append_step d (w0 := W) 0 hw s x t e z bytes ho ht hinfo hz hs0 hb0 v xs p cs (fun k => Fs i k ∨ Fs j k ∨ W.heap.size ≤ k) (Fs j) hs hx hj0 ?_ (fun k hk => .inr (.inr hk)) (Kd.Q_mono hi0 (fun k hk => .inl hk)) (Below.refl _ _) (Nat.zero_le _) hl ?_
 ·exact fun k hk => ⟨.inr (.inl hk), fun he => hij (h3 _ _ k (hi0.1 k he.symm) hk)⟩
 ·intro v1 w1 hn _ hg hat
  obtain ⟨A1, c1, rfl, _⟩ := Kd.Q_slice hn
  rw [List.length_append, List.length_singleton] at hn ⊢
  refine hc A1 c1 w1 (merge hN h1 h2 h3 (List.getElem?_eq_some_iff.1 hi).1 (List.getElem?_eq_some_iff.1 hj).1 hij hg.size ?_ _ hn) (KeepS.grown hg (fun k hk hn => (h2 i k (hi0.1 k hk)).1 hn))
  exact fun k hk hno => hg.block k hk (fun he => hno (.inl (hi0.1 k he.symm)))
end
abbrev kR7 := k35
abbrev kU7 := k32
abbrev tR7 : TypeId := 35
abbrev tU7 : TypeId := 32
abbrev tC7 : TypeId := 111
abbrev Rnd7 := S35
abbrev Upd7 := S32
def CliO (g : Nat) (jp : Value) (o mtu push : Int) (K P : List Rnd7) (U : List Upd7) : HP :=
 ex fun vk : Value => ex fun vp : Value => ex fun vo : Value => star (star (star (cells g (cliC jp o mtu push vk vp vo) tC7) (qrow kR7 tR7 vk K)) (qrow kR7 tR7 vp P)) (nrow kU7 tU7 vo U)
section
variable {N : Nat → Prop} {w : World} {g : Nat} {jp : Value} {o mtu push : Int} {K P : List Rnd7} {U : List Upd7} {r : List HP}
theorem CliO.open_ (h : Own N w (CliO g jp o mtu push K P U :: r)) : ∃ A4 c4 A5 c5 A6 c6, (K.length ≤ c4 ∧ P.length ≤ c5 ∧ U.length ≤ c6) ∧
  Own N w (cells g (cliC jp o mtu push (.slice A4 K.length c4) (.slice A5 P.length c5) (.slice A6 U.length c6)) tC7 :: r ++ [nrow kU7 tU7 (.slice A6 U.length c6) U] ++ [qrow kR7 tR7 (.slice A5 P.length c5) P] ++ [qrow kR7 tR7 (.slice A4 K.length c4) K]) := by
 obtain ⟨vk, h1⟩ := h.of_ex (i := 0) rfl
 obtain ⟨vp, h2⟩ := h1.of_ex (i := 0) rfl
 obtain ⟨vo, h3⟩ := h2.of_ex (i := 0) rfl
 have h4 := h3.split (i := 0) rfl
 have h5 := h4.split (i := 0) rfl
 have h6 := h5.split (i := 0) rfl
 have h7 : Own N w (cells g (cliC jp o mtu push vk vp vo) tC7 :: r ++ [nrow kU7 tU7 vo U] ++ [qrow kR7 tR7 vp P] ++ [qrow kR7 tR7 vk K]) := h6
 have hn : (cells g (cliC jp o mtu push vk vp vo) tC7 :: r).length = r.length + 1 := rfl
 have i1 : (cells g (cliC jp o mtu push vk vp vo) tC7 :: r ++ [nrow kU7 tU7 vo U] ++ [qrow kR7 tR7 vp P] ++ [qrow kR7 tR7 vk K])[r.length + 1]? = some (nrow kU7 tU7 vo U) := by simp [List.getElem?_append]
 have i2 : (cells g (cliC jp o mtu push vk vp vo) tC7 :: r ++ [nrow kU7 tU7 vo U] ++ [qrow kR7 tR7 vp P] ++ [qrow kR7 tR7 vk K])[r.length + 2]? = some (qrow kR7 tR7 vp P) := by simp [List.getElem?_append]
 have i3 : (cells g (cliC jp o mtu push vk vp vo) tC7 :: r ++ [nrow kU7 tU7 vo U] ++ [qrow kR7 tR7 vp P] ++ [qrow kR7 tR7 vk K])[r.length + 3]? = some (qrow kR7 tR7 vk K) := by simp [List.getElem?_append]
 obtain ⟨A6, c6, rfl⟩ := h7.nslice i1
 obtain ⟨A5, c5, rfl, l5⟩ := h7.qslice i2
 obtain ⟨A4, c4, rfl, l4⟩ := h7.qslice i3
 exact ⟨A4, c4, A5, c5, A6, c6, ⟨l4, l5, (h7.nreads i1).2.1⟩, h7⟩
theorem CliO.shut {vk vp vo : Value} (h : Own N w (cells g (cliC jp o mtu push vk vp vo) tC7 :: qrow kR7 tR7 vk K :: qrow kR7 tR7 vp P :: nrow kU7 tU7 vo U :: r)) : Own N w (CliO g jp o mtu push K P U :: emp :: emp :: emp :: r) := by
 have h1 := h.join (i := 0) (j := 1) rfl rfl (by decide)
 have h2 := h1.join (i := 0) (j := 2) rfl rfl (by decide)
 have h3 := h2.join (i := 0) (j := 3) rfl rfl (by decide)
 exact h3.conv (i := 0) rfl (CliO g jp o mtu push K P U) (fun F hp _ => ⟨vk, vp, vo, hp⟩)
end
end Go.Proofs.YtjdenpmaianmfaaDoor.J
namespace Go.Proofs.YtjdenpmaianmfaaDoor.J
set_option maxHeartbeats 16000000
set_option maxRecDepth 100000
set_option linter.unusedSimpArgs false
set_option linter.unusedVariables false
open Go Go.RowKit Go.Proofs.YtjdenpmaianmfaaDoorW.PrintWords Go.Proofs.YtjdenpmaianmfaaDoorW.PrintLast Go.Proofs.YtjdenpmaianmfaaDoorW.PrintMore Go.Proofs.YtjdenpmaianmfaaDoor.Q Go.Proofs.YtjdenpmaianmfaaDoor.Sep
attribute [local go_sem] max2_int min2_int max_two min_two max_three min_three max_four min_four
theorem New {N : Nat → Prop} {w : World} (o m : Int) (h : Own N w []) :
  Calls Tryd.prog 52 #[.int .i64 o, .int .i64 m] w fun e w' => ∃ g, e = .returned (.pointer (some ⟨g, 0, none⟩)) ∧ Own N w' [Obj3 138 g o (mn (mx m 1) 1099511627776) []] ∧ KeepS N w w' := by
 have O0 : Aside0 (Own N w []) := ⟨h⟩
 have K0 : Aside0 (KeepS N w w) := ⟨KeepS.refl _ _⟩
 go_enter Tryd.func52, Tryd.ntmps52
 go_wp2_with (first | ((with_reducible refine gD 10 rfl ?_); refine bP 10 #[.int .i64 o, .int .i64 (mn (mx m 1) 1099511627776), .slice none 0 0] 138 O0.out ?_; intro g1 w1 o_ k_; obtain ⟨O1, K1⟩ := ok_ K0 o_ k_; clear O0 K0 o_ k_; have a0 := k3_ O1 0))
 all_goals go_ret
 all_goals refine ⟨_, rfl, ?_, K1.out⟩
 all_goals exact (Obj3.shut (i := 0) (j := 1) (L := []) (O1.out.push_emp (nrow k35 35 (.slice none 0 0) []) (fun w => Kd.N_nil _ _ _ _ _)) rfl rfl (by decide)).take 1
theorem Add_full {N : Nat → Prop} {w : World} {g : Nat} {o m : Int} {L : List S35} (B : Option Addr) (c : Nat) (ups : List S32) (h : Own N w [Obj3 138 g o m L]) (hr : Kd.F k32 w N B ups.length ups) (hc : ups.length ≤ c) (hL : L.length ≤ 1000000) (hu : ups.length ≤ 1000000) (hq : ((L.length : Int) == m) = true) :
  Calls Tryd.prog 71 #[.pointer (some ⟨g, 0, none⟩), .slice B ups.length c] w fun e_ w' => ∃ A1 c1, e_ = .returned (.tuple #[.agg #[.int .i64 0, .int .i64 0, .slice A1 (([] : List S32)).length c1], .int .i64 8]) ∧ Own N w' [Obj3 138 g o m (L), nrow k32 32 (.slice A1 (([] : List S32)).length c1) (([] : List S32))] ∧ KeepS N w w' := by
 obtain ⟨A0, c0, h2⟩ := Obj3.open_ h (i := 0) rfl
 have HR_0 : Aside0 (Kd.F k32 w N B ups.length ups) := ⟨hr⟩
 have HC := Aside0.mk hc
 have O0 : Aside0 (Own N w [cells g #[.int .i64 o, .int .i64 m, .slice A0 L.length c0] 138, nrow k35 35 (.slice A0 L.length c0) L]) := ⟨h2⟩
 have K0 : Aside0 (KeepS N w w) := ⟨KeepS.refl _ _⟩
 have a0 := k3_ O0 0
 have hs1 : IntKind.i64.wrap ((L.length : Int) + 1) = (L.length : Int) + 1 := by rw [IntKind.wrap_i64]; omega
 have hs2 : wrap64 ((L.length : Int) + 1) = (L.length : Int) + 1 := by unfold wrap64; omega
 clear h2 h hr hc hL hu
 go_enter Tryd.func71, Tryd.ntmps71
 go_wp2_with (first | ((with_reducible refine gD 4 rfl ?_); refine bP 4 #[.int .i64 0, .int .i64 0, .slice none 0 0] 35 O0.out ?_; intro g1 w1 o_ k_; obtain ⟨O1, K1⟩ := ok_ K0 o_ k_; have HR_1 := Aside0.mk (keepF HR_0.out k_); clear a0 O0 K0 HR_0 o_ k_; have a0 := k3_ O1 0; have a2 := k3_ O1 2))
 refine sP (n := 10) (S := c3_ g (.int .i64 o) (.int .i64 m) (.slice A0 L.length c0)) (ds := []) (p3_ a0) (fun hHeld => ?_)
 obtain ⟨w2, hw_⟩ : ∃ W, W = w1.drew := ⟨_, rfl⟩
 have o_ := O1.out.drew
 have k_ : KeepS N w1 w1.drew := KeepS.drew
 rw [← hw_] at o_ k_ hHeld ⊢
 clear hw_
 obtain ⟨O2, K2⟩ := ok_ K1 o_ k_
 have HR_2 := Aside0.mk (keepF HR_1.out k_)
 clear a0 a2 O1 K1 HR_1 o_ k_
 have a0 := k3_ O2 0
 have a2 := k3_ O2 2
 refine pP 0 (some 8) ?_
 refine pP 1 (some 9) ?_
 refine pP 2 (some 10) ?_
 refine pP 5 (some 13) ?_
 refine pP 6 (some 14) ?_
 refine pP 7 (some 15) ?_
 refine tP 3 (some 11) hHeld ?_
 refine pP 4 (some 12) ?_
 refine tP 8 (some 16) hHeld ?_
 refine pP 9 (some 17) ?_
 refine done_ (by kernel_rfl) ?_
 clear hHeld
 clear HR_2 HC hs1 hs2
 go_wp2_with (first | ((with_reducible refine gT 35 4 rfl ?_); refine wS 2 0 [.int .i64 0, .int .i64 0, .slice none 0 0] O2 ?_; intro w3 o_ k_; obtain ⟨O3, K3⟩ := ok_ K2 o_ k_; clear a0 a2 O2 K2 o_ k_; have a0 := k3_ O3 0; have a2 := k3_ O3 2))
 refine bodyPost_ret (results_ct rfl _ _ g1 35 #[.int .i64 0, .int .i64 0, .slice none 0 0] (0, 0) _ rfl (O3.out.blk (i := 2) rfl) Tryd.underlying35 rfl (by kernel_rfl)) rfl ?_
 exact ⟨none, 0, rfl, ((Obj3.shut (i := 0) (j := 1) O3.out rfl rfl (by decide)).take 1).push_emp _ (fun w => Kd.N_nil _ _ _ _ _), K3.out⟩
theorem Add_no {N : Nat → Prop} {w : World} {g : Nat} {o m : Int} {L : List S35} (B : Option Addr) (c : Nat) (ups : List S32) (h : Own N w [Obj3 138 g o m L]) (hr : Kd.F k32 w N B ups.length ups) (hc : ups.length ≤ c) (hL : L.length ≤ 1000000) (hu : ups.length ≤ 1000000) (hq : ((L.length : Int) == m) = false) (k : Nat) (e : Int) (he : round_May.f k o ((L.length : Int) + 1) ups = some e) (hz : (e != 0) = true) :
  Calls Tryd.prog 71 #[.pointer (some ⟨g, 0, none⟩), .slice B ups.length c] w fun e_ w' => ∃ A1 c1, e_ = .returned (.tuple #[.agg #[.int .i64 0, .int .i64 0, .slice A1 (([] : List S32)).length c1], .int .i64 e]) ∧ Own N w' [Obj3 138 g o m (L), nrow k32 32 (.slice A1 (([] : List S32)).length c1) (([] : List S32))] ∧ KeepS N w w' := by
 obtain ⟨A0, c0, h2⟩ := Obj3.open_ h (i := 0) rfl
 have HR_0 : Aside0 (Kd.F k32 w N B ups.length ups) := ⟨hr⟩
 have HC := Aside0.mk hc
 have O0 : Aside0 (Own N w [cells g #[.int .i64 o, .int .i64 m, .slice A0 L.length c0] 138, nrow k35 35 (.slice A0 L.length c0) L]) := ⟨h2⟩
 have K0 : Aside0 (KeepS N w w) := ⟨KeepS.refl _ _⟩
 have a0 := k3_ O0 0
 have HE := Aside0.mk he
 clear he
 have hs1 : IntKind.i64.wrap ((L.length : Int) + 1) = (L.length : Int) + 1 := by rw [IntKind.wrap_i64]; omega
 have hs2 : wrap64 ((L.length : Int) + 1) = (L.length : Int) + 1 := by unfold wrap64; omega
 clear h2 h hr hc hL hu
 go_enter Tryd.func71, Tryd.ntmps71
 go_wp2_with (first | ((with_reducible refine gD 4 rfl ?_); refine bP 4 #[.int .i64 0, .int .i64 0, .slice none 0 0] 35 O0.out ?_; intro g1 w1 o_ k_; obtain ⟨O1, K1⟩ := ok_ K0 o_ k_; have HR_1 := Aside0.mk (keepF HR_0.out k_); clear a0 O0 K0 HR_0 o_ k_; have a0 := k3_ O1 0; have a2 := k3_ O1 2))
 refine sP (n := 10) (S := c3_ g (.int .i64 o) (.int .i64 m) (.slice A0 L.length c0)) (ds := []) (p3_ a0) (fun hHeld => ?_)
 obtain ⟨w2, hw_⟩ : ∃ W, W = w1.drew := ⟨_, rfl⟩
 have o_ := O1.out.drew
 have k_ : KeepS N w1 w1.drew := KeepS.drew
 rw [← hw_] at o_ k_ hHeld ⊢
 clear hw_
 obtain ⟨O2, K2⟩ := ok_ K1 o_ k_
 have HR_2 := Aside0.mk (keepF HR_1.out k_)
 clear a0 a2 O1 K1 HR_1 o_ k_
 have a0 := k3_ O2 0
 have a2 := k3_ O2 2
 refine pP 0 (some 8) ?_
 refine pP 1 (some 9) ?_
 refine pP 2 (some 10) ?_
 refine pP 5 (some 13) ?_
 refine pP 6 (some 14) ?_
 refine pP 7 (some 15) ?_
 refine tP 3 (some 11) hHeld ?_
 refine pP 4 (some 12) ?_
 refine tP 8 (some 16) hHeld ?_
 refine pP 9 (some 17) ?_
 refine done_ (by kernel_rfl) ?_
 clear hHeld
 go_wp2
 refine sP (n := 14) (S := c3_ g (.int .i64 o) (.int .i64 m) (.slice A0 L.length c0)) (ds := []) (p3_ a0) (fun hHeld => ?_)
 obtain ⟨w3, hw_⟩ : ∃ W, W = w2.drew := ⟨_, rfl⟩
 have o_ := O2.out.drew
 have k_ : KeepS N w2 w2.drew := KeepS.drew
 rw [← hw_] at o_ k_ hHeld ⊢
 clear hw_
 obtain ⟨O3, K3⟩ := ok_ K2 o_ k_
 have HR_3 := Aside0.mk (keepF HR_2.out k_)
 clear a0 a2 O2 K2 HR_2 o_ k_
 have a0 := k3_ O3 0
 have a2 := k3_ O3 2
 refine pP 0 (some 19) ?_
 refine pP 1 (some 20) ?_
 refine pP 2 (some 21) ?_
 refine pP 4 (some 23) ?_
 refine pP 5 (some 24) ?_
 refine pP 6 (some 25) ?_
 refine pP 10 (some 29) ?_
 refine tP 3 (some 22) hHeld ?_
 refine tP 7 (some 26) hHeld ?_
 refine pP 8 (some 27) ?_
 refine pP 9 (some 28) ?_
 refine pP 11 (some 30) ?_
 refine oP 12 (some 6) (fun K_ hK_ => ?_)
 refine cP #[.int .i64 0, .int .i64 0, .slice none 0 0] 35 O3.out ?_
 intro g4 w4 o_ k_
 obtain ⟨O4, K4⟩ := ok_ K3 o_ k_
 have HR_4 := Aside0.mk (keepF HR_3.out k_)
 clear a0 a2 O3 K3 HR_3 o_ k_
 have a0 := k3_ O4 0
 have a2 := k3_ O4 2
 have a3 := k3_ O4 3
 clear hHeld
 refine hK_.out _ _ (p3_ a0) (fun hHeld => ?_)
 clear hK_ K_
 refine nP ?_
 refine oP 13 none (fun K_ hK_ => ?_)
 refine xS 3 0 [.int .i64 o, .int .i64 ((L.length : Int) + 1), .slice B ups.length c] O4 ?_
 intro w5 o_ k_
 obtain ⟨O5, K5⟩ := ok_ K4 o_ k_
 have HR_5 := Aside0.mk (keepF HR_4.out k_)
 clear a0 a2 a3 O4 K4 HR_4 o_ k_
 have a0 := k3_ O5 0
 have a2 := k3_ O5 2
 have a3 := k3_ O5 3
 clear hHeld
 refine hK_.out _ _ (p3_ a0) (fun hHeld => ?_)
 clear hK_ K_
 refine done_ (by kernel_rfl) ?_
 clear hHeld
 go_wp2_with (first | ((with_reducible refine gC 96 rfl ?_); refine gP (some 32) Tryd.func96 #[.agg #[.int .i64 o, .int .i64 ((L.length : Int) + 1), .slice B ups.length c]] ?_; refine (round_May.calls k _ _ _ _ ups e _ (Kd.F_now HR_5.out) HC.out HE.out).mono ?_; rintro e_ w6 ⟨rfl, hb_⟩; refine ⟨_, rfl, ?_⟩; have o_ := O5.out.below hb_; have k_ := KeepS.of_below (N := N) hb_; obtain ⟨O6, K6⟩ := ok_ K5 o_ k_; have HR_6 := Aside0.mk (keepF HR_5.out k_); clear a0 a2 a3 O5 K5 HR_5 o_ k_ hb_; have a0 := k3_ O6 0; have a2 := k3_ O6 2; have a3 := k3_ O6 3) | ((with_reducible refine gT 35 4 rfl ?_); refine wS 2 0 [.int .i64 0, .int .i64 0, .slice none 0 0] O6 ?_; intro w7 o_ k_; obtain ⟨O7, K7⟩ := ok_ K6 o_ k_; have HR_7 := Aside0.mk (keepF HR_6.out k_); clear a0 a2 a3 O6 K6 HR_6 o_ k_; have a0 := k3_ O7 0; have a2 := k3_ O7 2; have a3 := k3_ O7 3))
 refine bodyPost_ret (results_ct rfl _ _ g1 35 #[.int .i64 0, .int .i64 0, .slice none 0 0] (0, 0) _ rfl (O7.out.blk (i := 2) rfl) Tryd.underlying35 rfl (by kernel_rfl)) rfl ?_
 exact ⟨none, 0, rfl, ((Obj3.shut (i := 0) (j := 1) O7.out rfl rfl (by decide)).take 1).push_emp _ (fun w => Kd.N_nil _ _ _ _ _), K7.out⟩
theorem copy_ok (o n : Int) (ups : List S32) (hu : ups.length ≤ 1000000) : round_Copy.f o n ups = some (o, n, ups) := by
 unfold round_Copy.f api_Update.f
 rw [if_pos (by omega)]
 rfl
theorem Add_ok {N : Nat → Prop} {w : World} {g : Nat} {o m : Int} {L : List S35} (B : Option Addr) (c : Nat) (ups : List S32) (h : Own N w [Obj3 138 g o m L]) (hr : Kd.F k32 w N B ups.length ups) (hc : ups.length ≤ c) (hL : L.length ≤ 1000000) (hu : ups.length ≤ 1000000) (hq : ((L.length : Int) == m) = false) (k : Nat) (he : round_May.f k o ((L.length : Int) + 1) ups = some 0) :
  Calls Tryd.prog 71 #[.pointer (some ⟨g, 0, none⟩), .slice B ups.length c] w fun e_ w' => ∃ A1 c1, e_ = .returned (.tuple #[.agg #[.int .i64 o, .int .i64 ((L.length : Int) + 1), .slice A1 (ups).length c1], .int .i64 0]) ∧ Own N w' [Obj3 138 g o m (L ++ [(⟨o, (L.length : Int) + 1, ups⟩ : S35)]), nrow k32 32 (.slice A1 (ups).length c1) (ups)] ∧ KeepS N w w' := by
 obtain ⟨A0, c0, h2⟩ := Obj3.open_ h (i := 0) rfl
 have HR_0 : Aside0 (Kd.F k32 w N B ups.length ups) := ⟨hr⟩
 have HC := Aside0.mk hc
 have O0 : Aside0 (Own N w [cells g #[.int .i64 o, .int .i64 m, .slice A0 L.length c0] 138, nrow k35 35 (.slice A0 L.length c0) L]) := ⟨h2⟩
 have K0 : Aside0 (KeepS N w w) := ⟨KeepS.refl _ _⟩
 have a0 := k3_ O0 0
 have HE := Aside0.mk he
 clear he
 have hs1 : IntKind.i64.wrap ((L.length : Int) + 1) = (L.length : Int) + 1 := by rw [IntKind.wrap_i64]; omega
 have hs2 : wrap64 ((L.length : Int) + 1) = (L.length : Int) + 1 := by unfold wrap64; omega
 have HL := Aside0.mk hL
 have HCP : Aside0 (round_Copy.f o ((L.length : Int) + 1) ups = some (o, (L.length : Int) + 1, ups)) := ⟨copy_ok _ _ _ hu⟩
 clear h2 h hr hc hL hu
 go_enter Tryd.func71, Tryd.ntmps71
 go_wp2_with (first | ((with_reducible refine gD 4 rfl ?_); refine bP 4 #[.int .i64 0, .int .i64 0, .slice none 0 0] 35 O0.out ?_; intro g1 w1 o_ k_; obtain ⟨O1, K1⟩ := ok_ K0 o_ k_; have HR_1 := Aside0.mk (keepF HR_0.out k_); clear a0 O0 K0 HR_0 o_ k_; have a0 := k3_ O1 0; have a2 := k3_ O1 2))
 refine sP (n := 10) (S := c3_ g (.int .i64 o) (.int .i64 m) (.slice A0 L.length c0)) (ds := []) (p3_ a0) (fun hHeld => ?_)
 obtain ⟨w2, hw_⟩ : ∃ W, W = w1.drew := ⟨_, rfl⟩
 have o_ := O1.out.drew
 have k_ : KeepS N w1 w1.drew := KeepS.drew
 rw [← hw_] at o_ k_ hHeld ⊢
 clear hw_
 obtain ⟨O2, K2⟩ := ok_ K1 o_ k_
 have HR_2 := Aside0.mk (keepF HR_1.out k_)
 clear a0 a2 O1 K1 HR_1 o_ k_
 have a0 := k3_ O2 0
 have a2 := k3_ O2 2
 refine pP 0 (some 8) ?_
 refine pP 1 (some 9) ?_
 refine pP 2 (some 10) ?_
 refine pP 5 (some 13) ?_
 refine pP 6 (some 14) ?_
 refine pP 7 (some 15) ?_
 refine tP 3 (some 11) hHeld ?_
 refine pP 4 (some 12) ?_
 refine tP 8 (some 16) hHeld ?_
 refine pP 9 (some 17) ?_
 refine done_ (by kernel_rfl) ?_
 clear hHeld
 go_wp2
 refine sP (n := 14) (S := c3_ g (.int .i64 o) (.int .i64 m) (.slice A0 L.length c0)) (ds := []) (p3_ a0) (fun hHeld => ?_)
 obtain ⟨w3, hw_⟩ : ∃ W, W = w2.drew := ⟨_, rfl⟩
 have o_ := O2.out.drew
 have k_ : KeepS N w2 w2.drew := KeepS.drew
 rw [← hw_] at o_ k_ hHeld ⊢
 clear hw_
 obtain ⟨O3, K3⟩ := ok_ K2 o_ k_
 have HR_3 := Aside0.mk (keepF HR_2.out k_)
 clear a0 a2 O2 K2 HR_2 o_ k_
 have a0 := k3_ O3 0
 have a2 := k3_ O3 2
 refine pP 0 (some 19) ?_
 refine pP 1 (some 20) ?_
 refine pP 2 (some 21) ?_
 refine pP 4 (some 23) ?_
 refine pP 5 (some 24) ?_
 refine pP 6 (some 25) ?_
 refine pP 10 (some 29) ?_
 refine tP 3 (some 22) hHeld ?_
 refine tP 7 (some 26) hHeld ?_
 refine pP 8 (some 27) ?_
 refine pP 9 (some 28) ?_
 refine pP 11 (some 30) ?_
 refine oP 12 (some 6) (fun K_ hK_ => ?_)
 refine cP #[.int .i64 0, .int .i64 0, .slice none 0 0] 35 O3.out ?_
 intro g4 w4 o_ k_
 obtain ⟨O4, K4⟩ := ok_ K3 o_ k_
 have HR_4 := Aside0.mk (keepF HR_3.out k_)
 clear a0 a2 O3 K3 HR_3 o_ k_
 have a0 := k3_ O4 0
 have a2 := k3_ O4 2
 have a3 := k3_ O4 3
 clear hHeld
 refine hK_.out _ _ (p3_ a0) (fun hHeld => ?_)
 clear hK_ K_
 refine nP ?_
 refine oP 13 none (fun K_ hK_ => ?_)
 refine xS 3 0 [.int .i64 o, .int .i64 ((L.length : Int) + 1), .slice B ups.length c] O4 ?_
 intro w5 o_ k_
 obtain ⟨O5, K5⟩ := ok_ K4 o_ k_
 have HR_5 := Aside0.mk (keepF HR_4.out k_)
 clear a0 a2 a3 O4 K4 HR_4 o_ k_
 have a0 := k3_ O5 0
 have a2 := k3_ O5 2
 have a3 := k3_ O5 3
 clear hHeld
 refine hK_.out _ _ (p3_ a0) (fun hHeld => ?_)
 clear hK_ K_
 refine done_ (by kernel_rfl) ?_
 clear hHeld
 go_wp2_with (first | ((with_reducible refine gC 96 rfl ?_); refine gP (some 32) Tryd.func96 #[.agg #[.int .i64 o, .int .i64 ((L.length : Int) + 1), .slice B ups.length c]] ?_; refine (round_May.calls k _ _ _ _ ups 0 _ (Kd.F_now HR_5.out) HC.out HE.out).mono ?_; rintro e_ w6 ⟨rfl, hb_⟩; refine ⟨_, rfl, ?_⟩; have o_ := O5.out.below hb_; have k_ := KeepS.of_below (N := N) hb_; obtain ⟨O6, K6⟩ := ok_ K5 o_ k_; have HR_6 := Aside0.mk (keepF HR_5.out k_); clear a0 a2 a3 O5 K5 HR_5 o_ k_ hb_; have a0 := k3_ O6 0; have a2 := k3_ O6 2; have a3 := k3_ O6 3))
 refine sP (n := 12) (S := d3_ g (.int .i64 o) (.int .i64 m) (.slice A0 L.length c0) (c3_ g4 (.int .i64 o) (.int .i64 ((L.length : Int) + 1)) (.slice B ups.length c))) (ds := [8, 11]) (j3_ a0 (p3_ a3)) (fun hHeld => ?_)
 obtain ⟨w7, hw_⟩ : ∃ W, W = w6.drew := ⟨_, rfl⟩
 have o_ := O6.out.drew
 have k_ : KeepS N w6 w6.drew := KeepS.drew
 rw [← hw_] at o_ k_ hHeld ⊢
 clear hw_
 obtain ⟨O7, K7⟩ := ok_ K6 o_ k_
 have HR_7 := Aside0.mk (keepF HR_6.out k_)
 clear a0 a2 a3 O6 K6 HR_6 o_ k_
 have a0 := k3_ O7 0
 have a2 := k3_ O7 2
 have a3 := k3_ O7 3
 refine pP 0 (some 37) ?_
 refine pP 1 (some 38) ?_
 refine pP 2 (some 39) ?_
 refine pP 3 (some 40) ?_
 refine tP 4 (some 41) hHeld ?_
 refine tP 5 (some 42) hHeld ?_
 refine oP 6 (some 43) (fun K_ hK_ => ?_)
 refine hP Tryd.func72 #[.agg #[.int .i64 o, .int .i64 ((L.length : Int) + 1), .slice B ups.length c]] ?_
 refine (round_Copy.calls o ((L.length : Int) + 1) _ _ ups o ((L.length : Int) + 1) ups _ (Kd.F_now HR_7.out) HC.out HCP.out).mono ?_
 rintro e_ w8 ⟨v_, rfl, hR_, hb_⟩
 obtain ⟨A1, c1, e__⟩ := Kd.R_slice hR_
 subst e__
 refine ⟨_, rfl, ?_⟩
 have o_ := O7.out.pushR hb_ (Nat.le_refl _) hR_
 have k_ := KeepS.of_below (N := N) hb_
 have o2_ := roundOf ((⟨o, (L.length : Int) + 1, ups⟩ : S35)) (i := 4) o_ rfl
 obtain ⟨O8, K8⟩ := ok_ K7 o2_ k_
 have HR_8 := Aside0.mk (keepF HR_7.out k_)
 clear a0 a2 a3 O7 K7 HR_7 o_ k_ hb_ hR_ o2_
 have a0 := k3_ O8 0
 have a2 := k3_ O8 2
 have a3 := k3_ O8 3
 clear hHeld
 refine hK_.out _ _ (j3_ a0 (p3_ a3)) (fun hHeld => ?_)
 clear hK_ K_
 refine nP ?_
 refine oP 7 (some 44) (fun K_ hK_ => ?_)
 refine value_ rfl rfl (w1 := (World.alloc w8 (.cells [.int .i64 ((⟨o, (L.length : Int) + 1, ups⟩ : S35)).f0, .int .i64 ((⟨o, (L.length : Int) + 1, ups⟩ : S35)).f1, .slice A1 ups.length c1].toArray 35))) (v := .slice (some ⟨w8.heap.size, 0, none⟩) 1 1) gs_ ?_
 clear hHeld
 refine hK_.out _ _ ⟨(pw_cell_below ((Below.refl _ _).alloc (Nat.le_refl _) _) a0.1), (pw_cell_below ((Below.refl _ _).alloc (Nat.le_refl _) _) a0.2.1), (pw_cell_below ((Below.refl _ _).alloc (Nat.le_refl _) _) a0.2.2.1), (pw_cell_below ((Below.refl _ _).alloc (Nat.le_refl _) _) a3.1), (pw_cell_below ((Below.refl _ _).alloc (Nat.le_refl _) _) a3.2.1), (pw_cell_below ((Below.refl _ _).alloc (Nat.le_refl _) _) a3.2.2.1)⟩ (fun hHeld => ?_)
 clear hK_ K_
 refine nP ?_
 refine lP 8 (some 45) (fun K_ hK_ => ?_)
 refine Own.append_step k35 O8.out (i := 1) (j := 4) rfl rfl (by decide) rfl rfl (.tmp 41) (.tmp 44) 40 (.agg #[.int .i64 0, .int .i64 0, .slice none 0 0]) 40 rfl Tryd.underlying40 infoR rfl (by decide) (by decide) rfl rfl (by have := HL.out; omega) ?_
 intro A2 c2 w9 o_ k_
 obtain ⟨O9, K9⟩ := ok_ K8 o_ k_
 have HR_9 := Aside0.mk (keepF HR_8.out k_)
 clear a0 a2 a3 O8 K8 HR_8 o_ k_
 have a0 := k3_ O9 0
 have a2 := k3_ O9 2
 have a3 := k3_ O9 3
 refine hK_.out _ _ ?_
 clear hK_ K_
 refine nP ?_
 refine pP 9 (some 46) ?_
 refine pP 10 (some 47) ?_
 refine lP 11 none (fun K_ hK_ => ?_)
 refine xS 0 2 [.slice A2 (L.length + 1) c2] O9 ?_
 intro w10 o_ k_
 obtain ⟨O10, K10⟩ := ok_ K9 o_ k_
 have HR_10 := Aside0.mk (keepF HR_9.out k_)
 clear a0 a2 a3 O9 K9 HR_9 o_ k_
 have a0 := k3_ O10 0
 have a2 := k3_ O10 2
 have a3 := k3_ O10 3
 refine hK_.out _ _ ?_
 clear hK_ K_
 refine done_ (by kernel_rfl) ?_
 clear hHeld
 go_wp2_with (first | ((with_reducible refine gC 72 rfl ?_); refine gP (some 49) Tryd.func72 #[.agg #[.int .i64 o, .int .i64 ((L.length : Int) + 1), .slice B ups.length c]] ?_; refine (round_Copy.calls o ((L.length : Int) + 1) _ _ ups o ((L.length : Int) + 1) ups _ (Kd.F_now HR_10.out) HC.out HCP.out).mono ?_; rintro e_ w11 ⟨v_, rfl, hR_, hb_⟩; obtain ⟨A3, c3, e__⟩ := Kd.R_slice hR_; subst e__; refine ⟨_, rfl, ?_⟩; have o_ := O10.out.pushR hb_ (Nat.le_refl _) hR_; have k_ := KeepS.of_below (N := N) hb_; obtain ⟨O11, K11⟩ := ok_ K10 o_ k_; have HR_11 := Aside0.mk (keepF HR_10.out k_); clear a0 a2 a3 O10 K10 HR_10 o_ k_ hb_ hR_; have a0 := k3_ O11 0; have a2 := k3_ O11 2; have a3 := k3_ O11 3) | ((with_reducible refine gT 35 4 rfl ?_); refine wS 2 0 [.int .i64 o, .int .i64 ((L.length : Int) + 1), .slice A3 ups.length c3] O11 ?_; intro w12 o_ k_; obtain ⟨O12, K12⟩ := ok_ K11 o_ k_; have HR_12 := Aside0.mk (keepF HR_11.out k_); clear a0 a2 a3 O11 K11 HR_11 o_ k_; have a0 := k3_ O12 0; have a2 := k3_ O12 2; have a3 := k3_ O12 3))
 refine bodyPost_ret (results_ct rfl _ _ g1 35 #[.int .i64 o, .int .i64 ((L.length : Int) + 1), .slice A3 ups.length c3] (0, 0) _ rfl (O12.out.blk (i := 2) rfl) Tryd.underlying35 rfl (by kernel_rfl)) rfl ?_
 exact ⟨A3, c3, rfl, (Obj3.shut (i := 0) (j := 1) O12.out rfl rfl (by decide)).pick2 (a := 0) (b := 5) rfl rfl (by decide), K12.out⟩
end Go.Proofs.YtjdenpmaianmfaaDoor.J
namespace Go.Proofs.YtjdenpmaianmfaaDoor.J
set_option maxHeartbeats 16000000
set_option maxRecDepth 100000
set_option linter.unusedSimpArgs false
set_option linter.unusedVariables false
open Go Go.RowKit Go.Proofs.YtjdenpmaianmfaaDoorW.PrintWords Go.Proofs.YtjdenpmaianmfaaDoorW.PrintLast Go.Proofs.YtjdenpmaianmfaaDoorW.PrintMore Go.Proofs.YtjdenpmaianmfaaDoor.Q Go.Proofs.YtjdenpmaianmfaaDoor.Sep
attribute [local go_sem] max2_int min2_int max_two min_two max_three min_three max_four min_four
def fromL (n : Int) (L : List S35) : List S35 := L.filter fun r => decide (r.f1 > n)
theorem take_snoc {α : Type} (L : List α) (d : α) (x : Int) (h0 : 0 ≤ x) (h1 : x < L.length) : L.take (x + 1).toNat = L.take x.toNat ++ [L.getD x.toNat d] := by
 have e : (x + 1).toNat = x.toNat + 1 := by omega
 have hl : x.toNat < L.length := by omega
 rw [e, List.take_succ_eq_append_getElem hl, List.getD_eq_getElem?_getD, List.getElem?_eq_getElem hl]
 rfl
theorem fromL_yes (n : Int) (L : List S35) (x : Int) (h0 : 0 ≤ x) (h1 : x < L.length) (h : (rd_T35 L x).f1 > n) : fromL n (L.take (x + 1).toNat) = fromL n (L.take x.toNat) ++ [rd_T35 L x] := by
 unfold fromL
 rw [take_snoc L z35 x h0 h1, List.filter_append]
 congr 1
 have : decide ((rd_T35 L x).f1 > n) = true := decide_eq_true h
 unfold rd_T35 at this ⊢
 rw [List.filter_cons, this]
 rfl
theorem fromL_no (n : Int) (L : List S35) (x : Int) (h0 : 0 ≤ x) (h1 : x < L.length) (h : ¬ (rd_T35 L x).f1 > n) : fromL n (L.take (x + 1).toNat) = fromL n (L.take x.toNat) := by
 unfold fromL
 rw [take_snoc L z35 x h0 h1, List.filter_append]
 have : decide ((rd_T35 L x).f1 > n) = false := decide_eq_false h
 unfold rd_T35 at this
 rw [List.filter_cons, this]
 simp
theorem fromL_len (n : Int) (L : List S35) : (fromL n L).length ≤ L.length := List.length_filter_le _ _
theorem slice_len {A : Option Addr} {n m c : Nat} (h : n = m) : Value.slice A n c = .slice A m c := by rw [h]
theorem int_eq {a b : Int} (h : a = b) : Value.int .i64 a = .int .i64 b := by rw [h]
def FromJ (N : Nat → Prop) (w : World) (g : Nat) (o m n : Int) (L : List S35) (A0 : Option Addr) (c0 : Nat) (v i : Value) (wr : World) : Prop := ∃ (x : Int) (A2 : Option Addr) (c2 : Nat), 0 ≤ x ∧ x ≤ (L.length : Int) ∧ i = .int .i64 x ∧ v = .slice A2 (fromL n (L.take x.toNat)).length c2 ∧ Aside0 (Own N wr [cells g #[.int .i64 o, .int .i64 m, .slice A0 L.length c0] 138, emp, row k35 35 (.slice A2 (fromL n (L.take x.toNat)).length c2) (fromL n (L.take x.toNat))]) ∧ Aside0 (KeepS N w wr)
theorem FromR {N : Nat → Prop} {w : World} {g : Nat} {o m : Int} {L : List S35} (n : Int) (h : Own N w [Obj3 138 g o m L]) (hL : L.length ≤ 1000000) (HU : Aside0 (∀ x : Int, 0 ≤ x → x < L.length → (rd_T35 L x).f2.length ≤ 1000000)) :
  Calls Tryd.prog 73 #[.pointer (some ⟨g, 0, none⟩), .int .i64 n] w fun e_ w' => ∃ A1 c1, e_ = .returned (.slice A1 (fromL n L).length c1) ∧ Own N w' [Obj3 138 g o m L, row k35 35 (.slice A1 (fromL n L).length c1) (fromL n L)] ∧ KeepS N w w' := by
 obtain ⟨A0, c0, h2⟩ := Obj3.open_ h (i := 0) rfl
 obtain ⟨N1, h3, hn1, hF, hback⟩ := h2.hide (i := 1) rfl
 have HRL0 : Aside0 (Kd.F k35 w N1 A0 L.length L) := ⟨Kd.N_F hF⟩
 have HBACK := Aside0.mk hback
 have HL := Aside0.mk hL
 have O0 : Aside0 (Own N1 w [cells g #[.int .i64 o, .int .i64 m, .slice A0 L.length c0] 138, emp, row k35 35 (.slice none 0 0) []]) := ⟨h3.push_emp (row k35 35 (.slice none 0 0) []) (fun w => Kd.R_nil _ _ _ _ _)⟩
 have K0 : Aside0 (KeepS N1 w w) := ⟨KeepS.refl _ _⟩
 have a0 := k3_ O0 0
 clear h h2 h3 hn1 hF hback
 go_enter Tryd.func73, Tryd.ntmps73
 go_wp2
 go_loopw [5, 13] (fun v i wr => FromJ N1 w g o m n L A0 c0 v i wr) (fun _ i _ => L.length - (intOf i).toNat)
 case atStart => exact ⟨0, none, 0, by omega, by omega, rfl, rfl, O0, K0⟩
 case round =>
  clear a0 hL
  obtain ⟨x, A2, c2, hx0, hx1, rfl, rfl, OA, KA⟩ := hrel
  have hF2 := keepF HRL0.out KA.out
  by_cases hlt : x < (L.length : Int)
  ·obtain ⟨ad, A3, c3, e3, x0, x1, x2, hl3, hF3⟩ := at_F hF2 x hx0 hlt
   cases e3
   have HC3 := Aside0.mk hl3
   have hLx := HL.out
   have hs2 : wrap64 (x + 1) = x + 1 := by unfold wrap64; omega
   have hp := eq_true hx0
   have hq := eq_true hlt
   have hd : decide (x < (L.length : Int)) = true := decide_eq_true hlt
   have HX := Aside0.mk (And.intro hx0 hlt)
   skip
   have HF3 := Aside0.mk hF3
   clear hF3 hF2 hl3 hLx
   have O1 : Aside0 (Own N1 wr [cells g #[.int .i64 o, .int .i64 m, .slice (some ad) L.length c0] 138, emp, row k35 35 (.slice A2 (fromL n (L.take x.toNat)).length c2) (fromL n (L.take x.toNat))]) := ⟨OA.out⟩
   have K1 : Aside0 (KeepS N1 w wr) := ⟨KA.out⟩
   have HRI_1 : Aside0 (Kd.F k32 wr N1 A3 (rd_T35 L x).f2.length (rd_T35 L x).f2) := ⟨HF3.out⟩
   have a0 := k3_ O1 0
   clear OA KA HF3
   by_cases hg : (rd_T35 L x).f1 > n
   ·have hgd : decide ((rd_T35 L x).f1 > n) = true := decide_eq_true hg
    have hgd2 : decide (n < (rd_T35 L x).f1) = true := hgd
    have HS : Aside0 (fromL n (L.take (x + 1).toNat) = (fromL n (L.take x.toNat)) ++ [(rd_T35 L x)]) := ⟨fromL_yes n L x hx0 hlt hg⟩
    have HFL : Aside0 ((fromL n (L.take x.toNat)).length ≤ 1000000) := ⟨Nat.le_trans (fromL_len _ _) (Nat.le_trans (by rw [List.length_take]; exact Nat.min_le_right _ _) HL.out)⟩
    clear hg
    have HCP : Aside0 ((rd_T35 L x).f2.length ≤ 1000000) := ⟨HU.out x hx0 hlt⟩
    go_wp2_with (first | ((with_reducible refine gD 7 rfl ?_); refine bP 7 #[.int .i64 0, .int .i64 0, .slice none 0 0] 35 O1.out ?_; intro g2 w2 o_ k_; obtain ⟨O2, K2⟩ := ok_ K1 o_ k_; have HRI_2 := Aside0.mk (keepF HRI_1.out k_); clear a0 O1 K1 HRI_1 o_ k_; have a0 := k3_ O2 0; have a3 := k3_ O2 3) | ((with_reducible refine gT 35 7 rfl ?_); refine wS 3 0 [.int .i64 (rd_T35 L x).f0, .int .i64 (rd_T35 L x).f1, .slice A3 (rd_T35 L x).f2.length c3] O2 ?_; intro w3 o_ k_; obtain ⟨O3, K3⟩ := ok_ K2 o_ k_; have HRI_3 := Aside0.mk (keepF HRI_2.out k_); clear a0 a3 O2 K2 HRI_2 o_ k_; have a0 := k3_ O3 0; have a3 := k3_ O3 3) | ((with_reducible refine gC 72 rfl ?_); refine gP (some 23) Tryd.func72 #[.agg #[.int .i64 (rd_T35 L x).f0, .int .i64 (rd_T35 L x).f1, .slice A3 (rd_T35 L x).f2.length c3]] ?_; refine (round_Copy.calls (rd_T35 L x).f0 (rd_T35 L x).f1 _ _ (rd_T35 L x).f2 (rd_T35 L x).f0 (rd_T35 L x).f1 (rd_T35 L x).f2 _ (Kd.F_now HRI_3.out) HC3.out (copy_ok _ _ _ HCP.out)).mono ?_; rintro e_ w4 ⟨v_, rfl, hR_, hb_⟩; obtain ⟨A4, c4, e__⟩ := Kd.R_slice hR_; subst e__; refine ⟨_, rfl, ?_⟩; have o_ := O3.out.pushW hb_ (Nat.le_refl _) hR_; have k_ := KeepS.of_below (N := N1) hb_; obtain ⟨O4, K4⟩ := ok_ K3 o_ k_; have HRI_4 := Aside0.mk (keepF HRI_3.out k_); clear a0 a3 O3 K3 HRI_3 o_ k_ hb_ hR_; have a0 := k3_ O4 0; have a3 := k3_ O4 3; have O5 : Aside0 (Own N1 w4 [cells g #[.int .i64 o, .int .i64 m, .slice (some ad) L.length c0] 138, emp, row k35 35 (.slice A2 (fromL n (L.take x.toNat)).length c2) (fromL n (L.take x.toNat)), cells g2 #[.int .i64 (rd_T35 L x).f0, .int .i64 (rd_T35 L x).f1, .slice A3 (rd_T35 L x).f2.length c3] 35, elem k35 (rd_T35 L x) [.int .i64 (rd_T35 L x).f0, .int .i64 (rd_T35 L x).f1, .slice A4 (rd_T35 L x).f2.length c4]]) := ⟨rowElem (rd_T35 L x) (i := 4) O4.out rfl⟩; clear O4) | ((with_reducible refine gate_builtin (b := .append) (xs := #[.tmp 21, .tmp 24]) rfl ?_); at_builtin; refine Own.appendR k35 O5.out (i := 2) (j := 4) rfl rfl (by decide) rfl (.tmp 21) (.tmp 24) 40 (.agg #[.int .i64 0, .int .i64 0, .slice none 0 0]) 40 rfl Tryd.underlying40 infoR rfl (by decide) (by decide) rfl rfl (by have := HFL.out; omega) ?_; intro A5 c5 w6 o_ k_; obtain ⟨O6, K6⟩ := ok_ K4 o_ k_; have HRI_6 := Aside0.mk (keepF HRI_4.out k_); clear a0 a3 O5 K4 HRI_4 o_ k_; have a0 := k3_ O6 0; have a3 := k3_ O6 3))
    go_roundw
    case rel => exact ⟨x + 1, A5, c5, by have := HX.out; omega, by have := HX.out; omega, int_eq (by unfold wrap64; have := HX.out; have := HL.out; omega), slice_len (by rw [HS.out]; simp), ⟨by rw [HS.out]; simp only [List.length_append, List.length_singleton]; exact O6.out.take 3⟩, K6⟩
    case measure => have := HX.out; simp [intOf]; omega
   ·have hgd : decide ((rd_T35 L x).f1 > n) = false := decide_eq_false hg
    have hgd2 : decide (n < (rd_T35 L x).f1) = false := hgd
    have HS : Aside0 (fromL n (L.take (x + 1).toNat) = (fromL n (L.take x.toNat))) := ⟨fromL_no n L x hx0 hlt hg⟩
    have HFL : Aside0 ((fromL n (L.take x.toNat)).length ≤ 1000000) := ⟨Nat.le_trans (fromL_len _ _) (Nat.le_trans (by rw [List.length_take]; exact Nat.min_le_right _ _) HL.out)⟩
    clear hg
    have HCP : Aside0 ((rd_T35 L x).f2.length ≤ 1000000) := ⟨HU.out x hx0 hlt⟩
    go_wp2_with (first | ((with_reducible refine gD 7 rfl ?_); refine bP 7 #[.int .i64 0, .int .i64 0, .slice none 0 0] 35 O1.out ?_; intro g2 w2 o_ k_; obtain ⟨O2, K2⟩ := ok_ K1 o_ k_; have HRI_2 := Aside0.mk (keepF HRI_1.out k_); clear a0 O1 K1 HRI_1 o_ k_; have a0 := k3_ O2 0; have a3 := k3_ O2 3) | ((with_reducible refine gT 35 7 rfl ?_); refine wS 3 0 [.int .i64 (rd_T35 L x).f0, .int .i64 (rd_T35 L x).f1, .slice A3 (rd_T35 L x).f2.length c3] O2 ?_; intro w3 o_ k_; obtain ⟨O3, K3⟩ := ok_ K2 o_ k_; have HRI_3 := Aside0.mk (keepF HRI_2.out k_); clear a0 a3 O2 K2 HRI_2 o_ k_; have a0 := k3_ O3 0; have a3 := k3_ O3 3))
    go_roundw
    case rel => exact ⟨x + 1, A2, c2, by have := HX.out; omega, by have := HX.out; omega, int_eq (by unfold wrap64; have := HX.out; have := HL.out; omega), slice_len (by rw [HS.out]), ⟨by rw [HS.out]; exact O3.out.take 3⟩, K3⟩
    case measure => have := HX.out; simp [intOf]; omega
  ·have hxe : x = (L.length : Int) := by omega
   subst hxe
   have hd : decide ((L.length : Int) < (L.length : Int)) = false := decide_eq_false (Int.lt_irrefl _)
   have HT : Aside0 (L.take ((L.length : Int)).toNat = L) := ⟨by rw [Int.toNat_natCast, List.take_length]⟩
   clear hlt hx0 hx1 hF2
   go_wp2
   go_ret
   obtain ⟨hb, hk⟩ := HBACK.out _ _ (by simp) KA.out OA.out
   refine ⟨A2, c2, by first | rfl | (rw [HT.out]; done) | (simp only [HT.out]; done) | simp [HT.out], ?_, hk⟩
   rw [HT.out] at hb
   exact (Obj3.shut (i := 0) (j := 1) hb rfl rfl (by decide)).pick2 (a := 0) (b := 2) rfl rfl (by decide)
end Go.Proofs.YtjdenpmaianmfaaDoor.J
namespace Go.Proofs.YtjdenpmaianmfaaDoor.J
set_option linter.unusedSimpArgs false
set_option linter.unusedVariables false
open Go Go.RowKit Go.Proofs.YtjdenpmaianmfaaDoorW.PrintWords Go.Proofs.YtjdenpmaianmfaaDoorW.PrintLast Go.Proofs.YtjdenpmaianmfaaDoorW.PrintMore Go.Proofs.YtjdenpmaianmfaaDoor.Q Go.Proofs.YtjdenpmaianmfaaDoor.Sep Go.Proofs.YtjdenpmaianmfaaDoor.Pure
def addE (o m : Int) (L : List Rnd) (ups : List Upd) : Int := if (L.length : Int) = m then 8 else mayR o (L.length + 1) ups
def addR (o m : Int) (L : List Rnd) (ups : List Upd) : Rnd := if addE o m L ups = 0 then ⟨o, L.length + 1, ups⟩ else z35
def addL (o m : Int) (L : List Rnd) (ups : List Upd) : List Rnd := if addE o m L ups = 0 then L ++ [⟨o, L.length + 1, ups⟩] else L
theorem mayR_len {o n : Int} {l : List Upd} (h : mayR o n l = 0) : l.length ≤ 8 := by
 unfold mayR at h
 split at h
 ·cases h
 ·omega
theorem rd_snoc (L : List Rnd) (r : Rnd) (x : Int) (h0 : 0 ≤ x) (h1 : x < (L ++ [r]).length) : rd_T35 (L ++ [r]) x = if x < L.length then rd_T35 L x else r := by
 rw [List.length_append, List.length_singleton] at h1
 unfold rd_T35
 rw [List.getD_eq_getElem?_getD, List.getD_eq_getElem?_getD]
 split
 ·rw [List.getElem?_append_left (by omega)]
 ·rw [List.getElem?_append_right (by omega), show x.toNat - L.length = 0 by omega]
  rfl
theorem Add {N : Nat → Prop} {w : World} {g : Nat} {o m : Int} {L : List Rnd} (B : Option Addr) (c : Nat) (ups : List Upd) (h : Own N w [Obj3 138 g o m L]) (hr : Kd.F k32 w N B ups.length ups) (hc : ups.length ≤ c) (hL : L.length ≤ 1000000) (hu : ups.length ≤ 1000000) :
  Calls Tryd.prog 71 #[.pointer (some ⟨g, 0, none⟩), .slice B ups.length c] w fun e_ w' => ∃ A1 c1, e_ = .returned (.tuple #[.agg #[.int .i64 (addR o m L ups).f0, .int .i64 (addR o m L ups).f1, .slice A1 (addR o m L ups).f2.length c1], .int .i64 (addE o m L ups)]) ∧
   Own N w' [Obj3 138 g o m (addL o m L ups), nrow k32 32 (.slice A1 (addR o m L ups).f2.length c1) (addR o m L ups).f2] ∧ KeepS N w w' := by
 by_cases h1 : (L.length : Int) = m
 ·have e : addE o m L ups = 8 := by unfold addE; rw [if_pos h1]
  have e2 : addR o m L ups = z35 := by unfold addR; rw [e]; rfl
  have e3 : addL o m L ups = L := by unfold addL; rw [e]; rfl
  rw [e, e2, e3]
  exact Add_full B c ups h hr hc hL hu (beq_iff_eq.2 h1)
 have e0 : addE o m L ups = mayR o (L.length + 1) ups := by unfold addE; rw [if_neg h1]
 by_cases h2 : mayR o (L.length + 1) ups = 0
 ·have e2 : addR o m L ups = ⟨o, L.length + 1, ups⟩ := by unfold addR; rw [e0, if_pos h2]
  have e3 : addL o m L ups = L ++ [⟨o, L.length + 1, ups⟩] := by unfold addL; rw [e0, if_pos h2]
  rw [e0, e2, e3, h2]
  exact Add_ok B c ups h hr hc hL hu (beq_eq_false_iff_ne.2 h1) 20 (by rw [pmay 0, h2])
 ·have e2 : addR o m L ups = z35 := by unfold addR; rw [e0, if_neg h2]
  have e3 : addL o m L ups = L := by unfold addL; rw [e0, if_neg h2]
  rw [e0, e2, e3]
  exact Add_no B c ups h hr hc hL hu (beq_eq_false_iff_ne.2 h1) 20 _ (pmay 0 _ _ _) (by rw [bne_iff_ne]; exact h2)
set_option maxHeartbeats 16000000
set_option maxRecDepth 100000
abbrev rw3 (o n : Int) (v : Value) : List Value := [.int .i64 o, .int .i64 n, v]
theorem repW (W : World) (o n : Int) (A : Option Addr) (m c : Nat) : Reps (Kd.FK (Kd.raw 3) W (fun _ => False)) 3 [rw3 o n (.slice A m c)] [.int .i64 o, .int .i64 n, .slice A m c] := by
 refine (Reps.none _ 3).snoc (p := rw3 o n (.slice A m c)) (c := rw3 o n (.slice A m c)) (flatRaw.FK (w := W) ⟨rfl, rfl, fun u hu => ?_⟩) rfl
 simp only [rw3, List.mem_cons, List.not_mem_nil, or_false] at hu
 rcases hu with rfl | rfl | rfl <;> rfl
theorem DJNew_low {N : Nat → Prop} {w : World} (o m : Int) (h : Own N w []) (hm : m < 1) :
  Calls Tryd.prog 55 #[.int .i64 o, .int .i64 m] w fun e w' => ∃ g, e = .returned (.pointer (some ⟨g, 0, none⟩)) ∧ Own N w' [cells g #[.int .i64 o, .int .i64 1, .slice none 0 0] 64] ∧ KeepS N w w' := by
 have O0 : Aside0 (Own N w []) := ⟨h⟩
 have K0 : Aside0 (KeepS N w w) := ⟨KeepS.refl _ _⟩
 have d1 : decide (m < 1) = true := decide_eq_true hm
 have d2 : decide ((1 : Int) > 1099511627776) = false := by decide
 clear h hm
 go_enter Tryd.func55, Tryd.ntmps55
 go_wp2_with (first | ((with_reducible refine gD 12 rfl ?_); refine bP 12 #[.int .i64 o, .int .i64 1, .slice none 0 0] 64 O0.out ?_; intro g w1 o_ k_; obtain ⟨O1, K1⟩ := ok_ K0 o_ k_; clear O0 K0 o_ k_; have a0 := k3_ O1 0))
 go_ret
 exact ⟨g, rfl, O1.out, K1.out⟩
theorem DJNew_high {N : Nat → Prop} {w : World} (o m : Int) (h : Own N w []) (hm : 1099511627776 < m) :
  Calls Tryd.prog 55 #[.int .i64 o, .int .i64 m] w fun e w' => ∃ g, e = .returned (.pointer (some ⟨g, 0, none⟩)) ∧ Own N w' [cells g #[.int .i64 o, .int .i64 1099511627776, .slice none 0 0] 64] ∧ KeepS N w w' := by
 have O0 : Aside0 (Own N w []) := ⟨h⟩
 have K0 : Aside0 (KeepS N w w) := ⟨KeepS.refl _ _⟩
 have d1 : decide (m < 1) = false := decide_eq_false (by omega)
 have d2 : decide (m > 1099511627776) = true := decide_eq_true hm
 have d3 : decide (1099511627776 < m) = true := d2
 clear h hm
 go_enter Tryd.func55, Tryd.ntmps55
 go_wp2_with (first | ((with_reducible refine gD 12 rfl ?_); refine bP 12 #[.int .i64 o, .int .i64 1099511627776, .slice none 0 0] 64 O0.out ?_; intro g w1 o_ k_; obtain ⟨O1, K1⟩ := ok_ K0 o_ k_; clear O0 K0 o_ k_; have a0 := k3_ O1 0))
 go_ret
 exact ⟨g, rfl, O1.out, K1.out⟩
theorem DJNew_mid {N : Nat → Prop} {w : World} (o m : Int) (h : Own N w []) (hm : 1 ≤ m) (hm2 : m ≤ 1099511627776) :
  Calls Tryd.prog 55 #[.int .i64 o, .int .i64 m] w fun e w' => ∃ g, e = .returned (.pointer (some ⟨g, 0, none⟩)) ∧ Own N w' [cells g #[.int .i64 o, .int .i64 m, .slice none 0 0] 64] ∧ KeepS N w w' := by
 have O0 : Aside0 (Own N w []) := ⟨h⟩
 have K0 : Aside0 (KeepS N w w) := ⟨KeepS.refl _ _⟩
 have d1 : decide (m < 1) = false := decide_eq_false (by omega)
 have d2 : decide (m > 1099511627776) = false := decide_eq_false (by omega)
 have d3 : decide (1099511627776 < m) = false := d2
 clear h hm hm2
 go_enter Tryd.func55, Tryd.ntmps55
 go_wp2_with (first | ((with_reducible refine gD 12 rfl ?_); refine bP 12 #[.int .i64 o, .int .i64 m, .slice none 0 0] 64 O0.out ?_; intro g w1 o_ k_; obtain ⟨O1, K1⟩ := ok_ K0 o_ k_; clear O0 K0 o_ k_; have a0 := k3_ O1 0))
 go_ret
 exact ⟨g, rfl, O1.out, K1.out⟩
theorem DJNew {N : Nat → Prop} {w : World} (o m : Int) (h : Own N w []) :
  Calls Tryd.prog 55 #[.int .i64 o, .int .i64 m] w fun e w' => ∃ g, e = .returned (.pointer (some ⟨g, 0, none⟩)) ∧ Own N w' [cells g #[.int .i64 o, .int .i64 (mn (mx m 1) 1099511627776), .slice none 0 0] 64] ∧ KeepS N w w' := by
 by_cases h1 : m < 1
 ·rw [show mn (mx m 1) 1099511627776 = 1 by unfold mn mx; (repeat' split) <;> omega]
  exact DJNew_low o m h h1
 by_cases h2 : 1099511627776 < m
 ·rw [show mn (mx m 1) 1099511627776 = 1099511627776 by unfold mn mx; (repeat' split) <;> omega]
  exact DJNew_high o m h h2
 ·rw [show mn (mx m 1) 1099511627776 = m by unfold mn mx; (repeat' split) <;> omega]
  exact DJNew_mid o m h (by omega) (by omega)
theorem DNew_low {N : Nat → Prop} {w : World} {gj : Nat} {jo jm : Int} {AJ : Option Addr} {cJ : Nat} {rJ : List (List Value)} (o mtu a3 : Int) (h : Own N w [cells gj #[.int .i64 jo, .int .i64 jm, .slice AJ rJ.length cJ] 64, nrow (Kd.raw 3) 35 (.slice AJ rJ.length cJ) rJ]) (hL : rJ.length ≤ 1000000) (hm : a3 < 1) :
  Calls Tryd.prog 54 #[.pointer (some ⟨gj, 0, none⟩), .int .i64 o, .int .i64 mtu, .int .i64 a3] w fun e w' => ∃ g A5 c5, e = .returned (.pointer (some ⟨g, 0, none⟩)) ∧ Own N w' [cells gj #[.int .i64 jo, .int .i64 jm, .slice AJ rJ.length cJ] 64, nrow (Kd.raw 3) 35 (.slice AJ rJ.length cJ) rJ, cells g #[.pointer (some ⟨gj, 0, none⟩), .int .i64 o, .int .i64 mtu, .int .i64 1, .slice none 0 0, .slice A5 rJ.length c5, .slice none 0 0] 44, nrow (Kd.raw 3) 35 (.slice A5 rJ.length c5) rJ] ∧ KeepS N w w' := by
 have HL := Aside0.mk hL
 have O0 : Aside0 (Own N w [cells gj #[.int .i64 jo, .int .i64 jm, .slice AJ rJ.length cJ] 64, nrow (Kd.raw 3) 35 (.slice AJ rJ.length cJ) rJ]) := ⟨h⟩
 have K0 : Aside0 (KeepS N w w) := ⟨KeepS.refl _ _⟩
 have a0 := k3_ O0 0
 have d1 : decide (a3 < 1) = true := decide_eq_true hm
 have d2 : decide ((1 : Int) > 16) = false := by decide
 clear h hL hm
 go_enter Tryd.func54, Tryd.ntmps54
 go_wp2_with (first | ((with_reducible refine gD 17 rfl ?_); refine own_lit (Kd.raw 3) (N := N) (e := 35) (xs := []) (inner := []) rfl (D := 17) rfl gs_ (Reps.none _ _) (by simp) O0.out ?_; intro A0 c0 w1 o_ k_; obtain ⟨O1, K1⟩ := ok_ K0 o_ k_; clear a0 O0 K0 o_ k_; have a0 := k3_ O1 0) | ((with_reducible refine gate_builtin (b := .append) (xs := #[.tmp 17, .tmp 21]) rfl ?_); at_builtin; refine Own.append_flat (Kd.raw 3) flatRaw O1.out (i := 2) (ys := rJ) rfl ((O1.out.nreads (i := 1) rfl).2.2) rfl (.tmp 17) (.tmp 21) 40 ((.agg #[.int .i64 0, .int .i64 0, .slice none 0 0])) 40 rfl Tryd.underlying40 infoR rfl (by decide) (by decide) rfl rfl (by have := HL.out; simp only [List.length_nil]; omega) ?_; intro A5 c5 w2 o_ k_; obtain ⟨O2, K2⟩ := ok_ K1 o_ k_; clear a0 O1 K1 o_ k_; have a0 := k3_ O2 0) | ((with_reducible refine gD 24 rfl ?_); refine bP 24 #[.pointer (some ⟨gj, 0, none⟩), .int .i64 o, .int .i64 mtu, .int .i64 1, .slice none 0 0, .slice A5 rJ.length c5, .slice none 0 0] 44 O2.out ?_; intro g w3 o_ k_; obtain ⟨O3, K3⟩ := ok_ K2 o_ k_; clear a0 O2 K2 o_ k_; have a0 := k3_ O3 0; have a3 := k7_ O3 3))
 go_ret
 exact ⟨g, A5, c5, rfl, O3.out.pickL [0, 1, 3, 2] (by decide) (by simp), K3.out⟩
theorem DNew_high {N : Nat → Prop} {w : World} {gj : Nat} {jo jm : Int} {AJ : Option Addr} {cJ : Nat} {rJ : List (List Value)} (o mtu a3 : Int) (h : Own N w [cells gj #[.int .i64 jo, .int .i64 jm, .slice AJ rJ.length cJ] 64, nrow (Kd.raw 3) 35 (.slice AJ rJ.length cJ) rJ]) (hL : rJ.length ≤ 1000000) (hm : 16 < a3) :
  Calls Tryd.prog 54 #[.pointer (some ⟨gj, 0, none⟩), .int .i64 o, .int .i64 mtu, .int .i64 a3] w fun e w' => ∃ g A5 c5, e = .returned (.pointer (some ⟨g, 0, none⟩)) ∧ Own N w' [cells gj #[.int .i64 jo, .int .i64 jm, .slice AJ rJ.length cJ] 64, nrow (Kd.raw 3) 35 (.slice AJ rJ.length cJ) rJ, cells g #[.pointer (some ⟨gj, 0, none⟩), .int .i64 o, .int .i64 mtu, .int .i64 16, .slice none 0 0, .slice A5 rJ.length c5, .slice none 0 0] 44, nrow (Kd.raw 3) 35 (.slice A5 rJ.length c5) rJ] ∧ KeepS N w w' := by
 have HL := Aside0.mk hL
 have O0 : Aside0 (Own N w [cells gj #[.int .i64 jo, .int .i64 jm, .slice AJ rJ.length cJ] 64, nrow (Kd.raw 3) 35 (.slice AJ rJ.length cJ) rJ]) := ⟨h⟩
 have K0 : Aside0 (KeepS N w w) := ⟨KeepS.refl _ _⟩
 have a0 := k3_ O0 0
 have d1 : decide (a3 < 1) = false := decide_eq_false (by omega)
 have d2 : decide (a3 > 16) = true := decide_eq_true hm
 have d3 : decide (16 < a3) = true := d2
 clear h hL hm
 go_enter Tryd.func54, Tryd.ntmps54
 go_wp2_with (first | ((with_reducible refine gD 17 rfl ?_); refine own_lit (Kd.raw 3) (N := N) (e := 35) (xs := []) (inner := []) rfl (D := 17) rfl gs_ (Reps.none _ _) (by simp) O0.out ?_; intro A0 c0 w1 o_ k_; obtain ⟨O1, K1⟩ := ok_ K0 o_ k_; clear a0 O0 K0 o_ k_; have a0 := k3_ O1 0) | ((with_reducible refine gate_builtin (b := .append) (xs := #[.tmp 17, .tmp 21]) rfl ?_); at_builtin; refine Own.append_flat (Kd.raw 3) flatRaw O1.out (i := 2) (ys := rJ) rfl ((O1.out.nreads (i := 1) rfl).2.2) rfl (.tmp 17) (.tmp 21) 40 ((.agg #[.int .i64 0, .int .i64 0, .slice none 0 0])) 40 rfl Tryd.underlying40 infoR rfl (by decide) (by decide) rfl rfl (by have := HL.out; simp only [List.length_nil]; omega) ?_; intro A5 c5 w2 o_ k_; obtain ⟨O2, K2⟩ := ok_ K1 o_ k_; clear a0 O1 K1 o_ k_; have a0 := k3_ O2 0) | ((with_reducible refine gD 24 rfl ?_); refine bP 24 #[.pointer (some ⟨gj, 0, none⟩), .int .i64 o, .int .i64 mtu, .int .i64 16, .slice none 0 0, .slice A5 rJ.length c5, .slice none 0 0] 44 O2.out ?_; intro g w3 o_ k_; obtain ⟨O3, K3⟩ := ok_ K2 o_ k_; clear a0 O2 K2 o_ k_; have a0 := k3_ O3 0; have a3 := k7_ O3 3))
 go_ret
 exact ⟨g, A5, c5, rfl, O3.out.pickL [0, 1, 3, 2] (by decide) (by simp), K3.out⟩
theorem DNew_mid {N : Nat → Prop} {w : World} {gj : Nat} {jo jm : Int} {AJ : Option Addr} {cJ : Nat} {rJ : List (List Value)} (o mtu a3 : Int) (h : Own N w [cells gj #[.int .i64 jo, .int .i64 jm, .slice AJ rJ.length cJ] 64, nrow (Kd.raw 3) 35 (.slice AJ rJ.length cJ) rJ]) (hL : rJ.length ≤ 1000000) (hm : 1 ≤ a3) (hm2 : a3 ≤ 16) :
  Calls Tryd.prog 54 #[.pointer (some ⟨gj, 0, none⟩), .int .i64 o, .int .i64 mtu, .int .i64 a3] w fun e w' => ∃ g A5 c5, e = .returned (.pointer (some ⟨g, 0, none⟩)) ∧ Own N w' [cells gj #[.int .i64 jo, .int .i64 jm, .slice AJ rJ.length cJ] 64, nrow (Kd.raw 3) 35 (.slice AJ rJ.length cJ) rJ, cells g #[.pointer (some ⟨gj, 0, none⟩), .int .i64 o, .int .i64 mtu, .int .i64 a3, .slice none 0 0, .slice A5 rJ.length c5, .slice none 0 0] 44, nrow (Kd.raw 3) 35 (.slice A5 rJ.length c5) rJ] ∧ KeepS N w w' := by
 have HL := Aside0.mk hL
 have O0 : Aside0 (Own N w [cells gj #[.int .i64 jo, .int .i64 jm, .slice AJ rJ.length cJ] 64, nrow (Kd.raw 3) 35 (.slice AJ rJ.length cJ) rJ]) := ⟨h⟩
 have K0 : Aside0 (KeepS N w w) := ⟨KeepS.refl _ _⟩
 have a0 := k3_ O0 0
 have d1 : decide (a3 < 1) = false := decide_eq_false (by omega)
 have d2 : decide (a3 > 16) = false := decide_eq_false (by omega)
 have d3 : decide (16 < a3) = false := d2
 clear h hL hm hm2
 go_enter Tryd.func54, Tryd.ntmps54
 go_wp2_with (first | ((with_reducible refine gD 17 rfl ?_); refine own_lit (Kd.raw 3) (N := N) (e := 35) (xs := []) (inner := []) rfl (D := 17) rfl gs_ (Reps.none _ _) (by simp) O0.out ?_; intro A0 c0 w1 o_ k_; obtain ⟨O1, K1⟩ := ok_ K0 o_ k_; clear a0 O0 K0 o_ k_; have a0 := k3_ O1 0) | ((with_reducible refine gate_builtin (b := .append) (xs := #[.tmp 17, .tmp 21]) rfl ?_); at_builtin; refine Own.append_flat (Kd.raw 3) flatRaw O1.out (i := 2) (ys := rJ) rfl ((O1.out.nreads (i := 1) rfl).2.2) rfl (.tmp 17) (.tmp 21) 40 ((.agg #[.int .i64 0, .int .i64 0, .slice none 0 0])) 40 rfl Tryd.underlying40 infoR rfl (by decide) (by decide) rfl rfl (by have := HL.out; simp only [List.length_nil]; omega) ?_; intro A5 c5 w2 o_ k_; obtain ⟨O2, K2⟩ := ok_ K1 o_ k_; clear a0 O1 K1 o_ k_; have a0 := k3_ O2 0) | ((with_reducible refine gD 24 rfl ?_); refine bP 24 #[.pointer (some ⟨gj, 0, none⟩), .int .i64 o, .int .i64 mtu, .int .i64 a3, .slice none 0 0, .slice A5 rJ.length c5, .slice none 0 0] 44 O2.out ?_; intro g w3 o_ k_; obtain ⟨O3, K3⟩ := ok_ K2 o_ k_; clear a0 O2 K2 o_ k_; have a0 := k3_ O3 0; have a3 := k7_ O3 3))
 go_ret
 exact ⟨g, A5, c5, rfl, O3.out.pickL [0, 1, 3, 2] (by decide) (by simp), K3.out⟩
theorem DResume {N : Nat → Prop} {w : World} {gj : Nat} {jo jm : Int} {AJ : Option Addr} {cJ : Nat} {rJ : List (List Value)} {g : Nat} {o mtu push : Int} {vk vp vo : Value} (h : Own N w [cells gj #[.int .i64 jo, .int .i64 jm, .slice AJ rJ.length cJ] 64, nrow (Kd.raw 3) 35 (.slice AJ rJ.length cJ) rJ, cells g #[.pointer (some ⟨gj, 0, none⟩), .int .i64 o, .int .i64 mtu, .int .i64 push, vk, vp, vo] 44]) (hL : rJ.length ≤ 1000000) :
  Calls Tryd.prog 61 #[.pointer (some ⟨g, 0, none⟩)] w fun e w' => ∃ A5 c5, e = .returned (.tuple #[]) ∧ Own N w' [cells gj #[.int .i64 jo, .int .i64 jm, .slice AJ rJ.length cJ] 64, nrow (Kd.raw 3) 35 (.slice AJ rJ.length cJ) rJ, cells g #[.pointer (some ⟨gj, 0, none⟩), .int .i64 o, .int .i64 mtu, .int .i64 push, .slice none 0 0, .slice A5 rJ.length c5, .slice none 0 0] 44, nrow (Kd.raw 3) 35 (.slice A5 rJ.length c5) rJ] ∧ KeepS N w w' := by
 have HL := Aside0.mk hL
 have O0 : Aside0 (Own N w [cells gj #[.int .i64 jo, .int .i64 jm, .slice AJ rJ.length cJ] 64, nrow (Kd.raw 3) 35 (.slice AJ rJ.length cJ) rJ, cells g #[.pointer (some ⟨gj, 0, none⟩), .int .i64 o, .int .i64 mtu, .int .i64 push, vk, vp, vo] 44]) := ⟨h⟩
 have K0 : Aside0 (KeepS N w w) := ⟨KeepS.refl _ _⟩
 have a0 := k3_ O0 0
 have a2 := k7_ O0 2
 clear h hL
 go_enter Tryd.func61, Tryd.ntmps61
 go_wp2_with (first | ((with_reducible refine gT 40 4 rfl ?_); refine wS 2 4 [.slice none 0 0] O0 ?_; intro w1 o_ k_; obtain ⟨O1, K1⟩ := ok_ K0 o_ k_; clear a0 a2 O0 K0 o_ k_; have a0 := k3_ O1 0; have a2 := k7_ O1 2) | ((with_reducible refine gT 33 7 rfl ?_); refine wS 2 6 [.slice none 0 0] O1 ?_; intro w2 o_ k_; obtain ⟨O2, K2⟩ := ok_ K1 o_ k_; clear a0 a2 O1 K1 o_ k_; have a0 := k3_ O2 0; have a2 := k7_ O2 2) | ((with_reducible refine gD 9 rfl ?_); refine own_lit (Kd.raw 3) (N := N) (e := 35) (xs := []) (inner := []) rfl (D := 9) rfl gs_ (Reps.none _ _) (by simp) O2.out ?_; intro A0 c0 w3 o_ k_; obtain ⟨O3, K3⟩ := ok_ K2 o_ k_; clear a0 a2 O2 K2 o_ k_; have a0 := k3_ O3 0; have a2 := k7_ O3 2) | ((with_reducible refine gate_builtin (b := .append) (xs := #[.tmp 9, .tmp 16]) rfl ?_); at_builtin; refine Own.append_flat (Kd.raw 3) flatRaw O3.out (i := 3) (ys := rJ) rfl ((O3.out.nreads (i := 1) rfl).2.2) rfl (.tmp 9) (.tmp 16) 40 ((.agg #[.int .i64 0, .int .i64 0, .slice none 0 0])) 40 rfl Tryd.underlying40 infoR rfl (by decide) (by decide) rfl rfl (by have := HL.out; simp only [List.length_nil]; omega) ?_; intro A5 c5 w4 o_ k_; obtain ⟨O4, K4⟩ := ok_ K3 o_ k_; clear a0 a2 O3 K3 o_ k_; have a0 := k3_ O4 0; have a2 := k7_ O4 2) | ((with_reducible refine gT 40 19 rfl ?_); refine wS 2 5 [.slice A5 rJ.length c5] O4 ?_; intro w5 o_ k_; obtain ⟨O5, K5⟩ := ok_ K4 o_ k_; clear a0 a2 O4 K4 o_ k_; have a0 := k3_ O5 0; have a2 := k7_ O5 2))
 first | go_end0 | go_ret
 exact ⟨A5, c5, rfl, O5.out, K5.out⟩
theorem cut1 (A : Option Addr) (n c : Nat) (h : 1 ≤ n) : ∀ W : World, (Instr.slice 40 (.slice A n c) (some (.int .i64 1)) none none).run Tryd.prog W = .ok (.slice (if c = 1 then A else A.map (·.add (1 * 3))) (n - 1) (c - 1)) W := by
 obtain ⟨i0, hi0, hz⟩ := Option.map_eq_some_iff.1 infoR
 have hsz : i0.size = 3 := by
  simp only [Prod.mk.injEq] at hz
  exact hz.2.1
 exact cut_from 40 35 .i64 Tryd.underlying40 hi0 3 hsz A n c 1 (by decide) (by omega)
theorem headN {w : World} {ad : Addr} {P : List Rnd7} (h : Kd.C k35 w (some ad) P.length P) (hp : P.length ≠ 0) : w.cell? ⟨ad.block, ad.off + 1, none⟩ = some (.int .i64 (rd_T35 P 0).f1) := by
 obtain ⟨ad', A2, c2, e, y0, y1, y2⟩ := at_T35 h 0 (by decide) (by omega)
 cases e
 have e0 : (ad.add ((0 : Int).toNat * 3)) = ad := by
  show ad.add 0 = ad
  simp [Addr.add]
 rw [e0] at y1
 exact y1
theorem CTake_none {N : Nat → Prop} {w : World} {g : Nat} {jp : Value} {o mtu push : Int} {K P : List Rnd7} {U : List Upd7} (r0 r1 : Int) (B : Option Addr) (cb : Nat) (us : List Upd7) (h : Own N w [CliO g jp o mtu push K P U]) (hr : Kd.F k32 w N B us.length us) (hc : us.length ≤ cb) (hu : us.length ≤ 1000000) (hL : K.length ≤ 1000000) (ho : r0 = o) (hp : P.length = 0) :
  Calls Tryd.prog 32 #[.pointer (some ⟨g, 0, none⟩), .agg #[.int .i64 r0, .int .i64 r1, .slice B us.length cb]] w fun e_ w' => e_ = .returned (.int .i64 10) ∧ Own N w' [CliO g jp o mtu push K P U] ∧ KeepS N w w' := by
 have d1 : (r0 == o) = true := beq_iff_eq.mpr ho
 have d2 : ((P.length : Int) == 0) = true := by simp [hp]
 have HR_0 : Aside0 (Kd.F k32 w N B us.length us) := ⟨hr⟩
 have HC := Aside0.mk hc
 have HU := Aside0.mk hu
 have HL := Aside0.mk hL
 obtain ⟨A4, c4, A5, c5, A6, c6, hcap, h2⟩ := CliO.open_ h
 have HCAP := Aside0.mk hcap
 have O0 : Aside0 (Own N w [cells g #[jp, .int .i64 o, .int .i64 mtu, .int .i64 push, .slice A4 K.length c4, .slice A5 P.length c5, .slice A6 U.length c6] 111, nrow k32 32 (.slice A6 U.length c6) U, qrow k35 35 (.slice A5 P.length c5) P, qrow k35 35 (.slice A4 K.length c4) K]) := ⟨h2⟩
 have K0 : Aside0 (KeepS N w w) := ⟨KeepS.refl _ _⟩
 have a0 := k7_ O0 0
 clear h2 h hr hc hu hL hcap ho hp
 go_enter Tryd.func32, Tryd.ntmps32
 go_wp2_with (first | ((with_reducible refine gD 3 rfl ?_); refine bP 3 #[.int .i64 r0, .int .i64 r1, .slice B us.length cb] 35 O0.out ?_; intro gr w1 o_ k_; obtain ⟨O1, K1⟩ := ok_ K0 o_ k_; have HR_1 := Aside0.mk (keepF HR_0.out k_); clear a0 O0 K0 HR_0 o_ k_; have a0 := k7_ O1 0; have a4 := k3_ O1 4))
 refine sP (n := 7) (S := d7_ g (jp) (.int .i64 o) (.int .i64 mtu) (.int .i64 push) (.slice A4 K.length c4) (.slice A5 P.length c5) (.slice A6 U.length c6) (c3_ gr (.int .i64 r0) (.int .i64 r1) (.slice B us.length cb))) (ds := []) (j7_ a0 (p3_ a4)) (fun hHeld => ?_)
 obtain ⟨w2, hw_⟩ : ∃ W, W = w1.drew := ⟨_, rfl⟩
 have o_ := O1.out.drew
 have k_ : KeepS N w1 w1.drew := KeepS.drew
 rw [← hw_] at o_ k_ hHeld ⊢
 clear hw_
 obtain ⟨O2, K2⟩ := ok_ K1 o_ k_
 have HR_2 := Aside0.mk (keepF HR_1.out k_)
 clear a0 a4 O1 K1 HR_1 o_ k_
 have a0 := k7_ O2 0
 have a4 := k3_ O2 4
 refine pP 0 (some 5) ?_
 refine pP 2 (some 7) ?_
 refine pP 3 (some 8) ?_
 refine pP 4 (some 9) ?_
 refine tP 1 (some 6) hHeld ?_
 refine tP 5 (some 10) hHeld ?_
 refine pP 6 (some 11) ?_
 refine done_ (by kernel_rfl) ?_
 clear hHeld
 go_wp2
 refine sP (n := 18) (S := d7_ g (jp) (.int .i64 o) (.int .i64 mtu) (.int .i64 push) (.slice A4 K.length c4) (.slice A5 P.length c5) (.slice A6 U.length c6) (c3_ gr (.int .i64 r0) (.int .i64 r1) (.slice B us.length cb))) (ds := []) (j7_ a0 (p3_ a4)) (fun hHeld => ?_)
 obtain ⟨w3, hw_⟩ : ∃ W, W = w2.drew := ⟨_, rfl⟩
 have o_ := O2.out.drew
 have k_ : KeepS N w2 w2.drew := KeepS.drew
 rw [← hw_] at o_ k_ hHeld ⊢
 clear hw_
 obtain ⟨O3, K3⟩ := ok_ K2 o_ k_
 have HR_3 := Aside0.mk (keepF HR_2.out k_)
 clear a0 a4 O2 K2 HR_2 o_ k_
 have a0 := k7_ O3 0
 have a4 := k3_ O3 4
 refine pP 0 (some 12) ?_
 refine pP 1 (some 13) ?_
 refine pP 2 (some 14) ?_
 refine tP 3 (some 15) hHeld ?_
 refine pP 4 (some 16) ?_
 refine pP 5 (some 17) ?_
 refine pP 6 (some 18) ?_
 refine pS 7 (some 19) ?_
 refine pS 8 (some 20) ?_
 refine pS 9 (some 21) ?_
 refine pS 14 (some 26) ?_
 refine tS 10 (some 22) hHeld ?_
 refine pS 11 (some 23) ?_
 refine pS 12 (some 24) ?_
 refine tS 13 (some 25) hHeld ?_
 refine tS 15 (some 27) hHeld ?_
 refine pS 16 (some 28) ?_
 refine pP 17 (some 29) ?_
 refine done_ (by kernel_rfl) ?_
 clear hHeld
 go_wp2
 go_ret
 exact ⟨rfl, (CliO.shut (O3.out.pickL [0, 3, 2, 1] (by decide) (by simp))).take 1, K3.out⟩
theorem CTake_wrong {N : Nat → Prop} {w : World} {g : Nat} {jp : Value} {o mtu push : Int} {K P : List Rnd7} {U : List Upd7} (r0 r1 : Int) (B : Option Addr) (cb : Nat) (us : List Upd7) (h : Own N w [CliO g jp o mtu push K P U]) (hr : Kd.F k32 w N B us.length us) (hc : us.length ≤ cb) (hu : us.length ≤ 1000000) (hL : K.length ≤ 1000000) (ho : r0 = o) (hp : P.length ≠ 0) (hn : (rd_T35 P 0).f1 ≠ r1) :
  Calls Tryd.prog 32 #[.pointer (some ⟨g, 0, none⟩), .agg #[.int .i64 r0, .int .i64 r1, .slice B us.length cb]] w fun e_ w' => e_ = .returned (.int .i64 10) ∧ Own N w' [CliO g jp o mtu push K P U] ∧ KeepS N w w' := by
 have d1 : (r0 == o) = true := beq_iff_eq.mpr ho
 have d2 : ((P.length : Int) == 0) = false := beq_eq_false_iff_ne.mpr (by omega)
 have d3 : ((rd_T35 P 0).f1 != r1) = true := bne_iff_ne.mpr hn
 have HR_0 : Aside0 (Kd.F k32 w N B us.length us) := ⟨hr⟩
 have HC := Aside0.mk hc
 have HU := Aside0.mk hu
 have HL := Aside0.mk hL
 obtain ⟨A4, c4, A5, c5, A6, c6, hcap, h2⟩ := CliO.open_ h
 have HCAP := Aside0.mk hcap
 have hq_ := (h2.qreads (i := 2) rfl).2.2
 obtain ⟨ad, Ah, ch, e5, y0, y1, y2⟩ := at_T35 hq_ 0 (by decide) (by omega)
 cases e5
 clear hq_ y0 y1 y2
 have hq1 : ((0 : Int) < (P.length : Int)) = True := eq_true (by omega)
 have hq2 : (0 < P.length) = True := eq_true (by omega)
 have O0 : Aside0 (Own N w [cells g #[jp, .int .i64 o, .int .i64 mtu, .int .i64 push, .slice A4 K.length c4, .slice (some ad) P.length c5, .slice A6 U.length c6] 111, nrow k32 32 (.slice A6 U.length c6) U, qrow k35 35 (.slice (some ad) P.length c5) P, qrow k35 35 (.slice A4 K.length c4) K]) := ⟨h2⟩
 have K0 : Aside0 (KeepS N w w) := ⟨KeepS.refl _ _⟩
 have a0 := k7_ O0 0
 clear h2 h hr hc hu hL hcap ho
 have HPN := Aside0.mk hp
 clear hp hn
 go_enter Tryd.func32, Tryd.ntmps32
 go_wp2_with (first | ((with_reducible refine gD 3 rfl ?_); refine bP 3 #[.int .i64 r0, .int .i64 r1, .slice B us.length cb] 35 O0.out ?_; intro gr w1 o_ k_; obtain ⟨O1, K1⟩ := ok_ K0 o_ k_; have HR_1 := Aside0.mk (keepF HR_0.out k_); clear a0 O0 K0 HR_0 o_ k_; have a0 := k7_ O1 0; have a4 := k3_ O1 4))
 refine sP (n := 7) (S := d7_ g (jp) (.int .i64 o) (.int .i64 mtu) (.int .i64 push) (.slice A4 K.length c4) (.slice (some ad) P.length c5) (.slice A6 U.length c6) (c3_ gr (.int .i64 r0) (.int .i64 r1) (.slice B us.length cb))) (ds := []) (j7_ a0 (p3_ a4)) (fun hHeld => ?_)
 obtain ⟨w2, hw_⟩ : ∃ W, W = w1.drew := ⟨_, rfl⟩
 have o_ := O1.out.drew
 have k_ : KeepS N w1 w1.drew := KeepS.drew
 rw [← hw_] at o_ k_ hHeld ⊢
 clear hw_
 obtain ⟨O2, K2⟩ := ok_ K1 o_ k_
 have HR_2 := Aside0.mk (keepF HR_1.out k_)
 clear a0 a4 O1 K1 HR_1 o_ k_
 have a0 := k7_ O2 0
 have a4 := k3_ O2 4
 refine pP 0 (some 5) ?_
 refine pP 2 (some 7) ?_
 refine pP 3 (some 8) ?_
 refine pP 4 (some 9) ?_
 refine tP 1 (some 6) hHeld ?_
 refine tP 5 (some 10) hHeld ?_
 refine pP 6 (some 11) ?_
 refine done_ (by kernel_rfl) ?_
 clear hHeld
 go_wp2
 refine sP (n := 18) (S := fun w' => w'.cell? ⟨g, 0, none⟩ = some (jp) ∧ w'.cell? ⟨g, 1, none⟩ = some (.int .i64 o) ∧ w'.cell? ⟨g, 2, none⟩ = some (.int .i64 mtu) ∧ w'.cell? ⟨g, 3, none⟩ = some (.int .i64 push) ∧ w'.cell? ⟨g, 4, none⟩ = some (.slice A4 K.length c4) ∧ w'.cell? ⟨g, 5, none⟩ = some (.slice (some ad) P.length c5) ∧ w'.cell? ⟨g, 6, none⟩ = some (.slice A6 U.length c6) ∧ w'.cell? ⟨gr, 0, none⟩ = some (.int .i64 r0) ∧ w'.cell? ⟨gr, 1, none⟩ = some (.int .i64 r1) ∧ w'.cell? ⟨gr, 2, none⟩ = some (.slice B us.length cb) ∧ w'.cell? ⟨ad.block, ad.off + 1, none⟩ = some (.int .i64 (rd_T35 P 0).f1)) (ds := []) ⟨a0.1, a0.2.1, a0.2.2.1, a0.2.2.2.1, a0.2.2.2.2.1, a0.2.2.2.2.2.1, a0.2.2.2.2.2.2.1, a4.1, a4.2.1, a4.2.2.1, (headN (O2.out.drew.qreads (i := 2) rfl).2.2 HPN.out)⟩ (fun hHeld => ?_)
 obtain ⟨w3, hw_⟩ : ∃ W, W = w2.drew := ⟨_, rfl⟩
 have o_ := O2.out.drew
 have k_ : KeepS N w2 w2.drew := KeepS.drew
 rw [← hw_] at o_ k_ hHeld ⊢
 clear hw_
 obtain ⟨O3, K3⟩ := ok_ K2 o_ k_
 have HR_3 := Aside0.mk (keepF HR_2.out k_)
 clear a0 a4 O2 K2 HR_2 o_ k_
 have a0 := k7_ O3 0
 have a4 := k3_ O3 4
 refine pP 0 (some 12) ?_
 refine pP 1 (some 13) ?_
 refine pP 2 (some 14) ?_
 refine tP 3 (some 15) hHeld ?_
 refine pP 4 (some 16) ?_
 refine pP 5 (some 17) ?_
 refine pP 6 (some 18) ?_
 refine pP 7 (some 19) ?_
 refine pP 8 (some 20) ?_
 refine pP 9 (some 21) ?_
 refine pP 14 (some 26) ?_
 refine tP 10 (some 22) hHeld ?_
 refine pP 11 (some 23) ?_
 refine pP 12 (some 24) ?_
 refine tP 13 (some 25) hHeld ?_
 refine tP 15 (some 27) hHeld ?_
 refine pP 16 (some 28) ?_
 refine pP 17 (some 29) ?_
 refine done_ (by kernel_rfl) ?_
 clear hHeld
 go_wp2
 go_ret
 exact ⟨rfl, (CliO.shut (O3.out.pickL [0, 3, 2, 1] (by decide) (by simp))).take 1, K3.out⟩
theorem CTake_own {N : Nat → Prop} {w : World} {g : Nat} {jp : Value} {o mtu push : Int} {K P : List Rnd7} {U : List Upd7} (r0 r1 : Int) (B : Option Addr) (cb : Nat) (us : List Upd7) (h : Own N w [CliO g jp o mtu push K P U]) (hr : Kd.F k32 w N B us.length us) (hc : us.length ≤ cb) (hu : us.length ≤ 1000000) (hL : K.length ≤ 1000000) (ho : r0 = o) (hp : P.length ≠ 0) (hn : (rd_T35 P 0).f1 = r1) :
  Calls Tryd.prog 32 #[.pointer (some ⟨g, 0, none⟩), .agg #[.int .i64 r0, .int .i64 r1, .slice B us.length cb]] w fun e_ w' => e_ = .returned (.int .i64 0) ∧ Own N w' [CliO g jp o mtu push (K ++ [(⟨r0, r1, us⟩ : Rnd7)]) (P.drop 1) U] ∧ KeepS N w w' := by
 have d1 : (r0 == o) = true := beq_iff_eq.mpr ho
 have d2 : ((P.length : Int) == 0) = false := beq_eq_false_iff_ne.mpr (by omega)
 have d3 : ((rd_T35 P 0).f1 != r1) = false := by simp [hn]
 have HR_0 : Aside0 (Kd.F k32 w N B us.length us) := ⟨hr⟩
 have HC := Aside0.mk hc
 have HU := Aside0.mk hu
 have HL := Aside0.mk hL
 obtain ⟨A4, c4, A5, c5, A6, c6, hcap, h2⟩ := CliO.open_ h
 have HCAP := Aside0.mk hcap
 have hq_ := (h2.qreads (i := 2) rfl).2.2
 obtain ⟨ad, Ah, ch, e5, y0, y1, y2⟩ := at_T35 hq_ 0 (by decide) (by omega)
 cases e5
 clear hq_ y0 y1 y2
 have hq1 : ((0 : Int) < (P.length : Int)) = True := eq_true (by omega)
 have hq2 : (0 < P.length) = True := eq_true (by omega)
 have O0 : Aside0 (Own N w [cells g #[jp, .int .i64 o, .int .i64 mtu, .int .i64 push, .slice A4 K.length c4, .slice (some ad) P.length c5, .slice A6 U.length c6] 111, nrow k32 32 (.slice A6 U.length c6) U, qrow k35 35 (.slice (some ad) P.length c5) P, qrow k35 35 (.slice A4 K.length c4) K]) := ⟨h2⟩
 have K0 : Aside0 (KeepS N w w) := ⟨KeepS.refl _ _⟩
 have a0 := k7_ O0 0
 clear h2 h hr hc hu hL hcap ho
 have HPN := Aside0.mk hp
 clear hp hn
 go_enter Tryd.func32, Tryd.ntmps32
 go_wp2_with (first | ((with_reducible refine gD 3 rfl ?_); refine bP 3 #[.int .i64 r0, .int .i64 r1, .slice B us.length cb] 35 O0.out ?_; intro gr w1 o_ k_; obtain ⟨O1, K1⟩ := ok_ K0 o_ k_; have HR_1 := Aside0.mk (keepF HR_0.out k_); clear a0 O0 K0 HR_0 o_ k_; have a0 := k7_ O1 0; have a4 := k3_ O1 4))
 refine sP (n := 7) (S := d7_ g (jp) (.int .i64 o) (.int .i64 mtu) (.int .i64 push) (.slice A4 K.length c4) (.slice (some ad) P.length c5) (.slice A6 U.length c6) (c3_ gr (.int .i64 r0) (.int .i64 r1) (.slice B us.length cb))) (ds := []) (j7_ a0 (p3_ a4)) (fun hHeld => ?_)
 obtain ⟨w2, hw_⟩ : ∃ W, W = w1.drew := ⟨_, rfl⟩
 have o_ := O1.out.drew
 have k_ : KeepS N w1 w1.drew := KeepS.drew
 rw [← hw_] at o_ k_ hHeld ⊢
 clear hw_
 obtain ⟨O2, K2⟩ := ok_ K1 o_ k_
 have HR_2 := Aside0.mk (keepF HR_1.out k_)
 clear a0 a4 O1 K1 HR_1 o_ k_
 have a0 := k7_ O2 0
 have a4 := k3_ O2 4
 refine pP 0 (some 5) ?_
 refine pP 2 (some 7) ?_
 refine pP 3 (some 8) ?_
 refine pP 4 (some 9) ?_
 refine tP 1 (some 6) hHeld ?_
 refine tP 5 (some 10) hHeld ?_
 refine pP 6 (some 11) ?_
 refine done_ (by kernel_rfl) ?_
 clear hHeld
 go_wp2
 refine sP (n := 18) (S := fun w' => w'.cell? ⟨g, 0, none⟩ = some (jp) ∧ w'.cell? ⟨g, 1, none⟩ = some (.int .i64 o) ∧ w'.cell? ⟨g, 2, none⟩ = some (.int .i64 mtu) ∧ w'.cell? ⟨g, 3, none⟩ = some (.int .i64 push) ∧ w'.cell? ⟨g, 4, none⟩ = some (.slice A4 K.length c4) ∧ w'.cell? ⟨g, 5, none⟩ = some (.slice (some ad) P.length c5) ∧ w'.cell? ⟨g, 6, none⟩ = some (.slice A6 U.length c6) ∧ w'.cell? ⟨gr, 0, none⟩ = some (.int .i64 r0) ∧ w'.cell? ⟨gr, 1, none⟩ = some (.int .i64 r1) ∧ w'.cell? ⟨gr, 2, none⟩ = some (.slice B us.length cb) ∧ w'.cell? ⟨ad.block, ad.off + 1, none⟩ = some (.int .i64 (rd_T35 P 0).f1)) (ds := []) ⟨a0.1, a0.2.1, a0.2.2.1, a0.2.2.2.1, a0.2.2.2.2.1, a0.2.2.2.2.2.1, a0.2.2.2.2.2.2.1, a4.1, a4.2.1, a4.2.2.1, (headN (O2.out.drew.qreads (i := 2) rfl).2.2 HPN.out)⟩ (fun hHeld => ?_)
 obtain ⟨w3, hw_⟩ : ∃ W, W = w2.drew := ⟨_, rfl⟩
 have o_ := O2.out.drew
 have k_ : KeepS N w2 w2.drew := KeepS.drew
 rw [← hw_] at o_ k_ hHeld ⊢
 clear hw_
 obtain ⟨O3, K3⟩ := ok_ K2 o_ k_
 have HR_3 := Aside0.mk (keepF HR_2.out k_)
 clear a0 a4 O2 K2 HR_2 o_ k_
 have a0 := k7_ O3 0
 have a4 := k3_ O3 4
 refine pP 0 (some 12) ?_
 refine pP 1 (some 13) ?_
 refine pP 2 (some 14) ?_
 refine tP 3 (some 15) hHeld ?_
 refine pP 4 (some 16) ?_
 refine pP 5 (some 17) ?_
 refine pP 6 (some 18) ?_
 refine pP 7 (some 19) ?_
 refine pP 8 (some 20) ?_
 refine pP 9 (some 21) ?_
 refine pP 14 (some 26) ?_
 refine tP 10 (some 22) hHeld ?_
 refine pP 11 (some 23) ?_
 refine pP 12 (some 24) ?_
 refine tP 13 (some 25) hHeld ?_
 refine tP 15 (some 27) hHeld ?_
 refine pP 16 (some 28) ?_
 refine pP 17 (some 29) ?_
 refine done_ (by kernel_rfl) ?_
 clear hHeld
 obtain ⟨A9, hA9⟩ : ∃ A9, A9 = (if c5 = 1 then (some ad : Option Addr) else (some ad : Option Addr).map (·.add (1 * 3))) := ⟨_, rfl⟩
 have HCUT : ∀ W_ : World, (Instr.slice 40 (.slice (some ad) P.length c5) (some (.int .i64 1)) none none).run Tryd.prog W_ = .ok (.slice A9 (P.length - 1) (c5 - 1)) W_ := by rw [hA9]; exact cut1 _ _ _ (by have := HPN.out; omega)
 have o9_ := O3.out.qdrop (i := 2) rfl 1 (by have := HPN.out; omega)
 rw [show k35.sz = 3 from rfl, ← hA9] at o9_
 have O4 : Aside0 (Own N w3 [cells g #[jp, .int .i64 o, .int .i64 mtu, .int .i64 push, .slice A4 K.length c4, .slice (some ad) P.length c5, .slice A6 U.length c6] 111, nrow k32 32 (.slice A6 U.length c6) U, qrow k35 35 (.slice A9 (P.length - 1) (c5 - 1)) (P.drop 1), qrow k35 35 (.slice A4 K.length c4) K, cells gr #[.int .i64 r0, .int .i64 r1, .slice B us.length cb] 35]) := ⟨o9_⟩
 clear o9_ hA9 O3
 go_wp2_with (first | ((with_reducible refine gT 40 37 rfl ?_); refine wS 0 5 [.slice A9 (P.length - 1) (c5 - 1)] O4 ?_; intro w5 o_ k_; obtain ⟨O5, K5⟩ := ok_ K3 o_ k_; have HR_5 := Aside0.mk (keepF HR_3.out k_); clear a0 a4 O4 K3 HR_3 o_ k_; have a0 := k7_ O5 0; have a4 := k3_ O5 4))
 refine sP (n := 12) (S := d7_ g (jp) (.int .i64 o) (.int .i64 mtu) (.int .i64 push) (.slice A4 K.length c4) (.slice A9 (P.length - 1) (c5 - 1)) (.slice A6 U.length c6) (c3_ gr (.int .i64 r0) (.int .i64 r1) (.slice B us.length cb))) (ds := [8, 11]) (j7_ a0 (p3_ a4)) (fun hHeld => ?_)
 obtain ⟨w6, hw_⟩ : ∃ W, W = w5.drew := ⟨_, rfl⟩
 have o_ := O5.out.drew
 have k_ : KeepS N w5 w5.drew := KeepS.drew
 rw [← hw_] at o_ k_ hHeld ⊢
 clear hw_
 obtain ⟨O6, K6⟩ := ok_ K5 o_ k_
 have HR_6 := Aside0.mk (keepF HR_5.out k_)
 clear a0 a4 O5 K5 HR_5 o_ k_
 have a0 := k7_ O6 0
 have a4 := k3_ O6 4
 refine pP 0 (some 38) ?_
 refine pP 1 (some 39) ?_
 refine pP 2 (some 40) ?_
 refine pP 3 (some 41) ?_
 refine tP 4 (some 42) hHeld ?_
 refine tP 5 (some 43) hHeld ?_
 refine oP 6 (some 44) (fun K_ hK_ => ?_)
 refine hP Tryd.func72 #[.agg #[.int .i64 r0, .int .i64 r1, .slice B us.length cb]] ?_
 refine (round_Copy.calls r0 r1 _ _ us r0 r1 us _ (Kd.F_now HR_6.out) HC.out (copyC _ _ _ HU.out)).mono ?_
 rintro e_ w7 ⟨v_, rfl, hR_, hb_⟩
 obtain ⟨A1, c1, e__⟩ := Kd.R_slice hR_
 subst e__
 refine ⟨_, rfl, ?_⟩
 have o_ := O6.out.pushW hb_ (Nat.le_refl _) hR_
 have k_ := KeepS.of_below (N := N) hb_
 have o2_ := rowElem (⟨r0, r1, us⟩ : Rnd7) (i := 5) o_ rfl
 obtain ⟨O7, K7⟩ := ok_ K6 o2_ k_
 have HR_7 := Aside0.mk (keepF HR_6.out k_)
 clear a0 a4 O6 K6 HR_6 o_ k_ hb_ hR_ o2_
 have a0 := k7_ O7 0
 have a4 := k3_ O7 4
 clear hHeld
 refine hK_.out _ _ (j7_ a0 (p3_ a4)) (fun hHeld => ?_)
 clear hK_ K_
 refine nP ?_
 refine oP 7 (some 45) (fun K_ hK_ => ?_)
 refine value_ rfl rfl (w1 := (World.alloc w7 (.cells [.int .i64 ((⟨r0, r1, us⟩ : Rnd7)).f0, .int .i64 ((⟨r0, r1, us⟩ : Rnd7)).f1, .slice A1 us.length c1].toArray 35))) (v := .slice (some ⟨w7.heap.size, 0, none⟩) 1 1) gs_ ?_
 clear hHeld
 refine hK_.out _ _ ⟨(pw_cell_below ((Below.refl _ _).alloc (Nat.le_refl _) _) a0.1), (pw_cell_below ((Below.refl _ _).alloc (Nat.le_refl _) _) a0.2.1), (pw_cell_below ((Below.refl _ _).alloc (Nat.le_refl _) _) a0.2.2.1), (pw_cell_below ((Below.refl _ _).alloc (Nat.le_refl _) _) a0.2.2.2.1), (pw_cell_below ((Below.refl _ _).alloc (Nat.le_refl _) _) a0.2.2.2.2.1), (pw_cell_below ((Below.refl _ _).alloc (Nat.le_refl _) _) a0.2.2.2.2.2.1), (pw_cell_below ((Below.refl _ _).alloc (Nat.le_refl _) _) a0.2.2.2.2.2.2.1), (pw_cell_below ((Below.refl _ _).alloc (Nat.le_refl _) _) a4.1), (pw_cell_below ((Below.refl _ _).alloc (Nat.le_refl _) _) a4.2.1), (pw_cell_below ((Below.refl _ _).alloc (Nat.le_refl _) _) a4.2.2.1)⟩ (fun hHeld => ?_)
 clear hK_ K_
 refine nP ?_
 refine lP 8 (some 46) (fun K_ hK_ => ?_)
 refine appendQ_step k35 O7.out (i := 3) (j := 5) rfl rfl (by decide) rfl rfl (.tmp 42) (.tmp 45) 40 (.agg #[.int .i64 0, .int .i64 0, .slice none 0 0]) 40 rfl Tryd.underlying40 infoR rfl (by decide) (by decide) rfl rfl (by have := HL.out; omega) ?_
 intro A2 c2 w8 o_ k_
 obtain ⟨O8, K8⟩ := ok_ K7 o_ k_
 have HR_8 := Aside0.mk (keepF HR_7.out k_)
 clear a0 a4 O7 K7 HR_7 o_ k_
 have a0 := k7_ O8 0
 have a4 := k3_ O8 4
 refine hK_.out _ _ ?_
 clear hK_ K_
 refine nP ?_
 refine pP 9 (some 47) ?_
 refine pP 10 (some 48) ?_
 refine lP 11 none (fun K_ hK_ => ?_)
 refine xS 0 4 [.slice A2 (K.length + 1) c2] O8 ?_
 intro w9 o_ k_
 obtain ⟨O9, K9⟩ := ok_ K8 o_ k_
 have HR_9 := Aside0.mk (keepF HR_8.out k_)
 clear a0 a4 O8 K8 HR_8 o_ k_
 have a0 := k7_ O9 0
 have a4 := k3_ O9 4
 refine hK_.out _ _ ?_
 clear hK_ K_
 refine done_ (by kernel_rfl) ?_
 clear hHeld
 go_wp2
 go_ret
 exact ⟨rfl, (CliO.shut (O9.out.pickL [0, 3, 2, 1] (by decide) (by simp))).take 1, K9.out⟩
theorem CTake_other {N : Nat → Prop} {w : World} {g : Nat} {jp : Value} {o mtu push : Int} {K P : List Rnd7} {U : List Upd7} (r0 r1 : Int) (B : Option Addr) (cb : Nat) (us : List Upd7) (h : Own N w [CliO g jp o mtu push K P U]) (hr : Kd.F k32 w N B us.length us) (hc : us.length ≤ cb) (hu : us.length ≤ 1000000) (hL : K.length ≤ 1000000) (ho : r0 ≠ o) :
  Calls Tryd.prog 32 #[.pointer (some ⟨g, 0, none⟩), .agg #[.int .i64 r0, .int .i64 r1, .slice B us.length cb]] w fun e_ w' => e_ = .returned (.int .i64 0) ∧ Own N w' [CliO g jp o mtu push (K ++ [(⟨r0, r1, us⟩ : Rnd7)]) P U] ∧ KeepS N w w' := by
 have d1 : (r0 == o) = false := beq_eq_false_iff_ne.mpr ho
 have HR_0 : Aside0 (Kd.F k32 w N B us.length us) := ⟨hr⟩
 have HC := Aside0.mk hc
 have HU := Aside0.mk hu
 have HL := Aside0.mk hL
 obtain ⟨A4, c4, A5, c5, A6, c6, hcap, h2⟩ := CliO.open_ h
 have HCAP := Aside0.mk hcap
 have O0 : Aside0 (Own N w [cells g #[jp, .int .i64 o, .int .i64 mtu, .int .i64 push, .slice A4 K.length c4, .slice A5 P.length c5, .slice A6 U.length c6] 111, nrow k32 32 (.slice A6 U.length c6) U, qrow k35 35 (.slice A5 P.length c5) P, qrow k35 35 (.slice A4 K.length c4) K]) := ⟨h2⟩
 have K0 : Aside0 (KeepS N w w) := ⟨KeepS.refl _ _⟩
 have a0 := k7_ O0 0
 clear h2 h hr hc hu hL hcap ho
 go_enter Tryd.func32, Tryd.ntmps32
 go_wp2_with (first | ((with_reducible refine gD 3 rfl ?_); refine bP 3 #[.int .i64 r0, .int .i64 r1, .slice B us.length cb] 35 O0.out ?_; intro gr w1 o_ k_; obtain ⟨O1, K1⟩ := ok_ K0 o_ k_; have HR_1 := Aside0.mk (keepF HR_0.out k_); clear a0 O0 K0 HR_0 o_ k_; have a0 := k7_ O1 0; have a4 := k3_ O1 4))
 refine sP (n := 7) (S := d7_ g (jp) (.int .i64 o) (.int .i64 mtu) (.int .i64 push) (.slice A4 K.length c4) (.slice A5 P.length c5) (.slice A6 U.length c6) (c3_ gr (.int .i64 r0) (.int .i64 r1) (.slice B us.length cb))) (ds := []) (j7_ a0 (p3_ a4)) (fun hHeld => ?_)
 obtain ⟨w2, hw_⟩ : ∃ W, W = w1.drew := ⟨_, rfl⟩
 have o_ := O1.out.drew
 have k_ : KeepS N w1 w1.drew := KeepS.drew
 rw [← hw_] at o_ k_ hHeld ⊢
 clear hw_
 obtain ⟨O2, K2⟩ := ok_ K1 o_ k_
 have HR_2 := Aside0.mk (keepF HR_1.out k_)
 clear a0 a4 O1 K1 HR_1 o_ k_
 have a0 := k7_ O2 0
 have a4 := k3_ O2 4
 refine pP 0 (some 5) ?_
 refine pP 2 (some 7) ?_
 refine pP 3 (some 8) ?_
 refine pP 4 (some 9) ?_
 refine tP 1 (some 6) hHeld ?_
 refine tP 5 (some 10) hHeld ?_
 refine pP 6 (some 11) ?_
 refine done_ (by kernel_rfl) ?_
 clear hHeld
 go_wp2
 refine sP (n := 12) (S := d7_ g (jp) (.int .i64 o) (.int .i64 mtu) (.int .i64 push) (.slice A4 K.length c4) (.slice A5 P.length c5) (.slice A6 U.length c6) (c3_ gr (.int .i64 r0) (.int .i64 r1) (.slice B us.length cb))) (ds := [8, 11]) (j7_ a0 (p3_ a4)) (fun hHeld => ?_)
 obtain ⟨w3, hw_⟩ : ∃ W, W = w2.drew := ⟨_, rfl⟩
 have o_ := O2.out.drew
 have k_ : KeepS N w2 w2.drew := KeepS.drew
 rw [← hw_] at o_ k_ hHeld ⊢
 clear hw_
 obtain ⟨O3, K3⟩ := ok_ K2 o_ k_
 have HR_3 := Aside0.mk (keepF HR_2.out k_)
 clear a0 a4 O2 K2 HR_2 o_ k_
 have a0 := k7_ O3 0
 have a4 := k3_ O3 4
 refine pP 0 (some 38) ?_
 refine pP 1 (some 39) ?_
 refine pP 2 (some 40) ?_
 refine pP 3 (some 41) ?_
 refine tP 4 (some 42) hHeld ?_
 refine tP 5 (some 43) hHeld ?_
 refine oP 6 (some 44) (fun K_ hK_ => ?_)
 refine hP Tryd.func72 #[.agg #[.int .i64 r0, .int .i64 r1, .slice B us.length cb]] ?_
 refine (round_Copy.calls r0 r1 _ _ us r0 r1 us _ (Kd.F_now HR_3.out) HC.out (copyC _ _ _ HU.out)).mono ?_
 rintro e_ w4 ⟨v_, rfl, hR_, hb_⟩
 obtain ⟨A1, c1, e__⟩ := Kd.R_slice hR_
 subst e__
 refine ⟨_, rfl, ?_⟩
 have o_ := O3.out.pushW hb_ (Nat.le_refl _) hR_
 have k_ := KeepS.of_below (N := N) hb_
 have o2_ := rowElem (⟨r0, r1, us⟩ : Rnd7) (i := 5) o_ rfl
 obtain ⟨O4, K4⟩ := ok_ K3 o2_ k_
 have HR_4 := Aside0.mk (keepF HR_3.out k_)
 clear a0 a4 O3 K3 HR_3 o_ k_ hb_ hR_ o2_
 have a0 := k7_ O4 0
 have a4 := k3_ O4 4
 clear hHeld
 refine hK_.out _ _ (j7_ a0 (p3_ a4)) (fun hHeld => ?_)
 clear hK_ K_
 refine nP ?_
 refine oP 7 (some 45) (fun K_ hK_ => ?_)
 refine value_ rfl rfl (w1 := (World.alloc w4 (.cells [.int .i64 ((⟨r0, r1, us⟩ : Rnd7)).f0, .int .i64 ((⟨r0, r1, us⟩ : Rnd7)).f1, .slice A1 us.length c1].toArray 35))) (v := .slice (some ⟨w4.heap.size, 0, none⟩) 1 1) gs_ ?_
 clear hHeld
 refine hK_.out _ _ ⟨(pw_cell_below ((Below.refl _ _).alloc (Nat.le_refl _) _) a0.1), (pw_cell_below ((Below.refl _ _).alloc (Nat.le_refl _) _) a0.2.1), (pw_cell_below ((Below.refl _ _).alloc (Nat.le_refl _) _) a0.2.2.1), (pw_cell_below ((Below.refl _ _).alloc (Nat.le_refl _) _) a0.2.2.2.1), (pw_cell_below ((Below.refl _ _).alloc (Nat.le_refl _) _) a0.2.2.2.2.1), (pw_cell_below ((Below.refl _ _).alloc (Nat.le_refl _) _) a0.2.2.2.2.2.1), (pw_cell_below ((Below.refl _ _).alloc (Nat.le_refl _) _) a0.2.2.2.2.2.2.1), (pw_cell_below ((Below.refl _ _).alloc (Nat.le_refl _) _) a4.1), (pw_cell_below ((Below.refl _ _).alloc (Nat.le_refl _) _) a4.2.1), (pw_cell_below ((Below.refl _ _).alloc (Nat.le_refl _) _) a4.2.2.1)⟩ (fun hHeld => ?_)
 clear hK_ K_
 refine nP ?_
 refine lP 8 (some 46) (fun K_ hK_ => ?_)
 refine appendQ_step k35 O4.out (i := 3) (j := 5) rfl rfl (by decide) rfl rfl (.tmp 42) (.tmp 45) 40 (.agg #[.int .i64 0, .int .i64 0, .slice none 0 0]) 40 rfl Tryd.underlying40 infoR rfl (by decide) (by decide) rfl rfl (by have := HL.out; omega) ?_
 intro A2 c2 w5 o_ k_
 obtain ⟨O5, K5⟩ := ok_ K4 o_ k_
 have HR_5 := Aside0.mk (keepF HR_4.out k_)
 clear a0 a4 O4 K4 HR_4 o_ k_
 have a0 := k7_ O5 0
 have a4 := k3_ O5 4
 refine hK_.out _ _ ?_
 clear hK_ K_
 refine nP ?_
 refine pP 9 (some 47) ?_
 refine pP 10 (some 48) ?_
 refine lP 11 none (fun K_ hK_ => ?_)
 refine xS 0 4 [.slice A2 (K.length + 1) c2] O5 ?_
 intro w6 o_ k_
 obtain ⟨O6, K6⟩ := ok_ K5 o_ k_
 have HR_6 := Aside0.mk (keepF HR_5.out k_)
 clear a0 a4 O5 K5 HR_5 o_ k_
 have a0 := k7_ O6 0
 have a4 := k3_ O6 4
 refine hK_.out _ _ ?_
 clear hK_ K_
 refine done_ (by kernel_rfl) ?_
 clear hHeld
 go_wp2
 go_ret
 exact ⟨rfl, (CliO.shut (O6.out.pickL [0, 3, 2, 1] (by decide) (by simp))).take 1, K6.out⟩
theorem raw_at {w : World} {A : Option Addr} {n : Nat} {rows : List (List Value)} {p0 p1 : Int} {pv : Value} (h : Kd.C (Kd.raw 3) w A n rows) (hh : rows[0]? = some (rw3 p0 p1 pv)) : ∃ ad, A = some ad ∧ w.cell? ⟨ad.block, ad.off + 1, none⟩ = some (.int .i64 p1) := by
 have hl : 0 < rows.length := (List.getElem?_eq_some_iff.1 hh).1
 have hn : n = rows.length := h.1.symm
 obtain ⟨ad, c, e, hcl, hk, hc⟩ := ReadsRow.get_ h ([] : List Value) 0 (by omega) (by omega)
 have e0 : rows.getD ((0 : Int).toNat) ([] : List Value) = rw3 p0 p1 pv := by
  show rows.getD 0 [] = _
  rw [List.getD_eq_getElem?_getD, hh]
  rfl
 rw [e0] at hk
 have hc1 : c = rw3 p0 p1 pv := hk.1
 subst hc1
 refine ⟨ad, e, ?_⟩
 have q := hc 1 (.int .i64 p1) rfl
 rw [add_field _ _ 1 (by omega)] at q
 have e1 : ad.add ((0 : Int).toNat * 3) = ad := by
  show ad.add 0 = ad
  simp [Addr.add]
 have e2 : (Kd.raw 3).sz = 3 := rfl
 rw [e2, e1] at q
 exact q
theorem head1 {w : World} {ad : Addr} {n : Nat} {rows : List (List Value)} {p0 p1 : Int} {pv : Value} (h : Kd.C (Kd.raw 3) w (some ad) n rows) (hh : rows[0]? = some (rw3 p0 p1 pv)) : w.cell? ⟨ad.block, ad.off + 1, none⟩ = some (.int .i64 p1) := by
 obtain ⟨ad', e, q⟩ := raw_at h hh
 cases e
 exact q
theorem cutR {w : World} {A : Option Addr} {n c : Nat} {rows : List (List Value)} (h : Kd.C (Kd.raw 3) w A n rows) (h1 : 1 ≤ rows.length) (hc : n ≤ c) : Kd.C (Kd.raw 3) w (if c = 1 then A else A.map (·.add (1 * 3))) (n - 1) (rows.drop 1) := by
 have e : n = rows.length := h.1.symm
 subst e
 have q := Kd.C_drop (m := 1) h h1 hc
 rw [List.length_drop] at q
 exact q
def dE (jo jm : Int) (n : Nat) (ups : List Upd7) : Int := if (n : Int) ≥ jm then 8 else mayR jo ((n : Int) + 1) ups
theorem DTake_none {N : Nat → Prop} {w : World} {g : Nat} {jp vo : Value} {o mtu push : Int} {A4 A5 : Option Addr} {c4 c5 : Nat} {rK rP : List (List Value)} (r0 r1 : Int) (B : Option Addr) (nb cb : Nat) (h : Own N w [cells g #[jp, .int .i64 o, .int .i64 mtu, .int .i64 push, .slice A4 rK.length c4, .slice A5 rP.length c5, vo] 44, nrow (Kd.raw 3) 35 (.slice A4 rK.length c4) rK, nrow (Kd.raw 3) 35 (.slice A5 rP.length c5) rP]) (hL : rK.length + rP.length ≤ 1000000) (ho : r0 = o) (hp : rP.length = 0) :
  Calls Tryd.prog 60 #[.pointer (some ⟨g, 0, none⟩), .agg #[.int .i64 r0, .int .i64 r1, .slice B nb cb]] w fun e_ w' => e_ = .returned (.int .i64 10) ∧ Own N w' [cells g #[jp, .int .i64 o, .int .i64 mtu, .int .i64 push, .slice A4 rK.length c4, .slice A5 rP.length c5, vo] 44, nrow (Kd.raw 3) 35 (.slice A4 rK.length c4) rK, nrow (Kd.raw 3) 35 (.slice A5 rP.length c5) rP] ∧ KeepS N w w' := by
 have d1 : (r0 == o) = true := beq_iff_eq.mpr ho
 have d2 : ((rP.length : Int) == 0) = true := by simp [hp]
 have HL := Aside0.mk hL
 have O0 : Aside0 (Own N w [cells g #[jp, .int .i64 o, .int .i64 mtu, .int .i64 push, .slice A4 rK.length c4, .slice A5 rP.length c5, vo] 44, nrow (Kd.raw 3) 35 (.slice A4 rK.length c4) rK, nrow (Kd.raw 3) 35 (.slice A5 rP.length c5) rP]) := ⟨h⟩
 have K0 : Aside0 (KeepS N w w) := ⟨KeepS.refl _ _⟩
 have a0 := k7_ O0 0
 clear h hL hp ho
 go_enter Tryd.func60, Tryd.ntmps60
 go_wp2_with (first | ((with_reducible refine gD 3 rfl ?_); refine bP 3 #[.int .i64 r0, .int .i64 r1, .slice B nb cb] 35 O0.out ?_; intro gr w1 o_ k_; obtain ⟨O1, K1⟩ := ok_ K0 o_ k_; clear a0 O0 K0 o_ k_; have a0 := k7_ O1 0; have a3 := k3_ O1 3))
 refine sP (n := 7) (S := d7_ g (jp) (.int .i64 o) (.int .i64 mtu) (.int .i64 push) (.slice A4 rK.length c4) (.slice A5 rP.length c5) (vo) (c3_ gr (.int .i64 r0) (.int .i64 r1) (.slice B nb cb))) (ds := []) (j7_ a0 (p3_ a3)) (fun hHeld => ?_)
 obtain ⟨w2, hw_⟩ : ∃ W, W = w1.drew := ⟨_, rfl⟩
 have o_ := O1.out.drew
 have k_ : KeepS N w1 w1.drew := KeepS.drew
 rw [← hw_] at o_ k_ hHeld ⊢
 clear hw_
 obtain ⟨O2, K2⟩ := ok_ K1 o_ k_
 clear a0 a3 O1 K1 o_ k_
 have a0 := k7_ O2 0
 have a3 := k3_ O2 3
 refine pP 0 (some 5) ?_
 refine pP 2 (some 7) ?_
 refine pP 3 (some 8) ?_
 refine pP 4 (some 9) ?_
 refine tP 1 (some 6) hHeld ?_
 refine tP 5 (some 10) hHeld ?_
 refine pP 6 (some 11) ?_
 refine done_ (by kernel_rfl) ?_
 clear hHeld
 go_wp2
 refine sP (n := 18) (S := d7_ g (jp) (.int .i64 o) (.int .i64 mtu) (.int .i64 push) (.slice A4 rK.length c4) (.slice A5 rP.length c5) (vo) (c3_ gr (.int .i64 r0) (.int .i64 r1) (.slice B nb cb))) (ds := []) (j7_ a0 (p3_ a3)) (fun hHeld => ?_)
 obtain ⟨w3, hw_⟩ : ∃ W, W = w2.drew := ⟨_, rfl⟩
 have o_ := O2.out.drew
 have k_ : KeepS N w2 w2.drew := KeepS.drew
 rw [← hw_] at o_ k_ hHeld ⊢
 clear hw_
 obtain ⟨O3, K3⟩ := ok_ K2 o_ k_
 clear a0 a3 O2 K2 o_ k_
 have a0 := k7_ O3 0
 have a3 := k3_ O3 3
 refine pP 0 (some 12) ?_
 refine pP 1 (some 13) ?_
 refine pP 2 (some 14) ?_
 refine tP 3 (some 15) hHeld ?_
 refine pP 4 (some 16) ?_
 refine pP 5 (some 17) ?_
 refine pP 6 (some 18) ?_
 refine pS 7 (some 19) ?_
 refine pS 8 (some 20) ?_
 refine pS 9 (some 21) ?_
 refine pS 14 (some 26) ?_
 refine tS 10 (some 22) hHeld ?_
 refine pS 11 (some 23) ?_
 refine pS 12 (some 24) ?_
 refine tS 13 (some 25) hHeld ?_
 refine tS 15 (some 27) hHeld ?_
 refine pS 16 (some 28) ?_
 refine pP 17 (some 29) ?_
 refine done_ (by kernel_rfl) ?_
 clear hHeld
 go_wp2
 go_ret
 exact ⟨rfl, O3.out.take 3, K3.out⟩
theorem DTake_wrong {N : Nat → Prop} {w : World} {g : Nat} {jp vo : Value} {o mtu push : Int} {A4 A5 : Option Addr} {c4 c5 : Nat} {rK rP : List (List Value)} (r0 r1 : Int) (B : Option Addr) (nb cb : Nat) (h : Own N w [cells g #[jp, .int .i64 o, .int .i64 mtu, .int .i64 push, .slice A4 rK.length c4, .slice A5 rP.length c5, vo] 44, nrow (Kd.raw 3) 35 (.slice A4 rK.length c4) rK, nrow (Kd.raw 3) 35 (.slice A5 rP.length c5) rP]) (hL : rK.length + rP.length ≤ 1000000) {p0 p1 : Int} {pv : Value} (ho : r0 = o) (hh : rP[0]? = some (rw3 p0 p1 pv)) (hn : p1 ≠ r1) :
  Calls Tryd.prog 60 #[.pointer (some ⟨g, 0, none⟩), .agg #[.int .i64 r0, .int .i64 r1, .slice B nb cb]] w fun e_ w' => e_ = .returned (.int .i64 10) ∧ Own N w' [cells g #[jp, .int .i64 o, .int .i64 mtu, .int .i64 push, .slice A4 rK.length c4, .slice A5 rP.length c5, vo] 44, nrow (Kd.raw 3) 35 (.slice A4 rK.length c4) rK, nrow (Kd.raw 3) 35 (.slice A5 rP.length c5) rP] ∧ KeepS N w w' := by
 have d1 : (r0 == o) = true := beq_iff_eq.mpr ho
 have hp := (List.getElem?_eq_some_iff.1 hh).1
 have HPL := Aside0.mk hp
 have HH := Aside0.mk hh
 have d2 : ((rP.length : Int) == 0) = false := beq_eq_false_iff_ne.mpr (by omega)
 have d3 : (p1 != r1) = true := bne_iff_ne.mpr hn
 have HL := Aside0.mk hL
 obtain ⟨ad, eA, _⟩ := raw_at (h.nreads (i := 2) rfl).2.2 hh
 cases eA
 have hq1 : ((0 : Int) < (rP.length : Int)) = True := eq_true (by omega)
 have hq2 : (0 < rP.length) = True := eq_true (by omega)
 have O0 : Aside0 (Own N w [cells g #[jp, .int .i64 o, .int .i64 mtu, .int .i64 push, .slice A4 rK.length c4, .slice (some ad) rP.length c5, vo] 44, nrow (Kd.raw 3) 35 (.slice A4 rK.length c4) rK, nrow (Kd.raw 3) 35 (.slice (some ad) rP.length c5) rP]) := ⟨h⟩
 have K0 : Aside0 (KeepS N w w) := ⟨KeepS.refl _ _⟩
 have a0 := k7_ O0 0
 clear h hL hp hh hn ho
 go_enter Tryd.func60, Tryd.ntmps60
 go_wp2_with (first | ((with_reducible refine gD 3 rfl ?_); refine bP 3 #[.int .i64 r0, .int .i64 r1, .slice B nb cb] 35 O0.out ?_; intro gr w1 o_ k_; obtain ⟨O1, K1⟩ := ok_ K0 o_ k_; clear a0 O0 K0 o_ k_; have a0 := k7_ O1 0; have a3 := k3_ O1 3))
 refine sP (n := 7) (S := d7_ g (jp) (.int .i64 o) (.int .i64 mtu) (.int .i64 push) (.slice A4 rK.length c4) (.slice (some ad) rP.length c5) (vo) (c3_ gr (.int .i64 r0) (.int .i64 r1) (.slice B nb cb))) (ds := []) (j7_ a0 (p3_ a3)) (fun hHeld => ?_)
 obtain ⟨w2, hw_⟩ : ∃ W, W = w1.drew := ⟨_, rfl⟩
 have o_ := O1.out.drew
 have k_ : KeepS N w1 w1.drew := KeepS.drew
 rw [← hw_] at o_ k_ hHeld ⊢
 clear hw_
 obtain ⟨O2, K2⟩ := ok_ K1 o_ k_
 clear a0 a3 O1 K1 o_ k_
 have a0 := k7_ O2 0
 have a3 := k3_ O2 3
 refine pP 0 (some 5) ?_
 refine pP 2 (some 7) ?_
 refine pP 3 (some 8) ?_
 refine pP 4 (some 9) ?_
 refine tP 1 (some 6) hHeld ?_
 refine tP 5 (some 10) hHeld ?_
 refine pP 6 (some 11) ?_
 refine done_ (by kernel_rfl) ?_
 clear hHeld
 go_wp2
 refine sP (n := 18) (S := fun w' => w'.cell? ⟨g, 0, none⟩ = some (jp) ∧ w'.cell? ⟨g, 1, none⟩ = some (.int .i64 o) ∧ w'.cell? ⟨g, 2, none⟩ = some (.int .i64 mtu) ∧ w'.cell? ⟨g, 3, none⟩ = some (.int .i64 push) ∧ w'.cell? ⟨g, 4, none⟩ = some (.slice A4 rK.length c4) ∧ w'.cell? ⟨g, 5, none⟩ = some (.slice (some ad) rP.length c5) ∧ w'.cell? ⟨g, 6, none⟩ = some (vo) ∧ w'.cell? ⟨gr, 0, none⟩ = some (.int .i64 r0) ∧ w'.cell? ⟨gr, 1, none⟩ = some (.int .i64 r1) ∧ w'.cell? ⟨gr, 2, none⟩ = some (.slice B nb cb) ∧ w'.cell? ⟨ad.block, ad.off + 1, none⟩ = some (.int .i64 p1)) (ds := []) ⟨a0.1, a0.2.1, a0.2.2.1, a0.2.2.2.1, a0.2.2.2.2.1, a0.2.2.2.2.2.1, a0.2.2.2.2.2.2.1, a3.1, a3.2.1, a3.2.2.1, (head1 (O2.out.drew.nreads (i := 2) rfl).2.2 HH.out)⟩ (fun hHeld => ?_)
 obtain ⟨w3, hw_⟩ : ∃ W, W = w2.drew := ⟨_, rfl⟩
 have o_ := O2.out.drew
 have k_ : KeepS N w2 w2.drew := KeepS.drew
 rw [← hw_] at o_ k_ hHeld ⊢
 clear hw_
 obtain ⟨O3, K3⟩ := ok_ K2 o_ k_
 clear a0 a3 O2 K2 o_ k_
 have a0 := k7_ O3 0
 have a3 := k3_ O3 3
 refine pP 0 (some 12) ?_
 refine pP 1 (some 13) ?_
 refine pP 2 (some 14) ?_
 refine tP 3 (some 15) hHeld ?_
 refine pP 4 (some 16) ?_
 refine pP 5 (some 17) ?_
 refine pP 6 (some 18) ?_
 refine pP 7 (some 19) ?_
 refine pP 8 (some 20) ?_
 refine pP 9 (some 21) ?_
 refine pP 14 (some 26) ?_
 refine tP 10 (some 22) hHeld ?_
 refine pP 11 (some 23) ?_
 refine pP 12 (some 24) ?_
 refine tP 13 (some 25) hHeld ?_
 refine tP 15 (some 27) hHeld ?_
 refine pP 16 (some 28) ?_
 refine pP 17 (some 29) ?_
 refine done_ (by kernel_rfl) ?_
 clear hHeld
 go_wp2
 go_ret
 exact ⟨rfl, O3.out.take 3, K3.out⟩
theorem DTake_own {N : Nat → Prop} {w : World} {g : Nat} {jp vo : Value} {o mtu push : Int} {A4 A5 : Option Addr} {c4 c5 : Nat} {rK rP : List (List Value)} (r0 r1 : Int) (B : Option Addr) (nb cb : Nat) (h : Own N w [cells g #[jp, .int .i64 o, .int .i64 mtu, .int .i64 push, .slice A4 rK.length c4, .slice A5 rP.length c5, vo] 44, nrow (Kd.raw 3) 35 (.slice A4 rK.length c4) rK, nrow (Kd.raw 3) 35 (.slice A5 rP.length c5) rP]) (hL : rK.length + rP.length ≤ 1000000) {p0 p1 : Int} {pv : Value} (ho : r0 = o) (hh : rP[0]? = some (rw3 p0 p1 pv)) (hn : p1 = r1) :
  Calls Tryd.prog 60 #[.pointer (some ⟨g, 0, none⟩), .agg #[.int .i64 r0, .int .i64 r1, .slice B nb cb]] w fun e_ w' => ∃ C4 e4 A7 c7, e_ = .returned (.int .i64 0) ∧ Own N w' [cells g #[jp, .int .i64 o, .int .i64 mtu, .int .i64 push, .slice C4 (rK ++ [rw3 r0 r1 (.slice B nb cb)]).length e4, .slice A7 (rP.drop 1).length c7, vo] 44, nrow (Kd.raw 3) 35 (.slice C4 (rK ++ [rw3 r0 r1 (.slice B nb cb)]).length e4) (rK ++ [rw3 r0 r1 (.slice B nb cb)]), nrow (Kd.raw 3) 35 (.slice A7 (rP.drop 1).length c7) (rP.drop 1)] ∧ KeepS N w w' := by
 have d1 : (r0 == o) = true := beq_iff_eq.mpr ho
 have hp := (List.getElem?_eq_some_iff.1 hh).1
 have HPL := Aside0.mk hp
 have HH := Aside0.mk hh
 have d2 : ((rP.length : Int) == 0) = false := beq_eq_false_iff_ne.mpr (by omega)
 have d3 : (p1 != r1) = false := by simp [hn]
 have HL := Aside0.mk hL
 obtain ⟨ad, eA, _⟩ := raw_at (h.nreads (i := 2) rfl).2.2 hh
 cases eA
 have hq1 : ((0 : Int) < (rP.length : Int)) = True := eq_true (by omega)
 have hq2 : (0 < rP.length) = True := eq_true (by omega)
 have O0 : Aside0 (Own N w [cells g #[jp, .int .i64 o, .int .i64 mtu, .int .i64 push, .slice A4 rK.length c4, .slice (some ad) rP.length c5, vo] 44, nrow (Kd.raw 3) 35 (.slice A4 rK.length c4) rK, nrow (Kd.raw 3) 35 (.slice (some ad) rP.length c5) rP]) := ⟨h⟩
 have K0 : Aside0 (KeepS N w w) := ⟨KeepS.refl _ _⟩
 have a0 := k7_ O0 0
 clear h hL hp hh hn ho
 go_enter Tryd.func60, Tryd.ntmps60
 go_wp2_with (first | ((with_reducible refine gD 3 rfl ?_); refine bP 3 #[.int .i64 r0, .int .i64 r1, .slice B nb cb] 35 O0.out ?_; intro gr w1 o_ k_; obtain ⟨O1, K1⟩ := ok_ K0 o_ k_; clear a0 O0 K0 o_ k_; have a0 := k7_ O1 0; have a3 := k3_ O1 3))
 refine sP (n := 7) (S := d7_ g (jp) (.int .i64 o) (.int .i64 mtu) (.int .i64 push) (.slice A4 rK.length c4) (.slice (some ad) rP.length c5) (vo) (c3_ gr (.int .i64 r0) (.int .i64 r1) (.slice B nb cb))) (ds := []) (j7_ a0 (p3_ a3)) (fun hHeld => ?_)
 obtain ⟨w2, hw_⟩ : ∃ W, W = w1.drew := ⟨_, rfl⟩
 have o_ := O1.out.drew
 have k_ : KeepS N w1 w1.drew := KeepS.drew
 rw [← hw_] at o_ k_ hHeld ⊢
 clear hw_
 obtain ⟨O2, K2⟩ := ok_ K1 o_ k_
 clear a0 a3 O1 K1 o_ k_
 have a0 := k7_ O2 0
 have a3 := k3_ O2 3
 refine pP 0 (some 5) ?_
 refine pP 2 (some 7) ?_
 refine pP 3 (some 8) ?_
 refine pP 4 (some 9) ?_
 refine tP 1 (some 6) hHeld ?_
 refine tP 5 (some 10) hHeld ?_
 refine pP 6 (some 11) ?_
 refine done_ (by kernel_rfl) ?_
 clear hHeld
 go_wp2
 refine sP (n := 18) (S := fun w' => w'.cell? ⟨g, 0, none⟩ = some (jp) ∧ w'.cell? ⟨g, 1, none⟩ = some (.int .i64 o) ∧ w'.cell? ⟨g, 2, none⟩ = some (.int .i64 mtu) ∧ w'.cell? ⟨g, 3, none⟩ = some (.int .i64 push) ∧ w'.cell? ⟨g, 4, none⟩ = some (.slice A4 rK.length c4) ∧ w'.cell? ⟨g, 5, none⟩ = some (.slice (some ad) rP.length c5) ∧ w'.cell? ⟨g, 6, none⟩ = some (vo) ∧ w'.cell? ⟨gr, 0, none⟩ = some (.int .i64 r0) ∧ w'.cell? ⟨gr, 1, none⟩ = some (.int .i64 r1) ∧ w'.cell? ⟨gr, 2, none⟩ = some (.slice B nb cb) ∧ w'.cell? ⟨ad.block, ad.off + 1, none⟩ = some (.int .i64 p1)) (ds := []) ⟨a0.1, a0.2.1, a0.2.2.1, a0.2.2.2.1, a0.2.2.2.2.1, a0.2.2.2.2.2.1, a0.2.2.2.2.2.2.1, a3.1, a3.2.1, a3.2.2.1, (head1 (O2.out.drew.nreads (i := 2) rfl).2.2 HH.out)⟩ (fun hHeld => ?_)
 obtain ⟨w3, hw_⟩ : ∃ W, W = w2.drew := ⟨_, rfl⟩
 have o_ := O2.out.drew
 have k_ : KeepS N w2 w2.drew := KeepS.drew
 rw [← hw_] at o_ k_ hHeld ⊢
 clear hw_
 obtain ⟨O3, K3⟩ := ok_ K2 o_ k_
 clear a0 a3 O2 K2 o_ k_
 have a0 := k7_ O3 0
 have a3 := k3_ O3 3
 refine pP 0 (some 12) ?_
 refine pP 1 (some 13) ?_
 refine pP 2 (some 14) ?_
 refine tP 3 (some 15) hHeld ?_
 refine pP 4 (some 16) ?_
 refine pP 5 (some 17) ?_
 refine pP 6 (some 18) ?_
 refine pP 7 (some 19) ?_
 refine pP 8 (some 20) ?_
 refine pP 9 (some 21) ?_
 refine pP 14 (some 26) ?_
 refine tP 10 (some 22) hHeld ?_
 refine pP 11 (some 23) ?_
 refine pP 12 (some 24) ?_
 refine tP 13 (some 25) hHeld ?_
 refine tP 15 (some 27) hHeld ?_
 refine pP 16 (some 28) ?_
 refine pP 17 (some 29) ?_
 refine done_ (by kernel_rfl) ?_
 clear hHeld
 obtain ⟨A9, hA9⟩ : ∃ A9, A9 = (if c5 = 1 then (some ad : Option Addr) else (some ad : Option Addr).map (·.add (1 * 3))) := ⟨_, rfl⟩
 have HCUT : ∀ W_ : World, (Instr.slice 40 (.slice (some ad) rP.length c5) (some (.int .i64 1)) none none).run Tryd.prog W_ = .ok (.slice A9 (rP.length - 1) (c5 - 1)) W_ := by rw [hA9]; exact cut1 _ _ _ HPL.out
 have HA9 := Aside0.mk hA9
 have HL2 : Aside0 (rP.length ≤ 1000000) := ⟨by have := HL.out; omega⟩
 clear hA9
 go_wp2_with (first | ((with_reducible refine gD 31 rfl ?_); refine own_lit (Kd.raw 3) (N := N) (e := 35) (xs := []) (inner := []) rfl (D := 31) rfl gs_ (Reps.none _ _) (by simp) O3.out ?_; intro A6 c6 w4 o_ k_; obtain ⟨O4, K4⟩ := ok_ K3 o_ k_; clear a0 a3 O3 K3 o_ k_; have a0 := k7_ O4 0; have a3 := k3_ O4 3) | ((with_reducible refine gate_builtin (b := .append) (xs := #[.tmp 31, .tmp 36]) rfl ?_); at_builtin; refine Own.append_flat (Kd.raw 3) flatRaw O4.out (i := 4) (ys := (rP.drop 1)) rfl ((by rw [HA9.out]; exact cutR (O4.out.nreads (i := 2) rfl).2.2 HPL.out (O4.out.nreads (i := 2) rfl).2.1)) rfl (.tmp 31) (.tmp 36) 40 ((.agg #[.int .i64 0, .int .i64 0, .slice none 0 0])) 40 rfl Tryd.underlying40 infoR rfl (by decide) (by decide) rfl rfl (by have := HL2.out; simp only [List.length_nil]; omega) ?_; intro A7 c7 w5 o_ k_; obtain ⟨O5, K5⟩ := ok_ K4 o_ k_; clear a0 a3 O4 K4 o_ k_; have a0 := k7_ O5 0; have a3 := k3_ O5 3) | ((with_reducible refine gT 40 39 rfl ?_); refine wS 0 5 [.slice A7 (rP.drop 1).length c7] O5 ?_; intro w6 o_ k_; obtain ⟨O6, K6⟩ := ok_ K5 o_ k_; clear a0 a3 O5 K5 o_ k_; have a0 := k7_ O6 0; have a3 := k3_ O6 3))
 refine sP (n := 13) (S := d7_ g (jp) (.int .i64 o) (.int .i64 mtu) (.int .i64 push) (.slice A4 rK.length c4) (.slice A7 (rP.drop 1).length c7) (vo) (c3_ gr (.int .i64 r0) (.int .i64 r1) (.slice B nb cb))) (ds := [12]) (j7_ a0 (p3_ a3)) (fun hHeld => ?_)
 obtain ⟨w7, hw_⟩ : ∃ W, W = w6.drew := ⟨_, rfl⟩
 have o_ := O6.out.drew
 have k_ : KeepS N w6 w6.drew := KeepS.drew
 rw [← hw_] at o_ k_ hHeld ⊢
 clear hw_
 obtain ⟨O7, K7⟩ := ok_ K6 o_ k_
 clear a0 a3 O6 K6 o_ k_
 have a0 := k7_ O7 0
 have a3 := k3_ O7 3
 refine pP 0 (some 40) ?_
 refine pP 2 (some 42) ?_
 refine pP 3 (some 43) ?_
 refine pP 4 (some 44) ?_
 refine tP 5 (some 45) hHeld ?_
 refine tP 7 (some 47) hHeld ?_
 refine join_ (σ := Option Addr × Nat × Option Addr × Nat × Option Addr × Nat) 4 #[true, true, true, true, true, true, true, true, true, false, false, false, false] (fun ⟨C2, e2, C3, e3, D1, h1_⟩ => [(41, .slice C2 0 e2), (46, .slice C3 rK.length e3), (48, .slice D1 1 h1_)]) (fun ⟨C2, e2, C3, e3, D1, h1_⟩ w' => Own N w' [cells g #[jp, .int .i64 o, .int .i64 mtu, .int .i64 push, .slice A4 rK.length c4, .slice A7 (rP.drop 1).length c7, vo] 44, nrow (Kd.raw 3) 35 (.slice A4 rK.length c4) rK, nrow (Kd.raw 3) 35 (.slice (some ad) rP.length c5) rP, cells gr #[.int .i64 r0, .int .i64 r1, .slice B nb cb] 35, nrow (Kd.raw 3) 35 (.slice A7 ((rP.drop 1)).length c7) ((rP.drop 1)), nrow (Kd.raw 3) 35 (.slice C3 rK.length e3) rK, nrow (Kd.raw 3) 35 (.slice D1 1 h1_) [rw3 r0 r1 (.slice B nb cb)]] ∧ KeepS N w7 w') ?hcont ?hways
 case hways =>
  intro hc_
  have K8 : Aside0 (KeepS N w7 w7) := ⟨KeepS.refl _ _⟩
  have O8 : Aside0 (Own N w7 [cells g #[jp, .int .i64 o, .int .i64 mtu, .int .i64 push, .slice A4 rK.length c4, .slice A7 (rP.drop 1).length c7, vo] 44, nrow (Kd.raw 3) 35 (.slice A4 rK.length c4) rK, nrow (Kd.raw 3) 35 (.slice (some ad) rP.length c5) rP, cells gr #[.int .i64 r0, .int .i64 r1, .slice B nb cb] 35, nrow (Kd.raw 3) 35 (.slice A7 ((rP.drop 1)).length c7) ((rP.drop 1))]) := O7
  refine tW_ 1 8 (some 41) (some 48) (fun K_ hK_ => ?_) (fun K_ hK_ => ?_)
  ·skip
   refine own_lit_step (Kd.raw 3) (N := N) (e := 35) (xs := []) (inner := []) rfl rfl gs_ (Reps.none _ _) (by decide) O8.out ?_
   intro C2 e2 w9 o_ k_
   obtain ⟨O9, K9⟩ := ok_ K8 o_ k_
   clear a0 a3 O8 K8 o_ k_
   have a0 := k7_ O9 0
   have a3 := k3_ O9 3
   clear hHeld
   refine hK_.out _ _ (j7_ a0 (p3_ a3)) (fun hHeld => ?_)
   clear hK_ K_
   refine nR_ ?_
   refine tW_ 6 8 (some 46) (some 48) (fun K_ hK_ => ?_) (fun K_ hK_ => ?_)
   ·skip
    refine Own.append_flat_step (Kd.raw 3) flatRaw O9.out (i := 5) rfl (O9.out.nreads (i := 1) rfl).2.2 rfl (by rfl) (.tmp 41) (.tmp 45) 40 (.agg #[.int .i64 0, .int .i64 0, .slice none 0 0]) 40 rfl Tryd.underlying40 infoR rfl (by decide) (by decide) rfl rfl (by have := HL.out; simp only [List.length_nil]; omega) ?_
    intro C3 e3 w10 o_ k_
    obtain ⟨O10, K10⟩ := ok_ K9 o_ k_
    clear a0 a3 O9 K9 o_ k_
    have a0 := k7_ O10 0
    have a3 := k3_ O10 3
    clear hHeld
    refine hK_.out _ _ (j7_ a0 (p3_ a3)) (fun hHeld => ?_)
    clear hK_ K_
    refine nR_ ?_
    refine oP 8 (some 48) (fun K_ hK_ => ?_)
    refine own_lit_step (Kd.raw 3) (N := N) (e := 35) (xs := [rw3 r0 r1 (.slice B nb cb)]) (inner := [.int .i64 r0, .int .i64 r1, .slice B nb cb]) rfl rfl gs_ (repW _ r0 r1 B nb cb) (by show 1 ≤ 9223372036854775807; decide) O10.out ?_
    intro D1 h1_ w11 o_ k_
    obtain ⟨O11, K11⟩ := ok_ K10 o_ k_
    clear a0 a3 O10 K10 o_ k_
    have a0 := k7_ O11 0
    have a3 := k3_ O11 3
    clear hHeld
    refine hK_.out _ _ (j7_ a0 (p3_ a3)) (fun hHeld => ?_)
    clear hK_ K_
    refine nR_ ?_
    refine norm_ (a' := _) ?_ (hc_ ⟨C2, e2, C3, e3, D1, h1_⟩ _ ⟨?_, K11.out⟩)
    ·simp only [putAll, Act.put, List.setIfInBounds_toArray, List.set_cons_zero, List.set_cons_succ]
     try rfl
    ·exact O11.out.pickL [0, 1, 2, 3, 4, 5, 6] (by decide) (by simp)
   ·skip
    refine own_lit_step (Kd.raw 3) (N := N) (e := 35) (xs := [rw3 r0 r1 (.slice B nb cb)]) (inner := [.int .i64 r0, .int .i64 r1, .slice B nb cb]) rfl rfl gs_ (repW _ r0 r1 B nb cb) (by show 1 ≤ 9223372036854775807; decide) O9.out ?_
    intro D1 h1_ w10 o_ k_
    obtain ⟨O10, K10⟩ := ok_ K9 o_ k_
    clear a0 a3 O9 K9 o_ k_
    have a0 := k7_ O10 0
    have a3 := k3_ O10 3
    clear hHeld
    refine hK_.out _ _ (j7_ a0 (p3_ a3)) (fun hHeld => ?_)
    clear hK_ K_
    refine nR_ ?_
    refine oP 6 (some 46) (fun K_ hK_ => ?_)
    refine Own.append_flat_step (Kd.raw 3) flatRaw O10.out (i := 5) rfl (O10.out.nreads (i := 1) rfl).2.2 rfl (by rfl) (.tmp 41) (.tmp 45) 40 (.agg #[.int .i64 0, .int .i64 0, .slice none 0 0]) 40 rfl Tryd.underlying40 infoR rfl (by decide) (by decide) rfl rfl (by have := HL.out; simp only [List.length_nil]; omega) ?_
    intro C3 e3 w11 o_ k_
    obtain ⟨O11, K11⟩ := ok_ K10 o_ k_
    clear a0 a3 O10 K10 o_ k_
    have a0 := k7_ O11 0
    have a3 := k3_ O11 3
    clear hHeld
    refine hK_.out _ _ (j7_ a0 (p3_ a3)) (fun hHeld => ?_)
    clear hK_ K_
    refine nR_ ?_
    refine norm_ (a' := _) ?_ (hc_ ⟨C2, e2, C3, e3, D1, h1_⟩ _ ⟨?_, K11.out⟩)
    ·simp only [putAll, Act.put, List.setIfInBounds_toArray, List.set_cons_zero, List.set_cons_succ]
     try rfl
    ·exact O11.out.pickL [0, 1, 2, 3, 4, 5, 6] (by decide) (by simp)
  ·skip
   refine own_lit_step (Kd.raw 3) (N := N) (e := 35) (xs := [rw3 r0 r1 (.slice B nb cb)]) (inner := [.int .i64 r0, .int .i64 r1, .slice B nb cb]) rfl rfl gs_ (repW _ r0 r1 B nb cb) (by show 1 ≤ 9223372036854775807; decide) O8.out ?_
   intro D1 h1_ w9 o_ k_
   obtain ⟨O9, K9⟩ := ok_ K8 o_ k_
   clear a0 a3 O8 K8 o_ k_
   have a0 := k7_ O9 0
   have a3 := k3_ O9 3
   clear hHeld
   refine hK_.out _ _ (j7_ a0 (p3_ a3)) (fun hHeld => ?_)
   clear hK_ K_
   refine nR_ ?_
   refine oP 1 (some 41) (fun K_ hK_ => ?_)
   refine own_lit_step (Kd.raw 3) (N := N) (e := 35) (xs := []) (inner := []) rfl rfl gs_ (Reps.none _ _) (by decide) O9.out ?_
   intro C2 e2 w10 o_ k_
   obtain ⟨O10, K10⟩ := ok_ K9 o_ k_
   clear a0 a3 O9 K9 o_ k_
   have a0 := k7_ O10 0
   have a3 := k3_ O10 3
   clear hHeld
   refine hK_.out _ _ (j7_ a0 (p3_ a3)) (fun hHeld => ?_)
   clear hK_ K_
   refine nR_ ?_
   refine oP 6 (some 46) (fun K_ hK_ => ?_)
   refine Own.append_flat_step (Kd.raw 3) flatRaw O10.out (i := 6) rfl (O10.out.nreads (i := 1) rfl).2.2 rfl (by rfl) (.tmp 41) (.tmp 45) 40 (.agg #[.int .i64 0, .int .i64 0, .slice none 0 0]) 40 rfl Tryd.underlying40 infoR rfl (by decide) (by decide) rfl rfl (by have := HL.out; simp only [List.length_nil]; omega) ?_
   intro C3 e3 w11 o_ k_
   obtain ⟨O11, K11⟩ := ok_ K10 o_ k_
   clear a0 a3 O10 K10 o_ k_
   have a0 := k7_ O11 0
   have a3 := k3_ O11 3
   clear hHeld
   refine hK_.out _ _ (j7_ a0 (p3_ a3)) (fun hHeld => ?_)
   clear hK_ K_
   refine nR_ ?_
   refine norm_ (a' := _) ?_ (hc_ ⟨C2, e2, C3, e3, D1, h1_⟩ _ ⟨?_, K11.out⟩)
   ·simp only [putAll, Act.put, List.setIfInBounds_toArray, List.set_cons_zero, List.set_cons_succ]
    try rfl
   ·exact O11.out.pickL [0, 1, 2, 3, 4, 6, 5] (by decide) (by simp)
 case hcont =>
  clear hHeld
  rintro ⟨C2, e2, C3, e3, D1, h1_⟩ w8 ⟨o_, k_⟩
  obtain ⟨O8, K8⟩ := ok_ K7 o_ k_
  clear a0 a3 O7 K7 o_ k_
  have a0 := k7_ O8 0
  have a3 := k3_ O8 3
  refine nA_ ?_
  have hHeld : w8.cell? ⟨g, 0, none⟩ = some (jp) ∧ w8.cell? ⟨g, 1, none⟩ = some (.int .i64 o) ∧ w8.cell? ⟨g, 2, none⟩ = some (.int .i64 mtu) ∧ w8.cell? ⟨g, 3, none⟩ = some (.int .i64 push) ∧ w8.cell? ⟨g, 4, none⟩ = some (.slice A4 rK.length c4) ∧ w8.cell? ⟨g, 5, none⟩ = some (.slice A7 (rP.drop 1).length c7) ∧ w8.cell? ⟨g, 6, none⟩ = some (vo) ∧ w8.cell? ⟨gr, 0, none⟩ = some (.int .i64 r0) ∧ w8.cell? ⟨gr, 1, none⟩ = some (.int .i64 r1) ∧ w8.cell? ⟨gr, 2, none⟩ = some (.slice B nb cb) := (j7_ a0 (p3_ a3))
  refine oP 9 (some 49) (fun K_ hK_ => ?_)
  refine Own.append_flat_step (Kd.raw 3) flatRaw O8.out (i := 5) rfl (O8.out.nreads (i := 6) rfl).2.2 rfl (by rfl) (.tmp 46) (.tmp 48) 40 (.agg #[.int .i64 0, .int .i64 0, .slice none 0 0]) 40 rfl Tryd.underlying40 infoR rfl (by decide) (by decide) rfl rfl (by have := HL.out; omega) ?_
  intro C4 e4 w9 o_ k_
  obtain ⟨O9, K9⟩ := ok_ K8 o_ k_
  clear a0 a3 O8 K8 o_ k_
  have a0 := k7_ O9 0
  have a3 := k3_ O9 3
  clear hHeld
  refine hK_.out _ _ (j7_ a0 (p3_ a3)) (fun hHeld => ?_)
  clear hK_ K_
  refine nP ?_
  refine pP 10 (some 50) ?_
  refine pP 11 (some 51) ?_
  refine lP 12 none (fun K_ hK_ => ?_)
  refine xS 0 4 [.slice C4 (rK ++ [rw3 r0 r1 (.slice B nb cb)]).length e4] O9 ?_
  intro w10 o_ k_
  obtain ⟨O10, K10⟩ := ok_ K9 o_ k_
  clear a0 a3 O9 K9 o_ k_
  have a0 := k7_ O10 0
  have a3 := k3_ O10 3
  refine hK_.out _ _ ?_
  clear hK_ K_
  refine done_ (by kernel_rfl) ?_
  clear hHeld
  go_wp2
  go_ret
  exact ⟨C4, e4, A7, c7, rfl, O10.out.pickL [0, 5, 4] (by decide) (by simp), K10.out⟩
theorem DTake_other {N : Nat → Prop} {w : World} {g : Nat} {jp vo : Value} {o mtu push : Int} {A4 A5 : Option Addr} {c4 c5 : Nat} {rK rP : List (List Value)} (r0 r1 : Int) (B : Option Addr) (nb cb : Nat) (h : Own N w [cells g #[jp, .int .i64 o, .int .i64 mtu, .int .i64 push, .slice A4 rK.length c4, .slice A5 rP.length c5, vo] 44, nrow (Kd.raw 3) 35 (.slice A4 rK.length c4) rK, nrow (Kd.raw 3) 35 (.slice A5 rP.length c5) rP]) (hL : rK.length + rP.length ≤ 1000000) (ho : r0 ≠ o) :
  Calls Tryd.prog 60 #[.pointer (some ⟨g, 0, none⟩), .agg #[.int .i64 r0, .int .i64 r1, .slice B nb cb]] w fun e_ w' => ∃ C4 e4, e_ = .returned (.int .i64 0) ∧ Own N w' [cells g #[jp, .int .i64 o, .int .i64 mtu, .int .i64 push, .slice C4 (rK ++ [rw3 r0 r1 (.slice B nb cb)]).length e4, .slice A5 rP.length c5, vo] 44, nrow (Kd.raw 3) 35 (.slice C4 (rK ++ [rw3 r0 r1 (.slice B nb cb)]).length e4) (rK ++ [rw3 r0 r1 (.slice B nb cb)]), nrow (Kd.raw 3) 35 (.slice A5 rP.length c5) rP] ∧ KeepS N w w' := by
 have d1 : (r0 == o) = false := beq_eq_false_iff_ne.mpr ho
 have HL := Aside0.mk hL
 have O0 : Aside0 (Own N w [cells g #[jp, .int .i64 o, .int .i64 mtu, .int .i64 push, .slice A4 rK.length c4, .slice A5 rP.length c5, vo] 44, nrow (Kd.raw 3) 35 (.slice A4 rK.length c4) rK, nrow (Kd.raw 3) 35 (.slice A5 rP.length c5) rP]) := ⟨h⟩
 have K0 : Aside0 (KeepS N w w) := ⟨KeepS.refl _ _⟩
 have a0 := k7_ O0 0
 clear h hL ho
 go_enter Tryd.func60, Tryd.ntmps60
 go_wp2_with (first | ((with_reducible refine gD 3 rfl ?_); refine bP 3 #[.int .i64 r0, .int .i64 r1, .slice B nb cb] 35 O0.out ?_; intro gr w1 o_ k_; obtain ⟨O1, K1⟩ := ok_ K0 o_ k_; clear a0 O0 K0 o_ k_; have a0 := k7_ O1 0; have a3 := k3_ O1 3))
 refine sP (n := 7) (S := d7_ g (jp) (.int .i64 o) (.int .i64 mtu) (.int .i64 push) (.slice A4 rK.length c4) (.slice A5 rP.length c5) (vo) (c3_ gr (.int .i64 r0) (.int .i64 r1) (.slice B nb cb))) (ds := []) (j7_ a0 (p3_ a3)) (fun hHeld => ?_)
 obtain ⟨w2, hw_⟩ : ∃ W, W = w1.drew := ⟨_, rfl⟩
 have o_ := O1.out.drew
 have k_ : KeepS N w1 w1.drew := KeepS.drew
 rw [← hw_] at o_ k_ hHeld ⊢
 clear hw_
 obtain ⟨O2, K2⟩ := ok_ K1 o_ k_
 clear a0 a3 O1 K1 o_ k_
 have a0 := k7_ O2 0
 have a3 := k3_ O2 3
 refine pP 0 (some 5) ?_
 refine pP 2 (some 7) ?_
 refine pP 3 (some 8) ?_
 refine pP 4 (some 9) ?_
 refine tP 1 (some 6) hHeld ?_
 refine tP 5 (some 10) hHeld ?_
 refine pP 6 (some 11) ?_
 refine done_ (by kernel_rfl) ?_
 clear hHeld
 go_wp2
 refine sP (n := 13) (S := d7_ g (jp) (.int .i64 o) (.int .i64 mtu) (.int .i64 push) (.slice A4 rK.length c4) (.slice A5 rP.length c5) (vo) (c3_ gr (.int .i64 r0) (.int .i64 r1) (.slice B nb cb))) (ds := [12]) (j7_ a0 (p3_ a3)) (fun hHeld => ?_)
 obtain ⟨w3, hw_⟩ : ∃ W, W = w2.drew := ⟨_, rfl⟩
 have o_ := O2.out.drew
 have k_ : KeepS N w2 w2.drew := KeepS.drew
 rw [← hw_] at o_ k_ hHeld ⊢
 clear hw_
 obtain ⟨O3, K3⟩ := ok_ K2 o_ k_
 clear a0 a3 O2 K2 o_ k_
 have a0 := k7_ O3 0
 have a3 := k3_ O3 3
 refine pP 0 (some 40) ?_
 refine pP 2 (some 42) ?_
 refine pP 3 (some 43) ?_
 refine pP 4 (some 44) ?_
 refine tP 5 (some 45) hHeld ?_
 refine tP 7 (some 47) hHeld ?_
 refine join_ (σ := Option Addr × Nat × Option Addr × Nat × Option Addr × Nat) 4 #[true, true, true, true, true, true, true, true, true, false, false, false, false] (fun ⟨C2, e2, C3, e3, D1, h1_⟩ => [(41, .slice C2 0 e2), (46, .slice C3 rK.length e3), (48, .slice D1 1 h1_)]) (fun ⟨C2, e2, C3, e3, D1, h1_⟩ w' => Own N w' [cells g #[jp, .int .i64 o, .int .i64 mtu, .int .i64 push, .slice A4 rK.length c4, .slice A5 rP.length c5, vo] 44, nrow (Kd.raw 3) 35 (.slice A4 rK.length c4) rK, nrow (Kd.raw 3) 35 (.slice A5 rP.length c5) rP, cells gr #[.int .i64 r0, .int .i64 r1, .slice B nb cb] 35, nrow (Kd.raw 3) 35 (.slice C3 rK.length e3) rK, nrow (Kd.raw 3) 35 (.slice D1 1 h1_) [rw3 r0 r1 (.slice B nb cb)]] ∧ KeepS N w3 w') ?hcont ?hways
 case hways =>
  intro hc_
  have K4 : Aside0 (KeepS N w3 w3) := ⟨KeepS.refl _ _⟩
  have O4 : Aside0 (Own N w3 [cells g #[jp, .int .i64 o, .int .i64 mtu, .int .i64 push, .slice A4 rK.length c4, .slice A5 rP.length c5, vo] 44, nrow (Kd.raw 3) 35 (.slice A4 rK.length c4) rK, nrow (Kd.raw 3) 35 (.slice A5 rP.length c5) rP, cells gr #[.int .i64 r0, .int .i64 r1, .slice B nb cb] 35]) := O3
  refine tW_ 1 8 (some 41) (some 48) (fun K_ hK_ => ?_) (fun K_ hK_ => ?_)
  ·skip
   refine own_lit_step (Kd.raw 3) (N := N) (e := 35) (xs := []) (inner := []) rfl rfl gs_ (Reps.none _ _) (by decide) O4.out ?_
   intro C2 e2 w5 o_ k_
   obtain ⟨O5, K5⟩ := ok_ K4 o_ k_
   clear a0 a3 O4 K4 o_ k_
   have a0 := k7_ O5 0
   have a3 := k3_ O5 3
   clear hHeld
   refine hK_.out _ _ (j7_ a0 (p3_ a3)) (fun hHeld => ?_)
   clear hK_ K_
   refine nR_ ?_
   refine tW_ 6 8 (some 46) (some 48) (fun K_ hK_ => ?_) (fun K_ hK_ => ?_)
   ·skip
    refine Own.append_flat_step (Kd.raw 3) flatRaw O5.out (i := 4) rfl (O5.out.nreads (i := 1) rfl).2.2 rfl (by rfl) (.tmp 41) (.tmp 45) 40 (.agg #[.int .i64 0, .int .i64 0, .slice none 0 0]) 40 rfl Tryd.underlying40 infoR rfl (by decide) (by decide) rfl rfl (by have := HL.out; simp only [List.length_nil]; omega) ?_
    intro C3 e3 w6 o_ k_
    obtain ⟨O6, K6⟩ := ok_ K5 o_ k_
    clear a0 a3 O5 K5 o_ k_
    have a0 := k7_ O6 0
    have a3 := k3_ O6 3
    clear hHeld
    refine hK_.out _ _ (j7_ a0 (p3_ a3)) (fun hHeld => ?_)
    clear hK_ K_
    refine nR_ ?_
    refine oP 8 (some 48) (fun K_ hK_ => ?_)
    refine own_lit_step (Kd.raw 3) (N := N) (e := 35) (xs := [rw3 r0 r1 (.slice B nb cb)]) (inner := [.int .i64 r0, .int .i64 r1, .slice B nb cb]) rfl rfl gs_ (repW _ r0 r1 B nb cb) (by show 1 ≤ 9223372036854775807; decide) O6.out ?_
    intro D1 h1_ w7 o_ k_
    obtain ⟨O7, K7⟩ := ok_ K6 o_ k_
    clear a0 a3 O6 K6 o_ k_
    have a0 := k7_ O7 0
    have a3 := k3_ O7 3
    clear hHeld
    refine hK_.out _ _ (j7_ a0 (p3_ a3)) (fun hHeld => ?_)
    clear hK_ K_
    refine nR_ ?_
    refine norm_ (a' := _) ?_ (hc_ ⟨C2, e2, C3, e3, D1, h1_⟩ _ ⟨?_, K7.out⟩)
    ·simp only [putAll, Act.put, List.setIfInBounds_toArray, List.set_cons_zero, List.set_cons_succ]
     try rfl
    ·exact O7.out.pickL [0, 1, 2, 3, 4, 5] (by decide) (by simp)
   ·skip
    refine own_lit_step (Kd.raw 3) (N := N) (e := 35) (xs := [rw3 r0 r1 (.slice B nb cb)]) (inner := [.int .i64 r0, .int .i64 r1, .slice B nb cb]) rfl rfl gs_ (repW _ r0 r1 B nb cb) (by show 1 ≤ 9223372036854775807; decide) O5.out ?_
    intro D1 h1_ w6 o_ k_
    obtain ⟨O6, K6⟩ := ok_ K5 o_ k_
    clear a0 a3 O5 K5 o_ k_
    have a0 := k7_ O6 0
    have a3 := k3_ O6 3
    clear hHeld
    refine hK_.out _ _ (j7_ a0 (p3_ a3)) (fun hHeld => ?_)
    clear hK_ K_
    refine nR_ ?_
    refine oP 6 (some 46) (fun K_ hK_ => ?_)
    refine Own.append_flat_step (Kd.raw 3) flatRaw O6.out (i := 4) rfl (O6.out.nreads (i := 1) rfl).2.2 rfl (by rfl) (.tmp 41) (.tmp 45) 40 (.agg #[.int .i64 0, .int .i64 0, .slice none 0 0]) 40 rfl Tryd.underlying40 infoR rfl (by decide) (by decide) rfl rfl (by have := HL.out; simp only [List.length_nil]; omega) ?_
    intro C3 e3 w7 o_ k_
    obtain ⟨O7, K7⟩ := ok_ K6 o_ k_
    clear a0 a3 O6 K6 o_ k_
    have a0 := k7_ O7 0
    have a3 := k3_ O7 3
    clear hHeld
    refine hK_.out _ _ (j7_ a0 (p3_ a3)) (fun hHeld => ?_)
    clear hK_ K_
    refine nR_ ?_
    refine norm_ (a' := _) ?_ (hc_ ⟨C2, e2, C3, e3, D1, h1_⟩ _ ⟨?_, K7.out⟩)
    ·simp only [putAll, Act.put, List.setIfInBounds_toArray, List.set_cons_zero, List.set_cons_succ]
     try rfl
    ·exact O7.out.pickL [0, 1, 2, 3, 4, 5] (by decide) (by simp)
  ·skip
   refine own_lit_step (Kd.raw 3) (N := N) (e := 35) (xs := [rw3 r0 r1 (.slice B nb cb)]) (inner := [.int .i64 r0, .int .i64 r1, .slice B nb cb]) rfl rfl gs_ (repW _ r0 r1 B nb cb) (by show 1 ≤ 9223372036854775807; decide) O4.out ?_
   intro D1 h1_ w5 o_ k_
   obtain ⟨O5, K5⟩ := ok_ K4 o_ k_
   clear a0 a3 O4 K4 o_ k_
   have a0 := k7_ O5 0
   have a3 := k3_ O5 3
   clear hHeld
   refine hK_.out _ _ (j7_ a0 (p3_ a3)) (fun hHeld => ?_)
   clear hK_ K_
   refine nR_ ?_
   refine oP 1 (some 41) (fun K_ hK_ => ?_)
   refine own_lit_step (Kd.raw 3) (N := N) (e := 35) (xs := []) (inner := []) rfl rfl gs_ (Reps.none _ _) (by decide) O5.out ?_
   intro C2 e2 w6 o_ k_
   obtain ⟨O6, K6⟩ := ok_ K5 o_ k_
   clear a0 a3 O5 K5 o_ k_
   have a0 := k7_ O6 0
   have a3 := k3_ O6 3
   clear hHeld
   refine hK_.out _ _ (j7_ a0 (p3_ a3)) (fun hHeld => ?_)
   clear hK_ K_
   refine nR_ ?_
   refine oP 6 (some 46) (fun K_ hK_ => ?_)
   refine Own.append_flat_step (Kd.raw 3) flatRaw O6.out (i := 5) rfl (O6.out.nreads (i := 1) rfl).2.2 rfl (by rfl) (.tmp 41) (.tmp 45) 40 (.agg #[.int .i64 0, .int .i64 0, .slice none 0 0]) 40 rfl Tryd.underlying40 infoR rfl (by decide) (by decide) rfl rfl (by have := HL.out; simp only [List.length_nil]; omega) ?_
   intro C3 e3 w7 o_ k_
   obtain ⟨O7, K7⟩ := ok_ K6 o_ k_
   clear a0 a3 O6 K6 o_ k_
   have a0 := k7_ O7 0
   have a3 := k3_ O7 3
   clear hHeld
   refine hK_.out _ _ (j7_ a0 (p3_ a3)) (fun hHeld => ?_)
   clear hK_ K_
   refine nR_ ?_
   refine norm_ (a' := _) ?_ (hc_ ⟨C2, e2, C3, e3, D1, h1_⟩ _ ⟨?_, K7.out⟩)
   ·simp only [putAll, Act.put, List.setIfInBounds_toArray, List.set_cons_zero, List.set_cons_succ]
    try rfl
   ·exact O7.out.pickL [0, 1, 2, 3, 5, 4] (by decide) (by simp)
 case hcont =>
  clear hHeld
  rintro ⟨C2, e2, C3, e3, D1, h1_⟩ w4 ⟨o_, k_⟩
  obtain ⟨O4, K4⟩ := ok_ K3 o_ k_
  clear a0 a3 O3 K3 o_ k_
  have a0 := k7_ O4 0
  have a3 := k3_ O4 3
  refine nA_ ?_
  have hHeld : w4.cell? ⟨g, 0, none⟩ = some (jp) ∧ w4.cell? ⟨g, 1, none⟩ = some (.int .i64 o) ∧ w4.cell? ⟨g, 2, none⟩ = some (.int .i64 mtu) ∧ w4.cell? ⟨g, 3, none⟩ = some (.int .i64 push) ∧ w4.cell? ⟨g, 4, none⟩ = some (.slice A4 rK.length c4) ∧ w4.cell? ⟨g, 5, none⟩ = some (.slice A5 rP.length c5) ∧ w4.cell? ⟨g, 6, none⟩ = some (vo) ∧ w4.cell? ⟨gr, 0, none⟩ = some (.int .i64 r0) ∧ w4.cell? ⟨gr, 1, none⟩ = some (.int .i64 r1) ∧ w4.cell? ⟨gr, 2, none⟩ = some (.slice B nb cb) := (j7_ a0 (p3_ a3))
  refine oP 9 (some 49) (fun K_ hK_ => ?_)
  refine Own.append_flat_step (Kd.raw 3) flatRaw O4.out (i := 4) rfl (O4.out.nreads (i := 5) rfl).2.2 rfl (by rfl) (.tmp 46) (.tmp 48) 40 (.agg #[.int .i64 0, .int .i64 0, .slice none 0 0]) 40 rfl Tryd.underlying40 infoR rfl (by decide) (by decide) rfl rfl (by have := HL.out; omega) ?_
  intro C4 e4 w5 o_ k_
  obtain ⟨O5, K5⟩ := ok_ K4 o_ k_
  clear a0 a3 O4 K4 o_ k_
  have a0 := k7_ O5 0
  have a3 := k3_ O5 3
  clear hHeld
  refine hK_.out _ _ (j7_ a0 (p3_ a3)) (fun hHeld => ?_)
  clear hK_ K_
  refine nP ?_
  refine pP 10 (some 50) ?_
  refine pP 11 (some 51) ?_
  refine lP 12 none (fun K_ hK_ => ?_)
  refine xS 0 4 [.slice C4 (rK ++ [rw3 r0 r1 (.slice B nb cb)]).length e4] O5 ?_
  intro w6 o_ k_
  obtain ⟨O6, K6⟩ := ok_ K5 o_ k_
  clear a0 a3 O5 K5 o_ k_
  have a0 := k7_ O6 0
  have a3 := k3_ O6 3
  refine hK_.out _ _ ?_
  clear hK_ K_
  refine done_ (by kernel_rfl) ?_
  clear hHeld
  go_wp2
  go_ret
  exact ⟨C4, e4, rfl, O6.out.pickL [0, 4, 2] (by decide) (by simp), K6.out⟩
def Num (L : List Rnd) : Prop := ∀ x : Int, 0 ≤ x → x < L.length → (rd_T35 L x).f1 = x + 1
theorem num_nil : Num [] := fun x h0 h1 => by simp at h1; omega
theorem num_snoc {L : List Rnd} (o : Int) (ups : List Upd) (h : Num L) : Num (L ++ [⟨o, L.length + 1, ups⟩]) := fun x h0 h1 => by
 rw [rd_snoc _ _ x h0 h1]
 rw [List.length_append, List.length_singleton] at h1
 split
 ·exact h x h0 (by assumption)
 ·show (L.length : Int) + 1 = x + 1
  omega
theorem mem_rd {L : List Rnd} {r : Rnd} (h : r ∈ L) : ∃ x : Int, 0 ≤ x ∧ x < L.length ∧ rd_T35 L x = r := by
 obtain ⟨i, hi, rfl⟩ := List.mem_iff_getElem.1 h
 refine ⟨i, by omega, by omega, ?_⟩
 unfold rd_T35
 rw [List.getD_eq_getElem?_getD, Int.toNat_natCast, List.getElem?_eq_getElem hi]
 rfl
theorem from_all {L : List Rnd} (n : Int) (hn : n ≤ 0) (h : Num L) : fromL n L = L := by
 unfold fromL
 rw [List.filter_eq_self]
 intro r hr
 obtain ⟨x, h0, h1, rfl⟩ := mem_rd hr
 rw [h x h0 h1]
 simp
 omega
end Go.Proofs.YtjdenpmaianmfaaDoor.J
namespace Go.Proofs.YtjdenpmaianmfaaDoor.Pure
set_option linter.unusedSimpArgs false
set_option linter.unusedVariables false
open Go Go.RowKit Go.Proofs.YtjdenpmaianmfaaDoorW.PrintWords Go.Proofs.YtjdenpmaianmfaaDoorW.PrintLast Go.Proofs.YtjdenpmaianmfaaDoorW.PrintMore Go.Proofs.YtjdenpmaianmfaaDoor.Q
def bytesR (o n : Int) (l : List Upd) : ByteArray := headB o n l.length ++ catB l
def putR (o n : Int) (l : List Upd) : ByteArray × Int := if mayR o n l = 0 then (bytesR o n l, 0) else (nil', mayR o n l)
theorem pputR (o n : Int) (l : List Upd) : round_Put.f o n l = some (putR o n l) := by
 unfold round_Put.f putR
 rw [pmay 0, Option.bind_some]
 by_cases h : mayR o n l = 0
 ·obtain ⟨h1, h2, h3, h4, h5, h6, h7⟩ := mayR_zero h
  rw [if_pos h, if_pos h, headW_ok (by omega) (by omega) (by omega) (by omega) (by omega) (by omega), addsW_ok _ _ h7]
  rfl
 ·rw [if_neg h, if_neg h]
def fitsB (l : List Upd) (m : Int) : Bool := decide (mayR 64 1099511627776 l = 0 ∧ 64 ≤ m ∧ m ≤ 1400 ∧ ((bytesR 64 1099511627776 l).size : Int) ≤ m - 40)
theorem in_ok7 (n a b : Int) : round_in.f n a b = some (decide (n ≥ a ∧ n ≤ b)) := by
 unfold round_in.f
 by_cases h1 : n ≥ a <;> by_cases h2 : n ≤ b <;> simp [h1, h2]
theorem pfits (l : List Upd) (m : Int) : round_Fits.f l m = some (fitsB l m) := by
 unfold fitsB
 unfold round_Fits.f
 rw [pputR, Option.bind_some]
 unfold putR
 by_cases hm : mayR 64 1099511627776 l = 0
 ·rw [if_pos hm]
  simp only
  rw [if_pos trivial, in_ok7, Option.bind_some]
  by_cases hx : m ≥ 64 ∧ m ≤ 1400
  ·rw [if_pos (decide_eq_true hx), show wrap64 (m - 40) = m - 40 by unfold wrap64; omega]
   simp [hm, hx.1, hx.2]
  ·rw [if_neg (by simpa using hx)]
   have : ¬ (64 ≤ m ∧ m ≤ 1400 ∧ ((bytesR 64 1099511627776 l).size : Int) ≤ m - 40) := fun q => hx ⟨q.1, q.2.1⟩
   simp [this]
 ·rw [if_neg hm]
  simp only
  rw [if_neg hm]
  simp [hm]
end Go.Proofs.YtjdenpmaianmfaaDoor.Pure
namespace Go.Proofs.YtjdenpmaianmfaaDoor.J
open Go Go.RowKit Go.Proofs.YtjdenpmaianmfaaDoorW.PrintWords Go.Proofs.YtjdenpmaianmfaaDoorW.PrintLast Go.Proofs.YtjdenpmaianmfaaDoorW.PrintMore Go.Proofs.YtjdenpmaianmfaaDoor.Q Go.Proofs.YtjdenpmaianmfaaDoor.Sep Go.Proofs.YtjdenpmaianmfaaDoor.Pure
def TabN (N : Nat → Prop) (w : World) : Prop := N 0 ∧ Tab w
theorem TabN.keep {N : Nat → Prop} {w w' : World} (h : TabN N w) (hk : KeepS N w w') : TabN N w' := by
 have one : ∀ {j : Nat} {v : Value}, w.cell? ⟨0, j, none⟩ = some v → w'.cell? ⟨0, j, none⟩ = some v := fun {j v} hc =>
  (World.cell?_of_block (w := w) (hk.block _ (World.block_lt_of_cell? w _ hc) h.1)).trans hc
 exact ⟨h.1, one h.2.1, one h.2.2.1, one h.2.2.2.1, one h.2.2.2.2⟩
theorem TabN.mono {N N' : Nat → Prop} {w : World} (h : TabN N w) (hn : ∀ k, N k → N' k) : TabN N' w := ⟨hn _ h.1, h.2⟩
set_option maxHeartbeats 16000000
set_option maxRecDepth 100000
set_option linter.unusedSimpArgs false
set_option linter.unusedVariables false
theorem repU1 (W : World) (u : Upd7) : Reps (Kd.FK k32 W (fun _ => False)) 4 [u] [.string u.f0, .int .i64 u.f1, .int .i64 u.f2, .string u.f3] := (Reps.none _ 4).snoc (flatU.FK (k32_mk W u)) rfl
theorem CUpd_may {N : Nat → Prop} {w : World} {g : Nat} {jp : Value} {o mtu push : Int} {K P : List Rnd7} {U : List Upd7} (key : ByteArray) (c n : Int) (s : ByteArray) (h : Own N w [CliO g jp o mtu push K P U]) (ht : TabN N w) (hL : U.length ≤ 1000000) (hm : may key c n s ≠ 0) :
  Calls Tryd.prog 30 #[.pointer (some ⟨g, 0, none⟩), .agg #[.string key, .int .i64 c, .int .i64 n, .string s]] w fun e_ w' => e_ = .returned (.int .i64 (may key c n s)) ∧ Own N w' [CliO g jp o mtu push K P U] ∧ KeepS N w w' := by
 have d1 : (may key c n s != 0) = true := bne_iff_ne.mpr hm
 have HT_0 := Aside0.mk ht
 have HL := Aside0.mk hL
 obtain ⟨A4, c4, A5, c5, A6, c6, hcap, h2⟩ := CliO.open_ h
 have O0 : Aside0 (Own N w [cells g #[jp, .int .i64 o, .int .i64 mtu, .int .i64 push, .slice A4 K.length c4, .slice A5 P.length c5, .slice A6 U.length c6] 111, nrow k32 32 (.slice A6 U.length c6) U, qrow k35 35 (.slice A5 P.length c5) P, qrow k35 35 (.slice A4 K.length c4) K]) := ⟨h2⟩
 have K0 : Aside0 (KeepS N w w) := ⟨KeepS.refl _ _⟩
 have a0 := k7_ O0 0
 clear h2 h ht hL hcap hm
 go_enter Tryd.func30, Tryd.ntmps30
 go_wp2_with (first | ((with_reducible refine gD 3 rfl ?_); refine bP 3 #[.string key, .int .i64 c, .int .i64 n, .string s] 32 O0.out ?_; intro ga w1 o_ k_; obtain ⟨O1, K1⟩ := ok_ K0 o_ k_; have HT_1 := Aside0.mk (TabN.keep HT_0.out k_); clear a0 O0 K0 HT_0 o_ k_; have a0 := k7_ O1 0; have a4 := k4_ O1 4) | ((with_reducible refine gC 69 rfl ?_); refine gP (some 8) Tryd.func69 #[.agg #[.string key, .int .i64 c, .int .i64 n, .string s]] ?_; refine (value_May.calls 4 key c n s (may key c n s) _ (may_ok 0 key c n s)).mono ?_; rintro e_ w2 ⟨rfl, hb_⟩; refine ⟨_, rfl, ?_⟩; have o_ := O1.out.below hb_; have k_ := KeepS.of_below (N := N) hb_; obtain ⟨O2, K2⟩ := ok_ K1 o_ k_; have HT_2 := Aside0.mk (TabN.keep HT_1.out k_); clear a0 a4 O1 K1 HT_1 o_ k_ hb_; have a0 := k7_ O2 0; have a4 := k4_ O2 4))
 go_ret
 exact ⟨rfl, (CliO.shut (O2.out.pickL [0, 3, 2, 1] (by decide) (by simp))).take 1, K2.out⟩
theorem CUpd_long {N : Nat → Prop} {w : World} {g : Nat} {jp : Value} {o mtu push : Int} {K P : List Rnd7} {U : List Upd7} (key : ByteArray) (c n : Int) (s : ByteArray) (h : Own N w [CliO g jp o mtu push K P U]) (ht : TabN N w) (hL : U.length ≤ 1000000) (hm : may key c n s = 0) (hf1 : fitsB [(⟨key, c, n, s⟩ : Upd7)] mtu = false) :
  Calls Tryd.prog 30 #[.pointer (some ⟨g, 0, none⟩), .agg #[.string key, .int .i64 c, .int .i64 n, .string s]] w fun e_ w' => e_ = .returned (.int .i64 3) ∧ Own N w' [CliO g jp o mtu push K P U] ∧ KeepS N w w' := by
 have d1 : ((0 : Int) != 0) = false := by decide
 have HM := Aside0.mk hm
 have HF1 := Aside0.mk hf1
 have HT_0 := Aside0.mk ht
 have HL := Aside0.mk hL
 obtain ⟨A4, c4, A5, c5, A6, c6, hcap, h2⟩ := CliO.open_ h
 have O0 : Aside0 (Own N w [cells g #[jp, .int .i64 o, .int .i64 mtu, .int .i64 push, .slice A4 K.length c4, .slice A5 P.length c5, .slice A6 U.length c6] 111, nrow k32 32 (.slice A6 U.length c6) U, qrow k35 35 (.slice A5 P.length c5) P, qrow k35 35 (.slice A4 K.length c4) K]) := ⟨h2⟩
 have K0 : Aside0 (KeepS N w w) := ⟨KeepS.refl _ _⟩
 have a0 := k7_ O0 0
 clear h2 h ht hL hcap hm hf1
 go_enter Tryd.func30, Tryd.ntmps30
 go_wp2_with (first | ((with_reducible refine gD 3 rfl ?_); refine bP 3 #[.string key, .int .i64 c, .int .i64 n, .string s] 32 O0.out ?_; intro ga w1 o_ k_; obtain ⟨O1, K1⟩ := ok_ K0 o_ k_; have HT_1 := Aside0.mk (TabN.keep HT_0.out k_); clear a0 O0 K0 HT_0 o_ k_; have a0 := k7_ O1 0; have a4 := k4_ O1 4) | ((with_reducible refine gC 69 rfl ?_); refine gP (some 8) Tryd.func69 #[.agg #[.string key, .int .i64 c, .int .i64 n, .string s]] ?_; refine (value_May.calls 4 key c n s 0 _ ((may_ok 0 key c n s).trans (by rw [HM.out]))).mono ?_; rintro e_ w2 ⟨rfl, hb_⟩; refine ⟨_, rfl, ?_⟩; have o_ := O1.out.below hb_; have k_ := KeepS.of_below (N := N) hb_; obtain ⟨O2, K2⟩ := ok_ K1 o_ k_; have HT_2 := Aside0.mk (TabN.keep HT_1.out k_); clear a0 a4 O1 K1 HT_1 o_ k_ hb_; have a0 := k7_ O2 0; have a4 := k4_ O2 4))
 refine sP (n := 8) (S := d7_ g (jp) (.int .i64 o) (.int .i64 mtu) (.int .i64 push) (.slice A4 K.length c4) (.slice A5 P.length c5) (.slice A6 U.length c6) (c4_ ga (.string key) (.int .i64 c) (.int .i64 n) (.string s))) (ds := []) (j7_ a0 (p4_ a4)) (fun hHeld => ?_)
 obtain ⟨w3, hw_⟩ : ∃ W, W = w2.drew := ⟨_, rfl⟩
 have o_ := O2.out.drew
 have k_ : KeepS N w2 w2.drew := KeepS.drew
 rw [← hw_] at o_ k_ hHeld ⊢
 clear hw_
 obtain ⟨O3, K3⟩ := ok_ K2 o_ k_
 have HT_3 := Aside0.mk (TabN.keep HT_2.out k_)
 clear a0 a4 O2 K2 HT_2 o_ k_
 have a0 := k7_ O3 0
 have a4 := k4_ O3 4
 refine pP 2 (some 14) ?_
 refine pP 3 (some 15) ?_
 refine pP 4 (some 16) ?_
 refine tP 0 (some 12) hHeld ?_
 refine tP 5 (some 17) hHeld ?_
 refine oP 1 (some 13) (fun K_ hK_ => ?_)
 refine own_lit_step k32 (N := N) (e := 32) (xs := [(⟨key, c, n, s⟩ : Upd7)]) (inner := [.string key, .int .i64 c, .int .i64 n, .string s]) rfl rfl gs_ (repU1 _ (⟨key, c, n, s⟩ : Upd7)) (by show 1 ≤ 9223372036854775807; decide) O3.out ?_
 intro B1 d1_ w4 o_ k_
 obtain ⟨O4, K4⟩ := ok_ K3 o_ k_
 have HT_4 := Aside0.mk (TabN.keep HT_3.out k_)
 clear a0 a4 O3 K3 HT_3 o_ k_
 have a0 := k7_ O4 0
 have a4 := k4_ O4 4
 clear hHeld
 refine hK_.out _ _ (j7_ a0 (p4_ a4)) (fun hHeld => ?_)
 clear hK_ K_
 refine nP ?_
 refine oP 6 (some 18) (fun K_ hK_ => ?_)
 refine hP Tryd.func70 #[.slice B1 1 d1_, .int .i64 mtu] ?_
 refine (round_Fits.calls _ _ [(⟨key, c, n, s⟩ : Upd7)] mtu false _ ⟨HT_4.out.2⟩ (O4.out.nreads (i := 5) rfl).2.2 (O4.out.nreads (i := 5) rfl).2.1 (by rw [pfits, HF1.out])).mono ?_
 rintro e_ w5 ⟨rfl, hb_⟩
 refine ⟨_, rfl, ?_⟩
 have o_ := O4.out.below hb_
 have k_ := KeepS.of_below (N := N) hb_
 obtain ⟨O5, K5⟩ := ok_ K4 o_ k_
 have HT_5 := Aside0.mk (TabN.keep HT_4.out k_)
 clear a0 a4 O4 K4 HT_4 o_ k_ hb_
 have a0 := k7_ O5 0
 have a4 := k4_ O5 4
 clear hHeld
 refine hK_.out _ _ (j7_ a0 (p4_ a4)) (fun hHeld => ?_)
 clear hK_ K_
 refine nP ?_
 refine pP 7 (some 19) ?_
 refine done_ (by kernel_rfl) ?_
 clear hHeld
 go_wp2
 go_ret
 exact ⟨rfl, (CliO.shut (O5.out.pickL [0, 3, 2, 1] (by decide) (by simp))).take 1, K5.out⟩
theorem CUpd_fo {N : Nat → Prop} {w : World} {g : Nat} {jp : Value} {o mtu push : Int} {K P : List Rnd7} {U : List Upd7} (key : ByteArray) (c n : Int) (s : ByteArray) (h : Own N w [CliO g jp o mtu push K P U]) (ht : TabN N w) (hL : U.length ≤ 1000000) (hm : may key c n s = 0) (hf1 : fitsB [(⟨key, c, n, s⟩ : Upd7)] mtu = true) {F : Bool} {Q_ : Ending → World → Prop} (hf2 : fitsB (U ++ [(⟨key, c, n, s⟩ : Upd7)]) mtu = F) (q0_ : F = false → ∀ e_ w', (e_ = .returned (.int .i64 7) ∧ Own N w' [CliO g jp o mtu push K P U] ∧ KeepS N w w') → Q_ e_ w') (q1_ : F = true → ∀ e_ w', (e_ = .returned (.int .i64 0) ∧ Own N w' [CliO g jp o mtu push K P (U ++ [(⟨key, c, n, s⟩ : Upd7)])] ∧ KeepS N w w') → Q_ e_ w') :
  Calls Tryd.prog 30 #[.pointer (some ⟨g, 0, none⟩), .agg #[.string key, .int .i64 c, .int .i64 n, .string s]] w Q_ := by
 have Q0_ := Aside0.mk q0_
 have Q1_ := Aside0.mk q1_
 clear q0_ q1_
 have d1 : ((0 : Int) != 0) = false := by decide
 have HM := Aside0.mk hm
 have HF1 := Aside0.mk hf1
 obtain ⟨V, hV⟩ : ∃ V, U ++ [(⟨key, c, n, s⟩ : Upd7)] = V := ⟨_, rfl⟩
 rw [hV] at hf2
 have HF2 := Aside0.mk hf2
 have HV := Aside0.mk hV
 clear hV hf2
 have HT_0 := Aside0.mk ht
 have HL := Aside0.mk hL
 obtain ⟨A4, c4, A5, c5, A6, c6, hcap, h2⟩ := CliO.open_ h
 have O0 : Aside0 (Own N w [cells g #[jp, .int .i64 o, .int .i64 mtu, .int .i64 push, .slice A4 K.length c4, .slice A5 P.length c5, .slice A6 U.length c6] 111, nrow k32 32 (.slice A6 U.length c6) U, qrow k35 35 (.slice A5 P.length c5) P, qrow k35 35 (.slice A4 K.length c4) K]) := ⟨h2⟩
 have K0 : Aside0 (KeepS N w w) := ⟨KeepS.refl _ _⟩
 have a0 := k7_ O0 0
 clear h2 h ht hL hcap hm hf1
 go_enter Tryd.func30, Tryd.ntmps30
 go_wp2_with (first | ((with_reducible refine gD 3 rfl ?_); refine bP 3 #[.string key, .int .i64 c, .int .i64 n, .string s] 32 O0.out ?_; intro ga w1 o_ k_; obtain ⟨O1, K1⟩ := ok_ K0 o_ k_; have HT_1 := Aside0.mk (TabN.keep HT_0.out k_); clear a0 O0 K0 HT_0 o_ k_; have a0 := k7_ O1 0; have a4 := k4_ O1 4) | ((with_reducible refine gC 69 rfl ?_); refine gP (some 8) Tryd.func69 #[.agg #[.string key, .int .i64 c, .int .i64 n, .string s]] ?_; refine (value_May.calls 4 key c n s 0 _ ((may_ok 0 key c n s).trans (by rw [HM.out]))).mono ?_; rintro e_ w2 ⟨rfl, hb_⟩; refine ⟨_, rfl, ?_⟩; have o_ := O1.out.below hb_; have k_ := KeepS.of_below (N := N) hb_; obtain ⟨O2, K2⟩ := ok_ K1 o_ k_; have HT_2 := Aside0.mk (TabN.keep HT_1.out k_); clear a0 a4 O1 K1 HT_1 o_ k_ hb_; have a0 := k7_ O2 0; have a4 := k4_ O2 4))
 refine sP (n := 8) (S := d7_ g (jp) (.int .i64 o) (.int .i64 mtu) (.int .i64 push) (.slice A4 K.length c4) (.slice A5 P.length c5) (.slice A6 U.length c6) (c4_ ga (.string key) (.int .i64 c) (.int .i64 n) (.string s))) (ds := []) (j7_ a0 (p4_ a4)) (fun hHeld => ?_)
 obtain ⟨w3, hw_⟩ : ∃ W, W = w2.drew := ⟨_, rfl⟩
 have o_ := O2.out.drew
 have k_ : KeepS N w2 w2.drew := KeepS.drew
 rw [← hw_] at o_ k_ hHeld ⊢
 clear hw_
 obtain ⟨O3, K3⟩ := ok_ K2 o_ k_
 have HT_3 := Aside0.mk (TabN.keep HT_2.out k_)
 clear a0 a4 O2 K2 HT_2 o_ k_
 have a0 := k7_ O3 0
 have a4 := k4_ O3 4
 refine pP 2 (some 14) ?_
 refine pP 3 (some 15) ?_
 refine pP 4 (some 16) ?_
 refine tP 0 (some 12) hHeld ?_
 refine tP 5 (some 17) hHeld ?_
 refine oP 1 (some 13) (fun K_ hK_ => ?_)
 refine own_lit_step k32 (N := N) (e := 32) (xs := [(⟨key, c, n, s⟩ : Upd7)]) (inner := [.string key, .int .i64 c, .int .i64 n, .string s]) rfl rfl gs_ (repU1 _ (⟨key, c, n, s⟩ : Upd7)) (by show 1 ≤ 9223372036854775807; decide) O3.out ?_
 intro B1 d1_ w4 o_ k_
 obtain ⟨O4, K4⟩ := ok_ K3 o_ k_
 have HT_4 := Aside0.mk (TabN.keep HT_3.out k_)
 clear a0 a4 O3 K3 HT_3 o_ k_
 have a0 := k7_ O4 0
 have a4 := k4_ O4 4
 clear hHeld
 refine hK_.out _ _ (j7_ a0 (p4_ a4)) (fun hHeld => ?_)
 clear hK_ K_
 refine nP ?_
 refine oP 6 (some 18) (fun K_ hK_ => ?_)
 refine hP Tryd.func70 #[.slice B1 1 d1_, .int .i64 mtu] ?_
 refine (round_Fits.calls _ _ [(⟨key, c, n, s⟩ : Upd7)] mtu true _ ⟨HT_4.out.2⟩ (O4.out.nreads (i := 5) rfl).2.2 (O4.out.nreads (i := 5) rfl).2.1 (by rw [pfits, HF1.out])).mono ?_
 rintro e_ w5 ⟨rfl, hb_⟩
 refine ⟨_, rfl, ?_⟩
 have o_ := O4.out.below hb_
 have k_ := KeepS.of_below (N := N) hb_
 obtain ⟨O5, K5⟩ := ok_ K4 o_ k_
 have HT_5 := Aside0.mk (TabN.keep HT_4.out k_)
 clear a0 a4 O4 K4 HT_4 o_ k_ hb_
 have a0 := k7_ O5 0
 have a4 := k4_ O5 4
 clear hHeld
 refine hK_.out _ _ (j7_ a0 (p4_ a4)) (fun hHeld => ?_)
 clear hK_ K_
 refine nP ?_
 refine pP 7 (some 19) ?_
 refine done_ (by kernel_rfl) ?_
 clear hHeld
 go_wp2
 refine sP (n := 10) (S := d7_ g (jp) (.int .i64 o) (.int .i64 mtu) (.int .i64 push) (.slice A4 K.length c4) (.slice A5 P.length c5) (.slice A6 U.length c6) (c4_ ga (.string key) (.int .i64 c) (.int .i64 n) (.string s))) (ds := []) (j7_ a0 (p4_ a4)) (fun hHeld => ?_)
 obtain ⟨w6, hw_⟩ : ∃ W, W = w5.drew := ⟨_, rfl⟩
 have o_ := O5.out.drew
 have k_ : KeepS N w5 w5.drew := KeepS.drew
 rw [← hw_] at o_ k_ hHeld ⊢
 clear hw_
 obtain ⟨O6, K6⟩ := ok_ K5 o_ k_
 have HT_6 := Aside0.mk (TabN.keep HT_5.out k_)
 clear a0 a4 O5 K5 HT_5 o_ k_
 have a0 := k7_ O6 0
 have a4 := k4_ O6 4
 refine pP 1 (some 21) ?_
 refine pP 2 (some 22) ?_
 refine pP 3 (some 23) ?_
 refine tP 4 (some 24) hHeld ?_
 refine tP 6 (some 26) hHeld ?_
 refine join_ (σ := Option Addr × Nat × Option Addr × Nat × Option Addr × Nat) 2 #[true, true, true, true, true, true, true, true, false, false] (fun ⟨C1, e1, C2, e2, D1, h1_⟩ => [(20, .slice C1 0 e1), (25, .slice C2 U.length e2), (27, .slice D1 1 h1_)]) (fun ⟨C1, e1, C2, e2, D1, h1_⟩ w' => Own N w' [cells g #[jp, .int .i64 o, .int .i64 mtu, .int .i64 push, .slice A4 K.length c4, .slice A5 P.length c5, .slice A6 U.length c6] 111, nrow k32 32 (.slice A6 U.length c6) U, qrow k35 35 (.slice A5 P.length c5) P, qrow k35 35 (.slice A4 K.length c4) K, cells ga #[.string key, .int .i64 c, .int .i64 n, .string s] 32, nrow k32 32 (.slice B1 1 d1_) [(⟨key, c, n, s⟩ : Upd7)], nrow k32 32 (.slice C2 U.length e2) U, nrow k32 32 (.slice D1 1 h1_) [(⟨key, c, n, s⟩ : Upd7)]] ∧ KeepS N w6 w') ?hcont ?hways
 case hways =>
  intro hc_
  have K7 : Aside0 (KeepS N w6 w6) := ⟨KeepS.refl _ _⟩
  have O7 : Aside0 (Own N w6 [cells g #[jp, .int .i64 o, .int .i64 mtu, .int .i64 push, .slice A4 K.length c4, .slice A5 P.length c5, .slice A6 U.length c6] 111, nrow k32 32 (.slice A6 U.length c6) U, qrow k35 35 (.slice A5 P.length c5) P, qrow k35 35 (.slice A4 K.length c4) K, cells ga #[.string key, .int .i64 c, .int .i64 n, .string s] 32, nrow k32 32 (.slice B1 1 d1_) [(⟨key, c, n, s⟩ : Upd7)]]) := O6
  refine tW_ 0 7 (some 20) (some 27) (fun K_ hK_ => ?_) (fun K_ hK_ => ?_)
  ·skip
   refine own_lit_step k32 (N := N) (e := 32) (xs := []) (inner := []) rfl rfl gs_ (Reps.none _ _) (by decide) O7.out ?_
   intro C1 e1 w8 o_ k_
   obtain ⟨O8, K8⟩ := ok_ K7 o_ k_
   have HT_8 := Aside0.mk (TabN.keep HT_6.out k_)
   clear a0 a4 O7 K7 HT_6 o_ k_
   have a0 := k7_ O8 0
   have a4 := k4_ O8 4
   clear hHeld
   refine hK_.out _ _ (j7_ a0 (p4_ a4)) (fun hHeld => ?_)
   clear hK_ K_
   refine nR_ ?_
   refine tW_ 5 7 (some 25) (some 27) (fun K_ hK_ => ?_) (fun K_ hK_ => ?_)
   ·skip
    refine Own.append_flat_step k32 flatU O8.out (i := 6) rfl (O8.out.nreads (i := 1) rfl).2.2 rfl (by rfl) (.tmp 20) (.tmp 24) 33 (.agg #[.string ⟨#[]⟩, .int .i64 0, .int .i64 0, .string ⟨#[]⟩]) 48 rfl Tryd.underlying33 infoU7 rfl (by decide) (by decide) rfl rfl (by have := HL.out; simp only [List.length_nil]; omega) ?_
    intro C2 e2 w9 o_ k_
    obtain ⟨O9, K9⟩ := ok_ K8 o_ k_
    have HT_9 := Aside0.mk (TabN.keep HT_8.out k_)
    clear a0 a4 O8 K8 HT_8 o_ k_
    have a0 := k7_ O9 0
    have a4 := k4_ O9 4
    clear hHeld
    refine hK_.out _ _ (j7_ a0 (p4_ a4)) (fun hHeld => ?_)
    clear hK_ K_
    refine nR_ ?_
    refine oP 7 (some 27) (fun K_ hK_ => ?_)
    refine own_lit_step k32 (N := N) (e := 32) (xs := [(⟨key, c, n, s⟩ : Upd7)]) (inner := [.string key, .int .i64 c, .int .i64 n, .string s]) rfl rfl gs_ (repU1 _ (⟨key, c, n, s⟩ : Upd7)) (by show 1 ≤ 9223372036854775807; decide) O9.out ?_
    intro D1 h1_ w10 o_ k_
    obtain ⟨O10, K10⟩ := ok_ K9 o_ k_
    have HT_10 := Aside0.mk (TabN.keep HT_9.out k_)
    clear a0 a4 O9 K9 HT_9 o_ k_
    have a0 := k7_ O10 0
    have a4 := k4_ O10 4
    clear hHeld
    refine hK_.out _ _ (j7_ a0 (p4_ a4)) (fun hHeld => ?_)
    clear hK_ K_
    refine nR_ ?_
    refine norm_ (a' := _) ?_ (hc_ ⟨C1, e1, C2, e2, D1, h1_⟩ _ ⟨?_, K10.out⟩)
    ·simp only [putAll, Act.put, List.setIfInBounds_toArray, List.set_cons_zero, List.set_cons_succ]
     try rfl
    ·exact O10.out.pickL [0, 1, 2, 3, 4, 5, 6, 7] (by decide) (by simp)
   ·skip
    refine own_lit_step k32 (N := N) (e := 32) (xs := [(⟨key, c, n, s⟩ : Upd7)]) (inner := [.string key, .int .i64 c, .int .i64 n, .string s]) rfl rfl gs_ (repU1 _ (⟨key, c, n, s⟩ : Upd7)) (by show 1 ≤ 9223372036854775807; decide) O8.out ?_
    intro D1 h1_ w9 o_ k_
    obtain ⟨O9, K9⟩ := ok_ K8 o_ k_
    have HT_9 := Aside0.mk (TabN.keep HT_8.out k_)
    clear a0 a4 O8 K8 HT_8 o_ k_
    have a0 := k7_ O9 0
    have a4 := k4_ O9 4
    clear hHeld
    refine hK_.out _ _ (j7_ a0 (p4_ a4)) (fun hHeld => ?_)
    clear hK_ K_
    refine nR_ ?_
    refine oP 5 (some 25) (fun K_ hK_ => ?_)
    refine Own.append_flat_step k32 flatU O9.out (i := 6) rfl (O9.out.nreads (i := 1) rfl).2.2 rfl (by rfl) (.tmp 20) (.tmp 24) 33 (.agg #[.string ⟨#[]⟩, .int .i64 0, .int .i64 0, .string ⟨#[]⟩]) 48 rfl Tryd.underlying33 infoU7 rfl (by decide) (by decide) rfl rfl (by have := HL.out; simp only [List.length_nil]; omega) ?_
    intro C2 e2 w10 o_ k_
    obtain ⟨O10, K10⟩ := ok_ K9 o_ k_
    have HT_10 := Aside0.mk (TabN.keep HT_9.out k_)
    clear a0 a4 O9 K9 HT_9 o_ k_
    have a0 := k7_ O10 0
    have a4 := k4_ O10 4
    clear hHeld
    refine hK_.out _ _ (j7_ a0 (p4_ a4)) (fun hHeld => ?_)
    clear hK_ K_
    refine nR_ ?_
    refine norm_ (a' := _) ?_ (hc_ ⟨C1, e1, C2, e2, D1, h1_⟩ _ ⟨?_, K10.out⟩)
    ·simp only [putAll, Act.put, List.setIfInBounds_toArray, List.set_cons_zero, List.set_cons_succ]
     try rfl
    ·exact O10.out.pickL [0, 1, 2, 3, 4, 5, 6, 7] (by decide) (by simp)
  ·skip
   refine own_lit_step k32 (N := N) (e := 32) (xs := [(⟨key, c, n, s⟩ : Upd7)]) (inner := [.string key, .int .i64 c, .int .i64 n, .string s]) rfl rfl gs_ (repU1 _ (⟨key, c, n, s⟩ : Upd7)) (by show 1 ≤ 9223372036854775807; decide) O7.out ?_
   intro D1 h1_ w8 o_ k_
   obtain ⟨O8, K8⟩ := ok_ K7 o_ k_
   have HT_8 := Aside0.mk (TabN.keep HT_6.out k_)
   clear a0 a4 O7 K7 HT_6 o_ k_
   have a0 := k7_ O8 0
   have a4 := k4_ O8 4
   clear hHeld
   refine hK_.out _ _ (j7_ a0 (p4_ a4)) (fun hHeld => ?_)
   clear hK_ K_
   refine nR_ ?_
   refine oP 0 (some 20) (fun K_ hK_ => ?_)
   refine own_lit_step k32 (N := N) (e := 32) (xs := []) (inner := []) rfl rfl gs_ (Reps.none _ _) (by decide) O8.out ?_
   intro C1 e1 w9 o_ k_
   obtain ⟨O9, K9⟩ := ok_ K8 o_ k_
   have HT_9 := Aside0.mk (TabN.keep HT_8.out k_)
   clear a0 a4 O8 K8 HT_8 o_ k_
   have a0 := k7_ O9 0
   have a4 := k4_ O9 4
   clear hHeld
   refine hK_.out _ _ (j7_ a0 (p4_ a4)) (fun hHeld => ?_)
   clear hK_ K_
   refine nR_ ?_
   refine oP 5 (some 25) (fun K_ hK_ => ?_)
   refine Own.append_flat_step k32 flatU O9.out (i := 7) rfl (O9.out.nreads (i := 1) rfl).2.2 rfl (by rfl) (.tmp 20) (.tmp 24) 33 (.agg #[.string ⟨#[]⟩, .int .i64 0, .int .i64 0, .string ⟨#[]⟩]) 48 rfl Tryd.underlying33 infoU7 rfl (by decide) (by decide) rfl rfl (by have := HL.out; simp only [List.length_nil]; omega) ?_
   intro C2 e2 w10 o_ k_
   obtain ⟨O10, K10⟩ := ok_ K9 o_ k_
   have HT_10 := Aside0.mk (TabN.keep HT_9.out k_)
   clear a0 a4 O9 K9 HT_9 o_ k_
   have a0 := k7_ O10 0
   have a4 := k4_ O10 4
   clear hHeld
   refine hK_.out _ _ (j7_ a0 (p4_ a4)) (fun hHeld => ?_)
   clear hK_ K_
   refine nR_ ?_
   refine norm_ (a' := _) ?_ (hc_ ⟨C1, e1, C2, e2, D1, h1_⟩ _ ⟨?_, K10.out⟩)
   ·simp only [putAll, Act.put, List.setIfInBounds_toArray, List.set_cons_zero, List.set_cons_succ]
    try rfl
   ·exact O10.out.pickL [0, 1, 2, 3, 4, 5, 7, 6] (by decide) (by simp)
 case hcont =>
  clear hHeld
  rintro ⟨C1, e1, C2, e2, D1, h1_⟩ w7 ⟨o_, k_⟩
  obtain ⟨O7, K7⟩ := ok_ K6 o_ k_
  have HT_7 := Aside0.mk (TabN.keep HT_6.out k_)
  clear a0 a4 O6 K6 HT_6 o_ k_
  have a0 := k7_ O7 0
  have a4 := k4_ O7 4
  refine nA_ ?_
  have hHeld : w7.cell? ⟨g, 0, none⟩ = some (jp) ∧ w7.cell? ⟨g, 1, none⟩ = some (.int .i64 o) ∧ w7.cell? ⟨g, 2, none⟩ = some (.int .i64 mtu) ∧ w7.cell? ⟨g, 3, none⟩ = some (.int .i64 push) ∧ w7.cell? ⟨g, 4, none⟩ = some (.slice A4 K.length c4) ∧ w7.cell? ⟨g, 5, none⟩ = some (.slice A5 P.length c5) ∧ w7.cell? ⟨g, 6, none⟩ = some (.slice A6 U.length c6) ∧ w7.cell? ⟨ga, 0, none⟩ = some (.string key) ∧ w7.cell? ⟨ga, 1, none⟩ = some (.int .i64 c) ∧ w7.cell? ⟨ga, 2, none⟩ = some (.int .i64 n) ∧ w7.cell? ⟨ga, 3, none⟩ = some (.string s) := (j7_ a0 (p4_ a4))
  refine oP 8 (some 28) (fun K_ hK_ => ?_)
  refine Own.append_flat_step k32 flatU O7.out (i := 6) (ys := [(⟨key, c, n, s⟩ : Upd7)]) rfl (O7.out.nreads (i := 7) rfl).2.2 rfl (by rfl) (.tmp 25) (.tmp 27) 33 (.agg #[.string ⟨#[]⟩, .int .i64 0, .int .i64 0, .string ⟨#[]⟩]) 48 rfl Tryd.underlying33 infoU7 rfl (by decide) (by decide) rfl rfl (by have := HL.out; omega) ?_
  rw [HV.out]
  intro C3 e3 w8 o_ k_
  obtain ⟨O8, K8⟩ := ok_ K7 o_ k_
  have HT_8 := Aside0.mk (TabN.keep HT_7.out k_)
  clear a0 a4 O7 K7 HT_7 o_ k_
  have a0 := k7_ O8 0
  have a4 := k4_ O8 4
  clear hHeld
  refine hK_.out _ _ (j7_ a0 (p4_ a4)) (fun hHeld => ?_)
  clear hK_ K_
  refine nP ?_
  refine pP 9 (some 6) ?_
  refine done_ (by kernel_rfl) ?_
  clear hHeld
  cases F
  ·go_wp2_with (first | ((with_reducible refine gC 70 rfl ?_); refine gP (some 34) Tryd.func70 #[.slice C3 V.length e3, .int .i64 mtu] ?_; refine (round_Fits.calls _ _ V mtu false _ ⟨HT_8.out.2⟩ (O8.out.nreads (i := 6) rfl).2.2 (O8.out.nreads (i := 6) rfl).2.1 (by rw [pfits, HF2.out])).mono ?_; rintro e_ w9 ⟨rfl, hb_⟩; refine ⟨_, rfl, ?_⟩; have o_ := O8.out.below hb_; have k_ := KeepS.of_below (N := N) hb_; obtain ⟨O9, K9⟩ := ok_ K8 o_ k_; have HT_9 := Aside0.mk (TabN.keep HT_8.out k_); clear a0 a4 O8 K8 HT_8 o_ k_ hb_; have a0 := k7_ O9 0; have a4 := k4_ O9 4))
   refine Q0_.out (by trivial) _ _ ?_
   exact ⟨rfl, (CliO.shut (O9.out.pickL [0, 3, 2, 1] (by decide) (by simp))).take 1, K9.out⟩
  ·go_wp2_with (first | ((with_reducible refine gC 70 rfl ?_); refine gP (some 34) Tryd.func70 #[.slice C3 V.length e3, .int .i64 mtu] ?_; refine (round_Fits.calls _ _ V mtu true _ ⟨HT_8.out.2⟩ (O8.out.nreads (i := 6) rfl).2.2 (O8.out.nreads (i := 6) rfl).2.1 (by rw [pfits, HF2.out])).mono ?_; rintro e_ w9 ⟨rfl, hb_⟩; refine ⟨_, rfl, ?_⟩; have o_ := O8.out.below hb_; have k_ := KeepS.of_below (N := N) hb_; obtain ⟨O9, K9⟩ := ok_ K8 o_ k_; have HT_9 := Aside0.mk (TabN.keep HT_8.out k_); clear a0 a4 O8 K8 HT_8 o_ k_ hb_; have a0 := k7_ O9 0; have a4 := k4_ O9 4) | ((with_reducible refine gT 33 39 rfl ?_); refine wS 0 6 [.slice C3 V.length e3] O9 ?_; intro w10 o_ k_; obtain ⟨O10, K10⟩ := ok_ K9 o_ k_; have HT_10 := Aside0.mk (TabN.keep HT_9.out k_); clear a0 a4 O9 K9 HT_9 o_ k_; have a0 := k7_ O10 0; have a4 := k4_ O10 4))
   refine Q1_.out (by trivial) _ _ ?_
   rw [HV.out]
   exact ⟨rfl, (CliO.shut (O10.out.pickL [0, 3, 2, 6] (by decide) (by simp))).take 1, K10.out⟩
theorem AddG {N : Nat → Prop} {w : World} {gj : Nat} {jo jm E : Int} {L LL : List Rnd7} {rr : Rnd7} (B : Option Addr) (c : Nat) (ups : List Upd7) (h : Own N w [Obj3 138 gj jo jm L]) (hr : Kd.F k32 w N B ups.length ups) (hc : ups.length ≤ c) (hL : L.length ≤ 1000000) (hu : ups.length ≤ 1000000) (h1 : addE jo jm L ups = E) (h2 : addR jo jm L ups = rr) (h3 : addL jo jm L ups = LL) :
  Calls Tryd.prog 71 #[.pointer (some ⟨gj, 0, none⟩), .slice B ups.length c] w fun e_ w' => ∃ A1 c1, e_ = .returned (.tuple #[.agg #[.int .i64 rr.f0, .int .i64 rr.f1, .slice A1 rr.f2.length c1], .int .i64 E]) ∧ Own N w' [Obj3 138 gj jo jm LL, nrow k32 32 (.slice A1 rr.f2.length c1) rr.f2] ∧ KeepS N w w' := by
 subst h1 h2 h3
 exact Add B c ups h hr hc hL hu
theorem addR_len {jo jm : Int} {L : List Rnd7} {ups : List Upd7} (hu : ups.length ≤ 1000000) : (addR jo jm L ups).f2.length ≤ 1000000 := by
 unfold addR
 split
 ·exact hu
 ·exact Nat.zero_le _
theorem CPush_none {N : Nat → Prop} {w : World} {g gj : Nat} {o mtu push jo jm : Int} {K P L : List Rnd7} {U : List Upd7} (h : Own N w [CliO g (.pointer (some ⟨gj, 0, none⟩)) o mtu push K P U, Obj3 138 gj jo jm L]) (hu : U.length ≤ 1000000) (hL : L.length ≤ 1000000) (hP : P.length ≤ 1000000) (hu0 : U.length = 0) :
  Calls Tryd.prog 31 #[.pointer (some ⟨g, 0, none⟩)] w fun e_ w' => ∃ A1 c1, e_ = .returned (.tuple #[.agg #[.int .i64 z35.f0, .int .i64 z35.f1, .slice A1 z35.f2.length c1], .int .i64 11]) ∧ Own N w' [CliO g (.pointer (some ⟨gj, 0, none⟩)) o mtu push K P U, Obj3 138 gj jo jm L, nrow k32 32 (.slice A1 z35.f2.length c1) z35.f2] ∧ KeepS N w w' := by
 have d1 : ((U.length : Int) == 0) = true := by simp [hu0]
 have HUL := Aside0.mk hu
 have HL := Aside0.mk hL
 have HP := Aside0.mk hP
 obtain ⟨A4, c4, A5, c5, A6, c6, hcap, h2⟩ := CliO.open_ h
 have HCAP := Aside0.mk hcap
 have O0 : Aside0 (Own N w [cells g #[.pointer (some ⟨gj, 0, none⟩), .int .i64 o, .int .i64 mtu, .int .i64 push, .slice A4 K.length c4, .slice A5 P.length c5, .slice A6 U.length c6] 111, Obj3 138 gj jo jm L, nrow k32 32 (.slice A6 U.length c6) U, qrow k35 35 (.slice A5 P.length c5) P, qrow k35 35 (.slice A4 K.length c4) K]) := ⟨h2⟩
 have K0 : Aside0 (KeepS N w w) := ⟨KeepS.refl _ _⟩
 have a0 := k7_ O0 0
 clear h2 h hu hL hP hcap hu0
 go_enter Tryd.func31, Tryd.ntmps31
 go_wp2_with (first | ((with_reducible refine gD 2 rfl ?_); refine bP 2 #[.int .i64 0, .int .i64 0, .slice none 0 0] 35 O0.out ?_; intro gz w1 o_ k_; obtain ⟨O1, K1⟩ := ok_ K0 o_ k_; clear a0 O0 K0 o_ k_; have a0 := k7_ O1 0; have a5 := k3_ O1 5) | ((with_reducible refine gT 35 2 rfl ?_); refine wS 5 0 [.int .i64 0, .int .i64 0, .slice none 0 0] O1 ?_; intro w2 o_ k_; obtain ⟨O2, K2⟩ := ok_ K1 o_ k_; clear a0 a5 O1 K1 o_ k_; have a0 := k7_ O2 0; have a5 := k3_ O2 5))
 refine bodyPost_ret (results_ct rfl _ _ gz 35 #[.int .i64 0, .int .i64 0, .slice none 0 0] (0, 0) _ rfl (O2.out.blk (i := 5) rfl) Tryd.underlying35 rfl (by kernel_rfl)) rfl ?_
 exact ⟨none, 0, rfl, ((CliO.shut (O2.out.pickL [0, 4, 3, 2, 1] (by decide) (by simp))).pickL [0, 4] (by decide) (by simp)).push_emp _ (fun w => Kd.N_nil _ _ _ _ _), K2.out⟩
theorem CPush_full {N : Nat → Prop} {w : World} {g gj : Nat} {o mtu push jo jm : Int} {K P L : List Rnd7} {U : List Upd7} (h : Own N w [CliO g (.pointer (some ⟨gj, 0, none⟩)) o mtu push K P U, Obj3 138 gj jo jm L]) (hu : U.length ≤ 1000000) (hL : L.length ≤ 1000000) (hP : P.length ≤ 1000000) (hu0 : U.length ≠ 0) (hp : (P.length : Int) ≥ push) :
  Calls Tryd.prog 31 #[.pointer (some ⟨g, 0, none⟩)] w fun e_ w' => ∃ A1 c1, e_ = .returned (.tuple #[.agg #[.int .i64 z35.f0, .int .i64 z35.f1, .slice A1 z35.f2.length c1], .int .i64 7]) ∧ Own N w' [CliO g (.pointer (some ⟨gj, 0, none⟩)) o mtu push K P U, Obj3 138 gj jo jm L, nrow k32 32 (.slice A1 z35.f2.length c1) z35.f2] ∧ KeepS N w w' := by
 have d1 : ((U.length : Int) == 0) = false := beq_eq_false_iff_ne.mpr (by omega)
 have d2 : decide ((P.length : Int) ≥ push) = true := decide_eq_true hp
 have d3 : decide (push ≤ (P.length : Int)) = true := d2
 have HUL := Aside0.mk hu
 have HL := Aside0.mk hL
 have HP := Aside0.mk hP
 obtain ⟨A4, c4, A5, c5, A6, c6, hcap, h2⟩ := CliO.open_ h
 have HCAP := Aside0.mk hcap
 have O0 : Aside0 (Own N w [cells g #[.pointer (some ⟨gj, 0, none⟩), .int .i64 o, .int .i64 mtu, .int .i64 push, .slice A4 K.length c4, .slice A5 P.length c5, .slice A6 U.length c6] 111, Obj3 138 gj jo jm L, nrow k32 32 (.slice A6 U.length c6) U, qrow k35 35 (.slice A5 P.length c5) P, qrow k35 35 (.slice A4 K.length c4) K]) := ⟨h2⟩
 have K0 : Aside0 (KeepS N w w) := ⟨KeepS.refl _ _⟩
 have a0 := k7_ O0 0
 clear h2 h hu hL hP hcap hu0 hp
 go_enter Tryd.func31, Tryd.ntmps31
 go_wp2_with (first | ((with_reducible refine gD 2 rfl ?_); refine bP 2 #[.int .i64 0, .int .i64 0, .slice none 0 0] 35 O0.out ?_; intro gz w1 o_ k_; obtain ⟨O1, K1⟩ := ok_ K0 o_ k_; clear a0 O0 K0 o_ k_; have a0 := k7_ O1 0; have a5 := k3_ O1 5))
 refine sP (n := 11) (S := c7_ g (.pointer (some ⟨gj, 0, none⟩)) (.int .i64 o) (.int .i64 mtu) (.int .i64 push) (.slice A4 K.length c4) (.slice A5 P.length c5) (.slice A6 U.length c6)) (ds := []) (p7_ a0) (fun hHeld => ?_)
 obtain ⟨w2, hw_⟩ : ∃ W, W = w1.drew := ⟨_, rfl⟩
 have o_ := O1.out.drew
 have k_ : KeepS N w1 w1.drew := KeepS.drew
 rw [← hw_] at o_ k_ hHeld ⊢
 clear hw_
 obtain ⟨O2, K2⟩ := ok_ K1 o_ k_
 clear a0 a5 O1 K1 o_ k_
 have a0 := k7_ O2 0
 have a5 := k3_ O2 5
 refine pP 0 (some 15) ?_
 refine pP 1 (some 16) ?_
 refine pP 2 (some 17) ?_
 refine pP 5 (some 20) ?_
 refine pP 6 (some 21) ?_
 refine pP 7 (some 22) ?_
 refine tP 3 (some 18) hHeld ?_
 refine pP 4 (some 19) ?_
 refine tP 8 (some 23) hHeld ?_
 refine pP 9 (some 24) ?_
 refine pP 10 (some 14) ?_
 refine done_ (by kernel_rfl) ?_
 clear hHeld
 go_wp2_with (first | ((with_reducible refine gT 35 2 rfl ?_); refine wS 5 0 [.int .i64 0, .int .i64 0, .slice none 0 0] O2 ?_; intro w3 o_ k_; obtain ⟨O3, K3⟩ := ok_ K2 o_ k_; clear a0 a5 O2 K2 o_ k_; have a0 := k7_ O3 0; have a5 := k3_ O3 5))
 refine bodyPost_ret (results_ct rfl _ _ gz 35 #[.int .i64 0, .int .i64 0, .slice none 0 0] (0, 0) _ rfl (O3.out.blk (i := 5) rfl) Tryd.underlying35 rfl (by kernel_rfl)) rfl ?_
 exact ⟨none, 0, rfl, ((CliO.shut (O3.out.pickL [0, 4, 3, 2, 1] (by decide) (by simp))).pickL [0, 4] (by decide) (by simp)).push_emp _ (fun w => Kd.N_nil _ _ _ _ _), K3.out⟩
theorem CPush_eo {N : Nat → Prop} {w : World} {g gj : Nat} {o mtu push jo jm : Int} {K P L : List Rnd7} {U : List Upd7} (h : Own N w [CliO g (.pointer (some ⟨gj, 0, none⟩)) o mtu push K P U, Obj3 138 gj jo jm L]) (hu : U.length ≤ 1000000) (hL : L.length ≤ 1000000) (hP : P.length ≤ 1000000) (hu0 : U.length ≠ 0) (hp : ¬ (P.length : Int) ≥ push) {Q_ : Ending → World → Prop} (q0_ : addE jo jm L U ≠ 0 → ∀ e_ w', (∃ A1 c1, e_ = .returned (.tuple #[.agg #[.int .i64 z35.f0, .int .i64 z35.f1, .slice A1 z35.f2.length c1], .int .i64 (addE jo jm L U)]) ∧ Own N w' [CliO g (.pointer (some ⟨gj, 0, none⟩)) o mtu push K P U, Obj3 138 gj jo jm (addL jo jm L U), nrow k32 32 (.slice A1 z35.f2.length c1) z35.f2] ∧ KeepS N w w') → Q_ e_ w') (q1_ : addE jo jm L U = 0 → ∀ e_ w', (∃ A1 c1, e_ = .returned (.tuple #[.agg #[.int .i64 (addR jo jm L U).f0, .int .i64 (addR jo jm L U).f1, .slice A1 (addR jo jm L U).f2.length c1], .int .i64 0]) ∧ Own N w' [CliO g (.pointer (some ⟨gj, 0, none⟩)) o mtu push K (P ++ [addR jo jm L U]) [], Obj3 138 gj jo jm (addL jo jm L U), nrow k32 32 (.slice A1 (addR jo jm L U).f2.length c1) (addR jo jm L U).f2] ∧ KeepS N w w') → Q_ e_ w') :
  Calls Tryd.prog 31 #[.pointer (some ⟨g, 0, none⟩)] w fun e_ w' => Q_ e_ w' ∧ True := by
 have Q0_ := Aside0.mk q0_
 have Q1_ := Aside0.mk q1_
 clear q0_ q1_
 have d1 : ((U.length : Int) == 0) = false := beq_eq_false_iff_ne.mpr (by omega)
 have d2 : decide ((P.length : Int) ≥ push) = false := decide_eq_false (by omega)
 have d3 : decide (push ≤ (P.length : Int)) = false := d2
 obtain ⟨E, hE⟩ : ∃ E, addE jo jm L U = E := ⟨_, rfl⟩
 obtain ⟨rr, hrr⟩ : ∃ r, addR jo jm L U = r := ⟨_, rfl⟩
 obtain ⟨LL, hLL⟩ : ∃ r, addL jo jm L U = r := ⟨_, rfl⟩
 have HRL : Aside0 (rr.f2.length ≤ 1000000) := ⟨by rw [← hrr]; exact addR_len hu⟩
 have HE := Aside0.mk hE
 have HRR := Aside0.mk hrr
 have HLL := Aside0.mk hLL
 clear hE hrr hLL
 have HUL := Aside0.mk hu
 have HL := Aside0.mk hL
 have HP := Aside0.mk hP
 obtain ⟨A4, c4, A5, c5, A6, c6, hcap, h2⟩ := CliO.open_ h
 have HCAP := Aside0.mk hcap
 have O0 : Aside0 (Own N w [cells g #[.pointer (some ⟨gj, 0, none⟩), .int .i64 o, .int .i64 mtu, .int .i64 push, .slice A4 K.length c4, .slice A5 P.length c5, .slice A6 U.length c6] 111, Obj3 138 gj jo jm L, nrow k32 32 (.slice A6 U.length c6) U, qrow k35 35 (.slice A5 P.length c5) P, qrow k35 35 (.slice A4 K.length c4) K]) := ⟨h2⟩
 have K0 : Aside0 (KeepS N w w) := ⟨KeepS.refl _ _⟩
 have a0 := k7_ O0 0
 clear h2 h hu hL hP hcap hu0 hp
 go_enter Tryd.func31, Tryd.ntmps31
 go_wp2_with (first | ((with_reducible refine gD 2 rfl ?_); refine bP 2 #[.int .i64 0, .int .i64 0, .slice none 0 0] 35 O0.out ?_; intro gz w1 o_ k_; obtain ⟨O1, K1⟩ := ok_ K0 o_ k_; clear a0 O0 K0 o_ k_; have a0 := k7_ O1 0; have a5 := k3_ O1 5))
 refine sP (n := 11) (S := c7_ g (.pointer (some ⟨gj, 0, none⟩)) (.int .i64 o) (.int .i64 mtu) (.int .i64 push) (.slice A4 K.length c4) (.slice A5 P.length c5) (.slice A6 U.length c6)) (ds := []) (p7_ a0) (fun hHeld => ?_)
 obtain ⟨w2, hw_⟩ : ∃ W, W = w1.drew := ⟨_, rfl⟩
 have o_ := O1.out.drew
 have k_ : KeepS N w1 w1.drew := KeepS.drew
 rw [← hw_] at o_ k_ hHeld ⊢
 clear hw_
 obtain ⟨O2, K2⟩ := ok_ K1 o_ k_
 clear a0 a5 O1 K1 o_ k_
 have a0 := k7_ O2 0
 have a5 := k3_ O2 5
 refine pP 0 (some 15) ?_
 refine pP 1 (some 16) ?_
 refine pP 2 (some 17) ?_
 refine pP 5 (some 20) ?_
 refine pP 6 (some 21) ?_
 refine pP 7 (some 22) ?_
 refine tP 3 (some 18) hHeld ?_
 refine pP 4 (some 19) ?_
 refine tP 8 (some 23) hHeld ?_
 refine pP 9 (some 24) ?_
 refine pP 10 (some 14) ?_
 refine done_ (by kernel_rfl) ?_
 clear hHeld
 go_wp2
 refine sP (n := 15) (S := c7_ g (.pointer (some ⟨gj, 0, none⟩)) (.int .i64 o) (.int .i64 mtu) (.int .i64 push) (.slice A4 K.length c4) (.slice A5 P.length c5) (.slice A6 U.length c6)) (ds := []) (p7_ a0) (fun hHeld => ?_)
 obtain ⟨w3, hw_⟩ : ∃ W, W = w2.drew := ⟨_, rfl⟩
 have o_ := O2.out.drew
 have k_ : KeepS N w2 w2.drew := KeepS.drew
 rw [← hw_] at o_ k_ hHeld ⊢
 clear hw_
 obtain ⟨O3, K3⟩ := ok_ K2 o_ k_
 clear a0 a5 O2 K2 o_ k_
 have a0 := k7_ O3 0
 have a5 := k3_ O3 5
 refine pP 0 (some 27) ?_
 refine pP 1 (some 28) ?_
 refine pP 2 (some 29) ?_
 refine pP 4 (some 31) ?_
 refine pP 5 (some 32) ?_
 refine pP 6 (some 33) ?_
 refine tP 3 (some 30) hHeld ?_
 refine tP 7 (some 34) hHeld ?_
 refine join_ (σ := Option Addr × Nat × Nat) 2 #[true, true, true, true, true, true, true, true, true, true, true, true, true, false, false] (fun ⟨A1, c1, gr⟩ => [(35, .tuple #[.agg #[.int .i64 rr.f0, .int .i64 rr.f1, .slice A1 rr.f2.length c1], .int .i64 E]), (26, .tuple #[.agg #[.int .i64 rr.f0, .int .i64 rr.f1, .slice A1 rr.f2.length c1], .int .i64 E]), (36, .agg #[.int .i64 rr.f0, .int .i64 rr.f1, .slice A1 rr.f2.length c1]), (37, .int .i64 E), (4, .pointer (some ⟨gr, 0, none⟩))]) (fun ⟨A1, c1, gr⟩ w' => Own N w' [cells g #[.pointer (some ⟨gj, 0, none⟩), .int .i64 o, .int .i64 mtu, .int .i64 push, .slice A4 K.length c4, .slice A5 P.length c5, .slice A6 U.length c6] 111, Obj3 138 gj jo jm LL, nrow k32 32 (.slice A6 U.length c6) U, qrow k35 35 (.slice A5 P.length c5) P, qrow k35 35 (.slice A4 K.length c4) K, cells gz #[.int .i64 0, .int .i64 0, .slice none 0 0] 35, nrow k32 32 (.slice A1 rr.f2.length c1) rr.f2, cells gr #[.int .i64 0, .int .i64 0, .slice none 0 0] 35] ∧ KeepS N w3 w') ?hcont ?hways
 case hways =>
  intro hc_
  have K4 : Aside0 (KeepS N w3 w3) := ⟨KeepS.refl _ _⟩
  have O4 : Aside0 (Own N w3 [cells g #[.pointer (some ⟨gj, 0, none⟩), .int .i64 o, .int .i64 mtu, .int .i64 push, .slice A4 K.length c4, .slice A5 P.length c5, .slice A6 U.length c6] 111, Obj3 138 gj jo jm L, nrow k32 32 (.slice A6 U.length c6) U, qrow k35 35 (.slice A5 P.length c5) P, qrow k35 35 (.slice A4 K.length c4) K, cells gz #[.int .i64 0, .int .i64 0, .slice none 0 0] 35]) := O3
  refine tW_ 8 12 (some 35) (some 4) (fun K_ hK_ => ?_) (fun K_ hK_ => ?_)
  ·skip
   refine hP Tryd.func71 #[.pointer (some ⟨gj, 0, none⟩), .slice A6 U.length c6] ?_
   obtain ⟨N_, on_, nn_, rr_, bb_⟩ := O4.out.frame1 (i := 1) rfl
   have hu_ := Kd.N_F (rr_ 2 _ (by decide) rfl)
   refine (AddG A6 c6 U on_ hu_ HCAP.out.2.2 HL.out HUL.out HE.out HRR.out HLL.out).mono ?_
   rintro e_ w5 ⟨A1, c1, rfl, oo_, kk_⟩
   obtain ⟨o_, k_⟩ := bb_ _ _ _ kk_ oo_
   refine ⟨_, rfl, ?_⟩
   obtain ⟨O5, K5⟩ := ok_ K4 o_ k_
   clear a0 a5 O4 K4 o_ k_ oo_ kk_ on_ nn_ rr_ bb_ hu_
   have a0 := k7_ O5 0
   have a5 := k3_ O5 5
   clear hHeld
   refine hK_.out _ _ (p7_ a0) (fun hHeld => ?_)
   clear hK_ K_
   refine nR_ ?_
   refine pP 9 (some 26) ?_
   refine pP 10 (some 36) ?_
   refine pP 11 (some 37) ?_
   refine oP 12 (some 4) (fun K_ hK_ => ?_)
   refine cP #[.int .i64 0, .int .i64 0, .slice none 0 0] 35 O5.out ?_
   intro gr w6 o_ k_
   obtain ⟨O6, K6⟩ := ok_ K5 o_ k_
   clear a0 a5 O5 K5 o_ k_
   have a0 := k7_ O6 0
   have a5 := k3_ O6 5
   have a7 := k3_ O6 7
   clear hHeld
   refine hK_.out _ _ (p7_ a0) (fun hHeld => ?_)
   clear hK_ K_
   refine nR_ ?_
   refine norm_ (a' := _) ?_ (hc_ ⟨A1, c1, gr⟩ _ ⟨?_, K6.out⟩)
   ·simp only [putAll, Act.put, List.setIfInBounds_toArray, List.set_cons_zero, List.set_cons_succ]
    try rfl
   ·exact O6.out.pickL [0, 1, 2, 3, 4, 5, 6, 7] (by decide) (by simp)
  ·skip
   refine cP #[.int .i64 0, .int .i64 0, .slice none 0 0] 35 O4.out ?_
   intro gr w5 o_ k_
   obtain ⟨O5, K5⟩ := ok_ K4 o_ k_
   clear a0 a5 O4 K4 o_ k_
   have a0 := k7_ O5 0
   have a5 := k3_ O5 5
   have a6 := k3_ O5 6
   clear hHeld
   refine hK_.out _ _ (p7_ a0) (fun hHeld => ?_)
   clear hK_ K_
   refine nR_ ?_
   refine oP 8 (some 35) (fun K_ hK_ => ?_)
   refine hP Tryd.func71 #[.pointer (some ⟨gj, 0, none⟩), .slice A6 U.length c6] ?_
   obtain ⟨N_, on_, nn_, rr_, bb_⟩ := O5.out.frame1 (i := 1) rfl
   have hu_ := Kd.N_F (rr_ 2 _ (by decide) rfl)
   refine (AddG A6 c6 U on_ hu_ HCAP.out.2.2 HL.out HUL.out HE.out HRR.out HLL.out).mono ?_
   rintro e_ w6 ⟨A1, c1, rfl, oo_, kk_⟩
   obtain ⟨o_, k_⟩ := bb_ _ _ _ kk_ oo_
   refine ⟨_, rfl, ?_⟩
   obtain ⟨O6, K6⟩ := ok_ K5 o_ k_
   clear a0 a5 a6 O5 K5 o_ k_ oo_ kk_ on_ nn_ rr_ bb_ hu_
   have a0 := k7_ O6 0
   have a5 := k3_ O6 5
   have a6 := k3_ O6 6
   clear hHeld
   refine hK_.out _ _ (p7_ a0) (fun hHeld => ?_)
   clear hK_ K_
   refine nR_ ?_
   refine pP 9 (some 26) ?_
   refine pP 10 (some 36) ?_
   refine pP 11 (some 37) ?_
   refine norm_ (a' := _) ?_ (hc_ ⟨A1, c1, gr⟩ _ ⟨?_, K6.out⟩)
   ·simp only [putAll, Act.put, List.setIfInBounds_toArray, List.set_cons_zero, List.set_cons_succ]
    try rfl
   ·exact O6.out.pickL [0, 1, 2, 3, 4, 5, 7, 6] (by decide) (by simp)
 case hcont =>
  clear hHeld
  rintro ⟨A1, c1, gr⟩ w4 ⟨o_, k_⟩
  obtain ⟨O4, K4⟩ := ok_ K3 o_ k_
  clear a0 a5 O3 K3 o_ k_
  have a0 := k7_ O4 0
  have a5 := k3_ O4 5
  have a7 := k3_ O4 7
  refine nA_ ?_
  have hHeld : w4.cell? ⟨g, 0, none⟩ = some (.pointer (some ⟨gj, 0, none⟩)) ∧ w4.cell? ⟨g, 1, none⟩ = some (.int .i64 o) ∧ w4.cell? ⟨g, 2, none⟩ = some (.int .i64 mtu) ∧ w4.cell? ⟨g, 3, none⟩ = some (.int .i64 push) ∧ w4.cell? ⟨g, 4, none⟩ = some (.slice A4 K.length c4) ∧ w4.cell? ⟨g, 5, none⟩ = some (.slice A5 P.length c5) ∧ w4.cell? ⟨g, 6, none⟩ = some (.slice A6 U.length c6) := (p7_ a0)
  refine oP 13 none (fun K_ hK_ => ?_)
  refine xS 7 0 [.int .i64 rr.f0, .int .i64 rr.f1, .slice A1 rr.f2.length c1] O4 ?_
  intro w5 o_ k_
  obtain ⟨O5, K5⟩ := ok_ K4 o_ k_
  clear a0 a5 a7 O4 K4 o_ k_
  have a0 := k7_ O5 0
  have a5 := k3_ O5 5
  have a7 := k3_ O5 7
  clear hHeld
  refine hK_.out _ _ (p7_ a0) (fun hHeld => ?_)
  clear hK_ K_
  refine pP 14 (some 5) ?_
  refine done_ (by kernel_rfl) ?_
  clear hHeld
  rcases Decidable.em (E = 0) with he | he
  ·subst he
   have d4 : ((0 : Int) != 0) = false := by decide
   go_wp2_with (first | ((with_reducible refine gT 33 44 rfl ?_); refine wS 0 6 [.slice none 0 0] O5 ?_; intro w6 o_ k_; obtain ⟨O6, K6⟩ := ok_ K5 o_ k_; clear a0 a5 a7 O5 K5 o_ k_; have a0 := k7_ O6 0; have a5 := k3_ O6 5; have a7 := k3_ O6 7))
   refine sP (n := 12) (S := d7_ g (.pointer (some ⟨gj, 0, none⟩)) (.int .i64 o) (.int .i64 mtu) (.int .i64 push) (.slice A4 K.length c4) (.slice A5 P.length c5) (.slice none 0 0) (c3_ gr (.int .i64 rr.f0) (.int .i64 rr.f1) (.slice A1 rr.f2.length c1))) (ds := [8, 11]) (j7_ a0 (p3_ a7)) (fun hHeld => ?_)
   obtain ⟨w7, hw_⟩ : ∃ W, W = w6.drew := ⟨_, rfl⟩
   have o_ := O6.out.drew
   have k_ : KeepS N w6 w6.drew := KeepS.drew
   rw [← hw_] at o_ k_ hHeld ⊢
   clear hw_
   obtain ⟨O7, K7⟩ := ok_ K6 o_ k_
   clear a0 a5 a7 O6 K6 o_ k_
   have a0 := k7_ O7 0
   have a5 := k3_ O7 5
   have a7 := k3_ O7 7
   refine pP 0 (some 45) ?_
   refine pP 1 (some 46) ?_
   refine pP 2 (some 47) ?_
   refine pP 3 (some 48) ?_
   refine tP 4 (some 49) hHeld ?_
   refine tP 5 (some 50) hHeld ?_
   refine oP 6 (some 51) (fun K_ hK_ => ?_)
   refine hP Tryd.func72 #[.agg #[.int .i64 rr.f0, .int .i64 rr.f1, .slice A1 rr.f2.length c1]] ?_
   refine (round_Copy.calls rr.f0 rr.f1 _ _ rr.f2 rr.f0 rr.f1 rr.f2 _ (O7.out.nreads (i := 6) rfl).2.2 (O7.out.nreads (i := 6) rfl).2.1 (copyC _ _ _ HRL.out)).mono ?_
   rintro e_ w8 ⟨v_, rfl, hR_, hb_⟩
   obtain ⟨A7, c7, e__⟩ := Kd.R_slice hR_
   subst e__
   refine ⟨_, rfl, ?_⟩
   have o_ := O7.out.pushW hb_ (Nat.le_refl _) hR_
   have k_ := KeepS.of_below (N := N) hb_
   have o2_ := rowElem rr (i := 8) o_ rfl
   obtain ⟨O8, K8⟩ := ok_ K7 o2_ k_
   clear a0 a5 a7 O7 K7 o_ k_ hb_ hR_ o2_
   have a0 := k7_ O8 0
   have a5 := k3_ O8 5
   have a7 := k3_ O8 7
   clear hHeld
   refine hK_.out _ _ (j7_ a0 (p3_ a7)) (fun hHeld => ?_)
   clear hK_ K_
   refine nP ?_
   refine oP 7 (some 52) (fun K_ hK_ => ?_)
   refine value_ rfl rfl (w1 := (World.alloc w8 (.cells [.int .i64 rr.f0, .int .i64 rr.f1, .slice A7 rr.f2.length c7].toArray 35))) (v := .slice (some ⟨w8.heap.size, 0, none⟩) 1 1) gs_ ?_
   clear hHeld
   refine hK_.out _ _ ⟨(pw_cell_below ((Below.refl _ _).alloc (Nat.le_refl _) _) a0.1), (pw_cell_below ((Below.refl _ _).alloc (Nat.le_refl _) _) a0.2.1), (pw_cell_below ((Below.refl _ _).alloc (Nat.le_refl _) _) a0.2.2.1), (pw_cell_below ((Below.refl _ _).alloc (Nat.le_refl _) _) a0.2.2.2.1), (pw_cell_below ((Below.refl _ _).alloc (Nat.le_refl _) _) a0.2.2.2.2.1), (pw_cell_below ((Below.refl _ _).alloc (Nat.le_refl _) _) a0.2.2.2.2.2.1), (pw_cell_below ((Below.refl _ _).alloc (Nat.le_refl _) _) a0.2.2.2.2.2.2.1), (pw_cell_below ((Below.refl _ _).alloc (Nat.le_refl _) _) a7.1), (pw_cell_below ((Below.refl _ _).alloc (Nat.le_refl _) _) a7.2.1), (pw_cell_below ((Below.refl _ _).alloc (Nat.le_refl _) _) a7.2.2.1)⟩ (fun hHeld => ?_)
   clear hK_ K_
   refine nP ?_
   refine lP 8 (some 53) (fun K_ hK_ => ?_)
   refine appendQ_step k35 O8.out (i := 3) (j := 8) rfl rfl (by decide) rfl rfl (.tmp 49) (.tmp 52) 40 (.agg #[.int .i64 0, .int .i64 0, .slice none 0 0]) 40 rfl Tryd.underlying40 infoR rfl (by decide) (by decide) rfl rfl (by have := HP.out; omega) ?_
   intro A8 c8 w9 o_ k_
   obtain ⟨O9, K9⟩ := ok_ K8 o_ k_
   clear a0 a5 a7 O8 K8 o_ k_
   have a0 := k7_ O9 0
   have a5 := k3_ O9 5
   have a7 := k3_ O9 7
   refine hK_.out _ _ ?_
   clear hK_ K_
   refine nP ?_
   refine pP 9 (some 54) ?_
   refine pP 10 (some 55) ?_
   refine lP 11 none (fun K_ hK_ => ?_)
   refine xS 0 5 [.slice A8 (P.length + 1) c8] O9 ?_
   intro w10 o_ k_
   obtain ⟨O10, K10⟩ := ok_ K9 o_ k_
   clear a0 a5 a7 O9 K9 o_ k_
   have a0 := k7_ O10 0
   have a5 := k3_ O10 5
   have a7 := k3_ O10 7
   refine hK_.out _ _ ?_
   clear hK_ K_
   refine done_ (by kernel_rfl) ?_
   clear hHeld
   go_wp2_with (first | ((with_reducible refine gT 35 2 rfl ?_); refine wS 5 0 [.int .i64 rr.f0, .int .i64 rr.f1, .slice A1 rr.f2.length c1] O10 ?_; intro w11 o_ k_; obtain ⟨O11, K11⟩ := ok_ K10 o_ k_; clear a0 a5 a7 O10 K10 o_ k_; have a0 := k7_ O11 0; have a5 := k3_ O11 5; have a7 := k3_ O11 7))
   refine bodyPost_ret (results_ct rfl _ _ gz 35 #[.int .i64 rr.f0, .int .i64 rr.f1, .slice A1 rr.f2.length c1] (0, 0) _ rfl (O11.out.blk (i := 5) rfl) Tryd.underlying35 rfl (by kernel_rfl)) rfl ?_
   refine ⟨Q1_.out HE.out _ _ ?_, trivial⟩
   exact ⟨A1, c1, by rw [HRR.out]; rfl, (by rw [HRR.out, HLL.out]; exact (CliO.shut ((O11.out.push_emp (nrow k32 32 (.slice none 0 0) []) (fun w => Kd.N_nil _ _ _ _ _)).pickL [0, 4, 3, 9, 1, 6] (by decide) (by simp))).pickL [0, 4, 5] (by decide) (by simp)), K11.out⟩
  ·have d4 : (E != 0) = true := bne_iff_ne.mpr he
   have H0_ := Aside0.mk he
   clear he
   go_wp2_with (first | ((with_reducible refine gT 35 2 rfl ?_); refine wS 5 0 [.int .i64 0, .int .i64 0, .slice none 0 0] O5 ?_; intro w6 o_ k_; obtain ⟨O6, K6⟩ := ok_ K5 o_ k_; clear a0 a5 a7 O5 K5 o_ k_; have a0 := k7_ O6 0; have a5 := k3_ O6 5; have a7 := k3_ O6 7))
   refine bodyPost_ret (results_ct rfl _ _ gz 35 #[.int .i64 0, .int .i64 0, .slice none 0 0] (0, 0) _ rfl (O6.out.blk (i := 5) rfl) Tryd.underlying35 rfl (by kernel_rfl)) rfl ?_
   refine ⟨Q0_.out (by rw [HE.out]; exact H0_.out) _ _ ?_, trivial⟩
   exact ⟨none, 0, by rw [HE.out]; rfl, (by rw [HLL.out]; exact ((CliO.shut (O6.out.pickL [0, 4, 3, 2, 1] (by decide) (by simp))).pickL [0, 4] (by decide) (by simp)).push_emp _ (fun w => Kd.N_nil _ _ _ _ _)), K6.out⟩
attribute [local go_sem] max2_int min2_int max_two min_two max_three min_three max_four min_four
theorem From0 {N : Nat → Prop} {w : World} {g : Nat} {o m : Int} {L : List Rnd7} (h : Own N w [Obj3 138 g o m L]) (hL : L.length ≤ 1000000) (HU : Aside0 (∀ x : Int, 0 ≤ x → x < L.length → (rd_T35 L x).f2.length ≤ 1000000)) (hn : Num L) :
  Calls Tryd.prog 73 #[.pointer (some ⟨g, 0, none⟩), .int .i64 0] w fun e_ w' => ∃ A1 c1, e_ = .returned (.slice A1 L.length c1) ∧ Own N w' [Obj3 138 g o m L, row k35 35 (.slice A1 L.length c1) L] ∧ KeepS N w w' := by
 have q := FromR 0 h hL HU
 rw [from_all 0 (Int.le_refl _) hn] at q
 exact q
theorem CNew {N : Nat → Prop} {w : World} {gj : Nat} {jo jm : Int} {L : List Rnd7} (o mtu a3 pp : Int) (hW : mn (mx a3 1) 16 = pp) (h : Own N w [Obj3 138 gj jo jm L]) (hL : L.length ≤ 1000000) (HU : Aside0 (∀ x : Int, 0 ≤ x → x < L.length → (rd_T35 L x).f2.length ≤ 1000000)) (hn : Num L) :
  Calls Tryd.prog 53 #[.pointer (some ⟨gj, 0, none⟩), .int .i64 o, .int .i64 mtu, .int .i64 a3] w fun e_ w' => ∃ g, e_ = .returned (.pointer (some ⟨g, 0, none⟩)) ∧ Own N w' [Obj3 138 gj jo jm L, CliO g (.pointer (some ⟨gj, 0, none⟩)) o mtu pp [] L []] ∧ KeepS N w w' := by
 have HL := Aside0.mk hL
 have HN := Aside0.mk hn
 have O0 : Aside0 (Own N w [Obj3 138 gj jo jm L]) := ⟨h⟩
 have K0 : Aside0 (KeepS N w w) := ⟨KeepS.refl _ _⟩
 clear h hL hn
 have w1 := hW
 have w2 : (if 16 < if a3 < 1 then 1 else a3 then 16 else if a3 < 1 then 1 else a3) = pp := by (have e_ := hW; simp only [mn, mx] at e_; (repeat' split at e_) <;> (repeat' split) <;> omega)
 go_enter Tryd.func53, Tryd.ntmps53
 go_wp2_with (first | ((with_reducible refine gC 73 rfl ?_); refine gP (some 16) Tryd.func73 #[.pointer (some ⟨gj, 0, none⟩), .int .i64 0] ?_; obtain ⟨N_, on_, nn_, rr_, bb_⟩ := O0.out.frame1 (i := 0) rfl; refine (From0 on_ HL.out HU HN.out).mono ?_; rintro e_ w1 ⟨A1, c1, rfl, oo_, kk_⟩; obtain ⟨o_, k_⟩ := bb_ _ _ _ kk_ oo_; refine ⟨_, rfl, ?_⟩; obtain ⟨O1, K1⟩ := ok_ K0 o_ k_; clear O0 K0 o_ k_ oo_ kk_ on_ nn_ rr_ bb_) | ((with_reducible refine gD 18 rfl ?_); refine bP 18 #[.pointer (some ⟨gj, 0, none⟩), .int .i64 o, .int .i64 mtu, .int .i64 pp, .slice none 0 0, .slice A1 L.length c1, .slice none 0 0] 111 O1.out ?_; intro g w2 o_ k_; obtain ⟨O2, K2⟩ := ok_ K1 o_ k_; clear O1 K1 o_ k_; have a2 := k7_ O2 2))
 all_goals go_ret
 all_goals exact ⟨g, rfl, (CliO.shut (((((O2.out.row_qrow (i := 1) rfl).qnil k35 35).push_emp (nrow k32 32 (.slice none 0 0) []) (fun w => Kd.N_nil _ _ _ _ _))).pickL [2, 3, 1, 4, 0] (by decide) (by simp))).pickL [4, 0] (by decide) (by simp), K2.out⟩
theorem CResume {N : Nat → Prop} {w : World} {g gj : Nat} {o mtu push jo jm : Int} {K P L : List Rnd7} {U : List Upd7} (h : Own N w [CliO g (.pointer (some ⟨gj, 0, none⟩)) o mtu push K P U, Obj3 138 gj jo jm L]) (hL : L.length ≤ 1000000) (HU : Aside0 (∀ x : Int, 0 ≤ x → x < L.length → (rd_T35 L x).f2.length ≤ 1000000)) (hn : Num L) :
  Calls Tryd.prog 33 #[.pointer (some ⟨g, 0, none⟩)] w fun e_ w' => e_ = .returned (.tuple #[]) ∧ Own N w' [CliO g (.pointer (some ⟨gj, 0, none⟩)) o mtu push [] L [], Obj3 138 gj jo jm L] ∧ KeepS N w w' := by
 have HL := Aside0.mk hL
 have HN := Aside0.mk hn
 obtain ⟨A4, c4, A5, c5, A6, c6, hcap, h2⟩ := CliO.open_ h
 have O0 : Aside0 (Own N w [cells g #[.pointer (some ⟨gj, 0, none⟩), .int .i64 o, .int .i64 mtu, .int .i64 push, .slice A4 K.length c4, .slice A5 P.length c5, .slice A6 U.length c6] 111, Obj3 138 gj jo jm L, nrow k32 32 (.slice A6 U.length c6) U, qrow k35 35 (.slice A5 P.length c5) P, qrow k35 35 (.slice A4 K.length c4) K]) := ⟨h2⟩
 have K0 : Aside0 (KeepS N w w) := ⟨KeepS.refl _ _⟩
 have a0 := k7_ O0 0
 clear h2 h hL hn hcap
 go_enter Tryd.func33, Tryd.ntmps33
 go_wp2_with (first | ((with_reducible refine gC 73 rfl ?_); refine gP (some 9) Tryd.func73 #[.pointer (some ⟨gj, 0, none⟩), .int .i64 0] ?_; obtain ⟨N_, on_, nn_, rr_, bb_⟩ := O0.out.frame1 (i := 1) rfl; refine (From0 on_ HL.out HU HN.out).mono ?_; rintro e_ w1 ⟨A1, c1, rfl, oo_, kk_⟩; obtain ⟨o_, k_⟩ := bb_ _ _ _ kk_ oo_; refine ⟨_, rfl, ?_⟩; obtain ⟨O1, K1⟩ := ok_ K0 o_ k_; clear a0 O0 K0 o_ k_ oo_ kk_ on_ nn_ rr_ bb_; have a0 := k7_ O1 0) | ((with_reducible refine gT 40 11 rfl ?_); refine wS 0 4 [.slice none 0 0] O1 ?_; intro w2 o_ k_; obtain ⟨O2, K2⟩ := ok_ K1 o_ k_; clear a0 O1 K1 o_ k_; have a0 := k7_ O2 0) | ((with_reducible refine gT 33 13 rfl ?_); refine wS 0 6 [.slice none 0 0] O2 ?_; intro w3 o_ k_; obtain ⟨O3, K3⟩ := ok_ K2 o_ k_; clear a0 O2 K2 o_ k_; have a0 := k7_ O3 0) | ((with_reducible refine gT 40 15 rfl ?_); refine wS 0 5 [.slice A1 L.length c1] O3 ?_; intro w4 o_ k_; obtain ⟨O4, K4⟩ := ok_ K3 o_ k_; clear a0 O3 K3 o_ k_; have a0 := k7_ O4 0))
 first | go_end0 | go_ret
 exact ⟨rfl, (CliO.shut (((((O4.out.row_qrow (i := 5) rfl).qnil k35 35).push_emp (nrow k32 32 (.slice none 0 0) []) (fun w => Kd.N_nil _ _ _ _ _))).pickL [0, 6, 5, 7, 1] (by decide) (by simp))).pickL [0, 4] (by decide) (by simp), K4.out⟩
end Go.Proofs.YtjdenpmaianmfaaDoor.J
namespace Go.Proofs.YtjdenpmaianmfaaDoor.J
set_option linter.unusedSimpArgs false
set_option linter.unusedVariables false
open Go Go.RowKit Go.Proofs.YtjdenpmaianmfaaDoorW.PrintWords Go.Proofs.YtjdenpmaianmfaaDoorW.PrintLast Go.Proofs.YtjdenpmaianmfaaDoorW.PrintMore Go.Proofs.YtjdenpmaianmfaaDoor.Q Go.Proofs.YtjdenpmaianmfaaDoor.Sep
section
variable {N : Nat → Prop} {w : World} {g : Nat} {jp : Value} {o mtu push : Int} {K P : List Rnd7} {U : List Upd7}
abbrev bnd (L : List Rnd7) : Prop := ∀ x : Int, 0 ≤ x → x < L.length → (rd_T35 L x).f2.length ≤ 1000000
theorem OKnown (h : Own N w [CliO g jp o mtu push K P U]) (hL : K.length ≤ 1000000) (HB : Aside0 (bnd K)) :
  Calls Tryd.prog 20 #[.pointer (some ⟨g, 0, none⟩)] w fun e_ w' => ∃ A1 c1, e_ = .returned (.slice A1 K.length c1) ∧ Own N w' [CliO g jp o mtu push K P U, row kR7 tR7 (.slice A1 K.length c1) K] ∧ KeepS N w w' := by
 obtain ⟨A4, c4, A5, c5, A6, c6, hcap, h2⟩ := CliO.open_ h
 obtain ⟨N_, on_, nn_, rr_, bb_⟩ := h2.frame0
 refine (CKnown on_ (rr_ 0 _ rfl) (Kd.Q_F (rr_ 3 _ rfl)) hL HB).mono ?_
 rintro e_ w' ⟨A1, c1, e1, oo_, kk_⟩
 obtain ⟨o_, k_⟩ := bb_ _ _ kk_ oo_
 exact ⟨A1, c1, e1, (CliO.shut (o_.pickL [0, 3, 2, 1, 4] (by decide) (by simp))).pickL [0, 4] (by decide) (by simp), k_⟩
theorem OPending (h : Own N w [CliO g jp o mtu push K P U]) (hL : P.length ≤ 1000000) (HB : Aside0 (bnd P)) :
  Calls Tryd.prog 21 #[.pointer (some ⟨g, 0, none⟩)] w fun e_ w' => ∃ A1 c1, e_ = .returned (.slice A1 P.length c1) ∧ Own N w' [CliO g jp o mtu push K P U, row kR7 tR7 (.slice A1 P.length c1) P] ∧ KeepS N w w' := by
 obtain ⟨A4, c4, A5, c5, A6, c6, hcap, h2⟩ := CliO.open_ h
 obtain ⟨N_, on_, nn_, rr_, bb_⟩ := h2.frame0
 refine (CPending on_ (rr_ 0 _ rfl) (Kd.Q_F (rr_ 2 _ rfl)) hL HB).mono ?_
 rintro e_ w' ⟨A1, c1, e1, oo_, kk_⟩
 obtain ⟨o_, k_⟩ := bb_ _ _ kk_ oo_
 exact ⟨A1, c1, e1, (CliO.shut (o_.pickL [0, 3, 2, 1, 4] (by decide) (by simp))).pickL [0, 4] (by decide) (by simp), k_⟩
theorem OOpen (h : Own N w [CliO g jp o mtu push K P U]) (hL : U.length ≤ 1000000) :
  Calls Tryd.prog 23 #[.pointer (some ⟨g, 0, none⟩)] w fun e_ w' => ∃ A1 c1, e_ = .returned (.slice A1 U.length c1) ∧ Own N w' [CliO g jp o mtu push K P U, nrow kU7 tU7 (.slice A1 U.length c1) U] ∧ KeepS N w w' := by
 obtain ⟨A4, c4, A5, c5, A6, c6, hcap, h2⟩ := CliO.open_ h
 obtain ⟨N_, on_, nn_, rr_, bb_⟩ := h2.frame0
 refine (COpen on_ (rr_ 0 _ rfl) (Kd.N_F (rr_ 1 _ rfl)) hL).mono ?_
 rintro e_ w' ⟨A1, c1, e1, oo_, kk_⟩
 obtain ⟨o_, k_⟩ := bb_ _ _ kk_ oo_
 exact ⟨A1, c1, e1, (CliO.shut (o_.pickL [0, 3, 2, 1, 4] (by decide) (by simp))).pickL [0, 4] (by decide) (by simp), k_⟩
theorem OConf (h : Own N w [CliO g jp o mtu push K P U])  :
  Calls Tryd.prog 24 #[.pointer (some ⟨g, 0, none⟩)] w fun e_ w' => e_ = .returned (.bool (decide (P.length = 0) && decide (U.length = 0))) ∧ Own N w' [CliO g jp o mtu push K P U] ∧ KeepS N w w' := by
 obtain ⟨A4, c4, A5, c5, A6, c6, hcap, h2⟩ := CliO.open_ h
 obtain ⟨N_, on_, nn_, rr_, bb_⟩ := h2.frame0
 refine (CConf on_ (rr_ 0 _ rfl)).mono ?_
 rintro e_ w' ⟨e1, oo_, kk_⟩
 obtain ⟨o_, k_⟩ := bb_ _ _ kk_ oo_
 exact ⟨e1, (CliO.shut (o_.pickL [0, 3, 2, 1] (by decide) (by simp))).pickL [0] (by decide) (by simp), k_⟩
theorem ORead (key : ByteArray) (hs : key.size ≤ maxLen) (h : Own N w [CliO g jp o mtu push K P U]) (hL : K.length + P.length ≤ 1000000) (hb : (flatR (K ++ P)).length + U.length < 1000000) :
  Calls Tryd.prog 25 #[.pointer (some ⟨g, 0, none⟩), .string key] w fun e_ w' => e_ = .returned (valV (stateOf U (K ++ P) key)) ∧ Own N w' [CliO g jp o mtu push K P U] ∧ KeepS N w w' := by
 obtain ⟨A4, c4, A5, c5, A6, c6, hcap, h2⟩ := CliO.open_ h
 obtain ⟨N_, on_, nn_, rr_, bb_⟩ := h2.frame0
 refine (CRead key hs on_ (rr_ 0 _ rfl) (Kd.Q_F (rr_ 3 _ rfl)) (Kd.Q_F (rr_ 2 _ rfl)) (Kd.N_F (rr_ 1 _ rfl)) hL hb).mono ?_
 rintro e_ w' ⟨e1, oo_, kk_⟩
 obtain ⟨o_, k_⟩ := bb_ _ _ kk_ oo_
 exact ⟨e1, (CliO.shut (o_.pickL [0, 3, 2, 1] (by decide) (by simp))).pickL [0] (by decide) (by simp), k_⟩
theorem OLen (h : Own N w [CliO g jp o mtu push K P U]) (hL : K.length + P.length ≤ 1000000) (hb : (flatR (K ++ P)).length + U.length < 1000000) :
  Calls Tryd.prog 27 #[.pointer (some ⟨g, 0, none⟩)] w fun e_ w' => e_ = .returned (.int .i64 (cntK (stateOf U (K ++ P)))) ∧ Own N w' [CliO g jp o mtu push K P U] ∧ KeepS N w w' := by
 obtain ⟨A4, c4, A5, c5, A6, c6, hcap, h2⟩ := CliO.open_ h
 obtain ⟨N_, on_, nn_, rr_, bb_⟩ := h2.frame0
 refine (CLen on_ (rr_ 0 _ rfl) (Kd.Q_F (rr_ 3 _ rfl)) (Kd.Q_F (rr_ 2 _ rfl)) (Kd.N_F (rr_ 1 _ rfl)) hL hb).mono ?_
 rintro e_ w' ⟨ks, k1, k2, e1, oo_, kk_⟩
 obtain ⟨o_, k_⟩ := bb_ _ _ kk_ oo_
 exact ⟨by rw [cntK_is k1 k2]; exact e1, (CliO.shut (o_.pickL [0, 3, 2, 1] (by decide) (by simp))).pickL [0] (by decide) (by simp), k_⟩
end
end Go.Proofs.YtjdenpmaianmfaaDoor.J
namespace Go.Proofs.YtjdenpmaianmfaaDoor.J
set_option linter.unusedSimpArgs false
set_option linter.unusedVariables false
open Go Go.RowKit Go.Proofs.YtjdenpmaianmfaaDoorW.PrintWords Go.Proofs.YtjdenpmaianmfaaDoorW.PrintLast Go.Proofs.YtjdenpmaianmfaaDoorW.PrintMore Go.Proofs.YtjdenpmaianmfaaDoor.Q Go.Proofs.YtjdenpmaianmfaaDoor.Sep Go.Proofs.YtjdenpmaianmfaaDoor.Pure
abbrev tDJ : TypeId := 64
abbrev tDC : TypeId := 44
abbrev jrC (jo jm : Int) (v : Value) : Array Value := #[.int .i64 jo, .int .i64 jm, v]
abbrev pt (g : Nat) : Value := .pointer (some ⟨g, 0, none⟩)
def DocO (gj gd : Nat) (jo jm o mtu push : Int) (rJ rK rP : List (List Value)) (U : List Upd7) : HP :=
 ex fun vJ : Value => ex fun vK : Value => ex fun vP : Value => ex fun vU : Value => star (star (star (star (star (cells gj (jrC jo jm vJ) tDJ) (nrow (Kd.raw 3) tR7 vJ rJ)) (cells gd (cliC (pt gj) o mtu push vK vP vU) tDC)) (nrow (Kd.raw 3) tR7 vK rK)) (nrow (Kd.raw 3) tR7 vP rP)) (nrow kU7 tU7 vU U)
section
variable {N : Nat → Prop} {w w' : World} {gj gd : Nat} {jo jm o mtu push : Int} {rJ rK rP : List (List Value)} {U : List Upd7} {r : List HP}
theorem DocO.open_ (h : Own N w (DocO gj gd jo jm o mtu push rJ rK rP U :: r)) : ∃ AJ cJ A4 c4 A5 c5 A6 c6,
  Own N w (cells gj (jrC jo jm (.slice AJ rJ.length cJ)) tDJ :: r ++ [nrow kU7 tU7 (.slice A6 U.length c6) U] ++ [nrow (Kd.raw 3) tR7 (.slice A5 rP.length c5) rP] ++ [nrow (Kd.raw 3) tR7 (.slice A4 rK.length c4) rK] ++ [cells gd (cliC (pt gj) o mtu push (.slice A4 rK.length c4) (.slice A5 rP.length c5) (.slice A6 U.length c6)) tDC] ++ [nrow (Kd.raw 3) tR7 (.slice AJ rJ.length cJ) rJ]) := by
 obtain ⟨vJ, h1⟩ := h.of_ex (i := 0) rfl
 obtain ⟨vK, h2⟩ := h1.of_ex (i := 0) rfl
 obtain ⟨vP, h3⟩ := h2.of_ex (i := 0) rfl
 obtain ⟨vU, h4⟩ := h3.of_ex (i := 0) rfl
 have h5 := h4.split (i := 0) rfl
 have h6 := h5.split (i := 0) rfl
 have h7 := h6.split (i := 0) rfl
 have h8 := h7.split (i := 0) rfl
 have h9 := h8.split (i := 0) rfl
 have hz : Own N w (cells gj (jrC jo jm vJ) tDJ :: r ++ [nrow kU7 tU7 vU U] ++ [nrow (Kd.raw 3) tR7 vP rP] ++ [nrow (Kd.raw 3) tR7 vK rK] ++ [cells gd (cliC (pt gj) o mtu push vK vP vU) tDC] ++ [nrow (Kd.raw 3) tR7 vJ rJ]) := h9
 obtain ⟨A6, c6, rfl⟩ := hz.nslice (i := r.length + 1) (e := tU7) (d := kU7) (xs := U) (v := vU) (by simp [List.getElem?_append])
 obtain ⟨A5, c5, rfl⟩ := hz.nslice (i := r.length + 2) (e := tR7) (d := Kd.raw 3) (xs := rP) (v := vP) (by simp [List.getElem?_append])
 obtain ⟨A4, c4, rfl⟩ := hz.nslice (i := r.length + 3) (e := tR7) (d := Kd.raw 3) (xs := rK) (v := vK) (by simp [List.getElem?_append])
 obtain ⟨AJ, cJ, rfl⟩ := hz.nslice (i := r.length + 5) (e := tR7) (d := Kd.raw 3) (xs := rJ) (v := vJ) (by simp [List.getElem?_append])
 exact ⟨AJ, cJ, A4, c4, A5, c5, A6, c6, hz⟩
theorem DocO.shut {vJ vK vP vU : Value} (h : Own N w (cells gj (jrC jo jm vJ) tDJ :: nrow (Kd.raw 3) tR7 vJ rJ :: cells gd (cliC (pt gj) o mtu push vK vP vU) tDC :: nrow (Kd.raw 3) tR7 vK rK :: nrow (Kd.raw 3) tR7 vP rP :: nrow kU7 tU7 vU U :: r)) : Own N w (DocO gj gd jo jm o mtu push rJ rK rP U :: emp :: emp :: emp :: emp :: emp :: r) := by
 have h1 := h.join (i := 0) (j := 1) rfl rfl (by decide)
 have h2 := h1.join (i := 0) (j := 2) rfl rfl (by decide)
 have h3 := h2.join (i := 0) (j := 3) rfl rfl (by decide)
 have h4 := h3.join (i := 0) (j := 4) rfl rfl (by decide)
 have h5 := h4.join (i := 0) (j := 5) rfl rfl (by decide)
 exact h5.conv (i := 0) rfl (DocO gj gd jo jm o mtu push rJ rK rP U) (fun F hp _ => ⟨vJ, vK, vP, vU, hp⟩)
end
theorem fk_of {N : Nat → Prop} {w : World} {r : Rnd7} {A : Option Addr} {c : Nat} (hl : r.f2.length ≤ c) (hF : Kd.F kU7 w N A r.f2.length r.f2) : Kd.FK kR7 w N r [.int .i64 r.f0, .int .i64 r.f1, .slice A r.f2.length c] := fun W' hW => k35_mk W' r hl (hF W' hW)
structure Led (N : Nat → Prop) (w : World) (rJ rK rP : List (List Value)) (L K P : List Rnd7) : Prop where
 j : Lead N w rJ L
 k : Lead N w rK K
 p : Lead N w rP P
theorem Led.keep {N : Nat → Prop} {w w' : World} {rJ rK rP : List (List Value)} {L K P : List Rnd7} (h : Led N w rJ rK rP L K P) (hk : KeepS N w w') : Led N w' rJ rK rP L K P := ⟨h.j.keep hk, h.k.keep hk, h.p.keep hk⟩
theorem Led.mono {N N' : Nat → Prop} {w : World} {rJ rK rP : List (List Value)} {L K P : List Rnd7} (h : Led N w rJ rK rP L K P) (hn : ∀ k, N k → N' k) : Led N' w rJ rK rP L K P := ⟨h.j.mono hn, h.k.mono hn, h.p.mono hn⟩
theorem Lead.one {N : Nat → Prop} {w : World} {r : Rnd7} {A : Option Addr} {c : Nat} (hl : r.f2.length ≤ c) (hF : Kd.F kU7 w N A r.f2.length r.f2) : Lead N w [rw3 r.f0 r.f1 (.slice A r.f2.length c)] [r] := by
 refine ⟨rfl, fun j x c' hx hc => ?_⟩
 cases j with
 | zero => simp only [List.getElem?_cons_zero, Option.some.injEq] at hx hc; subst hx hc; exact fk_of hl hF
 | succ j => simp at hx
theorem Lead.drop1 {N : Nat → Prop} {w : World} {rows : List (List Value)} {xs : List Rnd7} (h : Lead N w rows xs) : Lead N w (rows.drop 1) (xs.drop 1) := by
 refine ⟨by rw [List.length_drop, List.length_drop, h.1], fun j x c hx hc => ?_⟩
 rw [List.getElem?_drop] at hx hc
 exact h.2 _ x c hx hc
theorem Lead.first {N : Nat → Prop} {w : World} {rows : List (List Value)} {xs : List Rnd7} (h : Lead N w rows xs) (hp : xs.length ≠ 0) : ∃ A c, rows[0]? = some (rw3 (rd_T35 xs 0).f0 (rd_T35 xs 0).f1 (.slice A (rd_T35 xs 0).f2.length c)) ∧ (rd_T35 xs 0).f2.length ≤ c ∧ Kd.F kU7 w N A (rd_T35 xs 0).f2.length (rd_T35 xs 0).f2 := by
 have hx : xs[0]? = some (rd_T35 xs 0) := by
  show xs[0]? = some (xs.getD 0 _)
  rw [List.getD_eq_getElem?_getD, List.getElem?_eq_getElem (by omega)]
  rfl
 have hr : 0 < rows.length := by rw [h.1]; omega
 have hc := List.getElem?_eq_getElem hr
 have hk := h.2 0 _ _ hx hc
 obtain ⟨A, c, e, hl, _⟩ := k35_open (Kd.FK_now hk)
 refine ⟨A, c, by rw [hc, e], hl, fun W' hW => ?_⟩
 have hk2 := hk W' hW
 rw [e] at hk2
 obtain ⟨A', c', e', hl', hC⟩ := k35_open hk2
 injection e' with _ e'
 injection e' with _ e'
 injection e' with e' _
 injection e' with e1 _ e2
 subst e1
 exact hC
def updE (U : List Upd7) (key : ByteArray) (c n : Int) (s : ByteArray) (mtu : Int) : Int := if may key c n s ≠ 0 then may key c n s else if fitsB [(⟨key, c, n, s⟩ : Upd7)] mtu = false then 3 else if fitsB (U ++ [(⟨key, c, n, s⟩ : Upd7)]) mtu = false then 7 else 0
def updU (U : List Upd7) (key : ByteArray) (c n : Int) (s : ByteArray) (mtu : Int) : List Upd7 := if updE U key c n s mtu = 0 then U ++ [(⟨key, c, n, s⟩ : Upd7)] else U
theorem updU_no {U : List Upd7} {key : ByteArray} {c n : Int} {s : ByteArray} {mtu : Int} (h : updE U key c n s mtu ≠ 0) : updU U key c n s mtu = U := if_neg h
theorem upd_len (U : List Upd7) (key : ByteArray) (c n : Int) (s : ByteArray) (mtu : Int) : (updU U key c n s mtu).length ≤ U.length + 1 := by unfold updU; split <;> simp
theorem upd_cases (U : List Upd7) (key : ByteArray) (c n : Int) (s : ByteArray) (mtu : Int) :
  (may key c n s ≠ 0 ∧ updE U key c n s mtu = may key c n s ∧ updU U key c n s mtu = U) ∨ (may key c n s = 0 ∧ fitsB [(⟨key, c, n, s⟩ : Upd7)] mtu = false ∧ updE U key c n s mtu = 3 ∧ updU U key c n s mtu = U) ∨
  (may key c n s = 0 ∧ fitsB [(⟨key, c, n, s⟩ : Upd7)] mtu = true ∧ fitsB (U ++ [(⟨key, c, n, s⟩ : Upd7)]) mtu = false ∧ updE U key c n s mtu = 7 ∧ updU U key c n s mtu = U) ∨
  (may key c n s = 0 ∧ fitsB [(⟨key, c, n, s⟩ : Upd7)] mtu = true ∧ fitsB (U ++ [(⟨key, c, n, s⟩ : Upd7)]) mtu = true ∧ updE U key c n s mtu = 0 ∧ updU U key c n s mtu = U ++ [(⟨key, c, n, s⟩ : Upd7)]) := by
 by_cases h1 : may key c n s = 0
 ·by_cases h2 : fitsB [(⟨key, c, n, s⟩ : Upd7)] mtu = false
  ·have e : updE U key c n s mtu = 3 := by unfold updE; rw [if_neg (fun h => h h1), if_pos h2]
   exact .inr (.inl ⟨h1, h2, e, updU_no (by rw [e]; decide)⟩)
  ·by_cases h3 : fitsB (U ++ [(⟨key, c, n, s⟩ : Upd7)]) mtu = false
   ·have e : updE U key c n s mtu = 7 := by unfold updE; rw [if_neg (fun h => h h1), if_neg h2, if_pos h3]
    exact .inr (.inr (.inl ⟨h1, by simpa using h2, h3, e, updU_no (by rw [e]; decide)⟩))
   ·have e : updE U key c n s mtu = 0 := by unfold updE; rw [if_neg (fun h => h h1), if_neg h2, if_neg h3]
    exact .inr (.inr (.inr ⟨h1, by simpa using h2, by simpa using h3, e, if_pos e⟩))
 ·have e : updE U key c n s mtu = may key c n s := by unfold updE; rw [if_pos h1]
  exact .inl ⟨h1, e, updU_no (by rw [e]; exact h1)⟩
def takeE (o : Int) (P : List Rnd7) (r0 r1 : Int) : Int := if r0 = o then (if P.length = 0 ∨ (rd_T35 P 0).f1 ≠ r1 then 10 else 0) else 0
def takeK (o : Int) (K P : List Rnd7) (r : Rnd7) : List Rnd7 := if takeE o P r.f0 r.f1 = 0 then K ++ [r] else K
def takeP (o : Int) (P : List Rnd7) (r0 r1 : Int) : List Rnd7 := if r0 = o ∧ takeE o P r0 r1 = 0 then P.drop 1 else P
theorem takeK_len (o : Int) (K P : List Rnd7) (r : Rnd7) : K.length ≤ (takeK o K P r).length ∧ (takeK o K P r).length ≤ K.length + 1 := by unfold takeK; split <;> simp
theorem take_cases (o : Int) (P : List Rnd7) (r0 r1 : Int) :
  (r0 = o ∧ P.length = 0 ∧ takeE o P r0 r1 = 10 ∧ takeP o P r0 r1 = P) ∨ (r0 = o ∧ P.length ≠ 0 ∧ (rd_T35 P 0).f1 ≠ r1 ∧ takeE o P r0 r1 = 10 ∧ takeP o P r0 r1 = P) ∨
  (r0 = o ∧ P.length ≠ 0 ∧ (rd_T35 P 0).f1 = r1 ∧ takeE o P r0 r1 = 0 ∧ takeP o P r0 r1 = P.drop 1) ∨ (r0 ≠ o ∧ takeE o P r0 r1 = 0 ∧ takeP o P r0 r1 = P) := by
 by_cases h1 : r0 = o
 ·by_cases h2 : P.length = 0
  ·have e : takeE o P r0 r1 = 10 := by unfold takeE; rw [if_pos h1, if_pos (.inl h2)]
   exact .inl ⟨h1, h2, e, by unfold takeP; rw [e, if_neg (by simp)]⟩
  ·by_cases h3 : (rd_T35 P 0).f1 = r1
   ·have e : takeE o P r0 r1 = 0 := by unfold takeE; rw [if_pos h1, if_neg (fun h => h.elim h2 (fun h => h h3))]
    exact .inr (.inr (.inl ⟨h1, h2, h3, e, by unfold takeP; rw [e, if_pos ⟨h1, rfl⟩]⟩))
   ·have e : takeE o P r0 r1 = 10 := by unfold takeE; rw [if_pos h1, if_pos (.inr h3)]
    exact .inr (.inl ⟨h1, h2, h3, e, by unfold takeP; rw [e, if_neg (by simp)]⟩)
 ·have e : takeE o P r0 r1 = 0 := by unfold takeE; rw [if_neg h1]
  exact .inr (.inr (.inr ⟨h1, e, by unfold takeP; rw [if_neg (fun h => h1 h.1)]⟩))
theorem takeK_yes {o : Int} {K P : List Rnd7} {r : Rnd7} (h : takeE o P r.f0 r.f1 = 0) : takeK o K P r = K ++ [r] := if_pos h
theorem takeK_no {o : Int} {K P : List Rnd7} {r : Rnd7} (h : takeE o P r.f0 r.f1 = 10) : takeK o K P r = K := if_neg (by rw [h]; decide)
def pushE (jo jm push : Int) (L P : List Rnd7) (U : List Upd7) : Int := if U.length = 0 then 11 else if (P.length : Int) ≥ push then 7 else addE jo jm L U
def pushR (jo jm push : Int) (L P : List Rnd7) (U : List Upd7) : Rnd7 := if pushE jo jm push L P U = 0 then ⟨jo, L.length + 1, U⟩ else z35
def pushL (jo jm push : Int) (L P : List Rnd7) (U : List Upd7) : List Rnd7 := if pushE jo jm push L P U = 0 then L ++ [⟨jo, L.length + 1, U⟩] else L
def pushP (jo jm push : Int) (L P : List Rnd7) (U : List Upd7) : List Rnd7 := if pushE jo jm push L P U = 0 then P ++ [⟨jo, L.length + 1, U⟩] else P
def pushU (jo jm push : Int) (L P : List Rnd7) (U : List Upd7) : List Upd7 := if pushE jo jm push L P U = 0 then [] else U
theorem push_cases (jo jm push : Int) (L P : List Rnd7) (U : List Upd7) : (U.length = 0 ∧ pushE jo jm push L P U = 11) ∨ (U.length ≠ 0 ∧ (P.length : Int) ≥ push ∧ pushE jo jm push L P U = 7) ∨ (U.length ≠ 0 ∧ ¬ (P.length : Int) ≥ push ∧ addE jo jm L U ≠ 0 ∧ pushE jo jm push L P U = addE jo jm L U) ∨ (U.length ≠ 0 ∧ ¬ (P.length : Int) ≥ push ∧ addE jo jm L U = 0 ∧ pushE jo jm push L P U = 0) := by
 unfold pushE
 by_cases h1 : U.length = 0
 ·exact .inl ⟨h1, if_pos h1⟩
 ·rw [if_neg h1]
  by_cases h2 : (P.length : Int) ≥ push
  ·exact .inr (.inl ⟨h1, h2, if_pos h2⟩)
  ·rw [if_neg h2]
   by_cases h3 : addE jo jm L U = 0
   ·exact .inr (.inr (.inr ⟨h1, h2, h3, h3⟩))
   ·exact .inr (.inr (.inl ⟨h1, h2, h3, rfl⟩))
theorem push_no {jo jm push : Int} {L P : List Rnd7} {U : List Upd7} (h : pushE jo jm push L P U ≠ 0) : pushR jo jm push L P U = z35 ∧ pushL jo jm push L P U = L ∧ pushP jo jm push L P U = P ∧ pushU jo jm push L P U = U := ⟨if_neg h, if_neg h, if_neg h, if_neg h⟩
theorem push_yes {jo jm push : Int} {L P : List Rnd7} {U : List Upd7} (h : pushE jo jm push L P U = 0) : pushR jo jm push L P U = ⟨jo, L.length + 1, U⟩ ∧ pushL jo jm push L P U = L ++ [⟨jo, L.length + 1, U⟩] ∧ pushP jo jm push L P U = P ++ [⟨jo, L.length + 1, U⟩] ∧ pushU jo jm push L P U = [] := ⟨if_pos h, if_pos h, if_pos h, if_pos h⟩
theorem add_yes {jo jm : Int} {L : List Rnd7} {U : List Upd7} (h : addE jo jm L U = 0) : addR jo jm L U = ⟨jo, L.length + 1, U⟩ ∧ addL jo jm L U = L ++ [⟨jo, L.length + 1, U⟩] := ⟨if_pos h, if_pos h⟩
section
variable {N : Nat → Prop} {w : World} {g gj gd gp : Nat} {jp : Value} {jo jm o mtu push : Int} {rJ rK rP : List (List Value)} {L K P : List Rnd7} {U : List Upd7}
theorem CUpd (key : ByteArray) (c n : Int) (s : ByteArray) (h : Own N w [CliO g jp o mtu push K P U]) (ht : TabN N w) (hL : U.length ≤ 1000000) :
  Calls Tryd.prog 30 #[pt g, .agg #[.string key, .int .i64 c, .int .i64 n, .string s]] w fun e_ w' => e_ = .returned (.int .i64 (updE U key c n s mtu)) ∧ Own N w' [CliO g jp o mtu push K P (updU U key c n s mtu)] ∧ KeepS N w w' := by
 rcases upd_cases U key c n s mtu with ⟨h1, e1, e2⟩ | ⟨h1, h2, e1, e2⟩ | ⟨h1, h2, h3, e1, e2⟩ | ⟨h1, h2, h3, e1, e2⟩ <;> rw [e1, e2]
 ·exact CUpd_may key c n s h ht hL h1
 ·exact CUpd_long key c n s h ht hL h1 h2
 ·exact CUpd_fo key c n s h ht hL h1 h2 h3 (fun _ _ _ x => x) (fun f => nomatch f)
 ·exact CUpd_fo key c n s h ht hL h1 h2 h3 (fun f => nomatch f) (fun _ _ _ x => x)
theorem CTake (r : Rnd7) (B : Option Addr) (cb : Nat) (h : Own N w [CliO g jp o mtu push K P U]) (hr : Kd.F kU7 w N B r.f2.length r.f2) (hc : r.f2.length ≤ cb) (hu : r.f2.length ≤ 1000000) (hL : K.length ≤ 1000000) :
  Calls Tryd.prog 32 #[pt g, .agg #[.int .i64 r.f0, .int .i64 r.f1, .slice B r.f2.length cb]] w fun e_ w' => e_ = .returned (.int .i64 (takeE o P r.f0 r.f1)) ∧ Own N w' [CliO g jp o mtu push (takeK o K P r) (takeP o P r.f0 r.f1) U] ∧ KeepS N w w' := by
 rcases take_cases o P r.f0 r.f1 with ⟨h1, h2, e1, e2⟩ | ⟨h1, h2, h3, e1, e2⟩ | ⟨h1, h2, h3, e1, e2⟩ | ⟨h1, e1, e2⟩
 ·rw [takeK_no e1, e1, e2]
  exact CTake_none r.f0 r.f1 B cb r.f2 h hr hc hu hL h1 h2
 ·rw [takeK_no e1, e1, e2]
  exact CTake_wrong r.f0 r.f1 B cb r.f2 h hr hc hu hL h1 h2 h3
 ·rw [takeK_yes e1, e1, e2]
  exact CTake_own r.f0 r.f1 B cb r.f2 h hr hc hu hL h1 h2 h3
 ·rw [takeK_yes e1, e1, e2]
  exact CTake_other r.f0 r.f1 B cb r.f2 h hr hc hu hL h1
theorem CPush (h : Own N w [CliO g (pt gp) o mtu push K P U, Obj3 138 gp jo jm L]) (hu : U.length ≤ 1000000) (hL : L.length ≤ 1000000) (hP : P.length ≤ 1000000) :
  Calls Tryd.prog 31 #[pt g] w fun e_ w' => ∃ A1 c1, e_ = .returned (.tuple #[.agg #[.int .i64 (pushR jo jm push L P U).f0, .int .i64 (pushR jo jm push L P U).f1, .slice A1 (pushR jo jm push L P U).f2.length c1], .int .i64 (pushE jo jm push L P U)]) ∧ Own N w' [CliO g (pt gp) o mtu push K (pushP jo jm push L P U) (pushU jo jm push L P U), Obj3 138 gp jo jm (pushL jo jm push L P U), nrow kU7 tU7 (.slice A1 (pushR jo jm push L P U).f2.length c1) (pushR jo jm push L P U).f2] ∧ KeepS N w w' := by
 rcases push_cases jo jm push L P U with ⟨h1, e⟩ | ⟨h1, h2, e⟩ | ⟨h1, h2, h3, e⟩ | ⟨h1, h2, h3, e⟩
 ·obtain ⟨a, b, c, d⟩ := push_no (show pushE jo jm push L P U ≠ 0 by rw [e]; decide)
  rw [a, b, c, d, e]
  exact CPush_none h hu hL hP h1
 ·obtain ⟨a, b, c, d⟩ := push_no (show pushE jo jm push L P U ≠ 0 by rw [e]; decide)
  rw [a, b, c, d, e]
  exact CPush_full h hu hL hP h1 h2
 ·obtain ⟨a, b, c, d⟩ := push_no (show pushE jo jm push L P U ≠ 0 by rw [e]; exact h3)
  rw [a, b, c, d, e]
  refine (CPush_eo h hu hL hP h1 h2 (fun _ _ _ x => x) (fun f => absurd f h3)).mono fun e_ w' ⟨q, _⟩ => ?_
  rw [show addL jo jm L U = L from if_neg h3] at q
  exact q
 ·obtain ⟨a, b, c, d⟩ := push_yes e
  rw [a, b, c, d, e]
  refine (CPush_eo h hu hL hP h1 h2 (fun f => absurd h3 f) (fun _ _ _ x => x)).mono fun e_ w' ⟨q, _⟩ => ?_
  rw [(add_yes h3).1, (add_yes h3).2] at q
  exact q
theorem ODTake (r : Rnd7) (B : Option Addr) (cb : Nat) (h : Own N w [DocO gj gd jo jm o mtu push rJ rK rP U]) (hd : Led N w rJ rK rP L K P) (hc : r.f2.length ≤ cb) (hL : K.length + P.length ≤ 1000000) :
  Calls Tryd.prog 60 #[pt gd, .agg #[.int .i64 r.f0, .int .i64 r.f1, .slice B r.f2.length cb]] w fun e_ w' => ∃ rK' rP', e_ = .returned (.int .i64 (takeE o P r.f0 r.f1)) ∧ (∀ (N0 : Nat → Prop) (w0 : World), Led N0 w0 rJ rK rP L K P → Kd.F kU7 w0 N0 B r.f2.length r.f2 → Led N0 w0 rJ rK' rP' L (takeK o K P r) (takeP o P r.f0 r.f1)) ∧ Own N w' [DocO gj gd jo jm o mtu push rJ rK' rP' U] ∧ KeepS N w w' := by
 obtain ⟨AJ, cJ, A4, c4, A5, c5, A6, c6, h2⟩ := DocO.open_ h
 obtain ⟨N_, on_, nn_, rr_, bb_⟩ := h2.frameL [4, 3, 2] (by decide) (by simp)
 have back : ∀ (e' : Int) (rK' rP' : List (List Value)) (K' P' : List Rnd7) (e_ : Ending) (w' : World) (vK vP : Value), e_ = .returned (.int .i64 e') → KeepS N_ w w' → Own N_ w' [cells gd (cliC (pt gj) o mtu push vK vP (.slice A6 U.length c6)) tDC, nrow (Kd.raw 3) tR7 vK rK', nrow (Kd.raw 3) tR7 vP rP'] → (∀ (N0 : Nat → Prop) (w0 : World), Led N0 w0 rJ rK rP L K P → Kd.F kU7 w0 N0 B r.f2.length r.f2 → Led N0 w0 rJ rK' rP' L K' P') → ∃ rK' rP', e_ = .returned (.int .i64 e') ∧ (∀ (N0 : Nat → Prop) (w0 : World), Led N0 w0 rJ rK rP L K P → Kd.F kU7 w0 N0 B r.f2.length r.f2 → Led N0 w0 rJ rK' rP' L K' P') ∧ Own N w' [DocO gj gd jo jm o mtu push rJ rK' rP' U] ∧ KeepS N w w' := by
  intro e' rK' rP' K' P' e_ w' vK vP he kk_ oo_ hl
  obtain ⟨o_, k_⟩ := bb_ w' [cells gd (cliC (pt gj) o mtu push vK vP (.slice A6 U.length c6)) tDC, nrow (Kd.raw 3) tR7 vK rK', nrow (Kd.raw 3) tR7 vP rP'] [] rfl kk_ oo_
  exact ⟨rK', rP', he, hl, (DocO.shut (o_.pickL [0, 5, 4, 3, 2, 1] (by decide) (by simp [setL]))).take 1, k_⟩
 have hll : rK.length + rP.length ≤ 1000000 := by rw [hd.k.1, hd.p.1]; exact hL
 rcases take_cases o P r.f0 r.f1 with ⟨h1, h2, e1, e2⟩ | ⟨h1, h2, h3, e1, e2⟩ | ⟨h1, h2, h3, e1, e2⟩ | ⟨h1, e1, e2⟩
 ·rw [takeK_no e1, e1, e2]
  exact (DTake_none r.f0 r.f1 B r.f2.length cb on_ hll h1 (by rw [hd.p.1]; exact h2)).mono fun e_ w' ⟨a, b, k⟩ => back _ _ _ _ _ e_ w' _ _ a k b (fun _ _ h _ => h)
 ·rw [takeK_no e1, e1, e2]
  obtain ⟨A, c, hh, _, _⟩ := hd.p.first h2
  exact (DTake_wrong r.f0 r.f1 B r.f2.length cb on_ hll h1 hh h3).mono fun e_ w' ⟨a, b, k⟩ => back _ _ _ _ _ e_ w' _ _ a k b (fun _ _ h _ => h)
 ·rw [takeK_yes e1, e1, e2]
  obtain ⟨A, c, hh, _, _⟩ := hd.p.first h2
  exact (DTake_own r.f0 r.f1 B r.f2.length cb on_ hll h1 hh h3).mono fun e_ w' ⟨_, _, _, _, a, b, k⟩ => back _ _ _ _ _ e_ w' _ _ a k b (fun _ _ h hF => ⟨h.j, h.k.append (Lead.one hc hF), h.p.drop1⟩)
 ·rw [takeK_yes e1, e1, e2]
  exact (DTake_other r.f0 r.f1 B r.f2.length cb on_ hll h1).mono fun e_ w' ⟨_, _, a, b, k⟩ => back _ _ _ _ _ e_ w' _ _ a k b (fun _ _ h hF => ⟨h.j, h.k.append (Lead.one hc hF), h.p⟩)
theorem ODResume (h : Own N w [DocO gj gd jo jm o mtu push rJ rK rP U]) (hd : Led N w rJ rK rP L K P) (hL : L.length ≤ 1000000) :
  Calls Tryd.prog 61 #[pt gd] w fun e_ w' => e_ = .returned (.tuple #[]) ∧ Led N w' rJ [] rJ L [] L ∧ Own N w' [DocO gj gd jo jm o mtu push rJ [] rJ []] ∧ KeepS N w w' := by
 obtain ⟨AJ, cJ, A4, c4, A5, c5, A6, c6, h2⟩ := DocO.open_ h
 obtain ⟨N_, on_, nn_, rr_, bb_⟩ := h2.frameL [0, 5, 4] (by decide) (by simp)
 refine (DResume on_ (by rw [hd.j.1]; exact hL)).mono ?_
 rintro e_ w' ⟨B5, b5, a, oo_, kk_⟩
 obtain ⟨o_, k_⟩ := bb_ w' [cells gj (jrC jo jm (.slice AJ rJ.length cJ)) tDJ, nrow (Kd.raw 3) tR7 (.slice AJ rJ.length cJ) rJ, cells gd (cliC (pt gj) o mtu push (.slice none 0 0) (.slice B5 rJ.length b5) (.slice none 0 0)) tDC] [nrow (Kd.raw 3) tR7 (.slice B5 rJ.length b5) rJ] rfl kk_ oo_
 exact ⟨a, ⟨hd.j.keep k_, Lead.none _ _, hd.j.keep k_⟩, (DocO.shut (((o_.push_emp (nrow kU7 tU7 (.slice none 0 0) []) (fun w => Kd.N_nil _ _ _ _ _)).push_emp (nrow (Kd.raw 3) tR7 (.slice none 0 0) []) (fun w => Kd.N_nil _ _ _ _ _)).pickL [0, 5, 4, 8, 6, 7] (by decide) (by simp [setL]))).take 1, k_⟩
end
end Go.Proofs.YtjdenpmaianmfaaDoor.J
