/- What the document's Get of a round answers: a head of three numbers, then as many updates, if nothing is left behind them. -/
import Derived.Test.YtfpegjdplggkpaaDoorYRoundGetsEv
import Derived.Test.YtfpegjdplggkpaaDoorYRoundGetsRd
import Derived.Test.YtfpegjdplggkpaaDoorYRoundGetsQ4
import Derived.Test.YtfpegjdplggkpaaDoorYRoundGetsQ6
import Derived.Test.YtfpegjdplggkpaaDoorYRoundGetsQ5
import Derived.Test.YtfpegjdplggkpaaDoorYRoundGetsQ2
import Derived.Test.YtfpegjdplggkpaaDoorYRoundGetsRU
import Derived.Test.YtfpegjdplggkpaaDoorYRoundGetsQ16
import Derived.Test.YtfpegjdplggkpaaDoorYRoundGetsStr2
namespace Go.Proofs.YtfpegjdplggkpaaDoor.Sep
set_option linter.unusedSimpArgs false
set_option linter.unusedVariables false
open Go Go.RowKit Go.Proofs.YtfpegjdplggkpaaDoorW.PrintWords Go.Proofs.YtfpegjdplggkpaaDoorW.PrintLast Go.Proofs.YtfpegjdplggkpaaDoorW.PrintMore
section
variable {α β : Type} {d : Kd α} {e : Nat} {base : Nat} {ok : Nat → Prop} {w w' : World} {xs : List α} {v u : Value} {g f n c : Nat}
def Loose (d : Kd α) : Prop := ∀ {w w' : World} {base : Nat} {ok : Nat → Prop} {x : α} {cs : List Value}, d.K w x cs → d.M w' base ok x cs
theorem loose_scalar {enc : α → Value} {h1 : ∀ x, (enc x).oneCell' = true} : Loose (Kd.scalar enc h1) := fun h => h
theorem loose_pair {a : Kd α} {b : Kd β} (ha : Loose a) (hb : Loose b) : Loose (Kd.pair a b) := fun ⟨c0, c1, e, h0, h1⟩ => ⟨c0, c1, e, ha h0, hb h1⟩
theorem loose_iso {d : Kd α} (f : β → α) (hd : Loose d) : Loose (Kd.iso d f) := fun h => hd h
theorem N_R (hd : Loose d) (h : Kd.N d e w base ok v xs) : d.R e w base ok v xs := by
 obtain ⟨h0, rows, hl, ⟨_, inner, ho, hr⟩, hf⟩ := h
 refine ⟨h0, inner, by rw [← hl]; exact ho, by rw [← hl]; exact hr.1, fun j p hj => ?_⟩
 have hjl : j < rows.length := by rw [hl]; exact (List.getElem?_eq_some_iff.1 hj).1
 have h2 := hr.2 j _ (List.getElem?_eq_getElem hjl)
 have h3 := Kd.FK_now (hf j p _ hj (List.getElem?_eq_getElem hjl))
 rw [← h2.1] at h3
 exact hd h3
theorem list_choose {P : Nat → α → Prop} (m : Nat) (h : ∀ j, j < m → ∃ x, P j x) : ∃ l : List α, l.length = m ∧ ∀ j x, l[j]? = some x → P j x := by
 induction m with
 | zero => exact ⟨[], rfl, fun j x hj => by simp at hj⟩
 | succ m ih =>
  obtain ⟨l, hl, hp⟩ := ih (fun j hj => h j (by omega))
  obtain ⟨x, hx⟩ := h m (by omega)
  refine ⟨l ++ [x], by rw [List.length_append, hl]; rfl, fun j y hj => ?_⟩
  rcases Nat.lt_or_ge j l.length with hlt | hge
  ·rw [List.getElem?_append_left hlt] at hj
   exact hp j y hj
  ·rw [List.getElem?_append_right hge] at hj
   have hj0 : j - l.length = 0 := by
    have := (List.getElem?_eq_some_iff.1 hj).1
    simp at this
    omega
   rw [hj0] at hj
   simp only [List.getElem?_cons_zero, Option.some.injEq] at hj
   subst hj
   rw [show j = m by omega]
   exact hx
theorem chunk_same (l : List Value) (i sz f : Nat) (u : Value) : ((l.set (i * sz + f) u).drop (i * sz)).take sz = ((l.drop (i * sz)).take sz).set f u := by
 rw [List.drop_set, if_neg (by omega), List.take_set, Nat.add_sub_cancel_left]
theorem chunk_other (l : List Value) (i j sz f : Nat) (u : Value) (hf : f < sz) (hij : j ≠ i) : ((l.set (i * sz + f) u).drop (j * sz)).take sz = (l.drop (j * sz)).take sz := by
 rw [List.drop_set]
 split
 ·rfl
 ·rename_i h
  have h2 : j < i := by
   rcases Nat.lt_or_ge j i with h3 | h3
   ·exact h3
   ·have : i + 1 ≤ j := by omega
    have := Nat.mul_le_mul_right sz this
    rw [Nat.add_mul, Nat.one_mul] at this
    omega
  have h4 : (j + 1) * sz ≤ i * sz := Nat.mul_le_mul_right sz h2
  rw [Nat.add_mul, Nat.one_mul] at h4
  rw [List.take_set, List.set_eq_of_length_le]
  rw [List.length_take]
  omega
def Puts (d : Kd α) (f : Nat) (u : Value) : Prop := ∀ {w : World} {x : α} {cs : List Value}, d.K w x cs → ∃ x', d.K w x' (cs.set f u)
theorem R_put (hd : Loose d) (hu : Puts d f u) (hf : f < d.sz) (h : d.R e w base ok v xs) (i : Nat) : ∃ xs', xs'.length = xs.length ∧ d.R e (w.setCell ⟨g, i * d.sz + f, none⟩ u) base ok v xs' := by
 obtain ⟨h0, inner, ho, hr⟩ := h
 by_cases hg : v.ownBlock = some g
 ·rcases ho.2 with ⟨rfl, _⟩ | ⟨g', cap, cur, rfl, _⟩
  ·simp [Value.ownBlock] at hg
  have : g' = g := by simpa [Value.ownBlock] using hg
  subst this
  have hst := (ho.stored (i * d.sz + f) u).1
  obtain ⟨xs', hl, hx⟩ := list_choose (P := fun j x => d.M (w.setCell ⟨g', i * d.sz + f, none⟩ u) base (fun k => ok k ∧ some k ≠ Value.ownBlock (.slice (some ⟨g', 0, none⟩) xs.length cap)) x (((inner.set (i * d.sz + f) u).drop (j * d.sz)).take d.sz)) xs.length (fun j hj => by
   have hm := hr.2 j _ (List.getElem?_eq_getElem hj)
   by_cases hji : j = i
   ·subst hji
    rw [chunk_same]
    obtain ⟨x', hx'⟩ := hu (d.K_of_M hm)
    exact ⟨x', hd hx'⟩
   ·rw [chunk_other _ _ _ _ _ _ hf hji]
    exact ⟨_, hd (d.K_of_M hm)⟩)
  exact ⟨xs', hl, h0, inner.set (i * d.sz + f) u, by rw [hl]; exact hst, by rw [List.length_set, hl]; exact hr.1, hx⟩
 ·refine ⟨xs, rfl, h0, inner, own_move ho (fun k hk => Below.heap_setCell _ _ _ _ (fun e => hg (by rw [hk, e]))), hr.imp_ (fun _ _ hp => hd (d.K_of_M hp))⟩
end
section
variable {α : Type} {d : Kd α} {e : Nat} {N : Nat → Prop} {w w' W : World} {l : List HP} {i : Nat} {v u : Value} {A : Option Addr} {n c f : Nat} {xs : List α} {x : α} {cs : List Value}
end
section
variable {α : Type} {d : Kd α} {e : Nat} {N : Nat → Prop} {w : World} {l : List HP} {i B : Nat} {v : Value} {xs : List α}
theorem Own.outR (hd : Loose d) (h : Own N w l) (hi : l[i]? = some (nrow d e v xs)) (hN : ∀ k, k < B → N k) : d.R e w B (fun _ => True) v xs := by
 obtain ⟨hN', Fs, h1, h2, h3⟩ := h
 have hn : Kd.N d e w 0 (Fs i) v xs := h1 i _ hi
 obtain ⟨h0, inner, ho, hr⟩ := N_R hd hn
 refine ⟨fun _ _ => trivial, inner, ⟨ho.1, ?_⟩, hr.imp_ (fun _ _ hp => hd (d.K_of_M hp))⟩
 rcases ho.2 with h4 | ⟨g, cap, cur, h4, h5, h6⟩
 ·exact .inl h4
 ·refine .inr ⟨g, cap, cur, h4, ?_, h6⟩
  rcases Nat.lt_or_ge g B with h7 | h7
  ·exact absurd (hN g h7) (h2 i g (h0 g (by rw [h4]; rfl))).1
  ·exact h7
end
end Go.Proofs.YtfpegjdplggkpaaDoor.Sep
namespace Go.Proofs.YtfpegjdplggkpaaDoor.J
set_option linter.unusedSimpArgs false
set_option linter.unusedVariables false
open Go Go.RowKit Go.Proofs.YtfpegjdplggkpaaDoorW.PrintWords Go.Proofs.YtfpegjdplggkpaaDoorW.PrintLast Go.Proofs.YtfpegjdplggkpaaDoorW.PrintMore Go.Proofs.YtfpegjdplggkpaaDoor.Q Go.Proofs.YtfpegjdplggkpaaDoor.Sep Go.Proofs.YtfpegjdplggkpaaDoor.Pure
theorem obj_step {N : Nat → Prop} {w0 w w' : World} {g : Nat} {t : TypeId} {cs cs' : Array Value} (h : Own N w [cells g cs t]) (hB : Below w0.heap.size w0 w) (hB' : Below w0.heap.size w0 w') (hb : w'.heap[g]? = some (.cells cs' t (0, 0))) (hk : KeepBut w w' g none) :
    Own N w' [cells g cs' t] ∧ KeepS N w w' :=
  ⟨h.upd (i := 0) rfl (cells g cs' t) (fun F hp hf => ⟨hk.1, fun k hk1 hk2 => hk.2 k hk1 (fun e => hk2 (by rw [show k = g from e]; exact hp.1)) (by simp), F, ⟨hp.1, hb⟩, fun k hk3 => .inl hk3⟩),
   ⟨hB'.os.trans hB.os.symm, hB'.tape.trans hB.tape.symm, hB'.output.trans hB.output.symm, hk.1, fun k hk1 hn => hk.2 k hk1 (fun e => h.far (i := 0) rfl (e ▸ hn)) (by simp)⟩⟩
abbrev RM (g : Nat) (b : ByteArray) (p e : Int) : HP := cells g #[.string b, .int .i64 p, .int .i64 e] 70
theorem rend (b : ByteArray) (p e : Int) : chapbookref03_Reader_End.f b p e = some (endR b p e, b, p, endR b p e) := by
 unfold chapbookref03_Reader_End.f endR
 split
 ·rename_i h; subst h; split <;> rfl
 ·rfl
variable {N : Nat → Prop} {w0 w : World} {g : Nat} {b : ByteArray} {p e : Int}
theorem rNum (hB : Below w0.heap.size w0 w) (hge : w0.heap.size ≤ g) (hs : b.size ≤ 140737488351232) (l v p2 e2 : Int) (hq : numR b p e l = (v, p2, e2)) (h : Own N w [RM g b p e]) :
  Calls Tryd.prog 36 #[.pointer (some ⟨g, 0, none⟩), .int .i64 l] w fun e_ w' => e_ = .returned (.int .i64 v) ∧ Own N w' [RM g b p2 e2] ∧ KeepS N w w' := by
 have h1 : v = (numR b p e l).1 := by rw [hq]
 have h2 : p2 = (numR b p e l).2.1 := by rw [hq]
 have h3 : e2 = (numR b p e l).2.2 := by rw [hq]
 subst h1 h2 h3
 exact (chapbookref03_Reader_Number.calls 22 g b p e l _ _ _ _ w0 w ⟨h.blk (i := 0) rfl, hge⟩ hB (rnum 0 b p e l hs)).mono fun e_ w' ⟨he, hI, hB', hK⟩ => ⟨he, obj_step h hB hB' hI.1 hK⟩
theorem rEnd (hB : Below w0.heap.size w0 w) (hge : w0.heap.size ≤ g) (h : Own N w [RM g b p e]) :
  Calls Tryd.prog 38 #[.pointer (some ⟨g, 0, none⟩)] w fun e_ w' => e_ = .returned (.int .i64 (endR b p e)) ∧ Own N w' [RM g b p (endR b p e)] ∧ KeepS N w w' :=
 (chapbookref03_Reader_End.calls g b p e _ _ _ _ w0 w ⟨h.blk (i := 0) rfl, hge⟩ hB (rend b p e)).mono fun e_ w' ⟨he, hI, hB', hK⟩ => ⟨he, obj_step h hB hB' hI.1 hK⟩
end Go.Proofs.YtfpegjdplggkpaaDoor.J
namespace Go.Proofs.YtfpegjdplggkpaaDoor.J
set_option linter.unusedSimpArgs false
set_option linter.unusedVariables false
open Go Go.RowKit Go.Proofs.YtfpegjdplggkpaaDoorW.PrintWords Go.Proofs.YtfpegjdplggkpaaDoorW.PrintLast Go.Proofs.YtfpegjdplggkpaaDoorW.PrintMore Go.Proofs.YtfpegjdplggkpaaDoor.Q Go.Proofs.YtfpegjdplggkpaaDoor.Sep Go.Proofs.YtfpegjdplggkpaaDoor.Pure
variable {N : Nat → Prop} {w0 w : World} {g : Nat} {b : ByteArray} {p e : Int}
theorem rUpd (hB : Below w0.heap.size w0 w) (hge : w0.heap.size ≤ g) (hs : b.size ≤ 140737488351232) (h0 : 0 ≤ p) (h1 : p ≤ b.size) (k : ByteArray) (c n : Int) (s : ByteArray) (p2 e2 : Int) (hq : outU b (readU b p e) = (k, c, n, s, b, p2, e2)) (h : Own N w [RM g b p e]) :
  Calls Tryd.prog 37 #[.pointer (some ⟨g, 0, none⟩)] w fun e_ w' => e_ = .returned (.agg #[.string k, .int .i64 c, .int .i64 n, .string s]) ∧ Own N w' [RM g b p2 e2] ∧ KeepS N w w' :=
 (chapbookref06_Read.calls 25 g b p e k c n s b p2 e2 w0 w ⟨h.blk (i := 0) rfl, hge⟩ hB ((rread 0 b p e hs h0 h1).trans (by rw [hq]))).mono fun e_ w' ⟨he, hI, hB', hK⟩ => ⟨he, obj_step h hB hB' hI.1 hK⟩
end Go.Proofs.YtfpegjdplggkpaaDoor.J
namespace Go.Proofs.YtfpegjdplggkpaaDoor.Q
set_option linter.unusedSimpArgs false
set_option linter.unusedVariables false
open Go Go.RowKit Go.Proofs.YtfpegjdplggkpaaDoorW.PrintWords Go.Proofs.YtfpegjdplggkpaaDoorW.PrintLast Go.Proofs.YtfpegjdplggkpaaDoorW.PrintMore Go.Proofs.YtfpegjdplggkpaaDoor.Sep Go.Proofs.YtfpegjdplggkpaaDoor.J Go.Proofs.YtfpegjdplggkpaaDoor.Pure
attribute [local go_sem] max2_int min2_int max_two min_two max_three min_three max_four min_four
theorem int_eqG {a b : Int} (h : a = b) : Value.int .i64 a = .int .i64 b := by rw [h]
theorem infoG : (Tryd.prog.info? 47).map (fun i => (i.zero, i.size, i.bytes)) = some (some (.agg #[.string ⟨#[]⟩, .int .i64 0, .int .i64 0, .string ⟨#[]⟩]), 4, 48) := by kernel_rfl
def headR (b : ByteArray) (p lim : Int) : Int × Int × Int := ((numR b p 0 lim).1, (numR b p 0 lim).2.1, if (numR b p 0 lim).2.2 = 0 then (if (numR b p 0 lim).1 = 0 then 1 else 0) else (numR b p 0 lim).2.2)
def updR (b : ByteArray) (p : Int) : S47 := ⟨(readU b p 0).1, (readU b p 0).2.1, (readU b p 0).2.2.1, (readU b p 0).2.2.2.1⟩
def upsR (b : ByteArray) : Nat → Int → List S47 × Int × Int
 | 0, p => ([], p, 0)
 | n + 1, p => if (readU b p 0).2.2.2.2.2 = 0 then (updR b p :: (upsR b n (readU b p 0).2.2.2.2.1).1, (upsR b n (readU b p 0).2.2.2.2.1).2) else ([], (readU b p 0).2.2.2.2.1, (readU b p 0).2.2.2.2.2)
def noR (e : Int) : Int × Int × List S47 × Int := (0, 0, [], e)
def getR3 (b : ByteArray) (o n : Int) (u : List S47 × Int × Int) : Int × Int × List S47 × Int :=
 if u.2.2 ≠ 0 then noR u.2.2 else if endR b u.2.1 0 ≠ 0 then noR (endR b u.2.1 0) else (o, n, u.1, 0)
def getR2 (b : ByteArray) (o n : Int) (m : Int × Int × Int) : Int × Int × List S47 × Int := if m.2.2 ≠ 0 then noR m.2.2 else getR3 b o n (upsR b m.1.toNat m.2.1)
def getR1 (b : ByteArray) (o : Int) (n : Int × Int × Int) : Int × Int × List S47 × Int := if n.2.2 ≠ 0 then noR n.2.2 else getR2 b o n.1 (headR b n.2.1 8)
def getR (b : ByteArray) : Int × Int × List S47 × Int := if (headR b 0 64).2.2 ≠ 0 then noR (headR b 0 64).2.2 else getR1 b (headR b 0 64).1 (headR b (headR b 0 64).2.1 1099511627776)
def chapbookref07_Get.f (k : Nat) (a0 : ByteArray) : Option (Int × Int × List S47 × Int) := if a0.size ≤ 140737488351232 then some (getR a0) else none
theorem chapbookref07_Get.mono : ∀ a0 k, LeO (chapbookref07_Get.f k a0) (chapbookref07_Get.f (k + 1) a0) := fun a0 k => LeO.refl _
theorem ups_s {b : ByteArray} {n : Nat} {p p0 : Int} {m : Nat} {l : List S47} (hn : n < m) (h : upsR b m p0 = (l ++ (upsR b (m - n) p).1, (upsR b (m - n) p).2)) (he : (readU b p 0).2.2.2.2.2 = 0) : upsR b m p0 = ((l ++ [updR b p]) ++ (upsR b (m - (n + 1)) (readU b p 0).2.2.2.2.1).1, (upsR b (m - (n + 1)) (readU b p 0).2.2.2.2.1).2) := by
 obtain ⟨d, hd⟩ : ∃ d, m - n = d + 1 := ⟨m - n - 1, by omega⟩
 rw [show m - (n + 1) = d by omega, h, hd]
 have e : upsR b (d + 1) p = (updR b p :: (upsR b d (readU b p 0).2.2.2.2.1).1, (upsR b d (readU b p 0).2.2.2.2.1).2) := by
  show (if _ then _ else _) = _
  rw [if_pos he]
 rw [e]
 simp
theorem ups_no {b : ByteArray} {n : Nat} {p p0 : Int} {m : Nat} {l : List S47} (hn : n < m) (h : upsR b m p0 = (l ++ (upsR b (m - n) p).1, (upsR b (m - n) p).2)) (he : (readU b p 0).2.2.2.2.2 ≠ 0) : (upsR b m p0).2.2 = (readU b p 0).2.2.2.2.2 := by
 obtain ⟨d, hd⟩ : ∃ d, m - n = d + 1 := ⟨m - n - 1, by omega⟩
 rw [h, hd]
 have e : upsR b (d + 1) p = ([], (readU b p 0).2.2.2.2.1, (readU b p 0).2.2.2.2.2) := by
  show (if _ then _ else _) = _
  rw [if_neg he]
 rw [e]
theorem ups_all {b : ByteArray} {p p0 : Int} {m : Nat} {l : List S47} (h : upsR b m p0 = (l ++ (upsR b (m - m) p).1, (upsR b (m - m) p).2)) : upsR b m p0 = (l, p, 0) := by
 rw [Nat.sub_self] at h
 rw [h]
 show (l ++ [], p, (0 : Int)) = _
 rw [List.append_nil]
theorem readU_placeG (b : ByteArray) (p e : Int) (h0 : 0 ≤ p) (h1 : p ≤ b.size) : 0 ≤ (readU b p e).2.2.2.2.1 ∧ (readU b p e).2.2.2.2.1 ≤ b.size := by
 have hn := numR_place b p e 5 h0 h1
 unfold readU keyU tailU noU
 (repeat' split) <;> first | exact ⟨hn.1, hn.2.1⟩ | skip
 all_goals
  first
   | exact ⟨(txtR_place b _ 0 16 hn.1 hn.2.1).1, (txtR_place b _ 0 16 hn.1 hn.2.1).2.1⟩
   | exact ⟨(sgnR_place b _ 0 (txtR_place b _ 0 16 hn.1 hn.2.1).1 (txtR_place b _ 0 16 hn.1 hn.2.1).2.1).1, (sgnR_place b _ 0 (txtR_place b _ 0 16 hn.1 hn.2.1).1 (txtR_place b _ 0 16 hn.1 hn.2.1).2.1).2.1⟩
   | exact ⟨(txtR_place b _ 0 32 (txtR_place b _ 0 16 hn.1 hn.2.1).1 (txtR_place b _ 0 16 hn.1 hn.2.1).2.1).1, (txtR_place b _ 0 32 (txtR_place b _ 0 16 hn.1 hn.2.1).1 (txtR_place b _ 0 16 hn.1 hn.2.1).2.1).2.1⟩
theorem capR_le (l : Int) (h0 : 0 ≤ l) (h1 : l ≤ 1099511627776) : capR l ≤ 1099511627776 := by unfold capR mn mx; (repeat' split) <;> omega
theorem blk3_ {w : World} {g : Nat} {t : TypeId} {v0 v1 v2 : Value} (h : w.heap[g]? = some (.cells #[v0, v1, v2] t (0, 0))) : w.cell? ⟨g, 0, none⟩ = some v0 ∧ w.cell? ⟨g, 1, none⟩ = some v1 ∧ w.cell? ⟨g, 2, none⟩ = some v2 ∧ ∀ i, w.frozen? ⟨g, i, none⟩ = false := ⟨(blk_cell h 0).trans rfl, (blk_cell h 1).trans rfl, (blk_cell h 2).trans rfl, fun i => blk_frozen h i⟩
theorem blk4_ {w : World} {g : Nat} {t : TypeId} {v0 v1 v2 v3 : Value} (h : w.heap[g]? = some (.cells #[v0, v1, v2, v3] t (0, 0))) : w.cell? ⟨g, 0, none⟩ = some v0 ∧ w.cell? ⟨g, 1, none⟩ = some v1 ∧ w.cell? ⟨g, 2, none⟩ = some v2 ∧ w.cell? ⟨g, 3, none⟩ = some v3 ∧ ∀ i, w.frozen? ⟨g, i, none⟩ = false := ⟨(blk_cell h 0).trans rfl, (blk_cell h 1).trans rfl, (blk_cell h 2).trans rfl, (blk_cell h 3).trans rfl, fun i => blk_frozen h i⟩
theorem own_litc {P : Program} {ops : Array Oper} {rest : List Oper} {o : Oper} {a : Act} {Q : Exit → Act → World → Prop} {N : Nat → Prop} {W : World} {l : List HP} (hgd : o.guard = none) {D : Tmp} (_hd : o.dst = some D) {cs : Array Value} {t : TypeId} {m : Nat}
  (hrun : (execOp a.eval o).run P W = .ok (.value (.slice (some ⟨W.heap.size, 0, none⟩) m m)) (W.alloc (.cells cs t (0, 0)))) (h : Own N W l)
  (k : ∀ g w1, Own N w1 (l ++ [cells g cs t]) → KeepS N W w1 → wpList P ops Q rest (a.put o.dst (.slice (some ⟨g, 0, none⟩) m m)) w1) : wpList P ops Q (o :: rest) a W :=
 Kd.event_run hgd hrun (k _ _ (h.new cs t) (KeepS.alloc _))
theorem looseG : Loose k47 := loose_iso _ (loose_pair loose_scalar (loose_pair loose_scalar (loose_pair loose_scalar loose_scalar)))
abbrev ZR (g : Nat) : HP := cells g #[.int .i64 0, .int .i64 0, .slice none 0 0] 24
abbrev HD (g : Nat) (a b c : Int) : HP := cells g #[.int .i64 a, .int .i64 b, .int .i64 c] 3
def GtI (N : Nat → Prop) (w : World) (a0 : ByteArray) (v0 v1 m p0 : Int) (g2 g4 gm gh g8 : Nat) (i : Value) (wr : World) : Prop := ∃ (x p : Int) (l : List S47) (A : Option Addr) (c : Nat), 0 ≤ x ∧ x ≤ m ∧ i = .int .i64 x ∧ Aside0 (l.length = x.toNat ∧ upsR a0 m.toNat p0 = (l ++ (upsR a0 (m.toNat - x.toNat) p).1, (upsR a0 (m.toNat - x.toNat) p).2)) ∧ Aside0 (0 ≤ p ∧ p ≤ a0.size) ∧ Aside0 (Own N wr [ZR g2, ZR g4, RM gm a0 p 0, HD gh v0 v1 m, cells g8 #[.int .i64 v0, .int .i64 v1, .slice A l.length c] 24, nrow k47 47 (.slice A l.length c) l]) ∧ Aside0 (KeepS N w wr)
set_option maxHeartbeats 16000000 in
set_option maxRecDepth 100000 in
theorem chapbookref07_Get.calls (k : Nat) (a0 : ByteArray) (r1 : Int) (r2 : Int) (r3 : List S47) (r4 : Int) (w : World) (HT : Aside0 (Tab w)) (h : chapbookref07_Get.f k a0 = some (r1, r2, r3, r4)) :
  Calls Tryd.prog 17 #[.string a0] w fun e_ w' => ∃ v2_ : Value, e_ = .returned (.tuple #[.agg #[.int .i64 r1, .int .i64 r2, v2_], .int .i64 r4]) ∧ Kd.R k47 47 w' w.heap.size (fun _ => True) v2_ r3 ∧ Below w.heap.size w w' := by
 have hsz : a0.size ≤ 140737488351232 := by
  unfold chapbookref07_Get.f at h
  split at h
  ·assumption
  ·cases h
 unfold chapbookref07_Get.f at h
 rw [if_pos hsz] at h
 replace h := Option.some.inj h
 obtain ⟨N, hN⟩ : ∃ N : Nat → Prop, N = fun k => k < w.heap.size := ⟨_, rfl⟩
 have HN := Aside0.mk hN
 have HSZ := Aside0.mk hsz
 have HGR := Aside0.mk h
 have O0 : Aside0 (Own N w []) := ⟨Own.start_ (fun k hk => by rw [hN] at hk; exact hk)⟩
 have K0 : Aside0 (KeepS N w w) := ⟨KeepS.refl _ _⟩
 clear hN hsz h
 go_enter Tryd.func17, Tryd.ntmps17
 go_wp2_with (first | ((with_reducible refine gate_dst (N := 2) rfl ?_); refine own_box rfl (D := 2) rfl (cs := #[.int .i64 0, .int .i64 0, .slice none 0 0]) (t := 24) ?hr O0.out ?_; (case hr => first | (go_simp; done) | (go_simp; rfl)); intro g2 w1 o_ k_; have O1 : Aside0 (Own N w1 [ZR g2]) := ⟨o_⟩; have K1 : Aside0 (KeepS N w w1) := ⟨K0.out.trans k_⟩; clear O0 K0; obtain ⟨a0a, a0b, a0c, b0⟩ := blk3_ (O1.out.blk (i := 0) rfl); clear o_ k_) | ((with_reducible refine gate_dst (N := 4) rfl ?_); refine own_box rfl (D := 4) rfl (cs := #[.int .i64 0, .int .i64 0, .slice none 0 0]) (t := 24) ?hr O1.out ?_; (case hr => first | (go_simp; done) | (go_simp; rfl)); intro g4 w2 o_ k_; have O2 : Aside0 (Own N w2 [ZR g2, ZR g4]) := ⟨o_⟩; have K2 : Aside0 (KeepS N w w2) := ⟨K1.out.trans k_⟩; clear a0a a0b a0c b0 O1 K1; obtain ⟨a0a, a0b, a0c, b0⟩ := blk3_ (O2.out.blk (i := 0) rfl); obtain ⟨a1a, a1b, a1c, b1⟩ := blk3_ (O2.out.blk (i := 1) rfl); clear o_ k_) | ((with_reducible refine gate_store (t := 24) (p := 4) rfl ?_); refine own_store rfl rfl rfl (w1 := (World.setCell (World.setCell (World.setCell w2 ⟨g4, 0, none⟩ (.int .i64 0)) ⟨g4, 1, none⟩ (.int .i64 0)) ⟨g4, 2, none⟩ (.slice none 0 0))) (N := N) (l' := [ZR g2, ZR g4]) ?hr ?ho ?hk ?_; (case hr => first | (go_simp; done) | (go_simp; rfl)); (case ho => exact (((O2.out.set (i := 1) rfl 0 (.int .i64 0)).set (i := 1) rfl 1 (.int .i64 0)).set (i := 1) rfl 2 (.slice none 0 0))); (case hk => exact (((KeepS.setCell (O2.out.far (i := 1) rfl) (.int .i64 0)).trans (KeepS.setCell (O2.out.far (i := 1) rfl) (.int .i64 0))).trans (KeepS.setCell (O2.out.far (i := 1) rfl) (.slice none 0 0)))); intro w3 o_ k_; have O3 : Aside0 (Own N w3 [ZR g2, ZR g4]) := ⟨o_⟩; have K3 : Aside0 (KeepS N w w3) := ⟨K2.out.trans k_⟩; clear a0a a0b a0c b0 a1a a1b a1c b1 O2 K2; obtain ⟨a0a, a0b, a0c, b0⟩ := blk3_ (O3.out.blk (i := 0) rfl); obtain ⟨a1a, a1b, a1c, b1⟩ := blk3_ (O3.out.blk (i := 1) rfl); clear o_ k_) | ((with_reducible refine gate_dst (N := 15) rfl ?_); refine own_box rfl (D := 15) rfl (cs := #[.string a0, .int .i64 0, .int .i64 0]) (t := 70) ?hr O3.out ?_; (case hr => first | (go_simp; done) | (go_simp; rfl)); intro gm w4 o_ k_; have O4 : Aside0 (Own N w4 [ZR g2, ZR g4, cells gm #[.string a0, .int .i64 0, .int .i64 0] 70]) := ⟨o_⟩; have K4 : Aside0 (KeepS N w w4) := ⟨K3.out.trans k_⟩; clear a0a a0b a0c b0 a1a a1b a1c b1 O3 K3; obtain ⟨a0a, a0b, a0c, b0⟩ := blk3_ (O4.out.blk (i := 0) rfl); obtain ⟨a1a, a1b, a1c, b1⟩ := blk3_ (O4.out.blk (i := 1) rfl); obtain ⟨a2a, a2b, a2c, b2⟩ := blk3_ (O4.out.blk (i := 2) rfl); clear o_ k_) | ((with_reducible refine gate_dst (N := 16) rfl ?_); refine own_litc rfl (D := 16) rfl (cs := #[.int .i64 64, .int .i64 1099511627776, .int .i64 8]) (t := 3) (m := 3) ?hr O4.out ?_; (case hr => first | (go_simp; done) | (go_simp; rfl)); intro gh w5 o_ k_; have O5 : Aside0 (Own N w5 [ZR g2, ZR g4, RM gm a0 0 0, HD gh 64 1099511627776 8]) := ⟨o_⟩; have K5 : Aside0 (KeepS N w w5) := ⟨K4.out.trans k_⟩; clear a0a a0b a0c b0 a1a a1b a1c b1 a2a a2b a2c b2 O4 K4; obtain ⟨a0a, a0b, a0c, b0⟩ := blk3_ (O5.out.blk (i := 0) rfl); obtain ⟨a1a, a1b, a1c, b1⟩ := blk3_ (O5.out.blk (i := 1) rfl); obtain ⟨a2a, a2b, a2c, b2⟩ := blk3_ (O5.out.blk (i := 2) rfl); obtain ⟨a3a, a3b, a3c, b3⟩ := blk3_ (O5.out.blk (i := 3) rfl); clear o_ k_))
 refine wp_loop_rounds 4 ?_
 rw [rounds_succ]
 obtain ⟨v0, p0, e0, hq0⟩ : ∃ v q e, numR a0 0 0 64 = (v, q, e) := ⟨_, _, _, rfl⟩
 have HQ0 := Aside0.mk hq0
 have HPL0 : Aside0 (0 ≤ p0 ∧ p0 ≤ a0.size) := ⟨by have q_ := numR_place a0 0 0 64 (by omega) (by omega); rw [hq0] at q_; exact ⟨q_.1, q_.2.1⟩⟩
 clear hq0
 by_cases he : e0 = 0
 ·subst he
  by_cases hv : v0 = 0
  ·subst hv
   have HH0 : Aside0 (headR a0 0 64 = (0, p0, 1)) := ⟨by unfold headR; rw [HQ0.out]; simp only; rw [if_pos trivial, if_pos trivial]⟩
   have h00 : ((0 : Int) == 0) = true := by decide
   have h0n : ((0 : Int) != 0) = false := by decide
   have h1n : ((1 : Int) != 0) = true := by decide
   go_wp2_with (first | ((with_reducible refine gate_callee (f := 36) rfl ?_); refine goesL_ (some 28) rfl rfl Tryd.func36 (by kernel_rfl) rfl #[.pointer (some ⟨gm, 0, none⟩), .int .i64 64] rfl (by (try simp only [List.map_toArray, List.map_cons, List.map_nil]); first | done | rfl) ?_; obtain ⟨N_, on_, nn_, rr_, bb_⟩ := O5.out.frame1 (i := 2) rfl; refine (rNum (K5.out.below (Nat.le_refl _) (fun k hk => by rw [HN.out]; exact hk)) (Nat.le_of_not_lt (fun q_ => (O5.out.far (i := 2) rfl) (by rw [HN.out]; exact q_))) HSZ.out 64 0 p0 0 HQ0.out on_).mono ?_; rintro e_ w6 ⟨rfl, oo_, kk_⟩; obtain ⟨o_, k_⟩ := bb_ _ _ _ kk_ oo_; refine ⟨_, rfl, ?_⟩; have O6 : Aside0 (Own N w6 [ZR g2, ZR g4, RM gm a0 p0 0, HD gh 64 1099511627776 8]) := ⟨o_⟩; have K6 : Aside0 (KeepS N w w6) := ⟨K5.out.trans k_⟩; clear a0a a0b a0c b0 a1a a1b a1c b1 a2a a2b a2c b2 a3a a3b a3c b3 O5 K5; obtain ⟨a0a, a0b, a0c, b0⟩ := blk3_ (O6.out.blk (i := 0) rfl); obtain ⟨a1a, a1b, a1c, b1⟩ := blk3_ (O6.out.blk (i := 1) rfl); obtain ⟨a2a, a2b, a2c, b2⟩ := blk3_ (O6.out.blk (i := 2) rfl); obtain ⟨a3a, a3b, a3c, b3⟩ := blk3_ (O6.out.blk (i := 3) rfl); clear o_ k_ oo_ kk_ on_ nn_ rr_ bb_) | ((with_reducible refine gate_store (t := 3) (p := 29) rfl ?_); refine own_store rfl rfl rfl (w1 := (World.setCell w6 ⟨gh, 0, none⟩ (.int .i64 0))) (N := N) (l' := [ZR g2, ZR g4, RM gm a0 p0 0, HD gh 0 1099511627776 8]) ?hr ?ho ?hk ?_; (case hr => first | (go_simp; done) | (go_simp; rfl)); (case ho => exact (O6.out.set (i := 3) rfl 0 (.int .i64 0))); (case hk => exact (KeepS.setCell (O6.out.far (i := 3) rfl) (.int .i64 0))); intro w7 o_ k_; have O7 : Aside0 (Own N w7 [ZR g2, ZR g4, RM gm a0 p0 0, HD gh 0 1099511627776 8]) := ⟨o_⟩; have K7 : Aside0 (KeepS N w w7) := ⟨K6.out.trans k_⟩; clear a0a a0b a0c b0 a1a a1b a1c b1 a2a a2b a2c b2 a3a a3b a3c b3 O6 K6; obtain ⟨a0a, a0b, a0c, b0⟩ := blk3_ (O7.out.blk (i := 0) rfl); obtain ⟨a1a, a1b, a1c, b1⟩ := blk3_ (O7.out.blk (i := 1) rfl); obtain ⟨a2a, a2b, a2c, b2⟩ := blk3_ (O7.out.blk (i := 2) rfl); obtain ⟨a3a, a3b, a3c, b3⟩ := blk3_ (O7.out.blk (i := 3) rfl); clear o_ k_) | ((with_reducible refine gate_store (t := 3) (p := 44) rfl ?_); refine own_store rfl rfl rfl (w1 := (World.setCell w7 ⟨gm, 2, none⟩ (.int .i64 1))) (N := N) (l' := [ZR g2, ZR g4, cells gm #[.string a0, .int .i64 p0, .int .i64 1] 70, HD gh 0 1099511627776 8]) ?hr ?ho ?hk ?_; (case hr => first | (go_simp; done) | (go_simp; rfl)); (case ho => exact (O7.out.set (i := 2) rfl 2 (.int .i64 1))); (case hk => exact (KeepS.setCell (O7.out.far (i := 2) rfl) (.int .i64 1))); intro w8 o_ k_; have O8 : Aside0 (Own N w8 [ZR g2, ZR g4, cells gm #[.string a0, .int .i64 p0, .int .i64 1] 70, HD gh 0 1099511627776 8]) := ⟨o_⟩; have K8 : Aside0 (KeepS N w w8) := ⟨K7.out.trans k_⟩; clear a0a a0b a0c b0 a1a a1b a1c b1 a2a a2b a2c b2 a3a a3b a3c b3 O7 K7; obtain ⟨a0a, a0b, a0c, b0⟩ := blk3_ (O8.out.blk (i := 0) rfl); obtain ⟨a1a, a1b, a1c, b1⟩ := blk3_ (O8.out.blk (i := 1) rfl); obtain ⟨a2a, a2b, a2c, b2⟩ := blk3_ (O8.out.blk (i := 2) rfl); obtain ⟨a3a, a3b, a3c, b3⟩ := blk3_ (O8.out.blk (i := 3) rfl); clear o_ k_))
   refine start_ (n := 7) (S := fun w' => w'.cell? ⟨g4, 0, none⟩ = some (.int .i64 0) ∧ w'.cell? ⟨g4, 1, none⟩ = some (.int .i64 0) ∧ w'.cell? ⟨g4, 2, none⟩ = some (.slice none 0 0) ∧ w'.cell? ⟨gm, 2, none⟩ = some (.int .i64 1)) (ds := []) #[false, false, false, false, false, false, false] (by kernel_rfl) rfl rfl ⟨((blk_cell (O8.out.blk (i := 1) rfl) 0).trans rfl), ((blk_cell (O8.out.blk (i := 1) rfl) 1).trans rfl), ((blk_cell (O8.out.blk (i := 1) rfl) 2).trans rfl), ((blk_cell (O8.out.blk (i := 2) rfl) 2).trans rfl)⟩ (fun hHeld => ?_)
   obtain ⟨w9, hw_⟩ : ∃ W, W = w8.drew := ⟨_, rfl⟩
   have o_ := O8.out.drew
   have k_ : KeepS N w8 w8.drew := KeepS.drew
   rw [← hw_] at o_ k_ hHeld ⊢
   clear hw_
   have O9 : Aside0 (Own N w9 [ZR g2, ZR g4, RM gm a0 p0 1, HD gh 0 1099511627776 8]) := ⟨o_⟩
   have K9 : Aside0 (KeepS N w w9) := ⟨K8.out.trans k_⟩
   clear a0a a0b a0c b0 a1a a1b a1c b1 a2a a2b a2c b2 a3a a3b a3c b3 O8 K8
   obtain ⟨a0a, a0b, a0c, b0⟩ := blk3_ (O9.out.blk (i := 0) rfl)
   obtain ⟨a1a, a1b, a1c, b1⟩ := blk3_ (O9.out.blk (i := 1) rfl)
   obtain ⟨a2a, a2b, a2c, b2⟩ := blk3_ (O9.out.blk (i := 2) rfl)
   obtain ⟨a3a, a3b, a3c, b3⟩ := blk3_ (O9.out.blk (i := 3) rfl)
   clear o_ k_
   refine pure_ (i := 1) (N := some 51) (v := ?_) (a' := ?_) #[false, true, false, false, false, false, false] rfl rfl (by kernel_rfl) (fun _ _ _ h => h) (Or.inl ⟨by rfl, ?_⟩) ?_ ?_
   rotate_left
   ·intro w'
    go_simp
    with_reducible rfl
   rotate_left
   ·simp only [Act.put, List.setIfInBounds_toArray, List.set_cons_zero, List.set_cons_succ, i64_w, i32_w]
    rfl
   refine pure_ (i := 2) (N := some 52) (v := ?_) (a' := ?_) #[false, true, true, false, false, false, false] rfl rfl (by kernel_rfl) (fun _ _ _ h => h) (Or.inl ⟨by rfl, ?_⟩) ?_ ?_
   rotate_left
   ·intro w'
    go_simp
    with_reducible rfl
   rotate_left
   ·simp only [Act.put, List.setIfInBounds_toArray, List.set_cons_zero, List.set_cons_succ, i64_w, i32_w]
    rfl
   refine pure_ (i := 3) (N := some 53) (v := ?_) (a' := ?_) #[false, true, true, true, false, false, false] rfl rfl (by kernel_rfl) (fun _ _ _ h => h) (Or.inl ⟨by rfl, ?_⟩) ?_ ?_
   rotate_left
   ·intro w'
    go_simp
    with_reducible rfl
   rotate_left
   ·simp only [Act.put, List.setIfInBounds_toArray, List.set_cons_zero, List.set_cons_succ, i64_w, i32_w]
    rfl
   refine take_ (i := 0) (N := some 50) (v := ?_) (a' := ?_) #[true, true, true, true, false, false, false] rfl rfl (by kernel_rfl) (fun _ _ _ h => h) (Or.inl ⟨by rfl, ?_⟩) hHeld ?_ ?_
   rotate_left
   ·rintro w' ⟨s0, s1, s2, s3⟩
    go_simp
    with_reducible rfl
   rotate_left
   ·simp only [Act.put, List.setIfInBounds_toArray, List.set_cons_zero, List.set_cons_succ, i64_w, i32_w]
    rfl
   refine take_ (i := 4) (N := some 54) (v := ?_) (a' := ?_) #[true, true, true, true, true, false, false] rfl rfl (by kernel_rfl) (fun _ _ _ h => h) (Or.inl ⟨by rfl, ?_⟩) hHeld ?_ ?_
   rotate_left
   ·rintro w' ⟨s0, s1, s2, s3⟩
    go_simp
    with_reducible rfl
   rotate_left
   ·simp only [Act.put, List.setIfInBounds_toArray, List.set_cons_zero, List.set_cons_succ, i64_w, i32_w]
    rfl
   refine one_ (i := 5) (N := none) #[true, true, true, true, true, true, false] rfl rfl (by kernel_rfl) (by decide) (fun K_ hK_ => ?_)
   refine own_store_step rfl rfl (w1 := (World.setCell (World.setCell (World.setCell w9 ⟨g2, 0, none⟩ (.int .i64 0)) ⟨g2, 1, none⟩ (.int .i64 0)) ⟨g2, 2, none⟩ (.slice none 0 0))) (N := N) (l' := [ZR g2, ZR g4, RM gm a0 p0 1, HD gh 0 1099511627776 8]) ?hr ?ho ?hk ?_
   (case hr => first | (go_simp; done) | (go_simp; rfl))
   (case ho => exact (((O9.out.set (i := 0) rfl 0 (.int .i64 0)).set (i := 0) rfl 1 (.int .i64 0)).set (i := 0) rfl 2 (.slice none 0 0)))
   (case hk => exact (((KeepS.setCell (O9.out.far (i := 0) rfl) (.int .i64 0)).trans (KeepS.setCell (O9.out.far (i := 0) rfl) (.int .i64 0))).trans (KeepS.setCell (O9.out.far (i := 0) rfl) (.slice none 0 0))))
   intro w10 o_ k_
   have O10 : Aside0 (Own N w10 [ZR g2, ZR g4, RM gm a0 p0 1, HD gh 0 1099511627776 8]) := ⟨o_⟩
   have K10 : Aside0 (KeepS N w w10) := ⟨K9.out.trans k_⟩
   clear a0a a0b a0c b0 a1a a1b a1c b1 a2a a2b a2c b2 a3a a3b a3c b3 O9 K9
   obtain ⟨a0a, a0b, a0c, b0⟩ := blk3_ (O10.out.blk (i := 0) rfl)
   obtain ⟨a1a, a1b, a1c, b1⟩ := blk3_ (O10.out.blk (i := 1) rfl)
   obtain ⟨a2a, a2b, a2c, b2⟩ := blk3_ (O10.out.blk (i := 2) rfl)
   obtain ⟨a3a, a3b, a3c, b3⟩ := blk3_ (O10.out.blk (i := 3) rfl)
   clear o_ k_
   clear hHeld
   refine hK_.out _ _ ⟨((blk_cell (O10.out.blk (i := 1) rfl) 0).trans rfl), ((blk_cell (O10.out.blk (i := 1) rfl) 1).trans rfl), ((blk_cell (O10.out.blk (i := 1) rfl) 2).trans rfl), ((blk_cell (O10.out.blk (i := 2) rfl) 2).trans rfl)⟩ (fun hHeld => ?_)
   clear hK_ K_
   refine pure_ (i := 6) (N := some 3) (v := ?_) (a' := ?_) #[true, true, true, true, true, true, true] rfl rfl (by kernel_rfl) (fun _ _ _ h => h) (Or.inl ⟨by rfl, ?_⟩) ?_ ?_
   rotate_left
   ·intro w'
    go_simp
    with_reducible rfl
   rotate_left
   ·simp only [Act.put, List.setIfInBounds_toArray, List.set_cons_zero, List.set_cons_succ, i64_w, i32_w]
    rfl
   refine done_ (by kernel_rfl) ?_
   clear hHeld
   go_wp2
   have hgr := HGR.out
   rw [show getR a0 = noR 1 by unfold getR; rw [HH0.out]; exact if_pos (show (1 : Int) ≠ 0 by decide)] at hgr
   unfold noR at hgr
   simp only [Prod.mk.injEq] at hgr
   obtain ⟨rfl, rfl, rfl, rfl⟩ := hgr
   refine bodyPost_ret (results_ct rfl _ _ g2 24 #[.int .i64 0, .int .i64 0, .slice none 0 0] (0, 0) _ rfl (O10.out.blk (i := 0) rfl) Tryd.underlying24 rfl (by kernel_rfl)) rfl ?_
   exact ⟨_, rfl, Kd.R_nil _ _ _ _ _, (K10.out.below (Nat.le_refl _) (fun k hk => by rw [HN.out]; exact hk))⟩
  ·have h00 : ((0 : Int) == 0) = true := by decide
   have h0n : ((0 : Int) != 0) = false := by decide
   have hvb : (v0 == 0) = false := beq_eq_false_iff_ne.2 hv
   have HH0 : Aside0 (headR a0 0 64 = (v0, p0, 0)) := ⟨by unfold headR; rw [HQ0.out]; simp only; rw [if_pos trivial, if_neg hv]⟩
   clear hv
   go_wp2_with (first | ((with_reducible refine gate_callee (f := 36) rfl ?_); refine goesL_ (some 28) rfl rfl Tryd.func36 (by kernel_rfl) rfl #[.pointer (some ⟨gm, 0, none⟩), .int .i64 64] rfl (by (try simp only [List.map_toArray, List.map_cons, List.map_nil]); first | done | rfl) ?_; obtain ⟨N_, on_, nn_, rr_, bb_⟩ := O5.out.frame1 (i := 2) rfl; refine (rNum (K5.out.below (Nat.le_refl _) (fun k hk => by rw [HN.out]; exact hk)) (Nat.le_of_not_lt (fun q_ => (O5.out.far (i := 2) rfl) (by rw [HN.out]; exact q_))) HSZ.out 64 v0 p0 0 HQ0.out on_).mono ?_; rintro e_ w6 ⟨rfl, oo_, kk_⟩; obtain ⟨o_, k_⟩ := bb_ _ _ _ kk_ oo_; refine ⟨_, rfl, ?_⟩; have O6 : Aside0 (Own N w6 [ZR g2, ZR g4, RM gm a0 p0 0, HD gh 64 1099511627776 8]) := ⟨o_⟩; have K6 : Aside0 (KeepS N w w6) := ⟨K5.out.trans k_⟩; clear a0a a0b a0c b0 a1a a1b a1c b1 a2a a2b a2c b2 a3a a3b a3c b3 O5 K5; obtain ⟨a0a, a0b, a0c, b0⟩ := blk3_ (O6.out.blk (i := 0) rfl); obtain ⟨a1a, a1b, a1c, b1⟩ := blk3_ (O6.out.blk (i := 1) rfl); obtain ⟨a2a, a2b, a2c, b2⟩ := blk3_ (O6.out.blk (i := 2) rfl); obtain ⟨a3a, a3b, a3c, b3⟩ := blk3_ (O6.out.blk (i := 3) rfl); clear o_ k_ oo_ kk_ on_ nn_ rr_ bb_) | ((with_reducible refine gate_store (t := 3) (p := 29) rfl ?_); refine own_store rfl rfl rfl (w1 := (World.setCell w6 ⟨gh, 0, none⟩ (.int .i64 v0))) (N := N) (l' := [ZR g2, ZR g4, RM gm a0 p0 0, HD gh v0 1099511627776 8]) ?hr ?ho ?hk ?_; (case hr => first | (go_simp; done) | (go_simp; rfl)); (case ho => exact (O6.out.set (i := 3) rfl 0 (.int .i64 v0))); (case hk => exact (KeepS.setCell (O6.out.far (i := 3) rfl) (.int .i64 v0))); intro w7 o_ k_; have O7 : Aside0 (Own N w7 [ZR g2, ZR g4, RM gm a0 p0 0, HD gh v0 1099511627776 8]) := ⟨o_⟩; have K7 : Aside0 (KeepS N w w7) := ⟨K6.out.trans k_⟩; clear a0a a0b a0c b0 a1a a1b a1c b1 a2a a2b a2c b2 a3a a3b a3c b3 O6 K6; obtain ⟨a0a, a0b, a0c, b0⟩ := blk3_ (O7.out.blk (i := 0) rfl); obtain ⟨a1a, a1b, a1c, b1⟩ := blk3_ (O7.out.blk (i := 1) rfl); obtain ⟨a2a, a2b, a2c, b2⟩ := blk3_ (O7.out.blk (i := 2) rfl); obtain ⟨a3a, a3b, a3c, b3⟩ := blk3_ (O7.out.blk (i := 3) rfl); clear o_ k_))
   rw [rounds_succ]
   obtain ⟨v1, p1, e1, hq1⟩ : ∃ v q e, numR a0 p0 0 1099511627776 = (v, q, e) := ⟨_, _, _, rfl⟩
   have HQ1 := Aside0.mk hq1
   have HPL1 : Aside0 (0 ≤ p1 ∧ p1 ≤ a0.size) := ⟨by have q_ := numR_place a0 p0 0 1099511627776 HPL0.out.1 HPL0.out.2; rw [hq1] at q_; exact ⟨q_.1, q_.2.1⟩⟩
   clear hq1
   by_cases he : e1 = 0
   ·subst he
    by_cases hv : v1 = 0
    ·subst hv
     have HH1 : Aside0 (headR a0 p0 1099511627776 = (0, p1, 1)) := ⟨by unfold headR; rw [HQ1.out]; simp only; rw [if_pos trivial, if_pos trivial]⟩
     have h00 : ((0 : Int) == 0) = true := by decide
     have h0n : ((0 : Int) != 0) = false := by decide
     have h1n : ((1 : Int) != 0) = true := by decide
     go_wp2_with (first | ((with_reducible refine gate_callee (f := 36) rfl ?_); refine goesL_ (some 28) rfl rfl Tryd.func36 (by kernel_rfl) rfl #[.pointer (some ⟨gm, 0, none⟩), .int .i64 1099511627776] rfl (by (try simp only [List.map_toArray, List.map_cons, List.map_nil]); first | done | rfl) ?_; obtain ⟨N_, on_, nn_, rr_, bb_⟩ := O7.out.frame1 (i := 2) rfl; refine (rNum (K7.out.below (Nat.le_refl _) (fun k hk => by rw [HN.out]; exact hk)) (Nat.le_of_not_lt (fun q_ => (O7.out.far (i := 2) rfl) (by rw [HN.out]; exact q_))) HSZ.out 1099511627776 0 p1 0 HQ1.out on_).mono ?_; rintro e_ w8 ⟨rfl, oo_, kk_⟩; obtain ⟨o_, k_⟩ := bb_ _ _ _ kk_ oo_; refine ⟨_, rfl, ?_⟩; have O8 : Aside0 (Own N w8 [ZR g2, ZR g4, RM gm a0 p1 0, HD gh v0 1099511627776 8]) := ⟨o_⟩; have K8 : Aside0 (KeepS N w w8) := ⟨K7.out.trans k_⟩; clear a0a a0b a0c b0 a1a a1b a1c b1 a2a a2b a2c b2 a3a a3b a3c b3 O7 K7; obtain ⟨a0a, a0b, a0c, b0⟩ := blk3_ (O8.out.blk (i := 0) rfl); obtain ⟨a1a, a1b, a1c, b1⟩ := blk3_ (O8.out.blk (i := 1) rfl); obtain ⟨a2a, a2b, a2c, b2⟩ := blk3_ (O8.out.blk (i := 2) rfl); obtain ⟨a3a, a3b, a3c, b3⟩ := blk3_ (O8.out.blk (i := 3) rfl); clear o_ k_ oo_ kk_ on_ nn_ rr_ bb_) | ((with_reducible refine gate_store (t := 3) (p := 29) rfl ?_); refine own_store rfl rfl rfl (w1 := (World.setCell w8 ⟨gh, 1, none⟩ (.int .i64 0))) (N := N) (l' := [ZR g2, ZR g4, RM gm a0 p1 0, HD gh v0 0 8]) ?hr ?ho ?hk ?_; (case hr => first | (go_simp; done) | (go_simp; rfl)); (case ho => exact (O8.out.set (i := 3) rfl 1 (.int .i64 0))); (case hk => exact (KeepS.setCell (O8.out.far (i := 3) rfl) (.int .i64 0))); intro w9 o_ k_; have O9 : Aside0 (Own N w9 [ZR g2, ZR g4, RM gm a0 p1 0, HD gh v0 0 8]) := ⟨o_⟩; have K9 : Aside0 (KeepS N w w9) := ⟨K8.out.trans k_⟩; clear a0a a0b a0c b0 a1a a1b a1c b1 a2a a2b a2c b2 a3a a3b a3c b3 O8 K8; obtain ⟨a0a, a0b, a0c, b0⟩ := blk3_ (O9.out.blk (i := 0) rfl); obtain ⟨a1a, a1b, a1c, b1⟩ := blk3_ (O9.out.blk (i := 1) rfl); obtain ⟨a2a, a2b, a2c, b2⟩ := blk3_ (O9.out.blk (i := 2) rfl); obtain ⟨a3a, a3b, a3c, b3⟩ := blk3_ (O9.out.blk (i := 3) rfl); clear o_ k_) | ((with_reducible refine gate_store (t := 3) (p := 44) rfl ?_); refine own_store rfl rfl rfl (w1 := (World.setCell w9 ⟨gm, 2, none⟩ (.int .i64 1))) (N := N) (l' := [ZR g2, ZR g4, cells gm #[.string a0, .int .i64 p1, .int .i64 1] 70, HD gh v0 0 8]) ?hr ?ho ?hk ?_; (case hr => first | (go_simp; done) | (go_simp; rfl)); (case ho => exact (O9.out.set (i := 2) rfl 2 (.int .i64 1))); (case hk => exact (KeepS.setCell (O9.out.far (i := 2) rfl) (.int .i64 1))); intro w10 o_ k_; have O10 : Aside0 (Own N w10 [ZR g2, ZR g4, cells gm #[.string a0, .int .i64 p1, .int .i64 1] 70, HD gh v0 0 8]) := ⟨o_⟩; have K10 : Aside0 (KeepS N w w10) := ⟨K9.out.trans k_⟩; clear a0a a0b a0c b0 a1a a1b a1c b1 a2a a2b a2c b2 a3a a3b a3c b3 O9 K9; obtain ⟨a0a, a0b, a0c, b0⟩ := blk3_ (O10.out.blk (i := 0) rfl); obtain ⟨a1a, a1b, a1c, b1⟩ := blk3_ (O10.out.blk (i := 1) rfl); obtain ⟨a2a, a2b, a2c, b2⟩ := blk3_ (O10.out.blk (i := 2) rfl); obtain ⟨a3a, a3b, a3c, b3⟩ := blk3_ (O10.out.blk (i := 3) rfl); clear o_ k_))
     refine start_ (n := 7) (S := fun w' => w'.cell? ⟨g4, 0, none⟩ = some (.int .i64 0) ∧ w'.cell? ⟨g4, 1, none⟩ = some (.int .i64 0) ∧ w'.cell? ⟨g4, 2, none⟩ = some (.slice none 0 0) ∧ w'.cell? ⟨gm, 2, none⟩ = some (.int .i64 1)) (ds := []) #[false, false, false, false, false, false, false] (by kernel_rfl) rfl rfl ⟨((blk_cell (O10.out.blk (i := 1) rfl) 0).trans rfl), ((blk_cell (O10.out.blk (i := 1) rfl) 1).trans rfl), ((blk_cell (O10.out.blk (i := 1) rfl) 2).trans rfl), ((blk_cell (O10.out.blk (i := 2) rfl) 2).trans rfl)⟩ (fun hHeld => ?_)
     obtain ⟨w11, hw_⟩ : ∃ W, W = w10.drew := ⟨_, rfl⟩
     have o_ := O10.out.drew
     have k_ : KeepS N w10 w10.drew := KeepS.drew
     rw [← hw_] at o_ k_ hHeld ⊢
     clear hw_
     have O11 : Aside0 (Own N w11 [ZR g2, ZR g4, RM gm a0 p1 1, HD gh v0 0 8]) := ⟨o_⟩
     have K11 : Aside0 (KeepS N w w11) := ⟨K10.out.trans k_⟩
     clear a0a a0b a0c b0 a1a a1b a1c b1 a2a a2b a2c b2 a3a a3b a3c b3 O10 K10
     obtain ⟨a0a, a0b, a0c, b0⟩ := blk3_ (O11.out.blk (i := 0) rfl)
     obtain ⟨a1a, a1b, a1c, b1⟩ := blk3_ (O11.out.blk (i := 1) rfl)
     obtain ⟨a2a, a2b, a2c, b2⟩ := blk3_ (O11.out.blk (i := 2) rfl)
     obtain ⟨a3a, a3b, a3c, b3⟩ := blk3_ (O11.out.blk (i := 3) rfl)
     clear o_ k_
     refine pure_ (i := 1) (N := some 51) (v := ?_) (a' := ?_) #[false, true, false, false, false, false, false] rfl rfl (by kernel_rfl) (fun _ _ _ h => h) (Or.inl ⟨by rfl, ?_⟩) ?_ ?_
     rotate_left
     ·intro w'
      go_simp
      with_reducible rfl
     rotate_left
     ·simp only [Act.put, List.setIfInBounds_toArray, List.set_cons_zero, List.set_cons_succ, i64_w, i32_w]
      rfl
     refine pure_ (i := 2) (N := some 52) (v := ?_) (a' := ?_) #[false, true, true, false, false, false, false] rfl rfl (by kernel_rfl) (fun _ _ _ h => h) (Or.inl ⟨by rfl, ?_⟩) ?_ ?_
     rotate_left
     ·intro w'
      go_simp
      with_reducible rfl
     rotate_left
     ·simp only [Act.put, List.setIfInBounds_toArray, List.set_cons_zero, List.set_cons_succ, i64_w, i32_w]
      rfl
     refine pure_ (i := 3) (N := some 53) (v := ?_) (a' := ?_) #[false, true, true, true, false, false, false] rfl rfl (by kernel_rfl) (fun _ _ _ h => h) (Or.inl ⟨by rfl, ?_⟩) ?_ ?_
     rotate_left
     ·intro w'
      go_simp
      with_reducible rfl
     rotate_left
     ·simp only [Act.put, List.setIfInBounds_toArray, List.set_cons_zero, List.set_cons_succ, i64_w, i32_w]
      rfl
     refine take_ (i := 0) (N := some 50) (v := ?_) (a' := ?_) #[true, true, true, true, false, false, false] rfl rfl (by kernel_rfl) (fun _ _ _ h => h) (Or.inl ⟨by rfl, ?_⟩) hHeld ?_ ?_
     rotate_left
     ·rintro w' ⟨s0, s1, s2, s3⟩
      go_simp
      with_reducible rfl
     rotate_left
     ·simp only [Act.put, List.setIfInBounds_toArray, List.set_cons_zero, List.set_cons_succ, i64_w, i32_w]
      rfl
     refine take_ (i := 4) (N := some 54) (v := ?_) (a' := ?_) #[true, true, true, true, true, false, false] rfl rfl (by kernel_rfl) (fun _ _ _ h => h) (Or.inl ⟨by rfl, ?_⟩) hHeld ?_ ?_
     rotate_left
     ·rintro w' ⟨s0, s1, s2, s3⟩
      go_simp
      with_reducible rfl
     rotate_left
     ·simp only [Act.put, List.setIfInBounds_toArray, List.set_cons_zero, List.set_cons_succ, i64_w, i32_w]
      rfl
     refine one_ (i := 5) (N := none) #[true, true, true, true, true, true, false] rfl rfl (by kernel_rfl) (by decide) (fun K_ hK_ => ?_)
     refine own_store_step rfl rfl (w1 := (World.setCell (World.setCell (World.setCell w11 ⟨g2, 0, none⟩ (.int .i64 0)) ⟨g2, 1, none⟩ (.int .i64 0)) ⟨g2, 2, none⟩ (.slice none 0 0))) (N := N) (l' := [ZR g2, ZR g4, RM gm a0 p1 1, HD gh v0 0 8]) ?hr ?ho ?hk ?_
     (case hr => first | (go_simp; done) | (go_simp; rfl))
     (case ho => exact (((O11.out.set (i := 0) rfl 0 (.int .i64 0)).set (i := 0) rfl 1 (.int .i64 0)).set (i := 0) rfl 2 (.slice none 0 0)))
     (case hk => exact (((KeepS.setCell (O11.out.far (i := 0) rfl) (.int .i64 0)).trans (KeepS.setCell (O11.out.far (i := 0) rfl) (.int .i64 0))).trans (KeepS.setCell (O11.out.far (i := 0) rfl) (.slice none 0 0))))
     intro w12 o_ k_
     have O12 : Aside0 (Own N w12 [ZR g2, ZR g4, RM gm a0 p1 1, HD gh v0 0 8]) := ⟨o_⟩
     have K12 : Aside0 (KeepS N w w12) := ⟨K11.out.trans k_⟩
     clear a0a a0b a0c b0 a1a a1b a1c b1 a2a a2b a2c b2 a3a a3b a3c b3 O11 K11
     obtain ⟨a0a, a0b, a0c, b0⟩ := blk3_ (O12.out.blk (i := 0) rfl)
     obtain ⟨a1a, a1b, a1c, b1⟩ := blk3_ (O12.out.blk (i := 1) rfl)
     obtain ⟨a2a, a2b, a2c, b2⟩ := blk3_ (O12.out.blk (i := 2) rfl)
     obtain ⟨a3a, a3b, a3c, b3⟩ := blk3_ (O12.out.blk (i := 3) rfl)
     clear o_ k_
     clear hHeld
     refine hK_.out _ _ ⟨((blk_cell (O12.out.blk (i := 1) rfl) 0).trans rfl), ((blk_cell (O12.out.blk (i := 1) rfl) 1).trans rfl), ((blk_cell (O12.out.blk (i := 1) rfl) 2).trans rfl), ((blk_cell (O12.out.blk (i := 2) rfl) 2).trans rfl)⟩ (fun hHeld => ?_)
     clear hK_ K_
     refine pure_ (i := 6) (N := some 3) (v := ?_) (a' := ?_) #[true, true, true, true, true, true, true] rfl rfl (by kernel_rfl) (fun _ _ _ h => h) (Or.inl ⟨by rfl, ?_⟩) ?_ ?_
     rotate_left
     ·intro w'
      go_simp
      with_reducible rfl
     rotate_left
     ·simp only [Act.put, List.setIfInBounds_toArray, List.set_cons_zero, List.set_cons_succ, i64_w, i32_w]
      rfl
     refine done_ (by kernel_rfl) ?_
     clear hHeld
     go_wp2
     have hgr := HGR.out
     rw [show getR a0 = noR 1 by unfold getR; rw [HH0.out]; refine (if_neg (fun h_ => h_ rfl)).trans ?_; simp only; unfold getR1; rw [HH1.out]; exact if_pos (show (1 : Int) ≠ 0 by decide)] at hgr
     unfold noR at hgr
     simp only [Prod.mk.injEq] at hgr
     obtain ⟨rfl, rfl, rfl, rfl⟩ := hgr
     refine bodyPost_ret (results_ct rfl _ _ g2 24 #[.int .i64 0, .int .i64 0, .slice none 0 0] (0, 0) _ rfl (O12.out.blk (i := 0) rfl) Tryd.underlying24 rfl (by kernel_rfl)) rfl ?_
     exact ⟨_, rfl, Kd.R_nil _ _ _ _ _, (K12.out.below (Nat.le_refl _) (fun k hk => by rw [HN.out]; exact hk))⟩
    ·have h00 : ((0 : Int) == 0) = true := by decide
     have h0n : ((0 : Int) != 0) = false := by decide
     have hvb : (v1 == 0) = false := beq_eq_false_iff_ne.2 hv
     have HH1 : Aside0 (headR a0 p0 1099511627776 = (v1, p1, 0)) := ⟨by unfold headR; rw [HQ1.out]; simp only; rw [if_pos trivial, if_neg hv]⟩
     clear hv
     go_wp2_with (first | ((with_reducible refine gate_callee (f := 36) rfl ?_); refine goesL_ (some 28) rfl rfl Tryd.func36 (by kernel_rfl) rfl #[.pointer (some ⟨gm, 0, none⟩), .int .i64 1099511627776] rfl (by (try simp only [List.map_toArray, List.map_cons, List.map_nil]); first | done | rfl) ?_; obtain ⟨N_, on_, nn_, rr_, bb_⟩ := O7.out.frame1 (i := 2) rfl; refine (rNum (K7.out.below (Nat.le_refl _) (fun k hk => by rw [HN.out]; exact hk)) (Nat.le_of_not_lt (fun q_ => (O7.out.far (i := 2) rfl) (by rw [HN.out]; exact q_))) HSZ.out 1099511627776 v1 p1 0 HQ1.out on_).mono ?_; rintro e_ w8 ⟨rfl, oo_, kk_⟩; obtain ⟨o_, k_⟩ := bb_ _ _ _ kk_ oo_; refine ⟨_, rfl, ?_⟩; have O8 : Aside0 (Own N w8 [ZR g2, ZR g4, RM gm a0 p1 0, HD gh v0 1099511627776 8]) := ⟨o_⟩; have K8 : Aside0 (KeepS N w w8) := ⟨K7.out.trans k_⟩; clear a0a a0b a0c b0 a1a a1b a1c b1 a2a a2b a2c b2 a3a a3b a3c b3 O7 K7; obtain ⟨a0a, a0b, a0c, b0⟩ := blk3_ (O8.out.blk (i := 0) rfl); obtain ⟨a1a, a1b, a1c, b1⟩ := blk3_ (O8.out.blk (i := 1) rfl); obtain ⟨a2a, a2b, a2c, b2⟩ := blk3_ (O8.out.blk (i := 2) rfl); obtain ⟨a3a, a3b, a3c, b3⟩ := blk3_ (O8.out.blk (i := 3) rfl); clear o_ k_ oo_ kk_ on_ nn_ rr_ bb_) | ((with_reducible refine gate_store (t := 3) (p := 29) rfl ?_); refine own_store rfl rfl rfl (w1 := (World.setCell w8 ⟨gh, 1, none⟩ (.int .i64 v1))) (N := N) (l' := [ZR g2, ZR g4, RM gm a0 p1 0, HD gh v0 v1 8]) ?hr ?ho ?hk ?_; (case hr => first | (go_simp; done) | (go_simp; rfl)); (case ho => exact (O8.out.set (i := 3) rfl 1 (.int .i64 v1))); (case hk => exact (KeepS.setCell (O8.out.far (i := 3) rfl) (.int .i64 v1))); intro w9 o_ k_; have O9 : Aside0 (Own N w9 [ZR g2, ZR g4, RM gm a0 p1 0, HD gh v0 v1 8]) := ⟨o_⟩; have K9 : Aside0 (KeepS N w w9) := ⟨K8.out.trans k_⟩; clear a0a a0b a0c b0 a1a a1b a1c b1 a2a a2b a2c b2 a3a a3b a3c b3 O8 K8; obtain ⟨a0a, a0b, a0c, b0⟩ := blk3_ (O9.out.blk (i := 0) rfl); obtain ⟨a1a, a1b, a1c, b1⟩ := blk3_ (O9.out.blk (i := 1) rfl); obtain ⟨a2a, a2b, a2c, b2⟩ := blk3_ (O9.out.blk (i := 2) rfl); obtain ⟨a3a, a3b, a3c, b3⟩ := blk3_ (O9.out.blk (i := 3) rfl); clear o_ k_))
     rw [rounds_succ]
     obtain ⟨v2, p2, e2, hq2⟩ : ∃ v q e, numR a0 p1 0 8 = (v, q, e) := ⟨_, _, _, rfl⟩
     have HQ2 := Aside0.mk hq2
     have HPL2 : Aside0 (0 ≤ p2 ∧ p2 ≤ a0.size) := ⟨by have q_ := numR_place a0 p1 0 8 HPL1.out.1 HPL1.out.2; rw [hq2] at q_; exact ⟨q_.1, q_.2.1⟩⟩
     clear hq2
     by_cases he : e2 = 0
     ·subst he
      by_cases hv : v2 = 0
      ·subst hv
       have HH2 : Aside0 (headR a0 p1 8 = (0, p2, 1)) := ⟨by unfold headR; rw [HQ2.out]; simp only; rw [if_pos trivial, if_pos trivial]⟩
       have h00 : ((0 : Int) == 0) = true := by decide
       have h0n : ((0 : Int) != 0) = false := by decide
       have h1n : ((1 : Int) != 0) = true := by decide
       go_wp2_with (first | ((with_reducible refine gate_callee (f := 36) rfl ?_); refine goesL_ (some 28) rfl rfl Tryd.func36 (by kernel_rfl) rfl #[.pointer (some ⟨gm, 0, none⟩), .int .i64 8] rfl (by (try simp only [List.map_toArray, List.map_cons, List.map_nil]); first | done | rfl) ?_; obtain ⟨N_, on_, nn_, rr_, bb_⟩ := O9.out.frame1 (i := 2) rfl; refine (rNum (K9.out.below (Nat.le_refl _) (fun k hk => by rw [HN.out]; exact hk)) (Nat.le_of_not_lt (fun q_ => (O9.out.far (i := 2) rfl) (by rw [HN.out]; exact q_))) HSZ.out 8 0 p2 0 HQ2.out on_).mono ?_; rintro e_ w10 ⟨rfl, oo_, kk_⟩; obtain ⟨o_, k_⟩ := bb_ _ _ _ kk_ oo_; refine ⟨_, rfl, ?_⟩; have O10 : Aside0 (Own N w10 [ZR g2, ZR g4, RM gm a0 p2 0, HD gh v0 v1 8]) := ⟨o_⟩; have K10 : Aside0 (KeepS N w w10) := ⟨K9.out.trans k_⟩; clear a0a a0b a0c b0 a1a a1b a1c b1 a2a a2b a2c b2 a3a a3b a3c b3 O9 K9; obtain ⟨a0a, a0b, a0c, b0⟩ := blk3_ (O10.out.blk (i := 0) rfl); obtain ⟨a1a, a1b, a1c, b1⟩ := blk3_ (O10.out.blk (i := 1) rfl); obtain ⟨a2a, a2b, a2c, b2⟩ := blk3_ (O10.out.blk (i := 2) rfl); obtain ⟨a3a, a3b, a3c, b3⟩ := blk3_ (O10.out.blk (i := 3) rfl); clear o_ k_ oo_ kk_ on_ nn_ rr_ bb_) | ((with_reducible refine gate_store (t := 3) (p := 29) rfl ?_); refine own_store rfl rfl rfl (w1 := (World.setCell w10 ⟨gh, 2, none⟩ (.int .i64 0))) (N := N) (l' := [ZR g2, ZR g4, RM gm a0 p2 0, HD gh v0 v1 0]) ?hr ?ho ?hk ?_; (case hr => first | (go_simp; done) | (go_simp; rfl)); (case ho => exact (O10.out.set (i := 3) rfl 2 (.int .i64 0))); (case hk => exact (KeepS.setCell (O10.out.far (i := 3) rfl) (.int .i64 0))); intro w11 o_ k_; have O11 : Aside0 (Own N w11 [ZR g2, ZR g4, RM gm a0 p2 0, HD gh v0 v1 0]) := ⟨o_⟩; have K11 : Aside0 (KeepS N w w11) := ⟨K10.out.trans k_⟩; clear a0a a0b a0c b0 a1a a1b a1c b1 a2a a2b a2c b2 a3a a3b a3c b3 O10 K10; obtain ⟨a0a, a0b, a0c, b0⟩ := blk3_ (O11.out.blk (i := 0) rfl); obtain ⟨a1a, a1b, a1c, b1⟩ := blk3_ (O11.out.blk (i := 1) rfl); obtain ⟨a2a, a2b, a2c, b2⟩ := blk3_ (O11.out.blk (i := 2) rfl); obtain ⟨a3a, a3b, a3c, b3⟩ := blk3_ (O11.out.blk (i := 3) rfl); clear o_ k_) | ((with_reducible refine gate_store (t := 3) (p := 44) rfl ?_); refine own_store rfl rfl rfl (w1 := (World.setCell w11 ⟨gm, 2, none⟩ (.int .i64 1))) (N := N) (l' := [ZR g2, ZR g4, cells gm #[.string a0, .int .i64 p2, .int .i64 1] 70, HD gh v0 v1 0]) ?hr ?ho ?hk ?_; (case hr => first | (go_simp; done) | (go_simp; rfl)); (case ho => exact (O11.out.set (i := 2) rfl 2 (.int .i64 1))); (case hk => exact (KeepS.setCell (O11.out.far (i := 2) rfl) (.int .i64 1))); intro w12 o_ k_; have O12 : Aside0 (Own N w12 [ZR g2, ZR g4, cells gm #[.string a0, .int .i64 p2, .int .i64 1] 70, HD gh v0 v1 0]) := ⟨o_⟩; have K12 : Aside0 (KeepS N w w12) := ⟨K11.out.trans k_⟩; clear a0a a0b a0c b0 a1a a1b a1c b1 a2a a2b a2c b2 a3a a3b a3c b3 O11 K11; obtain ⟨a0a, a0b, a0c, b0⟩ := blk3_ (O12.out.blk (i := 0) rfl); obtain ⟨a1a, a1b, a1c, b1⟩ := blk3_ (O12.out.blk (i := 1) rfl); obtain ⟨a2a, a2b, a2c, b2⟩ := blk3_ (O12.out.blk (i := 2) rfl); obtain ⟨a3a, a3b, a3c, b3⟩ := blk3_ (O12.out.blk (i := 3) rfl); clear o_ k_))
       refine start_ (n := 7) (S := fun w' => w'.cell? ⟨g4, 0, none⟩ = some (.int .i64 0) ∧ w'.cell? ⟨g4, 1, none⟩ = some (.int .i64 0) ∧ w'.cell? ⟨g4, 2, none⟩ = some (.slice none 0 0) ∧ w'.cell? ⟨gm, 2, none⟩ = some (.int .i64 1)) (ds := []) #[false, false, false, false, false, false, false] (by kernel_rfl) rfl rfl ⟨((blk_cell (O12.out.blk (i := 1) rfl) 0).trans rfl), ((blk_cell (O12.out.blk (i := 1) rfl) 1).trans rfl), ((blk_cell (O12.out.blk (i := 1) rfl) 2).trans rfl), ((blk_cell (O12.out.blk (i := 2) rfl) 2).trans rfl)⟩ (fun hHeld => ?_)
       obtain ⟨w13, hw_⟩ : ∃ W, W = w12.drew := ⟨_, rfl⟩
       have o_ := O12.out.drew
       have k_ : KeepS N w12 w12.drew := KeepS.drew
       rw [← hw_] at o_ k_ hHeld ⊢
       clear hw_
       have O13 : Aside0 (Own N w13 [ZR g2, ZR g4, RM gm a0 p2 1, HD gh v0 v1 0]) := ⟨o_⟩
       have K13 : Aside0 (KeepS N w w13) := ⟨K12.out.trans k_⟩
       clear a0a a0b a0c b0 a1a a1b a1c b1 a2a a2b a2c b2 a3a a3b a3c b3 O12 K12
       obtain ⟨a0a, a0b, a0c, b0⟩ := blk3_ (O13.out.blk (i := 0) rfl)
       obtain ⟨a1a, a1b, a1c, b1⟩ := blk3_ (O13.out.blk (i := 1) rfl)
       obtain ⟨a2a, a2b, a2c, b2⟩ := blk3_ (O13.out.blk (i := 2) rfl)
       obtain ⟨a3a, a3b, a3c, b3⟩ := blk3_ (O13.out.blk (i := 3) rfl)
       clear o_ k_
       refine pure_ (i := 1) (N := some 51) (v := ?_) (a' := ?_) #[false, true, false, false, false, false, false] rfl rfl (by kernel_rfl) (fun _ _ _ h => h) (Or.inl ⟨by rfl, ?_⟩) ?_ ?_
       rotate_left
       ·intro w'
        go_simp
        with_reducible rfl
       rotate_left
       ·simp only [Act.put, List.setIfInBounds_toArray, List.set_cons_zero, List.set_cons_succ, i64_w, i32_w]
        rfl
       refine pure_ (i := 2) (N := some 52) (v := ?_) (a' := ?_) #[false, true, true, false, false, false, false] rfl rfl (by kernel_rfl) (fun _ _ _ h => h) (Or.inl ⟨by rfl, ?_⟩) ?_ ?_
       rotate_left
       ·intro w'
        go_simp
        with_reducible rfl
       rotate_left
       ·simp only [Act.put, List.setIfInBounds_toArray, List.set_cons_zero, List.set_cons_succ, i64_w, i32_w]
        rfl
       refine pure_ (i := 3) (N := some 53) (v := ?_) (a' := ?_) #[false, true, true, true, false, false, false] rfl rfl (by kernel_rfl) (fun _ _ _ h => h) (Or.inl ⟨by rfl, ?_⟩) ?_ ?_
       rotate_left
       ·intro w'
        go_simp
        with_reducible rfl
       rotate_left
       ·simp only [Act.put, List.setIfInBounds_toArray, List.set_cons_zero, List.set_cons_succ, i64_w, i32_w]
        rfl
       refine take_ (i := 0) (N := some 50) (v := ?_) (a' := ?_) #[true, true, true, true, false, false, false] rfl rfl (by kernel_rfl) (fun _ _ _ h => h) (Or.inl ⟨by rfl, ?_⟩) hHeld ?_ ?_
       rotate_left
       ·rintro w' ⟨s0, s1, s2, s3⟩
        go_simp
        with_reducible rfl
       rotate_left
       ·simp only [Act.put, List.setIfInBounds_toArray, List.set_cons_zero, List.set_cons_succ, i64_w, i32_w]
        rfl
       refine take_ (i := 4) (N := some 54) (v := ?_) (a' := ?_) #[true, true, true, true, true, false, false] rfl rfl (by kernel_rfl) (fun _ _ _ h => h) (Or.inl ⟨by rfl, ?_⟩) hHeld ?_ ?_
       rotate_left
       ·rintro w' ⟨s0, s1, s2, s3⟩
        go_simp
        with_reducible rfl
       rotate_left
       ·simp only [Act.put, List.setIfInBounds_toArray, List.set_cons_zero, List.set_cons_succ, i64_w, i32_w]
        rfl
       refine one_ (i := 5) (N := none) #[true, true, true, true, true, true, false] rfl rfl (by kernel_rfl) (by decide) (fun K_ hK_ => ?_)
       refine own_store_step rfl rfl (w1 := (World.setCell (World.setCell (World.setCell w13 ⟨g2, 0, none⟩ (.int .i64 0)) ⟨g2, 1, none⟩ (.int .i64 0)) ⟨g2, 2, none⟩ (.slice none 0 0))) (N := N) (l' := [ZR g2, ZR g4, RM gm a0 p2 1, HD gh v0 v1 0]) ?hr ?ho ?hk ?_
       (case hr => first | (go_simp; done) | (go_simp; rfl))
       (case ho => exact (((O13.out.set (i := 0) rfl 0 (.int .i64 0)).set (i := 0) rfl 1 (.int .i64 0)).set (i := 0) rfl 2 (.slice none 0 0)))
       (case hk => exact (((KeepS.setCell (O13.out.far (i := 0) rfl) (.int .i64 0)).trans (KeepS.setCell (O13.out.far (i := 0) rfl) (.int .i64 0))).trans (KeepS.setCell (O13.out.far (i := 0) rfl) (.slice none 0 0))))
       intro w14 o_ k_
       have O14 : Aside0 (Own N w14 [ZR g2, ZR g4, RM gm a0 p2 1, HD gh v0 v1 0]) := ⟨o_⟩
       have K14 : Aside0 (KeepS N w w14) := ⟨K13.out.trans k_⟩
       clear a0a a0b a0c b0 a1a a1b a1c b1 a2a a2b a2c b2 a3a a3b a3c b3 O13 K13
       obtain ⟨a0a, a0b, a0c, b0⟩ := blk3_ (O14.out.blk (i := 0) rfl)
       obtain ⟨a1a, a1b, a1c, b1⟩ := blk3_ (O14.out.blk (i := 1) rfl)
       obtain ⟨a2a, a2b, a2c, b2⟩ := blk3_ (O14.out.blk (i := 2) rfl)
       obtain ⟨a3a, a3b, a3c, b3⟩ := blk3_ (O14.out.blk (i := 3) rfl)
       clear o_ k_
       clear hHeld
       refine hK_.out _ _ ⟨((blk_cell (O14.out.blk (i := 1) rfl) 0).trans rfl), ((blk_cell (O14.out.blk (i := 1) rfl) 1).trans rfl), ((blk_cell (O14.out.blk (i := 1) rfl) 2).trans rfl), ((blk_cell (O14.out.blk (i := 2) rfl) 2).trans rfl)⟩ (fun hHeld => ?_)
       clear hK_ K_
       refine pure_ (i := 6) (N := some 3) (v := ?_) (a' := ?_) #[true, true, true, true, true, true, true] rfl rfl (by kernel_rfl) (fun _ _ _ h => h) (Or.inl ⟨by rfl, ?_⟩) ?_ ?_
       rotate_left
       ·intro w'
        go_simp
        with_reducible rfl
       rotate_left
       ·simp only [Act.put, List.setIfInBounds_toArray, List.set_cons_zero, List.set_cons_succ, i64_w, i32_w]
        rfl
       refine done_ (by kernel_rfl) ?_
       clear hHeld
       go_wp2
       have hgr := HGR.out
       rw [show getR a0 = noR 1 by unfold getR; rw [HH0.out]; refine (if_neg (fun h_ => h_ rfl)).trans ?_; simp only; unfold getR1; rw [HH1.out]; refine (if_neg (fun h_ => h_ rfl)).trans ?_; simp only; unfold getR2; rw [HH2.out]; exact if_pos (show (1 : Int) ≠ 0 by decide)] at hgr
       unfold noR at hgr
       simp only [Prod.mk.injEq] at hgr
       obtain ⟨rfl, rfl, rfl, rfl⟩ := hgr
       refine bodyPost_ret (results_ct rfl _ _ g2 24 #[.int .i64 0, .int .i64 0, .slice none 0 0] (0, 0) _ rfl (O14.out.blk (i := 0) rfl) Tryd.underlying24 rfl (by kernel_rfl)) rfl ?_
       exact ⟨_, rfl, Kd.R_nil _ _ _ _ _, (K14.out.below (Nat.le_refl _) (fun k hk => by rw [HN.out]; exact hk))⟩
      ·have h00 : ((0 : Int) == 0) = true := by decide
       have h0n : ((0 : Int) != 0) = false := by decide
       have hvb : (v2 == 0) = false := beq_eq_false_iff_ne.2 hv
       have HH2 : Aside0 (headR a0 p1 8 = (v2, p2, 0)) := ⟨by unfold headR; rw [HQ2.out]; simp only; rw [if_pos trivial, if_neg hv]⟩
       clear hv
       go_wp2_with (first | ((with_reducible refine gate_callee (f := 36) rfl ?_); refine goesL_ (some 28) rfl rfl Tryd.func36 (by kernel_rfl) rfl #[.pointer (some ⟨gm, 0, none⟩), .int .i64 8] rfl (by (try simp only [List.map_toArray, List.map_cons, List.map_nil]); first | done | rfl) ?_; obtain ⟨N_, on_, nn_, rr_, bb_⟩ := O9.out.frame1 (i := 2) rfl; refine (rNum (K9.out.below (Nat.le_refl _) (fun k hk => by rw [HN.out]; exact hk)) (Nat.le_of_not_lt (fun q_ => (O9.out.far (i := 2) rfl) (by rw [HN.out]; exact q_))) HSZ.out 8 v2 p2 0 HQ2.out on_).mono ?_; rintro e_ w10 ⟨rfl, oo_, kk_⟩; obtain ⟨o_, k_⟩ := bb_ _ _ _ kk_ oo_; refine ⟨_, rfl, ?_⟩; have O10 : Aside0 (Own N w10 [ZR g2, ZR g4, RM gm a0 p2 0, HD gh v0 v1 8]) := ⟨o_⟩; have K10 : Aside0 (KeepS N w w10) := ⟨K9.out.trans k_⟩; clear a0a a0b a0c b0 a1a a1b a1c b1 a2a a2b a2c b2 a3a a3b a3c b3 O9 K9; obtain ⟨a0a, a0b, a0c, b0⟩ := blk3_ (O10.out.blk (i := 0) rfl); obtain ⟨a1a, a1b, a1c, b1⟩ := blk3_ (O10.out.blk (i := 1) rfl); obtain ⟨a2a, a2b, a2c, b2⟩ := blk3_ (O10.out.blk (i := 2) rfl); obtain ⟨a3a, a3b, a3c, b3⟩ := blk3_ (O10.out.blk (i := 3) rfl); clear o_ k_ oo_ kk_ on_ nn_ rr_ bb_) | ((with_reducible refine gate_store (t := 3) (p := 29) rfl ?_); refine own_store rfl rfl rfl (w1 := (World.setCell w10 ⟨gh, 2, none⟩ (.int .i64 v2))) (N := N) (l' := [ZR g2, ZR g4, RM gm a0 p2 0, HD gh v0 v1 v2]) ?hr ?ho ?hk ?_; (case hr => first | (go_simp; done) | (go_simp; rfl)); (case ho => exact (O10.out.set (i := 3) rfl 2 (.int .i64 v2))); (case hk => exact (KeepS.setCell (O10.out.far (i := 3) rfl) (.int .i64 v2))); intro w11 o_ k_; have O11 : Aside0 (Own N w11 [ZR g2, ZR g4, RM gm a0 p2 0, HD gh v0 v1 v2]) := ⟨o_⟩; have K11 : Aside0 (KeepS N w w11) := ⟨K10.out.trans k_⟩; clear a0a a0b a0c b0 a1a a1b a1c b1 a2a a2b a2c b2 a3a a3b a3c b3 O10 K10; obtain ⟨a0a, a0b, a0c, b0⟩ := blk3_ (O11.out.blk (i := 0) rfl); obtain ⟨a1a, a1b, a1c, b1⟩ := blk3_ (O11.out.blk (i := 1) rfl); obtain ⟨a2a, a2b, a2c, b2⟩ := blk3_ (O11.out.blk (i := 2) rfl); obtain ⟨a3a, a3b, a3c, b3⟩ := blk3_ (O11.out.blk (i := 3) rfl); clear o_ k_))
       rw [rounds_succ]
       have HM8 : Aside0 (0 ≤ v2 ∧ v2 ≤ 1099511627776) := ⟨by have q_ := numR_inv (b := a0) (p := p1) (l := 8) (by rw [HQ2.out]); rw [HQ2.out] at q_; have := capR_le 8 (by decide) (by decide); exact ⟨q_.2.2.1, Int.le_trans q_.2.2.2 this⟩⟩
       go_wp2
       refine start_ (n := 9) (S := fun w' => w'.cell? ⟨gh, 0, none⟩ = some (.int .i64 v0) ∧ w'.cell? ⟨gh, 1, none⟩ = some (.int .i64 v1) ∧ w'.cell? ⟨gh, 2, none⟩ = some (.int .i64 v2)) (ds := []) #[false, false, false, false, false, false, false, false, false] (by kernel_rfl) rfl rfl ⟨((blk_cell (O11.out.blk (i := 3) rfl) 0).trans rfl), ((blk_cell (O11.out.blk (i := 3) rfl) 1).trans rfl), ((blk_cell (O11.out.blk (i := 3) rfl) 2).trans rfl)⟩ (fun hHeld => ?_)
       obtain ⟨w12, hw_⟩ : ∃ W, W = w11.drew := ⟨_, rfl⟩
       have o_ := O11.out.drew
       have k_ : KeepS N w11 w11.drew := KeepS.drew
       rw [← hw_] at o_ k_ hHeld ⊢
       clear hw_
       have O12 : Aside0 (Own N w12 [ZR g2, ZR g4, RM gm a0 p2 0, HD gh v0 v1 v2]) := ⟨o_⟩
       have K12 : Aside0 (KeepS N w w12) := ⟨K11.out.trans k_⟩
       clear a0a a0b a0c b0 a1a a1b a1c b1 a2a a2b a2c b2 a3a a3b a3c b3 O11 K11
       obtain ⟨a0a, a0b, a0c, b0⟩ := blk3_ (O12.out.blk (i := 0) rfl)
       obtain ⟨a1a, a1b, a1c, b1⟩ := blk3_ (O12.out.blk (i := 1) rfl)
       obtain ⟨a2a, a2b, a2c, b2⟩ := blk3_ (O12.out.blk (i := 2) rfl)
       obtain ⟨a3a, a3b, a3c, b3⟩ := blk3_ (O12.out.blk (i := 3) rfl)
       clear o_ k_
       refine pure_ (i := 0) (N := some 55) (v := ?_) (a' := ?_) #[true, false, false, false, false, false, false, false, false] rfl rfl (by kernel_rfl) (fun _ _ _ h => h) (Or.inl ⟨by rfl, ?_⟩) ?_ ?_
       rotate_left
       ·intro w'
        go_simp
        with_reducible rfl
       rotate_left
       ·simp only [Act.put, List.setIfInBounds_toArray, List.set_cons_zero, List.set_cons_succ, i64_w, i32_w]
        rfl
       refine pure_ (i := 1) (N := some 56) (v := ?_) (a' := ?_) #[true, true, false, false, false, false, false, false, false] rfl rfl (by kernel_rfl) (fun _ _ _ h => h) (Or.inl ⟨by rfl, ?_⟩) ?_ ?_
       rotate_left
       ·intro w'
        go_simp
        with_reducible rfl
       rotate_left
       ·simp only [Act.put, List.setIfInBounds_toArray, List.set_cons_zero, List.set_cons_succ, i64_w, i32_w]
        rfl
       refine pure_ (i := 3) (N := some 58) (v := ?_) (a' := ?_) #[true, true, false, true, false, false, false, false, false] rfl rfl (by kernel_rfl) (fun _ _ _ h => h) (Or.inl ⟨by rfl, ?_⟩) ?_ ?_
       rotate_left
       ·intro w'
        go_simp
        with_reducible rfl
       rotate_left
       ·simp only [Act.put, List.setIfInBounds_toArray, List.set_cons_zero, List.set_cons_succ, i64_w, i32_w]
        rfl
       refine pure_ (i := 4) (N := some 59) (v := ?_) (a' := ?_) #[true, true, false, true, true, false, false, false, false] rfl rfl (by kernel_rfl) (fun _ _ _ h => h) (Or.inl ⟨by rfl, ?_⟩) ?_ ?_
       rotate_left
       ·intro w'
        go_simp
        with_reducible rfl
       rotate_left
       ·simp only [Act.put, List.setIfInBounds_toArray, List.set_cons_zero, List.set_cons_succ, i64_w, i32_w]
        rfl
       refine take_ (i := 2) (N := some 57) (v := ?_) (a' := ?_) #[true, true, true, true, true, false, false, false, false] rfl rfl (by kernel_rfl) (fun _ _ _ h => h) (Or.inl ⟨by rfl, ?_⟩) hHeld ?_ ?_
       rotate_left
       ·rintro w' ⟨s0, s1, s2⟩
        go_simp
        with_reducible rfl
       rotate_left
       ·simp only [Act.put, List.setIfInBounds_toArray, List.set_cons_zero, List.set_cons_succ, i64_w, i32_w]
        rfl
       refine take_ (i := 5) (N := some 60) (v := ?_) (a' := ?_) #[true, true, true, true, true, true, false, false, false] rfl rfl (by kernel_rfl) (fun _ _ _ h => h) (Or.inl ⟨by rfl, ?_⟩) hHeld ?_ ?_
       rotate_left
       ·rintro w' ⟨s0, s1, s2⟩
        go_simp
        with_reducible rfl
       rotate_left
       ·simp only [Act.put, List.setIfInBounds_toArray, List.set_cons_zero, List.set_cons_succ, i64_w, i32_w]
        rfl
       refine pure_ (i := 6) (N := some 61) (v := ?_) (a' := ?_) #[true, true, true, true, true, true, true, false, false] rfl rfl (by kernel_rfl) (fun _ _ _ h => h) (Or.inl ⟨by rfl, ?_⟩) ?_ ?_
       rotate_left
       ·intro w'
        go_simp
        with_reducible rfl
       rotate_left
       ·simp only [Act.put, List.setIfInBounds_toArray, List.set_cons_zero, List.set_cons_succ, i64_w, i32_w]
        rfl
       refine one_ (i := 7) (N := some 8) #[true, true, true, true, true, true, true, true, false] rfl rfl (by kernel_rfl) (by decide) (fun K_ hK_ => ?_)
       refine own_box_step rfl rfl (cs := #[.int .i64 0, .int .i64 0, .slice none 0 0]) (t := 24) ?hr O12.out ?_
       (case hr => first | (go_simp; done) | (go_simp; rfl))
       intro g8 w13 o_ k_
       have O13 : Aside0 (Own N w13 [ZR g2, ZR g4, RM gm a0 p2 0, HD gh v0 v1 v2, ZR g8]) := ⟨o_⟩
       have K13 : Aside0 (KeepS N w w13) := ⟨K12.out.trans k_⟩
       clear a0a a0b a0c b0 a1a a1b a1c b1 a2a a2b a2c b2 a3a a3b a3c b3 O12 K12
       obtain ⟨a0a, a0b, a0c, b0⟩ := blk3_ (O13.out.blk (i := 0) rfl)
       obtain ⟨a1a, a1b, a1c, b1⟩ := blk3_ (O13.out.blk (i := 1) rfl)
       obtain ⟨a2a, a2b, a2c, b2⟩ := blk3_ (O13.out.blk (i := 2) rfl)
       obtain ⟨a3a, a3b, a3c, b3⟩ := blk3_ (O13.out.blk (i := 3) rfl)
       obtain ⟨a4a, a4b, a4c, b4⟩ := blk3_ (O13.out.blk (i := 4) rfl)
       clear o_ k_
       clear hHeld
       refine hK_.out _ _ ⟨((blk_cell (O13.out.blk (i := 3) rfl) 0).trans rfl), ((blk_cell (O13.out.blk (i := 3) rfl) 1).trans rfl), ((blk_cell (O13.out.blk (i := 3) rfl) 2).trans rfl)⟩ (fun hHeld => ?_)
       clear hK_ K_
       refine norm_ (a' := ?_) ?_ ?_
       rotate_left
       ·simp only [Act.put, List.setIfInBounds_toArray, List.set_cons_zero, List.set_cons_succ, i64_w, i32_w]
        rfl
       refine one_ (i := 8) (N := none) #[true, true, true, true, true, true, true, true, true] rfl rfl (by kernel_rfl) (by decide) (fun K_ hK_ => ?_)
       refine own_store_step rfl rfl (w1 := (World.setCell (World.setCell (World.setCell w13 ⟨g8, 0, none⟩ (.int .i64 v0)) ⟨g8, 1, none⟩ (.int .i64 v1)) ⟨g8, 2, none⟩ (.slice none 0 0))) (N := N) (l' := [ZR g2, ZR g4, RM gm a0 p2 0, HD gh v0 v1 v2, cells g8 #[.int .i64 v0, .int .i64 v1, .slice none 0 0] 24]) ?hr ?ho ?hk ?_
       (case hr => first | (go_simp; done) | (go_simp; rfl))
       (case ho => exact (((O13.out.set (i := 4) rfl 0 (.int .i64 v0)).set (i := 4) rfl 1 (.int .i64 v1)).set (i := 4) rfl 2 (.slice none 0 0)))
       (case hk => exact (((KeepS.setCell (O13.out.far (i := 4) rfl) (.int .i64 v0)).trans (KeepS.setCell (O13.out.far (i := 4) rfl) (.int .i64 v1))).trans (KeepS.setCell (O13.out.far (i := 4) rfl) (.slice none 0 0))))
       intro w14 o_ k_
       have O14 : Aside0 (Own N w14 [ZR g2, ZR g4, RM gm a0 p2 0, HD gh v0 v1 v2, cells g8 #[.int .i64 v0, .int .i64 v1, .slice none 0 0] 24]) := ⟨o_⟩
       have K14 : Aside0 (KeepS N w w14) := ⟨K13.out.trans k_⟩
       clear a0a a0b a0c b0 a1a a1b a1c b1 a2a a2b a2c b2 a3a a3b a3c b3 a4a a4b a4c b4 O13 K13
       obtain ⟨a0a, a0b, a0c, b0⟩ := blk3_ (O14.out.blk (i := 0) rfl)
       obtain ⟨a1a, a1b, a1c, b1⟩ := blk3_ (O14.out.blk (i := 1) rfl)
       obtain ⟨a2a, a2b, a2c, b2⟩ := blk3_ (O14.out.blk (i := 2) rfl)
       obtain ⟨a3a, a3b, a3c, b3⟩ := blk3_ (O14.out.blk (i := 3) rfl)
       obtain ⟨a4a, a4b, a4c, b4⟩ := blk3_ (O14.out.blk (i := 4) rfl)
       clear o_ k_
       clear hHeld
       refine hK_.out _ _ ⟨((blk_cell (O14.out.blk (i := 3) rfl) 0).trans rfl), ((blk_cell (O14.out.blk (i := 3) rfl) 1).trans rfl), ((blk_cell (O14.out.blk (i := 3) rfl) 2).trans rfl)⟩ (fun hHeld => ?_)
       clear hK_ K_
       refine done_ (by kernel_rfl) ?_
       clear hHeld
       have O14x : Aside0 (Own N w14 [ZR g2, ZR g4, RM gm a0 p2 0, HD gh v0 v1 v2, cells g8 #[.int .i64 v0, .int .i64 v1, .slice none 0 0] 24, nrow k47 47 (.slice none 0 0) []]) := ⟨O14.out.push_emp (nrow k47 47 (.slice none 0 0) []) (fun w => Kd.N_nil _ _ _ _ _)⟩
       go_wp2
       go_loopw [9] (fun i wr => GtI N w a0 v0 v1 v2 p2 g2 g4 gm gh g8 i wr) (fun i _ => v2.toNat - (intOf i).toNat)
       case atStart => exact ⟨0, p2, [], none, 0, by omega, HM8.out.1, rfl, ⟨rfl, rfl⟩, HPL2, O14x, K14⟩
       case round =>
        clear a0a a0b a0c b0 a1a a1b a1c b1 a2a a2b a2c b2 a3a a3b a3c b3 a4a a4b a4c b4
        obtain ⟨x, p, l, A5, c5, hx0, hx1, rfl, HI, HP, OA, KA⟩ := hrel
        have hm8 := HM8.out
        by_cases hlt : x < v2
        ·have hd : decide (x < v2) = true := decide_eq_true hlt
         have hs2 : wrap64 (x + 1) = x + 1 := by unfold wrap64; omega
         have HX := Aside0.mk (And.intro hx0 hlt)
         obtain ⟨u0, u1, u2, u3, p3, e3, hq⟩ : ∃ u0 u1 u2 u3 p3 e3, readU a0 p 0 = (u0, u1, u2, u3, p3, e3) := ⟨_, _, _, _, _, _, rfl⟩
         have HQ : Aside0 (outU a0 (readU a0 p 0) = (u0, u1, u2, u3, a0, p3, e3)) := ⟨by rw [hq]; rfl⟩
         have HRU := Aside0.mk hq
         have HP3 : Aside0 (0 ≤ p3 ∧ p3 ≤ a0.size) := ⟨by have q_ := readU_placeG a0 p 0 HP.out.1 HP.out.2; rw [hq] at q_; exact q_⟩
         clear hq hx0 hx1 hlt
         have O15 : Aside0 (Own N wr [ZR g2, ZR g4, RM gm a0 p 0, HD gh v0 v1 v2, cells g8 #[.int .i64 v0, .int .i64 v1, .slice A5 l.length c5] 24, nrow k47 47 (.slice A5 l.length c5) l]) := ⟨OA.out⟩
         have K15 : Aside0 (KeepS N w wr) := ⟨KA.out⟩
         obtain ⟨a0a, a0b, a0c, b0⟩ := blk3_ (O15.out.blk (i := 0) rfl)
         obtain ⟨a1a, a1b, a1c, b1⟩ := blk3_ (O15.out.blk (i := 1) rfl)
         obtain ⟨a2a, a2b, a2c, b2⟩ := blk3_ (O15.out.blk (i := 2) rfl)
         obtain ⟨a3a, a3b, a3c, b3⟩ := blk3_ (O15.out.blk (i := 3) rfl)
         obtain ⟨a4a, a4b, a4c, b4⟩ := blk3_ (O15.out.blk (i := 4) rfl)
         clear OA KA
         by_cases he : e3 = 0
         ·subst he
          have h0n : ((0 : Int) != 0) = false := by decide
          have hm8 := HM8.out
          have HL : Aside0 ((l.length + 1) * 48 ≤ 140737488355328) := ⟨by have := HI.out.1; have := HX.out; omega⟩
          clear hm8
          go_wp2_with (first | ((with_reducible refine gate_callee (f := 37) rfl ?_); refine goesL_ (some 70) rfl rfl Tryd.func37 (by kernel_rfl) rfl #[.pointer (some ⟨gm, 0, none⟩)] rfl (by (try simp only [List.map_toArray, List.map_cons, List.map_nil]); first | done | rfl) ?_; obtain ⟨N_, on_, nn_, rr_, bb_⟩ := O15.out.frame1 (i := 2) rfl; refine (rUpd (K15.out.below (Nat.le_refl _) (fun k hk => by rw [HN.out]; exact hk)) (Nat.le_of_not_lt (fun q_ => (O15.out.far (i := 2) rfl) (by rw [HN.out]; exact q_))) HSZ.out HP.out.1 HP.out.2 u0 u1 u2 u3 p3 0 HQ.out on_).mono ?_; rintro e_ w16 ⟨rfl, oo_, kk_⟩; obtain ⟨o_, k_⟩ := bb_ _ _ _ kk_ oo_; refine ⟨_, rfl, ?_⟩; have O16 : Aside0 (Own N w16 [ZR g2, ZR g4, RM gm a0 p3 0, HD gh v0 v1 v2, cells g8 #[.int .i64 v0, .int .i64 v1, .slice A5 l.length c5] 24, nrow k47 47 (.slice A5 l.length c5) l]) := ⟨o_⟩; have K16 : Aside0 (KeepS N w w16) := ⟨K15.out.trans k_⟩; clear a0a a0b a0c b0 a1a a1b a1c b1 a2a a2b a2c b2 a3a a3b a3c b3 a4a a4b a4c b4 O15 K15; obtain ⟨a0a, a0b, a0c, b0⟩ := blk3_ (O16.out.blk (i := 0) rfl); obtain ⟨a1a, a1b, a1c, b1⟩ := blk3_ (O16.out.blk (i := 1) rfl); obtain ⟨a2a, a2b, a2c, b2⟩ := blk3_ (O16.out.blk (i := 2) rfl); obtain ⟨a3a, a3b, a3c, b3⟩ := blk3_ (O16.out.blk (i := 3) rfl); obtain ⟨a4a, a4b, a4c, b4⟩ := blk3_ (O16.out.blk (i := 4) rfl); clear o_ k_ oo_ kk_ on_ nn_ rr_ bb_) | ((with_reducible refine gate_dst (N := 10) rfl ?_); refine own_box rfl (D := 10) rfl (cs := #[.string (⟨#[]⟩ : ByteArray), .int .i64 0, .int .i64 0, .string (⟨#[]⟩ : ByteArray)]) (t := 47) ?hr O16.out ?_; (case hr => first | (go_simp; done) | (go_simp; rfl)); intro gu w17 o_ k_; have O17 : Aside0 (Own N w17 [ZR g2, ZR g4, RM gm a0 p3 0, HD gh v0 v1 v2, cells g8 #[.int .i64 v0, .int .i64 v1, .slice A5 l.length c5] 24, nrow k47 47 (.slice A5 l.length c5) l, cells gu #[.string (⟨#[]⟩ : ByteArray), .int .i64 0, .int .i64 0, .string (⟨#[]⟩ : ByteArray)] 47]) := ⟨o_⟩; have K17 : Aside0 (KeepS N w w17) := ⟨K16.out.trans k_⟩; clear a0a a0b a0c b0 a1a a1b a1c b1 a2a a2b a2c b2 a3a a3b a3c b3 a4a a4b a4c b4 O16 K16; obtain ⟨a0a, a0b, a0c, b0⟩ := blk3_ (O17.out.blk (i := 0) rfl); obtain ⟨a1a, a1b, a1c, b1⟩ := blk3_ (O17.out.blk (i := 1) rfl); obtain ⟨a2a, a2b, a2c, b2⟩ := blk3_ (O17.out.blk (i := 2) rfl); obtain ⟨a3a, a3b, a3c, b3⟩ := blk3_ (O17.out.blk (i := 3) rfl); obtain ⟨a4a, a4b, a4c, b4⟩ := blk3_ (O17.out.blk (i := 4) rfl); obtain ⟨a6a, a6b, a6c, a6d, b6⟩ := blk4_ (O17.out.blk (i := 6) rfl); clear o_ k_) | ((with_reducible refine gate_store (t := 47) (p := 10) rfl ?_); refine own_store rfl rfl rfl (w1 := (World.setCell (World.setCell (World.setCell (World.setCell w17 ⟨gu, 0, none⟩ (.string u0)) ⟨gu, 1, none⟩ (.int .i64 u1)) ⟨gu, 2, none⟩ (.int .i64 u2)) ⟨gu, 3, none⟩ (.string u3))) (N := N) (l' := [ZR g2, ZR g4, RM gm a0 p3 0, HD gh v0 v1 v2, cells g8 #[.int .i64 v0, .int .i64 v1, .slice A5 l.length c5] 24, nrow k47 47 (.slice A5 l.length c5) l, cells gu #[.string u0, .int .i64 u1, .int .i64 u2, .string u3] 47]) ?hr ?ho ?hk ?_; (case hr => first | (go_simp; done) | (go_simp; rfl)); (case ho => exact ((((O17.out.set (i := 6) rfl 0 (.string u0)).set (i := 6) rfl 1 (.int .i64 u1)).set (i := 6) rfl 2 (.int .i64 u2)).set (i := 6) rfl 3 (.string u3))); (case hk => exact ((((KeepS.setCell (O17.out.far (i := 6) rfl) (.string u0)).trans (KeepS.setCell (O17.out.far (i := 6) rfl) (.int .i64 u1))).trans (KeepS.setCell (O17.out.far (i := 6) rfl) (.int .i64 u2))).trans (KeepS.setCell (O17.out.far (i := 6) rfl) (.string u3)))); intro w18 o_ k_; have O18 : Aside0 (Own N w18 [ZR g2, ZR g4, RM gm a0 p3 0, HD gh v0 v1 v2, cells g8 #[.int .i64 v0, .int .i64 v1, .slice A5 l.length c5] 24, nrow k47 47 (.slice A5 l.length c5) l, cells gu #[.string u0, .int .i64 u1, .int .i64 u2, .string u3] 47]) := ⟨o_⟩; have K18 : Aside0 (KeepS N w w18) := ⟨K17.out.trans k_⟩; clear a0a a0b a0c b0 a1a a1b a1c b1 a2a a2b a2c b2 a3a a3b a3c b3 a4a a4b a4c b4 a6a a6b a6c a6d b6 O17 K17; obtain ⟨a0a, a0b, a0c, b0⟩ := blk3_ (O18.out.blk (i := 0) rfl); obtain ⟨a1a, a1b, a1c, b1⟩ := blk3_ (O18.out.blk (i := 1) rfl); obtain ⟨a2a, a2b, a2c, b2⟩ := blk3_ (O18.out.blk (i := 2) rfl); obtain ⟨a3a, a3b, a3c, b3⟩ := blk3_ (O18.out.blk (i := 3) rfl); obtain ⟨a4a, a4b, a4c, b4⟩ := blk3_ (O18.out.blk (i := 4) rfl); obtain ⟨a6a, a6b, a6c, a6d, b6⟩ := blk4_ (O18.out.blk (i := 6) rfl); clear o_ k_; have O19 : Aside0 (Own N w18 [ZR g2, ZR g4, RM gm a0 p3 0, HD gh v0 v1 v2, cells g8 #[.int .i64 v0, .int .i64 v1, .slice A5 l.length c5] 24, nrow k47 47 (.slice A5 l.length c5) l, cells gu #[.string u0, .int .i64 u1, .int .i64 u2, .string u3] 47, elt k47 (⟨u0, u1, u2, u3⟩ : S47) [.string u0, .int .i64 u1, .int .i64 u2, .string u3]]) := ⟨O18.out.push_emp (elt k47 (⟨u0, u1, u2, u3⟩ : S47) [.string u0, .int .i64 u1, .int .i64 u2, .string u3]) (fun w W' _ => k47_mk W' (⟨u0, u1, u2, u3⟩ : S47))⟩; clear O18) | ((with_reducible refine gate_builtin (b := .append) (xs := #[.tmp 82, .tmp 84]) rfl ?_); at_builtin; refine Own.append k47 O19.out (i := 5) (j := 7) rfl rfl (by decide) rfl (.tmp 82) (.tmp 84) 22 (.agg #[.string ⟨#[]⟩, .int .i64 0, .int .i64 0, .string ⟨#[]⟩]) 48 rfl Tryd.underlying22 infoG rfl (by decide) (by decide) rfl rfl (HL.out) ?_; intro A6 c6 w20 o_ k_; have O20 : Aside0 (Own N w20 [ZR g2, ZR g4, RM gm a0 p3 0, HD gh v0 v1 v2, cells g8 #[.int .i64 v0, .int .i64 v1, .slice A5 l.length c5] 24, nrow k47 47 (.slice A6 ((l).length + 1) c6) ((l) ++ [(⟨u0, u1, u2, u3⟩ : S47)]), cells gu #[.string u0, .int .i64 u1, .int .i64 u2, .string u3] 47, emp]) := ⟨o_⟩; have K20 : Aside0 (KeepS N w w20) := ⟨K18.out.trans k_⟩; clear a0a a0b a0c b0 a1a a1b a1c b1 a2a a2b a2c b2 a3a a3b a3c b3 a4a a4b a4c b4 a6a a6b a6c a6d b6 O19 K18; obtain ⟨a0a, a0b, a0c, b0⟩ := blk3_ (O20.out.blk (i := 0) rfl); obtain ⟨a1a, a1b, a1c, b1⟩ := blk3_ (O20.out.blk (i := 1) rfl); obtain ⟨a2a, a2b, a2c, b2⟩ := blk3_ (O20.out.blk (i := 2) rfl); obtain ⟨a3a, a3b, a3c, b3⟩ := blk3_ (O20.out.blk (i := 3) rfl); obtain ⟨a4a, a4b, a4c, b4⟩ := blk3_ (O20.out.blk (i := 4) rfl); obtain ⟨a6a, a6b, a6c, a6d, b6⟩ := blk4_ (O20.out.blk (i := 6) rfl); clear o_ k_) | ((with_reducible refine gate_store (t := 22) (p := 86) rfl ?_); refine own_store rfl rfl rfl (w1 := (World.setCell w20 ⟨g8, 2, none⟩ (.slice A6 (l.length + 1) c6))) (N := N) (l' := [ZR g2, ZR g4, RM gm a0 p3 0, HD gh v0 v1 v2, cells g8 #[.int .i64 v0, .int .i64 v1, .slice A6 (l.length + 1) c6] 24, nrow k47 47 (.slice A6 ((l).length + 1) c6) ((l) ++ [(⟨u0, u1, u2, u3⟩ : S47)]), cells gu #[.string u0, .int .i64 u1, .int .i64 u2, .string u3] 47, emp]) ?hr ?ho ?hk ?_; (case hr => first | (go_simp; done) | (go_simp; rfl)); (case ho => exact (O20.out.set (i := 4) rfl 2 (.slice A6 (l.length + 1) c6))); (case hk => exact (KeepS.setCell (O20.out.far (i := 4) rfl) (.slice A6 (l.length + 1) c6))); intro w21 o_ k_; have O21 : Aside0 (Own N w21 [ZR g2, ZR g4, RM gm a0 p3 0, HD gh v0 v1 v2, cells g8 #[.int .i64 v0, .int .i64 v1, .slice A6 (l.length + 1) c6] 24, nrow k47 47 (.slice A6 ((l).length + 1) c6) ((l) ++ [(⟨u0, u1, u2, u3⟩ : S47)]), cells gu #[.string u0, .int .i64 u1, .int .i64 u2, .string u3] 47, emp]) := ⟨o_⟩; have K21 : Aside0 (KeepS N w w21) := ⟨K20.out.trans k_⟩; clear a0a a0b a0c b0 a1a a1b a1c b1 a2a a2b a2c b2 a3a a3b a3c b3 a4a a4b a4c b4 a6a a6b a6c a6d b6 O20 K20; obtain ⟨a0a, a0b, a0c, b0⟩ := blk3_ (O21.out.blk (i := 0) rfl); obtain ⟨a1a, a1b, a1c, b1⟩ := blk3_ (O21.out.blk (i := 1) rfl); obtain ⟨a2a, a2b, a2c, b2⟩ := blk3_ (O21.out.blk (i := 2) rfl); obtain ⟨a3a, a3b, a3c, b3⟩ := blk3_ (O21.out.blk (i := 3) rfl); obtain ⟨a4a, a4b, a4c, b4⟩ := blk3_ (O21.out.blk (i := 4) rfl); obtain ⟨a6a, a6b, a6c, a6d, b6⟩ := blk4_ (O21.out.blk (i := 6) rfl); clear o_ k_))
          go_roundw
          case rel => exact ⟨x + 1, p3, l ++ [⟨u0, u1, u2, u3⟩], A6, c6, by have := HX.out; omega, by have := HX.out; omega, int_eqG (by unfold wrap64; have := HX.out; have := HM8.out; omega), ⟨by rw [List.length_append, HI.out.1, List.length_singleton]; have := HX.out; omega, by have q_ := ups_s (by have := HX.out; omega) HI.out.2 (by rw [HRU.out]); unfold updR at q_; rw [HRU.out] at q_; rw [show (x + 1).toNat = x.toNat + 1 by have := HX.out; omega]; exact q_⟩, HP3, ⟨by rw [List.length_append, List.length_singleton]; exact O21.out.take 6⟩, K21⟩
          case measure => have := HX.out; simp [intOf]; omega
         ·have hen : (e3 != 0) = true := bne_iff_ne.2 he
          have HE := Aside0.mk he
          clear he hm8
          go_wp2_with (first | ((with_reducible refine gate_callee (f := 37) rfl ?_); refine goesL_ (some 70) rfl rfl Tryd.func37 (by kernel_rfl) rfl #[.pointer (some ⟨gm, 0, none⟩)] rfl (by (try simp only [List.map_toArray, List.map_cons, List.map_nil]); first | done | rfl) ?_; obtain ⟨N_, on_, nn_, rr_, bb_⟩ := O15.out.frame1 (i := 2) rfl; refine (rUpd (K15.out.below (Nat.le_refl _) (fun k hk => by rw [HN.out]; exact hk)) (Nat.le_of_not_lt (fun q_ => (O15.out.far (i := 2) rfl) (by rw [HN.out]; exact q_))) HSZ.out HP.out.1 HP.out.2 u0 u1 u2 u3 p3 e3 HQ.out on_).mono ?_; rintro e_ w16 ⟨rfl, oo_, kk_⟩; obtain ⟨o_, k_⟩ := bb_ _ _ _ kk_ oo_; refine ⟨_, rfl, ?_⟩; have O16 : Aside0 (Own N w16 [ZR g2, ZR g4, RM gm a0 p3 e3, HD gh v0 v1 v2, cells g8 #[.int .i64 v0, .int .i64 v1, .slice A5 l.length c5] 24, nrow k47 47 (.slice A5 l.length c5) l]) := ⟨o_⟩; have K16 : Aside0 (KeepS N w w16) := ⟨K15.out.trans k_⟩; clear a0a a0b a0c b0 a1a a1b a1c b1 a2a a2b a2c b2 a3a a3b a3c b3 a4a a4b a4c b4 O15 K15; obtain ⟨a0a, a0b, a0c, b0⟩ := blk3_ (O16.out.blk (i := 0) rfl); obtain ⟨a1a, a1b, a1c, b1⟩ := blk3_ (O16.out.blk (i := 1) rfl); obtain ⟨a2a, a2b, a2c, b2⟩ := blk3_ (O16.out.blk (i := 2) rfl); obtain ⟨a3a, a3b, a3c, b3⟩ := blk3_ (O16.out.blk (i := 3) rfl); obtain ⟨a4a, a4b, a4c, b4⟩ := blk3_ (O16.out.blk (i := 4) rfl); clear o_ k_ oo_ kk_ on_ nn_ rr_ bb_) | ((with_reducible refine gate_dst (N := 10) rfl ?_); refine own_box rfl (D := 10) rfl (cs := #[.string (⟨#[]⟩ : ByteArray), .int .i64 0, .int .i64 0, .string (⟨#[]⟩ : ByteArray)]) (t := 47) ?hr O16.out ?_; (case hr => first | (go_simp; done) | (go_simp; rfl)); intro gu w17 o_ k_; have O17 : Aside0 (Own N w17 [ZR g2, ZR g4, RM gm a0 p3 e3, HD gh v0 v1 v2, cells g8 #[.int .i64 v0, .int .i64 v1, .slice A5 l.length c5] 24, nrow k47 47 (.slice A5 l.length c5) l, cells gu #[.string (⟨#[]⟩ : ByteArray), .int .i64 0, .int .i64 0, .string (⟨#[]⟩ : ByteArray)] 47]) := ⟨o_⟩; have K17 : Aside0 (KeepS N w w17) := ⟨K16.out.trans k_⟩; clear a0a a0b a0c b0 a1a a1b a1c b1 a2a a2b a2c b2 a3a a3b a3c b3 a4a a4b a4c b4 O16 K16; obtain ⟨a0a, a0b, a0c, b0⟩ := blk3_ (O17.out.blk (i := 0) rfl); obtain ⟨a1a, a1b, a1c, b1⟩ := blk3_ (O17.out.blk (i := 1) rfl); obtain ⟨a2a, a2b, a2c, b2⟩ := blk3_ (O17.out.blk (i := 2) rfl); obtain ⟨a3a, a3b, a3c, b3⟩ := blk3_ (O17.out.blk (i := 3) rfl); obtain ⟨a4a, a4b, a4c, b4⟩ := blk3_ (O17.out.blk (i := 4) rfl); obtain ⟨a6a, a6b, a6c, a6d, b6⟩ := blk4_ (O17.out.blk (i := 6) rfl); clear o_ k_) | ((with_reducible refine gate_store (t := 47) (p := 10) rfl ?_); refine own_store rfl rfl rfl (w1 := (World.setCell (World.setCell (World.setCell (World.setCell w17 ⟨gu, 0, none⟩ (.string u0)) ⟨gu, 1, none⟩ (.int .i64 u1)) ⟨gu, 2, none⟩ (.int .i64 u2)) ⟨gu, 3, none⟩ (.string u3))) (N := N) (l' := [ZR g2, ZR g4, RM gm a0 p3 e3, HD gh v0 v1 v2, cells g8 #[.int .i64 v0, .int .i64 v1, .slice A5 l.length c5] 24, nrow k47 47 (.slice A5 l.length c5) l, cells gu #[.string u0, .int .i64 u1, .int .i64 u2, .string u3] 47]) ?hr ?ho ?hk ?_; (case hr => first | (go_simp; done) | (go_simp; rfl)); (case ho => exact ((((O17.out.set (i := 6) rfl 0 (.string u0)).set (i := 6) rfl 1 (.int .i64 u1)).set (i := 6) rfl 2 (.int .i64 u2)).set (i := 6) rfl 3 (.string u3))); (case hk => exact ((((KeepS.setCell (O17.out.far (i := 6) rfl) (.string u0)).trans (KeepS.setCell (O17.out.far (i := 6) rfl) (.int .i64 u1))).trans (KeepS.setCell (O17.out.far (i := 6) rfl) (.int .i64 u2))).trans (KeepS.setCell (O17.out.far (i := 6) rfl) (.string u3)))); intro w18 o_ k_; have O18 : Aside0 (Own N w18 [ZR g2, ZR g4, RM gm a0 p3 e3, HD gh v0 v1 v2, cells g8 #[.int .i64 v0, .int .i64 v1, .slice A5 l.length c5] 24, nrow k47 47 (.slice A5 l.length c5) l, cells gu #[.string u0, .int .i64 u1, .int .i64 u2, .string u3] 47]) := ⟨o_⟩; have K18 : Aside0 (KeepS N w w18) := ⟨K17.out.trans k_⟩; clear a0a a0b a0c b0 a1a a1b a1c b1 a2a a2b a2c b2 a3a a3b a3c b3 a4a a4b a4c b4 a6a a6b a6c a6d b6 O17 K17; obtain ⟨a0a, a0b, a0c, b0⟩ := blk3_ (O18.out.blk (i := 0) rfl); obtain ⟨a1a, a1b, a1c, b1⟩ := blk3_ (O18.out.blk (i := 1) rfl); obtain ⟨a2a, a2b, a2c, b2⟩ := blk3_ (O18.out.blk (i := 2) rfl); obtain ⟨a3a, a3b, a3c, b3⟩ := blk3_ (O18.out.blk (i := 3) rfl); obtain ⟨a4a, a4b, a4c, b4⟩ := blk3_ (O18.out.blk (i := 4) rfl); obtain ⟨a6a, a6b, a6c, a6d, b6⟩ := blk4_ (O18.out.blk (i := 6) rfl); clear o_ k_))
          refine start_ (n := 7) (S := fun w' => w'.cell? ⟨g4, 0, none⟩ = some (.int .i64 0) ∧ w'.cell? ⟨g4, 1, none⟩ = some (.int .i64 0) ∧ w'.cell? ⟨g4, 2, none⟩ = some (.slice none 0 0) ∧ w'.cell? ⟨gm, 2, none⟩ = some (.int .i64 e3)) (ds := []) #[false, false, false, false, false, false, false] (by kernel_rfl) rfl rfl ⟨((blk_cell (O18.out.blk (i := 1) rfl) 0).trans rfl), ((blk_cell (O18.out.blk (i := 1) rfl) 1).trans rfl), ((blk_cell (O18.out.blk (i := 1) rfl) 2).trans rfl), ((blk_cell (O18.out.blk (i := 2) rfl) 2).trans rfl)⟩ (fun hHeld => ?_)
          obtain ⟨w19, hw_⟩ : ∃ W, W = w18.drew := ⟨_, rfl⟩
          have o_ := O18.out.drew
          have k_ : KeepS N w18 w18.drew := KeepS.drew
          rw [← hw_] at o_ k_ hHeld ⊢
          clear hw_
          have O19 : Aside0 (Own N w19 [ZR g2, ZR g4, RM gm a0 p3 e3, HD gh v0 v1 v2, cells g8 #[.int .i64 v0, .int .i64 v1, .slice A5 l.length c5] 24, nrow k47 47 (.slice A5 l.length c5) l, cells gu #[.string u0, .int .i64 u1, .int .i64 u2, .string u3] 47]) := ⟨o_⟩
          have K19 : Aside0 (KeepS N w w19) := ⟨K18.out.trans k_⟩
          clear a0a a0b a0c b0 a1a a1b a1c b1 a2a a2b a2c b2 a3a a3b a3c b3 a4a a4b a4c b4 a6a a6b a6c a6d b6 O18 K18
          obtain ⟨a0a, a0b, a0c, b0⟩ := blk3_ (O19.out.blk (i := 0) rfl)
          obtain ⟨a1a, a1b, a1c, b1⟩ := blk3_ (O19.out.blk (i := 1) rfl)
          obtain ⟨a2a, a2b, a2c, b2⟩ := blk3_ (O19.out.blk (i := 2) rfl)
          obtain ⟨a3a, a3b, a3c, b3⟩ := blk3_ (O19.out.blk (i := 3) rfl)
          obtain ⟨a4a, a4b, a4c, b4⟩ := blk3_ (O19.out.blk (i := 4) rfl)
          obtain ⟨a6a, a6b, a6c, a6d, b6⟩ := blk4_ (O19.out.blk (i := 6) rfl)
          clear o_ k_
          refine pure_ (i := 1) (N := some 77) (v := ?_) (a' := ?_) #[false, true, false, false, false, false, false] rfl rfl (by kernel_rfl) (fun _ _ _ h => h) (Or.inl ⟨by rfl, ?_⟩) ?_ ?_
          rotate_left
          ·intro w'
           go_simp
           with_reducible rfl
          rotate_left
          ·simp only [Act.put, List.setIfInBounds_toArray, List.set_cons_zero, List.set_cons_succ, i64_w, i32_w]
           rfl
          refine pure_ (i := 2) (N := some 78) (v := ?_) (a' := ?_) #[false, true, true, false, false, false, false] rfl rfl (by kernel_rfl) (fun _ _ _ h => h) (Or.inl ⟨by rfl, ?_⟩) ?_ ?_
          rotate_left
          ·intro w'
           go_simp
           with_reducible rfl
          rotate_left
          ·simp only [Act.put, List.setIfInBounds_toArray, List.set_cons_zero, List.set_cons_succ, i64_w, i32_w]
           rfl
          refine pure_ (i := 3) (N := some 79) (v := ?_) (a' := ?_) #[false, true, true, true, false, false, false] rfl rfl (by kernel_rfl) (fun _ _ _ h => h) (Or.inl ⟨by rfl, ?_⟩) ?_ ?_
          rotate_left
          ·intro w'
           go_simp
           with_reducible rfl
          rotate_left
          ·simp only [Act.put, List.setIfInBounds_toArray, List.set_cons_zero, List.set_cons_succ, i64_w, i32_w]
           rfl
          refine take_ (i := 0) (N := some 76) (v := ?_) (a' := ?_) #[true, true, true, true, false, false, false] rfl rfl (by kernel_rfl) (fun _ _ _ h => h) (Or.inl ⟨by rfl, ?_⟩) hHeld ?_ ?_
          rotate_left
          ·rintro w' ⟨s0, s1, s2, s3⟩
           go_simp
           with_reducible rfl
          rotate_left
          ·simp only [Act.put, List.setIfInBounds_toArray, List.set_cons_zero, List.set_cons_succ, i64_w, i32_w]
           rfl
          refine take_ (i := 4) (N := some 80) (v := ?_) (a' := ?_) #[true, true, true, true, true, false, false] rfl rfl (by kernel_rfl) (fun _ _ _ h => h) (Or.inl ⟨by rfl, ?_⟩) hHeld ?_ ?_
          rotate_left
          ·rintro w' ⟨s0, s1, s2, s3⟩
           go_simp
           with_reducible rfl
          rotate_left
          ·simp only [Act.put, List.setIfInBounds_toArray, List.set_cons_zero, List.set_cons_succ, i64_w, i32_w]
           rfl
          refine one_ (i := 5) (N := none) #[true, true, true, true, true, true, false] rfl rfl (by kernel_rfl) (by decide) (fun K_ hK_ => ?_)
          refine own_store_step rfl rfl (w1 := (World.setCell (World.setCell (World.setCell w19 ⟨g2, 0, none⟩ (.int .i64 0)) ⟨g2, 1, none⟩ (.int .i64 0)) ⟨g2, 2, none⟩ (.slice none 0 0))) (N := N) (l' := [ZR g2, ZR g4, RM gm a0 p3 e3, HD gh v0 v1 v2, cells g8 #[.int .i64 v0, .int .i64 v1, .slice A5 l.length c5] 24, nrow k47 47 (.slice A5 l.length c5) l, cells gu #[.string u0, .int .i64 u1, .int .i64 u2, .string u3] 47]) ?hr ?ho ?hk ?_
          (case hr => first | (go_simp; done) | (go_simp; rfl))
          (case ho => exact (((O19.out.set (i := 0) rfl 0 (.int .i64 0)).set (i := 0) rfl 1 (.int .i64 0)).set (i := 0) rfl 2 (.slice none 0 0)))
          (case hk => exact (((KeepS.setCell (O19.out.far (i := 0) rfl) (.int .i64 0)).trans (KeepS.setCell (O19.out.far (i := 0) rfl) (.int .i64 0))).trans (KeepS.setCell (O19.out.far (i := 0) rfl) (.slice none 0 0))))
          intro w20 o_ k_
          have O20 : Aside0 (Own N w20 [ZR g2, ZR g4, RM gm a0 p3 e3, HD gh v0 v1 v2, cells g8 #[.int .i64 v0, .int .i64 v1, .slice A5 l.length c5] 24, nrow k47 47 (.slice A5 l.length c5) l, cells gu #[.string u0, .int .i64 u1, .int .i64 u2, .string u3] 47]) := ⟨o_⟩
          have K20 : Aside0 (KeepS N w w20) := ⟨K19.out.trans k_⟩
          clear a0a a0b a0c b0 a1a a1b a1c b1 a2a a2b a2c b2 a3a a3b a3c b3 a4a a4b a4c b4 a6a a6b a6c a6d b6 O19 K19
          obtain ⟨a0a, a0b, a0c, b0⟩ := blk3_ (O20.out.blk (i := 0) rfl)
          obtain ⟨a1a, a1b, a1c, b1⟩ := blk3_ (O20.out.blk (i := 1) rfl)
          obtain ⟨a2a, a2b, a2c, b2⟩ := blk3_ (O20.out.blk (i := 2) rfl)
          obtain ⟨a3a, a3b, a3c, b3⟩ := blk3_ (O20.out.blk (i := 3) rfl)
          obtain ⟨a4a, a4b, a4c, b4⟩ := blk3_ (O20.out.blk (i := 4) rfl)
          obtain ⟨a6a, a6b, a6c, a6d, b6⟩ := blk4_ (O20.out.blk (i := 6) rfl)
          clear o_ k_
          clear hHeld
          refine hK_.out _ _ ⟨((blk_cell (O20.out.blk (i := 1) rfl) 0).trans rfl), ((blk_cell (O20.out.blk (i := 1) rfl) 1).trans rfl), ((blk_cell (O20.out.blk (i := 1) rfl) 2).trans rfl), ((blk_cell (O20.out.blk (i := 2) rfl) 2).trans rfl)⟩ (fun hHeld => ?_)
          clear hK_ K_
          refine pure_ (i := 6) (N := some 3) (v := ?_) (a' := ?_) #[true, true, true, true, true, true, true] rfl rfl (by kernel_rfl) (fun _ _ _ h => h) (Or.inl ⟨by rfl, ?_⟩) ?_ ?_
          rotate_left
          ·intro w'
           go_simp
           with_reducible rfl
          rotate_left
          ·simp only [Act.put, List.setIfInBounds_toArray, List.set_cons_zero, List.set_cons_succ, i64_w, i32_w]
           rfl
          refine done_ (by kernel_rfl) ?_
          clear hHeld
          go_wp2
          have hgr := HGR.out
          rw [show getR a0 = noR e3 by unfold getR; rw [HH0.out]; refine (if_neg (fun h_ => h_ rfl)).trans ?_; simp only; unfold getR1; rw [HH1.out]; refine (if_neg (fun h_ => h_ rfl)).trans ?_; simp only; unfold getR2; rw [HH2.out]; refine (if_neg (fun h_ => h_ rfl)).trans ?_; simp only; unfold getR3; have q_ := ups_no (by have := HX.out; omega) HI.out.2 (by rw [HRU.out]; exact HE.out); rw [HRU.out] at q_; simp only at q_ ⊢; rw [q_]; exact if_pos HE.out] at hgr
          unfold noR at hgr
          simp only [Prod.mk.injEq] at hgr
          obtain ⟨rfl, rfl, rfl, rfl⟩ := hgr
          refine bodyPost_ret (results_ct rfl _ _ g2 24 #[.int .i64 0, .int .i64 0, .slice none 0 0] (0, 0) _ rfl (O20.out.blk (i := 0) rfl) Tryd.underlying24 rfl (by kernel_rfl)) rfl ?_
          exact ⟨_, rfl, Kd.R_nil _ _ _ _ _, (K20.out.below (Nat.le_refl _) (fun k hk => by rw [HN.out]; exact hk))⟩
        ·have hd : decide (x < v2) = false := decide_eq_false hlt
         have hxe : v2 = x := by omega
         subst hxe
         have HUA := Aside0.mk (ups_all HI.out.2)
         clear hlt hx0 hx1 hm8
         have O16 : Aside0 (Own N wr [ZR g2, ZR g4, RM gm a0 p 0, HD gh v0 v1 v2, cells g8 #[.int .i64 v0, .int .i64 v1, .slice A5 l.length c5] 24, nrow k47 47 (.slice A5 l.length c5) l]) := ⟨OA.out⟩
         have K16 : Aside0 (KeepS N w wr) := ⟨KA.out⟩
         obtain ⟨a0a, a0b, a0c, b0⟩ := blk3_ (O16.out.blk (i := 0) rfl)
         obtain ⟨a1a, a1b, a1c, b1⟩ := blk3_ (O16.out.blk (i := 1) rfl)
         obtain ⟨a2a, a2b, a2c, b2⟩ := blk3_ (O16.out.blk (i := 2) rfl)
         obtain ⟨a3a, a3b, a3c, b3⟩ := blk3_ (O16.out.blk (i := 3) rfl)
         obtain ⟨a4a, a4b, a4c, b4⟩ := blk3_ (O16.out.blk (i := 4) rfl)
         clear OA KA
         obtain ⟨q, hq⟩ : ∃ q, q = endR a0 p 0 := ⟨_, rfl⟩
         have HEN := Aside0.mk hq.symm
         by_cases he : q = 0
         ·have hqb : (q != 0) = false := by rw [he]; rfl
          have HE := Aside0.mk he
          clear he hq
          go_wp2_with (first | ((with_reducible refine gate_callee (f := 38) rfl ?_); refine goesL_ (some 88) rfl rfl Tryd.func38 (by kernel_rfl) rfl #[.pointer (some ⟨gm, 0, none⟩)] rfl (by (try simp only [List.map_toArray, List.map_cons, List.map_nil]); first | done | rfl) ?_; obtain ⟨N_, on_, nn_, rr_, bb_⟩ := O16.out.frame1 (i := 2) rfl; refine ((HEN.out ▸ rEnd (K16.out.below (Nat.le_refl _) (fun k hk => by rw [HN.out]; exact hk)) (Nat.le_of_not_lt (fun q_ => (O16.out.far (i := 2) rfl) (by rw [HN.out]; exact q_))) on_)).mono ?_; rintro e_ w17 ⟨rfl, oo_, kk_⟩; obtain ⟨o_, k_⟩ := bb_ _ _ _ kk_ oo_; refine ⟨_, rfl, ?_⟩; have O17 : Aside0 (Own N w17 [ZR g2, ZR g4, RM gm a0 p q, HD gh v0 v1 v2, cells g8 #[.int .i64 v0, .int .i64 v1, .slice A5 l.length c5] 24, nrow k47 47 (.slice A5 l.length c5) l]) := ⟨o_⟩; have K17 : Aside0 (KeepS N w w17) := ⟨K16.out.trans k_⟩; clear a0a a0b a0c b0 a1a a1b a1c b1 a2a a2b a2c b2 a3a a3b a3c b3 a4a a4b a4c b4 O16 K16; obtain ⟨a0a, a0b, a0c, b0⟩ := blk3_ (O17.out.blk (i := 0) rfl); obtain ⟨a1a, a1b, a1c, b1⟩ := blk3_ (O17.out.blk (i := 1) rfl); obtain ⟨a2a, a2b, a2c, b2⟩ := blk3_ (O17.out.blk (i := 2) rfl); obtain ⟨a3a, a3b, a3c, b3⟩ := blk3_ (O17.out.blk (i := 3) rfl); obtain ⟨a4a, a4b, a4c, b4⟩ := blk3_ (O17.out.blk (i := 4) rfl); clear o_ k_ oo_ kk_ on_ nn_ rr_ bb_) | ((with_reducible refine gate_store (t := 24) (p := 2) rfl ?_); refine own_store rfl rfl rfl (w1 := (World.setCell (World.setCell (World.setCell w17 ⟨g2, 0, none⟩ (.int .i64 v0)) ⟨g2, 1, none⟩ (.int .i64 v1)) ⟨g2, 2, none⟩ (.slice A5 l.length c5))) (N := N) (l' := [cells g2 #[.int .i64 v0, .int .i64 v1, .slice A5 l.length c5] 24, ZR g4, RM gm a0 p q, HD gh v0 v1 v2, cells g8 #[.int .i64 v0, .int .i64 v1, .slice A5 l.length c5] 24, nrow k47 47 (.slice A5 l.length c5) l]) ?hr ?ho ?hk ?_; (case hr => first | (go_simp; done) | (go_simp; rfl)); (case ho => exact (((O17.out.set (i := 0) rfl 0 (.int .i64 v0)).set (i := 0) rfl 1 (.int .i64 v1)).set (i := 0) rfl 2 (.slice A5 l.length c5))); (case hk => exact (((KeepS.setCell (O17.out.far (i := 0) rfl) (.int .i64 v0)).trans (KeepS.setCell (O17.out.far (i := 0) rfl) (.int .i64 v1))).trans (KeepS.setCell (O17.out.far (i := 0) rfl) (.slice A5 l.length c5)))); intro w18 o_ k_; have O18 : Aside0 (Own N w18 [cells g2 #[.int .i64 v0, .int .i64 v1, .slice A5 l.length c5] 24, ZR g4, RM gm a0 p q, HD gh v0 v1 v2, cells g8 #[.int .i64 v0, .int .i64 v1, .slice A5 l.length c5] 24, nrow k47 47 (.slice A5 l.length c5) l]) := ⟨o_⟩; have K18 : Aside0 (KeepS N w w18) := ⟨K17.out.trans k_⟩; clear a0a a0b a0c b0 a1a a1b a1c b1 a2a a2b a2c b2 a3a a3b a3c b3 a4a a4b a4c b4 O17 K17; obtain ⟨a0a, a0b, a0c, b0⟩ := blk3_ (O18.out.blk (i := 0) rfl); obtain ⟨a1a, a1b, a1c, b1⟩ := blk3_ (O18.out.blk (i := 1) rfl); obtain ⟨a2a, a2b, a2c, b2⟩ := blk3_ (O18.out.blk (i := 2) rfl); obtain ⟨a3a, a3b, a3c, b3⟩ := blk3_ (O18.out.blk (i := 3) rfl); obtain ⟨a4a, a4b, a4c, b4⟩ := blk3_ (O18.out.blk (i := 4) rfl); clear o_ k_))
          have hgr := HGR.out
          rw [show getR a0 = (v0, v1, l, 0) by unfold getR; rw [HH0.out]; refine (if_neg (fun h_ => h_ rfl)).trans ?_; simp only; unfold getR1; rw [HH1.out]; refine (if_neg (fun h_ => h_ rfl)).trans ?_; simp only; unfold getR2; rw [HH2.out]; refine (if_neg (fun h_ => h_ rfl)).trans ?_; simp only; unfold getR3; rw [HUA.out]; simp only; rw [if_neg (fun h_ => h_ rfl), HEN.out, if_neg (by rw [HE.out]; decide)]] at hgr
          simp only [Prod.mk.injEq] at hgr
          obtain ⟨rfl, rfl, rfl, rfl⟩ := hgr
          refine bodyPost_ret (results_ct rfl _ _ g2 24 #[.int .i64 v0, .int .i64 v1, .slice A5 l.length c5] (0, 0) _ rfl (O18.out.blk (i := 0) rfl) Tryd.underlying24 rfl (by kernel_rfl)) rfl ?_
          exact ⟨_, rfl, Own.outR looseG O18.out (i := 5) rfl (fun k hk => by rw [HN.out]; exact hk), (K18.out.below (Nat.le_refl _) (fun k hk => by rw [HN.out]; exact hk))⟩
         ·have hqb : (q != 0) = true := bne_iff_ne.2 he
          have HE := Aside0.mk he
          clear he hq
          go_wp2_with (first | ((with_reducible refine gate_callee (f := 38) rfl ?_); refine goesL_ (some 88) rfl rfl Tryd.func38 (by kernel_rfl) rfl #[.pointer (some ⟨gm, 0, none⟩)] rfl (by (try simp only [List.map_toArray, List.map_cons, List.map_nil]); first | done | rfl) ?_; obtain ⟨N_, on_, nn_, rr_, bb_⟩ := O16.out.frame1 (i := 2) rfl; refine ((HEN.out ▸ rEnd (K16.out.below (Nat.le_refl _) (fun k hk => by rw [HN.out]; exact hk)) (Nat.le_of_not_lt (fun q_ => (O16.out.far (i := 2) rfl) (by rw [HN.out]; exact q_))) on_)).mono ?_; rintro e_ w17 ⟨rfl, oo_, kk_⟩; obtain ⟨o_, k_⟩ := bb_ _ _ _ kk_ oo_; refine ⟨_, rfl, ?_⟩; have O17 : Aside0 (Own N w17 [ZR g2, ZR g4, RM gm a0 p q, HD gh v0 v1 v2, cells g8 #[.int .i64 v0, .int .i64 v1, .slice A5 l.length c5] 24, nrow k47 47 (.slice A5 l.length c5) l]) := ⟨o_⟩; have K17 : Aside0 (KeepS N w w17) := ⟨K16.out.trans k_⟩; clear a0a a0b a0c b0 a1a a1b a1c b1 a2a a2b a2c b2 a3a a3b a3c b3 a4a a4b a4c b4 O16 K16; obtain ⟨a0a, a0b, a0c, b0⟩ := blk3_ (O17.out.blk (i := 0) rfl); obtain ⟨a1a, a1b, a1c, b1⟩ := blk3_ (O17.out.blk (i := 1) rfl); obtain ⟨a2a, a2b, a2c, b2⟩ := blk3_ (O17.out.blk (i := 2) rfl); obtain ⟨a3a, a3b, a3c, b3⟩ := blk3_ (O17.out.blk (i := 3) rfl); obtain ⟨a4a, a4b, a4c, b4⟩ := blk3_ (O17.out.blk (i := 4) rfl); clear o_ k_ oo_ kk_ on_ nn_ rr_ bb_) | ((with_reducible refine gate_store (t := 24) (p := 2) rfl ?_); refine own_store rfl rfl rfl (w1 := (World.setCell (World.setCell (World.setCell w17 ⟨g2, 0, none⟩ (.int .i64 0)) ⟨g2, 1, none⟩ (.int .i64 0)) ⟨g2, 2, none⟩ (.slice none 0 0))) (N := N) (l' := [ZR g2, ZR g4, RM gm a0 p q, HD gh v0 v1 v2, cells g8 #[.int .i64 v0, .int .i64 v1, .slice A5 l.length c5] 24, nrow k47 47 (.slice A5 l.length c5) l]) ?hr ?ho ?hk ?_; (case hr => first | (go_simp; done) | (go_simp; rfl)); (case ho => exact (((O17.out.set (i := 0) rfl 0 (.int .i64 0)).set (i := 0) rfl 1 (.int .i64 0)).set (i := 0) rfl 2 (.slice none 0 0))); (case hk => exact (((KeepS.setCell (O17.out.far (i := 0) rfl) (.int .i64 0)).trans (KeepS.setCell (O17.out.far (i := 0) rfl) (.int .i64 0))).trans (KeepS.setCell (O17.out.far (i := 0) rfl) (.slice none 0 0)))); intro w18 o_ k_; have O18 : Aside0 (Own N w18 [ZR g2, ZR g4, RM gm a0 p q, HD gh v0 v1 v2, cells g8 #[.int .i64 v0, .int .i64 v1, .slice A5 l.length c5] 24, nrow k47 47 (.slice A5 l.length c5) l]) := ⟨o_⟩; have K18 : Aside0 (KeepS N w w18) := ⟨K17.out.trans k_⟩; clear a0a a0b a0c b0 a1a a1b a1c b1 a2a a2b a2c b2 a3a a3b a3c b3 a4a a4b a4c b4 O17 K17; obtain ⟨a0a, a0b, a0c, b0⟩ := blk3_ (O18.out.blk (i := 0) rfl); obtain ⟨a1a, a1b, a1c, b1⟩ := blk3_ (O18.out.blk (i := 1) rfl); obtain ⟨a2a, a2b, a2c, b2⟩ := blk3_ (O18.out.blk (i := 2) rfl); obtain ⟨a3a, a3b, a3c, b3⟩ := blk3_ (O18.out.blk (i := 3) rfl); obtain ⟨a4a, a4b, a4c, b4⟩ := blk3_ (O18.out.blk (i := 4) rfl); clear o_ k_))
          have hgr := HGR.out
          rw [show getR a0 = noR q by unfold getR; rw [HH0.out]; refine (if_neg (fun h_ => h_ rfl)).trans ?_; simp only; unfold getR1; rw [HH1.out]; refine (if_neg (fun h_ => h_ rfl)).trans ?_; simp only; unfold getR2; rw [HH2.out]; refine (if_neg (fun h_ => h_ rfl)).trans ?_; simp only; unfold getR3; rw [HUA.out]; simp only; rw [if_neg (fun h_ => h_ rfl), HEN.out]; exact if_pos HE.out] at hgr
          unfold noR at hgr
          simp only [Prod.mk.injEq] at hgr
          obtain ⟨rfl, rfl, rfl, rfl⟩ := hgr
          refine bodyPost_ret (results_ct rfl _ _ g2 24 #[.int .i64 0, .int .i64 0, .slice none 0 0] (0, 0) _ rfl (O18.out.blk (i := 0) rfl) Tryd.underlying24 rfl (by kernel_rfl)) rfl ?_
          exact ⟨_, rfl, Kd.R_nil _ _ _ _ _, (K18.out.below (Nat.le_refl _) (fun k hk => by rw [HN.out]; exact hk))⟩
     ·have heb : (e2 == 0) = false := beq_eq_false_iff_ne.2 he
      have hen : (e2 != 0) = true := bne_iff_ne.2 he
      have HH2 : Aside0 (headR a0 p1 8 = (v2, p2, e2)) := ⟨by unfold headR; rw [HQ2.out]; simp only; rw [if_neg he]⟩
      have HE := Aside0.mk he
      clear he
      go_wp2_with (first | ((with_reducible refine gate_callee (f := 36) rfl ?_); refine goesL_ (some 28) rfl rfl Tryd.func36 (by kernel_rfl) rfl #[.pointer (some ⟨gm, 0, none⟩), .int .i64 8] rfl (by (try simp only [List.map_toArray, List.map_cons, List.map_nil]); first | done | rfl) ?_; obtain ⟨N_, on_, nn_, rr_, bb_⟩ := O9.out.frame1 (i := 2) rfl; refine (rNum (K9.out.below (Nat.le_refl _) (fun k hk => by rw [HN.out]; exact hk)) (Nat.le_of_not_lt (fun q_ => (O9.out.far (i := 2) rfl) (by rw [HN.out]; exact q_))) HSZ.out 8 v2 p2 e2 HQ2.out on_).mono ?_; rintro e_ w10 ⟨rfl, oo_, kk_⟩; obtain ⟨o_, k_⟩ := bb_ _ _ _ kk_ oo_; refine ⟨_, rfl, ?_⟩; have O10 : Aside0 (Own N w10 [ZR g2, ZR g4, RM gm a0 p2 e2, HD gh v0 v1 8]) := ⟨o_⟩; have K10 : Aside0 (KeepS N w w10) := ⟨K9.out.trans k_⟩; clear a0a a0b a0c b0 a1a a1b a1c b1 a2a a2b a2c b2 a3a a3b a3c b3 O9 K9; obtain ⟨a0a, a0b, a0c, b0⟩ := blk3_ (O10.out.blk (i := 0) rfl); obtain ⟨a1a, a1b, a1c, b1⟩ := blk3_ (O10.out.blk (i := 1) rfl); obtain ⟨a2a, a2b, a2c, b2⟩ := blk3_ (O10.out.blk (i := 2) rfl); obtain ⟨a3a, a3b, a3c, b3⟩ := blk3_ (O10.out.blk (i := 3) rfl); clear o_ k_ oo_ kk_ on_ nn_ rr_ bb_) | ((with_reducible refine gate_store (t := 3) (p := 29) rfl ?_); refine own_store rfl rfl rfl (w1 := (World.setCell w10 ⟨gh, 2, none⟩ (.int .i64 v2))) (N := N) (l' := [ZR g2, ZR g4, RM gm a0 p2 e2, HD gh v0 v1 v2]) ?hr ?ho ?hk ?_; (case hr => first | (go_simp; done) | (go_simp; rfl)); (case ho => exact (O10.out.set (i := 3) rfl 2 (.int .i64 v2))); (case hk => exact (KeepS.setCell (O10.out.far (i := 3) rfl) (.int .i64 v2))); intro w11 o_ k_; have O11 : Aside0 (Own N w11 [ZR g2, ZR g4, RM gm a0 p2 e2, HD gh v0 v1 v2]) := ⟨o_⟩; have K11 : Aside0 (KeepS N w w11) := ⟨K10.out.trans k_⟩; clear a0a a0b a0c b0 a1a a1b a1c b1 a2a a2b a2c b2 a3a a3b a3c b3 O10 K10; obtain ⟨a0a, a0b, a0c, b0⟩ := blk3_ (O11.out.blk (i := 0) rfl); obtain ⟨a1a, a1b, a1c, b1⟩ := blk3_ (O11.out.blk (i := 1) rfl); obtain ⟨a2a, a2b, a2c, b2⟩ := blk3_ (O11.out.blk (i := 2) rfl); obtain ⟨a3a, a3b, a3c, b3⟩ := blk3_ (O11.out.blk (i := 3) rfl); clear o_ k_))
      refine start_ (n := 7) (S := fun w' => w'.cell? ⟨g4, 0, none⟩ = some (.int .i64 0) ∧ w'.cell? ⟨g4, 1, none⟩ = some (.int .i64 0) ∧ w'.cell? ⟨g4, 2, none⟩ = some (.slice none 0 0) ∧ w'.cell? ⟨gm, 2, none⟩ = some (.int .i64 e2)) (ds := []) #[false, false, false, false, false, false, false] (by kernel_rfl) rfl rfl ⟨((blk_cell (O11.out.blk (i := 1) rfl) 0).trans rfl), ((blk_cell (O11.out.blk (i := 1) rfl) 1).trans rfl), ((blk_cell (O11.out.blk (i := 1) rfl) 2).trans rfl), ((blk_cell (O11.out.blk (i := 2) rfl) 2).trans rfl)⟩ (fun hHeld => ?_)
      obtain ⟨w12, hw_⟩ : ∃ W, W = w11.drew := ⟨_, rfl⟩
      have o_ := O11.out.drew
      have k_ : KeepS N w11 w11.drew := KeepS.drew
      rw [← hw_] at o_ k_ hHeld ⊢
      clear hw_
      have O12 : Aside0 (Own N w12 [ZR g2, ZR g4, RM gm a0 p2 e2, HD gh v0 v1 v2]) := ⟨o_⟩
      have K12 : Aside0 (KeepS N w w12) := ⟨K11.out.trans k_⟩
      clear a0a a0b a0c b0 a1a a1b a1c b1 a2a a2b a2c b2 a3a a3b a3c b3 O11 K11
      obtain ⟨a0a, a0b, a0c, b0⟩ := blk3_ (O12.out.blk (i := 0) rfl)
      obtain ⟨a1a, a1b, a1c, b1⟩ := blk3_ (O12.out.blk (i := 1) rfl)
      obtain ⟨a2a, a2b, a2c, b2⟩ := blk3_ (O12.out.blk (i := 2) rfl)
      obtain ⟨a3a, a3b, a3c, b3⟩ := blk3_ (O12.out.blk (i := 3) rfl)
      clear o_ k_
      refine pure_ (i := 1) (N := some 51) (v := ?_) (a' := ?_) #[false, true, false, false, false, false, false] rfl rfl (by kernel_rfl) (fun _ _ _ h => h) (Or.inl ⟨by rfl, ?_⟩) ?_ ?_
      rotate_left
      ·intro w'
       go_simp
       with_reducible rfl
      rotate_left
      ·simp only [Act.put, List.setIfInBounds_toArray, List.set_cons_zero, List.set_cons_succ, i64_w, i32_w]
       rfl
      refine pure_ (i := 2) (N := some 52) (v := ?_) (a' := ?_) #[false, true, true, false, false, false, false] rfl rfl (by kernel_rfl) (fun _ _ _ h => h) (Or.inl ⟨by rfl, ?_⟩) ?_ ?_
      rotate_left
      ·intro w'
       go_simp
       with_reducible rfl
      rotate_left
      ·simp only [Act.put, List.setIfInBounds_toArray, List.set_cons_zero, List.set_cons_succ, i64_w, i32_w]
       rfl
      refine pure_ (i := 3) (N := some 53) (v := ?_) (a' := ?_) #[false, true, true, true, false, false, false] rfl rfl (by kernel_rfl) (fun _ _ _ h => h) (Or.inl ⟨by rfl, ?_⟩) ?_ ?_
      rotate_left
      ·intro w'
       go_simp
       with_reducible rfl
      rotate_left
      ·simp only [Act.put, List.setIfInBounds_toArray, List.set_cons_zero, List.set_cons_succ, i64_w, i32_w]
       rfl
      refine take_ (i := 0) (N := some 50) (v := ?_) (a' := ?_) #[true, true, true, true, false, false, false] rfl rfl (by kernel_rfl) (fun _ _ _ h => h) (Or.inl ⟨by rfl, ?_⟩) hHeld ?_ ?_
      rotate_left
      ·rintro w' ⟨s0, s1, s2, s3⟩
       go_simp
       with_reducible rfl
      rotate_left
      ·simp only [Act.put, List.setIfInBounds_toArray, List.set_cons_zero, List.set_cons_succ, i64_w, i32_w]
       rfl
      refine take_ (i := 4) (N := some 54) (v := ?_) (a' := ?_) #[true, true, true, true, true, false, false] rfl rfl (by kernel_rfl) (fun _ _ _ h => h) (Or.inl ⟨by rfl, ?_⟩) hHeld ?_ ?_
      rotate_left
      ·rintro w' ⟨s0, s1, s2, s3⟩
       go_simp
       with_reducible rfl
      rotate_left
      ·simp only [Act.put, List.setIfInBounds_toArray, List.set_cons_zero, List.set_cons_succ, i64_w, i32_w]
       rfl
      refine one_ (i := 5) (N := none) #[true, true, true, true, true, true, false] rfl rfl (by kernel_rfl) (by decide) (fun K_ hK_ => ?_)
      refine own_store_step rfl rfl (w1 := (World.setCell (World.setCell (World.setCell w12 ⟨g2, 0, none⟩ (.int .i64 0)) ⟨g2, 1, none⟩ (.int .i64 0)) ⟨g2, 2, none⟩ (.slice none 0 0))) (N := N) (l' := [ZR g2, ZR g4, RM gm a0 p2 e2, HD gh v0 v1 v2]) ?hr ?ho ?hk ?_
      (case hr => first | (go_simp; done) | (go_simp; rfl))
      (case ho => exact (((O12.out.set (i := 0) rfl 0 (.int .i64 0)).set (i := 0) rfl 1 (.int .i64 0)).set (i := 0) rfl 2 (.slice none 0 0)))
      (case hk => exact (((KeepS.setCell (O12.out.far (i := 0) rfl) (.int .i64 0)).trans (KeepS.setCell (O12.out.far (i := 0) rfl) (.int .i64 0))).trans (KeepS.setCell (O12.out.far (i := 0) rfl) (.slice none 0 0))))
      intro w13 o_ k_
      have O13 : Aside0 (Own N w13 [ZR g2, ZR g4, RM gm a0 p2 e2, HD gh v0 v1 v2]) := ⟨o_⟩
      have K13 : Aside0 (KeepS N w w13) := ⟨K12.out.trans k_⟩
      clear a0a a0b a0c b0 a1a a1b a1c b1 a2a a2b a2c b2 a3a a3b a3c b3 O12 K12
      obtain ⟨a0a, a0b, a0c, b0⟩ := blk3_ (O13.out.blk (i := 0) rfl)
      obtain ⟨a1a, a1b, a1c, b1⟩ := blk3_ (O13.out.blk (i := 1) rfl)
      obtain ⟨a2a, a2b, a2c, b2⟩ := blk3_ (O13.out.blk (i := 2) rfl)
      obtain ⟨a3a, a3b, a3c, b3⟩ := blk3_ (O13.out.blk (i := 3) rfl)
      clear o_ k_
      clear hHeld
      refine hK_.out _ _ ⟨((blk_cell (O13.out.blk (i := 1) rfl) 0).trans rfl), ((blk_cell (O13.out.blk (i := 1) rfl) 1).trans rfl), ((blk_cell (O13.out.blk (i := 1) rfl) 2).trans rfl), ((blk_cell (O13.out.blk (i := 2) rfl) 2).trans rfl)⟩ (fun hHeld => ?_)
      clear hK_ K_
      refine pure_ (i := 6) (N := some 3) (v := ?_) (a' := ?_) #[true, true, true, true, true, true, true] rfl rfl (by kernel_rfl) (fun _ _ _ h => h) (Or.inl ⟨by rfl, ?_⟩) ?_ ?_
      rotate_left
      ·intro w'
       go_simp
       with_reducible rfl
      rotate_left
      ·simp only [Act.put, List.setIfInBounds_toArray, List.set_cons_zero, List.set_cons_succ, i64_w, i32_w]
       rfl
      refine done_ (by kernel_rfl) ?_
      clear hHeld
      go_wp2
      have hgr := HGR.out
      rw [show getR a0 = noR e2 by unfold getR; rw [HH0.out]; refine (if_neg (fun h_ => h_ rfl)).trans ?_; simp only; unfold getR1; rw [HH1.out]; refine (if_neg (fun h_ => h_ rfl)).trans ?_; simp only; unfold getR2; rw [HH2.out]; exact if_pos HE.out] at hgr
      unfold noR at hgr
      simp only [Prod.mk.injEq] at hgr
      obtain ⟨rfl, rfl, rfl, rfl⟩ := hgr
      refine bodyPost_ret (results_ct rfl _ _ g2 24 #[.int .i64 0, .int .i64 0, .slice none 0 0] (0, 0) _ rfl (O13.out.blk (i := 0) rfl) Tryd.underlying24 rfl (by kernel_rfl)) rfl ?_
      exact ⟨_, rfl, Kd.R_nil _ _ _ _ _, (K13.out.below (Nat.le_refl _) (fun k hk => by rw [HN.out]; exact hk))⟩
   ·have heb : (e1 == 0) = false := beq_eq_false_iff_ne.2 he
    have hen : (e1 != 0) = true := bne_iff_ne.2 he
    have HH1 : Aside0 (headR a0 p0 1099511627776 = (v1, p1, e1)) := ⟨by unfold headR; rw [HQ1.out]; simp only; rw [if_neg he]⟩
    have HE := Aside0.mk he
    clear he
    go_wp2_with (first | ((with_reducible refine gate_callee (f := 36) rfl ?_); refine goesL_ (some 28) rfl rfl Tryd.func36 (by kernel_rfl) rfl #[.pointer (some ⟨gm, 0, none⟩), .int .i64 1099511627776] rfl (by (try simp only [List.map_toArray, List.map_cons, List.map_nil]); first | done | rfl) ?_; obtain ⟨N_, on_, nn_, rr_, bb_⟩ := O7.out.frame1 (i := 2) rfl; refine (rNum (K7.out.below (Nat.le_refl _) (fun k hk => by rw [HN.out]; exact hk)) (Nat.le_of_not_lt (fun q_ => (O7.out.far (i := 2) rfl) (by rw [HN.out]; exact q_))) HSZ.out 1099511627776 v1 p1 e1 HQ1.out on_).mono ?_; rintro e_ w8 ⟨rfl, oo_, kk_⟩; obtain ⟨o_, k_⟩ := bb_ _ _ _ kk_ oo_; refine ⟨_, rfl, ?_⟩; have O8 : Aside0 (Own N w8 [ZR g2, ZR g4, RM gm a0 p1 e1, HD gh v0 1099511627776 8]) := ⟨o_⟩; have K8 : Aside0 (KeepS N w w8) := ⟨K7.out.trans k_⟩; clear a0a a0b a0c b0 a1a a1b a1c b1 a2a a2b a2c b2 a3a a3b a3c b3 O7 K7; obtain ⟨a0a, a0b, a0c, b0⟩ := blk3_ (O8.out.blk (i := 0) rfl); obtain ⟨a1a, a1b, a1c, b1⟩ := blk3_ (O8.out.blk (i := 1) rfl); obtain ⟨a2a, a2b, a2c, b2⟩ := blk3_ (O8.out.blk (i := 2) rfl); obtain ⟨a3a, a3b, a3c, b3⟩ := blk3_ (O8.out.blk (i := 3) rfl); clear o_ k_ oo_ kk_ on_ nn_ rr_ bb_) | ((with_reducible refine gate_store (t := 3) (p := 29) rfl ?_); refine own_store rfl rfl rfl (w1 := (World.setCell w8 ⟨gh, 1, none⟩ (.int .i64 v1))) (N := N) (l' := [ZR g2, ZR g4, RM gm a0 p1 e1, HD gh v0 v1 8]) ?hr ?ho ?hk ?_; (case hr => first | (go_simp; done) | (go_simp; rfl)); (case ho => exact (O8.out.set (i := 3) rfl 1 (.int .i64 v1))); (case hk => exact (KeepS.setCell (O8.out.far (i := 3) rfl) (.int .i64 v1))); intro w9 o_ k_; have O9 : Aside0 (Own N w9 [ZR g2, ZR g4, RM gm a0 p1 e1, HD gh v0 v1 8]) := ⟨o_⟩; have K9 : Aside0 (KeepS N w w9) := ⟨K8.out.trans k_⟩; clear a0a a0b a0c b0 a1a a1b a1c b1 a2a a2b a2c b2 a3a a3b a3c b3 O8 K8; obtain ⟨a0a, a0b, a0c, b0⟩ := blk3_ (O9.out.blk (i := 0) rfl); obtain ⟨a1a, a1b, a1c, b1⟩ := blk3_ (O9.out.blk (i := 1) rfl); obtain ⟨a2a, a2b, a2c, b2⟩ := blk3_ (O9.out.blk (i := 2) rfl); obtain ⟨a3a, a3b, a3c, b3⟩ := blk3_ (O9.out.blk (i := 3) rfl); clear o_ k_))
    refine start_ (n := 7) (S := fun w' => w'.cell? ⟨g4, 0, none⟩ = some (.int .i64 0) ∧ w'.cell? ⟨g4, 1, none⟩ = some (.int .i64 0) ∧ w'.cell? ⟨g4, 2, none⟩ = some (.slice none 0 0) ∧ w'.cell? ⟨gm, 2, none⟩ = some (.int .i64 e1)) (ds := []) #[false, false, false, false, false, false, false] (by kernel_rfl) rfl rfl ⟨((blk_cell (O9.out.blk (i := 1) rfl) 0).trans rfl), ((blk_cell (O9.out.blk (i := 1) rfl) 1).trans rfl), ((blk_cell (O9.out.blk (i := 1) rfl) 2).trans rfl), ((blk_cell (O9.out.blk (i := 2) rfl) 2).trans rfl)⟩ (fun hHeld => ?_)
    obtain ⟨w10, hw_⟩ : ∃ W, W = w9.drew := ⟨_, rfl⟩
    have o_ := O9.out.drew
    have k_ : KeepS N w9 w9.drew := KeepS.drew
    rw [← hw_] at o_ k_ hHeld ⊢
    clear hw_
    have O10 : Aside0 (Own N w10 [ZR g2, ZR g4, RM gm a0 p1 e1, HD gh v0 v1 8]) := ⟨o_⟩
    have K10 : Aside0 (KeepS N w w10) := ⟨K9.out.trans k_⟩
    clear a0a a0b a0c b0 a1a a1b a1c b1 a2a a2b a2c b2 a3a a3b a3c b3 O9 K9
    obtain ⟨a0a, a0b, a0c, b0⟩ := blk3_ (O10.out.blk (i := 0) rfl)
    obtain ⟨a1a, a1b, a1c, b1⟩ := blk3_ (O10.out.blk (i := 1) rfl)
    obtain ⟨a2a, a2b, a2c, b2⟩ := blk3_ (O10.out.blk (i := 2) rfl)
    obtain ⟨a3a, a3b, a3c, b3⟩ := blk3_ (O10.out.blk (i := 3) rfl)
    clear o_ k_
    refine pure_ (i := 1) (N := some 51) (v := ?_) (a' := ?_) #[false, true, false, false, false, false, false] rfl rfl (by kernel_rfl) (fun _ _ _ h => h) (Or.inl ⟨by rfl, ?_⟩) ?_ ?_
    rotate_left
    ·intro w'
     go_simp
     with_reducible rfl
    rotate_left
    ·simp only [Act.put, List.setIfInBounds_toArray, List.set_cons_zero, List.set_cons_succ, i64_w, i32_w]
     rfl
    refine pure_ (i := 2) (N := some 52) (v := ?_) (a' := ?_) #[false, true, true, false, false, false, false] rfl rfl (by kernel_rfl) (fun _ _ _ h => h) (Or.inl ⟨by rfl, ?_⟩) ?_ ?_
    rotate_left
    ·intro w'
     go_simp
     with_reducible rfl
    rotate_left
    ·simp only [Act.put, List.setIfInBounds_toArray, List.set_cons_zero, List.set_cons_succ, i64_w, i32_w]
     rfl
    refine pure_ (i := 3) (N := some 53) (v := ?_) (a' := ?_) #[false, true, true, true, false, false, false] rfl rfl (by kernel_rfl) (fun _ _ _ h => h) (Or.inl ⟨by rfl, ?_⟩) ?_ ?_
    rotate_left
    ·intro w'
     go_simp
     with_reducible rfl
    rotate_left
    ·simp only [Act.put, List.setIfInBounds_toArray, List.set_cons_zero, List.set_cons_succ, i64_w, i32_w]
     rfl
    refine take_ (i := 0) (N := some 50) (v := ?_) (a' := ?_) #[true, true, true, true, false, false, false] rfl rfl (by kernel_rfl) (fun _ _ _ h => h) (Or.inl ⟨by rfl, ?_⟩) hHeld ?_ ?_
    rotate_left
    ·rintro w' ⟨s0, s1, s2, s3⟩
     go_simp
     with_reducible rfl
    rotate_left
    ·simp only [Act.put, List.setIfInBounds_toArray, List.set_cons_zero, List.set_cons_succ, i64_w, i32_w]
     rfl
    refine take_ (i := 4) (N := some 54) (v := ?_) (a' := ?_) #[true, true, true, true, true, false, false] rfl rfl (by kernel_rfl) (fun _ _ _ h => h) (Or.inl ⟨by rfl, ?_⟩) hHeld ?_ ?_
    rotate_left
    ·rintro w' ⟨s0, s1, s2, s3⟩
     go_simp
     with_reducible rfl
    rotate_left
    ·simp only [Act.put, List.setIfInBounds_toArray, List.set_cons_zero, List.set_cons_succ, i64_w, i32_w]
     rfl
    refine one_ (i := 5) (N := none) #[true, true, true, true, true, true, false] rfl rfl (by kernel_rfl) (by decide) (fun K_ hK_ => ?_)
    refine own_store_step rfl rfl (w1 := (World.setCell (World.setCell (World.setCell w10 ⟨g2, 0, none⟩ (.int .i64 0)) ⟨g2, 1, none⟩ (.int .i64 0)) ⟨g2, 2, none⟩ (.slice none 0 0))) (N := N) (l' := [ZR g2, ZR g4, RM gm a0 p1 e1, HD gh v0 v1 8]) ?hr ?ho ?hk ?_
    (case hr => first | (go_simp; done) | (go_simp; rfl))
    (case ho => exact (((O10.out.set (i := 0) rfl 0 (.int .i64 0)).set (i := 0) rfl 1 (.int .i64 0)).set (i := 0) rfl 2 (.slice none 0 0)))
    (case hk => exact (((KeepS.setCell (O10.out.far (i := 0) rfl) (.int .i64 0)).trans (KeepS.setCell (O10.out.far (i := 0) rfl) (.int .i64 0))).trans (KeepS.setCell (O10.out.far (i := 0) rfl) (.slice none 0 0))))
    intro w11 o_ k_
    have O11 : Aside0 (Own N w11 [ZR g2, ZR g4, RM gm a0 p1 e1, HD gh v0 v1 8]) := ⟨o_⟩
    have K11 : Aside0 (KeepS N w w11) := ⟨K10.out.trans k_⟩
    clear a0a a0b a0c b0 a1a a1b a1c b1 a2a a2b a2c b2 a3a a3b a3c b3 O10 K10
    obtain ⟨a0a, a0b, a0c, b0⟩ := blk3_ (O11.out.blk (i := 0) rfl)
    obtain ⟨a1a, a1b, a1c, b1⟩ := blk3_ (O11.out.blk (i := 1) rfl)
    obtain ⟨a2a, a2b, a2c, b2⟩ := blk3_ (O11.out.blk (i := 2) rfl)
    obtain ⟨a3a, a3b, a3c, b3⟩ := blk3_ (O11.out.blk (i := 3) rfl)
    clear o_ k_
    clear hHeld
    refine hK_.out _ _ ⟨((blk_cell (O11.out.blk (i := 1) rfl) 0).trans rfl), ((blk_cell (O11.out.blk (i := 1) rfl) 1).trans rfl), ((blk_cell (O11.out.blk (i := 1) rfl) 2).trans rfl), ((blk_cell (O11.out.blk (i := 2) rfl) 2).trans rfl)⟩ (fun hHeld => ?_)
    clear hK_ K_
    refine pure_ (i := 6) (N := some 3) (v := ?_) (a' := ?_) #[true, true, true, true, true, true, true] rfl rfl (by kernel_rfl) (fun _ _ _ h => h) (Or.inl ⟨by rfl, ?_⟩) ?_ ?_
    rotate_left
    ·intro w'
     go_simp
     with_reducible rfl
    rotate_left
    ·simp only [Act.put, List.setIfInBounds_toArray, List.set_cons_zero, List.set_cons_succ, i64_w, i32_w]
     rfl
    refine done_ (by kernel_rfl) ?_
    clear hHeld
    go_wp2
    have hgr := HGR.out
    rw [show getR a0 = noR e1 by unfold getR; rw [HH0.out]; refine (if_neg (fun h_ => h_ rfl)).trans ?_; simp only; unfold getR1; rw [HH1.out]; exact if_pos HE.out] at hgr
    unfold noR at hgr
    simp only [Prod.mk.injEq] at hgr
    obtain ⟨rfl, rfl, rfl, rfl⟩ := hgr
    refine bodyPost_ret (results_ct rfl _ _ g2 24 #[.int .i64 0, .int .i64 0, .slice none 0 0] (0, 0) _ rfl (O11.out.blk (i := 0) rfl) Tryd.underlying24 rfl (by kernel_rfl)) rfl ?_
    exact ⟨_, rfl, Kd.R_nil _ _ _ _ _, (K11.out.below (Nat.le_refl _) (fun k hk => by rw [HN.out]; exact hk))⟩
 ·have heb : (e0 == 0) = false := beq_eq_false_iff_ne.2 he
  have hen : (e0 != 0) = true := bne_iff_ne.2 he
  have HH0 : Aside0 (headR a0 0 64 = (v0, p0, e0)) := ⟨by unfold headR; rw [HQ0.out]; simp only; rw [if_neg he]⟩
  have HE := Aside0.mk he
  clear he
  go_wp2_with (first | ((with_reducible refine gate_callee (f := 36) rfl ?_); refine goesL_ (some 28) rfl rfl Tryd.func36 (by kernel_rfl) rfl #[.pointer (some ⟨gm, 0, none⟩), .int .i64 64] rfl (by (try simp only [List.map_toArray, List.map_cons, List.map_nil]); first | done | rfl) ?_; obtain ⟨N_, on_, nn_, rr_, bb_⟩ := O5.out.frame1 (i := 2) rfl; refine (rNum (K5.out.below (Nat.le_refl _) (fun k hk => by rw [HN.out]; exact hk)) (Nat.le_of_not_lt (fun q_ => (O5.out.far (i := 2) rfl) (by rw [HN.out]; exact q_))) HSZ.out 64 v0 p0 e0 HQ0.out on_).mono ?_; rintro e_ w6 ⟨rfl, oo_, kk_⟩; obtain ⟨o_, k_⟩ := bb_ _ _ _ kk_ oo_; refine ⟨_, rfl, ?_⟩; have O6 : Aside0 (Own N w6 [ZR g2, ZR g4, RM gm a0 p0 e0, HD gh 64 1099511627776 8]) := ⟨o_⟩; have K6 : Aside0 (KeepS N w w6) := ⟨K5.out.trans k_⟩; clear a0a a0b a0c b0 a1a a1b a1c b1 a2a a2b a2c b2 a3a a3b a3c b3 O5 K5; obtain ⟨a0a, a0b, a0c, b0⟩ := blk3_ (O6.out.blk (i := 0) rfl); obtain ⟨a1a, a1b, a1c, b1⟩ := blk3_ (O6.out.blk (i := 1) rfl); obtain ⟨a2a, a2b, a2c, b2⟩ := blk3_ (O6.out.blk (i := 2) rfl); obtain ⟨a3a, a3b, a3c, b3⟩ := blk3_ (O6.out.blk (i := 3) rfl); clear o_ k_ oo_ kk_ on_ nn_ rr_ bb_) | ((with_reducible refine gate_store (t := 3) (p := 29) rfl ?_); refine own_store rfl rfl rfl (w1 := (World.setCell w6 ⟨gh, 0, none⟩ (.int .i64 v0))) (N := N) (l' := [ZR g2, ZR g4, RM gm a0 p0 e0, HD gh v0 1099511627776 8]) ?hr ?ho ?hk ?_; (case hr => first | (go_simp; done) | (go_simp; rfl)); (case ho => exact (O6.out.set (i := 3) rfl 0 (.int .i64 v0))); (case hk => exact (KeepS.setCell (O6.out.far (i := 3) rfl) (.int .i64 v0))); intro w7 o_ k_; have O7 : Aside0 (Own N w7 [ZR g2, ZR g4, RM gm a0 p0 e0, HD gh v0 1099511627776 8]) := ⟨o_⟩; have K7 : Aside0 (KeepS N w w7) := ⟨K6.out.trans k_⟩; clear a0a a0b a0c b0 a1a a1b a1c b1 a2a a2b a2c b2 a3a a3b a3c b3 O6 K6; obtain ⟨a0a, a0b, a0c, b0⟩ := blk3_ (O7.out.blk (i := 0) rfl); obtain ⟨a1a, a1b, a1c, b1⟩ := blk3_ (O7.out.blk (i := 1) rfl); obtain ⟨a2a, a2b, a2c, b2⟩ := blk3_ (O7.out.blk (i := 2) rfl); obtain ⟨a3a, a3b, a3c, b3⟩ := blk3_ (O7.out.blk (i := 3) rfl); clear o_ k_))
  refine start_ (n := 7) (S := fun w' => w'.cell? ⟨g4, 0, none⟩ = some (.int .i64 0) ∧ w'.cell? ⟨g4, 1, none⟩ = some (.int .i64 0) ∧ w'.cell? ⟨g4, 2, none⟩ = some (.slice none 0 0) ∧ w'.cell? ⟨gm, 2, none⟩ = some (.int .i64 e0)) (ds := []) #[false, false, false, false, false, false, false] (by kernel_rfl) rfl rfl ⟨((blk_cell (O7.out.blk (i := 1) rfl) 0).trans rfl), ((blk_cell (O7.out.blk (i := 1) rfl) 1).trans rfl), ((blk_cell (O7.out.blk (i := 1) rfl) 2).trans rfl), ((blk_cell (O7.out.blk (i := 2) rfl) 2).trans rfl)⟩ (fun hHeld => ?_)
  obtain ⟨w8, hw_⟩ : ∃ W, W = w7.drew := ⟨_, rfl⟩
  have o_ := O7.out.drew
  have k_ : KeepS N w7 w7.drew := KeepS.drew
  rw [← hw_] at o_ k_ hHeld ⊢
  clear hw_
  have O8 : Aside0 (Own N w8 [ZR g2, ZR g4, RM gm a0 p0 e0, HD gh v0 1099511627776 8]) := ⟨o_⟩
  have K8 : Aside0 (KeepS N w w8) := ⟨K7.out.trans k_⟩
  clear a0a a0b a0c b0 a1a a1b a1c b1 a2a a2b a2c b2 a3a a3b a3c b3 O7 K7
  obtain ⟨a0a, a0b, a0c, b0⟩ := blk3_ (O8.out.blk (i := 0) rfl)
  obtain ⟨a1a, a1b, a1c, b1⟩ := blk3_ (O8.out.blk (i := 1) rfl)
  obtain ⟨a2a, a2b, a2c, b2⟩ := blk3_ (O8.out.blk (i := 2) rfl)
  obtain ⟨a3a, a3b, a3c, b3⟩ := blk3_ (O8.out.blk (i := 3) rfl)
  clear o_ k_
  refine pure_ (i := 1) (N := some 51) (v := ?_) (a' := ?_) #[false, true, false, false, false, false, false] rfl rfl (by kernel_rfl) (fun _ _ _ h => h) (Or.inl ⟨by rfl, ?_⟩) ?_ ?_
  rotate_left
  ·intro w'
   go_simp
   with_reducible rfl
  rotate_left
  ·simp only [Act.put, List.setIfInBounds_toArray, List.set_cons_zero, List.set_cons_succ, i64_w, i32_w]
   rfl
  refine pure_ (i := 2) (N := some 52) (v := ?_) (a' := ?_) #[false, true, true, false, false, false, false] rfl rfl (by kernel_rfl) (fun _ _ _ h => h) (Or.inl ⟨by rfl, ?_⟩) ?_ ?_
  rotate_left
  ·intro w'
   go_simp
   with_reducible rfl
  rotate_left
  ·simp only [Act.put, List.setIfInBounds_toArray, List.set_cons_zero, List.set_cons_succ, i64_w, i32_w]
   rfl
  refine pure_ (i := 3) (N := some 53) (v := ?_) (a' := ?_) #[false, true, true, true, false, false, false] rfl rfl (by kernel_rfl) (fun _ _ _ h => h) (Or.inl ⟨by rfl, ?_⟩) ?_ ?_
  rotate_left
  ·intro w'
   go_simp
   with_reducible rfl
  rotate_left
  ·simp only [Act.put, List.setIfInBounds_toArray, List.set_cons_zero, List.set_cons_succ, i64_w, i32_w]
   rfl
  refine take_ (i := 0) (N := some 50) (v := ?_) (a' := ?_) #[true, true, true, true, false, false, false] rfl rfl (by kernel_rfl) (fun _ _ _ h => h) (Or.inl ⟨by rfl, ?_⟩) hHeld ?_ ?_
  rotate_left
  ·rintro w' ⟨s0, s1, s2, s3⟩
   go_simp
   with_reducible rfl
  rotate_left
  ·simp only [Act.put, List.setIfInBounds_toArray, List.set_cons_zero, List.set_cons_succ, i64_w, i32_w]
   rfl
  refine take_ (i := 4) (N := some 54) (v := ?_) (a' := ?_) #[true, true, true, true, true, false, false] rfl rfl (by kernel_rfl) (fun _ _ _ h => h) (Or.inl ⟨by rfl, ?_⟩) hHeld ?_ ?_
  rotate_left
  ·rintro w' ⟨s0, s1, s2, s3⟩
   go_simp
   with_reducible rfl
  rotate_left
  ·simp only [Act.put, List.setIfInBounds_toArray, List.set_cons_zero, List.set_cons_succ, i64_w, i32_w]
   rfl
  refine one_ (i := 5) (N := none) #[true, true, true, true, true, true, false] rfl rfl (by kernel_rfl) (by decide) (fun K_ hK_ => ?_)
  refine own_store_step rfl rfl (w1 := (World.setCell (World.setCell (World.setCell w8 ⟨g2, 0, none⟩ (.int .i64 0)) ⟨g2, 1, none⟩ (.int .i64 0)) ⟨g2, 2, none⟩ (.slice none 0 0))) (N := N) (l' := [ZR g2, ZR g4, RM gm a0 p0 e0, HD gh v0 1099511627776 8]) ?hr ?ho ?hk ?_
  (case hr => first | (go_simp; done) | (go_simp; rfl))
  (case ho => exact (((O8.out.set (i := 0) rfl 0 (.int .i64 0)).set (i := 0) rfl 1 (.int .i64 0)).set (i := 0) rfl 2 (.slice none 0 0)))
  (case hk => exact (((KeepS.setCell (O8.out.far (i := 0) rfl) (.int .i64 0)).trans (KeepS.setCell (O8.out.far (i := 0) rfl) (.int .i64 0))).trans (KeepS.setCell (O8.out.far (i := 0) rfl) (.slice none 0 0))))
  intro w9 o_ k_
  have O9 : Aside0 (Own N w9 [ZR g2, ZR g4, RM gm a0 p0 e0, HD gh v0 1099511627776 8]) := ⟨o_⟩
  have K9 : Aside0 (KeepS N w w9) := ⟨K8.out.trans k_⟩
  clear a0a a0b a0c b0 a1a a1b a1c b1 a2a a2b a2c b2 a3a a3b a3c b3 O8 K8
  obtain ⟨a0a, a0b, a0c, b0⟩ := blk3_ (O9.out.blk (i := 0) rfl)
  obtain ⟨a1a, a1b, a1c, b1⟩ := blk3_ (O9.out.blk (i := 1) rfl)
  obtain ⟨a2a, a2b, a2c, b2⟩ := blk3_ (O9.out.blk (i := 2) rfl)
  obtain ⟨a3a, a3b, a3c, b3⟩ := blk3_ (O9.out.blk (i := 3) rfl)
  clear o_ k_
  clear hHeld
  refine hK_.out _ _ ⟨((blk_cell (O9.out.blk (i := 1) rfl) 0).trans rfl), ((blk_cell (O9.out.blk (i := 1) rfl) 1).trans rfl), ((blk_cell (O9.out.blk (i := 1) rfl) 2).trans rfl), ((blk_cell (O9.out.blk (i := 2) rfl) 2).trans rfl)⟩ (fun hHeld => ?_)
  clear hK_ K_
  refine pure_ (i := 6) (N := some 3) (v := ?_) (a' := ?_) #[true, true, true, true, true, true, true] rfl rfl (by kernel_rfl) (fun _ _ _ h => h) (Or.inl ⟨by rfl, ?_⟩) ?_ ?_
  rotate_left
  ·intro w'
   go_simp
   with_reducible rfl
  rotate_left
  ·simp only [Act.put, List.setIfInBounds_toArray, List.set_cons_zero, List.set_cons_succ, i64_w, i32_w]
   rfl
  refine done_ (by kernel_rfl) ?_
  clear hHeld
  go_wp2
  have hgr := HGR.out
  rw [show getR a0 = noR e0 by unfold getR; rw [HH0.out]; exact if_pos HE.out] at hgr
  unfold noR at hgr
  simp only [Prod.mk.injEq] at hgr
  obtain ⟨rfl, rfl, rfl, rfl⟩ := hgr
  refine bodyPost_ret (results_ct rfl _ _ g2 24 #[.int .i64 0, .int .i64 0, .slice none 0 0] (0, 0) _ rfl (O9.out.blk (i := 0) rfl) Tryd.underlying24 rfl (by kernel_rfl)) rfl ?_
  exact ⟨_, rfl, Kd.R_nil _ _ _ _ _, (K9.out.below (Nat.le_refl _) (fun k hk => by rw [HN.out]; exact hk))⟩
end Go.Proofs.YtfpegjdplggkpaaDoor.Q
