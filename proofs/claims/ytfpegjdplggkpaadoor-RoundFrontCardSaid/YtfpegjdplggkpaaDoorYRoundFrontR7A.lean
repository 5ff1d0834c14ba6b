/- What Put, Get, Same and Bytes of rounds come to, for the program and for the document: plainly. -/
import Derived.Test.YtfpegjdplggkpaaDoorYRoundFrontEv
import Derived.Test.YtfpegjdplggkpaaDoorYRoundFrontRd
import Derived.Test.YtfpegjdplggkpaaDoorYRoundFrontQ4
import Derived.Test.YtfpegjdplggkpaaDoorYRoundFrontQ6
import Derived.Test.YtfpegjdplggkpaaDoorYRoundFrontQ5
import Derived.Test.YtfpegjdplggkpaaDoorYRoundFrontQ2
import Derived.Test.YtfpegjdplggkpaaDoorYRoundFrontRU
import Derived.Test.YtfpegjdplggkpaaDoorYRoundFrontQ16
import Derived.Test.YtfpegjdplggkpaaDoorYRoundFrontStr2
import Derived.Test.YtfpegjdplggkpaaDoorYRoundFrontRPut
import Derived.Test.YtfpegjdplggkpaaDoorYRoundFrontRM0
import Derived.Test.YtfpegjdplggkpaaDoorYRoundFrontQ11
import Derived.Test.YtfpegjdplggkpaaDoorYRoundFrontQ7
import Derived.Test.YtfpegjdplggkpaaDoorYRoundFrontUA
import Derived.Test.YtfpegjdplggkpaaDoorYRoundFrontPre0
import Derived.Test.YtfpegjdplggkpaaDoorYRoundFrontQ12
import Derived.Test.YtfpegjdplggkpaaDoorYRoundFrontQ14
import Derived.Test.YtfpegjdplggkpaaDoorYRoundFrontQ13
import Derived.Test.YtfpegjdplggkpaaDoorYRoundFrontQ15
import Derived.Test.YtfpegjdplggkpaaDoorYRoundFrontQ8
import Derived.Test.YtfpegjdplggkpaaDoorYRoundFrontQ9
namespace Go.Proofs.YtfpegjdplggkpaaDoor.Sep
set_option linter.unusedSimpArgs false
set_option linter.unusedVariables false
open Go Go.RowKit Go.Proofs.YtfpegjdplggkpaaDoorW.PrintWords Go.Proofs.YtfpegjdplggkpaaDoorW.PrintLast Go.Proofs.YtfpegjdplggkpaaDoorW.PrintMore
section
variable {α β : Type} {d : Kd α} {e : Nat} {base : Nat} {ok : Nat → Prop} {w w' : World} {xs : List α} {v u : Value} {g f n c : Nat}
def Loose (d : Kd α) : Prop := ∀ {w w' : World} {base : Nat} {ok : Nat → Prop} {x : α} {cs : List Value}, d.K w x cs → d.M w' base ok x cs
theorem list_choose {P : Nat → α → Prop} (m : Nat) (h : ∀ j, j < m → ∃ x, P j x) : ∃ l : List α, l.length = m ∧ ∀ j x, l[j]? = some x → P j x := by
  induction m with
  | zero => exact ⟨[], rfl, fun j x hj => by simp at hj⟩
  | succ m ih =>
    obtain ⟨l, hl, hp⟩ := ih (fun j hj => h j (by omega))
    obtain ⟨x, hx⟩ := h m (by omega)
    refine ⟨l ++ [x], by rw [List.length_append, hl]; rfl, fun j y hj => ?_⟩
    rcases Nat.lt_or_ge j l.length with hlt | hge
    · rw [List.getElem?_append_left hlt] at hj
      exact hp j y hj
    · rw [List.getElem?_append_right hge] at hj
      have hj0 : j - l.length = 0 := by
        have := (List.getElem?_eq_some_iff.1 hj).1
        simp at this
        omega
      rw [hj0] at hj
      simp only [List.getElem?_cons_zero, Option.some.injEq] at hj
      subst hj
      rw [show j = m by omega]
      exact hx
theorem chunk_same (l : List Value) (i sz f : Nat) (u : Value) : ((l.set (i * sz + f) u).drop (i * sz)).take sz = ((l.drop (i * sz)).take sz).set f u := by
  rw [List.drop_set, if_neg (by omega), List.take_set, Nat.add_sub_cancel_left]
theorem chunk_other (l : List Value) (i j sz f : Nat) (u : Value) (hf : f < sz) (hij : j ≠ i) : ((l.set (i * sz + f) u).drop (j * sz)).take sz = (l.drop (j * sz)).take sz := by
  rw [List.drop_set]
  split
  · rfl
  · rename_i h
    have h2 : j < i := by
      rcases Nat.lt_or_ge j i with h3 | h3
      · exact h3
      · have : i + 1 ≤ j := by omega
        have := Nat.mul_le_mul_right sz this
        rw [Nat.add_mul, Nat.one_mul] at this
        omega
    have h4 : (j + 1) * sz ≤ i * sz := Nat.mul_le_mul_right sz h2
    rw [Nat.add_mul, Nat.one_mul] at h4
    rw [List.take_set, List.set_eq_of_length_le]
    rw [List.length_take]
    omega
def Puts (d : Kd α) (f : Nat) (u : Value) : Prop := ∀ {w : World} {x : α} {cs : List Value}, d.K w x cs → ∃ x', d.K w x' (cs.set f u)
theorem R_put (hd : Loose d) (hu : Puts d f u) (hf : f < d.sz) (h : d.R e w base ok v xs) (i : Nat) : ∃ xs', xs'.length = xs.length ∧ d.R e (w.setCell ⟨g, i * d.sz + f, none⟩ u) base ok v xs' := by
  obtain ⟨h0, inner, ho, hr⟩ := h
  by_cases hg : v.ownBlock = some g
  · rcases ho.2 with ⟨rfl, _⟩ | ⟨g', cap, cur, rfl, _⟩
    · simp [Value.ownBlock] at hg
    have : g' = g := by simpa [Value.ownBlock] using hg
    subst this
    have hst := (ho.stored (i * d.sz + f) u).1
    obtain ⟨xs', hl, hx⟩ := list_choose (P := fun j x => d.M (w.setCell ⟨g', i * d.sz + f, none⟩ u) base (fun k => ok k ∧ some k ≠ Value.ownBlock (.slice (some ⟨g', 0, none⟩) xs.length cap)) x (((inner.set (i * d.sz + f) u).drop (j * d.sz)).take d.sz)) xs.length (fun j hj => by
      have hm := hr.2 j _ (List.getElem?_eq_getElem hj)
      by_cases hji : j = i
      · subst hji
        rw [chunk_same]
        obtain ⟨x', hx'⟩ := hu (d.K_of_M hm)
        exact ⟨x', hd hx'⟩
      · rw [chunk_other _ _ _ _ _ _ hf hji]
        exact ⟨_, hd (d.K_of_M hm)⟩)
    exact ⟨xs', hl, h0, inner.set (i * d.sz + f) u, by rw [hl]; exact hst, by rw [List.length_set, hl]; exact hr.1, hx⟩
  · refine ⟨xs, rfl, h0, inner, own_move ho (fun k hk => Below.heap_setCell _ _ _ _ (fun e => hg (by rw [hk, e]))), hr.imp_ (fun _ _ hp => hd (d.K_of_M hp))⟩
end
section
variable {α : Type} {d : Kd α} {e : Nat} {N : Nat → Prop} {w w' W : World} {l : List HP} {i : Nat} {v u : Value} {A : Option Addr} {n c f : Nat} {xs : List α} {x : α} {cs : List Value}
end
section
variable {α : Type} {d : Kd α} {e : Nat} {N : Nat → Prop} {w : World} {l : List HP} {i B : Nat} {v : Value} {xs : List α}
end
end Go.Proofs.YtfpegjdplggkpaaDoor.Sep
namespace Go.Proofs.YtfpegjdplggkpaaDoor.Q
set_option linter.unusedSimpArgs false
set_option linter.unusedVariables false
open Go Go.RowKit Go.Proofs.YtfpegjdplggkpaaDoorW.PrintWords Go.Proofs.YtfpegjdplggkpaaDoorW.PrintLast Go.Proofs.YtfpegjdplggkpaaDoorW.PrintMore Go.Proofs.YtfpegjdplggkpaaDoor.Sep Go.Proofs.YtfpegjdplggkpaaDoor.J Go.Proofs.YtfpegjdplggkpaaDoor.Pure
attribute [local go_sem] max2_int min2_int max_two min_two max_three min_three max_four min_four
def headR (b : ByteArray) (p lim : Int) : Int × Int × Int := ((numR b p 0 lim).1, (numR b p 0 lim).2.1, if (numR b p 0 lim).2.2 = 0 then (if (numR b p 0 lim).1 = 0 then 1 else 0) else (numR b p 0 lim).2.2)
def updR (b : ByteArray) (p : Int) : S47 := ⟨(readU b p 0).1, (readU b p 0).2.1, (readU b p 0).2.2.1, (readU b p 0).2.2.2.1⟩
def upsR (b : ByteArray) : Nat → Int → List S47 × Int × Int
  | 0, p => ([], p, 0)
  | n + 1, p => if (readU b p 0).2.2.2.2.2 = 0 then (updR b p :: (upsR b n (readU b p 0).2.2.2.2.1).1, (upsR b n (readU b p 0).2.2.2.2.1).2) else ([], (readU b p 0).2.2.2.2.1, (readU b p 0).2.2.2.2.2)
def noR (e : Int) : Int × Int × List S47 × Int := (0, 0, [], e)
def getR3 (b : ByteArray) (o n : Int) (u : List S47 × Int × Int) : Int × Int × List S47 × Int :=
  if u.2.2 ≠ 0 then noR u.2.2 else if endR b u.2.1 0 ≠ 0 then noR (endR b u.2.1 0) else (o, n, u.1, 0)
def getR2 (b : ByteArray) (o n : Int) (m : Int × Int × Int) : Int × Int × List S47 × Int := if m.2.2 ≠ 0 then noR m.2.2 else getR3 b o n (upsR b m.1.toNat m.2.1)
def getR1 (b : ByteArray) (o : Int) (n : Int × Int × Int) : Int × Int × List S47 × Int := if n.2.2 ≠ 0 then noR n.2.2 else getR2 b o n.1 (headR b n.2.1 8)
def getR (b : ByteArray) : Int × Int × List S47 × Int := if (headR b 0 64).2.2 ≠ 0 then noR (headR b 0 64).2.2 else getR1 b (headR b 0 64).1 (headR b (headR b 0 64).2.1 1099511627776)
theorem readU_placeG (b : ByteArray) (p e : Int) (h0 : 0 ≤ p) (h1 : p ≤ b.size) : 0 ≤ (readU b p e).2.2.2.2.1 ∧ (readU b p e).2.2.2.2.1 ≤ b.size := by
  have hn := numR_place b p e 5 h0 h1
  unfold readU keyU tailU noU
  (repeat' split) <;> first | exact ⟨hn.1, hn.2.1⟩ | skip
  all_goals
    first
      | exact ⟨(txtR_place b _ 0 16 hn.1 hn.2.1).1, (txtR_place b _ 0 16 hn.1 hn.2.1).2.1⟩
      | exact ⟨(sgnR_place b _ 0 (txtR_place b _ 0 16 hn.1 hn.2.1).1 (txtR_place b _ 0 16 hn.1 hn.2.1).2.1).1, (sgnR_place b _ 0 (txtR_place b _ 0 16 hn.1 hn.2.1).1 (txtR_place b _ 0 16 hn.1 hn.2.1).2.1).2.1⟩
      | exact ⟨(txtR_place b _ 0 32 (txtR_place b _ 0 16 hn.1 hn.2.1).1 (txtR_place b _ 0 16 hn.1 hn.2.1).2.1).1, (txtR_place b _ 0 32 (txtR_place b _ 0 16 hn.1 hn.2.1).1 (txtR_place b _ 0 16 hn.1 hn.2.1).2.1).2.1⟩
abbrev HD (g : Nat) (a b c : Int) : HP := cells g #[.int .i64 a, .int .i64 b, .int .i64 c] 3
end Go.Proofs.YtfpegjdplggkpaaDoor.Q
namespace Go.Proofs.YtfpegjdplggkpaaDoor.Pure
set_option linter.unusedSimpArgs false
set_option linter.unusedVariables false
open Go Go.RowKit Go.Proofs.YtfpegjdplggkpaaDoorW.PrintWords Go.Proofs.YtfpegjdplggkpaaDoorW.PrintLast Go.Proofs.YtfpegjdplggkpaaDoorW.PrintMore Go.Proofs.YtfpegjdplggkpaaDoor.Q
def bytesR (o n : Int) (l : List Upd) : ByteArray := headB o n l.length ++ catB l
def putR (o n : Int) (l : List Upd) : ByteArray × Int := if mayR o n l = 0 then (bytesR o n l, 0) else (nil', mayR o n l)
theorem pputR (o n : Int) (l : List Upd) : round_Put.f o n l = some (putR o n l) := by
  unfold round_Put.f putR
  rw [pmay 0, Option.bind_some]
  by_cases h : mayR o n l = 0
  · obtain ⟨h1, h2, h3, h4, h5, h6, h7⟩ := mayR_zero h
    rw [if_pos h, if_pos h, headW_ok (by omega) (by omega) (by omega) (by omega) (by omega) (by omega), addsW_ok _ _ h7]
    rfl
  · rw [if_neg h, if_neg h]
theorem bytesR_size {o n : Int} {l : List Upd} (h : mayR o n l = 0) : (bytesR o n l).size ≤ 664 := by
  obtain ⟨h1, h2, h3, h4, h5, h6, h7⟩ := mayR_zero h
  unfold bytesR
  have := headB_size o n l.length
  have := catB_size l h7
  rw [ByteArray.size_append]
  omega
theorem pfailP (b : ByteArray) (p e a : Int) : pack_Reader_Fail.f b p e a = some (b, p, if e = 0 then a else e) := by unfold pack_Reader_Fail.f; split <;> rfl
theorem head_bad {b : ByteArray} {p l : Int} (h : (headR b p l).2.2 ≠ 0) : (headR b p l).1 = 0 := by
  unfold headR at h ⊢
  simp only at h ⊢
  by_cases he : (numR b p 0 l).2.2 = 0
  · rw [if_pos he] at h
    by_cases hv : (numR b p 0 l).1 = 0
    · exact hv
    · rw [if_neg hv] at h; exact absurd rfl h
  · unfold numR at he ⊢
    repeat' split
    all_goals first | rfl | (simp_all; done)
theorem psome0 (k : Nat) (b : ByteArray) (p l : Int) (hs : b.size ≤ 140737488351232) : round_some.f (k + 14) b p 0 l = some ((headR b p l).1, b, (headR b p l).2.1, (headR b p l).2.2) := by
  unfold round_some.f
  rw [pnum k b p 0 l hs, Option.bind_some]
  simp only
  unfold headR
  by_cases hv : (numR b p 0 l).1 = 0
  · rw [if_pos hv, pfailP, Option.bind_some]
    simp only
    rw [if_pos hv]
  · rw [if_neg hv]
    simp only
    rw [if_neg hv]
    by_cases he : (numR b p 0 l).2.2 = 0
    · rw [if_pos he, he]
    · rw [if_neg he]
theorem psomeE (k : Nat) (b : ByteArray) (p e l : Int) (hs : b.size ≤ 140737488351232) (he : e ≠ 0) : round_some.f (k + 14) b p e l = some (0, b, p, e) := by
  unfold round_some.f
  rw [pnum k b p e l hs, Option.bind_some, numR_fail b l he]
  simp only
  rw [if_pos trivial, pfailP, Option.bind_some, if_neg he]
theorem readU_fail (b : ByteArray) {p e : Int} (he : e ≠ 0) : readU b p e = noU p e := by
  unfold readU
  rw [numR_fail b 5 he]
  simp only
  rw [if_neg he]
theorem get_loopE (b : ByteArray) (hs : b.size ≤ 140737488351232) (o n m p e : Int) (h0 : 0 ≤ p) (h1 : p ≤ b.size) (he : e ≠ 0) (hm : m ≤ 100) : ∀ (d k : Nat) (x : Int) (acc : List Upd), 0 ≤ x → m - x ≤ d → d + 20 ≤ k → acc.length + d ≤ 1000 → round_Get.l0 k m x b p e o n acc = some (noR e) := by
  intro d
  induction d with
  | zero =>
    intro k x acc hx hd hk ha
    obtain ⟨k, rfl⟩ : ∃ q, k = q + 1 := ⟨k - 1, by omega⟩
    simp only [round_Get.l0]
    rw [if_neg (by omega), pend, Option.bind_some]
    simp only
    rw [show endR b p e = e by unfold endR; rw [if_neg he], if_neg he]
    rfl
  | succ d ih =>
    intro k x acc hx hd hk ha
    obtain ⟨k, rfl⟩ : ∃ q, k = q + 1 := ⟨k - 1, by omega⟩
    simp only [round_Get.l0]
    by_cases hlt : x < m
    · obtain ⟨k, rfl⟩ : ∃ q, k = q + 18 := ⟨k - 18, by omega⟩
      rw [if_pos hlt, pread k b p e hs h0 h1, Option.bind_some, readU_fail b he]
      simp only [outU, noU]
      rw [if_pos (by omega), show wrap64 (x + 1) = x + 1 by unfold wrap64; omega]
      exact ih (k + 18) (x + 1) _ (by omega) (by omega) (by omega) (by rw [List.length_append, List.length_singleton]; omega)
    · rw [if_neg hlt, pend, Option.bind_some]
      simp only
      rw [show endR b p e = e by unfold endR; rw [if_neg he], if_neg he]
      rfl
theorem get_loop (b : ByteArray) (hs : b.size ≤ 140737488351232) (o n : Int) : ∀ (d k : Nat) (x p : Int) (acc : List Upd), 0 ≤ p → p ≤ b.size → 0 ≤ x → x + d ≤ 100 → d + 20 ≤ k → acc.length + d ≤ 1000 → round_Get.l0 k (x + d) x b p 0 o n acc = some (getR3 b o n (acc ++ (upsR b d p).1, (upsR b d p).2)) := by
  intro d
  induction d with
  | zero =>
    intro k x p acc h0 h1 hx hd hk ha
    obtain ⟨k, rfl⟩ : ∃ q, k = q + 1 := ⟨k - 1, by omega⟩
    simp only [round_Get.l0]
    rw [if_neg (by omega), pend, Option.bind_some]
    simp only [upsR, getR3, List.append_nil]
    by_cases hq : endR b p 0 = 0
    · rw [if_pos hq, if_neg (fun h => h rfl), if_neg (fun h => h hq)]
    · rw [if_neg hq, if_neg (fun h => h rfl), if_pos hq]
      rfl
  | succ d ih =>
    intro k x p acc h0 h1 hx hd hk ha
    obtain ⟨k, rfl⟩ : ∃ q, k = q + 1 := ⟨k - 1, by omega⟩
    simp only [round_Get.l0]
    obtain ⟨k, rfl⟩ : ∃ q, k = q + 18 := ⟨k - 18, by omega⟩
    have hp := readU_placeG b p 0 h0 h1
    rw [if_pos (by omega), pread k b p 0 hs h0 h1, Option.bind_some]
    simp only [outU]
    rw [if_pos (by omega), show wrap64 (x + 1) = x + 1 by unfold wrap64; omega]
    by_cases he : (readU b p 0).2.2.2.2.2 = 0
    · rw [he, show x + ((d + 1 : Nat) : Int) = (x + 1) + d by omega, ih (k + 18) (x + 1) _ _ hp.1 hp.2 (by omega) (by omega) (by omega) (by rw [List.length_append, List.length_singleton]; omega)]
      have e : upsR b (d + 1) p = (updR b p :: (upsR b d (readU b p 0).2.2.2.2.1).1, (upsR b d (readU b p 0).2.2.2.2.1).2) := by
        show (if _ then _ else _) = _
        rw [if_pos he]
      rw [e]
      simp [updR]
    · rw [get_loopE b hs o n _ _ _ hp.1 hp.2 he (by omega) d (k + 18) (x + 1) _ (by omega) (by omega) (by omega) (by rw [List.length_append, List.length_singleton]; omega)]
      have e : upsR b (d + 1) p = ([], (readU b p 0).2.2.2.2.1, (readU b p 0).2.2.2.2.2) := by
        show (if _ then _ else _) = _
        rw [if_neg he]
      rw [e]
      unfold getR3
      simp only
      rw [if_pos he]
theorem head_place (b : ByteArray) (p l : Int) (h0 : 0 ≤ p) (h1 : p ≤ b.size) : 0 ≤ (headR b p l).2.1 ∧ (headR b p l).2.1 ≤ b.size ∧ 0 ≤ (headR b p l).1 ∧ (headR b p l).1 ≤ capR l := by
  have := numR_place b p 0 l h0 h1
  exact ⟨this.1, this.2.1, this.2.2.2.1, this.2.2.2.2⟩
theorem cap8 : capR 8 = 8 := by decide
theorem pgetR (k : Nat) (b : ByteArray) (hs : b.size ≤ 140737488351232) : round_Get.f (k + 40) b = some (getR b) := by
  unfold round_Get.f
  rw [show pack_Read.f b = some (b, 0, 0) from rfl, Option.bind_some]
  simp only
  rw [psome0 (k + 26) b 0 64 hs, Option.bind_some]
  simp only
  have h1 := head_place b 0 64 (by omega) (by omega)
  unfold getR
  by_cases e1 : (headR b 0 64).2.2 = 0
  · rw [e1, if_neg (fun h => h rfl), psome0 (k + 26) b _ 1099511627776 hs, Option.bind_some]
    simp only
    have h2 := head_place b (headR b 0 64).2.1 1099511627776 h1.1 h1.2.1
    unfold getR1
    generalize headR b (headR b 0 64).2.1 1099511627776 = q at h2 ⊢
    by_cases e2 : q.2.2 = 0
    · rw [e2, if_neg (fun h => h rfl), psome0 (k + 26) b _ 8 hs, Option.bind_some]
      simp only
      have h3 := head_place b q.2.1 8 h2.1 h2.2.1
      rw [cap8] at h3
      have hb := @head_bad b q.2.1 8
      unfold getR2
      generalize headR b q.2.1 8 = m at h3 hb ⊢
      by_cases e3 : m.2.2 = 0
      · rw [e3, if_neg (fun h => h rfl)]
        have := get_loop b hs (headR b 0 64).1 q.1 m.1.toNat (k + 40) 0 m.2.1 [] h3.1 h3.2.1 (by omega) (by omega) (by omega) (by simp; omega)
        rw [show (0 : Int) + (m.1.toNat : Int) = m.1 by omega] at this
        rw [this, List.nil_append]
      · rw [if_pos e3, hb e3]
        exact get_loopE b hs _ _ 0 _ _ h3.1 h3.2.1 e3 (by omega) 0 (k + 40) 0 [] (by omega) (by omega) (by omega) (by simp)
    · rw [if_pos e2, psomeE (k + 26) b _ _ 8 hs e2, Option.bind_some]
      exact get_loopE b hs _ _ 0 _ _ h2.1 h2.2.1 e2 (by omega) 0 (k + 40) 0 [] (by omega) (by omega) (by omega) (by simp)
  · rw [if_pos e1, psomeE (k + 26) b _ _ _ hs e1, Option.bind_some]
    simp only
    rw [psomeE (k + 26) b _ _ _ hs e1, Option.bind_some]
    exact get_loopE b hs _ _ 0 _ _ h1.1 h1.2.1 e1 (by omega) 0 (k + 40) 0 [] (by omega) (by omega) (by omega) (by simp)
theorem great1 (k : ByteArray) (c n : Int) (s : ByteArray) : ∃ b, chapbookref04_Great.f k c n s = some b := by
  unfold chapbookref04_Great.f
  split
  · exact ⟨_, rfl⟩
  · exact ⟨_, rfl⟩
theorem greatA_loop (l : List Upd) (hl : l.length ≤ 9223372036854775807) : ∀ (d k : Nat) (x : Int), 0 ≤ x → x ≤ l.length → (l.length : Int) - x = d → d + 1 ≤ k → ∃ b, chapbookref04_GreatAll.l0 k l x = some b := by
  intro d
  induction d with
  | zero =>
    intro k x h0 h1 hd hk
    obtain ⟨k, rfl⟩ : ∃ m, k = m + 1 := ⟨k - 1, by omega⟩
    simp only [chapbookref04_GreatAll.l0]
    rw [if_neg (by omega)]
    exact ⟨_, rfl⟩
  | succ d ih =>
    intro k x h0 h1 hd hk
    obtain ⟨k, rfl⟩ : ∃ m, k = m + 1 := ⟨k - 1, by omega⟩
    simp only [chapbookref04_GreatAll.l0]
    obtain ⟨b, hb⟩ := ih k (x + 1) (by omega) (by omega) (by omega) (by omega)
    rw [if_pos (by omega), if_pos h0, w64s (n := l.length) h0 (by omega) hl, hb]
    obtain ⟨g, hg⟩ := great1 (rd_T47 l x).f0 (rd_T47 l x).f1 (rd_T47 l x).f2 (rd_T47 l x).f3
    rw [hg, Option.bind_some]
    split
    · exact ⟨_, rfl⟩
    · exact ⟨_, rfl⟩
theorem greatA_ok (k : Nat) (l : List Upd) (hk : 202 ≤ k) : ∃ b, chapbookref04_GreatAll.f k l = some b ∧ (b = false → l.length ≤ 200) := by
  unfold chapbookref04_GreatAll.f
  by_cases c : (l.length : Int) > 200
  · rw [if_pos c]; exact ⟨true, rfl, by simp⟩
  · rw [if_neg c]
    obtain ⟨b, hb⟩ := greatA_loop l (by omega) l.length k 0 (by omega) (by omega) (by omega) (by omega)
    exact ⟨b, hb, fun _ => by omega⟩
theorem greatR_ok (k : Nat) (o n : Int) (l : List Upd) (hk : 202 ≤ k) : ∃ b, chapbookref07_Great.f k o n l = some b ∧ (b = false → l.length ≤ 20) := by
  unfold chapbookref07_Great.f
  by_cases c : (l.length : Int) > 20
  · rw [if_pos c]; exact ⟨true, rfl, by simp⟩
  · rw [if_neg c]
    obtain ⟨b, hb, _⟩ := greatA_ok k l hk
    rw [hb, Option.bind_some]
    exact ⟨b, rfl, fun _ => by omega⟩
theorem awake300 : chapbooklaw07_awake.f 300 = some true := by kernel_rfl
theorem awake299 : chapbooklaw07_awake.f 299 = some true := by kernel_rfl
end Go.Proofs.YtfpegjdplggkpaaDoor.Pure
