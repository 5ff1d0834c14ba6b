/- What a Reader's calls come to, for the program and for the reference: plain functions of its bytes, its place and its error. -/
import Derived.Test.YtjmoncfgoaaekaaDoorYFeedOrderUA
import Derived.Test.YtjmoncfgoaaekaaDoorYFeedOrderPre1
import Derived.Test.YtjmoncfgoaaekaaDoorYFeedOrderPre2
import Derived.Test.YtjmoncfgoaaekaaDoorYFeedOrderQ11
import Derived.Test.YtjmoncfgoaaekaaDoorYFeedOrderQ12
namespace Go.Proofs.YtjmoncfgoaaekaaDoor.Pure
set_option linter.unusedSimpArgs false
open Go Go.RowKit Go.Proofs.YtjmoncfgoaaekaaDoorW.PrintWords Go.Proofs.YtjmoncfgoaaekaaDoorW.PrintLast Go.Proofs.YtjmoncfgoaaekaaDoorW.PrintMore Go.Proofs.YtjmoncfgoaaekaaDoor.Q
theorem getL_ok (b : ByteArray) (p : Int) (h : (getL b p).2.2 = 0) : 0 ≤ p ∧ p < (getL b p).2.1 ∧ (getL b p).2.1 ≤ b.size ∧ 0 ≤ (getL b p).1 ∧ (getL b p).1 < 4611686018427387904 := by
 have hv := valL_range b p (bt b p)
 have ht := tw_cases (bt b p)
 unfold getL at h ⊢
 by_cases c1 : p < 0 ∨ (b.size : Int) < p
 ·rw [if_pos c1] at h; simp at h
 rw [if_neg c1] at h ⊢
 by_cases c2 : p = b.size ∨ (b.size : Int) - p < tw (bt b p)
 ·rw [if_pos c2] at h; simp at h
 rw [if_neg c2] at h ⊢
 by_cases c3 : szL (valL b p (tw (bt b p))) = tw (bt b p)
 ·rw [if_pos c3]
  refine ⟨by omega, ?_, ?_, hv.1, hv.2.1⟩ <;> simp only <;> omega
 ·rw [if_neg c3] at h; simp at h
def capR (l : Int) : Int := mn (mx l 0) 1152921504606846976
theorem capR_range (l : Int) : 0 ≤ capR l ∧ capR l ≤ 1152921504606846976 := by unfold capR mn mx; split <;> split <;> omega
def numR (b : ByteArray) (p e l : Int) : Int × Int × Int :=
 if e = 0 then (if (getL b p).2.2 = 0 then (if capR l < (getL b p).1 then (0, (getL b p).2.1, 1) else ((getL b p).1, (getL b p).2.1, 0)) else (0, p, (getL b p).2.2)) else (0, p, e)
def zagV (n : Int) : Int := if n % 2 = 1 then -(n / 2) - 1 else n / 2
def sgnR (b : ByteArray) (p e : Int) : Int × Int × Int :=
 if e = 0 then (if (getL b p).2.2 = 0 then (zagV (getL b p).1, (getL b p).2.1, 0) else (0, p, (getL b p).2.2)) else (0, p, e)
def txtR (b : ByteArray) (p e l : Int) : ByteArray × Int × Int :=
 if (numR b p e l).2.2 = 0 then (if (b.size : Int) - (numR b p e l).2.1 < (numR b p e l).1 then (nil', (numR b p e l).2.1, 2) else (b.extract (numR b p e l).2.1.toNat ((numR b p e l).2.1 + (numR b p e l).1).toNat, (numR b p e l).2.1 + (numR b p e l).1, 0)) else (nil', (numR b p e l).2.1, (numR b p e l).2.2)
def endR (b : ByteArray) (p e : Int) : Int := if e = 0 then (if p < b.size then 4 else 0) else e
theorem numR_fail (b : ByteArray) {p e : Int} (l : Int) (he : e ≠ 0) : numR b p e l = (0, p, e) := by unfold numR; rw [if_neg he]
theorem sgnR_fail (b : ByteArray) {p e : Int} (he : e ≠ 0) : sgnR b p e = (0, p, e) := by unfold sgnR; rw [if_neg he]
theorem txtR_fail (b : ByteArray) {p e : Int} (l : Int) (he : e ≠ 0) : txtR b p e l = (nil', p, e) := by unfold txtR; rw [numR_fail b l he]; simp only; rw [if_neg he]
theorem numR_place (b : ByteArray) (p e l : Int) (h0 : 0 ≤ p) (h1 : p ≤ b.size) : 0 ≤ (numR b p e l).2.1 ∧ (numR b p e l).2.1 ≤ b.size ∧ p ≤ (numR b p e l).2.1 ∧ 0 ≤ (numR b p e l).1 ∧ (numR b p e l).1 ≤ capR l := by
 have hc := capR_range l
 unfold numR
 by_cases he : e = 0
 ·rw [if_pos he]
  by_cases hg : (getL b p).2.2 = 0
  ·have h := getL_ok b p hg
   rw [if_pos hg]
   by_cases hn : capR l < (getL b p).1
   ·rw [if_pos hn]; simp only; omega
   ·rw [if_neg hn]; simp only; omega
  ·rw [if_neg hg]; simp only; omega
 ·rw [if_neg he]; simp only; omega
theorem sgnR_place (b : ByteArray) (p e : Int) (h0 : 0 ≤ p) (h1 : p ≤ b.size) : 0 ≤ (sgnR b p e).2.1 ∧ (sgnR b p e).2.1 ≤ b.size ∧ p ≤ (sgnR b p e).2.1 := by
 unfold sgnR
 by_cases he : e = 0
 ·rw [if_pos he]
  by_cases hg : (getL b p).2.2 = 0
  ·have h := getL_ok b p hg
   rw [if_pos hg]; simp only; omega
  ·rw [if_neg hg]; simp only; omega
 ·rw [if_neg he]; simp only; omega
theorem txtR_place (b : ByteArray) (p e l : Int) (h0 : 0 ≤ p) (h1 : p ≤ b.size) : 0 ≤ (txtR b p e l).2.1 ∧ (txtR b p e l).2.1 ≤ b.size ∧ p ≤ (txtR b p e l).2.1 := by
 have h := numR_place b p e l h0 h1
 unfold txtR
 generalize numR b p e l = q at h ⊢
 by_cases he : q.2.2 = 0
 ·rw [if_pos he]
  by_cases hn : (b.size : Int) - q.2.1 < q.1
  ·rw [if_pos hn]; simp only; omega
  ·rw [if_neg hn]; simp only; omega
 ·rw [if_neg he]; simp only; omega
theorem pget (k : Nat) (b : ByteArray) (p e : Int) (hs : b.size ≤ 140737488351232) : pack_Reader_get.f (k + 14) b p e = some (if e = 0 then (if (getL b p).2.2 = 0 then ((getL b p).1, b, (getL b p).2.1, 0) else (0, b, p, (getL b p).2.2)) else (0, b, p, e)) := by
 unfold pack_Reader_get.f
 by_cases he : e = 0
 ·subst he
  simp only [if_true]
  rw [get_ok k b p hs, Option.bind_some]
  by_cases hg : (getL b p).2.2 = 0
  ·rw [if_pos hg, if_pos hg]
  ·rw [if_neg hg, if_neg hg]
 ·rw [if_neg he, if_neg he]
theorem pnum (k : Nat) (b : ByteArray) (p e l : Int) (hs : b.size ≤ 140737488351232) : pack_Reader_Number.f (k + 14) b p e l = some ((numR b p e l).1, b, (numR b p e l).2.1, (numR b p e l).2.2) := by
 have hc := capR_range l
 unfold pack_Reader_Number.f
 rw [pget k b p e hs, Option.bind_some]
 change (if _ > capR l then _ else _) = _
 unfold numR
 by_cases he : e = 0
 ·simp only [if_pos he]
  by_cases hg : (getL b p).2.2 = 0
  ·have h := getL_ok b p hg
   simp only [if_pos hg]
   by_cases hn : capR l < (getL b p).1
   ·rw [if_pos hn, if_pos hn]; simp [pack_Reader_Fail.f]
   ·rw [if_neg hn, if_neg hn, w64 (n := (getL b p).1) (by omega) (by omega)]
  ·simp only [if_neg hg]
   rw [if_neg (by omega), w64 (n := 0) (by omega) (by omega)]
 ·simp only [if_neg he]
  rw [if_neg (by omega), w64 (n := 0) (by omega) (by omega)]
theorem extract_none (b : ByteArray) (i : Nat) : b.extract i i = nil' := by
 apply ByteArray.ext
 simp [ByteArray.extract, ByteArray.copySlice]
 exact Nat.min_le_left _ _
theorem ptxt (k : Nat) (b : ByteArray) (p e l : Int) (hs : b.size ≤ 140737488351232) (h0 : 0 ≤ p) (h1 : p ≤ b.size) : pack_Reader_Text.f (k + 14) b p e l = some ((txtR b p e l).1, b, (txtR b p e l).2.1, (txtR b p e l).2.2) := by
 have h := numR_place b p e l h0 h1
 have hc := capR_range l
 have hz : (numR b p e l).2.2 ≠ 0 → (numR b p e l).1 = 0 := by
  unfold numR
  repeat' split
  all_goals simp
 unfold pack_Reader_Text.f txtR
 rw [pnum k b p e l hs, Option.bind_some]
 generalize numR b p e l = q at h hz ⊢
 obtain ⟨n, at_, e'⟩ := q
 simp only at h hz ⊢
 rw [w64 (n := (b.size : Int) - at_) (by omega) (by omega), w64 (n := at_ + n) (by omega) (by omega)]
 by_cases he : e' = 0
 ·rw [if_pos he]
  by_cases hn : (b.size : Int) - at_ < n
  ·rw [if_pos hn, if_pos hn]; simp [pack_Reader_Fail.f, he]
  ·rw [if_neg hn, if_neg hn, if_pos h.1, if_pos (by omega), if_pos (by omega), he]
 ·have hn := hz he
  subst hn
  rw [if_neg he, if_neg (by omega), if_pos h.1, if_pos (by omega), if_pos (by omega), Int.add_zero, extract_none]
theorem psgn (k : Nat) (b : ByteArray) (p e : Int) (hs : b.size ≤ 140737488351232) : pack_Reader_Signed.f (k + 14) b p e = some ((sgnR b p e).1, b, (sgnR b p e).2.1, (sgnR b p e).2.2) := by
 unfold pack_Reader_Signed.f
 rw [pget k b p e hs, Option.bind_some]
 unfold sgnR
 have z : prefix_Zag.f 0 = some 0 := by have := zag_ok 0 (by decide) (by decide); simpa using this
 by_cases he : e = 0
 ·simp only [if_pos he]
  by_cases hg : (getL b p).2.2 = 0
  ·have h := getL_ok b p hg
   simp only [if_pos hg]
   rw [zag_ok _ h.2.2.2.1 h.2.2.2.2, Option.bind_some]
   rfl
  ·simp only [if_neg hg]; rw [z, Option.bind_some]
 ·simp only [if_neg he]; rw [z, Option.bind_some]
theorem pend (b : ByteArray) (p e : Int) : pack_Reader_End.f b p e = some (endR b p e, b, p, endR b p e) := by
 unfold pack_Reader_End.f endR
 by_cases c : p < b.size
 ·rw [if_pos c]
  unfold pack_Reader_Fail.f
  by_cases he : e = 0
  ·rw [if_pos he, if_pos he, if_pos c]; rfl
  ·rw [if_neg he, if_neg he]; rfl
 ·rw [if_neg c]
  by_cases he : e = 0
  ·rw [if_pos he, if_neg c, he]
  ·rw [if_neg he]
end Go.Proofs.YtjmoncfgoaaekaaDoor.Pure
