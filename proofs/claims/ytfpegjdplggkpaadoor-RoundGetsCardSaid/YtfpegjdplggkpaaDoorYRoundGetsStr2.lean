/- What stands at a place if a Reader reads there without an error; what it tells at a beginning that is cut off. -/
import Derived.Test.YtfpegjdplggkpaaDoorYRoundGetsRd
import Derived.Test.YtfpegjdplggkpaaDoorYRoundGetsWr3
namespace Go.Proofs.YtfpegjdplggkpaaDoor.Pure
set_option linter.unusedSimpArgs false
set_option linter.unusedVariables false
open Go Go.RowKit Go.Proofs.YtfpegjdplggkpaaDoorW.PrintWords Go.Proofs.YtfpegjdplggkpaaDoorW.PrintLast Go.Proofs.YtfpegjdplggkpaaDoorW.PrintMore Go.Proofs.YtfpegjdplggkpaaDoor.Q
theorem bt_mid (b : ByteArray) (p q i : Nat) (hi : p + i < q) (hq : q ≤ b.size) : bt (b.extract p q) i = bt b ((p : Int) + i) := by
 unfold bt
 rw [dif_pos (by rw [ByteArray.size_extract]; omega), dif_pos (by omega)]
 simp only [ByteArray.getElem_extract]
 congr 3
def Str (b : ByteArray) (p : Int) (s : ByteArray) : Prop := 0 ≤ p ∧ p + s.size ≤ b.size ∧ ∀ i : Nat, i < s.size → bt b (p + i) = bt s i
theorem Str.ext {b s : ByteArray} {p : Int} (h : Str b p s) : b.extract p.toNat (p + s.size).toNat = s := by
 obtain ⟨h0, h1, h2⟩ := h
 apply bytes_ext
 ·rw [ByteArray.size_extract]; omega
 ·intro i hi
  rw [ByteArray.size_extract] at hi
  rw [bt_mid b _ _ i (by omega) (by omega), ← h2 i (by omega), Int.toNat_of_nonneg h0]
theorem Str.of_ext (b : ByteArray) {p q : Int} (h0 : 0 ≤ p) (h1 : p ≤ q) (h2 : q ≤ b.size) : Str b p (b.extract p.toNat q.toNat) := by
 have hz : ((b.extract p.toNat q.toNat).size : Int) = q - p := by rw [ByteArray.size_extract]; omega
 refine ⟨h0, by omega, fun i hi => ?_⟩
 rw [bt_mid b _ _ i (by omega) (by omega), Int.toNat_of_nonneg h0]
theorem Str.none {b : ByteArray} {p : Int} (h0 : 0 ≤ p) (h1 : p ≤ b.size) : Str b p nil' := ⟨h0, by show p + ((0 : Nat) : Int) ≤ b.size; omega, fun i hi => absurd hi (Nat.not_lt_zero _)⟩
theorem Str.all {b s : ByteArray} (h : Str b 0 s) (hz : s.size = b.size) : b = s := by
 have := h.ext
 rw [show ((0 : Int) + s.size).toNat = b.size by omega] at this
 rw [← this]
 apply bytes_ext
 ·rw [ByteArray.size_extract]; simp
 ·intro i hi
  exact (bt_take b b.size i hi (Nat.le_refl _)).symm
abbrev enc (n : Int) : ByteArray := strOfNums (encL n)
theorem enc_sz (n : Int) : ((enc n).size : Int) = szL n := by rw [strOfNums_size, encL_len]
theorem Str.at_ {b : ByteArray} {p n : Int} (h0 : 0 ≤ n) (h1 : n < 4611686018427387904) (h : Str b p (enc n)) : At b p (encL n) := by
 obtain ⟨a, c, d⟩ := h
 rw [strOfNums_size] at c d
 refine ⟨a, c, fun i hi => ?_⟩
 have hb := encL_byte n h0 h1 i hi
 rw [d i hi, bt_str _ i hi hb.1 hb.2]
end Go.Proofs.YtfpegjdplggkpaaDoor.Pure
namespace Go.Proofs.YtfpegjdplggkpaaDoor.Pure
set_option linter.unusedSimpArgs false
set_option linter.unusedVariables false
open Go Go.RowKit Go.Proofs.YtfpegjdplggkpaaDoorW.PrintWords Go.Proofs.YtfpegjdplggkpaaDoorW.PrintLast Go.Proofs.YtfpegjdplggkpaaDoorW.PrintMore Go.Proofs.YtfpegjdplggkpaaDoor.Q
theorem Str.of_drop {b s : ByteArray} {p : Int} (h0 : 0 ≤ p) (h1 : p ≤ b.size) (h : Str (b.extract p.toNat b.size) 0 s) : Str b p s := by
 obtain ⟨_, a, c⟩ := h
 rw [ByteArray.size_extract] at a
 refine ⟨h0, by omega, fun i hi => ?_⟩
 rw [← c i hi, bt_extract b p (0 + i) h0 (by omega) (by omega)]
 congr 1
 omega
theorem valL_drop (b : ByteArray) (p f : Int) (h0 : 0 ≤ p) (h1 : p + tw f ≤ b.size) : valL (b.extract p.toNat b.size) 0 (tw f) = valL b p (tw f) := by
 have e : ∀ i : Int, 0 ≤ i → p + i < b.size → bt (b.extract p.toNat b.size) (0 + i) = bt b (p + i) := fun i a c => by rw [Int.zero_add]; exact bt_extract b p i h0 a c
 have e0 : 0 < tw f → bt (b.extract p.toNat b.size) 0 = bt b p := fun hp => by have := e 0 (by omega) (by omega); simpa using this
 rcases tw_cases f with ⟨_, k⟩ | ⟨_, _, k⟩ | ⟨_, _, k⟩ | ⟨_, k⟩ <;> rw [k] at h1 e0 ⊢ <;> unfold valL
 ·rw [if_pos rfl, if_pos rfl, e0 (by omega)]
 ·rw [if_neg (by decide), if_pos rfl, if_neg (by decide), if_pos rfl, e0 (by omega), e 1 (by omega) (by omega)]
 ·rw [if_neg (by decide), if_neg (by decide), if_pos rfl, if_neg (by decide), if_neg (by decide), if_pos rfl, e0 (by omega), e 1 (by omega) (by omega), e 2 (by omega) (by omega), e 3 (by omega) (by omega)]
 ·rw [if_neg (by decide), if_neg (by decide), if_neg (by decide), if_neg (by decide), if_neg (by decide), if_neg (by decide), e0 (by omega), e 1 (by omega) (by omega), e 2 (by omega) (by omega), e 3 (by omega) (by omega), e 4 (by omega) (by omega), e 5 (by omega) (by omega), e 6 (by omega) (by omega), e 7 (by omega) (by omega)]
theorem get_inv (b : ByteArray) (p : Int) (h : (getL b p).2.2 = 0) : Str b p (enc (getL b p).1) ∧ (getL b p).2.1 = p + (enc (getL b p).1).size := by
 have ht := tw_cases (bt b p)
 have hv := valL_range b p (bt b p)
 unfold getL at h ⊢
 by_cases c1 : p < 0 ∨ (b.size : Int) < p
 ·rw [if_pos c1] at h; simp at h
 rw [if_neg c1] at h ⊢
 by_cases c2 : p = b.size ∨ (b.size : Int) - p < tw (bt b p)
 ·rw [if_pos c2] at h; simp at h
 rw [if_neg c2] at h ⊢
 by_cases c3 : szL (valL b p (tw (bt b p))) = tw (bt b p)
 ·rw [if_pos c3]
  simp only
  have f0 : bt (b.extract p.toNat b.size) 0 = bt b p := by have := bt_extract b p 0 (by omega) (by omega) (by omega); simpa using this
  have fv := valL_drop b p (bt b p) (by omega) (by omega)
  have sz : ((b.extract p.toNat b.size).size : Int) = b.size - p := by rw [ByteArray.size_extract]; omega
  have e := enc_of_get (b.extract p.toNat b.size) (by rw [f0]; omega) (by rw [f0, fv]; exact c3)
  rw [f0, fv] at e
  refine ⟨?_, by rw [enc_sz, c3]⟩
  apply Str.of_drop (by omega) (by omega)
  change Str _ 0 (strOfNums (encL _))
  rw [e]
  have := Str.of_ext (b.extract p.toNat b.size) (p := 0) (q := tw (bt b p)) (by omega) (by omega) (by omega)
  exact this
 ·rw [if_neg c3] at h; simp at h
theorem numR_inv {b : ByteArray} {p l : Int} (h : (numR b p 0 l).2.2 = 0) : Str b p (enc (numR b p 0 l).1) ∧ (numR b p 0 l).2.1 = p + (enc (numR b p 0 l).1).size ∧ 0 ≤ (numR b p 0 l).1 ∧ (numR b p 0 l).1 ≤ capR l := by
 unfold numR at h ⊢
 rw [if_pos rfl] at h ⊢
 by_cases hg : (getL b p).2.2 = 0
 ·rw [if_pos hg] at h ⊢
  have hk := getL_ok b p hg
  have hi := get_inv b p hg
  by_cases hn : capR l < (getL b p).1
  ·rw [if_pos hn] at h; simp at h
  ·rw [if_neg hn]; exact ⟨hi.1, hi.2, hk.2.2.2.1, by simp only; omega⟩
 ·rw [if_neg hg] at h; exact absurd h hg
end Go.Proofs.YtfpegjdplggkpaaDoor.Pure
