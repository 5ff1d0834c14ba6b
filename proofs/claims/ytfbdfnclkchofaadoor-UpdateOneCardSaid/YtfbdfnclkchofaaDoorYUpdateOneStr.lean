/- Bytes that stand at a place of other bytes; what a Reader reads of them; what stands there if it reads without an error; what it tells at a beginning of them that is cut off. -/
import Derived.Test.YtfbdfnclkchofaaDoorYUpdateOneRd
import Derived.Test.YtfbdfnclkchofaaDoorYUpdateOneWr3
namespace Go.Proofs.YtfbdfnclkchofaaDoor.Pure
set_option linter.unusedSimpArgs false
set_option linter.unusedVariables false
open Go Go.RowKit Go.Proofs.YtfbdfnclkchofaaDoorW.PrintWords Go.Proofs.YtfbdfnclkchofaaDoorW.PrintLast Go.Proofs.YtfbdfnclkchofaaDoorW.PrintMore Go.Proofs.YtfbdfnclkchofaaDoor.Q
theorem bt_mid (b : ByteArray) (p q i : Nat) (hi : p + i < q) (hq : q ≤ b.size) : bt (b.extract p q) i = bt b ((p : Int) + i) := by
  unfold bt
  rw [dif_pos (by rw [ByteArray.size_extract]; omega), dif_pos (by omega)]
  simp only [ByteArray.getElem_extract]
  congr 3
def Str (b : ByteArray) (p : Int) (s : ByteArray) : Prop := 0 ≤ p ∧ p + s.size ≤ b.size ∧ ∀ i : Nat, i < s.size → bt b (p + i) = bt s i
theorem Str.join {b x y : ByteArray} {p : Int} (h : Str b p x) (k : Str b (p + x.size) y) : Str b p (x ++ y) := by
  obtain ⟨h0, h1, h2⟩ := h
  obtain ⟨k0, k1, k2⟩ := k
  refine ⟨h0, by rw [ByteArray.size_append]; omega, fun i hi => ?_⟩
  rw [ByteArray.size_append] at hi
  by_cases c : i < x.size
  · rw [h2 i c, bt_app_left x y i (by omega) (by omega)]
  · have := k2 (i - x.size) (by omega)
    rw [show p + (x.size : Int) + ((i - x.size : Nat) : Int) = p + i by omega] at this
    rw [this]
    have e := bt_app_right x y ((i - x.size : Nat) : Int) (by omega) (by omega)
    rw [← e]
    congr 1
    omega
theorem Str.ext {b s : ByteArray} {p : Int} (h : Str b p s) : b.extract p.toNat (p + s.size).toNat = s := by
  obtain ⟨h0, h1, h2⟩ := h
  apply bytes_ext
  · rw [ByteArray.size_extract]; omega
  · intro i hi
    rw [ByteArray.size_extract] at hi
    rw [bt_mid b _ _ i (by omega) (by omega), ← h2 i (by omega), Int.toNat_of_nonneg h0]
theorem Str.of_ext (b : ByteArray) {p q : Int} (h0 : 0 ≤ p) (h1 : p ≤ q) (h2 : q ≤ b.size) : Str b p (b.extract p.toNat q.toNat) := by
  have hz : ((b.extract p.toNat q.toNat).size : Int) = q - p := by rw [ByteArray.size_extract]; omega
  refine ⟨h0, by omega, fun i hi => ?_⟩
  rw [bt_mid b _ _ i (by omega) (by omega), Int.toNat_of_nonneg h0]
theorem Str.none {b : ByteArray} {p : Int} (h0 : 0 ≤ p) (h1 : p ≤ b.size) : Str b p nil' := ⟨h0, by show p + ((0 : Nat) : Int) ≤ b.size; omega, fun i hi => absurd hi (Nat.not_lt_zero _)⟩
theorem Str.all {b s : ByteArray} (h : Str b 0 s) (hz : s.size = b.size) : b = s := by
  have := h.ext
  rw [show ((0 : Int) + s.size).toNat = b.size by omega] at this
  rw [← this]
  apply bytes_ext
  · rw [ByteArray.size_extract]; simp
  · intro i hi
    exact (bt_take b b.size i hi (Nat.le_refl _)).symm
abbrev enc (n : Int) : ByteArray := strOfNums (encL n)
theorem enc_sz (n : Int) : ((enc n).size : Int) = szL n := by rw [strOfNums_size, encL_len]
theorem Str.at_ {b : ByteArray} {p n : Int} (h0 : 0 ≤ n) (h1 : n < 4611686018427387904) (h : Str b p (enc n)) : At b p (encL n) := by
  obtain ⟨a, c, d⟩ := h
  rw [strOfNums_size] at c d
  refine ⟨a, c, fun i hi => ?_⟩
  have hb := encL_byte n h0 h1 i hi
  rw [d i hi, bt_str _ i hi hb.1 hb.2]
def zzI (n : Int) : Int := if n < 0 then -2 * n - 1 else 2 * n
end Go.Proofs.YtfbdfnclkchofaaDoor.Pure
