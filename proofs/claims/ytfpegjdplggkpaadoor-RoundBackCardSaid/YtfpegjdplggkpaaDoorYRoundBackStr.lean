/- Bytes that stand at a place of other bytes; what a Reader reads of them; what stands there if it reads without an error; what it tells at a beginning of them that is cut off. -/
import Derived.Test.YtfpegjdplggkpaaDoorYRoundBackRd
import Derived.Test.YtfpegjdplggkpaaDoorYRoundBackWr3
namespace Go.Proofs.YtfpegjdplggkpaaDoor.Pure
set_option linter.unusedSimpArgs false
set_option linter.unusedVariables false
open Go Go.RowKit Go.Proofs.YtfpegjdplggkpaaDoorW.PrintWords Go.Proofs.YtfpegjdplggkpaaDoorW.PrintLast Go.Proofs.YtfpegjdplggkpaaDoorW.PrintMore Go.Proofs.YtfpegjdplggkpaaDoor.Q
theorem bt_mid (b : ByteArray) (p q i : Nat) (hi : p + i < q) (hq : q ≤ b.size) : bt (b.extract p q) i = bt b ((p : Int) + i) := by
  unfold bt
  rw [dif_pos (by rw [ByteArray.size_extract]; omega), dif_pos (by omega)]
  simp only [ByteArray.getElem_extract]
  congr 3
def Str (b : ByteArray) (p : Int) (s : ByteArray) : Prop := 0 ≤ p ∧ p + s.size ≤ b.size ∧ ∀ i : Nat, i < s.size → bt b (p + i) = bt s i
theorem Str.whole (s : ByteArray) : Str s 0 s := ⟨by omega, by omega, fun i _ => by rw [Int.zero_add]⟩
theorem Str.left {b x y : ByteArray} {p : Int} (h : Str b p (x ++ y)) : Str b p x := by
  obtain ⟨h0, h1, h2⟩ := h
  rw [ByteArray.size_append] at h1 h2
  refine ⟨h0, by omega, fun i hi => ?_⟩
  rw [h2 i (by omega), bt_app_left x y i (by omega) (by omega)]
theorem Str.right {b x y : ByteArray} {p : Int} (h : Str b p (x ++ y)) : Str b (p + x.size) y := by
  obtain ⟨h0, h1, h2⟩ := h
  rw [ByteArray.size_append] at h1 h2
  refine ⟨by omega, by omega, fun i hi => ?_⟩
  have := h2 (x.size + i) (by omega)
  rw [show p + ((x.size + i : Nat) : Int) = p + x.size + i by omega, show ((x.size + i : Nat) : Int) = x.size + i by omega, bt_app_right x y i (by omega) (by omega)] at this
  exact this
theorem Str.ext {b s : ByteArray} {p : Int} (h : Str b p s) : b.extract p.toNat (p + s.size).toNat = s := by
  obtain ⟨h0, h1, h2⟩ := h
  apply bytes_ext
  · rw [ByteArray.size_extract]; omega
  · intro i hi
    rw [ByteArray.size_extract] at hi
    rw [bt_mid b _ _ i (by omega) (by omega), ← h2 i (by omega), Int.toNat_of_nonneg h0]
theorem Str.none {b : ByteArray} {p : Int} (h0 : 0 ≤ p) (h1 : p ≤ b.size) : Str b p nil' := ⟨h0, by show p + ((0 : Nat) : Int) ≤ b.size; omega, fun i hi => absurd hi (Nat.not_lt_zero _)⟩
theorem Str.all {b s : ByteArray} (h : Str b 0 s) (hz : s.size = b.size) : b = s := by
  have := h.ext
  rw [show ((0 : Int) + s.size).toNat = b.size by omega] at this
  rw [← this]
  apply bytes_ext
  · rw [ByteArray.size_extract]; simp
  · intro i hi
    exact (bt_take b b.size i hi (Nat.le_refl _)).symm
abbrev enc (n : Int) : ByteArray := strOfNums (encL n)
theorem enc_sz (n : Int) : ((enc n).size : Int) = szL n := by rw [strOfNums_size, encL_len]
theorem Str.at_ {b : ByteArray} {p n : Int} (h0 : 0 ≤ n) (h1 : n < 4611686018427387904) (h : Str b p (enc n)) : At b p (encL n) := by
  obtain ⟨a, c, d⟩ := h
  rw [strOfNums_size] at c d
  refine ⟨a, c, fun i hi => ?_⟩
  have hb := encL_byte n h0 h1 i hi
  rw [d i hi, bt_str _ i hi hb.1 hb.2]
theorem numR_str {b : ByteArray} {p n l : Int} (h0 : 0 ≤ n) (hl : n ≤ capR l) (h : Str b p (enc n)) : numR b p 0 l = (n, p + (enc n).size, 0) := by
  have hc := capR_range l
  have hg := get_enc b p n h0 (by omega) (h.at_ h0 (by omega))
  unfold numR
  rw [if_pos rfl, hg]
  simp only
  rw [if_pos trivial, if_neg (by omega), enc_sz]
theorem txtP_sz (s : ByteArray) : (Wr.txtP s).size = (enc s.size).size + s.size := by unfold Wr.txtP; rw [ByteArray.size_append]
theorem txtR_str {b s : ByteArray} {p l : Int} (hl : (s.size : Int) ≤ capR l) (h : Str b p (Wr.txtP s)) : txtR b p 0 l = (s, p + (Wr.txtP s).size, 0) := by
  have hn := numR_str (l := l) (n := s.size) (by omega) hl h.left
  have hr := h.right
  have hz := txtP_sz s
  unfold txtR
  rw [hn]
  simp only
  have r1 : p + ((enc (s.size : Int)).size : Int) + (s.size : Int) ≤ b.size := hr.2.1
  rw [if_pos trivial, if_neg (by omega)]
  have he := hr.ext
  rw [he, hz]
  congr 2
  omega
def zzI (n : Int) : Int := if n < 0 then -2 * n - 1 else 2 * n
theorem zag_zz (n : Int) : zagV (zzI n) = n := by unfold zagV zzI; split <;> split <;> omega
theorem sgnR_str {b : ByteArray} {p n : Int} (h0 : -2305843009213693952 ≤ n) (h1 : n < 2305843009213693952) (h : Str b p (enc (zzI n))) : sgnR b p 0 = (n, p + (enc (zzI n)).size, 0) := by
  have hz : 0 ≤ zzI n ∧ zzI n < 4611686018427387904 := by unfold zzI; split <;> omega
  have hg := get_enc b p _ hz.1 hz.2 (h.at_ hz.1 hz.2)
  unfold sgnR
  rw [if_pos rfl, hg]
  simp only
  rw [if_pos trivial, zag_zz, enc_sz]
end Go.Proofs.YtfpegjdplggkpaaDoor.Pure
