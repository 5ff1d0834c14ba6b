/- What stands at a place if a Reader reads there without an error; what it tells at a beginning that is cut off. -/
import Derived.Test.YtfpegjdplggkpaaDoorYRoundFrontRd
import Derived.Test.YtfpegjdplggkpaaDoorYRoundFrontWr3
namespace Go.Proofs.YtfpegjdplggkpaaDoor.Pure
set_option linter.unusedSimpArgs false
set_option linter.unusedVariables false
open Go Go.RowKit Go.Proofs.YtfpegjdplggkpaaDoorW.PrintWords Go.Proofs.YtfpegjdplggkpaaDoorW.PrintLast Go.Proofs.YtfpegjdplggkpaaDoorW.PrintMore Go.Proofs.YtfpegjdplggkpaaDoor.Q
theorem bt_mid (b : ByteArray) (p q i : Nat) (hi : p + i < q) (hq : q ≤ b.size) : bt (b.extract p q) i = bt b ((p : Int) + i) := by
  unfold bt
  rw [dif_pos (by rw [ByteArray.size_extract]; omega), dif_pos (by omega)]
  simp only [ByteArray.getElem_extract]
  congr 3
def Str (b : ByteArray) (p : Int) (s : ByteArray) : Prop := 0 ≤ p ∧ p + s.size ≤ b.size ∧ ∀ i : Nat, i < s.size → bt b (p + i) = bt s i
theorem Str.whole (s : ByteArray) : Str s 0 s := ⟨by omega, by omega, fun i _ => by rw [Int.zero_add]⟩
theorem Str.left {b x y : ByteArray} {p : Int} (h : Str b p (x ++ y)) : Str b p x := by
  obtain ⟨h0, h1, h2⟩ := h
  rw [ByteArray.size_append] at h1 h2
  refine ⟨h0, by omega, fun i hi => ?_⟩
  rw [h2 i (by omega), bt_app_left x y i (by omega) (by omega)]
theorem Str.right {b x y : ByteArray} {p : Int} (h : Str b p (x ++ y)) : Str b (p + x.size) y := by
  obtain ⟨h0, h1, h2⟩ := h
  rw [ByteArray.size_append] at h1 h2
  refine ⟨by omega, by omega, fun i hi => ?_⟩
  have := h2 (x.size + i) (by omega)
  rw [show p + ((x.size + i : Nat) : Int) = p + x.size + i by omega, show ((x.size + i : Nat) : Int) = x.size + i by omega, bt_app_right x y i (by omega) (by omega)] at this
  exact this
theorem Str.ext {b s : ByteArray} {p : Int} (h : Str b p s) : b.extract p.toNat (p + s.size).toNat = s := by
  obtain ⟨h0, h1, h2⟩ := h
  apply bytes_ext
  · rw [ByteArray.size_extract]; omega
  · intro i hi
    rw [ByteArray.size_extract] at hi
    rw [bt_mid b _ _ i (by omega) (by omega), ← h2 i (by omega), Int.toNat_of_nonneg h0]
theorem Str.none {b : ByteArray} {p : Int} (h0 : 0 ≤ p) (h1 : p ≤ b.size) : Str b p nil' := ⟨h0, by show p + ((0 : Nat) : Int) ≤ b.size; omega, fun i hi => absurd hi (Nat.not_lt_zero _)⟩
theorem Str.all {b s : ByteArray} (h : Str b 0 s) (hz : s.size = b.size) : b = s := by
  have := h.ext
  rw [show ((0 : Int) + s.size).toNat = b.size by omega] at this
  rw [← this]
  apply bytes_ext
  · rw [ByteArray.size_extract]; simp
  · intro i hi
    exact (bt_take b b.size i hi (Nat.le_refl _)).symm
abbrev enc (n : Int) : ByteArray := strOfNums (encL n)
theorem enc_sz (n : Int) : ((enc n).size : Int) = szL n := by rw [strOfNums_size, encL_len]
theorem Str.at_ {b : ByteArray} {p n : Int} (h0 : 0 ≤ n) (h1 : n < 4611686018427387904) (h : Str b p (enc n)) : At b p (encL n) := by
  obtain ⟨a, c, d⟩ := h
  rw [strOfNums_size] at c d
  refine ⟨a, c, fun i hi => ?_⟩
  have hb := encL_byte n h0 h1 i hi
  rw [d i hi, bt_str _ i hi hb.1 hb.2]
theorem numR_str {b : ByteArray} {p n l : Int} (h0 : 0 ≤ n) (hl : n ≤ capR l) (h : Str b p (enc n)) : numR b p 0 l = (n, p + (enc n).size, 0) := by
  have hc := capR_range l
  have hg := get_enc b p n h0 (by omega) (h.at_ h0 (by omega))
  unfold numR
  rw [if_pos rfl, hg]
  simp only
  rw [if_pos trivial, if_neg (by omega), enc_sz]
theorem txtP_sz (s : ByteArray) : (Wr.txtP s).size = (enc s.size).size + s.size := by unfold Wr.txtP; rw [ByteArray.size_append]
theorem txtR_str {b s : ByteArray} {p l : Int} (hl : (s.size : Int) ≤ capR l) (h : Str b p (Wr.txtP s)) : txtR b p 0 l = (s, p + (Wr.txtP s).size, 0) := by
  have hn := numR_str (l := l) (n := s.size) (by omega) hl h.left
  have hr := h.right
  have hz := txtP_sz s
  unfold txtR
  rw [hn]
  simp only
  have r1 : p + ((enc (s.size : Int)).size : Int) + (s.size : Int) ≤ b.size := hr.2.1
  rw [if_pos trivial, if_neg (by omega)]
  have he := hr.ext
  rw [he, hz]
  congr 2
  omega
def zzI (n : Int) : Int := if n < 0 then -2 * n - 1 else 2 * n
theorem zag_zz (n : Int) : zagV (zzI n) = n := by unfold zagV zzI; split <;> split <;> omega
theorem sgnR_str {b : ByteArray} {p n : Int} (h0 : -2305843009213693952 ≤ n) (h1 : n < 2305843009213693952) (h : Str b p (enc (zzI n))) : sgnR b p 0 = (n, p + (enc (zzI n)).size, 0) := by
  have hz : 0 ≤ zzI n ∧ zzI n < 4611686018427387904 := by unfold zzI; split <;> omega
  have hg := get_enc b p _ hz.1 hz.2 (h.at_ hz.1 hz.2)
  unfold sgnR
  rw [if_pos rfl, hg]
  simp only
  rw [if_pos trivial, zag_zz, enc_sz]
end Go.Proofs.YtfpegjdplggkpaaDoor.Pure
namespace Go.Proofs.YtfpegjdplggkpaaDoor.Pure
set_option linter.unusedSimpArgs false
set_option linter.unusedVariables false
open Go Go.RowKit Go.Proofs.YtfpegjdplggkpaaDoorW.PrintWords Go.Proofs.YtfpegjdplggkpaaDoorW.PrintLast Go.Proofs.YtfpegjdplggkpaaDoorW.PrintMore Go.Proofs.YtfpegjdplggkpaaDoor.Q
def Cut (b : ByteArray) (p : Int) (s : ByteArray) : Prop := 0 ≤ p ∧ p ≤ b.size ∧ b.size < p + s.size ∧ ∀ i : Nat, p + i < b.size → bt b (p + i) = bt s i
theorem Cut.split {b x y : ByteArray} {p : Int} (h : Cut b p (x ++ y)) : Cut b p x ∨ (Str b p x ∧ Cut b (p + x.size) y) := by
  obtain ⟨h0, h1, h2, h3⟩ := h
  rw [ByteArray.size_append] at h2
  by_cases c : (b.size : Int) < p + x.size
  · refine Or.inl ⟨h0, h1, c, fun i hi => ?_⟩
    rw [h3 i hi, bt_app_left x y i (by omega) (by omega)]
  · refine Or.inr ⟨⟨h0, by omega, fun i hi => ?_⟩, by omega, by omega, by omega, fun i hi => ?_⟩
    · rw [h3 i (by omega), bt_app_left x y i (by omega) (by omega)]
    · have := h3 (x.size + i) (by omega)
      rw [show p + ((x.size + i : Nat) : Int) = p + x.size + i by omega, show ((x.size + i : Nat) : Int) = x.size + i by omega, bt_app_right x y i (by omega) (by omega)] at this
      exact this
theorem cut_of (s : ByteArray) (c : Nat) (h : c < s.size) : Cut (s.extract 0 c) 0 s := by
  have hz : (s.extract 0 c).size = c := by rw [ByteArray.size_extract]; omega
  refine ⟨by omega, by omega, by omega, fun i hi => ?_⟩
  rw [Int.zero_add] at hi ⊢
  exact bt_take s c i (by omega) (by omega)
theorem get_cut {b : ByteArray} {p n : Int} (h0 : 0 ≤ n) (h1 : n < 4611686018427387904) (h : Cut b p (enc n)) : getL b p = (0, 0, 2) := by
  obtain ⟨a, c, d, e⟩ := h
  have hz := enc_sz n
  unfold getL
  rw [if_neg (by omega)]
  by_cases hp : p = b.size
  · rw [if_pos (Or.inl hp)]
  · have hb := e 0 (by omega)
    have hl := encL_byte n h0 h1 0 (by have := encL_len n; have := szL_range n; omega)
    have hs := bt_str (encL n) 0 (by have := encL_len n; have := szL_range n; omega) hl.1 hl.2
    have ht : tw (bt b p) = szL n := by
      have hb' : bt b p = (encL n).getD 0 0 := by rw [← hs, ← hb]; congr 1; omega
      rw [hb']
      unfold encL szL tw
      repeat' split
      all_goals simp at *
      all_goals omega
    rw [if_pos (Or.inr (by omega))]
theorem numR_cut {b : ByteArray} {p n l : Int} (h0 : 0 ≤ n) (h1 : n < 4611686018427387904) (h : Cut b p (enc n)) : numR b p 0 l = (0, p, 2) := by
  unfold numR
  rw [if_pos rfl, get_cut h0 h1 h]
  rfl
theorem sgnR_cut {b : ByteArray} {p n : Int} (h0 : 0 ≤ n) (h1 : n < 4611686018427387904) (h : Cut b p (enc n)) : sgnR b p 0 = (0, p, 2) := by
  unfold sgnR
  rw [if_pos rfl, get_cut h0 h1 h]
  rfl
theorem txtR_cut {b s : ByteArray} {p l : Int} (hl : (s.size : Int) ≤ capR l) (h : Cut b p (Wr.txtP s)) : ∃ q, txtR b p 0 l = (nil', q, 2) := by
  have hc := capR_range l
  rcases h.split with k | ⟨k, m⟩
  · unfold txtR
    rw [numR_cut (by omega) (by omega) k]
    exact ⟨_, rfl⟩
  · unfold txtR
    rw [numR_str (n := s.size) (by omega) hl k]
    obtain ⟨m0, m1, m2, _⟩ := m
    simp only
    have m2' : (b.size : Int) < p + ((enc (s.size : Int)).size : Int) + (s.size : Int) := m2
    rw [if_pos trivial, if_pos (by omega)]
    exact ⟨_, rfl⟩
end Go.Proofs.YtfpegjdplggkpaaDoor.Pure
