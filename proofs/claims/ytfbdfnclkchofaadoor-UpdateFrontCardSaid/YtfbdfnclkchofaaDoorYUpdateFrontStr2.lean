/- What stands at a place if a Reader reads there without an error; what it tells at a beginning that is cut off. -/
import Derived.Test.YtfbdfnclkchofaaDoorYUpdateFrontStr
namespace Go.Proofs.YtfbdfnclkchofaaDoor.Pure
set_option linter.unusedSimpArgs false
set_option linter.unusedVariables false
open Go Go.RowKit Go.Proofs.YtfbdfnclkchofaaDoorW.PrintWords Go.Proofs.YtfbdfnclkchofaaDoorW.PrintLast Go.Proofs.YtfbdfnclkchofaaDoorW.PrintMore Go.Proofs.YtfbdfnclkchofaaDoor.Q
def Cut (b : ByteArray) (p : Int) (s : ByteArray) : Prop := 0 ≤ p ∧ p ≤ b.size ∧ b.size < p + s.size ∧ ∀ i : Nat, p + i < b.size → bt b (p + i) = bt s i
theorem Cut.split {b x y : ByteArray} {p : Int} (h : Cut b p (x ++ y)) : Cut b p x ∨ (Str b p x ∧ Cut b (p + x.size) y) := by
  obtain ⟨h0, h1, h2, h3⟩ := h
  rw [ByteArray.size_append] at h2
  by_cases c : (b.size : Int) < p + x.size
  · refine Or.inl ⟨h0, h1, c, fun i hi => ?_⟩
    rw [h3 i hi, bt_app_left x y i (by omega) (by omega)]
  · refine Or.inr ⟨⟨h0, by omega, fun i hi => ?_⟩, by omega, by omega, by omega, fun i hi => ?_⟩
    · rw [h3 i (by omega), bt_app_left x y i (by omega) (by omega)]
    · have := h3 (x.size + i) (by omega)
      rw [show p + ((x.size + i : Nat) : Int) = p + x.size + i by omega, show ((x.size + i : Nat) : Int) = x.size + i by omega, bt_app_right x y i (by omega) (by omega)] at this
      exact this
theorem cut_of (s : ByteArray) (c : Nat) (h : c < s.size) : Cut (s.extract 0 c) 0 s := by
  have hz : (s.extract 0 c).size = c := by rw [ByteArray.size_extract]; omega
  refine ⟨by omega, by omega, by omega, fun i hi => ?_⟩
  rw [Int.zero_add] at hi ⊢
  exact bt_take s c i (by omega) (by omega)
theorem get_cut {b : ByteArray} {p n : Int} (h0 : 0 ≤ n) (h1 : n < 4611686018427387904) (h : Cut b p (enc n)) : getL b p = (0, 0, 2) := by
  obtain ⟨a, c, d, e⟩ := h
  have hz := enc_sz n
  unfold getL
  rw [if_neg (by omega)]
  by_cases hp : p = b.size
  · rw [if_pos (Or.inl hp)]
  · have hb := e 0 (by omega)
    have hl := encL_byte n h0 h1 0 (by have := encL_len n; have := szL_range n; omega)
    have hs := bt_str (encL n) 0 (by have := encL_len n; have := szL_range n; omega) hl.1 hl.2
    have ht : tw (bt b p) = szL n := by
      have hb' : bt b p = (encL n).getD 0 0 := by rw [← hs, ← hb]; congr 1; omega
      rw [hb']
      unfold encL szL tw
      repeat' split
      all_goals simp at *
      all_goals omega
    rw [if_pos (Or.inr (by omega))]
theorem numR_cut {b : ByteArray} {p n l : Int} (h0 : 0 ≤ n) (h1 : n < 4611686018427387904) (h : Cut b p (enc n)) : numR b p 0 l = (0, p, 2) := by
  unfold numR
  rw [if_pos rfl, get_cut h0 h1 h]
  rfl
theorem sgnR_cut {b : ByteArray} {p n : Int} (h0 : 0 ≤ n) (h1 : n < 4611686018427387904) (h : Cut b p (enc n)) : sgnR b p 0 = (0, p, 2) := by
  unfold sgnR
  rw [if_pos rfl, get_cut h0 h1 h]
  rfl
theorem txtR_cut {b s : ByteArray} {p l : Int} (hl : (s.size : Int) ≤ capR l) (h : Cut b p (Wr.txtP s)) : ∃ q, txtR b p 0 l = (nil', q, 2) := by
  have hc := capR_range l
  rcases h.split with k | ⟨k, m⟩
  · unfold txtR
    rw [numR_cut (by omega) (by omega) k]
    exact ⟨_, rfl⟩
  · unfold txtR
    rw [numR_str (n := s.size) (by omega) hl k]
    obtain ⟨m0, m1, m2, _⟩ := m
    simp only
    have m2' : (b.size : Int) < p + ((enc (s.size : Int)).size : Int) + (s.size : Int) := m2
    rw [if_pos trivial, if_pos (by omega)]
    exact ⟨_, rfl⟩
end Go.Proofs.YtfbdfnclkchofaaDoor.Pure
