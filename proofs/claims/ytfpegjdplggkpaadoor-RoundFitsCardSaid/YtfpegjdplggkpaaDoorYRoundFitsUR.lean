/- The document's numbers, texts and updates as bytes. -/
import Derived.Test.YtfpegjdplggkpaaDoorYRoundFitsUA
import Derived.Test.YtfpegjdplggkpaaDoorYRoundFitsPre2
import Derived.Test.YtfpegjdplggkpaaDoorYRoundFitsPre1
import Derived.Test.YtfpegjdplggkpaaDoorYRoundFitsQ5
import Derived.Test.YtfpegjdplggkpaaDoorYRoundFitsQ15
import Derived.Test.YtfpegjdplggkpaaDoorYRoundFitsQ13
namespace Go.Proofs.YtfpegjdplggkpaaDoor.Pure
set_option linter.unusedSimpArgs false
open Go Go.RowKit Go.Proofs.YtfpegjdplggkpaaDoorW.PrintWords Go.Proofs.YtfpegjdplggkpaaDoorW.PrintLast Go.Proofs.YtfpegjdplggkpaaDoorW.PrintMore Go.Proofs.YtfpegjdplggkpaaDoor.Q
theorem rnumber (k : Nat) (n : Int) (h0 : 0 ≤ n) (h1 : n < 4611686018427387904) : chapbookref03_Number.f (k + 12) n = some (strOfNums (encL n), true) := by
  unfold chapbookref03_Number.f
  rw [if_neg (by omega), u64in n h0 (by omega), rput_ok k n h0 h1]
  rfl
theorem rtext (k : Nat) (s : ByteArray) (h : s.size ≤ 140737488354900) : chapbookref03_Text.f (k + 12) s = some (Wr.txtP s) := by
  unfold chapbookref03_Text.f
  have := Wr.enc_size s.size
  rw [rnumber k s.size (by omega) (by omega), Option.bind_some]
  simp only
  rw [if_pos (by omega)]
  rfl
theorem rsigned (k : Nat) (n : Int) (h0 : -2305843009213693952 ≤ n) (h1 : n < 2305843009213693952) : chapbookref03_Signed.f (k + 12) n = some (strOfNums (encL (zz n)), true) := by
  unfold chapbookref03_Signed.f
  have e : zz n = if n < 0 then -2 * n - 1 else 2 * n := rfl
  rw [rzig_ok (k + 11) n h0 h1, Option.bind_some]
  simp only [if_true]
  rw [← e, rput_ok k (zz n) (by unfold zz; split <;> omega) (by unfold zz; split <;> omega)]
  rfl
theorem rbytes (j : Nat) {k : ByteArray} {c n : Int} {s : ByteArray} (h : may k c n s = 0) : chapbookref06_Bytes.f (j + 13) k c n s = some (bytesU k c n s) := by
  obtain ⟨h1, h2, h3, h4, h5, h6, h7⟩ := may_zero h
  have e1 := Wr.enc_size c
  have e2 := txtP_size k
  have e3 := txtP_size s
  have e4 := Wr.enc_size (zz n)
  have e5 : (strOfNums (encL c) ++ Wr.txtP k).size = (strOfNums (encL c)).size + (Wr.txtP k).size := ByteArray.size_append
  unfold chapbookref06_Bytes.f bytesU
  rw [rnumber (j + 1) c (by omega) (by omega), Option.bind_some, rtext (j + 1) k (by omega), Option.bind_some]
  simp only
  rw [if_pos (by omega)]
  by_cases c1 : c = 1
  · obtain ⟨a, b, d⟩ := h5 (Or.inl c1)
    rw [if_pos c1, if_pos (Or.inl c1)]
    simp only [chapbookref06_Bytes.j0]
    rw [if_pos trivial, rsigned j n b d, Option.bind_some]
    simp only
    rw [if_pos (by omega), if_neg (by omega), if_neg (by omega)]
  rw [if_neg c1]
  by_cases c3 : c = 3
  · obtain ⟨a, b, d⟩ := h5 (Or.inr c3)
    rw [if_pos (Or.inr c3)]
    simp only [chapbookref06_Bytes.j0]
    rw [if_pos (show (c == 3) = true by simp [c3]), rsigned j n b d, Option.bind_some]
    simp only
    rw [if_pos (by omega), if_neg (by omega), if_neg (by omega)]
  rw [if_neg (show ¬ (c = 1 ∨ c = 3) by omega)]
  simp only [chapbookref06_Bytes.j0]
  rw [if_neg (show ¬ ((c == 3) = true) by simp [c3])]
  by_cases c2 : c = 2
  · have := h6 (Or.inl c2)
    rw [if_pos c2, if_pos (Or.inl c2), rtext j s (by omega), Option.bind_some, if_pos (by omega)]
  rw [if_neg c2]
  by_cases c4 : c = 4
  · have := h6 (Or.inr c4)
    rw [if_pos c4, if_pos (Or.inr c4), rtext j s (by omega), Option.bind_some, if_pos (by omega)]
  · rw [if_neg c4, if_neg (show ¬ (c = 2 ∨ c = 4) by omega), app_nil]
end Go.Proofs.YtfpegjdplggkpaaDoor.Pure
