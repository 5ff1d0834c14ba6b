/- Values, and what an update makes of one, in plain Lean. -/
import Derived.Test.YtjdenpmaianmfaaDoorProg
import Derived.Test.YtjdenpmaianmfaaDoorY6WWords
namespace Go.Proofs.YtjdenpmaianmfaaDoor.J
set_option linter.unusedSimpArgs false
set_option linter.unusedVariables false
open Go RowKit
abbrev Val := Int × Int × ByteArray
abbrev none' : ByteArray := ⟨#[]⟩
def app (v : Val) (c n : Int) (s : ByteArray) : Val :=
 if c = 1 then (1, n, none')
 else if c = 2 then (2, 0, s)
 else if c = 5 then (0, 0, none')
 else if c = 3 then (if v.1 = 2 then v else (1, wrap64 (v.2.1 + n), none'))
 else if c = 4 then (if v.1 = 0 then (2, 0, s) else if v.1 = 2 then (if v.2.2.size + s.size ≤ 1024 then (2, 0, v.2.2 ++ s) else v) else v)
 else v
def good (v : Val) : Bool := ((v.1 == 0 && v.2.1 == 0 && v.2.2.size == 0) || (v.1 == 1 && v.2.2.size == 0) || (v.1 == 2 && v.2.1 == 0)) && decide (v.2.2.size ≤ 1024)
theorem w64_ {n : Int} (h : -9223372036854775808 ≤ n ∧ n ≤ 9223372036854775807) : wrap64 n = n := by unfold wrap64; omega
theorem size0 {s : ByteArray} (h : s.size = 0) : s = none' := by
 obtain ⟨d⟩ := s
 have : d = #[] := Array.eq_empty_of_size_eq_zero h
 rw [this]
theorem good_cases {v : Val} (h : good v = true) : v = (0, 0, none') ∨ (∃ n, v = (1, n, none')) ∨ (∃ s : ByteArray, s.size ≤ 1024 ∧ v = (2, 0, s)) := by
 obtain ⟨a, b, c⟩ := v
 simp only [good, Bool.and_eq_true, Bool.or_eq_true, beq_iff_eq, decide_eq_true_eq] at h
 rcases h with ⟨(⟨⟨rfl, rfl⟩, h3⟩ | ⟨rfl, h3⟩) | ⟨rfl, rfl⟩, h4⟩
 ·exact .inl (by rw [size0 h3])
 ·exact .inr (.inl ⟨b, by rw [size0 h3]⟩)
 ·exact .inr (.inr ⟨c, h4, rfl⟩)
theorem good_zero : good (0, 0, none') = true := by decide
theorem good_num (n : Int) : good (1, n, none') = true := by simp [good]; decide
theorem good_text {s : ByteArray} (h : s.size ≤ 1024) : good (2, 0, s) = true := by simp [good, h]
theorem good_app {v : Val} {c n : Int} {s : ByteArray} (hv : good v = true) (hs : s.size ≤ 1024) : good (app v c n s) = true := by
 unfold app
 split
 ·exact good_num n
 split
 ·exact good_text hs
 split
 ·exact good_zero
 split
 ·split
  ·exact hv
  ·exact good_num _
 split
 ·split
  ·exact good_text hs
  split
  ·split
   ·exact good_text (by rw [ByteArray.size_append]; assumption)
   ·exact hv
  ·exact hv
 ·exact hv
end Go.Proofs.YtjdenpmaianmfaaDoor.J
