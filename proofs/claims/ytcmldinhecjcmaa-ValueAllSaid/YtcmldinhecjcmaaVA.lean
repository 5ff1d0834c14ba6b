/- The plain law of layer 4: what Apply and May come to, for the program and for the reference; and the laws ValueApplies, ValueMay, ValueLast, ValueAll. -/
import Derived.Test.YtcmldinhecjcmaaQ2
import Derived.Test.YtcmldinhecjcmaaQ4
import Derived.Test.YtcmldinhecjcmaaQ6
import Derived.OpenShut
namespace Go.Proofs.Ytcmldinhecjcmaa.Pure
set_option linter.unusedSimpArgs false
open Go Go.RowKit Go.Proofs.YtcmldinhecjcmaaW.PrintWords Go.Proofs.YtcmldinhecjcmaaW.PrintLast Go.Proofs.YtcmldinhecjcmaaW.PrintMore Go.Proofs.Ytcmldinhecjcmaa.Q

def G23 (x : (Int) × (Int) × (ByteArray)) : Prop := ((Lit.int .i64 x.1).wf = true) ∧ ((Lit.int .i64 x.2.1).wf = true) ∧ (x.2.2.size ≤ 140737488351232)
def G25 (x : S25) : Prop := (x.f0.size ≤ 140737488351232) ∧ ((Lit.int .i64 x.f1).wf = true) ∧ ((Lit.int .i64 x.f2).wf = true) ∧ (x.f3.size ≤ 140737488351232)
theorem w64 {n : Int} (h0 : -9223372036854775808 ≤ n) (h1 : n ≤ 9223372036854775807) : wrap64 n = n := by unfold wrap64; omega
theorem i64_bd {n : Int} (h : (Lit.int .i64 n).wf = true) : -9223372036854775808 ≤ n ∧ n ≤ 9223372036854775807 := bounds_i64 h
abbrev none' : ByteArray := ⟨#[]⟩
abbrev Val := Int × Int × ByteArray
/-- A value without what its kind hasn't. -/
def clean (v : Val) : Val := if v.1 = 1 then (1, v.2.1, none') else if v.1 = 2 then (2, 0, v.2.2) else (0, 0, none')
/-- What an update (of kind c, with number n and text s) makes of a value. -/
def app (v : Val) (c n : Int) (s : ByteArray) : Val :=
  if c = 1 then (1, n, none')
  else if c = 2 then (2, 0, s)
  else if c = 5 then (0, 0, none')
  else if c = 3 then (if (clean v).1 = 2 then clean v else (1, wrap64 ((clean v).2.1 + n), none'))
  else if c = 4 then (if (clean v).1 = 0 then (2, 0, s) else if (clean v).1 = 2 then (if ((clean v).2.2.size : Int) + s.size ≤ 1024 then (2, 0, (clean v).2.2 ++ s) else clean v) else clean v)
  else clean v
/-- Values that are spoken of. -/
def Ok (v : Val) : Prop := 0 ≤ v.1 ∧ v.1 ≤ 2 ∧ v.2.2.size ≤ 140737488351232 ∧ (Lit.int .i64 v.2.1).wf = true
theorem clean_ok (v : Val) : value_clean.f v.1 v.2.1 v.2.2 = some (clean v) := by
  unfold value_clean.f clean
  by_cases h1 : v.1 = 1
  · simp [h1, value_number.f]
  by_cases h2 : v.1 = 2
  · simp [h2, value_text.f]
  · simp [h1, h2]
theorem clean_size (v : Val) : (clean v).2.2.size ≤ v.2.2.size := by
  unfold clean
  by_cases h1 : v.1 = 1
  · simp only [h1, if_true]; exact Nat.zero_le _
  by_cases h2 : v.1 = 2
  · simp [h2]
  · simp only [h1, h2, if_false]; exact Nat.zero_le _
theorem apply_ok (v : Val) (k : ByteArray) (c n : Int) (s : ByteArray) (hv : v.2.2.size ≤ 140737488351232) (hs : s.size ≤ 140737488351232) : value_Apply.f v.1 v.2.1 v.2.2 k c n s = some (app v c n s) := by
  have hc := clean_size v
  unfold value_Apply.f app
  rw [clean_ok]
  simp only [Option.bind_some]
  generalize clean v = q at *
  obtain ⟨q1, q2, q3⟩ := q
  simp only at hc
  by_cases h1 : c = 1
  · simp [h1, value_number.f]
  by_cases h2 : c = 2
  · simp [h2, value_text.f]
  by_cases h5 : c = 5
  · simp [h5]
  by_cases h3 : c = 3
  · subst h3
    by_cases hq : q1 = 2
    · simp [hq]
    · simp [hq, value_number.f]
  by_cases h4 : c = 4
  · subst h4
    by_cases hq : q1 = 0
    · simp [hq, value_text.f]
    by_cases hq2 : q1 = 2
    · rw [w64 (n := (q3.size : Int) + s.size) (by omega) (by omega)]
      by_cases hsz : (q3.size : Int) + s.size ≤ 1024
      · have : q3.size + s.size ≤ 9223372036854775807 := by omega
        simp [hq2, hsz, this, value_text.f]
      · simp [hq2, hsz]
    · simp [hq, hq2]
  · simp [h1, h2, h3, h4, h5]
theorem rapply_ok (j : Nat) (v : Val) (k : ByteArray) (c n : Int) (s : ByteArray) (hv : Ok v) (hs : s.size ≤ 140737488351232) (hn : (Lit.int .i64 n).wf = true) :
    chapbookref04_Apply.f (j + 8) v.1 v.2.1 v.2.2 k c n s = some (app v c n s) := by
  obtain ⟨v1, v2, v3⟩ := v
  obtain ⟨g0, g1, g2, g3⟩ := hv
  simp only at g0 g1 g2 g3
  have hb := i64_bd hn
  have hb2 := i64_bd g3
  unfold chapbookref04_Apply.f app
  have cases3 : v1 = 0 ∨ v1 = 1 ∨ v1 = 2 := by omega
  have wn : wrap64 n = n := w64 (by omega) (by omega)
  rcases cases3 with rfl | rfl | rfl
  · by_cases h1 : c = 1
    · subst h1; simp [chapbookref04_Apply.j0, chapbookref04_Apply.j1, chapbookref04_Apply.j2, chapbookref04_Apply.j3]
    by_cases h2 : c = 2
    · subst h2; simp [chapbookref04_Apply.j0, chapbookref04_Apply.j1, chapbookref04_Apply.j2, chapbookref04_Apply.j3, chapbookref04_Apply.j4]
    by_cases h3 : c = 3
    · subst h3; simp [chapbookref04_Apply.j0, chapbookref04_Apply.j1, chapbookref04_Apply.j2, chapbookref04_Apply.j3, clean]; exact wn.symm
    by_cases h4 : c = 4
    · subst h4; simp [chapbookref04_Apply.j0, chapbookref04_Apply.j1, chapbookref04_Apply.j2, chapbookref04_Apply.j3, chapbookref04_Apply.j4, clean]
    by_cases h5 : c = 5
    · subst h5; simp [chapbookref04_Apply.j0, chapbookref04_Apply.j1, chapbookref04_Apply.j2, chapbookref04_Apply.j3, chapbookref04_Apply.j4, chapbookref04_Apply.j5, chapbookref04_Apply.j6, chapbookref04_Apply.j7]
    · simp [h1, h2, h3, h4, h5, chapbookref04_Apply.j0, chapbookref04_Apply.j1, chapbookref04_Apply.j2, chapbookref04_Apply.j3, chapbookref04_Apply.j4, chapbookref04_Apply.j5, chapbookref04_Apply.j6, chapbookref04_Apply.j7, clean]
  · by_cases h1 : c = 1
    · subst h1; simp [chapbookref04_Apply.j0, chapbookref04_Apply.j1, chapbookref04_Apply.j2, chapbookref04_Apply.j3]
    by_cases h2 : c = 2
    · subst h2; simp [chapbookref04_Apply.j0, chapbookref04_Apply.j1, chapbookref04_Apply.j2, chapbookref04_Apply.j3, chapbookref04_Apply.j4]
    by_cases h3 : c = 3
    · subst h3; simp [chapbookref04_Apply.j0, chapbookref04_Apply.j1, chapbookref04_Apply.j2, chapbookref04_Apply.j3, chapbookref04_Apply.j4, chapbookref04_Apply.j5, chapbookref04_Apply.j6, chapbookref04_Apply.j7, clean]
    by_cases h4 : c = 4
    · subst h4; simp [chapbookref04_Apply.j0, chapbookref04_Apply.j1, chapbookref04_Apply.j2, chapbookref04_Apply.j3, chapbookref04_Apply.j4, chapbookref04_Apply.j5, chapbookref04_Apply.j6, chapbookref04_Apply.j7, clean]
    by_cases h5 : c = 5
    · subst h5; simp [chapbookref04_Apply.j0, chapbookref04_Apply.j1, chapbookref04_Apply.j2, chapbookref04_Apply.j3, chapbookref04_Apply.j4, chapbookref04_Apply.j5, chapbookref04_Apply.j6, chapbookref04_Apply.j7]
    · simp [h1, h2, h3, h4, h5, chapbookref04_Apply.j0, chapbookref04_Apply.j1, chapbookref04_Apply.j2, chapbookref04_Apply.j3, chapbookref04_Apply.j4, chapbookref04_Apply.j5, chapbookref04_Apply.j6, chapbookref04_Apply.j7, clean]
  · by_cases h1 : c = 1
    · subst h1; simp [chapbookref04_Apply.j0, chapbookref04_Apply.j1, chapbookref04_Apply.j2, chapbookref04_Apply.j3]
    by_cases h2 : c = 2
    · subst h2; simp [chapbookref04_Apply.j0, chapbookref04_Apply.j1, chapbookref04_Apply.j2, chapbookref04_Apply.j3, chapbookref04_Apply.j4]
    by_cases h3 : c = 3
    · subst h3; simp [chapbookref04_Apply.j0, chapbookref04_Apply.j1, chapbookref04_Apply.j2, chapbookref04_Apply.j3, chapbookref04_Apply.j4, chapbookref04_Apply.j5, chapbookref04_Apply.j6, chapbookref04_Apply.j7, clean]
    by_cases h4 : c = 4
    · subst h4
      have wd : wrap64 (1024 - (v3.size : Int)) = 1024 - v3.size := w64 (by omega) (by omega)
      by_cases hc : (v3.size : Int) ≤ 1024
      · by_cases hd : (s.size : Int) ≤ 1024 - v3.size
        · have e1 : v3.size + s.size ≤ 9223372036854775807 := by omega
          have e2 : (v3.size : Int) + s.size ≤ 1024 := by omega
          simp [chapbookref04_Apply.j0, chapbookref04_Apply.j1, chapbookref04_Apply.j2, chapbookref04_Apply.j3, chapbookref04_Apply.j4, chapbookref04_Apply.j5, chapbookref04_Apply.j6, chapbookref04_Apply.j7, clean, hc, wd, hd, e1, e2]
        · have e2 : ¬ (v3.size : Int) + s.size ≤ 1024 := by omega
          simp [chapbookref04_Apply.j0, chapbookref04_Apply.j1, chapbookref04_Apply.j2, chapbookref04_Apply.j3, chapbookref04_Apply.j4, chapbookref04_Apply.j5, chapbookref04_Apply.j6, chapbookref04_Apply.j7, clean, hc, wd, hd, e2]
      · have e2 : ¬ (v3.size : Int) + s.size ≤ 1024 := by omega
        simp [chapbookref04_Apply.j0, chapbookref04_Apply.j1, chapbookref04_Apply.j2, chapbookref04_Apply.j3, chapbookref04_Apply.j4, chapbookref04_Apply.j5, chapbookref04_Apply.j6, chapbookref04_Apply.j7, clean, hc, e2]
    by_cases h5 : c = 5
    · subst h5; simp [chapbookref04_Apply.j0, chapbookref04_Apply.j1, chapbookref04_Apply.j2, chapbookref04_Apply.j3, chapbookref04_Apply.j4, chapbookref04_Apply.j5, chapbookref04_Apply.j6, chapbookref04_Apply.j7]
    · simp [h1, h2, h3, h4, h5, chapbookref04_Apply.j0, chapbookref04_Apply.j1, chapbookref04_Apply.j2, chapbookref04_Apply.j3, chapbookref04_Apply.j4, chapbookref04_Apply.j5, chapbookref04_Apply.j6, chapbookref04_Apply.j7, clean]
/-! ### May -/
/-- May an update be: an error's number. -/
def may (key : ByteArray) (c n : Int) (s : ByteArray) : Int :=
  if (key.size : Int) < 1 ∨ (key.size : Int) > 16 then 1
  else if c = 1 ∨ c = 3 then (if s.toList = [] then (if n < -2305843009213693952 ∨ n ≥ 2305843009213693952 then 1 else 0) else 13)
  else if c = 2 ∨ c = 4 then (if n = 0 then (if (s.size : Int) > 32 then 1 else 0) else 13)
  else if c = 5 then (if n = 0 ∧ s.toList = [] then 0 else 13)
  else 5
theorem nil_size (s : ByteArray) : s.toList = [] ↔ s.size = 0 := by
  rw [ByteArray.toList_eq]
  constructor
  · intro h
    have := congrArg List.length h
    simpa using this
  · intro h
    apply List.eq_nil_of_length_eq_zero
    simpa using h
theorem may_ok (k : Nat) (key : ByteArray) (c n : Int) (s : ByteArray) : value_May.f (k + 4) key c n s = some (may key c n s) := by
  unfold value_May.f may
  by_cases a1 : (key.size : Int) < 1
  · simp [a1, value_May.j0]
  by_cases a2 : (key.size : Int) > 16
  · simp [a1, a2, value_May.j0]
  simp only [a1, a2, or_self, if_false, decide_false]
  by_cases c1 : c = 1
  · subst c1
    by_cases d1 : s.toList = [] <;> by_cases d2 : n < -2305843009213693952 <;> by_cases d3 : n ≥ 2305843009213693952 <;> simp [value_May.j0, value_May.j1, d1, d2, d3]
  by_cases c3 : c = 3
  · subst c3
    by_cases d1 : s.toList = [] <;> by_cases d2 : n < -2305843009213693952 <;> by_cases d3 : n ≥ 2305843009213693952 <;> simp [value_May.j0, value_May.j1, d1, d2, d3]
  by_cases c2 : c = 2
  · subst c2
    by_cases d1 : n = 0 <;> by_cases d2 : (s.size : Int) > 32 <;> simp [value_May.j0, value_May.j1, value_May.j2, d1, d2]
  by_cases c4 : c = 4
  · subst c4
    by_cases d1 : n = 0 <;> by_cases d2 : (s.size : Int) > 32 <;> simp [value_May.j0, value_May.j1, value_May.j2, d1, d2]
  by_cases c5 : c = 5
  · subst c5
    by_cases d1 : n = 0 <;> by_cases d2 : s.toList = [] <;> simp [value_May.j0, value_May.j1, value_May.j2, d1, d2]
  · simp [value_May.j0, value_May.j1, value_May.j2, c1, c2, c3, c4, c5]
theorem rmay_ok (k : Nat) (key : ByteArray) (c n : Int) (s : ByteArray) : chapbookref04_May.f (k + 6) key c n s = some (may key c n s) := by
  unfold chapbookref04_May.f may
  have hn := nil_size s
  by_cases a1 : (key.size : Int) = 0
  · have b1 : (key.size : Int) < 1 := by omega
    simp [a1, chapbookref04_May.j0]
  have b1 : ¬ (key.size : Int) < 1 := by omega
  by_cases a2 : (key.size : Int) > 16
  · simp [a1, a2, chapbookref04_May.j0]
  rw [if_neg a1, decide_eq_false a2, if_neg (by omega)]
  simp only [chapbookref04_May.j0]
  rw [if_neg (by decide)]
  by_cases c1 : c = 1
  · subst c1
    by_cases d1 : s.toList = []
    · have d4 : ¬ (s.size : Int) > 32 := by have := hn.1 d1; omega
      by_cases d2 : n < -2305843009213693952
      · simp [chapbookref04_May.j1, chapbookref04_May.j2, chapbookref04_May.j3, chapbookref04_May.j4, d1, d2]
      by_cases d3 : n > 2305843009213693951
      · have d5 : n ≥ 2305843009213693952 := by omega
        simp [chapbookref04_May.j1, chapbookref04_May.j2, chapbookref04_May.j3, chapbookref04_May.j4, d1, d2, d3, d5]
      · have d5 : ¬ n ≥ 2305843009213693952 := by omega
        have d6 : ¬ 32 < (s.size : Int) := by omega
        have d7 : ¬ 2305843009213693951 < n := by omega
        have d8 : ¬ 2305843009213693952 ≤ n := by omega
        simp [chapbookref04_May.j1, chapbookref04_May.j2, chapbookref04_May.j3, chapbookref04_May.j4, d1, d2, d8]
        rw [if_neg d7, if_neg d6]
    · simp [chapbookref04_May.j1, chapbookref04_May.j2, chapbookref04_May.j3, chapbookref04_May.j4, d1]
  by_cases c3 : c = 3
  · subst c3
    by_cases d1 : s.toList = []
    · have d4 : ¬ (s.size : Int) > 32 := by have := hn.1 d1; omega
      by_cases d2 : n < -2305843009213693952
      · simp [chapbookref04_May.j1, chapbookref04_May.j2, chapbookref04_May.j3, chapbookref04_May.j4, d1, d2]
      by_cases d3 : n > 2305843009213693951
      · have d5 : n ≥ 2305843009213693952 := by omega
        simp [chapbookref04_May.j1, chapbookref04_May.j2, chapbookref04_May.j3, chapbookref04_May.j4, d1, d2, d3, d5]
      · have d5 : ¬ n ≥ 2305843009213693952 := by omega
        have d6 : ¬ 32 < (s.size : Int) := by omega
        have d7 : ¬ 2305843009213693951 < n := by omega
        have d8 : ¬ 2305843009213693952 ≤ n := by omega
        simp [chapbookref04_May.j1, chapbookref04_May.j2, chapbookref04_May.j3, chapbookref04_May.j4, d1, d2, d8]
        rw [if_neg d7, if_neg d6]
    · simp [chapbookref04_May.j1, chapbookref04_May.j2, chapbookref04_May.j3, chapbookref04_May.j4, d1]
  by_cases c2 : c = 2
  · subst c2
    by_cases d1 : n = 0
    · subst d1
      by_cases d2 : (s.size : Int) > 32 <;> simp [chapbookref04_May.j1, chapbookref04_May.j2, chapbookref04_May.j3, chapbookref04_May.j4, d2]
    · simp [chapbookref04_May.j1, chapbookref04_May.j2, chapbookref04_May.j3, chapbookref04_May.j4, d1]
  by_cases c4 : c = 4
  · subst c4
    by_cases d1 : n = 0
    · subst d1
      by_cases d2 : (s.size : Int) > 32 <;> simp [chapbookref04_May.j1, chapbookref04_May.j2, chapbookref04_May.j3, chapbookref04_May.j4, d2]
    · simp [chapbookref04_May.j1, chapbookref04_May.j2, chapbookref04_May.j3, chapbookref04_May.j4, d1]
  by_cases c5 : c = 5
  · subst c5
    by_cases d1 : n = 0
    · subst d1
      by_cases d2 : s.toList = []
      · have d4 : ¬ (s.size : Int) > 32 := by have := hn.1 d2; omega
        simp only [Int.not_lt, gt_iff_lt] at d4
        simp [chapbookref04_May.j1, chapbookref04_May.j2, chapbookref04_May.j3, chapbookref04_May.j4, d2, d4]
      · simp [chapbookref04_May.j1, chapbookref04_May.j2, chapbookref04_May.j3, chapbookref04_May.j4, d2]
    · simp [chapbookref04_May.j1, chapbookref04_May.j2, chapbookref04_May.j3, chapbookref04_May.j4, d1]
  · have e : (if c < 1 then chapbookref04_May.j1 (k + 5) true key c n s else chapbookref04_May.j1 (k + 5) (decide (c > 5)) key c n s) = some 5 := by
      by_cases e1 : c < 1
      · rw [if_pos e1]; simp [chapbookref04_May.j1]
      · rw [if_neg e1, decide_eq_true (by omega)]; simp [chapbookref04_May.j1]
    rw [e]
    simp [c1, c2, c3, c4, c5]
end Go.Proofs.Ytcmldinhecjcmaa.Pure
