/- May an update be: the program's answer and the reference's. -/
import Derived.Test.YtjdenpmaianmfaaDoorY6Q3
import Derived.Test.YtjdenpmaianmfaaDoorY6Q5
namespace Go.Proofs.YtjdenpmaianmfaaDoor.Pure
set_option linter.unusedSimpArgs false
open Go RowKit YtjdenpmaianmfaaDoorW.PrintWords YtjdenpmaianmfaaDoorW.PrintLast YtjdenpmaianmfaaDoorW.PrintMore Q
def may (key : ByteArray) (c n : Int) (s : ByteArray) : Int :=
 if (key.size : Int) < 1 ∨ (key.size : Int) > 16 then 1
 else if c = 1 ∨ c = 3 then (if s.toList = [] then (if n < -2305843009213693952 ∨ n ≥ 2305843009213693952 then 1 else 0) else 13)
 else if c = 2 ∨ c = 4 then (if n = 0 then (if (s.size : Int) > 32 then 1 else 0) else 13)
 else if c = 5 then (if n = 0 ∧ s.toList = [] then 0 else 13)
 else 5
theorem nil_size (s : ByteArray) : s.toList = [] ↔ s.size = 0 := by
 rw [ByteArray.toList_eq]
 constructor
 ·intro h
  have := congrArg List.length h
  simpa using this
 ·intro h
  apply List.eq_nil_of_length_eq_zero
  simpa using h
theorem may_ok (k : Nat) (key : ByteArray) (c n : Int) (s : ByteArray) : value_May.f (k + 4) key c n s = some (may key c n s) := by
 unfold value_May.f may
 by_cases a1 : (key.size : Int) < 1
 ·simp [a1, value_May.j0]
 by_cases a2 : (key.size : Int) > 16
 ·simp [a1, a2, value_May.j0]
 simp only [a1, a2, or_self, if_false, decide_false]
 by_cases c1 : c = 1
 ·subst c1
  by_cases d1 : s.toList = [] <;> by_cases d2 : n < -2305843009213693952 <;> by_cases d3 : n ≥ 2305843009213693952 <;> simp [value_May.j0, value_May.j1, d1, d2, d3]
 by_cases c3 : c = 3
 ·subst c3
  by_cases d1 : s.toList = [] <;> by_cases d2 : n < -2305843009213693952 <;> by_cases d3 : n ≥ 2305843009213693952 <;> simp [value_May.j0, value_May.j1, d1, d2, d3]
 by_cases c2 : c = 2
 ·subst c2
  by_cases d1 : n = 0 <;> by_cases d2 : (s.size : Int) > 32 <;> simp [value_May.j0, value_May.j1, value_May.j2, d1, d2]
 by_cases c4 : c = 4
 ·subst c4
  by_cases d1 : n = 0 <;> by_cases d2 : (s.size : Int) > 32 <;> simp [value_May.j0, value_May.j1, value_May.j2, d1, d2]
 by_cases c5 : c = 5
 ·subst c5
  by_cases d1 : n = 0 <;> by_cases d2 : s.toList = [] <;> simp [value_May.j0, value_May.j1, value_May.j2, d1, d2]
 ·simp [value_May.j0, value_May.j1, value_May.j2, c1, c2, c3, c4, c5]
theorem rmay_ok (k : Nat) (key : ByteArray) (c n : Int) (s : ByteArray) : chapbookref04_May.f (k + 6) key c n s = some (may key c n s) := by
 unfold chapbookref04_May.f may
 have hn := nil_size s
 by_cases a1 : (key.size : Int) = 0
 ·have b1 : (key.size : Int) < 1 := by omega
  simp [a1, chapbookref04_May.j0]
 have b1 : ¬ (key.size : Int) < 1 := by omega
 by_cases a2 : (key.size : Int) > 16
 ·simp [a1, a2, chapbookref04_May.j0]
 rw [if_neg a1, decide_eq_false a2, if_neg (by omega)]
 simp only [chapbookref04_May.j0]
 rw [if_neg (by decide)]
 by_cases c1 : c = 1
 ·subst c1
  by_cases d1 : s.toList = []
  ·have d4 : ¬ (s.size : Int) > 32 := by have := hn.1 d1; omega
   by_cases d2 : n < -2305843009213693952
   ·simp [chapbookref04_May.j1, chapbookref04_May.j2, chapbookref04_May.j3, chapbookref04_May.j4, d1, d2]
   by_cases d3 : n > 2305843009213693951
   ·have d5 : n ≥ 2305843009213693952 := by omega
    simp [chapbookref04_May.j1, chapbookref04_May.j2, chapbookref04_May.j3, chapbookref04_May.j4, d1, d2, d3, d5]
   ·have d5 : ¬ n ≥ 2305843009213693952 := by omega
    have d6 : ¬ 32 < (s.size : Int) := by omega
    have d7 : ¬ 2305843009213693951 < n := by omega
    have d8 : ¬ 2305843009213693952 ≤ n := by omega
    simp [chapbookref04_May.j1, chapbookref04_May.j2, chapbookref04_May.j3, chapbookref04_May.j4, d1, d2, d8]
    rw [if_neg d7, if_neg d6]
  ·simp [chapbookref04_May.j1, chapbookref04_May.j2, chapbookref04_May.j3, chapbookref04_May.j4, d1]
 by_cases c3 : c = 3
 ·subst c3
  by_cases d1 : s.toList = []
  ·have d4 : ¬ (s.size : Int) > 32 := by have := hn.1 d1; omega
   by_cases d2 : n < -2305843009213693952
   ·simp [chapbookref04_May.j1, chapbookref04_May.j2, chapbookref04_May.j3, chapbookref04_May.j4, d1, d2]
   by_cases d3 : n > 2305843009213693951
   ·have d5 : n ≥ 2305843009213693952 := by omega
    simp [chapbookref04_May.j1, chapbookref04_May.j2, chapbookref04_May.j3, chapbookref04_May.j4, d1, d2, d3, d5]
   ·have d5 : ¬ n ≥ 2305843009213693952 := by omega
    have d6 : ¬ 32 < (s.size : Int) := by omega
    have d7 : ¬ 2305843009213693951 < n := by omega
    have d8 : ¬ 2305843009213693952 ≤ n := by omega
    simp [chapbookref04_May.j1, chapbookref04_May.j2, chapbookref04_May.j3, chapbookref04_May.j4, d1, d2, d8]
    rw [if_neg d7, if_neg d6]
  ·simp [chapbookref04_May.j1, chapbookref04_May.j2, chapbookref04_May.j3, chapbookref04_May.j4, d1]
 by_cases c2 : c = 2
 ·subst c2
  by_cases d1 : n = 0
  ·subst d1
   by_cases d2 : (s.size : Int) > 32 <;> simp [chapbookref04_May.j1, chapbookref04_May.j2, chapbookref04_May.j3, chapbookref04_May.j4, d2]
  ·simp [chapbookref04_May.j1, chapbookref04_May.j2, chapbookref04_May.j3, chapbookref04_May.j4, d1]
 by_cases c4 : c = 4
 ·subst c4
  by_cases d1 : n = 0
  ·subst d1
   by_cases d2 : (s.size : Int) > 32 <;> simp [chapbookref04_May.j1, chapbookref04_May.j2, chapbookref04_May.j3, chapbookref04_May.j4, d2]
  ·simp [chapbookref04_May.j1, chapbookref04_May.j2, chapbookref04_May.j3, chapbookref04_May.j4, d1]
 by_cases c5 : c = 5
 ·subst c5
  by_cases d1 : n = 0
  ·subst d1
   by_cases d2 : s.toList = []
   ·have d4 : ¬ (s.size : Int) > 32 := by have := hn.1 d2; omega
    simp only [Int.not_lt, gt_iff_lt] at d4
    simp [chapbookref04_May.j1, chapbookref04_May.j2, chapbookref04_May.j3, chapbookref04_May.j4, d2, d4]
   ·simp [chapbookref04_May.j1, chapbookref04_May.j2, chapbookref04_May.j3, chapbookref04_May.j4, d2]
  ·simp [chapbookref04_May.j1, chapbookref04_May.j2, chapbookref04_May.j3, chapbookref04_May.j4, d1]
 ·have e : (if c < 1 then chapbookref04_May.j1 (k + 5) true key c n s else chapbookref04_May.j1 (k + 5) (decide (c > 5)) key c n s) = some 5 := by
   by_cases e1 : c < 1
   ·rw [if_pos e1]; simp [chapbookref04_May.j1]
   ·rw [if_neg e1, decide_eq_true (by omega)]; simp [chapbookref04_May.j1]
  rw [e]
  simp [c1, c2, c3, c4, c5]
end Go.Proofs.YtjdenpmaianmfaaDoor.Pure
