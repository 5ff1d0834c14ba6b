/- What an update's bytes are, if it may be; what a Writer holds behind it. -/
import Derived.Test.YtjdenpmaianmfaaDoorY6Wr3
import Derived.Test.YtjdenpmaianmfaaDoorY6May
namespace Go.Proofs.YtjdenpmaianmfaaDoor.Pure
set_option linter.unusedSimpArgs false
open Go RowKit YtjdenpmaianmfaaDoorW.PrintWords YtjdenpmaianmfaaDoorW.PrintLast YtjdenpmaianmfaaDoorW.PrintMore Q
abbrev nil' : ByteArray := ⟨#[]⟩
theorem nil_app (x : ByteArray) : nil' ++ x = x := by apply ByteArray.ext; simp [ByteArray.data_append]
theorem app_nil (x : ByteArray) : x ++ nil' = x := by apply ByteArray.ext; simp [ByteArray.data_append]
def zz (n : Int) : Int := if n < 0 then -2 * n - 1 else 2 * n
def bytesU (k : ByteArray) (c n : Int) (s : ByteArray) : ByteArray :=
 (strOfNums (encL c) ++ Wr.txtP k) ++ (if c = 1 ∨ c = 3 then strOfNums (encL (zz n)) else if c = 2 ∨ c = 4 then Wr.txtP s else nil')
theorem may_zero {k : ByteArray} {c n : Int} {s : ByteArray} (h : may k c n s = 0) : 1 ≤ k.size ∧ k.size ≤ 16 ∧ 1 ≤ c ∧ c ≤ 5 ∧ (c = 1 ∨ c = 3 → s.size = 0 ∧ -2305843009213693952 ≤ n ∧ n < 2305843009213693952) ∧ (c = 2 ∨ c = 4 → n = 0 ∧ s.size ≤ 32) ∧ (c = 5 → n = 0 ∧ s.size = 0) := by
 have hn := nil_size s
 unfold may at h
 by_cases a : (k.size : Int) < 1 ∨ (k.size : Int) > 16
 ·rw [if_pos a] at h; omega
 rw [if_neg a] at h
 by_cases c13 : c = 1 ∨ c = 3
 ·rw [if_pos c13] at h
  by_cases d : s.toList = []
  ·rw [if_pos d] at h
   by_cases d2 : n < -2305843009213693952 ∨ n ≥ 2305843009213693952
   ·rw [if_pos d2] at h; omega
   ·have := hn.1 d
    refine ⟨by omega, by omega, by omega, by omega, fun _ => ⟨this, by omega, by omega⟩, fun _ => by omega, fun _ => by omega⟩
  ·rw [if_neg d] at h; omega
 rw [if_neg c13] at h
 by_cases c24 : c = 2 ∨ c = 4
 ·rw [if_pos c24] at h
  by_cases d : n = 0
  ·rw [if_pos d] at h
   by_cases d2 : (s.size : Int) > 32
   ·rw [if_pos d2] at h; omega
   ·refine ⟨by omega, by omega, by omega, by omega, fun _ => by omega, fun _ => ⟨d, by omega⟩, fun _ => by omega⟩
  ·rw [if_neg d] at h; omega
 rw [if_neg c24] at h
 by_cases c5 : c = 5
 ·rw [if_pos c5] at h
  by_cases d : n = 0 ∧ s.toList = []
  ·have := hn.1 d.2
   refine ⟨by omega, by omega, by omega, by omega, fun _ => by omega, fun _ => by omega, fun _ => ⟨d.1, this⟩⟩
  ·rw [if_neg d] at h; omega
 ·rw [if_neg c5] at h; omega
theorem numP_ok (n : Int) (h0 : 0 ≤ n) (h1 : n < 4611686018427387904) : Wr.numP n = (strOfNums (encL n), false) := by unfold Wr.numP; rw [if_pos ⟨h0, h1⟩]
theorem sgnP_ok (n : Int) (h0 : -2305843009213693952 ≤ n) (h1 : n < 2305843009213693952) : Wr.sgnP n = (strOfNums (encL (zz n)), false) := by unfold Wr.sgnP; rw [if_pos ⟨h0, h1⟩]; rfl
theorem addU_ok (x : ByteArray) {k : ByteArray} {c n : Int} {s : ByteArray} (h : may k c n s = 0) : Wr.addU (x, false) k c n s = (x ++ bytesU k c n s, false) := by
 obtain ⟨h1, h2, h3, h4, h5, h6, h7⟩ := may_zero h
 unfold Wr.addU bytesU
 by_cases c13 : c = 1 ∨ c = 3
 ·obtain ⟨a, b, d⟩ := h5 c13
  rw [if_pos c13, if_pos c13]
  simp only [Wr.addS, Wr.addT, Wr.addN, numP_ok c (by omega) (by omega), sgnP_ok n b d, Bool.or_false, ByteArray.append_assoc]
 by_cases c24 : c = 2 ∨ c = 4
 ·rw [if_neg c13, if_neg c13, if_pos c24, if_pos c24]
  simp only [Wr.addS, Wr.addT, Wr.addN, numP_ok c (by omega) (by omega), Bool.or_false, ByteArray.append_assoc]
 ·rw [if_neg c13, if_neg c13, if_neg c24, if_neg c24, app_nil]
  simp only [Wr.addS, Wr.addT, Wr.addN, numP_ok c (by omega) (by omega), Bool.or_false, ByteArray.append_assoc]
theorem txtP_size (s : ByteArray) : (Wr.txtP s).size ≤ 8 + s.size := by
 have := Wr.enc_size s.size
 unfold Wr.txtP
 rw [ByteArray.size_append]
 omega
theorem bytesU_max {k : ByteArray} {c n : Int} {s : ByteArray} (hm : may k c n s = 0) : (bytesU k c n s).size ≤ 80 := by
 obtain ⟨m1, m2, m3, m4, m5, m6, m7⟩ := may_zero hm
 have e1 := Wr.enc_size c
 have e2 := txtP_size k
 have e3 : (if c = 1 ∨ c = 3 then strOfNums (encL (zz n)) else if c = 2 ∨ c = 4 then Wr.txtP s else nil').size ≤ 40 := by
  split
  ·have := Wr.enc_size (zz n)
   omega
  ·split
   ·rename_i h
    have := (m6 h).2
    have := txtP_size s
    omega
   ·exact Nat.zero_le _
 unfold bytesU
 rw [ByteArray.size_append, ByteArray.size_append]
 omega
end Go.Proofs.YtjdenpmaianmfaaDoor.Pure
