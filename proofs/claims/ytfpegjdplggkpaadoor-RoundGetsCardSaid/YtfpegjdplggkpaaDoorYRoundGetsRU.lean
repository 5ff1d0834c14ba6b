/- What reading an update comes to, for the program and for the reference: one plain function of the bytes, the place and the error. -/
import Derived.Test.YtfpegjdplggkpaaDoorYRoundGetsRd
import Derived.Test.YtfpegjdplggkpaaDoorYRoundGetsQ6
import Derived.Test.YtfpegjdplggkpaaDoorYRoundGetsQ16
namespace Go.Proofs.YtfpegjdplggkpaaDoor.Pure
set_option linter.unusedSimpArgs false
open Go Go.RowKit Go.Proofs.YtfpegjdplggkpaaDoorW.PrintWords Go.Proofs.YtfpegjdplggkpaaDoorW.PrintLast Go.Proofs.YtfpegjdplggkpaaDoorW.PrintMore Go.Proofs.YtfpegjdplggkpaaDoor.Q
abbrev UR := ByteArray × Int × Int × ByteArray × Int × Int
def noU (p e : Int) : UR := (nil', 0, 0, nil', p, e)
def tailU (b : ByteArray) (p e : Int) (key : ByteArray) (c : Int) : UR :=
 if c = 1 ∨ c = 3 then (if (sgnR b p e).2.2 = 0 then (key, c, (sgnR b p e).1, nil', (sgnR b p e).2.1, 0) else noU (sgnR b p e).2.1 (sgnR b p e).2.2)
 else if c = 2 ∨ c = 4 then (if (txtR b p e 32).2.2 = 0 then (key, c, 0, (txtR b p e 32).1, (txtR b p e 32).2.1, 0) else noU (txtR b p e 32).2.1 (txtR b p e 32).2.2)
 else (if e = 0 then (key, c, 0, nil', p, 0) else noU p e)
def keyU (b : ByteArray) (p : Int) (c : Int) : UR :=
 if (txtR b p 0 16).2.2 = 0 then (if (txtR b p 0 16).1.toList = [] then noU (txtR b p 0 16).2.1 1 else tailU b (txtR b p 0 16).2.1 0 (txtR b p 0 16).1 c) else noU (txtR b p 0 16).2.1 (txtR b p 0 16).2.2
def readU (b : ByteArray) (p e : Int) : UR :=
 if (numR b p e 5).2.2 = 0 then (if (numR b p e 5).1 = 0 then noU (numR b p e 5).2.1 5 else keyU b (numR b p e 5).2.1 (numR b p e 5).1) else noU (numR b p e 5).2.1 (numR b p e 5).2.2
def outU (b : ByteArray) (r : UR) : ByteArray × Int × Int × ByteArray × ByteArray × Int × Int := (r.1, r.2.1, r.2.2.1, r.2.2.2.1, b, r.2.2.2.2.1, r.2.2.2.2.2)
theorem err_ok (b : ByteArray) (p e : Int) : pack_Reader_Err.f b p e = some (e, b, p, e) := rfl
theorem ptail (k : Nat) (b : ByteArray) (p e : Int) (key : ByteArray) (c : Int) (hs : b.size ≤ 140737488351232) (h0 : 0 ≤ p) (h1 : p ≤ b.size) : update_Read.j1 (k + 17) b p e key c 0 nil' = some (outU b (tailU b p e key c)) := by
 have j3 : ∀ q, update_Read.j3 (k + 15) q b p e key c 0 nil' = some (outU b (if q = true then (if (txtR b p e 32).2.2 = 0 then (key, c, 0, (txtR b p e 32).1, (txtR b p e 32).2.1, 0) else noU (txtR b p e 32).2.1 (txtR b p e 32).2.2) else (if e = 0 then (key, c, 0, nil', p, 0) else noU p e))) := by
  intro q
  simp only [update_Read.j3]
  by_cases hq : q = true
  ·rw [if_pos hq, if_pos hq, ptxt k b p e 32 hs h0 h1, Option.bind_some]
   simp only
   rw [err_ok, Option.bind_some]
   simp only
   by_cases he : (txtR b p e 32).2.2 = 0
   ·rw [if_pos he, if_pos he]; simp [outU, he]
   ·rw [if_neg he, if_neg he]; rfl
  ·rw [if_neg hq, if_neg hq, err_ok, Option.bind_some]
   simp only
   by_cases he : e = 0
   ·rw [if_pos he, if_pos he]; simp [outU, he]
   ·rw [if_neg he, if_neg he]; rfl
 have j2 : ∀ q, update_Read.j2 (k + 16) c q b p e key c 0 nil' = some (outU b (if q = true then (if (sgnR b p e).2.2 = 0 then (key, c, (sgnR b p e).1, nil', (sgnR b p e).2.1, 0) else noU (sgnR b p e).2.1 (sgnR b p e).2.2) else if c = 2 ∨ c = 4 then (if (txtR b p e 32).2.2 = 0 then (key, c, 0, (txtR b p e 32).1, (txtR b p e 32).2.1, 0) else noU (txtR b p e 32).2.1 (txtR b p e 32).2.2) else (if e = 0 then (key, c, 0, nil', p, 0) else noU p e))) := by
  intro q
  simp only [update_Read.j2]
  by_cases hq : q = true
  ·rw [if_pos hq, if_pos hq, psgn (k + 1) b p e hs, Option.bind_some]
   simp only
   rw [err_ok, Option.bind_some]
   simp only
   by_cases he : (sgnR b p e).2.2 = 0
   ·rw [if_pos he, if_pos he]; simp [outU, he]
   ·rw [if_neg he, if_neg he]; rfl
  ·rw [if_neg hq, if_neg hq]
   by_cases h2 : c = 2
   ·rw [if_pos h2, j3, if_pos (by simp [h2]), if_pos (Or.inl h2)]
   ·rw [if_neg h2, j3]
    by_cases h4 : c = 4
    ·rw [if_pos (by simp [h4]), if_pos (Or.inr h4)]
    ·rw [if_neg (show ¬ ((c == 4) = true) by simp [h4]), if_neg (show ¬ (c = 2 ∨ c = 4) by omega)]
 simp only [update_Read.j1]
 unfold tailU
 by_cases h1 : c = 1
 ·rw [if_pos h1, j2, if_pos (by simp [h1]), if_pos (Or.inl h1)]
 ·rw [if_neg h1, j2]
  by_cases h3 : c = 3
  ·rw [if_pos (by simp [h3]), if_pos (Or.inr h3)]
  ·rw [if_neg (show ¬ ((c == 3) = true) by simp [h3]), if_neg (show ¬ (c = 1 ∨ c = 3) by omega)]
theorem tailU_fail (b : ByteArray) {p e : Int} (key : ByteArray) (c : Int) (he : e ≠ 0) : tailU b p e key c = noU p e := by
 unfold tailU
 rw [sgnR_fail b he, txtR_fail b 32 he]
 simp only
 rw [if_neg he]
 repeat' split
 all_goals rfl
theorem nil_list : (nil' : ByteArray).toList = [] := by rw [ByteArray.toList_eq]
theorem pread (k : Nat) (b : ByteArray) (p e : Int) (hs : b.size ≤ 140737488351232) (h0 : 0 ≤ p) (h1 : p ≤ b.size) : update_Read.f (k + 18) b p e = some (outU b (readU b p e)) := by
 have hn := numR_place b p e 5 h0 h1
 have hz : (numR b p e 5).2.2 ≠ 0 → (numR b p e 5).1 = 0 := by
  unfold numR
  repeat' split
  all_goals simp
 have j0 : ∀ (q e' c : Int), 0 ≤ q → q ≤ b.size → update_Read.j0 (k + 18) b q e' nil' c 0 nil' = some (outU b (if e' = 0 then keyU b q c else noU q e')) := by
  intro q e' c hq0 hq1
  have ht := txtR_place b q e' 16 hq0 hq1
  simp only [update_Read.j0]
  rw [ptxt (k + 3) b q e' 16 hs hq0 hq1, Option.bind_some]
  simp only
  by_cases he : e' = 0
  ·subst he
   rw [if_pos rfl]
   unfold keyU
   by_cases hl : (txtR b q 0 16).1.toList = []
   ·rw [if_pos hl]
    by_cases hf : (txtR b q 0 16).2.2 = 0
    ·rw [if_pos hf, if_pos hl]
     unfold pack_Reader_Fail.f
     rw [if_pos hf, Option.bind_some, ptail k b _ _ _ _ hs ht.1 ht.2.1, tailU_fail b _ _ (show (1 : Int) ≠ 0 by decide)]
    ·rw [if_neg hf]
     unfold pack_Reader_Fail.f
     rw [if_neg hf, Option.bind_some, ptail k b _ _ _ _ hs ht.1 ht.2.1, tailU_fail b _ _ hf]
   ·rw [if_neg hl]
    by_cases hf : (txtR b q 0 16).2.2 = 0
    ·rw [if_pos hf, if_neg hl, ptail k b _ _ _ _ hs ht.1 ht.2.1, hf]
    ·rw [if_neg hf, ptail k b _ _ _ _ hs ht.1 ht.2.1, tailU_fail b _ _ hf]
  ·rw [if_neg he, txtR_fail b 16 he]
   simp only
   rw [if_pos nil_list]
   unfold pack_Reader_Fail.f
   rw [if_neg he, Option.bind_some, ptail k b _ _ _ _ hs hq0 hq1, tailU_fail b _ _ he]
 unfold update_Read.f readU
 rw [pnum (k + 4) b p e 5 hs, Option.bind_some]
 simp only
 by_cases hc : (numR b p e 5).1 = 0
 ·rw [if_pos hc]
  unfold pack_Reader_Fail.f
  by_cases hf : (numR b p e 5).2.2 = 0
  ·rw [if_pos hf, if_pos hf, Option.bind_some, j0 _ _ _ hn.1 hn.2.1, if_neg (show ¬ ((5 : Int) = 0) by decide), if_pos hc]
  ·rw [if_neg hf, if_neg hf, Option.bind_some, j0 _ _ _ hn.1 hn.2.1, if_neg hf]
 ·rw [if_neg hc, j0 _ _ _ hn.1 hn.2.1]
  by_cases hf : (numR b p e 5).2.2 = 0
  ·rw [if_pos hf, if_pos hf, if_neg hc]
  ·exact absurd (hz hf) hc
theorem rtail (k : Nat) (b : ByteArray) (p : Int) (key : ByteArray) (c : Int) (q : Bool) (hq : q = true ↔ (c = 1 ∨ c = 3)) (hs : b.size ≤ 140737488351232) (h0 : 0 ≤ p) (h1 : p ≤ b.size) :
  chapbookref06_Read.j0 (k + 25) c q b p 0 nil' 0 0 nil' key c 0 nil' = some (outU b (tailU b p 0 key c)) := by
 have j2 : ∀ (r : Bool) (p' e' n : Int), 0 ≤ p' → p' ≤ b.size → chapbookref06_Read.j2 (k + 23) r b p' e' nil' 0 0 nil' key c n nil' = some (outU b (if r = true then (if (txtR b p' e' 32).2.2 = 0 then (key, c, n, (txtR b p' e' 32).1, (txtR b p' e' 32).2.1, 0) else noU (txtR b p' e' 32).2.1 (txtR b p' e' 32).2.2) else (if e' = 0 then (key, c, n, nil', p', 0) else noU p' e'))) := by
  intro r p' e' n g0 g1
  simp only [chapbookref06_Read.j2]
  by_cases hr : r = true
  ·rw [if_pos hr, if_pos hr, rtxt k b p' e' 32 hs g0 g1, Option.bind_some]
   simp only
   by_cases he : (txtR b p' e' 32).2.2 = 0
   ·rw [if_pos he, if_pos he]; simp [outU, he]
   ·rw [if_neg he, if_neg he]; rfl
  ·rw [if_neg hr, if_neg hr]
   by_cases he : e' = 0
   ·rw [if_pos he, if_pos he]; simp [outU, he]
   ·rw [if_neg he, if_neg he]; rfl
 have j1 : ∀ (p' e' n : Int), 0 ≤ p' → p' ≤ b.size → chapbookref06_Read.j1 (k + 24) c b p' e' nil' 0 0 nil' key c n nil' = some (outU b (if c = 2 ∨ c = 4 then (if (txtR b p' e' 32).2.2 = 0 then (key, c, n, (txtR b p' e' 32).1, (txtR b p' e' 32).2.1, 0) else noU (txtR b p' e' 32).2.1 (txtR b p' e' 32).2.2) else (if e' = 0 then (key, c, n, nil', p', 0) else noU p' e'))) := by
  intro p' e' n g0 g1
  simp only [chapbookref06_Read.j1]
  by_cases h2 : c = 2
  ·rw [if_pos h2, j2 _ _ _ _ g0 g1, if_pos rfl, if_pos (Or.inl h2)]
  ·rw [if_neg h2, j2 _ _ _ _ g0 g1]
   by_cases h4 : c = 4
   ·rw [if_pos (by simp [h4]), if_pos (Or.inr h4)]
   ·rw [if_neg (show ¬ ((c == 4) = true) by simp [h4]), if_neg (show ¬ (c = 2 ∨ c = 4) by omega)]
 simp only [chapbookref06_Read.j0]
 unfold tailU
 by_cases h : q = true
 ·have hp := sgnR_place b p 0 h0 h1
  have hc := hq.1 h
  rw [if_pos h, rsgn (k + 4) b p 0 hs, Option.bind_some]
  simp only
  rw [j1 _ _ _ hp.1 hp.2.1, if_neg (show ¬ (c = 2 ∨ c = 4) by omega), if_pos hc]
 ·have hc : ¬ (c = 1 ∨ c = 3) := fun x => h (hq.2 x)
  rw [if_neg h, j1 _ _ _ h0 h1, if_neg hc]
theorem rread (k : Nat) (b : ByteArray) (p e : Int) (hs : b.size ≤ 140737488351232) (h0 : 0 ≤ p) (h1 : p ≤ b.size) : chapbookref06_Read.f (k + 25) b p e = some (outU b (readU b p e)) := by
 have hn := numR_place b p e 5 h0 h1
 unfold chapbookref06_Read.f readU
 rw [rnum (k + 3) b p e 5 hs, Option.bind_some]
 simp only
 by_cases hf : (numR b p e 5).2.2 = 0
 ·rw [if_pos hf, if_pos hf]
  by_cases hc : (numR b p e 5).1 = 0
  ·rw [if_pos hc, if_pos hc]; rfl
  ·rw [if_neg hc, if_neg hc, hf]
   have ht := txtR_place b (numR b p e 5).2.1 0 16 hn.1 hn.2.1
   rw [rtxt (k + 3) b _ 0 16 hs hn.1 hn.2.1, Option.bind_some]
   simp only
   unfold keyU
   by_cases hg : (txtR b (numR b p e 5).2.1 0 16).2.2 = 0
   ·rw [if_pos hg, if_pos hg]
    by_cases hl : (txtR b (numR b p e 5).2.1 0 16).1.toList = []
    ·rw [if_pos hl, if_pos hl]; rfl
    ·rw [if_neg hl, if_neg hl, hg]
     by_cases c1 : (numR b p e 5).1 = 1
     ·rw [if_pos c1]; exact rtail k b _ _ _ _ (by simp [c1]) hs ht.1 ht.2.1
     ·rw [if_neg c1]; exact rtail k b _ _ _ _ (by simp [c1]) hs ht.1 ht.2.1
   ·rw [if_neg hg, if_neg hg]; rfl
 ·rw [if_neg hf, if_neg hf]; rfl
end Go.Proofs.YtfpegjdplggkpaaDoor.Pure
