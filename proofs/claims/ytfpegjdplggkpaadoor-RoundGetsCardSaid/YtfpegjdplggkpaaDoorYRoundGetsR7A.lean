/- What Put, Get, Same and Bytes of rounds come to, for the program and for the document: plainly. -/
import Derived.Test.YtfpegjdplggkpaaDoorYRoundGetsRM0
import Derived.Test.YtfpegjdplggkpaaDoorYRoundGetsQ7
import Derived.Test.YtfpegjdplggkpaaDoorYRoundGetsRGet07
import Derived.Test.YtfpegjdplggkpaaDoorYRoundGetsRPut
import Derived.Test.YtfpegjdplggkpaaDoorYRoundGetsQ11
import Derived.Test.YtfpegjdplggkpaaDoorYRoundGetsUA
import Derived.Test.YtfpegjdplggkpaaDoorYRoundGetsPre2
import Derived.Test.YtfpegjdplggkpaaDoorYRoundGetsRd
import Derived.Test.YtfpegjdplggkpaaDoorYRoundGetsQ13
import Derived.Test.YtfpegjdplggkpaaDoorYRoundGetsRU
import Derived.Test.YtfpegjdplggkpaaDoorYRoundGetsQ8
import Derived.Test.YtfpegjdplggkpaaDoorYRoundGetsQ2
import Derived.Test.YtfpegjdplggkpaaDoorYRoundGetsQ9
namespace Go.Proofs.YtfpegjdplggkpaaDoor.Pure
set_option linter.unusedSimpArgs false
set_option linter.unusedVariables false
open Go Go.RowKit Go.Proofs.YtfpegjdplggkpaaDoorW.PrintWords Go.Proofs.YtfpegjdplggkpaaDoorW.PrintLast Go.Proofs.YtfpegjdplggkpaaDoorW.PrintMore Go.Proofs.YtfpegjdplggkpaaDoor.Q
theorem same_loop (a b a' b' : Int) (l : List Upd) (hl : l.length ≤ 9223372036854775807) : ∀ (d k : Nat) (x : Int), 0 ≤ x → x ≤ l.length → (l.length : Int) - x = d → d + 1 ≤ k → chapbookref07_Same.l0 k x a b l a' b' l = some true := by
 intro d
 induction d with
 | zero =>
  intro k x h0 h1 hd hk
  obtain ⟨k, rfl⟩ : ∃ m, k = m + 1 := ⟨k - 1, by omega⟩
  simp only [chapbookref07_Same.l0]
  rw [if_neg (by omega)]
 | succ d ih =>
  intro k x h0 h1 hd hk
  obtain ⟨k, rfl⟩ : ∃ m, k = m + 1 := ⟨k - 1, by omega⟩
  simp only [chapbookref07_Same.l0]
  rw [if_pos (by omega), if_pos h0, if_pos (by omega), if_neg (by simp), w64s h0 (by omega) hl]
  exact ih k (x + 1) (by omega) (by omega) (by omega) (by omega)
theorem psame (k : Nat) (a b : Int) (l : List Upd) (hl : l.length ≤ 9223372036854775807) (hk : l.length + 2 ≤ k) : chapbookref07_Same.f k a b l a b l = some true := by
 unfold chapbookref07_Same.f
 rw [if_pos rfl, if_pos rfl]
 obtain ⟨k, rfl⟩ : ∃ m, k = m + 1 := ⟨k - 1, by omega⟩
 simp only [chapbookref07_Same.j0]
 rw [if_neg (by simp)]
 exact same_loop a b a b l hl l.length k 0 (by omega) (by omega) (by omega) (by omega)
end Go.Proofs.YtfpegjdplggkpaaDoor.Pure
namespace Go.Proofs.YtfpegjdplggkpaaDoor.Pure
set_option linter.unusedSimpArgs false
set_option linter.unusedVariables false
open Go Go.RowKit Go.Proofs.YtfpegjdplggkpaaDoorW.PrintWords Go.Proofs.YtfpegjdplggkpaaDoorW.PrintLast Go.Proofs.YtfpegjdplggkpaaDoorW.PrintMore Go.Proofs.YtfpegjdplggkpaaDoor.Q
theorem pfailP (b : ByteArray) (p e a : Int) : pack_Reader_Fail.f b p e a = some (b, p, if e = 0 then a else e) := by unfold pack_Reader_Fail.f; split <;> rfl
theorem head_bad {b : ByteArray} {p l : Int} (h : (headR b p l).2.2 ≠ 0) : (headR b p l).1 = 0 := by
 unfold headR at h ⊢
 simp only at h ⊢
 by_cases he : (numR b p 0 l).2.2 = 0
 ·rw [if_pos he] at h
  by_cases hv : (numR b p 0 l).1 = 0
  ·exact hv
  ·rw [if_neg hv] at h; exact absurd rfl h
 ·unfold numR at he ⊢
  repeat' split
  all_goals first | rfl | (simp_all; done)
theorem psome0 (k : Nat) (b : ByteArray) (p l : Int) (hs : b.size ≤ 140737488351232) : round_some.f (k + 14) b p 0 l = some ((headR b p l).1, b, (headR b p l).2.1, (headR b p l).2.2) := by
 unfold round_some.f
 rw [pnum k b p 0 l hs, Option.bind_some]
 simp only
 unfold headR
 by_cases hv : (numR b p 0 l).1 = 0
 ·rw [if_pos hv, pfailP, Option.bind_some]
  simp only
  rw [if_pos hv]
 ·rw [if_neg hv]
  simp only
  rw [if_neg hv]
  by_cases he : (numR b p 0 l).2.2 = 0
  ·rw [if_pos he, he]
  ·rw [if_neg he]
theorem psomeE (k : Nat) (b : ByteArray) (p e l : Int) (hs : b.size ≤ 140737488351232) (he : e ≠ 0) : round_some.f (k + 14) b p e l = some (0, b, p, e) := by
 unfold round_some.f
 rw [pnum k b p e l hs, Option.bind_some, numR_fail b l he]
 simp only
 rw [if_pos trivial, pfailP, Option.bind_some, if_neg he]
theorem readU_fail (b : ByteArray) {p e : Int} (he : e ≠ 0) : readU b p e = noU p e := by
 unfold readU
 rw [numR_fail b 5 he]
 simp only
 rw [if_neg he]
theorem get_loopE (b : ByteArray) (hs : b.size ≤ 140737488351232) (o n m p e : Int) (h0 : 0 ≤ p) (h1 : p ≤ b.size) (he : e ≠ 0) (hm : m ≤ 100) : ∀ (d k : Nat) (x : Int) (acc : List Upd), 0 ≤ x → m - x ≤ d → d + 20 ≤ k → acc.length + d ≤ 1000 → round_Get.l0 k m x b p e o n acc = some (noR e) := by
 intro d
 induction d with
 | zero =>
  intro k x acc hx hd hk ha
  obtain ⟨k, rfl⟩ : ∃ q, k = q + 1 := ⟨k - 1, by omega⟩
  simp only [round_Get.l0]
  rw [if_neg (by omega), pend, Option.bind_some]
  simp only
  rw [show endR b p e = e by unfold endR; rw [if_neg he], if_neg he]
  rfl
 | succ d ih =>
  intro k x acc hx hd hk ha
  obtain ⟨k, rfl⟩ : ∃ q, k = q + 1 := ⟨k - 1, by omega⟩
  simp only [round_Get.l0]
  by_cases hlt : x < m
  ·obtain ⟨k, rfl⟩ : ∃ q, k = q + 18 := ⟨k - 18, by omega⟩
   rw [if_pos hlt, pread k b p e hs h0 h1, Option.bind_some, readU_fail b he]
   simp only [outU, noU]
   rw [if_pos (by omega), show wrap64 (x + 1) = x + 1 by unfold wrap64; omega]
   exact ih (k + 18) (x + 1) _ (by omega) (by omega) (by omega) (by rw [List.length_append, List.length_singleton]; omega)
  ·rw [if_neg hlt, pend, Option.bind_some]
   simp only
   rw [show endR b p e = e by unfold endR; rw [if_neg he], if_neg he]
   rfl
theorem get_loop (b : ByteArray) (hs : b.size ≤ 140737488351232) (o n : Int) : ∀ (d k : Nat) (x p : Int) (acc : List Upd), 0 ≤ p → p ≤ b.size → 0 ≤ x → x + d ≤ 100 → d + 20 ≤ k → acc.length + d ≤ 1000 → round_Get.l0 k (x + d) x b p 0 o n acc = some (getR3 b o n (acc ++ (upsR b d p).1, (upsR b d p).2)) := by
 intro d
 induction d with
 | zero =>
  intro k x p acc h0 h1 hx hd hk ha
  obtain ⟨k, rfl⟩ : ∃ q, k = q + 1 := ⟨k - 1, by omega⟩
  simp only [round_Get.l0]
  rw [if_neg (by omega), pend, Option.bind_some]
  simp only [upsR, getR3, List.append_nil]
  by_cases hq : endR b p 0 = 0
  ·rw [if_pos hq, if_neg (fun h => h rfl), if_neg (fun h => h hq)]
  ·rw [if_neg hq, if_neg (fun h => h rfl), if_pos hq]
   rfl
 | succ d ih =>
  intro k x p acc h0 h1 hx hd hk ha
  obtain ⟨k, rfl⟩ : ∃ q, k = q + 1 := ⟨k - 1, by omega⟩
  simp only [round_Get.l0]
  obtain ⟨k, rfl⟩ : ∃ q, k = q + 18 := ⟨k - 18, by omega⟩
  have hp := readU_placeG b p 0 h0 h1
  rw [if_pos (by omega), pread k b p 0 hs h0 h1, Option.bind_some]
  simp only [outU]
  rw [if_pos (by omega), show wrap64 (x + 1) = x + 1 by unfold wrap64; omega]
  by_cases he : (readU b p 0).2.2.2.2.2 = 0
  ·rw [he, show x + ((d + 1 : Nat) : Int) = (x + 1) + d by omega, ih (k + 18) (x + 1) _ _ hp.1 hp.2 (by omega) (by omega) (by omega) (by rw [List.length_append, List.length_singleton]; omega)]
   have e : upsR b (d + 1) p = (updR b p :: (upsR b d (readU b p 0).2.2.2.2.1).1, (upsR b d (readU b p 0).2.2.2.2.1).2) := by
    show (if _ then _ else _) = _
    rw [if_pos he]
   rw [e]
   simp [updR]
  ·rw [get_loopE b hs o n _ _ _ hp.1 hp.2 he (by omega) d (k + 18) (x + 1) _ (by omega) (by omega) (by omega) (by rw [List.length_append, List.length_singleton]; omega)]
   have e : upsR b (d + 1) p = ([], (readU b p 0).2.2.2.2.1, (readU b p 0).2.2.2.2.2) := by
    show (if _ then _ else _) = _
    rw [if_neg he]
   rw [e]
   unfold getR3
   simp only
   rw [if_pos he]
theorem head_place (b : ByteArray) (p l : Int) (h0 : 0 ≤ p) (h1 : p ≤ b.size) : 0 ≤ (headR b p l).2.1 ∧ (headR b p l).2.1 ≤ b.size ∧ 0 ≤ (headR b p l).1 ∧ (headR b p l).1 ≤ capR l := by
 have := numR_place b p 0 l h0 h1
 exact ⟨this.1, this.2.1, this.2.2.2.1, this.2.2.2.2⟩
theorem cap8 : capR 8 = 8 := by decide
theorem pgetR (k : Nat) (b : ByteArray) (hs : b.size ≤ 140737488351232) : round_Get.f (k + 40) b = some (getR b) := by
 unfold round_Get.f
 rw [show pack_Read.f b = some (b, 0, 0) from rfl, Option.bind_some]
 simp only
 rw [psome0 (k + 26) b 0 64 hs, Option.bind_some]
 simp only
 have h1 := head_place b 0 64 (by omega) (by omega)
 unfold getR
 by_cases e1 : (headR b 0 64).2.2 = 0
 ·rw [e1, if_neg (fun h => h rfl), psome0 (k + 26) b _ 1099511627776 hs, Option.bind_some]
  simp only
  have h2 := head_place b (headR b 0 64).2.1 1099511627776 h1.1 h1.2.1
  unfold getR1
  generalize headR b (headR b 0 64).2.1 1099511627776 = q at h2 ⊢
  by_cases e2 : q.2.2 = 0
  ·rw [e2, if_neg (fun h => h rfl), psome0 (k + 26) b _ 8 hs, Option.bind_some]
   simp only
   have h3 := head_place b q.2.1 8 h2.1 h2.2.1
   rw [cap8] at h3
   have hb := @head_bad b q.2.1 8
   unfold getR2
   generalize headR b q.2.1 8 = m at h3 hb ⊢
   by_cases e3 : m.2.2 = 0
   ·rw [e3, if_neg (fun h => h rfl)]
    have := get_loop b hs (headR b 0 64).1 q.1 m.1.toNat (k + 40) 0 m.2.1 [] h3.1 h3.2.1 (by omega) (by omega) (by omega) (by simp; omega)
    rw [show (0 : Int) + (m.1.toNat : Int) = m.1 by omega] at this
    rw [this, List.nil_append]
   ·rw [if_pos e3, hb e3]
    exact get_loopE b hs _ _ 0 _ _ h3.1 h3.2.1 e3 (by omega) 0 (k + 40) 0 [] (by omega) (by omega) (by omega) (by simp)
  ·rw [if_pos e2, psomeE (k + 26) b _ _ 8 hs e2, Option.bind_some]
   exact get_loopE b hs _ _ 0 _ _ h2.1 h2.2.1 e2 (by omega) 0 (k + 40) 0 [] (by omega) (by omega) (by omega) (by simp)
 ·rw [if_pos e1, psomeE (k + 26) b _ _ _ hs e1, Option.bind_some]
  simp only
  rw [psomeE (k + 26) b _ _ _ hs e1, Option.bind_some]
  exact get_loopE b hs _ _ 0 _ _ h1.1 h1.2.1 e1 (by omega) 0 (k + 40) 0 [] (by omega) (by omega) (by omega) (by simp)
theorem rgetR (k : Nat) (b : ByteArray) (hs : b.size ≤ 140737488351232) : chapbookref07_Get.f k b = some (getR b) := by unfold chapbookref07_Get.f; rw [if_pos hs]
theorem awake300 : chapbooklaw07_awake.f 300 = some true := by kernel_rfl
theorem awake299 : chapbooklaw07_awake.f 299 = some true := by kernel_rfl
end Go.Proofs.YtfpegjdplggkpaaDoor.Pure
