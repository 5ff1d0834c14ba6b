/- Layer 1: what Put, Get, Zig, Zag of the reference come to. -/
import Derived.Test.YtfpegjdplggkpaaDoorYRoundGetsPre0
import Derived.Test.YtfpegjdplggkpaaDoorYRoundGetsQ12
import Derived.Test.YtfpegjdplggkpaaDoorYRoundGetsQ14
import Derived.Test.YtfpegjdplggkpaaDoorYRoundGetsQ13
import Derived.Test.YtfpegjdplggkpaaDoorYRoundGetsQ15
namespace Go.Proofs.YtfpegjdplggkpaaDoor.Pure
set_option linter.unusedSimpArgs false
open Go Go.RowKit Go.Proofs.YtfpegjdplggkpaaDoorW.PrintWords Go.Proofs.YtfpegjdplggkpaaDoorW.PrintLast Go.Proofs.YtfpegjdplggkpaaDoorW.PrintMore Go.Proofs.YtfpegjdplggkpaaDoor.Q
theorem rzag_ok (n : Int) (h0 : 0 ≤ n) (h1 : n < 4611686018427387904) : chapbookref01_Zag.f n = some (if n % 2 = 1 then -(n / 2) - 1 else n / 2) := by
 unfold chapbookref01_Zag.f
 have t1 : Int.tmod n 2 = n % 2 := Int.tmod_eq_emod_of_nonneg h0
 have t2 : Int.tdiv n 2 = n / 2 := Int.tdiv_eq_ediv_of_nonneg h0
 rw [if_neg (by omega), t1, t2, u64in (n / 2) (by omega) (by omega), w64 (n := n / 2) (by omega) (by omega)]
 by_cases hn : n % 2 = 1
 ·rw [if_pos hn, if_pos hn, w64 (n := -(n / 2)) (by omega) (by omega), w64 (n := -(n / 2) - 1) (by omega) (by omega)]
 ·rw [if_neg hn, if_neg hn]
theorem rsize_ok (n : Int) (h1 : n < 4611686018427387904) : chapbookref01_Size.f n = some (szL n) := by
 unfold chapbookref01_Size.f szL; repeat' split
 all_goals first | rfl | omega
theorem rget_dbl (k : Nat) (p y t i : Int) (b : ByteArray) (h0 : 0 < i) (h1 : i ≤ 8) (h2 : 0 ≤ t) (h3 : t ≤ 100) : chapbookref01_Get.l0 (k + 1) b p y t i = chapbookref01_Get.l0 k b p y (t * 2) (i - 1) := by
 simp only [chapbookref01_Get.l0]; rw [if_pos h0, w64 (by omega) (by omega), w64 (by omega) (by omega)]
theorem rget_mid (k : Nat) (p y t : Int) (b : ByteArray) (hp : 0 ≤ p) (hq : p ≤ b.size) (hs : b.size ≤ 140737488351232) :
  chapbookref01_Get.l0 (k + 1) b p y t 0 = if (b.size : Int) - p < t then some (0, 0, 2) else chapbookref01_Get.l1 k b p t (IntKind.u64.wrap (Int.tmod y 64)) 1 := by
 simp only [chapbookref01_Get.l0]; rw [if_neg (by decide), w64 (n := (b.size : Int) - p) (by omega) (by omega)]
theorem rget_step (k : Nat) (p t x i : Int) (b : ByteArray) (h0 : 0 ≤ x) (h1 : x < 2 ^ 54) (h2 : 0 ≤ i) (h3 : i < t) (h4 : t ≤ 8) (h5 : p + t ≤ b.size) (h6 : 0 ≤ p) (hs : b.size ≤ 140737488351232) :
  chapbookref01_Get.l1 (k + 1) b p t x i = chapbookref01_Get.l1 k b p t (x * 256 + bt b (p + i)) (i + 1) := by
 have hb := bt_range b (p + i)
 simp only [chapbookref01_Get.l1]
 rw [if_pos h3, w64 (n := p + i) (by omega) (by omega), if_pos (by omega), if_pos (by omega), w64 (n := i + 1) (by omega) (by omega)]
 rw [u64in (256 * x) (by omega) (by omega), u64in (bt b (p + i)) (by omega) (by omega), u64in _ (by omega) (by omega), Int.mul_comm 256 x]
theorem rget_fill (p t : Int) (b : ByteArray) (ht : t ≤ 8) (hp : 0 ≤ p) (hpt : p + t ≤ b.size) (hs : b.size ≤ 140737488351232) : ∀ (n k : Nat) (x i : Int), 0 ≤ x → (x + 1) * 256 ^ n ≤ 2 ^ 62 → 0 ≤ i → i + n = t → chapbookref01_Get.l1 (k + n) b p t x i = chapbookref01_Get.l1 k b p t (accR b p n x i) t
 | 0, k, x, i, _, _, _, h1 => by
  have : i = t := by omega
  subst this
  rfl
 | n + 1, k, x, i, g0, g1, h0, h1 => by
  have hb := bt_range b (p + i)
  have hp' : (x + 1) * 256 ^ (n + 1) = (x * 256 + 256) * 256 ^ n := by rw [Int.pow_succ, Int.mul_comm (256 ^ n) 256, ← Int.mul_assoc]; congr 1; omega
  have hq : (1 : Int) ≤ 256 ^ n := Int.pow_pos (by decide)
  have hx : (x * 256 + 256) * 1 ≤ (x * 256 + 256) * 256 ^ n := Int.mul_le_mul_of_nonneg_left hq (by omega)
  have hy : (x * 256 + bt b (p + i) + 1) * 256 ^ n ≤ (x * 256 + 256) * 256 ^ n := Int.mul_le_mul_of_nonneg_right (by omega) (by omega)
  refine (rget_step (k + n) p t x i b g0 (by omega) h0 (by omega) ht hpt hp hs).trans ?_
  exact rget_fill p t b ht hp hpt hs n k (x * 256 + bt b (p + i)) (i + 1) (by omega) (by omega) (by omega) (by omega)
theorem rget_end (k : Nat) (p t x : Int) (b : ByteArray) : chapbookref01_Get.l1 (k + 1) b p t x t = (chapbookref01_Size.f x).bind fun q => if q < t then some (0, 0, 3) else some (x, wrap64 (p + t), 0) := by
 simp only [chapbookref01_Get.l1]; rw [if_neg (by omega)]
theorem rget_ok (k : Nat) (b : ByteArray) (p : Int) (hs : b.size ≤ 140737488351232) : chapbookref01_Get.f (k + 20) b p = some (getL b p) := by
 unfold chapbookref01_Get.f getL
 by_cases hp : p < 0
 ·rw [if_pos hp, if_pos (Or.inl hp)]; simp [chapbookref01_Get.j0]
 rw [if_neg hp]
 by_cases hq : (b.size : Int) < p
 ·rw [decide_eq_true (by omega), if_pos (Or.inr hq)]; simp [chapbookref01_Get.j0]
 rw [decide_eq_false (by omega), if_neg (by omega)]
 show chapbookref01_Get.j0 (k + 19 + 1) b p false = _
 simp only [chapbookref01_Get.j0]
 rw [if_neg (by decide)]
 by_cases he : p = b.size
 ·rw [if_pos he, if_pos (Or.inl he)]
 have hf := bt_range b p
 rw [if_neg he, if_pos (by omega), if_pos (by omega), w64 (n := bt b p) (by omega) (by omega)]
 have t2 : Int.tdiv (bt b p) 64 = bt b p / 64 := Int.tdiv_eq_ediv_of_nonneg hf.1
 have t3 : IntKind.u64.wrap (Int.tmod (bt b p) 64) = bt b p % 64 := by rw [Int.tmod_eq_emod_of_nonneg hf.1]; exact u64in _ (by omega) (by omega)
 rw [t2, w64 (n := bt b p / 64) (by omega) (by omega)]
 have mid : ∀ j, 10 ≤ j → chapbookref01_Get.l0 (j + 1) b p (bt b p) (tw (bt b p)) 0 = some (if p = b.size ∨ (b.size : Int) - p < tw (bt b p) then (0, 0, 2) else if szL (valL b p (tw (bt b p))) = tw (bt b p) then (valL b p (tw (bt b p)), p + tw (bt b p), 0) else (0, 0, 3)) := by
  intro j hj
  obtain ⟨j, rfl⟩ : ∃ m, j = m + 10 := ⟨j - 10, by omega⟩
  rw [rget_mid _ _ _ _ _ (by omega) (by omega) hs, t3]
  by_cases hc : (b.size : Int) - p < tw (bt b p)
  ·rw [if_pos hc, if_pos (Or.inr hc)]
  rw [if_neg hc, if_neg (by omega)]
  have fin : ∀ j v, valL b p (tw (bt b p)) = v → chapbookref01_Get.l1 (j + 1) b p (tw (bt b p)) v (tw (bt b p)) = some (if szL (valL b p (tw (bt b p))) = tw (bt b p) then (valL b p (tw (bt b p)), p + tw (bt b p), 0) else (0, 0, 3)) := by
   intro j v hv
   subst hv
   have hv := valL_range b p (bt b p)
   have ht : tw (bt b p) ≤ 8 := by rcases tw_cases (bt b p) with ⟨_, e⟩ | ⟨_, _, e⟩ | ⟨_, _, e⟩ | ⟨_, e⟩ <;> omega
   have ht0 : 0 < tw (bt b p) := by rcases tw_cases (bt b p) with ⟨_, e⟩ | ⟨_, _, e⟩ | ⟨_, _, e⟩ | ⟨_, e⟩ <;> omega
   rw [rget_end, rsize_ok _ hv.2.1]
   simp only [Option.bind_some]
   rw [w64 (n := p + _) (by omega) (by omega)]
   by_cases hz : szL (valL b p (tw (bt b p))) = tw (bt b p)
   ·rw [if_neg (by omega), if_pos hz]
   ·rw [if_pos (by omega), if_neg hz]
  have ht0 : 1 ≤ tw (bt b p) ∧ tw (bt b p) ≤ 8 := by rcases tw_cases (bt b p) with ⟨_, e⟩ | ⟨_, _, e⟩ | ⟨_, _, e⟩ | ⟨_, e⟩ <;> omega
  have go := rget_fill p (tw (bt b p)) b ht0.2 (by omega) (by omega) hs
  rcases tw_cases (bt b p) with ⟨_, e⟩ | ⟨_, _, e⟩ | ⟨_, _, e⟩ | ⟨_, e⟩
  ·have := fin (j + 9) (bt b p % 64) (by rw [e]; rfl)
   rw [e] at this ⊢
   exact this
  ·have f := fin (j + 8) (bt b p % 64 * 256 + bt b (p + 1)) (by rw [e]; rfl)
   have g := go 1 (j + 9) (bt b p % 64) 1 (by omega) (by show (bt b p % 64 + 1) * 256 ≤ 4611686018427387904; omega) (by decide) (by rw [e]; rfl)
   rw [e] at f g ⊢
   refine g.trans ?_
   simp only [accR]
   exact f
  ·have f := fin (j + 6) (((bt b p % 64 * 256 + bt b (p + 1)) * 256 + bt b (p + 2)) * 256 + bt b (p + 3)) (by rw [e]; rfl)
   have g := go 3 (j + 7) (bt b p % 64) 1 (by omega) (by show (bt b p % 64 + 1) * 16777216 ≤ 4611686018427387904; omega) (by decide) (by rw [e]; rfl)
   rw [e] at f g ⊢
   refine g.trans ?_
   simp only [accR, Int.reduceAdd]
   exact f
  ·have f := fin (j + 2) (((((((bt b p % 64 * 256 + bt b (p + 1)) * 256 + bt b (p + 2)) * 256 + bt b (p + 3)) * 256 + bt b (p + 4)) * 256 + bt b (p + 5)) * 256 + bt b (p + 6)) * 256 + bt b (p + 7)) (by rw [e]; rfl)
   have g := go 7 (j + 3) (bt b p % 64) 1 (by omega) (by show (bt b p % 64 + 1) * 72057594037927936 ≤ 4611686018427387904; omega) (by decide) (by rw [e]; rfl)
   rw [e] at f g ⊢
   refine g.trans ?_
   simp only [accR, Int.reduceAdd]
   exact f
 show chapbookref01_Get.l0 (k + 15 + 1 + 1 + 1 + 1) b p (bt b p) 1 (bt b p / 64) = _
 rcases tw_cases (bt b p) with ⟨_, e⟩ | ⟨_, _, e⟩ | ⟨_, _, e⟩ | ⟨_, e⟩
 ·rw [show bt b p / 64 = 0 from by omega]
  have := mid (k + 18) (by omega)
  rw [e] at this ⊢; exact this
 ·rw [show bt b p / 64 = 1 from by omega]
  refine (rget_dbl (k + 18) p (bt b p) 1 1 b (by decide) (by decide) (by decide) (by decide)).trans ?_
  have := mid (k + 17) (by omega)
  rw [e] at this ⊢; exact this
 ·rw [show bt b p / 64 = 2 from by omega]
  refine (rget_dbl (k + 18) p (bt b p) 1 2 b (by decide) (by decide) (by decide) (by decide)).trans ?_
  refine (rget_dbl (k + 17) p (bt b p) (1 * 2) (2 - 1) b (by decide) (by decide) (by decide) (by decide)).trans ?_
  have := mid (k + 16) (by omega)
  rw [e] at this ⊢; exact this
 ·rw [show bt b p / 64 = 3 from by omega]
  refine (rget_dbl (k + 18) p (bt b p) 1 3 b (by decide) (by decide) (by decide) (by decide)).trans ?_
  refine (rget_dbl (k + 17) p (bt b p) (1 * 2) (3 - 1) b (by decide) (by decide) (by decide) (by decide)).trans ?_
  refine (rget_dbl (k + 16) p (bt b p) (1 * 2 * 2) (3 - 1 - 1) b (by decide) (by decide) (by decide) (by decide)).trans ?_
  have := mid (k + 15) (by omega)
  rw [e] at this ⊢; exact this
end Go.Proofs.YtfpegjdplggkpaaDoor.Pure
