/- Layer 1: what Put, Get, Zig, Zag of the program come to. -/
import Derived.Test.YtjmoncfgoaaekaaDoorYFeedOrderPre0
import Derived.Test.YtjmoncfgoaaekaaDoorYFeedOrderQ3
import Derived.Test.YtjmoncfgoaaekaaDoorYFeedOrderQ11
namespace Go.Proofs.YtjmoncfgoaaekaaDoor.Pure
set_option linter.unusedSimpArgs false
open Go Go.RowKit Go.Proofs.YtjmoncfgoaaekaaDoorW.PrintWords Go.Proofs.YtjmoncfgoaaekaaDoorW.PrintLast Go.Proofs.YtjmoncfgoaaekaaDoorW.PrintMore Go.Proofs.YtjmoncfgoaaekaaDoor.Q
theorem zig_ok (n : Int) (h0 : -2305843009213693952 ≤ n) (h1 : n < 2305843009213693952) : prefix_Zig.f n = some (if n < 0 then -2 * n - 1 else 2 * n, true) := by
 unfold prefix_Zig.f
 rw [if_neg (by omega), if_neg (by omega)]
 have e1 : wrap64 (n * 2) = n * 2 := w64 (by omega) (by omega)
 rw [e1]
 by_cases hn : n < 0
 ·have e2 : IntKind.u64.wrap (n / 9223372036854775808) = 18446744073709551615 := by rw [u64w]; omega
  have e3 : IntKind.u64.wrap (n * 2) = n * 2 + 18446744073709551616 := by rw [u64w]; omega
  rw [e2, e3, xor_ones _ (by omega) (by omega), if_pos hn]
  congr 2; omega
 ·have e2 : IntKind.u64.wrap (n / 9223372036854775808) = 0 := by rw [u64w]; omega
  have e3 : IntKind.u64.wrap (n * 2) = n * 2 := by rw [u64w]; omega
  rw [e2, e3, xor_zero _ (by omega) (by omega), if_neg hn]
  congr 2; omega
theorem zig_no (n : Int) (h : n < -2305843009213693952 ∨ 2305843009213693952 ≤ n) : prefix_Zig.f n = some (0, false) := by
 unfold prefix_Zig.f
 rcases h with h | h
 ·rw [if_pos h]
 ·rw [if_neg (by omega), if_pos (by omega)]
theorem zag_ok (n : Int) (h0 : 0 ≤ n) (h1 : n < 4611686018427387904) : prefix_Zag.f n = some (if n % 2 = 1 then -(n / 2) - 1 else n / 2) := by
 unfold prefix_Zag.f
 rw [if_neg (by omega), and1 n h0 (by omega)]
 have e1 : wrap64 (n / 2) = n / 2 := w64 (by omega) (by omega)
 have e2 : wrap64 (n % 2) = n % 2 := w64 (by omega) (by omega)
 have e3 : wrap64 (-(n % 2)) = -(n % 2) := w64 (by omega) (by omega)
 rw [e1, e2, e3]
 by_cases hn : n % 2 = 1
 ·rw [hn, if_pos rfl, xor_iones _ (by omega) (by omega)]
  congr 1; omega
 ·have : n % 2 = 0 := by omega
  rw [this, if_neg (by omega), show (-0 : Int) = 0 from rfl, xor_izero _ (by omega) (by omega)]
theorem spelling_ok (n : Int) (h0 : 0 ≤ n) (h1 : n < 4611686018427387904) : prefix_spelling.f n = some (if n < 64 then 0 else if n < 16384 then 1 else if n < 1073741824 then 2 else 3) := by
 unfold prefix_spelling.f; rw [if_neg (by omega)]; repeat' split
 all_goals first | rfl | omega
theorem size_ok (n : Int) (h0 : 0 ≤ n) (h1 : n < 4611686018427387904) : prefix_Size.f n = some (szL n) := by
 unfold prefix_Size.f szL
 rw [if_neg (by omega), spelling_ok n h0 h1]
 simp only [Option.bind_some]
 repeat' split
 all_goals first | rfl | omega
theorem size_no (n : Int) (h : 4611686018427387904 ≤ n) : prefix_Size.f n = some 0 := by unfold prefix_Size.f; rw [if_pos (by omega)]
theorem put_step (k : Nat) (x t i L : Int) (l : List Int) (h0 : 0 ≤ i) (h1 : i < L) (h2 : L = t) (h3 : t ≤ 8) (h4 : (l.length : Int) = L) :
  prefix_Put.l0 (k + 1) x t l L i = prefix_Put.l0 k x t (l.set i.toNat (x / 2 ^ (8 * (t - 1 - i)).toNat % 256)) L (i + 1) := by
 have e : wrap64 (8 * (wrap64 ((wrap64 (t - 1)) - i))) = 8 * (t - 1 - i) := by rw [w64 (n := t - 1) (by omega) (by omega), w64 (n := t - 1 - i) (by omega) (by omega), w64 (by omega) (by omega)]
 simp only [prefix_Put.l0]
 rw [if_pos h1, e, if_pos (by omega), if_pos h0, if_pos (by omega), w64 (n := i + 1) (by omega) (by omega)]
 unfold shr
 rw [Nat.min_eq_left (by show _ ≤ 64; omega)]
theorem put_end (k : Nat) (x t L : Int) (l : List Int) : prefix_Put.l0 (k + 1) x t l L L = some (strOfNums l, 0) := by
 simp only [prefix_Put.l0]; rw [if_neg (by omega)]
theorem put_fill (x t : Int) (ht : t ≤ 8) : ∀ (n k : Nat) (l : List Int) (i : Int), 0 ≤ i → i + n = t → (l.length : Int) = t → prefix_Put.l0 (k + n + 1) x t l t i = some (strOfNums (fillL x t n l i), 0)
 | 0, k, l, i, _, h1, _ => by
  have : i = t := by omega
  subst this
  exact put_end k x i i l
 | n + 1, k, l, i, h0, h1, h2 => by
  show prefix_Put.l0 ((k + n + 1) + 1) x t l t i = _
  rw [put_step (k + n + 1) x t i t l h0 (by omega) rfl ht h2]
  exact put_fill x t ht n k _ (i + 1) (by omega) (by omega) (by rw [List.length_set]; exact h2)
theorem put_ok (k : Nat) (n : Int) (h0 : 0 ≤ n) (h1 : n < 4611686018427387904) : prefix_Put.f (k + 10) n = some (strOfNums (encL n), 0) := by
 unfold prefix_Put.f
 rw [size_ok n h0 h1, spelling_ok n h0 h1]
 simp only [Option.bind_some]
 unfold szL encL
 by_cases a1 : n < 64
 ·simp only [if_pos a1]
  rw [if_neg (by decide), sh1, if_pos (by decide), if_pos (by decide), if_pos (by decide)]
  rw [show shl .u64 (IntKind.u64.wrap 0) 6 = 0 from by decide, or64 64 n 0 (by decide) (by decide) (by decide) h0 (by omega) (by omega)]
  refine (put_fill (n + 0) 1 (by decide) 1 (k + 8) [0] 0 (by decide) (by decide) rfl).trans ?_
  rw [show fillL (n + 0) 1 1 [0] 0 = [n] from by simp [fillL]; omega]
 simp only [if_neg a1]
 by_cases a2 : n < 16384
 ·simp only [if_pos a2]
  rw [if_neg (by decide), sh2, if_pos (by decide), if_pos (by decide), if_pos (by decide)]
  rw [show shl .u64 (IntKind.u64.wrap 1) 14 = 16384 from by decide, or64 14 n 16384 (by decide) (by decide) (by decide) h0 (by omega) (by omega)]
  refine (put_fill (n + 16384) 2 (by decide) 2 (k + 7) [0, 0] 0 (by decide) (by decide) rfl).trans ?_
  rw [show fillL (n + 16384) 2 2 [0, 0] 0 = [n / 256 + 64, n % 256] from by simp [fillL]; omega]
 simp only [if_neg a2]
 by_cases a3 : n < 1073741824
 ·simp only [if_pos a3]
  rw [if_neg (by decide), sh4, if_pos (by decide), if_pos (by decide), if_pos (by decide)]
  rw [show shl .u64 (IntKind.u64.wrap 2) 30 = 2147483648 from by decide, or64 30 n 2147483648 (by decide) (by decide) (by decide) h0 (by omega) (by omega)]
  refine (put_fill (n + 2147483648) 4 (by decide) 4 (k + 5) [0, 0, 0, 0] 0 (by decide) (by decide) rfl).trans ?_
  rw [show fillL (n + 2147483648) 4 4 [0, 0, 0, 0] 0 = [n / 16777216 + 128, n / 65536 % 256, n / 256 % 256, n % 256] from by simp [fillL]; omega]
 ·simp only [if_neg a3]
  rw [if_neg (by decide), sh8, if_pos (by decide), if_pos (by decide), if_pos (by decide)]
  rw [show shl .u64 (IntKind.u64.wrap 3) 62 = 13835058055282163712 from by decide, or64 62 n 13835058055282163712 (by decide) (by decide) (by decide) h0 (by omega) (by omega)]
  refine (put_fill (n + 13835058055282163712) 8 (by decide) 8 (k + 1) [0, 0, 0, 0, 0, 0, 0, 0] 0 (by decide) (by decide) rfl).trans ?_
  rw [show fillL (n + 13835058055282163712) 8 8 [0, 0, 0, 0, 0, 0, 0, 0] 0 = [n / 72057594037927936 + 192, n / 281474976710656 % 256, n / 1099511627776 % 256, n / 4294967296 % 256, n / 16777216 % 256, n / 65536 % 256, n / 256 % 256, n % 256] from by simp [fillL]; omega]
theorem put_no (k : Nat) (n : Int) (h : 4611686018427387904 ≤ n) : prefix_Put.f k n = some (⟨#[]⟩, 1) := by
 unfold prefix_Put.f; rw [size_no n h]; simp
theorem get_step (k : Nat) (p t x i : Int) (s : ByteArray) (h0 : 0 ≤ x) (h1 : x < 2 ^ 54) (h2 : 0 ≤ i) (h3 : i < t) (h4 : t ≤ 8) (h5 : t ≤ s.size) :
  prefix_Get.l0 (k + 1) p s t x i = prefix_Get.l0 k p s t (x * 256 + bt s i) (i + 1) := by
 have hb := bt_range s i
 simp only [prefix_Get.l0]
 rw [if_pos h3, if_pos h2, if_pos (by omega), u64in (x * 256) (by omega) (by omega), u64in (bt s i) (by omega) (by omega), w64 (n := i + 1) (by omega) (by omega)]
 rw [bits_join .u64 64 (by decide) u64in 8 (x * 256) (bt s i) (by omega) (by omega) (by omega) (by omega) (by omega) (by omega)]
theorem get_end (k : Nat) (p t x : Int) (s : ByteArray) : prefix_Get.l0 (k + 1) p s t x t = (prefix_Size.f x).bind fun q => if q = t then some (x, wrap64 (p + t), 0) else some (0, 0, 3) := by
 simp only [prefix_Get.l0]; rw [if_neg (by omega)]
theorem get_fill (p t : Int) (s : ByteArray) (ht : t ≤ 8) (hs : t ≤ s.size) : ∀ (n k : Nat) (x i : Int), 0 ≤ x → (x + 1) * 256 ^ n ≤ 2 ^ 62 → 0 ≤ i → i + n = t → prefix_Get.l0 (k + n) p s t x i = prefix_Get.l0 k p s t (accL s n x i) t
 | 0, k, x, i, _, _, _, h1 => by
  have : i = t := by omega
  subst this
  rfl
 | n + 1, k, x, i, g0, g1, h0, h1 => by
  have hb := bt_range s i
  have hp : (x + 1) * 256 ^ (n + 1) = (x * 256 + 256) * 256 ^ n := by rw [Int.pow_succ, Int.mul_comm (256 ^ n) 256, ← Int.mul_assoc]; congr 1; omega
  have hq : (1 : Int) ≤ 256 ^ n := Int.pow_pos (by decide)
  have hx : (x * 256 + 256) * 1 ≤ (x * 256 + 256) * 256 ^ n := Int.mul_le_mul_of_nonneg_left hq (by omega)
  have hy : (x * 256 + bt s i + 1) * 256 ^ n ≤ (x * 256 + 256) * 256 ^ n := Int.mul_le_mul_of_nonneg_right (by omega) (by omega)
  refine (get_step (k + n) p t x i s g0 (by omega) h0 (by omega) ht (by omega)).trans ?_
  exact get_fill p t s ht hs n k (x * 256 + bt s i) (i + 1) (by omega) (by omega) (by omega) (by omega)
theorem get_ok (k : Nat) (b : ByteArray) (p : Int) (hs : b.size ≤ 140737488351232) : prefix_Get.f (k + 14) b p = some (getL b p) := by
 unfold prefix_Get.f getL
 by_cases hp : p < 0
 ·rw [if_pos hp, if_pos (Or.inl hp)]; simp [prefix_Get.j0]
 rw [if_neg hp]
 by_cases hq : (b.size : Int) < p
 ·rw [decide_eq_true (by omega), if_pos (Or.inr hq)]; simp [prefix_Get.j0]
 rw [decide_eq_false (by omega), if_neg (by omega)]
 show prefix_Get.j0 (k + 13 + 1) b p false = _
 simp only [prefix_Get.j0]
 have hsz : (b.extract p.toNat b.size).size = b.size - p.toNat := by rw [ByteArray.size_extract]; omega
 rw [if_neg (by decide), if_pos (by omega), if_pos (by omega)]
 by_cases he : p = b.size
 ·have hnil : (b.extract p.toNat b.size).toList = [] := by
   have : (b.extract p.toNat b.size).size = 0 := by omega
   have h2 : (b.extract p.toNat b.size) = ByteArray.empty := by
    apply ByteArray.ext; apply Array.eq_empty_of_size_eq_zero; exact this
   rw [h2, ByteArray.toList_eq]; rfl
  rw [if_pos hnil, if_pos (Or.inl he)]
  simp [prefix_Get.j1]
 have hnn : ¬ (b.extract p.toNat b.size).toList = ([] : List UInt8) := by
  intro h
  have h2 : (b.extract p.toNat b.size).toList.length = 0 := by rw [h]; rfl
  rw [ByteArray.toList_eq] at h2
  have : (b.extract p.toNat b.size).size = 0 := by simpa using h2
  omega
 have hf := bt_range b p
 have e0 : bt (b.extract p.toNat b.size) 0 = bt b p := by rw [bt_extract b p 0 (by omega) (by omega) (by omega)]; simp
 rw [if_neg hnn, if_pos (by omega), e0, if_pos (by omega), shl_one _ hf.1 (by omega)]
 by_cases hc : (b.size : Int) - p < tw (bt b p)
 ·rw [decide_eq_true (by omega), if_pos (Or.inr hc)]
  show prefix_Get.j1 (k + 12 + 1) p _ true = _
  simp only [prefix_Get.j1]; rw [if_pos trivial]
 rw [decide_eq_false (by omega), if_neg (by omega)]
 show prefix_Get.j1 (k + 12 + 1) p _ false = _
 simp only [prefix_Get.j1]
 rw [if_neg (by decide), if_pos (by omega), e0, if_pos (by omega), shl_one _ hf.1 (by omega), and63 _ hf.1 (by omega)]
 have hx : ∀ i : Int, 0 ≤ i → p + i < b.size → bt (b.extract p.toNat b.size) i = bt b (p + i) := fun i a c => bt_extract b p i (by omega) a c
 have hr : ∀ i : Int, 0 ≤ bt (b.extract p.toNat b.size) i ∧ bt (b.extract p.toNat b.size) i ≤ 255 := fun i => bt_range _ i
 have fin : ∀ j v, valL b p (tw (bt b p)) = v → prefix_Get.l0 (j + 1) p (b.extract p.toNat b.size) (tw (bt b p)) v (tw (bt b p)) = some (if szL (valL b p (tw (bt b p))) = tw (bt b p) then (valL b p (tw (bt b p)), p + tw (bt b p), 0) else (0, 0, 3)) := by
  intro j v hv
  subst hv
  have hv := valL_range b p (bt b p)
  have ht : tw (bt b p) ≤ 8 := by rcases tw_cases (bt b p) with ⟨_, e⟩ | ⟨_, _, e⟩ | ⟨_, _, e⟩ | ⟨_, e⟩ <;> omega
  have ht0 : 0 < tw (bt b p) := by rcases tw_cases (bt b p) with ⟨_, e⟩ | ⟨_, _, e⟩ | ⟨_, _, e⟩ | ⟨_, e⟩ <;> omega
  rw [get_end, size_ok _ hv.1 hv.2.1]
  simp only [Option.bind_some]
  rw [w64 (n := p + _) (by omega) (by omega)]
  split <;> rfl
 have ht0 : 1 ≤ tw (bt b p) ∧ tw (bt b p) ≤ 8 := by rcases tw_cases (bt b p) with ⟨_, e⟩ | ⟨_, _, e⟩ | ⟨_, _, e⟩ | ⟨_, e⟩ <;> omega
 have go := get_fill p (tw (bt b p)) (b.extract p.toNat b.size) ht0.2 (by omega)
 have sm : ∀ q : Int, q % 64 < 2 ^ 54 := fun q => by omega
 rcases tw_cases (bt b p) with ⟨_, e⟩ | ⟨_, _, e⟩ | ⟨_, _, e⟩ | ⟨_, e⟩
 ·have := fin (k + 11) (bt b p % 64) (by rw [e]; rfl)
  rw [e] at this ⊢
  exact this
 ·have f := fin (k + 10) (bt b p % 64 * 256 + bt b (p + 1)) (by rw [e]; rfl)
  have g := go 1 (k + 11) (bt b p % 64) 1 (by omega) (by show (bt b p % 64 + 1) * 256 ≤ 4611686018427387904; omega) (by decide) (by rw [e]; rfl)
  rw [e] at f g hc ⊢
  refine g.trans ?_
  simp only [accL]
  rw [hx 1 (by decide) (by omega)]
  exact f
 ·have f := fin (k + 8) (((bt b p % 64 * 256 + bt b (p + 1)) * 256 + bt b (p + 2)) * 256 + bt b (p + 3)) (by rw [e]; rfl)
  have g := go 3 (k + 9) (bt b p % 64) 1 (by omega) (by show (bt b p % 64 + 1) * 16777216 ≤ 4611686018427387904; omega) (by decide) (by rw [e]; rfl)
  rw [e] at f g hc ⊢
  refine g.trans ?_
  simp only [accL, Int.reduceAdd]
  rw [hx 1 (by decide) (by omega), hx 2 (by decide) (by omega), hx 3 (by decide) (by omega)]
  exact f
 ·have f := fin (k + 4) (((((((bt b p % 64 * 256 + bt b (p + 1)) * 256 + bt b (p + 2)) * 256 + bt b (p + 3)) * 256 + bt b (p + 4)) * 256 + bt b (p + 5)) * 256 + bt b (p + 6)) * 256 + bt b (p + 7)) (by rw [e]; rfl)
  have g := go 7 (k + 5) (bt b p % 64) 1 (by omega) (by show (bt b p % 64 + 1) * 72057594037927936 ≤ 4611686018427387904; omega) (by decide) (by rw [e]; rfl)
  rw [e] at f g hc ⊢
  refine g.trans ?_
  simp only [accL, Int.reduceAdd]
  rw [hx 1 (by decide) (by omega), hx 2 (by decide) (by omega), hx 3 (by decide) (by omega), hx 4 (by decide) (by omega), hx 5 (by decide) (by omega), hx 6 (by decide) (by omega), hx 7 (by decide) (by omega)]
  exact f
end Go.Proofs.YtjmoncfgoaaekaaDoor.Pure
