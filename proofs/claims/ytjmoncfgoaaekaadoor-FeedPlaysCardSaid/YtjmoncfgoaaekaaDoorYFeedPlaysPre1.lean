/- Layer 1: what Put, Get, Zig, Zag of the program come to. -/
import Derived.Test.YtjmoncfgoaaekaaDoorYFeedPlaysPre0
import Derived.Test.YtjmoncfgoaaekaaDoorYFeedPlaysQ3
import Derived.Test.YtjmoncfgoaaekaaDoorYFeedPlaysQ11
namespace Go.Proofs.YtjmoncfgoaaekaaDoor.Pure
set_option linter.unusedSimpArgs false
open Go Go.RowKit Go.Proofs.YtjmoncfgoaaekaaDoorW.PrintWords Go.Proofs.YtjmoncfgoaaekaaDoorW.PrintLast Go.Proofs.YtjmoncfgoaaekaaDoorW.PrintMore Go.Proofs.YtjmoncfgoaaekaaDoor.Q
theorem zig_ok (n : Int) (h0 : -2305843009213693952 ≤ n) (h1 : n < 2305843009213693952) : prefix_Zig.f n = some (if n < 0 then -2 * n - 1 else 2 * n, true) := by
 unfold prefix_Zig.f
 rw [if_neg (by omega), if_neg (by omega)]
 have e1 : wrap64 (n * 2) = n * 2 := w64 (by omega) (by omega)
 rw [e1]
 by_cases hn : n < 0
 ·have e2 : IntKind.u64.wrap (n / 9223372036854775808) = 18446744073709551615 := by rw [u64w]; omega
  have e3 : IntKind.u64.wrap (n * 2) = n * 2 + 18446744073709551616 := by rw [u64w]; omega
  rw [e2, e3, xor_ones _ (by omega) (by omega), if_pos hn]
  congr 2; omega
 ·have e2 : IntKind.u64.wrap (n / 9223372036854775808) = 0 := by rw [u64w]; omega
  have e3 : IntKind.u64.wrap (n * 2) = n * 2 := by rw [u64w]; omega
  rw [e2, e3, xor_zero _ (by omega) (by omega), if_neg hn]
  congr 2; omega
theorem zig_no (n : Int) (h : n < -2305843009213693952 ∨ 2305843009213693952 ≤ n) : prefix_Zig.f n = some (0, false) := by
 unfold prefix_Zig.f
 rcases h with h | h
 ·rw [if_pos h]
 ·rw [if_neg (by omega), if_pos (by omega)]
theorem spelling_ok (n : Int) (h0 : 0 ≤ n) (h1 : n < 4611686018427387904) : prefix_spelling.f n = some (if n < 64 then 0 else if n < 16384 then 1 else if n < 1073741824 then 2 else 3) := by
 unfold prefix_spelling.f; rw [if_neg (by omega)]; repeat' split
 all_goals first | rfl | omega
theorem size_ok (n : Int) (h0 : 0 ≤ n) (h1 : n < 4611686018427387904) : prefix_Size.f n = some (szL n) := by
 unfold prefix_Size.f szL
 rw [if_neg (by omega), spelling_ok n h0 h1]
 simp only [Option.bind_some]
 repeat' split
 all_goals first | rfl | omega
theorem size_no (n : Int) (h : 4611686018427387904 ≤ n) : prefix_Size.f n = some 0 := by unfold prefix_Size.f; rw [if_pos (by omega)]
theorem put_step (k : Nat) (x t i L : Int) (l : List Int) (h0 : 0 ≤ i) (h1 : i < L) (h2 : L = t) (h3 : t ≤ 8) (h4 : (l.length : Int) = L) :
  prefix_Put.l0 (k + 1) x t l L i = prefix_Put.l0 k x t (l.set i.toNat (x / 2 ^ (8 * (t - 1 - i)).toNat % 256)) L (i + 1) := by
 have e : wrap64 (8 * (wrap64 ((wrap64 (t - 1)) - i))) = 8 * (t - 1 - i) := by rw [w64 (n := t - 1) (by omega) (by omega), w64 (n := t - 1 - i) (by omega) (by omega), w64 (by omega) (by omega)]
 simp only [prefix_Put.l0]
 rw [if_pos h1, e, if_pos (by omega), if_pos h0, if_pos (by omega), w64 (n := i + 1) (by omega) (by omega)]
 unfold shr
 rw [Nat.min_eq_left (by show _ ≤ 64; omega)]
theorem put_end (k : Nat) (x t L : Int) (l : List Int) : prefix_Put.l0 (k + 1) x t l L L = some (strOfNums l, 0) := by
 simp only [prefix_Put.l0]; rw [if_neg (by omega)]
theorem put_fill (x t : Int) (ht : t ≤ 8) : ∀ (n k : Nat) (l : List Int) (i : Int), 0 ≤ i → i + n = t → (l.length : Int) = t → prefix_Put.l0 (k + n + 1) x t l t i = some (strOfNums (fillL x t n l i), 0)
 | 0, k, l, i, _, h1, _ => by
  have : i = t := by omega
  subst this
  exact put_end k x i i l
 | n + 1, k, l, i, h0, h1, h2 => by
  show prefix_Put.l0 ((k + n + 1) + 1) x t l t i = _
  rw [put_step (k + n + 1) x t i t l h0 (by omega) rfl ht h2]
  exact put_fill x t ht n k _ (i + 1) (by omega) (by omega) (by rw [List.length_set]; exact h2)
theorem put_ok (k : Nat) (n : Int) (h0 : 0 ≤ n) (h1 : n < 4611686018427387904) : prefix_Put.f (k + 10) n = some (strOfNums (encL n), 0) := by
 unfold prefix_Put.f
 rw [size_ok n h0 h1, spelling_ok n h0 h1]
 simp only [Option.bind_some]
 unfold szL encL
 by_cases a1 : n < 64
 ·simp only [if_pos a1]
  rw [if_neg (by decide), sh1, if_pos (by decide), if_pos (by decide), if_pos (by decide)]
  rw [show shl .u64 (IntKind.u64.wrap 0) 6 = 0 from by decide, or64 64 n 0 (by decide) (by decide) (by decide) h0 (by omega) (by omega)]
  refine (put_fill (n + 0) 1 (by decide) 1 (k + 8) [0] 0 (by decide) (by decide) rfl).trans ?_
  rw [show fillL (n + 0) 1 1 [0] 0 = [n] from by simp [fillL]; omega]
 simp only [if_neg a1]
 by_cases a2 : n < 16384
 ·simp only [if_pos a2]
  rw [if_neg (by decide), sh2, if_pos (by decide), if_pos (by decide), if_pos (by decide)]
  rw [show shl .u64 (IntKind.u64.wrap 1) 14 = 16384 from by decide, or64 14 n 16384 (by decide) (by decide) (by decide) h0 (by omega) (by omega)]
  refine (put_fill (n + 16384) 2 (by decide) 2 (k + 7) [0, 0] 0 (by decide) (by decide) rfl).trans ?_
  rw [show fillL (n + 16384) 2 2 [0, 0] 0 = [n / 256 + 64, n % 256] from by simp [fillL]; omega]
 simp only [if_neg a2]
 by_cases a3 : n < 1073741824
 ·simp only [if_pos a3]
  rw [if_neg (by decide), sh4, if_pos (by decide), if_pos (by decide), if_pos (by decide)]
  rw [show shl .u64 (IntKind.u64.wrap 2) 30 = 2147483648 from by decide, or64 30 n 2147483648 (by decide) (by decide) (by decide) h0 (by omega) (by omega)]
  refine (put_fill (n + 2147483648) 4 (by decide) 4 (k + 5) [0, 0, 0, 0] 0 (by decide) (by decide) rfl).trans ?_
  rw [show fillL (n + 2147483648) 4 4 [0, 0, 0, 0] 0 = [n / 16777216 + 128, n / 65536 % 256, n / 256 % 256, n % 256] from by simp [fillL]; omega]
 ·simp only [if_neg a3]
  rw [if_neg (by decide), sh8, if_pos (by decide), if_pos (by decide), if_pos (by decide)]
  rw [show shl .u64 (IntKind.u64.wrap 3) 62 = 13835058055282163712 from by decide, or64 62 n 13835058055282163712 (by decide) (by decide) (by decide) h0 (by omega) (by omega)]
  refine (put_fill (n + 13835058055282163712) 8 (by decide) 8 (k + 1) [0, 0, 0, 0, 0, 0, 0, 0] 0 (by decide) (by decide) rfl).trans ?_
  rw [show fillL (n + 13835058055282163712) 8 8 [0, 0, 0, 0, 0, 0, 0, 0] 0 = [n / 72057594037927936 + 192, n / 281474976710656 % 256, n / 1099511627776 % 256, n / 4294967296 % 256, n / 16777216 % 256, n / 65536 % 256, n / 256 % 256, n % 256] from by simp [fillL]; omega]
theorem put_no (k : Nat) (n : Int) (h : 4611686018427387904 ≤ n) : prefix_Put.f k n = some (⟨#[]⟩, 1) := by
 unfold prefix_Put.f; rw [size_no n h]; simp
end Go.Proofs.YtjmoncfgoaaekaaDoor.Pure
