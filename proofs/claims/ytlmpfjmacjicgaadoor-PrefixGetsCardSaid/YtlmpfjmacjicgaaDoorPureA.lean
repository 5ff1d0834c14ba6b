/- The plain arithmetic of layer 1: what the Lean functions of Put, Get, Zig and Zag come to, for every number and every text. -/
import Derived.Test.YtlmpfjmacjicgaaDoorQ
namespace Go.Proofs.YtlmpfjmacjicgaaDoor.Pure
open Go Go.RowKit Go.Proofs.YtlmpfjmacjicgaaDoorW.PrintWords Go.Proofs.YtlmpfjmacjicgaaDoorW.PrintLast Go.Proofs.YtlmpfjmacjicgaaDoorW.PrintMore Go.Proofs.YtlmpfjmacjicgaaDoor.Q

theorem u64w (n : Int) : IntKind.u64.wrap n = n % 18446744073709551616 := by simp [IntKind.wrap, IntKind.bits, IntKind.signed]
theorem u64in (n : Int) (h0 : 0 ≤ n) (h1 : n < 2 ^ 64) : IntKind.u64.wrap n = n := by rw [u64w]; omega
theorem w64 {n : Int} (h0 : -9223372036854775808 ≤ n) (h1 : n ≤ 9223372036854775807) : wrap64 n = n := by unfold wrap64; omega
theorem or_comm' (k : IntKind) (x y : Int) : bits .or k x y = bits .or k y x := by simp only [bits]; rw [BitVec.or_comm]
theorem or64 (i : Nat) (x y : Int) (h0 : 0 ≤ y) (h1 : y % 2 ^ i = 0) (h2 : y < 2 ^ 64) (g0 : 0 ≤ x) (g1 : x < 2 ^ i) (g2 : x < 2 ^ 64) : bits .or .u64 x y = x + y := by
  rw [or_comm', bits_join .u64 64 (by decide) u64in i y x h0 h1 h2 g0 g1 g2]; omega
theorem and1 (x : Int) (h0 : 0 ≤ x) (h1 : x < 2 ^ 64) : bits .and .u64 x 1 = x % 2 := bits_mask .u64 64 (by decide) u64in 1 (by decide) x h0 h1
theorem xor_zero (x : Int) (h0 : 0 ≤ x) (h1 : x < 2 ^ 64) : bits .xor .u64 x 0 = x := by
  obtain ⟨n, rfl⟩ := Int.eq_ofNat_of_zero_le h0
  have hn : n < 2 ^ 64 := by exact_mod_cast h1
  show IntKind.u64.wrap (((BitVec.ofInt 64 (n : Int)) ^^^ (0#64)).toNat : Int) = n
  rw [BitVec.xor_zero, BitVec.ofInt_natCast, BitVec.toNat_ofNat, Nat.mod_eq_of_lt hn]
  exact u64in _ h0 h1
theorem xor_ones (x : Int) (h0 : 0 ≤ x) (h1 : x < 2 ^ 64) : bits .xor .u64 x 18446744073709551615 = 18446744073709551615 - x := by
  obtain ⟨n, rfl⟩ := Int.eq_ofNat_of_zero_le h0
  have hn : n < 2 ^ 64 := by exact_mod_cast h1
  have e : (BitVec.ofInt 64 18446744073709551615) = BitVec.allOnes 64 := by decide
  show IntKind.u64.wrap (((BitVec.ofInt 64 (n : Int)) ^^^ (BitVec.ofInt 64 18446744073709551615)).toNat : Int) = _
  rw [e, BitVec.xor_allOnes, BitVec.ofInt_natCast, BitVec.toNat_not, BitVec.toNat_ofNat, Nat.mod_eq_of_lt hn, u64w]
  omega
theorem i64w (n : Int) : IntKind.i64.wrap n = wrap64 n := by rw [IntKind.wrap_i64]; unfold wrap64; rfl
theorem xor_izero (x : Int) (h0 : 0 ≤ x) (h1 : x < 2 ^ 63) : bits .xor .i64 x 0 = x := by
  obtain ⟨n, rfl⟩ := Int.eq_ofNat_of_zero_le h0
  have hn : n < 2 ^ 63 := by exact_mod_cast h1
  show IntKind.i64.wrap (((BitVec.ofInt 64 (n : Int)) ^^^ (0#64)).toNat : Int) = n
  rw [BitVec.xor_zero, BitVec.ofInt_natCast, BitVec.toNat_ofNat, Nat.mod_eq_of_lt (by omega), i64w]
  exact w64 (by omega) (by omega)
theorem xor_iones (x : Int) (h0 : 0 ≤ x) (h1 : x < 2 ^ 63) : bits .xor .i64 x (-1) = -1 - x := by
  obtain ⟨n, rfl⟩ := Int.eq_ofNat_of_zero_le h0
  have hn : n < 2 ^ 63 := by exact_mod_cast h1
  have e : (BitVec.ofInt 64 (-1)) = BitVec.allOnes 64 := by decide
  show IntKind.i64.wrap (((BitVec.ofInt 64 (n : Int)) ^^^ (BitVec.ofInt 64 (-1))).toNat : Int) = _
  rw [e, BitVec.xor_allOnes, BitVec.ofInt_natCast, BitVec.toNat_not, BitVec.toNat_ofNat, Nat.mod_eq_of_lt (by omega), i64w]
  unfold wrap64
  omega

/-! ### Zig, Zag -/
theorem zig_ok (n : Int) (h0 : -2305843009213693952 ≤ n) (h1 : n < 2305843009213693952) : prefix_Zig.f n = some (if n < 0 then -2 * n - 1 else 2 * n, true) := by
  unfold prefix_Zig.f
  rw [if_neg (by omega), if_neg (by omega)]
  have e1 : wrap64 (n * 2) = n * 2 := w64 (by omega) (by omega)
  rw [e1]
  by_cases hn : n < 0
  · have e2 : IntKind.u64.wrap (n / 9223372036854775808) = 18446744073709551615 := by rw [u64w]; omega
    have e3 : IntKind.u64.wrap (n * 2) = n * 2 + 18446744073709551616 := by rw [u64w]; omega
    rw [e2, e3, xor_ones _ (by omega) (by omega), if_pos hn]
    congr 2; omega
  · have e2 : IntKind.u64.wrap (n / 9223372036854775808) = 0 := by rw [u64w]; omega
    have e3 : IntKind.u64.wrap (n * 2) = n * 2 := by rw [u64w]; omega
    rw [e2, e3, xor_zero _ (by omega) (by omega), if_neg hn]
    congr 2; omega
theorem zig_no (n : Int) (h : n < -2305843009213693952 ∨ 2305843009213693952 ≤ n) : prefix_Zig.f n = some (0, false) := by
  unfold prefix_Zig.f
  rcases h with h | h
  · rw [if_pos h]
  · rw [if_neg (by omega), if_pos (by omega)]
theorem zag_ok (n : Int) (h0 : 0 ≤ n) (h1 : n < 4611686018427387904) : prefix_Zag.f n = some (if n % 2 = 1 then -(n / 2) - 1 else n / 2) := by
  unfold prefix_Zag.f
  rw [if_neg (by omega), and1 n h0 (by omega)]
  have e1 : wrap64 (n / 2) = n / 2 := w64 (by omega) (by omega)
  have e2 : wrap64 (n % 2) = n % 2 := w64 (by omega) (by omega)
  have e3 : wrap64 (-(n % 2)) = -(n % 2) := w64 (by omega) (by omega)
  rw [e1, e2, e3]
  by_cases hn : n % 2 = 1
  · rw [hn, if_pos rfl, xor_iones _ (by omega) (by omega)]
    congr 1; omega
  · have : n % 2 = 0 := by omega
    rw [this, if_neg (by omega), show (-0 : Int) = 0 from rfl, xor_izero _ (by omega) (by omega)]
theorem zag_no (n : Int) (h : 4611686018427387904 ≤ n) : prefix_Zag.f n = some 0 := by
  unfold prefix_Zag.f; rw [if_pos (by omega)]
theorem rzig_ok (k : Nat) (n : Int) (h0 : -2305843009213693952 ≤ n) (h1 : n < 2305843009213693952) : chapbookref01_Zig.f (k + 1) n = some (if n < 0 then -2 * n - 1 else 2 * n, true) := by
  unfold chapbookref01_Zig.f
  rw [if_neg (by omega), decide_eq_false (by omega)]
  simp only [chapbookref01_Zig.j0]
  rw [if_neg (by decide)]
  by_cases hn : n < 0
  · rw [if_pos hn, if_pos hn]
    have e1 : wrap64 (-(wrap64 (n + 1))) = -(n + 1) := by rw [w64 (n := n + 1) (by omega) (by omega), w64 (n := -(n + 1)) (by omega) (by omega)]
    rw [e1]
    have e2 : IntKind.u64.wrap (-(n + 1)) = -(n + 1) := u64in _ (by omega) (by omega)
    rw [e2, u64in (2 * -(n + 1)) (by omega) (by omega), u64in _ (by omega) (by omega)]
    congr 2; omega
  · rw [if_neg hn, if_neg hn, u64in n (by omega) (by omega), u64in _ (by omega) (by omega)]
theorem rzig_no (k : Nat) (n : Int) (h : n < -2305843009213693952 ∨ 2305843009213693952 ≤ n) : chapbookref01_Zig.f (k + 1) n = some (0, false) := by
  unfold chapbookref01_Zig.f
  rcases h with h | h
  · rw [if_pos h]; simp [chapbookref01_Zig.j0]
  · rw [if_neg (by omega), decide_eq_true (by omega)]; simp [chapbookref01_Zig.j0]
theorem rzag_ok (n : Int) (h0 : 0 ≤ n) (h1 : n < 4611686018427387904) : chapbookref01_Zag.f n = some (if n % 2 = 1 then -(n / 2) - 1 else n / 2) := by
  unfold chapbookref01_Zag.f
  have t1 : Int.tmod n 2 = n % 2 := Int.tmod_eq_emod_of_nonneg h0
  have t2 : Int.tdiv n 2 = n / 2 := Int.tdiv_eq_ediv_of_nonneg h0
  rw [if_neg (by omega), t1, t2, u64in (n / 2) (by omega) (by omega), w64 (n := n / 2) (by omega) (by omega)]
  by_cases hn : n % 2 = 1
  · rw [if_pos hn, if_pos hn, w64 (n := -(n / 2)) (by omega) (by omega), w64 (n := -(n / 2) - 1) (by omega) (by omega)]
  · rw [if_neg hn, if_neg hn]
theorem rzag_no (n : Int) (h : 4611686018427387904 ≤ n) : chapbookref01_Zag.f n = some 0 := by
  unfold chapbookref01_Zag.f; rw [if_pos (by omega)]

/-! ### Put -/
/-- A number's bytes. -/
def encL (n : Int) : List Int :=
  if n < 64 then [n]
  else if n < 16384 then [n / 256 + 64, n % 256]
  else if n < 1073741824 then [n / 16777216 + 128, n / 65536 % 256, n / 256 % 256, n % 256]
  else [n / 72057594037927936 + 192, n / 281474976710656 % 256, n / 1099511627776 % 256, n / 4294967296 % 256, n / 16777216 % 256, n / 65536 % 256, n / 256 % 256, n % 256]
/-- How many. -/
def szL (n : Int) : Int := if n < 64 then 1 else if n < 16384 then 2 else if n < 1073741824 then 4 else 8
theorem encL_len (n : Int) : ((encL n).length : Int) = szL n := by unfold encL szL; repeat' split
                                                                   all_goals rfl
theorem spelling_ok (n : Int) (h0 : 0 ≤ n) (h1 : n < 4611686018427387904) : prefix_spelling.f n = some (if n < 64 then 0 else if n < 16384 then 1 else if n < 1073741824 then 2 else 3) := by
  unfold prefix_spelling.f; rw [if_neg (by omega)]; repeat' split
  all_goals first | rfl | omega
theorem size_ok (n : Int) (h0 : 0 ≤ n) (h1 : n < 4611686018427387904) : prefix_Size.f n = some (szL n) := by
  unfold prefix_Size.f szL
  rw [if_neg (by omega), spelling_ok n h0 h1]
  simp only [Option.bind_some]
  repeat' split
  all_goals first | rfl | omega
theorem size_no (n : Int) (h : 4611686018427387904 ≤ n) : prefix_Size.f n = some 0 := by unfold prefix_Size.f; rw [if_pos (by omega)]
theorem rsize_ok (n : Int) (h1 : n < 4611686018427387904) : chapbookref01_Size.f n = some (szL n) := by
  unfold chapbookref01_Size.f szL; repeat' split
  all_goals first | rfl | omega
theorem rsize_no (n : Int) (h : 4611686018427387904 ≤ n) : chapbookref01_Size.f n = some 0 := by
  unfold chapbookref01_Size.f; repeat' split
  all_goals first | rfl | omega
theorem put_step (k : Nat) (x t i L : Int) (l : List Int) (h0 : 0 ≤ i) (h1 : i < L) (h2 : L = t) (h3 : t ≤ 8) (h4 : (l.length : Int) = L) :
    prefix_Put.l0 (k + 1) x t l L i = prefix_Put.l0 k x t (l.set i.toNat (x / 2 ^ (8 * (t - 1 - i)).toNat % 256)) L (i + 1) := by
  have e : wrap64 (8 * (wrap64 ((wrap64 (t - 1)) - i))) = 8 * (t - 1 - i) := by rw [w64 (n := t - 1) (by omega) (by omega), w64 (n := t - 1 - i) (by omega) (by omega), w64 (by omega) (by omega)]
  simp only [prefix_Put.l0]
  rw [if_pos h1, e, if_pos (by omega), if_pos h0, if_pos (by omega), w64 (n := i + 1) (by omega) (by omega)]
  unfold shr
  rw [Nat.min_eq_left (by show _ ≤ 64; omega)]
theorem put_end (k : Nat) (x t L : Int) (l : List Int) : prefix_Put.l0 (k + 1) x t l L L = some (strOfNums l, 0) := by
  simp only [prefix_Put.l0]; rw [if_neg (by omega)]
/-- The digits, laid one by one. -/
def fillL (x t : Int) : Nat → List Int → Int → List Int
  | 0, l, _ => l
  | n + 1, l, i => fillL x t n (l.set i.toNat (x / 2 ^ (8 * (t - 1 - i)).toNat % 256)) (i + 1)
theorem put_fill (x t : Int) (ht : t ≤ 8) : ∀ (n k : Nat) (l : List Int) (i : Int), 0 ≤ i → i + n = t → (l.length : Int) = t → prefix_Put.l0 (k + n + 1) x t l t i = some (strOfNums (fillL x t n l i), 0)
  | 0, k, l, i, _, h1, _ => by
    have : i = t := by omega
    subst this
    exact put_end k x i i l
  | n + 1, k, l, i, h0, h1, h2 => by
    show prefix_Put.l0 ((k + n + 1) + 1) x t l t i = _
    rw [put_step (k + n + 1) x t i t l h0 (by omega) rfl ht h2]
    exact put_fill x t ht n k _ (i + 1) (by omega) (by omega) (by rw [List.length_set]; exact h2)
theorem sh1 : wrap64 (wrap64 (8 * 1) - 2) = 6 := by unfold wrap64; rfl
theorem sh2 : wrap64 (wrap64 (8 * 2) - 2) = 14 := by unfold wrap64; rfl
theorem sh4 : wrap64 (wrap64 (8 * 4) - 2) = 30 := by unfold wrap64; rfl
theorem sh8 : wrap64 (wrap64 (8 * 8) - 2) = 62 := by unfold wrap64; rfl
theorem put_ok (k : Nat) (n : Int) (h0 : 0 ≤ n) (h1 : n < 4611686018427387904) : prefix_Put.f (k + 10) n = some (strOfNums (encL n), 0) := by
  unfold prefix_Put.f
  rw [size_ok n h0 h1, spelling_ok n h0 h1]
  simp only [Option.bind_some]
  unfold szL encL
  by_cases a1 : n < 64
  · simp only [if_pos a1]
    rw [if_neg (by decide), sh1, if_pos (by decide), if_pos (by decide), if_pos (by decide)]
    rw [show shl .u64 (IntKind.u64.wrap 0) 6 = 0 from by decide, or64 64 n 0 (by decide) (by decide) (by decide) h0 (by omega) (by omega)]
    refine (put_fill (n + 0) 1 (by decide) 1 (k + 8) [0] 0 (by decide) (by decide) rfl).trans ?_
    rw [show fillL (n + 0) 1 1 [0] 0 = [n] from by simp [fillL]; omega]
  simp only [if_neg a1]
  by_cases a2 : n < 16384
  · simp only [if_pos a2]
    rw [if_neg (by decide), sh2, if_pos (by decide), if_pos (by decide), if_pos (by decide)]
    rw [show shl .u64 (IntKind.u64.wrap 1) 14 = 16384 from by decide, or64 14 n 16384 (by decide) (by decide) (by decide) h0 (by omega) (by omega)]
    refine (put_fill (n + 16384) 2 (by decide) 2 (k + 7) [0, 0] 0 (by decide) (by decide) rfl).trans ?_
    rw [show fillL (n + 16384) 2 2 [0, 0] 0 = [n / 256 + 64, n % 256] from by simp [fillL]; omega]
  simp only [if_neg a2]
  by_cases a3 : n < 1073741824
  · simp only [if_pos a3]
    rw [if_neg (by decide), sh4, if_pos (by decide), if_pos (by decide), if_pos (by decide)]
    rw [show shl .u64 (IntKind.u64.wrap 2) 30 = 2147483648 from by decide, or64 30 n 2147483648 (by decide) (by decide) (by decide) h0 (by omega) (by omega)]
    refine (put_fill (n + 2147483648) 4 (by decide) 4 (k + 5) [0, 0, 0, 0] 0 (by decide) (by decide) rfl).trans ?_
    rw [show fillL (n + 2147483648) 4 4 [0, 0, 0, 0] 0 = [n / 16777216 + 128, n / 65536 % 256, n / 256 % 256, n % 256] from by simp [fillL]; omega]
  · simp only [if_neg a3]
    rw [if_neg (by decide), sh8, if_pos (by decide), if_pos (by decide), if_pos (by decide)]
    rw [show shl .u64 (IntKind.u64.wrap 3) 62 = 13835058055282163712 from by decide, or64 62 n 13835058055282163712 (by decide) (by decide) (by decide) h0 (by omega) (by omega)]
    refine (put_fill (n + 13835058055282163712) 8 (by decide) 8 (k + 1) [0, 0, 0, 0, 0, 0, 0, 0] 0 (by decide) (by decide) rfl).trans ?_
    rw [show fillL (n + 13835058055282163712) 8 8 [0, 0, 0, 0, 0, 0, 0, 0] 0 = [n / 72057594037927936 + 192, n / 281474976710656 % 256, n / 1099511627776 % 256, n / 4294967296 % 256, n / 16777216 % 256, n / 65536 % 256, n / 256 % 256, n % 256] from by simp [fillL]; omega]
theorem put_no (k : Nat) (n : Int) (h : 4611686018427387904 ≤ n) : prefix_Put.f k n = some (⟨#[]⟩, 1) := by
  unfold prefix_Put.f; rw [size_no n h]; simp
end Go.Proofs.YtlmpfjmacjicgaaDoor.Pure
