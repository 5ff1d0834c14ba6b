/- Plain facts about the numbers of layer 1: their bytes, and what stands at a place of bytes. -/
import Derived.Test.YtjdenpmaianmfaaDoorY6Aid
import Derived.OpenShut
namespace Go.Proofs.YtjdenpmaianmfaaDoor.Pure
set_option linter.unusedSimpArgs false
open Go RowKit YtjdenpmaianmfaaDoorW.PrintWords YtjdenpmaianmfaaDoorW.PrintLast YtjdenpmaianmfaaDoorW.PrintMore Q
theorem u64w (n : Int) : IntKind.u64.wrap n = n % 18446744073709551616 := by simp [IntKind.wrap, IntKind.bits, IntKind.signed]
theorem u64in (n : Int) (h0 : 0 ≤ n) (h1 : n < 2 ^ 64) : IntKind.u64.wrap n = n := by rw [u64w]; omega
theorem w64 {n : Int} (h0 : -9223372036854775808 ≤ n) (h1 : n ≤ 9223372036854775807) : wrap64 n = n := by unfold wrap64; omega
theorem or_comm' (k : IntKind) (x y : Int) : bits .or k x y = bits .or k y x := by simp only [bits]; rw [BitVec.or_comm]
theorem or64 (i : Nat) (x y : Int) (h0 : 0 ≤ y) (h1 : y % 2 ^ i = 0) (h2 : y < 2 ^ 64) (g0 : 0 ≤ x) (g1 : x < 2 ^ i) (g2 : x < 2 ^ 64) : bits .or .u64 x y = x + y := by
 rw [or_comm', bits_join .u64 64 (by decide) u64in i y x h0 h1 h2 g0 g1 g2]; omega
theorem xor_zero (x : Int) (h0 : 0 ≤ x) (h1 : x < 2 ^ 64) : bits .xor .u64 x 0 = x := by
 obtain ⟨n, rfl⟩ := Int.eq_ofNat_of_zero_le h0
 have hn : n < 2 ^ 64 := by exact_mod_cast h1
 show IntKind.u64.wrap (((BitVec.ofInt 64 (n : Int)) ^^^ (0#64)).toNat : Int) = n
 rw [BitVec.xor_zero, BitVec.ofInt_natCast, BitVec.toNat_ofNat, Nat.mod_eq_of_lt hn]
 exact u64in _ h0 h1
theorem xor_ones (x : Int) (h0 : 0 ≤ x) (h1 : x < 2 ^ 64) : bits .xor .u64 x 18446744073709551615 = 18446744073709551615 - x := by
 obtain ⟨n, rfl⟩ := Int.eq_ofNat_of_zero_le h0
 have hn : n < 2 ^ 64 := by exact_mod_cast h1
 have e : (BitVec.ofInt 64 18446744073709551615) = BitVec.allOnes 64 := by decide
 show IntKind.u64.wrap (((BitVec.ofInt 64 (n : Int)) ^^^ (BitVec.ofInt 64 18446744073709551615)).toNat : Int) = _
 rw [e, BitVec.xor_allOnes, BitVec.ofInt_natCast, BitVec.toNat_not, BitVec.toNat_ofNat, Nat.mod_eq_of_lt hn, u64w]
 omega
def encL (n : Int) : List Int :=
 if n < 64 then [n]
 else if n < 16384 then [n / 256 + 64, n % 256]
 else if n < 1073741824 then [n / 16777216 + 128, n / 65536 % 256, n / 256 % 256, n % 256]
 else [n / 72057594037927936 + 192, n / 281474976710656 % 256, n / 1099511627776 % 256, n / 4294967296 % 256, n / 16777216 % 256, n / 65536 % 256, n / 256 % 256, n % 256]
def szL (n : Int) : Int := if n < 64 then 1 else if n < 16384 then 2 else if n < 1073741824 then 4 else 8
theorem encL_len (n : Int) : ((encL n).length : Int) = szL n := by unfold encL szL; repeat' split
                                                                   all_goals rfl
def fillL (x t : Int) : Nat → List Int → Int → List Int
 | 0, l, _ => l
 | n + 1, l, i => fillL x t n (l.set i.toNat (x / 2 ^ (8 * (t - 1 - i)).toNat % 256)) (i + 1)
theorem sh1 : wrap64 (wrap64 (8 * 1) - 2) = 6 := by unfold wrap64; rfl
theorem sh2 : wrap64 (wrap64 (8 * 2) - 2) = 14 := by unfold wrap64; rfl
theorem sh4 : wrap64 (wrap64 (8 * 4) - 2) = 30 := by unfold wrap64; rfl
theorem sh8 : wrap64 (wrap64 (8 * 8) - 2) = 62 := by unfold wrap64; rfl
theorem str_app (a b : List Int) : strOfNums a ++ strOfNums b = strOfNums (a ++ b) := by
 apply ByteArray.ext; simp [strOfNums]
def fillR : Nat → Int → List Int → List Int
 | 0, _, l => l
 | n + 1, x, l => fillR n (x / 256) ([x % 256] ++ l)
def At (b : ByteArray) (p : Int) (l : List Int) : Prop := 0 ≤ p ∧ p + l.length ≤ b.size ∧ ∀ i : Nat, i < l.length → bt b (p + i) = l.getD i 0
theorem szL_range (n : Int) : 1 ≤ szL n ∧ szL n ≤ 8 := by unfold szL; repeat' split
                                                          all_goals omega
theorem encL_le (n : Int) : (encL n).length ≤ 8 := by have := encL_len n; have := szL_range n; omega
def mark (n : Int) : Int := if n < 64 then 0 else if n < 16384 then 16384 else if n < 1073741824 then 2147483648 else 13835058055282163712
end Go.Proofs.YtjdenpmaianmfaaDoor.Pure
