/- Plain facts about the numbers of layer 1: their bytes, and what stands at a place of bytes. -/
import Derived.Test.YtjmoncfgoaaekaaDoorYFeedOrderAid
import Derived.OpenShut
namespace Go.Proofs.YtjmoncfgoaaekaaDoor.Pure
set_option linter.unusedSimpArgs false
open Go Go.RowKit Go.Proofs.YtjmoncfgoaaekaaDoorW.PrintWords Go.Proofs.YtjmoncfgoaaekaaDoorW.PrintLast Go.Proofs.YtjmoncfgoaaekaaDoorW.PrintMore Go.Proofs.YtjmoncfgoaaekaaDoor.Q
theorem u64w (n : Int) : IntKind.u64.wrap n = n % 18446744073709551616 := by simp [IntKind.wrap, IntKind.bits, IntKind.signed]
theorem u64in (n : Int) (h0 : 0 ≤ n) (h1 : n < 2 ^ 64) : IntKind.u64.wrap n = n := by rw [u64w]; omega
theorem w64 {n : Int} (h0 : -9223372036854775808 ≤ n) (h1 : n ≤ 9223372036854775807) : wrap64 n = n := by unfold wrap64; omega
theorem or_comm' (k : IntKind) (x y : Int) : bits .or k x y = bits .or k y x := by simp only [bits]; rw [BitVec.or_comm]
theorem or64 (i : Nat) (x y : Int) (h0 : 0 ≤ y) (h1 : y % 2 ^ i = 0) (h2 : y < 2 ^ 64) (g0 : 0 ≤ x) (g1 : x < 2 ^ i) (g2 : x < 2 ^ 64) : bits .or .u64 x y = x + y := by
 rw [or_comm', bits_join .u64 64 (by decide) u64in i y x h0 h1 h2 g0 g1 g2]; omega
theorem and1 (x : Int) (h0 : 0 ≤ x) (h1 : x < 2 ^ 64) : bits .and .u64 x 1 = x % 2 := bits_mask .u64 64 (by decide) u64in 1 (by decide) x h0 h1
theorem xor_zero (x : Int) (h0 : 0 ≤ x) (h1 : x < 2 ^ 64) : bits .xor .u64 x 0 = x := by
 obtain ⟨n, rfl⟩ := Int.eq_ofNat_of_zero_le h0
 have hn : n < 2 ^ 64 := by exact_mod_cast h1
 show IntKind.u64.wrap (((BitVec.ofInt 64 (n : Int)) ^^^ (0#64)).toNat : Int) = n
 rw [BitVec.xor_zero, BitVec.ofInt_natCast, BitVec.toNat_ofNat, Nat.mod_eq_of_lt hn]
 exact u64in _ h0 h1
theorem xor_ones (x : Int) (h0 : 0 ≤ x) (h1 : x < 2 ^ 64) : bits .xor .u64 x 18446744073709551615 = 18446744073709551615 - x := by
 obtain ⟨n, rfl⟩ := Int.eq_ofNat_of_zero_le h0
 have hn : n < 2 ^ 64 := by exact_mod_cast h1
 have e : (BitVec.ofInt 64 18446744073709551615) = BitVec.allOnes 64 := by decide
 show IntKind.u64.wrap (((BitVec.ofInt 64 (n : Int)) ^^^ (BitVec.ofInt 64 18446744073709551615)).toNat : Int) = _
 rw [e, BitVec.xor_allOnes, BitVec.ofInt_natCast, BitVec.toNat_not, BitVec.toNat_ofNat, Nat.mod_eq_of_lt hn, u64w]
 omega
theorem i64w (n : Int) : IntKind.i64.wrap n = wrap64 n := by rw [IntKind.wrap_i64]; unfold wrap64; rfl
theorem xor_izero (x : Int) (h0 : 0 ≤ x) (h1 : x < 2 ^ 63) : bits .xor .i64 x 0 = x := by
 obtain ⟨n, rfl⟩ := Int.eq_ofNat_of_zero_le h0
 have hn : n < 2 ^ 63 := by exact_mod_cast h1
 show IntKind.i64.wrap (((BitVec.ofInt 64 (n : Int)) ^^^ (0#64)).toNat : Int) = n
 rw [BitVec.xor_zero, BitVec.ofInt_natCast, BitVec.toNat_ofNat, Nat.mod_eq_of_lt (by omega), i64w]
 exact w64 (by omega) (by omega)
theorem xor_iones (x : Int) (h0 : 0 ≤ x) (h1 : x < 2 ^ 63) : bits .xor .i64 x (-1) = -1 - x := by
 obtain ⟨n, rfl⟩ := Int.eq_ofNat_of_zero_le h0
 have hn : n < 2 ^ 63 := by exact_mod_cast h1
 have e : (BitVec.ofInt 64 (-1)) = BitVec.allOnes 64 := by decide
 show IntKind.i64.wrap (((BitVec.ofInt 64 (n : Int)) ^^^ (BitVec.ofInt 64 (-1))).toNat : Int) = _
 rw [e, BitVec.xor_allOnes, BitVec.ofInt_natCast, BitVec.toNat_not, BitVec.toNat_ofNat, Nat.mod_eq_of_lt (by omega), i64w]
 unfold wrap64
 omega
def encL (n : Int) : List Int :=
 if n < 64 then [n]
 else if n < 16384 then [n / 256 + 64, n % 256]
 else if n < 1073741824 then [n / 16777216 + 128, n / 65536 % 256, n / 256 % 256, n % 256]
 else [n / 72057594037927936 + 192, n / 281474976710656 % 256, n / 1099511627776 % 256, n / 4294967296 % 256, n / 16777216 % 256, n / 65536 % 256, n / 256 % 256, n % 256]
def szL (n : Int) : Int := if n < 64 then 1 else if n < 16384 then 2 else if n < 1073741824 then 4 else 8
theorem encL_len (n : Int) : ((encL n).length : Int) = szL n := by unfold encL szL; repeat' split
                                                                   all_goals rfl
def fillL (x t : Int) : Nat → List Int → Int → List Int
 | 0, l, _ => l
 | n + 1, l, i => fillL x t n (l.set i.toNat (x / 2 ^ (8 * (t - 1 - i)).toNat % 256)) (i + 1)
theorem sh1 : wrap64 (wrap64 (8 * 1) - 2) = 6 := by unfold wrap64; rfl
theorem sh2 : wrap64 (wrap64 (8 * 2) - 2) = 14 := by unfold wrap64; rfl
theorem sh4 : wrap64 (wrap64 (8 * 4) - 2) = 30 := by unfold wrap64; rfl
theorem sh8 : wrap64 (wrap64 (8 * 8) - 2) = 62 := by unfold wrap64; rfl
theorem str_app (a b : List Int) : strOfNums a ++ strOfNums b = strOfNums (a ++ b) := by
 apply ByteArray.ext; simp [strOfNums]
def fillR : Nat → Int → List Int → List Int
 | 0, _, l => l
 | n + 1, x, l => fillR n (x / 256) ([x % 256] ++ l)
def tw (f : Int) : Int := if f < 64 then 1 else if f < 128 then 2 else if f < 192 then 4 else 8
def valL (b : ByteArray) (p t : Int) : Int :=
 if t = 1 then bt b p % 64
 else if t = 2 then bt b p % 64 * 256 + bt b (p + 1)
 else if t = 4 then ((bt b p % 64 * 256 + bt b (p + 1)) * 256 + bt b (p + 2)) * 256 + bt b (p + 3)
 else ((((((bt b p % 64 * 256 + bt b (p + 1)) * 256 + bt b (p + 2)) * 256 + bt b (p + 3)) * 256 + bt b (p + 4)) * 256 + bt b (p + 5)) * 256 + bt b (p + 6)) * 256 + bt b (p + 7)
def getL (b : ByteArray) (p : Int) : Int × Int × Int :=
 if p < 0 ∨ (b.size : Int) < p then (0, 0, 1)
 else if p = b.size ∨ (b.size : Int) - p < tw (bt b p) then (0, 0, 2)
 else if szL (valL b p (tw (bt b p))) = tw (bt b p) then (valL b p (tw (bt b p)), p + tw (bt b p), 0) else (0, 0, 3)
theorem tw_cases (f : Int) : (f < 64 ∧ tw f = 1) ∨ (64 ≤ f ∧ f < 128 ∧ tw f = 2) ∨ (128 ≤ f ∧ f < 192 ∧ tw f = 4) ∨ (192 ≤ f ∧ tw f = 8) := by
 unfold tw; repeat' split
 all_goals omega
theorem bt_extract (b : ByteArray) (p i : Int) (h0 : 0 ≤ p) (h1 : 0 ≤ i) (h2 : p + i < b.size) : bt (b.extract p.toNat b.size) i = bt b (p + i) := by
 have e : (p + i).toNat = p.toNat + i.toNat := by omega
 unfold bt
 rw [dif_pos (by rw [ByteArray.size_extract]; omega), dif_pos (by omega)]
 simp only [ByteArray.getElem_extract, e]
def accL (s : ByteArray) : Nat → Int → Int → Int
 | 0, x, _ => x
 | n + 1, x, i => accL s n (x * 256 + bt s i) (i + 1)
theorem shl_one (f : Int) (h0 : 0 ≤ f) (h1 : f < 256) : shl .i64 1 (f / 64) = tw f := by
 rcases tw_cases f with ⟨a, e⟩ | ⟨a, b, e⟩ | ⟨a, b, e⟩ | ⟨a, e⟩
 ·rw [e, show f / 64 = 0 from by omega]; decide
 ·rw [e, show f / 64 = 1 from by omega]; decide
 ·rw [e, show f / 64 = 2 from by omega]; decide
 ·rw [e, show f / 64 = 3 from by omega]; decide
theorem and63 (f : Int) (h0 : 0 ≤ f) (h1 : f < 256) : IntKind.u64.wrap (bits .and .u8 f 63) = f % 64 := by
 rw [u8_and63 f h0 h1]; exact u64in _ (by omega) (by omega)
theorem valL_range (b : ByteArray) (p f : Int) : 0 ≤ valL b p (tw f) ∧ valL b p (tw f) < 4611686018427387904 ∧ szL (valL b p (tw f)) ≤ tw f := by
 have h0 := bt_range b p; have h1 := bt_range b (p + 1); have h2 := bt_range b (p + 2); have h3 := bt_range b (p + 3)
 have h4 := bt_range b (p + 4); have h5 := bt_range b (p + 5); have h6 := bt_range b (p + 6); have h7 := bt_range b (p + 7)
 rcases tw_cases f with ⟨_, e⟩ | ⟨_, _, e⟩ | ⟨_, _, e⟩ | ⟨_, e⟩ <;> rw [e] <;> simp [valL] <;> refine ⟨by omega, by omega, ?_⟩ <;> unfold szL <;> (repeat' split) <;> omega
def At (b : ByteArray) (p : Int) (l : List Int) : Prop := 0 ≤ p ∧ p + l.length ≤ b.size ∧ ∀ i : Nat, i < l.length → bt b (p + i) = l.getD i 0
theorem encL_byte (n : Int) (h0 : 0 ≤ n) (h1 : n < 4611686018427387904) : ∀ i : Nat, i < (encL n).length → 0 ≤ (encL n).getD i 0 ∧ (encL n).getD i 0 < 256 := by
 unfold encL
 repeat' split
 ·intro i hi
  match i, hi with
  | 0, _ => simp; omega
 ·intro i hi
  match i, hi with
  | 0, _ => simp; omega
  | 1, _ => simp; omega
 ·intro i hi
  match i, hi with
  | 0, _ => simp; omega
  | 1, _ => simp; omega
  | 2, _ => simp; omega
  | 3, _ => simp; omega
 ·intro i hi
  match i, hi with
  | 0, _ => simp; omega
  | 1, _ => simp; omega
  | 2, _ => simp; omega
  | 3, _ => simp; omega
  | 4, _ => simp; omega
  | 5, _ => simp; omega
  | 6, _ => simp; omega
  | 7, _ => simp; omega
theorem get_enc (b : ByteArray) (p n : Int) (h0 : 0 ≤ n) (h1 : n < 4611686018427387904) (h : At b p (encL n)) : getL b p = (n, p + szL n, 0) := by
 obtain ⟨hp, hs, hb⟩ := h
 unfold encL at hs hb
 unfold getL
 by_cases a1 : n < 64
 ·simp only [if_pos a1] at hs hb
  have b0 := hb 0 (by simp)
  simp at b0 hs
  have e : tw (bt b p) = 1 := by unfold tw; rw [if_pos (by omega)]
  have ev : valL b p 1 = n := by unfold valL; rw [if_pos rfl]; omega
  have es : szL n = 1 := by unfold szL; rw [if_pos a1]
  rw [if_neg (by omega), e, if_neg (by omega), ev, es, if_pos rfl]
 simp only [if_neg a1] at hs hb
 by_cases a2 : n < 16384
 ·simp only [if_pos a2] at hs hb
  have b0 := hb 0 (by simp); have b1 := hb 1 (by simp)
  simp at b0 b1 hs
  have e : tw (bt b p) = 2 := by unfold tw; rw [if_neg (by omega), if_pos (by omega)]
  have ev : valL b p 2 = n := by unfold valL; rw [if_neg (by decide), if_pos rfl]; omega
  have es : szL n = 2 := by unfold szL; rw [if_neg a1, if_pos a2]
  rw [if_neg (by omega), e, if_neg (by omega), ev, es, if_pos rfl]
 simp only [if_neg a2] at hs hb
 by_cases a3 : n < 1073741824
 ·simp only [if_pos a3] at hs hb
  have b0 := hb 0 (by simp); have b1 := hb 1 (by simp); have b2 := hb 2 (by simp); have b3 := hb 3 (by simp)
  simp at b0 b1 b2 b3 hs
  have e : tw (bt b p) = 4 := by unfold tw; rw [if_neg (by omega), if_neg (by omega), if_pos (by omega)]
  have ev : valL b p 4 = n := by unfold valL; rw [if_neg (by decide), if_neg (by decide), if_pos rfl]; omega
  have es : szL n = 4 := by unfold szL; rw [if_neg a1, if_neg a2, if_pos a3]
  rw [if_neg (by omega), e, if_neg (by omega), ev, es, if_pos rfl]
 ·simp only [if_neg a3] at hs hb
  have b0 := hb 0 (by simp); have b1 := hb 1 (by simp); have b2 := hb 2 (by simp); have b3 := hb 3 (by simp)
  have b4 := hb 4 (by simp); have b5 := hb 5 (by simp); have b6 := hb 6 (by simp); have b7 := hb 7 (by simp)
  simp at b0 b1 b2 b3 b4 b5 b6 b7 hs
  have e : tw (bt b p) = 8 := by unfold tw; rw [if_neg (by omega), if_neg (by omega), if_neg (by omega)]
  have ev : valL b p 8 = n := by unfold valL; rw [if_neg (by decide), if_neg (by decide), if_neg (by decide)]; omega
  have es : szL n = 8 := by unfold szL; rw [if_neg a1, if_neg a2, if_neg a3]
  rw [if_neg (by omega), e, if_neg (by omega), ev, es, if_pos rfl]
theorem bt_str (l : List Int) (i : Nat) (hi : i < l.length) (h0 : 0 ≤ l.getD i 0) (h1 : l.getD i 0 < 256) : bt (strOfNums l) i = l.getD i 0 := by
 unfold bt
 rw [dif_pos (by rw [strOfNums_size]; simpa using hi)]
 rw [List.getD_eq_getElem?_getD, List.getElem?_eq_getElem hi] at h0 h1 ⊢
 simp only [Option.getD_some] at h0 h1 ⊢
 have : (strOfNums l)[(i : Int).toNat]'(by rw [strOfNums_size]; simpa using hi) = UInt8.ofNat (l[i]).toNat := by
  show (strOfNums l).data[(i : Int).toNat]'_ = _
  simp [strOfNums]
 rw [this]
 simp
 omega
theorem bt_app_left (a b : ByteArray) (i : Int) (h0 : 0 ≤ i) (h1 : i < a.size) : bt (a ++ b) i = bt a i := by
 unfold bt
 rw [dif_pos (by rw [ByteArray.size_append]; omega), dif_pos (by omega)]
 rw [ByteArray.getElem_append_left (by omega)]
theorem bt_app_right (a b : ByteArray) (i : Int) (h0 : 0 ≤ i) (h1 : i < b.size) : bt (a ++ b) (a.size + i) = bt b i := by
 unfold bt
 rw [dif_pos (by rw [ByteArray.size_append]; omega), dif_pos (by omega)]
 rw [ByteArray.getElem_append_right (by omega)]
 congr 3
 omega
theorem szL_range (n : Int) : 1 ≤ szL n ∧ szL n ≤ 8 := by unfold szL; repeat' split
                                                          all_goals omega
theorem encL_le (n : Int) : (encL n).length ≤ 8 := by have := encL_len n; have := szL_range n; omega
theorem bytes_ext {a b : ByteArray} (hs : a.size = b.size) (h : ∀ i : Nat, i < a.size → bt a i = bt b i) : a = b := by
 apply ByteArray.ext
 apply Array.ext
 ·exact hs
 intro i h1 h2
 have := h i h1
 unfold bt at this
 rw [dif_pos (by simpa using h1), dif_pos (by simpa using h2)] at this
 apply UInt8.toNat_inj.1
 have e : ((i : Int).toNat) = i := by simp
 simp only [e] at this
 exact_mod_cast this
theorem bt_take (b : ByteArray) (T i : Nat) (hi : i < T) (hT : T ≤ b.size) : bt (b.extract 0 T) i = bt b i := by
 unfold bt
 rw [dif_pos (by rw [ByteArray.size_extract]; omega), dif_pos (by omega)]
 simp only [ByteArray.getElem_extract, Nat.zero_add]
def mark (n : Int) : Int := if n < 64 then 0 else if n < 16384 then 16384 else if n < 1073741824 then 2147483648 else 13835058055282163712
end Go.Proofs.YtjmoncfgoaaekaaDoor.Pure
