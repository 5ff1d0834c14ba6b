/- What a Writer's fields are, plainly, and what update.Write puts: a walk through update.Write, under the condition that the table 'bits' of package prefix is laid. -/
import Derived.Test.YtjdenpmaianmfaaDoorYModelStepsPre0
import Derived.Test.YtjdenpmaianmfaaDoorYModelStepsQ2
import Derived.Test.YtjdenpmaianmfaaDoorYModelStepsWr2
namespace Go.Proofs.YtjdenpmaianmfaaDoor.Pure
set_option linter.unusedSimpArgs false
open Go Go.RowKit Go.Proofs.YtjdenpmaianmfaaDoorW.PrintWords Go.Proofs.YtjdenpmaianmfaaDoorW.PrintLast Go.Proofs.YtjdenpmaianmfaaDoorW.PrintMore Go.Proofs.YtjdenpmaianmfaaDoor.Q
theorem zig_ok (n : Int) (h0 : -2305843009213693952 ≤ n) (h1 : n < 2305843009213693952) : prefix_Zig.f n = some (if n < 0 then -2 * n - 1 else 2 * n, true) := by
 unfold prefix_Zig.f
 rw [if_neg (by omega), if_neg (by omega)]
 have e1 : wrap64 (n * 2) = n * 2 := w64 (by omega) (by omega)
 rw [e1]
 by_cases hn : n < 0
 ·have e2 : IntKind.u64.wrap (n / 9223372036854775808) = 18446744073709551615 := by rw [u64w]; omega
  have e3 : IntKind.u64.wrap (n * 2) = n * 2 + 18446744073709551616 := by rw [u64w]; omega
  rw [e2, e3, xor_ones _ (by omega) (by omega), if_pos hn]
  congr 2; omega
 ·have e2 : IntKind.u64.wrap (n / 9223372036854775808) = 0 := by rw [u64w]; omega
  have e3 : IntKind.u64.wrap (n * 2) = n * 2 := by rw [u64w]; omega
  rw [e2, e3, xor_zero _ (by omega) (by omega), if_neg hn]
  congr 2; omega
theorem zig_no (n : Int) (h : n < -2305843009213693952 ∨ 2305843009213693952 ≤ n) : prefix_Zig.f n = some (0, false) := by
 unfold prefix_Zig.f
 rcases h with h | h
 ·rw [if_pos h]
 ·rw [if_neg (by omega), if_pos (by omega)]
theorem spelling_ok (n : Int) (h0 : 0 ≤ n) (h1 : n < 4611686018427387904) : prefix_spelling.f n = some (if n < 64 then 0 else if n < 16384 then 1 else if n < 1073741824 then 2 else 3) := by
 unfold prefix_spelling.f; rw [if_neg (by omega)]; repeat' split
 all_goals first | rfl | omega
theorem size_ok (n : Int) (h0 : 0 ≤ n) (h1 : n < 4611686018427387904) : prefix_Size.f n = some (szL n) := by
 unfold prefix_Size.f szL
 rw [if_neg (by omega), spelling_ok n h0 h1]
 simp only [Option.bind_some]
 repeat' split
 all_goals first | rfl | omega
theorem size_no (n : Int) (h : 4611686018427387904 ≤ n) : prefix_Size.f n = some 0 := by unfold prefix_Size.f; rw [if_pos (by omega)]
theorem put_step (k : Nat) (x t i L : Int) (l : List Int) (h0 : 0 ≤ i) (h1 : i < L) (h2 : L = t) (h3 : t ≤ 8) (h4 : (l.length : Int) = L) :
  prefix_Put.l0 (k + 1) x t l L i = prefix_Put.l0 k x t (l.set i.toNat (x / 2 ^ (8 * (t - 1 - i)).toNat % 256)) L (i + 1) := by
 have e : wrap64 (8 * (wrap64 ((wrap64 (t - 1)) - i))) = 8 * (t - 1 - i) := by rw [w64 (n := t - 1) (by omega) (by omega), w64 (n := t - 1 - i) (by omega) (by omega), w64 (by omega) (by omega)]
 simp only [prefix_Put.l0]
 rw [if_pos h1, e, if_pos (by omega), if_pos h0, if_pos (by omega), w64 (n := i + 1) (by omega) (by omega)]
 unfold shr
 rw [Nat.min_eq_left (by show _ ≤ 64; omega)]
theorem put_end (k : Nat) (x t L : Int) (l : List Int) : prefix_Put.l0 (k + 1) x t l L L = some (strOfNums l, 0) := by
 simp only [prefix_Put.l0]; rw [if_neg (by omega)]
theorem put_fill (x t : Int) (ht : t ≤ 8) : ∀ (n k : Nat) (l : List Int) (i : Int), 0 ≤ i → i + n = t → (l.length : Int) = t → prefix_Put.l0 (k + n + 1) x t l t i = some (strOfNums (fillL x t n l i), 0)
 | 0, k, l, i, _, h1, _ => by
  have : i = t := by omega
  subst this
  exact put_end k x i i l
 | n + 1, k, l, i, h0, h1, h2 => by
  show prefix_Put.l0 ((k + n + 1) + 1) x t l t i = _
  rw [put_step (k + n + 1) x t i t l h0 (by omega) rfl ht h2]
  exact put_fill x t ht n k _ (i + 1) (by omega) (by omega) (by rw [List.length_set]; exact h2)
theorem put_ok (k : Nat) (n : Int) (h0 : 0 ≤ n) (h1 : n < 4611686018427387904) : prefix_Put.f (k + 10) n = some (strOfNums (encL n), 0) := by
 unfold prefix_Put.f
 rw [size_ok n h0 h1, spelling_ok n h0 h1]
 simp only [Option.bind_some]
 unfold szL encL
 by_cases a1 : n < 64
 ·simp only [if_pos a1]
  rw [if_neg (by decide), sh1, if_pos (by decide), if_pos (by decide), if_pos (by decide)]
  rw [show shl .u64 (IntKind.u64.wrap 0) 6 = 0 from by decide, or64 64 n 0 (by decide) (by decide) (by decide) h0 (by omega) (by omega)]
  refine (put_fill (n + 0) 1 (by decide) 1 (k + 8) [0] 0 (by decide) (by decide) rfl).trans ?_
  rw [show fillL (n + 0) 1 1 [0] 0 = [n] from by simp [fillL]; omega]
 simp only [if_neg a1]
 by_cases a2 : n < 16384
 ·simp only [if_pos a2]
  rw [if_neg (by decide), sh2, if_pos (by decide), if_pos (by decide), if_pos (by decide)]
  rw [show shl .u64 (IntKind.u64.wrap 1) 14 = 16384 from by decide, or64 14 n 16384 (by decide) (by decide) (by decide) h0 (by omega) (by omega)]
  refine (put_fill (n + 16384) 2 (by decide) 2 (k + 7) [0, 0] 0 (by decide) (by decide) rfl).trans ?_
  rw [show fillL (n + 16384) 2 2 [0, 0] 0 = [n / 256 + 64, n % 256] from by simp [fillL]; omega]
 simp only [if_neg a2]
 by_cases a3 : n < 1073741824
 ·simp only [if_pos a3]
  rw [if_neg (by decide), sh4, if_pos (by decide), if_pos (by decide), if_pos (by decide)]
  rw [show shl .u64 (IntKind.u64.wrap 2) 30 = 2147483648 from by decide, or64 30 n 2147483648 (by decide) (by decide) (by decide) h0 (by omega) (by omega)]
  refine (put_fill (n + 2147483648) 4 (by decide) 4 (k + 5) [0, 0, 0, 0] 0 (by decide) (by decide) rfl).trans ?_
  rw [show fillL (n + 2147483648) 4 4 [0, 0, 0, 0] 0 = [n / 16777216 + 128, n / 65536 % 256, n / 256 % 256, n % 256] from by simp [fillL]; omega]
 ·simp only [if_neg a3]
  rw [if_neg (by decide), sh8, if_pos (by decide), if_pos (by decide), if_pos (by decide)]
  rw [show shl .u64 (IntKind.u64.wrap 3) 62 = 13835058055282163712 from by decide, or64 62 n 13835058055282163712 (by decide) (by decide) (by decide) h0 (by omega) (by omega)]
  refine (put_fill (n + 13835058055282163712) 8 (by decide) 8 (k + 1) [0, 0, 0, 0, 0, 0, 0, 0] 0 (by decide) (by decide) rfl).trans ?_
  rw [show fillL (n + 13835058055282163712) 8 8 [0, 0, 0, 0, 0, 0, 0, 0] 0 = [n / 72057594037927936 + 192, n / 281474976710656 % 256, n / 1099511627776 % 256, n / 4294967296 % 256, n / 16777216 % 256, n / 65536 % 256, n / 256 % 256, n % 256] from by simp [fillL]; omega]
theorem put_no (k : Nat) (n : Int) (h : 4611686018427387904 ≤ n) : prefix_Put.f k n = some (⟨#[]⟩, 1) := by
 unfold prefix_Put.f; rw [size_no n h]; simp
end Go.Proofs.YtjdenpmaianmfaaDoor.Pure
namespace Go.Proofs.YtjdenpmaianmfaaDoor.Wr
set_option linter.unusedSimpArgs false
set_option linter.unusedVariables false
open Go Go.RowKit Go.Proofs.YtjdenpmaianmfaaDoorW.PrintWords Go.Proofs.YtjdenpmaianmfaaDoorW.PrintLast Go.Proofs.YtjdenpmaianmfaaDoorW.PrintMore Go.Proofs.YtjdenpmaianmfaaDoor.Q
attribute [local go_sem] max2_int min2_int max_two min_two max_three min_three max_four min_four
def numP (n : Int) : ByteArray × Bool := if 0 ≤ n ∧ n < 4611686018427387904 then (strOfNums (Pure.encL n), false) else (⟨#[]⟩, true)
def sgnP (n : Int) : ByteArray × Bool := if -2305843009213693952 ≤ n ∧ n < 2305843009213693952 then (strOfNums (Pure.encL (if n < 0 then -2 * n - 1 else 2 * n)), false) else (strOfNums (Pure.encL 0), true)
def txtP (s : ByteArray) : ByteArray := strOfNums (Pure.encL s.size) ++ s
abbrev Wst := ByteArray × Bool
def addN (x : Wst) (n : Int) : Wst := (x.1 ++ (numP n).1, x.2 || (numP n).2)
def addS (x : Wst) (n : Int) : Wst := (x.1 ++ (sgnP n).1, x.2 || (sgnP n).2)
def addT (x : Wst) (s : ByteArray) : Wst := (x.1 ++ txtP s, x.2)
theorem enc_size (n : Int) : (strOfNums (Pure.encL n)).size ≤ 8 := by
 have := Pure.encL_le n
 simp [strOfNums, ByteArray.size]
 exact this
theorem numP_size (n : Int) : (numP n).1.size ≤ 8 := by
 unfold numP
 split
 ·exact enc_size n
 ·exact Nat.zero_le _
theorem sgnP_size (n : Int) : (sgnP n).1.size ≤ 8 := by
 unfold sgnP
 split <;> exact enc_size _
theorem i64_bd {n : Int} (h : (Lit.int .i64 n).wf = true) : -9223372036854775808 ≤ n ∧ n ≤ 9223372036854775807 := bounds_i64 h
theorem num_put (n : Int) (h : (Lit.int .i64 n).wf = true) : ∃ r2, prefix_Put.f 10 (IntKind.u64.wrap n) = some ((numP n).1, r2) ∧ (!decide (0 ≤ n) || (r2 != 0)) = (numP n).2 := by
 obtain ⟨h0, h1⟩ := i64_bd h
 by_cases hn : 0 ≤ n
 ·have hw : IntKind.u64.wrap n = n := Pure.u64in n hn (by omega)
  rw [hw]
  by_cases hl : n < 4611686018427387904
  ·refine ⟨0, ?_, ?_⟩
   ·rw [Pure.put_ok 0 n hn hl]; unfold numP; rw [if_pos ⟨hn, hl⟩]
   ·unfold numP; rw [if_pos ⟨hn, hl⟩]; simp [hn]
  ·refine ⟨1, ?_, ?_⟩
   ·rw [Pure.put_no 10 n (by omega)]; unfold numP; rw [if_neg (fun h => hl h.2)]
   ·unfold numP; rw [if_neg (fun h => hl h.2)]; simp [hn]
 ·have hw : IntKind.u64.wrap n = n + 18446744073709551616 := by rw [Pure.u64w]; omega
  rw [hw]
  refine ⟨1, ?_, ?_⟩
  ·rw [Pure.put_no 10 _ (by omega)]; unfold numP; rw [if_neg (fun h => hn h.1)]
  ·unfold numP; rw [if_neg (fun h => hn h.1)]; simp [hn]
def Has (B b : Nat) (row : Option Nat) (x : Wst) (w : World) : Prop := Is B b row x.2 x.1 w
def Went (B b : Nat) (row : Option Nat) (x : Wst) (w w' : World) : Prop := Turned B b row x.2 x.1 w w'
theorem Number_ {B b : Nat} {row : Option Nat} {x : Wst} {w : World} (n : Int) (hn : (Lit.int .i64 n).wf = true) (h : Has B b row x w) (hBw : B ≤ w.heap.size) (HT : Aside0 (Tab w)) (hlen : x.1.size ≤ 140737488355000) :
  Calls Tryd.prog 104 #[.pointer (some ⟨b, 0, none⟩), .int .i64 n] w fun e w' => e = .returned (.tuple #[]) ∧ Went B b row (addN x n) w w' := by
 obtain ⟨r2, h1, h2⟩ := num_put n hn
 have hs := numP_size n
 refine (Number 10 n _ r2 h hBw HT h1 (by omega)).mono fun e w' ⟨he, ht⟩ => ⟨he, ?_⟩
 unfold Went addN
 rw [← h2, ← Bool.or_assoc]
 exact ht
theorem Signed_ {B b : Nat} {row : Option Nat} {x : Wst} {w : World} (n : Int) (hn : (Lit.int .i64 n).wf = true) (h : Has B b row x w) (hBw : B ≤ w.heap.size) (HT : Aside0 (Tab w)) (hlen : x.1.size ≤ 140737488355000) :
  Calls Tryd.prog 113 #[.pointer (some ⟨b, 0, none⟩), .int .i64 n] w fun e w' => e = .returned (.tuple #[]) ∧ Went B b row (addS x n) w w' := by
 obtain ⟨h0, h1⟩ := i64_bd hn
 have hs := sgnP_size n
 by_cases hz : -2305843009213693952 ≤ n ∧ n < 2305843009213693952
 ·have e : sgnP n = (strOfNums (Pure.encL (if n < 0 then -2 * n - 1 else 2 * n)), false) := by unfold sgnP; rw [if_pos hz]
  have e2 : prefix_Put.f (0 + 10) (if n < 0 then -2 * n - 1 else 2 * n) = some (strOfNums (Pure.encL (if n < 0 then -2 * n - 1 else 2 * n)), 0) := Pure.put_ok 0 _ (by split <;> omega) (by split <;> omega)
  refine (Signed (0 + 10) n _ true _ 0 h hBw HT (Pure.zig_ok n hz.1 hz.2) e2 (by rw [e] at hs; simp only at hs; omega)).mono fun e w' ⟨he, ht⟩ => ⟨he, ?_⟩
  unfold Went addS
  rw [‹sgnP n = _›]
  simpa using ht
 ·have e : sgnP n = (strOfNums (Pure.encL 0), true) := by unfold sgnP; rw [if_neg hz]
  have e2 : prefix_Put.f (0 + 10) 0 = some (strOfNums (Pure.encL 0), 0) := Pure.put_ok 0 _ (by omega) (by omega)
  refine (Signed (0 + 10) n 0 false _ 0 h hBw HT (Pure.zig_no n (by omega)) e2 (by rw [e] at hs; simp only at hs; omega)).mono fun e w' ⟨he, ht⟩ => ⟨he, ?_⟩
  unfold Went addS
  rw [‹sgnP n = _›]
  simpa using ht
theorem Text_ {B b : Nat} {row : Option Nat} {x : Wst} {w : World} (s : ByteArray) (h : Has B b row x w) (hBw : B ≤ w.heap.size) (HT : Aside0 (Tab w)) (hlen : x.1.size + s.size ≤ 140737488355000) :
  Calls Tryd.prog 112 #[.pointer (some ⟨b, 0, none⟩), .string s] w fun e w' => e = .returned (.tuple #[]) ∧ Went B b row (addT x s) w w' := by
 have hw : IntKind.u64.wrap (s.size : Int) = s.size := Pure.u64in _ (by omega) (by omega)
 have e2 : prefix_Put.f (0 + 10) (IntKind.u64.wrap (s.size : Int)) = some (strOfNums (Pure.encL s.size), 0) := by rw [hw]; exact Pure.put_ok 0 _ (by omega) (by omega)
 have hs := enc_size s.size
 refine (Text (0 + 10) s _ 0 h hBw HT e2 (by omega)).mono fun e w' ⟨he, ht⟩ => ⟨he, ?_⟩
 unfold Went addT txtP
 rw [← ByteArray.append_assoc]
 simpa using ht
def told (x : Wst) : ByteArray × Int := (if x.2 then ⟨#[]⟩ else x.1, if x.2 then 1 else 0)
theorem Bytes_ {B b : Nat} {row : Option Nat} {x : Wst} {w : World} (h : Has B b row x w) (hBw : B ≤ w.heap.size) :
  Calls Tryd.prog 106 #[.pointer (some ⟨b, 0, none⟩)] w fun e w' => e = .returned (.tuple #[.string (told x).1, .int .i64 (told x).2]) ∧ Has B b row x w' ∧ Below B w w' ∧ KeepBut w w' b row := Bytes h hBw
def addU (x : Wst) (k : ByteArray) (c n : Int) (s : ByteArray) : Wst :=
 if c = 1 ∨ c = 3 then addS (addT (addN x c) k) n else if c = 2 ∨ c = 4 then addT (addT (addN x c) k) s else addT (addN x c) k
theorem tab_of {B : Nat} {w W : World} (ht : 0 < B) (HT : Aside0 (Tab w)) (hb : Below B w W) : Aside0 (Tab W) :=
 ⟨⟨(hb.cell (p := ⟨0, 0, none⟩) ht).trans HT.out.1, (hb.cell (p := ⟨0, 1, none⟩) ht).trans HT.out.2.1, (hb.cell (p := ⟨0, 2, none⟩) ht).trans HT.out.2.2.1, (hb.cell (p := ⟨0, 3, none⟩) ht).trans HT.out.2.2.2⟩⟩
theorem tab_lt {w : World} (h : Tab w) : 0 < w.heap.size := World.block_lt_of_cell? w _ h.1
structure Mid (B b : Nat) (row r : Option Nat) (y : Wst) (w W : World) : Prop where
 has : Has B b r y W
 below : Below B w W
 keep : KeepBut w W b row
 row : r = row ∨ ∃ k, r = some k ∧ w.heap.size ≤ k
theorem Mid.next {B b : Nat} {row r : Option Nat} {y z : Wst} {w W W' : World} (h : Mid B b row r y w W) (t : Went B b r z W W') : ∃ r', Mid B b row r' z w W' := by
 obtain ⟨row2, i2, hb2, hk2, hr2⟩ := t
 obtain ⟨row', a, b, c, d⟩ := Turned.trans h.below h.keep h.row i2 hb2 hk2 hr2
 exact ⟨row', a, b, c, d⟩
theorem Mid.went {B b : Nat} {row r : Option Nat} {y : Wst} {w W : World} (h : Mid B b row r y w W) : Went B b row y w W := ⟨r, h.has, h.below, h.keep, h.row⟩
theorem Mid.start {B b : Nat} {row : Option Nat} {y : Wst} {w : World} (h : Has B b row y w) : Mid B b row row y w w := ⟨h, Below.refl _ _, KeepBut.refl _ _ _, .inl rfl⟩
theorem Mid.blk {B b : Nat} {row r : Option Nat} {y : Wst} {w W : World} (h : Mid B b row r y w W) {g : Nat} {o : Obj} (hg : w.heap[g]? = some o) (hb : g ≠ b) (hr : some g ≠ row) : W.heap[g]? = some o := h.keep.blk hg hb hr
theorem Mid.size {B b : Nat} {row r : Option Nat} {y : Wst} {w W : World} (h : Mid B b row r y w W) (hB : B ≤ w.heap.size) : B ≤ W.heap.size := Nat.le_trans hB h.below.size
theorem Went.from_ {B b : Nat} {row : Option Nat} {z : Wst} {w0 w w' : World} (hB : B ≤ w0.heap.size) (hb : Below w0.heap.size w0 w) (h : Went B b row z w w') : Went B b row z w0 w' := by
 obtain ⟨row2, i2, hb2, hk2, hr2⟩ := h
 exact Turned.trans (hb.mono hB) (KeepBut.of_below hb b row) (.inl rfl) i2 hb2 hk2 hr2
set_option maxHeartbeats 2000000 in
set_option maxRecDepth 100000 in
theorem Write {B b : Nat} {row : Option Nat} {x : Wst} {w : World} (k : ByteArray) (c n : Int) (s : ByteArray) (hc : (Lit.int .i64 c).wf = true) (hn : (Lit.int .i64 n).wf = true) (h : Has B b row x w) (hBw : B ≤ w.heap.size) (ht : 0 < B) (HT : Aside0 (Tab w)) (hlen : x.1.size + k.size + s.size ≤ 140737488354900) :
  Calls Tryd.prog 105 #[.pointer (some ⟨b, 0, none⟩), .agg #[.string k, .int .i64 c, .int .i64 n, .string s]] w fun e w' => e = .returned (.tuple #[]) ∧ Went B b row (addU x k c n s) w w' := by
 have H := Aside0.mk h
 have HL := Aside0.mk hlen
 have HB := Aside0.mk hBw
 have hlt := h.lt
 have hrl : ∀ q, row = some q → q < w.heap.size := fun q hq => (h.row_ge hq).2
 clear h hlen hBw
 obtain ⟨W0, hW0⟩ : ∃ W, W = w.alloc (.cells #[.string k, .int .i64 c, .int .i64 n, .string s] 32) := ⟨_, rfl⟩
 have HA := Aside0.mk hW0
 have hbl0 : Below w.heap.size w W0 := by rw [hW0]; exact (Below.refl _ _).alloc (Nat.le_refl _) _
 have hbk0 : W0.heap[w.heap.size]? = some (.cells #[.string k, .int .i64 c, .int .i64 n, .string s] 32 (0, 0)) := by rw [hW0]; exact heap_alloc_new w _
 have hB0 : B ≤ W0.heap.size := Nat.le_trans HB.out hbl0.size
 have M0 := Aside0.mk (Mid.start (Is.below H.out hbl0))
 have hT0 := tab_of ht HT (hbl0.mono HB.out)
 have s1 := numP_size c
 have blk : ∀ {r y W}, Mid B b row r y W0 W → W.heap[w.heap.size]? = some (.cells #[.string k, .int .i64 c, .int .i64 n, .string s] 32 (0, 0)) := fun m => m.blk hbk0 (by omega) (by intro e; have := hrl _ e.symm; omega)
 have N0 := Aside0.mk hbk0
 have l1 : (addN x c).1.size ≤ x.1.size + 8 := by unfold addN; simp only [ByteArray.size_append]; omega
 have s2 := enc_size k.size
 have l2 : (addT (addN x c) k).1.size ≤ x.1.size + 16 + k.size := by unfold addT txtP; simp only [ByteArray.size_append]; omega
 have LL := Aside0.mk (And.intro l1 l2)
 clear s1 s2 l1 l2
 have fin : ∀ W z, Went B b row z W0 W → Went B b row z w W := fun W z h => h.from_ HB.out hbl0
 have FIN := Aside0.mk fin
 have BLK := Aside0.mk @blk
 have HB0 := Aside0.mk hB0
 clear hbk0 hbl0 hlt hrl fin blk hB0 hW0
 by_cases c1 : c = 1
 ·subst c1
  have E := Aside0.mk (show addU x k 1 n s = addS (addT (addN x 1) k) n by unfold addU; simp)
  go_enter Tryd.func105, Tryd.ntmps105
  go_wp2_with (go_at_call 104; rw [← HA.out]; refine (Number_ 1 hc M0.out.has HB0.out hT0 (by have := HL.out; omega)).mono ?_)
  rintro e W1 ⟨rfl, t1⟩
  obtain ⟨r1, m1⟩ := M0.out.next t1
  have q10 : W1.cell? ⟨w.heap.size, 0, none⟩ = some (.string k) := (blk_cell (BLK.out m1) 0).trans rfl
  have q11 : W1.cell? ⟨w.heap.size, 1, none⟩ = some (.int .i64 1) := (blk_cell (BLK.out m1) 1).trans rfl
  have q12 : W1.cell? ⟨w.heap.size, 2, none⟩ = some (.int .i64 n) := (blk_cell (BLK.out m1) 2).trans rfl
  have q13 : W1.cell? ⟨w.heap.size, 3, none⟩ = some (.string s) := (blk_cell (BLK.out m1) 3).trans rfl
  have M1 := Aside0.mk m1
  clear t1 m1
  go_wp2_with (go_at_call 112; refine (Text_ k M1.out.has (M1.out.size HB0.out) (tab_of ht hT0 M1.out.below) (by have := HL.out; have := LL.out; omega)).mono ?_)
  rintro e W2 ⟨rfl, t2⟩
  obtain ⟨r2, m2⟩ := M1.out.next t2
  have q20 : W2.cell? ⟨w.heap.size, 0, none⟩ = some (.string k) := (blk_cell (BLK.out m2) 0).trans rfl
  have q21 : W2.cell? ⟨w.heap.size, 1, none⟩ = some (.int .i64 1) := (blk_cell (BLK.out m2) 1).trans rfl
  have q22 : W2.cell? ⟨w.heap.size, 2, none⟩ = some (.int .i64 n) := (blk_cell (BLK.out m2) 2).trans rfl
  have q23 : W2.cell? ⟨w.heap.size, 3, none⟩ = some (.string s) := (blk_cell (BLK.out m2) 3).trans rfl
  have M2 := Aside0.mk m2
  clear t2 m2
  go_wp2_with (go_at_call 113; refine (Signed_ n hn M2.out.has (M2.out.size HB0.out) (tab_of ht hT0 M2.out.below) (by have := HL.out; have := LL.out; omega)).mono ?_)
  rintro e W3 ⟨rfl, t3⟩
  obtain ⟨r3, m3⟩ := M2.out.next t3
  have M3 := Aside0.mk m3
  clear t3 m3
  go_wp2
  go_end0
  exact ⟨rfl, FIN.out _ _ (by rw [E.out]; exact M3.out.went)⟩
 by_cases c3 : c = 3
 ·subst c3
  have E := Aside0.mk (show addU x k 3 n s = addS (addT (addN x 3) k) n by unfold addU; simp)
  go_enter Tryd.func105, Tryd.ntmps105
  go_wp2_with (go_at_call 104; rw [← HA.out]; refine (Number_ 3 hc M0.out.has HB0.out hT0 (by have := HL.out; omega)).mono ?_)
  rintro e W1 ⟨rfl, t1⟩
  obtain ⟨r1, m1⟩ := M0.out.next t1
  have q10 : W1.cell? ⟨w.heap.size, 0, none⟩ = some (.string k) := (blk_cell (BLK.out m1) 0).trans rfl
  have q11 : W1.cell? ⟨w.heap.size, 1, none⟩ = some (.int .i64 3) := (blk_cell (BLK.out m1) 1).trans rfl
  have q12 : W1.cell? ⟨w.heap.size, 2, none⟩ = some (.int .i64 n) := (blk_cell (BLK.out m1) 2).trans rfl
  have q13 : W1.cell? ⟨w.heap.size, 3, none⟩ = some (.string s) := (blk_cell (BLK.out m1) 3).trans rfl
  have M1 := Aside0.mk m1
  clear t1 m1
  go_wp2_with (go_at_call 112; refine (Text_ k M1.out.has (M1.out.size HB0.out) (tab_of ht hT0 M1.out.below) (by have := HL.out; have := LL.out; omega)).mono ?_)
  rintro e W2 ⟨rfl, t2⟩
  obtain ⟨r2, m2⟩ := M1.out.next t2
  have q20 : W2.cell? ⟨w.heap.size, 0, none⟩ = some (.string k) := (blk_cell (BLK.out m2) 0).trans rfl
  have q21 : W2.cell? ⟨w.heap.size, 1, none⟩ = some (.int .i64 3) := (blk_cell (BLK.out m2) 1).trans rfl
  have q22 : W2.cell? ⟨w.heap.size, 2, none⟩ = some (.int .i64 n) := (blk_cell (BLK.out m2) 2).trans rfl
  have q23 : W2.cell? ⟨w.heap.size, 3, none⟩ = some (.string s) := (blk_cell (BLK.out m2) 3).trans rfl
  have M2 := Aside0.mk m2
  clear t2 m2
  go_wp2_with (go_at_call 113; refine (Signed_ n hn M2.out.has (M2.out.size HB0.out) (tab_of ht hT0 M2.out.below) (by have := HL.out; have := LL.out; omega)).mono ?_)
  rintro e W3 ⟨rfl, t3⟩
  obtain ⟨r3, m3⟩ := M2.out.next t3
  have M3 := Aside0.mk m3
  clear t3 m3
  go_wp2
  go_end0
  exact ⟨rfl, FIN.out _ _ (by rw [E.out]; exact M3.out.went)⟩
 by_cases c2 : c = 2
 ·subst c2
  have E := Aside0.mk (show addU x k 2 n s = addT (addT (addN x 2) k) s by unfold addU; simp)
  go_enter Tryd.func105, Tryd.ntmps105
  go_wp2_with (go_at_call 104; rw [← HA.out]; refine (Number_ 2 hc M0.out.has HB0.out hT0 (by have := HL.out; omega)).mono ?_)
  rintro e W1 ⟨rfl, t1⟩
  obtain ⟨r1, m1⟩ := M0.out.next t1
  have q10 : W1.cell? ⟨w.heap.size, 0, none⟩ = some (.string k) := (blk_cell (BLK.out m1) 0).trans rfl
  have q11 : W1.cell? ⟨w.heap.size, 1, none⟩ = some (.int .i64 2) := (blk_cell (BLK.out m1) 1).trans rfl
  have q12 : W1.cell? ⟨w.heap.size, 2, none⟩ = some (.int .i64 n) := (blk_cell (BLK.out m1) 2).trans rfl
  have q13 : W1.cell? ⟨w.heap.size, 3, none⟩ = some (.string s) := (blk_cell (BLK.out m1) 3).trans rfl
  have M1 := Aside0.mk m1
  clear t1 m1
  go_wp2_with (go_at_call 112; refine (Text_ k M1.out.has (M1.out.size HB0.out) (tab_of ht hT0 M1.out.below) (by have := HL.out; have := LL.out; omega)).mono ?_)
  rintro e W2 ⟨rfl, t2⟩
  obtain ⟨r2, m2⟩ := M1.out.next t2
  have q20 : W2.cell? ⟨w.heap.size, 0, none⟩ = some (.string k) := (blk_cell (BLK.out m2) 0).trans rfl
  have q21 : W2.cell? ⟨w.heap.size, 1, none⟩ = some (.int .i64 2) := (blk_cell (BLK.out m2) 1).trans rfl
  have q22 : W2.cell? ⟨w.heap.size, 2, none⟩ = some (.int .i64 n) := (blk_cell (BLK.out m2) 2).trans rfl
  have q23 : W2.cell? ⟨w.heap.size, 3, none⟩ = some (.string s) := (blk_cell (BLK.out m2) 3).trans rfl
  have M2 := Aside0.mk m2
  clear t2 m2
  go_wp2_with (go_at_call 112; refine (Text_ s M2.out.has (M2.out.size HB0.out) (tab_of ht hT0 M2.out.below) (by have := HL.out; have := LL.out; omega)).mono ?_)
  rintro e W3 ⟨rfl, t3⟩
  obtain ⟨r3, m3⟩ := M2.out.next t3
  have M3 := Aside0.mk m3
  clear t3 m3
  go_wp2
  go_end0
  exact ⟨rfl, FIN.out _ _ (by rw [E.out]; exact M3.out.went)⟩
 by_cases c4 : c = 4
 ·subst c4
  have E := Aside0.mk (show addU x k 4 n s = addT (addT (addN x 4) k) s by unfold addU; simp)
  go_enter Tryd.func105, Tryd.ntmps105
  go_wp2_with (go_at_call 104; rw [← HA.out]; refine (Number_ 4 hc M0.out.has HB0.out hT0 (by have := HL.out; omega)).mono ?_)
  rintro e W1 ⟨rfl, t1⟩
  obtain ⟨r1, m1⟩ := M0.out.next t1
  have q10 : W1.cell? ⟨w.heap.size, 0, none⟩ = some (.string k) := (blk_cell (BLK.out m1) 0).trans rfl
  have q11 : W1.cell? ⟨w.heap.size, 1, none⟩ = some (.int .i64 4) := (blk_cell (BLK.out m1) 1).trans rfl
  have q12 : W1.cell? ⟨w.heap.size, 2, none⟩ = some (.int .i64 n) := (blk_cell (BLK.out m1) 2).trans rfl
  have q13 : W1.cell? ⟨w.heap.size, 3, none⟩ = some (.string s) := (blk_cell (BLK.out m1) 3).trans rfl
  have M1 := Aside0.mk m1
  clear t1 m1
  go_wp2_with (go_at_call 112; refine (Text_ k M1.out.has (M1.out.size HB0.out) (tab_of ht hT0 M1.out.below) (by have := HL.out; have := LL.out; omega)).mono ?_)
  rintro e W2 ⟨rfl, t2⟩
  obtain ⟨r2, m2⟩ := M1.out.next t2
  have q20 : W2.cell? ⟨w.heap.size, 0, none⟩ = some (.string k) := (blk_cell (BLK.out m2) 0).trans rfl
  have q21 : W2.cell? ⟨w.heap.size, 1, none⟩ = some (.int .i64 4) := (blk_cell (BLK.out m2) 1).trans rfl
  have q22 : W2.cell? ⟨w.heap.size, 2, none⟩ = some (.int .i64 n) := (blk_cell (BLK.out m2) 2).trans rfl
  have q23 : W2.cell? ⟨w.heap.size, 3, none⟩ = some (.string s) := (blk_cell (BLK.out m2) 3).trans rfl
  have M2 := Aside0.mk m2
  clear t2 m2
  go_wp2_with (go_at_call 112; refine (Text_ s M2.out.has (M2.out.size HB0.out) (tab_of ht hT0 M2.out.below) (by have := HL.out; have := LL.out; omega)).mono ?_)
  rintro e W3 ⟨rfl, t3⟩
  obtain ⟨r3, m3⟩ := M2.out.next t3
  have M3 := Aside0.mk m3
  clear t3 m3
  go_wp2
  go_end0
  exact ⟨rfl, FIN.out _ _ (by rw [E.out]; exact M3.out.went)⟩
 ·have E := Aside0.mk (show addU x k c n s = addT (addN x c) k by unfold addU; simp [c1, c2, c3, c4])
  have d1 : (c == 1) = false := beq_eq_false_iff_ne.mpr c1
  have d2 : (c == 2) = false := beq_eq_false_iff_ne.mpr c2
  have d3 : (c == 3) = false := beq_eq_false_iff_ne.mpr c3
  have d4 : (c == 4) = false := beq_eq_false_iff_ne.mpr c4
  clear c1 c2 c3 c4
  go_enter Tryd.func105, Tryd.ntmps105
  go_wp2_with (go_at_call 104; rw [← HA.out]; refine (Number_ c hc M0.out.has HB0.out hT0 (by have := HL.out; omega)).mono ?_)
  rintro e W1 ⟨rfl, t1⟩
  obtain ⟨r1, m1⟩ := M0.out.next t1
  have q10 : W1.cell? ⟨w.heap.size, 0, none⟩ = some (.string k) := (blk_cell (BLK.out m1) 0).trans rfl
  have q11 : W1.cell? ⟨w.heap.size, 1, none⟩ = some (.int .i64 c) := (blk_cell (BLK.out m1) 1).trans rfl
  have q12 : W1.cell? ⟨w.heap.size, 2, none⟩ = some (.int .i64 n) := (blk_cell (BLK.out m1) 2).trans rfl
  have q13 : W1.cell? ⟨w.heap.size, 3, none⟩ = some (.string s) := (blk_cell (BLK.out m1) 3).trans rfl
  have M1 := Aside0.mk m1
  clear t1 m1
  go_wp2_with (go_at_call 112; refine (Text_ k M1.out.has (M1.out.size HB0.out) (tab_of ht hT0 M1.out.below) (by have := HL.out; have := LL.out; omega)).mono ?_)
  rintro e W2 ⟨rfl, t2⟩
  obtain ⟨r2, m2⟩ := M1.out.next t2
  have q20 : W2.cell? ⟨w.heap.size, 0, none⟩ = some (.string k) := (blk_cell (BLK.out m2) 0).trans rfl
  have q21 : W2.cell? ⟨w.heap.size, 1, none⟩ = some (.int .i64 c) := (blk_cell (BLK.out m2) 1).trans rfl
  have q22 : W2.cell? ⟨w.heap.size, 2, none⟩ = some (.int .i64 n) := (blk_cell (BLK.out m2) 2).trans rfl
  have q23 : W2.cell? ⟨w.heap.size, 3, none⟩ = some (.string s) := (blk_cell (BLK.out m2) 3).trans rfl
  have M2 := Aside0.mk m2
  clear t2 m2
  go_wp2
  go_end0
  exact ⟨rfl, FIN.out _ _ (by rw [E.out]; exact M2.out.went)⟩
end Go.Proofs.YtjdenpmaianmfaaDoor.Wr
