/- What a Writer's fields are, plainly, and what update.Write puts: a walk through update.Write, under the condition that the table 'bits' of package prefix is laid. -/
import Derived.Test.YtfbdfnclkchofaaDoorYPackBackWr2
import Derived.Test.YtfbdfnclkchofaaDoorYPackBackPre1
namespace Go.Proofs.YtfbdfnclkchofaaDoor.Wr
set_option linter.unusedSimpArgs false
set_option linter.unusedVariables false
open Go Go.RowKit Go.Proofs.YtfbdfnclkchofaaDoorW.PrintWords Go.Proofs.YtfbdfnclkchofaaDoorW.PrintLast Go.Proofs.YtfbdfnclkchofaaDoorW.PrintMore Go.Proofs.YtfbdfnclkchofaaDoor.Q
attribute [local go_sem] max2_int min2_int max_two min_two max_three min_three max_four min_four
def numP (n : Int) : ByteArray × Bool := if 0 ≤ n ∧ n < 4611686018427387904 then (strOfNums (Pure.encL n), false) else (⟨#[]⟩, true)
def sgnP (n : Int) : ByteArray × Bool := if -2305843009213693952 ≤ n ∧ n < 2305843009213693952 then (strOfNums (Pure.encL (if n < 0 then -2 * n - 1 else 2 * n)), false) else (strOfNums (Pure.encL 0), true)
def txtP (s : ByteArray) : ByteArray := strOfNums (Pure.encL s.size) ++ s
abbrev Wst := ByteArray × Bool
def addN (x : Wst) (n : Int) : Wst := (x.1 ++ (numP n).1, x.2 || (numP n).2)
def addS (x : Wst) (n : Int) : Wst := (x.1 ++ (sgnP n).1, x.2 || (sgnP n).2)
def addT (x : Wst) (s : ByteArray) : Wst := (x.1 ++ txtP s, x.2)
theorem enc_size (n : Int) : (strOfNums (Pure.encL n)).size ≤ 8 := by
  have := Pure.encL_le n
  simp [strOfNums, ByteArray.size]
  exact this
theorem numP_size (n : Int) : (numP n).1.size ≤ 8 := by
  unfold numP
  split
  · exact enc_size n
  · exact Nat.zero_le _
theorem sgnP_size (n : Int) : (sgnP n).1.size ≤ 8 := by
  unfold sgnP
  split <;> exact enc_size _
theorem i64_bd {n : Int} (h : (Lit.int .i64 n).wf = true) : -9223372036854775808 ≤ n ∧ n ≤ 9223372036854775807 := bounds_i64 h
theorem num_put (n : Int) (h : (Lit.int .i64 n).wf = true) : ∃ r2, prefix_Put.f 10 (IntKind.u64.wrap n) = some ((numP n).1, r2) ∧ (!decide (0 ≤ n) || (r2 != 0)) = (numP n).2 := by
  obtain ⟨h0, h1⟩ := i64_bd h
  by_cases hn : 0 ≤ n
  · have hw : IntKind.u64.wrap n = n := Pure.u64in n hn (by omega)
    rw [hw]
    by_cases hl : n < 4611686018427387904
    · refine ⟨0, ?_, ?_⟩
      · rw [Pure.put_ok 0 n hn hl]; unfold numP; rw [if_pos ⟨hn, hl⟩]
      · unfold numP; rw [if_pos ⟨hn, hl⟩]; simp [hn]
    · refine ⟨1, ?_, ?_⟩
      · rw [Pure.put_no 10 n (by omega)]; unfold numP; rw [if_neg (fun h => hl h.2)]
      · unfold numP; rw [if_neg (fun h => hl h.2)]; simp [hn]
  · have hw : IntKind.u64.wrap n = n + 18446744073709551616 := by rw [Pure.u64w]; omega
    rw [hw]
    refine ⟨1, ?_, ?_⟩
    · rw [Pure.put_no 10 _ (by omega)]; unfold numP; rw [if_neg (fun h => hn h.1)]
    · unfold numP; rw [if_neg (fun h => hn h.1)]; simp [hn]
def Has (B b : Nat) (row : Option Nat) (x : Wst) (w : World) : Prop := Is B b row x.2 x.1 w
def Went (B b : Nat) (row : Option Nat) (x : Wst) (w w' : World) : Prop := Turned B b row x.2 x.1 w w'
theorem Number_ {B b : Nat} {row : Option Nat} {x : Wst} {w : World} (n : Int) (hn : (Lit.int .i64 n).wf = true) (h : Has B b row x w) (hBw : B ≤ w.heap.size) (HT : Aside0 (Tab w)) (hlen : x.1.size ≤ 140737488355000) :
    Calls Tryd.prog 15 #[.pointer (some ⟨b, 0, none⟩), .int .i64 n] w fun e w' => e = .returned (.tuple #[]) ∧ Went B b row (addN x n) w w' := by
  obtain ⟨r2, h1, h2⟩ := num_put n hn
  have hs := numP_size n
  refine (Number 10 n _ r2 h hBw HT h1 (by omega)).mono fun e w' ⟨he, ht⟩ => ⟨he, ?_⟩
  unfold Went addN
  rw [← h2, ← Bool.or_assoc]
  exact ht
theorem Signed_ {B b : Nat} {row : Option Nat} {x : Wst} {w : World} (n : Int) (hn : (Lit.int .i64 n).wf = true) (h : Has B b row x w) (hBw : B ≤ w.heap.size) (HT : Aside0 (Tab w)) (hlen : x.1.size ≤ 140737488355000) :
    Calls Tryd.prog 32 #[.pointer (some ⟨b, 0, none⟩), .int .i64 n] w fun e w' => e = .returned (.tuple #[]) ∧ Went B b row (addS x n) w w' := by
  obtain ⟨h0, h1⟩ := i64_bd hn
  have hs := sgnP_size n
  by_cases hz : -2305843009213693952 ≤ n ∧ n < 2305843009213693952
  · have e : sgnP n = (strOfNums (Pure.encL (if n < 0 then -2 * n - 1 else 2 * n)), false) := by unfold sgnP; rw [if_pos hz]
    have e2 : prefix_Put.f (0 + 10) (if n < 0 then -2 * n - 1 else 2 * n) = some (strOfNums (Pure.encL (if n < 0 then -2 * n - 1 else 2 * n)), 0) := Pure.put_ok 0 _ (by split <;> omega) (by split <;> omega)
    refine (Signed (0 + 10) n _ true _ 0 h hBw HT (Pure.zig_ok n hz.1 hz.2) e2 (by rw [e] at hs; simp only at hs; omega)).mono fun e w' ⟨he, ht⟩ => ⟨he, ?_⟩
    unfold Went addS
    rw [‹sgnP n = _›]
    simpa using ht
  · have e : sgnP n = (strOfNums (Pure.encL 0), true) := by unfold sgnP; rw [if_neg hz]
    have e2 : prefix_Put.f (0 + 10) 0 = some (strOfNums (Pure.encL 0), 0) := Pure.put_ok 0 _ (by omega) (by omega)
    refine (Signed (0 + 10) n 0 false _ 0 h hBw HT (Pure.zig_no n (by omega)) e2 (by rw [e] at hs; simp only at hs; omega)).mono fun e w' ⟨he, ht⟩ => ⟨he, ?_⟩
    unfold Went addS
    rw [‹sgnP n = _›]
    simpa using ht
theorem Text_ {B b : Nat} {row : Option Nat} {x : Wst} {w : World} (s : ByteArray) (h : Has B b row x w) (hBw : B ≤ w.heap.size) (HT : Aside0 (Tab w)) (hlen : x.1.size + s.size ≤ 140737488355000) :
    Calls Tryd.prog 16 #[.pointer (some ⟨b, 0, none⟩), .string s] w fun e w' => e = .returned (.tuple #[]) ∧ Went B b row (addT x s) w w' := by
  have hw : IntKind.u64.wrap (s.size : Int) = s.size := Pure.u64in _ (by omega) (by omega)
  have e2 : prefix_Put.f (0 + 10) (IntKind.u64.wrap (s.size : Int)) = some (strOfNums (Pure.encL s.size), 0) := by rw [hw]; exact Pure.put_ok 0 _ (by omega) (by omega)
  have hs := enc_size s.size
  refine (Text (0 + 10) s _ 0 h hBw HT e2 (by omega)).mono fun e w' ⟨he, ht⟩ => ⟨he, ?_⟩
  unfold Went addT txtP
  rw [← ByteArray.append_assoc]
  simpa using ht
def told (x : Wst) : ByteArray × Int := (if x.2 then ⟨#[]⟩ else x.1, if x.2 then 1 else 0)
theorem Bytes_ {B b : Nat} {row : Option Nat} {x : Wst} {w : World} (h : Has B b row x w) (hBw : B ≤ w.heap.size) :
    Calls Tryd.prog 17 #[.pointer (some ⟨b, 0, none⟩)] w fun e w' => e = .returned (.tuple #[.string (told x).1, .int .i64 (told x).2]) ∧ Has B b row x w' ∧ Below B w w' ∧ KeepBut w w' b row := Bytes h hBw
theorem fresh (w : World) : Has w.heap.size w.heap.size none (⟨#[]⟩, false) (w.alloc (.cells #[.pointer none, .slice none 0 0, .bool false] 28)) :=
  ⟨.pointer none, .slice none 0 0, rfl, Nat.le_refl _, heap_alloc_new w _, World.ownsRowF_nil _ _ _ _, .inl rfl⟩
theorem tab_of {B : Nat} {w W : World} (ht : 0 < B) (HT : Aside0 (Tab w)) (hb : Below B w W) : Aside0 (Tab W) :=
  ⟨⟨(hb.cell (p := ⟨0, 0, none⟩) ht).trans HT.out.1, (hb.cell (p := ⟨0, 1, none⟩) ht).trans HT.out.2.1, (hb.cell (p := ⟨0, 2, none⟩) ht).trans HT.out.2.2.1, (hb.cell (p := ⟨0, 3, none⟩) ht).trans HT.out.2.2.2⟩⟩
theorem tab_lt {w : World} (h : Tab w) : 0 < w.heap.size := World.block_lt_of_cell? w _ h.1
structure Mid (B b : Nat) (row r : Option Nat) (y : Wst) (w W : World) : Prop where
  has : Has B b r y W
  below : Below B w W
  keep : KeepBut w W b row
  row : r = row ∨ ∃ k, r = some k ∧ w.heap.size ≤ k
theorem Mid.next {B b : Nat} {row r : Option Nat} {y z : Wst} {w W W' : World} (h : Mid B b row r y w W) (t : Went B b r z W W') : ∃ r', Mid B b row r' z w W' := by
  obtain ⟨row2, i2, hb2, hk2, hr2⟩ := t
  obtain ⟨row', a, b, c, d⟩ := Turned.trans h.below h.keep h.row i2 hb2 hk2 hr2
  exact ⟨row', a, b, c, d⟩
theorem Mid.start {B b : Nat} {row : Option Nat} {y : Wst} {w : World} (h : Has B b row y w) : Mid B b row row y w w := ⟨h, Below.refl _ _, KeepBut.refl _ _ _, .inl rfl⟩
theorem Mid.blk {B b : Nat} {row r : Option Nat} {y : Wst} {w W : World} (h : Mid B b row r y w W) {g : Nat} {o : Obj} (hg : w.heap[g]? = some o) (hb : g ≠ b) (hr : some g ≠ row) : W.heap[g]? = some o := h.keep.blk hg hb hr
theorem Mid.size {B b : Nat} {row r : Option Nat} {y : Wst} {w W : World} (h : Mid B b row r y w W) (hB : B ≤ w.heap.size) : B ≤ W.heap.size := Nat.le_trans hB h.below.size
end Go.Proofs.YtfbdfnclkchofaaDoor.Wr
