/- What the reference's Get of an update answers: what Read reads, if nothing is left behind it. -/
import Derived.Test.YtfbdfnclkchofaaDoorYUpdateGetsQ11
import Derived.Test.YtfbdfnclkchofaaDoorYUpdateGetsQ5
import Derived.WalkKit
namespace Go.Proofs.YtfbdfnclkchofaaDoor.Q
set_option linter.unusedSimpArgs false
set_option linter.unusedVariables false
open Go Go.RowKit Go.Proofs.YtfbdfnclkchofaaDoorW.PrintWords Go.Proofs.YtfbdfnclkchofaaDoorW.PrintLast Go.Proofs.YtfbdfnclkchofaaDoorW.PrintMore
attribute [local go_sem] max2_int min2_int max_two min_two max_three min_three max_four min_four
def chapbookref06_Get.f (k : Nat) (a0 : ByteArray) : Option (ByteArray × Int × Int × ByteArray × Int) :=
  (chapbookref06_Read.f k a0 0 0).bind fun u => (chapbookref03_Reader_End.f u.2.2.2.2.1 u.2.2.2.2.2.1 u.2.2.2.2.2.2).bind fun e =>
    if e.1 = 0 then some (u.1, u.2.1, u.2.2.1, u.2.2.2.1, 0) else some (⟨#[]⟩, 0, 0, ⟨#[]⟩, e.1)
theorem chapbookref06_Get.mono : ∀ a0 k, LeO (chapbookref06_Get.f k a0) (chapbookref06_Get.f (k + 1) a0) := by
  intro a0 k
  unfold chapbookref06_Get.f
  refine LeO.bind (chapbookref06_Read.mono _ _ _ _) (fun _ => ?_)
  exact LeO.refl _
abbrev upd (k : ByteArray) (c n : Int) (s : ByteArray) : Obj := .cells #[.string k, .int .i64 c, .int .i64 n, .string s] 58 (0, 0)
set_option maxHeartbeats 4000000 in
set_option maxRecDepth 100000 in
theorem chapbookref06_Get.calls (k : Nat) (a0 : ByteArray) (r1 : ByteArray) (r2 : Int) (r3 : Int) (r4 : ByteArray) (r5 : Int) (w : World) (HT : Aside0 (Tab w)) (h : chapbookref06_Get.f k a0 = some (r1, r2, r3, r4, r5)) :
    Calls Tryd.prog 40 #[.string a0] w fun e w' => e = .returned (.tuple #[.agg #[.string r1, .int .i64 r2, .int .i64 r3, .string r4], .int .i64 r5]) ∧ Below w.heap.size w w' := by
  unfold chapbookref06_Get.f at h
  replace h := Option.bind_eq_some_iff.mp h
  obtain ⟨⟨k1, c1, n1, s1, rb, ra, re⟩, h1, h⟩ := h
  replace h := Option.bind_eq_some_iff.mp h
  obtain ⟨⟨e1, eb, ea, ee⟩, h2, h⟩ := h
  simp only at h2 h
  have HH := Aside0.mk h
  clear h
  have A1 := Aside0.mk h1
  have A2 := Aside0.mk h2
  clear h1 h2
  obtain ⟨W1, hW1⟩ : ∃ W, W = w.alloc (.cells #[.string ⟨#[]⟩, .int .i64 0, .int .i64 0, .string ⟨#[]⟩] 58) := ⟨_, rfl⟩
  obtain ⟨W2, hW2⟩ : ∃ W, W = W1.alloc (.cells #[.string a0, .int .i64 0, .int .i64 0] 43) := ⟨_, rfl⟩
  have sz1 : W1.heap.size = w.heap.size + 1 := by rw [hW1]; unfold World.alloc; exact Array.size_push _
  have b1 : Below w.heap.size w W1 := by rw [hW1]; exact (Below.refl _ _).alloc (Nat.le_refl _) _
  have b2 : Below w.heap.size w W2 := by rw [hW2]; exact b1.alloc b1.size _
  have k1' : W1.heap[w.heap.size]? = some (upd ⟨#[]⟩ 0 0 ⟨#[]⟩) := by rw [hW1]; exact heap_alloc_new w _
  have k2 : W2.heap[w.heap.size]? = some (upd ⟨#[]⟩ 0 0 ⟨#[]⟩) := by rw [hW2]; exact (Below.heap_alloc W1 _ _ (by omega)).trans k1'
  have i2 : IsS43 w W2 W1.heap.size a0 0 0 := ⟨by rw [hW2]; exact heap_alloc_new W1 _, by omega⟩
  have HW := Aside0.mk (And.intro hW1 hW2)
  have I2 := Aside0.mk i2
  have B2 := Aside0.mk b2
  have K2 := Aside0.mk k2
  have SZ := Aside0.mk sz1
  clear hW1 hW2 sz1 b1 b2 k1' k2 i2
  go_enter Tryd.func40, Tryd.ntmps40
  have b58 := Tryd.underlying58
  go_wp2_with (go_at_call 45; rw [← HW.out.1, ← HW.out.2, ← SZ.out]; refine (chapbookref06_Read.calls k W1.heap.size a0 0 0 k1 c1 n1 s1 rb ra re w _ I2.out B2.out A1.out).mono ?_)
  rintro e W3 ⟨rfl, i3, b3, q3⟩
  have r3 := q3.blk K2.out (by have := SZ.out; omega) (by simp)
  have I3 := Aside0.mk i3
  have B3 := Aside0.mk b3
  have R3 := Aside0.mk r3
  have lt3 : W1.heap.size < W3.heap.size := i3.lt
  have NE := Aside0.mk (show W1.heap.size ≠ W3.heap.size by omega)
  have NR := Aside0.mk (show w.heap.size ≠ W3.heap.size by have := SZ.out; omega)
  have NG := Aside0.mk (show w.heap.size ≠ W1.heap.size by have := SZ.out; omega)
  have GE := Aside0.mk (show w.heap.size ≤ W3.heap.size from b3.size)
  have GW := Aside0.mk (show w.heap.size ≤ w.heap.size from Nat.le_refl _)
  clear i3 b3 q3 r3 lt3
  go_wp2_with (go_at_call 30; refine (chapbookref03_Reader_End.calls W1.heap.size rb ra re e1 eb ea ee w _ ?i ?b A2.out).mono ?_; (case i => repeat (first | exact I3.out | apply IsS43.alloc | refine IsS43.far ?_ NE.out _)); (case b => repeat (first | exact B3.out | apply below_alloc | refine below_set ?_ GE.out)))
  rintro e W6 ⟨rfl, _, b6, q6⟩
  have u6 := q6.blk (g' := W3.heap.size) (o := upd k1 c1 n1 s1) (heap_alloc_new W3 _) (Ne.symm NE.out) (by simp)
  have r6 := q6.blk (g' := w.heap.size) (o := upd ⟨#[]⟩ 0 0 ⟨#[]⟩) (by repeat (first | exact R3.out | refine blk_far ?_ NR.out _ | refine blk_alloc ?_ _)) NG.out (by simp)
  have x0 : W6.cell? ⟨W3.heap.size, 0, none⟩ = some (.string k1) := (blk_cell u6 0).trans rfl
  have x1 : W6.cell? ⟨W3.heap.size, 1, none⟩ = some (.int .i64 c1) := (blk_cell u6 1).trans rfl
  have x2 : W6.cell? ⟨W3.heap.size, 2, none⟩ = some (.int .i64 n1) := (blk_cell u6 2).trans rfl
  have x3 : W6.cell? ⟨W3.heap.size, 3, none⟩ = some (.string s1) := (blk_cell u6 3).trans rfl
  have y0 : W6.cell? ⟨w.heap.size, 0, none⟩ = some (.string ⟨#[]⟩) := (blk_cell r6 0).trans rfl
  have y1 : W6.cell? ⟨w.heap.size, 1, none⟩ = some (.int .i64 0) := (blk_cell r6 1).trans rfl
  have y2 : W6.cell? ⟨w.heap.size, 2, none⟩ = some (.int .i64 0) := (blk_cell r6 2).trans rfl
  have y3 : W6.cell? ⟨w.heap.size, 3, none⟩ = some (.string ⟨#[]⟩) := (blk_cell r6 3).trans rfl
  have z0 := blk_frozen r6 0
  have z1 := blk_frozen r6 1
  have z2 := blk_frozen r6 2
  have z3 := blk_frozen r6 3
  have R6 := Aside0.mk r6
  have B6 := Aside0.mk b6
  clear u6 r6 q6 b6
  have h := HH.out
  clear HH
  by_cases he : e1 = 0
  · rw [if_pos he] at h
    simp only [Option.some.injEq, Prod.mk.injEq] at h
    obtain ⟨rfl, rfl, rfl, rfl, rfl⟩ := h
    have d0 : (e1 == 0) = true := beq_iff_eq.mpr he
    have d1 : (e1 != 0) = false := bne_eq_false_iff_eq.mpr he
    clear he
    go_wp2
    refine bodyPost_ret (results_ct rfl _ _ w.heap.size 58 #[.string k1, .int .i64 c1, .int .i64 n1, .string s1] (0, 0) _ rfl (by refine blk_put (cs := #[.string k1, .int .i64 c1, .int .i64 n1, .string ⟨#[]⟩]) ?_ 3 _ rfl; refine blk_put (cs := #[.string k1, .int .i64 c1, .int .i64 0, .string ⟨#[]⟩]) ?_ 2 _ rfl; refine blk_put (cs := #[.string k1, .int .i64 0, .int .i64 0, .string ⟨#[]⟩]) ?_ 1 _ rfl; refine blk_put (cs := #[.string ⟨#[]⟩, .int .i64 0, .int .i64 0, .string ⟨#[]⟩]) ?_ 0 _ rfl; exact R6.out) Tryd.underlying58 rfl (by kernel_rfl)) rfl ?_
    exact ⟨rfl, by repeat (first | exact B6.out | refine below_set ?_ GW.out)⟩
  · rw [if_neg he] at h
    simp only [Option.some.injEq, Prod.mk.injEq] at h
    obtain ⟨rfl, rfl, rfl, rfl, rfl⟩ := h
    have d0 : (e1 == 0) = false := beq_eq_false_iff_ne.mpr he
    have d1 : (e1 != 0) = true := bne_iff_ne.mpr he
    clear he
    go_wp2
    refine bodyPost_ret (results_ct rfl _ _ w.heap.size 58 #[.string ⟨#[]⟩, .int .i64 0, .int .i64 0, .string ⟨#[]⟩] (0, 0) _ rfl (by refine blk_put (cs := #[.string ⟨#[]⟩, .int .i64 0, .int .i64 0, .string ⟨#[]⟩]) ?_ 3 _ rfl; refine blk_put (cs := #[.string ⟨#[]⟩, .int .i64 0, .int .i64 0, .string ⟨#[]⟩]) ?_ 2 _ rfl; refine blk_put (cs := #[.string ⟨#[]⟩, .int .i64 0, .int .i64 0, .string ⟨#[]⟩]) ?_ 1 _ rfl; refine blk_put (cs := #[.string ⟨#[]⟩, .int .i64 0, .int .i64 0, .string ⟨#[]⟩]) ?_ 0 _ rfl; exact R6.out) Tryd.underlying58 rfl (by kernel_rfl)) rfl ?_
    exact ⟨rfl, by repeat (first | exact B6.out | refine below_set ?_ GW.out)⟩
end Go.Proofs.YtfbdfnclkchofaaDoor.Q
