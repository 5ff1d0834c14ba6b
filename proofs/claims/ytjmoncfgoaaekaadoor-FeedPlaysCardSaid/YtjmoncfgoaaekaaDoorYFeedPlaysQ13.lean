/- Contracts of the seat's functions, printed: if the Lean function comes to a value, the Go function returns it. -/
import Derived.Test.YtjmoncfgoaaekaaDoorYFeedPlaysSpell
import Derived.Test.YtjmoncfgoaaekaaDoorYFeedPlaysQ8
import Derived.Test.YtjmoncfgoaaekaaDoorYFeedPlaysQ10
import Derived.Test.YtjmoncfgoaaekaaDoorYFeedPlaysQ11
import Derived.Test.YtjmoncfgoaaekaaDoorYFeedPlaysQ12
namespace Go.Proofs.YtjmoncfgoaaekaaDoor.Q
open Go.RowKit Go.Proofs.YtjmoncfgoaaekaaDoorW.PrintWords Go.Proofs.YtjmoncfgoaaekaaDoorW.PrintLast Go.Proofs.YtjmoncfgoaaekaaDoorW.PrintMore
attribute [local go_sem] max2_int min2_int max_two min_two max_three min_three max_four min_four   -- for this text's walks alone
set_option linter.unusedVariables false
set_option linter.unusedSimpArgs false
def chapbookref09_May.j0 : Nat → Bool → Int → Int → Int → ByteArray → Option (Int)
 | 0, _, _, _, _, _ => none
 | k + 1, x30, x317000, x317001, x317002, x317003 => if x30 = true then (some 1) else (if x317001 = 0 then (if x317003.toList = ([] : List UInt8) then (some 0) else (some 13)) else (some 0))
def chapbookref09_May.f (k : Nat) (a0_0 : Int) (a0_1 : Int) (a0_2 : Int) (a0_3 : ByteArray) : Option (Int) := if a0_0 < 1 then (chapbookref09_May.j0 k true a0_0 a0_1 a0_2 a0_3) else (if a0_0 > 1099511627776 then (chapbookref09_May.j0 k true a0_0 a0_1 a0_2 a0_3) else (if a0_1 < 0 then (chapbookref09_May.j0 k true a0_0 a0_1 a0_2 a0_3) else (if a0_1 > 1125899906842624 then (chapbookref09_May.j0 k true a0_0 a0_1 a0_2 a0_3) else (if a0_2 < 0 then (chapbookref09_May.j0 k true a0_0 a0_1 a0_2 a0_3) else (chapbookref09_May.j0 k (decide (a0_2 > 1125899906842624)) a0_0 a0_1 a0_2 a0_3)))))
theorem chapbookref09_May.mono_l : ∀ k, (∀ y0 y1 y2 y3 y4, LeO (chapbookref09_May.j0 k y0 y1 y2 y3 y4) (chapbookref09_May.j0 (k + 1) y0 y1 y2 y3 y4))
 | 0 => fun _ _ _ _ _ r h => by simp [chapbookref09_May.j0] at h
 | k + 1 => by
  have ih0 := chapbookref09_May.mono_l k
  ·intro y0 y1 y2 y3 y4
   unfold chapbookref09_May.j0
   repeat' first
   | (with_reducible exact ih0 _ _ _ _ _)
   | (with_reducible exact LeO.refl _)
   | (with_reducible exact LeO.none _)
   | (with_reducible refine LeO.ite ?_ ?_)
   | (with_reducible refine LeO.bind ?_ (fun _ => ?_))
   | exact ih0 _ _ _ _ _
   | exact LeO.none _
   | refine LeO.ite ?_ ?_
   | refine LeO.bind ?_ (fun _ => ?_)
theorem chapbookref09_May.mono : ∀ a0 a1 a2 a3 k, LeO (chapbookref09_May.f k a0 a1 a2 a3) (chapbookref09_May.f (k + 1) a0 a1 a2 a3) := by
 intro a0 a1 a2 a3 k
 have ih0 := chapbookref09_May.mono_l k
 unfold chapbookref09_May.f
 repeat' first
   | (with_reducible exact ih0 _ _ _ _ _)
   | (with_reducible exact LeO.refl _)
   | (with_reducible exact LeO.none _)
   | (with_reducible refine LeO.ite ?_ ?_)
   | (with_reducible refine LeO.bind ?_ (fun _ => ?_))
   | exact ih0 _ _ _ _ _
   | exact LeO.none _
   | refine LeO.ite ?_ ?_
   | refine LeO.bind ?_ (fun _ => ?_)
set_option maxHeartbeats 8000000 in
set_option maxRecDepth 100000 in
theorem chapbookref09_May.calls (k : Nat) (a0_0 : Int) (a0_1 : Int) (a0_2 : Int) (a0_3 : ByteArray) (r : Int) (w : World) (h : chapbookref09_May.f k a0_0 a0_1 a0_2 a0_3 = some r) :
  Calls Tryd.prog 35 #[.agg #[.int .i64 a0_0, .int .i64 a0_1, .int .i64 a0_2, .string a0_3]] w fun e w' => e = .returned (.int .i64 r) ∧ Below w.heap.size w w' := by
 have hu40 := Tryd.underlying40
 have HB := Aside0.mk (Below.refl w.heap.size w)
 have H : (if a0_0 < 1 then (chapbookref09_May.j0 k true a0_0 a0_1 a0_2 a0_3) else (if a0_0 > 1099511627776 then (chapbookref09_May.j0 k true a0_0 a0_1 a0_2 a0_3) else (if a0_1 < 0 then (chapbookref09_May.j0 k true a0_0 a0_1 a0_2 a0_3) else (if a0_1 > 1125899906842624 then (chapbookref09_May.j0 k true a0_0 a0_1 a0_2 a0_3) else (if a0_2 < 0 then (chapbookref09_May.j0 k true a0_0 a0_1 a0_2 a0_3) else (chapbookref09_May.j0 k (decide (a0_2 > 1125899906842624)) a0_0 a0_1 a0_2 a0_3)))))) = some r := h
 clear h
 have HC2 := Aside0.mk H
 clear H
 go_enter Tryd.func35, Tryd.ntmps35
 go_upto_region 1 with (first | ((with_reducible refine gate_dst (N := 1) rfl ?_); refine box_event ?hg (N := 1) ?hd (cs := #[.int .i64 a0_0, .int .i64 a0_1, .int .i64 a0_2, .string a0_3]) (t := 40) ?hr ?_; (case hd => rfl); (case hg => rfl); (case hr => first | (go_simp; done) | (go_simp; rfl)); intro gb316 hg w3 hbox hb; have n0_ := Aside0.mk (below_step (by repeat (first | (with_reducible first | exact HB.out | apply below_alloc | apply pw_below_drewN | apply below_drew1) | exact HB.out)) hb); have n1_ := Aside0.mk (hbox); have n2_ := Aside0.mk ((by rw [hg]; exact (below_size (by repeat (first | (with_reducible first | exact HB.out | apply below_alloc | apply pw_below_drewN | apply below_drew1) | exact HB.out))) : w.heap.size ≤ gb316)); have n3_ := Aside0.mk ((by rw [hg]; exact (below_size (by repeat (first | (with_reducible first | exact HB.out | apply below_alloc | apply pw_below_drewN | apply below_drew1) | exact HB.out))) : w.heap.size ≤ gb316)); clear HB; have HB := n0_; have BK316 := n1_; have GW316 := n2_; have GE316 := n3_; clear n0_ n1_ n2_ n3_; clear hb hbox hg))
 (try simp only [Act.put, List.setIfInBounds_toArray, List.set_cons_zero, List.set_cons_succ])
 go_cut [30] (fun v30 wc => ∃ (kq : Nat) (x30_1 : Bool), v30 = .bool x30_1 ∧ Aside0 (chapbookref09_May.j0 kq x30_1 a0_0 a0_1 a0_2 a0_3 = some r) ∧ Aside0 (kq ≤ k) ∧ Aside0 (wc.heap[gb316]? = some (.cells #[.int .i64 a0_0, .int .i64 a0_1, .int .i64 a0_2, .string a0_3] 40 (0, 0))) ∧ Aside0 (Below w.heap.size w wc))
 case first =>
  have H := HC2.out
  clear HC2
  by_cases c4 : a0_0 < 1
  ·rw [if_pos c4] at H
   have c4b0 : decide (a0_0 < 1) = true := decide_eq_true c4
   clear c4
   (first | rw [c4b0] | (simp only [i64_w, i32_w]; rw [c4b0]) | skip)
   have H' := Aside0.mk H
   clear H
   have hcz5_0 : w3.cell? ⟨gb316, 0, none⟩ = some (.int .i64 a0_0) := (blk_cell BK316.out 0).trans rfl
   have hcz5_1 : w3.cell? ⟨gb316, 1, none⟩ = some (.int .i64 a0_1) := (blk_cell BK316.out 1).trans rfl
   have hcz5_2 : w3.cell? ⟨gb316, 2, none⟩ = some (.int .i64 a0_2) := (blk_cell BK316.out 2).trans rfl
   have hcz5_3 : w3.cell? ⟨gb316, 3, none⟩ = some (.string a0_3) := (blk_cell BK316.out 3).trans rfl
   have hfz5_0 := blk_frozen BK316.out 0
   have hfz5_1 := blk_frozen BK316.out 1
   have hfz5_2 := blk_frozen BK316.out 2
   have hfz5_3 := blk_frozen BK316.out 3
   go_wp2
   go_meet
   case rel => exact ⟨_, (true), (by first | rfl | (simp; done) | (simp [*]; done) | (simp; exact isEmpty_bne _)), H', ⟨by first | omega | exact Nat.le_refl _⟩, ⟨by (with_reducible repeat (first | refine blk_drewN ?_ _ | refine blk_drew ?_ | refine blk_alloc ?_ _)); exact BK316.out⟩, ⟨by repeat (first | (with_reducible first | exact HB.out | apply below_alloc | apply pw_below_drewN | apply below_drew1 | refine below_set ?_ GE316.out) | exact HB.out)⟩⟩
  ·rw [if_neg c4] at H
   have c4b0 : decide (a0_0 < 1) = false := decide_eq_false c4
   clear c4
   (first | rw [c4b0] | (simp only [i64_w, i32_w]; rw [c4b0]) | skip)
   by_cases c6 : a0_0 > 1099511627776
   ·rw [if_pos c6] at H
    have c6b0 : decide (1099511627776 < a0_0) = true := decide_eq_true c6
    clear c6
    have H' := Aside0.mk H
    clear H
    have hcz7_0 : w3.cell? ⟨gb316, 0, none⟩ = some (.int .i64 a0_0) := (blk_cell BK316.out 0).trans rfl
    have hcz7_1 : w3.cell? ⟨gb316, 1, none⟩ = some (.int .i64 a0_1) := (blk_cell BK316.out 1).trans rfl
    have hcz7_2 : w3.cell? ⟨gb316, 2, none⟩ = some (.int .i64 a0_2) := (blk_cell BK316.out 2).trans rfl
    have hcz7_3 : w3.cell? ⟨gb316, 3, none⟩ = some (.string a0_3) := (blk_cell BK316.out 3).trans rfl
    have hfz7_0 := blk_frozen BK316.out 0
    have hfz7_1 := blk_frozen BK316.out 1
    have hfz7_2 := blk_frozen BK316.out 2
    have hfz7_3 := blk_frozen BK316.out 3
    go_wp2
    go_meet
    case rel => exact ⟨_, (true), (by first | rfl | (simp; done) | (simp [*]; done) | (simp; exact isEmpty_bne _)), H', ⟨by first | omega | exact Nat.le_refl _⟩, ⟨by (with_reducible repeat (first | refine blk_drewN ?_ _ | refine blk_drew ?_ | refine blk_alloc ?_ _)); exact BK316.out⟩, ⟨by repeat (first | (with_reducible first | exact HB.out | apply below_alloc | apply pw_below_drewN | apply below_drew1 | refine below_set ?_ GE316.out) | exact HB.out)⟩⟩
   ·rw [if_neg c6] at H
    have c6b0 : decide (1099511627776 < a0_0) = false := decide_eq_false c6
    clear c6
    by_cases c8 : a0_1 < 0
    ·rw [if_pos c8] at H
     have c8b0 : decide (a0_1 < 0) = true := decide_eq_true c8
     clear c8
     have H' := Aside0.mk H
     clear H
     have hcz9_0 : w3.cell? ⟨gb316, 0, none⟩ = some (.int .i64 a0_0) := (blk_cell BK316.out 0).trans rfl
     have hcz9_1 : w3.cell? ⟨gb316, 1, none⟩ = some (.int .i64 a0_1) := (blk_cell BK316.out 1).trans rfl
     have hcz9_2 : w3.cell? ⟨gb316, 2, none⟩ = some (.int .i64 a0_2) := (blk_cell BK316.out 2).trans rfl
     have hcz9_3 : w3.cell? ⟨gb316, 3, none⟩ = some (.string a0_3) := (blk_cell BK316.out 3).trans rfl
     have hfz9_0 := blk_frozen BK316.out 0
     have hfz9_1 := blk_frozen BK316.out 1
     have hfz9_2 := blk_frozen BK316.out 2
     have hfz9_3 := blk_frozen BK316.out 3
     go_wp2
     go_meet
     case rel => exact ⟨_, (true), (by first | rfl | (simp; done) | (simp [*]; done) | (simp; exact isEmpty_bne _)), H', ⟨by first | omega | exact Nat.le_refl _⟩, ⟨by (with_reducible repeat (first | refine blk_drewN ?_ _ | refine blk_drew ?_ | refine blk_alloc ?_ _)); exact BK316.out⟩, ⟨by repeat (first | (with_reducible first | exact HB.out | apply below_alloc | apply pw_below_drewN | apply below_drew1 | refine below_set ?_ GE316.out) | exact HB.out)⟩⟩
    ·rw [if_neg c8] at H
     have c8b0 : decide (a0_1 < 0) = false := decide_eq_false c8
     clear c8
     by_cases c10 : a0_1 > 1125899906842624
     ·rw [if_pos c10] at H
      have c10b0 : decide (1125899906842624 < a0_1) = true := decide_eq_true c10
      clear c10
      have H' := Aside0.mk H
      clear H
      have hcz11_0 : w3.cell? ⟨gb316, 0, none⟩ = some (.int .i64 a0_0) := (blk_cell BK316.out 0).trans rfl
      have hcz11_1 : w3.cell? ⟨gb316, 1, none⟩ = some (.int .i64 a0_1) := (blk_cell BK316.out 1).trans rfl
      have hcz11_2 : w3.cell? ⟨gb316, 2, none⟩ = some (.int .i64 a0_2) := (blk_cell BK316.out 2).trans rfl
      have hcz11_3 : w3.cell? ⟨gb316, 3, none⟩ = some (.string a0_3) := (blk_cell BK316.out 3).trans rfl
      have hfz11_0 := blk_frozen BK316.out 0
      have hfz11_1 := blk_frozen BK316.out 1
      have hfz11_2 := blk_frozen BK316.out 2
      have hfz11_3 := blk_frozen BK316.out 3
      go_wp2
      go_meet
      case rel => exact ⟨_, (true), (by first | rfl | (simp; done) | (simp [*]; done) | (simp; exact isEmpty_bne _)), H', ⟨by first | omega | exact Nat.le_refl _⟩, ⟨by (with_reducible repeat (first | refine blk_drewN ?_ _ | refine blk_drew ?_ | refine blk_alloc ?_ _)); exact BK316.out⟩, ⟨by repeat (first | (with_reducible first | exact HB.out | apply below_alloc | apply pw_below_drewN | apply below_drew1 | refine below_set ?_ GE316.out) | exact HB.out)⟩⟩
     ·rw [if_neg c10] at H
      have c10b0 : decide (1125899906842624 < a0_1) = false := decide_eq_false c10
      clear c10
      by_cases c12 : a0_2 < 0
      ·rw [if_pos c12] at H
       have c12b0 : decide (a0_2 < 0) = true := decide_eq_true c12
       clear c12
       have H' := Aside0.mk H
       clear H
       have hcz13_0 : w3.cell? ⟨gb316, 0, none⟩ = some (.int .i64 a0_0) := (blk_cell BK316.out 0).trans rfl
       have hcz13_1 : w3.cell? ⟨gb316, 1, none⟩ = some (.int .i64 a0_1) := (blk_cell BK316.out 1).trans rfl
       have hcz13_2 : w3.cell? ⟨gb316, 2, none⟩ = some (.int .i64 a0_2) := (blk_cell BK316.out 2).trans rfl
       have hcz13_3 : w3.cell? ⟨gb316, 3, none⟩ = some (.string a0_3) := (blk_cell BK316.out 3).trans rfl
       have hfz13_0 := blk_frozen BK316.out 0
       have hfz13_1 := blk_frozen BK316.out 1
       have hfz13_2 := blk_frozen BK316.out 2
       have hfz13_3 := blk_frozen BK316.out 3
       go_wp2
       go_meet
       case rel => exact ⟨_, (true), (by first | rfl | (simp; done) | (simp [*]; done) | (simp; exact isEmpty_bne _)), H', ⟨by first | omega | exact Nat.le_refl _⟩, ⟨by (with_reducible repeat (first | refine blk_drewN ?_ _ | refine blk_drew ?_ | refine blk_alloc ?_ _)); exact BK316.out⟩, ⟨by repeat (first | (with_reducible first | exact HB.out | apply below_alloc | apply pw_below_drewN | apply below_drew1 | refine below_set ?_ GE316.out) | exact HB.out)⟩⟩
      ·rw [if_neg c12] at H
       have c12b0 : decide (a0_2 < 0) = false := decide_eq_false c12
       clear c12
       have H' := Aside0.mk H
       clear H
       have hcz14_0 : w3.cell? ⟨gb316, 0, none⟩ = some (.int .i64 a0_0) := (blk_cell BK316.out 0).trans rfl
       have hcz14_1 : w3.cell? ⟨gb316, 1, none⟩ = some (.int .i64 a0_1) := (blk_cell BK316.out 1).trans rfl
       have hcz14_2 : w3.cell? ⟨gb316, 2, none⟩ = some (.int .i64 a0_2) := (blk_cell BK316.out 2).trans rfl
       have hcz14_3 : w3.cell? ⟨gb316, 3, none⟩ = some (.string a0_3) := (blk_cell BK316.out 3).trans rfl
       have hfz14_0 := blk_frozen BK316.out 0
       have hfz14_1 := blk_frozen BK316.out 1
       have hfz14_2 := blk_frozen BK316.out 2
       have hfz14_3 := blk_frozen BK316.out 3
       go_wp2
       go_meet
       case rel => exact ⟨_, (decide (a0_2 > 1125899906842624)), (by first | rfl | (simp; done) | (simp [*]; done) | (simp; exact isEmpty_bne _)), H', ⟨by first | omega | exact Nat.le_refl _⟩, ⟨by (with_reducible repeat (first | refine blk_drewN ?_ _ | refine blk_drew ?_ | refine blk_alloc ?_ _)); exact BK316.out⟩, ⟨by repeat (first | (with_reducible first | exact HB.out | apply below_alloc | apply pw_below_drewN | apply below_drew1 | refine below_set ?_ GE316.out) | exact HB.out)⟩⟩
 case rest =>
  clear HC2
  try clear c1
  try clear p2
  try clear c3
  try clear c4
  try clear c4b0
  try clear c6
  try clear c6b0
  try clear c8
  try clear c8b0
  try clear c10
  try clear c10b0
  try clear c12
  try clear c12b0
  try clear hcz11_0
  try clear hcz11_1
  try clear hcz11_2
  try clear hcz11_3
  try clear hcz13_0
  try clear hcz13_1
  try clear hcz13_2
  try clear hcz13_3
  try clear hcz14_0
  try clear hcz14_1
  try clear hcz14_2
  try clear hcz14_3
  try clear hcz5_0
  try clear hcz5_1
  try clear hcz5_2
  try clear hcz5_3
  try clear hcz7_0
  try clear hcz7_1
  try clear hcz7_2
  try clear hcz7_3
  try clear hcz9_0
  try clear hcz9_1
  try clear hcz9_2
  try clear hcz9_3
  try clear hfz11_0
  try clear hfz11_1
  try clear hfz11_2
  try clear hfz11_3
  try clear hfz13_0
  try clear hfz13_1
  try clear hfz13_2
  try clear hfz13_3
  try clear hfz14_0
  try clear hfz14_1
  try clear hfz14_2
  try clear hfz14_3
  try clear hfz5_0
  try clear hfz5_1
  try clear hfz5_2
  try clear hfz5_3
  try clear hfz7_0
  try clear hfz7_1
  try clear hfz7_2
  try clear hfz7_3
  try clear hfz9_0
  try clear hfz9_1
  try clear hfz9_2
  try clear hfz9_3
  obtain ⟨kq, x30_1, rfl, HA, HJ1, BK316, HB⟩ := hcut
  cases kq with
  | zero => exact absurd HA.out (by simp [chapbookref09_May.j0])
  | succ kj1 =>
   have H := HA.out
   clear HA
   simp only [chapbookref09_May.j0] at H
   by_cases c15 : x30_1 = true
   ·subst c15
    have H1 : (some 1) = some r := by rw [if_pos rfl] at H; exact H
    clear H
    have H := H1
    clear H1
    obtain rfl := Option.some.inj H
    go_wp2
    go_ret
    exact ⟨by first | rfl | (simp [errW_none, errW_some] <;> rfl) | (simp [*, errW_none, errW_some] <;> rfl), by repeat (first | (with_reducible first | exact HB.out | apply below_alloc | apply pw_below_drewN | apply below_drew1 | refine below_set ?_ GE316.out) | exact HB.out)⟩
   ·replace c15 := Bool.eq_false_iff.mpr c15
    subst c15
    have H1 : (if a0_1 = 0 then (if a0_3.toList = ([] : List UInt8) then (some 0) else (some 13)) else (some 0)) = some r := by rw [if_neg (show ¬ (false = true) by decide)] at H; exact H
    clear H
    have H := H1
    clear H1
    by_cases c16 : a0_1 = 0
    ·rw [if_pos c16] at H
     have c16b0 : (a0_1 == 0) = true := beq_iff_eq.mpr c16
     have c16b1 : (a0_1 != 0) = false := bne_eq_false_iff_eq.mpr c16
     clear c16
     by_cases c17 : a0_3.toList = ([] : List UInt8)
     ·rw [if_pos c17] at H
      have c17b0 : (a0_3.toList == ([] : List UInt8)) = true := beq_iff_eq.mpr c17
      have c17e0 : a0_3.toList.isEmpty = true := by rw [← beq_nil]; exact c17b0
      have c17b1 : (a0_3.toList != ([] : List UInt8)) = false := bne_eq_false_iff_eq.mpr c17
      clear c17
      obtain rfl := Option.some.inj H
      have hcz18_0 : wc.cell? ⟨gb316, 0, none⟩ = some (.int .i64 a0_0) := (blk_cell BK316.out 0).trans rfl
      have hcz18_1 : wc.cell? ⟨gb316, 1, none⟩ = some (.int .i64 a0_1) := (blk_cell BK316.out 1).trans rfl
      have hcz18_2 : wc.cell? ⟨gb316, 2, none⟩ = some (.int .i64 a0_2) := (blk_cell BK316.out 2).trans rfl
      have hcz18_3 : wc.cell? ⟨gb316, 3, none⟩ = some (.string a0_3) := (blk_cell BK316.out 3).trans rfl
      have hfz18_0 := blk_frozen BK316.out 0
      have hfz18_1 := blk_frozen BK316.out 1
      have hfz18_2 := blk_frozen BK316.out 2
      have hfz18_3 := blk_frozen BK316.out 3
      go_wp2
      go_ret
      exact ⟨by first | rfl | (simp [errW_none, errW_some] <;> rfl) | (simp [*, errW_none, errW_some] <;> rfl), by repeat (first | (with_reducible first | exact HB.out | apply below_alloc | apply pw_below_drewN | apply below_drew1 | refine below_set ?_ GE316.out) | exact HB.out)⟩
     ·rw [if_neg c17] at H
      have c17b0 : (a0_3.toList == ([] : List UInt8)) = false := beq_eq_false_iff_ne.mpr c17
      have c17e0 : a0_3.toList.isEmpty = false := by rw [← beq_nil]; exact c17b0
      have c17b1 : (a0_3.toList != ([] : List UInt8)) = true := bne_iff_ne.mpr c17
      obtain rfl := Option.some.inj H
      have hcz19_0 : wc.cell? ⟨gb316, 0, none⟩ = some (.int .i64 a0_0) := (blk_cell BK316.out 0).trans rfl
      have hcz19_1 : wc.cell? ⟨gb316, 1, none⟩ = some (.int .i64 a0_1) := (blk_cell BK316.out 1).trans rfl
      have hcz19_2 : wc.cell? ⟨gb316, 2, none⟩ = some (.int .i64 a0_2) := (blk_cell BK316.out 2).trans rfl
      have hcz19_3 : wc.cell? ⟨gb316, 3, none⟩ = some (.string a0_3) := (blk_cell BK316.out 3).trans rfl
      have hfz19_0 := blk_frozen BK316.out 0
      have hfz19_1 := blk_frozen BK316.out 1
      have hfz19_2 := blk_frozen BK316.out 2
      have hfz19_3 := blk_frozen BK316.out 3
      go_wp2
      go_ret
      exact ⟨by first | rfl | (simp [errW_none, errW_some] <;> rfl) | (simp [*, errW_none, errW_some] <;> rfl), by repeat (first | (with_reducible first | exact HB.out | apply below_alloc | apply pw_below_drewN | apply below_drew1 | refine below_set ?_ GE316.out) | exact HB.out)⟩
    ·rw [if_neg c16] at H
     have c16b0 : (a0_1 == 0) = false := beq_eq_false_iff_ne.mpr c16
     have c16b1 : (a0_1 != 0) = true := bne_iff_ne.mpr c16
     obtain rfl := Option.some.inj H
     have hcz20_0 : wc.cell? ⟨gb316, 0, none⟩ = some (.int .i64 a0_0) := (blk_cell BK316.out 0).trans rfl
     have hcz20_1 : wc.cell? ⟨gb316, 1, none⟩ = some (.int .i64 a0_1) := (blk_cell BK316.out 1).trans rfl
     have hcz20_2 : wc.cell? ⟨gb316, 2, none⟩ = some (.int .i64 a0_2) := (blk_cell BK316.out 2).trans rfl
     have hcz20_3 : wc.cell? ⟨gb316, 3, none⟩ = some (.string a0_3) := (blk_cell BK316.out 3).trans rfl
     have hfz20_0 := blk_frozen BK316.out 0
     have hfz20_1 := blk_frozen BK316.out 1
     have hfz20_2 := blk_frozen BK316.out 2
     have hfz20_3 := blk_frozen BK316.out 3
     go_wp2
     go_ret
     exact ⟨by first | rfl | (simp [errW_none, errW_some] <;> rfl) | (simp [*, errW_none, errW_some] <;> rfl), by repeat (first | (with_reducible first | exact HB.out | apply below_alloc | apply pw_below_drewN | apply below_drew1 | refine below_set ?_ GE316.out) | exact HB.out)⟩
def chapbooklaw15_great.l0 : Nat → List (S45) → Int → Int → Option (Bool)
 | 0, _, _, _ => none
 | k + 1, x8, x9, x10 => if x10 < x9 then (if 0 ≤ x10 then (if x10 < (x8.length : Int) then ((chapbookref07_Great.f k ((rd_T45 x8 x10).f2.f0) ((rd_T45 x8 x10).f2.f1) ((rd_T45 x8 x10).f2.f2)).bind fun t319 => (if t319 = true then (some true) else (if (((rd_T45 x8 x10).f1.f3).size : Int) > 100 then (some true) else (if ((rd_T45 x8 x10).f0) = 2 then ((chapbookref09_May.f k ((rd_T45 x8 x10).f1.f0) ((rd_T45 x8 x10).f1.f1) ((rd_T45 x8 x10).f1.f2) ((rd_T45 x8 x10).f1.f3)).bind fun t320 => (if t320 = 0 then (chapbooklaw15_great.l0 k x8 x9 (wrap64 (x10 + 1))) else (some true))) else (chapbooklaw15_great.l0 k x8 x9 (wrap64 (x10 + 1))))))) else (none)) else (none)) else (some false)
def chapbooklaw15_great.f (k : Nat) (l0 : List (S45)) : Option (Bool) := if (l0.length : Int) > 60 then (some true) else (chapbooklaw15_great.l0 k l0 (l0.length : Int) 0)
theorem chapbooklaw15_great.mono_l : ∀ k, (∀ y0 y1 y2, LeO (chapbooklaw15_great.l0 k y0 y1 y2) (chapbooklaw15_great.l0 (k + 1) y0 y1 y2))
 | 0 => fun _ _ _ r h => by simp [chapbooklaw15_great.l0] at h
 | k + 1 => by
  have ih0 := chapbooklaw15_great.mono_l k
  ·intro y0 y1 y2
   unfold chapbooklaw15_great.l0
   repeat' first
   | (with_reducible exact ih0 _ _ _)
   | (with_reducible exact chapbookref07_Great.mono _ _ _ _)
   | (with_reducible exact chapbookref09_May.mono _ _ _ _ _)
   | (with_reducible exact LeO.refl _)
   | (with_reducible exact LeO.none _)
   | (with_reducible refine LeO.ite ?_ ?_)
   | (with_reducible refine LeO.bind ?_ (fun _ => ?_))
   | exact ih0 _ _ _
   | exact chapbookref07_Great.mono _ _ _ _
   | exact chapbookref09_May.mono _ _ _ _ _
   | exact LeO.none _
   | refine LeO.ite ?_ ?_
   | refine LeO.bind ?_ (fun _ => ?_)
theorem chapbooklaw15_great.mono : ∀ a0 k, LeO (chapbooklaw15_great.f k a0) (chapbooklaw15_great.f (k + 1) a0) := by
 intro a0 k
 have ih0 := chapbooklaw15_great.mono_l k
 unfold chapbooklaw15_great.f
 repeat' first
   | (with_reducible exact ih0 _ _ _)
   | (with_reducible exact chapbookref07_Great.mono _ _ _ _)
   | (with_reducible exact chapbookref09_May.mono _ _ _ _ _)
   | (with_reducible exact LeO.refl _)
   | (with_reducible exact LeO.none _)
   | (with_reducible refine LeO.ite ?_ ?_)
   | (with_reducible refine LeO.bind ?_ (fun _ => ?_))
   | exact ih0 _ _ _
   | exact chapbookref07_Great.mono _ _ _ _
   | exact chapbookref09_May.mono _ _ _ _ _
   | exact LeO.none _
   | refine LeO.ite ?_ ?_
   | refine LeO.bind ?_ (fun _ => ?_)
set_option maxHeartbeats 8000000 in
set_option maxRecDepth 100000 in
theorem chapbooklaw15_great.calls (k : Nat) (A0 : Option Addr) (c0 : Nat) (l0 : List (S45)) (r : Bool) (w : World) (hr0 : Kd.C k45 w A0 l0.length l0) (hc0 : l0.length ≤ c0) (h : chapbooklaw15_great.f k l0 = some r) :
  Calls Tryd.prog 13 #[.slice A0 l0.length c0] w fun e w' => e = .returned (.bool r) ∧ Below w.heap.size w w' := by
 have hu45 := Tryd.underlying45
 have hu43 := Tryd.underlying43
 have hu40 := Tryd.underlying40
 have HR0 := Aside0.mk hr0
 have HC0 := Aside0.mk hc0
 clear hr0 hc0
 have HB := Aside0.mk (Below.refl w.heap.size w)
 have H : (if (l0.length : Int) > 60 then (some true) else (chapbooklaw15_great.l0 k l0 (l0.length : Int) 0)) = some r := h
 clear h
 by_cases c2 : (l0.length : Int) > 60
 ·rw [if_pos c2] at H
  have c2b0 : decide (60 < (l0.length : Int)) = true := decide_eq_true c2
  have c2b1 : decide (60 < l0.length) = true := decide_eq_true (by omega)
  clear c2
  obtain rfl := Option.some.inj H
  go_enter Tryd.func13, Tryd.ntmps13
  go_wp2
  go_ret
  exact ⟨by first | rfl | (simp [errW_none, errW_some] <;> rfl) | (simp [*, errW_none, errW_some] <;> rfl), by repeat (first | (with_reducible first | exact HB.out | apply below_alloc | apply pw_below_drewN | apply below_drew1) | exact HB.out)⟩
 ·rw [if_neg c2] at H
  have c2b0 : decide (60 < (l0.length : Int)) = false := decide_eq_false c2
  have c2b1 : decide (60 < l0.length) = false := decide_eq_false (by omega)
  clear c2
  have H' := Aside0.mk H
  clear H
  go_enter Tryd.func13, Tryd.ntmps13
  go_wp2
  go_loopg [10] k (fun kq v10 w' => ∃ (x10_1 : Int), v10 = .int .i64 x10_1 ∧ Aside0 (chapbooklaw15_great.l0 kq l0 (l0.length : Int) x10_1 = some r) ∧ Aside0 (kq ≤ k) ∧ Aside0 (Below w.heap.size w w'))
  case atStart => exact ⟨(0), (by first | rfl | (simp; done) | (simp [*]; done) | (simp; exact isEmpty_bne _)), H', ⟨Nat.le_refl _⟩, ⟨by repeat (first | (with_reducible first | exact HB.out | apply below_alloc | apply pw_below_drewN | apply below_drew1) | exact HB.out)⟩⟩
  case round =>
   clear H'
   try clear c1
   try clear c2
   try clear c2b0
   try clear c2b1
   try clear p2
   obtain ⟨x10_1, rfl, HA, HK1, HB⟩ := hrel
   cases gk with
   | zero => exact absurd HA.out (by simp [chapbooklaw15_great.l0])
   | succ k1 =>
    have H := HA.out
    clear HA
    simp only [chapbooklaw15_great.l0] at H
    by_cases c3 : x10_1 < (l0.length : Int)
    ·rw [if_pos c3] at H
     have c3b0 : decide (x10_1 < (l0.length : Int)) = true := decide_eq_true c3
     clear c3
     by_cases c4 : 0 ≤ x10_1
     ·rw [if_pos c4] at H
      have c4b0 : decide (0 ≤ x10_1) = true := decide_eq_true c4
      clear c4
      by_cases c5 : x10_1 < (l0.length : Int)
      ·rw [if_pos c5] at H
       have c5b0 : decide (x10_1 < (l0.length : Int)) = true := decide_eq_true c5
       clear c5
       replace H := Option.bind_eq_some_iff.mp H
       obtain ⟨t319, A60, H⟩ := H
       replace H : (if t319 = true then (some true) else (if (((rd_T45 l0 x10_1).f1.f3).size : Int) > 100 then (some true) else (if ((rd_T45 l0 x10_1).f0) = 2 then ((chapbookref09_May.f k1 ((rd_T45 l0 x10_1).f1.f0) ((rd_T45 l0 x10_1).f1.f1) ((rd_T45 l0 x10_1).f1.f2) ((rd_T45 l0 x10_1).f1.f3)).bind fun t320 => (if t320 = 0 then (chapbooklaw15_great.l0 k1 l0 (l0.length : Int) (wrap64 (x10_1 + 1))) else (some true))) else (chapbooklaw15_great.l0 k1 l0 (l0.length : Int) (wrap64 (x10_1 + 1)))))) = some r := H
       have A6 := Aside0.mk A60
       clear A60
       by_cases c7 : t319 = true
       ·subst c7
        have H1 : (some true) = some r := by rw [if_pos rfl] at H; exact H
        clear H
        have H := H1
        clear H1
        obtain rfl := Option.some.inj H
        have p317 : 0 ≤ (x10_1 : Int) := of_decide_eq_true (by first | (with_reducible assumption) | assumption)
        have q317 : x10_1 < (l0.length : Int) := of_decide_eq_true (by first | (with_reducible assumption) | assumption)
        obtain ⟨ad317, A317_7, c317_7, e317, hx317_0, hx317_1, hx317_2, hx317_3, hx317_4, hx317_5, hx317_6, hx317_7, hl317_7, hi317_7⟩ := at_T45 HR0.out x10_1 p317 q317
        cases e317
        replace hx317_0 := (HB.out.cell (World.block_lt_of_cell? w _ hx317_0)).trans hx317_0
        replace hx317_1 := (HB.out.cell (World.block_lt_of_cell? w _ hx317_1)).trans hx317_1
        replace hx317_2 := (HB.out.cell (World.block_lt_of_cell? w _ hx317_2)).trans hx317_2
        replace hx317_3 := (HB.out.cell (World.block_lt_of_cell? w _ hx317_3)).trans hx317_3
        replace hx317_4 := (HB.out.cell (World.block_lt_of_cell? w _ hx317_4)).trans hx317_4
        replace hx317_5 := (HB.out.cell (World.block_lt_of_cell? w _ hx317_5)).trans hx317_5
        replace hx317_6 := (HB.out.cell (World.block_lt_of_cell? w _ hx317_6)).trans hx317_6
        replace hx317_7 := (HB.out.cell (World.block_lt_of_cell? w _ hx317_7)).trans hx317_7
        have HR317_7 := Aside0.mk hi317_7
        have HC317_7 := Aside0.mk hl317_7
        clear hi317_7 hl317_7
        replace p317 := eq_true p317
        replace q317 := eq_true q317
        go_wp2_with (first | ((with_reducible refine gate_dst (N := 4) rfl ?_); (try (refine gate_guard (by rfl) ?_; dsimp only)); refine box_event ?hg (N := 4) ?hd (cs := #[.int .i64 0, .int .i64 0, .int .i64 0, .int .i64 0, .string (⟨#[]⟩ : ByteArray), .int .i64 0, .int .i64 0, .slice none 0 0]) (t := 45) ?hr ?_; (case hd => rfl); (case hg => rfl); (case hr => first | (go_simp; done) | (go_simp; rfl)); intro gb318 hg w8 hbox hb; have n0_ := Aside0.mk (below_step (by repeat (first | (with_reducible first | exact HB.out | apply below_alloc | apply pw_below_drewN | apply below_drew1) | exact HB.out)) hb); have n1_ := Aside0.mk (hbox); have n2_ := Aside0.mk ((by rw [hg]; exact (below_size (by repeat (first | (with_reducible first | exact HB.out | apply below_alloc | apply pw_below_drewN | apply below_drew1) | exact HB.out))) : w.heap.size ≤ gb318)); have n3_ := Aside0.mk ((by rw [hg]; exact (below_size (by repeat (first | (with_reducible first | exact HB.out | apply below_alloc | apply pw_below_drewN | apply below_drew1) | exact HB.out))) : w.heap.size ≤ gb318)); clear HB; have HB := n0_; have BK318 := n1_; have GW318 := n2_; have GE318 := n3_; clear n0_ n1_ n2_ n3_; clear hb hbox hg; have hcz9_0 : w8.cell? ⟨gb318, 0, none⟩ = some (.int .i64 0) := (blk_cell BK318.out 0).trans rfl; have hcz9_1 : w8.cell? ⟨gb318, 1, none⟩ = some (.int .i64 0) := (blk_cell BK318.out 1).trans rfl; have hcz9_2 : w8.cell? ⟨gb318, 2, none⟩ = some (.int .i64 0) := (blk_cell BK318.out 2).trans rfl; have hcz9_3 : w8.cell? ⟨gb318, 3, none⟩ = some (.int .i64 0) := (blk_cell BK318.out 3).trans rfl; have hcz9_4 : w8.cell? ⟨gb318, 4, none⟩ = some (.string (⟨#[]⟩ : ByteArray)) := (blk_cell BK318.out 4).trans rfl; have hcz9_5 : w8.cell? ⟨gb318, 5, none⟩ = some (.int .i64 0) := (blk_cell BK318.out 5).trans rfl; have hcz9_6 : w8.cell? ⟨gb318, 6, none⟩ = some (.int .i64 0) := (blk_cell BK318.out 6).trans rfl; have hcz9_7 : w8.cell? ⟨gb318, 7, none⟩ = some (.slice none 0 0) := (blk_cell BK318.out 7).trans rfl; have hfz9_0 := blk_frozen BK318.out 0; have hfz9_1 := blk_frozen BK318.out 1; have hfz9_2 := blk_frozen BK318.out 2; have hfz9_3 := blk_frozen BK318.out 3; have hfz9_4 := blk_frozen BK318.out 4; have hfz9_5 := blk_frozen BK318.out 5; have hfz9_6 := blk_frozen BK318.out 6; have hfz9_7 := blk_frozen BK318.out 7) | ((with_reducible refine gate_callee (f := 34) rfl ?_); refine goesL_ (some 16) rfl rfl Tryd.func34 (by kernel_rfl) rfl #[.agg #[.int .i64 ((rd_T45 l0 x10_1).f2.f0), .int .i64 ((rd_T45 l0 x10_1).f2.f1), .slice A317_7 ((rd_T45 l0 x10_1).f2.f2).length c317_7]] rfl (by (try simp only [List.map_toArray, List.map_cons, List.map_nil]); first | done | rfl | (simp only [List.length_drop, List.length_take]; rfl)) ?_; (with_reducible refine (chapbookref07_Great.calls k1 ((rd_T45 l0 x10_1).f2.f0) ((rd_T45 l0 x10_1).f2.f1) _ _ ((rd_T45 l0 x10_1).f2.f2) true _ ?side1 ?side2 A6.out).mono ?_); (case side1 => exact Kd.C_below HR317_7.out (by repeat (first | (with_reducible first | exact HB.out | apply below_alloc | apply pw_below_drewN | apply below_drew1 | refine below_set ?_ GE318.out) | exact HB.out))); (case side2 => exact HC317_7.out); rintro e w10 ⟨rfl, hb⟩; refine ⟨_, rfl, ?_⟩; have n0_ := Aside0.mk (blk_below (g := gb318) (o := .cells #[.int .i64 ((rd_T45 l0 x10_1).f0), .int .i64 ((rd_T45 l0 x10_1).f1.f0), .int .i64 ((rd_T45 l0 x10_1).f1.f1), .int .i64 ((rd_T45 l0 x10_1).f1.f2), .string ((rd_T45 l0 x10_1).f1.f3), .int .i64 ((rd_T45 l0 x10_1).f2.f0), .int .i64 ((rd_T45 l0 x10_1).f2.f1), .slice A317_7 ((rd_T45 l0 x10_1).f2.f2).length c317_7] 45 (0, 0)) (by (with_reducible repeat (first | refine blk_drewN ?_ _ | refine blk_drew ?_ | refine blk_alloc ?_ _)); refine blk_put (cs := #[.int .i64 ((rd_T45 l0 x10_1).f0), .int .i64 ((rd_T45 l0 x10_1).f1.f0), .int .i64 ((rd_T45 l0 x10_1).f1.f1), .int .i64 ((rd_T45 l0 x10_1).f1.f2), .string ((rd_T45 l0 x10_1).f1.f3), .int .i64 ((rd_T45 l0 x10_1).f2.f0), .int .i64 ((rd_T45 l0 x10_1).f2.f1), .slice none 0 0]) ?_ 7 _ rfl; (with_reducible repeat (first | refine blk_drewN ?_ _ | refine blk_drew ?_ | refine blk_alloc ?_ _)); refine blk_put (cs := #[.int .i64 ((rd_T45 l0 x10_1).f0), .int .i64 ((rd_T45 l0 x10_1).f1.f0), .int .i64 ((rd_T45 l0 x10_1).f1.f1), .int .i64 ((rd_T45 l0 x10_1).f1.f2), .string ((rd_T45 l0 x10_1).f1.f3), .int .i64 ((rd_T45 l0 x10_1).f2.f0), .int .i64 0, .slice none 0 0]) ?_ 6 _ rfl; (with_reducible repeat (first | refine blk_drewN ?_ _ | refine blk_drew ?_ | refine blk_alloc ?_ _)); refine blk_put (cs := #[.int .i64 ((rd_T45 l0 x10_1).f0), .int .i64 ((rd_T45 l0 x10_1).f1.f0), .int .i64 ((rd_T45 l0 x10_1).f1.f1), .int .i64 ((rd_T45 l0 x10_1).f1.f2), .string ((rd_T45 l0 x10_1).f1.f3), .int .i64 0, .int .i64 0, .slice none 0 0]) ?_ 5 _ rfl; (with_reducible repeat (first | refine blk_drewN ?_ _ | refine blk_drew ?_ | refine blk_alloc ?_ _)); refine blk_put (cs := #[.int .i64 ((rd_T45 l0 x10_1).f0), .int .i64 ((rd_T45 l0 x10_1).f1.f0), .int .i64 ((rd_T45 l0 x10_1).f1.f1), .int .i64 ((rd_T45 l0 x10_1).f1.f2), .string (⟨#[]⟩ : ByteArray), .int .i64 0, .int .i64 0, .slice none 0 0]) ?_ 4 _ rfl; (with_reducible repeat (first | refine blk_drewN ?_ _ | refine blk_drew ?_ | refine blk_alloc ?_ _)); refine blk_put (cs := #[.int .i64 ((rd_T45 l0 x10_1).f0), .int .i64 ((rd_T45 l0 x10_1).f1.f0), .int .i64 ((rd_T45 l0 x10_1).f1.f1), .int .i64 0, .string (⟨#[]⟩ : ByteArray), .int .i64 0, .int .i64 0, .slice none 0 0]) ?_ 3 _ rfl; (with_reducible repeat (first | refine blk_drewN ?_ _ | refine blk_drew ?_ | refine blk_alloc ?_ _)); refine blk_put (cs := #[.int .i64 ((rd_T45 l0 x10_1).f0), .int .i64 ((rd_T45 l0 x10_1).f1.f0), .int .i64 0, .int .i64 0, .string (⟨#[]⟩ : ByteArray), .int .i64 0, .int .i64 0, .slice none 0 0]) ?_ 2 _ rfl; (with_reducible repeat (first | refine blk_drewN ?_ _ | refine blk_drew ?_ | refine blk_alloc ?_ _)); refine blk_put (cs := #[.int .i64 ((rd_T45 l0 x10_1).f0), .int .i64 0, .int .i64 0, .int .i64 0, .string (⟨#[]⟩ : ByteArray), .int .i64 0, .int .i64 0, .slice none 0 0]) ?_ 1 _ rfl; (with_reducible repeat (first | refine blk_drewN ?_ _ | refine blk_drew ?_ | refine blk_alloc ?_ _)); refine blk_put (cs := #[.int .i64 0, .int .i64 0, .int .i64 0, .int .i64 0, .string (⟨#[]⟩ : ByteArray), .int .i64 0, .int .i64 0, .slice none 0 0]) ?_ 0 _ rfl; (with_reducible repeat (first | refine blk_drewN ?_ _ | refine blk_drew ?_ | refine blk_alloc ?_ _)); exact BK318.out) hb); have n1_ := Aside0.mk (below_step (by repeat (first | (with_reducible first | exact HB.out | apply below_alloc | apply pw_below_drewN | apply below_drew1 | refine below_set ?_ GE318.out) | exact HB.out)) hb); clear BK318; clear HB; have BK318 := n0_; have HB := n1_; clear n0_ n1_; (try clear hb); (try clear hb2); (try clear hk); (try clear hi)))
        go_ret
        exact ⟨by first | rfl | (simp [errW_none, errW_some] <;> rfl) | (simp [*, errW_none, errW_some] <;> rfl), by repeat (first | (with_reducible first | exact HB.out | apply below_alloc | apply pw_below_drewN | apply below_drew1 | refine below_set ?_ GE318.out) | exact HB.out)⟩
       ·replace c7 := Bool.eq_false_iff.mpr c7
        subst c7
        have H1 : (if (((rd_T45 l0 x10_1).f1.f3).size : Int) > 100 then (some true) else (if ((rd_T45 l0 x10_1).f0) = 2 then ((chapbookref09_May.f k1 ((rd_T45 l0 x10_1).f1.f0) ((rd_T45 l0 x10_1).f1.f1) ((rd_T45 l0 x10_1).f1.f2) ((rd_T45 l0 x10_1).f1.f3)).bind fun t320 => (if t320 = 0 then (chapbooklaw15_great.l0 k1 l0 (l0.length : Int) (wrap64 (x10_1 + 1))) else (some true))) else (chapbooklaw15_great.l0 k1 l0 (l0.length : Int) (wrap64 (x10_1 + 1))))) = some r := by rw [if_neg (show ¬ (false = true) by decide)] at H; exact H
        clear H
        have H := H1
        clear H1
        by_cases c11 : (((rd_T45 l0 x10_1).f1.f3).size : Int) > 100
        ·rw [if_pos c11] at H
         have c11b0 : decide (100 < (((rd_T45 l0 x10_1).f1.f3).size : Int)) = true := decide_eq_true c11
         have c11b1 : decide (100 < ((rd_T45 l0 x10_1).f1.f3).size) = true := decide_eq_true (by omega)
         clear c11
         obtain rfl := Option.some.inj H
         have p317 : 0 ≤ (x10_1 : Int) := of_decide_eq_true (by first | (with_reducible assumption) | assumption)
         have q317 : x10_1 < (l0.length : Int) := of_decide_eq_true (by first | (with_reducible assumption) | assumption)
         obtain ⟨ad317, A317_7, c317_7, e317, hx317_0, hx317_1, hx317_2, hx317_3, hx317_4, hx317_5, hx317_6, hx317_7, hl317_7, hi317_7⟩ := at_T45 HR0.out x10_1 p317 q317
         cases e317
         replace hx317_0 := (HB.out.cell (World.block_lt_of_cell? w _ hx317_0)).trans hx317_0
         replace hx317_1 := (HB.out.cell (World.block_lt_of_cell? w _ hx317_1)).trans hx317_1
         replace hx317_2 := (HB.out.cell (World.block_lt_of_cell? w _ hx317_2)).trans hx317_2
         replace hx317_3 := (HB.out.cell (World.block_lt_of_cell? w _ hx317_3)).trans hx317_3
         replace hx317_4 := (HB.out.cell (World.block_lt_of_cell? w _ hx317_4)).trans hx317_4
         replace hx317_5 := (HB.out.cell (World.block_lt_of_cell? w _ hx317_5)).trans hx317_5
         replace hx317_6 := (HB.out.cell (World.block_lt_of_cell? w _ hx317_6)).trans hx317_6
         replace hx317_7 := (HB.out.cell (World.block_lt_of_cell? w _ hx317_7)).trans hx317_7
         have HR317_7 := Aside0.mk hi317_7
         have HC317_7 := Aside0.mk hl317_7
         clear hi317_7 hl317_7
         replace p317 := eq_true p317
         replace q317 := eq_true q317
         go_wp2_with (first | ((with_reducible refine gate_dst (N := 4) rfl ?_); (try (refine gate_guard (by rfl) ?_; dsimp only)); refine box_event ?hg (N := 4) ?hd (cs := #[.int .i64 0, .int .i64 0, .int .i64 0, .int .i64 0, .string (⟨#[]⟩ : ByteArray), .int .i64 0, .int .i64 0, .slice none 0 0]) (t := 45) ?hr ?_; (case hd => rfl); (case hg => rfl); (case hr => first | (go_simp; done) | (go_simp; rfl)); intro gb318 hg w12 hbox hb; have n0_ := Aside0.mk (below_step (by repeat (first | (with_reducible first | exact HB.out | apply below_alloc | apply pw_below_drewN | apply below_drew1) | exact HB.out)) hb); have n1_ := Aside0.mk (hbox); have n2_ := Aside0.mk ((by rw [hg]; exact (below_size (by repeat (first | (with_reducible first | exact HB.out | apply below_alloc | apply pw_below_drewN | apply below_drew1) | exact HB.out))) : w.heap.size ≤ gb318)); have n3_ := Aside0.mk ((by rw [hg]; exact (below_size (by repeat (first | (with_reducible first | exact HB.out | apply below_alloc | apply pw_below_drewN | apply below_drew1) | exact HB.out))) : w.heap.size ≤ gb318)); clear HB; have HB := n0_; have BK318 := n1_; have GW318 := n2_; have GE318 := n3_; clear n0_ n1_ n2_ n3_; clear hb hbox hg; have hcz13_0 : w12.cell? ⟨gb318, 0, none⟩ = some (.int .i64 0) := (blk_cell BK318.out 0).trans rfl; have hcz13_1 : w12.cell? ⟨gb318, 1, none⟩ = some (.int .i64 0) := (blk_cell BK318.out 1).trans rfl; have hcz13_2 : w12.cell? ⟨gb318, 2, none⟩ = some (.int .i64 0) := (blk_cell BK318.out 2).trans rfl; have hcz13_3 : w12.cell? ⟨gb318, 3, none⟩ = some (.int .i64 0) := (blk_cell BK318.out 3).trans rfl; have hcz13_4 : w12.cell? ⟨gb318, 4, none⟩ = some (.string (⟨#[]⟩ : ByteArray)) := (blk_cell BK318.out 4).trans rfl; have hcz13_5 : w12.cell? ⟨gb318, 5, none⟩ = some (.int .i64 0) := (blk_cell BK318.out 5).trans rfl; have hcz13_6 : w12.cell? ⟨gb318, 6, none⟩ = some (.int .i64 0) := (blk_cell BK318.out 6).trans rfl; have hcz13_7 : w12.cell? ⟨gb318, 7, none⟩ = some (.slice none 0 0) := (blk_cell BK318.out 7).trans rfl; have hfz13_0 := blk_frozen BK318.out 0; have hfz13_1 := blk_frozen BK318.out 1; have hfz13_2 := blk_frozen BK318.out 2; have hfz13_3 := blk_frozen BK318.out 3; have hfz13_4 := blk_frozen BK318.out 4; have hfz13_5 := blk_frozen BK318.out 5; have hfz13_6 := blk_frozen BK318.out 6; have hfz13_7 := blk_frozen BK318.out 7) | ((with_reducible refine gate_callee (f := 34) rfl ?_); refine goesL_ (some 16) rfl rfl Tryd.func34 (by kernel_rfl) rfl #[.agg #[.int .i64 ((rd_T45 l0 x10_1).f2.f0), .int .i64 ((rd_T45 l0 x10_1).f2.f1), .slice A317_7 ((rd_T45 l0 x10_1).f2.f2).length c317_7]] rfl (by (try simp only [List.map_toArray, List.map_cons, List.map_nil]); first | done | rfl | (simp only [List.length_drop, List.length_take]; rfl)) ?_; (with_reducible refine (chapbookref07_Great.calls k1 ((rd_T45 l0 x10_1).f2.f0) ((rd_T45 l0 x10_1).f2.f1) _ _ ((rd_T45 l0 x10_1).f2.f2) false _ ?side1 ?side2 A6.out).mono ?_); (case side1 => exact Kd.C_below HR317_7.out (by repeat (first | (with_reducible first | exact HB.out | apply below_alloc | apply pw_below_drewN | apply below_drew1 | refine below_set ?_ GE318.out) | exact HB.out))); (case side2 => exact HC317_7.out); rintro e w14 ⟨rfl, hb⟩; refine ⟨_, rfl, ?_⟩; have n0_ := Aside0.mk (blk_below (g := gb318) (o := .cells #[.int .i64 ((rd_T45 l0 x10_1).f0), .int .i64 ((rd_T45 l0 x10_1).f1.f0), .int .i64 ((rd_T45 l0 x10_1).f1.f1), .int .i64 ((rd_T45 l0 x10_1).f1.f2), .string ((rd_T45 l0 x10_1).f1.f3), .int .i64 ((rd_T45 l0 x10_1).f2.f0), .int .i64 ((rd_T45 l0 x10_1).f2.f1), .slice A317_7 ((rd_T45 l0 x10_1).f2.f2).length c317_7] 45 (0, 0)) (by (with_reducible repeat (first | refine blk_drewN ?_ _ | refine blk_drew ?_ | refine blk_alloc ?_ _)); refine blk_put (cs := #[.int .i64 ((rd_T45 l0 x10_1).f0), .int .i64 ((rd_T45 l0 x10_1).f1.f0), .int .i64 ((rd_T45 l0 x10_1).f1.f1), .int .i64 ((rd_T45 l0 x10_1).f1.f2), .string ((rd_T45 l0 x10_1).f1.f3), .int .i64 ((rd_T45 l0 x10_1).f2.f0), .int .i64 ((rd_T45 l0 x10_1).f2.f1), .slice none 0 0]) ?_ 7 _ rfl; (with_reducible repeat (first | refine blk_drewN ?_ _ | refine blk_drew ?_ | refine blk_alloc ?_ _)); refine blk_put (cs := #[.int .i64 ((rd_T45 l0 x10_1).f0), .int .i64 ((rd_T45 l0 x10_1).f1.f0), .int .i64 ((rd_T45 l0 x10_1).f1.f1), .int .i64 ((rd_T45 l0 x10_1).f1.f2), .string ((rd_T45 l0 x10_1).f1.f3), .int .i64 ((rd_T45 l0 x10_1).f2.f0), .int .i64 0, .slice none 0 0]) ?_ 6 _ rfl; (with_reducible repeat (first | refine blk_drewN ?_ _ | refine blk_drew ?_ | refine blk_alloc ?_ _)); refine blk_put (cs := #[.int .i64 ((rd_T45 l0 x10_1).f0), .int .i64 ((rd_T45 l0 x10_1).f1.f0), .int .i64 ((rd_T45 l0 x10_1).f1.f1), .int .i64 ((rd_T45 l0 x10_1).f1.f2), .string ((rd_T45 l0 x10_1).f1.f3), .int .i64 0, .int .i64 0, .slice none 0 0]) ?_ 5 _ rfl; (with_reducible repeat (first | refine blk_drewN ?_ _ | refine blk_drew ?_ | refine blk_alloc ?_ _)); refine blk_put (cs := #[.int .i64 ((rd_T45 l0 x10_1).f0), .int .i64 ((rd_T45 l0 x10_1).f1.f0), .int .i64 ((rd_T45 l0 x10_1).f1.f1), .int .i64 ((rd_T45 l0 x10_1).f1.f2), .string (⟨#[]⟩ : ByteArray), .int .i64 0, .int .i64 0, .slice none 0 0]) ?_ 4 _ rfl; (with_reducible repeat (first | refine blk_drewN ?_ _ | refine blk_drew ?_ | refine blk_alloc ?_ _)); refine blk_put (cs := #[.int .i64 ((rd_T45 l0 x10_1).f0), .int .i64 ((rd_T45 l0 x10_1).f1.f0), .int .i64 ((rd_T45 l0 x10_1).f1.f1), .int .i64 0, .string (⟨#[]⟩ : ByteArray), .int .i64 0, .int .i64 0, .slice none 0 0]) ?_ 3 _ rfl; (with_reducible repeat (first | refine blk_drewN ?_ _ | refine blk_drew ?_ | refine blk_alloc ?_ _)); refine blk_put (cs := #[.int .i64 ((rd_T45 l0 x10_1).f0), .int .i64 ((rd_T45 l0 x10_1).f1.f0), .int .i64 0, .int .i64 0, .string (⟨#[]⟩ : ByteArray), .int .i64 0, .int .i64 0, .slice none 0 0]) ?_ 2 _ rfl; (with_reducible repeat (first | refine blk_drewN ?_ _ | refine blk_drew ?_ | refine blk_alloc ?_ _)); refine blk_put (cs := #[.int .i64 ((rd_T45 l0 x10_1).f0), .int .i64 0, .int .i64 0, .int .i64 0, .string (⟨#[]⟩ : ByteArray), .int .i64 0, .int .i64 0, .slice none 0 0]) ?_ 1 _ rfl; (with_reducible repeat (first | refine blk_drewN ?_ _ | refine blk_drew ?_ | refine blk_alloc ?_ _)); refine blk_put (cs := #[.int .i64 0, .int .i64 0, .int .i64 0, .int .i64 0, .string (⟨#[]⟩ : ByteArray), .int .i64 0, .int .i64 0, .slice none 0 0]) ?_ 0 _ rfl; (with_reducible repeat (first | refine blk_drewN ?_ _ | refine blk_drew ?_ | refine blk_alloc ?_ _)); exact BK318.out) hb); have n1_ := Aside0.mk (below_step (by repeat (first | (with_reducible first | exact HB.out | apply below_alloc | apply pw_below_drewN | apply below_drew1 | refine below_set ?_ GE318.out) | exact HB.out)) hb); clear BK318; clear HB; have BK318 := n0_; have HB := n1_; clear n0_ n1_; (try clear hb); (try clear hb2); (try clear hk); (try clear hi); have hcz15_0 : w14.cell? ⟨gb318, 0, none⟩ = some (.int .i64 ((rd_T45 l0 x10_1).f0)) := (blk_cell BK318.out 0).trans rfl; have hcz15_1 : w14.cell? ⟨gb318, 1, none⟩ = some (.int .i64 ((rd_T45 l0 x10_1).f1.f0)) := (blk_cell BK318.out 1).trans rfl; have hcz15_2 : w14.cell? ⟨gb318, 2, none⟩ = some (.int .i64 ((rd_T45 l0 x10_1).f1.f1)) := (blk_cell BK318.out 2).trans rfl; have hcz15_3 : w14.cell? ⟨gb318, 3, none⟩ = some (.int .i64 ((rd_T45 l0 x10_1).f1.f2)) := (blk_cell BK318.out 3).trans rfl; have hcz15_4 : w14.cell? ⟨gb318, 4, none⟩ = some (.string ((rd_T45 l0 x10_1).f1.f3)) := (blk_cell BK318.out 4).trans rfl; have hcz15_5 : w14.cell? ⟨gb318, 5, none⟩ = some (.int .i64 ((rd_T45 l0 x10_1).f2.f0)) := (blk_cell BK318.out 5).trans rfl; have hcz15_6 : w14.cell? ⟨gb318, 6, none⟩ = some (.int .i64 ((rd_T45 l0 x10_1).f2.f1)) := (blk_cell BK318.out 6).trans rfl; have hcz15_7 : w14.cell? ⟨gb318, 7, none⟩ = some (.slice A317_7 ((rd_T45 l0 x10_1).f2.f2).length c317_7) := (blk_cell BK318.out 7).trans rfl; have hfz15_0 := blk_frozen BK318.out 0; have hfz15_1 := blk_frozen BK318.out 1; have hfz15_2 := blk_frozen BK318.out 2; have hfz15_3 := blk_frozen BK318.out 3; have hfz15_4 := blk_frozen BK318.out 4; have hfz15_5 := blk_frozen BK318.out 5; have hfz15_6 := blk_frozen BK318.out 6; have hfz15_7 := blk_frozen BK318.out 7))
         go_ret
         exact ⟨by first | rfl | (simp [errW_none, errW_some] <;> rfl) | (simp [*, errW_none, errW_some] <;> rfl), by repeat (first | (with_reducible first | exact HB.out | apply below_alloc | apply pw_below_drewN | apply below_drew1 | refine below_set ?_ GE318.out) | exact HB.out)⟩
        ·rw [if_neg c11] at H
         have c11b0 : decide (100 < (((rd_T45 l0 x10_1).f1.f3).size : Int)) = false := decide_eq_false c11
         have c11b1 : decide (100 < ((rd_T45 l0 x10_1).f1.f3).size) = false := decide_eq_false (by omega)
         clear c11
         by_cases c16 : ((rd_T45 l0 x10_1).f0) = 2
         ·rw [if_pos c16] at H
          have c16b0 : (((rd_T45 l0 x10_1).f0) == 2) = true := beq_iff_eq.mpr c16
          have c16b1 : (((rd_T45 l0 x10_1).f0) != 2) = false := bne_eq_false_iff_eq.mpr c16
          clear c16
          replace H := Option.bind_eq_some_iff.mp H
          obtain ⟨t320, A170, H⟩ := H
          replace H : (if t320 = 0 then (chapbooklaw15_great.l0 k1 l0 (l0.length : Int) (wrap64 (x10_1 + 1))) else (some true)) = some r := H
          have A17 := Aside0.mk A170
          clear A170
          by_cases c18 : t320 = 0
          ·rw [if_pos c18] at H
           have c18b0 : (t320 == 0) = true := beq_iff_eq.mpr c18
           have c18b1 : (t320 != 0) = false := bne_eq_false_iff_eq.mpr c18
           clear c18
           have H' := Aside0.mk H
           clear H
           have p317 : 0 ≤ (x10_1 : Int) := of_decide_eq_true (by first | (with_reducible assumption) | assumption)
           have q317 : x10_1 < (l0.length : Int) := of_decide_eq_true (by first | (with_reducible assumption) | assumption)
           obtain ⟨ad317, A317_7, c317_7, e317, hx317_0, hx317_1, hx317_2, hx317_3, hx317_4, hx317_5, hx317_6, hx317_7, hl317_7, hi317_7⟩ := at_T45 HR0.out x10_1 p317 q317
           cases e317
           replace hx317_0 := (HB.out.cell (World.block_lt_of_cell? w _ hx317_0)).trans hx317_0
           replace hx317_1 := (HB.out.cell (World.block_lt_of_cell? w _ hx317_1)).trans hx317_1
           replace hx317_2 := (HB.out.cell (World.block_lt_of_cell? w _ hx317_2)).trans hx317_2
           replace hx317_3 := (HB.out.cell (World.block_lt_of_cell? w _ hx317_3)).trans hx317_3
           replace hx317_4 := (HB.out.cell (World.block_lt_of_cell? w _ hx317_4)).trans hx317_4
           replace hx317_5 := (HB.out.cell (World.block_lt_of_cell? w _ hx317_5)).trans hx317_5
           replace hx317_6 := (HB.out.cell (World.block_lt_of_cell? w _ hx317_6)).trans hx317_6
           replace hx317_7 := (HB.out.cell (World.block_lt_of_cell? w _ hx317_7)).trans hx317_7
           have HR317_7 := Aside0.mk hi317_7
           have HC317_7 := Aside0.mk hl317_7
           clear hi317_7 hl317_7
           replace p317 := eq_true p317
           replace q317 := eq_true q317
           go_wp2_with (first | ((with_reducible refine gate_dst (N := 4) rfl ?_); (try (refine gate_guard (by rfl) ?_; dsimp only)); refine box_event ?hg (N := 4) ?hd (cs := #[.int .i64 0, .int .i64 0, .int .i64 0, .int .i64 0, .string (⟨#[]⟩ : ByteArray), .int .i64 0, .int .i64 0, .slice none 0 0]) (t := 45) ?hr ?_; (case hd => rfl); (case hg => rfl); (case hr => first | (go_simp; done) | (go_simp; rfl)); intro gb318 hg w19 hbox hb; have n0_ := Aside0.mk (below_step (by repeat (first | (with_reducible first | exact HB.out | apply below_alloc | apply pw_below_drewN | apply below_drew1) | exact HB.out)) hb); have n1_ := Aside0.mk (hbox); have n2_ := Aside0.mk ((by rw [hg]; exact (below_size (by repeat (first | (with_reducible first | exact HB.out | apply below_alloc | apply pw_below_drewN | apply below_drew1) | exact HB.out))) : w.heap.size ≤ gb318)); have n3_ := Aside0.mk ((by rw [hg]; exact (below_size (by repeat (first | (with_reducible first | exact HB.out | apply below_alloc | apply pw_below_drewN | apply below_drew1) | exact HB.out))) : w.heap.size ≤ gb318)); clear HB; have HB := n0_; have BK318 := n1_; have GW318 := n2_; have GE318 := n3_; clear n0_ n1_ n2_ n3_; clear hb hbox hg; have hcz20_0 : w19.cell? ⟨gb318, 0, none⟩ = some (.int .i64 0) := (blk_cell BK318.out 0).trans rfl; have hcz20_1 : w19.cell? ⟨gb318, 1, none⟩ = some (.int .i64 0) := (blk_cell BK318.out 1).trans rfl; have hcz20_2 : w19.cell? ⟨gb318, 2, none⟩ = some (.int .i64 0) := (blk_cell BK318.out 2).trans rfl; have hcz20_3 : w19.cell? ⟨gb318, 3, none⟩ = some (.int .i64 0) := (blk_cell BK318.out 3).trans rfl; have hcz20_4 : w19.cell? ⟨gb318, 4, none⟩ = some (.string (⟨#[]⟩ : ByteArray)) := (blk_cell BK318.out 4).trans rfl; have hcz20_5 : w19.cell? ⟨gb318, 5, none⟩ = some (.int .i64 0) := (blk_cell BK318.out 5).trans rfl; have hcz20_6 : w19.cell? ⟨gb318, 6, none⟩ = some (.int .i64 0) := (blk_cell BK318.out 6).trans rfl; have hcz20_7 : w19.cell? ⟨gb318, 7, none⟩ = some (.slice none 0 0) := (blk_cell BK318.out 7).trans rfl; have hfz20_0 := blk_frozen BK318.out 0; have hfz20_1 := blk_frozen BK318.out 1; have hfz20_2 := blk_frozen BK318.out 2; have hfz20_3 := blk_frozen BK318.out 3; have hfz20_4 := blk_frozen BK318.out 4; have hfz20_5 := blk_frozen BK318.out 5; have hfz20_6 := blk_frozen BK318.out 6; have hfz20_7 := blk_frozen BK318.out 7) | ((with_reducible refine gate_callee (f := 34) rfl ?_); refine goesL_ (some 16) rfl rfl Tryd.func34 (by kernel_rfl) rfl #[.agg #[.int .i64 ((rd_T45 l0 x10_1).f2.f0), .int .i64 ((rd_T45 l0 x10_1).f2.f1), .slice A317_7 ((rd_T45 l0 x10_1).f2.f2).length c317_7]] rfl (by (try simp only [List.map_toArray, List.map_cons, List.map_nil]); first | done | rfl | (simp only [List.length_drop, List.length_take]; rfl)) ?_; (with_reducible refine (chapbookref07_Great.calls k1 ((rd_T45 l0 x10_1).f2.f0) ((rd_T45 l0 x10_1).f2.f1) _ _ ((rd_T45 l0 x10_1).f2.f2) false _ ?side1 ?side2 A6.out).mono ?_); (case side1 => exact Kd.C_below HR317_7.out (by repeat (first | (with_reducible first | exact HB.out | apply below_alloc | apply pw_below_drewN | apply below_drew1 | refine below_set ?_ GE318.out) | exact HB.out))); (case side2 => exact HC317_7.out); rintro e w21 ⟨rfl, hb⟩; refine ⟨_, rfl, ?_⟩; have n0_ := Aside0.mk (blk_below (g := gb318) (o := .cells #[.int .i64 ((rd_T45 l0 x10_1).f0), .int .i64 ((rd_T45 l0 x10_1).f1.f0), .int .i64 ((rd_T45 l0 x10_1).f1.f1), .int .i64 ((rd_T45 l0 x10_1).f1.f2), .string ((rd_T45 l0 x10_1).f1.f3), .int .i64 ((rd_T45 l0 x10_1).f2.f0), .int .i64 ((rd_T45 l0 x10_1).f2.f1), .slice A317_7 ((rd_T45 l0 x10_1).f2.f2).length c317_7] 45 (0, 0)) (by (with_reducible repeat (first | refine blk_drewN ?_ _ | refine blk_drew ?_ | refine blk_alloc ?_ _)); refine blk_put (cs := #[.int .i64 ((rd_T45 l0 x10_1).f0), .int .i64 ((rd_T45 l0 x10_1).f1.f0), .int .i64 ((rd_T45 l0 x10_1).f1.f1), .int .i64 ((rd_T45 l0 x10_1).f1.f2), .string ((rd_T45 l0 x10_1).f1.f3), .int .i64 ((rd_T45 l0 x10_1).f2.f0), .int .i64 ((rd_T45 l0 x10_1).f2.f1), .slice none 0 0]) ?_ 7 _ rfl; (with_reducible repeat (first | refine blk_drewN ?_ _ | refine blk_drew ?_ | refine blk_alloc ?_ _)); refine blk_put (cs := #[.int .i64 ((rd_T45 l0 x10_1).f0), .int .i64 ((rd_T45 l0 x10_1).f1.f0), .int .i64 ((rd_T45 l0 x10_1).f1.f1), .int .i64 ((rd_T45 l0 x10_1).f1.f2), .string ((rd_T45 l0 x10_1).f1.f3), .int .i64 ((rd_T45 l0 x10_1).f2.f0), .int .i64 0, .slice none 0 0]) ?_ 6 _ rfl; (with_reducible repeat (first | refine blk_drewN ?_ _ | refine blk_drew ?_ | refine blk_alloc ?_ _)); refine blk_put (cs := #[.int .i64 ((rd_T45 l0 x10_1).f0), .int .i64 ((rd_T45 l0 x10_1).f1.f0), .int .i64 ((rd_T45 l0 x10_1).f1.f1), .int .i64 ((rd_T45 l0 x10_1).f1.f2), .string ((rd_T45 l0 x10_1).f1.f3), .int .i64 0, .int .i64 0, .slice none 0 0]) ?_ 5 _ rfl; (with_reducible repeat (first | refine blk_drewN ?_ _ | refine blk_drew ?_ | refine blk_alloc ?_ _)); refine blk_put (cs := #[.int .i64 ((rd_T45 l0 x10_1).f0), .int .i64 ((rd_T45 l0 x10_1).f1.f0), .int .i64 ((rd_T45 l0 x10_1).f1.f1), .int .i64 ((rd_T45 l0 x10_1).f1.f2), .string (⟨#[]⟩ : ByteArray), .int .i64 0, .int .i64 0, .slice none 0 0]) ?_ 4 _ rfl; (with_reducible repeat (first | refine blk_drewN ?_ _ | refine blk_drew ?_ | refine blk_alloc ?_ _)); refine blk_put (cs := #[.int .i64 ((rd_T45 l0 x10_1).f0), .int .i64 ((rd_T45 l0 x10_1).f1.f0), .int .i64 ((rd_T45 l0 x10_1).f1.f1), .int .i64 0, .string (⟨#[]⟩ : ByteArray), .int .i64 0, .int .i64 0, .slice none 0 0]) ?_ 3 _ rfl; (with_reducible repeat (first | refine blk_drewN ?_ _ | refine blk_drew ?_ | refine blk_alloc ?_ _)); refine blk_put (cs := #[.int .i64 ((rd_T45 l0 x10_1).f0), .int .i64 ((rd_T45 l0 x10_1).f1.f0), .int .i64 0, .int .i64 0, .string (⟨#[]⟩ : ByteArray), .int .i64 0, .int .i64 0, .slice none 0 0]) ?_ 2 _ rfl; (with_reducible repeat (first | refine blk_drewN ?_ _ | refine blk_drew ?_ | refine blk_alloc ?_ _)); refine blk_put (cs := #[.int .i64 ((rd_T45 l0 x10_1).f0), .int .i64 0, .int .i64 0, .int .i64 0, .string (⟨#[]⟩ : ByteArray), .int .i64 0, .int .i64 0, .slice none 0 0]) ?_ 1 _ rfl; (with_reducible repeat (first | refine blk_drewN ?_ _ | refine blk_drew ?_ | refine blk_alloc ?_ _)); refine blk_put (cs := #[.int .i64 0, .int .i64 0, .int .i64 0, .int .i64 0, .string (⟨#[]⟩ : ByteArray), .int .i64 0, .int .i64 0, .slice none 0 0]) ?_ 0 _ rfl; (with_reducible repeat (first | refine blk_drewN ?_ _ | refine blk_drew ?_ | refine blk_alloc ?_ _)); exact BK318.out) hb); have n1_ := Aside0.mk (below_step (by repeat (first | (with_reducible first | exact HB.out | apply below_alloc | apply pw_below_drewN | apply below_drew1 | refine below_set ?_ GE318.out) | exact HB.out)) hb); clear BK318; clear HB; have BK318 := n0_; have HB := n1_; clear n0_ n1_; (try clear hb); (try clear hb2); (try clear hk); (try clear hi); have hcz22_0 : w21.cell? ⟨gb318, 0, none⟩ = some (.int .i64 ((rd_T45 l0 x10_1).f0)) := (blk_cell BK318.out 0).trans rfl; have hcz22_1 : w21.cell? ⟨gb318, 1, none⟩ = some (.int .i64 ((rd_T45 l0 x10_1).f1.f0)) := (blk_cell BK318.out 1).trans rfl; have hcz22_2 : w21.cell? ⟨gb318, 2, none⟩ = some (.int .i64 ((rd_T45 l0 x10_1).f1.f1)) := (blk_cell BK318.out 2).trans rfl; have hcz22_3 : w21.cell? ⟨gb318, 3, none⟩ = some (.int .i64 ((rd_T45 l0 x10_1).f1.f2)) := (blk_cell BK318.out 3).trans rfl; have hcz22_4 : w21.cell? ⟨gb318, 4, none⟩ = some (.string ((rd_T45 l0 x10_1).f1.f3)) := (blk_cell BK318.out 4).trans rfl; have hcz22_5 : w21.cell? ⟨gb318, 5, none⟩ = some (.int .i64 ((rd_T45 l0 x10_1).f2.f0)) := (blk_cell BK318.out 5).trans rfl; have hcz22_6 : w21.cell? ⟨gb318, 6, none⟩ = some (.int .i64 ((rd_T45 l0 x10_1).f2.f1)) := (blk_cell BK318.out 6).trans rfl; have hcz22_7 : w21.cell? ⟨gb318, 7, none⟩ = some (.slice A317_7 ((rd_T45 l0 x10_1).f2.f2).length c317_7) := (blk_cell BK318.out 7).trans rfl; have hfz22_0 := blk_frozen BK318.out 0; have hfz22_1 := blk_frozen BK318.out 1; have hfz22_2 := blk_frozen BK318.out 2; have hfz22_3 := blk_frozen BK318.out 3; have hfz22_4 := blk_frozen BK318.out 4; have hfz22_5 := blk_frozen BK318.out 5; have hfz22_6 := blk_frozen BK318.out 6; have hfz22_7 := blk_frozen BK318.out 7) | (go_at_call 35; (with_reducible refine (chapbookref09_May.calls k1 ((rd_T45 l0 x10_1).f1.f0) ((rd_T45 l0 x10_1).f1.f1) ((rd_T45 l0 x10_1).f1.f2) ((rd_T45 l0 x10_1).f1.f3) t320 _ A17.out).mono ?_); rintro e w23 ⟨rfl, hb⟩; have n0_ := Aside0.mk (blk_below (g := gb318) (o := .cells #[.int .i64 ((rd_T45 l0 x10_1).f0), .int .i64 ((rd_T45 l0 x10_1).f1.f0), .int .i64 ((rd_T45 l0 x10_1).f1.f1), .int .i64 ((rd_T45 l0 x10_1).f1.f2), .string ((rd_T45 l0 x10_1).f1.f3), .int .i64 ((rd_T45 l0 x10_1).f2.f0), .int .i64 ((rd_T45 l0 x10_1).f2.f1), .slice A317_7 ((rd_T45 l0 x10_1).f2.f2).length c317_7] 45 (0, 0)) (by (with_reducible repeat (first | refine blk_drewN ?_ _ | refine blk_drew ?_ | refine blk_alloc ?_ _)); exact BK318.out) hb); have n1_ := Aside0.mk (below_step (by repeat (first | (with_reducible first | exact HB.out | apply below_alloc | apply pw_below_drewN | apply below_drew1 | refine below_set ?_ GE318.out) | exact HB.out)) hb); clear BK318; clear HB; have BK318 := n0_; have HB := n1_; clear n0_ n1_; (try clear hb); (try clear hb2); (try clear hk); (try clear hi)))
           go_roundg k1
           case measure => have := HK1.out; omega
           case rel => exact ⟨(wrap64 (x10_1 + 1)), (by first | rfl | (simp; done) | (simp [*]; done) | (simp; exact isEmpty_bne _)), H', ⟨by have := HK1.out; omega⟩, ⟨by repeat (first | (with_reducible first | exact HB.out | apply below_alloc | apply pw_below_drewN | apply below_drew1 | refine below_set ?_ GE318.out) | exact HB.out)⟩⟩
          ·rw [if_neg c18] at H
           have c18b0 : (t320 == 0) = false := beq_eq_false_iff_ne.mpr c18
           have c18b1 : (t320 != 0) = true := bne_iff_ne.mpr c18
           obtain rfl := Option.some.inj H
           have p317 : 0 ≤ (x10_1 : Int) := of_decide_eq_true (by first | (with_reducible assumption) | assumption)
           have q317 : x10_1 < (l0.length : Int) := of_decide_eq_true (by first | (with_reducible assumption) | assumption)
           obtain ⟨ad317, A317_7, c317_7, e317, hx317_0, hx317_1, hx317_2, hx317_3, hx317_4, hx317_5, hx317_6, hx317_7, hl317_7, hi317_7⟩ := at_T45 HR0.out x10_1 p317 q317
           cases e317
           replace hx317_0 := (HB.out.cell (World.block_lt_of_cell? w _ hx317_0)).trans hx317_0
           replace hx317_1 := (HB.out.cell (World.block_lt_of_cell? w _ hx317_1)).trans hx317_1
           replace hx317_2 := (HB.out.cell (World.block_lt_of_cell? w _ hx317_2)).trans hx317_2
           replace hx317_3 := (HB.out.cell (World.block_lt_of_cell? w _ hx317_3)).trans hx317_3
           replace hx317_4 := (HB.out.cell (World.block_lt_of_cell? w _ hx317_4)).trans hx317_4
           replace hx317_5 := (HB.out.cell (World.block_lt_of_cell? w _ hx317_5)).trans hx317_5
           replace hx317_6 := (HB.out.cell (World.block_lt_of_cell? w _ hx317_6)).trans hx317_6
           replace hx317_7 := (HB.out.cell (World.block_lt_of_cell? w _ hx317_7)).trans hx317_7
           have HR317_7 := Aside0.mk hi317_7
           have HC317_7 := Aside0.mk hl317_7
           clear hi317_7 hl317_7
           replace p317 := eq_true p317
           replace q317 := eq_true q317
           go_wp2_with (first | ((with_reducible refine gate_dst (N := 4) rfl ?_); (try (refine gate_guard (by rfl) ?_; dsimp only)); refine box_event ?hg (N := 4) ?hd (cs := #[.int .i64 0, .int .i64 0, .int .i64 0, .int .i64 0, .string (⟨#[]⟩ : ByteArray), .int .i64 0, .int .i64 0, .slice none 0 0]) (t := 45) ?hr ?_; (case hd => rfl); (case hg => rfl); (case hr => first | (go_simp; done) | (go_simp; rfl)); intro gb318 hg w24 hbox hb; have n0_ := Aside0.mk (below_step (by repeat (first | (with_reducible first | exact HB.out | apply below_alloc | apply pw_below_drewN | apply below_drew1) | exact HB.out)) hb); have n1_ := Aside0.mk (hbox); have n2_ := Aside0.mk ((by rw [hg]; exact (below_size (by repeat (first | (with_reducible first | exact HB.out | apply below_alloc | apply pw_below_drewN | apply below_drew1) | exact HB.out))) : w.heap.size ≤ gb318)); have n3_ := Aside0.mk ((by rw [hg]; exact (below_size (by repeat (first | (with_reducible first | exact HB.out | apply below_alloc | apply pw_below_drewN | apply below_drew1) | exact HB.out))) : w.heap.size ≤ gb318)); clear HB; have HB := n0_; have BK318 := n1_; have GW318 := n2_; have GE318 := n3_; clear n0_ n1_ n2_ n3_; clear hb hbox hg; have hcz25_0 : w24.cell? ⟨gb318, 0, none⟩ = some (.int .i64 0) := (blk_cell BK318.out 0).trans rfl; have hcz25_1 : w24.cell? ⟨gb318, 1, none⟩ = some (.int .i64 0) := (blk_cell BK318.out 1).trans rfl; have hcz25_2 : w24.cell? ⟨gb318, 2, none⟩ = some (.int .i64 0) := (blk_cell BK318.out 2).trans rfl; have hcz25_3 : w24.cell? ⟨gb318, 3, none⟩ = some (.int .i64 0) := (blk_cell BK318.out 3).trans rfl; have hcz25_4 : w24.cell? ⟨gb318, 4, none⟩ = some (.string (⟨#[]⟩ : ByteArray)) := (blk_cell BK318.out 4).trans rfl; have hcz25_5 : w24.cell? ⟨gb318, 5, none⟩ = some (.int .i64 0) := (blk_cell BK318.out 5).trans rfl; have hcz25_6 : w24.cell? ⟨gb318, 6, none⟩ = some (.int .i64 0) := (blk_cell BK318.out 6).trans rfl; have hcz25_7 : w24.cell? ⟨gb318, 7, none⟩ = some (.slice none 0 0) := (blk_cell BK318.out 7).trans rfl; have hfz25_0 := blk_frozen BK318.out 0; have hfz25_1 := blk_frozen BK318.out 1; have hfz25_2 := blk_frozen BK318.out 2; have hfz25_3 := blk_frozen BK318.out 3; have hfz25_4 := blk_frozen BK318.out 4; have hfz25_5 := blk_frozen BK318.out 5; have hfz25_6 := blk_frozen BK318.out 6; have hfz25_7 := blk_frozen BK318.out 7) | ((with_reducible refine gate_callee (f := 34) rfl ?_); refine goesL_ (some 16) rfl rfl Tryd.func34 (by kernel_rfl) rfl #[.agg #[.int .i64 ((rd_T45 l0 x10_1).f2.f0), .int .i64 ((rd_T45 l0 x10_1).f2.f1), .slice A317_7 ((rd_T45 l0 x10_1).f2.f2).length c317_7]] rfl (by (try simp only [List.map_toArray, List.map_cons, List.map_nil]); first | done | rfl | (simp only [List.length_drop, List.length_take]; rfl)) ?_; (with_reducible refine (chapbookref07_Great.calls k1 ((rd_T45 l0 x10_1).f2.f0) ((rd_T45 l0 x10_1).f2.f1) _ _ ((rd_T45 l0 x10_1).f2.f2) false _ ?side1 ?side2 A6.out).mono ?_); (case side1 => exact Kd.C_below HR317_7.out (by repeat (first | (with_reducible first | exact HB.out | apply below_alloc | apply pw_below_drewN | apply below_drew1 | refine below_set ?_ GE318.out) | exact HB.out))); (case side2 => exact HC317_7.out); rintro e w26 ⟨rfl, hb⟩; refine ⟨_, rfl, ?_⟩; have n0_ := Aside0.mk (blk_below (g := gb318) (o := .cells #[.int .i64 ((rd_T45 l0 x10_1).f0), .int .i64 ((rd_T45 l0 x10_1).f1.f0), .int .i64 ((rd_T45 l0 x10_1).f1.f1), .int .i64 ((rd_T45 l0 x10_1).f1.f2), .string ((rd_T45 l0 x10_1).f1.f3), .int .i64 ((rd_T45 l0 x10_1).f2.f0), .int .i64 ((rd_T45 l0 x10_1).f2.f1), .slice A317_7 ((rd_T45 l0 x10_1).f2.f2).length c317_7] 45 (0, 0)) (by (with_reducible repeat (first | refine blk_drewN ?_ _ | refine blk_drew ?_ | refine blk_alloc ?_ _)); refine blk_put (cs := #[.int .i64 ((rd_T45 l0 x10_1).f0), .int .i64 ((rd_T45 l0 x10_1).f1.f0), .int .i64 ((rd_T45 l0 x10_1).f1.f1), .int .i64 ((rd_T45 l0 x10_1).f1.f2), .string ((rd_T45 l0 x10_1).f1.f3), .int .i64 ((rd_T45 l0 x10_1).f2.f0), .int .i64 ((rd_T45 l0 x10_1).f2.f1), .slice none 0 0]) ?_ 7 _ rfl; (with_reducible repeat (first | refine blk_drewN ?_ _ | refine blk_drew ?_ | refine blk_alloc ?_ _)); refine blk_put (cs := #[.int .i64 ((rd_T45 l0 x10_1).f0), .int .i64 ((rd_T45 l0 x10_1).f1.f0), .int .i64 ((rd_T45 l0 x10_1).f1.f1), .int .i64 ((rd_T45 l0 x10_1).f1.f2), .string ((rd_T45 l0 x10_1).f1.f3), .int .i64 ((rd_T45 l0 x10_1).f2.f0), .int .i64 0, .slice none 0 0]) ?_ 6 _ rfl; (with_reducible repeat (first | refine blk_drewN ?_ _ | refine blk_drew ?_ | refine blk_alloc ?_ _)); refine blk_put (cs := #[.int .i64 ((rd_T45 l0 x10_1).f0), .int .i64 ((rd_T45 l0 x10_1).f1.f0), .int .i64 ((rd_T45 l0 x10_1).f1.f1), .int .i64 ((rd_T45 l0 x10_1).f1.f2), .string ((rd_T45 l0 x10_1).f1.f3), .int .i64 0, .int .i64 0, .slice none 0 0]) ?_ 5 _ rfl; (with_reducible repeat (first | refine blk_drewN ?_ _ | refine blk_drew ?_ | refine blk_alloc ?_ _)); refine blk_put (cs := #[.int .i64 ((rd_T45 l0 x10_1).f0), .int .i64 ((rd_T45 l0 x10_1).f1.f0), .int .i64 ((rd_T45 l0 x10_1).f1.f1), .int .i64 ((rd_T45 l0 x10_1).f1.f2), .string (⟨#[]⟩ : ByteArray), .int .i64 0, .int .i64 0, .slice none 0 0]) ?_ 4 _ rfl; (with_reducible repeat (first | refine blk_drewN ?_ _ | refine blk_drew ?_ | refine blk_alloc ?_ _)); refine blk_put (cs := #[.int .i64 ((rd_T45 l0 x10_1).f0), .int .i64 ((rd_T45 l0 x10_1).f1.f0), .int .i64 ((rd_T45 l0 x10_1).f1.f1), .int .i64 0, .string (⟨#[]⟩ : ByteArray), .int .i64 0, .int .i64 0, .slice none 0 0]) ?_ 3 _ rfl; (with_reducible repeat (first | refine blk_drewN ?_ _ | refine blk_drew ?_ | refine blk_alloc ?_ _)); refine blk_put (cs := #[.int .i64 ((rd_T45 l0 x10_1).f0), .int .i64 ((rd_T45 l0 x10_1).f1.f0), .int .i64 0, .int .i64 0, .string (⟨#[]⟩ : ByteArray), .int .i64 0, .int .i64 0, .slice none 0 0]) ?_ 2 _ rfl; (with_reducible repeat (first | refine blk_drewN ?_ _ | refine blk_drew ?_ | refine blk_alloc ?_ _)); refine blk_put (cs := #[.int .i64 ((rd_T45 l0 x10_1).f0), .int .i64 0, .int .i64 0, .int .i64 0, .string (⟨#[]⟩ : ByteArray), .int .i64 0, .int .i64 0, .slice none 0 0]) ?_ 1 _ rfl; (with_reducible repeat (first | refine blk_drewN ?_ _ | refine blk_drew ?_ | refine blk_alloc ?_ _)); refine blk_put (cs := #[.int .i64 0, .int .i64 0, .int .i64 0, .int .i64 0, .string (⟨#[]⟩ : ByteArray), .int .i64 0, .int .i64 0, .slice none 0 0]) ?_ 0 _ rfl; (with_reducible repeat (first | refine blk_drewN ?_ _ | refine blk_drew ?_ | refine blk_alloc ?_ _)); exact BK318.out) hb); have n1_ := Aside0.mk (below_step (by repeat (first | (with_reducible first | exact HB.out | apply below_alloc | apply pw_below_drewN | apply below_drew1 | refine below_set ?_ GE318.out) | exact HB.out)) hb); clear BK318; clear HB; have BK318 := n0_; have HB := n1_; clear n0_ n1_; (try clear hb); (try clear hb2); (try clear hk); (try clear hi); have hcz27_0 : w26.cell? ⟨gb318, 0, none⟩ = some (.int .i64 ((rd_T45 l0 x10_1).f0)) := (blk_cell BK318.out 0).trans rfl; have hcz27_1 : w26.cell? ⟨gb318, 1, none⟩ = some (.int .i64 ((rd_T45 l0 x10_1).f1.f0)) := (blk_cell BK318.out 1).trans rfl; have hcz27_2 : w26.cell? ⟨gb318, 2, none⟩ = some (.int .i64 ((rd_T45 l0 x10_1).f1.f1)) := (blk_cell BK318.out 2).trans rfl; have hcz27_3 : w26.cell? ⟨gb318, 3, none⟩ = some (.int .i64 ((rd_T45 l0 x10_1).f1.f2)) := (blk_cell BK318.out 3).trans rfl; have hcz27_4 : w26.cell? ⟨gb318, 4, none⟩ = some (.string ((rd_T45 l0 x10_1).f1.f3)) := (blk_cell BK318.out 4).trans rfl; have hcz27_5 : w26.cell? ⟨gb318, 5, none⟩ = some (.int .i64 ((rd_T45 l0 x10_1).f2.f0)) := (blk_cell BK318.out 5).trans rfl; have hcz27_6 : w26.cell? ⟨gb318, 6, none⟩ = some (.int .i64 ((rd_T45 l0 x10_1).f2.f1)) := (blk_cell BK318.out 6).trans rfl; have hcz27_7 : w26.cell? ⟨gb318, 7, none⟩ = some (.slice A317_7 ((rd_T45 l0 x10_1).f2.f2).length c317_7) := (blk_cell BK318.out 7).trans rfl; have hfz27_0 := blk_frozen BK318.out 0; have hfz27_1 := blk_frozen BK318.out 1; have hfz27_2 := blk_frozen BK318.out 2; have hfz27_3 := blk_frozen BK318.out 3; have hfz27_4 := blk_frozen BK318.out 4; have hfz27_5 := blk_frozen BK318.out 5; have hfz27_6 := blk_frozen BK318.out 6; have hfz27_7 := blk_frozen BK318.out 7) | (go_at_call 35; (with_reducible refine (chapbookref09_May.calls k1 ((rd_T45 l0 x10_1).f1.f0) ((rd_T45 l0 x10_1).f1.f1) ((rd_T45 l0 x10_1).f1.f2) ((rd_T45 l0 x10_1).f1.f3) t320 _ A17.out).mono ?_); rintro e w28 ⟨rfl, hb⟩; have n0_ := Aside0.mk (blk_below (g := gb318) (o := .cells #[.int .i64 ((rd_T45 l0 x10_1).f0), .int .i64 ((rd_T45 l0 x10_1).f1.f0), .int .i64 ((rd_T45 l0 x10_1).f1.f1), .int .i64 ((rd_T45 l0 x10_1).f1.f2), .string ((rd_T45 l0 x10_1).f1.f3), .int .i64 ((rd_T45 l0 x10_1).f2.f0), .int .i64 ((rd_T45 l0 x10_1).f2.f1), .slice A317_7 ((rd_T45 l0 x10_1).f2.f2).length c317_7] 45 (0, 0)) (by (with_reducible repeat (first | refine blk_drewN ?_ _ | refine blk_drew ?_ | refine blk_alloc ?_ _)); exact BK318.out) hb); have n1_ := Aside0.mk (below_step (by repeat (first | (with_reducible first | exact HB.out | apply below_alloc | apply pw_below_drewN | apply below_drew1 | refine below_set ?_ GE318.out) | exact HB.out)) hb); clear BK318; clear HB; have BK318 := n0_; have HB := n1_; clear n0_ n1_; (try clear hb); (try clear hb2); (try clear hk); (try clear hi)))
           go_ret
           exact ⟨by first | rfl | (simp [errW_none, errW_some] <;> rfl) | (simp [*, errW_none, errW_some] <;> rfl), by repeat (first | (with_reducible first | exact HB.out | apply below_alloc | apply pw_below_drewN | apply below_drew1 | refine below_set ?_ GE318.out) | exact HB.out)⟩
         ·rw [if_neg c16] at H
          have c16b0 : (((rd_T45 l0 x10_1).f0) == 2) = false := beq_eq_false_iff_ne.mpr c16
          have c16b1 : (((rd_T45 l0 x10_1).f0) != 2) = true := bne_iff_ne.mpr c16
          have H' := Aside0.mk H
          clear H
          have p317 : 0 ≤ (x10_1 : Int) := of_decide_eq_true (by first | (with_reducible assumption) | assumption)
          have q317 : x10_1 < (l0.length : Int) := of_decide_eq_true (by first | (with_reducible assumption) | assumption)
          obtain ⟨ad317, A317_7, c317_7, e317, hx317_0, hx317_1, hx317_2, hx317_3, hx317_4, hx317_5, hx317_6, hx317_7, hl317_7, hi317_7⟩ := at_T45 HR0.out x10_1 p317 q317
          cases e317
          replace hx317_0 := (HB.out.cell (World.block_lt_of_cell? w _ hx317_0)).trans hx317_0
          replace hx317_1 := (HB.out.cell (World.block_lt_of_cell? w _ hx317_1)).trans hx317_1
          replace hx317_2 := (HB.out.cell (World.block_lt_of_cell? w _ hx317_2)).trans hx317_2
          replace hx317_3 := (HB.out.cell (World.block_lt_of_cell? w _ hx317_3)).trans hx317_3
          replace hx317_4 := (HB.out.cell (World.block_lt_of_cell? w _ hx317_4)).trans hx317_4
          replace hx317_5 := (HB.out.cell (World.block_lt_of_cell? w _ hx317_5)).trans hx317_5
          replace hx317_6 := (HB.out.cell (World.block_lt_of_cell? w _ hx317_6)).trans hx317_6
          replace hx317_7 := (HB.out.cell (World.block_lt_of_cell? w _ hx317_7)).trans hx317_7
          have HR317_7 := Aside0.mk hi317_7
          have HC317_7 := Aside0.mk hl317_7
          clear hi317_7 hl317_7
          replace p317 := eq_true p317
          replace q317 := eq_true q317
          go_wp2_with (first | ((with_reducible refine gate_dst (N := 4) rfl ?_); (try (refine gate_guard (by rfl) ?_; dsimp only)); refine box_event ?hg (N := 4) ?hd (cs := #[.int .i64 0, .int .i64 0, .int .i64 0, .int .i64 0, .string (⟨#[]⟩ : ByteArray), .int .i64 0, .int .i64 0, .slice none 0 0]) (t := 45) ?hr ?_; (case hd => rfl); (case hg => rfl); (case hr => first | (go_simp; done) | (go_simp; rfl)); intro gb318 hg w29 hbox hb; have n0_ := Aside0.mk (below_step (by repeat (first | (with_reducible first | exact HB.out | apply below_alloc | apply pw_below_drewN | apply below_drew1) | exact HB.out)) hb); have n1_ := Aside0.mk (hbox); have n2_ := Aside0.mk ((by rw [hg]; exact (below_size (by repeat (first | (with_reducible first | exact HB.out | apply below_alloc | apply pw_below_drewN | apply below_drew1) | exact HB.out))) : w.heap.size ≤ gb318)); have n3_ := Aside0.mk ((by rw [hg]; exact (below_size (by repeat (first | (with_reducible first | exact HB.out | apply below_alloc | apply pw_below_drewN | apply below_drew1) | exact HB.out))) : w.heap.size ≤ gb318)); clear HB; have HB := n0_; have BK318 := n1_; have GW318 := n2_; have GE318 := n3_; clear n0_ n1_ n2_ n3_; clear hb hbox hg; have hcz30_0 : w29.cell? ⟨gb318, 0, none⟩ = some (.int .i64 0) := (blk_cell BK318.out 0).trans rfl; have hcz30_1 : w29.cell? ⟨gb318, 1, none⟩ = some (.int .i64 0) := (blk_cell BK318.out 1).trans rfl; have hcz30_2 : w29.cell? ⟨gb318, 2, none⟩ = some (.int .i64 0) := (blk_cell BK318.out 2).trans rfl; have hcz30_3 : w29.cell? ⟨gb318, 3, none⟩ = some (.int .i64 0) := (blk_cell BK318.out 3).trans rfl; have hcz30_4 : w29.cell? ⟨gb318, 4, none⟩ = some (.string (⟨#[]⟩ : ByteArray)) := (blk_cell BK318.out 4).trans rfl; have hcz30_5 : w29.cell? ⟨gb318, 5, none⟩ = some (.int .i64 0) := (blk_cell BK318.out 5).trans rfl; have hcz30_6 : w29.cell? ⟨gb318, 6, none⟩ = some (.int .i64 0) := (blk_cell BK318.out 6).trans rfl; have hcz30_7 : w29.cell? ⟨gb318, 7, none⟩ = some (.slice none 0 0) := (blk_cell BK318.out 7).trans rfl; have hfz30_0 := blk_frozen BK318.out 0; have hfz30_1 := blk_frozen BK318.out 1; have hfz30_2 := blk_frozen BK318.out 2; have hfz30_3 := blk_frozen BK318.out 3; have hfz30_4 := blk_frozen BK318.out 4; have hfz30_5 := blk_frozen BK318.out 5; have hfz30_6 := blk_frozen BK318.out 6; have hfz30_7 := blk_frozen BK318.out 7) | ((with_reducible refine gate_callee (f := 34) rfl ?_); refine goesL_ (some 16) rfl rfl Tryd.func34 (by kernel_rfl) rfl #[.agg #[.int .i64 ((rd_T45 l0 x10_1).f2.f0), .int .i64 ((rd_T45 l0 x10_1).f2.f1), .slice A317_7 ((rd_T45 l0 x10_1).f2.f2).length c317_7]] rfl (by (try simp only [List.map_toArray, List.map_cons, List.map_nil]); first | done | rfl | (simp only [List.length_drop, List.length_take]; rfl)) ?_; (with_reducible refine (chapbookref07_Great.calls k1 ((rd_T45 l0 x10_1).f2.f0) ((rd_T45 l0 x10_1).f2.f1) _ _ ((rd_T45 l0 x10_1).f2.f2) false _ ?side1 ?side2 A6.out).mono ?_); (case side1 => exact Kd.C_below HR317_7.out (by repeat (first | (with_reducible first | exact HB.out | apply below_alloc | apply pw_below_drewN | apply below_drew1 | refine below_set ?_ GE318.out) | exact HB.out))); (case side2 => exact HC317_7.out); rintro e w31 ⟨rfl, hb⟩; refine ⟨_, rfl, ?_⟩; have n0_ := Aside0.mk (blk_below (g := gb318) (o := .cells #[.int .i64 ((rd_T45 l0 x10_1).f0), .int .i64 ((rd_T45 l0 x10_1).f1.f0), .int .i64 ((rd_T45 l0 x10_1).f1.f1), .int .i64 ((rd_T45 l0 x10_1).f1.f2), .string ((rd_T45 l0 x10_1).f1.f3), .int .i64 ((rd_T45 l0 x10_1).f2.f0), .int .i64 ((rd_T45 l0 x10_1).f2.f1), .slice A317_7 ((rd_T45 l0 x10_1).f2.f2).length c317_7] 45 (0, 0)) (by (with_reducible repeat (first | refine blk_drewN ?_ _ | refine blk_drew ?_ | refine blk_alloc ?_ _)); refine blk_put (cs := #[.int .i64 ((rd_T45 l0 x10_1).f0), .int .i64 ((rd_T45 l0 x10_1).f1.f0), .int .i64 ((rd_T45 l0 x10_1).f1.f1), .int .i64 ((rd_T45 l0 x10_1).f1.f2), .string ((rd_T45 l0 x10_1).f1.f3), .int .i64 ((rd_T45 l0 x10_1).f2.f0), .int .i64 ((rd_T45 l0 x10_1).f2.f1), .slice none 0 0]) ?_ 7 _ rfl; (with_reducible repeat (first | refine blk_drewN ?_ _ | refine blk_drew ?_ | refine blk_alloc ?_ _)); refine blk_put (cs := #[.int .i64 ((rd_T45 l0 x10_1).f0), .int .i64 ((rd_T45 l0 x10_1).f1.f0), .int .i64 ((rd_T45 l0 x10_1).f1.f1), .int .i64 ((rd_T45 l0 x10_1).f1.f2), .string ((rd_T45 l0 x10_1).f1.f3), .int .i64 ((rd_T45 l0 x10_1).f2.f0), .int .i64 0, .slice none 0 0]) ?_ 6 _ rfl; (with_reducible repeat (first | refine blk_drewN ?_ _ | refine blk_drew ?_ | refine blk_alloc ?_ _)); refine blk_put (cs := #[.int .i64 ((rd_T45 l0 x10_1).f0), .int .i64 ((rd_T45 l0 x10_1).f1.f0), .int .i64 ((rd_T45 l0 x10_1).f1.f1), .int .i64 ((rd_T45 l0 x10_1).f1.f2), .string ((rd_T45 l0 x10_1).f1.f3), .int .i64 0, .int .i64 0, .slice none 0 0]) ?_ 5 _ rfl; (with_reducible repeat (first | refine blk_drewN ?_ _ | refine blk_drew ?_ | refine blk_alloc ?_ _)); refine blk_put (cs := #[.int .i64 ((rd_T45 l0 x10_1).f0), .int .i64 ((rd_T45 l0 x10_1).f1.f0), .int .i64 ((rd_T45 l0 x10_1).f1.f1), .int .i64 ((rd_T45 l0 x10_1).f1.f2), .string (⟨#[]⟩ : ByteArray), .int .i64 0, .int .i64 0, .slice none 0 0]) ?_ 4 _ rfl; (with_reducible repeat (first | refine blk_drewN ?_ _ | refine blk_drew ?_ | refine blk_alloc ?_ _)); refine blk_put (cs := #[.int .i64 ((rd_T45 l0 x10_1).f0), .int .i64 ((rd_T45 l0 x10_1).f1.f0), .int .i64 ((rd_T45 l0 x10_1).f1.f1), .int .i64 0, .string (⟨#[]⟩ : ByteArray), .int .i64 0, .int .i64 0, .slice none 0 0]) ?_ 3 _ rfl; (with_reducible repeat (first | refine blk_drewN ?_ _ | refine blk_drew ?_ | refine blk_alloc ?_ _)); refine blk_put (cs := #[.int .i64 ((rd_T45 l0 x10_1).f0), .int .i64 ((rd_T45 l0 x10_1).f1.f0), .int .i64 0, .int .i64 0, .string (⟨#[]⟩ : ByteArray), .int .i64 0, .int .i64 0, .slice none 0 0]) ?_ 2 _ rfl; (with_reducible repeat (first | refine blk_drewN ?_ _ | refine blk_drew ?_ | refine blk_alloc ?_ _)); refine blk_put (cs := #[.int .i64 ((rd_T45 l0 x10_1).f0), .int .i64 0, .int .i64 0, .int .i64 0, .string (⟨#[]⟩ : ByteArray), .int .i64 0, .int .i64 0, .slice none 0 0]) ?_ 1 _ rfl; (with_reducible repeat (first | refine blk_drewN ?_ _ | refine blk_drew ?_ | refine blk_alloc ?_ _)); refine blk_put (cs := #[.int .i64 0, .int .i64 0, .int .i64 0, .int .i64 0, .string (⟨#[]⟩ : ByteArray), .int .i64 0, .int .i64 0, .slice none 0 0]) ?_ 0 _ rfl; (with_reducible repeat (first | refine blk_drewN ?_ _ | refine blk_drew ?_ | refine blk_alloc ?_ _)); exact BK318.out) hb); have n1_ := Aside0.mk (below_step (by repeat (first | (with_reducible first | exact HB.out | apply below_alloc | apply pw_below_drewN | apply below_drew1 | refine below_set ?_ GE318.out) | exact HB.out)) hb); clear BK318; clear HB; have BK318 := n0_; have HB := n1_; clear n0_ n1_; (try clear hb); (try clear hb2); (try clear hk); (try clear hi); have hcz32_0 : w31.cell? ⟨gb318, 0, none⟩ = some (.int .i64 ((rd_T45 l0 x10_1).f0)) := (blk_cell BK318.out 0).trans rfl; have hcz32_1 : w31.cell? ⟨gb318, 1, none⟩ = some (.int .i64 ((rd_T45 l0 x10_1).f1.f0)) := (blk_cell BK318.out 1).trans rfl; have hcz32_2 : w31.cell? ⟨gb318, 2, none⟩ = some (.int .i64 ((rd_T45 l0 x10_1).f1.f1)) := (blk_cell BK318.out 2).trans rfl; have hcz32_3 : w31.cell? ⟨gb318, 3, none⟩ = some (.int .i64 ((rd_T45 l0 x10_1).f1.f2)) := (blk_cell BK318.out 3).trans rfl; have hcz32_4 : w31.cell? ⟨gb318, 4, none⟩ = some (.string ((rd_T45 l0 x10_1).f1.f3)) := (blk_cell BK318.out 4).trans rfl; have hcz32_5 : w31.cell? ⟨gb318, 5, none⟩ = some (.int .i64 ((rd_T45 l0 x10_1).f2.f0)) := (blk_cell BK318.out 5).trans rfl; have hcz32_6 : w31.cell? ⟨gb318, 6, none⟩ = some (.int .i64 ((rd_T45 l0 x10_1).f2.f1)) := (blk_cell BK318.out 6).trans rfl; have hcz32_7 : w31.cell? ⟨gb318, 7, none⟩ = some (.slice A317_7 ((rd_T45 l0 x10_1).f2.f2).length c317_7) := (blk_cell BK318.out 7).trans rfl; have hfz32_0 := blk_frozen BK318.out 0; have hfz32_1 := blk_frozen BK318.out 1; have hfz32_2 := blk_frozen BK318.out 2; have hfz32_3 := blk_frozen BK318.out 3; have hfz32_4 := blk_frozen BK318.out 4; have hfz32_5 := blk_frozen BK318.out 5; have hfz32_6 := blk_frozen BK318.out 6; have hfz32_7 := blk_frozen BK318.out 7))
          go_roundg k1
          case measure => have := HK1.out; omega
          case rel => exact ⟨(wrap64 (x10_1 + 1)), (by first | rfl | (simp; done) | (simp [*]; done) | (simp; exact isEmpty_bne _)), H', ⟨by have := HK1.out; omega⟩, ⟨by repeat (first | (with_reducible first | exact HB.out | apply below_alloc | apply pw_below_drewN | apply below_drew1 | refine below_set ?_ GE318.out) | exact HB.out)⟩⟩
      ·rw [if_neg c5] at H
       exact absurd H (by simp)
     ·rw [if_neg c4] at H
      exact absurd H (by simp)
    ·rw [if_neg c3] at H
     have c3b0 : decide (x10_1 < (l0.length : Int)) = false := decide_eq_false c3
     clear c3
     obtain rfl := Option.some.inj H
     go_wp2
     go_ret
     exact ⟨by first | rfl | (simp [errW_none, errW_some] <;> rfl) | (simp [*, errW_none, errW_some] <;> rfl), by repeat (first | (with_reducible first | exact HB.out | apply below_alloc | apply pw_below_drewN | apply below_drew1) | exact HB.out)⟩
end Go.Proofs.YtjmoncfgoaaekaaDoor.Q
