/- Contracts of the seat's functions, as my driver over the kit's print has written them: if the Lean function comes to a value, the Go function returns it. -/
import Derived.Test.YtfbdfnclkchofaaDoorYUpdateGetsUPut
import Derived.Test.YtfbdfnclkchofaaDoorYUpdateGetsRGet06
import Derived.Test.YtfbdfnclkchofaaDoorYUpdateGetsSpell
import Derived.Test.YtfbdfnclkchofaaDoorYUpdateGetsQ1
import Derived.Test.YtfbdfnclkchofaaDoorYUpdateGetsQ8
import Derived.Test.YtfbdfnclkchofaaDoorYUpdateGetsQ9
import Derived.Test.YtfbdfnclkchofaaDoorYUpdateGetsQ11
namespace Go.Proofs.YtfbdfnclkchofaaDoor.Q
open Go.RowKit Go.Proofs.YtfbdfnclkchofaaDoorW.PrintWords Go.Proofs.YtfbdfnclkchofaaDoorW.PrintLast Go.Proofs.YtfbdfnclkchofaaDoorW.PrintMore
attribute [local go_sem] max2_int min2_int max_two min_two max_three min_three max_four min_four   -- for this text's walks alone
set_option linter.unusedVariables false
set_option linter.unusedSimpArgs false
attribute [local go_sem high] eqA58
def chapbooklaw06_UpdateGets.j0 : Nat → ByteArray → Bool → Option (Bool)
  | 0, _, _ => none
  | k + 1, x0, x13 => if x13 = true then ((chapbooklaw06_awake.f k).bind fun t456 => (some t456)) else ((update_Get.f k x0).bind fun bt457 => ((chapbookref06_Get.f k x0).bind fun bt463 => (if (bt457.1.toList == bt463.1.toList && (bt457.2.1 == bt463.2.1 && (bt457.2.2.1 == bt463.2.2.1 && (bt457.2.2.2.1.toList == bt463.2.2.2.1.toList)))) = true then (some (bt457.2.2.2.2 == bt463.2.2.2.2)) else (some false))))
def chapbooklaw06_UpdateGets.f (k : Nat) (a0 : ByteArray) : Option (Bool) := (chapbooklaw06_awake.f k).bind fun t455 => (if t455 = true then (chapbooklaw06_UpdateGets.j0 k a0 (decide ((a0.size : Int) > 300))) else (chapbooklaw06_UpdateGets.j0 k a0 true))
theorem chapbooklaw06_UpdateGets.mono_l : ∀ k, (∀ y0 y1, LeO (chapbooklaw06_UpdateGets.j0 k y0 y1) (chapbooklaw06_UpdateGets.j0 (k + 1) y0 y1))
  | 0 => fun _ _ r h => by simp [chapbooklaw06_UpdateGets.j0] at h
  | k + 1 => by
    have ih0 := chapbooklaw06_UpdateGets.mono_l k
    · intro y0 y1
      unfold chapbooklaw06_UpdateGets.j0
      repeat' first
      | (with_reducible exact ih0 _ _)
      | (with_reducible exact chapbooklaw06_awake.mono _)
      | (with_reducible exact chapbookref06_Get.mono _ _)
      | (with_reducible exact update_Get.mono _ _)
      | (with_reducible exact LeO.refl _)
      | (with_reducible exact LeO.none _)
      | (with_reducible refine LeO.ite ?_ ?_)
      | (with_reducible refine LeO.bind ?_ (fun _ => ?_))
      | exact ih0 _ _
      | exact chapbooklaw06_awake.mono _
      | exact chapbookref06_Get.mono _ _
      | exact update_Get.mono _ _
      | exact LeO.none _
      | refine LeO.ite ?_ ?_
      | refine LeO.bind ?_ (fun _ => ?_)
theorem chapbooklaw06_UpdateGets.mono : ∀ a0 k, LeO (chapbooklaw06_UpdateGets.f k a0) (chapbooklaw06_UpdateGets.f (k + 1) a0) := by
  intro a0 k
  have ih0 := chapbooklaw06_UpdateGets.mono_l k
  unfold chapbooklaw06_UpdateGets.f
  repeat' first
      | (with_reducible exact ih0 _ _)
      | (with_reducible exact chapbooklaw06_awake.mono _)
      | (with_reducible exact chapbookref06_Get.mono _ _)
      | (with_reducible exact update_Get.mono _ _)
      | (with_reducible exact LeO.refl _)
      | (with_reducible exact LeO.none _)
      | (with_reducible refine LeO.ite ?_ ?_)
      | (with_reducible refine LeO.bind ?_ (fun _ => ?_))
      | exact ih0 _ _
      | exact chapbooklaw06_awake.mono _
      | exact chapbookref06_Get.mono _ _
      | exact update_Get.mono _ _
      | exact LeO.none _
      | refine LeO.ite ?_ ?_
      | refine LeO.bind ?_ (fun _ => ?_)
set_option maxHeartbeats 8000000 in
set_option maxRecDepth 100000 in
theorem chapbooklaw06_UpdateGets.calls (k : Nat) (a0 : ByteArray) (r : Bool) (w : World) (HT : Aside0 (Tab w)) (h : chapbooklaw06_UpdateGets.f k a0 = some r) :
    Calls Tryd.prog 9 #[.string a0] w fun e w' => e = .returned (.bool r) ∧ Below w.heap.size w w' := by
  have hu58 := Tryd.underlying58
  have HB := Aside0.mk (Below.refl w.heap.size w)
  have H : ((chapbooklaw06_awake.f k).bind fun t455 => (if t455 = true then (chapbooklaw06_UpdateGets.j0 k a0 (decide ((a0.size : Int) > 300))) else (chapbooklaw06_UpdateGets.j0 k a0 true))) = some r := h
  clear h
  have HC2 := Aside0.mk H
  clear H
  go_enter Tryd.func9, Tryd.ntmps9
  go_upto_region 1 with (fail)
  go_cut [13] (fun v13 wc => ∃ (kq : Nat) (x13_1 : Bool), v13 = .bool x13_1 ∧ Aside0 (chapbooklaw06_UpdateGets.j0 kq a0 x13_1 = some r) ∧ Aside0 (kq ≤ k) ∧ Aside0 (Below w.heap.size w wc))
  case first =>
    have H := HC2.out
    clear HC2
    replace H := Option.bind_eq_some_iff.mp H
    obtain ⟨t455, A30, H⟩ := H
    replace H : (if t455 = true then (chapbooklaw06_UpdateGets.j0 k a0 (decide ((a0.size : Int) > 300))) else (chapbooklaw06_UpdateGets.j0 k a0 true)) = some r := H
    have A3 := Aside0.mk A30
    clear A30
    by_cases c4 : t455 = true
    · subst c4
      have H1 : (chapbooklaw06_UpdateGets.j0 k a0 (decide ((a0.size : Int) > 300))) = some r := by rw [if_pos rfl] at H; exact H
      clear H
      have H := H1
      clear H1
      have H' := Aside0.mk H
      clear H
      go_wp2_with (first | ((with_reducible refine gate_callee (f := 35) rfl ?_); refine goesL_ (some 7) rfl rfl Tryd.func35 (by kernel_rfl) rfl #[] rfl (by (try simp only [List.map_toArray, List.map_cons, List.map_nil]); first | done | rfl | (simp only [List.length_drop, List.length_take]; rfl)) ?_; (with_reducible refine (chapbooklaw06_awake.calls k  true _ (Aside0.mk (Tab.below HT.out (by repeat (first | (with_reducible first | exact HB.out | apply below_alloc | apply pw_below_drewN | apply below_drew1) | refine below_set ?_ (Aside0.out (by assumption)) | exact HB.out)))) A3.out).mono ?_); rintro e w5 ⟨rfl, hb⟩; refine ⟨_, rfl, ?_⟩; have n0_ := Aside0.mk (below_step (by repeat (first | (with_reducible first | exact HB.out | apply below_alloc | apply pw_below_drewN | apply below_drew1) | exact HB.out)) hb); clear HB; have HB := n0_; clear n0_; (try clear hb); (try clear hb2); (try clear hk); (try clear hi)))
      go_meet
      case rel => exact ⟨_, (decide ((a0.size : Int) > 300)), (by first | rfl | (simp; done) | (simp [*]; done) | (simp; exact isEmpty_bne _)), H', ⟨by first | omega | exact Nat.le_refl _⟩, ⟨by repeat (first | (with_reducible first | exact HB.out | apply below_alloc | apply pw_below_drewN | apply below_drew1) | exact HB.out)⟩⟩
    · replace c4 := Bool.eq_false_iff.mpr c4
      subst c4
      have H1 : (chapbooklaw06_UpdateGets.j0 k a0 true) = some r := by rw [if_neg (show ¬ (false = true) by decide)] at H; exact H
      clear H
      have H := H1
      clear H1
      have H' := Aside0.mk H
      clear H
      go_wp2_with (first | ((with_reducible refine gate_callee (f := 35) rfl ?_); refine goesL_ (some 7) rfl rfl Tryd.func35 (by kernel_rfl) rfl #[] rfl (by (try simp only [List.map_toArray, List.map_cons, List.map_nil]); first | done | rfl | (simp only [List.length_drop, List.length_take]; rfl)) ?_; (with_reducible refine (chapbooklaw06_awake.calls k  false _ (Aside0.mk (Tab.below HT.out (by repeat (first | (with_reducible first | exact HB.out | apply below_alloc | apply pw_below_drewN | apply below_drew1) | refine below_set ?_ (Aside0.out (by assumption)) | exact HB.out)))) A3.out).mono ?_); rintro e w6 ⟨rfl, hb⟩; refine ⟨_, rfl, ?_⟩; have n0_ := Aside0.mk (below_step (by repeat (first | (with_reducible first | exact HB.out | apply below_alloc | apply pw_below_drewN | apply below_drew1) | exact HB.out)) hb); clear HB; have HB := n0_; clear n0_; (try clear hb); (try clear hb2); (try clear hk); (try clear hi)))
      go_meet
      case rel => exact ⟨_, (true), (by first | rfl | (simp; done) | (simp [*]; done) | (simp; exact isEmpty_bne _)), H', ⟨by first | omega | exact Nat.le_refl _⟩, ⟨by repeat (first | (with_reducible first | exact HB.out | apply below_alloc | apply pw_below_drewN | apply below_drew1) | exact HB.out)⟩⟩
  case rest =>
    clear HC2
    try clear p2
    try clear c3
    try clear c4
    obtain ⟨kq, x13_1, rfl, HA, HJ1, HB⟩ := hcut
    cases kq with
    | zero => exact absurd HA.out (by simp [chapbooklaw06_UpdateGets.j0])
    | succ kj1 =>
      have H := HA.out
      clear HA
      simp only [chapbooklaw06_UpdateGets.j0] at H
      by_cases c7 : x13_1 = true
      · subst c7
        have H1 : ((chapbooklaw06_awake.f kj1).bind fun t456 => (some t456)) = some r := by rw [if_pos rfl] at H; exact H
        clear H
        have H := H1
        clear H1
        replace H := Option.bind_eq_some_iff.mp H
        obtain ⟨t456, A80, H⟩ := H
        replace H : (some t456) = some r := H
        have A8 := Aside0.mk A80
        clear A80
        obtain rfl := Option.some.inj H
        go_wp2_with (first | ((with_reducible refine gate_callee (f := 35) rfl ?_); refine goesL_ (some 14) rfl rfl Tryd.func35 (by kernel_rfl) rfl #[] rfl (by (try simp only [List.map_toArray, List.map_cons, List.map_nil]); first | done | rfl | (simp only [List.length_drop, List.length_take]; rfl)) ?_; (with_reducible refine (chapbooklaw06_awake.calls kj1  t456 _ (Aside0.mk (Tab.below HT.out (by repeat (first | (with_reducible first | exact HB.out | apply below_alloc | apply pw_below_drewN | apply below_drew1) | refine below_set ?_ (Aside0.out (by assumption)) | exact HB.out)))) A8.out).mono ?_); rintro e w9 ⟨rfl, hb⟩; refine ⟨_, rfl, ?_⟩; have n0_ := Aside0.mk (below_step (by repeat (first | (with_reducible first | exact HB.out | apply below_alloc | apply pw_below_drewN | apply below_drew1) | exact HB.out)) hb); clear HB; have HB := n0_; clear n0_; (try clear hb); (try clear hb2); (try clear hk); (try clear hi)))
        go_ret
        exact ⟨by first | rfl | (simp [errW_none, errW_some] <;> rfl) | (simp [*, errW_none, errW_some] <;> rfl), by repeat (first | (with_reducible first | exact HB.out | apply below_alloc | apply pw_below_drewN | apply below_drew1) | exact HB.out)⟩
      · replace c7 := Bool.eq_false_iff.mpr c7
        subst c7
        have H1 : ((update_Get.f kj1 a0).bind fun bt457 => ((chapbookref06_Get.f kj1 a0).bind fun bt463 => (if (bt457.1.toList == bt463.1.toList && (bt457.2.1 == bt463.2.1 && (bt457.2.2.1 == bt463.2.2.1 && (bt457.2.2.2.1.toList == bt463.2.2.2.1.toList)))) = true then (some (bt457.2.2.2.2 == bt463.2.2.2.2)) else (some false)))) = some r := by rw [if_neg (show ¬ (false = true) by decide)] at H; exact H
        clear H
        have H := H1
        clear H1
        replace H := Option.bind_eq_some_iff.mp H
        obtain ⟨⟨t457, t458, t459, t460, t461⟩, A100, H⟩ := H
        replace H : ((chapbookref06_Get.f kj1 a0).bind fun bt463 => (if (t457.toList == bt463.1.toList && (t458 == bt463.2.1 && (t459 == bt463.2.2.1 && (t460.toList == bt463.2.2.2.1.toList)))) = true then (some (t461 == bt463.2.2.2.2)) else (some false))) = some r := H
        have A10 := Aside0.mk A100
        clear A100
        replace H := Option.bind_eq_some_iff.mp H
        obtain ⟨⟨t463, t464, t465, t466, t467⟩, A110, H⟩ := H
        replace H : (if (t457.toList == t463.toList && (t458 == t464 && (t459 == t465 && (t460.toList == t466.toList)))) = true then (some (t461 == t467)) else (some false)) = some r := H
        have A11 := Aside0.mk A110
        clear A110
        by_cases c12 : (t457.toList == t463.toList && (t458 == t464 && (t459 == t465 && (t460.toList == t466.toList)))) = true
        · rw [if_pos c12] at H
          have c12b0 : (t457.toList == t463.toList && (t458 == t464 && (t459 == t465 && (t460.toList == t466.toList)))) = true := c12
          (try (have c12b1 : decide (t457.toList = t463.toList && (t458 == t464 && (t459 == t465 && (t460.toList == t466.toList)))) = true := by simpa using c12))
          (try (have c12b2 : (t457.toList == t463.toList && (t458 == t464 && (t459 == t465 && (t460.toList == t466.toList)))) = true := by simpa using c12))
          clear c12
          obtain rfl := Option.some.inj H
          go_wp2_with (first | ((with_reducible refine gate_callee (f := 39) rfl ?_); refine goesL_ (some 17) rfl rfl Tryd.func39 (by kernel_rfl) rfl #[.string a0] rfl (by (try simp only [List.map_toArray, List.map_cons, List.map_nil]); first | done | rfl | (simp only [List.length_drop, List.length_take]; rfl)) ?_; (with_reducible refine (update_Get.calls kj1 a0 t457 t458 t459 t460 t461 _ (Aside0.mk (Tab.below HT.out (by repeat (first | (with_reducible first | exact HB.out | apply below_alloc | apply pw_below_drewN | apply below_drew1) | refine below_set ?_ (Aside0.out (by assumption)) | exact HB.out)))) A10.out).mono ?_); rintro e w13 ⟨rfl, hb⟩; refine ⟨_, rfl, ?_⟩; have n0_ := Aside0.mk (below_step (by repeat (first | (with_reducible first | exact HB.out | apply below_alloc | apply pw_below_drewN | apply below_drew1) | exact HB.out)) hb); clear HB; have HB := n0_; clear n0_; (try clear hb); (try clear hb2); (try clear hk); (try clear hi)) | ((with_reducible refine gate_dst (N := 3) rfl ?_); (try (refine gate_guard (by rfl) ?_; dsimp only)); refine box_event ?hg (N := 3) ?hd (cs := #[.string (⟨#[]⟩ : ByteArray), .int .i64 0, .int .i64 0, .string (⟨#[]⟩ : ByteArray)]) (t := 58) ?hr ?_; (case hd => rfl); (case hg => rfl); (case hr => first | (go_simp; done) | (go_simp; rfl)); intro gb462 hg w14 hbox hb; have n0_ := Aside0.mk (below_step (by repeat (first | (with_reducible first | exact HB.out | apply below_alloc | apply pw_below_drewN | apply below_drew1) | exact HB.out)) hb); have n1_ := Aside0.mk (hbox); have n2_ := Aside0.mk ((by rw [hg]; exact (below_size (by repeat (first | (with_reducible first | exact HB.out | apply below_alloc | apply pw_below_drewN | apply below_drew1) | exact HB.out))) : w.heap.size ≤ gb462)); have n3_ := Aside0.mk ((by rw [hg]; exact (below_size (by repeat (first | (with_reducible first | exact HB.out | apply below_alloc | apply pw_below_drewN | apply below_drew1) | exact HB.out))) : w.heap.size ≤ gb462)); clear HB; have HB := n0_; have BK462 := n1_; have GW462 := n2_; have GE462 := n3_; clear n0_ n1_ n2_ n3_; clear hb hbox hg; have hcz15_0 : w14.cell? ⟨gb462, 0, none⟩ = some (.string (⟨#[]⟩ : ByteArray)) := (blk_cell BK462.out 0).trans rfl; have hcz15_1 : w14.cell? ⟨gb462, 1, none⟩ = some (.int .i64 0) := (blk_cell BK462.out 1).trans rfl; have hcz15_2 : w14.cell? ⟨gb462, 2, none⟩ = some (.int .i64 0) := (blk_cell BK462.out 2).trans rfl; have hcz15_3 : w14.cell? ⟨gb462, 3, none⟩ = some (.string (⟨#[]⟩ : ByteArray)) := (blk_cell BK462.out 3).trans rfl; have hfz15_0 := blk_frozen BK462.out 0; have hfz15_1 := blk_frozen BK462.out 1; have hfz15_2 := blk_frozen BK462.out 2; have hfz15_3 := blk_frozen BK462.out 3) | ((with_reducible refine gate_callee (f := 40) rfl ?_); refine goesL_ (some 22) rfl rfl Tryd.func40 (by kernel_rfl) rfl #[.string a0] rfl (by (try simp only [List.map_toArray, List.map_cons, List.map_nil]); first | done | rfl | (simp only [List.length_drop, List.length_take]; rfl)) ?_; (with_reducible refine (chapbookref06_Get.calls kj1 a0 t463 t464 t465 t466 t467 _ (Aside0.mk (Tab.below HT.out (by repeat (first | (with_reducible first | exact HB.out | apply below_alloc | apply pw_below_drewN | apply below_drew1) | refine below_set ?_ (Aside0.out (by assumption)) | exact HB.out)))) A11.out).mono ?_); rintro e w16 ⟨rfl, hb⟩; refine ⟨_, rfl, ?_⟩; have n0_ := Aside0.mk (blk_below (g := gb462) (o := .cells #[.string t457, .int .i64 t458, .int .i64 t459, .string t460] 58 (0, 0)) (by (with_reducible repeat (first | refine blk_drewN ?_ _ | refine blk_drew ?_ | refine blk_alloc ?_ _)); refine blk_put (cs := #[.string t457, .int .i64 t458, .int .i64 t459, .string (⟨#[]⟩ : ByteArray)]) ?_ 3 _ rfl; (with_reducible repeat (first | refine blk_drewN ?_ _ | refine blk_drew ?_ | refine blk_alloc ?_ _)); refine blk_put (cs := #[.string t457, .int .i64 t458, .int .i64 0, .string (⟨#[]⟩ : ByteArray)]) ?_ 2 _ rfl; (with_reducible repeat (first | refine blk_drewN ?_ _ | refine blk_drew ?_ | refine blk_alloc ?_ _)); refine blk_put (cs := #[.string t457, .int .i64 0, .int .i64 0, .string (⟨#[]⟩ : ByteArray)]) ?_ 1 _ rfl; (with_reducible repeat (first | refine blk_drewN ?_ _ | refine blk_drew ?_ | refine blk_alloc ?_ _)); refine blk_put (cs := #[.string (⟨#[]⟩ : ByteArray), .int .i64 0, .int .i64 0, .string (⟨#[]⟩ : ByteArray)]) ?_ 0 _ rfl; (with_reducible repeat (first | refine blk_drewN ?_ _ | refine blk_drew ?_ | refine blk_alloc ?_ _)); exact BK462.out) hb); have n1_ := Aside0.mk (below_step (by repeat (first | (with_reducible first | exact HB.out | apply below_alloc | apply pw_below_drewN | apply below_drew1 | refine below_set ?_ GE462.out) | exact HB.out)) hb); clear BK462; clear HB; have BK462 := n0_; have HB := n1_; clear n0_ n1_; (try clear hb); (try clear hb2); (try clear hk); (try clear hi)) | ((with_reducible refine gate_dst (N := 5) rfl ?_); (try (refine gate_guard (by rfl) ?_; dsimp only)); refine box_event ?hg (N := 5) ?hd (cs := #[.string (⟨#[]⟩ : ByteArray), .int .i64 0, .int .i64 0, .string (⟨#[]⟩ : ByteArray)]) (t := 58) ?hr ?_; (case hd => rfl); (case hg => rfl); (case hr => first | (go_simp; done) | (go_simp; rfl)); intro gb468 hg w17 hbox hb; have n0_ := Aside0.mk (blk_below (g := gb462) (o := .cells #[.string t457, .int .i64 t458, .int .i64 t459, .string t460] 58 (0, 0)) (by (with_reducible repeat (first | refine blk_drewN ?_ _ | refine blk_drew ?_ | refine blk_alloc ?_ _)); exact BK462.out) hb); have n1_ := Aside0.mk (below_step (by repeat (first | (with_reducible first | exact HB.out | apply below_alloc | apply pw_below_drewN | apply below_drew1 | refine below_set ?_ GE462.out) | exact HB.out)) hb); have n2_ := Aside0.mk (hbox); have n3_ := Aside0.mk ((by rw [hg]; exact (below_size (by repeat (first | (with_reducible first | exact HB.out | apply below_alloc | apply pw_below_drewN | apply below_drew1 | refine below_set ?_ GE462.out) | exact HB.out))) : w.heap.size ≤ gb468)); have n4_ := Aside0.mk ((by rw [hg]; exact (below_size (by repeat (first | (with_reducible first | exact HB.out | apply below_alloc | apply pw_below_drewN | apply below_drew1 | refine below_set ?_ GE462.out) | exact HB.out))) : w.heap.size ≤ gb468)); have n5_ := Aside0.mk ((by rw [hg]; exact Nat.ne_of_lt (blk_lt (g := gb462) (o := .cells #[.string t457, .int .i64 t458, .int .i64 t459, .string t460] 58 (0, 0)) (by (with_reducible repeat (first | refine blk_drewN ?_ _ | refine blk_drew ?_ | refine blk_alloc ?_ _)); exact BK462.out)) : gb462 ≠ gb468)); have n6_ := Aside0.mk ((by rw [hg]; exact Nat.ne_of_gt (blk_lt (g := gb462) (o := .cells #[.string t457, .int .i64 t458, .int .i64 t459, .string t460] 58 (0, 0)) (by (with_reducible repeat (first | refine blk_drewN ?_ _ | refine blk_drew ?_ | refine blk_alloc ?_ _)); exact BK462.out)) : gb468 ≠ gb462)); clear BK462; clear HB; have BK462 := n0_; have HB := n1_; have BK468 := n2_; have GW468 := n3_; have GE468 := n4_; have NB462_468 := n5_; have NB468_462 := n6_; clear n0_ n1_ n2_ n3_ n4_ n5_ n6_; clear hb hbox hg; have hnb18 := NB468_462.out; have hnc18 := NB462_468.out; have hcz19_0 : w17.cell? ⟨gb468, 0, none⟩ = some (.string (⟨#[]⟩ : ByteArray)) := (blk_cell BK468.out 0).trans rfl; have hcz19_1 : w17.cell? ⟨gb468, 1, none⟩ = some (.int .i64 0) := (blk_cell BK468.out 1).trans rfl; have hcz19_2 : w17.cell? ⟨gb468, 2, none⟩ = some (.int .i64 0) := (blk_cell BK468.out 2).trans rfl; have hcz19_3 : w17.cell? ⟨gb468, 3, none⟩ = some (.string (⟨#[]⟩ : ByteArray)) := (blk_cell BK468.out 3).trans rfl; have hfz19_0 := blk_frozen BK468.out 0; have hfz19_1 := blk_frozen BK468.out 1; have hfz19_2 := blk_frozen BK468.out 2; have hfz19_3 := blk_frozen BK468.out 3; have hcz20_0 : w17.cell? ⟨gb462, 0, none⟩ = some (.string t457) := (blk_cell BK462.out 0).trans rfl; have hcz20_1 : w17.cell? ⟨gb462, 1, none⟩ = some (.int .i64 t458) := (blk_cell BK462.out 1).trans rfl; have hcz20_2 : w17.cell? ⟨gb462, 2, none⟩ = some (.int .i64 t459) := (blk_cell BK462.out 2).trans rfl; have hcz20_3 : w17.cell? ⟨gb462, 3, none⟩ = some (.string t460) := (blk_cell BK462.out 3).trans rfl; have hfz20_0 := blk_frozen BK462.out 0; have hfz20_1 := blk_frozen BK462.out 1; have hfz20_2 := blk_frozen BK462.out 2; have hfz20_3 := blk_frozen BK462.out 3))
          go_ret
          exact ⟨by first | rfl | (simp [errW_none, errW_some] <;> rfl) | (simp [*, errW_none, errW_some] <;> rfl), by repeat (first | (with_reducible first | exact HB.out | apply below_alloc | apply pw_below_drewN | apply below_drew1 | refine below_set ?_ GE462.out | refine below_set ?_ GE468.out) | exact HB.out)⟩
        · rw [if_neg c12] at H
          have c12b0 : (t457.toList == t463.toList && (t458 == t464 && (t459 == t465 && (t460.toList == t466.toList)))) = false := by simpa using c12
          (try (have c12b1 : decide (t457.toList = t463.toList && (t458 == t464 && (t459 == t465 && (t460.toList == t466.toList)))) = false := by simpa using c12))
          (try (have c12b2 : (t457.toList == t463.toList && (t458 == t464 && (t459 == t465 && (t460.toList == t466.toList)))) = false := by simpa using c12))
          (try (have c12b3 : ¬ (t457.toList = t463.toList && (t458 == t464 && (t459 == t465 && (t460.toList == t466.toList)))) := by simpa using c12))
          clear c12
          obtain rfl := Option.some.inj H
          go_wp2_with (first | ((with_reducible refine gate_callee (f := 39) rfl ?_); refine goesL_ (some 17) rfl rfl Tryd.func39 (by kernel_rfl) rfl #[.string a0] rfl (by (try simp only [List.map_toArray, List.map_cons, List.map_nil]); first | done | rfl | (simp only [List.length_drop, List.length_take]; rfl)) ?_; (with_reducible refine (update_Get.calls kj1 a0 t457 t458 t459 t460 t461 _ (Aside0.mk (Tab.below HT.out (by repeat (first | (with_reducible first | exact HB.out | apply below_alloc | apply pw_below_drewN | apply below_drew1) | refine below_set ?_ (Aside0.out (by assumption)) | exact HB.out)))) A10.out).mono ?_); rintro e w21 ⟨rfl, hb⟩; refine ⟨_, rfl, ?_⟩; have n0_ := Aside0.mk (below_step (by repeat (first | (with_reducible first | exact HB.out | apply below_alloc | apply pw_below_drewN | apply below_drew1) | exact HB.out)) hb); clear HB; have HB := n0_; clear n0_; (try clear hb); (try clear hb2); (try clear hk); (try clear hi)) | ((with_reducible refine gate_dst (N := 3) rfl ?_); (try (refine gate_guard (by rfl) ?_; dsimp only)); refine box_event ?hg (N := 3) ?hd (cs := #[.string (⟨#[]⟩ : ByteArray), .int .i64 0, .int .i64 0, .string (⟨#[]⟩ : ByteArray)]) (t := 58) ?hr ?_; (case hd => rfl); (case hg => rfl); (case hr => first | (go_simp; done) | (go_simp; rfl)); intro gb462 hg w22 hbox hb; have n0_ := Aside0.mk (below_step (by repeat (first | (with_reducible first | exact HB.out | apply below_alloc | apply pw_below_drewN | apply below_drew1) | exact HB.out)) hb); have n1_ := Aside0.mk (hbox); have n2_ := Aside0.mk ((by rw [hg]; exact (below_size (by repeat (first | (with_reducible first | exact HB.out | apply below_alloc | apply pw_below_drewN | apply below_drew1) | exact HB.out))) : w.heap.size ≤ gb462)); have n3_ := Aside0.mk ((by rw [hg]; exact (below_size (by repeat (first | (with_reducible first | exact HB.out | apply below_alloc | apply pw_below_drewN | apply below_drew1) | exact HB.out))) : w.heap.size ≤ gb462)); clear HB; have HB := n0_; have BK462 := n1_; have GW462 := n2_; have GE462 := n3_; clear n0_ n1_ n2_ n3_; clear hb hbox hg; have hcz23_0 : w22.cell? ⟨gb462, 0, none⟩ = some (.string (⟨#[]⟩ : ByteArray)) := (blk_cell BK462.out 0).trans rfl; have hcz23_1 : w22.cell? ⟨gb462, 1, none⟩ = some (.int .i64 0) := (blk_cell BK462.out 1).trans rfl; have hcz23_2 : w22.cell? ⟨gb462, 2, none⟩ = some (.int .i64 0) := (blk_cell BK462.out 2).trans rfl; have hcz23_3 : w22.cell? ⟨gb462, 3, none⟩ = some (.string (⟨#[]⟩ : ByteArray)) := (blk_cell BK462.out 3).trans rfl; have hfz23_0 := blk_frozen BK462.out 0; have hfz23_1 := blk_frozen BK462.out 1; have hfz23_2 := blk_frozen BK462.out 2; have hfz23_3 := blk_frozen BK462.out 3) | ((with_reducible refine gate_callee (f := 40) rfl ?_); refine goesL_ (some 22) rfl rfl Tryd.func40 (by kernel_rfl) rfl #[.string a0] rfl (by (try simp only [List.map_toArray, List.map_cons, List.map_nil]); first | done | rfl | (simp only [List.length_drop, List.length_take]; rfl)) ?_; (with_reducible refine (chapbookref06_Get.calls kj1 a0 t463 t464 t465 t466 t467 _ (Aside0.mk (Tab.below HT.out (by repeat (first | (with_reducible first | exact HB.out | apply below_alloc | apply pw_below_drewN | apply below_drew1) | refine below_set ?_ (Aside0.out (by assumption)) | exact HB.out)))) A11.out).mono ?_); rintro e w24 ⟨rfl, hb⟩; refine ⟨_, rfl, ?_⟩; have n0_ := Aside0.mk (blk_below (g := gb462) (o := .cells #[.string t457, .int .i64 t458, .int .i64 t459, .string t460] 58 (0, 0)) (by (with_reducible repeat (first | refine blk_drewN ?_ _ | refine blk_drew ?_ | refine blk_alloc ?_ _)); refine blk_put (cs := #[.string t457, .int .i64 t458, .int .i64 t459, .string (⟨#[]⟩ : ByteArray)]) ?_ 3 _ rfl; (with_reducible repeat (first | refine blk_drewN ?_ _ | refine blk_drew ?_ | refine blk_alloc ?_ _)); refine blk_put (cs := #[.string t457, .int .i64 t458, .int .i64 0, .string (⟨#[]⟩ : ByteArray)]) ?_ 2 _ rfl; (with_reducible repeat (first | refine blk_drewN ?_ _ | refine blk_drew ?_ | refine blk_alloc ?_ _)); refine blk_put (cs := #[.string t457, .int .i64 0, .int .i64 0, .string (⟨#[]⟩ : ByteArray)]) ?_ 1 _ rfl; (with_reducible repeat (first | refine blk_drewN ?_ _ | refine blk_drew ?_ | refine blk_alloc ?_ _)); refine blk_put (cs := #[.string (⟨#[]⟩ : ByteArray), .int .i64 0, .int .i64 0, .string (⟨#[]⟩ : ByteArray)]) ?_ 0 _ rfl; (with_reducible repeat (first | refine blk_drewN ?_ _ | refine blk_drew ?_ | refine blk_alloc ?_ _)); exact BK462.out) hb); have n1_ := Aside0.mk (below_step (by repeat (first | (with_reducible first | exact HB.out | apply below_alloc | apply pw_below_drewN | apply below_drew1 | refine below_set ?_ GE462.out) | exact HB.out)) hb); clear BK462; clear HB; have BK462 := n0_; have HB := n1_; clear n0_ n1_; (try clear hb); (try clear hb2); (try clear hk); (try clear hi)) | ((with_reducible refine gate_dst (N := 5) rfl ?_); (try (refine gate_guard (by rfl) ?_; dsimp only)); refine box_event ?hg (N := 5) ?hd (cs := #[.string (⟨#[]⟩ : ByteArray), .int .i64 0, .int .i64 0, .string (⟨#[]⟩ : ByteArray)]) (t := 58) ?hr ?_; (case hd => rfl); (case hg => rfl); (case hr => first | (go_simp; done) | (go_simp; rfl)); intro gb468 hg w25 hbox hb; have n0_ := Aside0.mk (blk_below (g := gb462) (o := .cells #[.string t457, .int .i64 t458, .int .i64 t459, .string t460] 58 (0, 0)) (by (with_reducible repeat (first | refine blk_drewN ?_ _ | refine blk_drew ?_ | refine blk_alloc ?_ _)); exact BK462.out) hb); have n1_ := Aside0.mk (below_step (by repeat (first | (with_reducible first | exact HB.out | apply below_alloc | apply pw_below_drewN | apply below_drew1 | refine below_set ?_ GE462.out) | exact HB.out)) hb); have n2_ := Aside0.mk (hbox); have n3_ := Aside0.mk ((by rw [hg]; exact (below_size (by repeat (first | (with_reducible first | exact HB.out | apply below_alloc | apply pw_below_drewN | apply below_drew1 | refine below_set ?_ GE462.out) | exact HB.out))) : w.heap.size ≤ gb468)); have n4_ := Aside0.mk ((by rw [hg]; exact (below_size (by repeat (first | (with_reducible first | exact HB.out | apply below_alloc | apply pw_below_drewN | apply below_drew1 | refine below_set ?_ GE462.out) | exact HB.out))) : w.heap.size ≤ gb468)); have n5_ := Aside0.mk ((by rw [hg]; exact Nat.ne_of_lt (blk_lt (g := gb462) (o := .cells #[.string t457, .int .i64 t458, .int .i64 t459, .string t460] 58 (0, 0)) (by (with_reducible repeat (first | refine blk_drewN ?_ _ | refine blk_drew ?_ | refine blk_alloc ?_ _)); exact BK462.out)) : gb462 ≠ gb468)); have n6_ := Aside0.mk ((by rw [hg]; exact Nat.ne_of_gt (blk_lt (g := gb462) (o := .cells #[.string t457, .int .i64 t458, .int .i64 t459, .string t460] 58 (0, 0)) (by (with_reducible repeat (first | refine blk_drewN ?_ _ | refine blk_drew ?_ | refine blk_alloc ?_ _)); exact BK462.out)) : gb468 ≠ gb462)); clear BK462; clear HB; have BK462 := n0_; have HB := n1_; have BK468 := n2_; have GW468 := n3_; have GE468 := n4_; have NB462_468 := n5_; have NB468_462 := n6_; clear n0_ n1_ n2_ n3_ n4_ n5_ n6_; clear hb hbox hg; have hnb26 := NB468_462.out; have hnc26 := NB462_468.out; have hcz27_0 : w25.cell? ⟨gb468, 0, none⟩ = some (.string (⟨#[]⟩ : ByteArray)) := (blk_cell BK468.out 0).trans rfl; have hcz27_1 : w25.cell? ⟨gb468, 1, none⟩ = some (.int .i64 0) := (blk_cell BK468.out 1).trans rfl; have hcz27_2 : w25.cell? ⟨gb468, 2, none⟩ = some (.int .i64 0) := (blk_cell BK468.out 2).trans rfl; have hcz27_3 : w25.cell? ⟨gb468, 3, none⟩ = some (.string (⟨#[]⟩ : ByteArray)) := (blk_cell BK468.out 3).trans rfl; have hfz27_0 := blk_frozen BK468.out 0; have hfz27_1 := blk_frozen BK468.out 1; have hfz27_2 := blk_frozen BK468.out 2; have hfz27_3 := blk_frozen BK468.out 3; have hcz28_0 : w25.cell? ⟨gb462, 0, none⟩ = some (.string t457) := (blk_cell BK462.out 0).trans rfl; have hcz28_1 : w25.cell? ⟨gb462, 1, none⟩ = some (.int .i64 t458) := (blk_cell BK462.out 1).trans rfl; have hcz28_2 : w25.cell? ⟨gb462, 2, none⟩ = some (.int .i64 t459) := (blk_cell BK462.out 2).trans rfl; have hcz28_3 : w25.cell? ⟨gb462, 3, none⟩ = some (.string t460) := (blk_cell BK462.out 3).trans rfl; have hfz28_0 := blk_frozen BK462.out 0; have hfz28_1 := blk_frozen BK462.out 1; have hfz28_2 := blk_frozen BK462.out 2; have hfz28_3 := blk_frozen BK462.out 3))
          go_ret
          exact ⟨by first | rfl | (simp [errW_none, errW_some] <;> rfl) | (simp [*, errW_none, errW_some] <;> rfl), by repeat (first | (with_reducible first | exact HB.out | apply below_alloc | apply pw_below_drewN | apply below_drew1 | refine below_set ?_ GE462.out | refine below_set ?_ GE468.out) | exact HB.out)⟩
def chapbooklaw06_UpdateGets.Pure : Prop := ∀ (a0 : ByteArray), a0.size ≤ 140737488351232 → ∃ k, chapbooklaw06_UpdateGets.f k a0 = some true
end Go.Proofs.YtfbdfnclkchofaaDoor.Q
