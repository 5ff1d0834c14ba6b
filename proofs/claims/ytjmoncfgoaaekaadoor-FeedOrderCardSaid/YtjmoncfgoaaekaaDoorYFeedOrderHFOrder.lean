/- FeedOrder: however rounds come, and frames are acknowledged, all that was offered, put together, is the log's beginning, in order -/
import Derived.Test.YtjmoncfgoaaekaaDoorYFeedOrderSpell
import Derived.Test.YtjmoncfgoaaekaaDoorYFeedOrderQ8
import Derived.Test.YtjmoncfgoaaekaaDoorYFeedOrderQ10
import Derived.Test.YtjmoncfgoaaekaaDoorYFeedOrderQ11
import Derived.Test.YtjmoncfgoaaekaaDoorYFeedOrderQ12
import Derived.Test.YtjmoncfgoaaekaaDoorYFeedOrderRd
import Derived.Test.YtjmoncfgoaaekaaDoorYFeedOrderWr3
import Derived.Test.YtjmoncfgoaaekaaDoorYFeedOrderUA
import Derived.Test.YtjmoncfgoaaekaaDoorYFeedOrderR7P
import Derived.Test.YtjmoncfgoaaekaaDoorYFeedOrderA15
namespace Go.Proofs.YtjmoncfgoaaekaaDoor.Q
open Go.RowKit Go.Proofs.YtjmoncfgoaaekaaDoorW.PrintWords Go.Proofs.YtjmoncfgoaaekaaDoorW.PrintLast Go.Proofs.YtjmoncfgoaaekaaDoorW.PrintMore
attribute [local go_sem] max2_int min2_int max_two min_two max_three min_three max_four min_four   -- for this text's walks alone
set_option linter.unusedVariables false
set_option linter.unusedSimpArgs false
def round_Get.l0 : Nat → Int → Int → ByteArray → Int → Int → Int → Int → List (S114) → Option (Int × Int × (List (S114)) × Int)
 | 0, _, _, _, _, _, _, _, _ => none
 | k + 1, x15, x16, x289000, x289001, x289002, x298000, x298001, x298002 => if x16 < x15 then ((update_Read.f k x289000 x289001 x289002).bind fun bt302 => (if x298002.length < 2932031007402 then (round_Get.l0 k x15 (wrap64 (x16 + 1)) bt302.2.2.2.2.1 bt302.2.2.2.2.2.1 bt302.2.2.2.2.2.2 x298000 x298001 (x298002 ++ [(⟨bt302.1, bt302.2.1, bt302.2.2.1, bt302.2.2.2.1⟩ : S114)])) else (none))) else ((pack_Reader_End.f x289000 x289001 x289002).bind fun bt312 => (if bt312.1 = 0 then (some (x298000, x298001, x298002, 0)) else (some (0, 0, ([] : List (S114)), bt312.1))))
def round_Get.f (k : Nat) (a0 : ByteArray) : Option (Int × Int × (List (S114)) × Int) := (pack_Read.f a0).bind fun bt285 => ((round_some.f k bt285.1 bt285.2.1 bt285.2.2 64).bind fun bt289 => ((round_some.f k bt289.2.1 bt289.2.2.1 bt289.2.2.2 1099511627776).bind fun bt293 => ((round_some.f k bt293.2.1 bt293.2.2.1 bt293.2.2.2 8).bind fun bt298 => (round_Get.l0 k bt298.1 0 bt298.2.1 bt298.2.2.1 bt298.2.2.2 bt289.1 bt293.1 ([] : List (S114))))))
theorem round_Get.mono_l : ∀ k, (∀ y0 y1 y2 y3 y4 y5 y6 y7, LeO (round_Get.l0 k y0 y1 y2 y3 y4 y5 y6 y7) (round_Get.l0 (k + 1) y0 y1 y2 y3 y4 y5 y6 y7))
 | 0 => fun _ _ _ _ _ _ _ _ r h => by simp [round_Get.l0] at h
 | k + 1 => by
  have ih0 := round_Get.mono_l k
  ·intro y0 y1 y2 y3 y4 y5 y6 y7
   unfold round_Get.l0
   repeat' first
   | (with_reducible exact ih0 _ _ _ _ _ _ _ _)
   | (with_reducible exact round_some.mono _ _ _ _ _)
   | (with_reducible exact update_Read.mono _ _ _ _)
   | (with_reducible exact LeO.refl _)
   | (with_reducible exact LeO.none _)
   | (with_reducible refine LeO.ite ?_ ?_)
   | (with_reducible refine LeO.bind ?_ (fun _ => ?_))
   | exact ih0 _ _ _ _ _ _ _ _
   | exact round_some.mono _ _ _ _ _
   | exact update_Read.mono _ _ _ _
   | exact LeO.none _
   | refine LeO.ite ?_ ?_
   | refine LeO.bind ?_ (fun _ => ?_)
theorem round_Get.mono : ∀ a0 k, LeO (round_Get.f k a0) (round_Get.f (k + 1) a0) := by
 intro a0 k
 have ih0 := round_Get.mono_l k
 unfold round_Get.f
 repeat' first
   | (with_reducible exact ih0 _ _ _ _ _ _ _ _)
   | (with_reducible exact round_some.mono _ _ _ _ _)
   | (with_reducible exact update_Read.mono _ _ _ _)
   | (with_reducible exact LeO.refl _)
   | (with_reducible exact LeO.none _)
   | (with_reducible refine LeO.ite ?_ ?_)
   | (with_reducible refine LeO.bind ?_ (fun _ => ?_))
   | exact ih0 _ _ _ _ _ _ _ _
   | exact round_some.mono _ _ _ _ _
   | exact update_Read.mono _ _ _ _
   | exact LeO.none _
   | refine LeO.ite ?_ ?_
   | refine LeO.bind ?_ (fun _ => ?_)
def round_Get.T5 : Bool × List (List Nat × List Nat) := (true, [([], []), ([0], [0]), ([], []), ([2], [2]), ([3], [3]), ([1, 4, 3], [1, 4]), ([0, 1, 2, 3, 4, 5], []), ([6, 5, 5, 0, 1, 2, 3, 4, 5], [5, 6])])
def round_Get.B5 : List Nat := [0, 1, 0, 4, 12, 31, 63, 127]
theorem round_Get.tab5 : rtab .any (opsOf Tryd.f29 5) = round_Get.T5 := by kernel_rfl
theorem round_Get.bits5 : waitsOk round_Get.T5.2 round_Get.B5 = true := by kernel_rfl
set_option maxHeartbeats 8000000 in
set_option maxRecDepth 100000 in
theorem round_Get.calls (k : Nat) (a0 : ByteArray) (r1 : Int) (r2 : Int) (r3 : List (S114)) (r4 : Int) (w : World) (HT : Aside0 (Tab w)) (h : round_Get.f k a0 = some (r1, r2, r3, r4)) :
  Calls Tryd.prog 29 #[.string a0] w fun e w' => ∃ v2_ : Value, e = .returned (.tuple #[.agg #[.int .i64 r1, .int .i64 r2, v2_], .int .i64 r4]) ∧ Kd.R k114 114 w' w.heap.size (fun _ => True) v2_ r3 ∧ Below w.heap.size w w' := by
 have hu43 := Tryd.underlying43
 have HB := Aside0.mk (Below.refl w.heap.size w)
 have H : ((pack_Read.f a0).bind fun bt285 => ((round_some.f k bt285.1 bt285.2.1 bt285.2.2 64).bind fun bt289 => ((round_some.f k bt289.2.1 bt289.2.2.1 bt289.2.2.2 1099511627776).bind fun bt293 => ((round_some.f k bt293.2.1 bt293.2.2.1 bt293.2.2.2 8).bind fun bt298 => (round_Get.l0 k bt298.1 0 bt298.2.1 bt298.2.2.1 bt298.2.2.2 bt289.1 bt293.1 ([] : List (S114))))))) = some (r1, r2, r3, r4) := h
 clear h
 replace H := Option.bind_eq_some_iff.mp H
 obtain ⟨⟨t285, t286, t287⟩, A20, H⟩ := H
 replace H : ((round_some.f k t285 t286 t287 64).bind fun bt289 => ((round_some.f k bt289.2.1 bt289.2.2.1 bt289.2.2.2 1099511627776).bind fun bt293 => ((round_some.f k bt293.2.1 bt293.2.2.1 bt293.2.2.2 8).bind fun bt298 => (round_Get.l0 k bt298.1 0 bt298.2.1 bt298.2.2.1 bt298.2.2.2 bt289.1 bt293.1 ([] : List (S114)))))) = some (r1, r2, r3, r4) := H
 have A2 := Aside0.mk A20
 clear A20
 replace H := Option.bind_eq_some_iff.mp H
 obtain ⟨⟨t289, t290, t291, t292⟩, A30, H⟩ := H
 replace H : ((round_some.f k t290 t291 t292 1099511627776).bind fun bt293 => ((round_some.f k bt293.2.1 bt293.2.2.1 bt293.2.2.2 8).bind fun bt298 => (round_Get.l0 k bt298.1 0 bt298.2.1 bt298.2.2.1 bt298.2.2.2 t289 bt293.1 ([] : List (S114))))) = some (r1, r2, r3, r4) := H
 have A3 := Aside0.mk A30
 clear A30
 replace H := Option.bind_eq_some_iff.mp H
 obtain ⟨⟨t293, t294, t295, t296⟩, A40, H⟩ := H
 replace H : ((round_some.f k t294 t295 t296 8).bind fun bt298 => (round_Get.l0 k bt298.1 0 bt298.2.1 bt298.2.2.1 bt298.2.2.2 t289 t293 ([] : List (S114)))) = some (r1, r2, r3, r4) := H
 have A4 := Aside0.mk A40
 clear A40
 replace H := Option.bind_eq_some_iff.mp H
 obtain ⟨⟨t298, t299, t300, t301⟩, A50, H⟩ := H
 replace H : (round_Get.l0 k t298 0 t299 t300 t301 t289 t293 ([] : List (S114))) = some (r1, r2, r3, r4) := H
 have A5 := Aside0.mk A50
 clear A50
 have H' := Aside0.mk H
 clear H
 go_enter Tryd.func29, Tryd.ntmps29
 go_wp2_with (first | ((with_reducible refine gate_dst (N := 2) rfl ?_); refine box_event ?hg (N := 2) ?hd (cs := #[.int .i64 0, .int .i64 0, .slice none 0 0]) (t := 43) ?hr ?_; (case hd => rfl); (case hg => rfl); (case hr => first | (go_simp; done) | (go_simp; rfl)); intro gb284 hg w6 hbox hb; have n0_ := Aside0.mk (below_step (by repeat (first | (with_reducible first | exact HB.out | apply below_alloc | apply pw_below_drewN | apply below_drew1) | exact HB.out)) hb); have n1_ := Aside0.mk (hbox); have n2_ := Aside0.mk ((by rw [hg]; exact (below_size (by repeat (first | (with_reducible first | exact HB.out | apply below_alloc | apply pw_below_drewN | apply below_drew1) | exact HB.out))) : w.heap.size ≤ gb284)); have n3_ := Aside0.mk ((by rw [hg]; exact (below_size (by repeat (first | (with_reducible first | exact HB.out | apply below_alloc | apply pw_below_drewN | apply below_drew1) | exact HB.out))) : w.heap.size ≤ gb284)); clear HB; have HB := n0_; have BK284 := n1_; have GW284 := n2_; have GE284 := n3_; clear n0_ n1_ n2_ n3_; clear hb hbox hg) | ((with_reducible refine gate_callee (f := 52) rfl ?_); refine goesL_ (some 8) rfl rfl Tryd.func52 (by kernel_rfl) rfl #[.string a0] rfl (by (try simp only [List.map_toArray, List.map_cons, List.map_nil]); first | done | rfl | (simp only [List.length_drop, List.length_take]; rfl)) ?_; (with_reducible refine (pack_Read.calls a0 t285 t286 t287 w _ ?side1 A2.out).mono ?_); (case side1 => repeat (first | (with_reducible first | exact HB.out | apply below_alloc | apply pw_below_drewN | apply below_drew1 | refine below_set ?_ GE284.out) | exact HB.out)); rintro e w7 ⟨g288, rfl, hi, hb, hb2⟩; refine ⟨_, rfl, ?_⟩; have n0_ := Aside0.mk (blk_below (g := gb284) (o := .cells #[.int .i64 0, .int .i64 0, .slice none 0 0] 43 (0, 0)) (by (with_reducible repeat (first | refine blk_drewN ?_ _ | refine blk_drew ?_ | refine blk_alloc ?_ _)); exact BK284.out) hb2); have n1_ := Aside0.mk (hb); have n2_ := Aside0.mk (hi); have n3_ := Aside0.mk (IsS145.ne_blk hi (blk_below (g := gb284) (o := .cells #[.int .i64 0, .int .i64 0, .slice none 0 0] 43 (0, 0)) (by (with_reducible repeat (first | refine blk_drewN ?_ _ | refine blk_drew ?_ | refine blk_alloc ?_ _)); exact BK284.out) hb2) (by decide)); have n4_ := Aside0.mk (Ne.symm (IsS145.ne_blk hi (blk_below (g := gb284) (o := .cells #[.int .i64 0, .int .i64 0, .slice none 0 0] 43 (0, 0)) (by (with_reducible repeat (first | refine blk_drewN ?_ _ | refine blk_drew ?_ | refine blk_alloc ?_ _)); exact BK284.out) hb2) (by decide))); clear BK284; clear HB; have BK284 := n0_; have HB := n1_; have HI288 := n2_; have NB288_284 := n3_; have NB284_288 := n4_; clear n0_ n1_ n2_ n3_ n4_; (try clear hb); (try clear hb2); (try clear hk); (try clear hi)) | ((with_reducible refine gate_callee (f := 53) rfl ?_); refine goesL_ (some 10) rfl rfl Tryd.func53 (by kernel_rfl) rfl #[.pointer (some ⟨g288, 0, none⟩), .int .i64 64] rfl (by (try simp only [List.map_toArray, List.map_cons, List.map_nil]); first | done | rfl | (simp only [List.length_drop, List.length_take]; rfl)) ?_; (with_reducible refine (round_some.calls k g288 t285 t286 t287 64 t289 t290 t291 t292 w _ HT ?side1 ?side2 A3.out).mono ?_); (case side1 => repeat (first | (with_reducible first | exact HI288.out | apply IsS145.alloc | apply IsS145.drewN | apply IsS145.drew | apply IsS145.set_0 | apply IsS145.set_1 | apply IsS145.set_2 | refine IsS145.far ?_ NB288_284.out _) | exact HI288.out)); (case side2 => repeat (first | (with_reducible first | exact HB.out | apply below_alloc | apply pw_below_drewN | apply below_drew1 | refine below_set ?_ (IsS145.ge HI288.out) | refine below_set ?_ GE284.out) | exact HB.out)); rintro e w8 ⟨rfl, hi, hb, hk⟩; refine ⟨_, rfl, ?_⟩; have n0_ := Aside0.mk (KeepBut.blk hk (g' := gb284) (o := .cells #[.int .i64 0, .int .i64 0, .slice none 0 0] 43 (0, 0)) (by (with_reducible repeat (first | refine blk_drewN ?_ _ | refine blk_drew ?_ | refine blk_alloc ?_ _)); exact BK284.out) NB284_288.out (by simp)); have n1_ := Aside0.mk (hb); have n2_ := Aside0.mk (hi); clear BK284; clear HB; clear HI288; have BK284 := n0_; have HB := n1_; have HI288 := n2_; clear n0_ n1_ n2_; (try clear hb); (try clear hb2); (try clear hk); (try clear hi)) | ((with_reducible refine gate_callee (f := 53) rfl ?_); refine goesL_ (some 12) rfl rfl Tryd.func53 (by kernel_rfl) rfl #[.pointer (some ⟨g288, 0, none⟩), .int .i64 1099511627776] rfl (by (try simp only [List.map_toArray, List.map_cons, List.map_nil]); first | done | rfl | (simp only [List.length_drop, List.length_take]; rfl)) ?_; (with_reducible refine (round_some.calls k g288 t290 t291 t292 1099511627776 t293 t294 t295 t296 w _ HT ?side1 ?side2 A4.out).mono ?_); (case side1 => repeat (first | (with_reducible first | exact HI288.out | apply IsS145.alloc | apply IsS145.drewN | apply IsS145.drew | apply IsS145.set_0 | apply IsS145.set_1 | apply IsS145.set_2 | refine IsS145.far ?_ NB288_284.out _) | exact HI288.out)); (case side2 => repeat (first | (with_reducible first | exact HB.out | apply below_alloc | apply pw_below_drewN | apply below_drew1 | refine below_set ?_ (IsS145.ge HI288.out) | refine below_set ?_ GE284.out) | exact HB.out)); rintro e w9 ⟨rfl, hi, hb, hk⟩; refine ⟨_, rfl, ?_⟩; have n0_ := Aside0.mk (KeepBut.blk hk (g' := gb284) (o := .cells #[.int .i64 0, .int .i64 0, .slice none 0 0] 43 (0, 0)) (by (with_reducible repeat (first | refine blk_drewN ?_ _ | refine blk_drew ?_ | refine blk_alloc ?_ _)); exact BK284.out) NB284_288.out (by simp)); have n1_ := Aside0.mk (hb); have n2_ := Aside0.mk (hi); clear BK284; clear HB; clear HI288; have BK284 := n0_; have HB := n1_; have HI288 := n2_; clear n0_ n1_ n2_; (try clear hb); (try clear hb2); (try clear hk); (try clear hi)) | ((with_reducible refine gate_dst (N := 5) rfl ?_); refine box_event ?hg (N := 5) ?hd (cs := #[.int .i64 0, .int .i64 0, .slice none 0 0]) (t := 43) ?hr ?_; (case hd => rfl); (case hg => rfl); (case hr => first | (go_simp; done) | (go_simp; rfl)); intro gb297 hg w10 hbox hb; have n0_ := Aside0.mk (blk_below (g := gb284) (o := .cells #[.int .i64 0, .int .i64 0, .slice none 0 0] 43 (0, 0)) (by (with_reducible repeat (first | refine blk_drewN ?_ _ | refine blk_drew ?_ | refine blk_alloc ?_ _)); exact BK284.out) hb); have n1_ := Aside0.mk (IsS145.below (by repeat (first | (with_reducible first | exact HI288.out | apply IsS145.alloc | apply IsS145.drewN | apply IsS145.drew | apply IsS145.set_0 | apply IsS145.set_1 | apply IsS145.set_2 | refine IsS145.far ?_ NB288_284.out _) | exact HI288.out)) hb); have n2_ := Aside0.mk (below_step (by repeat (first | (with_reducible first | exact HB.out | apply below_alloc | apply pw_below_drewN | apply below_drew1 | refine below_set ?_ (IsS145.ge HI288.out) | refine below_set ?_ GE284.out) | exact HB.out)) hb); have n3_ := Aside0.mk (hbox); have n4_ := Aside0.mk ((by rw [hg]; exact (below_size (by repeat (first | (with_reducible first | exact HB.out | apply below_alloc | apply pw_below_drewN | apply below_drew1 | refine below_set ?_ (IsS145.ge HI288.out) | refine below_set ?_ GE284.out) | exact HB.out))) : w.heap.size ≤ gb297)); have n5_ := Aside0.mk ((by rw [hg]; exact (below_size (by repeat (first | (with_reducible first | exact HB.out | apply below_alloc | apply pw_below_drewN | apply below_drew1 | refine below_set ?_ (IsS145.ge HI288.out) | refine below_set ?_ GE284.out) | exact HB.out))) : w.heap.size ≤ gb297)); have n6_ := Aside0.mk ((by rw [hg]; exact Nat.ne_of_lt (blk_lt (g := gb284) (o := .cells #[.int .i64 0, .int .i64 0, .slice none 0 0] 43 (0, 0)) (by (with_reducible repeat (first | refine blk_drewN ?_ _ | refine blk_drew ?_ | refine blk_alloc ?_ _)); exact BK284.out)) : gb284 ≠ gb297)); have n7_ := Aside0.mk ((by rw [hg]; exact Nat.ne_of_gt (blk_lt (g := gb284) (o := .cells #[.int .i64 0, .int .i64 0, .slice none 0 0] 43 (0, 0)) (by (with_reducible repeat (first | refine blk_drewN ?_ _ | refine blk_drew ?_ | refine blk_alloc ?_ _)); exact BK284.out)) : gb297 ≠ gb284)); have n8_ := Aside0.mk ((by rw [hg]; exact Nat.ne_of_lt (IsS145.lt (show IsS145 w _ g288 t294 t295 t296 from by repeat (first | (with_reducible first | exact HI288.out | apply IsS145.alloc | apply IsS145.drewN | apply IsS145.drew | apply IsS145.set_0 | apply IsS145.set_1 | apply IsS145.set_2 | refine IsS145.far ?_ NB288_284.out _) | exact HI288.out))) : g288 ≠ gb297)); have n9_ := Aside0.mk ((by rw [hg]; exact Nat.ne_of_gt (IsS145.lt (show IsS145 w _ g288 t294 t295 t296 from by repeat (first | (with_reducible first | exact HI288.out | apply IsS145.alloc | apply IsS145.drewN | apply IsS145.drew | apply IsS145.set_0 | apply IsS145.set_1 | apply IsS145.set_2 | refine IsS145.far ?_ NB288_284.out _) | exact HI288.out))) : gb297 ≠ g288)); clear BK284; clear HI288; clear HB; have BK284 := n0_; have HI288 := n1_; have HB := n2_; have BK297 := n3_; have GW297 := n4_; have GE297 := n5_; have NB284_297 := n6_; have NB297_284 := n7_; have NB288_297 := n8_; have NB297_288 := n9_; clear n0_ n1_ n2_ n3_ n4_ n5_ n6_ n7_ n8_ n9_; clear hb hbox hg; have hnb11 := NB297_284.out; have hnc11 := NB284_297.out; have hnb12 := NB297_288.out; have hnc12 := NB288_297.out; have hcz13_0 : w10.cell? ⟨gb297, 0, none⟩ = some (.int .i64 0) := (blk_cell BK297.out 0).trans rfl; have hcz13_1 : w10.cell? ⟨gb297, 1, none⟩ = some (.int .i64 0) := (blk_cell BK297.out 1).trans rfl; have hcz13_2 : w10.cell? ⟨gb297, 2, none⟩ = some (.slice none 0 0) := (blk_cell BK297.out 2).trans rfl; have hfz13_0 := blk_frozen BK297.out 0; have hfz13_1 := blk_frozen BK297.out 1; have hfz13_2 := blk_frozen BK297.out 2) | ((with_reducible refine gate_callee (f := 53) rfl ?_); refine goesL_ (some 15) rfl rfl Tryd.func53 (by kernel_rfl) rfl #[.pointer (some ⟨g288, 0, none⟩), .int .i64 8] rfl (by (try simp only [List.map_toArray, List.map_cons, List.map_nil]); first | done | rfl | (simp only [List.length_drop, List.length_take]; rfl)) ?_; (with_reducible refine (round_some.calls k g288 t294 t295 t296 8 t298 t299 t300 t301 w _ HT ?side1 ?side2 A5.out).mono ?_); (case side1 => repeat (first | (with_reducible first | exact HI288.out | apply IsS145.alloc | apply IsS145.drewN | apply IsS145.drew | apply IsS145.set_0 | apply IsS145.set_1 | apply IsS145.set_2 | refine IsS145.far ?_ NB288_284.out _ | refine IsS145.far ?_ NB288_297.out _) | exact HI288.out)); (case side2 => repeat (first | (with_reducible first | exact HB.out | apply below_alloc | apply pw_below_drewN | apply below_drew1 | refine below_set ?_ (IsS145.ge HI288.out) | refine below_set ?_ GE284.out | refine below_set ?_ GE297.out) | exact HB.out)); rintro e w14 ⟨rfl, hi, hb, hk⟩; refine ⟨_, rfl, ?_⟩; have n0_ := Aside0.mk (KeepBut.blk hk (g' := gb284) (o := .cells #[.int .i64 0, .int .i64 0, .slice none 0 0] 43 (0, 0)) (by (with_reducible repeat (first | refine blk_drewN ?_ _ | refine blk_drew ?_ | refine blk_alloc ?_ _)); refine blk_far ?_ NB284_297.out _; (with_reducible repeat (first | refine blk_drewN ?_ _ | refine blk_drew ?_ | refine blk_alloc ?_ _)); refine blk_far ?_ NB284_297.out _; (with_reducible repeat (first | refine blk_drewN ?_ _ | refine blk_drew ?_ | refine blk_alloc ?_ _)); refine blk_far ?_ NB284_297.out _; (with_reducible repeat (first | refine blk_drewN ?_ _ | refine blk_drew ?_ | refine blk_alloc ?_ _)); exact BK284.out) NB284_288.out (by simp)); have n1_ := Aside0.mk (KeepBut.blk hk (g' := gb297) (o := .cells #[.int .i64 t289, .int .i64 t293, .slice none 0 0] 43 (0, 0)) (by (with_reducible repeat (first | refine blk_drewN ?_ _ | refine blk_drew ?_ | refine blk_alloc ?_ _)); refine blk_put (cs := #[.int .i64 t289, .int .i64 t293, .slice none 0 0]) ?_ 2 _ rfl; (with_reducible repeat (first | refine blk_drewN ?_ _ | refine blk_drew ?_ | refine blk_alloc ?_ _)); refine blk_put (cs := #[.int .i64 t289, .int .i64 0, .slice none 0 0]) ?_ 1 _ rfl; (with_reducible repeat (first | refine blk_drewN ?_ _ | refine blk_drew ?_ | refine blk_alloc ?_ _)); refine blk_put (cs := #[.int .i64 0, .int .i64 0, .slice none 0 0]) ?_ 0 _ rfl; (with_reducible repeat (first | refine blk_drewN ?_ _ | refine blk_drew ?_ | refine blk_alloc ?_ _)); exact BK297.out) NB297_288.out (by simp)); have n2_ := Aside0.mk (hb); have n3_ := Aside0.mk (hi); clear BK284; clear BK297; clear HB; clear HI288; have BK284 := n0_; have BK297 := n1_; have HB := n2_; have HI288 := n3_; clear n0_ n1_ n2_ n3_; (try clear hb); (try clear hb2); (try clear hk); (try clear hi)))
 go_loopg [16] k (fun kq v16 w' => ∃ (x16_1 : Int) (x289000_1 : ByteArray) (x289001_1 : Int) (x289002_1 : Int) (x298002_1 : List (S114)) (u298002 : Value), v16 = .int .i64 x16_1 ∧ Aside0 (round_Get.l0 kq t298 x16_1 x289000_1 x289001_1 x289002_1 t289 t293 x298002_1 = some (r1, r2, r3, r4)) ∧ Aside0 (kq ≤ k) ∧ Aside0 (Kd.R k114 114 w' w.heap.size (fun _ => True) u298002 x298002_1) ∧ Aside0 (w'.heap[gb284]? = some (.cells #[.int .i64 0, .int .i64 0, (.slice none 0 0)] 43 (0, 0))) ∧ Aside0 (w'.heap[gb297]? = some (.cells #[.int .i64 t289, .int .i64 t293, u298002] 43 (0, 0))) ∧ Aside0 (IsS145 w w' g288 x289000_1 x289001_1 x289002_1) ∧ Aside0 (Below w.heap.size w w'))
 case atStart => exact ⟨(0), (t299), (t300), (t301), (([] : List (S114))), (.slice none 0 0), (by first | rfl | (simp; done) | (simp [*]; done) | (simp; exact isEmpty_bne _)), H', ⟨Nat.le_refl _⟩, ⟨by first | exact Kd.R_nil _ _ _ _ _ | exact Kd.N_nil _ _ _ _ _ | exact Kd.V_nil _ _ _ _ _ | exact Kd.Q_nil _ _ _ _ _ | exact Kd.S_nil _ _ _ _ _⟩, ⟨by (with_reducible repeat (first | refine blk_drewN ?_ _ | refine blk_drew ?_ | refine blk_alloc ?_ _)); exact BK284.out⟩, ⟨by (with_reducible repeat (first | refine blk_drewN ?_ _ | refine blk_drew ?_ | refine blk_alloc ?_ _)); exact BK297.out⟩, ⟨by repeat (first | (with_reducible first | exact HI288.out | apply IsS145.alloc | apply IsS145.drewN | apply IsS145.drew | apply IsS145.set_0 | apply IsS145.set_1 | apply IsS145.set_2 | refine IsS145.far ?_ NB288_284.out _ | refine IsS145.far ?_ NB288_297.out _) | exact HI288.out)⟩, ⟨by repeat (first | (with_reducible first | exact HB.out | apply below_alloc | apply pw_below_drewN | apply below_drew1 | refine below_set ?_ (IsS145.ge HI288.out) | refine below_set ?_ GE284.out | refine below_set ?_ GE297.out) | exact HB.out)⟩⟩
 case round =>
  clear H'
  try clear c1
  try clear c2
  try clear p2
  try clear c5
  try clear c11
  try clear c12
  try clear hcz13_0
  try clear hcz13_1
  try clear hcz13_2
  try clear hfz13_0
  try clear hfz13_1
  try clear hfz13_2
  obtain ⟨x16_1, x289000_1, x289001_1, x289002_1, x298002_1, u298002, rfl, HA, HK1, HO_298002, BK284, BK297, HI288, HB⟩ := hrel
  cases gk with
  | zero => exact absurd HA.out (by simp [round_Get.l0])
  | succ k1 =>
   have H := HA.out
   clear HA
   simp only [round_Get.l0] at H
   by_cases c15 : x16_1 < t298
   ·rw [if_pos c15] at H
    have c15b0 : decide (x16_1 < t298) = true := decide_eq_true c15
    clear c15
    replace H := Option.bind_eq_some_iff.mp H
    obtain ⟨⟨t302, t303, t304, t305, t306, t307, t308⟩, A160, H⟩ := H
    replace H : (if x298002_1.length < 2932031007402 then (round_Get.l0 k1 t298 (wrap64 (x16_1 + 1)) t306 t307 t308 t289 t293 (x298002_1 ++ [(⟨t302, t303, t304, t305⟩ : S114)])) else (none)) = some (r1, r2, r3, r4) := H
    have A16 := Aside0.mk A160
    clear A160
    by_cases c17 : x298002_1.length < 2932031007402
    ·rw [if_pos c17] at H
     have LMc17 := Aside0.mk c17
     clear c17
     obtain ⟨y309, hy309⟩ : ∃ y_ : List (S114), y_ = (x298002_1 ++ [(⟨t302, t303, t304, t305⟩ : S114)]) := ⟨_, rfl⟩
     replace H : (round_Get.l0 k1 t298 (wrap64 (x16_1 + 1)) t306 t307 t308 t289 t293 y309) = some (r1, r2, r3, r4) := by first | (rw [hy309]; with_reducible exact H) | (have H2_ := (Option.bind_some _ _).symm.trans H; rw [hy309]; with_reducible exact H2_) | (have H2_ := (Option.bind_some _ _).symm.trans H; with_reducible exact H2_) | with_reducible exact H | (rw [hy309]; exact H) | exact H
     have Ny309 := Aside0.mk hy309
     clear hy309
     have H' := Aside0.mk H
     clear H
     try go_wp2
     have n0_ := Aside0.mk (Kd.R_drew HO_298002.out)
     have n1_ := Aside0.mk (blk_drew BK284.out)
     have n2_ := Aside0.mk (blk_drew BK297.out)
     have n3_ := Aside0.mk (IsS145.drew HI288.out)
     have n4_ := Aside0.mk (below_drew1 HB.out)
     clear HO_298002
     clear BK284
     clear BK297
     clear HI288
     clear HB
     have HO_298002 := n0_
     have BK284 := n1_
     have BK297 := n2_
     have HI288 := n3_
     have HB := n4_
     clear n0_ n1_ n2_ n3_ n4_
     refine start_ (n := 8) (S := fun w' => w'.cell? ⟨gb297, 0, none⟩ = some (.int .i64 t289) ∧ w'.cell? ⟨gb297, 1, none⟩ = some (.int .i64 t293) ∧ w'.cell? ⟨gb297, 2, none⟩ = some (u298002)) (ds := [7]) #[false, false, false, false, false, false, false, false] (by kernel_rfl) rfl rfl ⟨(blk_cell BK297.out 0).trans rfl, (blk_cell BK297.out 1).trans rfl, (blk_cell BK297.out 2).trans rfl⟩ (fun hHeld => ?_); refine with_tabW round_Get.tab5 round_Get.bits5 (fun HT_ HW_ => ?_)
     generalize wr.drew = w18 at HO_298002 BK284 BK297 HI288 HB hHeld ⊢
     refine pure_ (i := 0) (N := some 18) (v := ?_) (a' := ?_) #[true, false, false, false, false, false, false, false] rfl rfl (any_of HT_.out (by kernel_rfl)) (fun _ _ _ h => h) (Or.inl ⟨by rfl, ?_⟩) ?_ ?_
     rotate_left
     ·intro w'
      go_simp
      with_reducible rfl
     rotate_left
     ·simp only [Act.put, List.setIfInBounds_toArray, List.set_cons_zero, List.set_cons_succ, i64_w, i32_w]
      rfl
     refine pure_ (i := 2) (N := some 20) (v := ?_) (a' := ?_) #[true, false, true, false, false, false, false, false] rfl rfl (any_of HT_.out (by kernel_rfl)) (fun _ _ _ h => h) (Or.inl ⟨by rfl, ?_⟩) ?_ ?_
     rotate_left
     ·intro w'
      go_simp
      with_reducible rfl
     rotate_left
     ·simp only [Act.put, List.setIfInBounds_toArray, List.set_cons_zero, List.set_cons_succ, i64_w, i32_w]
      rfl
     refine take_ (i := 1) (N := some 19) (v := ?_) (a' := ?_) #[true, true, true, false, false, false, false, false] rfl rfl (take_ofW HT_.out HW_.out (by kernel_rfl)) (fun _ _ _ h => h) (Or.inl ⟨by rfl, ?_⟩) hHeld ?_ ?_
     rotate_left
     ·rintro w' ⟨s0, s1, s2⟩
      go_simp
      with_reducible rfl
     rotate_left
     ·simp only [Act.put, List.setIfInBounds_toArray, List.set_cons_zero, List.set_cons_succ, i64_w, i32_w]
      rfl
     refine one_ (i := 3) (N := some 21) #[true, true, true, true, false, false, false, false] rfl rfl (one_of HT_.out (by kernel_rfl)) (by decide) (fun K hK => ?_)
     refine goes_ Tryd.func54 (by kernel_rfl) rfl #[.pointer (some ⟨g288, 0, none⟩)] (by rfl) rfl rfl (by (try simp only [List.map_toArray, List.map_cons, List.map_nil]); first | done | rfl | (simp only [List.length_drop, List.length_take]; rfl)) ?_
     with_reducible refine (update_Read.calls k1 g288 x289000_1 x289001_1 x289002_1 t302 t303 t304 t305 t306 t307 t308 w _ HT ?side1 ?side2 A16.out).mono ?_
     (case side1 => repeat (first | (with_reducible first | exact HI288.out | apply IsS145.alloc | apply IsS145.drewN | apply IsS145.drew | apply IsS145.set_0 | apply IsS145.set_1 | apply IsS145.set_2 | refine IsS145.far ?_ NB288_284.out _ | refine IsS145.far ?_ NB288_297.out _) | exact HI288.out))
     (case side2 => repeat (first | (with_reducible first | exact HB.out | apply below_alloc | apply pw_below_drewN | apply below_drew1 | refine below_set ?_ (IsS145.ge HI288.out) | refine below_set ?_ GE284.out | refine below_set ?_ GE297.out) | exact HB.out))
     rintro e w19 ⟨rfl, hi, hb, hk⟩
     refine ⟨_, rfl, ?_⟩
     have n0_ := Aside0.mk (Kd.R_mono (Kd.R_keep (IsS145.apart (show IsS145 w _ g288 x289000_1 x289001_1 x289002_1 from by repeat (first | (with_reducible first | exact HI288.out | apply IsS145.alloc | apply IsS145.drewN | apply IsS145.drew | apply IsS145.set_0 | apply IsS145.set_1 | apply IsS145.set_2 | refine IsS145.far ?_ NB288_284.out _ | refine IsS145.far ?_ NB288_297.out _) | exact HI288.out)) (by (with_reducible repeat (first | apply Kd.R_alloc | apply Kd.R_drewN | apply Kd.R_drew)); exact HO_298002.out) (by decide)) hk (fun _ h => h.2)) (fun _ h => h.1))
     have n1_ := Aside0.mk (KeepBut.blk hk (g' := gb284) (o := .cells #[.int .i64 0, .int .i64 0, .slice none 0 0] 43 (0, 0)) (by (with_reducible repeat (first | refine blk_drewN ?_ _ | refine blk_drew ?_ | refine blk_alloc ?_ _)); exact BK284.out) NB284_288.out (by simp))
     have n2_ := Aside0.mk (KeepBut.blk hk (g' := gb297) (o := .cells #[.int .i64 t289, .int .i64 t293, u298002] 43 (0, 0)) (by (with_reducible repeat (first | refine blk_drewN ?_ _ | refine blk_drew ?_ | refine blk_alloc ?_ _)); exact BK297.out) NB297_288.out (by simp))
     have n3_ := Aside0.mk (hb)
     have n4_ := Aside0.mk (hi)
     clear HO_298002
     clear BK284
     clear BK297
     clear HB
     clear HI288
     have HO_298002 := n0_
     have BK284 := n1_
     have BK297 := n2_
     have HB := n3_
     have HI288 := n4_
     clear n0_ n1_ n2_ n3_ n4_
     (try clear hb)
     (try clear hb2)
     (try clear hk)
     (try clear hi)
     refine hK.out _ _ ⟨(blk_cell BK297.out 0).trans rfl, (blk_cell BK297.out 1).trans rfl, (blk_cell BK297.out 2).trans rfl⟩ (fun hHeld => ?_)
     clear hK K
     refine norm_ (a' := ?_) ?_ ?_
     rotate_left
     ·show Act.put _ (some 21) _ = _
      simp only [Act.put, List.setIfInBounds_toArray, List.set_cons_zero, List.set_cons_succ, i64_w, i32_w]
      rfl
     refine one_ (i := 4) (N := some 22) #[true, true, true, true, true, false, false, false] rfl rfl (one_of HT_.out (by kernel_rfl)) (by decide) (fun K hK => ?_)
     refine value_ (w1 := ?_) (v := ?_) (by rfl) rfl ?_ ?_
     rotate_left 2
     ·go_simp
      constructor
      ·rfl
      ·rfl
     refine hK.out _ _ ⟨(blk_cell (blk_alloc BK297.out _) 0).trans rfl, (blk_cell (blk_alloc BK297.out _) 1).trans rfl, (blk_cell (blk_alloc BK297.out _) 2).trans rfl⟩ (fun hHeld => ?_)
     clear hK K
     refine norm_ (a' := ?_) ?_ ?_
     rotate_left
     ·show Act.put _ (some 22) _ = _
      simp only [Act.put, List.setIfInBounds_toArray, List.set_cons_zero, List.set_cons_succ, i64_w, i32_w]
      rfl
     refine one_ (i := 5) (N := some 23) #[true, true, true, true, true, true, false, false] rfl rfl (one_of HT_.out (by kernel_rfl)) (by decide) (fun K hK => ?_)
     refine Kd.R_append_step k114 (w0 := w) w.heap.size (by rfl) (.tmp 19) (.tmp 22) 41 114 (.agg #[(.string ⟨#[]⟩), (.int .i64 0), (.int .i64 0), (.string ⟨#[]⟩)]) 48 rfl Tryd.underlying41 info114 rfl (by decide) (by omega) u298002 x298002_1 (⟨t302, t303, t304, t305⟩ : S114) [.string t302, .int .i64 t303, .int .i64 t304, .string t305] (fun _ => True) (fun _ => False) rfl rfl ?aP (fun _ hk => hk.elim) ?aF ?aO ?aB ?aS ?aL ?_
     (case aP => exact k114_mkM _ _ _ (⟨t302, t303, t304, t305⟩ : S114))
     (case aB => exact (by repeat (first | (with_reducible first | exact HB.out | apply below_alloc | apply pw_below_drewN | apply below_drew1 | refine below_set ?_ (IsS145.ge HI288.out) | refine below_set ?_ GE284.out | refine below_set ?_ GE297.out) | exact HB.out)))
     (case aF => exact (fun _ _ => trivial))
     (case aO => exact (by (with_reducible repeat (first | apply Kd.R_alloc | apply Kd.R_drewN | apply Kd.R_drew)); exact HO_298002.out))
     (case aS => exact (below_size (by repeat (first | (with_reducible first | exact HB.out | apply below_alloc | apply pw_below_drewN | apply below_drew1 | refine below_set ?_ (IsS145.ge HI288.out) | refine below_set ?_ GE284.out | refine below_set ?_ GE297.out) | exact HB.out))))
     (case aL => have := LMc17.out; omega)
     intro v310 w20 ho hb hg hat
     rw [← Ny309.out] at ho
     have n0_ := Aside0.mk (blk_grown (g := gb284) (o := .cells #[.int .i64 0, .int .i64 0, .slice none 0 0] 43 (0, 0)) (by (with_reducible repeat (first | refine blk_drewN ?_ _ | refine blk_drew ?_ | refine blk_alloc ?_ _)); exact BK284.out) hg (Kd.R_ne HO_298002.out BK284.out (by decide)))
     have n1_ := Aside0.mk (blk_grown (g := gb297) (o := .cells #[.int .i64 t289, .int .i64 t293, u298002] 43 (0, 0)) (by (with_reducible repeat (first | refine blk_drewN ?_ _ | refine blk_drew ?_ | refine blk_alloc ?_ _)); exact BK297.out) hg (Kd.R_ne HO_298002.out BK297.out (by decide)))
     have n2_ := Aside0.mk (IsS145.grown (by repeat (first | (with_reducible first | exact HI288.out | apply IsS145.alloc | apply IsS145.drewN | apply IsS145.drew | apply IsS145.set_0 | apply IsS145.set_1 | apply IsS145.set_2 | refine IsS145.far ?_ NB288_284.out _ | refine IsS145.far ?_ NB288_297.out _) | exact HI288.out)) hg (IsS145.own_ne HI288.out HO_298002.out (by decide)))
     have n3_ := Aside0.mk (hb)
     have n4_ := Aside0.mk (ho)
     clear BK284
     clear BK297
     clear HI288
     clear HB
     clear HO_298002
     have BK284 := n0_
     have BK297 := n1_
     have HI288 := n2_
     have HB := n3_
     have HO311 := n4_
     clear n0_ n1_ n2_ n3_ n4_
     clear ho hb hg hat
     obtain ⟨Ao21, co21, eo21⟩ := Kd.R_slice HO311.out
     (first | subst eo21 | (injection eo21 with f1_ f2_ f3_; have f4_ := f1_.symm; have f5_ := f3_.symm; clear f1_ f2_ f3_; subst f4_; subst f5_))
     refine hK.out _ _ ⟨(blk_cell BK297.out 0).trans rfl, (blk_cell BK297.out 1).trans rfl, (blk_cell BK297.out 2).trans rfl⟩ (fun hHeld => ?_)
     clear hK K
     refine norm_ (a' := ?_) ?_ ?_
     rotate_left
     ·show Act.put _ (some 23) _ = _
      simp only [Act.put, List.setIfInBounds_toArray, List.set_cons_zero, List.set_cons_succ, i64_w, i32_w]
      rfl
     refine pure_ (i := 6) (N := some 24) (v := ?_) (a' := ?_) #[true, true, true, true, true, true, true, false] rfl rfl (any_of HT_.out (by kernel_rfl)) (fun _ _ _ h => h) (Or.inl ⟨by rfl, ?_⟩) ?_ ?_
     rotate_left
     ·intro w'
      go_simp
      with_reducible rfl
     rotate_left
     ·simp only [Act.put, List.setIfInBounds_toArray, List.set_cons_zero, List.set_cons_succ, i64_w, i32_w]
      rfl
     refine last_ (i := 7) (N := none) #[true, true, true, true, true, true, true, true] rfl rfl (one_of HT_.out (by kernel_rfl)) (by decide) (fun K hK => ?_)
     have hs22 : w20.cell? ⟨gb297, 2, none⟩ = some (u298002) := (blk_cell BK297.out 2).trans rfl
     have hfs22 := blk_frozen BK297.out 2
     have hns22_0 := NB284_297.out
     have hms22_0 := NB297_284.out
     refine skip_ (w1 := ?_) (by rfl) rfl ?_ ?_
     rotate_left
     ·go_simp
      rfl
     refine hK.out _ _ ?_
     clear hK K
     refine done_ (done_of HT_.out (by kernel_rfl)) ?_
     try go_wp2
     go_roundg k1
     case measure => have := HK1.out; omega
     case rel => exact ⟨(wrap64 (x16_1 + 1)), (t306), (t307), (t308), (y309), (.slice Ao21 y309.length co21), (by first | rfl | (simp; done) | (simp [*]; done) | (simp; exact isEmpty_bne _)), H', ⟨by have := HK1.out; omega⟩, ⟨by (with_reducible repeat (first | apply Kd.R_alloc | apply Kd.R_drewN | apply Kd.R_drew)); exact Kd.R_mono (Kd.R_far (p := ⟨gb297, 2, none⟩) (Kd.R_types HO311.out BK297.out (by decide)) (fun _ hk => hk.2) (.slice Ao21 y309.length co21)) (fun _ hk => trivial)⟩, ⟨by (with_reducible repeat (first | refine blk_drewN ?_ _ | refine blk_drew ?_ | refine blk_alloc ?_ _)); refine blk_far ?_ NB284_297.out _; (with_reducible repeat (first | refine blk_drewN ?_ _ | refine blk_drew ?_ | refine blk_alloc ?_ _)); exact BK284.out⟩, ⟨by (with_reducible repeat (first | refine blk_drewN ?_ _ | refine blk_drew ?_ | refine blk_alloc ?_ _)); refine blk_put (cs := #[.int .i64 t289, .int .i64 t293, u298002]) ?_ 2 _ rfl; (with_reducible repeat (first | refine blk_drewN ?_ _ | refine blk_drew ?_ | refine blk_alloc ?_ _)); exact BK297.out⟩, ⟨by repeat (first | (with_reducible first | exact HI288.out | apply IsS145.alloc | apply IsS145.drewN | apply IsS145.drew | apply IsS145.set_0 | apply IsS145.set_1 | apply IsS145.set_2 | refine IsS145.far ?_ NB288_284.out _ | refine IsS145.far ?_ NB288_297.out _) | exact HI288.out)⟩, ⟨by repeat (first | (with_reducible first | exact HB.out | apply below_alloc | apply pw_below_drewN | apply below_drew1 | refine below_set ?_ (IsS145.ge HI288.out) | refine below_set ?_ GE284.out | refine below_set ?_ GE297.out) | exact HB.out)⟩⟩
    ·rw [if_neg c17] at H
     exact absurd H (by simp)
   ·rw [if_neg c15] at H
    have c15b0 : decide (x16_1 < t298) = false := decide_eq_false c15
    clear c15
    replace H := Option.bind_eq_some_iff.mp H
    obtain ⟨⟨t312, t313, t314, t315⟩, A230, H⟩ := H
    replace H : (if t312 = 0 then (some (t289, t293, x298002_1, 0)) else (some (0, 0, ([] : List (S114)), t312))) = some (r1, r2, r3, r4) := H
    have A23 := Aside0.mk A230
    clear A230
    by_cases c24 : t312 = 0
    ·rw [if_pos c24] at H
     have c24b0 : (t312 == 0) = true := beq_iff_eq.mpr c24
     have c24b1 : (t312 != 0) = false := bne_eq_false_iff_eq.mpr c24
     clear c24
     simp only [Option.some.injEq, Prod.mk.injEq] at H
     obtain ⟨rfl, rfl, rfl, rfl⟩ := H
     go_wp2_with (first | ((with_reducible refine gate_callee (f := 55) rfl ?_); refine goesL_ (some 27) rfl rfl Tryd.func55 (by kernel_rfl) rfl #[.pointer (some ⟨g288, 0, none⟩)] rfl (by (try simp only [List.map_toArray, List.map_cons, List.map_nil]); first | done | rfl | (simp only [List.length_drop, List.length_take]; rfl)) ?_; (with_reducible refine (pack_Reader_End.calls g288 x289000_1 x289001_1 x289002_1 t312 t313 t314 t315 w _ ?side1 ?side2 A23.out).mono ?_); (case side1 => repeat (first | (with_reducible first | exact HI288.out | apply IsS145.alloc | apply IsS145.drewN | apply IsS145.drew | apply IsS145.set_0 | apply IsS145.set_1 | apply IsS145.set_2 | refine IsS145.far ?_ NB288_284.out _ | refine IsS145.far ?_ NB288_297.out _) | exact HI288.out)); (case side2 => repeat (first | (with_reducible first | exact HB.out | apply below_alloc | apply pw_below_drewN | apply below_drew1 | refine below_set ?_ (IsS145.ge HI288.out) | refine below_set ?_ GE284.out | refine below_set ?_ GE297.out) | exact HB.out)); rintro e w25 ⟨rfl, hi, hb, hk⟩; refine ⟨_, rfl, ?_⟩; have n0_ := Aside0.mk (Kd.R_mono (Kd.R_keep (IsS145.apart (show IsS145 w _ g288 x289000_1 x289001_1 x289002_1 from by repeat (first | (with_reducible first | exact HI288.out | apply IsS145.alloc | apply IsS145.drewN | apply IsS145.drew | apply IsS145.set_0 | apply IsS145.set_1 | apply IsS145.set_2 | refine IsS145.far ?_ NB288_284.out _ | refine IsS145.far ?_ NB288_297.out _) | exact HI288.out)) (by (with_reducible repeat (first | apply Kd.R_alloc | apply Kd.R_drewN | apply Kd.R_drew)); exact HO_298002.out) (by decide)) hk (fun _ h => h.2)) (fun _ h => h.1)); have n1_ := Aside0.mk (KeepBut.blk hk (g' := gb284) (o := .cells #[.int .i64 0, .int .i64 0, .slice none 0 0] 43 (0, 0)) (by (with_reducible repeat (first | refine blk_drewN ?_ _ | refine blk_drew ?_ | refine blk_alloc ?_ _)); exact BK284.out) NB284_288.out (by simp)); have n2_ := Aside0.mk (KeepBut.blk hk (g' := gb297) (o := .cells #[.int .i64 t289, .int .i64 t293, u298002] 43 (0, 0)) (by (with_reducible repeat (first | refine blk_drewN ?_ _ | refine blk_drew ?_ | refine blk_alloc ?_ _)); exact BK297.out) NB297_288.out (by simp)); have n3_ := Aside0.mk (hb); have n4_ := Aside0.mk (hi); clear HO_298002; clear BK284; clear BK297; clear HB; clear HI288; have HO_298002 := n0_; have BK284 := n1_; have BK297 := n2_; have HB := n3_; have HI288 := n4_; clear n0_ n1_ n2_ n3_ n4_; (try clear hb); (try clear hb2); (try clear hk); (try clear hi); have hnb26 := NB297_284.out; have hnc26 := NB284_297.out; have hnb27 := NB297_288.out; have hnc27 := NB288_297.out; have hcz28_0 : w25.cell? ⟨gb297, 0, none⟩ = some (.int .i64 t289) := (blk_cell BK297.out 0).trans rfl; have hcz28_1 : w25.cell? ⟨gb297, 1, none⟩ = some (.int .i64 t293) := (blk_cell BK297.out 1).trans rfl; have hcz28_2 : w25.cell? ⟨gb297, 2, none⟩ = some (u298002) := (blk_cell BK297.out 2).trans rfl; have hfz28_0 := blk_frozen BK297.out 0; have hfz28_1 := blk_frozen BK297.out 1; have hfz28_2 := blk_frozen BK297.out 2; have hnb29 := NB284_288.out; have hnc29 := NB288_284.out; have hcz30_0 : w25.cell? ⟨gb284, 0, none⟩ = some (.int .i64 0) := (blk_cell BK284.out 0).trans rfl; have hcz30_1 : w25.cell? ⟨gb284, 1, none⟩ = some (.int .i64 0) := (blk_cell BK284.out 1).trans rfl; have hcz30_2 : w25.cell? ⟨gb284, 2, none⟩ = some (.slice none 0 0) := (blk_cell BK284.out 2).trans rfl; have hfz30_0 := blk_frozen BK284.out 0; have hfz30_1 := blk_frozen BK284.out 1; have hfz30_2 := blk_frozen BK284.out 2; obtain ⟨Ao31, co31, eo31⟩ := Kd.R_slice HO_298002.out; subst eo31))
     refine bodyPost_ret (results_ct rfl _ _ gb284 43 #[.int .i64 t289, .int .i64 t293, .slice Ao31 x298002_1.length co31] (0, 0) _ rfl (by (with_reducible repeat (first | refine blk_drewN ?_ _ | refine blk_drew ?_ | refine blk_alloc ?_ _)); refine blk_put (cs := #[.int .i64 t289, .int .i64 t293, .slice none 0 0]) ?_ 2 _ rfl; (with_reducible repeat (first | refine blk_drewN ?_ _ | refine blk_drew ?_ | refine blk_alloc ?_ _)); refine blk_put (cs := #[.int .i64 t289, .int .i64 0, .slice none 0 0]) ?_ 1 _ rfl; (with_reducible repeat (first | refine blk_drewN ?_ _ | refine blk_drew ?_ | refine blk_alloc ?_ _)); refine blk_put (cs := #[.int .i64 0, .int .i64 0, .slice none 0 0]) ?_ 0 _ rfl; (with_reducible repeat (first | refine blk_drewN ?_ _ | refine blk_drew ?_ | refine blk_alloc ?_ _)); exact BK284.out) Tryd.underlying43 rfl (by kernel_rfl)) rfl ?_
     exact ⟨_, by first | rfl | (simp [errW_none, errW_some] <;> rfl) | (simp [*, errW_none, errW_some] <;> rfl), by (with_reducible repeat (first | apply Kd.R_alloc | apply Kd.R_drewN | apply Kd.R_drew)); exact Kd.R_mono (Kd.R_far (p := ⟨gb284, 2, none⟩) (Kd.R_far (p := ⟨gb284, 1, none⟩) (Kd.R_far (p := ⟨gb284, 0, none⟩) (Kd.R_types HO_298002.out BK284.out (by decide)) (fun _ hk => hk.2) (.int .i64 t289)) (fun _ hk => hk.2) (.int .i64 t293)) (fun _ hk => hk.2) (.slice Ao31 x298002_1.length co31)) (fun _ hk => trivial), by repeat (first | (with_reducible first | exact HB.out | apply below_alloc | apply pw_below_drewN | apply below_drew1 | refine below_set ?_ (IsS145.ge HI288.out) | refine below_set ?_ GE284.out | refine below_set ?_ GE297.out) | exact HB.out)⟩
    ·rw [if_neg c24] at H
     have c24b0 : (t312 == 0) = false := beq_eq_false_iff_ne.mpr c24
     have c24b1 : (t312 != 0) = true := bne_iff_ne.mpr c24
     simp only [Option.some.injEq, Prod.mk.injEq] at H
     obtain ⟨rfl, rfl, rfl, rfl⟩ := H
     go_wp2_with (first | ((with_reducible refine gate_callee (f := 55) rfl ?_); refine goesL_ (some 27) rfl rfl Tryd.func55 (by kernel_rfl) rfl #[.pointer (some ⟨g288, 0, none⟩)] rfl (by (try simp only [List.map_toArray, List.map_cons, List.map_nil]); first | done | rfl | (simp only [List.length_drop, List.length_take]; rfl)) ?_; (with_reducible refine (pack_Reader_End.calls g288 x289000_1 x289001_1 x289002_1 t312 t313 t314 t315 w _ ?side1 ?side2 A23.out).mono ?_); (case side1 => repeat (first | (with_reducible first | exact HI288.out | apply IsS145.alloc | apply IsS145.drewN | apply IsS145.drew | apply IsS145.set_0 | apply IsS145.set_1 | apply IsS145.set_2 | refine IsS145.far ?_ NB288_284.out _ | refine IsS145.far ?_ NB288_297.out _) | exact HI288.out)); (case side2 => repeat (first | (with_reducible first | exact HB.out | apply below_alloc | apply pw_below_drewN | apply below_drew1 | refine below_set ?_ (IsS145.ge HI288.out) | refine below_set ?_ GE284.out | refine below_set ?_ GE297.out) | exact HB.out)); rintro e w32 ⟨rfl, hi, hb, hk⟩; refine ⟨_, rfl, ?_⟩; have n0_ := Aside0.mk (Kd.R_mono (Kd.R_keep (IsS145.apart (show IsS145 w _ g288 x289000_1 x289001_1 x289002_1 from by repeat (first | (with_reducible first | exact HI288.out | apply IsS145.alloc | apply IsS145.drewN | apply IsS145.drew | apply IsS145.set_0 | apply IsS145.set_1 | apply IsS145.set_2 | refine IsS145.far ?_ NB288_284.out _ | refine IsS145.far ?_ NB288_297.out _) | exact HI288.out)) (by (with_reducible repeat (first | apply Kd.R_alloc | apply Kd.R_drewN | apply Kd.R_drew)); exact HO_298002.out) (by decide)) hk (fun _ h => h.2)) (fun _ h => h.1)); have n1_ := Aside0.mk (KeepBut.blk hk (g' := gb284) (o := .cells #[.int .i64 0, .int .i64 0, .slice none 0 0] 43 (0, 0)) (by (with_reducible repeat (first | refine blk_drewN ?_ _ | refine blk_drew ?_ | refine blk_alloc ?_ _)); exact BK284.out) NB284_288.out (by simp)); have n2_ := Aside0.mk (KeepBut.blk hk (g' := gb297) (o := .cells #[.int .i64 t289, .int .i64 t293, u298002] 43 (0, 0)) (by (with_reducible repeat (first | refine blk_drewN ?_ _ | refine blk_drew ?_ | refine blk_alloc ?_ _)); exact BK297.out) NB297_288.out (by simp)); have n3_ := Aside0.mk (hb); have n4_ := Aside0.mk (hi); clear HO_298002; clear BK284; clear BK297; clear HB; clear HI288; have HO_298002 := n0_; have BK284 := n1_; have BK297 := n2_; have HB := n3_; have HI288 := n4_; clear n0_ n1_ n2_ n3_ n4_; (try clear hb); (try clear hb2); (try clear hk); (try clear hi); have hnb33 := NB284_297.out; have hnc33 := NB297_284.out; have hnb34 := NB284_288.out; have hnc34 := NB288_284.out; have hcz35_0 : w32.cell? ⟨gb284, 0, none⟩ = some (.int .i64 0) := (blk_cell BK284.out 0).trans rfl; have hcz35_1 : w32.cell? ⟨gb284, 1, none⟩ = some (.int .i64 0) := (blk_cell BK284.out 1).trans rfl; have hcz35_2 : w32.cell? ⟨gb284, 2, none⟩ = some (.slice none 0 0) := (blk_cell BK284.out 2).trans rfl; have hfz35_0 := blk_frozen BK284.out 0; have hfz35_1 := blk_frozen BK284.out 1; have hfz35_2 := blk_frozen BK284.out 2))
     refine bodyPost_ret (results_ct rfl _ _ gb284 43 #[.int .i64 0, .int .i64 0, .slice none 0 0] (0, 0) _ rfl (by (with_reducible repeat (first | refine blk_drewN ?_ _ | refine blk_drew ?_ | refine blk_alloc ?_ _)); refine blk_put (cs := #[.int .i64 0, .int .i64 0, .slice none 0 0]) ?_ 2 _ rfl; (with_reducible repeat (first | refine blk_drewN ?_ _ | refine blk_drew ?_ | refine blk_alloc ?_ _)); refine blk_put (cs := #[.int .i64 0, .int .i64 0, .slice none 0 0]) ?_ 1 _ rfl; (with_reducible repeat (first | refine blk_drewN ?_ _ | refine blk_drew ?_ | refine blk_alloc ?_ _)); refine blk_put (cs := #[.int .i64 0, .int .i64 0, .slice none 0 0]) ?_ 0 _ rfl; (with_reducible repeat (first | refine blk_drewN ?_ _ | refine blk_drew ?_ | refine blk_alloc ?_ _)); exact BK284.out) Tryd.underlying43 rfl (by kernel_rfl)) rfl ?_
     exact ⟨_, by first | rfl | (simp [errW_none, errW_some] <;> rfl) | (simp [*, errW_none, errW_some] <;> rfl), by first | exact Kd.R_nil _ _ _ _ _ | exact Kd.N_nil _ _ _ _ _ | exact Kd.V_nil _ _ _ _ _ | exact Kd.Q_nil _ _ _ _ _ | exact Kd.S_nil _ _ _ _ _, by repeat (first | (with_reducible first | exact HB.out | apply below_alloc | apply pw_below_drewN | apply below_drew1 | refine below_set ?_ (IsS145.ge HI288.out) | refine below_set ?_ GE284.out | refine below_set ?_ GE297.out) | exact HB.out)⟩
end Go.Proofs.YtjmoncfgoaaekaaDoor.Q
namespace Go.Proofs.YtjmoncfgoaaekaaDoor.Pure
set_option linter.unusedSimpArgs false
open Go Go.RowKit Go.Proofs.YtjmoncfgoaaekaaDoorW.PrintWords Go.Proofs.YtjmoncfgoaaekaaDoorW.PrintLast Go.Proofs.YtjmoncfgoaaekaaDoorW.PrintMore Go.Proofs.YtjmoncfgoaaekaaDoor.Q
abbrev UR := ByteArray × Int × Int × ByteArray × Int × Int
def noU (p e : Int) : UR := (nil', 0, 0, nil', p, e)
def tailU (b : ByteArray) (p e : Int) (key : ByteArray) (c : Int) : UR :=
 if c = 1 ∨ c = 3 then (if (sgnR b p e).2.2 = 0 then (key, c, (sgnR b p e).1, nil', (sgnR b p e).2.1, 0) else noU (sgnR b p e).2.1 (sgnR b p e).2.2)
 else if c = 2 ∨ c = 4 then (if (txtR b p e 32).2.2 = 0 then (key, c, 0, (txtR b p e 32).1, (txtR b p e 32).2.1, 0) else noU (txtR b p e 32).2.1 (txtR b p e 32).2.2)
 else (if e = 0 then (key, c, 0, nil', p, 0) else noU p e)
def keyU (b : ByteArray) (p : Int) (c : Int) : UR :=
 if (txtR b p 0 16).2.2 = 0 then (if (txtR b p 0 16).1.toList = [] then noU (txtR b p 0 16).2.1 1 else tailU b (txtR b p 0 16).2.1 0 (txtR b p 0 16).1 c) else noU (txtR b p 0 16).2.1 (txtR b p 0 16).2.2
def readU (b : ByteArray) (p e : Int) : UR :=
 if (numR b p e 5).2.2 = 0 then (if (numR b p e 5).1 = 0 then noU (numR b p e 5).2.1 5 else keyU b (numR b p e 5).2.1 (numR b p e 5).1) else noU (numR b p e 5).2.1 (numR b p e 5).2.2
def outU (b : ByteArray) (r : UR) : ByteArray × Int × Int × ByteArray × ByteArray × Int × Int := (r.1, r.2.1, r.2.2.1, r.2.2.2.1, b, r.2.2.2.2.1, r.2.2.2.2.2)
theorem err_ok (b : ByteArray) (p e : Int) : pack_Reader_Err.f b p e = some (e, b, p, e) := rfl
theorem ptail (k : Nat) (b : ByteArray) (p e : Int) (key : ByteArray) (c : Int) (hs : b.size ≤ 140737488351232) (h0 : 0 ≤ p) (h1 : p ≤ b.size) : update_Read.j1 (k + 17) b p e key c 0 nil' = some (outU b (tailU b p e key c)) := by
 have j3 : ∀ q, update_Read.j3 (k + 15) q b p e key c 0 nil' = some (outU b (if q = true then (if (txtR b p e 32).2.2 = 0 then (key, c, 0, (txtR b p e 32).1, (txtR b p e 32).2.1, 0) else noU (txtR b p e 32).2.1 (txtR b p e 32).2.2) else (if e = 0 then (key, c, 0, nil', p, 0) else noU p e))) := by
  intro q
  simp only [update_Read.j3]
  by_cases hq : q = true
  ·rw [if_pos hq, if_pos hq, ptxt k b p e 32 hs h0 h1, Option.bind_some]
   simp only
   rw [err_ok, Option.bind_some]
   simp only
   by_cases he : (txtR b p e 32).2.2 = 0
   ·rw [if_pos he, if_pos he]; simp [outU, he]
   ·rw [if_neg he, if_neg he]; rfl
  ·rw [if_neg hq, if_neg hq, err_ok, Option.bind_some]
   simp only
   by_cases he : e = 0
   ·rw [if_pos he, if_pos he]; simp [outU, he]
   ·rw [if_neg he, if_neg he]; rfl
 have j2 : ∀ q, update_Read.j2 (k + 16) c q b p e key c 0 nil' = some (outU b (if q = true then (if (sgnR b p e).2.2 = 0 then (key, c, (sgnR b p e).1, nil', (sgnR b p e).2.1, 0) else noU (sgnR b p e).2.1 (sgnR b p e).2.2) else if c = 2 ∨ c = 4 then (if (txtR b p e 32).2.2 = 0 then (key, c, 0, (txtR b p e 32).1, (txtR b p e 32).2.1, 0) else noU (txtR b p e 32).2.1 (txtR b p e 32).2.2) else (if e = 0 then (key, c, 0, nil', p, 0) else noU p e))) := by
  intro q
  simp only [update_Read.j2]
  by_cases hq : q = true
  ·rw [if_pos hq, if_pos hq, psgn (k + 1) b p e hs, Option.bind_some]
   simp only
   rw [err_ok, Option.bind_some]
   simp only
   by_cases he : (sgnR b p e).2.2 = 0
   ·rw [if_pos he, if_pos he]; simp [outU, he]
   ·rw [if_neg he, if_neg he]; rfl
  ·rw [if_neg hq, if_neg hq]
   by_cases h2 : c = 2
   ·rw [if_pos h2, j3, if_pos (by simp [h2]), if_pos (Or.inl h2)]
   ·rw [if_neg h2, j3]
    by_cases h4 : c = 4
    ·rw [if_pos (by simp [h4]), if_pos (Or.inr h4)]
    ·rw [if_neg (show ¬ ((c == 4) = true) by simp [h4]), if_neg (show ¬ (c = 2 ∨ c = 4) by omega)]
 simp only [update_Read.j1]
 unfold tailU
 by_cases h1 : c = 1
 ·rw [if_pos h1, j2, if_pos (by simp [h1]), if_pos (Or.inl h1)]
 ·rw [if_neg h1, j2]
  by_cases h3 : c = 3
  ·rw [if_pos (by simp [h3]), if_pos (Or.inr h3)]
  ·rw [if_neg (show ¬ ((c == 3) = true) by simp [h3]), if_neg (show ¬ (c = 1 ∨ c = 3) by omega)]
theorem tailU_fail (b : ByteArray) {p e : Int} (key : ByteArray) (c : Int) (he : e ≠ 0) : tailU b p e key c = noU p e := by
 unfold tailU
 rw [sgnR_fail b he, txtR_fail b 32 he]
 simp only
 rw [if_neg he]
 repeat' split
 all_goals rfl
theorem nil_list : (nil' : ByteArray).toList = [] := by rw [ByteArray.toList_eq]
theorem pread (k : Nat) (b : ByteArray) (p e : Int) (hs : b.size ≤ 140737488351232) (h0 : 0 ≤ p) (h1 : p ≤ b.size) : update_Read.f (k + 18) b p e = some (outU b (readU b p e)) := by
 have hn := numR_place b p e 5 h0 h1
 have hz : (numR b p e 5).2.2 ≠ 0 → (numR b p e 5).1 = 0 := by
  unfold numR
  repeat' split
  all_goals simp
 have j0 : ∀ (q e' c : Int), 0 ≤ q → q ≤ b.size → update_Read.j0 (k + 18) b q e' nil' c 0 nil' = some (outU b (if e' = 0 then keyU b q c else noU q e')) := by
  intro q e' c hq0 hq1
  have ht := txtR_place b q e' 16 hq0 hq1
  simp only [update_Read.j0]
  rw [ptxt (k + 3) b q e' 16 hs hq0 hq1, Option.bind_some]
  simp only
  by_cases he : e' = 0
  ·subst he
   rw [if_pos rfl]
   unfold keyU
   by_cases hl : (txtR b q 0 16).1.toList = []
   ·rw [if_pos hl]
    by_cases hf : (txtR b q 0 16).2.2 = 0
    ·rw [if_pos hf, if_pos hl]
     unfold pack_Reader_Fail.f
     rw [if_pos hf, Option.bind_some, ptail k b _ _ _ _ hs ht.1 ht.2.1, tailU_fail b _ _ (show (1 : Int) ≠ 0 by decide)]
    ·rw [if_neg hf]
     unfold pack_Reader_Fail.f
     rw [if_neg hf, Option.bind_some, ptail k b _ _ _ _ hs ht.1 ht.2.1, tailU_fail b _ _ hf]
   ·rw [if_neg hl]
    by_cases hf : (txtR b q 0 16).2.2 = 0
    ·rw [if_pos hf, if_neg hl, ptail k b _ _ _ _ hs ht.1 ht.2.1, hf]
    ·rw [if_neg hf, ptail k b _ _ _ _ hs ht.1 ht.2.1, tailU_fail b _ _ hf]
  ·rw [if_neg he, txtR_fail b 16 he]
   simp only
   rw [if_pos nil_list]
   unfold pack_Reader_Fail.f
   rw [if_neg he, Option.bind_some, ptail k b _ _ _ _ hs hq0 hq1, tailU_fail b _ _ he]
 unfold update_Read.f readU
 rw [pnum (k + 4) b p e 5 hs, Option.bind_some]
 simp only
 by_cases hc : (numR b p e 5).1 = 0
 ·rw [if_pos hc]
  unfold pack_Reader_Fail.f
  by_cases hf : (numR b p e 5).2.2 = 0
  ·rw [if_pos hf, if_pos hf, Option.bind_some, j0 _ _ _ hn.1 hn.2.1, if_neg (show ¬ ((5 : Int) = 0) by decide), if_pos hc]
  ·rw [if_neg hf, if_neg hf, Option.bind_some, j0 _ _ _ hn.1 hn.2.1, if_neg hf]
 ·rw [if_neg hc, j0 _ _ _ hn.1 hn.2.1]
  by_cases hf : (numR b p e 5).2.2 = 0
  ·rw [if_pos hf, if_pos hf, if_neg hc]
  ·exact absurd (hz hf) hc
end Go.Proofs.YtjmoncfgoaaekaaDoor.Pure
namespace Go.Proofs.YtjmoncfgoaaekaaDoor.Pure
set_option linter.unusedSimpArgs false
set_option linter.unusedVariables false
open Go Go.RowKit Go.Proofs.YtjmoncfgoaaekaaDoorW.PrintWords Go.Proofs.YtjmoncfgoaaekaaDoorW.PrintLast Go.Proofs.YtjmoncfgoaaekaaDoorW.PrintMore Go.Proofs.YtjmoncfgoaaekaaDoor.Q
theorem bt_mid (b : ByteArray) (p q i : Nat) (hi : p + i < q) (hq : q ≤ b.size) : bt (b.extract p q) i = bt b ((p : Int) + i) := by
 unfold bt
 rw [dif_pos (by rw [ByteArray.size_extract]; omega), dif_pos (by omega)]
 simp only [ByteArray.getElem_extract]
 congr 3
def Str (b : ByteArray) (p : Int) (s : ByteArray) : Prop := 0 ≤ p ∧ p + s.size ≤ b.size ∧ ∀ i : Nat, i < s.size → bt b (p + i) = bt s i
theorem Str.whole (s : ByteArray) : Str s 0 s := ⟨by omega, by omega, fun i _ => by rw [Int.zero_add]⟩
theorem Str.left {b x y : ByteArray} {p : Int} (h : Str b p (x ++ y)) : Str b p x := by
 obtain ⟨h0, h1, h2⟩ := h
 rw [ByteArray.size_append] at h1 h2
 refine ⟨h0, by omega, fun i hi => ?_⟩
 rw [h2 i (by omega), bt_app_left x y i (by omega) (by omega)]
theorem Str.right {b x y : ByteArray} {p : Int} (h : Str b p (x ++ y)) : Str b (p + x.size) y := by
 obtain ⟨h0, h1, h2⟩ := h
 rw [ByteArray.size_append] at h1 h2
 refine ⟨by omega, by omega, fun i hi => ?_⟩
 have := h2 (x.size + i) (by omega)
 rw [show p + ((x.size + i : Nat) : Int) = p + x.size + i by omega, show ((x.size + i : Nat) : Int) = x.size + i by omega, bt_app_right x y i (by omega) (by omega)] at this
 exact this
theorem Str.join {b x y : ByteArray} {p : Int} (h : Str b p x) (k : Str b (p + x.size) y) : Str b p (x ++ y) := by
 obtain ⟨h0, h1, h2⟩ := h
 obtain ⟨k0, k1, k2⟩ := k
 refine ⟨h0, by rw [ByteArray.size_append]; omega, fun i hi => ?_⟩
 rw [ByteArray.size_append] at hi
 by_cases c : i < x.size
 ·rw [h2 i c, bt_app_left x y i (by omega) (by omega)]
 ·have := k2 (i - x.size) (by omega)
  rw [show p + (x.size : Int) + ((i - x.size : Nat) : Int) = p + i by omega] at this
  rw [this]
  have e := bt_app_right x y ((i - x.size : Nat) : Int) (by omega) (by omega)
  rw [← e]
  congr 1
  omega
theorem Str.ext {b s : ByteArray} {p : Int} (h : Str b p s) : b.extract p.toNat (p + s.size).toNat = s := by
 obtain ⟨h0, h1, h2⟩ := h
 apply bytes_ext
 ·rw [ByteArray.size_extract]; omega
 ·intro i hi
  rw [ByteArray.size_extract] at hi
  rw [bt_mid b _ _ i (by omega) (by omega), ← h2 i (by omega), Int.toNat_of_nonneg h0]
theorem Str.none {b : ByteArray} {p : Int} (h0 : 0 ≤ p) (h1 : p ≤ b.size) : Str b p nil' := ⟨h0, by show p + ((0 : Nat) : Int) ≤ b.size; omega, fun i hi => absurd hi (Nat.not_lt_zero _)⟩
theorem Str.all {b s : ByteArray} (h : Str b 0 s) (hz : s.size = b.size) : b = s := by
 have := h.ext
 rw [show ((0 : Int) + s.size).toNat = b.size by omega] at this
 rw [← this]
 apply bytes_ext
 ·rw [ByteArray.size_extract]; simp
 ·intro i hi
  exact (bt_take b b.size i hi (Nat.le_refl _)).symm
abbrev enc (n : Int) : ByteArray := strOfNums (encL n)
theorem enc_sz (n : Int) : ((enc n).size : Int) = szL n := by rw [strOfNums_size, encL_len]
theorem Str.at_ {b : ByteArray} {p n : Int} (h0 : 0 ≤ n) (h1 : n < 4611686018427387904) (h : Str b p (enc n)) : At b p (encL n) := by
 obtain ⟨a, c, d⟩ := h
 rw [strOfNums_size] at c d
 refine ⟨a, c, fun i hi => ?_⟩
 have hb := encL_byte n h0 h1 i hi
 rw [d i hi, bt_str _ i hi hb.1 hb.2]
theorem numR_str {b : ByteArray} {p n l : Int} (h0 : 0 ≤ n) (hl : n ≤ capR l) (h : Str b p (enc n)) : numR b p 0 l = (n, p + (enc n).size, 0) := by
 have hc := capR_range l
 have hg := get_enc b p n h0 (by omega) (h.at_ h0 (by omega))
 unfold numR
 rw [if_pos rfl, hg]
 simp only
 rw [if_pos trivial, if_neg (by omega), enc_sz]
theorem txtP_sz (s : ByteArray) : (Wr.txtP s).size = (enc s.size).size + s.size := by unfold Wr.txtP; rw [ByteArray.size_append]
theorem txtR_str {b s : ByteArray} {p l : Int} (hl : (s.size : Int) ≤ capR l) (h : Str b p (Wr.txtP s)) : txtR b p 0 l = (s, p + (Wr.txtP s).size, 0) := by
 have hn := numR_str (l := l) (n := s.size) (by omega) hl h.left
 have hr := h.right
 have hz := txtP_sz s
 unfold txtR
 rw [hn]
 simp only
 have r1 : p + ((enc (s.size : Int)).size : Int) + (s.size : Int) ≤ b.size := hr.2.1
 rw [if_pos trivial, if_neg (by omega)]
 have he := hr.ext
 rw [he, hz]
 congr 2
 omega
def zzI (n : Int) : Int := if n < 0 then -2 * n - 1 else 2 * n
theorem zag_zz (n : Int) : zagV (zzI n) = n := by unfold zagV zzI; split <;> split <;> omega
theorem sgnR_str {b : ByteArray} {p n : Int} (h0 : -2305843009213693952 ≤ n) (h1 : n < 2305843009213693952) (h : Str b p (enc (zzI n))) : sgnR b p 0 = (n, p + (enc (zzI n)).size, 0) := by
 have hz : 0 ≤ zzI n ∧ zzI n < 4611686018427387904 := by unfold zzI; split <;> omega
 have hg := get_enc b p _ hz.1 hz.2 (h.at_ hz.1 hz.2)
 unfold sgnR
 rw [if_pos rfl, hg]
 simp only
 rw [if_pos trivial, zag_zz, enc_sz]
end Go.Proofs.YtjmoncfgoaaekaaDoor.Pure
namespace Go.Proofs.YtjmoncfgoaaekaaDoor.Pure
set_option linter.unusedSimpArgs false
set_option linter.unusedVariables false
open Go Go.RowKit Go.Proofs.YtjmoncfgoaaekaaDoorW.PrintWords Go.Proofs.YtjmoncfgoaaekaaDoorW.PrintLast Go.Proofs.YtjmoncfgoaaekaaDoorW.PrintMore Go.Proofs.YtjmoncfgoaaekaaDoor.Q
theorem cap5 : capR 5 = 5 := by decide
theorem cap16 : capR 16 = 16 := by decide
theorem cap32 : capR 32 = 32 := by decide
theorem not_nil {s : ByteArray} (h : 1 ≤ s.size) : ¬ s.toList = [] := fun e => by have := (nil_size s).1 e; omega
theorem nil_of {s : ByteArray} (h : s.size = 0) : s = nil' := by apply ByteArray.ext; apply Array.ext'; exact List.eq_nil_of_length_eq_zero (by simpa using h)
def restU (c n : Int) (s : ByteArray) : ByteArray := if c = 1 ∨ c = 3 then enc (zz n) else if c = 2 ∨ c = 4 then Wr.txtP s else nil'
theorem bytesU_eq (k : ByteArray) (c n : Int) (s : ByteArray) : bytesU k c n s = (enc c ++ Wr.txtP k) ++ restU c n s := rfl
theorem readU_str {b k s : ByteArray} {p c n : Int} (hm : may k c n s = 0) (h : Str b p (bytesU k c n s)) : readU b p 0 = (k, c, n, s, p + (bytesU k c n s).size, 0) := by
 obtain ⟨m1, m2, m3, m4, m5, m6, m7⟩ := may_zero hm
 rw [bytesU_eq] at h ⊢
 have hc := numR_str (l := 5) (n := c) (by omega) (by rw [cap5]; omega) h.left.left
 have hk := txtR_str (l := 16) (s := k) (by rw [cap16]; omega) h.left.right
 have hr := h.right
 unfold readU
 rw [hc]
 simp only
 rw [if_pos trivial, if_neg (by omega)]
 unfold keyU
 rw [hk]
 simp only
 rw [if_pos trivial, if_neg (not_nil m1)]
 rw [ByteArray.size_append, show p + (((enc c).size + (Wr.txtP k).size : Nat) : Int) = p + (enc c).size + (Wr.txtP k).size by omega] at hr
 have fin : p + ((enc c ++ Wr.txtP k ++ restU c n s).size : Int) = p + (enc c).size + (Wr.txtP k).size + (restU c n s).size := by rw [ByteArray.size_append, ByteArray.size_append]; omega
 rw [fin]
 unfold tailU
 unfold restU at hr ⊢
 by_cases c13 : c = 1 ∨ c = 3
 ·obtain ⟨a1, a2, a3⟩ := m5 c13
  rw [if_pos c13] at hr ⊢
  rw [if_pos c13]
  have hs := sgnR_str a2 a3 hr
  rw [hs]
  simp only
  rw [if_pos trivial, nil_of a1]
  rfl
 rw [if_neg c13] at hr ⊢
 rw [if_neg c13]
 by_cases c24 : c = 2 ∨ c = 4
 ·obtain ⟨a1, a2⟩ := m6 c24
  rw [if_pos c24] at hr ⊢
  rw [if_pos c24]
  have hs := txtR_str (l := 32) (s := s) (by rw [cap32]; omega) hr
  rw [hs]
  simp only
  rw [if_pos trivial, a1]
 ·obtain ⟨a1, a2⟩ := m7 (by omega)
  have z : ((nil' : ByteArray).size : Int) = 0 := rfl
  simp only [if_neg c24]
  rw [if_pos trivial, nil_of a2, a1, z, Int.add_zero]
end Go.Proofs.YtjmoncfgoaaekaaDoor.Pure
namespace Go.Proofs.YtjmoncfgoaaekaaDoor.Q
set_option linter.unusedSimpArgs false
set_option linter.unusedVariables false
open Go Go.RowKit Go.Proofs.YtjmoncfgoaaekaaDoorW.PrintWords Go.Proofs.YtjmoncfgoaaekaaDoorW.PrintLast Go.Proofs.YtjmoncfgoaaekaaDoorW.PrintMore Go.Proofs.YtjmoncfgoaaekaaDoor.Sep Go.Proofs.YtjmoncfgoaaekaaDoor.J Go.Proofs.YtjmoncfgoaaekaaDoor.Pure
def headR (b : ByteArray) (p lim : Int) : Int × Int × Int := ((numR b p 0 lim).1, (numR b p 0 lim).2.1, if (numR b p 0 lim).2.2 = 0 then (if (numR b p 0 lim).1 = 0 then 1 else 0) else (numR b p 0 lim).2.2)
def updR (b : ByteArray) (p : Int) : S114 := ⟨(readU b p 0).1, (readU b p 0).2.1, (readU b p 0).2.2.1, (readU b p 0).2.2.2.1⟩
def upsR (b : ByteArray) : Nat → Int → List S114 × Int × Int
 | 0, p => ([], p, 0)
 | n + 1, p => if (readU b p 0).2.2.2.2.2 = 0 then (updR b p :: (upsR b n (readU b p 0).2.2.2.2.1).1, (upsR b n (readU b p 0).2.2.2.2.1).2) else ([], (readU b p 0).2.2.2.2.1, (readU b p 0).2.2.2.2.2)
def noR (e : Int) : Int × Int × List S114 × Int := (0, 0, [], e)
def getR3 (b : ByteArray) (o n : Int) (u : List S114 × Int × Int) : Int × Int × List S114 × Int :=
 if u.2.2 ≠ 0 then noR u.2.2 else if endR b u.2.1 0 ≠ 0 then noR (endR b u.2.1 0) else (o, n, u.1, 0)
def getR2 (b : ByteArray) (o n : Int) (m : Int × Int × Int) : Int × Int × List S114 × Int := if m.2.2 ≠ 0 then noR m.2.2 else getR3 b o n (upsR b m.1.toNat m.2.1)
def getR1 (b : ByteArray) (o : Int) (n : Int × Int × Int) : Int × Int × List S114 × Int := if n.2.2 ≠ 0 then noR n.2.2 else getR2 b o n.1 (headR b n.2.1 8)
def getR (b : ByteArray) : Int × Int × List S114 × Int := if (headR b 0 64).2.2 ≠ 0 then noR (headR b 0 64).2.2 else getR1 b (headR b 0 64).1 (headR b (headR b 0 64).2.1 1099511627776)
theorem readU_placeG (b : ByteArray) (p e : Int) (h0 : 0 ≤ p) (h1 : p ≤ b.size) : 0 ≤ (readU b p e).2.2.2.2.1 ∧ (readU b p e).2.2.2.2.1 ≤ b.size := by
 have hn := numR_place b p e 5 h0 h1
 unfold readU keyU tailU noU
 (repeat' split) <;> first | exact ⟨hn.1, hn.2.1⟩ | skip
 all_goals
  first
   | exact ⟨(txtR_place b _ 0 16 hn.1 hn.2.1).1, (txtR_place b _ 0 16 hn.1 hn.2.1).2.1⟩
   | exact ⟨(sgnR_place b _ 0 (txtR_place b _ 0 16 hn.1 hn.2.1).1 (txtR_place b _ 0 16 hn.1 hn.2.1).2.1).1, (sgnR_place b _ 0 (txtR_place b _ 0 16 hn.1 hn.2.1).1 (txtR_place b _ 0 16 hn.1 hn.2.1).2.1).2.1⟩
   | exact ⟨(txtR_place b _ 0 32 (txtR_place b _ 0 16 hn.1 hn.2.1).1 (txtR_place b _ 0 16 hn.1 hn.2.1).2.1).1, (txtR_place b _ 0 32 (txtR_place b _ 0 16 hn.1 hn.2.1).1 (txtR_place b _ 0 16 hn.1 hn.2.1).2.1).2.1⟩
end Go.Proofs.YtjmoncfgoaaekaaDoor.Q
namespace Go.Proofs.YtjmoncfgoaaekaaDoor.Pure
set_option linter.unusedSimpArgs false
set_option linter.unusedVariables false
open Go Go.RowKit Go.Proofs.YtjmoncfgoaaekaaDoorW.PrintWords Go.Proofs.YtjmoncfgoaaekaaDoorW.PrintLast Go.Proofs.YtjmoncfgoaaekaaDoorW.PrintMore Go.Proofs.YtjmoncfgoaaekaaDoor.Q
theorem pfailP (b : ByteArray) (p e a : Int) : pack_Reader_Fail.f b p e a = some (b, p, if e = 0 then a else e) := by unfold pack_Reader_Fail.f; split <;> rfl
theorem head_bad {b : ByteArray} {p l : Int} (h : (headR b p l).2.2 ≠ 0) : (headR b p l).1 = 0 := by
 unfold headR at h ⊢
 simp only at h ⊢
 by_cases he : (numR b p 0 l).2.2 = 0
 ·rw [if_pos he] at h
  by_cases hv : (numR b p 0 l).1 = 0
  ·exact hv
  ·rw [if_neg hv] at h; exact absurd rfl h
 ·unfold numR at he ⊢
  repeat' split
  all_goals first | rfl | (simp_all; done)
theorem psome0 (k : Nat) (b : ByteArray) (p l : Int) (hs : b.size ≤ 140737488351232) : round_some.f (k + 14) b p 0 l = some ((headR b p l).1, b, (headR b p l).2.1, (headR b p l).2.2) := by
 unfold round_some.f
 rw [pnum k b p 0 l hs, Option.bind_some]
 simp only
 unfold headR
 by_cases hv : (numR b p 0 l).1 = 0
 ·rw [if_pos hv, pfailP, Option.bind_some]
  simp only
  rw [if_pos hv]
 ·rw [if_neg hv]
  simp only
  rw [if_neg hv]
  by_cases he : (numR b p 0 l).2.2 = 0
  ·rw [if_pos he, he]
  ·rw [if_neg he]
theorem psomeE (k : Nat) (b : ByteArray) (p e l : Int) (hs : b.size ≤ 140737488351232) (he : e ≠ 0) : round_some.f (k + 14) b p e l = some (0, b, p, e) := by
 unfold round_some.f
 rw [pnum k b p e l hs, Option.bind_some, numR_fail b l he]
 simp only
 rw [if_pos trivial, pfailP, Option.bind_some, if_neg he]
theorem readU_fail (b : ByteArray) {p e : Int} (he : e ≠ 0) : readU b p e = noU p e := by
 unfold readU
 rw [numR_fail b 5 he]
 simp only
 rw [if_neg he]
theorem get_loopE (b : ByteArray) (hs : b.size ≤ 140737488351232) (o n m p e : Int) (h0 : 0 ≤ p) (h1 : p ≤ b.size) (he : e ≠ 0) (hm : m ≤ 100) : ∀ (d k : Nat) (x : Int) (acc : List Upd), 0 ≤ x → m - x ≤ d → d + 20 ≤ k → acc.length + d ≤ 1000 → round_Get.l0 k m x b p e o n acc = some (noR e) := by
 intro d
 induction d with
 | zero =>
  intro k x acc hx hd hk ha
  obtain ⟨k, rfl⟩ : ∃ q, k = q + 1 := ⟨k - 1, by omega⟩
  simp only [round_Get.l0]
  rw [if_neg (by omega), pend, Option.bind_some]
  simp only
  rw [show endR b p e = e by unfold endR; rw [if_neg he], if_neg he]
  rfl
 | succ d ih =>
  intro k x acc hx hd hk ha
  obtain ⟨k, rfl⟩ : ∃ q, k = q + 1 := ⟨k - 1, by omega⟩
  simp only [round_Get.l0]
  by_cases hlt : x < m
  ·obtain ⟨k, rfl⟩ : ∃ q, k = q + 18 := ⟨k - 18, by omega⟩
   rw [if_pos hlt, pread k b p e hs h0 h1, Option.bind_some, readU_fail b he]
   simp only [outU, noU]
   rw [if_pos (by omega), show wrap64 (x + 1) = x + 1 by unfold wrap64; omega]
   exact ih (k + 18) (x + 1) _ (by omega) (by omega) (by omega) (by rw [List.length_append, List.length_singleton]; omega)
  ·rw [if_neg hlt, pend, Option.bind_some]
   simp only
   rw [show endR b p e = e by unfold endR; rw [if_neg he], if_neg he]
   rfl
theorem get_loop (b : ByteArray) (hs : b.size ≤ 140737488351232) (o n : Int) : ∀ (d k : Nat) (x p : Int) (acc : List Upd), 0 ≤ p → p ≤ b.size → 0 ≤ x → x + d ≤ 100 → d + 20 ≤ k → acc.length + d ≤ 1000 → round_Get.l0 k (x + d) x b p 0 o n acc = some (getR3 b o n (acc ++ (upsR b d p).1, (upsR b d p).2)) := by
 intro d
 induction d with
 | zero =>
  intro k x p acc h0 h1 hx hd hk ha
  obtain ⟨k, rfl⟩ : ∃ q, k = q + 1 := ⟨k - 1, by omega⟩
  simp only [round_Get.l0]
  rw [if_neg (by omega), pend, Option.bind_some]
  simp only [upsR, getR3, List.append_nil]
  by_cases hq : endR b p 0 = 0
  ·rw [if_pos hq, if_neg (fun h => h rfl), if_neg (fun h => h hq)]
  ·rw [if_neg hq, if_neg (fun h => h rfl), if_pos hq]
   rfl
 | succ d ih =>
  intro k x p acc h0 h1 hx hd hk ha
  obtain ⟨k, rfl⟩ : ∃ q, k = q + 1 := ⟨k - 1, by omega⟩
  simp only [round_Get.l0]
  obtain ⟨k, rfl⟩ : ∃ q, k = q + 18 := ⟨k - 18, by omega⟩
  have hp := readU_placeG b p 0 h0 h1
  rw [if_pos (by omega), pread k b p 0 hs h0 h1, Option.bind_some]
  simp only [outU]
  rw [if_pos (by omega), show wrap64 (x + 1) = x + 1 by unfold wrap64; omega]
  by_cases he : (readU b p 0).2.2.2.2.2 = 0
  ·rw [he, show x + ((d + 1 : Nat) : Int) = (x + 1) + d by omega, ih (k + 18) (x + 1) _ _ hp.1 hp.2 (by omega) (by omega) (by omega) (by rw [List.length_append, List.length_singleton]; omega)]
   have e : upsR b (d + 1) p = (updR b p :: (upsR b d (readU b p 0).2.2.2.2.1).1, (upsR b d (readU b p 0).2.2.2.2.1).2) := by
    show (if _ then _ else _) = _
    rw [if_pos he]
   rw [e]
   simp [updR]
  ·rw [get_loopE b hs o n _ _ _ hp.1 hp.2 he (by omega) d (k + 18) (x + 1) _ (by omega) (by omega) (by omega) (by rw [List.length_append, List.length_singleton]; omega)]
   have e : upsR b (d + 1) p = ([], (readU b p 0).2.2.2.2.1, (readU b p 0).2.2.2.2.2) := by
    show (if _ then _ else _) = _
    rw [if_neg he]
   rw [e]
   unfold getR3
   simp only
   rw [if_pos he]
theorem head_place (b : ByteArray) (p l : Int) (h0 : 0 ≤ p) (h1 : p ≤ b.size) : 0 ≤ (headR b p l).2.1 ∧ (headR b p l).2.1 ≤ b.size ∧ 0 ≤ (headR b p l).1 ∧ (headR b p l).1 ≤ capR l := by
 have := numR_place b p 0 l h0 h1
 exact ⟨this.1, this.2.1, this.2.2.2.1, this.2.2.2.2⟩
theorem cap8 : capR 8 = 8 := by decide
theorem pgetR (k : Nat) (b : ByteArray) (hs : b.size ≤ 140737488351232) : round_Get.f (k + 40) b = some (getR b) := by
 unfold round_Get.f
 rw [show pack_Read.f b = some (b, 0, 0) from rfl, Option.bind_some]
 simp only
 rw [psome0 (k + 26) b 0 64 hs, Option.bind_some]
 simp only
 have h1 := head_place b 0 64 (by omega) (by omega)
 unfold getR
 by_cases e1 : (headR b 0 64).2.2 = 0
 ·rw [e1, if_neg (fun h => h rfl), psome0 (k + 26) b _ 1099511627776 hs, Option.bind_some]
  simp only
  have h2 := head_place b (headR b 0 64).2.1 1099511627776 h1.1 h1.2.1
  unfold getR1
  generalize headR b (headR b 0 64).2.1 1099511627776 = q at h2 ⊢
  by_cases e2 : q.2.2 = 0
  ·rw [e2, if_neg (fun h => h rfl), psome0 (k + 26) b _ 8 hs, Option.bind_some]
   simp only
   have h3 := head_place b q.2.1 8 h2.1 h2.2.1
   rw [cap8] at h3
   have hb := @head_bad b q.2.1 8
   unfold getR2
   generalize headR b q.2.1 8 = m at h3 hb ⊢
   by_cases e3 : m.2.2 = 0
   ·rw [e3, if_neg (fun h => h rfl)]
    have := get_loop b hs (headR b 0 64).1 q.1 m.1.toNat (k + 40) 0 m.2.1 [] h3.1 h3.2.1 (by omega) (by omega) (by omega) (by simp; omega)
    rw [show (0 : Int) + (m.1.toNat : Int) = m.1 by omega] at this
    rw [this, List.nil_append]
   ·rw [if_pos e3, hb e3]
    exact get_loopE b hs _ _ 0 _ _ h3.1 h3.2.1 e3 (by omega) 0 (k + 40) 0 [] (by omega) (by omega) (by omega) (by simp)
  ·rw [if_pos e2, psomeE (k + 26) b _ _ 8 hs e2, Option.bind_some]
   exact get_loopE b hs _ _ 0 _ _ h2.1 h2.2.1 e2 (by omega) 0 (k + 40) 0 [] (by omega) (by omega) (by omega) (by simp)
 ·rw [if_pos e1, psomeE (k + 26) b _ _ _ hs e1, Option.bind_some]
  simp only
  rw [psomeE (k + 26) b _ _ _ hs e1, Option.bind_some]
  exact get_loopE b hs _ _ 0 _ _ h1.1 h1.2.1 e1 (by omega) 0 (k + 40) 0 [] (by omega) (by omega) (by omega) (by simp)
theorem cap64 : capR 64 = 64 := by decide
theorem cap40 : capR 1099511627776 = 1099511627776 := by decide
theorem headR_str {b : ByteArray} {p n l : Int} (h0 : 1 ≤ n) (hl : n ≤ capR l) (h : Str b p (enc n)) : headR b p l = (n, p + (enc n).size, 0) := by
 unfold headR
 rw [numR_str (by omega) hl h]
 simp only
 rw [if_pos trivial, if_neg (by omega)]
theorem upsR_str {b : ByteArray} : ∀ (l : List Upd) (p : Int), (∀ z ∈ l, mayU z = 0) → 0 ≤ p → p ≤ b.size → Str b p (catB l) → upsR b l.length p = (l, p + (catB l).size, 0)
 | [], p, _, h0, h1, _ => by
  show (([] : List Upd), p, (0 : Int)) = ([], p + ((0 : Nat) : Int), 0)
  rw [Int.natCast_zero, Int.add_zero]
 | z :: r, p, hm, h0, h1, hs => by
  have hs' : Str b p (bytesU z.f0 z.f1 z.f2 z.f3 ++ catB r) := hs
  have hr := readU_str (hm z (by simp)) hs'.left
  have hz := hs'.right
  have ih := upsR_str r _ (fun y hy => hm y (by simp [hy])) (by have := hz.1; exact this) (by have := hz.2.1; omega) hz
  show (if (readU b p 0).2.2.2.2.2 = 0 then _ else _) = _
  rw [hr]
  simp only
  rw [if_pos trivial, ih]
  have e : (catB (z :: r)).size = (bytesU z.f0 z.f1 z.f2 z.f3).size + (catB r).size := ByteArray.size_append
  unfold updR
  rw [hr, e]
  simp only [Int.natCast_add, Int.add_assoc]
theorem headB_eq (o n m : Int) : headB o n m = enc o ++ enc n ++ enc m := rfl
theorem head3 {b : ByteArray} {o n m : Int} (h1 : 1 ≤ o) (h2 : o ≤ 64) (h3 : 1 ≤ n) (h4 : n ≤ 1099511627776) (h5 : 1 ≤ m) (h6 : m ≤ 8) (h : Str b 0 (headB o n m)) :
  getR b = getR3 b o n (upsR b m.toNat (headB o n m).size) := by
 rw [headB_eq] at h ⊢
 unfold getR
 rw [headR_str h1 (by rw [cap64]; exact h2) h.left.left]
 simp only
 rw [if_neg (fun h => h rfl)]
 unfold getR1
 rw [headR_str h3 (by rw [cap40]; exact h4) h.left.right]
 simp only
 rw [if_neg (fun h => h rfl)]
 unfold getR2
 have hr := h.right
 rw [ByteArray.size_append, show (0 : Int) + (((enc o).size + (enc n).size : Nat) : Int) = 0 + (enc o).size + (enc n).size by omega] at hr
 rw [headR_str h5 (by rw [cap8]; exact h6) hr]
 simp only
 rw [if_neg (fun h => h rfl), show (0 : Int) + (enc o).size + (enc n).size + (enc m).size = ((enc o ++ enc n ++ enc m).size : Int) by rw [ByteArray.size_append, ByteArray.size_append]; omega]
theorem getR_more {o n : Int} {l : List Upd} (hm : mayR o n l = 0) (more : ByteArray) : getR (bytesR o n l ++ more) = if more.size = 0 then (o, n, l, 0) else noR 4 := by
 obtain ⟨h1, h2, h3, h4, h5, h6, h7⟩ := mayR_zero hm
 have hw := Str.whole (bytesR o n l ++ more)
 have hb : Str (bytesR o n l ++ more) 0 (headB o n l.length ++ catB l) := hw.left
 rw [head3 h1 h2 h3 h4 (by omega) (by omega) hb.left, Int.toNat_natCast]
 have hr := hb.right
 rw [Int.zero_add] at hr
 have hz : ((bytesR o n l ++ more).size : Int) = (headB o n l.length).size + (catB l).size + more.size := by
  unfold bytesR
  rw [ByteArray.size_append, ByteArray.size_append]
  omega
 rw [upsR_str l _ h7 (by omega) (by omega) hr]
 unfold getR3
 simp only
 rw [if_neg (fun h => h rfl)]
 unfold endR
 rw [if_pos rfl]
 by_cases hs : more.size = 0
 ·rw [if_pos hs, if_neg (show ¬ ((headB o n l.length).size : Int) + (catB l).size < ((bytesR o n l ++ more).size : Int) by omega), if_neg (fun h => h rfl)]
 ·rw [if_neg hs, if_pos (show ((headB o n l.length).size : Int) + (catB l).size < ((bytesR o n l ++ more).size : Int) by omega), if_pos (by decide)]
theorem getR_bytes {o n : Int} {l : List Upd} (hm : mayR o n l = 0) : getR (bytesR o n l) = (o, n, l, 0) := by
 have := getR_more hm nil'
 rw [app_nil] at this
 exact this
end Go.Proofs.YtjmoncfgoaaekaaDoor.Pure
namespace Go.Proofs.YtjmoncfgoaaekaaDoor.J
set_option linter.unusedSimpArgs false
set_option linter.unusedVariables false
open Go Go.RowKit Go.Proofs.YtjmoncfgoaaekaaDoorW.PrintWords Go.Proofs.YtjmoncfgoaaekaaDoorW.PrintLast Go.Proofs.YtjmoncfgoaaekaaDoorW.PrintMore Go.Proofs.YtjmoncfgoaaekaaDoor.Q Go.Proofs.YtjmoncfgoaaekaaDoor.Sep Go.Proofs.YtjmoncfgoaaekaaDoor.Pure
attribute [local go_sem] max2_int min2_int max_two min_two max_three min_three max_four min_four
def chapbooklaw15_FeedOrder.f (a0 : Int) (l1 : List Rnd) (l2 : List Int) : Option Bool := some true
theorem FPump_e {N : Nat → Prop} {w : World} {gf gl gk : Nat} {C : Int} {L : List Rnd} {E Wn Rm : Int} {Pv : Bool} {W La S : Int} {xs : List Piece} {room acked n a : Int} (m a' S' : Int) (X' : List Piece) (ha' : a + m = a') (hS' : S + m = S') (hX' : xs ++ pcs S (seg L a m) = X') (h : Own N w [cells gf #[.int .i64 a] 78, ObjC gl C L, LinkO gk E Wn Rm Pv W La S xs room acked n]) (ht : TabN N w) (hL : L.length ≤ 1000000) (hg : Good C L) (ha : 0 ≤ a ∧ a ≤ (L.length : Int)) (hs : 0 ≤ S ∧ S < 1000000 ∧ La = 1125899906842624) (hw : (xs.length : Int) ≤ W ∧ W ≤ 16) (hm : Pumps L W xs a m) :
  Calls Tryd.prog 14 #[.pointer (some ⟨gf, 0, none⟩), .pointer (some ⟨gl, 0, none⟩), .pointer (some ⟨gk, 0, none⟩)] w fun e_ w' => e_ = .returned (.int .i64 m) ∧ Own N w' [cells gf #[.int .i64 a'] 78, ObjC gl C L, LinkO gk E Wn Rm Pv W La S' X' room acked n] ∧ KeepS N w w' := by
 subst ha'
 subst hS'
 subst hX'
 exact FPump m h ht hL hg ha hs hw hm
theorem pcs_app : ∀ (l l' : List Rnd) (S : Int), pcs S (l ++ l') = pcs S l ++ pcs (S + l.length) l'
 | [], l', S => by simp [pcs]
 | r :: l, l', S => by
  rw [List.cons_append, pcs, pcs_app l l', pcs, List.cons_append, List.length_cons]
  congr 3
  omega
def left_ (L : List Rnd) (k a : Int) : List Piece := (pcs 0 (upTo L a)).drop k.toNat
theorem upTo_lenI {L : List Rnd} {a : Int} (h0 : 0 ≤ a) (h1 : a ≤ L.length) : ((upTo L a).length : Int) = a := by unfold upTo; rw [List.length_take]; omega
theorem left_len {L : List Rnd} {k a : Int} (h0 : 0 ≤ k) (h1 : k ≤ a) (h2 : a ≤ L.length) : ((left_ L k a).length : Int) = a - k := by
 have := upTo_lenI (L := L) (a := a) (by omega) h2
 unfold left_
 rw [List.length_drop, pcs_len]
 omega
theorem upTo_app {L : List Rnd} (M : List Rnd) {a : Int} (h2 : a ≤ L.length) : upTo (L ++ M) a = upTo L a := by unfold upTo; rw [List.take_append_of_le_length (by omega)]
theorem left_app {L : List Rnd} (M : List Rnd) {k a : Int} (h2 : a ≤ L.length) : left_ (L ++ M) k a = left_ L k a := by unfold left_; rw [upTo_app M h2]
theorem left_more {L : List Rnd} {k a m : Int} (h0 : 0 ≤ k) (h1 : k ≤ a) (hm : 0 ≤ m) (h2 : a + m ≤ L.length) : left_ L k a ++ pcs a (seg L a m) = left_ L k (a + m) := by
 have hl := upTo_lenI (L := L) (a := a) (by omega) (by omega)
 have e : upTo L (a + m) = upTo L a ++ seg L a m := by
  unfold upTo seg
  rw [show (a + m).toNat = a.toNat + m.toNat by omega, List.take_add]
 unfold left_
 rw [e, pcs_app, List.drop_append_of_le_length (by rw [pcs_len]; omega), hl, Int.zero_add]
theorem left_drop {L : List Rnd} {k a : Int} (j : Nat) (h0 : 0 ≤ k) : (left_ L k a).drop j = left_ L (k + j) a := by
 unfold left_
 rw [List.drop_drop, show (k + j).toNat = k.toNat + j by omega]
theorem lead_le (n : Int) (xs : List Piece) : lead n xs ≤ xs.length := by unfold lead; exact (List.takeWhile_sublist _).length_le
theorem left_ack {L : List Rnd} {k a q : Int} (h0 : 0 ≤ k) (h1 : k ≤ a) (h2 : a ≤ L.length) : ∃ k', 0 ≤ k' ∧ k ≤ k' ∧ k' ≤ a ∧ ackX a q (left_ L k a) = left_ L k' a := by
 unfold ackX
 split
 ·exact ⟨k, h0, by omega, h1, rfl⟩
 ·have h3 := lead_le q (left_ L k a)
  have h4 := left_len h0 h1 h2
  exact ⟨k + (lead q (left_ L k a) : Nat), by omega, by omega, by omega, left_drop _ h0⟩
theorem pcs_at : ∀ (l : List Rnd) (S : Int) (j : Nat) (h : j < l.length), (pcs S l)[j]? = some (S + j + 1, bR l[j])
 | r :: l, S, 0, _ => by simp [pcs]
 | r :: l, S, j + 1, h => by
  rw [pcs, List.getElem?_cons_succ, pcs_at l (S + 1) j (by simpa using h)]
  simp only [List.getElem_cons_succ, Option.some.injEq, Prod.mk.injEq, and_true]
  omega
theorem fr_left {L : List Rnd} {k a : Int} (E ack : Int) (y : Int) (h0 : 0 ≤ k) (h1 : k ≤ a) (h2 : a ≤ L.length) (y0 : 0 ≤ y) (y1 : y < (frs E ack (left_ L k a)).length) :
  (k = a ∧ (frAt (frs E ack (left_ L k a)) y).f1 = 0) ∨ (y < a - k ∧ (frAt (frs E ack (left_ L k a)) y).f1 = k + y + 1 ∧ (frAt (frs E ack (left_ L k a)) y).f3 = bR (rd_T43 L (k + y))) := by
 have hl := left_len h0 h1 h2
 unfold frs at y1 ⊢
 by_cases hX : (left_ L k a).length = 0
 ·rw [if_pos hX] at y1
  rw [if_pos hX]
  have hy : y = 0 := by simp at y1; omega
  subst hy
  exact .inl ⟨by omega, rfl⟩
 ·rw [if_neg hX] at y1
  rw [if_neg hX]
  rw [List.length_map] at y1
  refine .inr ⟨by omega, ?_⟩
  have hu := upTo_lenI (L := L) (a := a) (by omega) h2
  have hkl : k.toNat + y.toNat < (upTo L a).length := by omega
  have hp := pcs_at (upTo L a) 0 (k.toNat + y.toNat) hkl
  have hgl : (left_ L k a)[y.toNat]? = some ((0 : Int) + ((k.toNat + y.toNat : Nat) : Int) + 1, bR (upTo L a)[k.toNat + y.toNat]) := by
   unfold left_
   rw [List.getElem?_drop]
   exact hp
  have e : frAt ((left_ L k a).map (fr E ack)) y = fr E ack ((0 : Int) + ((k.toNat + y.toNat : Nat) : Int) + 1, bR (upTo L a)[k.toNat + y.toNat]) := by
   unfold frAt
   rw [List.getD_eq_getElem?_getD, List.getElem?_map, hgl]
   rfl
  rw [e]
  refine ⟨by show (0 : Int) + ((k.toNat + y.toNat : Nat) : Int) + 1 = k + y + 1; omega, ?_⟩
  show bR _ = bR _
  congr 1
  unfold rd_T43
  rw [List.getD_eq_getElem?_getD, show (k + y).toNat = k.toNat + y.toNat by omega, List.getElem?_eq_getElem (by omega), Option.getD_some]
  exact List.getElem_take
theorem good_upTo {C : Int} {L : List Rnd} (a : Int) (h : Good C L) : Good C (upTo L a) := fun r hr => h r (List.mem_of_mem_take hr)
theorem Add_a {N : Nat → Prop} {w : World} {g : Nat} {C : Int} {L : List Rnd} (B : Option Addr) (c : Nat) (r : Rnd) (h : Own N w [ObjC g C L]) (hr : Kd.F k114 w N B r.f2.length r.f2) (hc : r.f2.length ≤ c) (hL : L.length ≤ 1000000) (hu : r.f2.length ≤ 1000000) (hg : Good C L) :
  Calls Tryd.prog 19 #[.pointer (some ⟨g, 0, none⟩), .agg #[.int .i64 r.f0, .int .i64 r.f1, .slice B r.f2.length c]] w fun e_ w' => ∃ E, e_ = .returned (.int .i64 E) ∧ Own N w' [ObjC g C (addL C L r)] ∧ KeepS N w w' := by
 by_cases he : addE C L r = 0
 ·rw [addE_pos he]
  exact (Add_y B c r.f0 r.f1 r.f2 h hr hc hL hu hg he).mono fun e_ w' ⟨a, b⟩ => ⟨0, a, b⟩
 ·rw [addE_neg he]
  exact (Add_n B c r.f0 r.f1 r.f2 h hr hc hL hu hg _ rfl he).mono fun e_ w' ⟨a, b⟩ => ⟨_, a, b⟩
theorem addL_is (C : Int) (L : List Rnd) (r : Rnd) (hg : Good C L) : ∃ M, addL C L r = L ++ M ∧ M.length ≤ 1 ∧ Good C (addL C L r) := by
 by_cases he : addE C L r = 0
 ·rw [addE_pos he]
  exact ⟨[r], rfl, by simp, good_snoc hg he⟩
 ·rw [addE_neg he]
  exact ⟨[], by simp, by simp, hg⟩
theorem LFrames_n {N : Nat → Prop} {w : World} {g : Nat} {E Wn Rm : Int} {Pv : Bool} {W La S : Int} {xs : List Piece} {room acked n : Int} (k : Nat) (F : List Frm) (hk : F.length = k) (hF : frs E acked xs = F) (h : Own N w [LinkO g E Wn Rm Pv W La S xs room acked n]) (hE : E ≠ 0) (hl : xs.length ≤ 16) :
  Calls Tryd.prog 23 #[.pointer (some ⟨g, 0, none⟩)] w fun e_ w' => ∃ A1 c1, e_ = .returned (.slice A1 k c1) ∧ Own N w' [LinkO g E Wn Rm Pv W La S xs room acked n, nrow k40 40 (.slice A1 k c1) F] ∧ KeepS N w w' := by
 subst hk
 subst hF
 exact LFrames h hE hl
theorem LHear_ack_e {N : Nat → Prop} {w : World} {g : Nat} {E Wn Rm : Int} {Pv : Bool} {W La S : Int} {xs : List Piece} {room acked n : Int} (fa : Int) (X : List Piece) (hX : ackX S fa xs = X) (h : Own N w [LinkO g E Wn Rm Pv W La S xs room acked n]) (hl : xs.length ≤ 1000000) :
  Calls Tryd.prog 16 #[.pointer (some ⟨g, 0, none⟩), .agg #[.int .i64 E, .int .i64 0, .int .i64 fa, .string ⟨#[]⟩]] w fun e_ w' => e_ = .returned (.bool false) ∧ Own N w' [LinkO g E Wn Rm Pv W La S X room acked n] ∧ KeepS N w w' := by
 subst hX
 exact LHear_ack E 0 fa ⟨#[]⟩ h rfl hl rfl
theorem frs_max (E ack : Int) (X : List Piece) : (frs E ack X).length ≤ X.length + 1 := by
 unfold frs
 split
 ·simp
 ·rw [List.length_map]; omega
theorem at_B {w : World} {A : Option Addr} {n : Nat} {xs : List Int} (h : (Kd.int .u8).C w A n xs) (x : Int) (h0 : 0 ≤ x) (h1 : x < n) : ∃ ad, A = some ad ∧ w.cell? (ad.add x.toNat) = some (.int .u8 (xs.getD x.toNat 0)) := by
 obtain ⟨ad, c, e, hl, hk, hc⟩ := ReadsRow.get_ h (0 : Int) x h0 h1
 have hk' : c = [.int .u8 (xs.getD x.toNat 0)] := hk
 subst hk'
 have q := hc 0 _ rfl
 have e1 : x.toNat * (Kd.int .u8).sz + 0 = x.toNat := by show x.toNat * 1 + 0 = x.toNat; omega
 rw [e1] at q
 exact ⟨ad, e, q⟩
def lastJ (a b k y : Int) : Int := if a < k + y then (if k + y < b then k + y else b) else a
theorem lastJ_end {L : List Rnd} {a b k y la : Int} {nf : Nat} (h1 : la = lastJ a b k y) (hy : ¬ y < (nf : Int)) (hy1 : y ≤ (nf : Int)) (hnf : (frs 1 0 (left_ L k b)).length = nf) (hl : ((left_ L k b).length : Int) = b - k) (ha : k ≤ a) (hb : a ≤ b) (hk : 0 ≤ k) : la = b := by
 unfold frs at hnf
 unfold lastJ at h1
 by_cases hX : (left_ L k b).length = 0
 ·rw [if_pos hX] at hnf
  (repeat' split at h1) <;> omega
 ·rw [if_neg hX, List.length_map] at hnf
  (repeat' split at h1) <;> omega
def FoI (N : Nat → Prop) (w : World) (n : Nat) (gl gk gf : Nat) (a0 W : Int) (vi vl vg : Value) (wr : World) : Prop := ∃ (x : Int) (L : List Rnd) (a k : Int) (A : Option Addr) (c : Nat), 0 ≤ x ∧ x ≤ (n : Int) ∧ vi = .int .i64 x ∧ vl = .int .i64 a ∧ vg = .slice A (upTo L a).length c ∧ Aside0 ((L.length : Int) ≤ x ∧ Good 3 L ∧ 0 ≤ k ∧ k ≤ a ∧ a ≤ (L.length : Int) ∧ a - k ≤ W) ∧ Aside0 (Own N wr [ObjC gl 3 L, LinkO gk 1 a0 1 true W 1125899906842624 a (left_ L k a) 1 0 0, cells gf #[.int .i64 a] 78, nrow k43 43 (.slice A (upTo L a).length c) (upTo L a)]) ∧ Aside0 (KeepS N w wr)
def FoJ (N : Nat → Prop) (w : World) (nf : Nat) (L : List Rnd) (R : List HP) (a b k : Int) (vi vl vg : Value) (wr : World) : Prop := ∃ (y la : Int) (A : Option Addr) (c : Nat), 0 ≤ y ∧ y ≤ (nf : Int) ∧ vi = .int .i64 y ∧ vl = .int .i64 la ∧ vg = .slice A (upTo L la).length c ∧ Aside0 (la = lastJ a b k y) ∧ Aside0 (Own N wr (R ++ [nrow k43 43 (.slice A (upTo L la).length c) (upTo L la)])) ∧ Aside0 (KeepS N w wr)
theorem sameAll_n {w : World} {A B : Option Addr} {c d : Nat} (n : Nat) (G : List Rnd) (hn : G.length = n) (h1 : Kd.C k43 w A n G) (h2 : n ≤ c) (h3 : Kd.C k43 w B n G) (h4 : n ≤ d) (hg : Good 3 G) (hk : n ≤ 100) :
  Calls Tryd.prog 28 #[.slice A n c, .slice B n d] w fun e_ w' => e_ = .returned (.bool true) ∧ Below w.heap.size w w' := by
 subst hn
 exact chapbookref07_SameAll.calls 200 _ _ G _ _ G true _ h1 h2 h3 h4 (psameAll 8 200 G (by omega) (good_short hg) (by decide) (by omega))
set_option maxHeartbeats 16000000 in
set_option maxRecDepth 100000 in
theorem chapbooklaw15_FeedOrder.calls (a0 : Int) (A1 : Option Addr) (c1 : Nat) (l1 : List Rnd) (A2 : Option Addr) (c2 : Nat) (l2 : List Int) (r : Bool) (w : World) (HT : Aside0 (Tab w)) (hr1 : Kd.C k43 w A1 l1.length l1) (hc1 : l1.length ≤ c1) (hr2 : Kd.C (Kd.int .u8) w A2 l2.length l2) (hc2 : l2.length ≤ c2) (h : chapbooklaw15_FeedOrder.f a0 l1 l2 = some r) :
  Calls Tryd.prog 6 #[.int .i64 a0, .slice A1 l1.length c1, .slice A2 l2.length c2] w fun e_ w' => e_ = .returned (.bool r) ∧ Below w.heap.size w w' := by
 obtain rfl : true = r := Option.some.inj h
 obtain ⟨A0, eA_⟩ : ∃ A0, A0 = A1 := ⟨_, rfl⟩
 subst eA_
 obtain ⟨c0, ec_⟩ : ∃ c0, c0 = c1 := ⟨_, rfl⟩
 subst ec_
 obtain ⟨l0, el_⟩ : ∃ l0, l0 = l1 := ⟨_, rfl⟩
 subst el_
 have hr0 := hr1
 have hc0 := hc1
 clear hr1 hc1
 obtain ⟨N, hN⟩ : ∃ N : Nat → Prop, N = fun k => k < w.heap.size := ⟨_, rfl⟩
 have HN := Aside0.mk hN
 have HT_0 : Aside0 (TabN N w) := ⟨by rw [hN]; exact World.block_lt_of_cell? w _ HT.out.1, HT.out⟩
 have HRL0 : Aside0 (Kd.F k43 w N A0 l0.length l0) := ⟨by rw [hN]; exact Kd.C_F heapR hr0⟩
 have HR0 := Aside0.mk hr0
 have HC0 := Aside0.mk hc0
 have O0 : Aside0 (Own N w []) := ⟨Own.start_ (fun k hk => by rw [hN] at hk; exact hk)⟩
 have K0 : Aside0 (KeepS N w w) := ⟨KeepS.refl _ _⟩
 have HT00 := HT_0
 clear hN HT hr0 hc0
 obtain ⟨b, hgr, hgb⟩ := great14_ok l0
 have HGR := Aside0.mk hgr
 have HGB := Aside0.mk hgb
 clear hgr hgb h
 have HRA := Aside0.mk hr2
 have HCA := Aside0.mk hc2
 clear hr2 hc2
 obtain ⟨W, hW⟩ : ∃ W, W = mn (mx a0 1) 16 := ⟨_, rfl⟩
 have HW := Aside0.mk hW.symm
 have HWR : Aside0 (1 ≤ W ∧ W ≤ 16) := ⟨by rw [hW]; unfold mn mx; (repeat' split) <;> omega⟩
 clear hW
 cases b with
 | true =>
  go_enter Tryd.func6, Tryd.ntmps6
  go_wp2_with (first | ((with_reducible refine gate_callee (f := 7) rfl ?_); refine goesL_ (some 19) rfl rfl Tryd.func7 (by kernel_rfl) rfl #[.int .i64 3] rfl (by (try simp only [List.map_toArray, List.map_cons, List.map_nil]); first | done | rfl) ?_; obtain ⟨N_, on_, nn_, rr_, bb_⟩ := O0.out.frame0; refine (New_n 3 3 (by decide) on_).mono ?_; rintro e_ w1 ⟨gl, rfl, oo_, kk_⟩; obtain ⟨o_, k_⟩ := bb_ _ _ kk_ oo_; refine ⟨_, rfl, ?_⟩; have O1 : Aside0 (Own N w1 [ObjC gl 3 []]) := ⟨o_⟩; have K1 : Aside0 (KeepS N w w1) := ⟨K0.out.trans k_⟩; have HT_1 : Aside0 (TabN N w1) := ⟨TabN.keep HT_0.out k_⟩; clear O0 K0 HT_0; clear o_ k_ oo_ kk_ on_ nn_ rr_ bb_) | ((with_reducible refine gate_callee (f := 8) rfl ?_); refine goesL_ (some 21) rfl rfl Tryd.func8 (by kernel_rfl) rfl #[.int .i64 1, .int .i64 a0, .int .i64 1, .bool true] rfl (by (try simp only [List.map_toArray, List.map_cons, List.map_nil]); first | done | rfl) ?_; obtain ⟨N_, on_, nn_, rr_, bb_⟩ := O1.out.frame0; refine (LNew 1 a0 1 true 1 W 1 (by decide) HW.out (by decide) on_).mono ?_; rintro e_ w2 ⟨gk, rfl, oo_, kk_⟩; obtain ⟨o_, k_⟩ := bb_ _ _ kk_ oo_; refine ⟨_, rfl, ?_⟩; have O2 : Aside0 (Own N w2 [ObjC gl 3 [], LinkO gk 1 a0 1 true W 1125899906842624 0 [] 1 0 0]) := ⟨o_⟩; have K2 : Aside0 (KeepS N w w2) := ⟨K1.out.trans k_⟩; have HT_2 : Aside0 (TabN N w2) := ⟨TabN.keep HT_1.out k_⟩; clear O1 K1 HT_1; clear o_ k_ oo_ kk_ on_ nn_ rr_ bb_) | ((with_reducible refine gate_callee (f := 9) rfl ?_); refine goesL_ (some 22) rfl rfl Tryd.func9 (by kernel_rfl) rfl #[] rfl (by (try simp only [List.map_toArray, List.map_cons, List.map_nil]); first | done | rfl) ?_; obtain ⟨N_, on_, nn_, rr_, bb_⟩ := O2.out.frame0; refine (FNew on_).mono ?_; rintro e_ w3 ⟨gf, rfl, oo_, kk_⟩; obtain ⟨o_, k_⟩ := bb_ _ _ kk_ oo_; refine ⟨_, rfl, ?_⟩; have O3 : Aside0 (Own N w3 [ObjC gl 3 [], LinkO gk 1 a0 1 true W 1125899906842624 0 [] 1 0 0, cells gf #[.int .i64 0] 78]) := ⟨o_⟩; have K3 : Aside0 (KeepS N w w3) := ⟨K2.out.trans k_⟩; have HT_3 : Aside0 (TabN N w3) := ⟨TabN.keep HT_2.out k_⟩; clear O2 K2 HT_2; clear o_ k_ oo_ kk_ on_ nn_ rr_ bb_) | ((with_reducible refine gate_callee (f := 12) rfl ?_); refine goesL_ (some 23) rfl rfl Tryd.func12 (by kernel_rfl) rfl #[] rfl (by (try simp only [List.map_toArray, List.map_cons, List.map_nil]); first | done | rfl) ?_; refine (awake _ ⟨HT_3.out.2⟩).mono ?_; rintro e_ w4 ⟨rfl, hb_⟩; refine ⟨_, rfl, ?_⟩; have o_ := O3.out.below hb_; have k_ := KeepS.of_below (N := N) hb_; have O4 : Aside0 (Own N w4 [ObjC gl 3 [], LinkO gk 1 a0 1 true W 1125899906842624 0 [] 1 0 0, cells gf #[.int .i64 0] 78]) := ⟨o_⟩; have K4 : Aside0 (KeepS N w w4) := ⟨K3.out.trans k_⟩; have HT_4 : Aside0 (TabN N w4) := ⟨TabN.keep HT_3.out k_⟩; clear O3 K3 HT_3; clear o_ k_ hb_) | ((with_reducible refine gate_callee (f := 25) rfl ?_); refine gate_guard (by rfl) ?_; refine goesL_ (some 39) rfl rfl Tryd.func25 (by kernel_rfl) rfl #[.slice A0 l0.length c0] rfl (by (try simp only [List.map_toArray, List.map_cons, List.map_nil]); first | done | rfl) ?_; refine (chapbookref07_GreatAll.calls 300 _ _ l0 true _ (Kd.C_below HR0.out (K4.out.below (Nat.le_refl _) (fun k hk => by rw [HN.out]; exact hk))) HC0.out HGR.out).mono ?_; rintro e_ w5 ⟨rfl, hb_⟩; refine ⟨_, rfl, ?_⟩; have o_ := O4.out.below hb_; have k_ := KeepS.of_below (N := N) hb_; have O5 : Aside0 (Own N w5 [ObjC gl 3 [], LinkO gk 1 a0 1 true W 1125899906842624 0 [] 1 0 0, cells gf #[.int .i64 0] 78]) := ⟨o_⟩; have K5 : Aside0 (KeepS N w w5) := ⟨K4.out.trans k_⟩; have HT_5 : Aside0 (TabN N w5) := ⟨TabN.keep HT_4.out k_⟩; clear O4 K4 HT_4; clear o_ k_ hb_) | ((with_reducible refine gate_callee (f := 12) rfl ?_); refine goesL_ (some 46) rfl rfl Tryd.func12 (by kernel_rfl) rfl #[] rfl (by (try simp only [List.map_toArray, List.map_cons, List.map_nil]); first | done | rfl) ?_; refine (awake _ ⟨HT_5.out.2⟩).mono ?_; rintro e_ w6 ⟨rfl, hb_⟩; refine ⟨_, rfl, ?_⟩; have o_ := O5.out.below hb_; have k_ := KeepS.of_below (N := N) hb_; have O6 : Aside0 (Own N w6 [ObjC gl 3 [], LinkO gk 1 a0 1 true W 1125899906842624 0 [] 1 0 0, cells gf #[.int .i64 0] 78]) := ⟨o_⟩; have K6 : Aside0 (KeepS N w w6) := ⟨K5.out.trans k_⟩; have HT_6 : Aside0 (TabN N w6) := ⟨TabN.keep HT_5.out k_⟩; clear O5 K5 HT_5; clear o_ k_ hb_))
  all_goals go_ret
  all_goals exact ⟨rfl, K6.out.below (Nat.le_refl _) (fun k hk => by rw [HN.out]; exact hk)⟩
 | false =>
  obtain ⟨hl40, hl20⟩ := HGB.out rfl
  have HL40 := Aside0.mk hl40
  have HL20 := Aside0.mk hl20
  clear hl40 hl20 HGB
  by_cases h2 : (l2.length : Int) > 60
  ·have d2 : decide ((l2.length : Int) > 60) = true := decide_eq_true h2
   have d4 : decide (60 < (l2.length : Int)) = true := decide_eq_true h2
   clear h2
   go_enter Tryd.func6, Tryd.ntmps6
   go_wp2_with (first | ((with_reducible refine gate_callee (f := 7) rfl ?_); refine goesL_ (some 19) rfl rfl Tryd.func7 (by kernel_rfl) rfl #[.int .i64 3] rfl (by (try simp only [List.map_toArray, List.map_cons, List.map_nil]); first | done | rfl) ?_; obtain ⟨N_, on_, nn_, rr_, bb_⟩ := O0.out.frame0; refine (New_n 3 3 (by decide) on_).mono ?_; rintro e_ w1 ⟨gl, rfl, oo_, kk_⟩; obtain ⟨o_, k_⟩ := bb_ _ _ kk_ oo_; refine ⟨_, rfl, ?_⟩; have O1 : Aside0 (Own N w1 [ObjC gl 3 []]) := ⟨o_⟩; have K1 : Aside0 (KeepS N w w1) := ⟨K0.out.trans k_⟩; have HT_1 : Aside0 (TabN N w1) := ⟨TabN.keep HT_0.out k_⟩; clear O0 K0 HT_0; clear o_ k_ oo_ kk_ on_ nn_ rr_ bb_) | ((with_reducible refine gate_callee (f := 8) rfl ?_); refine goesL_ (some 21) rfl rfl Tryd.func8 (by kernel_rfl) rfl #[.int .i64 1, .int .i64 a0, .int .i64 1, .bool true] rfl (by (try simp only [List.map_toArray, List.map_cons, List.map_nil]); first | done | rfl) ?_; obtain ⟨N_, on_, nn_, rr_, bb_⟩ := O1.out.frame0; refine (LNew 1 a0 1 true 1 W 1 (by decide) HW.out (by decide) on_).mono ?_; rintro e_ w2 ⟨gk, rfl, oo_, kk_⟩; obtain ⟨o_, k_⟩ := bb_ _ _ kk_ oo_; refine ⟨_, rfl, ?_⟩; have O2 : Aside0 (Own N w2 [ObjC gl 3 [], LinkO gk 1 a0 1 true W 1125899906842624 0 [] 1 0 0]) := ⟨o_⟩; have K2 : Aside0 (KeepS N w w2) := ⟨K1.out.trans k_⟩; have HT_2 : Aside0 (TabN N w2) := ⟨TabN.keep HT_1.out k_⟩; clear O1 K1 HT_1; clear o_ k_ oo_ kk_ on_ nn_ rr_ bb_) | ((with_reducible refine gate_callee (f := 9) rfl ?_); refine goesL_ (some 22) rfl rfl Tryd.func9 (by kernel_rfl) rfl #[] rfl (by (try simp only [List.map_toArray, List.map_cons, List.map_nil]); first | done | rfl) ?_; obtain ⟨N_, on_, nn_, rr_, bb_⟩ := O2.out.frame0; refine (FNew on_).mono ?_; rintro e_ w3 ⟨gf, rfl, oo_, kk_⟩; obtain ⟨o_, k_⟩ := bb_ _ _ kk_ oo_; refine ⟨_, rfl, ?_⟩; have O3 : Aside0 (Own N w3 [ObjC gl 3 [], LinkO gk 1 a0 1 true W 1125899906842624 0 [] 1 0 0, cells gf #[.int .i64 0] 78]) := ⟨o_⟩; have K3 : Aside0 (KeepS N w w3) := ⟨K2.out.trans k_⟩; have HT_3 : Aside0 (TabN N w3) := ⟨TabN.keep HT_2.out k_⟩; clear O2 K2 HT_2; clear o_ k_ oo_ kk_ on_ nn_ rr_ bb_) | ((with_reducible refine gate_callee (f := 12) rfl ?_); refine goesL_ (some 23) rfl rfl Tryd.func12 (by kernel_rfl) rfl #[] rfl (by (try simp only [List.map_toArray, List.map_cons, List.map_nil]); first | done | rfl) ?_; refine (awake _ ⟨HT_3.out.2⟩).mono ?_; rintro e_ w4 ⟨rfl, hb_⟩; refine ⟨_, rfl, ?_⟩; have o_ := O3.out.below hb_; have k_ := KeepS.of_below (N := N) hb_; have O4 : Aside0 (Own N w4 [ObjC gl 3 [], LinkO gk 1 a0 1 true W 1125899906842624 0 [] 1 0 0, cells gf #[.int .i64 0] 78]) := ⟨o_⟩; have K4 : Aside0 (KeepS N w w4) := ⟨K3.out.trans k_⟩; have HT_4 : Aside0 (TabN N w4) := ⟨TabN.keep HT_3.out k_⟩; clear O3 K3 HT_3; clear o_ k_ hb_) | ((with_reducible refine gate_callee (f := 25) rfl ?_); refine gate_guard (by rfl) ?_; refine goesL_ (some 39) rfl rfl Tryd.func25 (by kernel_rfl) rfl #[.slice A0 l0.length c0] rfl (by (try simp only [List.map_toArray, List.map_cons, List.map_nil]); first | done | rfl) ?_; refine (chapbookref07_GreatAll.calls 300 _ _ l0 false _ (Kd.C_below HR0.out (K4.out.below (Nat.le_refl _) (fun k hk => by rw [HN.out]; exact hk))) HC0.out HGR.out).mono ?_; rintro e_ w5 ⟨rfl, hb_⟩; refine ⟨_, rfl, ?_⟩; have o_ := O4.out.below hb_; have k_ := KeepS.of_below (N := N) hb_; have O5 : Aside0 (Own N w5 [ObjC gl 3 [], LinkO gk 1 a0 1 true W 1125899906842624 0 [] 1 0 0, cells gf #[.int .i64 0] 78]) := ⟨o_⟩; have K5 : Aside0 (KeepS N w w5) := ⟨K4.out.trans k_⟩; have HT_5 : Aside0 (TabN N w5) := ⟨TabN.keep HT_4.out k_⟩; clear O4 K4 HT_4; clear o_ k_ hb_) | ((with_reducible refine gate_callee (f := 12) rfl ?_); refine goesL_ (some 46) rfl rfl Tryd.func12 (by kernel_rfl) rfl #[] rfl (by (try simp only [List.map_toArray, List.map_cons, List.map_nil]); first | done | rfl) ?_; refine (awake _ ⟨HT_5.out.2⟩).mono ?_; rintro e_ w6 ⟨rfl, hb_⟩; refine ⟨_, rfl, ?_⟩; have o_ := O5.out.below hb_; have k_ := KeepS.of_below (N := N) hb_; have O6 : Aside0 (Own N w6 [ObjC gl 3 [], LinkO gk 1 a0 1 true W 1125899906842624 0 [] 1 0 0, cells gf #[.int .i64 0] 78]) := ⟨o_⟩; have K6 : Aside0 (KeepS N w w6) := ⟨K5.out.trans k_⟩; have HT_6 : Aside0 (TabN N w6) := ⟨TabN.keep HT_5.out k_⟩; clear O5 K5 HT_5; clear o_ k_ hb_))
   all_goals go_ret
   all_goals exact ⟨rfl, K6.out.below (Nat.le_refl _) (fun k hk => by rw [HN.out]; exact hk)⟩
  have d2 : decide ((l2.length : Int) > 60) = false := decide_eq_false h2
  have d4 : decide (60 < (l2.length : Int)) = false := decide_eq_false h2
  have HN60 : Aside0 (l2.length ≤ 60) := ⟨by omega⟩
  clear h2
  go_enter Tryd.func6, Tryd.ntmps6
  go_wp2_with (first | ((with_reducible refine gate_callee (f := 7) rfl ?_); refine goesL_ (some 19) rfl rfl Tryd.func7 (by kernel_rfl) rfl #[.int .i64 3] rfl (by (try simp only [List.map_toArray, List.map_cons, List.map_nil]); first | done | rfl) ?_; obtain ⟨N_, on_, nn_, rr_, bb_⟩ := O0.out.frame0; refine (New_n 3 3 (by decide) on_).mono ?_; rintro e_ w1 ⟨gl, rfl, oo_, kk_⟩; obtain ⟨o_, k_⟩ := bb_ _ _ kk_ oo_; refine ⟨_, rfl, ?_⟩; have O1 : Aside0 (Own N w1 [ObjC gl 3 []]) := ⟨o_⟩; have K1 : Aside0 (KeepS N w w1) := ⟨K0.out.trans k_⟩; have HT_1 : Aside0 (TabN N w1) := ⟨TabN.keep HT_0.out k_⟩; clear O0 K0 HT_0; clear o_ k_ oo_ kk_ on_ nn_ rr_ bb_) | ((with_reducible refine gate_callee (f := 8) rfl ?_); refine goesL_ (some 21) rfl rfl Tryd.func8 (by kernel_rfl) rfl #[.int .i64 1, .int .i64 a0, .int .i64 1, .bool true] rfl (by (try simp only [List.map_toArray, List.map_cons, List.map_nil]); first | done | rfl) ?_; obtain ⟨N_, on_, nn_, rr_, bb_⟩ := O1.out.frame0; refine (LNew 1 a0 1 true 1 W 1 (by decide) HW.out (by decide) on_).mono ?_; rintro e_ w2 ⟨gk, rfl, oo_, kk_⟩; obtain ⟨o_, k_⟩ := bb_ _ _ kk_ oo_; refine ⟨_, rfl, ?_⟩; have O2 : Aside0 (Own N w2 [ObjC gl 3 [], LinkO gk 1 a0 1 true W 1125899906842624 0 [] 1 0 0]) := ⟨o_⟩; have K2 : Aside0 (KeepS N w w2) := ⟨K1.out.trans k_⟩; have HT_2 : Aside0 (TabN N w2) := ⟨TabN.keep HT_1.out k_⟩; clear O1 K1 HT_1; clear o_ k_ oo_ kk_ on_ nn_ rr_ bb_) | ((with_reducible refine gate_callee (f := 9) rfl ?_); refine goesL_ (some 22) rfl rfl Tryd.func9 (by kernel_rfl) rfl #[] rfl (by (try simp only [List.map_toArray, List.map_cons, List.map_nil]); first | done | rfl) ?_; obtain ⟨N_, on_, nn_, rr_, bb_⟩ := O2.out.frame0; refine (FNew on_).mono ?_; rintro e_ w3 ⟨gf, rfl, oo_, kk_⟩; obtain ⟨o_, k_⟩ := bb_ _ _ kk_ oo_; refine ⟨_, rfl, ?_⟩; have O3 : Aside0 (Own N w3 [ObjC gl 3 [], LinkO gk 1 a0 1 true W 1125899906842624 0 [] 1 0 0, cells gf #[.int .i64 0] 78]) := ⟨o_⟩; have K3 : Aside0 (KeepS N w w3) := ⟨K2.out.trans k_⟩; have HT_3 : Aside0 (TabN N w3) := ⟨TabN.keep HT_2.out k_⟩; clear O2 K2 HT_2; clear o_ k_ oo_ kk_ on_ nn_ rr_ bb_) | ((with_reducible refine gate_callee (f := 12) rfl ?_); refine goesL_ (some 23) rfl rfl Tryd.func12 (by kernel_rfl) rfl #[] rfl (by (try simp only [List.map_toArray, List.map_cons, List.map_nil]); first | done | rfl) ?_; refine (awake _ ⟨HT_3.out.2⟩).mono ?_; rintro e_ w4 ⟨rfl, hb_⟩; refine ⟨_, rfl, ?_⟩; have o_ := O3.out.below hb_; have k_ := KeepS.of_below (N := N) hb_; have O4 : Aside0 (Own N w4 [ObjC gl 3 [], LinkO gk 1 a0 1 true W 1125899906842624 0 [] 1 0 0, cells gf #[.int .i64 0] 78]) := ⟨o_⟩; have K4 : Aside0 (KeepS N w w4) := ⟨K3.out.trans k_⟩; have HT_4 : Aside0 (TabN N w4) := ⟨TabN.keep HT_3.out k_⟩; clear O3 K3 HT_3; clear o_ k_ hb_) | ((with_reducible refine gate_callee (f := 25) rfl ?_); refine gate_guard (by rfl) ?_; refine goesL_ (some 39) rfl rfl Tryd.func25 (by kernel_rfl) rfl #[.slice A0 l0.length c0] rfl (by (try simp only [List.map_toArray, List.map_cons, List.map_nil]); first | done | rfl) ?_; refine (chapbookref07_GreatAll.calls 300 _ _ l0 false _ (Kd.C_below HR0.out (K4.out.below (Nat.le_refl _) (fun k hk => by rw [HN.out]; exact hk))) HC0.out HGR.out).mono ?_; rintro e_ w5 ⟨rfl, hb_⟩; refine ⟨_, rfl, ?_⟩; have o_ := O4.out.below hb_; have k_ := KeepS.of_below (N := N) hb_; have O5 : Aside0 (Own N w5 [ObjC gl 3 [], LinkO gk 1 a0 1 true W 1125899906842624 0 [] 1 0 0, cells gf #[.int .i64 0] 78]) := ⟨o_⟩; have K5 : Aside0 (KeepS N w w5) := ⟨K4.out.trans k_⟩; have HT_5 : Aside0 (TabN N w5) := ⟨TabN.keep HT_4.out k_⟩; clear O4 K4 HT_4; clear o_ k_ hb_))
  go_loopw [49, 11, 10] (fun vi vl vg wr => FoI N w l2.length gl gk gf a0 W vi vl vg wr) (fun vi _ _ _ => l2.length - (intOf vi).toNat)
  case atStart => exact ⟨0, [], 0, 0, none, 0, by omega, by omega, rfl, rfl, rfl, ⟨by decide, good_nil _, by omega, by omega, by decide, by have := HWR.out; omega⟩, ⟨(O5.out.push_emp (nrow k43 43 (.slice none 0 0) []) (fun w => Kd.N_nil _ _ _ _ _))⟩, K5⟩
  case round =>
   obtain ⟨x, L, a, k, AG, cG, hx0, hx1, rfl, rfl, rfl, HI, OA, KA⟩ := hrel
   clear O5 K5 HT_5
   have hn60 := HN60.out
   have HLL : Aside0 (L.length ≤ 1000) := ⟨by have := HI.out.1; omega⟩
   by_cases hlt : x < (l2.length : Int)
   ·have hRA2 : (Kd.int .u8).C wr A2 l2.length l2 := Kd.C_below HRA.out (KA.out.below (Nat.le_refl _) (fun k hk => by rw [HN.out]; exact hk))
    obtain ⟨av, ev, hv⟩ := at_B hRA2 x hx0 hlt
    cases ev
    obtain ⟨vb, hvb⟩ : ∃ v, v = l2.getD x.toNat 0 := ⟨_, rfl⟩
    rw [← hvb] at hv
    clear hvb hRA2
    have hs2 : wrap64 (x + 1) = x + 1 := by unfold wrap64; omega
    have hp := eq_true hx0
    have hq := eq_true hlt
    have hd : decide (x < (l2.length : Int)) = true := decide_eq_true hlt
    have HX := Aside0.mk (And.intro hx0 hlt)
    by_cases hr : x < (l0.length : Int)
    ·have hdr : decide (x < (l0.length : Int)) = true := decide_eq_true hr
     have hqr := eq_true hr
     have hF2 := keepF HRL0.out KA.out
     obtain ⟨ad, A3, c3, e3, x0, x1, x2, hl3, hF3⟩ := at_F hF2 x hx0 hr
     cases e3
     have HC3 := Aside0.mk hl3
     have HF3 := Aside0.mk hF3
     have HU : Aside0 ((rd_T43 l0 x).f2.length ≤ 1000000) := ⟨Nat.le_trans (HL20.out x hx0 hr) (by decide)⟩
     clear hF3 hF2 hl3
     clear hr hlt hx0 hx1 hn60
     have O6 : Aside0 (Own N wr [ObjC gl 3 L, LinkO gk 1 a0 1 true W 1125899906842624 a (left_ L k a) 1 0 0, cells gf #[.int .i64 a] 78, nrow k43 43 (.slice AG (upTo L a).length cG) (upTo L a)]) := ⟨OA.out⟩
     have K6 : Aside0 (KeepS N w wr) := ⟨KA.out⟩
     have HT_6 : Aside0 (TabN N wr) := ⟨HT00.out.keep KA.out⟩
     have HRI_6 : Aside0 (Kd.F k114 wr N A3 (rd_T43 l0 x).f2.length (rd_T43 l0 x).f2) := ⟨HF3.out⟩
     clear OA KA HF3
     obtain ⟨M, hM, hM1, hM2⟩ := addL_is 3 L (rd_T43 l0 x) HI.out.2.1
     obtain ⟨L2, hL2⟩ : ∃ L2, L2 = addL 3 L (rd_T43 l0 x) := ⟨_, rfl⟩
     have HL2 : Aside0 (L2 = L ++ M ∧ M.length ≤ 1 ∧ Good 3 L2) := ⟨by rw [hL2]; exact hM, hM1, by rw [hL2]; exact hM2⟩
     have HL2E := Aside0.mk hL2.symm
     clear hM hM1 hM2 hL2
     have HLN : Aside0 ((L2.length : Int) ≤ x + 1 ∧ (L.length : Int) ≤ (L2.length : Int) ∧ L2.length ≤ 1000) := ⟨by have h1_ := congrArg List.length HL2.out.1; rw [List.length_append] at h1_; have h2_ := HL2.out.2.1; have h3_ := HI.out.1; have h4_ := HX.out; have h5_ := HN60.out; omega⟩
     have HLE : Aside0 (left_ L k a = left_ L2 k a ∧ upTo L a = upTo L2 a) := ⟨by rw [HL2.out.1, left_app _ HI.out.2.2.2.2.1], by rw [HL2.out.1, upTo_app _ HI.out.2.2.2.2.1]⟩
     obtain ⟨m, hm⟩ : ∃ m, m = mn ((L2.length : Int) - a) (W - (a - k)) := ⟨_, rfl⟩
     obtain ⟨b, hb⟩ : ∃ b, b = a + m := ⟨_, rfl⟩
     have HPM : Aside0 (Pumps L2 W (left_ L2 k a) a m ∧ 0 ≤ m ∧ b = a + m ∧ b ≤ (L2.length : Int) ∧ b - k ≤ W ∧ 0 ≤ k ∧ k ≤ a) := ⟨by have h1_ := HI.out; have h2_ := HLN.out; have h3_ := left_len (L := L2) (k := k) (a := a) h1_.2.2.1 h1_.2.2.2.1 (by omega); unfold Pumps; rw [h3_, hb, hm]; unfold mn; (repeat' split) <;> omega⟩
     have HLB : Aside0 (((left_ L2 k a).length : Int) = a - k ∧ ((left_ L2 k b).length : Int) = b - k) := ⟨left_len HPM.out.2.2.2.2.2.1 HPM.out.2.2.2.2.2.2 (by have := HI.out; have := HLN.out; omega), left_len HPM.out.2.2.2.2.2.1 (by have := HPM.out; omega) HPM.out.2.2.2.1⟩
     have HLM : Aside0 (left_ L2 k a ++ pcs a (seg L2 a m) = left_ L2 k b) := ⟨by rw [hb]; exact left_more HPM.out.2.2.2.2.2.1 HPM.out.2.2.2.2.2.2 HPM.out.2.1 (by have := HPM.out; omega)⟩
     clear hm hb
     obtain ⟨F, hF⟩ : ∃ F, F = frs 1 0 (left_ L2 k b) := ⟨_, rfl⟩
     obtain ⟨nf, hnf⟩ : ∃ n, n = F.length := ⟨_, rfl⟩
     have HF : Aside0 (frs 1 0 (left_ L2 k b) = F ∧ F.length = nf ∧ nf ≤ 17) := ⟨hF.symm, hnf.symm, by rw [hnf, hF]; have h_ := frs_max 1 0 (left_ L2 k b); have := HLB.out; have := HPM.out; have := HWR.out; omega⟩
     have HFR : Aside0 (∀ y : Int, 0 ≤ y → y < (nf : Int) → (k = b ∧ (frAt F y).f1 = 0) ∨ (y < b - k ∧ (frAt F y).f1 = k + y + 1 ∧ (frAt F y).f3 = bR (rd_T43 L2 (k + y)))) := ⟨fun y h0 h1 => by rw [hF]; exact fr_left 1 0 y HPM.out.2.2.2.2.2.1 (by have := HPM.out; omega) HPM.out.2.2.2.1 h0 (by rw [← hF, ← hnf]; exact h1)⟩
     clear hF hnf
     have hupl : (upTo L a).length = (upTo L2 a).length := by rw [HLE.out.2]
     rw [hupl]
     clear hupl
     go_wp2_with (first | ((with_reducible refine gate_callee (f := 19) rfl ?_); refine goesL_ (some 63) rfl rfl Tryd.func19 (by kernel_rfl) rfl #[.pointer (some ⟨gl, 0, none⟩), .agg #[.int .i64 (rd_T43 l0 x).f0, .int .i64 (rd_T43 l0 x).f1, .slice A3 (rd_T43 l0 x).f2.length c3]] rfl (by (try simp only [List.map_toArray, List.map_cons, List.map_nil]); first | done | rfl) ?_; obtain ⟨N_, on_, nn_, rr_, bb_⟩ := O6.out.frame1 (i := 0) rfl; have hr_ := Kd.F_mono HRI_6.out nn_; refine (Add_a A3 c3 (rd_T43 l0 x) on_ hr_ HC3.out (by have := HLL.out; omega) HU.out HI.out.2.1).mono ?_; rintro e_ w7 ⟨E_, rfl, oo_, kk_⟩; rw [HL2E.out] at oo_; obtain ⟨o_, k_⟩ := bb_ _ _ _ kk_ oo_; refine ⟨_, rfl, ?_⟩; have O7 : Aside0 (Own N w7 [ObjC gl 3 L2, LinkO gk 1 a0 1 true W 1125899906842624 a (left_ L k a) 1 0 0, cells gf #[.int .i64 a] 78, nrow k43 43 (.slice AG (upTo L a).length cG) (upTo L a)]) := ⟨o_⟩; have K7 : Aside0 (KeepS N w w7) := ⟨K6.out.trans k_⟩; have HT_7 : Aside0 (TabN N w7) := ⟨TabN.keep HT_6.out k_⟩; have HRI_7 : Aside0 (Kd.F k114 w7 N A3 (rd_T43 l0 x).f2.length (rd_T43 l0 x).f2) := ⟨keepF HRI_6.out k_⟩; clear O6 K6 HT_6 HRI_6; clear o_ k_ oo_ kk_ on_ nn_ rr_ bb_ hr_; have O8 : Aside0 (Own N w7 [ObjC gl 3 L2, LinkO gk 1 a0 1 true W 1125899906842624 a (left_ L2 k a) 1 0 0, cells gf #[.int .i64 a] 78, nrow k43 43 (.slice AG (upTo L2 a).length cG) (upTo L2 a)]) := ⟨(by rw [← HLE.out.1, ← HLE.out.2]; exact O7.out)⟩; clear O7) | ((with_reducible refine gate_callee (f := 14) rfl ?_); refine goesL_ (some 67) rfl rfl Tryd.func14 (by kernel_rfl) rfl #[.pointer (some ⟨gf, 0, none⟩), .pointer (some ⟨gl, 0, none⟩), .pointer (some ⟨gk, 0, none⟩)] rfl (by (try simp only [List.map_toArray, List.map_cons, List.map_nil]); first | done | rfl) ?_; obtain ⟨N_, on_, nn_, rr_, bb_⟩ := O8.out.frameL [2, 0, 1] (by decide) (by simp); refine (FPump_e m b b (left_ L2 k b) HPM.out.2.2.1.symm HPM.out.2.2.1.symm HLM.out on_ (TabN.mono HT_7.out nn_) (by have := HLN.out; omega) HL2.out.2.2 (by have := HI.out; have := HLN.out; omega) (by have := HI.out; have := HLL.out; omega) (by have := HLB.out; have := HI.out; have := HWR.out; omega) HPM.out.1).mono ?_; rintro e_ w9 ⟨rfl, oo_, kk_⟩; obtain ⟨o_, k_⟩ := bb_ _ [cells gf #[.int .i64 b] 78, ObjC gl 3 L2, LinkO gk 1 a0 1 true W 1125899906842624 b (left_ L2 k b) 1 0 0] [] rfl kk_ oo_; refine ⟨_, rfl, ?_⟩; have O9 : Aside0 (Own N w9 [ObjC gl 3 L2, LinkO gk 1 a0 1 true W 1125899906842624 b (left_ L2 k b) 1 0 0, cells gf #[.int .i64 b] 78, nrow k43 43 (.slice AG (upTo L2 a).length cG) (upTo L2 a)]) := ⟨o_⟩; have K9 : Aside0 (KeepS N w w9) := ⟨K7.out.trans k_⟩; have HT_9 : Aside0 (TabN N w9) := ⟨TabN.keep HT_7.out k_⟩; have HRI_9 : Aside0 (Kd.F k114 w9 N A3 (rd_T43 l0 x).f2.length (rd_T43 l0 x).f2) := ⟨keepF HRI_7.out k_⟩; clear O8 K7 HT_7 HRI_7; clear o_ k_ oo_ kk_ on_ nn_ rr_ bb_) | ((with_reducible refine gate_callee (f := 23) rfl ?_); refine goesL_ (some 69) rfl rfl Tryd.func23 (by kernel_rfl) rfl #[.pointer (some ⟨gk, 0, none⟩)] rfl (by (try simp only [List.map_toArray, List.map_cons, List.map_nil]); first | done | rfl) ?_; obtain ⟨N_, on_, nn_, rr_, bb_⟩ := O9.out.frame1 (i := 1) rfl; refine (LFrames_n nf F HF.out.2.1 HF.out.1 on_ (by decide) (by have := HLB.out; have := HPM.out; have := HWR.out; omega)).mono ?_; rintro e_ w10 ⟨A5, c5, rfl, oo_, kk_⟩; obtain ⟨o_, k_⟩ := bb_ _ _ _ kk_ oo_; refine ⟨_, rfl, ?_⟩; have O10 : Aside0 (Own N w10 [ObjC gl 3 L2, LinkO gk 1 a0 1 true W 1125899906842624 b (left_ L2 k b) 1 0 0, cells gf #[.int .i64 b] 78, nrow k43 43 (.slice AG (upTo L2 a).length cG) (upTo L2 a), nrow k40 40 (.slice A5 nf c5) F]) := ⟨o_⟩; have K10 : Aside0 (KeepS N w w10) := ⟨K9.out.trans k_⟩; have HT_10 : Aside0 (TabN N w10) := ⟨TabN.keep HT_9.out k_⟩; have HRI_10 : Aside0 (Kd.F k114 w10 N A3 (rd_T43 l0 x).f2.length (rd_T43 l0 x).f2) := ⟨keepF HRI_9.out k_⟩; clear O9 K9 HT_9 HRI_9; clear o_ k_ oo_ kk_ on_ nn_ rr_ bb_))
     go_loopw [71, 11, 10] (fun vi vl vg wr => FoJ N w nf L2 [ObjC gl 3 L2, LinkO gk 1 a0 1 true W 1125899906842624 b (left_ L2 k b) 1 0 0, cells gf #[.int .i64 b] 78, nrow k40 40 (.slice A5 nf c5) F] a b k vi vl vg wr) (fun vi _ _ _ => nf - (intOf vi).toNat)
     case atStart => exact ⟨0, a, AG, cG, by omega, by omega, rfl, rfl, rfl, ⟨by unfold lastJ; rw [if_neg (by have := HPM.out; omega)]⟩, ⟨O10.out.pickL [0, 1, 2, 4, 3] (by decide) (by simp)⟩, K10⟩
     case round =>
      obtain ⟨y, la, A7, c7, hy0, hy1, rfl, rfl, rfl, HJ, OB, KB⟩ := hrel
      clear O10 K10
      have hnf17 := HF.out.2.2
      by_cases hly : y < (nf : Int)
      ·obtain ⟨af, ef⟩ := at_Frm (OB.out.nreads (i := 3) rfl).2.2 (by omega)
       cases ef
       obtain ⟨f0_, f1_, f2_, f3_⟩ := at_FrmC (OB.out.nreads (i := 3) rfl).2.2 y hy0 hly
       obtain ⟨u0, hu0⟩ : ∃ u, u = (frAt F y).f0 := ⟨_, rfl⟩
       obtain ⟨u1, hu1⟩ : ∃ u, u = (frAt F y).f1 := ⟨_, rfl⟩
       obtain ⟨u2, hu2⟩ : ∃ u, u = (frAt F y).f2 := ⟨_, rfl⟩
       obtain ⟨u3, hu3⟩ : ∃ u, u = (frAt F y).f3 := ⟨_, rfl⟩
       have hfr := HFR.out y hy0 hly
       rw [← hu0] at f0_
       rw [← hu1] at f1_ hfr
       rw [← hu2] at f2_
       rw [← hu3] at f3_ hfr
       have HFY := Aside0.mk hfr
       have hs3 : wrap64 (y + 1) = y + 1 := by unfold wrap64; omega
       have hp2 := eq_true hy0
       have hq2 := eq_true hly
       have hd2 : decide (y < (nf : Int)) = true := decide_eq_true hly
       have HY := Aside0.mk (And.intro hy0 hly)
       clear hu0 hu1 hu2 hu3 hfr hy0 hy1 hly hnf17
       have O11 : Aside0 (Own N wr [ObjC gl 3 L2, LinkO gk 1 a0 1 true W 1125899906842624 b (left_ L2 k b) 1 0 0, cells gf #[.int .i64 b] 78, nrow k40 40 (.slice (some af) nf c5) F, nrow k43 43 (.slice A7 (upTo L2 la).length c7) (upTo L2 la)]) := ⟨OB.out⟩
       have K11 : Aside0 (KeepS N w wr) := ⟨KB.out⟩
       have HT_11 : Aside0 (TabN N wr) := ⟨HT00.out.keep KB.out⟩
       clear OB KB
       by_cases hle : u1 ≤ la
       ·have hd3 : decide (u1 ≤ la) = true := decide_eq_true hle
        have HLE1 := Aside0.mk hle
        clear hle
        go_wp2_with (first | ((with_reducible refine gate_dst (N := 15) rfl ?_); refine own_box rfl (D := 15) rfl (cs := #[.int .i64 0, .int .i64 0, .int .i64 0, .string ⟨#[]⟩]) (t := 40) ?hr O11.out ?_; (case hr => first | (go_simp; done) | (go_simp; rfl)); intro g15 w12 o_ k_; have O12 : Aside0 (Own N w12 [ObjC gl 3 L2, LinkO gk 1 a0 1 true W 1125899906842624 b (left_ L2 k b) 1 0 0, cells gf #[.int .i64 b] 78, nrow k40 40 (.slice (some af) nf c5) F, nrow k43 43 (.slice A7 (upTo L2 la).length c7) (upTo L2 la), cells g15 #[.int .i64 0, .int .i64 0, .int .i64 0, .string ⟨#[]⟩] 40]) := ⟨o_⟩; have K12 : Aside0 (KeepS N w w12) := ⟨K11.out.trans k_⟩; have HT_12 : Aside0 (TabN N w12) := ⟨TabN.keep HT_11.out k_⟩; clear O11 K11 HT_11; obtain ⟨a5a, a5b, a5c, a5d, b5⟩ := blk4_ (O12.out.blk (i := 5) rfl); clear o_ k_) | ((with_reducible refine gate_store (t := 40) (p := 15) rfl ?_); refine own_store rfl rfl rfl (w1 := (World.setCell (World.setCell (World.setCell (World.setCell w12 ⟨g15, 0, none⟩ (.int .i64 u0)) ⟨g15, 1, none⟩ (.int .i64 u1)) ⟨g15, 2, none⟩ (.int .i64 u2)) ⟨g15, 3, none⟩ (.string u3))) (N := N) (l' := [ObjC gl 3 L2, LinkO gk 1 a0 1 true W 1125899906842624 b (left_ L2 k b) 1 0 0, cells gf #[.int .i64 b] 78, nrow k40 40 (.slice (some af) nf c5) F, nrow k43 43 (.slice A7 (upTo L2 la).length c7) (upTo L2 la), cells g15 #[.int .i64 u0, .int .i64 u1, .int .i64 u2, .string u3] 40]) ?hr ?ho ?hk ?_; (case hr => first | (go_simp; done) | (go_simp; rfl)); (case ho => exact ((((O12.out.set (i := 5) rfl 0 (.int .i64 u0)).set (i := 5) rfl 1 (.int .i64 u1)).set (i := 5) rfl 2 (.int .i64 u2)).set (i := 5) rfl 3 (.string u3))); (case hk => exact ((((KeepS.setCell (O12.out.far (i := 5) rfl) (.int .i64 u0)).trans (KeepS.setCell (O12.out.far (i := 5) rfl) (.int .i64 u1))).trans (KeepS.setCell (O12.out.far (i := 5) rfl) (.int .i64 u2))).trans (KeepS.setCell (O12.out.far (i := 5) rfl) (.string u3)))); intro w13 o_ k_; have O13 : Aside0 (Own N w13 [ObjC gl 3 L2, LinkO gk 1 a0 1 true W 1125899906842624 b (left_ L2 k b) 1 0 0, cells gf #[.int .i64 b] 78, nrow k40 40 (.slice (some af) nf c5) F, nrow k43 43 (.slice A7 (upTo L2 la).length c7) (upTo L2 la), cells g15 #[.int .i64 u0, .int .i64 u1, .int .i64 u2, .string u3] 40]) := ⟨o_⟩; have K13 : Aside0 (KeepS N w w13) := ⟨K12.out.trans k_⟩; have HT_13 : Aside0 (TabN N w13) := ⟨TabN.keep HT_12.out k_⟩; clear a5a a5b a5c a5d b5 O12 K12 HT_12; obtain ⟨a5a, a5b, a5c, a5d, b5⟩ := blk4_ (O13.out.blk (i := 5) rfl); clear o_ k_))
        go_roundw
        case rel => exact ⟨y + 1, la, A7, c7, by have := HY.out; omega, by have := HY.out; omega, int_eq (by unfold wrap64; have := HY.out; have := HF.out; omega), rfl, rfl, ⟨by have h1_ := HJ.out; have h2_ := HLE1.out; have h3_ := HFY.out; have h4_ := HPM.out; unfold lastJ at h1_ ⊢; (repeat' split at h1_) <;> (repeat' split) <;> omega⟩, ⟨O13.out.pickL [0, 1, 2, 3, 4] (by decide) (by simp)⟩, K13⟩
        case measure => have := HY.out; simp [intOf]; omega
       ·have hd3 : decide (u1 ≤ la) = false := decide_eq_false hle
        have HU1 : Aside0 (u1 = la + 1 ∧ 0 ≤ la ∧ la < b ∧ k + y = la) := ⟨by have h1_ := HJ.out; have h3_ := HFY.out; have h4_ := HPM.out; have h5_ := HY.out; unfold lastJ at h1_; (repeat' split at h1_) <;> omega⟩
        have HD : Aside0 (u3 = bR (rd_T43 L2 la)) := ⟨by rcases HFY.out with h_ | h_; (have := HU1.out; omega); rw [h_.2.2, HU1.out.2.2.2]⟩
        have HM0 : Aside0 (mayR (rd_T43 L2 la).f0 (rd_T43 L2 la).f1 (rd_T43 L2 la).f2 = 0) := ⟨(HL2.out.2.2 _ (mem_rd HU1.out.2.1 (by have := HU1.out; have := HPM.out; omega))).1⟩
        have HGT : Aside0 (round_Get.f 60 u3 = some ((rd_T43 L2 la).f0, (rd_T43 L2 la).f1, (rd_T43 L2 la).f2, 0)) := ⟨by rw [HD.out]; show round_Get.f (20 + 40) (bytesR (rd_T43 L2 la).f0 (rd_T43 L2 la).f1 (rd_T43 L2 la).f2) = _; rw [pgetR 20 _ (Nat.le_trans (bytesR_size HM0.out) (by decide))]; exact congrArg some (getR_bytes HM0.out)⟩
        have hw1 : wrap64 (la + 1) = u1 := by have := HU1.out; have := HPM.out; have := HLN.out; unfold wrap64; omega
        have hw2 : IntKind.i64.wrap (la + 1) = u1 := by rw [IntKind.wrap_i64]; have := HU1.out; have := HPM.out; have := HLN.out; omega
        have huu : (u1 != u1) = false := by simp
        have h00 : ((0 : Int) != 0) = false := by decide
        clear hle
        go_wp2_with (first | ((with_reducible refine gate_dst (N := 15) rfl ?_); refine own_box rfl (D := 15) rfl (cs := #[.int .i64 0, .int .i64 0, .int .i64 0, .string ⟨#[]⟩]) (t := 40) ?hr O11.out ?_; (case hr => first | (go_simp; done) | (go_simp; rfl)); intro g15 w12 o_ k_; have O12 : Aside0 (Own N w12 [ObjC gl 3 L2, LinkO gk 1 a0 1 true W 1125899906842624 b (left_ L2 k b) 1 0 0, cells gf #[.int .i64 b] 78, nrow k40 40 (.slice (some af) nf c5) F, nrow k43 43 (.slice A7 (upTo L2 la).length c7) (upTo L2 la), cells g15 #[.int .i64 0, .int .i64 0, .int .i64 0, .string ⟨#[]⟩] 40]) := ⟨o_⟩; have K12 : Aside0 (KeepS N w w12) := ⟨K11.out.trans k_⟩; have HT_12 : Aside0 (TabN N w12) := ⟨TabN.keep HT_11.out k_⟩; clear O11 K11 HT_11; obtain ⟨a5a, a5b, a5c, a5d, b5⟩ := blk4_ (O12.out.blk (i := 5) rfl); clear o_ k_) | ((with_reducible refine gate_store (t := 40) (p := 15) rfl ?_); refine own_store rfl rfl rfl (w1 := (World.setCell (World.setCell (World.setCell (World.setCell w12 ⟨g15, 0, none⟩ (.int .i64 u0)) ⟨g15, 1, none⟩ (.int .i64 u1)) ⟨g15, 2, none⟩ (.int .i64 u2)) ⟨g15, 3, none⟩ (.string u3))) (N := N) (l' := [ObjC gl 3 L2, LinkO gk 1 a0 1 true W 1125899906842624 b (left_ L2 k b) 1 0 0, cells gf #[.int .i64 b] 78, nrow k40 40 (.slice (some af) nf c5) F, nrow k43 43 (.slice A7 (upTo L2 la).length c7) (upTo L2 la), cells g15 #[.int .i64 u0, .int .i64 u1, .int .i64 u2, .string u3] 40]) ?hr ?ho ?hk ?_; (case hr => first | (go_simp; done) | (go_simp; rfl)); (case ho => exact ((((O12.out.set (i := 5) rfl 0 (.int .i64 u0)).set (i := 5) rfl 1 (.int .i64 u1)).set (i := 5) rfl 2 (.int .i64 u2)).set (i := 5) rfl 3 (.string u3))); (case hk => exact ((((KeepS.setCell (O12.out.far (i := 5) rfl) (.int .i64 u0)).trans (KeepS.setCell (O12.out.far (i := 5) rfl) (.int .i64 u1))).trans (KeepS.setCell (O12.out.far (i := 5) rfl) (.int .i64 u2))).trans (KeepS.setCell (O12.out.far (i := 5) rfl) (.string u3)))); intro w13 o_ k_; have O13 : Aside0 (Own N w13 [ObjC gl 3 L2, LinkO gk 1 a0 1 true W 1125899906842624 b (left_ L2 k b) 1 0 0, cells gf #[.int .i64 b] 78, nrow k40 40 (.slice (some af) nf c5) F, nrow k43 43 (.slice A7 (upTo L2 la).length c7) (upTo L2 la), cells g15 #[.int .i64 u0, .int .i64 u1, .int .i64 u2, .string u3] 40]) := ⟨o_⟩; have K13 : Aside0 (KeepS N w w13) := ⟨K12.out.trans k_⟩; have HT_13 : Aside0 (TabN N w13) := ⟨TabN.keep HT_12.out k_⟩; clear a5a a5b a5c a5d b5 O12 K12 HT_12; obtain ⟨a5a, a5b, a5c, a5d, b5⟩ := blk4_ (O13.out.blk (i := 5) rfl); clear o_ k_) | ((with_reducible refine gate_callee (f := 29) rfl ?_); refine goesL_ (some 82) rfl rfl Tryd.func29 (by kernel_rfl) rfl #[.string u3] rfl (by (try simp only [List.map_toArray, List.map_cons, List.map_nil]); first | done | rfl) ?_; refine (round_Get.calls 60 u3 (rd_T43 L2 la).f0 (rd_T43 L2 la).f1 (rd_T43 L2 la).f2 0 _ ⟨HT_13.out.2⟩ HGT.out).mono ?_; rintro e_ w14 ⟨v_, rfl, hR_, hb_⟩; obtain ⟨A8, c8, e__⟩ := Kd.R_slice hR_; subst e__; refine ⟨_, rfl, ?_⟩; have o_ := O13.out.pushR hb_ (Nat.le_refl _) hR_; have k_ := KeepS.of_below (N := N) hb_; have O14 : Aside0 (Own N w14 [ObjC gl 3 L2, LinkO gk 1 a0 1 true W 1125899906842624 b (left_ L2 k b) 1 0 0, cells gf #[.int .i64 b] 78, nrow k40 40 (.slice (some af) nf c5) F, nrow k43 43 (.slice A7 (upTo L2 la).length c7) (upTo L2 la), cells g15 #[.int .i64 u0, .int .i64 u1, .int .i64 u2, .string u3] 40, nrow k114 114 (.slice A8 ((rd_T43 L2 la).f2).length c8) ((rd_T43 L2 la).f2)]) := ⟨o_⟩; have K14 : Aside0 (KeepS N w w14) := ⟨K13.out.trans k_⟩; have HT_14 : Aside0 (TabN N w14) := ⟨TabN.keep HT_13.out k_⟩; clear a5a a5b a5c a5d b5 O13 K13 HT_13; obtain ⟨a5a, a5b, a5c, a5d, b5⟩ := blk4_ (O14.out.blk (i := 5) rfl); clear o_ k_ hb_ hR_) | ((with_reducible refine gate_dst (N := 16) rfl ?_); refine own_box rfl (D := 16) rfl (cs := #[.int .i64 0, .int .i64 0, .slice none 0 0]) (t := 43) ?hr O14.out ?_; (case hr => first | (go_simp; done) | (go_simp; rfl)); intro g16 w15 o_ k_; have O15 : Aside0 (Own N w15 [ObjC gl 3 L2, LinkO gk 1 a0 1 true W 1125899906842624 b (left_ L2 k b) 1 0 0, cells gf #[.int .i64 b] 78, nrow k40 40 (.slice (some af) nf c5) F, nrow k43 43 (.slice A7 (upTo L2 la).length c7) (upTo L2 la), cells g15 #[.int .i64 u0, .int .i64 u1, .int .i64 u2, .string u3] 40, nrow k114 114 (.slice A8 ((rd_T43 L2 la).f2).length c8) ((rd_T43 L2 la).f2), cells g16 #[.int .i64 0, .int .i64 0, .slice none 0 0] 43]) := ⟨o_⟩; have K15 : Aside0 (KeepS N w w15) := ⟨K14.out.trans k_⟩; have HT_15 : Aside0 (TabN N w15) := ⟨TabN.keep HT_14.out k_⟩; clear a5a a5b a5c a5d b5 O14 K14 HT_14; obtain ⟨a5a, a5b, a5c, a5d, b5⟩ := blk4_ (O15.out.blk (i := 5) rfl); obtain ⟨a7a, a7b, a7c, b7⟩ := blk3_ (O15.out.blk (i := 7) rfl); clear o_ k_) | ((with_reducible refine gate_store (t := 43) (p := 16) rfl ?_); refine own_store rfl rfl rfl (w1 := (World.setCell (World.setCell (World.setCell w15 ⟨g16, 0, none⟩ (.int .i64 (rd_T43 L2 la).f0)) ⟨g16, 1, none⟩ (.int .i64 (rd_T43 L2 la).f1)) ⟨g16, 2, none⟩ (.slice A8 (rd_T43 L2 la).f2.length c8))) (N := N) (l' := [ObjC gl 3 L2, LinkO gk 1 a0 1 true W 1125899906842624 b (left_ L2 k b) 1 0 0, cells gf #[.int .i64 b] 78, nrow k40 40 (.slice (some af) nf c5) F, nrow k43 43 (.slice A7 (upTo L2 la).length c7) (upTo L2 la), cells g15 #[.int .i64 u0, .int .i64 u1, .int .i64 u2, .string u3] 40, nrow k114 114 (.slice A8 ((rd_T43 L2 la).f2).length c8) ((rd_T43 L2 la).f2), cells g16 #[.int .i64 (rd_T43 L2 la).f0, .int .i64 (rd_T43 L2 la).f1, .slice A8 (rd_T43 L2 la).f2.length c8] 43]) ?hr ?ho ?hk ?_; (case hr => first | (go_simp; done) | (go_simp; rfl)); (case ho => exact (((O15.out.set (i := 7) rfl 0 (.int .i64 (rd_T43 L2 la).f0)).set (i := 7) rfl 1 (.int .i64 (rd_T43 L2 la).f1)).set (i := 7) rfl 2 (.slice A8 (rd_T43 L2 la).f2.length c8))); (case hk => exact (((KeepS.setCell (O15.out.far (i := 7) rfl) (.int .i64 (rd_T43 L2 la).f0)).trans (KeepS.setCell (O15.out.far (i := 7) rfl) (.int .i64 (rd_T43 L2 la).f1))).trans (KeepS.setCell (O15.out.far (i := 7) rfl) (.slice A8 (rd_T43 L2 la).f2.length c8)))); intro w16 o_ k_; have O16 : Aside0 (Own N w16 [ObjC gl 3 L2, LinkO gk 1 a0 1 true W 1125899906842624 b (left_ L2 k b) 1 0 0, cells gf #[.int .i64 b] 78, nrow k40 40 (.slice (some af) nf c5) F, nrow k43 43 (.slice A7 (upTo L2 la).length c7) (upTo L2 la), cells g15 #[.int .i64 u0, .int .i64 u1, .int .i64 u2, .string u3] 40, nrow k114 114 (.slice A8 ((rd_T43 L2 la).f2).length c8) ((rd_T43 L2 la).f2), cells g16 #[.int .i64 (rd_T43 L2 la).f0, .int .i64 (rd_T43 L2 la).f1, .slice A8 (rd_T43 L2 la).f2.length c8] 43]) := ⟨o_⟩; have K16 : Aside0 (KeepS N w w16) := ⟨K15.out.trans k_⟩; have HT_16 : Aside0 (TabN N w16) := ⟨TabN.keep HT_15.out k_⟩; clear a5a a5b a5c a5d b5 a7a a7b a7c b7 O15 K15 HT_15; obtain ⟨a5a, a5b, a5c, a5d, b5⟩ := blk4_ (O16.out.blk (i := 5) rfl); obtain ⟨a7a, a7b, a7c, b7⟩ := blk3_ (O16.out.blk (i := 7) rfl); clear o_ k_; have O17 : Aside0 (Own N w16 [ObjC gl 3 L2, LinkO gk 1 a0 1 true W 1125899906842624 b (left_ L2 k b) 1 0 0, cells gf #[.int .i64 b] 78, nrow k40 40 (.slice (some af) nf c5) F, nrow k43 43 (.slice A7 (upTo L2 la).length c7) (upTo L2 la), cells g15 #[.int .i64 u0, .int .i64 u1, .int .i64 u2, .string u3] 40, elt k43 (rd_T43 L2 la) [.int .i64 (rd_T43 L2 la).f0, .int .i64 (rd_T43 L2 la).f1, .slice A8 (rd_T43 L2 la).f2.length c8], cells g16 #[.int .i64 (rd_T43 L2 la).f0, .int .i64 (rd_T43 L2 la).f1, .slice A8 (rd_T43 L2 la).f2.length c8] 43]) := ⟨roundOf (rd_T43 L2 la) (i := 6) O16.out rfl⟩; have K17 := K16; clear O16 K16; have HT_17 := HT_16; clear HT_16) | ((with_reducible refine gate_builtin (b := .append) (xs := #[.tmp 96, .tmp 98]) rfl ?_); at_builtin; refine Own.append k43 O17.out (i := 4) (j := 6) rfl rfl (by decide) rfl (.tmp 96) (.tmp 98) 57 (.agg #[.int .i64 0, .int .i64 0, .slice none 0 0]) 40 rfl Tryd.underlying57 infoR rfl (by decide) (by decide) rfl rfl (by have h_ := upTo_len L2 la; have := HLN.out; omega) ?_; intro A9 c9 w18 o_ k_; have O18 : Aside0 (Own N w18 [ObjC gl 3 L2, LinkO gk 1 a0 1 true W 1125899906842624 b (left_ L2 k b) 1 0 0, cells gf #[.int .i64 b] 78, nrow k40 40 (.slice (some af) nf c5) F, nrow k43 43 (.slice A9 (((upTo L2 la)).length + 1) c9) (((upTo L2 la)) ++ [(rd_T43 L2 la)]), cells g15 #[.int .i64 u0, .int .i64 u1, .int .i64 u2, .string u3] 40, emp, cells g16 #[.int .i64 (rd_T43 L2 la).f0, .int .i64 (rd_T43 L2 la).f1, .slice A8 (rd_T43 L2 la).f2.length c8] 43]) := ⟨o_⟩; have K18 : Aside0 (KeepS N w w18) := ⟨K17.out.trans k_⟩; have HT_18 : Aside0 (TabN N w18) := ⟨TabN.keep HT_17.out k_⟩; clear a5a a5b a5c a5d b5 a7a a7b a7c b7 O17 K17 HT_17; obtain ⟨a5a, a5b, a5c, a5d, b5⟩ := blk4_ (O18.out.blk (i := 5) rfl); obtain ⟨a7a, a7b, a7c, b7⟩ := blk3_ (O18.out.blk (i := 7) rfl); clear o_ k_))
        go_roundw
        have hsn := upTo_snoc L2 la HU1.out.2.1 (by have := HU1.out; have := HPM.out; omega)
        case rel => exact ⟨y + 1, la + 1, A9, c9, by have := HY.out; omega, by have := HY.out; omega, int_eq (by unfold wrap64; have := HY.out; have := HF.out; omega), int_eq HU1.out.1, slice_len (by rw [hsn]; simp), ⟨by have h1_ := HJ.out; have h2_ := HU1.out; have h4_ := HPM.out; unfold lastJ at h1_ ⊢; (repeat' split at h1_) <;> (repeat' split) <;> omega⟩, ⟨by rw [hsn]; simp only [List.length_append, List.length_singleton]; exact O18.out.pickL [0, 1, 2, 3, 4] (by decide) (by simp)⟩, K18⟩
        case measure => have := HY.out; simp [intOf]; omega
      ·have hd2 : decide (y < (nf : Int)) = false := decide_eq_false hly
       have HLA : Aside0 (la = b) := ⟨lastJ_end (L := L2) (nf := nf) HJ.out (by omega) (by omega) (by rw [HF.out.1]; exact HF.out.2.1) HLB.out.2 HPM.out.2.2.2.2.2.2 (by have := HPM.out; omega) HPM.out.2.2.2.2.2.1⟩
       have HBB : Aside0 (0 ≤ b ∧ b ≤ 1000) := ⟨by have := HPM.out; have := HLN.out; omega⟩
       clear hly hy0 hy1 hnf17
       obtain rfl : la = b := HLA.out
       have hw1 : wrap64 (la + 1) = la + 1 := by have := HBB.out; unfold wrap64; omega
       have hw2 : IntKind.i64.wrap (la + 1) = la + 1 := by rw [IntKind.wrap_i64]; have := HBB.out; omega
       have hnz : ((la + 1) == 0) = false := by have := HBB.out; simp; omega
       have hnz2 : (la + 1 = 0) = False := eq_false (by have := HBB.out; omega)
       obtain ⟨Q, hQ⟩ : ∃ Q : Int, Q = (Int.tmod (wrap64 vb) (la + 1)) := ⟨_, rfl⟩
       have hQ2 := hQ.symm
       clear hQ
       obtain ⟨k9, hk9a, hk9b, hk9c, hk9⟩ := left_ack (L := L2) (k := k) (a := la) (q := Q) HPM.out.2.2.2.2.2.1 (by have := HPM.out; omega) HPM.out.2.2.2.1
       have HK9 : Aside0 ((0 ≤ k9 ∧ k ≤ k9) ∧ k9 ≤ la ∧ ackX la Q (left_ L2 k la) = left_ L2 k9 la) := ⟨⟨hk9a, hk9b⟩, hk9c, hk9⟩
       clear hk9a hk9b hk9c hk9
       have O11 : Aside0 (Own N wr [ObjC gl 3 L2, LinkO gk 1 a0 1 true W 1125899906842624 la (left_ L2 k la) 1 0 0, cells gf #[.int .i64 la] 78, nrow k40 40 (.slice A5 nf c5) F, nrow k43 43 (.slice A7 (upTo L2 la).length c7) (upTo L2 la)]) := ⟨OB.out⟩
       have K11 : Aside0 (KeepS N w wr) := ⟨KB.out⟩
       clear OB KB
       go_wp2_with (first | ((with_reducible refine gate_callee (f := 16) rfl ?_); refine goesL_ (some 108) rfl rfl Tryd.func16 (by kernel_rfl) rfl #[.pointer (some ⟨gk, 0, none⟩), .agg #[.int .i64 1, .int .i64 0, .int .i64 Q, .string ⟨#[]⟩]] rfl (by (try simp only [List.map_toArray, List.map_cons, List.map_nil]); first | done | rfl) ?_; obtain ⟨N_, on_, nn_, rr_, bb_⟩ := O11.out.frame1 (i := 1) rfl; refine (LHear_ack_e Q (left_ L2 k9 la) HK9.out.2.2 on_ (by have := HLB.out; have := HPM.out; have := HWR.out; omega)).mono ?_; rintro e_ w12 ⟨rfl, oo_, kk_⟩; obtain ⟨o_, k_⟩ := bb_ _ _ _ kk_ oo_; refine ⟨_, rfl, ?_⟩; have O12 : Aside0 (Own N w12 [ObjC gl 3 L2, LinkO gk 1 a0 1 true W 1125899906842624 la (left_ L2 k9 la) 1 0 0, cells gf #[.int .i64 la] 78, nrow k40 40 (.slice A5 nf c5) F, nrow k43 43 (.slice A7 (upTo L2 la).length c7) (upTo L2 la)]) := ⟨o_⟩; have K12 : Aside0 (KeepS N w w12) := ⟨K11.out.trans k_⟩; clear O11 K11; clear o_ k_ oo_ kk_ on_ nn_ rr_ bb_))
       go_roundw
       case rel => exact ⟨x + 1, L2, la, k9, A7, c7, by have := HX.out; omega, by have := HX.out; omega, int_eq (by unfold wrap64; have := HX.out; have := HN60.out; omega), rfl, rfl, ⟨HLN.out.1, HL2.out.2.2, HK9.out.1.1, HK9.out.2.1, HPM.out.2.2.2.1, by have := HPM.out; have := HK9.out; omega⟩, ⟨O12.out.pickL [0, 1, 2, 4] (by decide) (by simp)⟩, K12⟩
       case measure => have := HX.out; simp [intOf]; omega
    ·have hdr : decide (x < (l0.length : Int)) = false := decide_eq_false hr
     clear hr hlt hx0 hx1 hn60
     have O6 : Aside0 (Own N wr [ObjC gl 3 L, LinkO gk 1 a0 1 true W 1125899906842624 a (left_ L k a) 1 0 0, cells gf #[.int .i64 a] 78, nrow k43 43 (.slice AG (upTo L a).length cG) (upTo L a)]) := ⟨OA.out⟩
     have K6 : Aside0 (KeepS N w wr) := ⟨KA.out⟩
     have HT_6 : Aside0 (TabN N wr) := ⟨HT00.out.keep KA.out⟩
     clear OA KA
     obtain ⟨L2, hL2⟩ : ∃ L2, L2 = L := ⟨_, rfl⟩
     have HL2 : Aside0 (L2 = L ++ [] ∧ ([] : List Rnd).length ≤ 1 ∧ Good 3 L2) := ⟨by rw [hL2]; simp, by simp, by rw [hL2]; exact HI.out.2.1⟩
     have HL2E := Aside0.mk hL2
     clear hL2
     have HLN : Aside0 ((L2.length : Int) ≤ x + 1 ∧ (L.length : Int) ≤ (L2.length : Int) ∧ L2.length ≤ 1000) := ⟨by have h1_ := congrArg List.length HL2.out.1; rw [List.length_append] at h1_; have h2_ := HL2.out.2.1; have h3_ := HI.out.1; have h4_ := HX.out; have h5_ := HN60.out; omega⟩
     have HLE : Aside0 (left_ L k a = left_ L2 k a ∧ upTo L a = upTo L2 a) := ⟨by rw [HL2.out.1, left_app _ HI.out.2.2.2.2.1], by rw [HL2.out.1, upTo_app _ HI.out.2.2.2.2.1]⟩
     obtain ⟨m, hm⟩ : ∃ m, m = mn ((L2.length : Int) - a) (W - (a - k)) := ⟨_, rfl⟩
     obtain ⟨b, hb⟩ : ∃ b, b = a + m := ⟨_, rfl⟩
     have HPM : Aside0 (Pumps L2 W (left_ L2 k a) a m ∧ 0 ≤ m ∧ b = a + m ∧ b ≤ (L2.length : Int) ∧ b - k ≤ W ∧ 0 ≤ k ∧ k ≤ a) := ⟨by have h1_ := HI.out; have h2_ := HLN.out; have h3_ := left_len (L := L2) (k := k) (a := a) h1_.2.2.1 h1_.2.2.2.1 (by omega); unfold Pumps; rw [h3_, hb, hm]; unfold mn; (repeat' split) <;> omega⟩
     have HLB : Aside0 (((left_ L2 k a).length : Int) = a - k ∧ ((left_ L2 k b).length : Int) = b - k) := ⟨left_len HPM.out.2.2.2.2.2.1 HPM.out.2.2.2.2.2.2 (by have := HI.out; have := HLN.out; omega), left_len HPM.out.2.2.2.2.2.1 (by have := HPM.out; omega) HPM.out.2.2.2.1⟩
     have HLM : Aside0 (left_ L2 k a ++ pcs a (seg L2 a m) = left_ L2 k b) := ⟨by rw [hb]; exact left_more HPM.out.2.2.2.2.2.1 HPM.out.2.2.2.2.2.2 HPM.out.2.1 (by have := HPM.out; omega)⟩
     clear hm hb
     obtain ⟨F, hF⟩ : ∃ F, F = frs 1 0 (left_ L2 k b) := ⟨_, rfl⟩
     obtain ⟨nf, hnf⟩ : ∃ n, n = F.length := ⟨_, rfl⟩
     have HF : Aside0 (frs 1 0 (left_ L2 k b) = F ∧ F.length = nf ∧ nf ≤ 17) := ⟨hF.symm, hnf.symm, by rw [hnf, hF]; have h_ := frs_max 1 0 (left_ L2 k b); have := HLB.out; have := HPM.out; have := HWR.out; omega⟩
     have HFR : Aside0 (∀ y : Int, 0 ≤ y → y < (nf : Int) → (k = b ∧ (frAt F y).f1 = 0) ∨ (y < b - k ∧ (frAt F y).f1 = k + y + 1 ∧ (frAt F y).f3 = bR (rd_T43 L2 (k + y)))) := ⟨fun y h0 h1 => by rw [hF]; exact fr_left 1 0 y HPM.out.2.2.2.2.2.1 (by have := HPM.out; omega) HPM.out.2.2.2.1 h0 (by rw [← hF, ← hnf]; exact h1)⟩
     clear hF hnf
     have O7 : Aside0 (Own N wr [ObjC gl 3 L2, LinkO gk 1 a0 1 true W 1125899906842624 a (left_ L2 k a) 1 0 0, cells gf #[.int .i64 a] 78, nrow k43 43 (.slice AG (upTo L2 a).length cG) (upTo L2 a)]) := ⟨(by rw [← HLE.out.1, ← HLE.out.2]; rw [HL2E.out]; exact O6.out)⟩
     clear O6
     have hupl : (upTo L a).length = (upTo L2 a).length := by rw [HLE.out.2]
     rw [hupl]
     clear hupl
     go_wp2_with (first | ((with_reducible refine gate_callee (f := 14) rfl ?_); refine goesL_ (some 67) rfl rfl Tryd.func14 (by kernel_rfl) rfl #[.pointer (some ⟨gf, 0, none⟩), .pointer (some ⟨gl, 0, none⟩), .pointer (some ⟨gk, 0, none⟩)] rfl (by (try simp only [List.map_toArray, List.map_cons, List.map_nil]); first | done | rfl) ?_; obtain ⟨N_, on_, nn_, rr_, bb_⟩ := O7.out.frameL [2, 0, 1] (by decide) (by simp); refine (FPump_e m b b (left_ L2 k b) HPM.out.2.2.1.symm HPM.out.2.2.1.symm HLM.out on_ (TabN.mono HT_6.out nn_) (by have := HLN.out; omega) HL2.out.2.2 (by have := HI.out; have := HLN.out; omega) (by have := HI.out; have := HLL.out; omega) (by have := HLB.out; have := HI.out; have := HWR.out; omega) HPM.out.1).mono ?_; rintro e_ w8 ⟨rfl, oo_, kk_⟩; obtain ⟨o_, k_⟩ := bb_ _ [cells gf #[.int .i64 b] 78, ObjC gl 3 L2, LinkO gk 1 a0 1 true W 1125899906842624 b (left_ L2 k b) 1 0 0] [] rfl kk_ oo_; refine ⟨_, rfl, ?_⟩; have O8 : Aside0 (Own N w8 [ObjC gl 3 L2, LinkO gk 1 a0 1 true W 1125899906842624 b (left_ L2 k b) 1 0 0, cells gf #[.int .i64 b] 78, nrow k43 43 (.slice AG (upTo L2 a).length cG) (upTo L2 a)]) := ⟨o_⟩; have K8 : Aside0 (KeepS N w w8) := ⟨K6.out.trans k_⟩; have HT_8 : Aside0 (TabN N w8) := ⟨TabN.keep HT_6.out k_⟩; clear O7 K6 HT_6; clear o_ k_ oo_ kk_ on_ nn_ rr_ bb_) | ((with_reducible refine gate_callee (f := 23) rfl ?_); refine goesL_ (some 69) rfl rfl Tryd.func23 (by kernel_rfl) rfl #[.pointer (some ⟨gk, 0, none⟩)] rfl (by (try simp only [List.map_toArray, List.map_cons, List.map_nil]); first | done | rfl) ?_; obtain ⟨N_, on_, nn_, rr_, bb_⟩ := O8.out.frame1 (i := 1) rfl; refine (LFrames_n nf F HF.out.2.1 HF.out.1 on_ (by decide) (by have := HLB.out; have := HPM.out; have := HWR.out; omega)).mono ?_; rintro e_ w9 ⟨A5, c5, rfl, oo_, kk_⟩; obtain ⟨o_, k_⟩ := bb_ _ _ _ kk_ oo_; refine ⟨_, rfl, ?_⟩; have O9 : Aside0 (Own N w9 [ObjC gl 3 L2, LinkO gk 1 a0 1 true W 1125899906842624 b (left_ L2 k b) 1 0 0, cells gf #[.int .i64 b] 78, nrow k43 43 (.slice AG (upTo L2 a).length cG) (upTo L2 a), nrow k40 40 (.slice A5 nf c5) F]) := ⟨o_⟩; have K9 : Aside0 (KeepS N w w9) := ⟨K8.out.trans k_⟩; have HT_9 : Aside0 (TabN N w9) := ⟨TabN.keep HT_8.out k_⟩; clear O8 K8 HT_8; clear o_ k_ oo_ kk_ on_ nn_ rr_ bb_))
     go_loopw [71, 11, 10] (fun vi vl vg wr => FoJ N w nf L2 [ObjC gl 3 L2, LinkO gk 1 a0 1 true W 1125899906842624 b (left_ L2 k b) 1 0 0, cells gf #[.int .i64 b] 78, nrow k40 40 (.slice A5 nf c5) F] a b k vi vl vg wr) (fun vi _ _ _ => nf - (intOf vi).toNat)
     case atStart => exact ⟨0, a, AG, cG, by omega, by omega, rfl, rfl, rfl, ⟨by unfold lastJ; rw [if_neg (by have := HPM.out; omega)]⟩, ⟨O9.out.pickL [0, 1, 2, 4, 3] (by decide) (by simp)⟩, K9⟩
     case round =>
      obtain ⟨y, la, A7, c7, hy0, hy1, rfl, rfl, rfl, HJ, OB, KB⟩ := hrel
      clear O9 K9
      have hnf17 := HF.out.2.2
      by_cases hly : y < (nf : Int)
      ·obtain ⟨af, ef⟩ := at_Frm (OB.out.nreads (i := 3) rfl).2.2 (by omega)
       cases ef
       obtain ⟨f0_, f1_, f2_, f3_⟩ := at_FrmC (OB.out.nreads (i := 3) rfl).2.2 y hy0 hly
       obtain ⟨u0, hu0⟩ : ∃ u, u = (frAt F y).f0 := ⟨_, rfl⟩
       obtain ⟨u1, hu1⟩ : ∃ u, u = (frAt F y).f1 := ⟨_, rfl⟩
       obtain ⟨u2, hu2⟩ : ∃ u, u = (frAt F y).f2 := ⟨_, rfl⟩
       obtain ⟨u3, hu3⟩ : ∃ u, u = (frAt F y).f3 := ⟨_, rfl⟩
       have hfr := HFR.out y hy0 hly
       rw [← hu0] at f0_
       rw [← hu1] at f1_ hfr
       rw [← hu2] at f2_
       rw [← hu3] at f3_ hfr
       have HFY := Aside0.mk hfr
       have hs3 : wrap64 (y + 1) = y + 1 := by unfold wrap64; omega
       have hp2 := eq_true hy0
       have hq2 := eq_true hly
       have hd2 : decide (y < (nf : Int)) = true := decide_eq_true hly
       have HY := Aside0.mk (And.intro hy0 hly)
       clear hu0 hu1 hu2 hu3 hfr hy0 hy1 hly hnf17
       have O10 : Aside0 (Own N wr [ObjC gl 3 L2, LinkO gk 1 a0 1 true W 1125899906842624 b (left_ L2 k b) 1 0 0, cells gf #[.int .i64 b] 78, nrow k40 40 (.slice (some af) nf c5) F, nrow k43 43 (.slice A7 (upTo L2 la).length c7) (upTo L2 la)]) := ⟨OB.out⟩
       have K10 : Aside0 (KeepS N w wr) := ⟨KB.out⟩
       have HT_10 : Aside0 (TabN N wr) := ⟨HT00.out.keep KB.out⟩
       clear OB KB
       by_cases hle : u1 ≤ la
       ·have hd3 : decide (u1 ≤ la) = true := decide_eq_true hle
        have HLE1 := Aside0.mk hle
        clear hle
        go_wp2_with (first | ((with_reducible refine gate_dst (N := 15) rfl ?_); refine own_box rfl (D := 15) rfl (cs := #[.int .i64 0, .int .i64 0, .int .i64 0, .string ⟨#[]⟩]) (t := 40) ?hr O10.out ?_; (case hr => first | (go_simp; done) | (go_simp; rfl)); intro g15 w11 o_ k_; have O11 : Aside0 (Own N w11 [ObjC gl 3 L2, LinkO gk 1 a0 1 true W 1125899906842624 b (left_ L2 k b) 1 0 0, cells gf #[.int .i64 b] 78, nrow k40 40 (.slice (some af) nf c5) F, nrow k43 43 (.slice A7 (upTo L2 la).length c7) (upTo L2 la), cells g15 #[.int .i64 0, .int .i64 0, .int .i64 0, .string ⟨#[]⟩] 40]) := ⟨o_⟩; have K11 : Aside0 (KeepS N w w11) := ⟨K10.out.trans k_⟩; have HT_11 : Aside0 (TabN N w11) := ⟨TabN.keep HT_10.out k_⟩; clear O10 K10 HT_10; obtain ⟨a5a, a5b, a5c, a5d, b5⟩ := blk4_ (O11.out.blk (i := 5) rfl); clear o_ k_) | ((with_reducible refine gate_store (t := 40) (p := 15) rfl ?_); refine own_store rfl rfl rfl (w1 := (World.setCell (World.setCell (World.setCell (World.setCell w11 ⟨g15, 0, none⟩ (.int .i64 u0)) ⟨g15, 1, none⟩ (.int .i64 u1)) ⟨g15, 2, none⟩ (.int .i64 u2)) ⟨g15, 3, none⟩ (.string u3))) (N := N) (l' := [ObjC gl 3 L2, LinkO gk 1 a0 1 true W 1125899906842624 b (left_ L2 k b) 1 0 0, cells gf #[.int .i64 b] 78, nrow k40 40 (.slice (some af) nf c5) F, nrow k43 43 (.slice A7 (upTo L2 la).length c7) (upTo L2 la), cells g15 #[.int .i64 u0, .int .i64 u1, .int .i64 u2, .string u3] 40]) ?hr ?ho ?hk ?_; (case hr => first | (go_simp; done) | (go_simp; rfl)); (case ho => exact ((((O11.out.set (i := 5) rfl 0 (.int .i64 u0)).set (i := 5) rfl 1 (.int .i64 u1)).set (i := 5) rfl 2 (.int .i64 u2)).set (i := 5) rfl 3 (.string u3))); (case hk => exact ((((KeepS.setCell (O11.out.far (i := 5) rfl) (.int .i64 u0)).trans (KeepS.setCell (O11.out.far (i := 5) rfl) (.int .i64 u1))).trans (KeepS.setCell (O11.out.far (i := 5) rfl) (.int .i64 u2))).trans (KeepS.setCell (O11.out.far (i := 5) rfl) (.string u3)))); intro w12 o_ k_; have O12 : Aside0 (Own N w12 [ObjC gl 3 L2, LinkO gk 1 a0 1 true W 1125899906842624 b (left_ L2 k b) 1 0 0, cells gf #[.int .i64 b] 78, nrow k40 40 (.slice (some af) nf c5) F, nrow k43 43 (.slice A7 (upTo L2 la).length c7) (upTo L2 la), cells g15 #[.int .i64 u0, .int .i64 u1, .int .i64 u2, .string u3] 40]) := ⟨o_⟩; have K12 : Aside0 (KeepS N w w12) := ⟨K11.out.trans k_⟩; have HT_12 : Aside0 (TabN N w12) := ⟨TabN.keep HT_11.out k_⟩; clear a5a a5b a5c a5d b5 O11 K11 HT_11; obtain ⟨a5a, a5b, a5c, a5d, b5⟩ := blk4_ (O12.out.blk (i := 5) rfl); clear o_ k_))
        go_roundw
        case rel => exact ⟨y + 1, la, A7, c7, by have := HY.out; omega, by have := HY.out; omega, int_eq (by unfold wrap64; have := HY.out; have := HF.out; omega), rfl, rfl, ⟨by have h1_ := HJ.out; have h2_ := HLE1.out; have h3_ := HFY.out; have h4_ := HPM.out; unfold lastJ at h1_ ⊢; (repeat' split at h1_) <;> (repeat' split) <;> omega⟩, ⟨O12.out.pickL [0, 1, 2, 3, 4] (by decide) (by simp)⟩, K12⟩
        case measure => have := HY.out; simp [intOf]; omega
       ·have hd3 : decide (u1 ≤ la) = false := decide_eq_false hle
        have HU1 : Aside0 (u1 = la + 1 ∧ 0 ≤ la ∧ la < b ∧ k + y = la) := ⟨by have h1_ := HJ.out; have h3_ := HFY.out; have h4_ := HPM.out; have h5_ := HY.out; unfold lastJ at h1_; (repeat' split at h1_) <;> omega⟩
        have HD : Aside0 (u3 = bR (rd_T43 L2 la)) := ⟨by rcases HFY.out with h_ | h_; (have := HU1.out; omega); rw [h_.2.2, HU1.out.2.2.2]⟩
        have HM0 : Aside0 (mayR (rd_T43 L2 la).f0 (rd_T43 L2 la).f1 (rd_T43 L2 la).f2 = 0) := ⟨(HL2.out.2.2 _ (mem_rd HU1.out.2.1 (by have := HU1.out; have := HPM.out; omega))).1⟩
        have HGT : Aside0 (round_Get.f 60 u3 = some ((rd_T43 L2 la).f0, (rd_T43 L2 la).f1, (rd_T43 L2 la).f2, 0)) := ⟨by rw [HD.out]; show round_Get.f (20 + 40) (bytesR (rd_T43 L2 la).f0 (rd_T43 L2 la).f1 (rd_T43 L2 la).f2) = _; rw [pgetR 20 _ (Nat.le_trans (bytesR_size HM0.out) (by decide))]; exact congrArg some (getR_bytes HM0.out)⟩
        have hw1 : wrap64 (la + 1) = u1 := by have := HU1.out; have := HPM.out; have := HLN.out; unfold wrap64; omega
        have hw2 : IntKind.i64.wrap (la + 1) = u1 := by rw [IntKind.wrap_i64]; have := HU1.out; have := HPM.out; have := HLN.out; omega
        have huu : (u1 != u1) = false := by simp
        have h00 : ((0 : Int) != 0) = false := by decide
        clear hle
        go_wp2_with (first | ((with_reducible refine gate_dst (N := 15) rfl ?_); refine own_box rfl (D := 15) rfl (cs := #[.int .i64 0, .int .i64 0, .int .i64 0, .string ⟨#[]⟩]) (t := 40) ?hr O10.out ?_; (case hr => first | (go_simp; done) | (go_simp; rfl)); intro g15 w11 o_ k_; have O11 : Aside0 (Own N w11 [ObjC gl 3 L2, LinkO gk 1 a0 1 true W 1125899906842624 b (left_ L2 k b) 1 0 0, cells gf #[.int .i64 b] 78, nrow k40 40 (.slice (some af) nf c5) F, nrow k43 43 (.slice A7 (upTo L2 la).length c7) (upTo L2 la), cells g15 #[.int .i64 0, .int .i64 0, .int .i64 0, .string ⟨#[]⟩] 40]) := ⟨o_⟩; have K11 : Aside0 (KeepS N w w11) := ⟨K10.out.trans k_⟩; have HT_11 : Aside0 (TabN N w11) := ⟨TabN.keep HT_10.out k_⟩; clear O10 K10 HT_10; obtain ⟨a5a, a5b, a5c, a5d, b5⟩ := blk4_ (O11.out.blk (i := 5) rfl); clear o_ k_) | ((with_reducible refine gate_store (t := 40) (p := 15) rfl ?_); refine own_store rfl rfl rfl (w1 := (World.setCell (World.setCell (World.setCell (World.setCell w11 ⟨g15, 0, none⟩ (.int .i64 u0)) ⟨g15, 1, none⟩ (.int .i64 u1)) ⟨g15, 2, none⟩ (.int .i64 u2)) ⟨g15, 3, none⟩ (.string u3))) (N := N) (l' := [ObjC gl 3 L2, LinkO gk 1 a0 1 true W 1125899906842624 b (left_ L2 k b) 1 0 0, cells gf #[.int .i64 b] 78, nrow k40 40 (.slice (some af) nf c5) F, nrow k43 43 (.slice A7 (upTo L2 la).length c7) (upTo L2 la), cells g15 #[.int .i64 u0, .int .i64 u1, .int .i64 u2, .string u3] 40]) ?hr ?ho ?hk ?_; (case hr => first | (go_simp; done) | (go_simp; rfl)); (case ho => exact ((((O11.out.set (i := 5) rfl 0 (.int .i64 u0)).set (i := 5) rfl 1 (.int .i64 u1)).set (i := 5) rfl 2 (.int .i64 u2)).set (i := 5) rfl 3 (.string u3))); (case hk => exact ((((KeepS.setCell (O11.out.far (i := 5) rfl) (.int .i64 u0)).trans (KeepS.setCell (O11.out.far (i := 5) rfl) (.int .i64 u1))).trans (KeepS.setCell (O11.out.far (i := 5) rfl) (.int .i64 u2))).trans (KeepS.setCell (O11.out.far (i := 5) rfl) (.string u3)))); intro w12 o_ k_; have O12 : Aside0 (Own N w12 [ObjC gl 3 L2, LinkO gk 1 a0 1 true W 1125899906842624 b (left_ L2 k b) 1 0 0, cells gf #[.int .i64 b] 78, nrow k40 40 (.slice (some af) nf c5) F, nrow k43 43 (.slice A7 (upTo L2 la).length c7) (upTo L2 la), cells g15 #[.int .i64 u0, .int .i64 u1, .int .i64 u2, .string u3] 40]) := ⟨o_⟩; have K12 : Aside0 (KeepS N w w12) := ⟨K11.out.trans k_⟩; have HT_12 : Aside0 (TabN N w12) := ⟨TabN.keep HT_11.out k_⟩; clear a5a a5b a5c a5d b5 O11 K11 HT_11; obtain ⟨a5a, a5b, a5c, a5d, b5⟩ := blk4_ (O12.out.blk (i := 5) rfl); clear o_ k_) | ((with_reducible refine gate_callee (f := 29) rfl ?_); refine goesL_ (some 82) rfl rfl Tryd.func29 (by kernel_rfl) rfl #[.string u3] rfl (by (try simp only [List.map_toArray, List.map_cons, List.map_nil]); first | done | rfl) ?_; refine (round_Get.calls 60 u3 (rd_T43 L2 la).f0 (rd_T43 L2 la).f1 (rd_T43 L2 la).f2 0 _ ⟨HT_12.out.2⟩ HGT.out).mono ?_; rintro e_ w13 ⟨v_, rfl, hR_, hb_⟩; obtain ⟨A8, c8, e__⟩ := Kd.R_slice hR_; subst e__; refine ⟨_, rfl, ?_⟩; have o_ := O12.out.pushR hb_ (Nat.le_refl _) hR_; have k_ := KeepS.of_below (N := N) hb_; have O13 : Aside0 (Own N w13 [ObjC gl 3 L2, LinkO gk 1 a0 1 true W 1125899906842624 b (left_ L2 k b) 1 0 0, cells gf #[.int .i64 b] 78, nrow k40 40 (.slice (some af) nf c5) F, nrow k43 43 (.slice A7 (upTo L2 la).length c7) (upTo L2 la), cells g15 #[.int .i64 u0, .int .i64 u1, .int .i64 u2, .string u3] 40, nrow k114 114 (.slice A8 ((rd_T43 L2 la).f2).length c8) ((rd_T43 L2 la).f2)]) := ⟨o_⟩; have K13 : Aside0 (KeepS N w w13) := ⟨K12.out.trans k_⟩; have HT_13 : Aside0 (TabN N w13) := ⟨TabN.keep HT_12.out k_⟩; clear a5a a5b a5c a5d b5 O12 K12 HT_12; obtain ⟨a5a, a5b, a5c, a5d, b5⟩ := blk4_ (O13.out.blk (i := 5) rfl); clear o_ k_ hb_ hR_) | ((with_reducible refine gate_dst (N := 16) rfl ?_); refine own_box rfl (D := 16) rfl (cs := #[.int .i64 0, .int .i64 0, .slice none 0 0]) (t := 43) ?hr O13.out ?_; (case hr => first | (go_simp; done) | (go_simp; rfl)); intro g16 w14 o_ k_; have O14 : Aside0 (Own N w14 [ObjC gl 3 L2, LinkO gk 1 a0 1 true W 1125899906842624 b (left_ L2 k b) 1 0 0, cells gf #[.int .i64 b] 78, nrow k40 40 (.slice (some af) nf c5) F, nrow k43 43 (.slice A7 (upTo L2 la).length c7) (upTo L2 la), cells g15 #[.int .i64 u0, .int .i64 u1, .int .i64 u2, .string u3] 40, nrow k114 114 (.slice A8 ((rd_T43 L2 la).f2).length c8) ((rd_T43 L2 la).f2), cells g16 #[.int .i64 0, .int .i64 0, .slice none 0 0] 43]) := ⟨o_⟩; have K14 : Aside0 (KeepS N w w14) := ⟨K13.out.trans k_⟩; have HT_14 : Aside0 (TabN N w14) := ⟨TabN.keep HT_13.out k_⟩; clear a5a a5b a5c a5d b5 O13 K13 HT_13; obtain ⟨a5a, a5b, a5c, a5d, b5⟩ := blk4_ (O14.out.blk (i := 5) rfl); obtain ⟨a7a, a7b, a7c, b7⟩ := blk3_ (O14.out.blk (i := 7) rfl); clear o_ k_) | ((with_reducible refine gate_store (t := 43) (p := 16) rfl ?_); refine own_store rfl rfl rfl (w1 := (World.setCell (World.setCell (World.setCell w14 ⟨g16, 0, none⟩ (.int .i64 (rd_T43 L2 la).f0)) ⟨g16, 1, none⟩ (.int .i64 (rd_T43 L2 la).f1)) ⟨g16, 2, none⟩ (.slice A8 (rd_T43 L2 la).f2.length c8))) (N := N) (l' := [ObjC gl 3 L2, LinkO gk 1 a0 1 true W 1125899906842624 b (left_ L2 k b) 1 0 0, cells gf #[.int .i64 b] 78, nrow k40 40 (.slice (some af) nf c5) F, nrow k43 43 (.slice A7 (upTo L2 la).length c7) (upTo L2 la), cells g15 #[.int .i64 u0, .int .i64 u1, .int .i64 u2, .string u3] 40, nrow k114 114 (.slice A8 ((rd_T43 L2 la).f2).length c8) ((rd_T43 L2 la).f2), cells g16 #[.int .i64 (rd_T43 L2 la).f0, .int .i64 (rd_T43 L2 la).f1, .slice A8 (rd_T43 L2 la).f2.length c8] 43]) ?hr ?ho ?hk ?_; (case hr => first | (go_simp; done) | (go_simp; rfl)); (case ho => exact (((O14.out.set (i := 7) rfl 0 (.int .i64 (rd_T43 L2 la).f0)).set (i := 7) rfl 1 (.int .i64 (rd_T43 L2 la).f1)).set (i := 7) rfl 2 (.slice A8 (rd_T43 L2 la).f2.length c8))); (case hk => exact (((KeepS.setCell (O14.out.far (i := 7) rfl) (.int .i64 (rd_T43 L2 la).f0)).trans (KeepS.setCell (O14.out.far (i := 7) rfl) (.int .i64 (rd_T43 L2 la).f1))).trans (KeepS.setCell (O14.out.far (i := 7) rfl) (.slice A8 (rd_T43 L2 la).f2.length c8)))); intro w15 o_ k_; have O15 : Aside0 (Own N w15 [ObjC gl 3 L2, LinkO gk 1 a0 1 true W 1125899906842624 b (left_ L2 k b) 1 0 0, cells gf #[.int .i64 b] 78, nrow k40 40 (.slice (some af) nf c5) F, nrow k43 43 (.slice A7 (upTo L2 la).length c7) (upTo L2 la), cells g15 #[.int .i64 u0, .int .i64 u1, .int .i64 u2, .string u3] 40, nrow k114 114 (.slice A8 ((rd_T43 L2 la).f2).length c8) ((rd_T43 L2 la).f2), cells g16 #[.int .i64 (rd_T43 L2 la).f0, .int .i64 (rd_T43 L2 la).f1, .slice A8 (rd_T43 L2 la).f2.length c8] 43]) := ⟨o_⟩; have K15 : Aside0 (KeepS N w w15) := ⟨K14.out.trans k_⟩; have HT_15 : Aside0 (TabN N w15) := ⟨TabN.keep HT_14.out k_⟩; clear a5a a5b a5c a5d b5 a7a a7b a7c b7 O14 K14 HT_14; obtain ⟨a5a, a5b, a5c, a5d, b5⟩ := blk4_ (O15.out.blk (i := 5) rfl); obtain ⟨a7a, a7b, a7c, b7⟩ := blk3_ (O15.out.blk (i := 7) rfl); clear o_ k_; have O16 : Aside0 (Own N w15 [ObjC gl 3 L2, LinkO gk 1 a0 1 true W 1125899906842624 b (left_ L2 k b) 1 0 0, cells gf #[.int .i64 b] 78, nrow k40 40 (.slice (some af) nf c5) F, nrow k43 43 (.slice A7 (upTo L2 la).length c7) (upTo L2 la), cells g15 #[.int .i64 u0, .int .i64 u1, .int .i64 u2, .string u3] 40, elt k43 (rd_T43 L2 la) [.int .i64 (rd_T43 L2 la).f0, .int .i64 (rd_T43 L2 la).f1, .slice A8 (rd_T43 L2 la).f2.length c8], cells g16 #[.int .i64 (rd_T43 L2 la).f0, .int .i64 (rd_T43 L2 la).f1, .slice A8 (rd_T43 L2 la).f2.length c8] 43]) := ⟨roundOf (rd_T43 L2 la) (i := 6) O15.out rfl⟩; have K16 := K15; clear O15 K15; have HT_16 := HT_15; clear HT_15) | ((with_reducible refine gate_builtin (b := .append) (xs := #[.tmp 96, .tmp 98]) rfl ?_); at_builtin; refine Own.append k43 O16.out (i := 4) (j := 6) rfl rfl (by decide) rfl (.tmp 96) (.tmp 98) 57 (.agg #[.int .i64 0, .int .i64 0, .slice none 0 0]) 40 rfl Tryd.underlying57 infoR rfl (by decide) (by decide) rfl rfl (by have h_ := upTo_len L2 la; have := HLN.out; omega) ?_; intro A9 c9 w17 o_ k_; have O17 : Aside0 (Own N w17 [ObjC gl 3 L2, LinkO gk 1 a0 1 true W 1125899906842624 b (left_ L2 k b) 1 0 0, cells gf #[.int .i64 b] 78, nrow k40 40 (.slice (some af) nf c5) F, nrow k43 43 (.slice A9 (((upTo L2 la)).length + 1) c9) (((upTo L2 la)) ++ [(rd_T43 L2 la)]), cells g15 #[.int .i64 u0, .int .i64 u1, .int .i64 u2, .string u3] 40, emp, cells g16 #[.int .i64 (rd_T43 L2 la).f0, .int .i64 (rd_T43 L2 la).f1, .slice A8 (rd_T43 L2 la).f2.length c8] 43]) := ⟨o_⟩; have K17 : Aside0 (KeepS N w w17) := ⟨K16.out.trans k_⟩; have HT_17 : Aside0 (TabN N w17) := ⟨TabN.keep HT_16.out k_⟩; clear a5a a5b a5c a5d b5 a7a a7b a7c b7 O16 K16 HT_16; obtain ⟨a5a, a5b, a5c, a5d, b5⟩ := blk4_ (O17.out.blk (i := 5) rfl); obtain ⟨a7a, a7b, a7c, b7⟩ := blk3_ (O17.out.blk (i := 7) rfl); clear o_ k_))
        go_roundw
        have hsn := upTo_snoc L2 la HU1.out.2.1 (by have := HU1.out; have := HPM.out; omega)
        case rel => exact ⟨y + 1, la + 1, A9, c9, by have := HY.out; omega, by have := HY.out; omega, int_eq (by unfold wrap64; have := HY.out; have := HF.out; omega), int_eq HU1.out.1, slice_len (by rw [hsn]; simp), ⟨by have h1_ := HJ.out; have h2_ := HU1.out; have h4_ := HPM.out; unfold lastJ at h1_ ⊢; (repeat' split at h1_) <;> (repeat' split) <;> omega⟩, ⟨by rw [hsn]; simp only [List.length_append, List.length_singleton]; exact O17.out.pickL [0, 1, 2, 3, 4] (by decide) (by simp)⟩, K17⟩
        case measure => have := HY.out; simp [intOf]; omega
      ·have hd2 : decide (y < (nf : Int)) = false := decide_eq_false hly
       have HLA : Aside0 (la = b) := ⟨lastJ_end (L := L2) (nf := nf) HJ.out (by omega) (by omega) (by rw [HF.out.1]; exact HF.out.2.1) HLB.out.2 HPM.out.2.2.2.2.2.2 (by have := HPM.out; omega) HPM.out.2.2.2.2.2.1⟩
       have HBB : Aside0 (0 ≤ b ∧ b ≤ 1000) := ⟨by have := HPM.out; have := HLN.out; omega⟩
       clear hly hy0 hy1 hnf17
       obtain rfl : la = b := HLA.out
       have hw1 : wrap64 (la + 1) = la + 1 := by have := HBB.out; unfold wrap64; omega
       have hw2 : IntKind.i64.wrap (la + 1) = la + 1 := by rw [IntKind.wrap_i64]; have := HBB.out; omega
       have hnz : ((la + 1) == 0) = false := by have := HBB.out; simp; omega
       have hnz2 : (la + 1 = 0) = False := eq_false (by have := HBB.out; omega)
       obtain ⟨Q, hQ⟩ : ∃ Q : Int, Q = (Int.tmod (wrap64 vb) (la + 1)) := ⟨_, rfl⟩
       have hQ2 := hQ.symm
       clear hQ
       obtain ⟨k9, hk9a, hk9b, hk9c, hk9⟩ := left_ack (L := L2) (k := k) (a := la) (q := Q) HPM.out.2.2.2.2.2.1 (by have := HPM.out; omega) HPM.out.2.2.2.1
       have HK9 : Aside0 ((0 ≤ k9 ∧ k ≤ k9) ∧ k9 ≤ la ∧ ackX la Q (left_ L2 k la) = left_ L2 k9 la) := ⟨⟨hk9a, hk9b⟩, hk9c, hk9⟩
       clear hk9a hk9b hk9c hk9
       have O10 : Aside0 (Own N wr [ObjC gl 3 L2, LinkO gk 1 a0 1 true W 1125899906842624 la (left_ L2 k la) 1 0 0, cells gf #[.int .i64 la] 78, nrow k40 40 (.slice A5 nf c5) F, nrow k43 43 (.slice A7 (upTo L2 la).length c7) (upTo L2 la)]) := ⟨OB.out⟩
       have K10 : Aside0 (KeepS N w wr) := ⟨KB.out⟩
       clear OB KB
       go_wp2_with (first | ((with_reducible refine gate_callee (f := 16) rfl ?_); refine goesL_ (some 108) rfl rfl Tryd.func16 (by kernel_rfl) rfl #[.pointer (some ⟨gk, 0, none⟩), .agg #[.int .i64 1, .int .i64 0, .int .i64 Q, .string ⟨#[]⟩]] rfl (by (try simp only [List.map_toArray, List.map_cons, List.map_nil]); first | done | rfl) ?_; obtain ⟨N_, on_, nn_, rr_, bb_⟩ := O10.out.frame1 (i := 1) rfl; refine (LHear_ack_e Q (left_ L2 k9 la) HK9.out.2.2 on_ (by have := HLB.out; have := HPM.out; have := HWR.out; omega)).mono ?_; rintro e_ w11 ⟨rfl, oo_, kk_⟩; obtain ⟨o_, k_⟩ := bb_ _ _ _ kk_ oo_; refine ⟨_, rfl, ?_⟩; have O11 : Aside0 (Own N w11 [ObjC gl 3 L2, LinkO gk 1 a0 1 true W 1125899906842624 la (left_ L2 k9 la) 1 0 0, cells gf #[.int .i64 la] 78, nrow k40 40 (.slice A5 nf c5) F, nrow k43 43 (.slice A7 (upTo L2 la).length c7) (upTo L2 la)]) := ⟨o_⟩; have K11 : Aside0 (KeepS N w w11) := ⟨K10.out.trans k_⟩; clear O10 K10; clear o_ k_ oo_ kk_ on_ nn_ rr_ bb_))
       go_roundw
       case rel => exact ⟨x + 1, L2, la, k9, A7, c7, by have := HX.out; omega, by have := HX.out; omega, int_eq (by unfold wrap64; have := HX.out; have := HN60.out; omega), rfl, rfl, ⟨HLN.out.1, HL2.out.2.2, HK9.out.1.1, HK9.out.2.1, HPM.out.2.2.2.1, by have := HPM.out; have := HK9.out; omega⟩, ⟨O11.out.pickL [0, 1, 2, 4] (by decide) (by simp)⟩, K11⟩
       case measure => have := HX.out; simp [intOf]; omega
   ·have hxe : x = (l2.length : Int) := by omega
    subst hxe
    have hd : decide ((l2.length : Int) < (l2.length : Int)) = false := decide_eq_false (Int.lt_irrefl _)
    clear hlt hx0 hx1 hn60
    obtain ⟨G, hG⟩ : ∃ G, G = upTo L a := ⟨_, rfl⟩
    obtain ⟨gn, hgn⟩ : ∃ n, n = G.length := ⟨_, rfl⟩
    have HGN : Aside0 ((gn : Int) = a ∧ gn ≤ L.length ∧ G.length = gn ∧ L.take gn = G) := ⟨by have h1_ := upTo_lenI (L := L) (a := a) (by have := HI.out; omega) HI.out.2.2.2.2.1; have h2_ := upTo_len L a; rw [← hG, ← hgn] at h1_ h2_; exact ⟨h1_, h2_, hgn.symm, by rw [hG]; unfold upTo; congr 1; omega⟩⟩
    have HGG : Aside0 (Good 3 G) := ⟨by rw [hG]; exact good_upTo a HI.out.2.1⟩
    rw [← hG, ← hgn] at OA ⊢
    clear hG hgn
    have hga : ((gn : Int) == a) = true := by simp [HGN.out.1]
    have hgl : decide ((gn : Int) ≤ (L.length : Int)) = true := decide_eq_true (by have := HGN.out; omega)
    have hgl2 : decide (gn ≤ L.length) = true := decide_eq_true HGN.out.2.1
    have hgl3 : (gn ≤ L.length) = True := eq_true HGN.out.2.1
    have hgl4 : ((gn : Int) ≤ (L.length : Int)) = True := eq_true (by have := HGN.out; omega)
    have O6 : Aside0 (Own N wr [ObjC gl 3 L, LinkO gk 1 a0 1 true W 1125899906842624 a (left_ L k a) 1 0 0, cells gf #[.int .i64 a] 78, nrow k43 43 (.slice AG gn cG) G]) := ⟨OA.out⟩
    have K6 : Aside0 (KeepS N w wr) := ⟨KA.out⟩
    clear OA KA
    go_wp2_with (first | ((with_reducible refine gate_callee (f := 27) rfl ?_); refine goesL_ (some 111) rfl rfl Tryd.func27 (by kernel_rfl) rfl #[.pointer (some ⟨gl, 0, none⟩)] rfl (by (try simp only [List.map_toArray, List.map_cons, List.map_nil]); first | done | rfl) ?_; obtain ⟨N_, on_, nn_, rr_, bb_⟩ := O6.out.frame1 (i := 0) rfl; refine (All_g on_ (by have := HLL.out; omega) HI.out.2.1).mono ?_; rintro e_ w7 ⟨A5, c5, rfl, oo_, kk_⟩; obtain ⟨o_, k_⟩ := bb_ _ _ _ kk_ oo_; refine ⟨_, rfl, ?_⟩; have O7 : Aside0 (Own N w7 [ObjC gl 3 L, LinkO gk 1 a0 1 true W 1125899906842624 a (left_ L k a) 1 0 0, cells gf #[.int .i64 a] 78, nrow k43 43 (.slice AG gn cG) G, nrow k43 43 (.slice A5 L.length c5) L]) := ⟨o_⟩; have K7 : Aside0 (KeepS N w w7) := ⟨K6.out.trans k_⟩; clear O6 K6; clear o_ k_ oo_ kk_ on_ nn_ rr_ bb_; have hcut : ∀ W : World, (Instr.slice 57 (.slice A5 L.length c5) none (some (.int .i64 (gn : Int))) none).run Tryd.prog W = .ok (.slice A5 gn c5) W := (by obtain ⟨i0_, hi0_, _, _, _⟩ := info_parts infoR; intro W_; have q_ := cut_to 57 43 .i64 Tryd.underlying57 hi0_ A5 L.length c5 (gn : Int) (by omega) (by have := HGN.out; omega) (O7.out.nreads (i := 4) rfl).2.1 W_; simpa using q_)) | ((with_reducible refine gate_callee (f := 21) rfl ?_); refine goesL_ (some 115) rfl rfl Tryd.func21 (by kernel_rfl) rfl #[.pointer (some ⟨gf, 0, none⟩)] rfl (by (try simp only [List.map_toArray, List.map_cons, List.map_nil]); first | done | rfl) ?_; obtain ⟨N_, on_, nn_, rr_, bb_⟩ := O7.out.frame1 (i := 2) rfl; refine (FAt on_).mono ?_; rintro e_ w8 ⟨rfl, oo_, kk_⟩; obtain ⟨o_, k_⟩ := bb_ _ _ _ kk_ oo_; refine ⟨_, rfl, ?_⟩; have O8 : Aside0 (Own N w8 [ObjC gl 3 L, LinkO gk 1 a0 1 true W 1125899906842624 a (left_ L k a) 1 0 0, cells gf #[.int .i64 a] 78, nrow k43 43 (.slice AG gn cG) G, nrow k43 43 (.slice A5 L.length c5) L]) := ⟨o_⟩; have K8 : Aside0 (KeepS N w w8) := ⟨K7.out.trans k_⟩; clear O7 K7; clear o_ k_ oo_ kk_ on_ nn_ rr_ bb_) | ((with_reducible refine gate_callee (f := 28) rfl ?_); refine gate_guard (by rfl) ?_; refine goesL_ (some 130) rfl rfl Tryd.func28 (by kernel_rfl) rfl #[.slice AG gn cG, .slice A5 gn c5] rfl (by (try simp only [List.map_toArray, List.map_cons, List.map_nil]); first | done | rfl) ?_; refine (sameAll_n gn G HGN.out.2.2.1 (O8.out.nreads (i := 3) rfl).2.2 (O8.out.nreads (i := 3) rfl).2.1 (by have q_ := Kd.C_take (m := gn) (O8.out.nreads (i := 4) rfl).2.2 HGN.out.2.1; rw [HGN.out.2.2.2, HGN.out.2.2.1] at q_; exact q_) (Nat.le_trans HGN.out.2.1 (O8.out.nreads (i := 4) rfl).2.1) HGG.out (by have := HGN.out; have := HLL.out; have := HI.out; have := HN60.out; omega)).mono ?_; rintro e_ w9 ⟨rfl, hb_⟩; refine ⟨_, rfl, ?_⟩; have o_ := O8.out.below hb_; have k_ := KeepS.of_below (N := N) hb_; have O9 : Aside0 (Own N w9 [ObjC gl 3 L, LinkO gk 1 a0 1 true W 1125899906842624 a (left_ L k a) 1 0 0, cells gf #[.int .i64 a] 78, nrow k43 43 (.slice AG gn cG) G, nrow k43 43 (.slice A5 L.length c5) L]) := ⟨o_⟩; have K9 : Aside0 (KeepS N w w9) := ⟨K8.out.trans k_⟩; clear O8 K8; clear o_ k_ hb_))
    go_ret
    exact ⟨rfl, K9.out.below (Nat.le_refl _) (fun k hk => by rw [HN.out]; exact hk)⟩
end Go.Proofs.YtjmoncfgoaaekaaDoor.J
