/- Contracts of the seat's functions, printed: if the Lean function comes to a value, the Go function returns it. -/
import Derived.Test.YtjdenpmaianmfaaDoorY6RPut
import Derived.Test.YtjdenpmaianmfaaDoorY6RAp4
import Derived.Test.YtjdenpmaianmfaaDoorY6Q9
namespace Go.Proofs.YtjdenpmaianmfaaDoor.Q
open RowKit YtjdenpmaianmfaaDoorW.PrintWords YtjdenpmaianmfaaDoorW.PrintLast YtjdenpmaianmfaaDoorW.PrintMore
attribute [local go_sem] max2_int min2_int max_two min_two max_three min_three max_four min_four
set_option maxHeartbeats 16000000
set_option maxRecDepth 100000
set_option linter.unusedVariables false
set_option linter.unusedSimpArgs false
def round_Fits.f (l0 : List (S32)) (a1 : Int) : Option (Bool) := (round_Put.f 64 1099511627776 l0).bind fun bt221 => (if bt221.2 = 0 then ((round_in.f a1 64 1400).bind fun t223 => (if t223 = true then (some (decide ((bt221.1.size : Int) ≤ (wrap64 (a1 - 40))))) else (some false))) else (some false))
theorem round_Fits.calls (A0 : Option Addr) (c0 : Nat) (l0 : List (S32)) (a1 : Int) (r : Bool) (w : World) (HT : Aside0 (Tab w)) (hr0 : Kd.C k32 w A0 l0.length l0) (hc0 : l0.length ≤ c0) (h : round_Fits.f l0 a1 = some r) :
  Calls Tryd.prog 70 #[.slice A0 l0.length c0, a1] w fun e w' => e = .returned (.bool r) ∧ Below w.heap.size w w' := by
 have hu35 := Tryd.underlying35
 have HR0 := Am hr0
 have HC0 := Am hc0
 clear hr0 hc0
 have HB := Am (Below.refl w.heap.size w)
 have H : ((round_Put.f 64 1099511627776 l0).bind fun bt221 => (if bt221.2 = 0 then ((round_in.f a1 64 1400).bind fun t223 => (if t223 = true then (some (decide ((bt221.1.size : Int) ≤ (wrap64 (a1 - 40))))) else (some false))) else (some false))) = some r := h
 clear h
 replace H := Option.bind_eq_some_iff.mp H
 obtain ⟨⟨t221, t222⟩, A30, H⟩ := H
 replace H : (if t222 = 0 then ((round_in.f a1 64 1400).bind fun t223 => (if t223 = true then (some (decide ((t221.size : Int) ≤ (wrap64 (a1 - 40))))) else (some false))) else (some false)) = some r := H
 have A3 := Am A30
 clear A30
 by_cases c4 : t222 = 0
 ·rw [if_pos c4] at H
  have c4b0 : (t222 == 0) = true := beq_iff_eq.mpr c4
  have c4b1 : (t222 != 0) = false := bne_eq_false_iff_eq.mpr c4
  clear c4
  replace H := Option.bind_eq_some_iff.mp H
  obtain ⟨t223, A50, H⟩ := H
  replace H : (if t223 = true then (some (decide ((t221.size : Int) ≤ (wrap64 (a1 - 40))))) else (some false)) = some r := H
  have A5 := Am A50
  clear A50
  by_cases c6 : t223 = true
  ·subst c6
   replace H : (some (decide ((t221.size : Int) ≤ (wrap64 (a1 - 40))))) = some r := by rw [if_pos rfl] at H; exact H
   obtain rfl := Option.some.inj H
   go_enter Tryd.func70, Tryd.ntmps70
   go_wp2_with (first | ((with_reducible refine gC 94 rfl ?_); refine goesL_ (some 10) rfl rfl Tryd.func94 (by kernel_rfl) rfl #[.agg #[.int .i64 64, .int .i64 1099511627776, .slice A0 l0.length c0]] rfl am_ ?_; (with_reducible refine (round_Put.calls 64 1099511627776 _ _ l0 t221 t222 _ (Am (Tab.below HT.out (by repeat (first | (with_reducible first | exact HB.out | apply below_alloc | apply pw_below_drewN | apply below_drew1) | refine below_set ?_ (Aside0.out (by assumption)) | exact HB.out)))) ?side1 ?side2 A3.out).mono ?_); (case side1 => repeat (first | exact HR0.out | (with_reducible refine Kd.C_alloc ?_ _) | (with_reducible refine Kd.C_drewN ?_ _) | (with_reducible refine Kd.C_drew ?_))); (case side2 => exact HC0.out); rintro e w7 ⟨rfl, hb⟩; refine ⟨_, rfl, ?_⟩; replace HB := Am (below_step (bl_ HB) hb); (try clear hb); (try clear hb2); (try clear hk); (try clear hi)) | (go_at_call 95; (with_reducible refine (round_in.calls a1 64 1400 true _ A5.out).mono ?_); rintro e w' ⟨rfl, ⟨nd, rfl⟩⟩))
   go_ret
   exact ⟨ew_, bl_ HB⟩
  ·replace c6 := Bool.eq_false_iff.mpr c6
   subst c6
   replace H : (some false) = some r := by rw [if_neg (show ¬ (false = true) by decide)] at H; exact H
   obtain rfl := Option.some.inj H
   go_enter Tryd.func70, Tryd.ntmps70
   go_wp2_with (first | ((with_reducible refine gC 94 rfl ?_); refine goesL_ (some 10) rfl rfl Tryd.func94 (by kernel_rfl) rfl #[.agg #[.int .i64 64, .int .i64 1099511627776, .slice A0 l0.length c0]] rfl am_ ?_; (with_reducible refine (round_Put.calls 64 1099511627776 _ _ l0 t221 t222 _ (Am (Tab.below HT.out (by repeat (first | (with_reducible first | exact HB.out | apply below_alloc | apply pw_below_drewN | apply below_drew1) | refine below_set ?_ (Aside0.out (by assumption)) | exact HB.out)))) ?side1 ?side2 A3.out).mono ?_); (case side1 => repeat (first | exact HR0.out | (with_reducible refine Kd.C_alloc ?_ _) | (with_reducible refine Kd.C_drewN ?_ _) | (with_reducible refine Kd.C_drew ?_))); (case side2 => exact HC0.out); rintro e w8 ⟨rfl, hb⟩; refine ⟨_, rfl, ?_⟩; replace HB := Am (below_step (bl_ HB) hb); (try clear hb); (try clear hb2); (try clear hk); (try clear hi)) | (go_at_call 95; (with_reducible refine (round_in.calls a1 64 1400 false _ A5.out).mono ?_); rintro e w' ⟨rfl, ⟨nd, rfl⟩⟩))
   go_ret
   exact ⟨ew_, bl_ HB⟩
 ·rw [if_neg c4] at H
  have c4b0 : (t222 == 0) = false := beq_eq_false_iff_ne.mpr c4
  have c4b1 : (t222 != 0) = true := bne_iff_ne.mpr c4
  obtain rfl := Option.some.inj H
  go_enter Tryd.func70, Tryd.ntmps70
  go_wp2_with (first | ((with_reducible refine gC 94 rfl ?_); refine goesL_ (some 10) rfl rfl Tryd.func94 (by kernel_rfl) rfl #[.agg #[.int .i64 64, .int .i64 1099511627776, .slice A0 l0.length c0]] rfl am_ ?_; (with_reducible refine (round_Put.calls 64 1099511627776 _ _ l0 t221 t222 _ (Am (Tab.below HT.out (by repeat (first | (with_reducible first | exact HB.out | apply below_alloc | apply pw_below_drewN | apply below_drew1) | refine below_set ?_ (Aside0.out (by assumption)) | exact HB.out)))) ?side1 ?side2 A3.out).mono ?_); (case side1 => repeat (first | exact HR0.out | (with_reducible refine Kd.C_alloc ?_ _) | (with_reducible refine Kd.C_drewN ?_ _) | (with_reducible refine Kd.C_drew ?_))); (case side2 => exact HC0.out); rintro e w9 ⟨rfl, hb⟩; refine ⟨_, rfl, ?_⟩; replace HB := Am (below_step (bl_ HB) hb); (try clear hb); (try clear hb2); (try clear hk); (try clear hi)))
  go_ret
  exact ⟨ew_, bl_ HB⟩
def chapbookref05_Get.l0 : Nat → ByteArray → List (S32) → Int → Int → Int → ByteArray → Option (Int × Int × ByteArray)
 | 0, _, _, _, _, _, _ => none
 | k + 1, x0, x1, x6, x227000, x227001, x227002 => if x6 < (x1.length : Int) then (if 0 ≤ x6 then (if ((rd_T32 x1 x6).f0).toList = x0.toList then ((chapbookref04_May.f k ((rd_T32 x1 x6).f0) ((rd_T32 x1 x6).f1) ((rd_T32 x1 x6).f2) ((rd_T32 x1 x6).f3)).bind fun t229 => (if t229 = 0 then ((chapbookref04_Apply.f x227000 x227001 x227002 ((rd_T32 x1 x6).f0) ((rd_T32 x1 x6).f1) ((rd_T32 x1 x6).f2) ((rd_T32 x1 x6).f3)).bind fun bt231 => (chapbookref05_Get.l0 k x0 x1 (wrap64 (x6 + 1)) bt231.1 bt231.2.1 bt231.2.2)) else (chapbookref05_Get.l0 k x0 x1 (wrap64 (x6 + 1)) x227000 x227001 x227002))) else (chapbookref05_Get.l0 k x0 x1 (wrap64 (x6 + 1)) x227000 x227001 x227002)) else (none)) else (some (x227000, x227001, x227002))
def chapbookref05_Get.f (k : Nat) (a0 : ByteArray) (l1 : List (S32)) : Option (Int × Int × ByteArray) := chapbookref05_Get.l0 k a0 l1 0 0 0 (⟨#[]⟩ : ByteArray)
theorem chapbookref05_Get.calls (k : Nat) (a0 : ByteArray) (A1 : Option Addr) (c1 : Nat) (l1 : List (S32)) (r1 : Int) (r2 : Int) (r3 : ByteArray) (w : World) (hr1 : Kd.C k32 w A1 l1.length l1) (hc1 : l1.length ≤ c1) (h : chapbookref05_Get.f k a0 l1 = some (r1, r2, r3)) :
  Calls Tryd.prog 67 #[a0, .slice A1 l1.length c1] w fun e w' => e = .returned (.agg #[r1, r2, r3]) ∧ Below w.heap.size w w' := by
 have hu49 := Tryd.underlying49
 have hu32 := Tryd.underlying32
 have HR1 := Am hr1
 have HC1 := Am hc1
 clear hr1 hc1
 have HB := Am (Below.refl w.heap.size w)
 have H : (chapbookref05_Get.l0 k a0 l1 0 0 0 (⟨#[]⟩ : ByteArray)) = some (r1, r2, r3) := h
 clear h
 have H' := Am H
 clear H
 go_enter Tryd.func67, Tryd.ntmps67
 go_wp2_with (first | ((with_reducible refine gD 4 rfl ?_); refine box_event rfl (N := 4) rfl (cs := #[.int .i64 0, .int .i64 0, .string (⟨#[]⟩ : ByteArray)]) (t := 49) gs_ ?_; intro gb225 hg w3 hbox hb; have BK225 := Am (hbox); have GW225 := Am (gw_ hg HB); have GE225 := Am (gw_ hg HB); replace HB := Am (below_step (bl_ HB) hb); clear hb hbox hg) | ((with_reducible refine gD 5 rfl ?_); refine box_event rfl (N := 5) rfl (cs := #[.int .i64 0, .int .i64 0, .string (⟨#[]⟩ : ByteArray)]) (t := 49) gs_ ?_; intro gb226 hg w4 hbox hb; have BK226 := Am (hbox); have GW226 := Am (gw_ hg HB); have GE226 := Am (gw_ hg HB); replace HB := Am (below_step (bl_ HB) hb); have NB225_226 := Am (nl_ hg BK225); have NB226_225 := Am (ng_ hg BK225); replace BK225 := bb_ BK225 hb; clear hb hbox hg; have hnb5 := NB226_225.out; have hnc5 := NB225_226.out; have hcz6_0 : w4.cell? ⟨gb226, 0, none⟩ = some (.int .i64 0) := (blk_cell BK226.out 0).trans rfl; have hcz6_1 : w4.cell? ⟨gb226, 1, none⟩ = some (.int .i64 0) := (blk_cell BK226.out 1).trans rfl; have hcz6_2 : w4.cell? ⟨gb226, 2, none⟩ = some (.string (⟨#[]⟩ : ByteArray)) := (blk_cell BK226.out 2).trans rfl; have hfz6_0 := blk_frozen BK226.out 0; have hfz6_1 := blk_frozen BK226.out 1; have hfz6_2 := blk_frozen BK226.out 2))
 go_loopg [6] k (fun kq v6 w' => ∃ (x6_1 : Int) (x227000_1 : Int) (x227001_1 : Int) (x227002_1 : ByteArray), v6 = .int .i64 x6_1 ∧ Aside0 (chapbookref05_Get.l0 kq a0 l1 x6_1 x227000_1 x227001_1 x227002_1 = some (r1, r2, r3)) ∧ Aside0 (kq ≤ k) ∧ Aside0 (w'.heap[gb225]? = some (.cells #[.int .i64 0, .int .i64 0, .string (⟨#[]⟩ : ByteArray)] 49 (0, 0))) ∧ Aside0 (w'.heap[gb226]? = some (.cells #[x227000_1, x227001_1, x227002_1] 49 (0, 0))) ∧ Aside0 (Below w.heap.size w w'))
 case atStart => exact ⟨(0), (0), (0), ((⟨#[]⟩ : ByteArray)), er_, H', ⟨Nat.le_refl _⟩, ⟨by (with_reducible repeat (first | refine blk_drewN ?_ _ | refine blk_drew ?_ | refine blk_alloc ?_ _)); refine blk_far ?_ NB225_226.out _; (with_reducible repeat (first | refine blk_drewN ?_ _ | refine blk_drew ?_ | refine blk_alloc ?_ _)); refine blk_far ?_ NB225_226.out _; (with_reducible repeat (first | refine blk_drewN ?_ _ | refine blk_drew ?_ | refine blk_alloc ?_ _)); refine blk_far ?_ NB225_226.out _; (with_reducible repeat (first | refine blk_drewN ?_ _ | refine blk_drew ?_ | refine blk_alloc ?_ _)); exact BK225.out⟩, ⟨by (with_reducible repeat (first | refine blk_drewN ?_ _ | refine blk_drew ?_ | refine blk_alloc ?_ _)); refine blk_put (cs := #[.int .i64 0, .int .i64 0, .string (⟨#[]⟩ : ByteArray)]) ?_ 2 _ rfl; (with_reducible repeat (first | refine blk_drewN ?_ _ | refine blk_drew ?_ | refine blk_alloc ?_ _)); refine blk_put (cs := #[.int .i64 0, .int .i64 0, .string (⟨#[]⟩ : ByteArray)]) ?_ 1 _ rfl; (with_reducible repeat (first | refine blk_drewN ?_ _ | refine blk_drew ?_ | refine blk_alloc ?_ _)); refine blk_put (cs := #[.int .i64 0, .int .i64 0, .string (⟨#[]⟩ : ByteArray)]) ?_ 0 _ rfl; (with_reducible repeat (first | refine blk_drewN ?_ _ | refine blk_drew ?_ | refine blk_alloc ?_ _)); exact BK226.out⟩, ⟨bl_ HB⟩⟩
 case round =>
  clear H'
  try clear c1
  try clear p2
  try clear c5
  try clear c6
  try clear hcz6_0
  try clear hcz6_1
  try clear hcz6_2
  try clear hfz6_0
  try clear hfz6_1
  try clear hfz6_2
  obtain ⟨x6_1, x227000_1, x227001_1, x227002_1, rfl, HA, HK1, BK225, BK226, HB⟩ := hrel
  cases gk with
  | zero => exact absurd HA.out (by simp [chapbookref05_Get.l0])
  | succ k1 =>
   have H := HA.out
   clear HA
   simp only [chapbookref05_Get.l0] at H
   by_cases c7 : x6_1 < (l1.length : Int)
   ·rw [if_pos c7] at H
    have c7b0 := decide_eq_true c7
    clear c7
    by_cases c8 : 0 ≤ x6_1
    ·rw [if_pos c8] at H
     have c8b0 := decide_eq_true c8
     clear c8
     by_cases c9 : ((rd_T32 l1 x6_1).f0).toList = a0.toList
     ·rw [if_pos c9] at H
      have c9b0 : (((rd_T32 l1 x6_1).f0).toList == a0.toList) = true := beq_iff_eq.mpr c9
      have c9b1 : (((rd_T32 l1 x6_1).f0).toList != a0.toList) = false := bne_eq_false_iff_eq.mpr c9
      clear c9
      replace H := Option.bind_eq_some_iff.mp H
      obtain ⟨t229, A100, H⟩ := H
      replace H : (if t229 = 0 then ((chapbookref04_Apply.f x227000_1 x227001_1 x227002_1 ((rd_T32 l1 x6_1).f0) ((rd_T32 l1 x6_1).f1) ((rd_T32 l1 x6_1).f2) ((rd_T32 l1 x6_1).f3)).bind fun bt231 => (chapbookref05_Get.l0 k1 a0 l1 (wrap64 (x6_1 + 1)) bt231.1 bt231.2.1 bt231.2.2)) else (chapbookref05_Get.l0 k1 a0 l1 (wrap64 (x6_1 + 1)) x227000_1 x227001_1 x227002_1)) = some (r1, r2, r3) := H
      have A10 := Am A100
      clear A100
      by_cases c11 : t229 = 0
      ·rw [if_pos c11] at H
       have c11b0 : (t229 == 0) = true := beq_iff_eq.mpr c11
       have c11b1 : (t229 != 0) = false := bne_eq_false_iff_eq.mpr c11
       clear c11
       replace H := Option.bind_eq_some_iff.mp H
       obtain ⟨⟨t231, t232, t233⟩, A120, H⟩ := H
       replace H : (chapbookref05_Get.l0 k1 a0 l1 (wrap64 (x6_1 + 1)) t231 t232 t233) = some (r1, r2, r3) := H
       have A12 := Am A120
       clear A120
       have H' := Am H
       clear H
       have p227 : 0 ≤ (x6_1 : Int) := od_
       have q227 : x6_1 < (l1.length : Int) := od_
       obtain ⟨ad227, e227, hx227_0, hx227_1, hx227_2, hx227_3⟩ := at_T32 (Kd.C_below HR1.out HB.out) x6_1 p227 q227
       cases e227
       replace p227 := eq_true p227
       replace q227 := eq_true q227
       have p228 : 0 ≤ (x6_1 : Int) := od_
       have q228 : x6_1 < (l1.length : Int) := od_
       obtain ⟨ad228, e228, hx228_0, hx228_1, hx228_2, hx228_3⟩ := at_T32 HR1.out x6_1 p228 q228
       obtain rfl : ad227 = ad228 := (by injection e228)
       replace hx228_0 := hx_ HB hx228_0
       replace hx228_1 := hx_ HB hx228_1
       replace hx228_2 := hx_ HB hx228_2
       replace hx228_3 := hx_ HB hx228_3
       replace p228 := eq_true p228
       replace q228 := eq_true q228
       try go_wp2_with (first | (go_at_call 86; (with_reducible refine (chapbookref04_May.calls k1 ((rd_T32 l1 x6_1).f0) ((rd_T32 l1 x6_1).f1) ((rd_T32 l1 x6_1).f2) ((rd_T32 l1 x6_1).f3) t229 _ A10.out).mono ?_); rintro e w13 ⟨rfl, hb⟩; replace BK225 := bb_ BK225 hb; replace BK226 := bb_ BK226 hb; replace HB := Am (below_step (bl_ HB) hb); (try clear hb); (try clear hb2); (try clear hk); (try clear hi)))
       replace BK225 := Am (blk_drew BK225.out)
       replace BK226 := Am (blk_drew BK226.out)
       replace HB := Am (below_drew1 HB.out)
       have p230 : 0 ≤ (x6_1 : Int) := od_
       have q230 : x6_1 < (l1.length : Int) := od_
       obtain ⟨ad230, e230, hx230_0, hx230_1, hx230_2, hx230_3⟩ := at_T32 HR1.out x6_1 p230 q230
       have hw230_3 := hx230_3
       have hw230_2 := hx230_2
       have hw230_1 := hx230_1
       have hw230_0 := hx230_0
       obtain rfl : ad227 = ad230 := (by injection e230)
       replace hx230_0 := hx_ HB hx230_0
       replace hx230_1 := hx_ HB hx230_1
       replace hx230_2 := hx_ HB hx230_2
       replace hx230_3 := hx_ HB hx230_3
       replace p230 := eq_true p230
       replace q230 := eq_true q230
       refine start_ (n := 7) (S := fun w' => w'.cell? ⟨gb226, 0, none⟩ = some (.int .i64 x227000_1) ∧ w'.cell? ⟨gb226, 1, none⟩ = some (.int .i64 x227001_1) ∧ w'.cell? ⟨gb226, 2, none⟩ = some (.string x227002_1) ∧ w'.cell? (ad227.add ((x6_1).toNat * 4)) = some (.string ((rd_T32 l1 x6_1).f0)) ∧ w'.cell? ⟨(ad227.add ((x6_1).toNat * 4)).block, (ad227.add ((x6_1).toNat * 4)).off + 1, none⟩ = some (.int .i64 ((rd_T32 l1 x6_1).f1)) ∧ w'.cell? ⟨(ad227.add ((x6_1).toNat * 4)).block, (ad227.add ((x6_1).toNat * 4)).off + 2, none⟩ = some (.int .i64 ((rd_T32 l1 x6_1).f2)) ∧ w'.cell? ⟨(ad227.add ((x6_1).toNat * 4)).block, (ad227.add ((x6_1).toNat * 4)).off + 3, none⟩ = some (.string ((rd_T32 l1 x6_1).f3))) (ds := [6]) #[false, false, false, false, false, false, false] (by kernel_rfl) rfl rfl ⟨(blk_cell BK226.out 0).trans rfl, (blk_cell BK226.out 1).trans rfl, (blk_cell BK226.out 2).trans rfl, ((HB.out.cell (World.block_lt_of_cell? w _ hw230_0)).trans hw230_0), ((HB.out.cell (World.block_lt_of_cell? w _ hw230_1)).trans hw230_1), ((HB.out.cell (World.block_lt_of_cell? w _ hw230_2)).trans hw230_2), ((HB.out.cell (World.block_lt_of_cell? w _ hw230_3)).trans hw230_3)⟩ (fun hHeld => ?_)
       generalize w13.drew = w14 at BK225 BK226 HB hx230_0 hx230_1 hx230_2 hx230_3 hHeld ⊢
       refine pure_ (i := 1) (N := some 30) (v := ?_) (a' := ?_) #[false, true, false, false, false, false, false] rfl rfl (by kernel_rfl) (fun _ _ _ h => h) (Or.inl ⟨by rfl, ?_⟩) ?_ ?_
       rotate_left
       ·intro w'
        go_simp
        with_reducible rfl
       rotate_left
       ·simp only [Act.put, List.setIfInBounds_toArray, List.set_cons_zero, List.set_cons_succ, i64_w, i32_w]
        rfl
       refine pure_ (i := 2) (N := some 31) (v := ?_) (a' := ?_) #[false, true, true, false, false, false, false] rfl rfl (by kernel_rfl) (fun _ _ _ h => h) (Or.inl ⟨by rfl, ?_⟩) ?_ ?_
       rotate_left
       ·intro w'
        go_simp
        with_reducible rfl
       rotate_left
       ·simp only [Act.put, List.setIfInBounds_toArray, List.set_cons_zero, List.set_cons_succ, i64_w, i32_w]
        rfl
       refine pure_ (i := 3) (N := some 32) (v := ?_) (a' := ?_) #[false, true, true, true, false, false, false] rfl rfl (by kernel_rfl) (fun _ _ _ h => h) (Or.inl ⟨by rfl, ?_⟩) ?_ ?_
       rotate_left
       ·intro w'
        go_simp
        with_reducible rfl
       rotate_left
       ·simp only [Act.put, List.setIfInBounds_toArray, List.set_cons_zero, List.set_cons_succ, i64_w, i32_w]
        rfl
       refine take_ (i := 0) (N := some 29) (v := ?_) (a' := ?_) #[true, true, true, true, false, false, false] rfl rfl (by kernel_rfl) (fun _ _ _ h => h) (Or.inl ⟨by rfl, ?_⟩) hHeld ?_ ?_
       rotate_left
       ·rintro w' ⟨s0, s1, s2, s3, s4, s5, s6⟩
        go_simp
        with_reducible rfl
       rotate_left
       ·simp only [Act.put, List.setIfInBounds_toArray, List.set_cons_zero, List.set_cons_succ, i64_w, i32_w]
        rfl
       refine take_ (i := 4) (N := some 33) (v := ?_) (a' := ?_) #[true, true, true, true, true, false, false] rfl rfl (by kernel_rfl) (fun _ _ _ h => h) (Or.inl ⟨by rfl, ?_⟩) hHeld ?_ ?_
       rotate_left
       ·rintro w' ⟨s0, s1, s2, s3, s4, s5, s6⟩
        go_simp
        with_reducible rfl
       rotate_left
       ·simp only [Act.put, List.setIfInBounds_toArray, List.set_cons_zero, List.set_cons_succ, i64_w, i32_w]
        rfl
       refine one_ (i := 5) (N := some 34) #[true, true, true, true, true, true, false] rfl rfl (by kernel_rfl) (by decide) (fun K hK => ?_)
       refine goes_ Tryd.func93 (by kernel_rfl) rfl #[.agg #[x227000_1, x227001_1, x227002_1], .agg #[.string ((rd_T32 l1 x6_1).f0), .int .i64 ((rd_T32 l1 x6_1).f1), .int .i64 ((rd_T32 l1 x6_1).f2), .string ((rd_T32 l1 x6_1).f3)]] (by rfl) rfl rfl am_ ?_
       with_reducible refine (chapbookref04_Apply.calls x227000_1 x227001_1 x227002_1 ((rd_T32 l1 x6_1).f0) ((rd_T32 l1 x6_1).f1) ((rd_T32 l1 x6_1).f2) ((rd_T32 l1 x6_1).f3) t231 t232 t233 _ A12.out).mono ?_
       rintro e w15 ⟨rfl, hb⟩
       refine ⟨_, rfl, ?_⟩
       replace BK225 := bb_ BK225 hb
       replace BK226 := bb_ BK226 hb
       replace HB := Am (below_step (bl_ HB) hb)
       (try clear hb)
       (try clear hb2)
       (try clear hk)
       (try clear hi)
       refine hK.out _ _ ⟨(blk_cell BK226.out 0).trans rfl, (blk_cell BK226.out 1).trans rfl, (blk_cell BK226.out 2).trans rfl, ((HB.out.cell (World.block_lt_of_cell? w _ hw230_0)).trans hw230_0), ((HB.out.cell (World.block_lt_of_cell? w _ hw230_1)).trans hw230_1), ((HB.out.cell (World.block_lt_of_cell? w _ hw230_2)).trans hw230_2), ((HB.out.cell (World.block_lt_of_cell? w _ hw230_3)).trans hw230_3)⟩ (fun hHeld => ?_)
       clear hK K
       refine norm_ (a' := ?_) ?_ ?_
       rotate_left
       ·show Act.put _ (some 34) _ = _
        simp only [Act.put, List.setIfInBounds_toArray, List.set_cons_zero, List.set_cons_succ, i64_w, i32_w]
        rfl
       refine last_ (i := 6) (N := none) #[true, true, true, true, true, true, true] rfl rfl (by kernel_rfl) (by decide) (fun K hK => ?_)
       have hs16 : w15.cell? ⟨gb226, 0, none⟩ = some (.int .i64 x227000_1) := (blk_cell BK226.out 0).trans rfl
       have hfs16 := blk_frozen BK226.out 0
       have hns16_0 := NB225_226.out
       have hms16_0 := NB226_225.out
       have hs17 : w15.cell? ⟨gb226, 1, none⟩ = some (.int .i64 x227001_1) := (blk_cell BK226.out 1).trans rfl
       have hfs17 := blk_frozen BK226.out 1
       have hns17_0 := NB225_226.out
       have hms17_0 := NB226_225.out
       have hs18 : w15.cell? ⟨gb226, 2, none⟩ = some (.string x227002_1) := (blk_cell BK226.out 2).trans rfl
       have hfs18 := blk_frozen BK226.out 2
       have hns18_0 := NB225_226.out
       have hms18_0 := NB226_225.out
       refine skip_ (w1 := ?_) (by rfl) rfl ?_ ?_
       rotate_left
       ·go_simp
        rfl
       refine hK.out _ _ ?_
       clear hK K
       refine dN ?_
       try go_wp2
       go_roundg k1
       case measure => have := HK1.out; omega
       case rel => exact ⟨(wrap64 (x6_1 + 1)), (t231), (t232), (t233), er_, H', ⟨by have := HK1.out; omega⟩, ⟨by (with_reducible repeat (first | refine blk_drewN ?_ _ | refine blk_drew ?_ | refine blk_alloc ?_ _)); refine blk_far ?_ NB225_226.out _; (with_reducible repeat (first | refine blk_drewN ?_ _ | refine blk_drew ?_ | refine blk_alloc ?_ _)); refine blk_far ?_ NB225_226.out _; (with_reducible repeat (first | refine blk_drewN ?_ _ | refine blk_drew ?_ | refine blk_alloc ?_ _)); refine blk_far ?_ NB225_226.out _; (with_reducible repeat (first | refine blk_drewN ?_ _ | refine blk_drew ?_ | refine blk_alloc ?_ _)); exact BK225.out⟩, ⟨by (with_reducible repeat (first | refine blk_drewN ?_ _ | refine blk_drew ?_ | refine blk_alloc ?_ _)); refine blk_put (cs := #[t231, t232, x227002_1]) ?_ 2 _ rfl; (with_reducible repeat (first | refine blk_drewN ?_ _ | refine blk_drew ?_ | refine blk_alloc ?_ _)); refine blk_put (cs := #[t231, x227001_1, x227002_1]) ?_ 1 _ rfl; (with_reducible repeat (first | refine blk_drewN ?_ _ | refine blk_drew ?_ | refine blk_alloc ?_ _)); refine blk_put (cs := #[x227000_1, x227001_1, x227002_1]) ?_ 0 _ rfl; (with_reducible repeat (first | refine blk_drewN ?_ _ | refine blk_drew ?_ | refine blk_alloc ?_ _)); exact BK226.out⟩, ⟨bl_ HB⟩⟩
      ·rw [if_neg c11] at H
       have c11b0 : (t229 == 0) = false := beq_eq_false_iff_ne.mpr c11
       have c11b1 : (t229 != 0) = true := bne_iff_ne.mpr c11
       have H' := Am H
       clear H
       have p227 : 0 ≤ (x6_1 : Int) := od_
       have q227 : x6_1 < (l1.length : Int) := od_
       obtain ⟨ad227, e227, hx227_0, hx227_1, hx227_2, hx227_3⟩ := at_T32 (Kd.C_below HR1.out HB.out) x6_1 p227 q227
       cases e227
       replace p227 := eq_true p227
       replace q227 := eq_true q227
       have p228 : 0 ≤ (x6_1 : Int) := od_
       have q228 : x6_1 < (l1.length : Int) := od_
       obtain ⟨ad228, e228, hx228_0, hx228_1, hx228_2, hx228_3⟩ := at_T32 HR1.out x6_1 p228 q228
       obtain rfl : ad227 = ad228 := (by injection e228)
       replace hx228_0 := hx_ HB hx228_0
       replace hx228_1 := hx_ HB hx228_1
       replace hx228_2 := hx_ HB hx228_2
       replace hx228_3 := hx_ HB hx228_3
       replace p228 := eq_true p228
       replace q228 := eq_true q228
       go_wp2_with (first | (go_at_call 86; (with_reducible refine (chapbookref04_May.calls k1 ((rd_T32 l1 x6_1).f0) ((rd_T32 l1 x6_1).f1) ((rd_T32 l1 x6_1).f2) ((rd_T32 l1 x6_1).f3) t229 _ A10.out).mono ?_); rintro e w19 ⟨rfl, hb⟩; replace BK225 := bb_ BK225 hb; replace BK226 := bb_ BK226 hb; replace HB := Am (below_step (bl_ HB) hb); (try clear hb); (try clear hb2); (try clear hk); (try clear hi)))
       go_roundg k1
       case measure => have := HK1.out; omega
       case rel => exact ⟨(wrap64 (x6_1 + 1)), (x227000_1), (x227001_1), (x227002_1), er_, H', ⟨by have := HK1.out; omega⟩, ⟨bk_ BK225⟩, ⟨bk_ BK226⟩, ⟨bl_ HB⟩⟩
     ·rw [if_neg c9] at H
      have c9b0 : (((rd_T32 l1 x6_1).f0).toList == a0.toList) = false := beq_eq_false_iff_ne.mpr c9
      have c9b1 : (((rd_T32 l1 x6_1).f0).toList != a0.toList) = true := bne_iff_ne.mpr c9
      have H' := Am H
      clear H
      have p227 : 0 ≤ (x6_1 : Int) := od_
      have q227 : x6_1 < (l1.length : Int) := od_
      obtain ⟨ad227, e227, hx227_0, hx227_1, hx227_2, hx227_3⟩ := at_T32 (Kd.C_below HR1.out HB.out) x6_1 p227 q227
      cases e227
      replace p227 := eq_true p227
      replace q227 := eq_true q227
      go_wp2
      go_roundg k1
      case measure => have := HK1.out; omega
      case rel => exact ⟨(wrap64 (x6_1 + 1)), (x227000_1), (x227001_1), (x227002_1), er_, H', ⟨by have := HK1.out; omega⟩, ⟨bk_ BK225⟩, ⟨bk_ BK226⟩, ⟨bl_ HB⟩⟩
    ·rw [if_neg c8] at H
     exact absurd H (by simp)
   ·rw [if_neg c7] at H
    have c7b0 : decide (x6_1 < (l1.length : Int)) = false := decide_eq_false c7
    clear c7
    simp only [Option.some.injEq, Prod.mk.injEq] at H
    obtain ⟨rfl, rfl, rfl⟩ := H
    have hnb20 := NB226_225.out
    have hnc20 := NB225_226.out
    have hz21 := kb3_ BK226
    have hz22 := kb3_ BK225
    go_wp2
    refine bodyPost_ret (results_cell_row rfl _ _ gb225 49 #[x227000_1, x227001_1, x227002_1] (0, 0) _ rfl (by (with_reducible repeat (first | refine blk_drewN ?_ _ | refine blk_drew ?_ | refine blk_alloc ?_ _)); refine blk_put (cs := #[x227000_1, x227001_1, .string (⟨#[]⟩ : ByteArray)]) ?_ 2 _ rfl; (with_reducible repeat (first | refine blk_drewN ?_ _ | refine blk_drew ?_ | refine blk_alloc ?_ _)); refine blk_put (cs := #[x227000_1, .int .i64 0, .string (⟨#[]⟩ : ByteArray)]) ?_ 1 _ rfl; (with_reducible repeat (first | refine blk_drewN ?_ _ | refine blk_drew ?_ | refine blk_alloc ?_ _)); refine blk_put (cs := #[.int .i64 0, .int .i64 0, .string (⟨#[]⟩ : ByteArray)]) ?_ 0 _ rfl; (with_reducible repeat (first | refine blk_drewN ?_ _ | refine blk_drew ?_ | refine blk_alloc ?_ _)); exact BK225.out) Tryd.underlying49 rfl (by kernel_rfl)) rfl ?_
    exact ⟨ew_, bl_ HB⟩
def chapbookref08_Flat.l0 : Nat → List (S32) → List (S35) → List (S32) → Int → Option ((List (S32)))
 | 0, _, _, _, _ => none
 | k + 1, x0, x1, x5, x6 => if x6 < (x1.length : Int) then (if 0 ≤ x6 then (if x5.length + ((rd_T35 x1 x6).f2).length < 2932031007402 then (chapbookref08_Flat.l0 k x0 x1 (x5 ++ ((rd_T35 x1 x6).f2)) (wrap64 (x6 + 1))) else (none)) else (none)) else (if x5.length + x0.length < 2932031007402 then (some (x5 ++ x0)) else (none))
def chapbookref08_Flat.f (k : Nat) (l0 : List (S32)) (l1 : List (S35)) : Option ((List (S32))) := chapbookref08_Flat.l0 k l0 l1 (([] : List (S32))) 0
theorem chapbookref08_Flat.calls (k : Nat) (A0 : Option Addr) (c0 : Nat) (l0 : List (S32)) (A1 : Option Addr) (c1 : Nat) (l1 : List (S35)) (r : List (S32)) (w : World) (hr0 : Kd.C k32 w A0 l0.length l0) (hc0 : l0.length ≤ c0) (hr1 : Kd.C k35 w A1 l1.length l1) (hc1 : l1.length ≤ c1) (h : chapbookref08_Flat.f k l0 l1 = some r) :
  Calls Tryd.prog 68 #[.slice A0 l0.length c0, .slice A1 l1.length c1] w fun e w' => ∃ v0_ : Value, e = .returned (v0_) ∧ Kd.R k32 32 w' w.heap.size (fun _ => True) v0_ r ∧ Below w.heap.size w w' := by
 have HR0 := Am hr0
 have HC0 := Am hc0
 clear hr0 hc0
 have HR1 := Am hr1
 have HC1 := Am hc1
 clear hr1 hc1
 have HB := Am (Below.refl w.heap.size w)
 have H : (chapbookref08_Flat.l0 k l0 l1 (([] : List (S32))) 0) = some r := h
 clear h
 obtain ⟨y234, hy234⟩ : ∃ y_ : List (S32), y_ = (([] : List (S32))) := ⟨_, rfl⟩
 replace H : (chapbookref08_Flat.l0 k l0 l1 y234 0) = some r := rp_ H hy234
 have Ny234 := Am hy234
 clear hy234
 have H' := Am H
 clear H
 go_enter Tryd.func68, Tryd.ntmps68
 go_wp2_with (first | ((with_reducible refine gD 7 rfl ?_); refine Kd.R_lit k32 _ 32 rfl (N := 7) rfl (xs := ([] : List (S32))) (inner := []) (ok := fun _ => True) (okp := fun _ => True) gs_ ?hp (fun _ hk => hk) trivial (Below.refl _ _) (Nat.le_refl _) (by simp) ?_; (case hp => exact (Reps.none _ _)); intro v235 w3 ho4 hb hg_ hnew_; clear hg_ hnew_; (first | rw [← Ny234.out] at ho4 | (simp only [Int.reduceToNat] at ho4; rw [← Ny234.out] at ho4)); have HO236 := Am (Kd.R_lower ho4 (below_size (bl_ HB))); replace HB := Am (below_step (bl_ HB) hb); clear hb ho4))
 go_loopg [5, 6] k (fun kq v5 v6 w' => ∃ (x5_1 : List (S32)) (x6_1 : Int), v6 = .int .i64 x6_1 ∧ Aside0 (chapbookref08_Flat.l0 kq l0 l1 x5_1 x6_1 = some r) ∧ Aside0 (kq ≤ k) ∧ Aside0 (Kd.R k32 32 w' w.heap.size (fun _ => True) v5 x5_1) ∧ Aside0 (Below w.heap.size w w'))
 case atStart => exact ⟨(y234), (0), er_, H', ⟨Nat.le_refl _⟩, ⟨rk_ HO236⟩, ⟨bl_ HB⟩⟩
 case round =>
  clear H'
  try clear c1
  try clear p2
  obtain ⟨x5_1, x6_1, rfl, HA, HK1, HO_5, HB⟩ := hrel
  cases gk with
  | zero => exact absurd HA.out (by simp [chapbookref08_Flat.l0])
  | succ k1 =>
   have H := HA.out
   clear HA
   simp only [chapbookref08_Flat.l0] at H
   by_cases c5 : x6_1 < (l1.length : Int)
   ·rw [if_pos c5] at H
    have c5b0 := decide_eq_true c5
    clear c5
    by_cases c6 : 0 ≤ x6_1
    ·rw [if_pos c6] at H
     have c6b0 := decide_eq_true c6
     clear c6
     by_cases c7 : x5_1.length + ((rd_T35 l1 x6_1).f2).length < 2932031007402
     ·rw [if_pos c7] at H
      have LMc7 := Am c7
      clear c7
      obtain ⟨y238, hy238⟩ : ∃ y_ : List (S32), y_ = (x5_1 ++ ((rd_T35 l1 x6_1).f2)) := ⟨_, rfl⟩
      replace H : (chapbookref08_Flat.l0 k1 l0 l1 y238 (wrap64 (x6_1 + 1))) = some r := rp_ H hy238
      have Ny238 := Am hy238
      clear hy238
      have H' := Am H
      clear H
      have p237 : 0 ≤ (x6_1 : Int) := od_
      have q237 : x6_1 < (l1.length : Int) := od_
      obtain ⟨ad237, A237_2, c237_2, e237, hx237_0, hx237_1, hx237_2, hl237_2, hi237_2⟩ := at_T35 HR1.out x6_1 p237 q237
      cases e237
      replace hx237_0 := hx_ HB hx237_0
      replace hx237_1 := hx_ HB hx237_1
      replace hx237_2 := hx_ HB hx237_2
      have HR237_2 := Am hi237_2
      have HC237_2 := Am hl237_2
      clear hi237_2 hl237_2
      replace p237 := eq_true p237
      replace q237 := eq_true q237
      go_wp2_with (first | ((with_reducible refine gate_builtin (b := .append) (xs := #[.tmp 14, .tmp 19]) rfl ?_); at_builtin; refine Kd.R_append_rows k32 (w0 := w) w.heap.size rfl (.tmp 14) (.tmp 19) 33 32 (.agg #[(.string ⟨#[]⟩), (.int .i64 0), (.int .i64 0), (.string ⟨#[]⟩)]) 48 rfl Tryd.underlying33 info32 rfl (by decide) (by omega) u5 x5_1 ((rd_T35 l1 x6_1).f2) _ _ _ (fun _ => True) (fun _ => False) rfl rfl ?aO ?aR (fun _ _ h => h) (fun _ h => h.elim) ?aF ?aB ?aS ?aL ?_; (case aR => repeat (first | exact (Kd.C_below HR237_2.out HB.out) | (with_reducible refine Kd.C_alloc ?_ _) | (with_reducible refine Kd.C_drewN ?_ _) | (with_reducible refine Kd.C_drew ?_))); (case aB => exact (bl_ HB)); (case aF => exact (fun _ _ => trivial)); (case aO => exact (rk_ HO_5)); (case aS => exact (below_size (bl_ HB))); (case aL => have := LMc7.out; omega); intro v239 w8 ho hb hg hat; rw [← Ny238.out] at ho; replace HB := Am (hb); have HO240 := Am (ho); clear HO_5 ho hb hg hat))
      go_roundg k1
      case measure => have := HK1.out; omega
      case rel => exact ⟨(y238), (wrap64 (x6_1 + 1)), er_, H', ⟨by have := HK1.out; omega⟩, ⟨rk_ HO240⟩, ⟨bl_ HB⟩⟩
     ·rw [if_neg c7] at H
      exact absurd H (by simp)
    ·rw [if_neg c6] at H
     exact absurd H (by simp)
   ·rw [if_neg c5] at H
    have c5b0 : decide (x6_1 < (l1.length : Int)) = false := decide_eq_false c5
    clear c5
    by_cases c9 : x5_1.length + l0.length < 2932031007402
    ·rw [if_pos c9] at H
     have LMc9 := Am c9
     clear c9
     obtain ⟨y241, hy241⟩ : ∃ y_ : List (S32), y_ = (x5_1 ++ l0) := ⟨_, rfl⟩
     replace H : (some y241) = some r := rp_ H hy241
     have Ny241 := Am hy241
     clear hy241
     obtain rfl := Option.some.inj H
     go_wp2_with (first | ((with_reducible refine gate_builtin (b := .append) (xs := #[.tmp 21, .tmp 22]) rfl ?_); at_builtin; refine Kd.R_append_rows k32 (w0 := w) w.heap.size rfl (.tmp 21) (.tmp 22) 33 32 (.agg #[(.string ⟨#[]⟩), (.int .i64 0), (.int .i64 0), (.string ⟨#[]⟩)]) 48 rfl Tryd.underlying33 info32 rfl (by decide) (by omega) u5 x5_1 l0 _ _ _ (fun _ => True) (fun _ => False) rfl rfl ?aO ?aR (fun _ _ h => h) (fun _ h => h.elim) ?aF ?aB ?aS ?aL ?_; (case aR => repeat (first | exact (Kd.C_below HR0.out HB.out) | (with_reducible refine Kd.C_alloc ?_ _) | (with_reducible refine Kd.C_drewN ?_ _) | (with_reducible refine Kd.C_drew ?_))); (case aB => exact (bl_ HB)); (case aF => exact (fun _ _ => trivial)); (case aO => exact (rk_ HO_5)); (case aS => exact (below_size (bl_ HB))); (case aL => have := LMc9.out; omega); intro v242 w10 ho hb hg hat; rw [← Ny241.out] at ho; replace HB := Am (hb); have HO243 := Am (ho); clear HO_5 ho hb hg hat))
     go_ret
     exact ⟨_, ew_, by (with_reducible repeat (first | apply Kd.R_alloc | apply Kd.R_drewN | apply Kd.R_drew)); exact HO243.out, bl_ HB⟩
    ·rw [if_neg c9] at H
     exact absurd H (by simp)
def chapbookref08_Read.f (k : Nat) (a0 : ByteArray) (l1 : List (S32)) (l2 : List (S35)) : Option (Int × Int × ByteArray) := (chapbookref08_Flat.f k l1 l2).bind fun t245 => ((chapbookref05_Get.f k a0 t245).bind fun bt248 => (some (bt248.1, bt248.2.1, bt248.2.2)))
theorem chapbookref08_Read.calls (k : Nat) (a0 : ByteArray) (A1 : Option Addr) (c1 : Nat) (l1 : List (S32)) (A2 : Option Addr) (c2 : Nat) (l2 : List (S35)) (r1 : Int) (r2 : Int) (r3 : ByteArray) (w : World) (hr1 : Kd.C k32 w A1 l1.length l1) (hc1 : l1.length ≤ c1) (hr2 : Kd.C k35 w A2 l2.length l2) (hc2 : l2.length ≤ c2) (h : chapbookref08_Read.f k a0 l1 l2 = some (r1, r2, r3)) :
  Calls Tryd.prog 29 #[a0, .slice A1 l1.length c1, .slice A2 l2.length c2] w fun e w' => e = .returned (.agg #[r1, r2, r3]) ∧ Below w.heap.size w w' := by
 have hu49 := Tryd.underlying49
 have HR1 := Am hr1
 have HC1 := Am hc1
 clear hr1 hc1
 have HR2 := Am hr2
 have HC2 := Am hc2
 clear hr2 hc2
 have HB := Am (Below.refl w.heap.size w)
 have H : ((chapbookref08_Flat.f k l1 l2).bind fun t245 => ((chapbookref05_Get.f k a0 t245).bind fun bt248 => (some (bt248.1, bt248.2.1, bt248.2.2)))) = some (r1, r2, r3) := h
 clear h
 replace H := Option.bind_eq_some_iff.mp H
 obtain ⟨t245, A40, H⟩ := H
 replace H : ((chapbookref05_Get.f k a0 t245).bind fun bt248 => (some (bt248.1, bt248.2.1, bt248.2.2))) = some (r1, r2, r3) := H
 have A4 := Am A40
 clear A40
 replace H := Option.bind_eq_some_iff.mp H
 obtain ⟨⟨t248, t249, t250⟩, A50, H⟩ := H
 replace H : (some (t248, t249, t250)) = some (r1, r2, r3) := H
 have A5 := Am A50
 clear A50
 simp only [Option.some.injEq, Prod.mk.injEq] at H
 obtain ⟨rfl, rfl, rfl⟩ := H
 go_enter Tryd.func29, Tryd.ntmps29
 go_wp2_with (first | ((with_reducible refine gD 6 rfl ?_); refine box_event rfl (N := 6) rfl (cs := #[.int .i64 0, .int .i64 0, .string (⟨#[]⟩ : ByteArray)]) (t := 49) gs_ ?_; intro gb244 hg w6 hbox hb; have BK244 := Am (hbox); have GW244 := Am (gw_ hg HB); have GE244 := Am (gw_ hg HB); replace HB := Am (below_step (bl_ HB) hb); clear hb hbox hg) | ((with_reducible refine gC 68 rfl ?_); refine goesL_ (some 10) rfl rfl Tryd.func68 (by kernel_rfl) rfl #[.slice A1 l1.length c1, .slice A2 l2.length c2] rfl am_ ?_; (with_reducible refine (chapbookref08_Flat.calls k _ _ l1 _ _ l2 t245 _ ?side1 ?side2 ?side3 ?side4 A4.out).mono ?_); (case side1 => repeat (first | exact (Kd.C_below HR1.out HB.out) | (with_reducible refine Kd.C_alloc ?_ _) | (with_reducible refine Kd.C_drewN ?_ _) | (with_reducible refine Kd.C_drew ?_))); (case side2 => exact HC1.out); (case side3 => repeat (first | exact (Kd.C_below HR2.out HB.out) | (with_reducible refine Kd.C_alloc ?_ _) | (with_reducible refine Kd.C_drewN ?_ _) | (with_reducible refine Kd.C_drew ?_))); (case side4 => exact HC2.out); rintro e w7 ⟨v246, rfl, ho0, hb⟩; refine ⟨_, rfl, ?_⟩; have HO247 := Am (Kd.R_lower ho0 (below_size (bl_ HB))); replace BK244 := bb_ BK244 hb; replace HB := Am (below_step (bl_ HB) hb); (try clear hb); (try clear hb2); (try clear hk); (try clear hi); (try clear ho0); obtain ⟨Ao8, co8, eo8⟩ := Kd.R_slice HO247.out; subst eo8) | ((with_reducible refine gC 67 rfl ?_); refine goesL_ (some 11) rfl rfl Tryd.func67 (by kernel_rfl) rfl #[a0, .slice Ao8 t245.length co8] rfl am_ ?_; (with_reducible refine (chapbookref05_Get.calls k a0 _ _ t245 t248 t249 t250 _ ?side1 ?side2 A5.out).mono ?_); (case side1 => repeat (first | exact (Kd.R_reads' HO247.out).2.2 | (with_reducible refine Kd.C_alloc ?_ _) | (with_reducible refine Kd.C_drewN ?_ _) | (with_reducible refine Kd.C_drew ?_))); (case side2 => exact (Kd.R_reads' HO247.out).2.1); rintro e w9 ⟨rfl, hb⟩; refine ⟨_, rfl, ?_⟩; replace HO247 := Am (Kd.R_below (rk_ HO247) hb); replace BK244 := bb_ BK244 hb; replace HB := Am (below_step (bl_ HB) hb); (try clear hb); (try clear hb2); (try clear hk); (try clear hi); have hz10 := kb3_ BK244))
 refine bodyPost_ret (results_cell_row rfl _ _ gb244 49 #[t248, t249, t250] (0, 0) _ rfl (by (with_reducible repeat (first | refine blk_drewN ?_ _ | refine blk_drew ?_ | refine blk_alloc ?_ _)); refine blk_put (cs := #[t248, t249, .string (⟨#[]⟩ : ByteArray)]) ?_ 2 _ rfl; (with_reducible repeat (first | refine blk_drewN ?_ _ | refine blk_drew ?_ | refine blk_alloc ?_ _)); refine blk_put (cs := #[t248, .int .i64 0, .string (⟨#[]⟩ : ByteArray)]) ?_ 1 _ rfl; (with_reducible repeat (first | refine blk_drewN ?_ _ | refine blk_drew ?_ | refine blk_alloc ?_ _)); refine blk_put (cs := #[.int .i64 0, .int .i64 0, .string (⟨#[]⟩ : ByteArray)]) ?_ 0 _ rfl; (with_reducible repeat (first | refine blk_drewN ?_ _ | refine blk_drew ?_ | refine blk_alloc ?_ _)); exact BK244.out) Tryd.underlying49 rfl (by kernel_rfl)) rfl ?_
 exact ⟨ew_, bl_ HB⟩
def chapbookref04_Great.f (a0_0 : ByteArray) (a0_1 : Int) (a0_2 : Int) (a0_3 : ByteArray) : Option (Bool) := if (a0_0.size : Int) > 100 then (some true) else (some (decide ((a0_3.size : Int) > 1200)))
theorem chapbookref04_Great.calls (a0_0 : ByteArray) (a0_1 : Int) (a0_2 : Int) (a0_3 : ByteArray) (r : Bool) (w : World) (h : chapbookref04_Great.f a0_0 a0_1 a0_2 a0_3 = some r) :
  Calls Tryd.prog 57 #[.agg #[a0_0, a0_1, a0_2, a0_3]] w fun e w' => e = .returned (.bool r) ∧ Below w.heap.size w w' := by
 have hu32 := Tryd.underlying32
 have HB := Am (Below.refl w.heap.size w)
 have H : (if (a0_0.size : Int) > 100 then (some true) else (some (decide ((a0_3.size : Int) > 1200)))) = some r := h
 clear h
 by_cases c2 : (a0_0.size : Int) > 100
 ·rw [if_pos c2] at H
  have c2b0 : decide (100 < (a0_0.size : Int)) = true := decide_eq_true c2
  have c2b1 : decide (100 < a0_0.size) = true := decide_eq_true (by omega)
  clear c2
  obtain rfl := Option.some.inj H
  go_enter Tryd.func57, Tryd.ntmps57
  go_wp2_with (first | ((with_reducible refine gD 1 rfl ?_); (try (refine gate_guard (by rfl) ?_; dsimp only)); refine box_event rfl (N := 1) rfl (cs := #[a0_0, a0_1, a0_2, a0_3]) (t := 32) gs_ ?_; intro gb251 hg w3 hbox hb; have BK251 := Am (hbox); have GW251 := Am (gw_ hg HB); have GE251 := Am (gw_ hg HB); replace HB := Am (below_step (bl_ HB) hb); clear hb hbox hg; have hcz4_0 : w3.cell? ⟨gb251, 0, none⟩ = some (.string a0_0) := (blk_cell BK251.out 0).trans rfl; have hcz4_1 : w3.cell? ⟨gb251, 1, none⟩ = some (.int .i64 a0_1) := (blk_cell BK251.out 1).trans rfl; have hcz4_2 : w3.cell? ⟨gb251, 2, none⟩ = some (.int .i64 a0_2) := (blk_cell BK251.out 2).trans rfl; have hcz4_3 : w3.cell? ⟨gb251, 3, none⟩ = some (.string a0_3) := (blk_cell BK251.out 3).trans rfl; have hfz4_0 := blk_frozen BK251.out 0; have hfz4_1 := blk_frozen BK251.out 1; have hfz4_2 := blk_frozen BK251.out 2; have hfz4_3 := blk_frozen BK251.out 3))
  go_ret
  exact ⟨ew_, bl_ HB⟩
 ·rw [if_neg c2] at H
  have c2b0 : decide (100 < (a0_0.size : Int)) = false := decide_eq_false c2
  have c2b1 : decide (100 < a0_0.size) = false := decide_eq_false (by omega)
  clear c2
  obtain rfl := Option.some.inj H
  go_enter Tryd.func57, Tryd.ntmps57
  go_wp2_with (first | ((with_reducible refine gD 1 rfl ?_); (try (refine gate_guard (by rfl) ?_; dsimp only)); refine box_event rfl (N := 1) rfl (cs := #[a0_0, a0_1, a0_2, a0_3]) (t := 32) gs_ ?_; intro gb251 hg w5 hbox hb; have BK251 := Am (hbox); have GW251 := Am (gw_ hg HB); have GE251 := Am (gw_ hg HB); replace HB := Am (below_step (bl_ HB) hb); clear hb hbox hg; have hcz6_0 : w5.cell? ⟨gb251, 0, none⟩ = some (.string a0_0) := (blk_cell BK251.out 0).trans rfl; have hcz6_1 : w5.cell? ⟨gb251, 1, none⟩ = some (.int .i64 a0_1) := (blk_cell BK251.out 1).trans rfl; have hcz6_2 : w5.cell? ⟨gb251, 2, none⟩ = some (.int .i64 a0_2) := (blk_cell BK251.out 2).trans rfl; have hcz6_3 : w5.cell? ⟨gb251, 3, none⟩ = some (.string a0_3) := (blk_cell BK251.out 3).trans rfl; have hfz6_0 := blk_frozen BK251.out 0; have hfz6_1 := blk_frozen BK251.out 1; have hfz6_2 := blk_frozen BK251.out 2; have hfz6_3 := blk_frozen BK251.out 3))
  go_ret
  exact ⟨ew_, bl_ HB⟩
end Go.Proofs.YtjdenpmaianmfaaDoor.Q
