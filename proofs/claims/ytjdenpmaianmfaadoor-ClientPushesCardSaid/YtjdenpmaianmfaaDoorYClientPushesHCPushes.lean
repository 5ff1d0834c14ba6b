/- The law ClientPushes: what is pushed was open, in order, and is open no more; it changes nothing of what is read; a refused push or update changes nothing at all -/
import Derived.Test.YtjdenpmaianmfaaDoorYClientPushesSq
import Derived.Test.YtjdenpmaianmfaaDoorYClientPushesSpell
import Derived.Test.YtjdenpmaianmfaaDoorYClientPushesQ10
import Derived.Test.YtjdenpmaianmfaaDoorYClientPushesDo1
import Derived.Test.YtjdenpmaianmfaaDoorProg
import Derived.Test.YtjdenpmaianmfaaDoorYClientPushesRM
import Derived.Test.YtjdenpmaianmfaaDoorYClientPushesKy0
import Derived.Test.YtjdenpmaianmfaaDoorYClientPushesRAp4
import Derived.Test.YtjdenpmaianmfaaDoorYClientPushesSz
namespace Go.Proofs.YtjdenpmaianmfaaDoor.Q
open Go.RowKit Go.Proofs.YtjdenpmaianmfaaDoorW.PrintWords Go.Proofs.YtjdenpmaianmfaaDoorW.PrintLast Go.Proofs.YtjdenpmaianmfaaDoorW.PrintMore
attribute [local go_sem] max2_int min2_int max_two min_two max_three min_three max_four min_four
set_option maxHeartbeats 16000000
set_option maxRecDepth 100000
set_option linter.unusedVariables false
set_option linter.unusedSimpArgs false
def chapbooklaw17_great.l0 : Nat → List (S37) → Int → Int → Option (Bool)
 | 0, _, _, _ => none
 | k + 1, x8, x9, x10 => if x10 < x9 then (if 0 ≤ x10 then (if x10 < (x8.length : Int) then ((chapbookref04_Great.f ((rd_T37 x8 x10).f1.f0) ((rd_T37 x8 x10).f1.f1) ((rd_T37 x8 x10).f1.f2) ((rd_T37 x8 x10).f1.f3)).bind fun t258 => (if t258 = true then (some true) else ((chapbookref07_Great.f k ((rd_T37 x8 x10).f2.f0) ((rd_T37 x8 x10).f2.f1) ((rd_T37 x8 x10).f2.f2)).bind fun t259 => (if t259 = true then (some true) else (chapbooklaw17_great.l0 k x8 x9 (wrap64 (x10 + 1))))))) else (none)) else (none)) else (some false)
def chapbooklaw17_great.f (k : Nat) (l0 : List (S37)) : Option (Bool) := if (l0.length : Int) > 50 then (some true) else (chapbooklaw17_great.l0 k l0 (l0.length : Int) 0)
theorem chapbooklaw17_great.calls (k : Nat) (A0 : Option Addr) (c0 : Nat) (l0 : List (S37)) (r : Bool) (w : World) (hr0 : Kd.C k37 w A0 l0.length l0) (hc0 : l0.length ≤ c0) (h : chapbooklaw17_great.f k l0 = some r) :
  Calls Tryd.prog 17 #[.slice A0 l0.length c0] w fun e w' => e = .returned (.bool r) ∧ Below w.heap.size w w' := by
 have hu37 := Tryd.underlying37
 have hu32 := Tryd.underlying32
 have hu35 := Tryd.underlying35
 have HR0 := Aside0.mk hr0
 have HC0 := Aside0.mk hc0
 clear hr0 hc0
 have HB := Aside0.mk (Below.refl w.heap.size w)
 have H : (if (l0.length : Int) > 50 then (some true) else (chapbooklaw17_great.l0 k l0 (l0.length : Int) 0)) = some r := h
 clear h
 by_cases c2 : (l0.length : Int) > 50
 ·rw [if_pos c2] at H
  have c2b0 : decide (50 < (l0.length : Int)) = true := decide_eq_true c2
  have c2b1 : decide (50 < l0.length) = true := decide_eq_true (by omega)
  clear c2
  obtain rfl := Option.some.inj H
  go_enter Tryd.func17, Tryd.ntmps17
  go_wp2
  go_ret
  exact ⟨ew_, bl_ HB⟩
 ·rw [if_neg c2] at H
  have c2b0 : decide (50 < (l0.length : Int)) = false := decide_eq_false c2
  have c2b1 : decide (50 < l0.length) = false := decide_eq_false (by omega)
  clear c2
  have H' := Aside0.mk H
  clear H
  go_enter Tryd.func17, Tryd.ntmps17
  go_wp2
  go_loopg [10] k (fun kq v10 w' => ∃ (x10_1 : Int), v10 = .int .i64 x10_1 ∧ Aside0 (chapbooklaw17_great.l0 kq l0 (l0.length : Int) x10_1 = some r) ∧ Aside0 (kq ≤ k) ∧ Aside0 (Below w.heap.size w w'))
  case atStart => exact ⟨(0), er_, H', ⟨Nat.le_refl _⟩, ⟨bl_ HB⟩⟩
  case round =>
   clear H'
   try clear c1
   try clear c2
   try clear c2b0
   try clear c2b1
   try clear p2
   obtain ⟨x10_1, rfl, HA, HK1, HB⟩ := hrel
   cases gk with
   | zero => exact absurd HA.out (by simp [chapbooklaw17_great.l0])
   | succ k1 =>
    have H := HA.out
    clear HA
    simp only [chapbooklaw17_great.l0] at H
    by_cases c3 : x10_1 < (l0.length : Int)
    ·rw [if_pos c3] at H
     have c3b0 : decide (x10_1 < (l0.length : Int)) = true := decide_eq_true c3
     clear c3
     by_cases c4 : 0 ≤ x10_1
     ·rw [if_pos c4] at H
      have c4b0 : decide (0 ≤ x10_1) = true := decide_eq_true c4
      clear c4
      by_cases c5 : x10_1 < (l0.length : Int)
      ·rw [if_pos c5] at H
       have c5b0 : decide (x10_1 < (l0.length : Int)) = true := decide_eq_true c5
       clear c5
       replace H := Option.bind_eq_some_iff.mp H
       obtain ⟨t258, A60, H⟩ := H
       replace H : (if t258 = true then (some true) else ((chapbookref07_Great.f k1 ((rd_T37 l0 x10_1).f2.f0) ((rd_T37 l0 x10_1).f2.f1) ((rd_T37 l0 x10_1).f2.f2)).bind fun t259 => (if t259 = true then (some true) else (chapbooklaw17_great.l0 k1 l0 (l0.length : Int) (wrap64 (x10_1 + 1)))))) = some r := H
       have A6 := Aside0.mk A60
       clear A60
       by_cases c7 : t258 = true
       ·subst c7
        have H1 : (some true) = some r := by rw [if_pos rfl] at H; exact H
        clear H
        have H := H1
        clear H1
        obtain rfl := Option.some.inj H
        have p256 : 0 ≤ (x10_1 : Int) := of_decide_eq_true (by first | (with_reducible assumption) | assumption)
        have q256 : x10_1 < (l0.length : Int) := of_decide_eq_true (by first | (with_reducible assumption) | assumption)
        obtain ⟨ad256, A256_7, c256_7, e256, hx256_0, hx256_1, hx256_2, hx256_3, hx256_4, hx256_5, hx256_6, hx256_7, hl256_7, hi256_7⟩ := at_T37 HR0.out x10_1 p256 q256
        cases e256
        replace hx256_0 := hx_ HB hx256_0
        replace hx256_1 := hx_ HB hx256_1
        replace hx256_2 := hx_ HB hx256_2
        replace hx256_3 := hx_ HB hx256_3
        replace hx256_4 := hx_ HB hx256_4
        replace hx256_5 := hx_ HB hx256_5
        replace hx256_6 := hx_ HB hx256_6
        replace hx256_7 := hx_ HB hx256_7
        have HR256_7 := Aside0.mk hi256_7
        have HC256_7 := Aside0.mk hl256_7
        clear hi256_7 hl256_7
        replace p256 := eq_true p256
        replace q256 := eq_true q256
        go_wp2_with (first | ((with_reducible refine gD 4 rfl ?_); refine box_event rfl (N := 4) rfl (cs := #[.int .i64 0, .string (⟨#[]⟩ : ByteArray), .int .i64 0, .int .i64 0, .string (⟨#[]⟩ : ByteArray), .int .i64 0, .int .i64 0, .slice none 0 0]) (t := 37) gs_ ?_; intro gb257 hg w8 hbox hb; have n0_ := Aside0.mk (below_step (bl_ HB) hb); have n1_ := Aside0.mk (hbox); have n2_ := Aside0.mk ((by rw [hg]; exact (below_size (bl_ HB)) : w.heap.size ≤ gb257)); have n3_ := Aside0.mk ((by rw [hg]; exact (below_size (bl_ HB)) : w.heap.size ≤ gb257)); clear HB; have HB := n0_; have BK257 := n1_; have GW257 := n2_; have GE257 := n3_; clear n0_ n1_ n2_ n3_; clear hb hbox hg; have hz9 := kb8_ BK257) | ((with_reducible refine gC 57 rfl ?_); refine goesL_ (some 16) rfl rfl Tryd.func57 (by kernel_rfl) rfl #[.agg #[.string ((rd_T37 l0 x10_1).f1.f0), .int .i64 ((rd_T37 l0 x10_1).f1.f1), .int .i64 ((rd_T37 l0 x10_1).f1.f2), .string ((rd_T37 l0 x10_1).f1.f3)]] rfl am_ ?_; (with_reducible refine (chapbookref04_Great.calls ((rd_T37 l0 x10_1).f1.f0) ((rd_T37 l0 x10_1).f1.f1) ((rd_T37 l0 x10_1).f1.f2) ((rd_T37 l0 x10_1).f1.f3) true _ A6.out).mono ?_); rintro e w10 ⟨rfl, hb⟩; refine ⟨_, rfl, ?_⟩; have n0_ := Aside0.mk (blk_below (g := gb257) (o := .cells #[.int .i64 ((rd_T37 l0 x10_1).f0), .string ((rd_T37 l0 x10_1).f1.f0), .int .i64 ((rd_T37 l0 x10_1).f1.f1), .int .i64 ((rd_T37 l0 x10_1).f1.f2), .string ((rd_T37 l0 x10_1).f1.f3), .int .i64 ((rd_T37 l0 x10_1).f2.f0), .int .i64 ((rd_T37 l0 x10_1).f2.f1), .slice A256_7 ((rd_T37 l0 x10_1).f2.f2).length c256_7] 37 (0, 0)) (by (with_reducible repeat (first | refine blk_drewN ?_ _ | refine blk_drew ?_ | refine blk_alloc ?_ _)); refine blk_put (cs := #[.int .i64 ((rd_T37 l0 x10_1).f0), .string ((rd_T37 l0 x10_1).f1.f0), .int .i64 ((rd_T37 l0 x10_1).f1.f1), .int .i64 ((rd_T37 l0 x10_1).f1.f2), .string ((rd_T37 l0 x10_1).f1.f3), .int .i64 ((rd_T37 l0 x10_1).f2.f0), .int .i64 ((rd_T37 l0 x10_1).f2.f1), .slice none 0 0]) ?_ 7 _ rfl; (with_reducible repeat (first | refine blk_drewN ?_ _ | refine blk_drew ?_ | refine blk_alloc ?_ _)); refine blk_put (cs := #[.int .i64 ((rd_T37 l0 x10_1).f0), .string ((rd_T37 l0 x10_1).f1.f0), .int .i64 ((rd_T37 l0 x10_1).f1.f1), .int .i64 ((rd_T37 l0 x10_1).f1.f2), .string ((rd_T37 l0 x10_1).f1.f3), .int .i64 ((rd_T37 l0 x10_1).f2.f0), .int .i64 0, .slice none 0 0]) ?_ 6 _ rfl; (with_reducible repeat (first | refine blk_drewN ?_ _ | refine blk_drew ?_ | refine blk_alloc ?_ _)); refine blk_put (cs := #[.int .i64 ((rd_T37 l0 x10_1).f0), .string ((rd_T37 l0 x10_1).f1.f0), .int .i64 ((rd_T37 l0 x10_1).f1.f1), .int .i64 ((rd_T37 l0 x10_1).f1.f2), .string ((rd_T37 l0 x10_1).f1.f3), .int .i64 0, .int .i64 0, .slice none 0 0]) ?_ 5 _ rfl; (with_reducible repeat (first | refine blk_drewN ?_ _ | refine blk_drew ?_ | refine blk_alloc ?_ _)); refine blk_put (cs := #[.int .i64 ((rd_T37 l0 x10_1).f0), .string ((rd_T37 l0 x10_1).f1.f0), .int .i64 ((rd_T37 l0 x10_1).f1.f1), .int .i64 ((rd_T37 l0 x10_1).f1.f2), .string (⟨#[]⟩ : ByteArray), .int .i64 0, .int .i64 0, .slice none 0 0]) ?_ 4 _ rfl; (with_reducible repeat (first | refine blk_drewN ?_ _ | refine blk_drew ?_ | refine blk_alloc ?_ _)); refine blk_put (cs := #[.int .i64 ((rd_T37 l0 x10_1).f0), .string ((rd_T37 l0 x10_1).f1.f0), .int .i64 ((rd_T37 l0 x10_1).f1.f1), .int .i64 0, .string (⟨#[]⟩ : ByteArray), .int .i64 0, .int .i64 0, .slice none 0 0]) ?_ 3 _ rfl; (with_reducible repeat (first | refine blk_drewN ?_ _ | refine blk_drew ?_ | refine blk_alloc ?_ _)); refine blk_put (cs := #[.int .i64 ((rd_T37 l0 x10_1).f0), .string ((rd_T37 l0 x10_1).f1.f0), .int .i64 0, .int .i64 0, .string (⟨#[]⟩ : ByteArray), .int .i64 0, .int .i64 0, .slice none 0 0]) ?_ 2 _ rfl; (with_reducible repeat (first | refine blk_drewN ?_ _ | refine blk_drew ?_ | refine blk_alloc ?_ _)); refine blk_put (cs := #[.int .i64 ((rd_T37 l0 x10_1).f0), .string (⟨#[]⟩ : ByteArray), .int .i64 0, .int .i64 0, .string (⟨#[]⟩ : ByteArray), .int .i64 0, .int .i64 0, .slice none 0 0]) ?_ 1 _ rfl; (with_reducible repeat (first | refine blk_drewN ?_ _ | refine blk_drew ?_ | refine blk_alloc ?_ _)); refine blk_put (cs := #[.int .i64 0, .string (⟨#[]⟩ : ByteArray), .int .i64 0, .int .i64 0, .string (⟨#[]⟩ : ByteArray), .int .i64 0, .int .i64 0, .slice none 0 0]) ?_ 0 _ rfl; (with_reducible repeat (first | refine blk_drewN ?_ _ | refine blk_drew ?_ | refine blk_alloc ?_ _)); exact BK257.out) hb); have n1_ := Aside0.mk (below_step (bl_ HB) hb); clear BK257; clear HB; have BK257 := n0_; have HB := n1_; clear n0_ n1_; (try clear hb); (try clear hb2); (try clear hk); (try clear hi)))
        go_ret
        exact ⟨ew_, bl_ HB⟩
       ·replace c7 := Bool.eq_false_iff.mpr c7
        subst c7
        have H1 : ((chapbookref07_Great.f k1 ((rd_T37 l0 x10_1).f2.f0) ((rd_T37 l0 x10_1).f2.f1) ((rd_T37 l0 x10_1).f2.f2)).bind fun t259 => (if t259 = true then (some true) else (chapbooklaw17_great.l0 k1 l0 (l0.length : Int) (wrap64 (x10_1 + 1))))) = some r := by rw [if_neg (show ¬ (false = true) by decide)] at H; exact H
        clear H
        have H := H1
        clear H1
        replace H := Option.bind_eq_some_iff.mp H
        obtain ⟨t259, A110, H⟩ := H
        replace H : (if t259 = true then (some true) else (chapbooklaw17_great.l0 k1 l0 (l0.length : Int) (wrap64 (x10_1 + 1)))) = some r := H
        have A11 := Aside0.mk A110
        clear A110
        by_cases c12 : t259 = true
        ·subst c12
         have H1 : (some true) = some r := by rw [if_pos rfl] at H; exact H
         clear H
         have H := H1
         clear H1
         obtain rfl := Option.some.inj H
         have p256 : 0 ≤ (x10_1 : Int) := of_decide_eq_true (by first | (with_reducible assumption) | assumption)
         have q256 : x10_1 < (l0.length : Int) := of_decide_eq_true (by first | (with_reducible assumption) | assumption)
         obtain ⟨ad256, A256_7, c256_7, e256, hx256_0, hx256_1, hx256_2, hx256_3, hx256_4, hx256_5, hx256_6, hx256_7, hl256_7, hi256_7⟩ := at_T37 HR0.out x10_1 p256 q256
         cases e256
         replace hx256_0 := hx_ HB hx256_0
         replace hx256_1 := hx_ HB hx256_1
         replace hx256_2 := hx_ HB hx256_2
         replace hx256_3 := hx_ HB hx256_3
         replace hx256_4 := hx_ HB hx256_4
         replace hx256_5 := hx_ HB hx256_5
         replace hx256_6 := hx_ HB hx256_6
         replace hx256_7 := hx_ HB hx256_7
         have HR256_7 := Aside0.mk hi256_7
         have HC256_7 := Aside0.mk hl256_7
         clear hi256_7 hl256_7
         replace p256 := eq_true p256
         replace q256 := eq_true q256
         go_wp2_with (first | ((with_reducible refine gD 4 rfl ?_); refine box_event rfl (N := 4) rfl (cs := #[.int .i64 0, .string (⟨#[]⟩ : ByteArray), .int .i64 0, .int .i64 0, .string (⟨#[]⟩ : ByteArray), .int .i64 0, .int .i64 0, .slice none 0 0]) (t := 37) gs_ ?_; intro gb257 hg w13 hbox hb; have n0_ := Aside0.mk (below_step (bl_ HB) hb); have n1_ := Aside0.mk (hbox); have n2_ := Aside0.mk ((by rw [hg]; exact (below_size (bl_ HB)) : w.heap.size ≤ gb257)); have n3_ := Aside0.mk ((by rw [hg]; exact (below_size (bl_ HB)) : w.heap.size ≤ gb257)); clear HB; have HB := n0_; have BK257 := n1_; have GW257 := n2_; have GE257 := n3_; clear n0_ n1_ n2_ n3_; clear hb hbox hg; have hcz14_0 : w13.cell? ⟨gb257, 0, none⟩ = some (.int .i64 0) := (blk_cell BK257.out 0).trans rfl; have hcz14_1 : w13.cell? ⟨gb257, 1, none⟩ = some (.string (⟨#[]⟩ : ByteArray)) := (blk_cell BK257.out 1).trans rfl; have hcz14_2 : w13.cell? ⟨gb257, 2, none⟩ = some (.int .i64 0) := (blk_cell BK257.out 2).trans rfl; have hcz14_3 : w13.cell? ⟨gb257, 3, none⟩ = some (.int .i64 0) := (blk_cell BK257.out 3).trans rfl; have hcz14_4 : w13.cell? ⟨gb257, 4, none⟩ = some (.string (⟨#[]⟩ : ByteArray)) := (blk_cell BK257.out 4).trans rfl; have hcz14_5 : w13.cell? ⟨gb257, 5, none⟩ = some (.int .i64 0) := (blk_cell BK257.out 5).trans rfl; have hcz14_6 : w13.cell? ⟨gb257, 6, none⟩ = some (.int .i64 0) := (blk_cell BK257.out 6).trans rfl; have hcz14_7 : w13.cell? ⟨gb257, 7, none⟩ = some (.slice none 0 0) := (blk_cell BK257.out 7).trans rfl; have hfz14_0 := blk_frozen BK257.out 0; have hfz14_1 := blk_frozen BK257.out 1; have hfz14_2 := blk_frozen BK257.out 2; have hfz14_3 := blk_frozen BK257.out 3; have hfz14_4 := blk_frozen BK257.out 4; have hfz14_5 := blk_frozen BK257.out 5; have hfz14_6 := blk_frozen BK257.out 6; have hfz14_7 := blk_frozen BK257.out 7) | ((with_reducible refine gC 57 rfl ?_); refine goesL_ (some 16) rfl rfl Tryd.func57 (by kernel_rfl) rfl #[.agg #[.string ((rd_T37 l0 x10_1).f1.f0), .int .i64 ((rd_T37 l0 x10_1).f1.f1), .int .i64 ((rd_T37 l0 x10_1).f1.f2), .string ((rd_T37 l0 x10_1).f1.f3)]] rfl am_ ?_; (with_reducible refine (chapbookref04_Great.calls ((rd_T37 l0 x10_1).f1.f0) ((rd_T37 l0 x10_1).f1.f1) ((rd_T37 l0 x10_1).f1.f2) ((rd_T37 l0 x10_1).f1.f3) false _ A6.out).mono ?_); rintro e w15 ⟨rfl, hb⟩; refine ⟨_, rfl, ?_⟩; have n0_ := Aside0.mk (blk_below (g := gb257) (o := .cells #[.int .i64 ((rd_T37 l0 x10_1).f0), .string ((rd_T37 l0 x10_1).f1.f0), .int .i64 ((rd_T37 l0 x10_1).f1.f1), .int .i64 ((rd_T37 l0 x10_1).f1.f2), .string ((rd_T37 l0 x10_1).f1.f3), .int .i64 ((rd_T37 l0 x10_1).f2.f0), .int .i64 ((rd_T37 l0 x10_1).f2.f1), .slice A256_7 ((rd_T37 l0 x10_1).f2.f2).length c256_7] 37 (0, 0)) (by (with_reducible repeat (first | refine blk_drewN ?_ _ | refine blk_drew ?_ | refine blk_alloc ?_ _)); refine blk_put (cs := #[.int .i64 ((rd_T37 l0 x10_1).f0), .string ((rd_T37 l0 x10_1).f1.f0), .int .i64 ((rd_T37 l0 x10_1).f1.f1), .int .i64 ((rd_T37 l0 x10_1).f1.f2), .string ((rd_T37 l0 x10_1).f1.f3), .int .i64 ((rd_T37 l0 x10_1).f2.f0), .int .i64 ((rd_T37 l0 x10_1).f2.f1), .slice none 0 0]) ?_ 7 _ rfl; (with_reducible repeat (first | refine blk_drewN ?_ _ | refine blk_drew ?_ | refine blk_alloc ?_ _)); refine blk_put (cs := #[.int .i64 ((rd_T37 l0 x10_1).f0), .string ((rd_T37 l0 x10_1).f1.f0), .int .i64 ((rd_T37 l0 x10_1).f1.f1), .int .i64 ((rd_T37 l0 x10_1).f1.f2), .string ((rd_T37 l0 x10_1).f1.f3), .int .i64 ((rd_T37 l0 x10_1).f2.f0), .int .i64 0, .slice none 0 0]) ?_ 6 _ rfl; (with_reducible repeat (first | refine blk_drewN ?_ _ | refine blk_drew ?_ | refine blk_alloc ?_ _)); refine blk_put (cs := #[.int .i64 ((rd_T37 l0 x10_1).f0), .string ((rd_T37 l0 x10_1).f1.f0), .int .i64 ((rd_T37 l0 x10_1).f1.f1), .int .i64 ((rd_T37 l0 x10_1).f1.f2), .string ((rd_T37 l0 x10_1).f1.f3), .int .i64 0, .int .i64 0, .slice none 0 0]) ?_ 5 _ rfl; (with_reducible repeat (first | refine blk_drewN ?_ _ | refine blk_drew ?_ | refine blk_alloc ?_ _)); refine blk_put (cs := #[.int .i64 ((rd_T37 l0 x10_1).f0), .string ((rd_T37 l0 x10_1).f1.f0), .int .i64 ((rd_T37 l0 x10_1).f1.f1), .int .i64 ((rd_T37 l0 x10_1).f1.f2), .string (⟨#[]⟩ : ByteArray), .int .i64 0, .int .i64 0, .slice none 0 0]) ?_ 4 _ rfl; (with_reducible repeat (first | refine blk_drewN ?_ _ | refine blk_drew ?_ | refine blk_alloc ?_ _)); refine blk_put (cs := #[.int .i64 ((rd_T37 l0 x10_1).f0), .string ((rd_T37 l0 x10_1).f1.f0), .int .i64 ((rd_T37 l0 x10_1).f1.f1), .int .i64 0, .string (⟨#[]⟩ : ByteArray), .int .i64 0, .int .i64 0, .slice none 0 0]) ?_ 3 _ rfl; (with_reducible repeat (first | refine blk_drewN ?_ _ | refine blk_drew ?_ | refine blk_alloc ?_ _)); refine blk_put (cs := #[.int .i64 ((rd_T37 l0 x10_1).f0), .string ((rd_T37 l0 x10_1).f1.f0), .int .i64 0, .int .i64 0, .string (⟨#[]⟩ : ByteArray), .int .i64 0, .int .i64 0, .slice none 0 0]) ?_ 2 _ rfl; (with_reducible repeat (first | refine blk_drewN ?_ _ | refine blk_drew ?_ | refine blk_alloc ?_ _)); refine blk_put (cs := #[.int .i64 ((rd_T37 l0 x10_1).f0), .string (⟨#[]⟩ : ByteArray), .int .i64 0, .int .i64 0, .string (⟨#[]⟩ : ByteArray), .int .i64 0, .int .i64 0, .slice none 0 0]) ?_ 1 _ rfl; (with_reducible repeat (first | refine blk_drewN ?_ _ | refine blk_drew ?_ | refine blk_alloc ?_ _)); refine blk_put (cs := #[.int .i64 0, .string (⟨#[]⟩ : ByteArray), .int .i64 0, .int .i64 0, .string (⟨#[]⟩ : ByteArray), .int .i64 0, .int .i64 0, .slice none 0 0]) ?_ 0 _ rfl; (with_reducible repeat (first | refine blk_drewN ?_ _ | refine blk_drew ?_ | refine blk_alloc ?_ _)); exact BK257.out) hb); have n1_ := Aside0.mk (below_step (bl_ HB) hb); clear BK257; clear HB; have BK257 := n0_; have HB := n1_; clear n0_ n1_; (try clear hb); (try clear hb2); (try clear hk); (try clear hi); have hcz16_0 : w15.cell? ⟨gb257, 0, none⟩ = some (.int .i64 ((rd_T37 l0 x10_1).f0)) := (blk_cell BK257.out 0).trans rfl; have hcz16_1 : w15.cell? ⟨gb257, 1, none⟩ = some (.string ((rd_T37 l0 x10_1).f1.f0)) := (blk_cell BK257.out 1).trans rfl; have hcz16_2 : w15.cell? ⟨gb257, 2, none⟩ = some (.int .i64 ((rd_T37 l0 x10_1).f1.f1)) := (blk_cell BK257.out 2).trans rfl; have hcz16_3 : w15.cell? ⟨gb257, 3, none⟩ = some (.int .i64 ((rd_T37 l0 x10_1).f1.f2)) := (blk_cell BK257.out 3).trans rfl; have hcz16_4 : w15.cell? ⟨gb257, 4, none⟩ = some (.string ((rd_T37 l0 x10_1).f1.f3)) := (blk_cell BK257.out 4).trans rfl; have hcz16_5 : w15.cell? ⟨gb257, 5, none⟩ = some (.int .i64 ((rd_T37 l0 x10_1).f2.f0)) := (blk_cell BK257.out 5).trans rfl; have hcz16_6 : w15.cell? ⟨gb257, 6, none⟩ = some (.int .i64 ((rd_T37 l0 x10_1).f2.f1)) := (blk_cell BK257.out 6).trans rfl; have hcz16_7 : w15.cell? ⟨gb257, 7, none⟩ = some (.slice A256_7 ((rd_T37 l0 x10_1).f2.f2).length c256_7) := (blk_cell BK257.out 7).trans rfl; have hfz16_0 := blk_frozen BK257.out 0; have hfz16_1 := blk_frozen BK257.out 1; have hfz16_2 := blk_frozen BK257.out 2; have hfz16_3 := blk_frozen BK257.out 3; have hfz16_4 := blk_frozen BK257.out 4; have hfz16_5 := blk_frozen BK257.out 5; have hfz16_6 := blk_frozen BK257.out 6; have hfz16_7 := blk_frozen BK257.out 7) | (go_at_call 34; (with_reducible refine (chapbookref07_Great.calls k1 ((rd_T37 l0 x10_1).f2.f0) ((rd_T37 l0 x10_1).f2.f1) _ _ ((rd_T37 l0 x10_1).f2.f2) true _ ?side1 ?side2 A11.out).mono ?_); (case side1 => repeat (first | exact (Kd.C_below HR256_7.out HB.out) | (with_reducible refine Kd.C_alloc ?_ _) | (with_reducible refine Kd.C_drewN ?_ _) | (with_reducible refine Kd.C_drew ?_))); (case side2 => exact HC256_7.out); rintro e w17 ⟨rfl, hb⟩; have n0_ := bb_ BK257 hb; have n1_ := Aside0.mk (below_step (bl_ HB) hb); clear BK257; clear HB; have BK257 := n0_; have HB := n1_; clear n0_ n1_; (try clear hb); (try clear hb2); (try clear hk); (try clear hi)))
         go_ret
         exact ⟨ew_, bl_ HB⟩
        ·replace c12 := Bool.eq_false_iff.mpr c12
         subst c12
         have H1 : (chapbooklaw17_great.l0 k1 l0 (l0.length : Int) (wrap64 (x10_1 + 1))) = some r := by rw [if_neg (show ¬ (false = true) by decide)] at H; exact H
         clear H
         have H := H1
         clear H1
         have H' := Aside0.mk H
         clear H
         have p256 : 0 ≤ (x10_1 : Int) := of_decide_eq_true (by first | (with_reducible assumption) | assumption)
         have q256 : x10_1 < (l0.length : Int) := of_decide_eq_true (by first | (with_reducible assumption) | assumption)
         obtain ⟨ad256, A256_7, c256_7, e256, hx256_0, hx256_1, hx256_2, hx256_3, hx256_4, hx256_5, hx256_6, hx256_7, hl256_7, hi256_7⟩ := at_T37 HR0.out x10_1 p256 q256
         cases e256
         replace hx256_0 := hx_ HB hx256_0
         replace hx256_1 := hx_ HB hx256_1
         replace hx256_2 := hx_ HB hx256_2
         replace hx256_3 := hx_ HB hx256_3
         replace hx256_4 := hx_ HB hx256_4
         replace hx256_5 := hx_ HB hx256_5
         replace hx256_6 := hx_ HB hx256_6
         replace hx256_7 := hx_ HB hx256_7
         have HR256_7 := Aside0.mk hi256_7
         have HC256_7 := Aside0.mk hl256_7
         clear hi256_7 hl256_7
         replace p256 := eq_true p256
         replace q256 := eq_true q256
         go_wp2_with (first | ((with_reducible refine gD 4 rfl ?_); refine box_event rfl (N := 4) rfl (cs := #[.int .i64 0, .string (⟨#[]⟩ : ByteArray), .int .i64 0, .int .i64 0, .string (⟨#[]⟩ : ByteArray), .int .i64 0, .int .i64 0, .slice none 0 0]) (t := 37) gs_ ?_; intro gb257 hg w18 hbox hb; have n0_ := Aside0.mk (below_step (bl_ HB) hb); have n1_ := Aside0.mk (hbox); have n2_ := Aside0.mk ((by rw [hg]; exact (below_size (bl_ HB)) : w.heap.size ≤ gb257)); have n3_ := Aside0.mk ((by rw [hg]; exact (below_size (bl_ HB)) : w.heap.size ≤ gb257)); clear HB; have HB := n0_; have BK257 := n1_; have GW257 := n2_; have GE257 := n3_; clear n0_ n1_ n2_ n3_; clear hb hbox hg; have hcz19_0 : w18.cell? ⟨gb257, 0, none⟩ = some (.int .i64 0) := (blk_cell BK257.out 0).trans rfl; have hcz19_1 : w18.cell? ⟨gb257, 1, none⟩ = some (.string (⟨#[]⟩ : ByteArray)) := (blk_cell BK257.out 1).trans rfl; have hcz19_2 : w18.cell? ⟨gb257, 2, none⟩ = some (.int .i64 0) := (blk_cell BK257.out 2).trans rfl; have hcz19_3 : w18.cell? ⟨gb257, 3, none⟩ = some (.int .i64 0) := (blk_cell BK257.out 3).trans rfl; have hcz19_4 : w18.cell? ⟨gb257, 4, none⟩ = some (.string (⟨#[]⟩ : ByteArray)) := (blk_cell BK257.out 4).trans rfl; have hcz19_5 : w18.cell? ⟨gb257, 5, none⟩ = some (.int .i64 0) := (blk_cell BK257.out 5).trans rfl; have hcz19_6 : w18.cell? ⟨gb257, 6, none⟩ = some (.int .i64 0) := (blk_cell BK257.out 6).trans rfl; have hcz19_7 : w18.cell? ⟨gb257, 7, none⟩ = some (.slice none 0 0) := (blk_cell BK257.out 7).trans rfl; have hfz19_0 := blk_frozen BK257.out 0; have hfz19_1 := blk_frozen BK257.out 1; have hfz19_2 := blk_frozen BK257.out 2; have hfz19_3 := blk_frozen BK257.out 3; have hfz19_4 := blk_frozen BK257.out 4; have hfz19_5 := blk_frozen BK257.out 5; have hfz19_6 := blk_frozen BK257.out 6; have hfz19_7 := blk_frozen BK257.out 7) | ((with_reducible refine gC 57 rfl ?_); refine goesL_ (some 16) rfl rfl Tryd.func57 (by kernel_rfl) rfl #[.agg #[.string ((rd_T37 l0 x10_1).f1.f0), .int .i64 ((rd_T37 l0 x10_1).f1.f1), .int .i64 ((rd_T37 l0 x10_1).f1.f2), .string ((rd_T37 l0 x10_1).f1.f3)]] rfl am_ ?_; (with_reducible refine (chapbookref04_Great.calls ((rd_T37 l0 x10_1).f1.f0) ((rd_T37 l0 x10_1).f1.f1) ((rd_T37 l0 x10_1).f1.f2) ((rd_T37 l0 x10_1).f1.f3) false _ A6.out).mono ?_); rintro e w20 ⟨rfl, hb⟩; refine ⟨_, rfl, ?_⟩; have n0_ := Aside0.mk (blk_below (g := gb257) (o := .cells #[.int .i64 ((rd_T37 l0 x10_1).f0), .string ((rd_T37 l0 x10_1).f1.f0), .int .i64 ((rd_T37 l0 x10_1).f1.f1), .int .i64 ((rd_T37 l0 x10_1).f1.f2), .string ((rd_T37 l0 x10_1).f1.f3), .int .i64 ((rd_T37 l0 x10_1).f2.f0), .int .i64 ((rd_T37 l0 x10_1).f2.f1), .slice A256_7 ((rd_T37 l0 x10_1).f2.f2).length c256_7] 37 (0, 0)) (by (with_reducible repeat (first | refine blk_drewN ?_ _ | refine blk_drew ?_ | refine blk_alloc ?_ _)); refine blk_put (cs := #[.int .i64 ((rd_T37 l0 x10_1).f0), .string ((rd_T37 l0 x10_1).f1.f0), .int .i64 ((rd_T37 l0 x10_1).f1.f1), .int .i64 ((rd_T37 l0 x10_1).f1.f2), .string ((rd_T37 l0 x10_1).f1.f3), .int .i64 ((rd_T37 l0 x10_1).f2.f0), .int .i64 ((rd_T37 l0 x10_1).f2.f1), .slice none 0 0]) ?_ 7 _ rfl; (with_reducible repeat (first | refine blk_drewN ?_ _ | refine blk_drew ?_ | refine blk_alloc ?_ _)); refine blk_put (cs := #[.int .i64 ((rd_T37 l0 x10_1).f0), .string ((rd_T37 l0 x10_1).f1.f0), .int .i64 ((rd_T37 l0 x10_1).f1.f1), .int .i64 ((rd_T37 l0 x10_1).f1.f2), .string ((rd_T37 l0 x10_1).f1.f3), .int .i64 ((rd_T37 l0 x10_1).f2.f0), .int .i64 0, .slice none 0 0]) ?_ 6 _ rfl; (with_reducible repeat (first | refine blk_drewN ?_ _ | refine blk_drew ?_ | refine blk_alloc ?_ _)); refine blk_put (cs := #[.int .i64 ((rd_T37 l0 x10_1).f0), .string ((rd_T37 l0 x10_1).f1.f0), .int .i64 ((rd_T37 l0 x10_1).f1.f1), .int .i64 ((rd_T37 l0 x10_1).f1.f2), .string ((rd_T37 l0 x10_1).f1.f3), .int .i64 0, .int .i64 0, .slice none 0 0]) ?_ 5 _ rfl; (with_reducible repeat (first | refine blk_drewN ?_ _ | refine blk_drew ?_ | refine blk_alloc ?_ _)); refine blk_put (cs := #[.int .i64 ((rd_T37 l0 x10_1).f0), .string ((rd_T37 l0 x10_1).f1.f0), .int .i64 ((rd_T37 l0 x10_1).f1.f1), .int .i64 ((rd_T37 l0 x10_1).f1.f2), .string (⟨#[]⟩ : ByteArray), .int .i64 0, .int .i64 0, .slice none 0 0]) ?_ 4 _ rfl; (with_reducible repeat (first | refine blk_drewN ?_ _ | refine blk_drew ?_ | refine blk_alloc ?_ _)); refine blk_put (cs := #[.int .i64 ((rd_T37 l0 x10_1).f0), .string ((rd_T37 l0 x10_1).f1.f0), .int .i64 ((rd_T37 l0 x10_1).f1.f1), .int .i64 0, .string (⟨#[]⟩ : ByteArray), .int .i64 0, .int .i64 0, .slice none 0 0]) ?_ 3 _ rfl; (with_reducible repeat (first | refine blk_drewN ?_ _ | refine blk_drew ?_ | refine blk_alloc ?_ _)); refine blk_put (cs := #[.int .i64 ((rd_T37 l0 x10_1).f0), .string ((rd_T37 l0 x10_1).f1.f0), .int .i64 0, .int .i64 0, .string (⟨#[]⟩ : ByteArray), .int .i64 0, .int .i64 0, .slice none 0 0]) ?_ 2 _ rfl; (with_reducible repeat (first | refine blk_drewN ?_ _ | refine blk_drew ?_ | refine blk_alloc ?_ _)); refine blk_put (cs := #[.int .i64 ((rd_T37 l0 x10_1).f0), .string (⟨#[]⟩ : ByteArray), .int .i64 0, .int .i64 0, .string (⟨#[]⟩ : ByteArray), .int .i64 0, .int .i64 0, .slice none 0 0]) ?_ 1 _ rfl; (with_reducible repeat (first | refine blk_drewN ?_ _ | refine blk_drew ?_ | refine blk_alloc ?_ _)); refine blk_put (cs := #[.int .i64 0, .string (⟨#[]⟩ : ByteArray), .int .i64 0, .int .i64 0, .string (⟨#[]⟩ : ByteArray), .int .i64 0, .int .i64 0, .slice none 0 0]) ?_ 0 _ rfl; (with_reducible repeat (first | refine blk_drewN ?_ _ | refine blk_drew ?_ | refine blk_alloc ?_ _)); exact BK257.out) hb); have n1_ := Aside0.mk (below_step (bl_ HB) hb); clear BK257; clear HB; have BK257 := n0_; have HB := n1_; clear n0_ n1_; (try clear hb); (try clear hb2); (try clear hk); (try clear hi); have hcz21_0 : w20.cell? ⟨gb257, 0, none⟩ = some (.int .i64 ((rd_T37 l0 x10_1).f0)) := (blk_cell BK257.out 0).trans rfl; have hcz21_1 : w20.cell? ⟨gb257, 1, none⟩ = some (.string ((rd_T37 l0 x10_1).f1.f0)) := (blk_cell BK257.out 1).trans rfl; have hcz21_2 : w20.cell? ⟨gb257, 2, none⟩ = some (.int .i64 ((rd_T37 l0 x10_1).f1.f1)) := (blk_cell BK257.out 2).trans rfl; have hcz21_3 : w20.cell? ⟨gb257, 3, none⟩ = some (.int .i64 ((rd_T37 l0 x10_1).f1.f2)) := (blk_cell BK257.out 3).trans rfl; have hcz21_4 : w20.cell? ⟨gb257, 4, none⟩ = some (.string ((rd_T37 l0 x10_1).f1.f3)) := (blk_cell BK257.out 4).trans rfl; have hcz21_5 : w20.cell? ⟨gb257, 5, none⟩ = some (.int .i64 ((rd_T37 l0 x10_1).f2.f0)) := (blk_cell BK257.out 5).trans rfl; have hcz21_6 : w20.cell? ⟨gb257, 6, none⟩ = some (.int .i64 ((rd_T37 l0 x10_1).f2.f1)) := (blk_cell BK257.out 6).trans rfl; have hcz21_7 : w20.cell? ⟨gb257, 7, none⟩ = some (.slice A256_7 ((rd_T37 l0 x10_1).f2.f2).length c256_7) := (blk_cell BK257.out 7).trans rfl; have hfz21_0 := blk_frozen BK257.out 0; have hfz21_1 := blk_frozen BK257.out 1; have hfz21_2 := blk_frozen BK257.out 2; have hfz21_3 := blk_frozen BK257.out 3; have hfz21_4 := blk_frozen BK257.out 4; have hfz21_5 := blk_frozen BK257.out 5; have hfz21_6 := blk_frozen BK257.out 6; have hfz21_7 := blk_frozen BK257.out 7) | (go_at_call 34; (with_reducible refine (chapbookref07_Great.calls k1 ((rd_T37 l0 x10_1).f2.f0) ((rd_T37 l0 x10_1).f2.f1) _ _ ((rd_T37 l0 x10_1).f2.f2) false _ ?side1 ?side2 A11.out).mono ?_); (case side1 => repeat (first | exact (Kd.C_below HR256_7.out HB.out) | (with_reducible refine Kd.C_alloc ?_ _) | (with_reducible refine Kd.C_drewN ?_ _) | (with_reducible refine Kd.C_drew ?_))); (case side2 => exact HC256_7.out); rintro e w22 ⟨rfl, hb⟩; have n0_ := bb_ BK257 hb; have n1_ := Aside0.mk (below_step (bl_ HB) hb); clear BK257; clear HB; have BK257 := n0_; have HB := n1_; clear n0_ n1_; (try clear hb); (try clear hb2); (try clear hk); (try clear hi)))
         go_roundg k1
         case measure => have := HK1.out; omega
         case rel => exact ⟨(wrap64 (x10_1 + 1)), er_, H', ⟨by have := HK1.out; omega⟩, ⟨bl_ HB⟩⟩
      ·rw [if_neg c5] at H
       exact absurd H (by simp)
     ·rw [if_neg c4] at H
      exact absurd H (by simp)
    ·rw [if_neg c3] at H
     have c3b0 : decide (x10_1 < (l0.length : Int)) = false := decide_eq_false c3
     clear c3
     obtain rfl := Option.some.inj H
     go_wp2
     go_ret
     exact ⟨ew_, bl_ HB⟩
def chapbooklaw17_add.f (a0 : Int) : Option (ByteArray × Int × Int × ByteArray) := some ((⟨#[97]⟩ : ByteArray), 3, a0, (⟨#[]⟩ : ByteArray))
theorem chapbooklaw17_add.calls (a0 : Int) (r1 : ByteArray) (r2 : Int) (r3 : Int) (r4 : ByteArray) (w : World) (h : chapbooklaw17_add.f a0 = some (r1, r2, r3, r4)) :
  Calls Tryd.prog 56 #[.int .i64 a0] w fun e w' => e = .returned (.agg #[.string r1, .int .i64 r2, .int .i64 r3, .string r4]) ∧ Below w.heap.size w w' := by
 have hu32 := Tryd.underlying32
 have HB := Aside0.mk (Below.refl w.heap.size w)
 have H : (some ((⟨#[97]⟩ : ByteArray), 3, a0, (⟨#[]⟩ : ByteArray))) = some (r1, r2, r3, r4) := h
 clear h
 simp only [Option.some.injEq, Prod.mk.injEq] at H
 obtain ⟨rfl, rfl, rfl, rfl⟩ := H
 go_enter Tryd.func56, Tryd.ntmps56
 go_wp2_with (first | ((with_reducible refine gD 2 rfl ?_); refine box_event rfl (N := 2) rfl (cs := #[.string (⟨#[]⟩ : ByteArray), .int .i64 0, .int .i64 0, .string (⟨#[]⟩ : ByteArray)]) (t := 32) gs_ ?_; intro gb260 hg w2 hbox hb; have n0_ := Aside0.mk (below_step (bl_ HB) hb); have n1_ := Aside0.mk (hbox); have n2_ := Aside0.mk ((by rw [hg]; exact (below_size (bl_ HB)) : w.heap.size ≤ gb260)); have n3_ := Aside0.mk ((by rw [hg]; exact (below_size (bl_ HB)) : w.heap.size ≤ gb260)); clear HB; have HB := n0_; have BK260 := n1_; have GW260 := n2_; have GE260 := n3_; clear n0_ n1_ n2_ n3_; clear hb hbox hg; have hz3 := kb4_ BK260))
 refine bodyPost_ret (results_cell_row rfl _ _ gb260 32 #[.string (⟨#[97]⟩ : ByteArray), .int .i64 3, .int .i64 a0, .string (⟨#[]⟩ : ByteArray)] (0, 0) _ rfl (by (with_reducible repeat (first | refine blk_drewN ?_ _ | refine blk_drew ?_ | refine blk_alloc ?_ _)); refine blk_put (cs := #[.string (⟨#[97]⟩ : ByteArray), .int .i64 3, .int .i64 a0, .string (⟨#[]⟩ : ByteArray)]) ?_ 3 _ rfl; (with_reducible repeat (first | refine blk_drewN ?_ _ | refine blk_drew ?_ | refine blk_alloc ?_ _)); refine blk_put (cs := #[.string (⟨#[97]⟩ : ByteArray), .int .i64 3, .int .i64 0, .string (⟨#[]⟩ : ByteArray)]) ?_ 2 _ rfl; (with_reducible repeat (first | refine blk_drewN ?_ _ | refine blk_drew ?_ | refine blk_alloc ?_ _)); refine blk_put (cs := #[.string (⟨#[97]⟩ : ByteArray), .int .i64 0, .int .i64 0, .string (⟨#[]⟩ : ByteArray)]) ?_ 1 _ rfl; (with_reducible repeat (first | refine blk_drewN ?_ _ | refine blk_drew ?_ | refine blk_alloc ?_ _)); refine blk_put (cs := #[.string (⟨#[]⟩ : ByteArray), .int .i64 0, .int .i64 0, .string (⟨#[]⟩ : ByteArray)]) ?_ 0 _ rfl; (with_reducible repeat (first | refine blk_drewN ?_ _ | refine blk_drew ?_ | refine blk_alloc ?_ _)); exact BK260.out) Tryd.underlying32 rfl (by kernel_rfl)) rfl ?_
 exact ⟨ew_, bl_ HB⟩
end Go.Proofs.YtjdenpmaianmfaaDoor.Q
namespace Go.Proofs.YtjdenpmaianmfaaDoor.J
set_option maxHeartbeats 16000000
set_option maxRecDepth 100000
set_option linter.unusedSimpArgs false
set_option linter.unusedVariables false
open Go Go.RowKit Go.Proofs.YtjdenpmaianmfaaDoorW.PrintWords Go.Proofs.YtjdenpmaianmfaaDoorW.PrintLast Go.Proofs.YtjdenpmaianmfaaDoorW.PrintMore Go.Proofs.YtjdenpmaianmfaaDoor.Q Go.Proofs.YtjdenpmaianmfaaDoor.Sep Go.Proofs.YtjdenpmaianmfaaDoor.Pure
theorem DNew_a {N : Nat → Prop} {w : World} {gj : Nat} {jo jm : Int} {AJ : Option Addr} {cJ : Nat} {rJ : List (List Value)} (o mtu a3 pp : Int) (hW : mn (mx a3 1) 16 = pp) (h : Own N w [cells gj (jrC jo jm (.slice AJ rJ.length cJ)) tDJ, nrow (Kd.raw 3) tR7 (.slice AJ rJ.length cJ) rJ]) (hL : rJ.length ≤ 1000000) :
  Calls Tryd.prog 54 #[pt gj, .int .i64 o, .int .i64 mtu, .int .i64 a3] w fun e w' => ∃ g A5 c5, e = .returned (pt g) ∧ Own N w' [cells gj (jrC jo jm (.slice AJ rJ.length cJ)) tDJ, nrow (Kd.raw 3) tR7 (.slice AJ rJ.length cJ) rJ, cells g (cliC (pt gj) o mtu pp (.slice none 0 0) (.slice A5 rJ.length c5) (.slice none 0 0)) tDC, nrow (Kd.raw 3) tR7 (.slice A5 rJ.length c5) rJ] ∧ KeepS N w w' := by
 subst hW
 by_cases h1 : a3 < 1
 ·rw [show mn (mx a3 1) 16 = 1 by unfold mn mx; (repeat' split) <;> omega]
  exact DNew_low o mtu a3 h hL h1
 by_cases h2 : 16 < a3
 ·rw [show mn (mx a3 1) 16 = 16 by unfold mn mx; (repeat' split) <;> omega]
  exact DNew_high o mtu a3 h hL h2
 ·rw [show mn (mx a3 1) 16 = a3 by unfold mn mx; (repeat' split) <;> omega]
  exact DNew_mid o mtu a3 h hL (by omega) (by omega)
theorem ODNew {N : Nat → Prop} {w : World} {gj : Nat} {jo jm : Int} (o mtu a3 pp : Int) (hW : mn (mx a3 1) 16 = pp) (h : Own N w [cells gj (jrC jo jm (.slice none 0 0)) tDJ]) :
  Calls Tryd.prog 54 #[pt gj, .int .i64 o, .int .i64 mtu, .int .i64 a3] w fun e w' => ∃ g, e = .returned (pt g) ∧ Own N w' [DocO gj g jo jm o mtu pp [] [] [] []] ∧ KeepS N w w' := by
 have h2 := h.push_emp (nrow (Kd.raw 3) tR7 (.slice none 0 0) []) (fun w => Kd.N_nil _ _ _ _ _)
 refine (DNew_a (rJ := []) (AJ := none) (cJ := 0) o mtu a3 pp hW h2 (by decide)).mono ?_
 rintro e_ w' ⟨g, A5, c5, a, b, k⟩
 exact ⟨g, a, (DocO.shut (((b.push_emp (nrow (Kd.raw 3) tR7 (.slice none 0 0) []) (fun w => Kd.N_nil _ _ _ _ _)).push_emp (nrow kU7 tU7 (.slice none 0 0) []) (fun w => Kd.N_nil _ _ _ _ _)).pickL [0, 1, 2, 4, 3, 5] (by decide) (by simp))).take 1, k⟩
theorem CNew_0 {N : Nat → Prop} {w : World} {gj : Nat} {jo jm : Int} (o mtu a3 pp : Int) (hW : mn (mx a3 1) 16 = pp) (h : Own N w [Obj3 138 gj jo jm []]) :
  Calls Tryd.prog 53 #[pt gj, .int .i64 o, .int .i64 mtu, .int .i64 a3] w fun e_ w' => ∃ g, e_ = .returned (pt g) ∧ Own N w' [Obj3 138 gj jo jm [], CliO g (pt gj) o mtu pp [] [] []] ∧ KeepS N w w' :=
 CNew o mtu a3 pp hW h (by decide) ⟨fun x h0 h1 => by simp at h1; omega⟩ num_nil
theorem JNew_e {N : Nat → Prop} {w : World} (o m mm : Int) (hm : mn (mx m 1) 1099511627776 = mm) (h : Own N w []) :
  Calls Tryd.prog 52 #[.int .i64 o, .int .i64 m] w fun e w' => ∃ g, e = .returned (pt g) ∧ Own N w' [Obj3 138 g o mm []] ∧ KeepS N w w' := by
 subst hm
 exact New o m h
theorem DJNew_e {N : Nat → Prop} {w : World} (o m mm : Int) (hm : mn (mx m 1) 1099511627776 = mm) (h : Own N w []) :
  Calls Tryd.prog 55 #[.int .i64 o, .int .i64 m] w fun e w' => ∃ g, e = .returned (pt g) ∧ Own N w' [cells g (jrC o mm (.slice none 0 0)) tDJ] ∧ KeepS N w w' := by
 subst hm
 exact DJNew o m h
theorem Made {N : Nat → Prop} {w : World} (x0 x1 x2 x3 : Int) (h : Own N w []) :
  Calls Tryd.prog 15 #[.agg #[.int .i64 x0, .int .i64 x1, .int .i64 x2, .int .i64 x3]] w fun e_ w' => ∃ g gp gj gd, e_ = .returned (.agg #[pt g, pt gd]) ∧ Own N w' [CliO g (pt gp) x0 x1 (mn (mx x2 1) 16) [] [] [], Obj3 138 gp x0 (mn (mx x3 1) 1099511627776) [], DocO gj gd x0 (mn (mx x3 1) 1099511627776) x0 x1 (mn (mx x2 1) 16) [] [] [] []] ∧ KeepS N w w' := by
 obtain ⟨pp, hpp⟩ : ∃ p, mn (mx x2 1) 16 = p := ⟨_, rfl⟩
 obtain ⟨mm, hmm⟩ : ∃ m, mn (mx x3 1) 1099511627776 = m := ⟨_, rfl⟩
 have HPP := Aside0.mk hpp
 have HMM := Aside0.mk hmm
 have O0 : Aside0 (Own N w []) := ⟨h⟩
 have K0 : Aside0 (KeepS N w w) := ⟨KeepS.refl _ _⟩
 clear h hpp hmm
 go_enter Tryd.func15, Tryd.ntmps15
 go_wp2_with (first | ((with_reducible refine gD 1 rfl ?_); refine bP 1 #[.int .i64 x0, .int .i64 x1, .int .i64 x2, .int .i64 x3] 22 O0.out ?_; intro gx w1 o_ k_; obtain ⟨O1, K1⟩ := ok_ K0 o_ k_; clear O0 K0 o_ k_; have a0 := k4_ O1 0) | ((with_reducible refine gD 2 rfl ?_); refine bP 2 #[.pointer none, .pointer none] 27 O1.out ?_; intro gk w2 o_ k_; obtain ⟨O2, K2⟩ := ok_ K1 o_ k_; clear a0 O1 K1 o_ k_; have a0 := k4_ O2 0; have a1 := k2_ O2 1) | ((with_reducible refine gC 52 rfl ?_); refine gP (some 8) Tryd.func52 #[.int .i64 x0, .int .i64 x3] ?_; obtain ⟨N_, on_, nn_, rr_, bb_⟩ := O2.out.frame0; refine (JNew_e x0 x3 mm HMM.out on_).mono ?_; rintro e_ w3 ⟨gp, rfl, oo_, kk_⟩; obtain ⟨o_, k_⟩ := bb_ _ _ kk_ oo_; refine ⟨_, rfl, ?_⟩; obtain ⟨O3, K3⟩ := ok_ K2 o_ k_; clear a0 a1 O2 K2 o_ k_ oo_ kk_ on_ nn_ rr_ bb_; have a0 := k4_ O3 0; have a1 := k2_ O3 1))
 refine sP (n := 22) (S := c4_ gx (.int .i64 x0) (.int .i64 x1) (.int .i64 x2) (.int .i64 x3)) (ds := [21]) (p4_ a0) (fun hHeld => ?_)
 obtain ⟨w4, hw_⟩ : ∃ W, W = w3.drew := ⟨_, rfl⟩
 have o_ := O3.out.drew
 have k_ : KeepS N w3 w3.drew := KeepS.drew
 rw [← hw_] at o_ k_ hHeld ⊢
 clear hw_
 obtain ⟨O4, K4⟩ := ok_ K3 o_ k_
 clear a0 a1 O3 K3 o_ k_
 have a0 := k4_ O4 0
 have a1 := k2_ O4 1
 refine pP 0 (some 12) ?_
 refine pP 1 (some 13) ?_
 refine pP 3 (some 15) ?_
 refine pP 5 (some 17) ?_
 refine pP 8 (some 20) ?_
 refine pP 10 (some 22) ?_
 refine pP 13 (some 25) ?_
 refine pP 15 (some 27) ?_
 refine pP 17 (some 29) ?_
 refine tP 2 (some 14) hHeld ?_
 refine tP 4 (some 16) hHeld ?_
 refine tP 6 (some 18) hHeld ?_
 refine tP 9 (some 21) hHeld ?_
 refine tP 11 (some 23) hHeld ?_
 refine tP 14 (some 26) hHeld ?_
 refine tP 16 (some 28) hHeld ?_
 refine tP 18 (some 30) hHeld ?_
 refine oP 7 (some 19) (fun K_ hK_ => ?_)
 refine hP Tryd.func53 #[pt gp, .int .i64 x0, .int .i64 x1, .int .i64 x2] ?_
 obtain ⟨N_, on_, nn_, rr_, bb_⟩ := O4.out.frame1 (i := 2) rfl
 refine (CNew_0 x0 x1 x2 pp HPP.out on_).mono ?_
 rintro e_ w5 ⟨g, rfl, oo_, kk_⟩
 obtain ⟨o_, k_⟩ := bb_ _ _ _ kk_ oo_
 refine ⟨_, rfl, ?_⟩
 obtain ⟨O5, K5⟩ := ok_ K4 o_ k_
 clear a0 a1 O4 K4 o_ k_ oo_ kk_ on_ nn_ rr_ bb_
 have a0 := k4_ O5 0
 have a1 := k2_ O5 1
 clear hHeld
 refine hK_.out _ _ (p4_ a0) (fun hHeld => ?_)
 clear hK_ K_
 refine nP ?_
 refine oP 12 (some 24) (fun K_ hK_ => ?_)
 refine hP Tryd.func55 #[.int .i64 x0, .int .i64 x3] ?_
 obtain ⟨N_, on_, nn_, rr_, bb_⟩ := O5.out.frame0
 refine (DJNew_e x0 x3 mm HMM.out on_).mono ?_
 rintro e_ w6 ⟨gj, rfl, oo_, kk_⟩
 obtain ⟨o_, k_⟩ := bb_ _ _ kk_ oo_
 refine ⟨_, rfl, ?_⟩
 obtain ⟨O6, K6⟩ := ok_ K5 o_ k_
 clear a0 a1 O5 K5 o_ k_ oo_ kk_ on_ nn_ rr_ bb_
 have a0 := k4_ O6 0
 have a1 := k2_ O6 1
 clear hHeld
 refine hK_.out _ _ (p4_ a0) (fun hHeld => ?_)
 clear hK_ K_
 refine nP ?_
 refine oP 19 (some 31) (fun K_ hK_ => ?_)
 refine hP Tryd.func54 #[pt gj, .int .i64 x0, .int .i64 x1, .int .i64 x2] ?_
 obtain ⟨N_, on_, nn_, rr_, bb_⟩ := O6.out.frame1 (i := 4) rfl
 refine (ODNew x0 x1 x2 pp HPP.out on_).mono ?_
 rintro e_ w7 ⟨gd, rfl, oo_, kk_⟩
 obtain ⟨o_, k_⟩ := bb_ _ _ _ kk_ oo_
 refine ⟨_, rfl, ?_⟩
 obtain ⟨O7, K7⟩ := ok_ K6 o_ k_
 clear a0 a1 O6 K6 o_ k_ oo_ kk_ on_ nn_ rr_ bb_
 have a0 := k4_ O7 0
 have a1 := k2_ O7 1
 clear hHeld
 refine hK_.out _ _ (p4_ a0) (fun hHeld => ?_)
 clear hK_ K_
 refine nP ?_
 refine pP 20 (some 32) ?_
 refine lP 21 none (fun K_ hK_ => ?_)
 refine xS 1 0 [pt g, pt gd] O7 ?_
 intro w8 o_ k_
 obtain ⟨O8, K8⟩ := ok_ K7 o_ k_
 clear a0 a1 O7 K7 o_ k_
 have a0 := k4_ O8 0
 have a1 := k2_ O8 1
 refine hK_.out _ _ ?_
 clear hK_ K_
 refine done_ (by kernel_rfl) ?_
 clear hHeld
 go_wp2
 refine bodyPost_ret (results_cell_row rfl _ _ gk 27 #[pt g, pt gd] (0, 0) _ rfl (O8.out.blk (i := 1) rfl) Tryd.underlying27 rfl (by kernel_rfl)) rfl ?_
 rw [HPP.out, HMM.out]
 exact ⟨g, gp, gj, gd, rfl, O8.out.pickL [3, 2, 4] (by decide) (by simp), K8.out⟩
section
variable {N : Nat → Prop} {w : World} {g gj gd gp : Nat} {jp : Value} {jo jm o mtu push : Int} {rJ rK rP : List (List Value)} {L K P : List Rnd7} {U : List Upd7}
theorem CUpd_e (E : Int) (V : List Upd7) (key : ByteArray) (c n : Int) (s : ByteArray) (hE : updE U key c n s mtu = E) (hV : updU U key c n s mtu = V) (h : Own N w [CliO g jp o mtu push K P U]) (ht : TabN N w) (hL : U.length ≤ 1000000) :
  Calls Tryd.prog 30 #[pt g, .agg #[.string key, .int .i64 c, .int .i64 n, .string s]] w fun e_ w' => e_ = .returned (.int .i64 E) ∧ Own N w' [CliO g jp o mtu push K P V] ∧ KeepS N w w' := by
 subst hE hV
 exact CUpd key c n s h ht hL
theorem CTake_e (E : Int) (r0 r1 : Int) (us : List Upd7) (B : Option Addr) (cb : Nat) (hE : takeE o P r0 r1 = E) (h : Own N w [CliO g jp o mtu push K P U]) (hr : Kd.F kU7 w N B us.length us) (hc : us.length ≤ cb) (hu : us.length ≤ 1000000) (hL : K.length ≤ 1000000) :
  Calls Tryd.prog 32 #[pt g, .agg #[.int .i64 r0, .int .i64 r1, .slice B us.length cb]] w fun e_ w' => e_ = .returned (.int .i64 E) ∧ Own N w' [CliO g jp o mtu push (takeK o K P ⟨r0, r1, us⟩) (takeP o P r0 r1) U] ∧ KeepS N w w' := by
 subst hE
 exact CTake ⟨r0, r1, us⟩ B cb h hr hc hu hL
theorem ODTake_e (E : Int) (r0 r1 : Int) (us : List Upd7) (B : Option Addr) (cb : Nat) (hE : takeE o P r0 r1 = E) (h : Own N w [DocO gj gd jo jm o mtu push rJ rK rP U]) (hd : Led N w rJ rK rP L K P) (hc : us.length ≤ cb) (hL : K.length + P.length ≤ 1000000) :
  Calls Tryd.prog 60 #[pt gd, .agg #[.int .i64 r0, .int .i64 r1, .slice B us.length cb]] w fun e_ w' => ∃ rK' rP', e_ = .returned (.int .i64 E) ∧ (∀ (N0 : Nat → Prop) (w0 : World), Led N0 w0 rJ rK rP L K P → Kd.F kU7 w0 N0 B us.length us → Led N0 w0 rJ rK' rP' L (takeK o K P ⟨r0, r1, us⟩) (takeP o P r0 r1)) ∧ Own N w' [DocO gj gd jo jm o mtu push rJ rK' rP' U] ∧ KeepS N w w' := by
 subst hE
 exact ODTake ⟨r0, r1, us⟩ B cb h hd hc hL
theorem CPush_n (E : Int) (hE : pushE jo jm push L P U = E) (h0 : E ≠ 0) (h : Own N w [CliO g (pt gp) o mtu push K P U, Obj3 138 gp jo jm L]) (hu : U.length ≤ 1000000) (hL : L.length ≤ 1000000) (hP : P.length ≤ 1000000) :
  Calls Tryd.prog 31 #[pt g] w fun e_ w' => ∃ A1 c1, e_ = .returned (.tuple #[.agg #[.int .i64 0, .int .i64 0, .slice A1 0 c1], .int .i64 E]) ∧ Own N w' [CliO g (pt gp) o mtu push K P U, Obj3 138 gp jo jm L, nrow kU7 tU7 (.slice A1 0 c1) []] ∧ KeepS N w w' := by
 subst hE
 have q := CPush h hu hL hP
 obtain ⟨a, b, c, d⟩ := push_no h0
 rw [a, b, c, d] at q
 exact q
theorem CPush_y (n1 : Int) (hE : pushE jo jm push L P U = 0) (hn : (L.length : Int) + 1 = n1) (h : Own N w [CliO g (pt gp) o mtu push K P U, Obj3 138 gp jo jm L]) (hu : U.length ≤ 1000000) (hL : L.length ≤ 1000000) (hP : P.length ≤ 1000000) :
  Calls Tryd.prog 31 #[pt g] w fun e_ w' => ∃ A1 c1, e_ = .returned (.tuple #[.agg #[.int .i64 jo, .int .i64 n1, .slice A1 U.length c1], .int .i64 0]) ∧ Own N w' [CliO g (pt gp) o mtu push K (P ++ [(⟨jo, n1, U⟩ : Rnd7)]) [], Obj3 138 gp jo jm (L ++ [(⟨jo, n1, U⟩ : Rnd7)]), nrow kU7 tU7 (.slice A1 U.length c1) U] ∧ KeepS N w w' := by
 subst hn
 have q := CPush h hu hL hP
 obtain ⟨a, b, c, d⟩ := push_yes hE
 rw [a, b, c, d, hE] at q
 exact q
end
abbrev Both (g gp gj gd : Nat) (o jm mtu push : Int) (K P : List Rnd7) (U : List Upd7) (L : List Rnd7) (rJ rK rP : List (List Value)) (Ud : List Upd7) : List HP := [CliO g (pt gp) o mtu push K P U, Obj3 138 gp o jm L, DocO gj gd o jm o mtu push rJ rK rP Ud]
theorem Do_3 {N : Nat → Prop} {w : World} {g gj gd gp : Nat} {jm o mtu push : Int} {rJ rK rP : List (List Value)} {L K P : List Rnd7} {U : List Upd7} {Ld Kd_ Pd : List Rnd7} {Ud : List Upd7} (key : ByteArray) (c n : Int) (s : ByteArray) (r0 r1 : Int) (B : Option Addr) (cb : Nat) (us : List Upd7) (h : Own N w [CliO g (pt gp) o mtu push K P U, Obj3 138 gp o jm L, DocO gj gd o jm o mtu push rJ rK rP Ud]) (hd : Led N w rJ rK rP Ld Kd_ Pd) (hr : Kd.F kU7 w N B us.length us) (hc : us.length ≤ cb) (hu : us.length ≤ 1000000) (hK : K.length ≤ 1000000) (hL : Kd_.length + Pd.length ≤ 1000000) :
  Calls Tryd.prog 18 #[.agg #[pt g, pt gd], .agg #[.int .i64 3, .string key, .int .i64 c, .int .i64 n, .string s, .int .i64 r0, .int .i64 r1, .slice B us.length cb]] w fun e_ w' => ∃ rK' rP', e_ = .returned (.bool (takeE o P r0 r1 == takeE o Pd r0 r1)) ∧ (∀ (N0 : Nat → Prop) (w0 : World), Led N0 w0 rJ rK rP Ld Kd_ Pd → Kd.F kU7 w0 N0 B us.length us → Led N0 w0 rJ rK' rP' Ld (takeK o Kd_ Pd (⟨r0, r1, us⟩ : Rnd7)) (takeP o Pd r0 r1)) ∧ Own N w' [CliO g (pt gp) o mtu push (takeK o K P (⟨r0, r1, us⟩ : Rnd7)) (takeP o P r0 r1) U, Obj3 138 gp o jm L, DocO gj gd o jm o mtu push rJ rK' rP' Ud] ∧ KeepS N w w' := by
 have HD_0 := Aside0.mk hd
 have HR_0 : Aside0 (Kd.F kU7 w N B us.length us) := ⟨hr⟩
 have HC := Aside0.mk hc
 have HU := Aside0.mk hu
 have HK := Aside0.mk hK
 have HL := Aside0.mk hL
 obtain ⟨E1, he1⟩ : ∃ E, takeE o P r0 r1 = E := ⟨_, rfl⟩
 obtain ⟨E2, he2⟩ : ∃ E, takeE o Pd r0 r1 = E := ⟨_, rfl⟩
 have HE1 := Aside0.mk he1
 have HE2 := Aside0.mk he2
 obtain ⟨b, hb⟩ : ∃ b, (E1 == E2) = b := ⟨_, rfl⟩
 have HBB := Aside0.mk hb
 have dE := hb
 have O0 : Aside0 (Own N w [CliO g (pt gp) o mtu push K P U, Obj3 138 gp o jm L, DocO gj gd o jm o mtu push rJ rK rP Ud]) := ⟨h⟩
 have K0 : Aside0 (KeepS N w w) := ⟨KeepS.refl _ _⟩
 clear h hd hr hc hu hK hL he1 he2 hb
 go_enter Tryd.func18, Tryd.ntmps18
 go_wp2_with (first | ((with_reducible refine gD 2 rfl ?_); refine bP 2 #[pt g, pt gd] 27 O0.out ?_; intro gk w1 o_ k_; obtain ⟨O1, K1⟩ := ok_ K0 o_ k_; have HD_1 := Aside0.mk (Led.keep HD_0.out k_); have HR_1 := Aside0.mk (keepF HR_0.out k_); clear O0 K0 HD_0 HR_0 o_ k_; have a3 := k2_ O1 3) | ((with_reducible refine gD 3 rfl ?_); refine bP 3 #[.int .i64 3, .string key, .int .i64 c, .int .i64 n, .string s, .int .i64 r0, .int .i64 r1, .slice B us.length cb] 37 O1.out ?_; intro ga w2 o_ k_; obtain ⟨O2, K2⟩ := ok_ K1 o_ k_; have HD_2 := Aside0.mk (Led.keep HD_1.out k_); have HR_2 := Aside0.mk (keepF HR_1.out k_); clear a3 O1 K1 HD_1 HR_1 o_ k_; have a3 := k2_ O2 3; have a4 := k8_ O2 4))
 refine sP (n := 12) (S := d2_ gk (pt g) (pt gd) (c8_ ga (.int .i64 3) (.string key) (.int .i64 c) (.int .i64 n) (.string s) (.int .i64 r0) (.int .i64 r1) (.slice B us.length cb))) (ds := []) (j2_ a3 (p8_ a4)) (fun hHeld => ?_)
 obtain ⟨w3, hw_⟩ : ∃ W, W = w2.drew := ⟨_, rfl⟩
 have o_ := O2.out.drew
 have k_ : KeepS N w2 w2.drew := KeepS.drew
 rw [← hw_] at o_ k_ hHeld ⊢
 clear hw_
 obtain ⟨O3, K3⟩ := ok_ K2 o_ k_
 have HD_3 := Aside0.mk (Led.keep HD_2.out k_)
 have HR_3 := Aside0.mk (keepF HR_2.out k_)
 clear a3 a4 O2 K2 HD_2 HR_2 o_ k_
 have a3 := k2_ O3 3
 have a4 := k8_ O3 4
 refine pP 0 (some 49) ?_
 refine pP 2 (some 51) ?_
 refine pP 5 (some 54) ?_
 refine pP 7 (some 56) ?_
 refine tP 1 (some 50) hHeld ?_
 refine tP 3 (some 52) hHeld ?_
 refine tP 6 (some 55) hHeld ?_
 refine tP 8 (some 57) hHeld ?_
 refine oP 4 (some 53) (fun K_ hK_ => ?_)
 refine hP Tryd.func32 #[pt g, .agg #[.int .i64 r0, .int .i64 r1, .slice B us.length cb]] ?_
 obtain ⟨N_, on_, nn_, rr_, bb_⟩ := O3.out.frame1 (i := 0) rfl
 refine (CTake_e E1 r0 r1 us B cb HE1.out on_ (Kd.F_mono HR_3.out nn_) HC.out HU.out HK.out).mono ?_
 rintro e_ w4 ⟨rfl, oo_, kk_⟩
 obtain ⟨o_, k_⟩ := bb_ _ _ _ kk_ oo_
 refine ⟨_, rfl, ?_⟩
 obtain ⟨O4, K4⟩ := ok_ K3 o_ k_
 have HD_4 := Aside0.mk (Led.keep HD_3.out k_)
 have HR_4 := Aside0.mk (keepF HR_3.out k_)
 clear a3 a4 O3 K3 HD_3 HR_3 o_ k_ oo_ kk_ on_ nn_ rr_ bb_
 have a3 := k2_ O4 3
 have a4 := k8_ O4 4
 clear hHeld
 refine hK_.out _ _ (j2_ a3 (p8_ a4)) (fun hHeld => ?_)
 clear hK_ K_
 refine nP ?_
 refine oP 9 (some 58) (fun K_ hK_ => ?_)
 refine hP Tryd.func60 #[pt gd, .agg #[.int .i64 r0, .int .i64 r1, .slice B us.length cb]] ?_
 obtain ⟨N_, on_, nn_, rr_, bb_⟩ := O4.out.frame1 (i := 2) rfl
 refine (ODTake_e E2 r0 r1 us B cb HE2.out on_ (Led.mono HD_4.out nn_) HC.out HL.out).mono ?_
 rintro e_ w5 ⟨rK2, rP2, rfl, hl_, oo_, kk_⟩
 obtain ⟨o_, k_⟩ := bb_ _ _ _ kk_ oo_
 have HL2 := Aside0.mk hl_
 refine ⟨_, rfl, ?_⟩
 obtain ⟨O5, K5⟩ := ok_ K4 o_ k_
 have HD_5 := Aside0.mk (Led.keep HD_4.out k_)
 have HR_5 := Aside0.mk (keepF HR_4.out k_)
 clear a3 a4 O4 K4 HD_4 HR_4 o_ k_ oo_ kk_ on_ nn_ rr_ bb_ hl_
 have a3 := k2_ O5 3
 have a4 := k8_ O5 4
 clear hHeld
 refine hK_.out _ _ (j2_ a3 (p8_ a4)) (fun hHeld => ?_)
 clear hK_ K_
 refine nP ?_
 refine pP 10 (some 59) ?_
 refine pP 11 (some 4) ?_
 refine done_ (by kernel_rfl) ?_
 clear hHeld
 go_wp2
 go_ret
 rw [HE1.out, HE2.out, HBB.out]
 exact ⟨rK2, rP2, rfl, HL2.out, O5.out.take 3, K5.out⟩
theorem Do_4 {N : Nat → Prop} {w : World} {g gj gd gp : Nat} {jm o mtu push : Int} {rJ rK rP : List (List Value)} {L K P : List Rnd7} {U : List Upd7} {Ld Kd_ Pd : List Rnd7} {Ud : List Upd7} (key : ByteArray) (c n : Int) (s : ByteArray) (r0 r1 : Int) (B : Option Addr) (cb : Nat) (us : List Upd7) (h : Own N w [CliO g (pt gp) o mtu push K P U, Obj3 138 gp o jm L, DocO gj gd o jm o mtu push rJ rK rP Ud]) (hd : Led N w rJ rK rP Ld Kd_ Pd) (hL : L.length ≤ 1000000) (hU : Aside0 (bnd L)) (hn : Num L) (hLd : Ld.length ≤ 1000000) :
  Calls Tryd.prog 18 #[.agg #[pt g, pt gd], .agg #[.int .i64 4, .string key, .int .i64 c, .int .i64 n, .string s, .int .i64 r0, .int .i64 r1, .slice B us.length cb]] w fun e_ w' => e_ = .returned (.bool true) ∧ Led N w' rJ [] rJ Ld [] Ld ∧ Own N w' [CliO g (pt gp) o mtu push [] L [], Obj3 138 gp o jm L, DocO gj gd o jm o mtu push rJ [] rJ []] ∧ KeepS N w w' := by
 have HD_0 := Aside0.mk hd
 have HL := Aside0.mk hL
 have HB := hU
 have HN := Aside0.mk hn
 have HLD := Aside0.mk hLd
 have O0 : Aside0 (Own N w [CliO g (pt gp) o mtu push K P U, Obj3 138 gp o jm L, DocO gj gd o jm o mtu push rJ rK rP Ud]) := ⟨h⟩
 have K0 : Aside0 (KeepS N w w) := ⟨KeepS.refl _ _⟩
 clear h hd hL hU hn hLd
 go_enter Tryd.func18, Tryd.ntmps18
 go_wp2_with (first | ((with_reducible refine gD 2 rfl ?_); refine bP 2 #[pt g, pt gd] 27 O0.out ?_; intro gk w1 o_ k_; obtain ⟨O1, K1⟩ := ok_ K0 o_ k_; have HD_1 := Aside0.mk (Led.keep HD_0.out k_); clear O0 K0 HD_0 o_ k_; have a3 := k2_ O1 3) | ((with_reducible refine gD 3 rfl ?_); refine bP 3 #[.int .i64 4, .string key, .int .i64 c, .int .i64 n, .string s, .int .i64 r0, .int .i64 r1, .slice B us.length cb] 37 O1.out ?_; intro ga w2 o_ k_; obtain ⟨O2, K2⟩ := ok_ K1 o_ k_; have HD_2 := Aside0.mk (Led.keep HD_1.out k_); clear a3 O1 K1 HD_1 o_ k_; have a3 := k2_ O2 3; have a4 := k8_ O2 4) | ((with_reducible refine gC 33 rfl ?_); refine gP (some 64) Tryd.func33 #[pt g] ?_; obtain ⟨N_, on_, nn_, rr_, bb_⟩ := O2.out.frameL [0, 1] (by decide) (by simp); refine (CResume on_ HL.out HB HN.out).mono ?_; rintro e_ w3 ⟨rfl, oo_, kk_⟩; obtain ⟨o_, k_⟩ := bb_ _ [CliO g (pt gp) o mtu push [] L [], Obj3 138 gp o jm L] [] rfl kk_ oo_; refine ⟨_, rfl, ?_⟩; obtain ⟨O3, K3⟩ := ok_ K2 o_ k_; have HD_3 := Aside0.mk (Led.keep HD_2.out k_); clear a3 a4 O2 K2 HD_2 o_ k_ oo_ kk_ on_ nn_ rr_ bb_; have a3 := k2_ O3 3; have a4 := k8_ O3 4) | ((with_reducible refine gC 61 rfl ?_); refine gP (some 67) Tryd.func61 #[pt gd] ?_; obtain ⟨N_, on_, nn_, rr_, bb_⟩ := O3.out.frame1 (i := 2) rfl; refine (ODResume on_ (Led.mono HD_3.out nn_) HLD.out).mono ?_; rintro e_ w4 ⟨rfl, _, oo_, kk_⟩; obtain ⟨o_, k_⟩ := bb_ _ _ _ kk_ oo_; refine ⟨_, rfl, ?_⟩; obtain ⟨O4, K4⟩ := ok_ K3 o_ k_; have HD_4 := Aside0.mk (Led.keep HD_3.out k_); clear a3 a4 O3 K3 HD_3 o_ k_ oo_ kk_ on_ nn_ rr_ bb_; have a3 := k2_ O4 3; have a4 := k8_ O4 4))
 go_ret
 exact ⟨rfl, ⟨HD_4.out.j, Lead.none _ _, HD_4.out.j⟩, O4.out.take 3, K4.out⟩
theorem Do_0 {N : Nat → Prop} {w : World} {g gj gd gp : Nat} {jm o mtu push : Int} {rJ rK rP : List (List Value)} {L K P : List Rnd7} {U : List Upd7} {Ud : List Upd7} (kd : Int) (key : ByteArray) (c n : Int) (s : ByteArray) (r0 r1 : Int) (B : Option Addr) (cb : Nat) (us : List Upd7) (h : Own N w [CliO g (pt gp) o mtu push K P U, Obj3 138 gp o jm L, DocO gj gd o jm o mtu push rJ rK rP Ud]) (h1 : kd ≠ 1) (h2 : kd ≠ 2) (h3 : kd ≠ 3) (h4 : kd ≠ 4) (h5 : kd ≠ 5) :
  Calls Tryd.prog 18 #[.agg #[pt g, pt gd], .agg #[.int .i64 kd, .string key, .int .i64 c, .int .i64 n, .string s, .int .i64 r0, .int .i64 r1, .slice B us.length cb]] w fun e_ w' => e_ = .returned (.bool true) ∧ Own N w' [CliO g (pt gp) o mtu push K P U, Obj3 138 gp o jm L, DocO gj gd o jm o mtu push rJ rK rP Ud] ∧ KeepS N w w' := by
 have d1 : (kd == 1) = false := beq_eq_false_iff_ne.mpr h1
 have d2 : (kd == 2) = false := beq_eq_false_iff_ne.mpr h2
 have d3 : (kd == 3) = false := beq_eq_false_iff_ne.mpr h3
 have d4 : (kd == 4) = false := beq_eq_false_iff_ne.mpr h4
 have d5 : (kd == 5) = false := beq_eq_false_iff_ne.mpr h5
 have O0 : Aside0 (Own N w [CliO g (pt gp) o mtu push K P U, Obj3 138 gp o jm L, DocO gj gd o jm o mtu push rJ rK rP Ud]) := ⟨h⟩
 have K0 : Aside0 (KeepS N w w) := ⟨KeepS.refl _ _⟩
 clear h h1 h2 h3 h4 h5
 go_enter Tryd.func18, Tryd.ntmps18
 go_wp2_with (first | ((with_reducible refine gD 2 rfl ?_); refine bP 2 #[pt g, pt gd] 27 O0.out ?_; intro gk w1 o_ k_; obtain ⟨O1, K1⟩ := ok_ K0 o_ k_; clear O0 K0 o_ k_; have a3 := k2_ O1 3) | ((with_reducible refine gD 3 rfl ?_); refine bP 3 #[.int .i64 kd, .string key, .int .i64 c, .int .i64 n, .string s, .int .i64 r0, .int .i64 r1, .slice B us.length cb] 37 O1.out ?_; intro ga w2 o_ k_; obtain ⟨O2, K2⟩ := ok_ K1 o_ k_; clear a3 O1 K1 o_ k_; have a3 := k2_ O2 3; have a4 := k8_ O2 4))
 go_ret
 exact ⟨rfl, O2.out.take 3, K2.out⟩
theorem Do_5n {N : Nat → Prop} {w : World} {g gj gd gp : Nat} {jm o mtu push : Int} {rJ rK rP : List (List Value)} {L K P : List Rnd7} {U : List Upd7} {Ud : List Upd7} (key : ByteArray) (c n : Int) (s : ByteArray) (r0 r1 : Int) (B : Option Addr) (cb : Nat) (us : List Upd7) (h : Own N w [CliO g (pt gp) o mtu push K P U, Obj3 138 gp o jm L, DocO gj gd o jm o mtu push rJ rK rP Ud]) (hp : rP = []) :
  Calls Tryd.prog 18 #[.agg #[pt g, pt gd], .agg #[.int .i64 5, .string key, .int .i64 c, .int .i64 n, .string s, .int .i64 r0, .int .i64 r1, .slice B us.length cb]] w fun e_ w' => e_ = .returned (.bool true) ∧ Own N w' [CliO g (pt gp) o mtu push K P U, Obj3 138 gp o jm L, DocO gj gd o jm o mtu push rJ rK rP Ud] ∧ KeepS N w w' := by
 have hpr : rP.length = 0 := by rw [hp]; rfl
 have d9 : decide ((rP.length : Int) > 0) = false := decide_eq_false (by omega)
 have d8 : decide (0 < (rP.length : Int)) = false := d9
 have d7 : (0 < rP.length) = False := eq_false (by omega)
 have hz := h.pickL [2, 0, 1] (by decide) (by simp)
 obtain ⟨AJ, cJ, A4, c4, A5, c5, A6, c6, h2⟩ := DocO.open_ (r := [CliO g (pt gp) o mtu push K P U, Obj3 138 gp o jm L]) hz
 have O0 : Aside0 (Own N w [cells gj (jrC o jm (.slice AJ rJ.length cJ)) tDJ, CliO g (pt gp) o mtu push K P U, Obj3 138 gp o jm L, nrow kU7 tU7 (.slice A6 Ud.length c6) Ud, nrow (Kd.raw 3) tR7 (.slice A5 rP.length c5) rP, nrow (Kd.raw 3) tR7 (.slice A4 rK.length c4) rK, cells gd (cliC (pt gj) o mtu push (.slice A4 rK.length c4) (.slice A5 rP.length c5) (.slice A6 Ud.length c6)) tDC, nrow (Kd.raw 3) tR7 (.slice AJ rJ.length cJ) rJ]) := ⟨h2⟩
 have K0 : Aside0 (KeepS N w w) := ⟨KeepS.refl _ _⟩
 have a6 := k7_ O0 6
 clear h2 hz h hp hpr
 go_enter Tryd.func18, Tryd.ntmps18
 go_wp2_with (first | ((with_reducible refine gD 2 rfl ?_); refine bP 2 #[pt g, pt gd] 27 O0.out ?_; intro gk w1 o_ k_; obtain ⟨O1, K1⟩ := ok_ K0 o_ k_; clear a6 O0 K0 o_ k_; have a6 := k7_ O1 6; have a8 := k2_ O1 8) | ((with_reducible refine gD 3 rfl ?_); refine bP 3 #[.int .i64 5, .string key, .int .i64 c, .int .i64 n, .string s, .int .i64 r0, .int .i64 r1, .slice B us.length cb] 37 O1.out ?_; intro ga w2 o_ k_; obtain ⟨O2, K2⟩ := ok_ K1 o_ k_; clear a6 a8 O1 K1 o_ k_; have a6 := k7_ O2 6; have a8 := k2_ O2 8; have a9 := k8_ O2 9))
 go_ret
 exact ⟨rfl, (DocO.shut (O2.out.pickL [0, 7, 6, 5, 4, 3, 1, 2] (by decide) (by simp))).pickL [6, 7, 0] (by decide) (by simp), K2.out⟩
end Go.Proofs.YtjdenpmaianmfaaDoor.J
namespace Go.Proofs.YtjdenpmaianmfaaDoor.J
set_option maxHeartbeats 16000000
set_option maxRecDepth 100000
set_option linter.unusedSimpArgs false
set_option linter.unusedVariables false
open Go Go.RowKit Go.Proofs.YtjdenpmaianmfaaDoorW.PrintWords Go.Proofs.YtjdenpmaianmfaaDoorW.PrintLast Go.Proofs.YtjdenpmaianmfaaDoorW.PrintMore Go.Proofs.YtjdenpmaianmfaaDoor.Q Go.Proofs.YtjdenpmaianmfaaDoor.Sep Go.Proofs.YtjdenpmaianmfaaDoor.Pure
attribute [local go_sem] field_V
end Go.Proofs.YtjdenpmaianmfaaDoor.J
namespace Go.Proofs.YtjdenpmaianmfaaDoor.J
set_option linter.unusedSimpArgs false
set_option linter.unusedVariables false
open Go Go.RowKit Go.Proofs.YtjdenpmaianmfaaDoorW.PrintWords Go.Proofs.YtjdenpmaianmfaaDoorW.PrintLast Go.Proofs.YtjdenpmaianmfaaDoorW.PrintMore Go.Proofs.YtjdenpmaianmfaaDoor.Q Go.Proofs.YtjdenpmaianmfaaDoor.Sep Go.Proofs.YtjdenpmaianmfaaDoor.Pure
abbrev Act7 := S37
theorem rd_mem {L : List Rnd7} {x : Int} (h0 : 0 ≤ x) (h1 : x < L.length) : rd_T35 L x ∈ L := by
 have hl : x.toNat < L.length := by omega
 show L.getD x.toNat _ ∈ L
 rw [List.getD_eq_getElem?_getD, List.getElem?_eq_getElem hl]
 exact List.getElem_mem hl
def Few (m : Nat) (L : List Rnd7) : Prop := ∀ r ∈ L, r.f2.length ≤ m
theorem Few.bnd {m : Nat} {L : List Rnd7} (h : Few m L) (hm : m ≤ 1000000) : Aside0 (bnd L) := ⟨fun x h0 h1 => Nat.le_trans (h _ (rd_mem h0 h1)) hm⟩
theorem Few.app {m : Nat} {L M : List Rnd7} (h : Few m L) (k : Few m M) : Few m (L ++ M) := fun r hr => (List.mem_append.1 hr).elim (h r) (k r)
theorem Few.one {m : Nat} {r : Rnd7} (h : r.f2.length ≤ m) : Few m [r] := fun q hq => by rw [List.mem_singleton] at hq; subst hq; exact h
theorem Few.drop {m : Nat} {L : List Rnd7} (h : Few m L) (k : Nat) : Few m (L.drop k) := fun r hr => h r (List.mem_of_mem_drop hr)
theorem Few.mono {m n : Nat} {L : List Rnd7} (h : Few m L) (k : m ≤ n) : Few n L := fun r hr => Nat.le_trans (h r hr) k
theorem Few.flat {m : Nat} : ∀ {L : List Rnd7}, Few m L → (flatR L).length ≤ m * L.length
 | [], _ => by simp [flatR]
 | r :: L, h => by
  have ih := Few.flat (L := L) (fun q hq => h q (List.mem_cons_of_mem _ hq))
  have h1 := h r List.mem_cons_self
  have e : flatR (r :: L) = r.f2 ++ flatR L := by unfold flatR; rw [List.flatMap_cons]
  rw [e, List.length_append, List.length_cons, Nat.mul_succ]
  omega
def ownR (o : Int) (K : List Rnd7) : List Rnd7 := K.filter fun r => decide (r.f0 = o)
theorem ownR_yes {o : Int} {K : List Rnd7} {r : Rnd7} (h : r.f0 = o) : ownR o (K ++ [r]) = ownR o K ++ [r] := by
 unfold ownR
 rw [List.filter_append, List.filter_cons, if_pos (decide_eq_true h)]
 rfl
theorem ownR_no {o : Int} {K : List Rnd7} {r : Rnd7} (h : r.f0 ≠ o) : ownR o (K ++ [r]) = ownR o K := by
 unfold ownR
 rw [List.filter_append, List.filter_cons, if_neg (by simpa using h)]
 simp
theorem num_more {M : List Rnd7} {r : Rnd7} (h : Num M) (hr : r.f1 = M.length + 1) : Num (M ++ [r]) := fun x h0 h1 => by
 rw [rd_snoc _ _ x h0 h1]
 rw [List.length_append, List.length_singleton] at h1
 split
 ·exact h x h0 (by omega)
 ·rw [hr]
  omega
theorem rd_drop {L : List Rnd7} {k : Nat} (hk : k < L.length) : rd_T35 (L.drop k) 0 = rd_T35 L k := by
 show (L.drop k).getD 0 _ = L.getD (k : Int).toNat _
 rw [List.getD_eq_getElem?_getD, List.getD_eq_getElem?_getD, List.getElem?_drop]
 rfl
structure Inv (o jm x : Int) (K P L : List Rnd7) (U : List Upd7) : Prop where
 k : (K.length : Int) ≤ x
 l : (L.length : Int) ≤ x
 u : (U.length : Int) ≤ x
 m : (L.length : Int) ≤ jm
 n : Num L
 f : Few 8 L
 p : (ownR o K).length ≤ L.length ∧ P = L.drop (ownR o K).length
 g : Few 20 K
 q : Num (ownR o K)
 o : ∀ r ∈ L, r.f0 = o
theorem Inv.zero {o jm : Int} (h : 0 ≤ jm) : Inv o jm 0 [] [] [] [] := ⟨by simp, by simp, by simp, by simpa using h, num_nil, fun r hr => by simp at hr, ⟨by simp [ownR], rfl⟩, fun r hr => by simp at hr, num_nil, fun r hr => by simp at hr⟩
theorem Inv.next {o jm x y : Int} {K P L : List Rnd7} {U : List Upd7} (h : Inv o jm x K P L U) (hy : x ≤ y) : Inv o jm y K P L U := ⟨by have := h.k; omega, by have := h.l; omega, by have := h.u; omega, h.m, h.n, h.f, h.p, h.g, h.q, h.o⟩
theorem Inv.fp {o jm x : Int} {K P L : List Rnd7} {U : List Upd7} (h : Inv o jm x K P L U) : Few 8 P := by
 rw [h.p.2]
 exact h.f.drop _
theorem Inv.pl {o jm x : Int} {K P L : List Rnd7} {U : List Upd7} (h : Inv o jm x K P L U) : P.length ≤ L.length := by
 rw [h.p.2, List.length_drop]
 omega
theorem Inv.first {o jm x : Int} {K P L : List Rnd7} {U : List Upd7} (h : Inv o jm x K P L U) (hp : P.length ≠ 0) : (rd_T35 P 0).f1 = (ownR o K).length + 1 ∧ (ownR o K).length < L.length := by
 have hl : (ownR o K).length < L.length := by rw [h.p.2, List.length_drop] at hp; omega
 rw [h.p.2, rd_drop hl]
 exact ⟨h.n _ (by omega) (by omega), hl⟩
theorem Inv.sizes {o jm x : Int} {K P L : List Rnd7} {U : List Upd7} (h : Inv o jm x K P L U) (hx : x ≤ 51) : K.length ≤ 1000000 ∧ P.length ≤ 1000000 ∧ L.length ≤ 1000000 ∧ U.length ≤ 1000000 ∧ K.length + P.length ≤ 1000000 ∧ (flatR (K ++ P)).length + U.length < 1000000 := by
 have h1 := h.k; have h2 := h.l; have h3 := h.u; have h4 := h.pl
 have h5 := ((h.g.app (h.fp.mono (by decide))) : Few 20 (K ++ P)).flat
 rw [List.length_append] at h5
 omega
inductive Stp (o jm mtu push : Int) (a : Act7) (K P L : List Rnd7) (U : List Upd7) : List Rnd7 → List Rnd7 → List Rnd7 → List Upd7 → Prop
 | upd (h : a.f0 = 1) : Stp o jm mtu push a K P L U K P L (updU U a.f1.f0 a.f1.f1 a.f1.f2 a.f1.f3 mtu)
 | push (h : a.f0 = 2) (he : pushE o jm push L P U = 0) : Stp o jm mtu push a K P L U K (P ++ [(⟨o, (L.length : Int) + 1, U⟩ : Rnd7)]) (L ++ [(⟨o, (L.length : Int) + 1, U⟩ : Rnd7)]) []
 | take (h : a.f0 = 3) : Stp o jm mtu push a K P L U (takeK o K P a.f2) (takeP o P a.f2.f0 a.f2.f1) L U
 | resume (h : a.f0 = 4) : Stp o jm mtu push a K P L U [] L L []
 | echo (h : a.f0 = 5) (hp : P.length ≠ 0) : Stp o jm mtu push a K P L U (takeK o K P (rd_T35 P 0)) (takeP o P (rd_T35 P 0).f0 (rd_T35 P 0).f1) L U
 | none : Stp o jm mtu push a K P L U K P L U
theorem addE_may {o jm : Int} {L : List Rnd7} {U : List Upd7} (h : addE o jm L U = 0) : mayR o ((L.length : Int) + 1) U = 0 ∧ (L.length : Int) ≠ jm := by
 unfold addE at h
 split at h
 ·cases h
 ·exact ⟨h, by assumption⟩
theorem push_may {o jm push : Int} {L P : List Rnd7} {U : List Upd7} (h : pushE o jm push L P U = 0) : U.length ≠ 0 ∧ addE o jm L U = 0 := by
 rcases push_cases o jm push L P U with ⟨h1, e⟩ | ⟨h1, h2, e⟩ | ⟨h1, h2, h3, e⟩ | ⟨h1, h2, h3, e⟩
 ·rw [e] at h; cases h
 ·rw [e] at h; cases h
 ·exact (h3 (e ▸ h)).elim
 ·exact ⟨h1, h3⟩
theorem few_take {o : Int} {m : Nat} {K P : List Rnd7} {r : Rnd7} (h : Few m K) (hr : r.f2.length ≤ m) : Few m (takeK o K P r) := by
 unfold takeK
 split
 ·exact h.app (Few.one hr)
 ·exact h
theorem Inv.take {o jm x : Int} {K P L : List Rnd7} {U : List Upd7} (h : Inv o jm x K P L U) (r : Rnd7) : ((ownR o (takeK o K P r)).length ≤ L.length ∧ takeP o P r.f0 r.f1 = L.drop (ownR o (takeK o K P r)).length) ∧ Num (ownR o (takeK o K P r)) := by
 rcases take_cases o P r.f0 r.f1 with ⟨_, _, e1, e2⟩ | ⟨_, _, _, e1, e2⟩ | ⟨h1, h2, h3, e1, e2⟩ | ⟨h1, e1, e2⟩
 ·rw [takeK_no e1, e2]
  exact ⟨h.p, h.q⟩
 ·rw [takeK_no e1, e2]
  exact ⟨h.p, h.q⟩
 ·obtain ⟨e3, e4⟩ := h.first h2
  rw [takeK_yes e1, e2, ownR_yes h1, List.length_append, List.length_singleton]
  refine ⟨⟨by omega, by rw [h.p.2, List.drop_drop]⟩, num_more h.q (by rw [← h3, e3])⟩
 ·rw [takeK_yes e1, e2, ownR_no h1]
  exact ⟨h.p, h.q⟩
theorem Inv.step {o jm mtu push x : Int} {a : Act7} {K P L K' P' L' : List Rnd7} {U U' : List Upd7} (h : Inv o jm x K P L U) (s : Stp o jm mtu push a K P L U K' P' L' U') (h20 : a.f2.f2.length ≤ 20) (hx : 0 ≤ x) : Inv o jm (x + 1) K' P' L' U' := by
 have hn := h.next (show x ≤ x + 1 by omega)
 have hk0 := h.k; have hl0 := h.l; have hu0 := h.u; have hm0 := h.m
 cases s with
 | upd h1 =>
  have := upd_len U a.f1.f0 a.f1.f1 a.f1.f2 a.f1.f3 mtu
  exact ⟨hn.k, hn.l, by omega, h.m, h.n, h.f, h.p, h.g, h.q, h.o⟩
 | push h1 he =>
  obtain ⟨e1, e2⟩ := push_may he
  obtain ⟨e3, e4⟩ := addE_may e2
  refine ⟨hn.k, by rw [List.length_append, List.length_singleton]; omega, by simp; omega, by rw [List.length_append, List.length_singleton]; omega, num_snoc o U h.n, h.f.app (Few.one (mayR_len e3)), ⟨by rw [List.length_append]; have := h.p.1; omega, ?_⟩, h.g, h.q, fun r hr => ?_⟩
  ·rw [h.p.2]
   exact (List.drop_append_of_le_length h.p.1).symm
  ·rcases List.mem_append.1 hr with hr | hr
   ·exact h.o r hr
   ·rw [List.mem_singleton] at hr
    subst hr
    rfl
 | take h1 =>
  have := takeK_len o K P a.f2
  obtain ⟨q1, q2⟩ := h.take a.f2
  exact ⟨by omega, hn.l, hn.u, h.m, h.n, h.f, q1, few_take h.g h20, q2, h.o⟩
 | resume h1 => exact ⟨by simp; omega, hn.l, by simp; omega, h.m, h.n, h.f, ⟨by simp [ownR], rfl⟩, fun r hr => by simp at hr, num_nil, h.o⟩
 | echo h1 hp =>
  have := takeK_len o K P (rd_T35 P 0)
  obtain ⟨q1, q2⟩ := h.take (rd_T35 P 0)
  exact ⟨by omega, hn.l, hn.u, h.m, h.n, h.f, q1, few_take h.g (Nat.le_trans (h.fp _ (rd_mem (by decide) (by omega))) (by decide)), q2, h.o⟩
 | none => exact hn
theorem gAll_loop (l : List Upd7) (hl : l.length ≤ 200) : ∀ (d k : Nat) (x : Int), 0 ≤ x → x ≤ l.length → (l.length : Int) - x = d → d + 1 ≤ k → ∃ b, chapbookref04_GreatAll.l0 k l x = some b := by
 intro d
 induction d with
 | zero =>
  intro k x h0 h1 hd hk
  obtain ⟨k, rfl⟩ : ∃ q, k = q + 1 := ⟨k - 1, by omega⟩
  unfold chapbookref04_GreatAll.l0
  exact ⟨false, by rw [if_neg (by omega)]⟩
 | succ d ih =>
  intro k x h0 h1 hd hk
  obtain ⟨k, rfl⟩ : ∃ q, k = q + 1 := ⟨k - 1, by omega⟩
  unfold chapbookref04_GreatAll.l0
  rw [if_pos (by omega), if_pos h0]
  obtain ⟨b, hb⟩ : ∃ b, chapbookref04_Great.f (rd_T32 l x).f0 (rd_T32 l x).f1 (rd_T32 l x).f2 (rd_T32 l x).f3 = some b := by
   unfold chapbookref04_Great.f
   split
   ·exact ⟨_, rfl⟩
   ·exact ⟨_, rfl⟩
  rw [hb, Option.bind_some]
  cases b
  ·rw [if_neg (by decide), w64s17 h0 (show x < (l.length : Int) by omega) (by omega)]
   exact ih k (x + 1) (by omega) (by omega) (by omega) (by omega)
  ·exact ⟨true, if_pos rfl⟩
theorem great7_ok (k : Nat) (hk : 202 ≤ k) (o n : Int) (us : List Upd7) : ∃ b, chapbookref07_Great.f k o n us = some b ∧ (b = false → us.length ≤ 20) := by
 unfold chapbookref07_Great.f
 by_cases h : (us.length : Int) > 20
 ·exact ⟨true, if_pos h, by simp⟩
 ·rw [if_neg h]
  unfold chapbookref04_GreatAll.f
  rw [if_neg (by omega)]
  obtain ⟨b, hb⟩ := gAll_loop us (by omega) us.length k 0 (by omega) (by omega) (by omega) (by omega)
  rw [hb, Option.bind_some]
  exact ⟨b, rfl, fun _ => by omega⟩
theorem g17_loop (l : List Act7) (hl : l.length ≤ 50) : ∀ (d k : Nat) (x : Int), 0 ≤ x → x ≤ l.length → (l.length : Int) - x = d → d + 230 ≤ k → ∃ b, chapbooklaw17_great.l0 k l l.length x = some b ∧ (b = false → ∀ y : Int, x ≤ y → y < l.length → (rd_T37 l y).f2.f2.length ≤ 20) := by
 intro d
 induction d with
 | zero =>
  intro k x h0 h1 hd hk
  obtain ⟨k, rfl⟩ : ∃ q, k = q + 1 := ⟨k - 1, by omega⟩
  unfold chapbooklaw17_great.l0
  rw [if_neg (by omega)]
  exact ⟨false, rfl, fun _ y a b => by omega⟩
 | succ d ih =>
  intro k x h0 h1 hd hk
  obtain ⟨k, rfl⟩ : ∃ q, k = q + 1 := ⟨k - 1, by omega⟩
  unfold chapbooklaw17_great.l0
  rw [if_pos (by omega), if_pos h0, if_pos (by omega)]
  obtain ⟨b, hb⟩ : ∃ b, chapbookref04_Great.f (rd_T37 l x).f1.f0 (rd_T37 l x).f1.f1 (rd_T37 l x).f1.f2 (rd_T37 l x).f1.f3 = some b := by
   unfold chapbookref04_Great.f
   split
   ·exact ⟨_, rfl⟩
   ·exact ⟨_, rfl⟩
  rw [hb, Option.bind_some]
  cases b
  ·rw [if_neg (by decide)]
   obtain ⟨c, hc, hc2⟩ := great7_ok k (by omega) (rd_T37 l x).f2.f0 (rd_T37 l x).f2.f1 (rd_T37 l x).f2.f2
   rw [hc, Option.bind_some]
   cases c
   ·rw [if_neg (by decide), w64s17 h0 (show x < (l.length : Int) by omega) (by omega)]
    obtain ⟨e, he, he2⟩ := ih k (x + 1) (by omega) (by omega) (by omega) (by omega)
    refine ⟨e, he, fun h y a b => ?_⟩
    by_cases hy : y = x
    ·subst hy
     exact hc2 rfl
    ·exact he2 h y (by omega) b
   ·exact ⟨true, if_pos rfl, by simp⟩
  ·exact ⟨true, if_pos rfl, by simp⟩
theorem great17_ok (l : List Act7) : ∃ b, chapbooklaw17_great.f 300 l = some b ∧ (b = false → l.length ≤ 50 ∧ ∀ y : Int, 0 ≤ y → y < l.length → (rd_T37 l y).f2.f2.length ≤ 20) := by
 unfold chapbooklaw17_great.f
 by_cases h : (l.length : Int) > 50
 ·exact ⟨true, if_pos h, by simp⟩
 ·rw [if_neg h]
  obtain ⟨b, hb, hb2⟩ := g17_loop l (by omega) l.length 300 0 (by omega) (by omega) (by omega) (by omega)
  exact ⟨b, hb, fun e => ⟨by omega, hb2 e⟩⟩
section
variable {N : Nat → Prop} {w : World} {g gj gd gp : Nat} {jm o mtu push x : Int} {rJ rK rP : List (List Value)} {L K P : List Rnd7} {U : List Upd7}
abbrev actV (a : Act7) (B : Option Addr) (cb : Nat) : Value := .agg #[.int .i64 a.f0, .string a.f1.f0, .int .i64 a.f1.f1, .int .i64 a.f1.f2, .string a.f1.f3, .int .i64 a.f2.f0, .int .i64 a.f2.f1, .slice B a.f2.f2.length cb]
end
end Go.Proofs.YtjdenpmaianmfaaDoor.J
namespace Go.Proofs.YtjdenpmaianmfaaDoor.J
set_option maxHeartbeats 16000000
set_option maxRecDepth 100000
set_option linter.unusedSimpArgs false
set_option linter.unusedVariables false
open Go Go.RowKit Go.Proofs.YtjdenpmaianmfaaDoorW.PrintWords Go.Proofs.YtjdenpmaianmfaaDoorW.PrintLast Go.Proofs.YtjdenpmaianmfaaDoorW.PrintMore Go.Proofs.YtjdenpmaianmfaaDoor.Q Go.Proofs.YtjdenpmaianmfaaDoor.Sep Go.Proofs.YtjdenpmaianmfaaDoor.Pure
def upA (n : Int) : Upd7 := ⟨⟨#[97]⟩, 3, n, ⟨#[]⟩⟩
def awR1 : Rnd7 := ⟨1, 1, [upA 1]⟩
def awR2 : Rnd7 := ⟨2, 1, [upA 5]⟩
theorem repU1A (W : World) (n : Int) : Reps (Kd.FK kU7 W (fun _ => False)) 4 [upA n] [.string ⟨#[97]⟩, .int .i64 3, .int .i64 n, .string ⟨#[]⟩] := repU1 W (upA n)
section
variable {N : Nat → Prop} {w : World} {g gp : Nat}
theorem CTake_k {jp : Value} {o mtu push : Int} {K P : List Rnd7} {U : List Upd7} (E : Int) (K' P' : List Rnd7) (r0 r1 : Int) (us : List Upd7) (B : Option Addr) (cb : Nat) (hE : takeE o P r0 r1 = E) (hK : takeK o K P ⟨r0, r1, us⟩ = K') (hP : takeP o P r0 r1 = P') (h : Own N w [CliO g jp o mtu push K P U]) (hr : Kd.F kU7 w N B us.length us) (hc : us.length ≤ cb) (hu : us.length ≤ 1000000) (hL : K.length ≤ 1000000) :
  Calls Tryd.prog 32 #[pt g, .agg #[.int .i64 r0, .int .i64 r1, .slice B us.length cb]] w fun e_ w' => e_ = .returned (.int .i64 E) ∧ Own N w' [CliO g jp o mtu push K' P' U] ∧ KeepS N w w' := by
 subst hK hP
 exact CTake_e E r0 r1 us B cb hE h hr hc hu hL
theorem aw_add1 (n : Int) : chapbooklaw17_add.f n = some (⟨#[97]⟩, 3, n, ⟨#[]⟩) := by unfold chapbooklaw17_add.f; rfl
theorem aw_updE : updE [] ⟨#[97]⟩ 3 1 ⟨#[]⟩ 100 = 0 := by kernel_rfl
theorem aw_updE3 : updE [] ⟨#[97]⟩ 3 3 ⟨#[]⟩ 100 = 0 := by kernel_rfl
theorem aw_updU (n : Int) (h : updE [] ⟨#[97]⟩ 3 n ⟨#[]⟩ 100 = 0) : updU [] ⟨#[97]⟩ 3 n ⟨#[]⟩ 100 = [upA n] := if_pos h
theorem aw_push1 : pushE 1 9 1 [] [] [upA 1] = 0 := by kernel_rfl
theorem aw_push2 : pushE 1 9 1 [awR1] [awR1] [] = 11 := by kernel_rfl
theorem aw_push3 : pushE 1 9 1 [awR1] [awR1] [upA 3] = 7 := by kernel_rfl
theorem aw_read (h : Own N w [CliO g (pt gp) 1 100 1 [awR2] [awR1] [upA 3]]) : Calls Tryd.prog 25 #[pt g, .string ⟨#[97]⟩] w fun e_ w' => e_ = .returned (.agg #[.int .i64 1, .int .i64 9, .string ⟨#[]⟩]) ∧ Own N w' [CliO g (pt gp) 1 100 1 [awR2] [awR1] [upA 3]] ∧ KeepS N w w' := by
 have q := ORead ⟨#[97]⟩ (by decide) h (by decide) (by decide)
 have e : stateOf [upA 3] ([awR2] ++ [awR1]) ⟨#[97]⟩ = (1, 9, none') := by
  show doL zeroM ([upA 5] ++ [upA 1] ++ [upA 3]) ⟨#[97]⟩ = _
  rw [doL_get]
  kernel_rfl
 rw [e] at q
 exact q
theorem aw_cnt : cntK (stateOf [] ([] ++ [awR1])) = 1 := by
 refine cntK_is (ks := [(⟨#[97]⟩ : ByteArray)]) (by simp) (fun key => ?_)
 show _ ↔ (doL zeroM [upA 1] key).1 ≠ 0
 have e : doL zeroM [upA 1] = doU zeroM ⟨#[97]⟩ 3 1 ⟨#[]⟩ := rfl
 rw [e]
 unfold doU
 rw [if_pos (by kernel_rfl), List.mem_singleton]
 unfold J.upd
 constructor
 ·intro h
  rw [if_pos h]
  decide
 ·intro h
  by_cases hk : key = ⟨#[97]⟩
  ·exact hk
  ·rw [if_neg hk] at h
   exact (h rfl).elim
theorem aw_len (h : Own N w [CliO g (pt gp) 1 100 1 [] [awR1] []]) : Calls Tryd.prog 27 #[pt g] w fun e_ w' => e_ = .returned (.int .i64 1) ∧ Own N w' [CliO g (pt gp) 1 100 1 [] [awR1] []] ∧ KeepS N w w' := by
 have q := OLen h (by decide) (by decide)
 rw [aw_cnt] at q
 exact q
theorem aw_bnd : Aside0 (bnd [awR1]) := (Few.one (m := 8) (by decide) : Few 8 [awR1]).bnd (by decide)
theorem aw_num : Num [awR1] := num_snoc (L := []) 1 [upA 1] num_nil
theorem aw_conf (h : Own N w [CliO g (pt gp) 1 100 1 [] [awR1] []]) : Calls Tryd.prog 24 #[pt g] w fun e_ w' => e_ = .returned (.bool false) ∧ Own N w' [CliO g (pt gp) 1 100 1 [] [awR1] []] ∧ KeepS N w w' := OConf h
theorem aw_pend (h : Own N w [CliO g (pt gp) 1 100 1 [] [awR1] []]) : Calls Tryd.prog 21 #[pt g] w fun e_ w' => ∃ A1 c1, e_ = .returned (.slice A1 1 c1) ∧ Own N w' [CliO g (pt gp) 1 100 1 [] [awR1] [], row kR7 tR7 (.slice A1 1 c1) [awR1]] ∧ KeepS N w w' := OPending h (by decide) aw_bnd
theorem aw_known (h : Own N w [CliO g (pt gp) 1 100 1 [] [awR1] []]) : Calls Tryd.prog 20 #[pt g] w fun e_ w' => ∃ A1 c1, e_ = .returned (.slice A1 0 c1) ∧ Own N w' [CliO g (pt gp) 1 100 1 [] [awR1] [], row kR7 tR7 (.slice A1 0 c1) []] ∧ KeepS N w w' := OKnown h (by decide) ⟨fun x h0 h1 => by simp at h1; omega⟩
theorem aw_open (h : Own N w [CliO g (pt gp) 1 100 1 [] [awR1] []]) : Calls Tryd.prog 23 #[pt g] w fun e_ w' => ∃ A1 c1, e_ = .returned (.slice A1 0 c1) ∧ Own N w' [CliO g (pt gp) 1 100 1 [] [awR1] [], nrow kU7 tU7 (.slice A1 0 c1) []] ∧ KeepS N w w' := OOpen h (by decide)
theorem aw_new (h : Own N w []) : Calls Tryd.prog 52 #[.int .i64 1, .int .i64 9] w fun e w' => ∃ gp, e = .returned (pt gp) ∧ Own N w' [Obj3 138 gp 1 9 []] ∧ KeepS N w w' := JNew_e 1 9 9 (by decide) h
theorem aw_cnew (h : Own N w [Obj3 138 gp 1 9 []]) : Calls Tryd.prog 53 #[pt gp, .int .i64 1, .int .i64 100, .int .i64 1] w fun e_ w' => ∃ g, e_ = .returned (pt g) ∧ Own N w' [Obj3 138 gp 1 9 [], CliO g (pt gp) 1 100 1 [] [] []] ∧ KeepS N w w' := CNew_0 1 100 1 1 (by decide) h
theorem aw_upd (n : Int) {K P : List Rnd7} (hn : updE [] ⟨#[97]⟩ 3 n ⟨#[]⟩ 100 = 0) (h : Own N w [CliO g (pt gp) 1 100 1 K P []]) (ht : TabN N w) : Calls Tryd.prog 30 #[pt g, .agg #[.string ⟨#[97]⟩, .int .i64 3, .int .i64 n, .string ⟨#[]⟩]] w fun e_ w' => e_ = .returned (.int .i64 0) ∧ Own N w' [CliO g (pt gp) 1 100 1 K P [upA n]] ∧ KeepS N w w' := CUpd_e 0 [upA n] _ _ _ _ hn (aw_updU n hn) h ht (by decide)
theorem aw_p1 (h : Own N w [CliO g (pt gp) 1 100 1 [] [] [upA 1], Obj3 138 gp 1 9 []]) : Calls Tryd.prog 31 #[pt g] w fun e_ w' => ∃ A1 c1, e_ = .returned (.tuple #[.agg #[.int .i64 1, .int .i64 1, .slice A1 1 c1], .int .i64 0]) ∧ Own N w' [CliO g (pt gp) 1 100 1 [] [awR1] [], Obj3 138 gp 1 9 [awR1], nrow kU7 tU7 (.slice A1 1 c1) [upA 1]] ∧ KeepS N w w' := CPush_y 1 aw_push1 (by decide) h (by decide) (by decide) (by decide)
theorem aw_p2 (h : Own N w [CliO g (pt gp) 1 100 1 [] [awR1] [], Obj3 138 gp 1 9 [awR1]]) : Calls Tryd.prog 31 #[pt g] w fun e_ w' => ∃ A1 c1, e_ = .returned (.tuple #[.agg #[.int .i64 0, .int .i64 0, .slice A1 0 c1], .int .i64 11]) ∧ Own N w' [CliO g (pt gp) 1 100 1 [] [awR1] [], Obj3 138 gp 1 9 [awR1], nrow kU7 tU7 (.slice A1 0 c1) []] ∧ KeepS N w w' := CPush_n 11 aw_push2 (by decide) h (by decide) (by decide) (by decide)
theorem aw_p3 (h : Own N w [CliO g (pt gp) 1 100 1 [] [awR1] [upA 3], Obj3 138 gp 1 9 [awR1]]) : Calls Tryd.prog 31 #[pt g] w fun e_ w' => ∃ A1 c1, e_ = .returned (.tuple #[.agg #[.int .i64 0, .int .i64 0, .slice A1 0 c1], .int .i64 7]) ∧ Own N w' [CliO g (pt gp) 1 100 1 [] [awR1] [upA 3], Obj3 138 gp 1 9 [awR1], nrow kU7 tU7 (.slice A1 0 c1) []] ∧ KeepS N w w' := CPush_n 7 aw_push3 (by decide) h (by decide) (by decide) (by decide)
theorem aw_t1 (B : Option Addr) (cb : Nat) (h : Own N w [CliO g (pt gp) 1 100 1 [] [awR1] [upA 3]]) (hr : Kd.F kU7 w N B 1 [upA 5]) (hc : 1 ≤ cb) : Calls Tryd.prog 32 #[pt g, .agg #[.int .i64 2, .int .i64 1, .slice B 1 cb]] w fun e_ w' => e_ = .returned (.int .i64 0) ∧ Own N w' [CliO g (pt gp) 1 100 1 [awR2] [awR1] [upA 3]] ∧ KeepS N w w' := CTake_k 0 _ _ 2 1 [upA 5] B cb (by kernel_rfl) (by kernel_rfl) (by kernel_rfl) h hr hc (by decide) (by decide)
theorem aw_t2 (B : Option Addr) (cb : Nat) (h : Own N w [CliO g (pt gp) 1 100 1 [awR2] [awR1] [upA 3]]) (hr : Kd.F kU7 w N B 1 [upA 1]) (hc : 1 ≤ cb) : Calls Tryd.prog 32 #[pt g, .agg #[.int .i64 1, .int .i64 1, .slice B 1 cb]] w fun e_ w' => e_ = .returned (.int .i64 0) ∧ Own N w' [CliO g (pt gp) 1 100 1 [awR2, awR1] [] [upA 3]] ∧ KeepS N w w' := CTake_k 0 _ _ 1 1 [upA 1] B cb (by kernel_rfl) (by kernel_rfl) (by kernel_rfl) h hr hc (by decide) (by decide)
theorem aw_t3 (B : Option Addr) (cb : Nat) (h : Own N w [CliO g (pt gp) 1 100 1 [awR2, awR1] [] [upA 3]]) (hr : Kd.F kU7 w N B 1 [upA 1]) (hc : 1 ≤ cb) : Calls Tryd.prog 32 #[pt g, .agg #[.int .i64 1, .int .i64 1, .slice B 1 cb]] w fun e_ w' => e_ = .returned (.int .i64 10) ∧ Own N w' [CliO g (pt gp) 1 100 1 [awR2, awR1] [] [upA 3]] ∧ KeepS N w w' := CTake_k 10 _ _ 1 1 [upA 1] B cb (by kernel_rfl) (by kernel_rfl) (by kernel_rfl) h hr hc (by decide) (by decide)
theorem aw_res (h : Own N w [CliO g (pt gp) 1 100 1 [awR2, awR1] [] [upA 3], Obj3 138 gp 1 9 [awR1]]) : Calls Tryd.prog 33 #[pt g] w fun e_ w' => e_ = .returned (.tuple #[]) ∧ Own N w' [CliO g (pt gp) 1 100 1 [] [awR1] [], Obj3 138 gp 1 9 [awR1]] ∧ KeepS N w w' := CResume h (by decide) aw_bnd aw_num
end
theorem awake17 (w : World) (HT : Aside0 (Tab w)) :
  Calls Tryd.prog 16 #[] w fun e_ w' => e_ = .returned (.bool true) ∧ Below w.heap.size w w' := by
 obtain ⟨N, hN⟩ : ∃ N : Nat → Prop, N = fun k => k < w.heap.size := ⟨_, rfl⟩
 have HN := Aside0.mk hN
 have HT_0 : Aside0 (TabN N w) := ⟨by rw [hN]; exact World.block_lt_of_cell? w _ HT.out.1, HT.out⟩
 have O0 : Aside0 (Own N w []) := ⟨Own.start_ (fun k hk => by rw [hN] at hk; exact hk)⟩
 have K0 : Aside0 (KeepS N w w) := ⟨KeepS.refl _ _⟩
 clear hN HT
 go_enter Tryd.func16, Tryd.ntmps16
 go_wp2_with (first | ((with_reducible refine gC 52 rfl ?_); refine gP (some 14) Tryd.func52 #[.int .i64 1, .int .i64 9] ?_; obtain ⟨N_, on_, nn_, rr_, bb_⟩ := O0.out.frame0; refine (aw_new on_).mono ?_; rintro e_ w1 ⟨gp, rfl, oo_, kk_⟩; obtain ⟨o_, k_⟩ := bb_ _ _ kk_ oo_; refine ⟨_, rfl, ?_⟩; obtain ⟨O1, K1⟩ := ok_ K0 o_ k_; have HT_1 := Aside0.mk (TabN.keep HT_0.out k_); clear O0 K0 HT_0 o_ k_ oo_ kk_ on_ nn_ rr_ bb_) | ((with_reducible refine gC 53 rfl ?_); refine gP (some 18) Tryd.func53 #[pt gp, .int .i64 1, .int .i64 100, .int .i64 1] ?_; obtain ⟨N_, on_, nn_, rr_, bb_⟩ := O1.out.frame1 (i := 0) rfl; refine (aw_cnew on_).mono ?_; rintro e_ w2 ⟨g, rfl, oo_, kk_⟩; obtain ⟨o_, k_⟩ := bb_ _ _ _ kk_ oo_; refine ⟨_, rfl, ?_⟩; obtain ⟨O2, K2⟩ := ok_ K1 o_ k_; have HT_2 := Aside0.mk (TabN.keep HT_1.out k_); clear O1 K1 HT_1 o_ k_ oo_ kk_ on_ nn_ rr_ bb_) | ((with_reducible refine gC 56 rfl ?_); refine gP (some 22) Tryd.func56 #[.int .i64 1] ?_; refine (chapbooklaw17_add.calls 1 _ _ _ _ _ (aw_add1 1)).mono ?_; rintro e_ w3 ⟨rfl, hb_⟩; refine ⟨_, rfl, ?_⟩; have o_ := O2.out.below hb_; have k_ := KeepS.of_below (N := N) hb_; obtain ⟨O3, K3⟩ := ok_ K2 o_ k_; have HT_3 := Aside0.mk (TabN.keep HT_2.out k_); clear O2 K2 HT_2 o_ k_ hb_) | ((with_reducible refine gC 30 rfl ?_); refine gP (some 23) Tryd.func30 #[pt g, .agg #[.string ⟨#[97]⟩, .int .i64 3, .int .i64 1, .string ⟨#[]⟩]] ?_; obtain ⟨N_, on_, nn_, rr_, bb_⟩ := O3.out.frame1 (i := 1) rfl; refine (aw_upd 1 aw_updE on_ (TabN.mono HT_3.out nn_)).mono ?_; rintro e_ w4 ⟨rfl, oo_, kk_⟩; obtain ⟨o_, k_⟩ := bb_ _ _ _ kk_ oo_; refine ⟨_, rfl, ?_⟩; obtain ⟨O4, K4⟩ := ok_ K3 o_ k_; have HT_4 := Aside0.mk (TabN.keep HT_3.out k_); clear O3 K3 HT_3 o_ k_ oo_ kk_ on_ nn_ rr_ bb_) | ((with_reducible refine gC 31 rfl ?_); refine gP (some 26) Tryd.func31 #[pt g] ?_; obtain ⟨N_, on_, nn_, rr_, bb_⟩ := O4.out.frameL [1, 0] (by decide) (by simp); refine (aw_p1 on_).mono ?_; rintro e_ w5 ⟨A1, c1, rfl, oo_, kk_⟩; obtain ⟨o_, k_⟩ := bb_ _ [CliO g (pt gp) 1 100 1 [] [awR1] [], Obj3 138 gp 1 9 [awR1]] [nrow kU7 tU7 (.slice A1 1 c1) [upA 1]] rfl kk_ oo_; refine ⟨_, rfl, ?_⟩; obtain ⟨O5, K5⟩ := ok_ K4 o_ k_; have HT_5 := Aside0.mk (TabN.keep HT_4.out k_); clear O4 K4 HT_4 o_ k_ oo_ kk_ on_ nn_ rr_ bb_) | ((with_reducible refine gD 4 rfl ?_); refine bP 4 #[.int .i64 0, .int .i64 0, .slice none 0 0] 35 O5.out ?_; intro g4 w6 o_ k_; obtain ⟨O6, K6⟩ := ok_ K5 o_ k_; have HT_6 := Aside0.mk (TabN.keep HT_5.out k_); clear O5 K5 HT_5 o_ k_; have a3 := k3_ O6 3) | ((with_reducible refine gT 35 4 rfl ?_); refine wS 3 0 [.int .i64 1, .int .i64 1, .slice A1 1 c1] O6 ?_; intro w7 o_ k_; obtain ⟨O7, K7⟩ := ok_ K6 o_ k_; have HT_7 := Aside0.mk (TabN.keep HT_6.out k_); clear a3 O6 K6 HT_6 o_ k_; have a3 := k3_ O7 3) | ((with_reducible refine gC 31 rfl ?_); refine gP (some 31) Tryd.func31 #[pt g] ?_; obtain ⟨N_, on_, nn_, rr_, bb_⟩ := O7.out.frameL [1, 0] (by decide) (by simp); refine (aw_p2 on_).mono ?_; rintro e_ w8 ⟨A2, c2, rfl, oo_, kk_⟩; obtain ⟨o_, k_⟩ := bb_ _ [CliO g (pt gp) 1 100 1 [] [awR1] [], Obj3 138 gp 1 9 [awR1]] [nrow kU7 tU7 (.slice A2 0 c2) []] rfl kk_ oo_; refine ⟨_, rfl, ?_⟩; obtain ⟨O8, K8⟩ := ok_ K7 o_ k_; have HT_8 := Aside0.mk (TabN.keep HT_7.out k_); clear a3 O7 K7 HT_7 o_ k_ oo_ kk_ on_ nn_ rr_ bb_; have a3 := k3_ O8 3) | ((with_reducible refine gD 6 rfl ?_); refine bP 6 #[.int .i64 0, .int .i64 0, .slice none 0 0] 35 O8.out ?_; intro g6 w9 o_ k_; obtain ⟨O9, K9⟩ := ok_ K8 o_ k_; have HT_9 := Aside0.mk (TabN.keep HT_8.out k_); clear a3 O8 K8 HT_8 o_ k_; have a3 := k3_ O9 3; have a5 := k3_ O9 5) | ((with_reducible refine gT 35 6 rfl ?_); refine wS 5 0 [.int .i64 0, .int .i64 0, .slice A2 0 c2] O9 ?_; intro w10 o_ k_; obtain ⟨O10, K10⟩ := ok_ K9 o_ k_; have HT_10 := Aside0.mk (TabN.keep HT_9.out k_); clear a3 a5 O9 K9 HT_9 o_ k_; have a3 := k3_ O10 3; have a5 := k3_ O10 5) | ((with_reducible refine gC 56 rfl ?_); refine gP (some 35) Tryd.func56 #[.int .i64 3] ?_; refine (chapbooklaw17_add.calls 3 _ _ _ _ _ (aw_add1 3)).mono ?_; rintro e_ w11 ⟨rfl, hb_⟩; refine ⟨_, rfl, ?_⟩; have o_ := O10.out.below hb_; have k_ := KeepS.of_below (N := N) hb_; obtain ⟨O11, K11⟩ := ok_ K10 o_ k_; have HT_11 := Aside0.mk (TabN.keep HT_10.out k_); clear a3 a5 O10 K10 HT_10 o_ k_ hb_; have a3 := k3_ O11 3; have a5 := k3_ O11 5) | ((with_reducible refine gC 30 rfl ?_); refine gP (some 36) Tryd.func30 #[pt g, .agg #[.string ⟨#[97]⟩, .int .i64 3, .int .i64 3, .string ⟨#[]⟩]] ?_; obtain ⟨N_, on_, nn_, rr_, bb_⟩ := O11.out.frame1 (i := 1) rfl; refine (aw_upd 3 aw_updE3 on_ (TabN.mono HT_11.out nn_)).mono ?_; rintro e_ w12 ⟨rfl, oo_, kk_⟩; obtain ⟨o_, k_⟩ := bb_ _ _ _ kk_ oo_; refine ⟨_, rfl, ?_⟩; obtain ⟨O12, K12⟩ := ok_ K11 o_ k_; have HT_12 := Aside0.mk (TabN.keep HT_11.out k_); clear a3 a5 O11 K11 HT_11 o_ k_ oo_ kk_ on_ nn_ rr_ bb_; have a3 := k3_ O12 3; have a5 := k3_ O12 5) | ((with_reducible refine gC 31 rfl ?_); refine gP (some 39) Tryd.func31 #[pt g] ?_; obtain ⟨N_, on_, nn_, rr_, bb_⟩ := O12.out.frameL [1, 0] (by decide) (by simp); refine (aw_p3 on_).mono ?_; rintro e_ w13 ⟨A3, c3, rfl, oo_, kk_⟩; obtain ⟨o_, k_⟩ := bb_ _ [CliO g (pt gp) 1 100 1 [] [awR1] [upA 3], Obj3 138 gp 1 9 [awR1]] [nrow kU7 tU7 (.slice A3 0 c3) []] rfl kk_ oo_; refine ⟨_, rfl, ?_⟩; obtain ⟨O13, K13⟩ := ok_ K12 o_ k_; have HT_13 := Aside0.mk (TabN.keep HT_12.out k_); clear a3 a5 O12 K12 HT_12 o_ k_ oo_ kk_ on_ nn_ rr_ bb_; have a3 := k3_ O13 3; have a5 := k3_ O13 5) | ((with_reducible refine gD 8 rfl ?_); refine bP 8 #[.int .i64 0, .int .i64 0, .slice none 0 0] 35 O13.out ?_; intro g8 w14 o_ k_; obtain ⟨O14, K14⟩ := ok_ K13 o_ k_; have HT_14 := Aside0.mk (TabN.keep HT_13.out k_); clear a3 a5 O13 K13 HT_13 o_ k_; have a3 := k3_ O14 3; have a5 := k3_ O14 5; have a7 := k3_ O14 7) | ((with_reducible refine gT 35 8 rfl ?_); refine wS 7 0 [.int .i64 0, .int .i64 0, .slice A3 0 c3] O14 ?_; intro w15 o_ k_; obtain ⟨O15, K15⟩ := ok_ K14 o_ k_; have HT_15 := Aside0.mk (TabN.keep HT_14.out k_); clear a3 a5 a7 O14 K14 HT_14 o_ k_; have a3 := k3_ O15 3; have a5 := k3_ O15 5; have a7 := k3_ O15 7) | ((with_reducible refine gC 56 rfl ?_); refine gP (some 43) Tryd.func56 #[.int .i64 5] ?_; refine (chapbooklaw17_add.calls 5 _ _ _ _ _ (aw_add1 5)).mono ?_; rintro e_ w16 ⟨rfl, hb_⟩; refine ⟨_, rfl, ?_⟩; have o_ := O15.out.below hb_; have k_ := KeepS.of_below (N := N) hb_; obtain ⟨O16, K16⟩ := ok_ K15 o_ k_; have HT_16 := Aside0.mk (TabN.keep HT_15.out k_); clear a3 a5 a7 O15 K15 HT_15 o_ k_ hb_; have a3 := k3_ O16 3; have a5 := k3_ O16 5; have a7 := k3_ O16 7) | ((with_reducible refine gD 44 rfl ?_); refine own_lit kU7 (N := N) (e := 32) (xs := [upA 5]) (inner := [.string ⟨#[97]⟩, .int .i64 3, .int .i64 5, .string ⟨#[]⟩]) rfl (D := 44) rfl gs_ ?hp (by show 1 ≤ 9223372036854775807; decide) O16.out ?_; (case hp => exact repU1A _ 5); intro B1 d1 w17 o_ k_; obtain ⟨O17, K17⟩ := ok_ K16 o_ k_; have HT_17 := Aside0.mk (TabN.keep HT_16.out k_); clear a3 a5 a7 O16 K16 HT_16 o_ k_; have a3 := k3_ O17 3; have a5 := k3_ O17 5; have a7 := k3_ O17 7) | ((with_reducible refine gC 32 rfl ?_); refine gP (some 46) Tryd.func32 #[pt g, .agg #[.int .i64 2, .int .i64 1, .slice B1 1 d1]] ?_; obtain ⟨N_, on_, nn_, rr_, bb_⟩ := O17.out.frame1 (i := 1) rfl; have hr_ := Kd.N_F (rr_ 8 _ (by decide) rfl); have hc_ := (O17.out.nreads (i := 8) rfl).2.1; refine (aw_t1 B1 d1 on_ hr_ hc_).mono ?_; rintro e_ w18 ⟨rfl, oo_, kk_⟩; obtain ⟨o_, k_⟩ := bb_ _ _ _ kk_ oo_; refine ⟨_, rfl, ?_⟩; obtain ⟨O18, K18⟩ := ok_ K17 o_ k_; have HT_18 := Aside0.mk (TabN.keep HT_17.out k_); clear a3 a5 a7 O17 K17 HT_17 o_ k_ oo_ kk_ on_ nn_ rr_ bb_ hr_ hc_; have a3 := k3_ O18 3; have a5 := k3_ O18 5; have a7 := k3_ O18 7) | ((with_reducible refine gC 25 rfl ?_); refine gP (some 48) Tryd.func25 #[pt g, .string ⟨#[97]⟩] ?_; obtain ⟨N_, on_, nn_, rr_, bb_⟩ := O18.out.frame1 (i := 1) rfl; refine (aw_read on_).mono ?_; rintro e_ w19 ⟨rfl, oo_, kk_⟩; obtain ⟨o_, k_⟩ := bb_ _ _ _ kk_ oo_; refine ⟨_, rfl, ?_⟩; obtain ⟨O19, K19⟩ := ok_ K18 o_ k_; have HT_19 := Aside0.mk (TabN.keep HT_18.out k_); clear a3 a5 a7 O18 K18 HT_18 o_ k_ oo_ kk_ on_ nn_ rr_ bb_; have a3 := k3_ O19 3; have a5 := k3_ O19 5; have a7 := k3_ O19 7) | ((with_reducible refine gD 11 rfl ?_); refine bP 11 #[.int .i64 0, .int .i64 0, .string ⟨#[]⟩] 49 O19.out ?_; intro g11 w20 o_ k_; obtain ⟨O20, K20⟩ := ok_ K19 o_ k_; have HT_20 := Aside0.mk (TabN.keep HT_19.out k_); clear a3 a5 a7 O19 K19 HT_19 o_ k_; have a3 := k3_ O20 3; have a5 := k3_ O20 5; have a7 := k3_ O20 7; have a9 := k3_ O20 9) | ((with_reducible refine gT 49 11 rfl ?_); refine wS 9 0 [.int .i64 1, .int .i64 9, .string ⟨#[]⟩] O20 ?_; intro w21 o_ k_; obtain ⟨O21, K21⟩ := ok_ K20 o_ k_; have HT_21 := Aside0.mk (TabN.keep HT_20.out k_); clear a3 a5 a7 a9 O20 K20 HT_20 o_ k_; have a3 := k3_ O21 3; have a5 := k3_ O21 5; have a7 := k3_ O21 7; have a9 := k3_ O21 9) | ((with_reducible refine gC 32 rfl ?_); refine gP (some 51) Tryd.func32 #[pt g, .agg #[.int .i64 1, .int .i64 1, .slice A1 1 c1]] ?_; obtain ⟨N_, on_, nn_, rr_, bb_⟩ := O21.out.frame1 (i := 1) rfl; have hr_ := Kd.N_F (rr_ 2 _ (by decide) rfl); have hc_ := (O21.out.nreads (i := 2) rfl).2.1; refine (aw_t2 A1 c1 on_ hr_ hc_).mono ?_; rintro e_ w22 ⟨rfl, oo_, kk_⟩; obtain ⟨o_, k_⟩ := bb_ _ _ _ kk_ oo_; refine ⟨_, rfl, ?_⟩; obtain ⟨O22, K22⟩ := ok_ K21 o_ k_; have HT_22 := Aside0.mk (TabN.keep HT_21.out k_); clear a3 a5 a7 a9 O21 K21 HT_21 o_ k_ oo_ kk_ on_ nn_ rr_ bb_ hr_ hc_; have a3 := k3_ O22 3; have a5 := k3_ O22 5; have a7 := k3_ O22 7; have a9 := k3_ O22 9) | ((with_reducible refine gC 32 rfl ?_); refine gP (some 54) Tryd.func32 #[pt g, .agg #[.int .i64 1, .int .i64 1, .slice A1 1 c1]] ?_; obtain ⟨N_, on_, nn_, rr_, bb_⟩ := O22.out.frame1 (i := 1) rfl; have hr_ := Kd.N_F (rr_ 2 _ (by decide) rfl); have hc_ := (O22.out.nreads (i := 2) rfl).2.1; refine (aw_t3 A1 c1 on_ hr_ hc_).mono ?_; rintro e_ w23 ⟨rfl, oo_, kk_⟩; obtain ⟨o_, k_⟩ := bb_ _ _ _ kk_ oo_; refine ⟨_, rfl, ?_⟩; obtain ⟨O23, K23⟩ := ok_ K22 o_ k_; have HT_23 := Aside0.mk (TabN.keep HT_22.out k_); clear a3 a5 a7 a9 O22 K22 HT_22 o_ k_ oo_ kk_ on_ nn_ rr_ bb_ hr_ hc_; have a3 := k3_ O23 3; have a5 := k3_ O23 5; have a7 := k3_ O23 7; have a9 := k3_ O23 9) | ((with_reducible refine gC 33 rfl ?_); refine gP (some 56) Tryd.func33 #[pt g] ?_; obtain ⟨N_, on_, nn_, rr_, bb_⟩ := O23.out.frameL [1, 0] (by decide) (by simp); refine (aw_res on_).mono ?_; rintro e_ w24 ⟨rfl, oo_, kk_⟩; obtain ⟨o_, k_⟩ := bb_ _ [CliO g (pt gp) 1 100 1 [] [awR1] [], Obj3 138 gp 1 9 [awR1]] [] rfl kk_ oo_; refine ⟨_, rfl, ?_⟩; obtain ⟨O24, K24⟩ := ok_ K23 o_ k_; have HT_24 := Aside0.mk (TabN.keep HT_23.out k_); clear a3 a5 a7 a9 O23 K23 HT_23 o_ k_ oo_ kk_ on_ nn_ rr_ bb_; have a3 := k3_ O24 3; have a5 := k3_ O24 5; have a7 := k3_ O24 7; have a9 := k3_ O24 9) | ((with_reducible refine gC 27 rfl ?_); refine gate_guard (by rfl) ?_; refine gP (some 90) Tryd.func27 #[pt g] ?_; obtain ⟨N_, on_, nn_, rr_, bb_⟩ := O24.out.frame1 (i := 1) rfl; refine (aw_len on_).mono ?_; rintro e_ w25 ⟨rfl, oo_, kk_⟩; obtain ⟨o_, k_⟩ := bb_ _ _ _ kk_ oo_; refine ⟨_, rfl, ?_⟩; obtain ⟨O25, K25⟩ := ok_ K24 o_ k_; have HT_25 := Aside0.mk (TabN.keep HT_24.out k_); clear a3 a5 a7 a9 O24 K24 HT_24 o_ k_ oo_ kk_ on_ nn_ rr_ bb_; have a3 := k3_ O25 3; have a5 := k3_ O25 5; have a7 := k3_ O25 7; have a9 := k3_ O25 9) | ((with_reducible refine gC 24 rfl ?_); refine gate_guard (by rfl) ?_; refine gP (some 95) Tryd.func24 #[pt g] ?_; obtain ⟨N_, on_, nn_, rr_, bb_⟩ := O25.out.frame1 (i := 1) rfl; refine (aw_conf on_).mono ?_; rintro e_ w26 ⟨rfl, oo_, kk_⟩; obtain ⟨o_, k_⟩ := bb_ _ _ _ kk_ oo_; refine ⟨_, rfl, ?_⟩; obtain ⟨O26, K26⟩ := ok_ K25 o_ k_; have HT_26 := Aside0.mk (TabN.keep HT_25.out k_); clear a3 a5 a7 a9 O25 K25 HT_25 o_ k_ oo_ kk_ on_ nn_ rr_ bb_; have a3 := k3_ O26 3; have a5 := k3_ O26 5; have a7 := k3_ O26 7; have a9 := k3_ O26 9) | ((with_reducible refine gC 21 rfl ?_); refine gate_guard (by rfl) ?_; refine gP (some 100) Tryd.func21 #[pt g] ?_; obtain ⟨N_, on_, nn_, rr_, bb_⟩ := O26.out.frame1 (i := 1) rfl; refine (aw_pend on_).mono ?_; rintro e_ w27 ⟨A5, c5, rfl, oo_, kk_⟩; obtain ⟨o_, k_⟩ := bb_ _ _ _ kk_ oo_; refine ⟨_, rfl, ?_⟩; obtain ⟨O27, K27⟩ := ok_ K26 o_ k_; have HT_27 := Aside0.mk (TabN.keep HT_26.out k_); clear a3 a5 a7 a9 O26 K26 HT_26 o_ k_ oo_ kk_ on_ nn_ rr_ bb_; have a3 := k3_ O27 3; have a5 := k3_ O27 5; have a7 := k3_ O27 7; have a9 := k3_ O27 9) | ((with_reducible refine gC 20 rfl ?_); refine gate_guard (by rfl) ?_; refine gP (some 106) Tryd.func20 #[pt g] ?_; obtain ⟨N_, on_, nn_, rr_, bb_⟩ := O27.out.frame1 (i := 1) rfl; refine (aw_known on_).mono ?_; rintro e_ w28 ⟨A6, c6, rfl, oo_, kk_⟩; obtain ⟨o_, k_⟩ := bb_ _ _ _ kk_ oo_; refine ⟨_, rfl, ?_⟩; obtain ⟨O28, K28⟩ := ok_ K27 o_ k_; have HT_28 := Aside0.mk (TabN.keep HT_27.out k_); clear a3 a5 a7 a9 O27 K27 HT_27 o_ k_ oo_ kk_ on_ nn_ rr_ bb_; have a3 := k3_ O28 3; have a5 := k3_ O28 5; have a7 := k3_ O28 7; have a9 := k3_ O28 9) | ((with_reducible refine gC 23 rfl ?_); refine gate_guard (by rfl) ?_; refine gP (some 112) Tryd.func23 #[pt g] ?_; obtain ⟨N_, on_, nn_, rr_, bb_⟩ := O28.out.frame1 (i := 1) rfl; refine (aw_open on_).mono ?_; rintro e_ w29 ⟨A7, c7, rfl, oo_, kk_⟩; obtain ⟨o_, k_⟩ := bb_ _ _ _ kk_ oo_; refine ⟨_, rfl, ?_⟩; obtain ⟨O29, K29⟩ := ok_ K28 o_ k_; have HT_29 := Aside0.mk (TabN.keep HT_28.out k_); clear a3 a5 a7 a9 O28 K28 HT_28 o_ k_ oo_ kk_ on_ nn_ rr_ bb_; have a3 := k3_ O29 3; have a5 := k3_ O29 5; have a7 := k3_ O29 7; have a9 := k3_ O29 9))
 go_ret
 exact ⟨rfl, kw_ K29 HN⟩
end Go.Proofs.YtjdenpmaianmfaaDoor.J
namespace Go.Proofs.YtjdenpmaianmfaaDoor.J
set_option linter.unusedSimpArgs false
set_option linter.unusedVariables false
open Go Go.RowKit Go.Proofs.YtjdenpmaianmfaaDoorW.PrintWords Go.Proofs.YtjdenpmaianmfaaDoorW.PrintLast Go.Proofs.YtjdenpmaianmfaaDoorW.PrintMore Go.Proofs.YtjdenpmaianmfaaDoor.Q Go.Proofs.YtjdenpmaianmfaaDoor.Sep Go.Proofs.YtjdenpmaianmfaaDoor.Pure
abbrev kA7 := k37
abbrev rdA (xs : List Act7) (i : Int) : Act7 := rd_T37 xs i
theorem heapA7 : Kd.Heap kA7 := Kd.heap_iso _ (Kd.heap_pair (Kd.heap_int _) (Kd.heap_pair heapU7 heapR7))
theorem at_A {w : World} {ok : Nat → Prop} {A : Option Addr} {n : Nat} {xs : List Act7} (h : Kd.F kA7 w ok A n xs) (i : Int) (h0 : 0 ≤ i) (h1 : i < n) : ∃ ad A7 c7, A = some ad ∧ w.cell? (ad.add (i.toNat * 8)) = some (.int .i64 (rdA xs i).f0) ∧ w.cell? ⟨(ad.add (i.toNat * 8)).block, (ad.add (i.toNat * 8)).off + 1, none⟩ = some (.string (rdA xs i).f1.f0) ∧ w.cell? ⟨(ad.add (i.toNat * 8)).block, (ad.add (i.toNat * 8)).off + 2, none⟩ = some (.int .i64 (rdA xs i).f1.f1) ∧ w.cell? ⟨(ad.add (i.toNat * 8)).block, (ad.add (i.toNat * 8)).off + 3, none⟩ = some (.int .i64 (rdA xs i).f1.f2) ∧ w.cell? ⟨(ad.add (i.toNat * 8)).block, (ad.add (i.toNat * 8)).off + 4, none⟩ = some (.string (rdA xs i).f1.f3) ∧ w.cell? ⟨(ad.add (i.toNat * 8)).block, (ad.add (i.toNat * 8)).off + 5, none⟩ = some (.int .i64 (rdA xs i).f2.f0) ∧ w.cell? ⟨(ad.add (i.toNat * 8)).block, (ad.add (i.toNat * 8)).off + 6, none⟩ = some (.int .i64 (rdA xs i).f2.f1) ∧ w.cell? ⟨(ad.add (i.toNat * 8)).block, (ad.add (i.toNat * 8)).off + 7, none⟩ = some (.slice A7 (rdA xs i).f2.f2.length c7) ∧ (rdA xs i).f2.f2.length ≤ c7 ∧ Kd.F kU7 w ok A7 (rdA xs i).f2.f2.length (rdA xs i).f2.f2 := by
 obtain ⟨ad, c, e, _, hK, hc0, _⟩ := Kd.F_get h z37 i h0 h1
 have hc : ∀ j u, c[j]? = some u → w.cell? (ad.add (i.toNat * 8 + j)) = some u := hc0
 obtain ⟨A7, c7, rfl, l7, g7⟩ := k37_open (Kd.FK_now hK)
 refine ⟨ad, A7, c7, e, hc 0 _ rfl, by rw [← add_field _ _ 1 (by omega)]; exact hc 1 _ rfl, by rw [← add_field _ _ 2 (by omega)]; exact hc 2 _ rfl, by rw [← add_field _ _ 3 (by omega)]; exact hc 3 _ rfl, by rw [← add_field _ _ 4 (by omega)]; exact hc 4 _ rfl, by rw [← add_field _ _ 5 (by omega)]; exact hc 5 _ rfl, by rw [← add_field _ _ 6 (by omega)]; exact hc 6 _ rfl, by rw [← add_field _ _ 7 (by omega)]; exact hc 7 _ rfl, l7, fun W' hW => ?_⟩
 obtain ⟨A3, c3, e3, _, g3⟩ := k37_open (hK W' hW)
 simp only [List.cons.injEq, Value.slice.injEq, and_true, true_and] at e3
 rw [e3.1]
 exact g3
section
variable {N N2 : Nat → Prop} {w : World} {l : List HP} {i j n m c d : Nat} {A B : Option Addr} {rows : List (List Value)} {X : List Rnd7}
theorem same_upd {U : List Upd7} (o p : Int) (h : Own N w l) (hi : l[i]? = some (nrow kU7 tU7 (.slice A n c) U)) (hj : l[j]? = some (nrow kU7 tU7 (.slice B m d) U)) (hx : U.length ≤ 1000000) :
  Calls Tryd.prog 22 #[.agg #[.int .i64 o, .int .i64 p, .slice A n c], .agg #[.int .i64 o, .int .i64 p, .slice B m d]] w fun e w' => e = .returned (.bool true) ∧ Below w.heap.size w w' := by
 obtain ⟨a1, a2, a3⟩ := h.nreads hi
 obtain ⟨b1, b2, b3⟩ := h.nreads hj
 subst a1
 subst b1
 exact chapbookref07_Same.calls (U.length + 2) _ _ _ _ U _ _ _ _ U true _ a3 a2 b3 b2 (psame _ _ _ U (by omega) (Nat.le_refl _))
end
section
variable {N : Nat → Prop} {w : World} {g gj gd : Nat} {jp : Value} {jo jm o mtu push : Int} {rJ rK rP : List (List Value)} {L K P : List Rnd7} {U : List Upd7}
theorem ORead_e (V : Val) (key : ByteArray) (hV : stateOf U (K ++ P) key = V) (hs : key.size ≤ maxLen) (h : Own N w [CliO g jp o mtu push K P U]) (hL : K.length + P.length ≤ 1000000) (hb : (flatR (K ++ P)).length + U.length < 1000000) :
  Calls Tryd.prog 25 #[pt g, .string key] w fun e_ w' => e_ = .returned (valV V) ∧ Own N w' [CliO g jp o mtu push K P U] ∧ KeepS N w w' := by
 subst hV
 exact ORead key hs h hL hb
theorem OOpen_n (h : Own N w [CliO g jp o mtu push K P U]) (hL : U.length ≤ 1000000) :
  Calls Tryd.prog 23 #[pt g] w fun e_ w' => ∃ A1 c1, e_ = .returned (.slice A1 U.length c1) ∧ Own N w' [CliO g jp o mtu push K P U, nrow kU7 tU7 (.slice A1 U.length c1) U] ∧ KeepS N w w' := OOpen h hL
end
theorem OPending_n {N : Nat → Prop} {w : World} {g : Nat} {jp : Value} {o mtu push : Int} {K P : List Rnd7} {U : List Upd7} (h : Own N w [CliO g jp o mtu push K P U]) (hL : P.length ≤ 1000000) (HB : Aside0 (bnd P)) :
  Calls Tryd.prog 21 #[pt g] w fun e_ w' => ∃ A1 c1, e_ = .returned (.slice A1 P.length c1) ∧ Own N w' [CliO g jp o mtu push K P U, nrow kR7 tR7 (.slice A1 P.length c1) P] ∧ KeepS N w w' :=
 (OPending h hL HB).mono fun e_ w' ⟨A1, c1, a, b, k⟩ => ⟨A1, c1, a, b.row_nrow (i := 1) rfl, k⟩
theorem keep3 {N : Nat → Prop} {w w' : World} {ad p : Addr} {n c : Nat} {v : Value} {P : List Rnd7} (h : (nrow kR7 tR7 (.slice (some ad) n c) P).P N w) (k : KeepS N w w') (hc : w.cell? p = some v) (hp : p.block = ad.block := by rfl) : w'.cell? p = some v := by
 have hn : N p.block := by rw [hp]; exact h.1 ad.block rfl
 have e := k.block p.block (World.block_lt_of_cell? w p hc) hn
 unfold World.cell? at hc ⊢
 rw [e]
 exact hc
theorem jm_pos (x : Int) : 0 ≤ mn (mx x 1) 1099511627776 := by unfold mn mx; (repeat' split) <;> omega
end Go.Proofs.YtjdenpmaianmfaaDoor.J
namespace Go.Proofs.YtjdenpmaianmfaaDoor.J
set_option linter.unusedSimpArgs false
set_option linter.unusedVariables false
open Go Go.RowKit Go.Proofs.YtjdenpmaianmfaaDoorW.PrintWords Go.Proofs.YtjdenpmaianmfaaDoorW.PrintLast Go.Proofs.YtjdenpmaianmfaaDoorW.PrintMore Go.Proofs.YtjdenpmaianmfaaDoor.Q Go.Proofs.YtjdenpmaianmfaaDoor.Sep Go.Proofs.YtjdenpmaianmfaaDoor.Pure
theorem skip17 {P : Program} {oi : Oper} {N : Option Tmp} {a : Act} {w : World} {K : Act → World → Prop} {Q : Exit → Act → World → Prop} {ops : Array Oper} (hw : Region.wanted oi (yielded ops a.tmps) = false) (h : K (a.put N undef) w) : if Region.wanted oi (yielded ops a.tmps) = true then Oper.wp P oi a w K Q else K (a.put N undef) w := by
 rw [if_neg (by rw [hw]; decide)]
 exact h
theorem add_blk (a : Addr) (n : Nat) : (a.add n).block = a.block := by unfold Addr.add; split <;> rfl
theorem seen_push (K P : List Rnd7) (U : List Upd7) (o n : Int) : stateOf [] (K ++ (P ++ [(⟨o, n, U⟩ : Rnd7)])) = stateOf U (K ++ P) := by
 unfold stateOf
 have e : flatR (K ++ (P ++ [(⟨o, n, U⟩ : Rnd7)])) = flatR (K ++ P) ++ U := by
  rw [← List.append_assoc, flatR_app]
  congr 1
  unfold flatR
  rw [List.flatMap_cons, List.flatMap_nil, List.append_nil]
 rw [e, doL_app]
 rfl
theorem rd_last (P : List Rnd7) (r : Rnd7) : rd_T35 (P ++ [r]) P.length = r := by
 show (P ++ [r]).getD (P.length : Int).toNat _ = r
 rw [List.getD_eq_getElem?_getD, Int.toNat_natCast, List.getElem?_append_right (Nat.le_refl _), Nat.sub_self]
 rfl
theorem cells_of {w : World} {A : Option Addr} {n : Nat} {P : List Rnd7} (h : Kd.C kR7 w A n P) (i : Int) (h0 : 0 ≤ i) (h1 : i < n) : ∃ ad B c, A = some ad ∧ w.cell? (ad.add (i.toNat * 3)) = some (.int .i64 (rd_T35 P i).f0) ∧ w.cell? ⟨(ad.add (i.toNat * 3)).block, (ad.add (i.toNat * 3)).off + 1, none⟩ = some (.int .i64 (rd_T35 P i).f1) ∧ w.cell? ⟨(ad.add (i.toNat * 3)).block, (ad.add (i.toNat * 3)).off + 2, none⟩ = some (.slice B (rd_T35 P i).f2.length c) ∧ (rd_T35 P i).f2.length ≤ c ∧ Kd.C kU7 w B (rd_T35 P i).f2.length (rd_T35 P i).f2 := by
 obtain ⟨ad, c, e, _, hK, hc0⟩ := ReadsRow.get_ h z35 i h0 h1
 have hc : ∀ j u, c[j]? = some u → w.cell? (ad.add (i.toNat * 3 + j)) = some u := hc0
 obtain ⟨A2, c2, rfl, l2, g2⟩ := k35_open hK
 exact ⟨ad, A2, c2, e, hc 0 _ rfl, by rw [← add_field _ _ 1 (by omega)]; exact hc 1 _ rfl, by rw [← add_field _ _ 2 (by omega)]; exact hc 2 _ rfl, l2, g2⟩
theorem in_C {w : World} {ad : Addr} {n m c : Nat} {B : Option Addr} {P : List Rnd7} (h : Kd.C kR7 w (some ad) n P) (i : Int) (h0 : 0 ≤ i) (h1 : i < n) (hc : w.cell? ⟨(ad.add (i.toNat * 3)).block, (ad.add (i.toNat * 3)).off + 2, none⟩ = some (.slice B m c)) : Kd.C kU7 w B (rd_T35 P i).f2.length (rd_T35 P i).f2 := by
 obtain ⟨ad', A2, c2, e, _, _, x2, _, g⟩ := cells_of h i h0 h1
 cases e
 rw [hc] at x2
 injection x2 with x2
 injection x2 with x2 _ _
 subst x2
 exact g
theorem keepB {w w' : World} {p : Addr} {v : Value} (hb : Below w.heap.size w w') (h : w.cell? p = some v) : w'.cell? p = some v := (hb.cell (World.block_lt_of_cell? w _ h)).trans h
section
variable {N : Nat → Prop} {w : World} {g gj gd gp : Nat} {jm o mtu push x : Int} {rK : List (List Value)} {L K P Kd' : List Rnd7} {U : List Upd7}
theorem Do_un (a : Act7) (B : Option Addr) (cb : Nat) (h : Own N w (Both g gp gj gd o jm mtu push K P U L [] rK [] [])) (hd : Led N w [] rK [] [] Kd' []) (hi : Inv o jm x K P L U) (hx : 0 ≤ x ∧ x ≤ 50) (hk : (Kd'.length : Int) ≤ x) (hr : Kd.F kU7 w N B a.f2.f2.length a.f2.f2) (hc : a.f2.f2.length ≤ cb) (h20 : a.f2.f2.length ≤ 20) (h1 : a.f0 ≠ 1) (h2 : a.f0 ≠ 2) :
  Calls Tryd.prog 18 #[.agg #[pt g, pt gd], actV a B cb] w fun e_ w' => ∃ (b : Bool) (K' P' L' : List Rnd7) (U' : List Upd7) (rK' : List (List Value)) (Kd2 : List Rnd7), e_ = .returned (.bool b) ∧ Stp o jm mtu push a K P L U K' P' L' U' ∧ (Kd2.length : Int) ≤ x + 1 ∧ (∀ (N0 : Nat → Prop) (w0 : World), Led N0 w0 [] rK [] [] Kd' [] → Kd.F kU7 w0 N0 B a.f2.f2.length a.f2.f2 → Led N0 w0 [] rK' [] [] Kd2 []) ∧ Own N w' (Both g gp gj gd o jm mtu push K' P' U' L' [] rK' [] []) ∧ KeepS N w w' := by
 obtain ⟨b1, b2, b3, b4, b5, b6⟩ := hi.sizes (by omega)
 obtain ⟨kd, ⟨key, c, n, s⟩, ⟨r0, r1, us⟩⟩ := a
 by_cases h3 : kd = 3
 ·subst h3
  refine (Do_3 key c n s r0 r1 B cb us h hd hr hc (by have := h20; simp only at this; omega) b1 (by simp; omega)).mono ?_
  rintro e_ w' ⟨rK', rP', e, hl, oo, kk⟩
  have hz : takeP o [] r0 r1 = [] := by unfold takeP; split <;> rfl
  have q := hl N w hd hr
  rw [hz] at q
  have e2 : rP' = [] := List.length_eq_zero_iff.1 q.p.1
  subst e2
  have hlen : (takeK o Kd' [] (⟨r0, r1, us⟩ : Rnd7)).length ≤ Kd'.length + 1 := (takeK_len o Kd' [] (⟨r0, r1, us⟩ : Rnd7)).2
  exact ⟨_, _, _, L, U, rK', takeK o Kd' [] (⟨r0, r1, us⟩ : Rnd7), e, .take rfl, by omega, fun N0 w0 d r => by have q := hl N0 w0 d r; rw [hz] at q; exact q, oo, kk⟩
 by_cases h4 : kd = 4
 ·subst h4
  exact (Do_4 key c n s r0 r1 B cb us h hd b3 (hi.f.bnd (by decide)) hi.n (by simp)).mono fun e_ w' ⟨e, hl, oo, kk⟩ => ⟨true, [], L, L, [], [], [], e, .resume rfl, by simp; omega, fun _ _ _ _ => ⟨Lead.none _ _, Lead.none _ _, Lead.none _ _⟩, oo, kk⟩
 by_cases h5 : kd = 5
 ·subst h5
  exact (Do_5n key c n s r0 r1 B cb us h rfl).mono fun e_ w' ⟨e, oo, kk⟩ => ⟨true, K, P, L, U, rK, Kd', e, .none, by omega, fun _ _ d _ => d, oo, kk⟩
 ·exact (Do_0 kd key c n s r0 r1 B cb us h h1 h2 h3 h4 h5).mono fun e_ w' ⟨e, oo, kk⟩ => ⟨true, K, P, L, U, rK, Kd', e, .none, by omega, fun _ _ d _ => d, oo, kk⟩
end
def CqI (N : Nat → Prop) (w : World) (n : Nat) (g gp gj gd : Nat) (o jm mtu push : Int) (R : List HP) (i : Value) (wr : World) : Prop :=
 ∃ (x : Int) (N1 : Nat → Prop) (K P L : List Rnd7) (U : List Upd7) (rK : List (List Value)) (Kd' : List Rnd7), 0 ≤ x ∧ x ≤ (n : Int) ∧ i = .int .i64 x ∧ Aside0 (Inv o jm x K P L U) ∧ Aside0 (∀ k, N k → N1 k) ∧ Aside0 (Led N1 wr [] rK [] [] Kd' []) ∧ Aside0 ((Kd'.length : Int) ≤ x) ∧ Aside0 (Own N1 wr (Both g gp gj gd o jm mtu push K P U L [] rK [] [] ++ R)) ∧ Aside0 (KeepS N w wr)
theorem OPending_m {N : Nat → Prop} {w : World} {g : Nat} {jp : Value} {o mtu push : Int} {K P : List Rnd7} {U : List Upd7} (n : Nat) (hn : P.length = n) (h : Own N w [CliO g jp o mtu push K P U]) (hL : P.length ≤ 1000000) (HB : Aside0 (bnd P)) :
  Calls Tryd.prog 21 #[pt g] w fun e_ w' => ∃ A1 c1, e_ = .returned (.slice A1 n c1) ∧ Own N w' [CliO g jp o mtu push K P U, nrow kR7 tR7 (.slice A1 n c1) P] ∧ KeepS N w w' := by
 subst hn
 exact OPending_n h hL HB
theorem OOpen_m {N : Nat → Prop} {w : World} {g : Nat} {jp : Value} {o mtu push : Int} {K P : List Rnd7} {U : List Upd7} (n : Nat) (hn : U.length = n) (h : Own N w [CliO g jp o mtu push K P U]) (hL : U.length ≤ 1000000) :
  Calls Tryd.prog 23 #[pt g] w fun e_ w' => ∃ A1 c1, e_ = .returned (.slice A1 n c1) ∧ Own N w' [CliO g jp o mtu push K P U, nrow kU7 tU7 (.slice A1 n c1) U] ∧ KeepS N w w' := by
 subst hn
 exact OOpen_n h hL
theorem CPush_z {N : Nat → Prop} {w : World} {g gp : Nat} {jo jm o mtu push : Int} {L K P : List Rnd7} {U : List Upd7} (nu : Nat) (n1 : Int) (P2 L2 : List Rnd7) (hE : pushE jo jm push L P U = 0) (hn : (L.length : Int) + 1 = n1) (hU : U.length = nu) (hP2 : P ++ [(⟨jo, n1, U⟩ : Rnd7)] = P2) (hL2 : L ++ [(⟨jo, n1, U⟩ : Rnd7)] = L2) (h : Own N w [CliO g (pt gp) o mtu push K P U, Obj3 138 gp jo jm L]) (hu : U.length ≤ 1000000) (hL : L.length ≤ 1000000) (hP : P.length ≤ 1000000) :
  Calls Tryd.prog 31 #[pt g] w fun e_ w' => ∃ A1 c1, e_ = .returned (.tuple #[.agg #[.int .i64 jo, .int .i64 n1, .slice A1 nu c1], .int .i64 0]) ∧ Own N w' [CliO g (pt gp) o mtu push K P2 [], Obj3 138 gp jo jm L2, nrow kU7 tU7 (.slice A1 nu c1) U] ∧ KeepS N w w' := by
 subst hU hP2 hL2
 exact CPush_y n1 hE hn h hu hL hP
theorem same_last {N : Nat → Prop} {w : World} {l : List HP} {j nu c d : Nat} {A B : Option Addr} {U : List Upd7} {o p : Int} (hnu : U.length = nu) (hC : Kd.C kU7 w A U.length U) (hc : U.length ≤ c) (h : Own N w l) (hj : l[j]? = some (nrow kU7 tU7 (.slice B nu d) U)) (hx : U.length ≤ 1000000) :
  Calls Tryd.prog 22 #[.agg #[.int .i64 o, .int .i64 p, .slice A nu c], .agg #[.int .i64 o, .int .i64 p, .slice B nu d]] w fun e w' => e = .returned (.bool true) ∧ Below w.heap.size w w' := by
 subst hnu
 obtain ⟨b1, b2, b3⟩ := h.nreads hj
 exact chapbookref07_Same.calls (U.length + 2) _ _ _ _ U _ _ _ _ U true _ hC hc b3 b2 (psame _ _ _ U (by omega) (Nat.le_refl _))
end Go.Proofs.YtjdenpmaianmfaaDoor.J
namespace Go.Proofs.YtjdenpmaianmfaaDoor.J
set_option maxHeartbeats 16000000
set_option maxRecDepth 100000
set_option linter.unusedSimpArgs false
set_option linter.unusedVariables false
open Go Go.RowKit Go.Proofs.YtjdenpmaianmfaaDoorW.PrintWords Go.Proofs.YtjdenpmaianmfaaDoorW.PrintLast Go.Proofs.YtjdenpmaianmfaaDoorW.PrintMore Go.Proofs.YtjdenpmaianmfaaDoor.Q Go.Proofs.YtjdenpmaianmfaaDoor.Sep Go.Proofs.YtjdenpmaianmfaaDoor.Pure
def chapbooklaw17_ClientPushes.f (a0_0 a0_1 a0_2 a0_3 : Int) (l1 : List Act7) (a2 : ByteArray) : Option Bool := some true
theorem chapbooklaw17_ClientPushes.calls (a0_0 : Int) (a0_1 : Int) (a0_2 : Int) (a0_3 : Int) (A1 : Option Addr) (c1 : Nat) (l1 : List Act7) (a2 : ByteArray) (r : Bool) (w : World) (HT : Aside0 (Tab w)) (hr1 : Kd.C k37 w A1 l1.length l1) (hc1 : l1.length ≤ c1) (h : chapbooklaw17_ClientPushes.f a0_0 a0_1 a0_2 a0_3 l1 a2 = some r) :
  Calls Tryd.prog 5 #[.agg #[.int .i64 a0_0, .int .i64 a0_1, .int .i64 a0_2, .int .i64 a0_3], .slice A1 l1.length c1, .string a2] w fun e_ w' => e_ = .returned (.bool r) ∧ Below w.heap.size w w' := by
 obtain rfl : true = r := Option.some.inj h
 obtain ⟨A0, eA_⟩ : ∃ A0, A0 = A1 := ⟨_, rfl⟩
 subst eA_
 obtain ⟨c0, ec_⟩ : ∃ c0, c0 = c1 := ⟨_, rfl⟩
 subst ec_
 obtain ⟨l0, el_⟩ : ∃ l0, l0 = l1 := ⟨_, rfl⟩
 subst el_
 have hr0 := hr1
 have hc0 := hc1
 clear hr1 hc1
 obtain ⟨N, hN⟩ : ∃ N : Nat → Prop, N = fun k => k < w.heap.size := ⟨_, rfl⟩
 have HN := Aside0.mk hN
 have HT_0 : Aside0 (TabN N w) := ⟨by rw [hN]; exact World.block_lt_of_cell? w _ HT.out.1, HT.out⟩
 have HAF_0 : Aside0 (Kd.F kA7 w N A0 l0.length l0) := ⟨by rw [hN]; exact Kd.C_F heapA7 hr0⟩
 have HR0 := Aside0.mk hr0
 have HC0 := Aside0.mk hc0
 have HT00 := HT_0
 have HAF0 := HAF_0
 have O0 : Aside0 (Own N w []) := ⟨Own.start_ (fun k hk => by rw [hN] at hk; exact hk)⟩
 have K0 : Aside0 (KeepS N w w) := ⟨KeepS.refl _ _⟩
 clear hN HT hr0 hc0
 obtain ⟨b, hgr, hgb⟩ := great17_ok l0
 have HGR := Aside0.mk hgr
 have HGB := Aside0.mk hgb
 clear hgr hgb h
 obtain ⟨jm, hjm⟩ : ∃ m, m = mn (mx a0_3 1) 1099511627776 := ⟨_, rfl⟩
 have HJM := Aside0.mk hjm
 have HJP : Aside0 (0 ≤ jm) := ⟨by rw [hjm]; exact jm_pos _⟩
 obtain ⟨pp, hpp⟩ : ∃ m, m = mn (mx a0_2 1) 16 := ⟨_, rfl⟩
 have HPP := Aside0.mk hpp
 clear hjm hpp
 go_enter Tryd.func5, Tryd.ntmps5
 cases b with
 | true =>
  go_wp2_with (first | ((with_reducible refine gD 3 rfl ?_); refine bP 3 #[.int .i64 a0_0, .int .i64 a0_1, .int .i64 a0_2, .int .i64 a0_3] 22 O0.out ?_; intro gx w1 o_ k_; obtain ⟨O1, K1⟩ := ok_ K0 o_ k_; have HT_1 := Aside0.mk (TabN.keep HT_0.out k_); have HAF_1 := Aside0.mk (keepF HAF_0.out k_); clear O0 K0 HT_0 HAF_0 o_ k_; have a0 := k4_ O1 0) | ((with_reducible refine gC 15 rfl ?_); refine gP (some 18) Tryd.func15 #[.agg #[.int .i64 a0_0, .int .i64 a0_1, .int .i64 a0_2, .int .i64 a0_3]] ?_; obtain ⟨N_, on_, nn_, rr_, bb_⟩ := O1.out.frame0; refine (Made a0_0 a0_1 a0_2 a0_3 on_).mono ?_; rintro e_ w2 ⟨g, gp, gj, gd, rfl, oo_, kk_⟩; rw [← HJM.out, ← HPP.out] at oo_; obtain ⟨o_, k_⟩ := bb_ _ _ kk_ oo_; refine ⟨_, rfl, ?_⟩; obtain ⟨O2, K2⟩ := ok_ K1 o_ k_; have HT_2 := Aside0.mk (TabN.keep HT_1.out k_); have HAF_2 := Aside0.mk (keepF HAF_1.out k_); clear a0 O1 K1 HT_1 HAF_1 o_ k_ oo_ kk_ on_ nn_ rr_ bb_; have a0 := k4_ O2 0) | ((with_reducible refine gD 7 rfl ?_); refine bP 7 #[.pointer none, .pointer none] 27 O2.out ?_; intro gk w3 o_ k_; obtain ⟨O3, K3⟩ := ok_ K2 o_ k_; have HT_3 := Aside0.mk (TabN.keep HT_2.out k_); have HAF_3 := Aside0.mk (keepF HAF_2.out k_); clear a0 O2 K2 HT_2 HAF_2 o_ k_; have a0 := k4_ O3 0; have a4 := k2_ O3 4) | ((with_reducible refine gT 27 7 rfl ?_); refine wS 4 0 [pt g, pt gd] O3 ?_; intro w4 o_ k_; obtain ⟨O4, K4⟩ := ok_ K3 o_ k_; have HT_4 := Aside0.mk (TabN.keep HT_3.out k_); have HAF_4 := Aside0.mk (keepF HAF_3.out k_); clear a0 a4 O3 K3 HT_3 HAF_3 o_ k_; have a0 := k4_ O4 0; have a4 := k2_ O4 4) | ((with_reducible refine gC 16 rfl ?_); refine gP (some 19) Tryd.func16 #[] ?_; refine (awake17 _ ⟨HT_4.out.2⟩).mono ?_; rintro e_ w5 ⟨rfl, hb_⟩; refine ⟨_, rfl, ?_⟩; have o_ := O4.out.below hb_; have k_ := KeepS.of_below (N := N) hb_; obtain ⟨O5, K5⟩ := ok_ K4 o_ k_; have HT_5 := Aside0.mk (TabN.keep HT_4.out k_); have HAF_5 := Aside0.mk (keepF HAF_4.out k_); clear a0 a4 O4 K4 HT_4 HAF_4 o_ k_ hb_; have a0 := k4_ O5 0; have a4 := k2_ O5 4) | ((with_reducible refine gC 17 rfl ?_); refine gate_guard (by rfl) ?_; refine gP (some 28) Tryd.func17 #[.slice A0 l0.length c0] ?_; refine (chapbooklaw17_great.calls 300 _ _ l0 true _ (Kd.C_below HR0.out (kw_ K5 HN)) HC0.out HGR.out).mono ?_; rintro e_ w6 ⟨rfl, hb_⟩; refine ⟨_, rfl, ?_⟩; have o_ := O5.out.below hb_; have k_ := KeepS.of_below (N := N) hb_; obtain ⟨O6, K6⟩ := ok_ K5 o_ k_; have HT_6 := Aside0.mk (TabN.keep HT_5.out k_); have HAF_6 := Aside0.mk (keepF HAF_5.out k_); clear a0 a4 O5 K5 HT_5 HAF_5 o_ k_ hb_; have a0 := k4_ O6 0; have a4 := k2_ O6 4) | ((with_reducible refine gC 16 rfl ?_); refine gP (some 35) Tryd.func16 #[] ?_; refine (awake17 _ ⟨HT_6.out.2⟩).mono ?_; rintro e_ w7 ⟨rfl, hb_⟩; refine ⟨_, rfl, ?_⟩; have o_ := O6.out.below hb_; have k_ := KeepS.of_below (N := N) hb_; obtain ⟨O7, K7⟩ := ok_ K6 o_ k_; have HT_7 := Aside0.mk (TabN.keep HT_6.out k_); have HAF_7 := Aside0.mk (keepF HAF_6.out k_); clear a0 a4 O6 K6 HT_6 HAF_6 o_ k_ hb_; have a0 := k4_ O7 0; have a4 := k2_ O7 4))
  all_goals go_ret
  all_goals exact ⟨rfl, kw_ K7 HN⟩
 | false =>
  obtain ⟨hl50, hl20⟩ := HGB.out rfl
  have HL50 := Aside0.mk hl50
  have HL20 := Aside0.mk hl20
  clear hl50 hl20 HGB
  by_cases hks : (a2.size : Int) > 50
  ·have dk1 : decide ((a2.size : Int) > 50) = true := decide_eq_true hks
   have dk2 : decide (50 < (a2.size : Int)) = true := dk1
   have dk3 : (50 < a2.size) = True := eq_true (by omega)
   clear hks
   go_wp2_with (first | ((with_reducible refine gD 3 rfl ?_); refine bP 3 #[.int .i64 a0_0, .int .i64 a0_1, .int .i64 a0_2, .int .i64 a0_3] 22 O0.out ?_; intro gx w1 o_ k_; obtain ⟨O1, K1⟩ := ok_ K0 o_ k_; have HT_1 := Aside0.mk (TabN.keep HT_0.out k_); have HAF_1 := Aside0.mk (keepF HAF_0.out k_); clear O0 K0 HT_0 HAF_0 o_ k_; have a0 := k4_ O1 0) | ((with_reducible refine gC 15 rfl ?_); refine gP (some 18) Tryd.func15 #[.agg #[.int .i64 a0_0, .int .i64 a0_1, .int .i64 a0_2, .int .i64 a0_3]] ?_; obtain ⟨N_, on_, nn_, rr_, bb_⟩ := O1.out.frame0; refine (Made a0_0 a0_1 a0_2 a0_3 on_).mono ?_; rintro e_ w2 ⟨g, gp, gj, gd, rfl, oo_, kk_⟩; rw [← HJM.out, ← HPP.out] at oo_; obtain ⟨o_, k_⟩ := bb_ _ _ kk_ oo_; refine ⟨_, rfl, ?_⟩; obtain ⟨O2, K2⟩ := ok_ K1 o_ k_; have HT_2 := Aside0.mk (TabN.keep HT_1.out k_); have HAF_2 := Aside0.mk (keepF HAF_1.out k_); clear a0 O1 K1 HT_1 HAF_1 o_ k_ oo_ kk_ on_ nn_ rr_ bb_; have a0 := k4_ O2 0) | ((with_reducible refine gD 7 rfl ?_); refine bP 7 #[.pointer none, .pointer none] 27 O2.out ?_; intro gk w3 o_ k_; obtain ⟨O3, K3⟩ := ok_ K2 o_ k_; have HT_3 := Aside0.mk (TabN.keep HT_2.out k_); have HAF_3 := Aside0.mk (keepF HAF_2.out k_); clear a0 O2 K2 HT_2 HAF_2 o_ k_; have a0 := k4_ O3 0; have a4 := k2_ O3 4) | ((with_reducible refine gT 27 7 rfl ?_); refine wS 4 0 [pt g, pt gd] O3 ?_; intro w4 o_ k_; obtain ⟨O4, K4⟩ := ok_ K3 o_ k_; have HT_4 := Aside0.mk (TabN.keep HT_3.out k_); have HAF_4 := Aside0.mk (keepF HAF_3.out k_); clear a0 a4 O3 K3 HT_3 HAF_3 o_ k_; have a0 := k4_ O4 0; have a4 := k2_ O4 4) | ((with_reducible refine gC 16 rfl ?_); refine gP (some 19) Tryd.func16 #[] ?_; refine (awake17 _ ⟨HT_4.out.2⟩).mono ?_; rintro e_ w5 ⟨rfl, hb_⟩; refine ⟨_, rfl, ?_⟩; have o_ := O4.out.below hb_; have k_ := KeepS.of_below (N := N) hb_; obtain ⟨O5, K5⟩ := ok_ K4 o_ k_; have HT_5 := Aside0.mk (TabN.keep HT_4.out k_); have HAF_5 := Aside0.mk (keepF HAF_4.out k_); clear a0 a4 O4 K4 HT_4 HAF_4 o_ k_ hb_; have a0 := k4_ O5 0; have a4 := k2_ O5 4) | ((with_reducible refine gC 17 rfl ?_); refine gate_guard (by rfl) ?_; refine gP (some 28) Tryd.func17 #[.slice A0 l0.length c0] ?_; refine (chapbooklaw17_great.calls 300 _ _ l0 false _ (Kd.C_below HR0.out (kw_ K5 HN)) HC0.out HGR.out).mono ?_; rintro e_ w6 ⟨rfl, hb_⟩; refine ⟨_, rfl, ?_⟩; have o_ := O5.out.below hb_; have k_ := KeepS.of_below (N := N) hb_; obtain ⟨O6, K6⟩ := ok_ K5 o_ k_; have HT_6 := Aside0.mk (TabN.keep HT_5.out k_); have HAF_6 := Aside0.mk (keepF HAF_5.out k_); clear a0 a4 O5 K5 HT_5 HAF_5 o_ k_ hb_; have a0 := k4_ O6 0; have a4 := k2_ O6 4) | ((with_reducible refine gC 16 rfl ?_); refine gP (some 35) Tryd.func16 #[] ?_; refine (awake17 _ ⟨HT_6.out.2⟩).mono ?_; rintro e_ w7 ⟨rfl, hb_⟩; refine ⟨_, rfl, ?_⟩; have o_ := O6.out.below hb_; have k_ := KeepS.of_below (N := N) hb_; obtain ⟨O7, K7⟩ := ok_ K6 o_ k_; have HT_7 := Aside0.mk (TabN.keep HT_6.out k_); have HAF_7 := Aside0.mk (keepF HAF_6.out k_); clear a0 a4 O6 K6 HT_6 HAF_6 o_ k_ hb_; have a0 := k4_ O7 0; have a4 := k2_ O7 4))
   all_goals go_ret
   all_goals exact ⟨rfl, kw_ K7 HN⟩
  ·have dk1 : decide ((a2.size : Int) > 50) = false := decide_eq_false hks
   have dk2 : decide (50 < (a2.size : Int)) = false := dk1
   have dk3 : (50 < a2.size) = False := eq_false (by omega)
   have HKS : Aside0 (a2.size ≤ maxLen) := ⟨Nat.le_trans (show a2.size ≤ 50 by omega) (by decide)⟩
   clear hks
   go_wp2_with (first | ((with_reducible refine gD 3 rfl ?_); refine bP 3 #[.int .i64 a0_0, .int .i64 a0_1, .int .i64 a0_2, .int .i64 a0_3] 22 O0.out ?_; intro gx w1 o_ k_; obtain ⟨O1, K1⟩ := ok_ K0 o_ k_; have HT_1 := Aside0.mk (TabN.keep HT_0.out k_); have HAF_1 := Aside0.mk (keepF HAF_0.out k_); clear O0 K0 HT_0 HAF_0 o_ k_; have a0 := k4_ O1 0) | ((with_reducible refine gC 15 rfl ?_); refine gP (some 18) Tryd.func15 #[.agg #[.int .i64 a0_0, .int .i64 a0_1, .int .i64 a0_2, .int .i64 a0_3]] ?_; obtain ⟨N_, on_, nn_, rr_, bb_⟩ := O1.out.frame0; refine (Made a0_0 a0_1 a0_2 a0_3 on_).mono ?_; rintro e_ w2 ⟨g, gp, gj, gd, rfl, oo_, kk_⟩; rw [← HJM.out, ← HPP.out] at oo_; obtain ⟨o_, k_⟩ := bb_ _ _ kk_ oo_; refine ⟨_, rfl, ?_⟩; obtain ⟨O2, K2⟩ := ok_ K1 o_ k_; have HT_2 := Aside0.mk (TabN.keep HT_1.out k_); have HAF_2 := Aside0.mk (keepF HAF_1.out k_); clear a0 O1 K1 HT_1 HAF_1 o_ k_ oo_ kk_ on_ nn_ rr_ bb_; have a0 := k4_ O2 0) | ((with_reducible refine gD 7 rfl ?_); refine bP 7 #[.pointer none, .pointer none] 27 O2.out ?_; intro gk w3 o_ k_; obtain ⟨O3, K3⟩ := ok_ K2 o_ k_; have HT_3 := Aside0.mk (TabN.keep HT_2.out k_); have HAF_3 := Aside0.mk (keepF HAF_2.out k_); clear a0 O2 K2 HT_2 HAF_2 o_ k_; have a0 := k4_ O3 0; have a4 := k2_ O3 4) | ((with_reducible refine gT 27 7 rfl ?_); refine wS 4 0 [pt g, pt gd] O3 ?_; intro w4 o_ k_; obtain ⟨O4, K4⟩ := ok_ K3 o_ k_; have HT_4 := Aside0.mk (TabN.keep HT_3.out k_); have HAF_4 := Aside0.mk (keepF HAF_3.out k_); clear a0 a4 O3 K3 HT_3 HAF_3 o_ k_; have a0 := k4_ O4 0; have a4 := k2_ O4 4) | ((with_reducible refine gC 16 rfl ?_); refine gP (some 19) Tryd.func16 #[] ?_; refine (awake17 _ ⟨HT_4.out.2⟩).mono ?_; rintro e_ w5 ⟨rfl, hb_⟩; refine ⟨_, rfl, ?_⟩; have o_ := O4.out.below hb_; have k_ := KeepS.of_below (N := N) hb_; obtain ⟨O5, K5⟩ := ok_ K4 o_ k_; have HT_5 := Aside0.mk (TabN.keep HT_4.out k_); have HAF_5 := Aside0.mk (keepF HAF_4.out k_); clear a0 a4 O4 K4 HT_4 HAF_4 o_ k_ hb_; have a0 := k4_ O5 0; have a4 := k2_ O5 4) | ((with_reducible refine gC 17 rfl ?_); refine gate_guard (by rfl) ?_; refine gP (some 28) Tryd.func17 #[.slice A0 l0.length c0] ?_; refine (chapbooklaw17_great.calls 300 _ _ l0 false _ (Kd.C_below HR0.out (kw_ K5 HN)) HC0.out HGR.out).mono ?_; rintro e_ w6 ⟨rfl, hb_⟩; refine ⟨_, rfl, ?_⟩; have o_ := O5.out.below hb_; have k_ := KeepS.of_below (N := N) hb_; obtain ⟨O6, K6⟩ := ok_ K5 o_ k_; have HT_6 := Aside0.mk (TabN.keep HT_5.out k_); have HAF_6 := Aside0.mk (keepF HAF_5.out k_); clear a0 a4 O5 K5 HT_5 HAF_5 o_ k_ hb_; have a0 := k4_ O6 0; have a4 := k2_ O6 4))
   clear a0 a4
   go_loopw [38] (fun vi wr => CqI N w l0.length g gp gj gd a0_0 jm a0_1 pp [cells gx #[.int .i64 a0_0, .int .i64 a0_1, .int .i64 a0_2, .int .i64 a0_3] 22, cells gk #[pt g, pt gd] 27] vi wr) (fun vi _ => l0.length - (intOf vi).toNat)
   case atStart => exact ⟨0, N, [], [], [], [], [], [], by omega, by omega, rfl, ⟨Inv.zero HJP.out⟩, ⟨fun _ h => h⟩, ⟨⟨Lead.none _ _, Lead.none _ _, Lead.none _ _⟩⟩, ⟨by simp⟩, ⟨O6.out.pickL [1, 2, 3, 0, 4] (by decide) (by simp)⟩, K6⟩
   case round =>
    obtain ⟨x, N1, K, P, L, U, rK, Kd', hx0, hx1, rfl, HI, HNN, HLE, HKD, OA, KA⟩ := hrel
    clear O6 K6 HT_6 HAF_6
    have h50 := HL50.out
    by_cases hlt : x < (l0.length : Int)
    ·obtain ⟨ad, A7, c7, e7, y0, y1, y2, y3, y4, y5, y6, y7, hl7, hF7⟩ := at_A (keepF HAF0.out KA.out) x hx0 hlt
     cases e7
     have HC7 := Aside0.mk hl7
     have HF7 := Aside0.mk (Kd.F_mono hF7 HNN.out)
     have HK20 := Aside0.mk (HL20.out x hx0 hlt)
     have hs2 : wrap64 (x + 1) = x + 1 := by unfold wrap64; omega
     have hp := eq_true hx0
     have hq := eq_true hlt
     have hd : decide (x < (l0.length : Int)) = true := decide_eq_true hlt
     have HX : Aside0 (0 ≤ x ∧ x < l0.length ∧ x ≤ 49) := ⟨hx0, hlt, by omega⟩
     obtain ⟨a, ha⟩ : ∃ a, rdA l0 x = a := ⟨_, rfl⟩
     rw [ha] at y0 y1 y2 y3 y4 y5 y6 y7 HC7 HF7
     have HAX := Aside0.mk ha
     have HK : Aside0 (a.f2.f2.length ≤ 20) := ⟨by rw [← ha]; exact HK20.out⟩
     clear ha HK20 hl7 hF7 hx0 hx1 hlt h50
     have O7 : Aside0 (Own N1 wr [CliO g (pt gp) a0_0 a0_1 pp K P U, Obj3 138 gp a0_0 jm L, DocO gj gd a0_0 jm a0_0 a0_1 pp [] rK [] [], cells gx #[.int .i64 a0_0, .int .i64 a0_1, .int .i64 a0_2, .int .i64 a0_3] 22, cells gk #[pt g, pt gd] 27]) := ⟨OA.out⟩
     have K7 : Aside0 (KeepS N1 wr wr) := ⟨KeepS.refl _ _⟩
     have HT_7 : Aside0 (TabN N1 wr) := ⟨(HT00.out.keep KA.out).mono HNN.out⟩
     have HLE_7 : Aside0 (Led N1 wr [] rK [] [] Kd' []) := ⟨HLE.out⟩
     have HF_7 : Aside0 (Kd.F kU7 wr N1 A7 a.f2.f2.length a.f2.f2) := ⟨HF7.out⟩
     have a3 := k4_ O7 3
     have a4 := k2_ O7 4
     clear OA HF7
     go_wp2_with (first | ((with_reducible refine gD 9 rfl ?_); refine bP 9 #[.int .i64 0, .string ⟨#[]⟩, .int .i64 0, .int .i64 0, .string ⟨#[]⟩, .int .i64 0, .int .i64 0, .slice none 0 0] 37 O7.out ?_; intro ga w8 o_ k_; obtain ⟨O8, K8⟩ := ok_ K7 o_ k_; have HT_8 := Aside0.mk (TabN.keep HT_7.out k_); have HLE_8 := Aside0.mk (Led.keep HLE_7.out k_); have HF_8 := Aside0.mk (keepF HF_7.out k_); clear a3 a4 O7 K7 HT_7 HLE_7 HF_7 o_ k_; have a3 := k4_ O8 3; have a4 := k2_ O8 4; have a5 := k8_ O8 5) | ((with_reducible refine gT 37 9 rfl ?_); refine wS 5 0 [.int .i64 a.f0, .string a.f1.f0, .int .i64 a.f1.f1, .int .i64 a.f1.f2, .string a.f1.f3, .int .i64 a.f2.f0, .int .i64 a.f2.f1, .slice A7 a.f2.f2.length c7] O8 ?_; intro w9 o_ k_; obtain ⟨O9, K9⟩ := ok_ K8 o_ k_; have HT_9 := Aside0.mk (TabN.keep HT_8.out k_); have HLE_9 := Aside0.mk (Led.keep HLE_8.out k_); have HF_9 := Aside0.mk (keepF HF_8.out k_); clear a3 a4 a5 O8 K8 HT_8 HLE_8 HF_8 o_ k_; have a3 := k4_ O9 3; have a4 := k2_ O9 4; have a5 := k8_ O9 5))
     have HSZ := Aside0.mk (HI.out.sizes (by have := HX.out; omega))
     obtain ⟨V, hV⟩ : ∃ V, stateOf U (K ++ P) a2 = V := ⟨_, rfl⟩
     have HV := Aside0.mk hV
     have HFP : Aside0 (Few 20 P) := ⟨HI.out.fp.mono (by decide)⟩
     obtain ⟨nu, hnu⟩ : ∃ n, U.length = n := ⟨_, rfl⟩
     have HNU := Aside0.mk hnu
     obtain ⟨np, hnp⟩ : ∃ n, P.length = n := ⟨_, rfl⟩
     have HNP := Aside0.mk hnp
     clear hV hnu hnp
     refine sP (n := 14) (S := c2_ gk (pt g) (pt gd)) (ds := []) (p2_ a4) (fun hHeld => ?_)
     obtain ⟨w10, hw_⟩ : ∃ W, W = w9.drew := ⟨_, rfl⟩
     have o_ := O9.out.drew
     have k_ : KeepS N1 w9 w9.drew := KeepS.drew
     rw [← hw_] at o_ k_ hHeld ⊢
     clear hw_
     obtain ⟨O10, K10⟩ := ok_ K9 o_ k_
     have HT_10 := Aside0.mk (TabN.keep HT_9.out k_)
     have HLE_10 := Aside0.mk (Led.keep HLE_9.out k_)
     have HF_10 := Aside0.mk (keepF HF_9.out k_)
     clear a3 a4 a5 O9 K9 HT_9 HLE_9 HF_9 o_ k_
     have a3 := k4_ O10 3
     have a4 := k2_ O10 4
     have a5 := k8_ O10 5
     refine pP 0 (some 42) ?_
     refine pP 3 (some 45) ?_
     refine pP 6 (some 48) ?_
     refine pP 8 (some 50) ?_
     refine tP 1 (some 43) hHeld ?_
     refine tP 4 (some 46) hHeld ?_
     refine tP 7 (some 49) hHeld ?_
     refine join_ (σ := Option Addr × Nat × Option Addr × Nat × Nat) 3 #[true, true, true, true, true, true, true, true, true, true, true, false, false, false] (fun ⟨B1, b1_, B2, b2_, gv⟩ => [(44, .slice B1 nu b1_), (47, .slice B2 np b2_), (51, .agg #[.int .i64 V.1, .int .i64 V.2.1, .string V.2.2]), (12, .pointer (some ⟨gv, 0, none⟩))]) (fun ⟨B1, b1_, B2, b2_, gv⟩ w' => Own N1 w' [CliO g (pt gp) a0_0 a0_1 pp K P U, Obj3 138 gp a0_0 jm L, DocO gj gd a0_0 jm a0_0 a0_1 pp [] rK [] [], cells gx #[.int .i64 a0_0, .int .i64 a0_1, .int .i64 a0_2, .int .i64 a0_3] 22, cells gk #[pt g, pt gd] 27, cells ga #[.int .i64 a.f0, .string a.f1.f0, .int .i64 a.f1.f1, .int .i64 a.f1.f2, .string a.f1.f3, .int .i64 a.f2.f0, .int .i64 a.f2.f1, .slice A7 a.f2.f2.length c7] 37, nrow kU7 tU7 (.slice B1 nu b1_) U, nrow kR7 tR7 (.slice B2 np b2_) P, cells gv #[.int .i64 0, .int .i64 0, .string ⟨#[]⟩] 49] ∧ KeepS N1 w10 w') ?hcont ?hways
     case hways =>
      intro hc_
      have K11 : Aside0 (KeepS N1 w10 w10) := ⟨KeepS.refl _ _⟩
      have O11 : Aside0 (Own N1 w10 [CliO g (pt gp) a0_0 a0_1 pp K P U, Obj3 138 gp a0_0 jm L, DocO gj gd a0_0 jm a0_0 a0_1 pp [] rK [] [], cells gx #[.int .i64 a0_0, .int .i64 a0_1, .int .i64 a0_2, .int .i64 a0_3] 22, cells gk #[pt g, pt gd] 27, cells ga #[.int .i64 a.f0, .string a.f1.f0, .int .i64 a.f1.f1, .int .i64 a.f1.f2, .string a.f1.f3, .int .i64 a.f2.f0, .int .i64 a.f2.f1, .slice A7 a.f2.f2.length c7] 37]) := O10
      refine tW_ 2 10 (some 44) (some 12) (fun K_ hK_ => ?_) (fun K_ hK_ => ?_)
      ·skip
       refine hP Tryd.func23 #[pt g] ?_
       obtain ⟨N_, on_, nn_, rr_, bb_⟩ := O11.out.frame1 (i := 0) rfl
       refine (OOpen_m nu HNU.out on_ HSZ.out.2.2.2.1).mono ?_
       rintro e_ w12 ⟨B1, b1_, rfl, oo_, kk_⟩
       obtain ⟨o_, k_⟩ := bb_ _ _ _ kk_ oo_
       refine ⟨_, rfl, ?_⟩
       obtain ⟨O12, K12⟩ := ok_ K11 o_ k_
       have HT_12 := Aside0.mk (TabN.keep HT_10.out k_)
       have HLE_12 := Aside0.mk (Led.keep HLE_10.out k_)
       have HF_12 := Aside0.mk (keepF HF_10.out k_)
       clear a3 a4 a5 O11 K11 HT_10 HLE_10 HF_10 o_ k_ oo_ kk_ on_ nn_ rr_ bb_
       have a3 := k4_ O12 3
       have a4 := k2_ O12 4
       have a5 := k8_ O12 5
       clear hHeld
       refine hK_.out _ _ (p2_ a4) (fun hHeld => ?_)
       clear hK_ K_
       refine nR_ ?_
       refine tW_ 5 10 (some 47) (some 12) (fun K_ hK_ => ?_) (fun K_ hK_ => ?_)
       ·skip
        refine hP Tryd.func21 #[pt g] ?_
        obtain ⟨N_, on_, nn_, rr_, bb_⟩ := O12.out.frame1 (i := 0) rfl
        refine (OPending_m np HNP.out on_ HSZ.out.2.1 (HFP.out.bnd (by decide))).mono ?_
        rintro e_ w13 ⟨B2, b2_, rfl, oo_, kk_⟩
        obtain ⟨o_, k_⟩ := bb_ _ _ _ kk_ oo_
        refine ⟨_, rfl, ?_⟩
        obtain ⟨O13, K13⟩ := ok_ K12 o_ k_
        have HT_13 := Aside0.mk (TabN.keep HT_12.out k_)
        have HLE_13 := Aside0.mk (Led.keep HLE_12.out k_)
        have HF_13 := Aside0.mk (keepF HF_12.out k_)
        clear a3 a4 a5 O12 K12 HT_12 HLE_12 HF_12 o_ k_ oo_ kk_ on_ nn_ rr_ bb_
        have a3 := k4_ O13 3
        have a4 := k2_ O13 4
        have a5 := k8_ O13 5
        clear hHeld
        refine hK_.out _ _ (p2_ a4) (fun hHeld => ?_)
        clear hK_ K_
        refine nR_ ?_
        refine tW_ 9 10 (some 51) (some 12) (fun K_ hK_ => ?_) (fun K_ hK_ => ?_)
        ·skip
         refine hP Tryd.func25 #[pt g, .string a2] ?_
         obtain ⟨N_, on_, nn_, rr_, bb_⟩ := O13.out.frame1 (i := 0) rfl
         refine (ORead_e V a2 HV.out HKS.out on_ HSZ.out.2.2.2.2.1 HSZ.out.2.2.2.2.2).mono ?_
         rintro e_ w14 ⟨rfl, oo_, kk_⟩
         obtain ⟨o_, k_⟩ := bb_ _ _ _ kk_ oo_
         refine ⟨_, rfl, ?_⟩
         obtain ⟨O14, K14⟩ := ok_ K13 o_ k_
         have HT_14 := Aside0.mk (TabN.keep HT_13.out k_)
         have HLE_14 := Aside0.mk (Led.keep HLE_13.out k_)
         have HF_14 := Aside0.mk (keepF HF_13.out k_)
         clear a3 a4 a5 O13 K13 HT_13 HLE_13 HF_13 o_ k_ oo_ kk_ on_ nn_ rr_ bb_
         have a3 := k4_ O14 3
         have a4 := k2_ O14 4
         have a5 := k8_ O14 5
         clear hHeld
         refine hK_.out _ _ (p2_ a4) (fun hHeld => ?_)
         clear hK_ K_
         refine nR_ ?_
         refine oP 10 (some 12) (fun K_ hK_ => ?_)
         refine cP #[.int .i64 0, .int .i64 0, .string ⟨#[]⟩] 49 O14.out ?_
         intro gv w15 o_ k_
         obtain ⟨O15, K15⟩ := ok_ K14 o_ k_
         have HT_15 := Aside0.mk (TabN.keep HT_14.out k_)
         have HLE_15 := Aside0.mk (Led.keep HLE_14.out k_)
         have HF_15 := Aside0.mk (keepF HF_14.out k_)
         clear a3 a4 a5 O14 K14 HT_14 HLE_14 HF_14 o_ k_
         have a3 := k4_ O15 3
         have a4 := k2_ O15 4
         have a5 := k8_ O15 5
         have a8 := k3_ O15 8
         clear hHeld
         refine hK_.out _ _ (p2_ a4) (fun hHeld => ?_)
         clear hK_ K_
         refine nR_ ?_
         refine norm_ (a' := _) ?_ (hc_ ⟨B1, b1_, B2, b2_, gv⟩ _ ⟨?_, K15.out⟩)
         ·simp only [putAll, Act.put, List.setIfInBounds_toArray, List.set_cons_zero, List.set_cons_succ]
          try rfl
         ·exact O15.out.pickL [0, 1, 2, 3, 4, 5, 6, 7, 8] (by decide) (by simp)
        ·skip
         refine cP #[.int .i64 0, .int .i64 0, .string ⟨#[]⟩] 49 O13.out ?_
         intro gv w14 o_ k_
         obtain ⟨O14, K14⟩ := ok_ K13 o_ k_
         have HT_14 := Aside0.mk (TabN.keep HT_13.out k_)
         have HLE_14 := Aside0.mk (Led.keep HLE_13.out k_)
         have HF_14 := Aside0.mk (keepF HF_13.out k_)
         clear a3 a4 a5 O13 K13 HT_13 HLE_13 HF_13 o_ k_
         have a3 := k4_ O14 3
         have a4 := k2_ O14 4
         have a5 := k8_ O14 5
         have a8 := k3_ O14 8
         clear hHeld
         refine hK_.out _ _ (p2_ a4) (fun hHeld => ?_)
         clear hK_ K_
         refine nR_ ?_
         refine oP 9 (some 51) (fun K_ hK_ => ?_)
         refine hP Tryd.func25 #[pt g, .string a2] ?_
         obtain ⟨N_, on_, nn_, rr_, bb_⟩ := O14.out.frame1 (i := 0) rfl
         refine (ORead_e V a2 HV.out HKS.out on_ HSZ.out.2.2.2.2.1 HSZ.out.2.2.2.2.2).mono ?_
         rintro e_ w15 ⟨rfl, oo_, kk_⟩
         obtain ⟨o_, k_⟩ := bb_ _ _ _ kk_ oo_
         refine ⟨_, rfl, ?_⟩
         obtain ⟨O15, K15⟩ := ok_ K14 o_ k_
         have HT_15 := Aside0.mk (TabN.keep HT_14.out k_)
         have HLE_15 := Aside0.mk (Led.keep HLE_14.out k_)
         have HF_15 := Aside0.mk (keepF HF_14.out k_)
         clear a3 a4 a5 a8 O14 K14 HT_14 HLE_14 HF_14 o_ k_ oo_ kk_ on_ nn_ rr_ bb_
         have a3 := k4_ O15 3
         have a4 := k2_ O15 4
         have a5 := k8_ O15 5
         have a8 := k3_ O15 8
         clear hHeld
         refine hK_.out _ _ (p2_ a4) (fun hHeld => ?_)
         clear hK_ K_
         refine nR_ ?_
         refine norm_ (a' := _) ?_ (hc_ ⟨B1, b1_, B2, b2_, gv⟩ _ ⟨?_, K15.out⟩)
         ·simp only [putAll, Act.put, List.setIfInBounds_toArray, List.set_cons_zero, List.set_cons_succ]
          try rfl
         ·exact O15.out.pickL [0, 1, 2, 3, 4, 5, 6, 7, 8] (by decide) (by simp)
       ·skip
        refine cP #[.int .i64 0, .int .i64 0, .string ⟨#[]⟩] 49 O12.out ?_
        intro gv w13 o_ k_
        obtain ⟨O13, K13⟩ := ok_ K12 o_ k_
        have HT_13 := Aside0.mk (TabN.keep HT_12.out k_)
        have HLE_13 := Aside0.mk (Led.keep HLE_12.out k_)
        have HF_13 := Aside0.mk (keepF HF_12.out k_)
        clear a3 a4 a5 O12 K12 HT_12 HLE_12 HF_12 o_ k_
        have a3 := k4_ O13 3
        have a4 := k2_ O13 4
        have a5 := k8_ O13 5
        have a7 := k3_ O13 7
        clear hHeld
        refine hK_.out _ _ (p2_ a4) (fun hHeld => ?_)
        clear hK_ K_
        refine nR_ ?_
        refine oP 5 (some 47) (fun K_ hK_ => ?_)
        refine hP Tryd.func21 #[pt g] ?_
        obtain ⟨N_, on_, nn_, rr_, bb_⟩ := O13.out.frame1 (i := 0) rfl
        refine (OPending_m np HNP.out on_ HSZ.out.2.1 (HFP.out.bnd (by decide))).mono ?_
        rintro e_ w14 ⟨B2, b2_, rfl, oo_, kk_⟩
        obtain ⟨o_, k_⟩ := bb_ _ _ _ kk_ oo_
        refine ⟨_, rfl, ?_⟩
        obtain ⟨O14, K14⟩ := ok_ K13 o_ k_
        have HT_14 := Aside0.mk (TabN.keep HT_13.out k_)
        have HLE_14 := Aside0.mk (Led.keep HLE_13.out k_)
        have HF_14 := Aside0.mk (keepF HF_13.out k_)
        clear a3 a4 a5 a7 O13 K13 HT_13 HLE_13 HF_13 o_ k_ oo_ kk_ on_ nn_ rr_ bb_
        have a3 := k4_ O14 3
        have a4 := k2_ O14 4
        have a5 := k8_ O14 5
        have a7 := k3_ O14 7
        clear hHeld
        refine hK_.out _ _ (p2_ a4) (fun hHeld => ?_)
        clear hK_ K_
        refine nR_ ?_
        refine oP 9 (some 51) (fun K_ hK_ => ?_)
        refine hP Tryd.func25 #[pt g, .string a2] ?_
        obtain ⟨N_, on_, nn_, rr_, bb_⟩ := O14.out.frame1 (i := 0) rfl
        refine (ORead_e V a2 HV.out HKS.out on_ HSZ.out.2.2.2.2.1 HSZ.out.2.2.2.2.2).mono ?_
        rintro e_ w15 ⟨rfl, oo_, kk_⟩
        obtain ⟨o_, k_⟩ := bb_ _ _ _ kk_ oo_
        refine ⟨_, rfl, ?_⟩
        obtain ⟨O15, K15⟩ := ok_ K14 o_ k_
        have HT_15 := Aside0.mk (TabN.keep HT_14.out k_)
        have HLE_15 := Aside0.mk (Led.keep HLE_14.out k_)
        have HF_15 := Aside0.mk (keepF HF_14.out k_)
        clear a3 a4 a5 a7 O14 K14 HT_14 HLE_14 HF_14 o_ k_ oo_ kk_ on_ nn_ rr_ bb_
        have a3 := k4_ O15 3
        have a4 := k2_ O15 4
        have a5 := k8_ O15 5
        have a7 := k3_ O15 7
        clear hHeld
        refine hK_.out _ _ (p2_ a4) (fun hHeld => ?_)
        clear hK_ K_
        refine nR_ ?_
        refine norm_ (a' := _) ?_ (hc_ ⟨B1, b1_, B2, b2_, gv⟩ _ ⟨?_, K15.out⟩)
        ·simp only [putAll, Act.put, List.setIfInBounds_toArray, List.set_cons_zero, List.set_cons_succ]
         try rfl
        ·exact O15.out.pickL [0, 1, 2, 3, 4, 5, 6, 8, 7] (by decide) (by simp)
      ·skip
       refine cP #[.int .i64 0, .int .i64 0, .string ⟨#[]⟩] 49 O11.out ?_
       intro gv w12 o_ k_
       obtain ⟨O12, K12⟩ := ok_ K11 o_ k_
       have HT_12 := Aside0.mk (TabN.keep HT_10.out k_)
       have HLE_12 := Aside0.mk (Led.keep HLE_10.out k_)
       have HF_12 := Aside0.mk (keepF HF_10.out k_)
       clear a3 a4 a5 O11 K11 HT_10 HLE_10 HF_10 o_ k_
       have a3 := k4_ O12 3
       have a4 := k2_ O12 4
       have a5 := k8_ O12 5
       have a6 := k3_ O12 6
       clear hHeld
       refine hK_.out _ _ (p2_ a4) (fun hHeld => ?_)
       clear hK_ K_
       refine nR_ ?_
       refine oP 2 (some 44) (fun K_ hK_ => ?_)
       refine hP Tryd.func23 #[pt g] ?_
       obtain ⟨N_, on_, nn_, rr_, bb_⟩ := O12.out.frame1 (i := 0) rfl
       refine (OOpen_m nu HNU.out on_ HSZ.out.2.2.2.1).mono ?_
       rintro e_ w13 ⟨B1, b1_, rfl, oo_, kk_⟩
       obtain ⟨o_, k_⟩ := bb_ _ _ _ kk_ oo_
       refine ⟨_, rfl, ?_⟩
       obtain ⟨O13, K13⟩ := ok_ K12 o_ k_
       have HT_13 := Aside0.mk (TabN.keep HT_12.out k_)
       have HLE_13 := Aside0.mk (Led.keep HLE_12.out k_)
       have HF_13 := Aside0.mk (keepF HF_12.out k_)
       clear a3 a4 a5 a6 O12 K12 HT_12 HLE_12 HF_12 o_ k_ oo_ kk_ on_ nn_ rr_ bb_
       have a3 := k4_ O13 3
       have a4 := k2_ O13 4
       have a5 := k8_ O13 5
       have a6 := k3_ O13 6
       clear hHeld
       refine hK_.out _ _ (p2_ a4) (fun hHeld => ?_)
       clear hK_ K_
       refine nR_ ?_
       refine oP 5 (some 47) (fun K_ hK_ => ?_)
       refine hP Tryd.func21 #[pt g] ?_
       obtain ⟨N_, on_, nn_, rr_, bb_⟩ := O13.out.frame1 (i := 0) rfl
       refine (OPending_m np HNP.out on_ HSZ.out.2.1 (HFP.out.bnd (by decide))).mono ?_
       rintro e_ w14 ⟨B2, b2_, rfl, oo_, kk_⟩
       obtain ⟨o_, k_⟩ := bb_ _ _ _ kk_ oo_
       refine ⟨_, rfl, ?_⟩
       obtain ⟨O14, K14⟩ := ok_ K13 o_ k_
       have HT_14 := Aside0.mk (TabN.keep HT_13.out k_)
       have HLE_14 := Aside0.mk (Led.keep HLE_13.out k_)
       have HF_14 := Aside0.mk (keepF HF_13.out k_)
       clear a3 a4 a5 a6 O13 K13 HT_13 HLE_13 HF_13 o_ k_ oo_ kk_ on_ nn_ rr_ bb_
       have a3 := k4_ O14 3
       have a4 := k2_ O14 4
       have a5 := k8_ O14 5
       have a6 := k3_ O14 6
       clear hHeld
       refine hK_.out _ _ (p2_ a4) (fun hHeld => ?_)
       clear hK_ K_
       refine nR_ ?_
       refine oP 9 (some 51) (fun K_ hK_ => ?_)
       refine hP Tryd.func25 #[pt g, .string a2] ?_
       obtain ⟨N_, on_, nn_, rr_, bb_⟩ := O14.out.frame1 (i := 0) rfl
       refine (ORead_e V a2 HV.out HKS.out on_ HSZ.out.2.2.2.2.1 HSZ.out.2.2.2.2.2).mono ?_
       rintro e_ w15 ⟨rfl, oo_, kk_⟩
       obtain ⟨o_, k_⟩ := bb_ _ _ _ kk_ oo_
       refine ⟨_, rfl, ?_⟩
       obtain ⟨O15, K15⟩ := ok_ K14 o_ k_
       have HT_15 := Aside0.mk (TabN.keep HT_14.out k_)
       have HLE_15 := Aside0.mk (Led.keep HLE_14.out k_)
       have HF_15 := Aside0.mk (keepF HF_14.out k_)
       clear a3 a4 a5 a6 O14 K14 HT_14 HLE_14 HF_14 o_ k_ oo_ kk_ on_ nn_ rr_ bb_
       have a3 := k4_ O15 3
       have a4 := k2_ O15 4
       have a5 := k8_ O15 5
       have a6 := k3_ O15 6
       clear hHeld
       refine hK_.out _ _ (p2_ a4) (fun hHeld => ?_)
       clear hK_ K_
       refine nR_ ?_
       refine norm_ (a' := _) ?_ (hc_ ⟨B1, b1_, B2, b2_, gv⟩ _ ⟨?_, K15.out⟩)
       ·simp only [putAll, Act.put, List.setIfInBounds_toArray, List.set_cons_zero, List.set_cons_succ]
        try rfl
       ·exact O15.out.pickL [0, 1, 2, 3, 4, 5, 7, 8, 6] (by decide) (by simp)
     case hcont =>
      clear hHeld
      rintro ⟨B1, b1_, B2, b2_, gv⟩ w11 ⟨o_, k_⟩
      obtain ⟨O11, K11⟩ := ok_ K10 o_ k_
      have HT_11 := Aside0.mk (TabN.keep HT_10.out k_)
      have HLE_11 := Aside0.mk (Led.keep HLE_10.out k_)
      have HF_11 := Aside0.mk (keepF HF_10.out k_)
      clear a3 a4 a5 O10 K10 HT_10 HLE_10 HF_10 o_ k_
      have a3 := k4_ O11 3
      have a4 := k2_ O11 4
      have a5 := k8_ O11 5
      have a8 := k3_ O11 8
      refine nA_ ?_
      have hHeld : w11.cell? ⟨gk, 0, none⟩ = some (pt g) ∧ w11.cell? ⟨gk, 1, none⟩ = some (pt gd) := (p2_ a4)
      refine pP 11 (some 10) ?_
      refine pP 12 (some 11) ?_
      refine oP 13 none (fun K_ hK_ => ?_)
      refine xS 8 0 [.int .i64 V.1, .int .i64 V.2.1, .string V.2.2] O11 ?_
      intro w12 o_ k_
      obtain ⟨O12, K12⟩ := ok_ K11 o_ k_
      have HT_12 := Aside0.mk (TabN.keep HT_11.out k_)
      have HLE_12 := Aside0.mk (Led.keep HLE_11.out k_)
      have HF_12 := Aside0.mk (keepF HF_11.out k_)
      clear a3 a4 a5 a8 O11 K11 HT_11 HLE_11 HF_11 o_ k_
      have a3 := k4_ O12 3
      have a4 := k2_ O12 4
      have a5 := k8_ O12 5
      have a8 := k3_ O12 8
      clear hHeld
      refine hK_.out _ _ (p2_ a4) (fun hHeld => ?_)
      clear hK_ K_
      refine done_ (by kernel_rfl) ?_
      clear hHeld
      by_cases ha1 : a.f0 = 1
      ·have da1 : (a.f0 == 1) = true := beq_iff_eq.mpr ha1
       have HA1 := Aside0.mk ha1
       clear ha1
       by_cases hE : updE U a.f1.f0 a.f1.f1 a.f1.f2 a.f1.f3 a0_1 = 0
       ·have HUE := Aside0.mk hE
        obtain ⟨V2, hV2⟩ : ∃ V2, updU U a.f1.f0 a.f1.f1 a.f1.f2 a.f1.f3 a0_1 = V2 := ⟨_, rfl⟩
        have HUV := Aside0.mk hV2
        have HI2 : Aside0 (Inv a0_0 jm (x + 1) K P L V2) := ⟨by rw [← hV2]; exact HI.out.step (mtu := a0_1) (push := pp) (.upd HA1.out) HK.out HX.out.1⟩
        clear hE hV2
        go_wp2_with (first | ((with_reducible refine gC 30 rfl ?_); refine gP (some 63) Tryd.func30 #[pt g, .agg #[.string a.f1.f0, .int .i64 a.f1.f1, .int .i64 a.f1.f2, .string a.f1.f3]] ?_; obtain ⟨N_, on_, nn_, rr_, bb_⟩ := O12.out.frame1 (i := 0) rfl; refine (CUpd_e 0 V2 a.f1.f0 a.f1.f1 a.f1.f2 a.f1.f3 HUE.out HUV.out on_ (TabN.mono HT_12.out nn_) HSZ.out.2.2.2.1).mono ?_; rintro e_ w13 ⟨rfl, oo_, kk_⟩; obtain ⟨o_, k_⟩ := bb_ _ _ _ kk_ oo_; refine ⟨_, rfl, ?_⟩; obtain ⟨O13, K13⟩ := ok_ K12 o_ k_; have HT_13 := Aside0.mk (TabN.keep HT_12.out k_); have HLE_13 := Aside0.mk (Led.keep HLE_12.out k_); have HF_13 := Aside0.mk (keepF HF_12.out k_); clear a3 a4 a5 a8 O12 K12 HT_12 HLE_12 HF_12 o_ k_ oo_ kk_ on_ nn_ rr_ bb_; have a3 := k4_ O13 3; have a4 := k2_ O13 4; have a5 := k8_ O13 5; have a8 := k3_ O13 8))
        refine sP (n := 20) (S := d2_ gk (pt g) (pt gd) (c3_ gv (.int .i64 V.1) (.int .i64 V.2.1) (.string V.2.2))) (ds := []) (j2_ a4 (p3_ a8)) (fun hHeld => ?_)
        obtain ⟨w14, hw_⟩ : ∃ W, W = w13.drew := ⟨_, rfl⟩
        have o_ := O13.out.drew
        have k_ : KeepS N1 w13 w13.drew := KeepS.drew
        rw [← hw_] at o_ k_ hHeld ⊢
        clear hw_
        obtain ⟨O14, K14⟩ := ok_ K13 o_ k_
        have HT_14 := Aside0.mk (TabN.keep HT_13.out k_)
        have HLE_14 := Aside0.mk (Led.keep HLE_13.out k_)
        have HF_14 := Aside0.mk (keepF HF_13.out k_)
        clear a3 a4 a5 a8 O13 K13 HT_13 HLE_13 HF_13 o_ k_
        have a3 := k4_ O14 3
        have a4 := k2_ O14 4
        have a5 := k8_ O14 5
        have a8 := k3_ O14 8
        refine pP 0 (some 64) ?_
        refine pP 1 (some 65) ?_
        refine pP 2 (some 66) ?_
        refine pS 3 (some 67) ?_
        refine pS 7 (some 71) ?_
        refine pS 8 (some 72) ?_
        refine tS 4 (some 68) hHeld ?_
        refine oP 5 (some 69) (fun K_ hK_ => ?_)
        refine skip17 (by rfl) ?_
        clear hHeld
        refine hK_.out _ _ (j2_ a4 (p3_ a8)) (fun hHeld => ?_)
        clear hK_ K_
        refine nP ?_
        refine pS 6 (some 70) ?_
        refine oP 9 (some 73) (fun K_ hK_ => ?_)
        refine skip17 (by rfl) ?_
        clear hHeld
        refine hK_.out _ _ (j2_ a4 (p3_ a8)) (fun hHeld => ?_)
        clear hK_ K_
        refine nP ?_
        refine pS 10 (some 74) ?_
        refine pS 11 (some 75) ?_
        refine pS 12 (some 76) ?_
        refine pS 14 (some 78) ?_
        refine tS 13 (some 77) hHeld ?_
        refine tS 16 (some 80) hHeld ?_
        refine oP 15 (some 79) (fun K_ hK_ => ?_)
        refine skip17 (by rfl) ?_
        clear hHeld
        refine hK_.out _ _ (j2_ a4 (p3_ a8)) (fun hHeld => ?_)
        clear hK_ K_
        refine nP ?_
        refine pS 17 (some 81) ?_
        refine pS 18 (some 82) ?_
        refine pP 19 (some 83) ?_
        refine done_ (by kernel_rfl) ?_
        clear hHeld
        go_wp2
        go_roundw
        case rel => exact ⟨x + 1, N1, K, P, L, V2, rK, Kd', by have := HX.out; omega, by have := HX.out; omega, int_eq17 (by unfold wrap64; have := HX.out; omega), ⟨HI2.out⟩, HNN, HLE_14, ⟨by have := HKD.out; omega⟩, ⟨O14.out.take 5⟩, ⟨KA.out.trans (K14.out.mono HNN.out)⟩⟩
        case measure => have := HX.out; simp [intOf]; omega
       ·have HUV : Aside0 (updU U a.f1.f0 a.f1.f1 a.f1.f2 a.f1.f3 a0_1 = U) := ⟨updU_no hE⟩
        obtain ⟨E, hE2⟩ : ∃ E, updE U a.f1.f0 a.f1.f1 a.f1.f2 a.f1.f3 a0_1 = E := ⟨_, rfl⟩
        have HUE := Aside0.mk hE2
        have dE : (E != 0) = true := bne_iff_ne.mpr (by rw [← hE2]; exact hE)
        clear hE hE2
        go_wp2_with (first | ((with_reducible refine gC 30 rfl ?_); refine gP (some 63) Tryd.func30 #[pt g, .agg #[.string a.f1.f0, .int .i64 a.f1.f1, .int .i64 a.f1.f2, .string a.f1.f3]] ?_; obtain ⟨N_, on_, nn_, rr_, bb_⟩ := O12.out.frame1 (i := 0) rfl; refine (CUpd_e E U a.f1.f0 a.f1.f1 a.f1.f2 a.f1.f3 HUE.out HUV.out on_ (TabN.mono HT_12.out nn_) HSZ.out.2.2.2.1).mono ?_; rintro e_ w13 ⟨rfl, oo_, kk_⟩; obtain ⟨o_, k_⟩ := bb_ _ _ _ kk_ oo_; refine ⟨_, rfl, ?_⟩; obtain ⟨O13, K13⟩ := ok_ K12 o_ k_; have HT_13 := Aside0.mk (TabN.keep HT_12.out k_); have HLE_13 := Aside0.mk (Led.keep HLE_12.out k_); have HF_13 := Aside0.mk (keepF HF_12.out k_); clear a3 a4 a5 a8 O12 K12 HT_12 HLE_12 HF_12 o_ k_ oo_ kk_ on_ nn_ rr_ bb_; have a3 := k4_ O13 3; have a4 := k2_ O13 4; have a5 := k8_ O13 5; have a8 := k3_ O13 8))
        refine sP (n := 20) (S := d2_ gk (pt g) (pt gd) (c3_ gv (.int .i64 V.1) (.int .i64 V.2.1) (.string V.2.2))) (ds := []) (j2_ a4 (p3_ a8)) (fun hHeld => ?_)
        obtain ⟨w14, hw_⟩ : ∃ W, W = w13.drew := ⟨_, rfl⟩
        have o_ := O13.out.drew
        have k_ : KeepS N1 w13 w13.drew := KeepS.drew
        rw [← hw_] at o_ k_ hHeld ⊢
        clear hw_
        obtain ⟨O14, K14⟩ := ok_ K13 o_ k_
        have HT_14 := Aside0.mk (TabN.keep HT_13.out k_)
        have HLE_14 := Aside0.mk (Led.keep HLE_13.out k_)
        have HF_14 := Aside0.mk (keepF HF_13.out k_)
        clear a3 a4 a5 a8 O13 K13 HT_13 HLE_13 HF_13 o_ k_
        have a3 := k4_ O14 3
        have a4 := k2_ O14 4
        have a5 := k8_ O14 5
        have a8 := k3_ O14 8
        refine pP 0 (some 64) ?_
        refine pP 1 (some 65) ?_
        refine pP 2 (some 66) ?_
        refine pP 3 (some 67) ?_
        refine pP 7 (some 71) ?_
        refine pP 8 (some 72) ?_
        refine tP 4 (some 68) hHeld ?_
        refine oP 5 (some 69) (fun K_ hK_ => ?_)
        refine hP Tryd.func23 #[pt g] ?_
        obtain ⟨N_, on_, nn_, rr_, bb_⟩ := O14.out.frame1 (i := 0) rfl
        refine (OOpen_m nu HNU.out on_ HSZ.out.2.2.2.1).mono ?_
        rintro e_ w15 ⟨B3, b3_, rfl, oo_, kk_⟩
        obtain ⟨o_, k_⟩ := bb_ _ _ _ kk_ oo_
        refine ⟨_, rfl, ?_⟩
        obtain ⟨O15, K15⟩ := ok_ K14 o_ k_
        have HT_15 := Aside0.mk (TabN.keep HT_14.out k_)
        have HLE_15 := Aside0.mk (Led.keep HLE_14.out k_)
        have HF_15 := Aside0.mk (keepF HF_14.out k_)
        clear a3 a4 a5 a8 O14 K14 HT_14 HLE_14 HF_14 o_ k_ oo_ kk_ on_ nn_ rr_ bb_
        have a3 := k4_ O15 3
        have a4 := k2_ O15 4
        have a5 := k8_ O15 5
        have a8 := k3_ O15 8
        clear hHeld
        refine hK_.out _ _ (j2_ a4 (p3_ a8)) (fun hHeld => ?_)
        clear hK_ K_
        refine nP ?_
        refine pP 6 (some 70) ?_
        refine oP 9 (some 73) (fun K_ hK_ => ?_)
        refine hP Tryd.func22 #[.agg #[.int .i64 0, .int .i64 0, .slice B3 nu b3_], .agg #[.int .i64 0, .int .i64 0, .slice B1 nu b1_]] ?_
        refine (same_upd 0 0 O15.out (i := 9) (j := 6) rfl rfl HSZ.out.2.2.2.1).mono ?_
        rintro e_ w16 ⟨rfl, hb_⟩
        refine ⟨_, rfl, ?_⟩
        have o_ := O15.out.below hb_
        have k_ := KeepS.of_below (N := N1) hb_
        obtain ⟨O16, K16⟩ := ok_ K15 o_ k_
        have HT_16 := Aside0.mk (TabN.keep HT_15.out k_)
        have HLE_16 := Aside0.mk (Led.keep HLE_15.out k_)
        have HF_16 := Aside0.mk (keepF HF_15.out k_)
        clear a3 a4 a5 a8 O15 K15 HT_15 HLE_15 HF_15 o_ k_ hb_
        have a3 := k4_ O16 3
        have a4 := k2_ O16 4
        have a5 := k8_ O16 5
        have a8 := k3_ O16 8
        clear hHeld
        refine hK_.out _ _ (j2_ a4 (p3_ a8)) (fun hHeld => ?_)
        clear hK_ K_
        refine nP ?_
        refine pP 10 (some 74) ?_
        refine pP 11 (some 75) ?_
        refine pP 12 (some 76) ?_
        refine pP 14 (some 78) ?_
        refine tP 13 (some 77) hHeld ?_
        refine tP 16 (some 80) hHeld ?_
        refine oP 15 (some 79) (fun K_ hK_ => ?_)
        refine hP Tryd.func25 #[pt g, .string a2] ?_
        obtain ⟨N_, on_, nn_, rr_, bb_⟩ := O16.out.frame1 (i := 0) rfl
        refine (ORead_e V a2 HV.out HKS.out on_ HSZ.out.2.2.2.2.1 HSZ.out.2.2.2.2.2).mono ?_
        rintro e_ w17 ⟨rfl, oo_, kk_⟩
        obtain ⟨o_, k_⟩ := bb_ _ _ _ kk_ oo_
        refine ⟨_, rfl, ?_⟩
        obtain ⟨O17, K17⟩ := ok_ K16 o_ k_
        have HT_17 := Aside0.mk (TabN.keep HT_16.out k_)
        have HLE_17 := Aside0.mk (Led.keep HLE_16.out k_)
        have HF_17 := Aside0.mk (keepF HF_16.out k_)
        clear a3 a4 a5 a8 O16 K16 HT_16 HLE_16 HF_16 o_ k_ oo_ kk_ on_ nn_ rr_ bb_
        have a3 := k4_ O17 3
        have a4 := k2_ O17 4
        have a5 := k8_ O17 5
        have a8 := k3_ O17 8
        clear hHeld
        refine hK_.out _ _ (j2_ a4 (p3_ a8)) (fun hHeld => ?_)
        clear hK_ K_
        refine nP ?_
        refine pP 17 (some 81) ?_
        refine pP 18 (some 82) ?_
        refine pP 19 (some 83) ?_
        refine done_ (by kernel_rfl) ?_
        clear hHeld
        go_wp2
        go_roundw
        case rel => exact ⟨x + 1, N1, K, P, L, U, rK, Kd', by have := HX.out; omega, by have := HX.out; omega, int_eq17 (by unfold wrap64; have := HX.out; omega), ⟨HI.out.next (by omega)⟩, HNN, HLE_17, ⟨by have := HKD.out; omega⟩, ⟨O17.out.take 5⟩, ⟨KA.out.trans (K17.out.mono HNN.out)⟩⟩
        case measure => have := HX.out; simp [intOf]; omega
      ·have da1 : (a.f0 == 1) = false := beq_eq_false_iff_ne.mpr ha1
       have HA1 := Aside0.mk ha1
       clear ha1
       by_cases ha2 : a.f0 = 2
       ·have da2 : (a.f0 == 2) = true := beq_iff_eq.mpr ha2
        have HA2 := Aside0.mk ha2
        clear ha2
        by_cases hE : pushE a0_0 jm pp L P U = 0
        ·have HPE := Aside0.mk hE
         obtain ⟨n1, hn1⟩ : ∃ n1, (L.length : Int) + 1 = n1 := ⟨_, rfl⟩
         obtain ⟨P2, hP2⟩ : ∃ P2, P ++ [(⟨a0_0, n1, U⟩ : Rnd7)] = P2 := ⟨_, rfl⟩
         obtain ⟨L2, hL2⟩ : ∃ L2, L ++ [(⟨a0_0, n1, U⟩ : Rnd7)] = L2 := ⟨_, rfl⟩
         have hst : Stp a0_0 jm a0_1 pp a K P L U K P2 L2 [] := by rw [← hP2, ← hL2, ← hn1]; exact .push HA2.out hE
         have HI2 := Aside0.mk (HI.out.step hst HK.out HX.out.1)
         have HS2 := Aside0.mk (HI2.out.sizes (by have := HX.out; omega))
         have HFP2 : Aside0 (Few 20 P2) := ⟨HI2.out.fp.mono (by decide)⟩
         have HV2 : Aside0 (stateOf [] (K ++ P2) a2 = V) := ⟨by rw [← hP2, seen_push]; exact HV.out⟩
         have HN1 := Aside0.mk hn1
         have HP2 := Aside0.mk hP2
         have HL2 := Aside0.mk hL2
         obtain ⟨nq, hnq⟩ : ∃ n, P2.length = n := ⟨_, rfl⟩
         have HNQ := Aside0.mk hnq
         have hqp : nq = np + 1 := by rw [← hnq, ← hP2, ← HNP.out, List.length_append, List.length_singleton]
         have HNQP := Aside0.mk hqp
         have HLAST : Aside0 (rd_T35 P2 (np : Int) = ⟨a0_0, n1, U⟩) := ⟨by rw [← hP2, ← HNP.out]; exact rd_last P _⟩
         have hnp5 : (np : Int) ≤ 1000000 := by have := HSZ.out.2.1; have := HNP.out; omega
         have hq1 : ((0 : Int) ≤ (np : Int)) = True := eq_true (by omega)
         have hq2 : ((np : Int) < (nq : Int)) = True := eq_true (by omega)
         have hq3 : (np < nq) = True := eq_true (by omega)
         have hw1 : wrap64 ((np : Int) + 1) = (np : Int) + 1 := by unfold wrap64; omega
         have hl1 : ((nq : Int) != (np : Int) + 1) = false := by rw [hqp]; simp
         clear hE hn1 hP2 hL2 hst hnq hqp hnp5
         go_wp2_with (first | ((with_reducible refine gC 31 rfl ?_); refine gP (some 89) Tryd.func31 #[pt g] ?_; obtain ⟨N_, on_, nn_, rr_, bb_⟩ := O12.out.frameL [0, 1] (by decide) (by simp); refine (CPush_z nu n1 P2 L2 HPE.out HN1.out HNU.out HP2.out HL2.out on_ HSZ.out.2.2.2.1 HSZ.out.2.2.1 HSZ.out.2.1).mono ?_; rintro e_ w13 ⟨B3, b3_, rfl, oo_, kk_⟩; obtain ⟨o_, k_⟩ := bb_ _ [CliO g (pt gp) a0_0 a0_1 pp K P2 [], Obj3 138 gp a0_0 jm L2] [nrow kU7 tU7 (.slice B3 nu b3_) U] rfl kk_ oo_; refine ⟨_, rfl, ?_⟩; obtain ⟨O13, K13⟩ := ok_ K12 o_ k_; have HT_13 := Aside0.mk (TabN.keep HT_12.out k_); have HLE_13 := Aside0.mk (Led.keep HLE_12.out k_); have HF_13 := Aside0.mk (keepF HF_12.out k_); clear a3 a4 a5 a8 O12 K12 HT_12 HLE_12 HF_12 o_ k_ oo_ kk_ on_ nn_ rr_ bb_; have a3 := k4_ O13 3; have a4 := k2_ O13 4; have a5 := k8_ O13 5; have a8 := k3_ O13 8) | ((with_reducible refine gD 14 rfl ?_); refine bP 14 #[.int .i64 0, .int .i64 0, .slice none 0 0] 35 O13.out ?_; intro gr w14 o_ k_; obtain ⟨O14, K14⟩ := ok_ K13 o_ k_; have HT_14 := Aside0.mk (TabN.keep HT_13.out k_); have HLE_14 := Aside0.mk (Led.keep HLE_13.out k_); have HF_14 := Aside0.mk (keepF HF_13.out k_); clear a3 a4 a5 a8 O13 K13 HT_13 HLE_13 HF_13 o_ k_; have a3 := k4_ O14 3; have a4 := k2_ O14 4; have a5 := k8_ O14 5; have a8 := k3_ O14 8; have a10 := k3_ O14 10) | ((with_reducible refine gT 35 14 rfl ?_); refine wS 10 0 [.int .i64 a0_0, .int .i64 n1, .slice B3 nu b3_] O14 ?_; intro w15 o_ k_; obtain ⟨O15, K15⟩ := ok_ K14 o_ k_; have HT_15 := Aside0.mk (TabN.keep HT_14.out k_); have HLE_15 := Aside0.mk (Led.keep HLE_14.out k_); have HF_15 := Aside0.mk (keepF HF_14.out k_); clear a3 a4 a5 a8 a10 O14 K14 HT_14 HLE_14 HF_14 o_ k_; have a3 := k4_ O15 3; have a4 := k2_ O15 4; have a5 := k8_ O15 5; have a8 := k3_ O15 8; have a10 := k3_ O15 10) | ((with_reducible refine gC 21 rfl ?_); refine gP (some 94) Tryd.func21 #[pt g] ?_; obtain ⟨N_, on_, nn_, rr_, bb_⟩ := O15.out.frame1 (i := 0) rfl; refine (OPending_m nq HNQ.out on_ HS2.out.2.1 (HFP2.out.bnd (by decide))).mono ?_; rintro e_ w16 ⟨B4, b4_, rfl, oo_, kk_⟩; obtain ⟨o_, k_⟩ := bb_ _ _ _ kk_ oo_; refine ⟨_, rfl, ?_⟩; obtain ⟨O16, K16⟩ := ok_ K15 o_ k_; have HT_16 := Aside0.mk (TabN.keep HT_15.out k_); have HLE_16 := Aside0.mk (Led.keep HLE_15.out k_); have HF_16 := Aside0.mk (keepF HF_15.out k_); clear a3 a4 a5 a8 a10 O15 K15 HT_15 HLE_15 HF_15 o_ k_ oo_ kk_ on_ nn_ rr_ bb_; have a3 := k4_ O16 3; have a4 := k2_ O16 4; have a5 := k8_ O16 5; have a8 := k3_ O16 8; have a10 := k3_ O16 10))
         refine sP (n := 6) (S := d2_ gk (pt g) (pt gd) (c3_ gv (.int .i64 V.1) (.int .i64 V.2.1) (.string V.2.2))) (ds := []) (j2_ a4 (p3_ a8)) (fun hHeld => ?_)
         obtain ⟨w17, hw_⟩ : ∃ W, W = w16.drew := ⟨_, rfl⟩
         have o_ := O16.out.drew
         have k_ : KeepS N1 w16 w16.drew := KeepS.drew
         rw [← hw_] at o_ k_ hHeld ⊢
         clear hw_
         obtain ⟨O17, K17⟩ := ok_ K16 o_ k_
         have HT_17 := Aside0.mk (TabN.keep HT_16.out k_)
         have HLE_17 := Aside0.mk (Led.keep HLE_16.out k_)
         have HF_17 := Aside0.mk (keepF HF_16.out k_)
         clear a3 a4 a5 a8 a10 O16 K16 HT_16 HLE_16 HF_16 o_ k_
         have a3 := k4_ O17 3
         have a4 := k2_ O17 4
         have a5 := k8_ O17 5
         have a8 := k3_ O17 8
         have a10 := k3_ O17 10
         refine pP 0 (some 95) ?_
         refine pP 2 (some 97) ?_
         refine tP 1 (some 96) hHeld ?_
         refine tP 4 (some 99) hHeld ?_
         refine oP 3 (some 98) (fun K_ hK_ => ?_)
         refine hP Tryd.func25 #[pt g, .string a2] ?_
         obtain ⟨N_, on_, nn_, rr_, bb_⟩ := O17.out.frame1 (i := 0) rfl
         refine (ORead_e V a2 HV2.out HKS.out on_ HS2.out.2.2.2.2.1 HS2.out.2.2.2.2.2).mono ?_
         rintro e_ w18 ⟨rfl, oo_, kk_⟩
         obtain ⟨o_, k_⟩ := bb_ _ _ _ kk_ oo_
         refine ⟨_, rfl, ?_⟩
         obtain ⟨O18, K18⟩ := ok_ K17 o_ k_
         have HT_18 := Aside0.mk (TabN.keep HT_17.out k_)
         have HLE_18 := Aside0.mk (Led.keep HLE_17.out k_)
         have HF_18 := Aside0.mk (keepF HF_17.out k_)
         clear a3 a4 a5 a8 a10 O17 K17 HT_17 HLE_17 HF_17 o_ k_ oo_ kk_ on_ nn_ rr_ bb_
         have a3 := k4_ O18 3
         have a4 := k2_ O18 4
         have a5 := k8_ O18 5
         have a8 := k3_ O18 8
         have a10 := k3_ O18 10
         clear hHeld
         refine hK_.out _ _ (j2_ a4 (p3_ a8)) (fun hHeld => ?_)
         clear hK_ K_
         refine nP ?_
         refine pP 5 (some 100) ?_
         refine done_ (by kernel_rfl) ?_
         clear hHeld
         go_wp2
         obtain ⟨aq, B5, b5_, eQ, z0, z1, z2, hb5, _⟩ := cells_of (O18.out.nreads (i := 11) rfl).2.2 (np : Int) (by omega) (by have := HNQP.out; omega)
         cases eQ
         rw [HLAST.out] at z0 z1 z2 hb5
         rw [Int.toNat_natCast] at z0 z1 z2
         have z2 : w18.cell? ⟨(aq.add (np * 3)).block, (aq.add (np * 3)).off + 2, none⟩ = some (.slice B5 nu b5_) := by rw [← HNU.out]; exact z2
         have HB5 := Aside0.mk hb5
         clear hb5
         refine sP (n := 36) (S := fun w' => w'.cell? (aq.add (np * 3)) = some (.int .i64 a0_0) ∧ w'.cell? ⟨(aq.add (np * 3)).block, (aq.add (np * 3)).off + 1, none⟩ = some (.int .i64 n1) ∧ w'.cell? ⟨(aq.add (np * 3)).block, (aq.add (np * 3)).off + 2, none⟩ = some (.slice B5 nu b5_) ∧ w'.cell? ⟨gk, 0, none⟩ = some (pt g) ∧ w'.cell? ⟨gk, 1, none⟩ = some (pt gd) ∧ w'.cell? ⟨gr, 0, none⟩ = some (.int .i64 a0_0) ∧ w'.cell? ⟨gr, 1, none⟩ = some (.int .i64 n1) ∧ w'.cell? ⟨gr, 2, none⟩ = some (.slice B3 nu b3_)) (ds := []) ⟨z0, z1, z2, a4.1, a4.2.1, a10.1, a10.2.1, a10.2.2.1⟩ (fun hHeld => ?_)
         obtain ⟨w19, hw_⟩ : ∃ W, W = w18.drew := ⟨_, rfl⟩
         have o_ := O18.out.drew
         have k_ : KeepS N1 w18 w18.drew := KeepS.drew
         rw [← hw_] at o_ k_ hHeld ⊢
         clear hw_
         obtain ⟨O19, K19⟩ := ok_ K18 o_ k_
         have HT_19 := Aside0.mk (TabN.keep HT_18.out k_)
         have HLE_19 := Aside0.mk (Led.keep HLE_18.out k_)
         have HF_19 := Aside0.mk (keepF HF_18.out k_)
         clear a3 a4 a5 a8 a10 O18 K18 HT_18 HLE_18 HF_18 o_ k_
         have a3 := k4_ O19 3
         have a4 := k2_ O19 4
         have a5 := k8_ O19 5
         have a8 := k3_ O19 8
         have a10 := k3_ O19 10
         refine pP 0 (some 101) ?_
         refine pP 1 (some 102) ?_
         refine pP 2 (some 103) ?_
         refine pP 3 (some 104) ?_
         refine pP 6 (some 107) ?_
         refine pP 7 (some 108) ?_
         refine tP 4 (some 105) hHeld ?_
         refine pP 5 (some 106) ?_
         refine oP 8 (some 109) (fun K_ hK_ => ?_)
         have z0 := hHeld.1
         have z1 := hHeld.2.1
         have z2 := hHeld.2.2.1
         refine hP Tryd.func22 #[.agg #[.int .i64 0, .int .i64 0, .slice B3 nu b3_], .agg #[.int .i64 0, .int .i64 0, .slice B1 nu b1_]] ?_
         refine (same_upd 0 0 O19.out (i := 9) (j := 6) rfl rfl HSZ.out.2.2.2.1).mono ?_
         rintro e_ w20 ⟨rfl, hb_⟩
         have z0 := keepB hb_ z0
         have z1 := keepB hb_ z1
         have z2 := keepB hb_ z2
         refine ⟨_, rfl, ?_⟩
         have o_ := O19.out.below hb_
         have k_ := KeepS.of_below (N := N1) hb_
         obtain ⟨O20, K20⟩ := ok_ K19 o_ k_
         have HT_20 := Aside0.mk (TabN.keep HT_19.out k_)
         have HLE_20 := Aside0.mk (Led.keep HLE_19.out k_)
         have HF_20 := Aside0.mk (keepF HF_19.out k_)
         clear a3 a4 a5 a8 a10 O19 K19 HT_19 HLE_19 HF_19 o_ k_ hb_
         have a3 := k4_ O20 3
         have a4 := k2_ O20 4
         have a5 := k8_ O20 5
         have a8 := k3_ O20 8
         have a10 := k3_ O20 10
         clear hHeld
         refine hK_.out _ _ ⟨z0, z1, z2, a4.1, a4.2.1, a10.1, a10.2.1, a10.2.2.1⟩ (fun hHeld => ?_)
         clear hK_ K_
         refine nP ?_
         refine pP 9 (some 110) ?_
         refine pP 10 (some 111) ?_
         refine pP 11 (some 112) ?_
         refine tP 12 (some 113) hHeld ?_
         refine oP 13 (some 114) (fun K_ hK_ => ?_)
         have z0 := hHeld.1
         have z1 := hHeld.2.1
         have z2 := hHeld.2.2.1
         refine hP Tryd.func23 #[pt g] ?_
         obtain ⟨N_, on_, nn_, rr_, bb_⟩ := O20.out.frame1 (i := 0) rfl
         refine (OOpen_m 0 rfl on_ (by decide)).mono ?_
         rintro e_ w21 ⟨B6, b6_, rfl, oo_, kk_⟩
         obtain ⟨o_, k_⟩ := bb_ _ _ _ kk_ oo_
         have z0 := keep3 (rr_ 11 _ (by decide) rfl) kk_ z0 (add_blk _ _)
         have z1 := keep3 (rr_ 11 _ (by decide) rfl) kk_ z1 (add_blk _ _)
         have z2 := keep3 (rr_ 11 _ (by decide) rfl) kk_ z2 (add_blk _ _)
         refine ⟨_, rfl, ?_⟩
         obtain ⟨O21, K21⟩ := ok_ K20 o_ k_
         have HT_21 := Aside0.mk (TabN.keep HT_20.out k_)
         have HLE_21 := Aside0.mk (Led.keep HLE_20.out k_)
         have HF_21 := Aside0.mk (keepF HF_20.out k_)
         clear a3 a4 a5 a8 a10 O20 K20 HT_20 HLE_20 HF_20 o_ k_ oo_ kk_ on_ nn_ rr_ bb_
         have a3 := k4_ O21 3
         have a4 := k2_ O21 4
         have a5 := k8_ O21 5
         have a8 := k3_ O21 8
         have a10 := k3_ O21 10
         clear hHeld
         refine hK_.out _ _ ⟨z0, z1, z2, a4.1, a4.2.1, a10.1, a10.2.1, a10.2.2.1⟩ (fun hHeld => ?_)
         clear hK_ K_
         refine nP ?_
         refine pP 14 (some 115) ?_
         refine pP 15 (some 116) ?_
         refine pP 16 (some 117) ?_
         refine pP 17 (some 118) ?_
         refine pP 18 (some 119) ?_
         refine pP 19 (some 120) ?_
         refine pP 20 (some 121) ?_
         refine pP 21 (some 122) ?_
         refine pP 22 (some 123) ?_
         refine pP 23 (some 124) ?_
         refine pP 24 (some 125) ?_
         refine pP 25 (some 126) ?_
         refine pP 26 (some 127) ?_
         refine pP 27 (some 128) ?_
         refine pP 28 (some 129) ?_
         refine pP 29 (some 130) ?_
         refine tP 30 (some 131) hHeld ?_
         refine tP 31 (some 132) hHeld ?_
         refine oP 32 (some 133) (fun K_ hK_ => ?_)
         have z0 := hHeld.1
         have z1 := hHeld.2.1
         have z2 := hHeld.2.2.1
         refine hP Tryd.func22 #[.agg #[.int .i64 a0_0, .int .i64 n1, .slice B5 nu b5_], .agg #[.int .i64 a0_0, .int .i64 n1, .slice B3 nu b3_]] ?_
         refine (same_last HNU.out (by have q_ := in_C (O21.out.nreads (i := 11) rfl).2.2 (np : Int) (by omega) (by have := HNQP.out; omega) z2; rw [HLAST.out] at q_; exact q_) HB5.out O21.out (j := 9) rfl HSZ.out.2.2.2.1).mono ?_
         rintro e_ w22 ⟨rfl, hb_⟩
         have z0 := keepB hb_ z0
         have z1 := keepB hb_ z1
         have z2 := keepB hb_ z2
         refine ⟨_, rfl, ?_⟩
         have o_ := O21.out.below hb_
         have k_ := KeepS.of_below (N := N1) hb_
         obtain ⟨O22, K22⟩ := ok_ K21 o_ k_
         have HT_22 := Aside0.mk (TabN.keep HT_21.out k_)
         have HLE_22 := Aside0.mk (Led.keep HLE_21.out k_)
         have HF_22 := Aside0.mk (keepF HF_21.out k_)
         clear a3 a4 a5 a8 a10 O21 K21 HT_21 HLE_21 HF_21 o_ k_ hb_
         have a3 := k4_ O22 3
         have a4 := k2_ O22 4
         have a5 := k8_ O22 5
         have a8 := k3_ O22 8
         have a10 := k3_ O22 10
         clear hHeld
         refine hK_.out _ _ ⟨z0, z1, z2, a4.1, a4.2.1, a10.1, a10.2.1, a10.2.2.1⟩ (fun hHeld => ?_)
         clear hK_ K_
         refine nP ?_
         refine pP 33 (some 134) ?_
         refine pP 34 (some 135) ?_
         refine pP 35 (some 136) ?_
         refine done_ (by kernel_rfl) ?_
         clear hHeld
         go_wp2
         go_roundw
         case rel => exact ⟨x + 1, N1, K, P2, L2, [], rK, Kd', by have := HX.out; omega, by have := HX.out; omega, int_eq17 (by unfold wrap64; have := HX.out; omega), ⟨HI2.out⟩, HNN, HLE_22, ⟨by have := HKD.out; omega⟩, ⟨O22.out.take 5⟩, ⟨KA.out.trans (K22.out.mono HNN.out)⟩⟩
         case measure => have := HX.out; simp [intOf]; omega
        ·obtain ⟨E, hE2⟩ : ∃ E, pushE a0_0 jm pp L P U = E := ⟨_, rfl⟩
         have HPE := Aside0.mk hE2
         have HE0 : Aside0 (E ≠ 0) := ⟨by rw [← hE2]; exact hE⟩
         have dE : (E != 0) = true := bne_iff_ne.mpr HE0.out
         have dE2 : (E == 0) = false := beq_eq_false_iff_ne.mpr HE0.out
         clear hE hE2
         go_wp2_with (first | ((with_reducible refine gC 31 rfl ?_); refine gP (some 89) Tryd.func31 #[pt g] ?_; obtain ⟨N_, on_, nn_, rr_, bb_⟩ := O12.out.frameL [0, 1] (by decide) (by simp); refine (CPush_n E HPE.out HE0.out on_ HSZ.out.2.2.2.1 HSZ.out.2.2.1 HSZ.out.2.1).mono ?_; rintro e_ w13 ⟨B3, b3_, rfl, oo_, kk_⟩; obtain ⟨o_, k_⟩ := bb_ _ [CliO g (pt gp) a0_0 a0_1 pp K P U, Obj3 138 gp a0_0 jm L] [nrow kU7 tU7 (.slice B3 0 b3_) []] rfl kk_ oo_; refine ⟨_, rfl, ?_⟩; obtain ⟨O13, K13⟩ := ok_ K12 o_ k_; have HT_13 := Aside0.mk (TabN.keep HT_12.out k_); have HLE_13 := Aside0.mk (Led.keep HLE_12.out k_); have HF_13 := Aside0.mk (keepF HF_12.out k_); clear a3 a4 a5 a8 O12 K12 HT_12 HLE_12 HF_12 o_ k_ oo_ kk_ on_ nn_ rr_ bb_; have a3 := k4_ O13 3; have a4 := k2_ O13 4; have a5 := k8_ O13 5; have a8 := k3_ O13 8) | ((with_reducible refine gD 14 rfl ?_); refine bP 14 #[.int .i64 0, .int .i64 0, .slice none 0 0] 35 O13.out ?_; intro gr w14 o_ k_; obtain ⟨O14, K14⟩ := ok_ K13 o_ k_; have HT_14 := Aside0.mk (TabN.keep HT_13.out k_); have HLE_14 := Aside0.mk (Led.keep HLE_13.out k_); have HF_14 := Aside0.mk (keepF HF_13.out k_); clear a3 a4 a5 a8 O13 K13 HT_13 HLE_13 HF_13 o_ k_; have a3 := k4_ O14 3; have a4 := k2_ O14 4; have a5 := k8_ O14 5; have a8 := k3_ O14 8; have a10 := k3_ O14 10) | ((with_reducible refine gT 35 14 rfl ?_); refine wS 10 0 [.int .i64 0, .int .i64 0, .slice B3 0 b3_] O14 ?_; intro w15 o_ k_; obtain ⟨O15, K15⟩ := ok_ K14 o_ k_; have HT_15 := Aside0.mk (TabN.keep HT_14.out k_); have HLE_15 := Aside0.mk (Led.keep HLE_14.out k_); have HF_15 := Aside0.mk (keepF HF_14.out k_); clear a3 a4 a5 a8 a10 O14 K14 HT_14 HLE_14 HF_14 o_ k_; have a3 := k4_ O15 3; have a4 := k2_ O15 4; have a5 := k8_ O15 5; have a8 := k3_ O15 8; have a10 := k3_ O15 10) | ((with_reducible refine gC 21 rfl ?_); refine gP (some 94) Tryd.func21 #[pt g] ?_; obtain ⟨N_, on_, nn_, rr_, bb_⟩ := O15.out.frame1 (i := 0) rfl; refine (OPending_m np HNP.out on_ HSZ.out.2.1 (HFP.out.bnd (by decide))).mono ?_; rintro e_ w16 ⟨B4, b4_, rfl, oo_, kk_⟩; obtain ⟨o_, k_⟩ := bb_ _ _ _ kk_ oo_; refine ⟨_, rfl, ?_⟩; obtain ⟨O16, K16⟩ := ok_ K15 o_ k_; have HT_16 := Aside0.mk (TabN.keep HT_15.out k_); have HLE_16 := Aside0.mk (Led.keep HLE_15.out k_); have HF_16 := Aside0.mk (keepF HF_15.out k_); clear a3 a4 a5 a8 a10 O15 K15 HT_15 HLE_15 HF_15 o_ k_ oo_ kk_ on_ nn_ rr_ bb_; have a3 := k4_ O16 3; have a4 := k2_ O16 4; have a5 := k8_ O16 5; have a8 := k3_ O16 8; have a10 := k3_ O16 10))
         refine sP (n := 6) (S := d2_ gk (pt g) (pt gd) (c3_ gv (.int .i64 V.1) (.int .i64 V.2.1) (.string V.2.2))) (ds := []) (j2_ a4 (p3_ a8)) (fun hHeld => ?_)
         obtain ⟨w17, hw_⟩ : ∃ W, W = w16.drew := ⟨_, rfl⟩
         have o_ := O16.out.drew
         have k_ : KeepS N1 w16 w16.drew := KeepS.drew
         rw [← hw_] at o_ k_ hHeld ⊢
         clear hw_
         obtain ⟨O17, K17⟩ := ok_ K16 o_ k_
         have HT_17 := Aside0.mk (TabN.keep HT_16.out k_)
         have HLE_17 := Aside0.mk (Led.keep HLE_16.out k_)
         have HF_17 := Aside0.mk (keepF HF_16.out k_)
         clear a3 a4 a5 a8 a10 O16 K16 HT_16 HLE_16 HF_16 o_ k_
         have a3 := k4_ O17 3
         have a4 := k2_ O17 4
         have a5 := k8_ O17 5
         have a8 := k3_ O17 8
         have a10 := k3_ O17 10
         refine pP 0 (some 95) ?_
         refine pP 2 (some 97) ?_
         refine tP 1 (some 96) hHeld ?_
         refine tP 4 (some 99) hHeld ?_
         refine oP 3 (some 98) (fun K_ hK_ => ?_)
         refine hP Tryd.func25 #[pt g, .string a2] ?_
         obtain ⟨N_, on_, nn_, rr_, bb_⟩ := O17.out.frame1 (i := 0) rfl
         refine (ORead_e V a2 HV.out HKS.out on_ HSZ.out.2.2.2.2.1 HSZ.out.2.2.2.2.2).mono ?_
         rintro e_ w18 ⟨rfl, oo_, kk_⟩
         obtain ⟨o_, k_⟩ := bb_ _ _ _ kk_ oo_
         refine ⟨_, rfl, ?_⟩
         obtain ⟨O18, K18⟩ := ok_ K17 o_ k_
         have HT_18 := Aside0.mk (TabN.keep HT_17.out k_)
         have HLE_18 := Aside0.mk (Led.keep HLE_17.out k_)
         have HF_18 := Aside0.mk (keepF HF_17.out k_)
         clear a3 a4 a5 a8 a10 O17 K17 HT_17 HLE_17 HF_17 o_ k_ oo_ kk_ on_ nn_ rr_ bb_
         have a3 := k4_ O18 3
         have a4 := k2_ O18 4
         have a5 := k8_ O18 5
         have a8 := k3_ O18 8
         have a10 := k3_ O18 10
         clear hHeld
         refine hK_.out _ _ (j2_ a4 (p3_ a8)) (fun hHeld => ?_)
         clear hK_ K_
         refine nP ?_
         refine pP 5 (some 100) ?_
         refine done_ (by kernel_rfl) ?_
         clear hHeld
         go_wp2
         refine sP (n := 36) (S := d2_ gk (pt g) (pt gd) (c3_ gr (.int .i64 0) (.int .i64 0) (.slice B3 0 b3_))) (ds := []) (j2_ a4 (p3_ a10)) (fun hHeld => ?_)
         obtain ⟨w19, hw_⟩ : ∃ W, W = w18.drew := ⟨_, rfl⟩
         have o_ := O18.out.drew
         have k_ : KeepS N1 w18 w18.drew := KeepS.drew
         rw [← hw_] at o_ k_ hHeld ⊢
         clear hw_
         obtain ⟨O19, K19⟩ := ok_ K18 o_ k_
         have HT_19 := Aside0.mk (TabN.keep HT_18.out k_)
         have HLE_19 := Aside0.mk (Led.keep HLE_18.out k_)
         have HF_19 := Aside0.mk (keepF HF_18.out k_)
         clear a3 a4 a5 a8 a10 O18 K18 HT_18 HLE_18 HF_18 o_ k_
         have a3 := k4_ O19 3
         have a4 := k2_ O19 4
         have a5 := k8_ O19 5
         have a8 := k3_ O19 8
         have a10 := k3_ O19 10
         refine pP 0 (some 101) ?_
         refine pP 1 (some 102) ?_
         refine pP 2 (some 103) ?_
         refine pS 3 (some 104) ?_
         refine pS 6 (some 107) ?_
         refine pS 7 (some 108) ?_
         refine tS 4 (some 105) hHeld ?_
         refine pS 5 (some 106) ?_
         refine oP 8 (some 109) (fun K_ hK_ => ?_)
         refine skip17 (by rfl) ?_
         clear hHeld
         refine hK_.out _ _ (j2_ a4 (p3_ a10)) (fun hHeld => ?_)
         clear hK_ K_
         refine nP ?_
         refine pS 9 (some 110) ?_
         refine pS 10 (some 111) ?_
         refine pS 11 (some 112) ?_
         refine tS 12 (some 113) hHeld ?_
         refine oP 13 (some 114) (fun K_ hK_ => ?_)
         refine skip17 (by rfl) ?_
         clear hHeld
         refine hK_.out _ _ (j2_ a4 (p3_ a10)) (fun hHeld => ?_)
         clear hK_ K_
         refine nP ?_
         refine pS 14 (some 115) ?_
         refine pS 15 (some 116) ?_
         refine pS 16 (some 117) ?_
         refine pS 17 (some 118) ?_
         refine pS 18 (some 119) ?_
         refine pS 19 (some 120) ?_
         refine pS 20 (some 121) ?_
         refine pS 21 (some 122) ?_
         refine pS 22 (some 123) ?_
         refine pS 23 (some 124) ?_
         refine pS 24 (some 125) ?_
         refine pS 25 (some 126) ?_
         refine pS 26 (some 127) ?_
         refine pS 27 (some 128) ?_
         refine pS 28 (some 129) ?_
         refine pS 29 (some 130) ?_
         refine tS 30 (some 131) hHeld ?_
         refine tS 31 (some 132) hHeld ?_
         refine oP 32 (some 133) (fun K_ hK_ => ?_)
         refine skip17 (by rfl) ?_
         clear hHeld
         refine hK_.out _ _ (j2_ a4 (p3_ a10)) (fun hHeld => ?_)
         clear hK_ K_
         refine nP ?_
         refine pS 33 (some 134) ?_
         refine pS 34 (some 135) ?_
         refine pP 35 (some 136) ?_
         refine done_ (by kernel_rfl) ?_
         clear hHeld
         go_wp2_with (first | ((with_reducible refine gC 23 rfl ?_); refine gate_guard (by rfl) ?_; refine gP (some 148) Tryd.func23 #[pt g] ?_; obtain ⟨N_, on_, nn_, rr_, bb_⟩ := O19.out.frame1 (i := 0) rfl; refine (OOpen_m nu HNU.out on_ HSZ.out.2.2.2.1).mono ?_; rintro e_ w20 ⟨B6, b6_, rfl, oo_, kk_⟩; obtain ⟨o_, k_⟩ := bb_ _ _ _ kk_ oo_; refine ⟨_, rfl, ?_⟩; obtain ⟨O20, K20⟩ := ok_ K19 o_ k_; have HT_20 := Aside0.mk (TabN.keep HT_19.out k_); have HLE_20 := Aside0.mk (Led.keep HLE_19.out k_); have HF_20 := Aside0.mk (keepF HF_19.out k_); clear a3 a4 a5 a8 a10 O19 K19 HT_19 HLE_19 HF_19 o_ k_ oo_ kk_ on_ nn_ rr_ bb_; have a3 := k4_ O20 3; have a4 := k2_ O20 4; have a5 := k8_ O20 5; have a8 := k3_ O20 8; have a10 := k3_ O20 10))
         go_roundw
         case rel => exact ⟨x + 1, N1, K, P, L, U, rK, Kd', by have := HX.out; omega, by have := HX.out; omega, int_eq17 (by unfold wrap64; have := HX.out; omega), ⟨HI.out.next (by omega)⟩, HNN, HLE_20, ⟨by have := HKD.out; omega⟩, ⟨O20.out.take 5⟩, ⟨KA.out.trans (K20.out.mono HNN.out)⟩⟩
         case measure => have := HX.out; simp [intOf]; omega
       ·have da2 : (a.f0 == 2) = false := beq_eq_false_iff_ne.mpr ha2
        have HA2 := Aside0.mk ha2
        clear ha2
        go_wp2_with (first | ((with_reducible refine gC 18 rfl ?_); refine gP (some 56) Tryd.func18 #[.agg #[pt g, pt gd], .agg #[.int .i64 a.f0, .string a.f1.f0, .int .i64 a.f1.f1, .int .i64 a.f1.f2, .string a.f1.f3, .int .i64 a.f2.f0, .int .i64 a.f2.f1, .slice A7 a.f2.f2.length c7]] ?_; obtain ⟨N_, on_, nn_, rr_, bb_⟩ := O12.out.frameL [0, 1, 2] (by decide) (by simp); refine (Do_un a A7 c7 on_ (Led.mono HLE_12.out nn_) HI.out (by have := HX.out; omega) HKD.out (Kd.F_mono HF_12.out nn_) HC7.out HK.out HA1.out HA2.out).mono ?_; rintro e_ w13 ⟨eb_, K2, P2, L2, U2, rK2, Kd2, rfl, hst_, hk2_, hl_, oo_, kk_⟩; obtain ⟨o_, k_⟩ := bb_ _ [CliO g (pt gp) a0_0 a0_1 pp K2 P2 U2, Obj3 138 gp a0_0 jm L2, DocO gj gd a0_0 jm a0_0 a0_1 pp [] rK2 [] []] [] rfl kk_ oo_; refine ⟨_, rfl, ?_⟩; have HI2 := Aside0.mk (HI.out.step hst_ HK.out HX.out.1); have HK2 := Aside0.mk hk2_; have HTO := Aside0.mk hl_; obtain ⟨O13, K13⟩ := ok_ K12 o_ k_; have HT_13 := Aside0.mk (TabN.keep HT_12.out k_); have HLE_13 := Aside0.mk (Led.keep HLE_12.out k_); have HF_13 := Aside0.mk (keepF HF_12.out k_); clear a3 a4 a5 a8 O12 K12 HT_12 HLE_12 HF_12; have a3 := k4_ O13 3; have a4 := k2_ O13 4; have a5 := k8_ O13 5; have a8 := k3_ O13 8; have HLn : Aside0 (Led N1 w13 [] rK2 [] [] Kd2 []) := ⟨HTO.out N1 _ HLE_13.out HF_13.out⟩; clear o_ k_ oo_ kk_ on_ nn_ rr_ bb_ hst_ hl_ hk2_))
        go_roundw
        case rel => exact ⟨x + 1, N1, K2, P2, L2, U2, rK2, Kd2, by have := HX.out; omega, by have := HX.out; omega, int_eq17 (by unfold wrap64; have := HX.out; omega), ⟨HI2.out⟩, HNN, HLn, ⟨HK2.out⟩, ⟨O13.out.take 5⟩, ⟨KA.out.trans (K13.out.mono HNN.out)⟩⟩
        case measure => have := HX.out; simp [intOf]; omega
    ·have hd : decide (x < (l0.length : Int)) = false := decide_eq_false hlt
     clear hlt hx0 hx1 h50
     have O7 : Aside0 (Own N1 wr [CliO g (pt gp) a0_0 a0_1 pp K P U, Obj3 138 gp a0_0 jm L, DocO gj gd a0_0 jm a0_0 a0_1 pp [] rK [] [], cells gx #[.int .i64 a0_0, .int .i64 a0_1, .int .i64 a0_2, .int .i64 a0_3] 22, cells gk #[pt g, pt gd] 27]) := ⟨OA.out⟩
     have K7 : Aside0 (KeepS N1 wr wr) := ⟨KeepS.refl _ _⟩
     clear OA
     go_wp2
     go_ret
     exact ⟨rfl, KA.out.below (Nat.le_refl _) (fun k hk => by rw [HN.out]; exact hk)⟩
end Go.Proofs.YtjdenpmaianmfaaDoor.J
