/- Contracts of the seat's functions, printed: if the Lean function comes to a value, the Go function returns it. -/
import Derived.Test.YtjdenpmaianmfaaDoorYModelReadsSq
import Derived.Test.YtjdenpmaianmfaaDoorYModelReadsSpell
import Derived.Test.YtjdenpmaianmfaaDoorYModelReadsQ10
namespace Go.Proofs.YtjdenpmaianmfaaDoor.Q
open Go.RowKit Go.Proofs.YtjdenpmaianmfaaDoorW.PrintWords Go.Proofs.YtjdenpmaianmfaaDoorW.PrintLast Go.Proofs.YtjdenpmaianmfaaDoorW.PrintMore
attribute [local go_sem] max2_int min2_int max_two min_two max_three min_three max_four min_four
set_option maxHeartbeats 16000000
set_option maxRecDepth 100000
set_option linter.unusedVariables false
set_option linter.unusedSimpArgs false
def sequencer_in.f (a0 : Int) (a1 : Int) (a2 : Int) : Option (Bool) := if a0 ≥ a1 then (some (decide (a0 ≤ a2))) else (some false)
theorem sequencer_in.calls (a0 : Int) (a1 : Int) (a2 : Int) (r : Bool) (w : World) (h : sequencer_in.f a0 a1 a2 = some r) :
  Calls Tryd.prog 99 #[.int .i64 a0, .int .i64 a1, .int .i64 a2] w fun e w' => e = .returned (.bool r) ∧ Drawn0 w w' := by
 have H : (if a0 ≥ a1 then (some (decide (a0 ≤ a2))) else (some false)) = some r := h
 clear h
 by_cases c4 : a0 ≥ a1
 ·rw [if_pos c4] at H
  have c4b0 : decide (a1 ≤ a0) = true := decide_eq_true c4
  clear c4
  obtain rfl := Option.some.inj H
  go_enter Tryd.func99, Tryd.ntmps99
  go_wp2
  go_ret
  exact ⟨es_, by repeat (first | exact Drawn0.refl _ | apply Drawn0.step)⟩
 ·rw [if_neg c4] at H
  have c4b0 : decide (a1 ≤ a0) = false := decide_eq_false c4
  clear c4
  obtain rfl := Option.some.inj H
  go_enter Tryd.func99, Tryd.ntmps99
  go_wp2
  go_ret
  exact ⟨es_, by repeat (first | exact Drawn0.refl _ | apply Drawn0.step)⟩
def sequencer_May.f (a0_0 : Int) (a0_1 : Int) (a0_2 : Int) (a0_3 : Int) (a0_4 : Int) (a0_5 : Int) : Option (Int) := (sequencer_in.f a0_0 1 64).bind fun t262 => (if t262 = true then ((sequencer_in.f a0_1 1 16).bind fun t263 => (if t263 = true then ((sequencer_in.f a0_2 1 16).bind fun t264 => (if t264 = true then ((sequencer_in.f a0_3 1 16).bind fun t265 => (if t265 = true then ((sequencer_in.f a0_4 64 1400).bind fun t266 => (if t266 = true then ((sequencer_in.f a0_5 1 1099511627776).bind fun t267 => (if t267 = true then (some 0) else (some 1))) else (some 1))) else (some 1))) else (some 1))) else (some 1))) else (some 1))
theorem sequencer_May.calls (a0_0 : Int) (a0_1 : Int) (a0_2 : Int) (a0_3 : Int) (a0_4 : Int) (a0_5 : Int) (r : Int) (w : World) (h : sequencer_May.f a0_0 a0_1 a0_2 a0_3 a0_4 a0_5 = some r) :
  Calls Tryd.prog 83 #[.agg #[.int .i64 a0_0, .int .i64 a0_1, .int .i64 a0_2, .int .i64 a0_3, .int .i64 a0_4, .int .i64 a0_5]] w fun e w' => e = .returned (.int .i64 r) ∧ Below w.heap.size w w' := by
 have hu68 := Tryd.underlying68
 have HB := Aside0.mk (Below.refl w.heap.size w)
 have H : ((sequencer_in.f a0_0 1 64).bind fun t262 => (if t262 = true then ((sequencer_in.f a0_1 1 16).bind fun t263 => (if t263 = true then ((sequencer_in.f a0_2 1 16).bind fun t264 => (if t264 = true then ((sequencer_in.f a0_3 1 16).bind fun t265 => (if t265 = true then ((sequencer_in.f a0_4 64 1400).bind fun t266 => (if t266 = true then ((sequencer_in.f a0_5 1 1099511627776).bind fun t267 => (if t267 = true then (some 0) else (some 1))) else (some 1))) else (some 1))) else (some 1))) else (some 1))) else (some 1))) = some r := h
 clear h
 replace H := Option.bind_eq_some_iff.mp H
 obtain ⟨t262, A20, H⟩ := H
 replace H : (if t262 = true then ((sequencer_in.f a0_1 1 16).bind fun t263 => (if t263 = true then ((sequencer_in.f a0_2 1 16).bind fun t264 => (if t264 = true then ((sequencer_in.f a0_3 1 16).bind fun t265 => (if t265 = true then ((sequencer_in.f a0_4 64 1400).bind fun t266 => (if t266 = true then ((sequencer_in.f a0_5 1 1099511627776).bind fun t267 => (if t267 = true then (some 0) else (some 1))) else (some 1))) else (some 1))) else (some 1))) else (some 1))) else (some 1)) = some r := H
 have A2 := Aside0.mk A20
 clear A20
 by_cases c3 : t262 = true
 ·subst c3
  have H1 : ((sequencer_in.f a0_1 1 16).bind fun t263 => (if t263 = true then ((sequencer_in.f a0_2 1 16).bind fun t264 => (if t264 = true then ((sequencer_in.f a0_3 1 16).bind fun t265 => (if t265 = true then ((sequencer_in.f a0_4 64 1400).bind fun t266 => (if t266 = true then ((sequencer_in.f a0_5 1 1099511627776).bind fun t267 => (if t267 = true then (some 0) else (some 1))) else (some 1))) else (some 1))) else (some 1))) else (some 1))) = some r := by rw [if_pos rfl] at H; exact H
  clear H
  have H := H1
  clear H1
  replace H := Option.bind_eq_some_iff.mp H
  obtain ⟨t263, A40, H⟩ := H
  replace H : (if t263 = true then ((sequencer_in.f a0_2 1 16).bind fun t264 => (if t264 = true then ((sequencer_in.f a0_3 1 16).bind fun t265 => (if t265 = true then ((sequencer_in.f a0_4 64 1400).bind fun t266 => (if t266 = true then ((sequencer_in.f a0_5 1 1099511627776).bind fun t267 => (if t267 = true then (some 0) else (some 1))) else (some 1))) else (some 1))) else (some 1))) else (some 1)) = some r := H
  have A4 := Aside0.mk A40
  clear A40
  by_cases c5 : t263 = true
  ·subst c5
   have H1 : ((sequencer_in.f a0_2 1 16).bind fun t264 => (if t264 = true then ((sequencer_in.f a0_3 1 16).bind fun t265 => (if t265 = true then ((sequencer_in.f a0_4 64 1400).bind fun t266 => (if t266 = true then ((sequencer_in.f a0_5 1 1099511627776).bind fun t267 => (if t267 = true then (some 0) else (some 1))) else (some 1))) else (some 1))) else (some 1))) = some r := by rw [if_pos rfl] at H; exact H
   clear H
   have H := H1
   clear H1
   replace H := Option.bind_eq_some_iff.mp H
   obtain ⟨t264, A60, H⟩ := H
   replace H : (if t264 = true then ((sequencer_in.f a0_3 1 16).bind fun t265 => (if t265 = true then ((sequencer_in.f a0_4 64 1400).bind fun t266 => (if t266 = true then ((sequencer_in.f a0_5 1 1099511627776).bind fun t267 => (if t267 = true then (some 0) else (some 1))) else (some 1))) else (some 1))) else (some 1)) = some r := H
   have A6 := Aside0.mk A60
   clear A60
   by_cases c7 : t264 = true
   ·subst c7
    have H1 : ((sequencer_in.f a0_3 1 16).bind fun t265 => (if t265 = true then ((sequencer_in.f a0_4 64 1400).bind fun t266 => (if t266 = true then ((sequencer_in.f a0_5 1 1099511627776).bind fun t267 => (if t267 = true then (some 0) else (some 1))) else (some 1))) else (some 1))) = some r := by rw [if_pos rfl] at H; exact H
    clear H
    have H := H1
    clear H1
    replace H := Option.bind_eq_some_iff.mp H
    obtain ⟨t265, A80, H⟩ := H
    replace H : (if t265 = true then ((sequencer_in.f a0_4 64 1400).bind fun t266 => (if t266 = true then ((sequencer_in.f a0_5 1 1099511627776).bind fun t267 => (if t267 = true then (some 0) else (some 1))) else (some 1))) else (some 1)) = some r := H
    have A8 := Aside0.mk A80
    clear A80
    by_cases c9 : t265 = true
    ·subst c9
     have H1 : ((sequencer_in.f a0_4 64 1400).bind fun t266 => (if t266 = true then ((sequencer_in.f a0_5 1 1099511627776).bind fun t267 => (if t267 = true then (some 0) else (some 1))) else (some 1))) = some r := by rw [if_pos rfl] at H; exact H
     clear H
     have H := H1
     clear H1
     replace H := Option.bind_eq_some_iff.mp H
     obtain ⟨t266, A100, H⟩ := H
     replace H : (if t266 = true then ((sequencer_in.f a0_5 1 1099511627776).bind fun t267 => (if t267 = true then (some 0) else (some 1))) else (some 1)) = some r := H
     have A10 := Aside0.mk A100
     clear A100
     by_cases c11 : t266 = true
     ·subst c11
      have H1 : ((sequencer_in.f a0_5 1 1099511627776).bind fun t267 => (if t267 = true then (some 0) else (some 1))) = some r := by rw [if_pos rfl] at H; exact H
      clear H
      have H := H1
      clear H1
      replace H := Option.bind_eq_some_iff.mp H
      obtain ⟨t267, A120, H⟩ := H
      replace H : (if t267 = true then (some 0) else (some 1)) = some r := H
      have A12 := Aside0.mk A120
      clear A120
      by_cases c13 : t267 = true
      ·subst c13
       have H1 : (some 0) = some r := by rw [if_pos rfl] at H; exact H
       clear H
       have H := H1
       clear H1
       obtain rfl := Option.some.inj H
       go_enter Tryd.func83, Tryd.ntmps83
       go_wp2_with (first | ((with_reducible refine gD 1 rfl ?_); refine box_event rfl (N := 1) rfl (cs := #[.int .i64 a0_0, .int .i64 a0_1, .int .i64 a0_2, .int .i64 a0_3, .int .i64 a0_4, .int .i64 a0_5]) (t := 68) gs_ ?_; intro gb261 hg w14 hbox hb; have n0_ := Aside0.mk (below_step (bl_ HB) hb); have n1_ := Aside0.mk (hbox); have n2_ := Aside0.mk ((by rw [hg]; exact (below_size (bl_ HB)) : w.heap.size ≤ gb261)); have n3_ := Aside0.mk ((by rw [hg]; exact (below_size (bl_ HB)) : w.heap.size ≤ gb261)); clear HB; have HB := n0_; have BK261 := n1_; have GW261 := n2_; have GE261 := n3_; clear n0_ n1_ n2_ n3_; clear hb hbox hg; have hcz15_0 : w14.cell? ⟨gb261, 0, none⟩ = some (.int .i64 a0_0) := (blk_cell BK261.out 0).trans rfl; have hcz15_1 : w14.cell? ⟨gb261, 1, none⟩ = some (.int .i64 a0_1) := (blk_cell BK261.out 1).trans rfl; have hcz15_2 : w14.cell? ⟨gb261, 2, none⟩ = some (.int .i64 a0_2) := (blk_cell BK261.out 2).trans rfl; have hcz15_3 : w14.cell? ⟨gb261, 3, none⟩ = some (.int .i64 a0_3) := (blk_cell BK261.out 3).trans rfl; have hcz15_4 : w14.cell? ⟨gb261, 4, none⟩ = some (.int .i64 a0_4) := (blk_cell BK261.out 4).trans rfl; have hcz15_5 : w14.cell? ⟨gb261, 5, none⟩ = some (.int .i64 a0_5) := (blk_cell BK261.out 5).trans rfl; have hfz15_0 := blk_frozen BK261.out 0; have hfz15_1 := blk_frozen BK261.out 1; have hfz15_2 := blk_frozen BK261.out 2; have hfz15_3 := blk_frozen BK261.out 3; have hfz15_4 := blk_frozen BK261.out 4; have hfz15_5 := blk_frozen BK261.out 5) | ((with_reducible refine gC 99 rfl ?_); refine goesL_ (some 5) rfl rfl Tryd.func99 (by kernel_rfl) rfl #[.int .i64 a0_0, .int .i64 1, .int .i64 64] rfl am_ ?_; (with_reducible refine (sequencer_in.calls a0_0 1 64 true _ A2.out).mono ?_); rintro e w' ⟨rfl, ⟨nd, rfl⟩⟩; refine ⟨_, rfl, ?_⟩) | (go_at_call 99; (with_reducible refine (sequencer_in.calls a0_1 1 16 true _ A4.out).mono ?_); rintro e w' ⟨rfl, ⟨nd, rfl⟩⟩) | (go_at_call 99; (with_reducible refine (sequencer_in.calls a0_2 1 16 true _ A6.out).mono ?_); rintro e w' ⟨rfl, ⟨nd, rfl⟩⟩) | (go_at_call 99; (with_reducible refine (sequencer_in.calls a0_3 1 16 true _ A8.out).mono ?_); rintro e w' ⟨rfl, ⟨nd, rfl⟩⟩) | (go_at_call 99; (with_reducible refine (sequencer_in.calls a0_4 64 1400 true _ A10.out).mono ?_); rintro e w' ⟨rfl, ⟨nd, rfl⟩⟩) | (go_at_call 99; (with_reducible refine (sequencer_in.calls a0_5 1 1099511627776 true _ A12.out).mono ?_); rintro e w' ⟨rfl, ⟨nd, rfl⟩⟩))
       go_ret
       exact ⟨ew_, bl_ HB⟩
      ·replace c13 := Bool.eq_false_iff.mpr c13
       subst c13
       have H1 : (some 1) = some r := by rw [if_neg (show ¬ (false = true) by decide)] at H; exact H
       clear H
       have H := H1
       clear H1
       obtain rfl := Option.some.inj H
       go_enter Tryd.func83, Tryd.ntmps83
       go_wp2_with (first | ((with_reducible refine gD 1 rfl ?_); refine box_event rfl (N := 1) rfl (cs := #[.int .i64 a0_0, .int .i64 a0_1, .int .i64 a0_2, .int .i64 a0_3, .int .i64 a0_4, .int .i64 a0_5]) (t := 68) gs_ ?_; intro gb261 hg w16 hbox hb; have n0_ := Aside0.mk (below_step (bl_ HB) hb); have n1_ := Aside0.mk (hbox); have n2_ := Aside0.mk ((by rw [hg]; exact (below_size (bl_ HB)) : w.heap.size ≤ gb261)); have n3_ := Aside0.mk ((by rw [hg]; exact (below_size (bl_ HB)) : w.heap.size ≤ gb261)); clear HB; have HB := n0_; have BK261 := n1_; have GW261 := n2_; have GE261 := n3_; clear n0_ n1_ n2_ n3_; clear hb hbox hg; have hz17 := kb6_ BK261) | ((with_reducible refine gC 99 rfl ?_); refine goesL_ (some 5) rfl rfl Tryd.func99 (by kernel_rfl) rfl #[.int .i64 a0_0, .int .i64 1, .int .i64 64] rfl am_ ?_; (with_reducible refine (sequencer_in.calls a0_0 1 64 true _ A2.out).mono ?_); rintro e w' ⟨rfl, ⟨nd, rfl⟩⟩; refine ⟨_, rfl, ?_⟩) | (go_at_call 99; (with_reducible refine (sequencer_in.calls a0_1 1 16 true _ A4.out).mono ?_); rintro e w' ⟨rfl, ⟨nd, rfl⟩⟩) | (go_at_call 99; (with_reducible refine (sequencer_in.calls a0_2 1 16 true _ A6.out).mono ?_); rintro e w' ⟨rfl, ⟨nd, rfl⟩⟩) | (go_at_call 99; (with_reducible refine (sequencer_in.calls a0_3 1 16 true _ A8.out).mono ?_); rintro e w' ⟨rfl, ⟨nd, rfl⟩⟩) | (go_at_call 99; (with_reducible refine (sequencer_in.calls a0_4 64 1400 true _ A10.out).mono ?_); rintro e w' ⟨rfl, ⟨nd, rfl⟩⟩) | (go_at_call 99; (with_reducible refine (sequencer_in.calls a0_5 1 1099511627776 false _ A12.out).mono ?_); rintro e w' ⟨rfl, ⟨nd, rfl⟩⟩))
       go_ret
       exact ⟨ew_, bl_ HB⟩
     ·replace c11 := Bool.eq_false_iff.mpr c11
      subst c11
      have H1 : (some 1) = some r := by rw [if_neg (show ¬ (false = true) by decide)] at H; exact H
      clear H
      have H := H1
      clear H1
      obtain rfl := Option.some.inj H
      go_enter Tryd.func83, Tryd.ntmps83
      go_wp2_with (first | ((with_reducible refine gD 1 rfl ?_); refine box_event rfl (N := 1) rfl (cs := #[.int .i64 a0_0, .int .i64 a0_1, .int .i64 a0_2, .int .i64 a0_3, .int .i64 a0_4, .int .i64 a0_5]) (t := 68) gs_ ?_; intro gb261 hg w18 hbox hb; have n0_ := Aside0.mk (below_step (bl_ HB) hb); have n1_ := Aside0.mk (hbox); have n2_ := Aside0.mk ((by rw [hg]; exact (below_size (bl_ HB)) : w.heap.size ≤ gb261)); have n3_ := Aside0.mk ((by rw [hg]; exact (below_size (bl_ HB)) : w.heap.size ≤ gb261)); clear HB; have HB := n0_; have BK261 := n1_; have GW261 := n2_; have GE261 := n3_; clear n0_ n1_ n2_ n3_; clear hb hbox hg; have hcz19_0 : w18.cell? ⟨gb261, 0, none⟩ = some (.int .i64 a0_0) := (blk_cell BK261.out 0).trans rfl; have hcz19_1 : w18.cell? ⟨gb261, 1, none⟩ = some (.int .i64 a0_1) := (blk_cell BK261.out 1).trans rfl; have hcz19_2 : w18.cell? ⟨gb261, 2, none⟩ = some (.int .i64 a0_2) := (blk_cell BK261.out 2).trans rfl; have hcz19_3 : w18.cell? ⟨gb261, 3, none⟩ = some (.int .i64 a0_3) := (blk_cell BK261.out 3).trans rfl; have hcz19_4 : w18.cell? ⟨gb261, 4, none⟩ = some (.int .i64 a0_4) := (blk_cell BK261.out 4).trans rfl; have hcz19_5 : w18.cell? ⟨gb261, 5, none⟩ = some (.int .i64 a0_5) := (blk_cell BK261.out 5).trans rfl; have hfz19_0 := blk_frozen BK261.out 0; have hfz19_1 := blk_frozen BK261.out 1; have hfz19_2 := blk_frozen BK261.out 2; have hfz19_3 := blk_frozen BK261.out 3; have hfz19_4 := blk_frozen BK261.out 4; have hfz19_5 := blk_frozen BK261.out 5) | ((with_reducible refine gC 99 rfl ?_); refine goesL_ (some 5) rfl rfl Tryd.func99 (by kernel_rfl) rfl #[.int .i64 a0_0, .int .i64 1, .int .i64 64] rfl am_ ?_; (with_reducible refine (sequencer_in.calls a0_0 1 64 true _ A2.out).mono ?_); rintro e w' ⟨rfl, ⟨nd, rfl⟩⟩; refine ⟨_, rfl, ?_⟩) | (go_at_call 99; (with_reducible refine (sequencer_in.calls a0_1 1 16 true _ A4.out).mono ?_); rintro e w' ⟨rfl, ⟨nd, rfl⟩⟩) | (go_at_call 99; (with_reducible refine (sequencer_in.calls a0_2 1 16 true _ A6.out).mono ?_); rintro e w' ⟨rfl, ⟨nd, rfl⟩⟩) | (go_at_call 99; (with_reducible refine (sequencer_in.calls a0_3 1 16 true _ A8.out).mono ?_); rintro e w' ⟨rfl, ⟨nd, rfl⟩⟩) | (go_at_call 99; (with_reducible refine (sequencer_in.calls a0_4 64 1400 false _ A10.out).mono ?_); rintro e w' ⟨rfl, ⟨nd, rfl⟩⟩))
      go_ret
      exact ⟨ew_, bl_ HB⟩
    ·replace c9 := Bool.eq_false_iff.mpr c9
     subst c9
     have H1 : (some 1) = some r := by rw [if_neg (show ¬ (false = true) by decide)] at H; exact H
     clear H
     have H := H1
     clear H1
     obtain rfl := Option.some.inj H
     go_enter Tryd.func83, Tryd.ntmps83
     go_wp2_with (first | ((with_reducible refine gD 1 rfl ?_); refine box_event rfl (N := 1) rfl (cs := #[.int .i64 a0_0, .int .i64 a0_1, .int .i64 a0_2, .int .i64 a0_3, .int .i64 a0_4, .int .i64 a0_5]) (t := 68) gs_ ?_; intro gb261 hg w20 hbox hb; have n0_ := Aside0.mk (below_step (bl_ HB) hb); have n1_ := Aside0.mk (hbox); have n2_ := Aside0.mk ((by rw [hg]; exact (below_size (bl_ HB)) : w.heap.size ≤ gb261)); have n3_ := Aside0.mk ((by rw [hg]; exact (below_size (bl_ HB)) : w.heap.size ≤ gb261)); clear HB; have HB := n0_; have BK261 := n1_; have GW261 := n2_; have GE261 := n3_; clear n0_ n1_ n2_ n3_; clear hb hbox hg; have hcz21_0 : w20.cell? ⟨gb261, 0, none⟩ = some (.int .i64 a0_0) := (blk_cell BK261.out 0).trans rfl; have hcz21_1 : w20.cell? ⟨gb261, 1, none⟩ = some (.int .i64 a0_1) := (blk_cell BK261.out 1).trans rfl; have hcz21_2 : w20.cell? ⟨gb261, 2, none⟩ = some (.int .i64 a0_2) := (blk_cell BK261.out 2).trans rfl; have hcz21_3 : w20.cell? ⟨gb261, 3, none⟩ = some (.int .i64 a0_3) := (blk_cell BK261.out 3).trans rfl; have hcz21_4 : w20.cell? ⟨gb261, 4, none⟩ = some (.int .i64 a0_4) := (blk_cell BK261.out 4).trans rfl; have hcz21_5 : w20.cell? ⟨gb261, 5, none⟩ = some (.int .i64 a0_5) := (blk_cell BK261.out 5).trans rfl; have hfz21_0 := blk_frozen BK261.out 0; have hfz21_1 := blk_frozen BK261.out 1; have hfz21_2 := blk_frozen BK261.out 2; have hfz21_3 := blk_frozen BK261.out 3; have hfz21_4 := blk_frozen BK261.out 4; have hfz21_5 := blk_frozen BK261.out 5) | ((with_reducible refine gC 99 rfl ?_); refine goesL_ (some 5) rfl rfl Tryd.func99 (by kernel_rfl) rfl #[.int .i64 a0_0, .int .i64 1, .int .i64 64] rfl am_ ?_; (with_reducible refine (sequencer_in.calls a0_0 1 64 true _ A2.out).mono ?_); rintro e w' ⟨rfl, ⟨nd, rfl⟩⟩; refine ⟨_, rfl, ?_⟩) | (go_at_call 99; (with_reducible refine (sequencer_in.calls a0_1 1 16 true _ A4.out).mono ?_); rintro e w' ⟨rfl, ⟨nd, rfl⟩⟩) | (go_at_call 99; (with_reducible refine (sequencer_in.calls a0_2 1 16 true _ A6.out).mono ?_); rintro e w' ⟨rfl, ⟨nd, rfl⟩⟩) | (go_at_call 99; (with_reducible refine (sequencer_in.calls a0_3 1 16 false _ A8.out).mono ?_); rintro e w' ⟨rfl, ⟨nd, rfl⟩⟩))
     go_ret
     exact ⟨ew_, bl_ HB⟩
   ·replace c7 := Bool.eq_false_iff.mpr c7
    subst c7
    have H1 : (some 1) = some r := by rw [if_neg (show ¬ (false = true) by decide)] at H; exact H
    clear H
    have H := H1
    clear H1
    obtain rfl := Option.some.inj H
    go_enter Tryd.func83, Tryd.ntmps83
    go_wp2_with (first | ((with_reducible refine gD 1 rfl ?_); refine box_event rfl (N := 1) rfl (cs := #[.int .i64 a0_0, .int .i64 a0_1, .int .i64 a0_2, .int .i64 a0_3, .int .i64 a0_4, .int .i64 a0_5]) (t := 68) gs_ ?_; intro gb261 hg w22 hbox hb; have n0_ := Aside0.mk (below_step (bl_ HB) hb); have n1_ := Aside0.mk (hbox); have n2_ := Aside0.mk ((by rw [hg]; exact (below_size (bl_ HB)) : w.heap.size ≤ gb261)); have n3_ := Aside0.mk ((by rw [hg]; exact (below_size (bl_ HB)) : w.heap.size ≤ gb261)); clear HB; have HB := n0_; have BK261 := n1_; have GW261 := n2_; have GE261 := n3_; clear n0_ n1_ n2_ n3_; clear hb hbox hg; have hz23 := kb6_ BK261) | ((with_reducible refine gC 99 rfl ?_); refine goesL_ (some 5) rfl rfl Tryd.func99 (by kernel_rfl) rfl #[.int .i64 a0_0, .int .i64 1, .int .i64 64] rfl am_ ?_; (with_reducible refine (sequencer_in.calls a0_0 1 64 true _ A2.out).mono ?_); rintro e w' ⟨rfl, ⟨nd, rfl⟩⟩; refine ⟨_, rfl, ?_⟩) | (go_at_call 99; (with_reducible refine (sequencer_in.calls a0_1 1 16 true _ A4.out).mono ?_); rintro e w' ⟨rfl, ⟨nd, rfl⟩⟩) | (go_at_call 99; (with_reducible refine (sequencer_in.calls a0_2 1 16 false _ A6.out).mono ?_); rintro e w' ⟨rfl, ⟨nd, rfl⟩⟩))
    go_ret
    exact ⟨ew_, bl_ HB⟩
  ·replace c5 := Bool.eq_false_iff.mpr c5
   subst c5
   have H1 : (some 1) = some r := by rw [if_neg (show ¬ (false = true) by decide)] at H; exact H
   clear H
   have H := H1
   clear H1
   obtain rfl := Option.some.inj H
   go_enter Tryd.func83, Tryd.ntmps83
   go_wp2_with (first | ((with_reducible refine gD 1 rfl ?_); refine box_event rfl (N := 1) rfl (cs := #[.int .i64 a0_0, .int .i64 a0_1, .int .i64 a0_2, .int .i64 a0_3, .int .i64 a0_4, .int .i64 a0_5]) (t := 68) gs_ ?_; intro gb261 hg w24 hbox hb; have n0_ := Aside0.mk (below_step (bl_ HB) hb); have n1_ := Aside0.mk (hbox); have n2_ := Aside0.mk ((by rw [hg]; exact (below_size (bl_ HB)) : w.heap.size ≤ gb261)); have n3_ := Aside0.mk ((by rw [hg]; exact (below_size (bl_ HB)) : w.heap.size ≤ gb261)); clear HB; have HB := n0_; have BK261 := n1_; have GW261 := n2_; have GE261 := n3_; clear n0_ n1_ n2_ n3_; clear hb hbox hg; have hcz25_0 : w24.cell? ⟨gb261, 0, none⟩ = some (.int .i64 a0_0) := (blk_cell BK261.out 0).trans rfl; have hcz25_1 : w24.cell? ⟨gb261, 1, none⟩ = some (.int .i64 a0_1) := (blk_cell BK261.out 1).trans rfl; have hcz25_2 : w24.cell? ⟨gb261, 2, none⟩ = some (.int .i64 a0_2) := (blk_cell BK261.out 2).trans rfl; have hcz25_3 : w24.cell? ⟨gb261, 3, none⟩ = some (.int .i64 a0_3) := (blk_cell BK261.out 3).trans rfl; have hcz25_4 : w24.cell? ⟨gb261, 4, none⟩ = some (.int .i64 a0_4) := (blk_cell BK261.out 4).trans rfl; have hcz25_5 : w24.cell? ⟨gb261, 5, none⟩ = some (.int .i64 a0_5) := (blk_cell BK261.out 5).trans rfl; have hfz25_0 := blk_frozen BK261.out 0; have hfz25_1 := blk_frozen BK261.out 1; have hfz25_2 := blk_frozen BK261.out 2; have hfz25_3 := blk_frozen BK261.out 3; have hfz25_4 := blk_frozen BK261.out 4; have hfz25_5 := blk_frozen BK261.out 5) | ((with_reducible refine gC 99 rfl ?_); refine goesL_ (some 5) rfl rfl Tryd.func99 (by kernel_rfl) rfl #[.int .i64 a0_0, .int .i64 1, .int .i64 64] rfl am_ ?_; (with_reducible refine (sequencer_in.calls a0_0 1 64 true _ A2.out).mono ?_); rintro e w' ⟨rfl, ⟨nd, rfl⟩⟩; refine ⟨_, rfl, ?_⟩) | (go_at_call 99; (with_reducible refine (sequencer_in.calls a0_1 1 16 false _ A4.out).mono ?_); rintro e w' ⟨rfl, ⟨nd, rfl⟩⟩))
   go_ret
   exact ⟨ew_, bl_ HB⟩
 ·replace c3 := Bool.eq_false_iff.mpr c3
  subst c3
  have H1 : (some 1) = some r := by rw [if_neg (show ¬ (false = true) by decide)] at H; exact H
  clear H
  have H := H1
  clear H1
  obtain rfl := Option.some.inj H
  go_enter Tryd.func83, Tryd.ntmps83
  go_wp2_with (first | ((with_reducible refine gD 1 rfl ?_); refine box_event rfl (N := 1) rfl (cs := #[.int .i64 a0_0, .int .i64 a0_1, .int .i64 a0_2, .int .i64 a0_3, .int .i64 a0_4, .int .i64 a0_5]) (t := 68) gs_ ?_; intro gb261 hg w26 hbox hb; have n0_ := Aside0.mk (below_step (bl_ HB) hb); have n1_ := Aside0.mk (hbox); have n2_ := Aside0.mk ((by rw [hg]; exact (below_size (bl_ HB)) : w.heap.size ≤ gb261)); have n3_ := Aside0.mk ((by rw [hg]; exact (below_size (bl_ HB)) : w.heap.size ≤ gb261)); clear HB; have HB := n0_; have BK261 := n1_; have GW261 := n2_; have GE261 := n3_; clear n0_ n1_ n2_ n3_; clear hb hbox hg; have hcz27_0 : w26.cell? ⟨gb261, 0, none⟩ = some (.int .i64 a0_0) := (blk_cell BK261.out 0).trans rfl; have hcz27_1 : w26.cell? ⟨gb261, 1, none⟩ = some (.int .i64 a0_1) := (blk_cell BK261.out 1).trans rfl; have hcz27_2 : w26.cell? ⟨gb261, 2, none⟩ = some (.int .i64 a0_2) := (blk_cell BK261.out 2).trans rfl; have hcz27_3 : w26.cell? ⟨gb261, 3, none⟩ = some (.int .i64 a0_3) := (blk_cell BK261.out 3).trans rfl; have hcz27_4 : w26.cell? ⟨gb261, 4, none⟩ = some (.int .i64 a0_4) := (blk_cell BK261.out 4).trans rfl; have hcz27_5 : w26.cell? ⟨gb261, 5, none⟩ = some (.int .i64 a0_5) := (blk_cell BK261.out 5).trans rfl; have hfz27_0 := blk_frozen BK261.out 0; have hfz27_1 := blk_frozen BK261.out 1; have hfz27_2 := blk_frozen BK261.out 2; have hfz27_3 := blk_frozen BK261.out 3; have hfz27_4 := blk_frozen BK261.out 4; have hfz27_5 := blk_frozen BK261.out 5) | ((with_reducible refine gC 99 rfl ?_); refine goesL_ (some 5) rfl rfl Tryd.func99 (by kernel_rfl) rfl #[.int .i64 a0_0, .int .i64 1, .int .i64 64] rfl am_ ?_; (with_reducible refine (sequencer_in.calls a0_0 1 64 false _ A2.out).mono ?_); rintro e w' ⟨rfl, ⟨nd, rfl⟩⟩; refine ⟨_, rfl, ?_⟩))
  go_ret
  exact ⟨ew_, bl_ HB⟩
def chapbookref16_May.f (a0_0 : Int) (a0_1 : Int) (a0_2 : Int) (a0_3 : Int) (a0_4 : Int) (a0_5 : Int) : Option (Bool) := if a0_0 ≥ 1 then (if a0_0 ≤ 64 then (if a0_1 ≥ 1 then (if a0_1 ≤ 16 then (if a0_2 ≥ 1 then (if a0_2 ≤ 16 then (if a0_3 ≥ 1 then (if a0_3 ≤ 16 then (if a0_4 ≥ 64 then (if a0_4 ≤ 1400 then (if a0_5 ≥ 1 then (some (decide (a0_5 ≤ 1099511627776))) else (some false)) else (some false)) else (some false)) else (some false)) else (some false)) else (some false)) else (some false)) else (some false)) else (some false)) else (some false)) else (some false)
theorem chapbookref16_May.calls (a0_0 : Int) (a0_1 : Int) (a0_2 : Int) (a0_3 : Int) (a0_4 : Int) (a0_5 : Int) (r : Bool) (w : World) (h : chapbookref16_May.f a0_0 a0_1 a0_2 a0_3 a0_4 a0_5 = some r) :
  Calls Tryd.prog 37 #[.agg #[.int .i64 a0_0, .int .i64 a0_1, .int .i64 a0_2, .int .i64 a0_3, .int .i64 a0_4, .int .i64 a0_5]] w fun e w' => e = .returned (.bool r) ∧ Below w.heap.size w w' := by
 have hu68 := Tryd.underlying68
 have HB := Aside0.mk (Below.refl w.heap.size w)
 have H : (if a0_0 ≥ 1 then (if a0_0 ≤ 64 then (if a0_1 ≥ 1 then (if a0_1 ≤ 16 then (if a0_2 ≥ 1 then (if a0_2 ≤ 16 then (if a0_3 ≥ 1 then (if a0_3 ≤ 16 then (if a0_4 ≥ 64 then (if a0_4 ≤ 1400 then (if a0_5 ≥ 1 then (some (decide (a0_5 ≤ 1099511627776))) else (some false)) else (some false)) else (some false)) else (some false)) else (some false)) else (some false)) else (some false)) else (some false)) else (some false)) else (some false)) else (some false)) = some r := h
 clear h
 by_cases c2 : a0_0 ≥ 1
 ·rw [if_pos c2] at H
  have c2b0 : decide (1 ≤ a0_0) = true := decide_eq_true c2
  clear c2
  by_cases c3 : a0_0 ≤ 64
  ·rw [if_pos c3] at H
   have c3b0 : decide (a0_0 ≤ 64) = true := decide_eq_true c3
   clear c3
   by_cases c4 : a0_1 ≥ 1
   ·rw [if_pos c4] at H
    have c4b0 : decide (1 ≤ a0_1) = true := decide_eq_true c4
    clear c4
    by_cases c5 : a0_1 ≤ 16
    ·rw [if_pos c5] at H
     have c5b0 : decide (a0_1 ≤ 16) = true := decide_eq_true c5
     clear c5
     by_cases c6 : a0_2 ≥ 1
     ·rw [if_pos c6] at H
      have c6b0 : decide (1 ≤ a0_2) = true := decide_eq_true c6
      clear c6
      by_cases c7 : a0_2 ≤ 16
      ·rw [if_pos c7] at H
       have c7b0 : decide (a0_2 ≤ 16) = true := decide_eq_true c7
       clear c7
       by_cases c8 : a0_3 ≥ 1
       ·rw [if_pos c8] at H
        have c8b0 : decide (1 ≤ a0_3) = true := decide_eq_true c8
        clear c8
        by_cases c9 : a0_3 ≤ 16
        ·rw [if_pos c9] at H
         have c9b0 : decide (a0_3 ≤ 16) = true := decide_eq_true c9
         clear c9
         by_cases c10 : a0_4 ≥ 64
         ·rw [if_pos c10] at H
          have c10b0 : decide (64 ≤ a0_4) = true := decide_eq_true c10
          clear c10
          by_cases c11 : a0_4 ≤ 1400
          ·rw [if_pos c11] at H
           have c11b0 : decide (a0_4 ≤ 1400) = true := decide_eq_true c11
           clear c11
           by_cases c12 : a0_5 ≥ 1
           ·rw [if_pos c12] at H
            have c12b0 : decide (1 ≤ a0_5) = true := decide_eq_true c12
            clear c12
            obtain rfl := Option.some.inj H
            go_enter Tryd.func37, Tryd.ntmps37
            go_wp2_with (first | ((with_reducible refine gD 1 rfl ?_); refine box_event rfl (N := 1) rfl (cs := #[.int .i64 a0_0, .int .i64 a0_1, .int .i64 a0_2, .int .i64 a0_3, .int .i64 a0_4, .int .i64 a0_5]) (t := 68) gs_ ?_; intro gb268 hg w13 hbox hb; have n0_ := Aside0.mk (below_step (bl_ HB) hb); have n1_ := Aside0.mk (hbox); have n2_ := Aside0.mk ((by rw [hg]; exact (below_size (bl_ HB)) : w.heap.size ≤ gb268)); have n3_ := Aside0.mk ((by rw [hg]; exact (below_size (bl_ HB)) : w.heap.size ≤ gb268)); clear HB; have HB := n0_; have BK268 := n1_; have GW268 := n2_; have GE268 := n3_; clear n0_ n1_ n2_ n3_; clear hb hbox hg; have hcz14_0 : w13.cell? ⟨gb268, 0, none⟩ = some (.int .i64 a0_0) := (blk_cell BK268.out 0).trans rfl; have hcz14_1 : w13.cell? ⟨gb268, 1, none⟩ = some (.int .i64 a0_1) := (blk_cell BK268.out 1).trans rfl; have hcz14_2 : w13.cell? ⟨gb268, 2, none⟩ = some (.int .i64 a0_2) := (blk_cell BK268.out 2).trans rfl; have hcz14_3 : w13.cell? ⟨gb268, 3, none⟩ = some (.int .i64 a0_3) := (blk_cell BK268.out 3).trans rfl; have hcz14_4 : w13.cell? ⟨gb268, 4, none⟩ = some (.int .i64 a0_4) := (blk_cell BK268.out 4).trans rfl; have hcz14_5 : w13.cell? ⟨gb268, 5, none⟩ = some (.int .i64 a0_5) := (blk_cell BK268.out 5).trans rfl; have hfz14_0 := blk_frozen BK268.out 0; have hfz14_1 := blk_frozen BK268.out 1; have hfz14_2 := blk_frozen BK268.out 2; have hfz14_3 := blk_frozen BK268.out 3; have hfz14_4 := blk_frozen BK268.out 4; have hfz14_5 := blk_frozen BK268.out 5))
            go_ret
            exact ⟨ew_, bl_ HB⟩
           ·rw [if_neg c12] at H
            have c12b0 : decide (1 ≤ a0_5) = false := decide_eq_false c12
            clear c12
            obtain rfl := Option.some.inj H
            go_enter Tryd.func37, Tryd.ntmps37
            go_wp2_with (first | ((with_reducible refine gD 1 rfl ?_); refine box_event rfl (N := 1) rfl (cs := #[.int .i64 a0_0, .int .i64 a0_1, .int .i64 a0_2, .int .i64 a0_3, .int .i64 a0_4, .int .i64 a0_5]) (t := 68) gs_ ?_; intro gb268 hg w15 hbox hb; have n0_ := Aside0.mk (below_step (bl_ HB) hb); have n1_ := Aside0.mk (hbox); have n2_ := Aside0.mk ((by rw [hg]; exact (below_size (bl_ HB)) : w.heap.size ≤ gb268)); have n3_ := Aside0.mk ((by rw [hg]; exact (below_size (bl_ HB)) : w.heap.size ≤ gb268)); clear HB; have HB := n0_; have BK268 := n1_; have GW268 := n2_; have GE268 := n3_; clear n0_ n1_ n2_ n3_; clear hb hbox hg; have hcz16_0 : w15.cell? ⟨gb268, 0, none⟩ = some (.int .i64 a0_0) := (blk_cell BK268.out 0).trans rfl; have hcz16_1 : w15.cell? ⟨gb268, 1, none⟩ = some (.int .i64 a0_1) := (blk_cell BK268.out 1).trans rfl; have hcz16_2 : w15.cell? ⟨gb268, 2, none⟩ = some (.int .i64 a0_2) := (blk_cell BK268.out 2).trans rfl; have hcz16_3 : w15.cell? ⟨gb268, 3, none⟩ = some (.int .i64 a0_3) := (blk_cell BK268.out 3).trans rfl; have hcz16_4 : w15.cell? ⟨gb268, 4, none⟩ = some (.int .i64 a0_4) := (blk_cell BK268.out 4).trans rfl; have hcz16_5 : w15.cell? ⟨gb268, 5, none⟩ = some (.int .i64 a0_5) := (blk_cell BK268.out 5).trans rfl; have hfz16_0 := blk_frozen BK268.out 0; have hfz16_1 := blk_frozen BK268.out 1; have hfz16_2 := blk_frozen BK268.out 2; have hfz16_3 := blk_frozen BK268.out 3; have hfz16_4 := blk_frozen BK268.out 4; have hfz16_5 := blk_frozen BK268.out 5))
            go_ret
            exact ⟨ew_, bl_ HB⟩
          ·rw [if_neg c11] at H
           have c11b0 : decide (a0_4 ≤ 1400) = false := decide_eq_false c11
           clear c11
           obtain rfl := Option.some.inj H
           go_enter Tryd.func37, Tryd.ntmps37
           go_wp2_with (first | ((with_reducible refine gD 1 rfl ?_); refine box_event rfl (N := 1) rfl (cs := #[.int .i64 a0_0, .int .i64 a0_1, .int .i64 a0_2, .int .i64 a0_3, .int .i64 a0_4, .int .i64 a0_5]) (t := 68) gs_ ?_; intro gb268 hg w17 hbox hb; have n0_ := Aside0.mk (below_step (bl_ HB) hb); have n1_ := Aside0.mk (hbox); have n2_ := Aside0.mk ((by rw [hg]; exact (below_size (bl_ HB)) : w.heap.size ≤ gb268)); have n3_ := Aside0.mk ((by rw [hg]; exact (below_size (bl_ HB)) : w.heap.size ≤ gb268)); clear HB; have HB := n0_; have BK268 := n1_; have GW268 := n2_; have GE268 := n3_; clear n0_ n1_ n2_ n3_; clear hb hbox hg; have hz18 := kb6_ BK268))
           go_ret
           exact ⟨ew_, bl_ HB⟩
         ·rw [if_neg c10] at H
          have c10b0 : decide (64 ≤ a0_4) = false := decide_eq_false c10
          clear c10
          obtain rfl := Option.some.inj H
          go_enter Tryd.func37, Tryd.ntmps37
          go_wp2_with (first | ((with_reducible refine gD 1 rfl ?_); refine box_event rfl (N := 1) rfl (cs := #[.int .i64 a0_0, .int .i64 a0_1, .int .i64 a0_2, .int .i64 a0_3, .int .i64 a0_4, .int .i64 a0_5]) (t := 68) gs_ ?_; intro gb268 hg w19 hbox hb; have n0_ := Aside0.mk (below_step (bl_ HB) hb); have n1_ := Aside0.mk (hbox); have n2_ := Aside0.mk ((by rw [hg]; exact (below_size (bl_ HB)) : w.heap.size ≤ gb268)); have n3_ := Aside0.mk ((by rw [hg]; exact (below_size (bl_ HB)) : w.heap.size ≤ gb268)); clear HB; have HB := n0_; have BK268 := n1_; have GW268 := n2_; have GE268 := n3_; clear n0_ n1_ n2_ n3_; clear hb hbox hg; have hcz20_0 : w19.cell? ⟨gb268, 0, none⟩ = some (.int .i64 a0_0) := (blk_cell BK268.out 0).trans rfl; have hcz20_1 : w19.cell? ⟨gb268, 1, none⟩ = some (.int .i64 a0_1) := (blk_cell BK268.out 1).trans rfl; have hcz20_2 : w19.cell? ⟨gb268, 2, none⟩ = some (.int .i64 a0_2) := (blk_cell BK268.out 2).trans rfl; have hcz20_3 : w19.cell? ⟨gb268, 3, none⟩ = some (.int .i64 a0_3) := (blk_cell BK268.out 3).trans rfl; have hcz20_4 : w19.cell? ⟨gb268, 4, none⟩ = some (.int .i64 a0_4) := (blk_cell BK268.out 4).trans rfl; have hcz20_5 : w19.cell? ⟨gb268, 5, none⟩ = some (.int .i64 a0_5) := (blk_cell BK268.out 5).trans rfl; have hfz20_0 := blk_frozen BK268.out 0; have hfz20_1 := blk_frozen BK268.out 1; have hfz20_2 := blk_frozen BK268.out 2; have hfz20_3 := blk_frozen BK268.out 3; have hfz20_4 := blk_frozen BK268.out 4; have hfz20_5 := blk_frozen BK268.out 5))
          go_ret
          exact ⟨ew_, bl_ HB⟩
        ·rw [if_neg c9] at H
         have c9b0 : decide (a0_3 ≤ 16) = false := decide_eq_false c9
         clear c9
         obtain rfl := Option.some.inj H
         go_enter Tryd.func37, Tryd.ntmps37
         go_wp2_with (first | ((with_reducible refine gD 1 rfl ?_); refine box_event rfl (N := 1) rfl (cs := #[.int .i64 a0_0, .int .i64 a0_1, .int .i64 a0_2, .int .i64 a0_3, .int .i64 a0_4, .int .i64 a0_5]) (t := 68) gs_ ?_; intro gb268 hg w21 hbox hb; have n0_ := Aside0.mk (below_step (bl_ HB) hb); have n1_ := Aside0.mk (hbox); have n2_ := Aside0.mk ((by rw [hg]; exact (below_size (bl_ HB)) : w.heap.size ≤ gb268)); have n3_ := Aside0.mk ((by rw [hg]; exact (below_size (bl_ HB)) : w.heap.size ≤ gb268)); clear HB; have HB := n0_; have BK268 := n1_; have GW268 := n2_; have GE268 := n3_; clear n0_ n1_ n2_ n3_; clear hb hbox hg; have hcz22_0 : w21.cell? ⟨gb268, 0, none⟩ = some (.int .i64 a0_0) := (blk_cell BK268.out 0).trans rfl; have hcz22_1 : w21.cell? ⟨gb268, 1, none⟩ = some (.int .i64 a0_1) := (blk_cell BK268.out 1).trans rfl; have hcz22_2 : w21.cell? ⟨gb268, 2, none⟩ = some (.int .i64 a0_2) := (blk_cell BK268.out 2).trans rfl; have hcz22_3 : w21.cell? ⟨gb268, 3, none⟩ = some (.int .i64 a0_3) := (blk_cell BK268.out 3).trans rfl; have hcz22_4 : w21.cell? ⟨gb268, 4, none⟩ = some (.int .i64 a0_4) := (blk_cell BK268.out 4).trans rfl; have hcz22_5 : w21.cell? ⟨gb268, 5, none⟩ = some (.int .i64 a0_5) := (blk_cell BK268.out 5).trans rfl; have hfz22_0 := blk_frozen BK268.out 0; have hfz22_1 := blk_frozen BK268.out 1; have hfz22_2 := blk_frozen BK268.out 2; have hfz22_3 := blk_frozen BK268.out 3; have hfz22_4 := blk_frozen BK268.out 4; have hfz22_5 := blk_frozen BK268.out 5))
         go_ret
         exact ⟨ew_, bl_ HB⟩
       ·rw [if_neg c8] at H
        have c8b0 : decide (1 ≤ a0_3) = false := decide_eq_false c8
        clear c8
        obtain rfl := Option.some.inj H
        go_enter Tryd.func37, Tryd.ntmps37
        go_wp2_with (first | ((with_reducible refine gD 1 rfl ?_); refine box_event rfl (N := 1) rfl (cs := #[.int .i64 a0_0, .int .i64 a0_1, .int .i64 a0_2, .int .i64 a0_3, .int .i64 a0_4, .int .i64 a0_5]) (t := 68) gs_ ?_; intro gb268 hg w23 hbox hb; have n0_ := Aside0.mk (below_step (bl_ HB) hb); have n1_ := Aside0.mk (hbox); have n2_ := Aside0.mk ((by rw [hg]; exact (below_size (bl_ HB)) : w.heap.size ≤ gb268)); have n3_ := Aside0.mk ((by rw [hg]; exact (below_size (bl_ HB)) : w.heap.size ≤ gb268)); clear HB; have HB := n0_; have BK268 := n1_; have GW268 := n2_; have GE268 := n3_; clear n0_ n1_ n2_ n3_; clear hb hbox hg; have hz24 := kb6_ BK268))
        go_ret
        exact ⟨ew_, bl_ HB⟩
      ·rw [if_neg c7] at H
       have c7b0 : decide (a0_2 ≤ 16) = false := decide_eq_false c7
       clear c7
       obtain rfl := Option.some.inj H
       go_enter Tryd.func37, Tryd.ntmps37
       go_wp2_with (first | ((with_reducible refine gD 1 rfl ?_); refine box_event rfl (N := 1) rfl (cs := #[.int .i64 a0_0, .int .i64 a0_1, .int .i64 a0_2, .int .i64 a0_3, .int .i64 a0_4, .int .i64 a0_5]) (t := 68) gs_ ?_; intro gb268 hg w25 hbox hb; have n0_ := Aside0.mk (below_step (bl_ HB) hb); have n1_ := Aside0.mk (hbox); have n2_ := Aside0.mk ((by rw [hg]; exact (below_size (bl_ HB)) : w.heap.size ≤ gb268)); have n3_ := Aside0.mk ((by rw [hg]; exact (below_size (bl_ HB)) : w.heap.size ≤ gb268)); clear HB; have HB := n0_; have BK268 := n1_; have GW268 := n2_; have GE268 := n3_; clear n0_ n1_ n2_ n3_; clear hb hbox hg; have hz26 := kb6_ BK268))
       go_ret
       exact ⟨ew_, bl_ HB⟩
     ·rw [if_neg c6] at H
      have c6b0 : decide (1 ≤ a0_2) = false := decide_eq_false c6
      clear c6
      obtain rfl := Option.some.inj H
      go_enter Tryd.func37, Tryd.ntmps37
      go_wp2_with (first | ((with_reducible refine gD 1 rfl ?_); refine box_event rfl (N := 1) rfl (cs := #[.int .i64 a0_0, .int .i64 a0_1, .int .i64 a0_2, .int .i64 a0_3, .int .i64 a0_4, .int .i64 a0_5]) (t := 68) gs_ ?_; intro gb268 hg w27 hbox hb; have n0_ := Aside0.mk (below_step (bl_ HB) hb); have n1_ := Aside0.mk (hbox); have n2_ := Aside0.mk ((by rw [hg]; exact (below_size (bl_ HB)) : w.heap.size ≤ gb268)); have n3_ := Aside0.mk ((by rw [hg]; exact (below_size (bl_ HB)) : w.heap.size ≤ gb268)); clear HB; have HB := n0_; have BK268 := n1_; have GW268 := n2_; have GE268 := n3_; clear n0_ n1_ n2_ n3_; clear hb hbox hg; have hz28 := kb6_ BK268))
      go_ret
      exact ⟨ew_, bl_ HB⟩
    ·rw [if_neg c5] at H
     have c5b0 : decide (a0_1 ≤ 16) = false := decide_eq_false c5
     clear c5
     obtain rfl := Option.some.inj H
     go_enter Tryd.func37, Tryd.ntmps37
     go_wp2_with (first | ((with_reducible refine gD 1 rfl ?_); refine box_event rfl (N := 1) rfl (cs := #[.int .i64 a0_0, .int .i64 a0_1, .int .i64 a0_2, .int .i64 a0_3, .int .i64 a0_4, .int .i64 a0_5]) (t := 68) gs_ ?_; intro gb268 hg w29 hbox hb; have n0_ := Aside0.mk (below_step (bl_ HB) hb); have n1_ := Aside0.mk (hbox); have n2_ := Aside0.mk ((by rw [hg]; exact (below_size (bl_ HB)) : w.heap.size ≤ gb268)); have n3_ := Aside0.mk ((by rw [hg]; exact (below_size (bl_ HB)) : w.heap.size ≤ gb268)); clear HB; have HB := n0_; have BK268 := n1_; have GW268 := n2_; have GE268 := n3_; clear n0_ n1_ n2_ n3_; clear hb hbox hg; have hz30 := kb6_ BK268))
     go_ret
     exact ⟨ew_, bl_ HB⟩
   ·rw [if_neg c4] at H
    have c4b0 : decide (1 ≤ a0_1) = false := decide_eq_false c4
    clear c4
    obtain rfl := Option.some.inj H
    go_enter Tryd.func37, Tryd.ntmps37
    go_wp2_with (first | ((with_reducible refine gD 1 rfl ?_); refine box_event rfl (N := 1) rfl (cs := #[.int .i64 a0_0, .int .i64 a0_1, .int .i64 a0_2, .int .i64 a0_3, .int .i64 a0_4, .int .i64 a0_5]) (t := 68) gs_ ?_; intro gb268 hg w31 hbox hb; have n0_ := Aside0.mk (below_step (bl_ HB) hb); have n1_ := Aside0.mk (hbox); have n2_ := Aside0.mk ((by rw [hg]; exact (below_size (bl_ HB)) : w.heap.size ≤ gb268)); have n3_ := Aside0.mk ((by rw [hg]; exact (below_size (bl_ HB)) : w.heap.size ≤ gb268)); clear HB; have HB := n0_; have BK268 := n1_; have GW268 := n2_; have GE268 := n3_; clear n0_ n1_ n2_ n3_; clear hb hbox hg; have hz32 := kb6_ BK268))
    go_ret
    exact ⟨ew_, bl_ HB⟩
  ·rw [if_neg c3] at H
   have c3b0 : decide (a0_0 ≤ 64) = false := decide_eq_false c3
   clear c3
   obtain rfl := Option.some.inj H
   go_enter Tryd.func37, Tryd.ntmps37
   go_wp2_with (first | ((with_reducible refine gD 1 rfl ?_); refine box_event rfl (N := 1) rfl (cs := #[.int .i64 a0_0, .int .i64 a0_1, .int .i64 a0_2, .int .i64 a0_3, .int .i64 a0_4, .int .i64 a0_5]) (t := 68) gs_ ?_; intro gb268 hg w33 hbox hb; have n0_ := Aside0.mk (below_step (bl_ HB) hb); have n1_ := Aside0.mk (hbox); have n2_ := Aside0.mk ((by rw [hg]; exact (below_size (bl_ HB)) : w.heap.size ≤ gb268)); have n3_ := Aside0.mk ((by rw [hg]; exact (below_size (bl_ HB)) : w.heap.size ≤ gb268)); clear HB; have HB := n0_; have BK268 := n1_; have GW268 := n2_; have GE268 := n3_; clear n0_ n1_ n2_ n3_; clear hb hbox hg; have hz34 := kb6_ BK268))
   go_ret
   exact ⟨ew_, bl_ HB⟩
 ·rw [if_neg c2] at H
  have c2b0 : decide (1 ≤ a0_0) = false := decide_eq_false c2
  clear c2
  obtain rfl := Option.some.inj H
  go_enter Tryd.func37, Tryd.ntmps37
  go_wp2_with (first | ((with_reducible refine gD 1 rfl ?_); refine box_event rfl (N := 1) rfl (cs := #[.int .i64 a0_0, .int .i64 a0_1, .int .i64 a0_2, .int .i64 a0_3, .int .i64 a0_4, .int .i64 a0_5]) (t := 68) gs_ ?_; intro gb268 hg w35 hbox hb; have n0_ := Aside0.mk (below_step (bl_ HB) hb); have n1_ := Aside0.mk (hbox); have n2_ := Aside0.mk ((by rw [hg]; exact (below_size (bl_ HB)) : w.heap.size ≤ gb268)); have n3_ := Aside0.mk ((by rw [hg]; exact (below_size (bl_ HB)) : w.heap.size ≤ gb268)); clear HB; have HB := n0_; have BK268 := n1_; have GW268 := n2_; have GE268 := n3_; clear n0_ n1_ n2_ n3_; clear hb hbox hg; have hz36 := kb6_ BK268))
  go_ret
  exact ⟨ew_, bl_ HB⟩
mutual
def chapbooklaw21_great.j0 : Nat → List (S88) → Bool → Option (Bool)
 | 0, _, _ => none
 | k + 1, x1, x14 => if x14 = true then (some true) else (chapbooklaw21_great.l0 k x1 (x1.length : Int) 0)
def chapbooklaw21_great.l0 : Nat → List (S88) → Int → Int → Option (Bool)
 | 0, _, _, _ => none
 | k + 1, x15, x16, x17 => if x17 < x16 then (if 0 ≤ x17 then (if x17 < (x15.length : Int) then ((chapbookref04_Great.f ((rd_T88 x15 x17).f0.f2.f0) ((rd_T88 x15 x17).f0.f2.f1) ((rd_T88 x15 x17).f0.f2.f2) ((rd_T88 x15 x17).f0.f2.f3)).bind fun t272 => (if t272 = true then (some true) else (if (((rd_T88 x15 x17).f0.f3).size : Int) > 50 then (some true) else (chapbooklaw21_great.l0 k x15 x16 (wrap64 (x17 + 1)))))) else (none)) else (none)) else (some false)
end
def chapbooklaw21_great.f (k : Nat) (a0_0 : Int) (a0_1 : Int) (a0_2 : Int) (a0_3 : Int) (a0_4 : Int) (a0_5 : Int) (l1 : List (S88)) : Option (Bool) := if (l1.length : Int) > 60 then (chapbooklaw21_great.j0 k l1 true) else (chapbooklaw21_great.j0 k l1 (decide (a0_0 > 4)))
theorem chapbooklaw21_great.calls (k : Nat) (a0_0 : Int) (a0_1 : Int) (a0_2 : Int) (a0_3 : Int) (a0_4 : Int) (a0_5 : Int) (A1 : Option Addr) (c1 : Nat) (l1 : List (S88)) (r : Bool) (w : World) (hr1 : Kd.C k88 w A1 l1.length l1) (hc1 : l1.length ≤ c1) (h : chapbooklaw21_great.f k a0_0 a0_1 a0_2 a0_3 a0_4 a0_5 l1 = some r) :
  Calls Tryd.prog 36 #[.agg #[.int .i64 a0_0, .int .i64 a0_1, .int .i64 a0_2, .int .i64 a0_3, .int .i64 a0_4, .int .i64 a0_5], .slice A1 l1.length c1] w fun e w' => e = .returned (.bool r) ∧ Below w.heap.size w w' := by
 have hu68 := Tryd.underlying68
 have hu88 := Tryd.underlying88
 have hu32 := Tryd.underlying32
 have HR1 := Aside0.mk hr1
 have HC1 := Aside0.mk hc1
 clear hr1 hc1
 have HB := Aside0.mk (Below.refl w.heap.size w)
 have H : (if (l1.length : Int) > 60 then (chapbooklaw21_great.j0 k l1 true) else (chapbooklaw21_great.j0 k l1 (decide (a0_0 > 4)))) = some r := h
 clear h
 have HC3 := Aside0.mk H
 clear H
 go_enter Tryd.func36, Tryd.ntmps36
 go_upto_region 1 with (first | ((with_reducible refine gD 2 rfl ?_); (try (refine gate_guard (by rfl) ?_; dsimp only)); refine box_event rfl (N := 2) rfl (cs := #[.int .i64 a0_0, .int .i64 a0_1, .int .i64 a0_2, .int .i64 a0_3, .int .i64 a0_4, .int .i64 a0_5]) (t := 68) gs_ ?_; intro gb269 hg w4 hbox hb; have n0_ := Aside0.mk (below_step (bl_ HB) hb); have n1_ := Aside0.mk (hbox); have n2_ := Aside0.mk ((by rw [hg]; exact (below_size (bl_ HB)) : w.heap.size ≤ gb269)); have n3_ := Aside0.mk ((by rw [hg]; exact (below_size (bl_ HB)) : w.heap.size ≤ gb269)); clear HB; have HB := n0_; have BK269 := n1_; have GW269 := n2_; have GE269 := n3_; clear n0_ n1_ n2_ n3_; clear hb hbox hg))
 (try simp only [Act.put, List.setIfInBounds_toArray, List.set_cons_zero, List.set_cons_succ])
 go_cut [14] (fun v14 wc => ∃ (kq : Nat) (x14_2 : Bool), v14 = .bool x14_2 ∧ Aside0 (chapbooklaw21_great.j0 kq l1 x14_2 = some r) ∧ Aside0 (kq ≤ k) ∧ Aside0 (wc.heap[gb269]? = some (.cells #[.int .i64 a0_0, .int .i64 a0_1, .int .i64 a0_2, .int .i64 a0_3, .int .i64 a0_4, .int .i64 a0_5] 68 (0, 0))) ∧ Aside0 (Below w.heap.size w wc))
 case first =>
  have H := HC3.out
  clear HC3
  by_cases c5 : (l1.length : Int) > 60
  ·rw [if_pos c5] at H
   have c5b0 : decide (60 < (l1.length : Int)) = true := decide_eq_true c5
   have c5b1 : decide (60 < l1.length) = true := decide_eq_true (by omega)
   clear c5
   (first | rw [c5b0] | (simp only [i64_w, i32_w]; rw [c5b0]) | skip)
   have H' := Aside0.mk H
   clear H
   go_wp2
   go_meet
   case rel => exact ⟨_, (true), er_, H', ⟨by first | omega | exact Nat.le_refl _⟩, ⟨bk_ BK269⟩, ⟨bl_ HB⟩⟩
  ·rw [if_neg c5] at H
   have c5b0 : decide (60 < (l1.length : Int)) = false := decide_eq_false c5
   have c5b1 : decide (60 < l1.length) = false := decide_eq_false (by omega)
   clear c5
   (first | rw [c5b0] | (simp only [i64_w, i32_w]; rw [c5b0]) | skip)
   have H' := Aside0.mk H
   clear H
   have hz6 := kb6_ BK269
   go_wp2
   go_meet
   case rel => exact ⟨_, (decide (a0_0 > 4)), er_, H', ⟨by first | omega | exact Nat.le_refl _⟩, ⟨bk_ BK269⟩, ⟨bl_ HB⟩⟩
 case rest =>
  clear HC3
  try clear c1
  try clear p2
  try clear c3
  try clear c5
  try clear c5b0
  try clear c5b1
  try clear hz6
  obtain ⟨kq, x14_2, rfl, HA, HJ2, BK269, HB⟩ := hcut
  cases kq with
  | zero => exact absurd HA.out (by simp [chapbooklaw21_great.j0])
  | succ kj2 =>
   have H := HA.out
   clear HA
   simp only [chapbooklaw21_great.j0] at H
   by_cases c7 : x14_2 = true
   ·subst c7
    have H1 : (some true) = some r := by rw [if_pos rfl] at H; exact H
    clear H
    have H := H1
    clear H1
    obtain rfl := Option.some.inj H
    go_wp2
    go_ret
    exact ⟨ew_, bl_ HB⟩
   ·replace c7 := Bool.eq_false_iff.mpr c7
    subst c7
    have H1 : (chapbooklaw21_great.l0 kj2 l1 (l1.length : Int) 0) = some r := by rw [if_neg (show ¬ (false = true) by decide)] at H; exact H
    clear H
    have H := H1
    clear H1
    have H' := Aside0.mk H
    clear H
    go_wp2
    go_loopg [17] kj2 (fun kq v17 w' => ∃ (x17_2 : Int), v17 = .int .i64 x17_2 ∧ Aside0 (chapbooklaw21_great.l0 kq l1 (l1.length : Int) x17_2 = some r) ∧ Aside0 (kq ≤ kj2) ∧ Aside0 (w'.heap[gb269]? = some (.cells #[.int .i64 a0_0, .int .i64 a0_1, .int .i64 a0_2, .int .i64 a0_3, .int .i64 a0_4, .int .i64 a0_5] 68 (0, 0))) ∧ Aside0 (Below w.heap.size w w'))
    case atStart => exact ⟨(0), er_, H', ⟨Nat.le_refl _⟩, ⟨bk_ BK269⟩, ⟨bl_ HB⟩⟩
    case round =>
     clear H'
     try clear c1
     try clear p2
     try clear c3
     try clear c5
     try clear c5b0
     try clear c5b1
     try clear c7
     try clear hz6
     try clear p2
     obtain ⟨x17_2, rfl, HA, HK2, BK269, HB⟩ := hrel
     cases gk with
     | zero => exact absurd HA.out (by simp [chapbooklaw21_great.l0])
     | succ k2 =>
      have H := HA.out
      clear HA
      simp only [chapbooklaw21_great.l0] at H
      by_cases c8 : x17_2 < (l1.length : Int)
      ·rw [if_pos c8] at H
       have c8b0 : decide (x17_2 < (l1.length : Int)) = true := decide_eq_true c8
       clear c8
       by_cases c9 : 0 ≤ x17_2
       ·rw [if_pos c9] at H
        have c9b0 : decide (0 ≤ x17_2) = true := decide_eq_true c9
        clear c9
        by_cases c10 : x17_2 < (l1.length : Int)
        ·rw [if_pos c10] at H
         have c10b0 : decide (x17_2 < (l1.length : Int)) = true := decide_eq_true c10
         clear c10
         replace H := Option.bind_eq_some_iff.mp H
         obtain ⟨t272, A110, H⟩ := H
         replace H : (if t272 = true then (some true) else (if (((rd_T88 l1 x17_2).f0.f3).size : Int) > 50 then (some true) else (chapbooklaw21_great.l0 k2 l1 (l1.length : Int) (wrap64 (x17_2 + 1))))) = some r := H
         have A11 := Aside0.mk A110
         clear A110
         by_cases c12 : t272 = true
         ·subst c12
          have H1 : (some true) = some r := by rw [if_pos rfl] at H; exact H
          clear H
          have H := H1
          clear H1
          obtain rfl := Option.some.inj H
          have p270 : 0 ≤ (x17_2 : Int) := of_decide_eq_true (by first | (with_reducible assumption) | assumption)
          have q270 : x17_2 < (l1.length : Int) := of_decide_eq_true (by first | (with_reducible assumption) | assumption)
          obtain ⟨ad270, e270, hx270_0, hx270_1, hx270_2, hx270_3, hx270_4, hx270_5, hx270_6, hx270_7, hx270_8, hx270_9, hx270_10, hx270_11⟩ := at_T88 HR1.out x17_2 p270 q270
          cases e270
          replace hx270_0 := hx_ HB hx270_0
          replace hx270_1 := hx_ HB hx270_1
          replace hx270_2 := hx_ HB hx270_2
          replace hx270_3 := hx_ HB hx270_3
          replace hx270_4 := hx_ HB hx270_4
          replace hx270_5 := hx_ HB hx270_5
          replace hx270_6 := hx_ HB hx270_6
          replace hx270_7 := hx_ HB hx270_7
          replace hx270_8 := hx_ HB hx270_8
          replace hx270_9 := hx_ HB hx270_9
          replace hx270_10 := hx_ HB hx270_10
          replace hx270_11 := hx_ HB hx270_11
          replace p270 := eq_true p270
          replace q270 := eq_true q270
          go_wp2_with (first | ((with_reducible refine gD 6 rfl ?_); (try (refine gate_guard (by rfl) ?_; dsimp only)); refine box_event rfl (N := 6) rfl (cs := #[.int .i64 0, .int .i64 0, .string (⟨#[]⟩ : ByteArray), .int .i64 0, .int .i64 0, .string (⟨#[]⟩ : ByteArray), .string (⟨#[]⟩ : ByteArray), .int .i64 0, .int .i64 0, .int .u32 0, .int .i64 0, .int .i64 0]) (t := 88) gs_ ?_; intro gb271 hg w13 hbox hb; have n0_ := bb_ BK269 hb; have n1_ := Aside0.mk (below_step (bl_ HB) hb); have n2_ := Aside0.mk (hbox); have n3_ := Aside0.mk ((by rw [hg]; exact (below_size (bl_ HB)) : w.heap.size ≤ gb271)); have n4_ := Aside0.mk ((by rw [hg]; exact (below_size (bl_ HB)) : w.heap.size ≤ gb271)); have n5_ := Aside0.mk ((by rw [hg]; exact Nat.ne_of_lt (blk_lt (g := gb269) (o := .cells #[.int .i64 a0_0, .int .i64 a0_1, .int .i64 a0_2, .int .i64 a0_3, .int .i64 a0_4, .int .i64 a0_5] 68 (0, 0)) (bk_ BK269)) : gb269 ≠ gb271)); have n6_ := Aside0.mk ((by rw [hg]; exact Nat.ne_of_gt (blk_lt (g := gb269) (o := .cells #[.int .i64 a0_0, .int .i64 a0_1, .int .i64 a0_2, .int .i64 a0_3, .int .i64 a0_4, .int .i64 a0_5] 68 (0, 0)) (bk_ BK269)) : gb271 ≠ gb269)); clear BK269; clear HB; have BK269 := n0_; have HB := n1_; have BK271 := n2_; have GW271 := n3_; have GE271 := n4_; have NB269_271 := n5_; have NB271_269 := n6_; clear n0_ n1_ n2_ n3_ n4_ n5_ n6_; clear hb hbox hg; have hnb14 := NB271_269.out; have hnc14 := NB269_271.out; have hcz15_0 : w13.cell? ⟨gb271, 0, none⟩ = some (.int .i64 0) := (blk_cell BK271.out 0).trans rfl; have hcz15_1 : w13.cell? ⟨gb271, 1, none⟩ = some (.int .i64 0) := (blk_cell BK271.out 1).trans rfl; have hcz15_2 : w13.cell? ⟨gb271, 2, none⟩ = some (.string (⟨#[]⟩ : ByteArray)) := (blk_cell BK271.out 2).trans rfl; have hcz15_3 : w13.cell? ⟨gb271, 3, none⟩ = some (.int .i64 0) := (blk_cell BK271.out 3).trans rfl; have hcz15_4 : w13.cell? ⟨gb271, 4, none⟩ = some (.int .i64 0) := (blk_cell BK271.out 4).trans rfl; have hcz15_5 : w13.cell? ⟨gb271, 5, none⟩ = some (.string (⟨#[]⟩ : ByteArray)) := (blk_cell BK271.out 5).trans rfl; have hcz15_6 : w13.cell? ⟨gb271, 6, none⟩ = some (.string (⟨#[]⟩ : ByteArray)) := (blk_cell BK271.out 6).trans rfl; have hcz15_7 : w13.cell? ⟨gb271, 7, none⟩ = some (.int .i64 0) := (blk_cell BK271.out 7).trans rfl; have hcz15_8 : w13.cell? ⟨gb271, 8, none⟩ = some (.int .i64 0) := (blk_cell BK271.out 8).trans rfl; have hcz15_9 : w13.cell? ⟨gb271, 9, none⟩ = some (.int .u32 0) := (blk_cell BK271.out 9).trans rfl; have hcz15_10 : w13.cell? ⟨gb271, 10, none⟩ = some (.int .i64 0) := (blk_cell BK271.out 10).trans rfl; have hcz15_11 : w13.cell? ⟨gb271, 11, none⟩ = some (.int .i64 0) := (blk_cell BK271.out 11).trans rfl; have hfz15_0 := blk_frozen BK271.out 0; have hfz15_1 := blk_frozen BK271.out 1; have hfz15_2 := blk_frozen BK271.out 2; have hfz15_3 := blk_frozen BK271.out 3; have hfz15_4 := blk_frozen BK271.out 4; have hfz15_5 := blk_frozen BK271.out 5; have hfz15_6 := blk_frozen BK271.out 6; have hfz15_7 := blk_frozen BK271.out 7; have hfz15_8 := blk_frozen BK271.out 8; have hfz15_9 := blk_frozen BK271.out 9; have hfz15_10 := blk_frozen BK271.out 10; have hfz15_11 := blk_frozen BK271.out 11) | ((with_reducible refine gC 57 rfl ?_); refine goesL_ (some 24) rfl rfl Tryd.func57 (by kernel_rfl) rfl #[.agg #[.string ((rd_T88 l1 x17_2).f0.f2.f0), .int .i64 ((rd_T88 l1 x17_2).f0.f2.f1), .int .i64 ((rd_T88 l1 x17_2).f0.f2.f2), .string ((rd_T88 l1 x17_2).f0.f2.f3)]] rfl am_ ?_; (with_reducible refine (chapbookref04_Great.calls ((rd_T88 l1 x17_2).f0.f2.f0) ((rd_T88 l1 x17_2).f0.f2.f1) ((rd_T88 l1 x17_2).f0.f2.f2) ((rd_T88 l1 x17_2).f0.f2.f3) true _ A11.out).mono ?_); rintro e w16 ⟨rfl, hb⟩; refine ⟨_, rfl, ?_⟩; have n0_ := Aside0.mk (blk_below (g := gb269) (o := .cells #[.int .i64 a0_0, .int .i64 a0_1, .int .i64 a0_2, .int .i64 a0_3, .int .i64 a0_4, .int .i64 a0_5] 68 (0, 0)) (by (with_reducible repeat (first | refine blk_drewN ?_ _ | refine blk_drew ?_ | refine blk_alloc ?_ _)); refine blk_far ?_ NB269_271.out _; (with_reducible repeat (first | refine blk_drewN ?_ _ | refine blk_drew ?_ | refine blk_alloc ?_ _)); refine blk_far ?_ NB269_271.out _; (with_reducible repeat (first | refine blk_drewN ?_ _ | refine blk_drew ?_ | refine blk_alloc ?_ _)); refine blk_far ?_ NB269_271.out _; (with_reducible repeat (first | refine blk_drewN ?_ _ | refine blk_drew ?_ | refine blk_alloc ?_ _)); refine blk_far ?_ NB269_271.out _; (with_reducible repeat (first | refine blk_drewN ?_ _ | refine blk_drew ?_ | refine blk_alloc ?_ _)); refine blk_far ?_ NB269_271.out _; (with_reducible repeat (first | refine blk_drewN ?_ _ | refine blk_drew ?_ | refine blk_alloc ?_ _)); refine blk_far ?_ NB269_271.out _; (with_reducible repeat (first | refine blk_drewN ?_ _ | refine blk_drew ?_ | refine blk_alloc ?_ _)); refine blk_far ?_ NB269_271.out _; (with_reducible repeat (first | refine blk_drewN ?_ _ | refine blk_drew ?_ | refine blk_alloc ?_ _)); refine blk_far ?_ NB269_271.out _; (with_reducible repeat (first | refine blk_drewN ?_ _ | refine blk_drew ?_ | refine blk_alloc ?_ _)); refine blk_far ?_ NB269_271.out _; (with_reducible repeat (first | refine blk_drewN ?_ _ | refine blk_drew ?_ | refine blk_alloc ?_ _)); refine blk_far ?_ NB269_271.out _; (with_reducible repeat (first | refine blk_drewN ?_ _ | refine blk_drew ?_ | refine blk_alloc ?_ _)); refine blk_far ?_ NB269_271.out _; (with_reducible repeat (first | refine blk_drewN ?_ _ | refine blk_drew ?_ | refine blk_alloc ?_ _)); refine blk_far ?_ NB269_271.out _; (with_reducible repeat (first | refine blk_drewN ?_ _ | refine blk_drew ?_ | refine blk_alloc ?_ _)); exact BK269.out) hb); have n1_ := Aside0.mk (blk_below (g := gb271) (o := .cells #[.int .i64 ((rd_T88 l1 x17_2).f0.f0), .int .i64 ((rd_T88 l1 x17_2).f0.f1), .string ((rd_T88 l1 x17_2).f0.f2.f0), .int .i64 ((rd_T88 l1 x17_2).f0.f2.f1), .int .i64 ((rd_T88 l1 x17_2).f0.f2.f2), .string ((rd_T88 l1 x17_2).f0.f2.f3), .string ((rd_T88 l1 x17_2).f0.f3), .int .i64 ((rd_T88 l1 x17_2).f0.f4), .int .i64 ((rd_T88 l1 x17_2).f0.f5), .int .u32 ((rd_T88 l1 x17_2).f0.f6), .int .i64 ((rd_T88 l1 x17_2).f1), .int .i64 ((rd_T88 l1 x17_2).f2)] 88 (0, 0)) (by (with_reducible repeat (first | refine blk_drewN ?_ _ | refine blk_drew ?_ | refine blk_alloc ?_ _)); refine blk_put (cs := #[.int .i64 ((rd_T88 l1 x17_2).f0.f0), .int .i64 ((rd_T88 l1 x17_2).f0.f1), .string ((rd_T88 l1 x17_2).f0.f2.f0), .int .i64 ((rd_T88 l1 x17_2).f0.f2.f1), .int .i64 ((rd_T88 l1 x17_2).f0.f2.f2), .string ((rd_T88 l1 x17_2).f0.f2.f3), .string ((rd_T88 l1 x17_2).f0.f3), .int .i64 ((rd_T88 l1 x17_2).f0.f4), .int .i64 ((rd_T88 l1 x17_2).f0.f5), .int .u32 ((rd_T88 l1 x17_2).f0.f6), .int .i64 ((rd_T88 l1 x17_2).f1), .int .i64 0]) ?_ 11 _ rfl; (with_reducible repeat (first | refine blk_drewN ?_ _ | refine blk_drew ?_ | refine blk_alloc ?_ _)); refine blk_put (cs := #[.int .i64 ((rd_T88 l1 x17_2).f0.f0), .int .i64 ((rd_T88 l1 x17_2).f0.f1), .string ((rd_T88 l1 x17_2).f0.f2.f0), .int .i64 ((rd_T88 l1 x17_2).f0.f2.f1), .int .i64 ((rd_T88 l1 x17_2).f0.f2.f2), .string ((rd_T88 l1 x17_2).f0.f2.f3), .string ((rd_T88 l1 x17_2).f0.f3), .int .i64 ((rd_T88 l1 x17_2).f0.f4), .int .i64 ((rd_T88 l1 x17_2).f0.f5), .int .u32 ((rd_T88 l1 x17_2).f0.f6), .int .i64 0, .int .i64 0]) ?_ 10 _ rfl; (with_reducible repeat (first | refine blk_drewN ?_ _ | refine blk_drew ?_ | refine blk_alloc ?_ _)); refine blk_put (cs := #[.int .i64 ((rd_T88 l1 x17_2).f0.f0), .int .i64 ((rd_T88 l1 x17_2).f0.f1), .string ((rd_T88 l1 x17_2).f0.f2.f0), .int .i64 ((rd_T88 l1 x17_2).f0.f2.f1), .int .i64 ((rd_T88 l1 x17_2).f0.f2.f2), .string ((rd_T88 l1 x17_2).f0.f2.f3), .string ((rd_T88 l1 x17_2).f0.f3), .int .i64 ((rd_T88 l1 x17_2).f0.f4), .int .i64 ((rd_T88 l1 x17_2).f0.f5), .int .u32 0, .int .i64 0, .int .i64 0]) ?_ 9 _ rfl; (with_reducible repeat (first | refine blk_drewN ?_ _ | refine blk_drew ?_ | refine blk_alloc ?_ _)); refine blk_put (cs := #[.int .i64 ((rd_T88 l1 x17_2).f0.f0), .int .i64 ((rd_T88 l1 x17_2).f0.f1), .string ((rd_T88 l1 x17_2).f0.f2.f0), .int .i64 ((rd_T88 l1 x17_2).f0.f2.f1), .int .i64 ((rd_T88 l1 x17_2).f0.f2.f2), .string ((rd_T88 l1 x17_2).f0.f2.f3), .string ((rd_T88 l1 x17_2).f0.f3), .int .i64 ((rd_T88 l1 x17_2).f0.f4), .int .i64 0, .int .u32 0, .int .i64 0, .int .i64 0]) ?_ 8 _ rfl; (with_reducible repeat (first | refine blk_drewN ?_ _ | refine blk_drew ?_ | refine blk_alloc ?_ _)); refine blk_put (cs := #[.int .i64 ((rd_T88 l1 x17_2).f0.f0), .int .i64 ((rd_T88 l1 x17_2).f0.f1), .string ((rd_T88 l1 x17_2).f0.f2.f0), .int .i64 ((rd_T88 l1 x17_2).f0.f2.f1), .int .i64 ((rd_T88 l1 x17_2).f0.f2.f2), .string ((rd_T88 l1 x17_2).f0.f2.f3), .string ((rd_T88 l1 x17_2).f0.f3), .int .i64 0, .int .i64 0, .int .u32 0, .int .i64 0, .int .i64 0]) ?_ 7 _ rfl; (with_reducible repeat (first | refine blk_drewN ?_ _ | refine blk_drew ?_ | refine blk_alloc ?_ _)); refine blk_put (cs := #[.int .i64 ((rd_T88 l1 x17_2).f0.f0), .int .i64 ((rd_T88 l1 x17_2).f0.f1), .string ((rd_T88 l1 x17_2).f0.f2.f0), .int .i64 ((rd_T88 l1 x17_2).f0.f2.f1), .int .i64 ((rd_T88 l1 x17_2).f0.f2.f2), .string ((rd_T88 l1 x17_2).f0.f2.f3), .string (⟨#[]⟩ : ByteArray), .int .i64 0, .int .i64 0, .int .u32 0, .int .i64 0, .int .i64 0]) ?_ 6 _ rfl; (with_reducible repeat (first | refine blk_drewN ?_ _ | refine blk_drew ?_ | refine blk_alloc ?_ _)); refine blk_put (cs := #[.int .i64 ((rd_T88 l1 x17_2).f0.f0), .int .i64 ((rd_T88 l1 x17_2).f0.f1), .string ((rd_T88 l1 x17_2).f0.f2.f0), .int .i64 ((rd_T88 l1 x17_2).f0.f2.f1), .int .i64 ((rd_T88 l1 x17_2).f0.f2.f2), .string (⟨#[]⟩ : ByteArray), .string (⟨#[]⟩ : ByteArray), .int .i64 0, .int .i64 0, .int .u32 0, .int .i64 0, .int .i64 0]) ?_ 5 _ rfl; (with_reducible repeat (first | refine blk_drewN ?_ _ | refine blk_drew ?_ | refine blk_alloc ?_ _)); refine blk_put (cs := #[.int .i64 ((rd_T88 l1 x17_2).f0.f0), .int .i64 ((rd_T88 l1 x17_2).f0.f1), .string ((rd_T88 l1 x17_2).f0.f2.f0), .int .i64 ((rd_T88 l1 x17_2).f0.f2.f1), .int .i64 0, .string (⟨#[]⟩ : ByteArray), .string (⟨#[]⟩ : ByteArray), .int .i64 0, .int .i64 0, .int .u32 0, .int .i64 0, .int .i64 0]) ?_ 4 _ rfl; (with_reducible repeat (first | refine blk_drewN ?_ _ | refine blk_drew ?_ | refine blk_alloc ?_ _)); refine blk_put (cs := #[.int .i64 ((rd_T88 l1 x17_2).f0.f0), .int .i64 ((rd_T88 l1 x17_2).f0.f1), .string ((rd_T88 l1 x17_2).f0.f2.f0), .int .i64 0, .int .i64 0, .string (⟨#[]⟩ : ByteArray), .string (⟨#[]⟩ : ByteArray), .int .i64 0, .int .i64 0, .int .u32 0, .int .i64 0, .int .i64 0]) ?_ 3 _ rfl; (with_reducible repeat (first | refine blk_drewN ?_ _ | refine blk_drew ?_ | refine blk_alloc ?_ _)); refine blk_put (cs := #[.int .i64 ((rd_T88 l1 x17_2).f0.f0), .int .i64 ((rd_T88 l1 x17_2).f0.f1), .string (⟨#[]⟩ : ByteArray), .int .i64 0, .int .i64 0, .string (⟨#[]⟩ : ByteArray), .string (⟨#[]⟩ : ByteArray), .int .i64 0, .int .i64 0, .int .u32 0, .int .i64 0, .int .i64 0]) ?_ 2 _ rfl; (with_reducible repeat (first | refine blk_drewN ?_ _ | refine blk_drew ?_ | refine blk_alloc ?_ _)); refine blk_put (cs := #[.int .i64 ((rd_T88 l1 x17_2).f0.f0), .int .i64 0, .string (⟨#[]⟩ : ByteArray), .int .i64 0, .int .i64 0, .string (⟨#[]⟩ : ByteArray), .string (⟨#[]⟩ : ByteArray), .int .i64 0, .int .i64 0, .int .u32 0, .int .i64 0, .int .i64 0]) ?_ 1 _ rfl; (with_reducible repeat (first | refine blk_drewN ?_ _ | refine blk_drew ?_ | refine blk_alloc ?_ _)); refine blk_put (cs := #[.int .i64 0, .int .i64 0, .string (⟨#[]⟩ : ByteArray), .int .i64 0, .int .i64 0, .string (⟨#[]⟩ : ByteArray), .string (⟨#[]⟩ : ByteArray), .int .i64 0, .int .i64 0, .int .u32 0, .int .i64 0, .int .i64 0]) ?_ 0 _ rfl; (with_reducible repeat (first | refine blk_drewN ?_ _ | refine blk_drew ?_ | refine blk_alloc ?_ _)); exact BK271.out) hb); have n2_ := Aside0.mk (below_step (bl_ HB) hb); clear BK269; clear BK271; clear HB; have BK269 := n0_; have BK271 := n1_; have HB := n2_; clear n0_ n1_ n2_; (try clear hb); (try clear hb2); (try clear hk); (try clear hi)))
          go_ret
          exact ⟨ew_, bl_ HB⟩
         ·replace c12 := Bool.eq_false_iff.mpr c12
          subst c12
          have H1 : (if (((rd_T88 l1 x17_2).f0.f3).size : Int) > 50 then (some true) else (chapbooklaw21_great.l0 k2 l1 (l1.length : Int) (wrap64 (x17_2 + 1)))) = some r := by rw [if_neg (show ¬ (false = true) by decide)] at H; exact H
          clear H
          have H := H1
          clear H1
          by_cases c17 : (((rd_T88 l1 x17_2).f0.f3).size : Int) > 50
          ·rw [if_pos c17] at H
           have c17b0 : decide (50 < (((rd_T88 l1 x17_2).f0.f3).size : Int)) = true := decide_eq_true c17
           have c17b1 : decide (50 < ((rd_T88 l1 x17_2).f0.f3).size) = true := decide_eq_true (by omega)
           clear c17
           obtain rfl := Option.some.inj H
           have p270 : 0 ≤ (x17_2 : Int) := of_decide_eq_true (by first | (with_reducible assumption) | assumption)
           have q270 : x17_2 < (l1.length : Int) := of_decide_eq_true (by first | (with_reducible assumption) | assumption)
           obtain ⟨ad270, e270, hx270_0, hx270_1, hx270_2, hx270_3, hx270_4, hx270_5, hx270_6, hx270_7, hx270_8, hx270_9, hx270_10, hx270_11⟩ := at_T88 HR1.out x17_2 p270 q270
           cases e270
           replace hx270_0 := hx_ HB hx270_0
           replace hx270_1 := hx_ HB hx270_1
           replace hx270_2 := hx_ HB hx270_2
           replace hx270_3 := hx_ HB hx270_3
           replace hx270_4 := hx_ HB hx270_4
           replace hx270_5 := hx_ HB hx270_5
           replace hx270_6 := hx_ HB hx270_6
           replace hx270_7 := hx_ HB hx270_7
           replace hx270_8 := hx_ HB hx270_8
           replace hx270_9 := hx_ HB hx270_9
           replace hx270_10 := hx_ HB hx270_10
           replace hx270_11 := hx_ HB hx270_11
           replace p270 := eq_true p270
           replace q270 := eq_true q270
           go_wp2_with (first | ((with_reducible refine gD 6 rfl ?_); (try (refine gate_guard (by rfl) ?_; dsimp only)); refine box_event rfl (N := 6) rfl (cs := #[.int .i64 0, .int .i64 0, .string (⟨#[]⟩ : ByteArray), .int .i64 0, .int .i64 0, .string (⟨#[]⟩ : ByteArray), .string (⟨#[]⟩ : ByteArray), .int .i64 0, .int .i64 0, .int .u32 0, .int .i64 0, .int .i64 0]) (t := 88) gs_ ?_; intro gb271 hg w18 hbox hb; have n0_ := bb_ BK269 hb; have n1_ := Aside0.mk (below_step (bl_ HB) hb); have n2_ := Aside0.mk (hbox); have n3_ := Aside0.mk ((by rw [hg]; exact (below_size (bl_ HB)) : w.heap.size ≤ gb271)); have n4_ := Aside0.mk ((by rw [hg]; exact (below_size (bl_ HB)) : w.heap.size ≤ gb271)); have n5_ := Aside0.mk ((by rw [hg]; exact Nat.ne_of_lt (blk_lt (g := gb269) (o := .cells #[.int .i64 a0_0, .int .i64 a0_1, .int .i64 a0_2, .int .i64 a0_3, .int .i64 a0_4, .int .i64 a0_5] 68 (0, 0)) (bk_ BK269)) : gb269 ≠ gb271)); have n6_ := Aside0.mk ((by rw [hg]; exact Nat.ne_of_gt (blk_lt (g := gb269) (o := .cells #[.int .i64 a0_0, .int .i64 a0_1, .int .i64 a0_2, .int .i64 a0_3, .int .i64 a0_4, .int .i64 a0_5] 68 (0, 0)) (bk_ BK269)) : gb271 ≠ gb269)); clear BK269; clear HB; have BK269 := n0_; have HB := n1_; have BK271 := n2_; have GW271 := n3_; have GE271 := n4_; have NB269_271 := n5_; have NB271_269 := n6_; clear n0_ n1_ n2_ n3_ n4_ n5_ n6_; clear hb hbox hg; have hnb19 := NB271_269.out; have hnc19 := NB269_271.out; have hcz20_0 : w18.cell? ⟨gb271, 0, none⟩ = some (.int .i64 0) := (blk_cell BK271.out 0).trans rfl; have hcz20_1 : w18.cell? ⟨gb271, 1, none⟩ = some (.int .i64 0) := (blk_cell BK271.out 1).trans rfl; have hcz20_2 : w18.cell? ⟨gb271, 2, none⟩ = some (.string (⟨#[]⟩ : ByteArray)) := (blk_cell BK271.out 2).trans rfl; have hcz20_3 : w18.cell? ⟨gb271, 3, none⟩ = some (.int .i64 0) := (blk_cell BK271.out 3).trans rfl; have hcz20_4 : w18.cell? ⟨gb271, 4, none⟩ = some (.int .i64 0) := (blk_cell BK271.out 4).trans rfl; have hcz20_5 : w18.cell? ⟨gb271, 5, none⟩ = some (.string (⟨#[]⟩ : ByteArray)) := (blk_cell BK271.out 5).trans rfl; have hcz20_6 : w18.cell? ⟨gb271, 6, none⟩ = some (.string (⟨#[]⟩ : ByteArray)) := (blk_cell BK271.out 6).trans rfl; have hcz20_7 : w18.cell? ⟨gb271, 7, none⟩ = some (.int .i64 0) := (blk_cell BK271.out 7).trans rfl; have hcz20_8 : w18.cell? ⟨gb271, 8, none⟩ = some (.int .i64 0) := (blk_cell BK271.out 8).trans rfl; have hcz20_9 : w18.cell? ⟨gb271, 9, none⟩ = some (.int .u32 0) := (blk_cell BK271.out 9).trans rfl; have hcz20_10 : w18.cell? ⟨gb271, 10, none⟩ = some (.int .i64 0) := (blk_cell BK271.out 10).trans rfl; have hcz20_11 : w18.cell? ⟨gb271, 11, none⟩ = some (.int .i64 0) := (blk_cell BK271.out 11).trans rfl; have hfz20_0 := blk_frozen BK271.out 0; have hfz20_1 := blk_frozen BK271.out 1; have hfz20_2 := blk_frozen BK271.out 2; have hfz20_3 := blk_frozen BK271.out 3; have hfz20_4 := blk_frozen BK271.out 4; have hfz20_5 := blk_frozen BK271.out 5; have hfz20_6 := blk_frozen BK271.out 6; have hfz20_7 := blk_frozen BK271.out 7; have hfz20_8 := blk_frozen BK271.out 8; have hfz20_9 := blk_frozen BK271.out 9; have hfz20_10 := blk_frozen BK271.out 10; have hfz20_11 := blk_frozen BK271.out 11) | ((with_reducible refine gC 57 rfl ?_); refine goesL_ (some 24) rfl rfl Tryd.func57 (by kernel_rfl) rfl #[.agg #[.string ((rd_T88 l1 x17_2).f0.f2.f0), .int .i64 ((rd_T88 l1 x17_2).f0.f2.f1), .int .i64 ((rd_T88 l1 x17_2).f0.f2.f2), .string ((rd_T88 l1 x17_2).f0.f2.f3)]] rfl am_ ?_; (with_reducible refine (chapbookref04_Great.calls ((rd_T88 l1 x17_2).f0.f2.f0) ((rd_T88 l1 x17_2).f0.f2.f1) ((rd_T88 l1 x17_2).f0.f2.f2) ((rd_T88 l1 x17_2).f0.f2.f3) false _ A11.out).mono ?_); rintro e w21 ⟨rfl, hb⟩; refine ⟨_, rfl, ?_⟩; have n0_ := Aside0.mk (blk_below (g := gb269) (o := .cells #[.int .i64 a0_0, .int .i64 a0_1, .int .i64 a0_2, .int .i64 a0_3, .int .i64 a0_4, .int .i64 a0_5] 68 (0, 0)) (by (with_reducible repeat (first | refine blk_drewN ?_ _ | refine blk_drew ?_ | refine blk_alloc ?_ _)); refine blk_far ?_ NB269_271.out _; (with_reducible repeat (first | refine blk_drewN ?_ _ | refine blk_drew ?_ | refine blk_alloc ?_ _)); refine blk_far ?_ NB269_271.out _; (with_reducible repeat (first | refine blk_drewN ?_ _ | refine blk_drew ?_ | refine blk_alloc ?_ _)); refine blk_far ?_ NB269_271.out _; (with_reducible repeat (first | refine blk_drewN ?_ _ | refine blk_drew ?_ | refine blk_alloc ?_ _)); refine blk_far ?_ NB269_271.out _; (with_reducible repeat (first | refine blk_drewN ?_ _ | refine blk_drew ?_ | refine blk_alloc ?_ _)); refine blk_far ?_ NB269_271.out _; (with_reducible repeat (first | refine blk_drewN ?_ _ | refine blk_drew ?_ | refine blk_alloc ?_ _)); refine blk_far ?_ NB269_271.out _; (with_reducible repeat (first | refine blk_drewN ?_ _ | refine blk_drew ?_ | refine blk_alloc ?_ _)); refine blk_far ?_ NB269_271.out _; (with_reducible repeat (first | refine blk_drewN ?_ _ | refine blk_drew ?_ | refine blk_alloc ?_ _)); refine blk_far ?_ NB269_271.out _; (with_reducible repeat (first | refine blk_drewN ?_ _ | refine blk_drew ?_ | refine blk_alloc ?_ _)); refine blk_far ?_ NB269_271.out _; (with_reducible repeat (first | refine blk_drewN ?_ _ | refine blk_drew ?_ | refine blk_alloc ?_ _)); refine blk_far ?_ NB269_271.out _; (with_reducible repeat (first | refine blk_drewN ?_ _ | refine blk_drew ?_ | refine blk_alloc ?_ _)); refine blk_far ?_ NB269_271.out _; (with_reducible repeat (first | refine blk_drewN ?_ _ | refine blk_drew ?_ | refine blk_alloc ?_ _)); refine blk_far ?_ NB269_271.out _; (with_reducible repeat (first | refine blk_drewN ?_ _ | refine blk_drew ?_ | refine blk_alloc ?_ _)); exact BK269.out) hb); have n1_ := Aside0.mk (blk_below (g := gb271) (o := .cells #[.int .i64 ((rd_T88 l1 x17_2).f0.f0), .int .i64 ((rd_T88 l1 x17_2).f0.f1), .string ((rd_T88 l1 x17_2).f0.f2.f0), .int .i64 ((rd_T88 l1 x17_2).f0.f2.f1), .int .i64 ((rd_T88 l1 x17_2).f0.f2.f2), .string ((rd_T88 l1 x17_2).f0.f2.f3), .string ((rd_T88 l1 x17_2).f0.f3), .int .i64 ((rd_T88 l1 x17_2).f0.f4), .int .i64 ((rd_T88 l1 x17_2).f0.f5), .int .u32 ((rd_T88 l1 x17_2).f0.f6), .int .i64 ((rd_T88 l1 x17_2).f1), .int .i64 ((rd_T88 l1 x17_2).f2)] 88 (0, 0)) (by (with_reducible repeat (first | refine blk_drewN ?_ _ | refine blk_drew ?_ | refine blk_alloc ?_ _)); refine blk_put (cs := #[.int .i64 ((rd_T88 l1 x17_2).f0.f0), .int .i64 ((rd_T88 l1 x17_2).f0.f1), .string ((rd_T88 l1 x17_2).f0.f2.f0), .int .i64 ((rd_T88 l1 x17_2).f0.f2.f1), .int .i64 ((rd_T88 l1 x17_2).f0.f2.f2), .string ((rd_T88 l1 x17_2).f0.f2.f3), .string ((rd_T88 l1 x17_2).f0.f3), .int .i64 ((rd_T88 l1 x17_2).f0.f4), .int .i64 ((rd_T88 l1 x17_2).f0.f5), .int .u32 ((rd_T88 l1 x17_2).f0.f6), .int .i64 ((rd_T88 l1 x17_2).f1), .int .i64 0]) ?_ 11 _ rfl; (with_reducible repeat (first | refine blk_drewN ?_ _ | refine blk_drew ?_ | refine blk_alloc ?_ _)); refine blk_put (cs := #[.int .i64 ((rd_T88 l1 x17_2).f0.f0), .int .i64 ((rd_T88 l1 x17_2).f0.f1), .string ((rd_T88 l1 x17_2).f0.f2.f0), .int .i64 ((rd_T88 l1 x17_2).f0.f2.f1), .int .i64 ((rd_T88 l1 x17_2).f0.f2.f2), .string ((rd_T88 l1 x17_2).f0.f2.f3), .string ((rd_T88 l1 x17_2).f0.f3), .int .i64 ((rd_T88 l1 x17_2).f0.f4), .int .i64 ((rd_T88 l1 x17_2).f0.f5), .int .u32 ((rd_T88 l1 x17_2).f0.f6), .int .i64 0, .int .i64 0]) ?_ 10 _ rfl; (with_reducible repeat (first | refine blk_drewN ?_ _ | refine blk_drew ?_ | refine blk_alloc ?_ _)); refine blk_put (cs := #[.int .i64 ((rd_T88 l1 x17_2).f0.f0), .int .i64 ((rd_T88 l1 x17_2).f0.f1), .string ((rd_T88 l1 x17_2).f0.f2.f0), .int .i64 ((rd_T88 l1 x17_2).f0.f2.f1), .int .i64 ((rd_T88 l1 x17_2).f0.f2.f2), .string ((rd_T88 l1 x17_2).f0.f2.f3), .string ((rd_T88 l1 x17_2).f0.f3), .int .i64 ((rd_T88 l1 x17_2).f0.f4), .int .i64 ((rd_T88 l1 x17_2).f0.f5), .int .u32 0, .int .i64 0, .int .i64 0]) ?_ 9 _ rfl; (with_reducible repeat (first | refine blk_drewN ?_ _ | refine blk_drew ?_ | refine blk_alloc ?_ _)); refine blk_put (cs := #[.int .i64 ((rd_T88 l1 x17_2).f0.f0), .int .i64 ((rd_T88 l1 x17_2).f0.f1), .string ((rd_T88 l1 x17_2).f0.f2.f0), .int .i64 ((rd_T88 l1 x17_2).f0.f2.f1), .int .i64 ((rd_T88 l1 x17_2).f0.f2.f2), .string ((rd_T88 l1 x17_2).f0.f2.f3), .string ((rd_T88 l1 x17_2).f0.f3), .int .i64 ((rd_T88 l1 x17_2).f0.f4), .int .i64 0, .int .u32 0, .int .i64 0, .int .i64 0]) ?_ 8 _ rfl; (with_reducible repeat (first | refine blk_drewN ?_ _ | refine blk_drew ?_ | refine blk_alloc ?_ _)); refine blk_put (cs := #[.int .i64 ((rd_T88 l1 x17_2).f0.f0), .int .i64 ((rd_T88 l1 x17_2).f0.f1), .string ((rd_T88 l1 x17_2).f0.f2.f0), .int .i64 ((rd_T88 l1 x17_2).f0.f2.f1), .int .i64 ((rd_T88 l1 x17_2).f0.f2.f2), .string ((rd_T88 l1 x17_2).f0.f2.f3), .string ((rd_T88 l1 x17_2).f0.f3), .int .i64 0, .int .i64 0, .int .u32 0, .int .i64 0, .int .i64 0]) ?_ 7 _ rfl; (with_reducible repeat (first | refine blk_drewN ?_ _ | refine blk_drew ?_ | refine blk_alloc ?_ _)); refine blk_put (cs := #[.int .i64 ((rd_T88 l1 x17_2).f0.f0), .int .i64 ((rd_T88 l1 x17_2).f0.f1), .string ((rd_T88 l1 x17_2).f0.f2.f0), .int .i64 ((rd_T88 l1 x17_2).f0.f2.f1), .int .i64 ((rd_T88 l1 x17_2).f0.f2.f2), .string ((rd_T88 l1 x17_2).f0.f2.f3), .string (⟨#[]⟩ : ByteArray), .int .i64 0, .int .i64 0, .int .u32 0, .int .i64 0, .int .i64 0]) ?_ 6 _ rfl; (with_reducible repeat (first | refine blk_drewN ?_ _ | refine blk_drew ?_ | refine blk_alloc ?_ _)); refine blk_put (cs := #[.int .i64 ((rd_T88 l1 x17_2).f0.f0), .int .i64 ((rd_T88 l1 x17_2).f0.f1), .string ((rd_T88 l1 x17_2).f0.f2.f0), .int .i64 ((rd_T88 l1 x17_2).f0.f2.f1), .int .i64 ((rd_T88 l1 x17_2).f0.f2.f2), .string (⟨#[]⟩ : ByteArray), .string (⟨#[]⟩ : ByteArray), .int .i64 0, .int .i64 0, .int .u32 0, .int .i64 0, .int .i64 0]) ?_ 5 _ rfl; (with_reducible repeat (first | refine blk_drewN ?_ _ | refine blk_drew ?_ | refine blk_alloc ?_ _)); refine blk_put (cs := #[.int .i64 ((rd_T88 l1 x17_2).f0.f0), .int .i64 ((rd_T88 l1 x17_2).f0.f1), .string ((rd_T88 l1 x17_2).f0.f2.f0), .int .i64 ((rd_T88 l1 x17_2).f0.f2.f1), .int .i64 0, .string (⟨#[]⟩ : ByteArray), .string (⟨#[]⟩ : ByteArray), .int .i64 0, .int .i64 0, .int .u32 0, .int .i64 0, .int .i64 0]) ?_ 4 _ rfl; (with_reducible repeat (first | refine blk_drewN ?_ _ | refine blk_drew ?_ | refine blk_alloc ?_ _)); refine blk_put (cs := #[.int .i64 ((rd_T88 l1 x17_2).f0.f0), .int .i64 ((rd_T88 l1 x17_2).f0.f1), .string ((rd_T88 l1 x17_2).f0.f2.f0), .int .i64 0, .int .i64 0, .string (⟨#[]⟩ : ByteArray), .string (⟨#[]⟩ : ByteArray), .int .i64 0, .int .i64 0, .int .u32 0, .int .i64 0, .int .i64 0]) ?_ 3 _ rfl; (with_reducible repeat (first | refine blk_drewN ?_ _ | refine blk_drew ?_ | refine blk_alloc ?_ _)); refine blk_put (cs := #[.int .i64 ((rd_T88 l1 x17_2).f0.f0), .int .i64 ((rd_T88 l1 x17_2).f0.f1), .string (⟨#[]⟩ : ByteArray), .int .i64 0, .int .i64 0, .string (⟨#[]⟩ : ByteArray), .string (⟨#[]⟩ : ByteArray), .int .i64 0, .int .i64 0, .int .u32 0, .int .i64 0, .int .i64 0]) ?_ 2 _ rfl; (with_reducible repeat (first | refine blk_drewN ?_ _ | refine blk_drew ?_ | refine blk_alloc ?_ _)); refine blk_put (cs := #[.int .i64 ((rd_T88 l1 x17_2).f0.f0), .int .i64 0, .string (⟨#[]⟩ : ByteArray), .int .i64 0, .int .i64 0, .string (⟨#[]⟩ : ByteArray), .string (⟨#[]⟩ : ByteArray), .int .i64 0, .int .i64 0, .int .u32 0, .int .i64 0, .int .i64 0]) ?_ 1 _ rfl; (with_reducible repeat (first | refine blk_drewN ?_ _ | refine blk_drew ?_ | refine blk_alloc ?_ _)); refine blk_put (cs := #[.int .i64 0, .int .i64 0, .string (⟨#[]⟩ : ByteArray), .int .i64 0, .int .i64 0, .string (⟨#[]⟩ : ByteArray), .string (⟨#[]⟩ : ByteArray), .int .i64 0, .int .i64 0, .int .u32 0, .int .i64 0, .int .i64 0]) ?_ 0 _ rfl; (with_reducible repeat (first | refine blk_drewN ?_ _ | refine blk_drew ?_ | refine blk_alloc ?_ _)); exact BK271.out) hb); have n2_ := Aside0.mk (below_step (bl_ HB) hb); clear BK269; clear BK271; clear HB; have BK269 := n0_; have BK271 := n1_; have HB := n2_; clear n0_ n1_ n2_; (try clear hb); (try clear hb2); (try clear hk); (try clear hi); have hcz22_0 : w21.cell? ⟨gb271, 0, none⟩ = some (.int .i64 ((rd_T88 l1 x17_2).f0.f0)) := (blk_cell BK271.out 0).trans rfl; have hcz22_1 : w21.cell? ⟨gb271, 1, none⟩ = some (.int .i64 ((rd_T88 l1 x17_2).f0.f1)) := (blk_cell BK271.out 1).trans rfl; have hcz22_2 : w21.cell? ⟨gb271, 2, none⟩ = some (.string ((rd_T88 l1 x17_2).f0.f2.f0)) := (blk_cell BK271.out 2).trans rfl; have hcz22_3 : w21.cell? ⟨gb271, 3, none⟩ = some (.int .i64 ((rd_T88 l1 x17_2).f0.f2.f1)) := (blk_cell BK271.out 3).trans rfl; have hcz22_4 : w21.cell? ⟨gb271, 4, none⟩ = some (.int .i64 ((rd_T88 l1 x17_2).f0.f2.f2)) := (blk_cell BK271.out 4).trans rfl; have hcz22_5 : w21.cell? ⟨gb271, 5, none⟩ = some (.string ((rd_T88 l1 x17_2).f0.f2.f3)) := (blk_cell BK271.out 5).trans rfl; have hcz22_6 : w21.cell? ⟨gb271, 6, none⟩ = some (.string ((rd_T88 l1 x17_2).f0.f3)) := (blk_cell BK271.out 6).trans rfl; have hcz22_7 : w21.cell? ⟨gb271, 7, none⟩ = some (.int .i64 ((rd_T88 l1 x17_2).f0.f4)) := (blk_cell BK271.out 7).trans rfl; have hcz22_8 : w21.cell? ⟨gb271, 8, none⟩ = some (.int .i64 ((rd_T88 l1 x17_2).f0.f5)) := (blk_cell BK271.out 8).trans rfl; have hcz22_9 : w21.cell? ⟨gb271, 9, none⟩ = some (.int .u32 ((rd_T88 l1 x17_2).f0.f6)) := (blk_cell BK271.out 9).trans rfl; have hcz22_10 : w21.cell? ⟨gb271, 10, none⟩ = some (.int .i64 ((rd_T88 l1 x17_2).f1)) := (blk_cell BK271.out 10).trans rfl; have hcz22_11 : w21.cell? ⟨gb271, 11, none⟩ = some (.int .i64 ((rd_T88 l1 x17_2).f2)) := (blk_cell BK271.out 11).trans rfl; have hfz22_0 := blk_frozen BK271.out 0; have hfz22_1 := blk_frozen BK271.out 1; have hfz22_2 := blk_frozen BK271.out 2; have hfz22_3 := blk_frozen BK271.out 3; have hfz22_4 := blk_frozen BK271.out 4; have hfz22_5 := blk_frozen BK271.out 5; have hfz22_6 := blk_frozen BK271.out 6; have hfz22_7 := blk_frozen BK271.out 7; have hfz22_8 := blk_frozen BK271.out 8; have hfz22_9 := blk_frozen BK271.out 9; have hfz22_10 := blk_frozen BK271.out 10; have hfz22_11 := blk_frozen BK271.out 11))
           go_ret
           exact ⟨ew_, bl_ HB⟩
          ·rw [if_neg c17] at H
           have c17b0 : decide (50 < (((rd_T88 l1 x17_2).f0.f3).size : Int)) = false := decide_eq_false c17
           have c17b1 : decide (50 < ((rd_T88 l1 x17_2).f0.f3).size) = false := decide_eq_false (by omega)
           clear c17
           have H' := Aside0.mk H
           clear H
           have p270 : 0 ≤ (x17_2 : Int) := of_decide_eq_true (by first | (with_reducible assumption) | assumption)
           have q270 : x17_2 < (l1.length : Int) := of_decide_eq_true (by first | (with_reducible assumption) | assumption)
           obtain ⟨ad270, e270, hx270_0, hx270_1, hx270_2, hx270_3, hx270_4, hx270_5, hx270_6, hx270_7, hx270_8, hx270_9, hx270_10, hx270_11⟩ := at_T88 HR1.out x17_2 p270 q270
           cases e270
           replace hx270_0 := hx_ HB hx270_0
           replace hx270_1 := hx_ HB hx270_1
           replace hx270_2 := hx_ HB hx270_2
           replace hx270_3 := hx_ HB hx270_3
           replace hx270_4 := hx_ HB hx270_4
           replace hx270_5 := hx_ HB hx270_5
           replace hx270_6 := hx_ HB hx270_6
           replace hx270_7 := hx_ HB hx270_7
           replace hx270_8 := hx_ HB hx270_8
           replace hx270_9 := hx_ HB hx270_9
           replace hx270_10 := hx_ HB hx270_10
           replace hx270_11 := hx_ HB hx270_11
           replace p270 := eq_true p270
           replace q270 := eq_true q270
           go_wp2_with (first | ((with_reducible refine gD 6 rfl ?_); (try (refine gate_guard (by rfl) ?_; dsimp only)); refine box_event rfl (N := 6) rfl (cs := #[.int .i64 0, .int .i64 0, .string (⟨#[]⟩ : ByteArray), .int .i64 0, .int .i64 0, .string (⟨#[]⟩ : ByteArray), .string (⟨#[]⟩ : ByteArray), .int .i64 0, .int .i64 0, .int .u32 0, .int .i64 0, .int .i64 0]) (t := 88) gs_ ?_; intro gb271 hg w23 hbox hb; have n0_ := bb_ BK269 hb; have n1_ := Aside0.mk (below_step (bl_ HB) hb); have n2_ := Aside0.mk (hbox); have n3_ := Aside0.mk ((by rw [hg]; exact (below_size (bl_ HB)) : w.heap.size ≤ gb271)); have n4_ := Aside0.mk ((by rw [hg]; exact (below_size (bl_ HB)) : w.heap.size ≤ gb271)); have n5_ := Aside0.mk ((by rw [hg]; exact Nat.ne_of_lt (blk_lt (g := gb269) (o := .cells #[.int .i64 a0_0, .int .i64 a0_1, .int .i64 a0_2, .int .i64 a0_3, .int .i64 a0_4, .int .i64 a0_5] 68 (0, 0)) (bk_ BK269)) : gb269 ≠ gb271)); have n6_ := Aside0.mk ((by rw [hg]; exact Nat.ne_of_gt (blk_lt (g := gb269) (o := .cells #[.int .i64 a0_0, .int .i64 a0_1, .int .i64 a0_2, .int .i64 a0_3, .int .i64 a0_4, .int .i64 a0_5] 68 (0, 0)) (bk_ BK269)) : gb271 ≠ gb269)); clear BK269; clear HB; have BK269 := n0_; have HB := n1_; have BK271 := n2_; have GW271 := n3_; have GE271 := n4_; have NB269_271 := n5_; have NB271_269 := n6_; clear n0_ n1_ n2_ n3_ n4_ n5_ n6_; clear hb hbox hg; have hnb24 := NB271_269.out; have hnc24 := NB269_271.out; have hcz25_0 : w23.cell? ⟨gb271, 0, none⟩ = some (.int .i64 0) := (blk_cell BK271.out 0).trans rfl; have hcz25_1 : w23.cell? ⟨gb271, 1, none⟩ = some (.int .i64 0) := (blk_cell BK271.out 1).trans rfl; have hcz25_2 : w23.cell? ⟨gb271, 2, none⟩ = some (.string (⟨#[]⟩ : ByteArray)) := (blk_cell BK271.out 2).trans rfl; have hcz25_3 : w23.cell? ⟨gb271, 3, none⟩ = some (.int .i64 0) := (blk_cell BK271.out 3).trans rfl; have hcz25_4 : w23.cell? ⟨gb271, 4, none⟩ = some (.int .i64 0) := (blk_cell BK271.out 4).trans rfl; have hcz25_5 : w23.cell? ⟨gb271, 5, none⟩ = some (.string (⟨#[]⟩ : ByteArray)) := (blk_cell BK271.out 5).trans rfl; have hcz25_6 : w23.cell? ⟨gb271, 6, none⟩ = some (.string (⟨#[]⟩ : ByteArray)) := (blk_cell BK271.out 6).trans rfl; have hcz25_7 : w23.cell? ⟨gb271, 7, none⟩ = some (.int .i64 0) := (blk_cell BK271.out 7).trans rfl; have hcz25_8 : w23.cell? ⟨gb271, 8, none⟩ = some (.int .i64 0) := (blk_cell BK271.out 8).trans rfl; have hcz25_9 : w23.cell? ⟨gb271, 9, none⟩ = some (.int .u32 0) := (blk_cell BK271.out 9).trans rfl; have hcz25_10 : w23.cell? ⟨gb271, 10, none⟩ = some (.int .i64 0) := (blk_cell BK271.out 10).trans rfl; have hcz25_11 : w23.cell? ⟨gb271, 11, none⟩ = some (.int .i64 0) := (blk_cell BK271.out 11).trans rfl; have hfz25_0 := blk_frozen BK271.out 0; have hfz25_1 := blk_frozen BK271.out 1; have hfz25_2 := blk_frozen BK271.out 2; have hfz25_3 := blk_frozen BK271.out 3; have hfz25_4 := blk_frozen BK271.out 4; have hfz25_5 := blk_frozen BK271.out 5; have hfz25_6 := blk_frozen BK271.out 6; have hfz25_7 := blk_frozen BK271.out 7; have hfz25_8 := blk_frozen BK271.out 8; have hfz25_9 := blk_frozen BK271.out 9; have hfz25_10 := blk_frozen BK271.out 10; have hfz25_11 := blk_frozen BK271.out 11) | ((with_reducible refine gC 57 rfl ?_); refine goesL_ (some 24) rfl rfl Tryd.func57 (by kernel_rfl) rfl #[.agg #[.string ((rd_T88 l1 x17_2).f0.f2.f0), .int .i64 ((rd_T88 l1 x17_2).f0.f2.f1), .int .i64 ((rd_T88 l1 x17_2).f0.f2.f2), .string ((rd_T88 l1 x17_2).f0.f2.f3)]] rfl am_ ?_; (with_reducible refine (chapbookref04_Great.calls ((rd_T88 l1 x17_2).f0.f2.f0) ((rd_T88 l1 x17_2).f0.f2.f1) ((rd_T88 l1 x17_2).f0.f2.f2) ((rd_T88 l1 x17_2).f0.f2.f3) false _ A11.out).mono ?_); rintro e w26 ⟨rfl, hb⟩; refine ⟨_, rfl, ?_⟩; have n0_ := Aside0.mk (blk_below (g := gb269) (o := .cells #[.int .i64 a0_0, .int .i64 a0_1, .int .i64 a0_2, .int .i64 a0_3, .int .i64 a0_4, .int .i64 a0_5] 68 (0, 0)) (by (with_reducible repeat (first | refine blk_drewN ?_ _ | refine blk_drew ?_ | refine blk_alloc ?_ _)); refine blk_far ?_ NB269_271.out _; (with_reducible repeat (first | refine blk_drewN ?_ _ | refine blk_drew ?_ | refine blk_alloc ?_ _)); refine blk_far ?_ NB269_271.out _; (with_reducible repeat (first | refine blk_drewN ?_ _ | refine blk_drew ?_ | refine blk_alloc ?_ _)); refine blk_far ?_ NB269_271.out _; (with_reducible repeat (first | refine blk_drewN ?_ _ | refine blk_drew ?_ | refine blk_alloc ?_ _)); refine blk_far ?_ NB269_271.out _; (with_reducible repeat (first | refine blk_drewN ?_ _ | refine blk_drew ?_ | refine blk_alloc ?_ _)); refine blk_far ?_ NB269_271.out _; (with_reducible repeat (first | refine blk_drewN ?_ _ | refine blk_drew ?_ | refine blk_alloc ?_ _)); refine blk_far ?_ NB269_271.out _; (with_reducible repeat (first | refine blk_drewN ?_ _ | refine blk_drew ?_ | refine blk_alloc ?_ _)); refine blk_far ?_ NB269_271.out _; (with_reducible repeat (first | refine blk_drewN ?_ _ | refine blk_drew ?_ | refine blk_alloc ?_ _)); refine blk_far ?_ NB269_271.out _; (with_reducible repeat (first | refine blk_drewN ?_ _ | refine blk_drew ?_ | refine blk_alloc ?_ _)); refine blk_far ?_ NB269_271.out _; (with_reducible repeat (first | refine blk_drewN ?_ _ | refine blk_drew ?_ | refine blk_alloc ?_ _)); refine blk_far ?_ NB269_271.out _; (with_reducible repeat (first | refine blk_drewN ?_ _ | refine blk_drew ?_ | refine blk_alloc ?_ _)); refine blk_far ?_ NB269_271.out _; (with_reducible repeat (first | refine blk_drewN ?_ _ | refine blk_drew ?_ | refine blk_alloc ?_ _)); refine blk_far ?_ NB269_271.out _; (with_reducible repeat (first | refine blk_drewN ?_ _ | refine blk_drew ?_ | refine blk_alloc ?_ _)); exact BK269.out) hb); have n1_ := Aside0.mk (blk_below (g := gb271) (o := .cells #[.int .i64 ((rd_T88 l1 x17_2).f0.f0), .int .i64 ((rd_T88 l1 x17_2).f0.f1), .string ((rd_T88 l1 x17_2).f0.f2.f0), .int .i64 ((rd_T88 l1 x17_2).f0.f2.f1), .int .i64 ((rd_T88 l1 x17_2).f0.f2.f2), .string ((rd_T88 l1 x17_2).f0.f2.f3), .string ((rd_T88 l1 x17_2).f0.f3), .int .i64 ((rd_T88 l1 x17_2).f0.f4), .int .i64 ((rd_T88 l1 x17_2).f0.f5), .int .u32 ((rd_T88 l1 x17_2).f0.f6), .int .i64 ((rd_T88 l1 x17_2).f1), .int .i64 ((rd_T88 l1 x17_2).f2)] 88 (0, 0)) (by (with_reducible repeat (first | refine blk_drewN ?_ _ | refine blk_drew ?_ | refine blk_alloc ?_ _)); refine blk_put (cs := #[.int .i64 ((rd_T88 l1 x17_2).f0.f0), .int .i64 ((rd_T88 l1 x17_2).f0.f1), .string ((rd_T88 l1 x17_2).f0.f2.f0), .int .i64 ((rd_T88 l1 x17_2).f0.f2.f1), .int .i64 ((rd_T88 l1 x17_2).f0.f2.f2), .string ((rd_T88 l1 x17_2).f0.f2.f3), .string ((rd_T88 l1 x17_2).f0.f3), .int .i64 ((rd_T88 l1 x17_2).f0.f4), .int .i64 ((rd_T88 l1 x17_2).f0.f5), .int .u32 ((rd_T88 l1 x17_2).f0.f6), .int .i64 ((rd_T88 l1 x17_2).f1), .int .i64 0]) ?_ 11 _ rfl; (with_reducible repeat (first | refine blk_drewN ?_ _ | refine blk_drew ?_ | refine blk_alloc ?_ _)); refine blk_put (cs := #[.int .i64 ((rd_T88 l1 x17_2).f0.f0), .int .i64 ((rd_T88 l1 x17_2).f0.f1), .string ((rd_T88 l1 x17_2).f0.f2.f0), .int .i64 ((rd_T88 l1 x17_2).f0.f2.f1), .int .i64 ((rd_T88 l1 x17_2).f0.f2.f2), .string ((rd_T88 l1 x17_2).f0.f2.f3), .string ((rd_T88 l1 x17_2).f0.f3), .int .i64 ((rd_T88 l1 x17_2).f0.f4), .int .i64 ((rd_T88 l1 x17_2).f0.f5), .int .u32 ((rd_T88 l1 x17_2).f0.f6), .int .i64 0, .int .i64 0]) ?_ 10 _ rfl; (with_reducible repeat (first | refine blk_drewN ?_ _ | refine blk_drew ?_ | refine blk_alloc ?_ _)); refine blk_put (cs := #[.int .i64 ((rd_T88 l1 x17_2).f0.f0), .int .i64 ((rd_T88 l1 x17_2).f0.f1), .string ((rd_T88 l1 x17_2).f0.f2.f0), .int .i64 ((rd_T88 l1 x17_2).f0.f2.f1), .int .i64 ((rd_T88 l1 x17_2).f0.f2.f2), .string ((rd_T88 l1 x17_2).f0.f2.f3), .string ((rd_T88 l1 x17_2).f0.f3), .int .i64 ((rd_T88 l1 x17_2).f0.f4), .int .i64 ((rd_T88 l1 x17_2).f0.f5), .int .u32 0, .int .i64 0, .int .i64 0]) ?_ 9 _ rfl; (with_reducible repeat (first | refine blk_drewN ?_ _ | refine blk_drew ?_ | refine blk_alloc ?_ _)); refine blk_put (cs := #[.int .i64 ((rd_T88 l1 x17_2).f0.f0), .int .i64 ((rd_T88 l1 x17_2).f0.f1), .string ((rd_T88 l1 x17_2).f0.f2.f0), .int .i64 ((rd_T88 l1 x17_2).f0.f2.f1), .int .i64 ((rd_T88 l1 x17_2).f0.f2.f2), .string ((rd_T88 l1 x17_2).f0.f2.f3), .string ((rd_T88 l1 x17_2).f0.f3), .int .i64 ((rd_T88 l1 x17_2).f0.f4), .int .i64 0, .int .u32 0, .int .i64 0, .int .i64 0]) ?_ 8 _ rfl; (with_reducible repeat (first | refine blk_drewN ?_ _ | refine blk_drew ?_ | refine blk_alloc ?_ _)); refine blk_put (cs := #[.int .i64 ((rd_T88 l1 x17_2).f0.f0), .int .i64 ((rd_T88 l1 x17_2).f0.f1), .string ((rd_T88 l1 x17_2).f0.f2.f0), .int .i64 ((rd_T88 l1 x17_2).f0.f2.f1), .int .i64 ((rd_T88 l1 x17_2).f0.f2.f2), .string ((rd_T88 l1 x17_2).f0.f2.f3), .string ((rd_T88 l1 x17_2).f0.f3), .int .i64 0, .int .i64 0, .int .u32 0, .int .i64 0, .int .i64 0]) ?_ 7 _ rfl; (with_reducible repeat (first | refine blk_drewN ?_ _ | refine blk_drew ?_ | refine blk_alloc ?_ _)); refine blk_put (cs := #[.int .i64 ((rd_T88 l1 x17_2).f0.f0), .int .i64 ((rd_T88 l1 x17_2).f0.f1), .string ((rd_T88 l1 x17_2).f0.f2.f0), .int .i64 ((rd_T88 l1 x17_2).f0.f2.f1), .int .i64 ((rd_T88 l1 x17_2).f0.f2.f2), .string ((rd_T88 l1 x17_2).f0.f2.f3), .string (⟨#[]⟩ : ByteArray), .int .i64 0, .int .i64 0, .int .u32 0, .int .i64 0, .int .i64 0]) ?_ 6 _ rfl; (with_reducible repeat (first | refine blk_drewN ?_ _ | refine blk_drew ?_ | refine blk_alloc ?_ _)); refine blk_put (cs := #[.int .i64 ((rd_T88 l1 x17_2).f0.f0), .int .i64 ((rd_T88 l1 x17_2).f0.f1), .string ((rd_T88 l1 x17_2).f0.f2.f0), .int .i64 ((rd_T88 l1 x17_2).f0.f2.f1), .int .i64 ((rd_T88 l1 x17_2).f0.f2.f2), .string (⟨#[]⟩ : ByteArray), .string (⟨#[]⟩ : ByteArray), .int .i64 0, .int .i64 0, .int .u32 0, .int .i64 0, .int .i64 0]) ?_ 5 _ rfl; (with_reducible repeat (first | refine blk_drewN ?_ _ | refine blk_drew ?_ | refine blk_alloc ?_ _)); refine blk_put (cs := #[.int .i64 ((rd_T88 l1 x17_2).f0.f0), .int .i64 ((rd_T88 l1 x17_2).f0.f1), .string ((rd_T88 l1 x17_2).f0.f2.f0), .int .i64 ((rd_T88 l1 x17_2).f0.f2.f1), .int .i64 0, .string (⟨#[]⟩ : ByteArray), .string (⟨#[]⟩ : ByteArray), .int .i64 0, .int .i64 0, .int .u32 0, .int .i64 0, .int .i64 0]) ?_ 4 _ rfl; (with_reducible repeat (first | refine blk_drewN ?_ _ | refine blk_drew ?_ | refine blk_alloc ?_ _)); refine blk_put (cs := #[.int .i64 ((rd_T88 l1 x17_2).f0.f0), .int .i64 ((rd_T88 l1 x17_2).f0.f1), .string ((rd_T88 l1 x17_2).f0.f2.f0), .int .i64 0, .int .i64 0, .string (⟨#[]⟩ : ByteArray), .string (⟨#[]⟩ : ByteArray), .int .i64 0, .int .i64 0, .int .u32 0, .int .i64 0, .int .i64 0]) ?_ 3 _ rfl; (with_reducible repeat (first | refine blk_drewN ?_ _ | refine blk_drew ?_ | refine blk_alloc ?_ _)); refine blk_put (cs := #[.int .i64 ((rd_T88 l1 x17_2).f0.f0), .int .i64 ((rd_T88 l1 x17_2).f0.f1), .string (⟨#[]⟩ : ByteArray), .int .i64 0, .int .i64 0, .string (⟨#[]⟩ : ByteArray), .string (⟨#[]⟩ : ByteArray), .int .i64 0, .int .i64 0, .int .u32 0, .int .i64 0, .int .i64 0]) ?_ 2 _ rfl; (with_reducible repeat (first | refine blk_drewN ?_ _ | refine blk_drew ?_ | refine blk_alloc ?_ _)); refine blk_put (cs := #[.int .i64 ((rd_T88 l1 x17_2).f0.f0), .int .i64 0, .string (⟨#[]⟩ : ByteArray), .int .i64 0, .int .i64 0, .string (⟨#[]⟩ : ByteArray), .string (⟨#[]⟩ : ByteArray), .int .i64 0, .int .i64 0, .int .u32 0, .int .i64 0, .int .i64 0]) ?_ 1 _ rfl; (with_reducible repeat (first | refine blk_drewN ?_ _ | refine blk_drew ?_ | refine blk_alloc ?_ _)); refine blk_put (cs := #[.int .i64 0, .int .i64 0, .string (⟨#[]⟩ : ByteArray), .int .i64 0, .int .i64 0, .string (⟨#[]⟩ : ByteArray), .string (⟨#[]⟩ : ByteArray), .int .i64 0, .int .i64 0, .int .u32 0, .int .i64 0, .int .i64 0]) ?_ 0 _ rfl; (with_reducible repeat (first | refine blk_drewN ?_ _ | refine blk_drew ?_ | refine blk_alloc ?_ _)); exact BK271.out) hb); have n2_ := Aside0.mk (below_step (bl_ HB) hb); clear BK269; clear BK271; clear HB; have BK269 := n0_; have BK271 := n1_; have HB := n2_; clear n0_ n1_ n2_; (try clear hb); (try clear hb2); (try clear hk); (try clear hi); have hcz27_0 : w26.cell? ⟨gb271, 0, none⟩ = some (.int .i64 ((rd_T88 l1 x17_2).f0.f0)) := (blk_cell BK271.out 0).trans rfl; have hcz27_1 : w26.cell? ⟨gb271, 1, none⟩ = some (.int .i64 ((rd_T88 l1 x17_2).f0.f1)) := (blk_cell BK271.out 1).trans rfl; have hcz27_2 : w26.cell? ⟨gb271, 2, none⟩ = some (.string ((rd_T88 l1 x17_2).f0.f2.f0)) := (blk_cell BK271.out 2).trans rfl; have hcz27_3 : w26.cell? ⟨gb271, 3, none⟩ = some (.int .i64 ((rd_T88 l1 x17_2).f0.f2.f1)) := (blk_cell BK271.out 3).trans rfl; have hcz27_4 : w26.cell? ⟨gb271, 4, none⟩ = some (.int .i64 ((rd_T88 l1 x17_2).f0.f2.f2)) := (blk_cell BK271.out 4).trans rfl; have hcz27_5 : w26.cell? ⟨gb271, 5, none⟩ = some (.string ((rd_T88 l1 x17_2).f0.f2.f3)) := (blk_cell BK271.out 5).trans rfl; have hcz27_6 : w26.cell? ⟨gb271, 6, none⟩ = some (.string ((rd_T88 l1 x17_2).f0.f3)) := (blk_cell BK271.out 6).trans rfl; have hcz27_7 : w26.cell? ⟨gb271, 7, none⟩ = some (.int .i64 ((rd_T88 l1 x17_2).f0.f4)) := (blk_cell BK271.out 7).trans rfl; have hcz27_8 : w26.cell? ⟨gb271, 8, none⟩ = some (.int .i64 ((rd_T88 l1 x17_2).f0.f5)) := (blk_cell BK271.out 8).trans rfl; have hcz27_9 : w26.cell? ⟨gb271, 9, none⟩ = some (.int .u32 ((rd_T88 l1 x17_2).f0.f6)) := (blk_cell BK271.out 9).trans rfl; have hcz27_10 : w26.cell? ⟨gb271, 10, none⟩ = some (.int .i64 ((rd_T88 l1 x17_2).f1)) := (blk_cell BK271.out 10).trans rfl; have hcz27_11 : w26.cell? ⟨gb271, 11, none⟩ = some (.int .i64 ((rd_T88 l1 x17_2).f2)) := (blk_cell BK271.out 11).trans rfl; have hfz27_0 := blk_frozen BK271.out 0; have hfz27_1 := blk_frozen BK271.out 1; have hfz27_2 := blk_frozen BK271.out 2; have hfz27_3 := blk_frozen BK271.out 3; have hfz27_4 := blk_frozen BK271.out 4; have hfz27_5 := blk_frozen BK271.out 5; have hfz27_6 := blk_frozen BK271.out 6; have hfz27_7 := blk_frozen BK271.out 7; have hfz27_8 := blk_frozen BK271.out 8; have hfz27_9 := blk_frozen BK271.out 9; have hfz27_10 := blk_frozen BK271.out 10; have hfz27_11 := blk_frozen BK271.out 11))
           go_roundg k2
           case measure => have := HJ2.out; have := HK2.out; omega
           case rel => exact ⟨(wrap64 (x17_2 + 1)), er_, H', ⟨by have := HJ2.out; have := HK2.out; omega⟩, ⟨bk_ BK269⟩, ⟨bl_ HB⟩⟩
        ·rw [if_neg c10] at H
         exact absurd H (by simp)
       ·rw [if_neg c9] at H
        exact absurd H (by simp)
      ·rw [if_neg c8] at H
       have c8b0 : decide (x17_2 < (l1.length : Int)) = false := decide_eq_false c8
       clear c8
       obtain rfl := Option.some.inj H
       go_wp2
       go_ret
       exact ⟨ew_, bl_ HB⟩
def chapbooklaw21_config.f  : Option (Int × Int × Int × Int × Int × Int) := some (2, 2, 1, 1, 100, 9)
theorem chapbooklaw21_config.calls  (r1 : Int) (r2 : Int) (r3 : Int) (r4 : Int) (r5 : Int) (r6 : Int) (w : World) (h : chapbooklaw21_config.f  = some (r1, r2, r3, r4, r5, r6)) :
  Calls Tryd.prog 75 #[] w fun e w' => e = .returned (.agg #[.int .i64 r1, .int .i64 r2, .int .i64 r3, .int .i64 r4, .int .i64 r5, .int .i64 r6]) ∧ Below w.heap.size w w' := by
 have hu68 := Tryd.underlying68
 have HB := Aside0.mk (Below.refl w.heap.size w)
 have H : (some (2, 2, 1, 1, 100, 9)) = some (r1, r2, r3, r4, r5, r6) := h
 clear h
 simp only [Option.some.injEq, Prod.mk.injEq] at H
 obtain ⟨rfl, rfl, rfl, rfl, rfl, rfl⟩ := H
 go_enter Tryd.func75, Tryd.ntmps75
 go_wp2_with (first | ((with_reducible refine gD 0 rfl ?_); refine box_event rfl (N := 0) rfl (cs := #[.int .i64 0, .int .i64 0, .int .i64 0, .int .i64 0, .int .i64 0, .int .i64 0]) (t := 68) gs_ ?_; intro gb273 hg w1 hbox hb; have n0_ := Aside0.mk (below_step (bl_ HB) hb); have n1_ := Aside0.mk (hbox); have n2_ := Aside0.mk ((by rw [hg]; exact (below_size (bl_ HB)) : w.heap.size ≤ gb273)); have n3_ := Aside0.mk ((by rw [hg]; exact (below_size (bl_ HB)) : w.heap.size ≤ gb273)); clear HB; have HB := n0_; have BK273 := n1_; have GW273 := n2_; have GE273 := n3_; clear n0_ n1_ n2_ n3_; clear hb hbox hg; have hz2 := kb6_ BK273))
 refine bodyPost_ret (results_cell_row rfl _ _ gb273 68 #[.int .i64 2, .int .i64 2, .int .i64 1, .int .i64 1, .int .i64 100, .int .i64 9] (0, 0) _ rfl (by (with_reducible repeat (first | refine blk_drewN ?_ _ | refine blk_drew ?_ | refine blk_alloc ?_ _)); refine blk_put (cs := #[.int .i64 2, .int .i64 2, .int .i64 1, .int .i64 1, .int .i64 100, .int .i64 0]) ?_ 5 _ rfl; (with_reducible repeat (first | refine blk_drewN ?_ _ | refine blk_drew ?_ | refine blk_alloc ?_ _)); refine blk_put (cs := #[.int .i64 2, .int .i64 2, .int .i64 1, .int .i64 1, .int .i64 0, .int .i64 0]) ?_ 4 _ rfl; (with_reducible repeat (first | refine blk_drewN ?_ _ | refine blk_drew ?_ | refine blk_alloc ?_ _)); refine blk_put (cs := #[.int .i64 2, .int .i64 2, .int .i64 1, .int .i64 0, .int .i64 0, .int .i64 0]) ?_ 3 _ rfl; (with_reducible repeat (first | refine blk_drewN ?_ _ | refine blk_drew ?_ | refine blk_alloc ?_ _)); refine blk_put (cs := #[.int .i64 2, .int .i64 2, .int .i64 0, .int .i64 0, .int .i64 0, .int .i64 0]) ?_ 2 _ rfl; (with_reducible repeat (first | refine blk_drewN ?_ _ | refine blk_drew ?_ | refine blk_alloc ?_ _)); refine blk_put (cs := #[.int .i64 2, .int .i64 0, .int .i64 0, .int .i64 0, .int .i64 0, .int .i64 0]) ?_ 1 _ rfl; (with_reducible repeat (first | refine blk_drewN ?_ _ | refine blk_drew ?_ | refine blk_alloc ?_ _)); refine blk_put (cs := #[.int .i64 0, .int .i64 0, .int .i64 0, .int .i64 0, .int .i64 0, .int .i64 0]) ?_ 0 _ rfl; (with_reducible repeat (first | refine blk_drewN ?_ _ | refine blk_drew ?_ | refine blk_alloc ?_ _)); exact BK273.out) Tryd.underlying68 rfl (by kernel_rfl)) rfl ?_
 exact ⟨ew_, bl_ HB⟩
end Go.Proofs.YtjdenpmaianmfaaDoor.Q
