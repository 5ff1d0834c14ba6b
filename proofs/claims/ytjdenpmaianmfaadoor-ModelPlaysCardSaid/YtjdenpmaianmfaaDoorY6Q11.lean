/- Contracts of the seat's functions, printed: if the Lean function comes to a value, the Go function returns it. -/
import Derived.Test.YtjdenpmaianmfaaDoorY6Q10
namespace Go.Proofs.YtjdenpmaianmfaaDoor.Q
open RowKit YtjdenpmaianmfaaDoorW.PrintWords YtjdenpmaianmfaaDoorW.PrintLast YtjdenpmaianmfaaDoorW.PrintMore
attribute [local go_sem] max2_int min2_int max_two min_two max_three min_three max_four min_four
set_option maxHeartbeats 16000000
set_option maxRecDepth 100000
set_option linter.unusedVariables false
set_option linter.unusedSimpArgs false
def sequencer_in.f (a0 : Int) (a1 : Int) (a2 : Int) : Option (Bool) := if a0 ≥ a1 then (some (decide (a0 ≤ a2))) else (some false)
theorem sequencer_in.calls (a0 : Int) (a1 : Int) (a2 : Int) (r : Bool) (w : World) (h : sequencer_in.f a0 a1 a2 = some r) :
  Calls Tryd.prog 99 #[a0, a1, a2] w fun e w' => e = .returned (.bool r) ∧ Drawn0 w w' := by
 have H : (if a0 ≥ a1 then (some (decide (a0 ≤ a2))) else (some false)) = some r := h
 clear h
 by_cases c4 : a0 ≥ a1
 ·rw [if_pos c4] at H
  have c4b0 : decide (a1 ≤ a0) = true := decide_eq_true c4
  clear c4
  obtain rfl := Option.some.inj H
  go_enter Tryd.func99, Tryd.ntmps99
  go_wp2
  go_ret
  exact ⟨es_, by repeat (first | exact Drawn0.refl _ | apply Drawn0.step)⟩
 ·rw [if_neg c4] at H
  have c4b0 : decide (a1 ≤ a0) = false := decide_eq_false c4
  clear c4
  obtain rfl := Option.some.inj H
  go_enter Tryd.func99, Tryd.ntmps99
  go_wp2
  go_ret
  exact ⟨es_, by repeat (first | exact Drawn0.refl _ | apply Drawn0.step)⟩
def sequencer_May.f (a0_0 : Int) (a0_1 : Int) (a0_2 : Int) (a0_3 : Int) (a0_4 : Int) (a0_5 : Int) : Option (Int) := (sequencer_in.f a0_0 1 64).bind fun t262 => (if t262 = true then ((sequencer_in.f a0_1 1 16).bind fun t263 => (if t263 = true then ((sequencer_in.f a0_2 1 16).bind fun t264 => (if t264 = true then ((sequencer_in.f a0_3 1 16).bind fun t265 => (if t265 = true then ((sequencer_in.f a0_4 64 1400).bind fun t266 => (if t266 = true then ((sequencer_in.f a0_5 1 1099511627776).bind fun t267 => (if t267 = true then (some 0) else (some 1))) else (some 1))) else (some 1))) else (some 1))) else (some 1))) else (some 1))
theorem sequencer_May.calls (a0_0 : Int) (a0_1 : Int) (a0_2 : Int) (a0_3 : Int) (a0_4 : Int) (a0_5 : Int) (r : Int) (w : World) (h : sequencer_May.f a0_0 a0_1 a0_2 a0_3 a0_4 a0_5 = some r) :
  Calls Tryd.prog 83 #[.agg #[a0_0, a0_1, a0_2, a0_3, a0_4, a0_5]] w fun e w' => e = .returned (.int .i64 r) ∧ Below w.heap.size w w' := by
 have hu68 := Tryd.underlying68
 have HB := Am (Below.refl w.heap.size w)
 have H : ((sequencer_in.f a0_0 1 64).bind fun t262 => (if t262 = true then ((sequencer_in.f a0_1 1 16).bind fun t263 => (if t263 = true then ((sequencer_in.f a0_2 1 16).bind fun t264 => (if t264 = true then ((sequencer_in.f a0_3 1 16).bind fun t265 => (if t265 = true then ((sequencer_in.f a0_4 64 1400).bind fun t266 => (if t266 = true then ((sequencer_in.f a0_5 1 1099511627776).bind fun t267 => (if t267 = true then (some 0) else (some 1))) else (some 1))) else (some 1))) else (some 1))) else (some 1))) else (some 1))) = some r := h
 clear h
 replace H := Option.bind_eq_some_iff.mp H
 obtain ⟨t262, A20, H⟩ := H
 replace H : (if t262 = true then ((sequencer_in.f a0_1 1 16).bind fun t263 => (if t263 = true then ((sequencer_in.f a0_2 1 16).bind fun t264 => (if t264 = true then ((sequencer_in.f a0_3 1 16).bind fun t265 => (if t265 = true then ((sequencer_in.f a0_4 64 1400).bind fun t266 => (if t266 = true then ((sequencer_in.f a0_5 1 1099511627776).bind fun t267 => (if t267 = true then (some 0) else (some 1))) else (some 1))) else (some 1))) else (some 1))) else (some 1))) else (some 1)) = some r := H
 have A2 := Am A20
 clear A20
 by_cases c3 : t262 = true
 ·subst c3
  replace H : ((sequencer_in.f a0_1 1 16).bind fun t263 => (if t263 = true then ((sequencer_in.f a0_2 1 16).bind fun t264 => (if t264 = true then ((sequencer_in.f a0_3 1 16).bind fun t265 => (if t265 = true then ((sequencer_in.f a0_4 64 1400).bind fun t266 => (if t266 = true then ((sequencer_in.f a0_5 1 1099511627776).bind fun t267 => (if t267 = true then (some 0) else (some 1))) else (some 1))) else (some 1))) else (some 1))) else (some 1))) = some r := by rw [if_pos rfl] at H; exact H
  replace H := Option.bind_eq_some_iff.mp H
  obtain ⟨t263, A40, H⟩ := H
  replace H : (if t263 = true then ((sequencer_in.f a0_2 1 16).bind fun t264 => (if t264 = true then ((sequencer_in.f a0_3 1 16).bind fun t265 => (if t265 = true then ((sequencer_in.f a0_4 64 1400).bind fun t266 => (if t266 = true then ((sequencer_in.f a0_5 1 1099511627776).bind fun t267 => (if t267 = true then (some 0) else (some 1))) else (some 1))) else (some 1))) else (some 1))) else (some 1)) = some r := H
  have A4 := Am A40
  clear A40
  by_cases c5 : t263 = true
  ·subst c5
   replace H : ((sequencer_in.f a0_2 1 16).bind fun t264 => (if t264 = true then ((sequencer_in.f a0_3 1 16).bind fun t265 => (if t265 = true then ((sequencer_in.f a0_4 64 1400).bind fun t266 => (if t266 = true then ((sequencer_in.f a0_5 1 1099511627776).bind fun t267 => (if t267 = true then (some 0) else (some 1))) else (some 1))) else (some 1))) else (some 1))) = some r := by rw [if_pos rfl] at H; exact H
   replace H := Option.bind_eq_some_iff.mp H
   obtain ⟨t264, A60, H⟩ := H
   replace H : (if t264 = true then ((sequencer_in.f a0_3 1 16).bind fun t265 => (if t265 = true then ((sequencer_in.f a0_4 64 1400).bind fun t266 => (if t266 = true then ((sequencer_in.f a0_5 1 1099511627776).bind fun t267 => (if t267 = true then (some 0) else (some 1))) else (some 1))) else (some 1))) else (some 1)) = some r := H
   have A6 := Am A60
   clear A60
   by_cases c7 : t264 = true
   ·subst c7
    replace H : ((sequencer_in.f a0_3 1 16).bind fun t265 => (if t265 = true then ((sequencer_in.f a0_4 64 1400).bind fun t266 => (if t266 = true then ((sequencer_in.f a0_5 1 1099511627776).bind fun t267 => (if t267 = true then (some 0) else (some 1))) else (some 1))) else (some 1))) = some r := by rw [if_pos rfl] at H; exact H
    replace H := Option.bind_eq_some_iff.mp H
    obtain ⟨t265, A80, H⟩ := H
    replace H : (if t265 = true then ((sequencer_in.f a0_4 64 1400).bind fun t266 => (if t266 = true then ((sequencer_in.f a0_5 1 1099511627776).bind fun t267 => (if t267 = true then (some 0) else (some 1))) else (some 1))) else (some 1)) = some r := H
    have A8 := Am A80
    clear A80
    by_cases c9 : t265 = true
    ·subst c9
     replace H : ((sequencer_in.f a0_4 64 1400).bind fun t266 => (if t266 = true then ((sequencer_in.f a0_5 1 1099511627776).bind fun t267 => (if t267 = true then (some 0) else (some 1))) else (some 1))) = some r := by rw [if_pos rfl] at H; exact H
     replace H := Option.bind_eq_some_iff.mp H
     obtain ⟨t266, A100, H⟩ := H
     replace H : (if t266 = true then ((sequencer_in.f a0_5 1 1099511627776).bind fun t267 => (if t267 = true then (some 0) else (some 1))) else (some 1)) = some r := H
     have A10 := Am A100
     clear A100
     by_cases c11 : t266 = true
     ·subst c11
      replace H : ((sequencer_in.f a0_5 1 1099511627776).bind fun t267 => (if t267 = true then (some 0) else (some 1))) = some r := by rw [if_pos rfl] at H; exact H
      replace H := Option.bind_eq_some_iff.mp H
      obtain ⟨t267, A120, H⟩ := H
      replace H : (if t267 = true then (some 0) else (some 1)) = some r := H
      have A12 := Am A120
      clear A120
      by_cases c13 : t267 = true
      ·subst c13
       replace H : (some 0) = some r := by rw [if_pos rfl] at H; exact H
       obtain rfl := Option.some.inj H
       go_enter Tryd.func83, Tryd.ntmps83
       go_wp2_with (first | ((with_reducible refine gD 1 rfl ?_); refine box_event rfl (N := 1) rfl (cs := #[a0_0, a0_1, a0_2, a0_3, a0_4, a0_5]) (t := 68) gs_ ?_; intro gb261 hg w14 hbox hb; have BK261 := Am (hbox); have GW261 := Am (gw_ hg HB); have GE261 := Am (gw_ hg HB); replace HB := Am (below_step (bl_ HB) hb); clear hb hbox hg; have hcz15_0 : w14.cell? ⟨gb261, 0, none⟩ = some (.int .i64 a0_0) := (blk_cell BK261.out 0).trans rfl; have hcz15_1 : w14.cell? ⟨gb261, 1, none⟩ = some (.int .i64 a0_1) := (blk_cell BK261.out 1).trans rfl; have hcz15_2 : w14.cell? ⟨gb261, 2, none⟩ = some (.int .i64 a0_2) := (blk_cell BK261.out 2).trans rfl; have hcz15_3 : w14.cell? ⟨gb261, 3, none⟩ = some (.int .i64 a0_3) := (blk_cell BK261.out 3).trans rfl; have hcz15_4 : w14.cell? ⟨gb261, 4, none⟩ = some (.int .i64 a0_4) := (blk_cell BK261.out 4).trans rfl; have hcz15_5 : w14.cell? ⟨gb261, 5, none⟩ = some (.int .i64 a0_5) := (blk_cell BK261.out 5).trans rfl; have hfz15_0 := blk_frozen BK261.out 0; have hfz15_1 := blk_frozen BK261.out 1; have hfz15_2 := blk_frozen BK261.out 2; have hfz15_3 := blk_frozen BK261.out 3; have hfz15_4 := blk_frozen BK261.out 4; have hfz15_5 := blk_frozen BK261.out 5) | ((with_reducible refine gC 99 rfl ?_); refine goesL_ (some 5) rfl rfl Tryd.func99 (by kernel_rfl) rfl #[a0_0, .int .i64 1, .int .i64 64] rfl am_ ?_; (with_reducible refine (sequencer_in.calls a0_0 1 64 true _ A2.out).mono ?_); rintro e w' ⟨rfl, ⟨nd, rfl⟩⟩; refine ⟨_, rfl, ?_⟩) | (go_at_call 99; (with_reducible refine (sequencer_in.calls a0_1 1 16 true _ A4.out).mono ?_); rintro e w' ⟨rfl, ⟨nd, rfl⟩⟩) | (go_at_call 99; (with_reducible refine (sequencer_in.calls a0_2 1 16 true _ A6.out).mono ?_); rintro e w' ⟨rfl, ⟨nd, rfl⟩⟩) | (go_at_call 99; (with_reducible refine (sequencer_in.calls a0_3 1 16 true _ A8.out).mono ?_); rintro e w' ⟨rfl, ⟨nd, rfl⟩⟩) | (go_at_call 99; (with_reducible refine (sequencer_in.calls a0_4 64 1400 true _ A10.out).mono ?_); rintro e w' ⟨rfl, ⟨nd, rfl⟩⟩) | (go_at_call 99; (with_reducible refine (sequencer_in.calls a0_5 1 1099511627776 true _ A12.out).mono ?_); rintro e w' ⟨rfl, ⟨nd, rfl⟩⟩))
       go_ret
       exact ⟨ew_, bl_ HB⟩
      ·replace c13 := Bool.eq_false_iff.mpr c13
       subst c13
       replace H : (some 1) = some r := by rw [if_neg (show ¬ (false = true) by decide)] at H; exact H
       obtain rfl := Option.some.inj H
       go_enter Tryd.func83, Tryd.ntmps83
       go_wp2_with (first | ((with_reducible refine gD 1 rfl ?_); refine box_event rfl (N := 1) rfl (cs := #[a0_0, a0_1, a0_2, a0_3, a0_4, a0_5]) (t := 68) gs_ ?_; intro gb261 hg w16 hbox hb; have BK261 := Am (hbox); have GW261 := Am (gw_ hg HB); have GE261 := Am (gw_ hg HB); replace HB := Am (below_step (bl_ HB) hb); clear hb hbox hg; have hz17 := kb6_ BK261) | ((with_reducible refine gC 99 rfl ?_); refine goesL_ (some 5) rfl rfl Tryd.func99 (by kernel_rfl) rfl #[a0_0, .int .i64 1, .int .i64 64] rfl am_ ?_; (with_reducible refine (sequencer_in.calls a0_0 1 64 true _ A2.out).mono ?_); rintro e w' ⟨rfl, ⟨nd, rfl⟩⟩; refine ⟨_, rfl, ?_⟩) | (go_at_call 99; (with_reducible refine (sequencer_in.calls a0_1 1 16 true _ A4.out).mono ?_); rintro e w' ⟨rfl, ⟨nd, rfl⟩⟩) | (go_at_call 99; (with_reducible refine (sequencer_in.calls a0_2 1 16 true _ A6.out).mono ?_); rintro e w' ⟨rfl, ⟨nd, rfl⟩⟩) | (go_at_call 99; (with_reducible refine (sequencer_in.calls a0_3 1 16 true _ A8.out).mono ?_); rintro e w' ⟨rfl, ⟨nd, rfl⟩⟩) | (go_at_call 99; (with_reducible refine (sequencer_in.calls a0_4 64 1400 true _ A10.out).mono ?_); rintro e w' ⟨rfl, ⟨nd, rfl⟩⟩) | (go_at_call 99; (with_reducible refine (sequencer_in.calls a0_5 1 1099511627776 false _ A12.out).mono ?_); rintro e w' ⟨rfl, ⟨nd, rfl⟩⟩))
       go_ret
       exact ⟨ew_, bl_ HB⟩
     ·replace c11 := Bool.eq_false_iff.mpr c11
      subst c11
      replace H : (some 1) = some r := by rw [if_neg (show ¬ (false = true) by decide)] at H; exact H
      obtain rfl := Option.some.inj H
      go_enter Tryd.func83, Tryd.ntmps83
      go_wp2_with (first | ((with_reducible refine gD 1 rfl ?_); refine box_event rfl (N := 1) rfl (cs := #[a0_0, a0_1, a0_2, a0_3, a0_4, a0_5]) (t := 68) gs_ ?_; intro gb261 hg w18 hbox hb; have BK261 := Am (hbox); have GW261 := Am (gw_ hg HB); have GE261 := Am (gw_ hg HB); replace HB := Am (below_step (bl_ HB) hb); clear hb hbox hg; have hcz19_0 : w18.cell? ⟨gb261, 0, none⟩ = some (.int .i64 a0_0) := (blk_cell BK261.out 0).trans rfl; have hcz19_1 : w18.cell? ⟨gb261, 1, none⟩ = some (.int .i64 a0_1) := (blk_cell BK261.out 1).trans rfl; have hcz19_2 : w18.cell? ⟨gb261, 2, none⟩ = some (.int .i64 a0_2) := (blk_cell BK261.out 2).trans rfl; have hcz19_3 : w18.cell? ⟨gb261, 3, none⟩ = some (.int .i64 a0_3) := (blk_cell BK261.out 3).trans rfl; have hcz19_4 : w18.cell? ⟨gb261, 4, none⟩ = some (.int .i64 a0_4) := (blk_cell BK261.out 4).trans rfl; have hcz19_5 : w18.cell? ⟨gb261, 5, none⟩ = some (.int .i64 a0_5) := (blk_cell BK261.out 5).trans rfl; have hfz19_0 := blk_frozen BK261.out 0; have hfz19_1 := blk_frozen BK261.out 1; have hfz19_2 := blk_frozen BK261.out 2; have hfz19_3 := blk_frozen BK261.out 3; have hfz19_4 := blk_frozen BK261.out 4; have hfz19_5 := blk_frozen BK261.out 5) | ((with_reducible refine gC 99 rfl ?_); refine goesL_ (some 5) rfl rfl Tryd.func99 (by kernel_rfl) rfl #[a0_0, .int .i64 1, .int .i64 64] rfl am_ ?_; (with_reducible refine (sequencer_in.calls a0_0 1 64 true _ A2.out).mono ?_); rintro e w' ⟨rfl, ⟨nd, rfl⟩⟩; refine ⟨_, rfl, ?_⟩) | (go_at_call 99; (with_reducible refine (sequencer_in.calls a0_1 1 16 true _ A4.out).mono ?_); rintro e w' ⟨rfl, ⟨nd, rfl⟩⟩) | (go_at_call 99; (with_reducible refine (sequencer_in.calls a0_2 1 16 true _ A6.out).mono ?_); rintro e w' ⟨rfl, ⟨nd, rfl⟩⟩) | (go_at_call 99; (with_reducible refine (sequencer_in.calls a0_3 1 16 true _ A8.out).mono ?_); rintro e w' ⟨rfl, ⟨nd, rfl⟩⟩) | (go_at_call 99; (with_reducible refine (sequencer_in.calls a0_4 64 1400 false _ A10.out).mono ?_); rintro e w' ⟨rfl, ⟨nd, rfl⟩⟩))
      go_ret
      exact ⟨ew_, bl_ HB⟩
    ·replace c9 := Bool.eq_false_iff.mpr c9
     subst c9
     replace H : (some 1) = some r := by rw [if_neg (show ¬ (false = true) by decide)] at H; exact H
     obtain rfl := Option.some.inj H
     go_enter Tryd.func83, Tryd.ntmps83
     go_wp2_with (first | ((with_reducible refine gD 1 rfl ?_); refine box_event rfl (N := 1) rfl (cs := #[a0_0, a0_1, a0_2, a0_3, a0_4, a0_5]) (t := 68) gs_ ?_; intro gb261 hg w20 hbox hb; have BK261 := Am (hbox); have GW261 := Am (gw_ hg HB); have GE261 := Am (gw_ hg HB); replace HB := Am (below_step (bl_ HB) hb); clear hb hbox hg; have hcz21_0 : w20.cell? ⟨gb261, 0, none⟩ = some (.int .i64 a0_0) := (blk_cell BK261.out 0).trans rfl; have hcz21_1 : w20.cell? ⟨gb261, 1, none⟩ = some (.int .i64 a0_1) := (blk_cell BK261.out 1).trans rfl; have hcz21_2 : w20.cell? ⟨gb261, 2, none⟩ = some (.int .i64 a0_2) := (blk_cell BK261.out 2).trans rfl; have hcz21_3 : w20.cell? ⟨gb261, 3, none⟩ = some (.int .i64 a0_3) := (blk_cell BK261.out 3).trans rfl; have hcz21_4 : w20.cell? ⟨gb261, 4, none⟩ = some (.int .i64 a0_4) := (blk_cell BK261.out 4).trans rfl; have hcz21_5 : w20.cell? ⟨gb261, 5, none⟩ = some (.int .i64 a0_5) := (blk_cell BK261.out 5).trans rfl; have hfz21_0 := blk_frozen BK261.out 0; have hfz21_1 := blk_frozen BK261.out 1; have hfz21_2 := blk_frozen BK261.out 2; have hfz21_3 := blk_frozen BK261.out 3; have hfz21_4 := blk_frozen BK261.out 4; have hfz21_5 := blk_frozen BK261.out 5) | ((with_reducible refine gC 99 rfl ?_); refine goesL_ (some 5) rfl rfl Tryd.func99 (by kernel_rfl) rfl #[a0_0, .int .i64 1, .int .i64 64] rfl am_ ?_; (with_reducible refine (sequencer_in.calls a0_0 1 64 true _ A2.out).mono ?_); rintro e w' ⟨rfl, ⟨nd, rfl⟩⟩; refine ⟨_, rfl, ?_⟩) | (go_at_call 99; (with_reducible refine (sequencer_in.calls a0_1 1 16 true _ A4.out).mono ?_); rintro e w' ⟨rfl, ⟨nd, rfl⟩⟩) | (go_at_call 99; (with_reducible refine (sequencer_in.calls a0_2 1 16 true _ A6.out).mono ?_); rintro e w' ⟨rfl, ⟨nd, rfl⟩⟩) | (go_at_call 99; (with_reducible refine (sequencer_in.calls a0_3 1 16 false _ A8.out).mono ?_); rintro e w' ⟨rfl, ⟨nd, rfl⟩⟩))
     go_ret
     exact ⟨ew_, bl_ HB⟩
   ·replace c7 := Bool.eq_false_iff.mpr c7
    subst c7
    replace H : (some 1) = some r := by rw [if_neg (show ¬ (false = true) by decide)] at H; exact H
    obtain rfl := Option.some.inj H
    go_enter Tryd.func83, Tryd.ntmps83
    go_wp2_with (first | ((with_reducible refine gD 1 rfl ?_); refine box_event rfl (N := 1) rfl (cs := #[a0_0, a0_1, a0_2, a0_3, a0_4, a0_5]) (t := 68) gs_ ?_; intro gb261 hg w22 hbox hb; have BK261 := Am (hbox); have GW261 := Am (gw_ hg HB); have GE261 := Am (gw_ hg HB); replace HB := Am (below_step (bl_ HB) hb); clear hb hbox hg; have hz23 := kb6_ BK261) | ((with_reducible refine gC 99 rfl ?_); refine goesL_ (some 5) rfl rfl Tryd.func99 (by kernel_rfl) rfl #[a0_0, .int .i64 1, .int .i64 64] rfl am_ ?_; (with_reducible refine (sequencer_in.calls a0_0 1 64 true _ A2.out).mono ?_); rintro e w' ⟨rfl, ⟨nd, rfl⟩⟩; refine ⟨_, rfl, ?_⟩) | (go_at_call 99; (with_reducible refine (sequencer_in.calls a0_1 1 16 true _ A4.out).mono ?_); rintro e w' ⟨rfl, ⟨nd, rfl⟩⟩) | (go_at_call 99; (with_reducible refine (sequencer_in.calls a0_2 1 16 false _ A6.out).mono ?_); rintro e w' ⟨rfl, ⟨nd, rfl⟩⟩))
    go_ret
    exact ⟨ew_, bl_ HB⟩
  ·replace c5 := Bool.eq_false_iff.mpr c5
   subst c5
   replace H : (some 1) = some r := by rw [if_neg (show ¬ (false = true) by decide)] at H; exact H
   obtain rfl := Option.some.inj H
   go_enter Tryd.func83, Tryd.ntmps83
   go_wp2_with (first | ((with_reducible refine gD 1 rfl ?_); refine box_event rfl (N := 1) rfl (cs := #[a0_0, a0_1, a0_2, a0_3, a0_4, a0_5]) (t := 68) gs_ ?_; intro gb261 hg w24 hbox hb; have BK261 := Am (hbox); have GW261 := Am (gw_ hg HB); have GE261 := Am (gw_ hg HB); replace HB := Am (below_step (bl_ HB) hb); clear hb hbox hg; have hcz25_0 : w24.cell? ⟨gb261, 0, none⟩ = some (.int .i64 a0_0) := (blk_cell BK261.out 0).trans rfl; have hcz25_1 : w24.cell? ⟨gb261, 1, none⟩ = some (.int .i64 a0_1) := (blk_cell BK261.out 1).trans rfl; have hcz25_2 : w24.cell? ⟨gb261, 2, none⟩ = some (.int .i64 a0_2) := (blk_cell BK261.out 2).trans rfl; have hcz25_3 : w24.cell? ⟨gb261, 3, none⟩ = some (.int .i64 a0_3) := (blk_cell BK261.out 3).trans rfl; have hcz25_4 : w24.cell? ⟨gb261, 4, none⟩ = some (.int .i64 a0_4) := (blk_cell BK261.out 4).trans rfl; have hcz25_5 : w24.cell? ⟨gb261, 5, none⟩ = some (.int .i64 a0_5) := (blk_cell BK261.out 5).trans rfl; have hfz25_0 := blk_frozen BK261.out 0; have hfz25_1 := blk_frozen BK261.out 1; have hfz25_2 := blk_frozen BK261.out 2; have hfz25_3 := blk_frozen BK261.out 3; have hfz25_4 := blk_frozen BK261.out 4; have hfz25_5 := blk_frozen BK261.out 5) | ((with_reducible refine gC 99 rfl ?_); refine goesL_ (some 5) rfl rfl Tryd.func99 (by kernel_rfl) rfl #[a0_0, .int .i64 1, .int .i64 64] rfl am_ ?_; (with_reducible refine (sequencer_in.calls a0_0 1 64 true _ A2.out).mono ?_); rintro e w' ⟨rfl, ⟨nd, rfl⟩⟩; refine ⟨_, rfl, ?_⟩) | (go_at_call 99; (with_reducible refine (sequencer_in.calls a0_1 1 16 false _ A4.out).mono ?_); rintro e w' ⟨rfl, ⟨nd, rfl⟩⟩))
   go_ret
   exact ⟨ew_, bl_ HB⟩
 ·replace c3 := Bool.eq_false_iff.mpr c3
  subst c3
  replace H : (some 1) = some r := by rw [if_neg (show ¬ (false = true) by decide)] at H; exact H
  obtain rfl := Option.some.inj H
  go_enter Tryd.func83, Tryd.ntmps83
  go_wp2_with (first | ((with_reducible refine gD 1 rfl ?_); refine box_event rfl (N := 1) rfl (cs := #[a0_0, a0_1, a0_2, a0_3, a0_4, a0_5]) (t := 68) gs_ ?_; intro gb261 hg w26 hbox hb; have BK261 := Am (hbox); have GW261 := Am (gw_ hg HB); have GE261 := Am (gw_ hg HB); replace HB := Am (below_step (bl_ HB) hb); clear hb hbox hg; have hcz27_0 : w26.cell? ⟨gb261, 0, none⟩ = some (.int .i64 a0_0) := (blk_cell BK261.out 0).trans rfl; have hcz27_1 : w26.cell? ⟨gb261, 1, none⟩ = some (.int .i64 a0_1) := (blk_cell BK261.out 1).trans rfl; have hcz27_2 : w26.cell? ⟨gb261, 2, none⟩ = some (.int .i64 a0_2) := (blk_cell BK261.out 2).trans rfl; have hcz27_3 : w26.cell? ⟨gb261, 3, none⟩ = some (.int .i64 a0_3) := (blk_cell BK261.out 3).trans rfl; have hcz27_4 : w26.cell? ⟨gb261, 4, none⟩ = some (.int .i64 a0_4) := (blk_cell BK261.out 4).trans rfl; have hcz27_5 : w26.cell? ⟨gb261, 5, none⟩ = some (.int .i64 a0_5) := (blk_cell BK261.out 5).trans rfl; have hfz27_0 := blk_frozen BK261.out 0; have hfz27_1 := blk_frozen BK261.out 1; have hfz27_2 := blk_frozen BK261.out 2; have hfz27_3 := blk_frozen BK261.out 3; have hfz27_4 := blk_frozen BK261.out 4; have hfz27_5 := blk_frozen BK261.out 5) | ((with_reducible refine gC 99 rfl ?_); refine goesL_ (some 5) rfl rfl Tryd.func99 (by kernel_rfl) rfl #[a0_0, .int .i64 1, .int .i64 64] rfl am_ ?_; (with_reducible refine (sequencer_in.calls a0_0 1 64 false _ A2.out).mono ?_); rintro e w' ⟨rfl, ⟨nd, rfl⟩⟩; refine ⟨_, rfl, ?_⟩))
  go_ret
  exact ⟨ew_, bl_ HB⟩
def chapbookref16_May.f (a0_0 : Int) (a0_1 : Int) (a0_2 : Int) (a0_3 : Int) (a0_4 : Int) (a0_5 : Int) : Option (Bool) := if a0_0 ≥ 1 then (if a0_0 ≤ 64 then (if a0_1 ≥ 1 then (if a0_1 ≤ 16 then (if a0_2 ≥ 1 then (if a0_2 ≤ 16 then (if a0_3 ≥ 1 then (if a0_3 ≤ 16 then (if a0_4 ≥ 64 then (if a0_4 ≤ 1400 then (if a0_5 ≥ 1 then (some (decide (a0_5 ≤ 1099511627776))) else (some false)) else (some false)) else (some false)) else (some false)) else (some false)) else (some false)) else (some false)) else (some false)) else (some false)) else (some false)) else (some false)
theorem chapbookref16_May.calls (a0_0 : Int) (a0_1 : Int) (a0_2 : Int) (a0_3 : Int) (a0_4 : Int) (a0_5 : Int) (r : Bool) (w : World) (h : chapbookref16_May.f a0_0 a0_1 a0_2 a0_3 a0_4 a0_5 = some r) :
  Calls Tryd.prog 37 #[.agg #[a0_0, a0_1, a0_2, a0_3, a0_4, a0_5]] w fun e w' => e = .returned (.bool r) ∧ Below w.heap.size w w' := by
 have hu68 := Tryd.underlying68
 have HB := Am (Below.refl w.heap.size w)
 have H : (if a0_0 ≥ 1 then (if a0_0 ≤ 64 then (if a0_1 ≥ 1 then (if a0_1 ≤ 16 then (if a0_2 ≥ 1 then (if a0_2 ≤ 16 then (if a0_3 ≥ 1 then (if a0_3 ≤ 16 then (if a0_4 ≥ 64 then (if a0_4 ≤ 1400 then (if a0_5 ≥ 1 then (some (decide (a0_5 ≤ 1099511627776))) else (some false)) else (some false)) else (some false)) else (some false)) else (some false)) else (some false)) else (some false)) else (some false)) else (some false)) else (some false)) else (some false)) = some r := h
 clear h
 by_cases c2 : a0_0 ≥ 1
 ·rw [if_pos c2] at H
  have c2b0 : decide (1 ≤ a0_0) = true := decide_eq_true c2
  clear c2
  by_cases c3 : a0_0 ≤ 64
  ·rw [if_pos c3] at H
   have c3b0 := decide_eq_true c3
   clear c3
   by_cases c4 : a0_1 ≥ 1
   ·rw [if_pos c4] at H
    have c4b0 : decide (1 ≤ a0_1) = true := decide_eq_true c4
    clear c4
    by_cases c5 : a0_1 ≤ 16
    ·rw [if_pos c5] at H
     have c5b0 := decide_eq_true c5
     clear c5
     by_cases c6 : a0_2 ≥ 1
     ·rw [if_pos c6] at H
      have c6b0 : decide (1 ≤ a0_2) = true := decide_eq_true c6
      clear c6
      by_cases c7 : a0_2 ≤ 16
      ·rw [if_pos c7] at H
       have c7b0 := decide_eq_true c7
       clear c7
       by_cases c8 : a0_3 ≥ 1
       ·rw [if_pos c8] at H
        have c8b0 : decide (1 ≤ a0_3) = true := decide_eq_true c8
        clear c8
        by_cases c9 : a0_3 ≤ 16
        ·rw [if_pos c9] at H
         have c9b0 := decide_eq_true c9
         clear c9
         by_cases c10 : a0_4 ≥ 64
         ·rw [if_pos c10] at H
          have c10b0 : decide (64 ≤ a0_4) = true := decide_eq_true c10
          clear c10
          by_cases c11 : a0_4 ≤ 1400
          ·rw [if_pos c11] at H
           have c11b0 := decide_eq_true c11
           clear c11
           by_cases c12 : a0_5 ≥ 1
           ·rw [if_pos c12] at H
            have c12b0 : decide (1 ≤ a0_5) = true := decide_eq_true c12
            clear c12
            obtain rfl := Option.some.inj H
            go_enter Tryd.func37, Tryd.ntmps37
            go_wp2_with (first | ((with_reducible refine gD 1 rfl ?_); refine box_event rfl (N := 1) rfl (cs := #[a0_0, a0_1, a0_2, a0_3, a0_4, a0_5]) (t := 68) gs_ ?_; intro gb268 hg w13 hbox hb; have BK268 := Am (hbox); have GW268 := Am (gw_ hg HB); have GE268 := Am (gw_ hg HB); replace HB := Am (below_step (bl_ HB) hb); clear hb hbox hg; have hcz14_0 : w13.cell? ⟨gb268, 0, none⟩ = some (.int .i64 a0_0) := (blk_cell BK268.out 0).trans rfl; have hcz14_1 : w13.cell? ⟨gb268, 1, none⟩ = some (.int .i64 a0_1) := (blk_cell BK268.out 1).trans rfl; have hcz14_2 : w13.cell? ⟨gb268, 2, none⟩ = some (.int .i64 a0_2) := (blk_cell BK268.out 2).trans rfl; have hcz14_3 : w13.cell? ⟨gb268, 3, none⟩ = some (.int .i64 a0_3) := (blk_cell BK268.out 3).trans rfl; have hcz14_4 : w13.cell? ⟨gb268, 4, none⟩ = some (.int .i64 a0_4) := (blk_cell BK268.out 4).trans rfl; have hcz14_5 : w13.cell? ⟨gb268, 5, none⟩ = some (.int .i64 a0_5) := (blk_cell BK268.out 5).trans rfl; have hfz14_0 := blk_frozen BK268.out 0; have hfz14_1 := blk_frozen BK268.out 1; have hfz14_2 := blk_frozen BK268.out 2; have hfz14_3 := blk_frozen BK268.out 3; have hfz14_4 := blk_frozen BK268.out 4; have hfz14_5 := blk_frozen BK268.out 5))
            go_ret
            exact ⟨ew_, bl_ HB⟩
           ·rw [if_neg c12] at H
            have c12b0 : decide (1 ≤ a0_5) = false := decide_eq_false c12
            clear c12
            obtain rfl := Option.some.inj H
            go_enter Tryd.func37, Tryd.ntmps37
            go_wp2_with (first | ((with_reducible refine gD 1 rfl ?_); refine box_event rfl (N := 1) rfl (cs := #[a0_0, a0_1, a0_2, a0_3, a0_4, a0_5]) (t := 68) gs_ ?_; intro gb268 hg w15 hbox hb; have BK268 := Am (hbox); have GW268 := Am (gw_ hg HB); have GE268 := Am (gw_ hg HB); replace HB := Am (below_step (bl_ HB) hb); clear hb hbox hg; have hcz16_0 : w15.cell? ⟨gb268, 0, none⟩ = some (.int .i64 a0_0) := (blk_cell BK268.out 0).trans rfl; have hcz16_1 : w15.cell? ⟨gb268, 1, none⟩ = some (.int .i64 a0_1) := (blk_cell BK268.out 1).trans rfl; have hcz16_2 : w15.cell? ⟨gb268, 2, none⟩ = some (.int .i64 a0_2) := (blk_cell BK268.out 2).trans rfl; have hcz16_3 : w15.cell? ⟨gb268, 3, none⟩ = some (.int .i64 a0_3) := (blk_cell BK268.out 3).trans rfl; have hcz16_4 : w15.cell? ⟨gb268, 4, none⟩ = some (.int .i64 a0_4) := (blk_cell BK268.out 4).trans rfl; have hcz16_5 : w15.cell? ⟨gb268, 5, none⟩ = some (.int .i64 a0_5) := (blk_cell BK268.out 5).trans rfl; have hfz16_0 := blk_frozen BK268.out 0; have hfz16_1 := blk_frozen BK268.out 1; have hfz16_2 := blk_frozen BK268.out 2; have hfz16_3 := blk_frozen BK268.out 3; have hfz16_4 := blk_frozen BK268.out 4; have hfz16_5 := blk_frozen BK268.out 5))
            go_ret
            exact ⟨ew_, bl_ HB⟩
          ·rw [if_neg c11] at H
           have c11b0 : decide (a0_4 ≤ 1400) = false := decide_eq_false c11
           clear c11
           obtain rfl := Option.some.inj H
           go_enter Tryd.func37, Tryd.ntmps37
           go_wp2_with (first | ((with_reducible refine gD 1 rfl ?_); refine box_event rfl (N := 1) rfl (cs := #[a0_0, a0_1, a0_2, a0_3, a0_4, a0_5]) (t := 68) gs_ ?_; intro gb268 hg w17 hbox hb; have BK268 := Am (hbox); have GW268 := Am (gw_ hg HB); have GE268 := Am (gw_ hg HB); replace HB := Am (below_step (bl_ HB) hb); clear hb hbox hg; have hz18 := kb6_ BK268))
           go_ret
           exact ⟨ew_, bl_ HB⟩
         ·rw [if_neg c10] at H
          have c10b0 : decide (64 ≤ a0_4) = false := decide_eq_false c10
          clear c10
          obtain rfl := Option.some.inj H
          go_enter Tryd.func37, Tryd.ntmps37
          go_wp2_with (first | ((with_reducible refine gD 1 rfl ?_); refine box_event rfl (N := 1) rfl (cs := #[a0_0, a0_1, a0_2, a0_3, a0_4, a0_5]) (t := 68) gs_ ?_; intro gb268 hg w19 hbox hb; have BK268 := Am (hbox); have GW268 := Am (gw_ hg HB); have GE268 := Am (gw_ hg HB); replace HB := Am (below_step (bl_ HB) hb); clear hb hbox hg; have hcz20_0 : w19.cell? ⟨gb268, 0, none⟩ = some (.int .i64 a0_0) := (blk_cell BK268.out 0).trans rfl; have hcz20_1 : w19.cell? ⟨gb268, 1, none⟩ = some (.int .i64 a0_1) := (blk_cell BK268.out 1).trans rfl; have hcz20_2 : w19.cell? ⟨gb268, 2, none⟩ = some (.int .i64 a0_2) := (blk_cell BK268.out 2).trans rfl; have hcz20_3 : w19.cell? ⟨gb268, 3, none⟩ = some (.int .i64 a0_3) := (blk_cell BK268.out 3).trans rfl; have hcz20_4 : w19.cell? ⟨gb268, 4, none⟩ = some (.int .i64 a0_4) := (blk_cell BK268.out 4).trans rfl; have hcz20_5 : w19.cell? ⟨gb268, 5, none⟩ = some (.int .i64 a0_5) := (blk_cell BK268.out 5).trans rfl; have hfz20_0 := blk_frozen BK268.out 0; have hfz20_1 := blk_frozen BK268.out 1; have hfz20_2 := blk_frozen BK268.out 2; have hfz20_3 := blk_frozen BK268.out 3; have hfz20_4 := blk_frozen BK268.out 4; have hfz20_5 := blk_frozen BK268.out 5))
          go_ret
          exact ⟨ew_, bl_ HB⟩
        ·rw [if_neg c9] at H
         have c9b0 : decide (a0_3 ≤ 16) = false := decide_eq_false c9
         clear c9
         obtain rfl := Option.some.inj H
         go_enter Tryd.func37, Tryd.ntmps37
         go_wp2_with (first | ((with_reducible refine gD 1 rfl ?_); refine box_event rfl (N := 1) rfl (cs := #[a0_0, a0_1, a0_2, a0_3, a0_4, a0_5]) (t := 68) gs_ ?_; intro gb268 hg w21 hbox hb; have BK268 := Am (hbox); have GW268 := Am (gw_ hg HB); have GE268 := Am (gw_ hg HB); replace HB := Am (below_step (bl_ HB) hb); clear hb hbox hg; have hcz22_0 : w21.cell? ⟨gb268, 0, none⟩ = some (.int .i64 a0_0) := (blk_cell BK268.out 0).trans rfl; have hcz22_1 : w21.cell? ⟨gb268, 1, none⟩ = some (.int .i64 a0_1) := (blk_cell BK268.out 1).trans rfl; have hcz22_2 : w21.cell? ⟨gb268, 2, none⟩ = some (.int .i64 a0_2) := (blk_cell BK268.out 2).trans rfl; have hcz22_3 : w21.cell? ⟨gb268, 3, none⟩ = some (.int .i64 a0_3) := (blk_cell BK268.out 3).trans rfl; have hcz22_4 : w21.cell? ⟨gb268, 4, none⟩ = some (.int .i64 a0_4) := (blk_cell BK268.out 4).trans rfl; have hcz22_5 : w21.cell? ⟨gb268, 5, none⟩ = some (.int .i64 a0_5) := (blk_cell BK268.out 5).trans rfl; have hfz22_0 := blk_frozen BK268.out 0; have hfz22_1 := blk_frozen BK268.out 1; have hfz22_2 := blk_frozen BK268.out 2; have hfz22_3 := blk_frozen BK268.out 3; have hfz22_4 := blk_frozen BK268.out 4; have hfz22_5 := blk_frozen BK268.out 5))
         go_ret
         exact ⟨ew_, bl_ HB⟩
       ·rw [if_neg c8] at H
        have c8b0 : decide (1 ≤ a0_3) = false := decide_eq_false c8
        clear c8
        obtain rfl := Option.some.inj H
        go_enter Tryd.func37, Tryd.ntmps37
        go_wp2_with (first | ((with_reducible refine gD 1 rfl ?_); refine box_event rfl (N := 1) rfl (cs := #[a0_0, a0_1, a0_2, a0_3, a0_4, a0_5]) (t := 68) gs_ ?_; intro gb268 hg w23 hbox hb; have BK268 := Am (hbox); have GW268 := Am (gw_ hg HB); have GE268 := Am (gw_ hg HB); replace HB := Am (below_step (bl_ HB) hb); clear hb hbox hg; have hz24 := kb6_ BK268))
        go_ret
        exact ⟨ew_, bl_ HB⟩
      ·rw [if_neg c7] at H
       have c7b0 : decide (a0_2 ≤ 16) = false := decide_eq_false c7
       clear c7
       obtain rfl := Option.some.inj H
       go_enter Tryd.func37, Tryd.ntmps37
       go_wp2_with (first | ((with_reducible refine gD 1 rfl ?_); refine box_event rfl (N := 1) rfl (cs := #[a0_0, a0_1, a0_2, a0_3, a0_4, a0_5]) (t := 68) gs_ ?_; intro gb268 hg w25 hbox hb; have BK268 := Am (hbox); have GW268 := Am (gw_ hg HB); have GE268 := Am (gw_ hg HB); replace HB := Am (below_step (bl_ HB) hb); clear hb hbox hg; have hz26 := kb6_ BK268))
       go_ret
       exact ⟨ew_, bl_ HB⟩
     ·rw [if_neg c6] at H
      have c6b0 : decide (1 ≤ a0_2) = false := decide_eq_false c6
      clear c6
      obtain rfl := Option.some.inj H
      go_enter Tryd.func37, Tryd.ntmps37
      go_wp2_with (first | ((with_reducible refine gD 1 rfl ?_); refine box_event rfl (N := 1) rfl (cs := #[a0_0, a0_1, a0_2, a0_3, a0_4, a0_5]) (t := 68) gs_ ?_; intro gb268 hg w27 hbox hb; have BK268 := Am (hbox); have GW268 := Am (gw_ hg HB); have GE268 := Am (gw_ hg HB); replace HB := Am (below_step (bl_ HB) hb); clear hb hbox hg; have hz28 := kb6_ BK268))
      go_ret
      exact ⟨ew_, bl_ HB⟩
    ·rw [if_neg c5] at H
     have c5b0 : decide (a0_1 ≤ 16) = false := decide_eq_false c5
     clear c5
     obtain rfl := Option.some.inj H
     go_enter Tryd.func37, Tryd.ntmps37
     go_wp2_with (first | ((with_reducible refine gD 1 rfl ?_); refine box_event rfl (N := 1) rfl (cs := #[a0_0, a0_1, a0_2, a0_3, a0_4, a0_5]) (t := 68) gs_ ?_; intro gb268 hg w29 hbox hb; have BK268 := Am (hbox); have GW268 := Am (gw_ hg HB); have GE268 := Am (gw_ hg HB); replace HB := Am (below_step (bl_ HB) hb); clear hb hbox hg; have hz30 := kb6_ BK268))
     go_ret
     exact ⟨ew_, bl_ HB⟩
   ·rw [if_neg c4] at H
    have c4b0 : decide (1 ≤ a0_1) = false := decide_eq_false c4
    clear c4
    obtain rfl := Option.some.inj H
    go_enter Tryd.func37, Tryd.ntmps37
    go_wp2_with (first | ((with_reducible refine gD 1 rfl ?_); refine box_event rfl (N := 1) rfl (cs := #[a0_0, a0_1, a0_2, a0_3, a0_4, a0_5]) (t := 68) gs_ ?_; intro gb268 hg w31 hbox hb; have BK268 := Am (hbox); have GW268 := Am (gw_ hg HB); have GE268 := Am (gw_ hg HB); replace HB := Am (below_step (bl_ HB) hb); clear hb hbox hg; have hz32 := kb6_ BK268))
    go_ret
    exact ⟨ew_, bl_ HB⟩
  ·rw [if_neg c3] at H
   have c3b0 : decide (a0_0 ≤ 64) = false := decide_eq_false c3
   clear c3
   obtain rfl := Option.some.inj H
   go_enter Tryd.func37, Tryd.ntmps37
   go_wp2_with (first | ((with_reducible refine gD 1 rfl ?_); refine box_event rfl (N := 1) rfl (cs := #[a0_0, a0_1, a0_2, a0_3, a0_4, a0_5]) (t := 68) gs_ ?_; intro gb268 hg w33 hbox hb; have BK268 := Am (hbox); have GW268 := Am (gw_ hg HB); have GE268 := Am (gw_ hg HB); replace HB := Am (below_step (bl_ HB) hb); clear hb hbox hg; have hz34 := kb6_ BK268))
   go_ret
   exact ⟨ew_, bl_ HB⟩
 ·rw [if_neg c2] at H
  have c2b0 : decide (1 ≤ a0_0) = false := decide_eq_false c2
  clear c2
  obtain rfl := Option.some.inj H
  go_enter Tryd.func37, Tryd.ntmps37
  go_wp2_with (first | ((with_reducible refine gD 1 rfl ?_); refine box_event rfl (N := 1) rfl (cs := #[a0_0, a0_1, a0_2, a0_3, a0_4, a0_5]) (t := 68) gs_ ?_; intro gb268 hg w35 hbox hb; have BK268 := Am (hbox); have GW268 := Am (gw_ hg HB); have GE268 := Am (gw_ hg HB); replace HB := Am (below_step (bl_ HB) hb); clear hb hbox hg; have hz36 := kb6_ BK268))
  go_ret
  exact ⟨ew_, bl_ HB⟩
def chapbooklaw21_config.f  : Option (Int × Int × Int × Int × Int × Int) := some (2, 2, 1, 1, 100, 9)
theorem chapbooklaw21_config.calls  (r1 : Int) (r2 : Int) (r3 : Int) (r4 : Int) (r5 : Int) (r6 : Int) (w : World) (h : chapbooklaw21_config.f  = some (r1, r2, r3, r4, r5, r6)) :
  Calls Tryd.prog 75 #[] w fun e w' => e = .returned (.agg #[r1, r2, r3, r4, r5, r6]) ∧ Below w.heap.size w w' := by
 have hu68 := Tryd.underlying68
 have HB := Am (Below.refl w.heap.size w)
 have H : (some (2, 2, 1, 1, 100, 9)) = some (r1, r2, r3, r4, r5, r6) := h
 clear h
 simp only [Option.some.injEq, Prod.mk.injEq] at H
 obtain ⟨rfl, rfl, rfl, rfl, rfl, rfl⟩ := H
 go_enter Tryd.func75, Tryd.ntmps75
 go_wp2_with (first | ((with_reducible refine gD 0 rfl ?_); refine box_event rfl (N := 0) rfl (cs := #[.int .i64 0, .int .i64 0, .int .i64 0, .int .i64 0, .int .i64 0, .int .i64 0]) (t := 68) gs_ ?_; intro gb273 hg w1 hbox hb; have BK273 := Am (hbox); have GW273 := Am (gw_ hg HB); have GE273 := Am (gw_ hg HB); replace HB := Am (below_step (bl_ HB) hb); clear hb hbox hg; have hz2 := kb6_ BK273))
 refine bodyPost_ret (results_cell_row rfl _ _ gb273 68 #[.int .i64 2, .int .i64 2, .int .i64 1, .int .i64 1, .int .i64 100, .int .i64 9] (0, 0) _ rfl (by (with_reducible repeat (first | refine blk_drewN ?_ _ | refine blk_drew ?_ | refine blk_alloc ?_ _)); refine blk_put (cs := #[.int .i64 2, .int .i64 2, .int .i64 1, .int .i64 1, .int .i64 100, .int .i64 0]) ?_ 5 _ rfl; (with_reducible repeat (first | refine blk_drewN ?_ _ | refine blk_drew ?_ | refine blk_alloc ?_ _)); refine blk_put (cs := #[.int .i64 2, .int .i64 2, .int .i64 1, .int .i64 1, .int .i64 0, .int .i64 0]) ?_ 4 _ rfl; (with_reducible repeat (first | refine blk_drewN ?_ _ | refine blk_drew ?_ | refine blk_alloc ?_ _)); refine blk_put (cs := #[.int .i64 2, .int .i64 2, .int .i64 1, .int .i64 0, .int .i64 0, .int .i64 0]) ?_ 3 _ rfl; (with_reducible repeat (first | refine blk_drewN ?_ _ | refine blk_drew ?_ | refine blk_alloc ?_ _)); refine blk_put (cs := #[.int .i64 2, .int .i64 2, .int .i64 0, .int .i64 0, .int .i64 0, .int .i64 0]) ?_ 2 _ rfl; (with_reducible repeat (first | refine blk_drewN ?_ _ | refine blk_drew ?_ | refine blk_alloc ?_ _)); refine blk_put (cs := #[.int .i64 2, .int .i64 0, .int .i64 0, .int .i64 0, .int .i64 0, .int .i64 0]) ?_ 1 _ rfl; (with_reducible repeat (first | refine blk_drewN ?_ _ | refine blk_drew ?_ | refine blk_alloc ?_ _)); refine blk_put (cs := #[.int .i64 0, .int .i64 0, .int .i64 0, .int .i64 0, .int .i64 0, .int .i64 0]) ?_ 0 _ rfl; (with_reducible repeat (first | refine blk_drewN ?_ _ | refine blk_drew ?_ | refine blk_alloc ?_ _)); exact BK273.out) Tryd.underlying68 rfl (by kernel_rfl)) rfl ?_
 exact ⟨ew_, bl_ HB⟩
end Go.Proofs.YtjdenpmaianmfaaDoor.Q
