/- Contracts of the seat's functions, printed: if the Lean function comes to a value, the Go function returns it. -/
import Derived.Test.YtjdenpmaianmfaaDoorY6Q8
namespace Go.Proofs.YtjdenpmaianmfaaDoor.Q
open RowKit YtjdenpmaianmfaaDoorW.PrintWords YtjdenpmaianmfaaDoorW.PrintLast YtjdenpmaianmfaaDoorW.PrintMore
attribute [local go_sem] max2_int min2_int max_two min_two max_three min_three max_four min_four
set_option maxHeartbeats 16000000
set_option maxRecDepth 100000
set_option linter.unusedVariables false
set_option linter.unusedSimpArgs false
def chapbookref03_Number.f (k : Nat) (a0 : Int) : Option (ByteArray × Bool) := if a0 < 0 then (some ((⟨#[]⟩ : ByteArray), false)) else ((chapbookref01_Put.f k (IntKind.u64.wrap (a0))).bind fun bt190 => (some (bt190.1, (bt190.2 == 0))))
theorem chapbookref03_Number.calls (k : Nat) (a0 : Int) (r1 : ByteArray) (r2 : Bool) (w : World) (h : chapbookref03_Number.f k a0 = some (r1, r2)) :
  Calls Tryd.prog 108 #[a0] w fun e w' => e = .returned (.tuple #[r1, r2]) ∧ Below w.heap.size w w' := by
 have HB := Am (Below.refl w.heap.size w)
 have H : (if a0 < 0 then (some ((⟨#[]⟩ : ByteArray), false)) else ((chapbookref01_Put.f k (IntKind.u64.wrap (a0))).bind fun bt190 => (some (bt190.1, (bt190.2 == 0))))) = some (r1, r2) := h
 clear h
 by_cases c2 : a0 < 0
 ·rw [if_pos c2] at H
  have c2b0 := decide_eq_true c2
  clear c2
  simp only [Option.some.injEq, Prod.mk.injEq] at H
  obtain ⟨rfl, rfl⟩ := H
  go_enter Tryd.func108, Tryd.ntmps108
  go_wp2
  go_ret2
  exact ⟨ew_, bl_ HB⟩
 ·rw [if_neg c2] at H
  have c2b0 := decide_eq_false c2
  clear c2
  replace H := Option.bind_eq_some_iff.mp H
  obtain ⟨⟨t190, t191⟩, A30, H⟩ := H
  replace H : (some (t190, (t191 == 0))) = some (r1, r2) := H
  have A3 := Am A30
  clear A30
  simp only [Option.some.injEq, Prod.mk.injEq] at H
  obtain ⟨rfl, rfl⟩ := H
  go_enter Tryd.func108, Tryd.ntmps108
  go_wp2_with (first | ((with_reducible refine gC 115 rfl ?_); refine goesL_ (some 11) rfl rfl Tryd.func115 (by kernel_rfl) rfl #[.int .u64 (IntKind.u64.wrap (a0))] rfl am_ ?_; (with_reducible refine (chapbookref01_Put.calls k (IntKind.u64.wrap (a0)) t190 t191 _ A3.out).mono ?_); rintro e w4 ⟨rfl, hb⟩; refine ⟨_, rfl, ?_⟩; replace HB := Am (below_step (bl_ HB) hb); (try clear hb); (try clear hb2); (try clear hk); (try clear hi)))
  go_ret2
  exact ⟨ew_, bl_ HB⟩
def chapbookref03_Text.f (k : Nat) (a0 : ByteArray) : Option (ByteArray) := (chapbookref03_Number.f k (a0.size : Int)).bind fun bt192 => (if bt192.1.size + a0.size ≤ 9223372036854775807 then (some (bt192.1 ++ a0)) else (none))
theorem chapbookref03_Text.calls (k : Nat) (a0 : ByteArray) (r : ByteArray) (w : World) (h : chapbookref03_Text.f k a0 = some r) :
  Calls Tryd.prog 116 #[a0] w fun e w' => e = .returned (.string r) ∧ Below w.heap.size w w' := by
 have HB := Am (Below.refl w.heap.size w)
 have H : ((chapbookref03_Number.f k (a0.size : Int)).bind fun bt192 => (if bt192.1.size + a0.size ≤ 9223372036854775807 then (some (bt192.1 ++ a0)) else (none))) = some r := h
 clear h
 replace H := Option.bind_eq_some_iff.mp H
 obtain ⟨⟨t192, t193⟩, A20, H⟩ := H
 replace H : (if t192.size + a0.size ≤ 9223372036854775807 then (some (t192 ++ a0)) else (none)) = some r := H
 have A2 := Am A20
 clear A20
 by_cases c3 : t192.size + a0.size ≤ 9223372036854775807
 ·rw [if_pos c3] at H
  have c3b0 := eq_true c3
  have c3b1 := decide_eq_true c3
  try have c3b2 : (9223372036854775807 < t192.size + a0.size) = False := eq_false (Nat.not_lt.2 c3)
  obtain rfl := Option.some.inj H
  go_enter Tryd.func116, Tryd.ntmps116
  go_wp2_with (first | ((with_reducible refine gC 108 rfl ?_); refine goesL_ (some 8) rfl rfl Tryd.func108 (by kernel_rfl) rfl #[(a0.size : Int)] rfl am_ ?_; (with_reducible refine (chapbookref03_Number.calls k (a0.size : Int) t192 t193 _ A2.out).mono ?_); rintro e w4 ⟨rfl, hb⟩; refine ⟨_, rfl, ?_⟩; replace HB := Am (below_step (bl_ HB) hb); (try clear hb); (try clear hb2); (try clear hk); (try clear hi)))
  go_ret
  exact ⟨ew_, bl_ HB⟩
 ·rw [if_neg c3] at H
  exact absurd H (by simp)
def chapbookref01_Zig.j0 : Nat → Int → Bool → Option (Int × Bool)
 | 0, _, _ => none
 | k + 1, x0, x9 => if x9 = true then (some (0, false)) else (if x0 < 0 then (some (IntKind.u64.wrap ((IntKind.u64.wrap (2 * (IntKind.u64.wrap (wrap64 (-(wrap64 (x0 + 1))))))) + 1), true)) else (some (IntKind.u64.wrap (2 * (IntKind.u64.wrap (x0))), true)))
def chapbookref01_Zig.f (k : Nat) (a0 : Int) : Option (Int × Bool) := if a0 < (-2305843009213693952) then (chapbookref01_Zig.j0 k a0 true) else (chapbookref01_Zig.j0 k a0 (decide (a0 > 2305843009213693951)))
theorem chapbookref01_Zig.calls (k : Nat) (a0 : Int) (r1 : Int) (r2 : Bool) (w : World) (h : chapbookref01_Zig.f k a0 = some (r1, r2)) :
  Calls Tryd.prog 125 #[a0] w fun e w' => e = .returned (.tuple #[.int .u64 r1, r2]) ∧ Drawn0 w w' := by
 have H : (if a0 < (-2305843009213693952) then (chapbookref01_Zig.j0 k a0 true) else (chapbookref01_Zig.j0 k a0 (decide (a0 > 2305843009213693951)))) = some (r1, r2) := h
 clear h
 have HC2 := Am H
 clear H
 go_enter Tryd.func125, Tryd.ntmps125
 go_upto_region 1 with (fail)
 go_cut [9] (fun v9 wc => ∃ (kq : Nat) (x9_1 : Bool), v9 = .bool x9_1 ∧ Aside0 (chapbookref01_Zig.j0 kq a0 x9_1 = some (r1, r2)) ∧ Aside0 (kq ≤ k) ∧ Drawn0 w wc)
 case first =>
  have H := HC2.out
  clear HC2
  by_cases c3 : a0 < (-2305843009213693952)
  ·rw [if_pos c3] at H
   have c3b0 := decide_eq_true c3
   clear c3
   (first | rw [c3b0] | (simp only [i64_w, i32_w]; rw [c3b0]) | skip)
   have H' := Am H
   clear H
   go_wp2
   go_meet
   case rel => exact ⟨_, (true), er_, H', ⟨by first | omega | exact Nat.le_refl _⟩, by repeat (first | exact Drawn0.refl _ | apply Drawn0.step)⟩
  ·rw [if_neg c3] at H
   have c3b0 := decide_eq_false c3
   clear c3
   (first | rw [c3b0] | (simp only [i64_w, i32_w]; rw [c3b0]) | skip)
   have H' := Am H
   clear H
   go_wp2
   go_meet
   case rel => exact ⟨_, (decide (a0 > 2305843009213693951)), er_, H', ⟨by first | omega | exact Nat.le_refl _⟩, by repeat (first | exact Drawn0.refl _ | apply Drawn0.step)⟩
 case rest =>
  clear HC2
  try clear c1
  try clear p2
  try clear c3
  try clear c3b0
  obtain ⟨kq, x9_1, rfl, HA, HJ1, ⟨mc1, rfl⟩⟩ := hcut
  cases kq with
  | zero => exact absurd HA.out (by simp [chapbookref01_Zig.j0])
  | succ kj1 =>
   have H := HA.out
   clear HA
   simp only [chapbookref01_Zig.j0] at H
   by_cases c4 : x9_1 = true
   ·subst c4
    replace H : (some (0, false)) = some (r1, r2) := by rw [if_pos rfl] at H; exact H
    simp only [Option.some.injEq, Prod.mk.injEq] at H
    obtain ⟨rfl, rfl⟩ := H
    go_wp2
    go_ret2
    exact ⟨es_, by repeat (first | exact Drawn0.refl _ | apply Drawn0.step)⟩
   ·replace c4 := Bool.eq_false_iff.mpr c4
    subst c4
    replace H : (if a0 < 0 then (some (IntKind.u64.wrap ((IntKind.u64.wrap (2 * (IntKind.u64.wrap (wrap64 (-(wrap64 (a0 + 1))))))) + 1), true)) else (some (IntKind.u64.wrap (2 * (IntKind.u64.wrap (a0))), true))) = some (r1, r2) := by rw [if_neg (show ¬ (false = true) by decide)] at H; exact H
    by_cases c5 : a0 < 0
    ·rw [if_pos c5] at H
     have c5b0 := decide_eq_true c5
     clear c5
     simp only [Option.some.injEq, Prod.mk.injEq] at H
     obtain ⟨rfl, rfl⟩ := H
     go_wp2
     go_ret2
     exact ⟨es_, by repeat (first | exact Drawn0.refl _ | apply Drawn0.step)⟩
    ·rw [if_neg c5] at H
     have c5b0 := decide_eq_false c5
     clear c5
     simp only [Option.some.injEq, Prod.mk.injEq] at H
     obtain ⟨rfl, rfl⟩ := H
     go_wp2
     go_ret2
     exact ⟨es_, by repeat (first | exact Drawn0.refl _ | apply Drawn0.step)⟩
def chapbookref03_Signed.f (k : Nat) (a0 : Int) : Option (ByteArray × Bool) := (chapbookref01_Zig.f k a0).bind fun bt194 => (if bt194.2 = true then ((chapbookref01_Put.f k bt194.1).bind fun bt196 => (some (bt196.1, true))) else (some ((⟨#[]⟩ : ByteArray), false)))
theorem chapbookref03_Signed.calls (k : Nat) (a0 : Int) (r1 : ByteArray) (r2 : Bool) (w : World) (h : chapbookref03_Signed.f k a0 = some (r1, r2)) :
  Calls Tryd.prog 117 #[a0] w fun e w' => e = .returned (.tuple #[r1, r2]) ∧ Below w.heap.size w w' := by
 have HB := Am (Below.refl w.heap.size w)
 have H : ((chapbookref01_Zig.f k a0).bind fun bt194 => (if bt194.2 = true then ((chapbookref01_Put.f k bt194.1).bind fun bt196 => (some (bt196.1, true))) else (some ((⟨#[]⟩ : ByteArray), false)))) = some (r1, r2) := h
 clear h
 replace H := Option.bind_eq_some_iff.mp H
 obtain ⟨⟨t194, t195⟩, A20, H⟩ := H
 replace H : (if t195 = true then ((chapbookref01_Put.f k t194).bind fun bt196 => (some (bt196.1, true))) else (some ((⟨#[]⟩ : ByteArray), false))) = some (r1, r2) := H
 have A2 := Am A20
 clear A20
 by_cases c3 : t195 = true
 ·subst c3
  replace H : ((chapbookref01_Put.f k t194).bind fun bt196 => (some (bt196.1, true))) = some (r1, r2) := by rw [if_pos rfl] at H; exact H
  replace H := Option.bind_eq_some_iff.mp H
  obtain ⟨⟨t196, t197⟩, A40, H⟩ := H
  replace H : (some (t196, true)) = some (r1, r2) := H
  have A4 := Am A40
  clear A40
  simp only [Option.some.injEq, Prod.mk.injEq] at H
  obtain ⟨rfl, rfl⟩ := H
  go_enter Tryd.func117, Tryd.ntmps117
  go_wp2_with (first | ((with_reducible refine gC 125 rfl ?_); refine goesL_ (some 10) rfl rfl Tryd.func125 (by kernel_rfl) rfl #[a0] rfl am_ ?_; (with_reducible refine (chapbookref01_Zig.calls k a0 t194 true _ A2.out).mono ?_); rintro e w' ⟨rfl, ⟨nd, rfl⟩⟩; refine ⟨_, rfl, ?_⟩) | ((with_reducible refine gC 115 rfl ?_); refine goesL_ (some 17) rfl rfl Tryd.func115 (by kernel_rfl) rfl #[.int .u64 t194] rfl am_ ?_; (with_reducible refine (chapbookref01_Put.calls k t194 t196 t197 _ A4.out).mono ?_); rintro e w5 ⟨rfl, hb⟩; refine ⟨_, rfl, ?_⟩; replace HB := Am (below_step (bl_ HB) hb); (try clear hb); (try clear hb2); (try clear hk); (try clear hi)))
  go_ret2
  exact ⟨ew_, bl_ HB⟩
 ·replace c3 := Bool.eq_false_iff.mpr c3
  subst c3
  replace H : (some ((⟨#[]⟩ : ByteArray), false)) = some (r1, r2) := by rw [if_neg (show ¬ (false = true) by decide)] at H; exact H
  simp only [Option.some.injEq, Prod.mk.injEq] at H
  obtain ⟨rfl, rfl⟩ := H
  go_enter Tryd.func117, Tryd.ntmps117
  go_wp2_with (first | ((with_reducible refine gC 125 rfl ?_); refine goesL_ (some 10) rfl rfl Tryd.func125 (by kernel_rfl) rfl #[a0] rfl am_ ?_; (with_reducible refine (chapbookref01_Zig.calls k a0 t194 false _ A2.out).mono ?_); rintro e w' ⟨rfl, ⟨nd, rfl⟩⟩; refine ⟨_, rfl, ?_⟩))
  go_ret2
  exact ⟨ew_, bl_ HB⟩
def chapbookref06_Bytes.j0 : Nat → ByteArray → Bool → ByteArray → Int → Int → ByteArray → Option (ByteArray)
 | 0, _, _, _, _, _, _ => none
 | k + 1, x3, x25, x199000, x199001, x199002, x199003 => if x25 = true then ((chapbookref03_Signed.f k x199002).bind fun bt202 => (if x3.size + bt202.1.size ≤ 9223372036854775807 then (if x199001 = 2 then ((chapbookref03_Text.f k x199003).bind fun t204 => (if (x3 ++ bt202.1).size + t204.size ≤ 9223372036854775807 then (some ((x3 ++ bt202.1) ++ t204)) else (none))) else (if x199001 = 4 then ((chapbookref03_Text.f k x199003).bind fun t205 => (if (x3 ++ bt202.1).size + t205.size ≤ 9223372036854775807 then (some ((x3 ++ bt202.1) ++ t205)) else (none))) else (some (x3 ++ bt202.1)))) else (none))) else (if x199001 = 2 then ((chapbookref03_Text.f k x199003).bind fun t206 => (if x3.size + t206.size ≤ 9223372036854775807 then (some (x3 ++ t206)) else (none))) else (if x199001 = 4 then ((chapbookref03_Text.f k x199003).bind fun t207 => (if x3.size + t207.size ≤ 9223372036854775807 then (some (x3 ++ t207)) else (none))) else (some x3)))
def chapbookref06_Bytes.f (k : Nat) (a0_0 : ByteArray) (a0_1 : Int) (a0_2 : Int) (a0_3 : ByteArray) : Option (ByteArray) := (chapbookref03_Number.f k a0_1).bind fun bt199 => ((chapbookref03_Text.f k a0_0).bind fun t201 => (if bt199.1.size + t201.size ≤ 9223372036854775807 then (if a0_1 = 1 then (chapbookref06_Bytes.j0 k (bt199.1 ++ t201) true a0_0 a0_1 a0_2 a0_3) else (chapbookref06_Bytes.j0 k (bt199.1 ++ t201) (a0_1 == 3) a0_0 a0_1 a0_2 a0_3)) else (none)))
theorem chapbookref06_Bytes.calls (k : Nat) (a0_0 : ByteArray) (a0_1 : Int) (a0_2 : Int) (a0_3 : ByteArray) (r : ByteArray) (w : World) (h : chapbookref06_Bytes.f k a0_0 a0_1 a0_2 a0_3 = some r) :
  Calls Tryd.prog 109 #[.agg #[a0_0, a0_1, a0_2, a0_3]] w fun e w' => e = .returned (.string r) ∧ Below w.heap.size w w' := by
 have hu32 := Tryd.underlying32
 have HB := Am (Below.refl w.heap.size w)
 have H : ((chapbookref03_Number.f k a0_1).bind fun bt199 => ((chapbookref03_Text.f k a0_0).bind fun t201 => (if bt199.1.size + t201.size ≤ 9223372036854775807 then (if a0_1 = 1 then (chapbookref06_Bytes.j0 k (bt199.1 ++ t201) true a0_0 a0_1 a0_2 a0_3) else (chapbookref06_Bytes.j0 k (bt199.1 ++ t201) (a0_1 == 3) a0_0 a0_1 a0_2 a0_3)) else (none)))) = some r := h
 clear h
 replace H := Option.bind_eq_some_iff.mp H
 obtain ⟨⟨t199, t200⟩, A20, H⟩ := H
 replace H : ((chapbookref03_Text.f k a0_0).bind fun t201 => (if t199.size + t201.size ≤ 9223372036854775807 then (if a0_1 = 1 then (chapbookref06_Bytes.j0 k (t199 ++ t201) true a0_0 a0_1 a0_2 a0_3) else (chapbookref06_Bytes.j0 k (t199 ++ t201) (a0_1 == 3) a0_0 a0_1 a0_2 a0_3)) else (none))) = some r := H
 have A2 := Am A20
 clear A20
 replace H := Option.bind_eq_some_iff.mp H
 obtain ⟨t201, A30, H⟩ := H
 replace H : (if t199.size + t201.size ≤ 9223372036854775807 then (if a0_1 = 1 then (chapbookref06_Bytes.j0 k (t199 ++ t201) true a0_0 a0_1 a0_2 a0_3) else (chapbookref06_Bytes.j0 k (t199 ++ t201) (a0_1 == 3) a0_0 a0_1 a0_2 a0_3)) else (none)) = some r := H
 have A3 := Am A30
 clear A30
 by_cases c4 : t199.size + t201.size ≤ 9223372036854775807
 ·rw [if_pos c4] at H
  have c4b0 := eq_true c4
  have c4b1 := decide_eq_true c4
  try have c4b2 : (9223372036854775807 < t199.size + t201.size) = False := eq_false (Nat.not_lt.2 c4)
  have HC5 := Am H
  clear H
  go_enter Tryd.func109, Tryd.ntmps109
  go_upto_region 3 with (first | ((with_reducible refine gD 1 rfl ?_); refine box_event rfl (N := 1) rfl (cs := #[a0_0, a0_1, a0_2, a0_3]) (t := 32) gs_ ?_; intro gb198 hg w6 hbox hb; have BK198 := Am (hbox); have GW198 := Am (gw_ hg HB); have GE198 := Am (gw_ hg HB); replace HB := Am (below_step (bl_ HB) hb); clear hb hbox hg; have hz7 := kb4_ BK198) | ((with_reducible refine gC 108 rfl ?_); refine goesL_ (some 10) rfl rfl Tryd.func108 (by kernel_rfl) rfl #[a0_1] rfl am_ ?_; (with_reducible refine (chapbookref03_Number.calls k a0_1 t199 t200 _ A2.out).mono ?_); rintro e w8 ⟨rfl, hb⟩; refine ⟨_, rfl, ?_⟩; replace BK198 := bb_ BK198 hb; replace HB := Am (below_step (bl_ HB) hb); (try clear hb); (try clear hb2); (try clear hk); (try clear hi); have hcz9_0 : w8.cell? ⟨gb198, 0, none⟩ = some (.string a0_0) := (blk_cell BK198.out 0).trans rfl; have hcz9_1 : w8.cell? ⟨gb198, 1, none⟩ = some (.int .i64 a0_1) := (blk_cell BK198.out 1).trans rfl; have hcz9_2 : w8.cell? ⟨gb198, 2, none⟩ = some (.int .i64 a0_2) := (blk_cell BK198.out 2).trans rfl; have hcz9_3 : w8.cell? ⟨gb198, 3, none⟩ = some (.string a0_3) := (blk_cell BK198.out 3).trans rfl; have hfz9_0 := blk_frozen BK198.out 0; have hfz9_1 := blk_frozen BK198.out 1; have hfz9_2 := blk_frozen BK198.out 2; have hfz9_3 := blk_frozen BK198.out 3) | ((with_reducible refine gC 116 rfl ?_); refine goesL_ (some 16) rfl rfl Tryd.func116 (by kernel_rfl) rfl #[a0_0] rfl am_ ?_; (with_reducible refine (chapbookref03_Text.calls k a0_0 t201 _ A3.out).mono ?_); rintro e w10 ⟨rfl, hb⟩; refine ⟨_, rfl, ?_⟩; replace BK198 := bb_ BK198 hb; replace HB := Am (below_step (bl_ HB) hb); (try clear hb); (try clear hb2); (try clear hk); (try clear hi)))
  (try simp only [Act.put, List.setIfInBounds_toArray, List.set_cons_zero, List.set_cons_succ])
  go_cut [25] (fun v25 wc => ∃ (kq : Nat) (x25_4 : Bool), v25 = .bool x25_4 ∧ Aside0 (chapbookref06_Bytes.j0 kq (t199 ++ t201) x25_4 a0_0 a0_1 a0_2 a0_3 = some r) ∧ Aside0 (kq ≤ k) ∧ Aside0 (wc.heap[gb198]? = some (.cells #[a0_0, a0_1, a0_2, a0_3] 32 (0, 0))) ∧ Aside0 (Below w.heap.size w wc))
  case first =>
   have H := HC5.out
   clear HC5
   by_cases c11 : a0_1 = 1
   ·rw [if_pos c11] at H
    have c11b0 : (a0_1 == 1) = true := beq_iff_eq.mpr c11
    have c11b1 : (a0_1 != 1) = false := bne_eq_false_iff_eq.mpr c11
    clear c11
    (first | rw [c11b0] | (simp only [i64_w, i32_w]; rw [c11b0]) | skip)
    have H' := Am H
    clear H
    have hcz12_0 : w10.cell? ⟨gb198, 0, none⟩ = some (.string a0_0) := (blk_cell BK198.out 0).trans rfl
    have hcz12_1 : w10.cell? ⟨gb198, 1, none⟩ = some (.int .i64 a0_1) := (blk_cell BK198.out 1).trans rfl
    have hcz12_2 : w10.cell? ⟨gb198, 2, none⟩ = some (.int .i64 a0_2) := (blk_cell BK198.out 2).trans rfl
    have hcz12_3 : w10.cell? ⟨gb198, 3, none⟩ = some (.string a0_3) := (blk_cell BK198.out 3).trans rfl
    have hfz12_0 := blk_frozen BK198.out 0
    have hfz12_1 := blk_frozen BK198.out 1
    have hfz12_2 := blk_frozen BK198.out 2
    have hfz12_3 := blk_frozen BK198.out 3
    go_wp2
    go_meet
    case rel => exact ⟨_, (true), er_, H', ⟨by first | omega | exact Nat.le_refl _⟩, ⟨bk_ BK198⟩, ⟨bl_ HB⟩⟩
   ·rw [if_neg c11] at H
    have c11b0 : (a0_1 == 1) = false := beq_eq_false_iff_ne.mpr c11
    have c11b1 : (a0_1 != 1) = true := bne_iff_ne.mpr c11
    (first | rw [c11b0] | (simp only [i64_w, i32_w]; rw [c11b0]) | skip)
    have H' := Am H
    clear H
    have hz13 := kb4_ BK198
    go_wp2
    go_meet
    case rel => exact ⟨_, ((a0_1 == 3)), er_, H', ⟨by first | omega | exact Nat.le_refl _⟩, ⟨bk_ BK198⟩, ⟨bl_ HB⟩⟩
  case rest =>
   clear HC5
   try clear c1
   try clear p2
   try clear c4
   try clear c4b0
   try clear c4b1
   try clear c4b2
   try clear c10
   try clear c11
   try clear c11b0
   try clear c11b1
   try clear hcz12_0
   try clear hcz12_1
   try clear hcz12_2
   try clear hcz12_3
   try clear hz13
   try clear hz7
   try clear hcz9_0
   try clear hcz9_1
   try clear hcz9_2
   try clear hcz9_3
   try clear hfz12_0
   try clear hfz12_1
   try clear hfz12_2
   try clear hfz12_3
   try clear hz13
   try clear hz7
   try clear hfz9_0
   try clear hfz9_1
   try clear hfz9_2
   try clear hfz9_3
   obtain ⟨kq, x25_4, rfl, HA, HJ4, BK198, HB⟩ := hcut
   cases kq with
   | zero => exact absurd HA.out (by simp [chapbookref06_Bytes.j0])
   | succ kj4 =>
    have H := HA.out
    clear HA
    simp only [chapbookref06_Bytes.j0] at H
    by_cases c14 : x25_4 = true
    ·subst c14
     replace H : ((chapbookref03_Signed.f kj4 a0_2).bind fun bt202 => (if (t199 ++ t201).size + bt202.1.size ≤ 9223372036854775807 then (if a0_1 = 2 then ((chapbookref03_Text.f kj4 a0_3).bind fun t204 => (if ((t199 ++ t201) ++ bt202.1).size + t204.size ≤ 9223372036854775807 then (some (((t199 ++ t201) ++ bt202.1) ++ t204)) else (none))) else (if a0_1 = 4 then ((chapbookref03_Text.f kj4 a0_3).bind fun t205 => (if ((t199 ++ t201) ++ bt202.1).size + t205.size ≤ 9223372036854775807 then (some (((t199 ++ t201) ++ bt202.1) ++ t205)) else (none))) else (some ((t199 ++ t201) ++ bt202.1)))) else (none))) = some r := by rw [if_pos rfl] at H; exact H
     replace H := Option.bind_eq_some_iff.mp H
     obtain ⟨⟨t202, t203⟩, A150, H⟩ := H
     replace H : (if (t199 ++ t201).size + t202.size ≤ 9223372036854775807 then (if a0_1 = 2 then ((chapbookref03_Text.f kj4 a0_3).bind fun t204 => (if ((t199 ++ t201) ++ t202).size + t204.size ≤ 9223372036854775807 then (some (((t199 ++ t201) ++ t202) ++ t204)) else (none))) else (if a0_1 = 4 then ((chapbookref03_Text.f kj4 a0_3).bind fun t205 => (if ((t199 ++ t201) ++ t202).size + t205.size ≤ 9223372036854775807 then (some (((t199 ++ t201) ++ t202) ++ t205)) else (none))) else (some ((t199 ++ t201) ++ t202)))) else (none)) = some r := H
     have A15 := Am A150
     clear A150
     by_cases c16 : (t199 ++ t201).size + t202.size ≤ 9223372036854775807
     ·rw [if_pos c16] at H
      have c16b0 := eq_true c16
      have c16b1 := decide_eq_true c16
      have zc16a : t199.size + t201.size + t202.size ≤ 9223372036854775807 := by have h_ := of_decide_eq_true c16b1; simp only [ByteArray.size_append] at h_; exact h_
      have zc16b := eq_true zc16a
      have zc16c : decide (t199.size + t201.size + t202.size ≤ 9223372036854775807) = true := decide_eq_true zc16a
      have zc16d : (9223372036854775807 < t199.size + t201.size + t202.size) = False := eq_false (Nat.not_lt.2 zc16a)
      try have c16b2 : (9223372036854775807 < (t199 ++ t201).size + t202.size) = False := eq_false (Nat.not_lt.2 c16)
      by_cases c17 : a0_1 = 2
      ·rw [if_pos c17] at H
       have c17b0 : (a0_1 == 2) = true := beq_iff_eq.mpr c17
       have c17b1 : (a0_1 != 2) = false := bne_eq_false_iff_eq.mpr c17
       clear c17
       replace H := Option.bind_eq_some_iff.mp H
       obtain ⟨t204, A180, H⟩ := H
       replace H : (if ((t199 ++ t201) ++ t202).size + t204.size ≤ 9223372036854775807 then (some (((t199 ++ t201) ++ t202) ++ t204)) else (none)) = some r := H
       have A18 := Am A180
       clear A180
       by_cases c19 : ((t199 ++ t201) ++ t202).size + t204.size ≤ 9223372036854775807
       ·rw [if_pos c19] at H
        have c19b0 := eq_true c19
        have c19b1 := decide_eq_true c19
        have zc19a : t199.size + t201.size + t202.size + t204.size ≤ 9223372036854775807 := by have h_ := of_decide_eq_true c19b1; simp only [ByteArray.size_append] at h_; exact h_
        have zc19b := eq_true zc19a
        have zc19c : decide (t199.size + t201.size + t202.size + t204.size ≤ 9223372036854775807) = true := decide_eq_true zc19a
        have zc19d : (9223372036854775807 < t199.size + t201.size + t202.size + t204.size) = False := eq_false (Nat.not_lt.2 zc19a)
        try have c19b2 : (9223372036854775807 < ((t199 ++ t201) ++ t202).size + t204.size) = False := eq_false (Nat.not_lt.2 c19)
        obtain rfl := Option.some.inj H
        have hz20 := kb4_ BK198
        go_wp2_with (first | ((with_reducible refine gC 117 rfl ?_); refine goesL_ (some 29) rfl rfl Tryd.func117 (by kernel_rfl) rfl #[a0_2] rfl am_ ?_; (with_reducible refine (chapbookref03_Signed.calls kj4 a0_2 t202 t203 _ A15.out).mono ?_); rintro e w21 ⟨rfl, hb⟩; refine ⟨_, rfl, ?_⟩; replace BK198 := bb_ BK198 hb; replace HB := Am (below_step (bl_ HB) hb); (try clear hb); (try clear hb2); (try clear hk); (try clear hi); have hz22 := kb4_ BK198) | ((with_reducible refine gC 116 rfl ?_); refine goesL_ (some 46) rfl rfl Tryd.func116 (by kernel_rfl) rfl #[a0_3] rfl am_ ?_; (with_reducible refine (chapbookref03_Text.calls kj4 a0_3 t204 _ A18.out).mono ?_); rintro e w23 ⟨rfl, hb⟩; refine ⟨_, rfl, ?_⟩; replace BK198 := bb_ BK198 hb; replace HB := Am (below_step (bl_ HB) hb); (try clear hb); (try clear hb2); (try clear hk); (try clear hi)))
        go_ret
        exact ⟨ew_, bl_ HB⟩
       ·rw [if_neg c19] at H
        exact absurd H (by simp)
      ·rw [if_neg c17] at H
       have c17b0 : (a0_1 == 2) = false := beq_eq_false_iff_ne.mpr c17
       have c17b1 : (a0_1 != 2) = true := bne_iff_ne.mpr c17
       by_cases c24 : a0_1 = 4
       ·rw [if_pos c24] at H
        have c24b0 : (a0_1 == 4) = true := beq_iff_eq.mpr c24
        have c24b1 : (a0_1 != 4) = false := bne_eq_false_iff_eq.mpr c24
        clear c24
        replace H := Option.bind_eq_some_iff.mp H
        obtain ⟨t205, A250, H⟩ := H
        replace H : (if ((t199 ++ t201) ++ t202).size + t205.size ≤ 9223372036854775807 then (some (((t199 ++ t201) ++ t202) ++ t205)) else (none)) = some r := H
        have A25 := Am A250
        clear A250
        by_cases c26 : ((t199 ++ t201) ++ t202).size + t205.size ≤ 9223372036854775807
        ·rw [if_pos c26] at H
         have c26b0 := eq_true c26
         have c26b1 := decide_eq_true c26
         have zc26a : t199.size + t201.size + t202.size + t205.size ≤ 9223372036854775807 := by have h_ := of_decide_eq_true c26b1; simp only [ByteArray.size_append] at h_; exact h_
         have zc26b := eq_true zc26a
         have zc26c : decide (t199.size + t201.size + t202.size + t205.size ≤ 9223372036854775807) = true := decide_eq_true zc26a
         have zc26d : (9223372036854775807 < t199.size + t201.size + t202.size + t205.size) = False := eq_false (Nat.not_lt.2 zc26a)
         try have c26b2 : (9223372036854775807 < ((t199 ++ t201) ++ t202).size + t205.size) = False := eq_false (Nat.not_lt.2 c26)
         obtain rfl := Option.some.inj H
         have hz27 := kb4_ BK198
         go_wp2_with (first | ((with_reducible refine gC 117 rfl ?_); refine goesL_ (some 29) rfl rfl Tryd.func117 (by kernel_rfl) rfl #[a0_2] rfl am_ ?_; (with_reducible refine (chapbookref03_Signed.calls kj4 a0_2 t202 t203 _ A15.out).mono ?_); rintro e w28 ⟨rfl, hb⟩; refine ⟨_, rfl, ?_⟩; replace BK198 := bb_ BK198 hb; replace HB := Am (below_step (bl_ HB) hb); (try clear hb); (try clear hb2); (try clear hk); (try clear hi); have hz29 := kb4_ BK198) | ((with_reducible refine gC 116 rfl ?_); refine goesL_ (some 46) rfl rfl Tryd.func116 (by kernel_rfl) rfl #[a0_3] rfl am_ ?_; (with_reducible refine (chapbookref03_Text.calls kj4 a0_3 t205 _ A25.out).mono ?_); rintro e w30 ⟨rfl, hb⟩; refine ⟨_, rfl, ?_⟩; replace BK198 := bb_ BK198 hb; replace HB := Am (below_step (bl_ HB) hb); (try clear hb); (try clear hb2); (try clear hk); (try clear hi)))
         go_ret
         exact ⟨ew_, bl_ HB⟩
        ·rw [if_neg c26] at H
         exact absurd H (by simp)
       ·rw [if_neg c24] at H
        have c24b0 : (a0_1 == 4) = false := beq_eq_false_iff_ne.mpr c24
        have c24b1 : (a0_1 != 4) = true := bne_iff_ne.mpr c24
        obtain rfl := Option.some.inj H
        have hz31 := kb4_ BK198
        go_wp2_with (first | ((with_reducible refine gC 117 rfl ?_); refine goesL_ (some 29) rfl rfl Tryd.func117 (by kernel_rfl) rfl #[a0_2] rfl am_ ?_; (with_reducible refine (chapbookref03_Signed.calls kj4 a0_2 t202 t203 _ A15.out).mono ?_); rintro e w32 ⟨rfl, hb⟩; refine ⟨_, rfl, ?_⟩; replace BK198 := bb_ BK198 hb; replace HB := Am (below_step (bl_ HB) hb); (try clear hb); (try clear hb2); (try clear hk); (try clear hi); have hz33 := kb4_ BK198))
        go_ret
        exact ⟨ew_, bl_ HB⟩
     ·rw [if_neg c16] at H
      exact absurd H (by simp)
    ·replace c14 := Bool.eq_false_iff.mpr c14
     subst c14
     replace H : (if a0_1 = 2 then ((chapbookref03_Text.f kj4 a0_3).bind fun t206 => (if (t199 ++ t201).size + t206.size ≤ 9223372036854775807 then (some ((t199 ++ t201) ++ t206)) else (none))) else (if a0_1 = 4 then ((chapbookref03_Text.f kj4 a0_3).bind fun t207 => (if (t199 ++ t201).size + t207.size ≤ 9223372036854775807 then (some ((t199 ++ t201) ++ t207)) else (none))) else (some (t199 ++ t201)))) = some r := by rw [if_neg (show ¬ (false = true) by decide)] at H; exact H
     by_cases c34 : a0_1 = 2
     ·rw [if_pos c34] at H
      have c34b0 : (a0_1 == 2) = true := beq_iff_eq.mpr c34
      have c34b1 : (a0_1 != 2) = false := bne_eq_false_iff_eq.mpr c34
      clear c34
      replace H := Option.bind_eq_some_iff.mp H
      obtain ⟨t206, A350, H⟩ := H
      replace H : (if (t199 ++ t201).size + t206.size ≤ 9223372036854775807 then (some ((t199 ++ t201) ++ t206)) else (none)) = some r := H
      have A35 := Am A350
      clear A350
      by_cases c36 : (t199 ++ t201).size + t206.size ≤ 9223372036854775807
      ·rw [if_pos c36] at H
       have c36b0 := eq_true c36
       have c36b1 := decide_eq_true c36
       have zc36a : t199.size + t201.size + t206.size ≤ 9223372036854775807 := by have h_ := of_decide_eq_true c36b1; simp only [ByteArray.size_append] at h_; exact h_
       have zc36b := eq_true zc36a
       have zc36c : decide (t199.size + t201.size + t206.size ≤ 9223372036854775807) = true := decide_eq_true zc36a
       have zc36d : (9223372036854775807 < t199.size + t201.size + t206.size) = False := eq_false (Nat.not_lt.2 zc36a)
       try have c36b2 : (9223372036854775807 < (t199 ++ t201).size + t206.size) = False := eq_false (Nat.not_lt.2 c36)
       obtain rfl := Option.some.inj H
       have hz37 := kb4_ BK198
       go_wp2_with (first | ((with_reducible refine gC 116 rfl ?_); refine goesL_ (some 46) rfl rfl Tryd.func116 (by kernel_rfl) rfl #[a0_3] rfl am_ ?_; (with_reducible refine (chapbookref03_Text.calls kj4 a0_3 t206 _ A35.out).mono ?_); rintro e w38 ⟨rfl, hb⟩; refine ⟨_, rfl, ?_⟩; replace BK198 := bb_ BK198 hb; replace HB := Am (below_step (bl_ HB) hb); (try clear hb); (try clear hb2); (try clear hk); (try clear hi)))
       go_ret
       exact ⟨ew_, bl_ HB⟩
      ·rw [if_neg c36] at H
       exact absurd H (by simp)
     ·rw [if_neg c34] at H
      have c34b0 : (a0_1 == 2) = false := beq_eq_false_iff_ne.mpr c34
      have c34b1 : (a0_1 != 2) = true := bne_iff_ne.mpr c34
      by_cases c39 : a0_1 = 4
      ·rw [if_pos c39] at H
       have c39b0 : (a0_1 == 4) = true := beq_iff_eq.mpr c39
       have c39b1 : (a0_1 != 4) = false := bne_eq_false_iff_eq.mpr c39
       clear c39
       replace H := Option.bind_eq_some_iff.mp H
       obtain ⟨t207, A400, H⟩ := H
       replace H : (if (t199 ++ t201).size + t207.size ≤ 9223372036854775807 then (some ((t199 ++ t201) ++ t207)) else (none)) = some r := H
       have A40 := Am A400
       clear A400
       by_cases c41 : (t199 ++ t201).size + t207.size ≤ 9223372036854775807
       ·rw [if_pos c41] at H
        have c41b0 := eq_true c41
        have c41b1 := decide_eq_true c41
        have zc41a : t199.size + t201.size + t207.size ≤ 9223372036854775807 := by have h_ := of_decide_eq_true c41b1; simp only [ByteArray.size_append] at h_; exact h_
        have zc41b := eq_true zc41a
        have zc41c : decide (t199.size + t201.size + t207.size ≤ 9223372036854775807) = true := decide_eq_true zc41a
        have zc41d : (9223372036854775807 < t199.size + t201.size + t207.size) = False := eq_false (Nat.not_lt.2 zc41a)
        try have c41b2 : (9223372036854775807 < (t199 ++ t201).size + t207.size) = False := eq_false (Nat.not_lt.2 c41)
        obtain rfl := Option.some.inj H
        have hz42 := kb4_ BK198
        go_wp2_with (first | ((with_reducible refine gC 116 rfl ?_); refine goesL_ (some 46) rfl rfl Tryd.func116 (by kernel_rfl) rfl #[a0_3] rfl am_ ?_; (with_reducible refine (chapbookref03_Text.calls kj4 a0_3 t207 _ A40.out).mono ?_); rintro e w43 ⟨rfl, hb⟩; refine ⟨_, rfl, ?_⟩; replace BK198 := bb_ BK198 hb; replace HB := Am (below_step (bl_ HB) hb); (try clear hb); (try clear hb2); (try clear hk); (try clear hi)))
        go_ret
        exact ⟨ew_, bl_ HB⟩
       ·rw [if_neg c41] at H
        exact absurd H (by simp)
      ·rw [if_neg c39] at H
       have c39b0 : (a0_1 == 4) = false := beq_eq_false_iff_ne.mpr c39
       have c39b1 : (a0_1 != 4) = true := bne_iff_ne.mpr c39
       obtain rfl := Option.some.inj H
       have hz44 := kb4_ BK198
       go_wp2
       go_ret
       exact ⟨ew_, bl_ HB⟩
 ·rw [if_neg c4] at H
  exact absurd H (by simp)
def chapbookref07_Bytes.l0 : Nat → ByteArray → Int → Int → Int → List (S32) → Option (ByteArray)
 | 0, _, _, _, _, _ => none
 | k + 1, x9, x10, x209000, x209001, x209002 => if x10 < (x209002.length : Int) then (if 0 ≤ x10 then ((chapbookref06_Bytes.f k ((rd_T32 x209002 x10).f0) ((rd_T32 x209002 x10).f1) ((rd_T32 x209002 x10).f2) ((rd_T32 x209002 x10).f3)).bind fun t216 => (if x9.size + t216.size ≤ 9223372036854775807 then (chapbookref07_Bytes.l0 k (x9 ++ t216) (wrap64 (x10 + 1)) x209000 x209001 x209002) else (none))) else (none)) else (some x9)
def chapbookref07_Bytes.f (k : Nat) (a0_0 : Int) (a0_1 : Int) (l0_2 : List (S32)) : Option (ByteArray) := (chapbookref03_Number.f k a0_0).bind fun bt209 => ((chapbookref03_Number.f k a0_1).bind fun bt211 => ((chapbookref03_Number.f k (l0_2.length : Int)).bind fun bt213 => (if bt209.1.size + bt211.1.size ≤ 9223372036854775807 then (if (bt209.1 ++ bt211.1).size + bt213.1.size ≤ 9223372036854775807 then (chapbookref07_Bytes.l0 k ((bt209.1 ++ bt211.1) ++ bt213.1) 0 a0_0 a0_1 l0_2) else (none)) else (none))))
theorem chapbookref07_Bytes.calls (k : Nat) (a0_0 : Int) (a0_1 : Int) (A0_2 : Option Addr) (c0_2 : Nat) (l0_2 : List (S32)) (r : ByteArray) (w : World) (hr0_2 : Kd.C k32 w A0_2 l0_2.length l0_2) (hc0_2 : l0_2.length ≤ c0_2) (h : chapbookref07_Bytes.f k a0_0 a0_1 l0_2 = some r) :
  Calls Tryd.prog 101 #[.agg #[a0_0, a0_1, .slice A0_2 l0_2.length c0_2]] w fun e w' => e = .returned (.string r) ∧ Below w.heap.size w w' := by
 have hu35 := Tryd.underlying35
 have hu32 := Tryd.underlying32
 have HR0_2 := Am hr0_2
 have HC0_2 := Am hc0_2
 clear hr0_2 hc0_2
 have HB := Am (Below.refl w.heap.size w)
 have H : ((chapbookref03_Number.f k a0_0).bind fun bt209 => ((chapbookref03_Number.f k a0_1).bind fun bt211 => ((chapbookref03_Number.f k (l0_2.length : Int)).bind fun bt213 => (if bt209.1.size + bt211.1.size ≤ 9223372036854775807 then (if (bt209.1 ++ bt211.1).size + bt213.1.size ≤ 9223372036854775807 then (chapbookref07_Bytes.l0 k ((bt209.1 ++ bt211.1) ++ bt213.1) 0 a0_0 a0_1 l0_2) else (none)) else (none))))) = some r := h
 clear h
 replace H := Option.bind_eq_some_iff.mp H
 obtain ⟨⟨t209, t210⟩, A20, H⟩ := H
 replace H : ((chapbookref03_Number.f k a0_1).bind fun bt211 => ((chapbookref03_Number.f k (l0_2.length : Int)).bind fun bt213 => (if t209.size + bt211.1.size ≤ 9223372036854775807 then (if (t209 ++ bt211.1).size + bt213.1.size ≤ 9223372036854775807 then (chapbookref07_Bytes.l0 k ((t209 ++ bt211.1) ++ bt213.1) 0 a0_0 a0_1 l0_2) else (none)) else (none)))) = some r := H
 have A2 := Am A20
 clear A20
 replace H := Option.bind_eq_some_iff.mp H
 obtain ⟨⟨t211, t212⟩, A30, H⟩ := H
 replace H : ((chapbookref03_Number.f k (l0_2.length : Int)).bind fun bt213 => (if t209.size + t211.size ≤ 9223372036854775807 then (if (t209 ++ t211).size + bt213.1.size ≤ 9223372036854775807 then (chapbookref07_Bytes.l0 k ((t209 ++ t211) ++ bt213.1) 0 a0_0 a0_1 l0_2) else (none)) else (none))) = some r := H
 have A3 := Am A30
 clear A30
 replace H := Option.bind_eq_some_iff.mp H
 obtain ⟨⟨t213, t214⟩, A40, H⟩ := H
 replace H : (if t209.size + t211.size ≤ 9223372036854775807 then (if (t209 ++ t211).size + t213.size ≤ 9223372036854775807 then (chapbookref07_Bytes.l0 k ((t209 ++ t211) ++ t213) 0 a0_0 a0_1 l0_2) else (none)) else (none)) = some r := H
 have A4 := Am A40
 clear A40
 by_cases c5 : t209.size + t211.size ≤ 9223372036854775807
 ·rw [if_pos c5] at H
  have c5b0 := eq_true c5
  have c5b1 := decide_eq_true c5
  try have c5b2 : (9223372036854775807 < t209.size + t211.size) = False := eq_false (Nat.not_lt.2 c5)
  by_cases c6 : (t209 ++ t211).size + t213.size ≤ 9223372036854775807
  ·rw [if_pos c6] at H
   have c6b0 := eq_true c6
   have c6b1 := decide_eq_true c6
   have zc6a : t209.size + t211.size + t213.size ≤ 9223372036854775807 := by have h_ := of_decide_eq_true c6b1; simp only [ByteArray.size_append] at h_; exact h_
   have zc6b := eq_true zc6a
   have zc6c : decide (t209.size + t211.size + t213.size ≤ 9223372036854775807) = true := decide_eq_true zc6a
   have zc6d : (9223372036854775807 < t209.size + t211.size + t213.size) = False := eq_false (Nat.not_lt.2 zc6a)
   try have c6b2 : (9223372036854775807 < (t209 ++ t211).size + t213.size) = False := eq_false (Nat.not_lt.2 c6)
   have H' := Am H
   clear H
   go_enter Tryd.func101, Tryd.ntmps101
   go_wp2_with (first | ((with_reducible refine gD 1 rfl ?_); refine box_event rfl (N := 1) rfl (cs := #[a0_0, a0_1, .slice A0_2 l0_2.length c0_2]) (t := 35) gs_ ?_; intro gb208 hg w7 hbox hb; have BK208 := Am (hbox); have GW208 := Am (gw_ hg HB); have GE208 := Am (gw_ hg HB); replace HB := Am (below_step (bl_ HB) hb); clear hb hbox hg; have hz8 := kb3_ BK208) | ((with_reducible refine gC 108 rfl ?_); refine goesL_ (some 14) rfl rfl Tryd.func108 (by kernel_rfl) rfl #[a0_0] rfl am_ ?_; (with_reducible refine (chapbookref03_Number.calls k a0_0 t209 t210 _ A2.out).mono ?_); rintro e w9 ⟨rfl, hb⟩; refine ⟨_, rfl, ?_⟩; replace BK208 := bb_ BK208 hb; replace HB := Am (below_step (bl_ HB) hb); (try clear hb); (try clear hb2); (try clear hk); (try clear hi); have hz10 := kb3_ BK208) | ((with_reducible refine gC 108 rfl ?_); refine goesL_ (some 20) rfl rfl Tryd.func108 (by kernel_rfl) rfl #[a0_1] rfl am_ ?_; (with_reducible refine (chapbookref03_Number.calls k a0_1 t211 t212 _ A3.out).mono ?_); rintro e w11 ⟨rfl, hb⟩; refine ⟨_, rfl, ?_⟩; replace BK208 := bb_ BK208 hb; replace HB := Am (below_step (bl_ HB) hb); (try clear hb); (try clear hb2); (try clear hk); (try clear hi); have hcz12_0 : w11.cell? ⟨gb208, 0, none⟩ = some (.int .i64 a0_0) := (blk_cell BK208.out 0).trans rfl; have hcz12_1 : w11.cell? ⟨gb208, 1, none⟩ = some (.int .i64 a0_1) := (blk_cell BK208.out 1).trans rfl; have hcz12_2 : w11.cell? ⟨gb208, 2, none⟩ = some (.slice A0_2 l0_2.length c0_2) := (blk_cell BK208.out 2).trans rfl; have hfz12_0 := blk_frozen BK208.out 0; have hfz12_1 := blk_frozen BK208.out 1; have hfz12_2 := blk_frozen BK208.out 2) | ((with_reducible refine gC 108 rfl ?_); refine goesL_ (some 27) rfl rfl Tryd.func108 (by kernel_rfl) rfl #[(l0_2.length : Int)] rfl am_ ?_; (with_reducible refine (chapbookref03_Number.calls k (l0_2.length : Int) t213 t214 _ A4.out).mono ?_); rintro e w13 ⟨rfl, hb⟩; refine ⟨_, rfl, ?_⟩; replace BK208 := bb_ BK208 hb; replace HB := Am (below_step (bl_ HB) hb); (try clear hb); (try clear hb2); (try clear hk); (try clear hi)))
   go_loopg [9, 10] k (fun kq v9 v10 w' => ∃ (x9_1 : ByteArray) (x10_1 : Int), v9 = .string x9_1 ∧ v10 = .int .i64 x10_1 ∧ Aside0 (chapbookref07_Bytes.l0 kq x9_1 x10_1 a0_0 a0_1 l0_2 = some r) ∧ Aside0 (kq ≤ k) ∧ Aside0 (w'.heap[gb208]? = some (.cells #[a0_0, a0_1, (.slice A0_2 l0_2.length c0_2)] 35 (0, 0))) ∧ Aside0 (Below w.heap.size w w'))
   case atStart => exact ⟨((t209 ++ t211) ++ t213), (0), er_, er_, H', ⟨Nat.le_refl _⟩, ⟨bk_ BK208⟩, ⟨bl_ HB⟩⟩
   case round =>
    clear H'
    try clear c1
    try clear p2
    try clear c5
    try clear c5b0
    try clear c5b1
    try clear c5b2
    try clear c6
    try clear c6b0
    try clear c6b1
    try clear c6b2
    try clear c10
    try clear hz10
    try clear hcz12_0
    try clear hcz12_1
    try clear hcz12_2
    try clear hz8
    try clear hz10
    try clear hfz12_0
    try clear hfz12_1
    try clear hfz12_2
    try clear hz8
    obtain ⟨x9_1, x10_1, rfl, rfl, HA, HK1, BK208, HB⟩ := hrel
    cases gk with
    | zero => exact absurd HA.out (by simp [chapbookref07_Bytes.l0])
    | succ k1 =>
     have H := HA.out
     clear HA
     simp only [chapbookref07_Bytes.l0] at H
     by_cases c14 : x10_1 < (l0_2.length : Int)
     ·rw [if_pos c14] at H
      have c14b0 := decide_eq_true c14
      clear c14
      by_cases c15 : 0 ≤ x10_1
      ·rw [if_pos c15] at H
       have c15b0 := decide_eq_true c15
       clear c15
       replace H := Option.bind_eq_some_iff.mp H
       obtain ⟨t216, A160, H⟩ := H
       replace H : (if x9_1.size + t216.size ≤ 9223372036854775807 then (chapbookref07_Bytes.l0 k1 (x9_1 ++ t216) (wrap64 (x10_1 + 1)) a0_0 a0_1 l0_2) else (none)) = some r := H
       have A16 := Am A160
       clear A160
       by_cases c17 : x9_1.size + t216.size ≤ 9223372036854775807
       ·rw [if_pos c17] at H
        have c17b0 := eq_true c17
        have c17b1 := decide_eq_true c17
        try have c17b2 : (9223372036854775807 < x9_1.size + t216.size) = False := eq_false (Nat.not_lt.2 c17)
        have H' := Am H
        clear H
        have hz18 := kb3_ BK208
        have p215 : 0 ≤ (x10_1 : Int) := od_
        have q215 : x10_1 < (l0_2.length : Int) := od_
        obtain ⟨ad215, e215, hx215_0, hx215_1, hx215_2, hx215_3⟩ := at_T32 (Kd.C_below HR0_2.out HB.out) x10_1 p215 q215
        cases e215
        replace p215 := eq_true p215
        replace q215 := eq_true q215
        go_wp2_with (first | ((with_reducible refine gC 109 rfl ?_); refine goesL_ (some 48) rfl rfl Tryd.func109 (by kernel_rfl) rfl #[.agg #[.string ((rd_T32 l0_2 x10_1).f0), .int .i64 ((rd_T32 l0_2 x10_1).f1), .int .i64 ((rd_T32 l0_2 x10_1).f2), .string ((rd_T32 l0_2 x10_1).f3)]] rfl am_ ?_; (with_reducible refine (chapbookref06_Bytes.calls k1 ((rd_T32 l0_2 x10_1).f0) ((rd_T32 l0_2 x10_1).f1) ((rd_T32 l0_2 x10_1).f2) ((rd_T32 l0_2 x10_1).f3) t216 _ A16.out).mono ?_); rintro e w19 ⟨rfl, hb⟩; refine ⟨_, rfl, ?_⟩; replace BK208 := bb_ BK208 hb; replace HB := Am (below_step (bl_ HB) hb); (try clear hb); (try clear hb2); (try clear hk); (try clear hi)))
        go_roundg k1
        case measure => have := HK1.out; omega
        case rel => exact ⟨(x9_1 ++ t216), (wrap64 (x10_1 + 1)), er_, er_, H', ⟨by have := HK1.out; omega⟩, ⟨bk_ BK208⟩, ⟨bl_ HB⟩⟩
       ·rw [if_neg c17] at H
        exact absurd H (by simp)
      ·rw [if_neg c15] at H
       exact absurd H (by simp)
     ·rw [if_neg c14] at H
      have c14b0 : decide (x10_1 < (l0_2.length : Int)) = false := decide_eq_false c14
      clear c14
      obtain rfl := Option.some.inj H
      have hz20 := kb3_ BK208
      go_wp2
      go_ret
      exact ⟨ew_, bl_ HB⟩
  ·rw [if_neg c6] at H
   exact absurd H (by simp)
 ·rw [if_neg c5] at H
  exact absurd H (by simp)
def chapbookref07_Fits.f (k : Nat) (l0 : List (S32)) (a1 : Int) : Option (Bool) := if a1 ≥ 64 then (if a1 ≤ 1400 then ((chapbookref07_May.f k 64 1099511627776 l0).bind fun t218 => (if t218 = 0 then ((chapbookref07_Bytes.f k 64 1099511627776 l0).bind fun t219 => (some (decide ((t219.size : Int) ≤ (wrap64 (a1 - 40)))))) else (some false))) else (some false)) else (some false)
theorem chapbookref07_Fits.calls (k : Nat) (A0 : Option Addr) (c0 : Nat) (l0 : List (S32)) (a1 : Int) (r : Bool) (w : World) (hr0 : Kd.C k32 w A0 l0.length l0) (hc0 : l0.length ≤ c0) (h : chapbookref07_Fits.f k l0 a1 = some r) :
  Calls Tryd.prog 87 #[.slice A0 l0.length c0, a1] w fun e w' => e = .returned (.bool r) ∧ Below w.heap.size w w' := by
 have hu35 := Tryd.underlying35
 have HR0 := Am hr0
 have HC0 := Am hc0
 clear hr0 hc0
 have HB := Am (Below.refl w.heap.size w)
 have H : (if a1 ≥ 64 then (if a1 ≤ 1400 then ((chapbookref07_May.f k 64 1099511627776 l0).bind fun t218 => (if t218 = 0 then ((chapbookref07_Bytes.f k 64 1099511627776 l0).bind fun t219 => (some (decide ((t219.size : Int) ≤ (wrap64 (a1 - 40)))))) else (some false))) else (some false)) else (some false)) = some r := h
 clear h
 by_cases c3 : a1 ≥ 64
 ·rw [if_pos c3] at H
  have c3b0 : decide (64 ≤ a1) = true := decide_eq_true c3
  clear c3
  by_cases c4 : a1 ≤ 1400
  ·rw [if_pos c4] at H
   have c4b0 := decide_eq_true c4
   clear c4
   replace H := Option.bind_eq_some_iff.mp H
   obtain ⟨t218, A50, H⟩ := H
   replace H : (if t218 = 0 then ((chapbookref07_Bytes.f k 64 1099511627776 l0).bind fun t219 => (some (decide ((t219.size : Int) ≤ (wrap64 (a1 - 40)))))) else (some false)) = some r := H
   have A5 := Am A50
   clear A50
   by_cases c6 : t218 = 0
   ·rw [if_pos c6] at H
    have c6b0 : (t218 == 0) = true := beq_iff_eq.mpr c6
    have c6b1 : (t218 != 0) = false := bne_eq_false_iff_eq.mpr c6
    clear c6
    replace H := Option.bind_eq_some_iff.mp H
    obtain ⟨t219, A70, H⟩ := H
    replace H : (some (decide ((t219.size : Int) ≤ (wrap64 (a1 - 40))))) = some r := H
    have A7 := Am A70
    clear A70
    obtain rfl := Option.some.inj H
    go_enter Tryd.func87, Tryd.ntmps87
    go_wp2_with (first | ((with_reducible refine gD 5 rfl ?_); (try (refine gate_guard (by rfl) ?_; dsimp only)); refine box_event rfl (N := 5) rfl (cs := #[.int .i64 0, .int .i64 0, .slice none 0 0]) (t := 35) gs_ ?_; intro gb217 hg w8 hbox hb; have BK217 := Am (hbox); have GW217 := Am (gw_ hg HB); have GE217 := Am (gw_ hg HB); replace HB := Am (below_step (bl_ HB) hb); clear hb hbox hg; have hcz9_0 : w8.cell? ⟨gb217, 0, none⟩ = some (.int .i64 0) := (blk_cell BK217.out 0).trans rfl; have hcz9_1 : w8.cell? ⟨gb217, 1, none⟩ = some (.int .i64 0) := (blk_cell BK217.out 1).trans rfl; have hcz9_2 : w8.cell? ⟨gb217, 2, none⟩ = some (.slice none 0 0) := (blk_cell BK217.out 2).trans rfl; have hfz9_0 := blk_frozen BK217.out 0; have hfz9_1 := blk_frozen BK217.out 1; have hfz9_2 := blk_frozen BK217.out 2) | (go_at_call 100; (with_reducible refine (chapbookref07_May.calls k 64 1099511627776 _ _ l0 t218 _ ?side1 ?side2 A5.out).mono ?_); (case side1 => exact Kd.C_below HR0.out (bl_ HB)); (case side2 => exact HC0.out); rintro e w10 ⟨rfl, hb⟩; replace BK217 := Am (blk_below (g := gb217) (o := .cells #[.int .i64 64, .int .i64 1099511627776, .slice A0 l0.length c0] 35 (0, 0)) (by (with_reducible repeat (first | refine blk_drewN ?_ _ | refine blk_drew ?_ | refine blk_alloc ?_ _)); refine blk_put (cs := #[.int .i64 64, .int .i64 1099511627776, .slice none 0 0]) ?_ 2 _ rfl; (with_reducible repeat (first | refine blk_drewN ?_ _ | refine blk_drew ?_ | refine blk_alloc ?_ _)); refine blk_put (cs := #[.int .i64 64, .int .i64 0, .slice none 0 0]) ?_ 1 _ rfl; (with_reducible repeat (first | refine blk_drewN ?_ _ | refine blk_drew ?_ | refine blk_alloc ?_ _)); refine blk_put (cs := #[.int .i64 0, .int .i64 0, .slice none 0 0]) ?_ 0 _ rfl; (with_reducible repeat (first | refine blk_drewN ?_ _ | refine blk_drew ?_ | refine blk_alloc ?_ _)); exact BK217.out) hb); replace HB := Am (below_step (bl_ HB) hb); (try clear hb); (try clear hb2); (try clear hk); (try clear hi); have hz11 := kb3_ BK217) | (go_at_call 101; (with_reducible refine (chapbookref07_Bytes.calls k 64 1099511627776 _ _ l0 t219 _ ?side1 ?side2 A7.out).mono ?_); (case side1 => repeat (first | exact (Kd.C_below HR0.out HB.out) | (with_reducible refine Kd.C_alloc ?_ _) | (with_reducible refine Kd.C_drewN ?_ _) | (with_reducible refine Kd.C_drew ?_))); (case side2 => exact HC0.out); rintro e w12 ⟨rfl, hb⟩; replace BK217 := bb_ BK217 hb; replace HB := Am (below_step (bl_ HB) hb); (try clear hb); (try clear hb2); (try clear hk); (try clear hi)))
    go_ret
    exact ⟨ew_, bl_ HB⟩
   ·rw [if_neg c6] at H
    have c6b0 : (t218 == 0) = false := beq_eq_false_iff_ne.mpr c6
    have c6b1 : (t218 != 0) = true := bne_iff_ne.mpr c6
    obtain rfl := Option.some.inj H
    go_enter Tryd.func87, Tryd.ntmps87
    go_wp2_with (first | ((with_reducible refine gD 5 rfl ?_); (try (refine gate_guard (by rfl) ?_; dsimp only)); refine box_event rfl (N := 5) rfl (cs := #[.int .i64 0, .int .i64 0, .slice none 0 0]) (t := 35) gs_ ?_; intro gb217 hg w13 hbox hb; have BK217 := Am (hbox); have GW217 := Am (gw_ hg HB); have GE217 := Am (gw_ hg HB); replace HB := Am (below_step (bl_ HB) hb); clear hb hbox hg; have hz14 := kb3_ BK217) | (go_at_call 100; (with_reducible refine (chapbookref07_May.calls k 64 1099511627776 _ _ l0 t218 _ ?side1 ?side2 A5.out).mono ?_); (case side1 => exact Kd.C_below HR0.out (bl_ HB)); (case side2 => exact HC0.out); rintro e w15 ⟨rfl, hb⟩; replace BK217 := Am (blk_below (g := gb217) (o := .cells #[.int .i64 64, .int .i64 1099511627776, .slice A0 l0.length c0] 35 (0, 0)) (by (with_reducible repeat (first | refine blk_drewN ?_ _ | refine blk_drew ?_ | refine blk_alloc ?_ _)); refine blk_put (cs := #[.int .i64 64, .int .i64 1099511627776, .slice none 0 0]) ?_ 2 _ rfl; (with_reducible repeat (first | refine blk_drewN ?_ _ | refine blk_drew ?_ | refine blk_alloc ?_ _)); refine blk_put (cs := #[.int .i64 64, .int .i64 0, .slice none 0 0]) ?_ 1 _ rfl; (with_reducible repeat (first | refine blk_drewN ?_ _ | refine blk_drew ?_ | refine blk_alloc ?_ _)); refine blk_put (cs := #[.int .i64 0, .int .i64 0, .slice none 0 0]) ?_ 0 _ rfl; (with_reducible repeat (first | refine blk_drewN ?_ _ | refine blk_drew ?_ | refine blk_alloc ?_ _)); exact BK217.out) hb); replace HB := Am (below_step (bl_ HB) hb); (try clear hb); (try clear hb2); (try clear hk); (try clear hi)))
    go_ret
    exact ⟨ew_, bl_ HB⟩
  ·rw [if_neg c4] at H
   have c4b0 : decide (a1 ≤ 1400) = false := decide_eq_false c4
   clear c4
   obtain rfl := Option.some.inj H
   go_enter Tryd.func87, Tryd.ntmps87
   go_wp2_with (first | ((with_reducible refine gD 5 rfl ?_); (try (refine gate_guard (by rfl) ?_; dsimp only)); refine box_event rfl (N := 5) rfl (cs := #[.int .i64 0, .int .i64 0, .slice none 0 0]) (t := 35) gs_ ?_; intro gb217 hg w16 hbox hb; have BK217 := Am (hbox); have GW217 := Am (gw_ hg HB); have GE217 := Am (gw_ hg HB); replace HB := Am (below_step (bl_ HB) hb); clear hb hbox hg; have hz17 := kb3_ BK217))
   go_ret
   exact ⟨ew_, bl_ HB⟩
 ·rw [if_neg c3] at H
  have c3b0 : decide (64 ≤ a1) = false := decide_eq_false c3
  clear c3
  obtain rfl := Option.some.inj H
  go_enter Tryd.func87, Tryd.ntmps87
  go_wp2_with (first | ((with_reducible refine gD 5 rfl ?_); (try (refine gate_guard (by rfl) ?_; dsimp only)); refine box_event rfl (N := 5) rfl (cs := #[.int .i64 0, .int .i64 0, .slice none 0 0]) (t := 35) gs_ ?_; intro gb217 hg w18 hbox hb; have BK217 := Am (hbox); have GW217 := Am (gw_ hg HB); have GE217 := Am (gw_ hg HB); replace HB := Am (below_step (bl_ HB) hb); clear hb hbox hg; have hz19 := kb3_ BK217))
  go_ret
  exact ⟨ew_, bl_ HB⟩
end Go.Proofs.YtjdenpmaianmfaaDoor.Q
