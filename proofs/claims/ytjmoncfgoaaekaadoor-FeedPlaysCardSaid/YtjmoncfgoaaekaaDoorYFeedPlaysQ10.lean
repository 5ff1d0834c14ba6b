/- Contracts of the seat's functions, printed: if the Lean function comes to a value, the Go function returns it. -/
import Derived.Test.YtjmoncfgoaaekaaDoorYFeedPlaysSpell
import Derived.Test.YtjmoncfgoaaekaaDoorYFeedPlaysQ9
namespace Go.Proofs.YtjmoncfgoaaekaaDoor.Q
open Go.RowKit Go.Proofs.YtjmoncfgoaaekaaDoorW.PrintWords Go.Proofs.YtjmoncfgoaaekaaDoorW.PrintLast Go.Proofs.YtjmoncfgoaaekaaDoorW.PrintMore
attribute [local go_sem] max2_int min2_int max_two min_two max_three min_three max_four min_four   -- for this text's walks alone
set_option linter.unusedVariables false
set_option linter.unusedSimpArgs false
def chapbookref03_Number.f (k : Nat) (a0 : Int) : Option (ByteArray × Bool) := if a0 < 0 then (some ((⟨#[]⟩ : ByteArray), false)) else ((chapbookref01_Put.f k (IntKind.u64.wrap (a0))).bind fun bt187 => (some (bt187.1, (bt187.2 == 0))))
theorem chapbookref03_Number.mono : ∀ a0 k, LeO (chapbookref03_Number.f k a0) (chapbookref03_Number.f (k + 1) a0) := by
 intro a0 k
 unfold chapbookref03_Number.f
 repeat' first
   | (with_reducible exact chapbookref01_Put.mono _ _)
   | (with_reducible exact LeO.refl _)
   | (with_reducible exact LeO.none _)
   | (with_reducible refine LeO.ite ?_ ?_)
   | (with_reducible refine LeO.bind ?_ (fun _ => ?_))
   | exact chapbookref01_Put.mono _ _
   | exact LeO.none _
   | refine LeO.ite ?_ ?_
   | refine LeO.bind ?_ (fun _ => ?_)
set_option maxHeartbeats 8000000 in
set_option maxRecDepth 100000 in
theorem chapbookref03_Number.calls (k : Nat) (a0 : Int) (r1 : ByteArray) (r2 : Bool) (w : World) (h : chapbookref03_Number.f k a0 = some (r1, r2)) :
  Calls Tryd.prog 60 #[.int .i64 a0] w fun e w' => e = .returned (.tuple #[.string r1, .bool r2]) ∧ Below w.heap.size w w' := by
 have HB := Aside0.mk (Below.refl w.heap.size w)
 have H : (if a0 < 0 then (some ((⟨#[]⟩ : ByteArray), false)) else ((chapbookref01_Put.f k (IntKind.u64.wrap (a0))).bind fun bt187 => (some (bt187.1, (bt187.2 == 0))))) = some (r1, r2) := h
 clear h
 by_cases c2 : a0 < 0
 ·rw [if_pos c2] at H
  have c2b0 : decide (a0 < 0) = true := decide_eq_true c2
  clear c2
  simp only [Option.some.injEq, Prod.mk.injEq] at H
  obtain ⟨rfl, rfl⟩ := H
  go_enter Tryd.func60, Tryd.ntmps60
  go_wp2
  go_ret2
  exact ⟨by first | rfl | (simp [errW_none, errW_some] <;> rfl) | (simp [*, errW_none, errW_some] <;> rfl), by repeat (first | (with_reducible first | exact HB.out | apply below_alloc | apply pw_below_drewN | apply below_drew1) | exact HB.out)⟩
 ·rw [if_neg c2] at H
  have c2b0 : decide (a0 < 0) = false := decide_eq_false c2
  clear c2
  replace H := Option.bind_eq_some_iff.mp H
  obtain ⟨⟨t187, t188⟩, A30, H⟩ := H
  replace H : (some (t187, (t188 == 0))) = some (r1, r2) := H
  have A3 := Aside0.mk A30
  clear A30
  simp only [Option.some.injEq, Prod.mk.injEq] at H
  obtain ⟨rfl, rfl⟩ := H
  go_enter Tryd.func60, Tryd.ntmps60
  go_wp2_with (first | ((with_reducible refine gate_callee (f := 78) rfl ?_); refine goesL_ (some 11) rfl rfl Tryd.func78 (by kernel_rfl) rfl #[.int .u64 (IntKind.u64.wrap (a0))] rfl (by (try simp only [List.map_toArray, List.map_cons, List.map_nil]); first | done | rfl | (simp only [List.length_drop, List.length_take]; rfl)) ?_; (with_reducible refine (chapbookref01_Put.calls k (IntKind.u64.wrap (a0)) t187 t188 _ A3.out).mono ?_); rintro e w4 ⟨rfl, hb⟩; refine ⟨_, rfl, ?_⟩; have n0_ := Aside0.mk (below_step (by repeat (first | (with_reducible first | exact HB.out | apply below_alloc | apply pw_below_drewN | apply below_drew1) | exact HB.out)) hb); clear HB; have HB := n0_; clear n0_; (try clear hb); (try clear hb2); (try clear hk); (try clear hi)))
  go_ret2
  exact ⟨by first | rfl | (simp [errW_none, errW_some] <;> rfl) | (simp [*, errW_none, errW_some] <;> rfl), by repeat (first | (with_reducible first | exact HB.out | apply below_alloc | apply pw_below_drewN | apply below_drew1) | exact HB.out)⟩
def chapbookref03_Text.f (k : Nat) (a0 : ByteArray) : Option (ByteArray) := (chapbookref03_Number.f k (a0.size : Int)).bind fun bt189 => (if bt189.1.size + a0.size ≤ 9223372036854775807 then (some (bt189.1 ++ a0)) else (none))
theorem chapbookref03_Text.mono : ∀ a0 k, LeO (chapbookref03_Text.f k a0) (chapbookref03_Text.f (k + 1) a0) := by
 intro a0 k
 unfold chapbookref03_Text.f
 repeat' first
   | (with_reducible exact chapbookref03_Number.mono _ _)
   | (with_reducible exact LeO.refl _)
   | (with_reducible exact LeO.none _)
   | (with_reducible refine LeO.ite ?_ ?_)
   | (with_reducible refine LeO.bind ?_ (fun _ => ?_))
   | exact chapbookref03_Number.mono _ _
   | exact LeO.none _
   | refine LeO.ite ?_ ?_
   | refine LeO.bind ?_ (fun _ => ?_)
set_option maxHeartbeats 8000000 in
set_option maxRecDepth 100000 in
theorem chapbookref03_Text.calls (k : Nat) (a0 : ByteArray) (r : ByteArray) (w : World) (h : chapbookref03_Text.f k a0 = some r) :
  Calls Tryd.prog 79 #[.string a0] w fun e w' => e = .returned (.string r) ∧ Below w.heap.size w w' := by
 have HB := Aside0.mk (Below.refl w.heap.size w)
 have H : ((chapbookref03_Number.f k (a0.size : Int)).bind fun bt189 => (if bt189.1.size + a0.size ≤ 9223372036854775807 then (some (bt189.1 ++ a0)) else (none))) = some r := h
 clear h
 replace H := Option.bind_eq_some_iff.mp H
 obtain ⟨⟨t189, t190⟩, A20, H⟩ := H
 replace H : (if t189.size + a0.size ≤ 9223372036854775807 then (some (t189 ++ a0)) else (none)) = some r := H
 have A2 := Aside0.mk A20
 clear A20
 by_cases c3 : t189.size + a0.size ≤ 9223372036854775807
 ·rw [if_pos c3] at H
  have c3b0 := eq_true c3
  have c3b1 : decide (t189.size + a0.size ≤ 9223372036854775807) = true := decide_eq_true c3
  try have c3b2 : (9223372036854775807 < t189.size + a0.size) = False := eq_false (Nat.not_lt.2 c3)
  obtain rfl := Option.some.inj H
  go_enter Tryd.func79, Tryd.ntmps79
  go_wp2_with (first | ((with_reducible refine gate_callee (f := 60) rfl ?_); refine goesL_ (some 8) rfl rfl Tryd.func60 (by kernel_rfl) rfl #[.int .i64 (a0.size : Int)] rfl (by (try simp only [List.map_toArray, List.map_cons, List.map_nil]); first | done | rfl | (simp only [List.length_drop, List.length_take]; rfl)) ?_; (with_reducible refine (chapbookref03_Number.calls k (a0.size : Int) t189 t190 _ A2.out).mono ?_); rintro e w4 ⟨rfl, hb⟩; refine ⟨_, rfl, ?_⟩; have n0_ := Aside0.mk (below_step (by repeat (first | (with_reducible first | exact HB.out | apply below_alloc | apply pw_below_drewN | apply below_drew1) | exact HB.out)) hb); clear HB; have HB := n0_; clear n0_; (try clear hb); (try clear hb2); (try clear hk); (try clear hi)))
  go_ret
  exact ⟨by first | rfl | (simp [errW_none, errW_some] <;> rfl) | (simp [*, errW_none, errW_some] <;> rfl), by repeat (first | (with_reducible first | exact HB.out | apply below_alloc | apply pw_below_drewN | apply below_drew1) | exact HB.out)⟩
 ·rw [if_neg c3] at H
  exact absurd H (by simp)
def chapbookref01_Zig.j0 : Nat → Int → Bool → Option (Int × Bool)
 | 0, _, _ => none
 | k + 1, x0, x9 => if x9 = true then (some (0, false)) else (if x0 < 0 then (some (IntKind.u64.wrap ((IntKind.u64.wrap (2 * (IntKind.u64.wrap (wrap64 (-(wrap64 (x0 + 1))))))) + 1), true)) else (some (IntKind.u64.wrap (2 * (IntKind.u64.wrap (x0))), true)))
def chapbookref01_Zig.f (k : Nat) (a0 : Int) : Option (Int × Bool) := if a0 < (-2305843009213693952) then (chapbookref01_Zig.j0 k a0 true) else (chapbookref01_Zig.j0 k a0 (decide (a0 > 2305843009213693951)))
theorem chapbookref01_Zig.mono_l : ∀ k, (∀ y0 y1, LeO (chapbookref01_Zig.j0 k y0 y1) (chapbookref01_Zig.j0 (k + 1) y0 y1))
 | 0 => fun _ _ r h => by simp [chapbookref01_Zig.j0] at h
 | k + 1 => by
  have ih0 := chapbookref01_Zig.mono_l k
  ·intro y0 y1
   unfold chapbookref01_Zig.j0
   repeat' first
   | (with_reducible exact ih0 _ _)
   | (with_reducible exact LeO.refl _)
   | (with_reducible exact LeO.none _)
   | (with_reducible refine LeO.ite ?_ ?_)
   | (with_reducible refine LeO.bind ?_ (fun _ => ?_))
   | exact ih0 _ _
   | exact LeO.none _
   | refine LeO.ite ?_ ?_
   | refine LeO.bind ?_ (fun _ => ?_)
theorem chapbookref01_Zig.mono : ∀ a0 k, LeO (chapbookref01_Zig.f k a0) (chapbookref01_Zig.f (k + 1) a0) := by
 intro a0 k
 have ih0 := chapbookref01_Zig.mono_l k
 unfold chapbookref01_Zig.f
 repeat' first
   | (with_reducible exact ih0 _ _)
   | (with_reducible exact LeO.refl _)
   | (with_reducible exact LeO.none _)
   | (with_reducible refine LeO.ite ?_ ?_)
   | (with_reducible refine LeO.bind ?_ (fun _ => ?_))
   | exact ih0 _ _
   | exact LeO.none _
   | refine LeO.ite ?_ ?_
   | refine LeO.bind ?_ (fun _ => ?_)
set_option maxHeartbeats 8000000 in
set_option maxRecDepth 100000 in
theorem chapbookref01_Zig.calls (k : Nat) (a0 : Int) (r1 : Int) (r2 : Bool) (w : World) (h : chapbookref01_Zig.f k a0 = some (r1, r2)) :
  Calls Tryd.prog 89 #[.int .i64 a0] w fun e w' => e = .returned (.tuple #[.int .u64 r1, .bool r2]) ∧ Drawn0 w w' := by
 have H : (if a0 < (-2305843009213693952) then (chapbookref01_Zig.j0 k a0 true) else (chapbookref01_Zig.j0 k a0 (decide (a0 > 2305843009213693951)))) = some (r1, r2) := h
 clear h
 have HC2 := Aside0.mk H
 clear H
 go_enter Tryd.func89, Tryd.ntmps89
 go_upto_region 1 with (fail)
 go_cut [9] (fun v9 wc => ∃ (kq : Nat) (x9_1 : Bool), v9 = .bool x9_1 ∧ Aside0 (chapbookref01_Zig.j0 kq a0 x9_1 = some (r1, r2)) ∧ Aside0 (kq ≤ k) ∧ Drawn0 w wc)
 case first =>
  have H := HC2.out
  clear HC2
  by_cases c3 : a0 < (-2305843009213693952)
  ·rw [if_pos c3] at H
   have c3b0 : decide (a0 < (-2305843009213693952)) = true := decide_eq_true c3
   clear c3
   (first | rw [c3b0] | (simp only [i64_w, i32_w]; rw [c3b0]) | skip)
   have H' := Aside0.mk H
   clear H
   go_wp2
   go_meet
   case rel => exact ⟨_, (true), (by first | rfl | (simp; done) | (simp [*]; done) | (simp; exact isEmpty_bne _)), H', ⟨by first | omega | exact Nat.le_refl _⟩, by repeat (first | exact Drawn0.refl _ | apply Drawn0.step)⟩
  ·rw [if_neg c3] at H
   have c3b0 : decide (a0 < (-2305843009213693952)) = false := decide_eq_false c3
   clear c3
   (first | rw [c3b0] | (simp only [i64_w, i32_w]; rw [c3b0]) | skip)
   have H' := Aside0.mk H
   clear H
   go_wp2
   go_meet
   case rel => exact ⟨_, (decide (a0 > 2305843009213693951)), (by first | rfl | (simp; done) | (simp [*]; done) | (simp; exact isEmpty_bne _)), H', ⟨by first | omega | exact Nat.le_refl _⟩, by repeat (first | exact Drawn0.refl _ | apply Drawn0.step)⟩
 case rest =>
  clear HC2
  try clear p2
  try clear c3
  try clear c3b0
  obtain ⟨kq, x9_1, rfl, HA, HJ1, ⟨mc1, rfl⟩⟩ := hcut
  cases kq with
  | zero => exact absurd HA.out (by simp [chapbookref01_Zig.j0])
  | succ kj1 =>
   have H := HA.out
   clear HA
   simp only [chapbookref01_Zig.j0] at H
   by_cases c4 : x9_1 = true
   ·subst c4
    have H1 : (some (0, false)) = some (r1, r2) := by rw [if_pos rfl] at H; exact H
    clear H
    have H := H1
    clear H1
    simp only [Option.some.injEq, Prod.mk.injEq] at H
    obtain ⟨rfl, rfl⟩ := H
    go_wp2
    go_ret2
    exact ⟨by first | rfl | (simp; done) | (simp [*]; done), by repeat (first | exact Drawn0.refl _ | apply Drawn0.step)⟩
   ·replace c4 := Bool.eq_false_iff.mpr c4
    subst c4
    have H1 : (if a0 < 0 then (some (IntKind.u64.wrap ((IntKind.u64.wrap (2 * (IntKind.u64.wrap (wrap64 (-(wrap64 (a0 + 1))))))) + 1), true)) else (some (IntKind.u64.wrap (2 * (IntKind.u64.wrap (a0))), true))) = some (r1, r2) := by rw [if_neg (show ¬ (false = true) by decide)] at H; exact H
    clear H
    have H := H1
    clear H1
    by_cases c5 : a0 < 0
    ·rw [if_pos c5] at H
     have c5b0 : decide (a0 < 0) = true := decide_eq_true c5
     clear c5
     simp only [Option.some.injEq, Prod.mk.injEq] at H
     obtain ⟨rfl, rfl⟩ := H
     go_wp2
     go_ret2
     exact ⟨by first | rfl | (simp; done) | (simp [*]; done), by repeat (first | exact Drawn0.refl _ | apply Drawn0.step)⟩
    ·rw [if_neg c5] at H
     have c5b0 : decide (a0 < 0) = false := decide_eq_false c5
     clear c5
     simp only [Option.some.injEq, Prod.mk.injEq] at H
     obtain ⟨rfl, rfl⟩ := H
     go_wp2
     go_ret2
     exact ⟨by first | rfl | (simp; done) | (simp [*]; done), by repeat (first | exact Drawn0.refl _ | apply Drawn0.step)⟩
def chapbookref03_Signed.f (k : Nat) (a0 : Int) : Option (ByteArray × Bool) := (chapbookref01_Zig.f k a0).bind fun bt191 => (if bt191.2 = true then ((chapbookref01_Put.f k bt191.1).bind fun bt193 => (some (bt193.1, true))) else (some ((⟨#[]⟩ : ByteArray), false)))
theorem chapbookref03_Signed.mono : ∀ a0 k, LeO (chapbookref03_Signed.f k a0) (chapbookref03_Signed.f (k + 1) a0) := by
 intro a0 k
 unfold chapbookref03_Signed.f
 repeat' first
   | (with_reducible exact chapbookref01_Put.mono _ _)
   | (with_reducible exact chapbookref01_Zig.mono _ _)
   | (with_reducible exact LeO.refl _)
   | (with_reducible exact LeO.none _)
   | (with_reducible refine LeO.ite ?_ ?_)
   | (with_reducible refine LeO.bind ?_ (fun _ => ?_))
   | exact chapbookref01_Put.mono _ _
   | exact chapbookref01_Zig.mono _ _
   | exact LeO.none _
   | refine LeO.ite ?_ ?_
   | refine LeO.bind ?_ (fun _ => ?_)
set_option maxHeartbeats 8000000 in
set_option maxRecDepth 100000 in
theorem chapbookref03_Signed.calls (k : Nat) (a0 : Int) (r1 : ByteArray) (r2 : Bool) (w : World) (h : chapbookref03_Signed.f k a0 = some (r1, r2)) :
  Calls Tryd.prog 80 #[.int .i64 a0] w fun e w' => e = .returned (.tuple #[.string r1, .bool r2]) ∧ Below w.heap.size w w' := by
 have HB := Aside0.mk (Below.refl w.heap.size w)
 have H : ((chapbookref01_Zig.f k a0).bind fun bt191 => (if bt191.2 = true then ((chapbookref01_Put.f k bt191.1).bind fun bt193 => (some (bt193.1, true))) else (some ((⟨#[]⟩ : ByteArray), false)))) = some (r1, r2) := h
 clear h
 replace H := Option.bind_eq_some_iff.mp H
 obtain ⟨⟨t191, t192⟩, A20, H⟩ := H
 replace H : (if t192 = true then ((chapbookref01_Put.f k t191).bind fun bt193 => (some (bt193.1, true))) else (some ((⟨#[]⟩ : ByteArray), false))) = some (r1, r2) := H
 have A2 := Aside0.mk A20
 clear A20
 by_cases c3 : t192 = true
 ·subst c3
  have H1 : ((chapbookref01_Put.f k t191).bind fun bt193 => (some (bt193.1, true))) = some (r1, r2) := by rw [if_pos rfl] at H; exact H
  clear H
  have H := H1
  clear H1
  replace H := Option.bind_eq_some_iff.mp H
  obtain ⟨⟨t193, t194⟩, A40, H⟩ := H
  replace H : (some (t193, true)) = some (r1, r2) := H
  have A4 := Aside0.mk A40
  clear A40
  simp only [Option.some.injEq, Prod.mk.injEq] at H
  obtain ⟨rfl, rfl⟩ := H
  go_enter Tryd.func80, Tryd.ntmps80
  go_wp2_with (first | ((with_reducible refine gate_callee (f := 89) rfl ?_); refine goesL_ (some 10) rfl rfl Tryd.func89 (by kernel_rfl) rfl #[.int .i64 a0] rfl (by (try simp only [List.map_toArray, List.map_cons, List.map_nil]); first | done | rfl | (simp only [List.length_drop, List.length_take]; rfl)) ?_; (with_reducible refine (chapbookref01_Zig.calls k a0 t191 true _ A2.out).mono ?_); rintro e w' ⟨rfl, ⟨nd, rfl⟩⟩; refine ⟨_, rfl, ?_⟩) | ((with_reducible refine gate_callee (f := 78) rfl ?_); refine goesL_ (some 17) rfl rfl Tryd.func78 (by kernel_rfl) rfl #[.int .u64 t191] rfl (by (try simp only [List.map_toArray, List.map_cons, List.map_nil]); first | done | rfl | (simp only [List.length_drop, List.length_take]; rfl)) ?_; (with_reducible refine (chapbookref01_Put.calls k t191 t193 t194 _ A4.out).mono ?_); rintro e w5 ⟨rfl, hb⟩; refine ⟨_, rfl, ?_⟩; have n0_ := Aside0.mk (below_step (by repeat (first | (with_reducible first | exact HB.out | apply below_alloc | apply pw_below_drewN | apply below_drew1) | exact HB.out)) hb); clear HB; have HB := n0_; clear n0_; (try clear hb); (try clear hb2); (try clear hk); (try clear hi)))
  go_ret2
  exact ⟨by first | rfl | (simp [errW_none, errW_some] <;> rfl) | (simp [*, errW_none, errW_some] <;> rfl), by repeat (first | (with_reducible first | exact HB.out | apply below_alloc | apply pw_below_drewN | apply below_drew1) | exact HB.out)⟩
 ·replace c3 := Bool.eq_false_iff.mpr c3
  subst c3
  have H1 : (some ((⟨#[]⟩ : ByteArray), false)) = some (r1, r2) := by rw [if_neg (show ¬ (false = true) by decide)] at H; exact H
  clear H
  have H := H1
  clear H1
  simp only [Option.some.injEq, Prod.mk.injEq] at H
  obtain ⟨rfl, rfl⟩ := H
  go_enter Tryd.func80, Tryd.ntmps80
  go_wp2_with (first | ((with_reducible refine gate_callee (f := 89) rfl ?_); refine goesL_ (some 10) rfl rfl Tryd.func89 (by kernel_rfl) rfl #[.int .i64 a0] rfl (by (try simp only [List.map_toArray, List.map_cons, List.map_nil]); first | done | rfl | (simp only [List.length_drop, List.length_take]; rfl)) ?_; (with_reducible refine (chapbookref01_Zig.calls k a0 t191 false _ A2.out).mono ?_); rintro e w' ⟨rfl, ⟨nd, rfl⟩⟩; refine ⟨_, rfl, ?_⟩))
  go_ret2
  exact ⟨by first | rfl | (simp [errW_none, errW_some] <;> rfl) | (simp [*, errW_none, errW_some] <;> rfl), by repeat (first | (with_reducible first | exact HB.out | apply below_alloc | apply pw_below_drewN | apply below_drew1) | exact HB.out)⟩
def chapbookref06_Bytes.j0 : Nat → ByteArray → Bool → ByteArray → Int → Int → ByteArray → Option (ByteArray)
 | 0, _, _, _, _, _, _ => none
 | k + 1, x3, x25, x196000, x196001, x196002, x196003 => if x25 = true then ((chapbookref03_Signed.f k x196002).bind fun bt199 => (if x3.size + bt199.1.size ≤ 9223372036854775807 then (if x196001 = 2 then ((chapbookref03_Text.f k x196003).bind fun t201 => (if (x3 ++ bt199.1).size + t201.size ≤ 9223372036854775807 then (some ((x3 ++ bt199.1) ++ t201)) else (none))) else (if x196001 = 4 then ((chapbookref03_Text.f k x196003).bind fun t202 => (if (x3 ++ bt199.1).size + t202.size ≤ 9223372036854775807 then (some ((x3 ++ bt199.1) ++ t202)) else (none))) else (some (x3 ++ bt199.1)))) else (none))) else (if x196001 = 2 then ((chapbookref03_Text.f k x196003).bind fun t203 => (if x3.size + t203.size ≤ 9223372036854775807 then (some (x3 ++ t203)) else (none))) else (if x196001 = 4 then ((chapbookref03_Text.f k x196003).bind fun t204 => (if x3.size + t204.size ≤ 9223372036854775807 then (some (x3 ++ t204)) else (none))) else (some x3)))
def chapbookref06_Bytes.f (k : Nat) (a0_0 : ByteArray) (a0_1 : Int) (a0_2 : Int) (a0_3 : ByteArray) : Option (ByteArray) := (chapbookref03_Number.f k a0_1).bind fun bt196 => ((chapbookref03_Text.f k a0_0).bind fun t198 => (if bt196.1.size + t198.size ≤ 9223372036854775807 then (if a0_1 = 1 then (chapbookref06_Bytes.j0 k (bt196.1 ++ t198) true a0_0 a0_1 a0_2 a0_3) else (chapbookref06_Bytes.j0 k (bt196.1 ++ t198) (a0_1 == 3) a0_0 a0_1 a0_2 a0_3)) else (none)))
theorem chapbookref06_Bytes.mono_l : ∀ k, (∀ y0 y1 y2 y3 y4 y5, LeO (chapbookref06_Bytes.j0 k y0 y1 y2 y3 y4 y5) (chapbookref06_Bytes.j0 (k + 1) y0 y1 y2 y3 y4 y5))
 | 0 => fun _ _ _ _ _ _ r h => by simp [chapbookref06_Bytes.j0] at h
 | k + 1 => by
  have ih0 := chapbookref06_Bytes.mono_l k
  ·intro y0 y1 y2 y3 y4 y5
   unfold chapbookref06_Bytes.j0
   repeat' first
   | (with_reducible exact ih0 _ _ _ _ _ _)
   | (with_reducible exact chapbookref03_Number.mono _ _)
   | (with_reducible exact chapbookref03_Signed.mono _ _)
   | (with_reducible exact chapbookref03_Text.mono _ _)
   | (with_reducible exact LeO.refl _)
   | (with_reducible exact LeO.none _)
   | (with_reducible refine LeO.ite ?_ ?_)
   | (with_reducible refine LeO.bind ?_ (fun _ => ?_))
   | exact ih0 _ _ _ _ _ _
   | exact chapbookref03_Number.mono _ _
   | exact chapbookref03_Signed.mono _ _
   | exact chapbookref03_Text.mono _ _
   | exact LeO.none _
   | refine LeO.ite ?_ ?_
   | refine LeO.bind ?_ (fun _ => ?_)
theorem chapbookref06_Bytes.mono : ∀ a0 a1 a2 a3 k, LeO (chapbookref06_Bytes.f k a0 a1 a2 a3) (chapbookref06_Bytes.f (k + 1) a0 a1 a2 a3) := by
 intro a0 a1 a2 a3 k
 have ih0 := chapbookref06_Bytes.mono_l k
 unfold chapbookref06_Bytes.f
 repeat' first
   | (with_reducible exact ih0 _ _ _ _ _ _)
   | (with_reducible exact chapbookref03_Number.mono _ _)
   | (with_reducible exact chapbookref03_Signed.mono _ _)
   | (with_reducible exact chapbookref03_Text.mono _ _)
   | (with_reducible exact LeO.refl _)
   | (with_reducible exact LeO.none _)
   | (with_reducible refine LeO.ite ?_ ?_)
   | (with_reducible refine LeO.bind ?_ (fun _ => ?_))
   | exact ih0 _ _ _ _ _ _
   | exact chapbookref03_Number.mono _ _
   | exact chapbookref03_Signed.mono _ _
   | exact chapbookref03_Text.mono _ _
   | exact LeO.none _
   | refine LeO.ite ?_ ?_
   | refine LeO.bind ?_ (fun _ => ?_)
set_option maxHeartbeats 8000000 in
set_option maxRecDepth 100000 in
theorem chapbookref06_Bytes.calls (k : Nat) (a0_0 : ByteArray) (a0_1 : Int) (a0_2 : Int) (a0_3 : ByteArray) (r : ByteArray) (w : World) (h : chapbookref06_Bytes.f k a0_0 a0_1 a0_2 a0_3 = some r) :
  Calls Tryd.prog 61 #[.agg #[.string a0_0, .int .i64 a0_1, .int .i64 a0_2, .string a0_3]] w fun e w' => e = .returned (.string r) ∧ Below w.heap.size w w' := by
 have hu114 := Tryd.underlying114
 have HB := Aside0.mk (Below.refl w.heap.size w)
 have H : ((chapbookref03_Number.f k a0_1).bind fun bt196 => ((chapbookref03_Text.f k a0_0).bind fun t198 => (if bt196.1.size + t198.size ≤ 9223372036854775807 then (if a0_1 = 1 then (chapbookref06_Bytes.j0 k (bt196.1 ++ t198) true a0_0 a0_1 a0_2 a0_3) else (chapbookref06_Bytes.j0 k (bt196.1 ++ t198) (a0_1 == 3) a0_0 a0_1 a0_2 a0_3)) else (none)))) = some r := h
 clear h
 replace H := Option.bind_eq_some_iff.mp H
 obtain ⟨⟨t196, t197⟩, A20, H⟩ := H
 replace H : ((chapbookref03_Text.f k a0_0).bind fun t198 => (if t196.size + t198.size ≤ 9223372036854775807 then (if a0_1 = 1 then (chapbookref06_Bytes.j0 k (t196 ++ t198) true a0_0 a0_1 a0_2 a0_3) else (chapbookref06_Bytes.j0 k (t196 ++ t198) (a0_1 == 3) a0_0 a0_1 a0_2 a0_3)) else (none))) = some r := H
 have A2 := Aside0.mk A20
 clear A20
 replace H := Option.bind_eq_some_iff.mp H
 obtain ⟨t198, A30, H⟩ := H
 replace H : (if t196.size + t198.size ≤ 9223372036854775807 then (if a0_1 = 1 then (chapbookref06_Bytes.j0 k (t196 ++ t198) true a0_0 a0_1 a0_2 a0_3) else (chapbookref06_Bytes.j0 k (t196 ++ t198) (a0_1 == 3) a0_0 a0_1 a0_2 a0_3)) else (none)) = some r := H
 have A3 := Aside0.mk A30
 clear A30
 by_cases c4 : t196.size + t198.size ≤ 9223372036854775807
 ·rw [if_pos c4] at H
  have c4b0 := eq_true c4
  have c4b1 : decide (t196.size + t198.size ≤ 9223372036854775807) = true := decide_eq_true c4
  try have c4b2 : (9223372036854775807 < t196.size + t198.size) = False := eq_false (Nat.not_lt.2 c4)
  have HC5 := Aside0.mk H
  clear H
  go_enter Tryd.func61, Tryd.ntmps61
  go_upto_region 3 with (first | ((with_reducible refine gate_dst (N := 1) rfl ?_); refine box_event ?hg (N := 1) ?hd (cs := #[.string a0_0, .int .i64 a0_1, .int .i64 a0_2, .string a0_3]) (t := 114) ?hr ?_; (case hd => rfl); (case hg => rfl); (case hr => first | (go_simp; done) | (go_simp; rfl)); intro gb195 hg w6 hbox hb; have n0_ := Aside0.mk (below_step (by repeat (first | (with_reducible first | exact HB.out | apply below_alloc | apply pw_below_drewN | apply below_drew1) | exact HB.out)) hb); have n1_ := Aside0.mk (hbox); have n2_ := Aside0.mk ((by rw [hg]; exact (below_size (by repeat (first | (with_reducible first | exact HB.out | apply below_alloc | apply pw_below_drewN | apply below_drew1) | exact HB.out))) : w.heap.size ≤ gb195)); have n3_ := Aside0.mk ((by rw [hg]; exact (below_size (by repeat (first | (with_reducible first | exact HB.out | apply below_alloc | apply pw_below_drewN | apply below_drew1) | exact HB.out))) : w.heap.size ≤ gb195)); clear HB; have HB := n0_; have BK195 := n1_; have GW195 := n2_; have GE195 := n3_; clear n0_ n1_ n2_ n3_; clear hb hbox hg; have hcz7_0 : w6.cell? ⟨gb195, 0, none⟩ = some (.string a0_0) := (blk_cell BK195.out 0).trans rfl; have hcz7_1 : w6.cell? ⟨gb195, 1, none⟩ = some (.int .i64 a0_1) := (blk_cell BK195.out 1).trans rfl; have hcz7_2 : w6.cell? ⟨gb195, 2, none⟩ = some (.int .i64 a0_2) := (blk_cell BK195.out 2).trans rfl; have hcz7_3 : w6.cell? ⟨gb195, 3, none⟩ = some (.string a0_3) := (blk_cell BK195.out 3).trans rfl; have hfz7_0 := blk_frozen BK195.out 0; have hfz7_1 := blk_frozen BK195.out 1; have hfz7_2 := blk_frozen BK195.out 2; have hfz7_3 := blk_frozen BK195.out 3) | ((with_reducible refine gate_callee (f := 60) rfl ?_); refine goesL_ (some 10) rfl rfl Tryd.func60 (by kernel_rfl) rfl #[.int .i64 a0_1] rfl (by (try simp only [List.map_toArray, List.map_cons, List.map_nil]); first | done | rfl | (simp only [List.length_drop, List.length_take]; rfl)) ?_; (with_reducible refine (chapbookref03_Number.calls k a0_1 t196 t197 _ A2.out).mono ?_); rintro e w8 ⟨rfl, hb⟩; refine ⟨_, rfl, ?_⟩; have n0_ := Aside0.mk (blk_below (g := gb195) (o := .cells #[.string a0_0, .int .i64 a0_1, .int .i64 a0_2, .string a0_3] 114 (0, 0)) (by (with_reducible repeat (first | refine blk_drewN ?_ _ | refine blk_drew ?_ | refine blk_alloc ?_ _)); exact BK195.out) hb); have n1_ := Aside0.mk (below_step (by repeat (first | (with_reducible first | exact HB.out | apply below_alloc | apply pw_below_drewN | apply below_drew1 | refine below_set ?_ GE195.out) | exact HB.out)) hb); clear BK195; clear HB; have BK195 := n0_; have HB := n1_; clear n0_ n1_; (try clear hb); (try clear hb2); (try clear hk); (try clear hi); have hcz9_0 : w8.cell? ⟨gb195, 0, none⟩ = some (.string a0_0) := (blk_cell BK195.out 0).trans rfl; have hcz9_1 : w8.cell? ⟨gb195, 1, none⟩ = some (.int .i64 a0_1) := (blk_cell BK195.out 1).trans rfl; have hcz9_2 : w8.cell? ⟨gb195, 2, none⟩ = some (.int .i64 a0_2) := (blk_cell BK195.out 2).trans rfl; have hcz9_3 : w8.cell? ⟨gb195, 3, none⟩ = some (.string a0_3) := (blk_cell BK195.out 3).trans rfl; have hfz9_0 := blk_frozen BK195.out 0; have hfz9_1 := blk_frozen BK195.out 1; have hfz9_2 := blk_frozen BK195.out 2; have hfz9_3 := blk_frozen BK195.out 3) | ((with_reducible refine gate_callee (f := 79) rfl ?_); refine goesL_ (some 16) rfl rfl Tryd.func79 (by kernel_rfl) rfl #[.string a0_0] rfl (by (try simp only [List.map_toArray, List.map_cons, List.map_nil]); first | done | rfl | (simp only [List.length_drop, List.length_take]; rfl)) ?_; (with_reducible refine (chapbookref03_Text.calls k a0_0 t198 _ A3.out).mono ?_); rintro e w10 ⟨rfl, hb⟩; refine ⟨_, rfl, ?_⟩; have n0_ := Aside0.mk (blk_below (g := gb195) (o := .cells #[.string a0_0, .int .i64 a0_1, .int .i64 a0_2, .string a0_3] 114 (0, 0)) (by (with_reducible repeat (first | refine blk_drewN ?_ _ | refine blk_drew ?_ | refine blk_alloc ?_ _)); exact BK195.out) hb); have n1_ := Aside0.mk (below_step (by repeat (first | (with_reducible first | exact HB.out | apply below_alloc | apply pw_below_drewN | apply below_drew1 | refine below_set ?_ GE195.out) | exact HB.out)) hb); clear BK195; clear HB; have BK195 := n0_; have HB := n1_; clear n0_ n1_; (try clear hb); (try clear hb2); (try clear hk); (try clear hi)))
  (try simp only [Act.put, List.setIfInBounds_toArray, List.set_cons_zero, List.set_cons_succ])
  go_cut [25] (fun v25 wc => ∃ (kq : Nat) (x25_4 : Bool), v25 = .bool x25_4 ∧ Aside0 (chapbookref06_Bytes.j0 kq (t196 ++ t198) x25_4 a0_0 a0_1 a0_2 a0_3 = some r) ∧ Aside0 (kq ≤ k) ∧ Aside0 (wc.heap[gb195]? = some (.cells #[.string a0_0, .int .i64 a0_1, .int .i64 a0_2, .string a0_3] 114 (0, 0))) ∧ Aside0 (Below w.heap.size w wc))
  case first =>
   have H := HC5.out
   clear HC5
   by_cases c11 : a0_1 = 1
   ·rw [if_pos c11] at H
    have c11b0 : (a0_1 == 1) = true := beq_iff_eq.mpr c11
    have c11b1 : (a0_1 != 1) = false := bne_eq_false_iff_eq.mpr c11
    clear c11
    (first | rw [c11b0] | (simp only [i64_w, i32_w]; rw [c11b0]) | skip)
    have H' := Aside0.mk H
    clear H
    have hcz12_0 : w10.cell? ⟨gb195, 0, none⟩ = some (.string a0_0) := (blk_cell BK195.out 0).trans rfl
    have hcz12_1 : w10.cell? ⟨gb195, 1, none⟩ = some (.int .i64 a0_1) := (blk_cell BK195.out 1).trans rfl
    have hcz12_2 : w10.cell? ⟨gb195, 2, none⟩ = some (.int .i64 a0_2) := (blk_cell BK195.out 2).trans rfl
    have hcz12_3 : w10.cell? ⟨gb195, 3, none⟩ = some (.string a0_3) := (blk_cell BK195.out 3).trans rfl
    have hfz12_0 := blk_frozen BK195.out 0
    have hfz12_1 := blk_frozen BK195.out 1
    have hfz12_2 := blk_frozen BK195.out 2
    have hfz12_3 := blk_frozen BK195.out 3
    go_wp2
    go_meet
    case rel => exact ⟨_, (true), (by first | rfl | (simp; done) | (simp [*]; done) | (simp; exact isEmpty_bne _)), H', ⟨by first | omega | exact Nat.le_refl _⟩, ⟨by (with_reducible repeat (first | refine blk_drewN ?_ _ | refine blk_drew ?_ | refine blk_alloc ?_ _)); exact BK195.out⟩, ⟨by repeat (first | (with_reducible first | exact HB.out | apply below_alloc | apply pw_below_drewN | apply below_drew1 | refine below_set ?_ GE195.out) | exact HB.out)⟩⟩
   ·rw [if_neg c11] at H
    have c11b0 : (a0_1 == 1) = false := beq_eq_false_iff_ne.mpr c11
    have c11b1 : (a0_1 != 1) = true := bne_iff_ne.mpr c11
    (first | rw [c11b0] | (simp only [i64_w, i32_w]; rw [c11b0]) | skip)
    have H' := Aside0.mk H
    clear H
    have hcz13_0 : w10.cell? ⟨gb195, 0, none⟩ = some (.string a0_0) := (blk_cell BK195.out 0).trans rfl
    have hcz13_1 : w10.cell? ⟨gb195, 1, none⟩ = some (.int .i64 a0_1) := (blk_cell BK195.out 1).trans rfl
    have hcz13_2 : w10.cell? ⟨gb195, 2, none⟩ = some (.int .i64 a0_2) := (blk_cell BK195.out 2).trans rfl
    have hcz13_3 : w10.cell? ⟨gb195, 3, none⟩ = some (.string a0_3) := (blk_cell BK195.out 3).trans rfl
    have hfz13_0 := blk_frozen BK195.out 0
    have hfz13_1 := blk_frozen BK195.out 1
    have hfz13_2 := blk_frozen BK195.out 2
    have hfz13_3 := blk_frozen BK195.out 3
    go_wp2
    go_meet
    case rel => exact ⟨_, ((a0_1 == 3)), (by first | rfl | (simp; done) | (simp [*]; done) | (simp; exact isEmpty_bne _)), H', ⟨by first | omega | exact Nat.le_refl _⟩, ⟨by (with_reducible repeat (first | refine blk_drewN ?_ _ | refine blk_drew ?_ | refine blk_alloc ?_ _)); exact BK195.out⟩, ⟨by repeat (first | (with_reducible first | exact HB.out | apply below_alloc | apply pw_below_drewN | apply below_drew1 | refine below_set ?_ GE195.out) | exact HB.out)⟩⟩
  case rest =>
   clear HC5
   try clear c1
   try clear p2
   try clear c4
   try clear c4b0
   try clear c4b1
   try clear c4b2
   try clear c6
   try clear c7
   try clear c11
   try clear c11b0
   try clear c11b1
   try clear hcz12_0
   try clear hcz12_1
   try clear hcz12_2
   try clear hcz12_3
   try clear hcz13_0
   try clear hcz13_1
   try clear hcz13_2
   try clear hcz13_3
   try clear hcz7_0
   try clear hcz7_1
   try clear hcz7_2
   try clear hcz7_3
   try clear hcz9_0
   try clear hcz9_1
   try clear hcz9_2
   try clear hcz9_3
   try clear hfz12_0
   try clear hfz12_1
   try clear hfz12_2
   try clear hfz12_3
   try clear hfz13_0
   try clear hfz13_1
   try clear hfz13_2
   try clear hfz13_3
   try clear hfz7_0
   try clear hfz7_1
   try clear hfz7_2
   try clear hfz7_3
   try clear hfz9_0
   try clear hfz9_1
   try clear hfz9_2
   try clear hfz9_3
   obtain ⟨kq, x25_4, rfl, HA, HJ4, BK195, HB⟩ := hcut
   cases kq with
   | zero => exact absurd HA.out (by simp [chapbookref06_Bytes.j0])
   | succ kj4 =>
    have H := HA.out
    clear HA
    simp only [chapbookref06_Bytes.j0] at H
    by_cases c14 : x25_4 = true
    ·subst c14
     have H1 : ((chapbookref03_Signed.f kj4 a0_2).bind fun bt199 => (if (t196 ++ t198).size + bt199.1.size ≤ 9223372036854775807 then (if a0_1 = 2 then ((chapbookref03_Text.f kj4 a0_3).bind fun t201 => (if ((t196 ++ t198) ++ bt199.1).size + t201.size ≤ 9223372036854775807 then (some (((t196 ++ t198) ++ bt199.1) ++ t201)) else (none))) else (if a0_1 = 4 then ((chapbookref03_Text.f kj4 a0_3).bind fun t202 => (if ((t196 ++ t198) ++ bt199.1).size + t202.size ≤ 9223372036854775807 then (some (((t196 ++ t198) ++ bt199.1) ++ t202)) else (none))) else (some ((t196 ++ t198) ++ bt199.1)))) else (none))) = some r := by rw [if_pos rfl] at H; exact H
     clear H
     have H := H1
     clear H1
     replace H := Option.bind_eq_some_iff.mp H
     obtain ⟨⟨t199, t200⟩, A150, H⟩ := H
     replace H : (if (t196 ++ t198).size + t199.size ≤ 9223372036854775807 then (if a0_1 = 2 then ((chapbookref03_Text.f kj4 a0_3).bind fun t201 => (if ((t196 ++ t198) ++ t199).size + t201.size ≤ 9223372036854775807 then (some (((t196 ++ t198) ++ t199) ++ t201)) else (none))) else (if a0_1 = 4 then ((chapbookref03_Text.f kj4 a0_3).bind fun t202 => (if ((t196 ++ t198) ++ t199).size + t202.size ≤ 9223372036854775807 then (some (((t196 ++ t198) ++ t199) ++ t202)) else (none))) else (some ((t196 ++ t198) ++ t199)))) else (none)) = some r := H
     have A15 := Aside0.mk A150
     clear A150
     by_cases c16 : (t196 ++ t198).size + t199.size ≤ 9223372036854775807
     ·rw [if_pos c16] at H
      have c16b0 := eq_true c16
      have c16b1 : decide ((t196 ++ t198).size + t199.size ≤ 9223372036854775807) = true := decide_eq_true c16
      have zc16a : t196.size + t198.size + t199.size ≤ 9223372036854775807 := by have h_ := of_decide_eq_true c16b1; simp only [ByteArray.size_append] at h_; exact h_
      have zc16b := eq_true zc16a
      have zc16c : decide (t196.size + t198.size + t199.size ≤ 9223372036854775807) = true := decide_eq_true zc16a
      have zc16d : (9223372036854775807 < t196.size + t198.size + t199.size) = False := eq_false (Nat.not_lt.2 zc16a)
      try have c16b2 : (9223372036854775807 < (t196 ++ t198).size + t199.size) = False := eq_false (Nat.not_lt.2 c16)
      by_cases c17 : a0_1 = 2
      ·rw [if_pos c17] at H
       have c17b0 : (a0_1 == 2) = true := beq_iff_eq.mpr c17
       have c17b1 : (a0_1 != 2) = false := bne_eq_false_iff_eq.mpr c17
       clear c17
       replace H := Option.bind_eq_some_iff.mp H
       obtain ⟨t201, A180, H⟩ := H
       replace H : (if ((t196 ++ t198) ++ t199).size + t201.size ≤ 9223372036854775807 then (some (((t196 ++ t198) ++ t199) ++ t201)) else (none)) = some r := H
       have A18 := Aside0.mk A180
       clear A180
       by_cases c19 : ((t196 ++ t198) ++ t199).size + t201.size ≤ 9223372036854775807
       ·rw [if_pos c19] at H
        have c19b0 := eq_true c19
        have c19b1 : decide (((t196 ++ t198) ++ t199).size + t201.size ≤ 9223372036854775807) = true := decide_eq_true c19
        have zc19a : t196.size + t198.size + t199.size + t201.size ≤ 9223372036854775807 := by have h_ := of_decide_eq_true c19b1; simp only [ByteArray.size_append] at h_; exact h_
        have zc19b := eq_true zc19a
        have zc19c : decide (t196.size + t198.size + t199.size + t201.size ≤ 9223372036854775807) = true := decide_eq_true zc19a
        have zc19d : (9223372036854775807 < t196.size + t198.size + t199.size + t201.size) = False := eq_false (Nat.not_lt.2 zc19a)
        try have c19b2 : (9223372036854775807 < ((t196 ++ t198) ++ t199).size + t201.size) = False := eq_false (Nat.not_lt.2 c19)
        obtain rfl := Option.some.inj H
        have hcz20_0 : wc.cell? ⟨gb195, 0, none⟩ = some (.string a0_0) := (blk_cell BK195.out 0).trans rfl
        have hcz20_1 : wc.cell? ⟨gb195, 1, none⟩ = some (.int .i64 a0_1) := (blk_cell BK195.out 1).trans rfl
        have hcz20_2 : wc.cell? ⟨gb195, 2, none⟩ = some (.int .i64 a0_2) := (blk_cell BK195.out 2).trans rfl
        have hcz20_3 : wc.cell? ⟨gb195, 3, none⟩ = some (.string a0_3) := (blk_cell BK195.out 3).trans rfl
        have hfz20_0 := blk_frozen BK195.out 0
        have hfz20_1 := blk_frozen BK195.out 1
        have hfz20_2 := blk_frozen BK195.out 2
        have hfz20_3 := blk_frozen BK195.out 3
        go_wp2_with (first | ((with_reducible refine gate_callee (f := 80) rfl ?_); refine goesL_ (some 29) rfl rfl Tryd.func80 (by kernel_rfl) rfl #[.int .i64 a0_2] rfl (by (try simp only [List.map_toArray, List.map_cons, List.map_nil]); first | done | rfl | (simp only [List.length_drop, List.length_take]; rfl)) ?_; (with_reducible refine (chapbookref03_Signed.calls kj4 a0_2 t199 t200 _ A15.out).mono ?_); rintro e w21 ⟨rfl, hb⟩; refine ⟨_, rfl, ?_⟩; have n0_ := Aside0.mk (blk_below (g := gb195) (o := .cells #[.string a0_0, .int .i64 a0_1, .int .i64 a0_2, .string a0_3] 114 (0, 0)) (by (with_reducible repeat (first | refine blk_drewN ?_ _ | refine blk_drew ?_ | refine blk_alloc ?_ _)); exact BK195.out) hb); have n1_ := Aside0.mk (below_step (by repeat (first | (with_reducible first | exact HB.out | apply below_alloc | apply pw_below_drewN | apply below_drew1 | refine below_set ?_ GE195.out) | exact HB.out)) hb); clear BK195; clear HB; have BK195 := n0_; have HB := n1_; clear n0_ n1_; (try clear hb); (try clear hb2); (try clear hk); (try clear hi); have hcz22_0 : w21.cell? ⟨gb195, 0, none⟩ = some (.string a0_0) := (blk_cell BK195.out 0).trans rfl; have hcz22_1 : w21.cell? ⟨gb195, 1, none⟩ = some (.int .i64 a0_1) := (blk_cell BK195.out 1).trans rfl; have hcz22_2 : w21.cell? ⟨gb195, 2, none⟩ = some (.int .i64 a0_2) := (blk_cell BK195.out 2).trans rfl; have hcz22_3 : w21.cell? ⟨gb195, 3, none⟩ = some (.string a0_3) := (blk_cell BK195.out 3).trans rfl; have hfz22_0 := blk_frozen BK195.out 0; have hfz22_1 := blk_frozen BK195.out 1; have hfz22_2 := blk_frozen BK195.out 2; have hfz22_3 := blk_frozen BK195.out 3) | ((with_reducible refine gate_callee (f := 79) rfl ?_); refine goesL_ (some 46) rfl rfl Tryd.func79 (by kernel_rfl) rfl #[.string a0_3] rfl (by (try simp only [List.map_toArray, List.map_cons, List.map_nil]); first | done | rfl | (simp only [List.length_drop, List.length_take]; rfl)) ?_; (with_reducible refine (chapbookref03_Text.calls kj4 a0_3 t201 _ A18.out).mono ?_); rintro e w23 ⟨rfl, hb⟩; refine ⟨_, rfl, ?_⟩; have n0_ := Aside0.mk (blk_below (g := gb195) (o := .cells #[.string a0_0, .int .i64 a0_1, .int .i64 a0_2, .string a0_3] 114 (0, 0)) (by (with_reducible repeat (first | refine blk_drewN ?_ _ | refine blk_drew ?_ | refine blk_alloc ?_ _)); exact BK195.out) hb); have n1_ := Aside0.mk (below_step (by repeat (first | (with_reducible first | exact HB.out | apply below_alloc | apply pw_below_drewN | apply below_drew1 | refine below_set ?_ GE195.out) | exact HB.out)) hb); clear BK195; clear HB; have BK195 := n0_; have HB := n1_; clear n0_ n1_; (try clear hb); (try clear hb2); (try clear hk); (try clear hi)))
        go_ret
        exact ⟨by first | rfl | (simp [errW_none, errW_some] <;> rfl) | (simp [*, errW_none, errW_some] <;> rfl), by repeat (first | (with_reducible first | exact HB.out | apply below_alloc | apply pw_below_drewN | apply below_drew1 | refine below_set ?_ GE195.out) | exact HB.out)⟩
       ·rw [if_neg c19] at H
        exact absurd H (by simp)
      ·rw [if_neg c17] at H
       have c17b0 : (a0_1 == 2) = false := beq_eq_false_iff_ne.mpr c17
       have c17b1 : (a0_1 != 2) = true := bne_iff_ne.mpr c17
       by_cases c24 : a0_1 = 4
       ·rw [if_pos c24] at H
        have c24b0 : (a0_1 == 4) = true := beq_iff_eq.mpr c24
        have c24b1 : (a0_1 != 4) = false := bne_eq_false_iff_eq.mpr c24
        clear c24
        replace H := Option.bind_eq_some_iff.mp H
        obtain ⟨t202, A250, H⟩ := H
        replace H : (if ((t196 ++ t198) ++ t199).size + t202.size ≤ 9223372036854775807 then (some (((t196 ++ t198) ++ t199) ++ t202)) else (none)) = some r := H
        have A25 := Aside0.mk A250
        clear A250
        by_cases c26 : ((t196 ++ t198) ++ t199).size + t202.size ≤ 9223372036854775807
        ·rw [if_pos c26] at H
         have c26b0 := eq_true c26
         have c26b1 : decide (((t196 ++ t198) ++ t199).size + t202.size ≤ 9223372036854775807) = true := decide_eq_true c26
         have zc26a : t196.size + t198.size + t199.size + t202.size ≤ 9223372036854775807 := by have h_ := of_decide_eq_true c26b1; simp only [ByteArray.size_append] at h_; exact h_
         have zc26b := eq_true zc26a
         have zc26c : decide (t196.size + t198.size + t199.size + t202.size ≤ 9223372036854775807) = true := decide_eq_true zc26a
         have zc26d : (9223372036854775807 < t196.size + t198.size + t199.size + t202.size) = False := eq_false (Nat.not_lt.2 zc26a)
         try have c26b2 : (9223372036854775807 < ((t196 ++ t198) ++ t199).size + t202.size) = False := eq_false (Nat.not_lt.2 c26)
         obtain rfl := Option.some.inj H
         have hcz27_0 : wc.cell? ⟨gb195, 0, none⟩ = some (.string a0_0) := (blk_cell BK195.out 0).trans rfl
         have hcz27_1 : wc.cell? ⟨gb195, 1, none⟩ = some (.int .i64 a0_1) := (blk_cell BK195.out 1).trans rfl
         have hcz27_2 : wc.cell? ⟨gb195, 2, none⟩ = some (.int .i64 a0_2) := (blk_cell BK195.out 2).trans rfl
         have hcz27_3 : wc.cell? ⟨gb195, 3, none⟩ = some (.string a0_3) := (blk_cell BK195.out 3).trans rfl
         have hfz27_0 := blk_frozen BK195.out 0
         have hfz27_1 := blk_frozen BK195.out 1
         have hfz27_2 := blk_frozen BK195.out 2
         have hfz27_3 := blk_frozen BK195.out 3
         go_wp2_with (first | ((with_reducible refine gate_callee (f := 80) rfl ?_); refine goesL_ (some 29) rfl rfl Tryd.func80 (by kernel_rfl) rfl #[.int .i64 a0_2] rfl (by (try simp only [List.map_toArray, List.map_cons, List.map_nil]); first | done | rfl | (simp only [List.length_drop, List.length_take]; rfl)) ?_; (with_reducible refine (chapbookref03_Signed.calls kj4 a0_2 t199 t200 _ A15.out).mono ?_); rintro e w28 ⟨rfl, hb⟩; refine ⟨_, rfl, ?_⟩; have n0_ := Aside0.mk (blk_below (g := gb195) (o := .cells #[.string a0_0, .int .i64 a0_1, .int .i64 a0_2, .string a0_3] 114 (0, 0)) (by (with_reducible repeat (first | refine blk_drewN ?_ _ | refine blk_drew ?_ | refine blk_alloc ?_ _)); exact BK195.out) hb); have n1_ := Aside0.mk (below_step (by repeat (first | (with_reducible first | exact HB.out | apply below_alloc | apply pw_below_drewN | apply below_drew1 | refine below_set ?_ GE195.out) | exact HB.out)) hb); clear BK195; clear HB; have BK195 := n0_; have HB := n1_; clear n0_ n1_; (try clear hb); (try clear hb2); (try clear hk); (try clear hi); have hcz29_0 : w28.cell? ⟨gb195, 0, none⟩ = some (.string a0_0) := (blk_cell BK195.out 0).trans rfl; have hcz29_1 : w28.cell? ⟨gb195, 1, none⟩ = some (.int .i64 a0_1) := (blk_cell BK195.out 1).trans rfl; have hcz29_2 : w28.cell? ⟨gb195, 2, none⟩ = some (.int .i64 a0_2) := (blk_cell BK195.out 2).trans rfl; have hcz29_3 : w28.cell? ⟨gb195, 3, none⟩ = some (.string a0_3) := (blk_cell BK195.out 3).trans rfl; have hfz29_0 := blk_frozen BK195.out 0; have hfz29_1 := blk_frozen BK195.out 1; have hfz29_2 := blk_frozen BK195.out 2; have hfz29_3 := blk_frozen BK195.out 3) | ((with_reducible refine gate_callee (f := 79) rfl ?_); refine goesL_ (some 46) rfl rfl Tryd.func79 (by kernel_rfl) rfl #[.string a0_3] rfl (by (try simp only [List.map_toArray, List.map_cons, List.map_nil]); first | done | rfl | (simp only [List.length_drop, List.length_take]; rfl)) ?_; (with_reducible refine (chapbookref03_Text.calls kj4 a0_3 t202 _ A25.out).mono ?_); rintro e w30 ⟨rfl, hb⟩; refine ⟨_, rfl, ?_⟩; have n0_ := Aside0.mk (blk_below (g := gb195) (o := .cells #[.string a0_0, .int .i64 a0_1, .int .i64 a0_2, .string a0_3] 114 (0, 0)) (by (with_reducible repeat (first | refine blk_drewN ?_ _ | refine blk_drew ?_ | refine blk_alloc ?_ _)); exact BK195.out) hb); have n1_ := Aside0.mk (below_step (by repeat (first | (with_reducible first | exact HB.out | apply below_alloc | apply pw_below_drewN | apply below_drew1 | refine below_set ?_ GE195.out) | exact HB.out)) hb); clear BK195; clear HB; have BK195 := n0_; have HB := n1_; clear n0_ n1_; (try clear hb); (try clear hb2); (try clear hk); (try clear hi)))
         go_ret
         exact ⟨by first | rfl | (simp [errW_none, errW_some] <;> rfl) | (simp [*, errW_none, errW_some] <;> rfl), by repeat (first | (with_reducible first | exact HB.out | apply below_alloc | apply pw_below_drewN | apply below_drew1 | refine below_set ?_ GE195.out) | exact HB.out)⟩
        ·rw [if_neg c26] at H
         exact absurd H (by simp)
       ·rw [if_neg c24] at H
        have c24b0 : (a0_1 == 4) = false := beq_eq_false_iff_ne.mpr c24
        have c24b1 : (a0_1 != 4) = true := bne_iff_ne.mpr c24
        obtain rfl := Option.some.inj H
        have hcz31_0 : wc.cell? ⟨gb195, 0, none⟩ = some (.string a0_0) := (blk_cell BK195.out 0).trans rfl
        have hcz31_1 : wc.cell? ⟨gb195, 1, none⟩ = some (.int .i64 a0_1) := (blk_cell BK195.out 1).trans rfl
        have hcz31_2 : wc.cell? ⟨gb195, 2, none⟩ = some (.int .i64 a0_2) := (blk_cell BK195.out 2).trans rfl
        have hcz31_3 : wc.cell? ⟨gb195, 3, none⟩ = some (.string a0_3) := (blk_cell BK195.out 3).trans rfl
        have hfz31_0 := blk_frozen BK195.out 0
        have hfz31_1 := blk_frozen BK195.out 1
        have hfz31_2 := blk_frozen BK195.out 2
        have hfz31_3 := blk_frozen BK195.out 3
        go_wp2_with (first | ((with_reducible refine gate_callee (f := 80) rfl ?_); refine goesL_ (some 29) rfl rfl Tryd.func80 (by kernel_rfl) rfl #[.int .i64 a0_2] rfl (by (try simp only [List.map_toArray, List.map_cons, List.map_nil]); first | done | rfl | (simp only [List.length_drop, List.length_take]; rfl)) ?_; (with_reducible refine (chapbookref03_Signed.calls kj4 a0_2 t199 t200 _ A15.out).mono ?_); rintro e w32 ⟨rfl, hb⟩; refine ⟨_, rfl, ?_⟩; have n0_ := Aside0.mk (blk_below (g := gb195) (o := .cells #[.string a0_0, .int .i64 a0_1, .int .i64 a0_2, .string a0_3] 114 (0, 0)) (by (with_reducible repeat (first | refine blk_drewN ?_ _ | refine blk_drew ?_ | refine blk_alloc ?_ _)); exact BK195.out) hb); have n1_ := Aside0.mk (below_step (by repeat (first | (with_reducible first | exact HB.out | apply below_alloc | apply pw_below_drewN | apply below_drew1 | refine below_set ?_ GE195.out) | exact HB.out)) hb); clear BK195; clear HB; have BK195 := n0_; have HB := n1_; clear n0_ n1_; (try clear hb); (try clear hb2); (try clear hk); (try clear hi); have hcz33_0 : w32.cell? ⟨gb195, 0, none⟩ = some (.string a0_0) := (blk_cell BK195.out 0).trans rfl; have hcz33_1 : w32.cell? ⟨gb195, 1, none⟩ = some (.int .i64 a0_1) := (blk_cell BK195.out 1).trans rfl; have hcz33_2 : w32.cell? ⟨gb195, 2, none⟩ = some (.int .i64 a0_2) := (blk_cell BK195.out 2).trans rfl; have hcz33_3 : w32.cell? ⟨gb195, 3, none⟩ = some (.string a0_3) := (blk_cell BK195.out 3).trans rfl; have hfz33_0 := blk_frozen BK195.out 0; have hfz33_1 := blk_frozen BK195.out 1; have hfz33_2 := blk_frozen BK195.out 2; have hfz33_3 := blk_frozen BK195.out 3))
        go_ret
        exact ⟨by first | rfl | (simp [errW_none, errW_some] <;> rfl) | (simp [*, errW_none, errW_some] <;> rfl), by repeat (first | (with_reducible first | exact HB.out | apply below_alloc | apply pw_below_drewN | apply below_drew1 | refine below_set ?_ GE195.out) | exact HB.out)⟩
     ·rw [if_neg c16] at H
      exact absurd H (by simp)
    ·replace c14 := Bool.eq_false_iff.mpr c14
     subst c14
     have H1 : (if a0_1 = 2 then ((chapbookref03_Text.f kj4 a0_3).bind fun t203 => (if (t196 ++ t198).size + t203.size ≤ 9223372036854775807 then (some ((t196 ++ t198) ++ t203)) else (none))) else (if a0_1 = 4 then ((chapbookref03_Text.f kj4 a0_3).bind fun t204 => (if (t196 ++ t198).size + t204.size ≤ 9223372036854775807 then (some ((t196 ++ t198) ++ t204)) else (none))) else (some (t196 ++ t198)))) = some r := by rw [if_neg (show ¬ (false = true) by decide)] at H; exact H
     clear H
     have H := H1
     clear H1
     by_cases c34 : a0_1 = 2
     ·rw [if_pos c34] at H
      have c34b0 : (a0_1 == 2) = true := beq_iff_eq.mpr c34
      have c34b1 : (a0_1 != 2) = false := bne_eq_false_iff_eq.mpr c34
      clear c34
      replace H := Option.bind_eq_some_iff.mp H
      obtain ⟨t203, A350, H⟩ := H
      replace H : (if (t196 ++ t198).size + t203.size ≤ 9223372036854775807 then (some ((t196 ++ t198) ++ t203)) else (none)) = some r := H
      have A35 := Aside0.mk A350
      clear A350
      by_cases c36 : (t196 ++ t198).size + t203.size ≤ 9223372036854775807
      ·rw [if_pos c36] at H
       have c36b0 := eq_true c36
       have c36b1 : decide ((t196 ++ t198).size + t203.size ≤ 9223372036854775807) = true := decide_eq_true c36
       have zc36a : t196.size + t198.size + t203.size ≤ 9223372036854775807 := by have h_ := of_decide_eq_true c36b1; simp only [ByteArray.size_append] at h_; exact h_
       have zc36b := eq_true zc36a
       have zc36c : decide (t196.size + t198.size + t203.size ≤ 9223372036854775807) = true := decide_eq_true zc36a
       have zc36d : (9223372036854775807 < t196.size + t198.size + t203.size) = False := eq_false (Nat.not_lt.2 zc36a)
       try have c36b2 : (9223372036854775807 < (t196 ++ t198).size + t203.size) = False := eq_false (Nat.not_lt.2 c36)
       obtain rfl := Option.some.inj H
       have hcz37_0 : wc.cell? ⟨gb195, 0, none⟩ = some (.string a0_0) := (blk_cell BK195.out 0).trans rfl
       have hcz37_1 : wc.cell? ⟨gb195, 1, none⟩ = some (.int .i64 a0_1) := (blk_cell BK195.out 1).trans rfl
       have hcz37_2 : wc.cell? ⟨gb195, 2, none⟩ = some (.int .i64 a0_2) := (blk_cell BK195.out 2).trans rfl
       have hcz37_3 : wc.cell? ⟨gb195, 3, none⟩ = some (.string a0_3) := (blk_cell BK195.out 3).trans rfl
       have hfz37_0 := blk_frozen BK195.out 0
       have hfz37_1 := blk_frozen BK195.out 1
       have hfz37_2 := blk_frozen BK195.out 2
       have hfz37_3 := blk_frozen BK195.out 3
       go_wp2_with (first | ((with_reducible refine gate_callee (f := 79) rfl ?_); refine goesL_ (some 46) rfl rfl Tryd.func79 (by kernel_rfl) rfl #[.string a0_3] rfl (by (try simp only [List.map_toArray, List.map_cons, List.map_nil]); first | done | rfl | (simp only [List.length_drop, List.length_take]; rfl)) ?_; (with_reducible refine (chapbookref03_Text.calls kj4 a0_3 t203 _ A35.out).mono ?_); rintro e w38 ⟨rfl, hb⟩; refine ⟨_, rfl, ?_⟩; have n0_ := Aside0.mk (blk_below (g := gb195) (o := .cells #[.string a0_0, .int .i64 a0_1, .int .i64 a0_2, .string a0_3] 114 (0, 0)) (by (with_reducible repeat (first | refine blk_drewN ?_ _ | refine blk_drew ?_ | refine blk_alloc ?_ _)); exact BK195.out) hb); have n1_ := Aside0.mk (below_step (by repeat (first | (with_reducible first | exact HB.out | apply below_alloc | apply pw_below_drewN | apply below_drew1 | refine below_set ?_ GE195.out) | exact HB.out)) hb); clear BK195; clear HB; have BK195 := n0_; have HB := n1_; clear n0_ n1_; (try clear hb); (try clear hb2); (try clear hk); (try clear hi)))
       go_ret
       exact ⟨by first | rfl | (simp [errW_none, errW_some] <;> rfl) | (simp [*, errW_none, errW_some] <;> rfl), by repeat (first | (with_reducible first | exact HB.out | apply below_alloc | apply pw_below_drewN | apply below_drew1 | refine below_set ?_ GE195.out) | exact HB.out)⟩
      ·rw [if_neg c36] at H
       exact absurd H (by simp)
     ·rw [if_neg c34] at H
      have c34b0 : (a0_1 == 2) = false := beq_eq_false_iff_ne.mpr c34
      have c34b1 : (a0_1 != 2) = true := bne_iff_ne.mpr c34
      by_cases c39 : a0_1 = 4
      ·rw [if_pos c39] at H
       have c39b0 : (a0_1 == 4) = true := beq_iff_eq.mpr c39
       have c39b1 : (a0_1 != 4) = false := bne_eq_false_iff_eq.mpr c39
       clear c39
       replace H := Option.bind_eq_some_iff.mp H
       obtain ⟨t204, A400, H⟩ := H
       replace H : (if (t196 ++ t198).size + t204.size ≤ 9223372036854775807 then (some ((t196 ++ t198) ++ t204)) else (none)) = some r := H
       have A40 := Aside0.mk A400
       clear A400
       by_cases c41 : (t196 ++ t198).size + t204.size ≤ 9223372036854775807
       ·rw [if_pos c41] at H
        have c41b0 := eq_true c41
        have c41b1 : decide ((t196 ++ t198).size + t204.size ≤ 9223372036854775807) = true := decide_eq_true c41
        have zc41a : t196.size + t198.size + t204.size ≤ 9223372036854775807 := by have h_ := of_decide_eq_true c41b1; simp only [ByteArray.size_append] at h_; exact h_
        have zc41b := eq_true zc41a
        have zc41c : decide (t196.size + t198.size + t204.size ≤ 9223372036854775807) = true := decide_eq_true zc41a
        have zc41d : (9223372036854775807 < t196.size + t198.size + t204.size) = False := eq_false (Nat.not_lt.2 zc41a)
        try have c41b2 : (9223372036854775807 < (t196 ++ t198).size + t204.size) = False := eq_false (Nat.not_lt.2 c41)
        obtain rfl := Option.some.inj H
        have hcz42_0 : wc.cell? ⟨gb195, 0, none⟩ = some (.string a0_0) := (blk_cell BK195.out 0).trans rfl
        have hcz42_1 : wc.cell? ⟨gb195, 1, none⟩ = some (.int .i64 a0_1) := (blk_cell BK195.out 1).trans rfl
        have hcz42_2 : wc.cell? ⟨gb195, 2, none⟩ = some (.int .i64 a0_2) := (blk_cell BK195.out 2).trans rfl
        have hcz42_3 : wc.cell? ⟨gb195, 3, none⟩ = some (.string a0_3) := (blk_cell BK195.out 3).trans rfl
        have hfz42_0 := blk_frozen BK195.out 0
        have hfz42_1 := blk_frozen BK195.out 1
        have hfz42_2 := blk_frozen BK195.out 2
        have hfz42_3 := blk_frozen BK195.out 3
        go_wp2_with (first | ((with_reducible refine gate_callee (f := 79) rfl ?_); refine goesL_ (some 46) rfl rfl Tryd.func79 (by kernel_rfl) rfl #[.string a0_3] rfl (by (try simp only [List.map_toArray, List.map_cons, List.map_nil]); first | done | rfl | (simp only [List.length_drop, List.length_take]; rfl)) ?_; (with_reducible refine (chapbookref03_Text.calls kj4 a0_3 t204 _ A40.out).mono ?_); rintro e w43 ⟨rfl, hb⟩; refine ⟨_, rfl, ?_⟩; have n0_ := Aside0.mk (blk_below (g := gb195) (o := .cells #[.string a0_0, .int .i64 a0_1, .int .i64 a0_2, .string a0_3] 114 (0, 0)) (by (with_reducible repeat (first | refine blk_drewN ?_ _ | refine blk_drew ?_ | refine blk_alloc ?_ _)); exact BK195.out) hb); have n1_ := Aside0.mk (below_step (by repeat (first | (with_reducible first | exact HB.out | apply below_alloc | apply pw_below_drewN | apply below_drew1 | refine below_set ?_ GE195.out) | exact HB.out)) hb); clear BK195; clear HB; have BK195 := n0_; have HB := n1_; clear n0_ n1_; (try clear hb); (try clear hb2); (try clear hk); (try clear hi)))
        go_ret
        exact ⟨by first | rfl | (simp [errW_none, errW_some] <;> rfl) | (simp [*, errW_none, errW_some] <;> rfl), by repeat (first | (with_reducible first | exact HB.out | apply below_alloc | apply pw_below_drewN | apply below_drew1 | refine below_set ?_ GE195.out) | exact HB.out)⟩
       ·rw [if_neg c41] at H
        exact absurd H (by simp)
      ·rw [if_neg c39] at H
       have c39b0 : (a0_1 == 4) = false := beq_eq_false_iff_ne.mpr c39
       have c39b1 : (a0_1 != 4) = true := bne_iff_ne.mpr c39
       obtain rfl := Option.some.inj H
       have hcz44_0 : wc.cell? ⟨gb195, 0, none⟩ = some (.string a0_0) := (blk_cell BK195.out 0).trans rfl
       have hcz44_1 : wc.cell? ⟨gb195, 1, none⟩ = some (.int .i64 a0_1) := (blk_cell BK195.out 1).trans rfl
       have hcz44_2 : wc.cell? ⟨gb195, 2, none⟩ = some (.int .i64 a0_2) := (blk_cell BK195.out 2).trans rfl
       have hcz44_3 : wc.cell? ⟨gb195, 3, none⟩ = some (.string a0_3) := (blk_cell BK195.out 3).trans rfl
       have hfz44_0 := blk_frozen BK195.out 0
       have hfz44_1 := blk_frozen BK195.out 1
       have hfz44_2 := blk_frozen BK195.out 2
       have hfz44_3 := blk_frozen BK195.out 3
       go_wp2
       go_ret
       exact ⟨by first | rfl | (simp [errW_none, errW_some] <;> rfl) | (simp [*, errW_none, errW_some] <;> rfl), by repeat (first | (with_reducible first | exact HB.out | apply below_alloc | apply pw_below_drewN | apply below_drew1 | refine below_set ?_ GE195.out) | exact HB.out)⟩
 ·rw [if_neg c4] at H
  exact absurd H (by simp)
def chapbookref07_Bytes.l0 : Nat → ByteArray → Int → Int → Int → List (S114) → Option (ByteArray)
 | 0, _, _, _, _, _ => none
 | k + 1, x9, x10, x206000, x206001, x206002 => if x10 < (x206002.length : Int) then (if 0 ≤ x10 then ((chapbookref06_Bytes.f k ((rd_T114 x206002 x10).f0) ((rd_T114 x206002 x10).f1) ((rd_T114 x206002 x10).f2) ((rd_T114 x206002 x10).f3)).bind fun t213 => (if x9.size + t213.size ≤ 9223372036854775807 then (chapbookref07_Bytes.l0 k (x9 ++ t213) (wrap64 (x10 + 1)) x206000 x206001 x206002) else (none))) else (none)) else (some x9)
def chapbookref07_Bytes.f (k : Nat) (a0_0 : Int) (a0_1 : Int) (l0_2 : List (S114)) : Option (ByteArray) := (chapbookref03_Number.f k a0_0).bind fun bt206 => ((chapbookref03_Number.f k a0_1).bind fun bt208 => ((chapbookref03_Number.f k (l0_2.length : Int)).bind fun bt210 => (if bt206.1.size + bt208.1.size ≤ 9223372036854775807 then (if (bt206.1 ++ bt208.1).size + bt210.1.size ≤ 9223372036854775807 then (chapbookref07_Bytes.l0 k ((bt206.1 ++ bt208.1) ++ bt210.1) 0 a0_0 a0_1 l0_2) else (none)) else (none))))
theorem chapbookref07_Bytes.mono_l : ∀ k, (∀ y0 y1 y2 y3 y4, LeO (chapbookref07_Bytes.l0 k y0 y1 y2 y3 y4) (chapbookref07_Bytes.l0 (k + 1) y0 y1 y2 y3 y4))
 | 0 => fun _ _ _ _ _ r h => by simp [chapbookref07_Bytes.l0] at h
 | k + 1 => by
  have ih0 := chapbookref07_Bytes.mono_l k
  ·intro y0 y1 y2 y3 y4
   unfold chapbookref07_Bytes.l0
   repeat' first
   | (with_reducible exact ih0 _ _ _ _ _)
   | (with_reducible exact chapbookref03_Number.mono _ _)
   | (with_reducible exact chapbookref06_Bytes.mono _ _ _ _ _)
   | (with_reducible exact LeO.refl _)
   | (with_reducible exact LeO.none _)
   | (with_reducible refine LeO.ite ?_ ?_)
   | (with_reducible refine LeO.bind ?_ (fun _ => ?_))
   | exact ih0 _ _ _ _ _
   | exact chapbookref03_Number.mono _ _
   | exact chapbookref06_Bytes.mono _ _ _ _ _
   | exact LeO.none _
   | refine LeO.ite ?_ ?_
   | refine LeO.bind ?_ (fun _ => ?_)
theorem chapbookref07_Bytes.mono : ∀ a0 a1 a2 k, LeO (chapbookref07_Bytes.f k a0 a1 a2) (chapbookref07_Bytes.f (k + 1) a0 a1 a2) := by
 intro a0 a1 a2 k
 have ih0 := chapbookref07_Bytes.mono_l k
 unfold chapbookref07_Bytes.f
 repeat' first
   | (with_reducible exact ih0 _ _ _ _ _)
   | (with_reducible exact chapbookref03_Number.mono _ _)
   | (with_reducible exact chapbookref06_Bytes.mono _ _ _ _ _)
   | (with_reducible exact LeO.refl _)
   | (with_reducible exact LeO.none _)
   | (with_reducible refine LeO.ite ?_ ?_)
   | (with_reducible refine LeO.bind ?_ (fun _ => ?_))
   | exact ih0 _ _ _ _ _
   | exact chapbookref03_Number.mono _ _
   | exact chapbookref06_Bytes.mono _ _ _ _ _
   | exact LeO.none _
   | refine LeO.ite ?_ ?_
   | refine LeO.bind ?_ (fun _ => ?_)
set_option maxHeartbeats 8000000 in
set_option maxRecDepth 100000 in
theorem chapbookref07_Bytes.calls (k : Nat) (a0_0 : Int) (a0_1 : Int) (A0_2 : Option Addr) (c0_2 : Nat) (l0_2 : List (S114)) (r : ByteArray) (w : World) (hr0_2 : Kd.C k114 w A0_2 l0_2.length l0_2) (hc0_2 : l0_2.length ≤ c0_2) (h : chapbookref07_Bytes.f k a0_0 a0_1 l0_2 = some r) :
  Calls Tryd.prog 33 #[.agg #[.int .i64 a0_0, .int .i64 a0_1, .slice A0_2 l0_2.length c0_2]] w fun e w' => e = .returned (.string r) ∧ Below w.heap.size w w' := by
 have hu43 := Tryd.underlying43
 have hu114 := Tryd.underlying114
 have HR0_2 := Aside0.mk hr0_2
 have HC0_2 := Aside0.mk hc0_2
 clear hr0_2 hc0_2
 have HB := Aside0.mk (Below.refl w.heap.size w)
 have H : ((chapbookref03_Number.f k a0_0).bind fun bt206 => ((chapbookref03_Number.f k a0_1).bind fun bt208 => ((chapbookref03_Number.f k (l0_2.length : Int)).bind fun bt210 => (if bt206.1.size + bt208.1.size ≤ 9223372036854775807 then (if (bt206.1 ++ bt208.1).size + bt210.1.size ≤ 9223372036854775807 then (chapbookref07_Bytes.l0 k ((bt206.1 ++ bt208.1) ++ bt210.1) 0 a0_0 a0_1 l0_2) else (none)) else (none))))) = some r := h
 clear h
 replace H := Option.bind_eq_some_iff.mp H
 obtain ⟨⟨t206, t207⟩, A20, H⟩ := H
 replace H : ((chapbookref03_Number.f k a0_1).bind fun bt208 => ((chapbookref03_Number.f k (l0_2.length : Int)).bind fun bt210 => (if t206.size + bt208.1.size ≤ 9223372036854775807 then (if (t206 ++ bt208.1).size + bt210.1.size ≤ 9223372036854775807 then (chapbookref07_Bytes.l0 k ((t206 ++ bt208.1) ++ bt210.1) 0 a0_0 a0_1 l0_2) else (none)) else (none)))) = some r := H
 have A2 := Aside0.mk A20
 clear A20
 replace H := Option.bind_eq_some_iff.mp H
 obtain ⟨⟨t208, t209⟩, A30, H⟩ := H
 replace H : ((chapbookref03_Number.f k (l0_2.length : Int)).bind fun bt210 => (if t206.size + t208.size ≤ 9223372036854775807 then (if (t206 ++ t208).size + bt210.1.size ≤ 9223372036854775807 then (chapbookref07_Bytes.l0 k ((t206 ++ t208) ++ bt210.1) 0 a0_0 a0_1 l0_2) else (none)) else (none))) = some r := H
 have A3 := Aside0.mk A30
 clear A30
 replace H := Option.bind_eq_some_iff.mp H
 obtain ⟨⟨t210, t211⟩, A40, H⟩ := H
 replace H : (if t206.size + t208.size ≤ 9223372036854775807 then (if (t206 ++ t208).size + t210.size ≤ 9223372036854775807 then (chapbookref07_Bytes.l0 k ((t206 ++ t208) ++ t210) 0 a0_0 a0_1 l0_2) else (none)) else (none)) = some r := H
 have A4 := Aside0.mk A40
 clear A40
 by_cases c5 : t206.size + t208.size ≤ 9223372036854775807
 ·rw [if_pos c5] at H
  have c5b0 := eq_true c5
  have c5b1 : decide (t206.size + t208.size ≤ 9223372036854775807) = true := decide_eq_true c5
  try have c5b2 : (9223372036854775807 < t206.size + t208.size) = False := eq_false (Nat.not_lt.2 c5)
  by_cases c6 : (t206 ++ t208).size + t210.size ≤ 9223372036854775807
  ·rw [if_pos c6] at H
   have c6b0 := eq_true c6
   have c6b1 : decide ((t206 ++ t208).size + t210.size ≤ 9223372036854775807) = true := decide_eq_true c6
   have zc6a : t206.size + t208.size + t210.size ≤ 9223372036854775807 := by have h_ := of_decide_eq_true c6b1; simp only [ByteArray.size_append] at h_; exact h_
   have zc6b := eq_true zc6a
   have zc6c : decide (t206.size + t208.size + t210.size ≤ 9223372036854775807) = true := decide_eq_true zc6a
   have zc6d : (9223372036854775807 < t206.size + t208.size + t210.size) = False := eq_false (Nat.not_lt.2 zc6a)
   try have c6b2 : (9223372036854775807 < (t206 ++ t208).size + t210.size) = False := eq_false (Nat.not_lt.2 c6)
   have H' := Aside0.mk H
   clear H
   go_enter Tryd.func33, Tryd.ntmps33
   go_wp2_with (first | ((with_reducible refine gate_dst (N := 1) rfl ?_); refine box_event ?hg (N := 1) ?hd (cs := #[.int .i64 a0_0, .int .i64 a0_1, .slice A0_2 l0_2.length c0_2]) (t := 43) ?hr ?_; (case hd => rfl); (case hg => rfl); (case hr => first | (go_simp; done) | (go_simp; rfl)); intro gb205 hg w7 hbox hb; have n0_ := Aside0.mk (below_step (by repeat (first | (with_reducible first | exact HB.out | apply below_alloc | apply pw_below_drewN | apply below_drew1) | exact HB.out)) hb); have n1_ := Aside0.mk (hbox); have n2_ := Aside0.mk ((by rw [hg]; exact (below_size (by repeat (first | (with_reducible first | exact HB.out | apply below_alloc | apply pw_below_drewN | apply below_drew1) | exact HB.out))) : w.heap.size ≤ gb205)); have n3_ := Aside0.mk ((by rw [hg]; exact (below_size (by repeat (first | (with_reducible first | exact HB.out | apply below_alloc | apply pw_below_drewN | apply below_drew1) | exact HB.out))) : w.heap.size ≤ gb205)); clear HB; have HB := n0_; have BK205 := n1_; have GW205 := n2_; have GE205 := n3_; clear n0_ n1_ n2_ n3_; clear hb hbox hg; have hcz8_0 : w7.cell? ⟨gb205, 0, none⟩ = some (.int .i64 a0_0) := (blk_cell BK205.out 0).trans rfl; have hcz8_1 : w7.cell? ⟨gb205, 1, none⟩ = some (.int .i64 a0_1) := (blk_cell BK205.out 1).trans rfl; have hcz8_2 : w7.cell? ⟨gb205, 2, none⟩ = some (.slice A0_2 l0_2.length c0_2) := (blk_cell BK205.out 2).trans rfl; have hfz8_0 := blk_frozen BK205.out 0; have hfz8_1 := blk_frozen BK205.out 1; have hfz8_2 := blk_frozen BK205.out 2) | ((with_reducible refine gate_callee (f := 60) rfl ?_); refine goesL_ (some 14) rfl rfl Tryd.func60 (by kernel_rfl) rfl #[.int .i64 a0_0] rfl (by (try simp only [List.map_toArray, List.map_cons, List.map_nil]); first | done | rfl | (simp only [List.length_drop, List.length_take]; rfl)) ?_; (with_reducible refine (chapbookref03_Number.calls k a0_0 t206 t207 _ A2.out).mono ?_); rintro e w9 ⟨rfl, hb⟩; refine ⟨_, rfl, ?_⟩; have n0_ := Aside0.mk (blk_below (g := gb205) (o := .cells #[.int .i64 a0_0, .int .i64 a0_1, .slice A0_2 l0_2.length c0_2] 43 (0, 0)) (by (with_reducible repeat (first | refine blk_drewN ?_ _ | refine blk_drew ?_ | refine blk_alloc ?_ _)); exact BK205.out) hb); have n1_ := Aside0.mk (below_step (by repeat (first | (with_reducible first | exact HB.out | apply below_alloc | apply pw_below_drewN | apply below_drew1 | refine below_set ?_ GE205.out) | exact HB.out)) hb); clear BK205; clear HB; have BK205 := n0_; have HB := n1_; clear n0_ n1_; (try clear hb); (try clear hb2); (try clear hk); (try clear hi); have hcz10_0 : w9.cell? ⟨gb205, 0, none⟩ = some (.int .i64 a0_0) := (blk_cell BK205.out 0).trans rfl; have hcz10_1 : w9.cell? ⟨gb205, 1, none⟩ = some (.int .i64 a0_1) := (blk_cell BK205.out 1).trans rfl; have hcz10_2 : w9.cell? ⟨gb205, 2, none⟩ = some (.slice A0_2 l0_2.length c0_2) := (blk_cell BK205.out 2).trans rfl; have hfz10_0 := blk_frozen BK205.out 0; have hfz10_1 := blk_frozen BK205.out 1; have hfz10_2 := blk_frozen BK205.out 2) | ((with_reducible refine gate_callee (f := 60) rfl ?_); refine goesL_ (some 20) rfl rfl Tryd.func60 (by kernel_rfl) rfl #[.int .i64 a0_1] rfl (by (try simp only [List.map_toArray, List.map_cons, List.map_nil]); first | done | rfl | (simp only [List.length_drop, List.length_take]; rfl)) ?_; (with_reducible refine (chapbookref03_Number.calls k a0_1 t208 t209 _ A3.out).mono ?_); rintro e w11 ⟨rfl, hb⟩; refine ⟨_, rfl, ?_⟩; have n0_ := Aside0.mk (blk_below (g := gb205) (o := .cells #[.int .i64 a0_0, .int .i64 a0_1, .slice A0_2 l0_2.length c0_2] 43 (0, 0)) (by (with_reducible repeat (first | refine blk_drewN ?_ _ | refine blk_drew ?_ | refine blk_alloc ?_ _)); exact BK205.out) hb); have n1_ := Aside0.mk (below_step (by repeat (first | (with_reducible first | exact HB.out | apply below_alloc | apply pw_below_drewN | apply below_drew1 | refine below_set ?_ GE205.out) | exact HB.out)) hb); clear BK205; clear HB; have BK205 := n0_; have HB := n1_; clear n0_ n1_; (try clear hb); (try clear hb2); (try clear hk); (try clear hi); have hcz12_0 : w11.cell? ⟨gb205, 0, none⟩ = some (.int .i64 a0_0) := (blk_cell BK205.out 0).trans rfl; have hcz12_1 : w11.cell? ⟨gb205, 1, none⟩ = some (.int .i64 a0_1) := (blk_cell BK205.out 1).trans rfl; have hcz12_2 : w11.cell? ⟨gb205, 2, none⟩ = some (.slice A0_2 l0_2.length c0_2) := (blk_cell BK205.out 2).trans rfl; have hfz12_0 := blk_frozen BK205.out 0; have hfz12_1 := blk_frozen BK205.out 1; have hfz12_2 := blk_frozen BK205.out 2) | ((with_reducible refine gate_callee (f := 60) rfl ?_); refine goesL_ (some 27) rfl rfl Tryd.func60 (by kernel_rfl) rfl #[.int .i64 (l0_2.length : Int)] rfl (by (try simp only [List.map_toArray, List.map_cons, List.map_nil]); first | done | rfl | (simp only [List.length_drop, List.length_take]; rfl)) ?_; (with_reducible refine (chapbookref03_Number.calls k (l0_2.length : Int) t210 t211 _ A4.out).mono ?_); rintro e w13 ⟨rfl, hb⟩; refine ⟨_, rfl, ?_⟩; have n0_ := Aside0.mk (blk_below (g := gb205) (o := .cells #[.int .i64 a0_0, .int .i64 a0_1, .slice A0_2 l0_2.length c0_2] 43 (0, 0)) (by (with_reducible repeat (first | refine blk_drewN ?_ _ | refine blk_drew ?_ | refine blk_alloc ?_ _)); exact BK205.out) hb); have n1_ := Aside0.mk (below_step (by repeat (first | (with_reducible first | exact HB.out | apply below_alloc | apply pw_below_drewN | apply below_drew1 | refine below_set ?_ GE205.out) | exact HB.out)) hb); clear BK205; clear HB; have BK205 := n0_; have HB := n1_; clear n0_ n1_; (try clear hb); (try clear hb2); (try clear hk); (try clear hi)))
   go_loopg [9, 10] k (fun kq v9 v10 w' => ∃ (x9_1 : ByteArray) (x10_1 : Int), v9 = .string x9_1 ∧ v10 = .int .i64 x10_1 ∧ Aside0 (chapbookref07_Bytes.l0 kq x9_1 x10_1 a0_0 a0_1 l0_2 = some r) ∧ Aside0 (kq ≤ k) ∧ Aside0 (w'.heap[gb205]? = some (.cells #[.int .i64 a0_0, .int .i64 a0_1, (.slice A0_2 l0_2.length c0_2)] 43 (0, 0))) ∧ Aside0 (Below w.heap.size w w'))
   case atStart => exact ⟨((t206 ++ t208) ++ t210), (0), (by first | rfl | (simp; done) | (simp [*]; done) | (simp; exact isEmpty_bne _)), (by first | rfl | (simp; done) | (simp [*]; done) | (simp; exact isEmpty_bne _)), H', ⟨Nat.le_refl _⟩, ⟨by (with_reducible repeat (first | refine blk_drewN ?_ _ | refine blk_drew ?_ | refine blk_alloc ?_ _)); exact BK205.out⟩, ⟨by repeat (first | (with_reducible first | exact HB.out | apply below_alloc | apply pw_below_drewN | apply below_drew1 | refine below_set ?_ GE205.out) | exact HB.out)⟩⟩
   case round =>
    clear H'
    try clear p2
    try clear c3
    try clear c5
    try clear c5b0
    try clear c5b1
    try clear c5b2
    try clear c6
    try clear c6b0
    try clear c6b1
    try clear c6b2
    try clear hcz10_0
    try clear hcz10_1
    try clear hcz10_2
    try clear hcz12_0
    try clear hcz12_1
    try clear hcz12_2
    try clear hcz8_0
    try clear hcz8_1
    try clear hcz8_2
    try clear hfz10_0
    try clear hfz10_1
    try clear hfz10_2
    try clear hfz12_0
    try clear hfz12_1
    try clear hfz12_2
    try clear hfz8_0
    try clear hfz8_1
    try clear hfz8_2
    obtain ⟨x9_1, x10_1, rfl, rfl, HA, HK1, BK205, HB⟩ := hrel
    cases gk with
    | zero => exact absurd HA.out (by simp [chapbookref07_Bytes.l0])
    | succ k1 =>
     have H := HA.out
     clear HA
     simp only [chapbookref07_Bytes.l0] at H
     by_cases c14 : x10_1 < (l0_2.length : Int)
     ·rw [if_pos c14] at H
      have c14b0 : decide (x10_1 < (l0_2.length : Int)) = true := decide_eq_true c14
      clear c14
      by_cases c15 : 0 ≤ x10_1
      ·rw [if_pos c15] at H
       have c15b0 : decide (0 ≤ x10_1) = true := decide_eq_true c15
       clear c15
       replace H := Option.bind_eq_some_iff.mp H
       obtain ⟨t213, A160, H⟩ := H
       replace H : (if x9_1.size + t213.size ≤ 9223372036854775807 then (chapbookref07_Bytes.l0 k1 (x9_1 ++ t213) (wrap64 (x10_1 + 1)) a0_0 a0_1 l0_2) else (none)) = some r := H
       have A16 := Aside0.mk A160
       clear A160
       by_cases c17 : x9_1.size + t213.size ≤ 9223372036854775807
       ·rw [if_pos c17] at H
        have c17b0 := eq_true c17
        have c17b1 : decide (x9_1.size + t213.size ≤ 9223372036854775807) = true := decide_eq_true c17
        try have c17b2 : (9223372036854775807 < x9_1.size + t213.size) = False := eq_false (Nat.not_lt.2 c17)
        have H' := Aside0.mk H
        clear H
        have hcz18_0 : wr.cell? ⟨gb205, 0, none⟩ = some (.int .i64 a0_0) := (blk_cell BK205.out 0).trans rfl
        have hcz18_1 : wr.cell? ⟨gb205, 1, none⟩ = some (.int .i64 a0_1) := (blk_cell BK205.out 1).trans rfl
        have hcz18_2 : wr.cell? ⟨gb205, 2, none⟩ = some (.slice A0_2 l0_2.length c0_2) := (blk_cell BK205.out 2).trans rfl
        have hfz18_0 := blk_frozen BK205.out 0
        have hfz18_1 := blk_frozen BK205.out 1
        have hfz18_2 := blk_frozen BK205.out 2
        have p212 : 0 ≤ (x10_1 : Int) := of_decide_eq_true (by first | (with_reducible assumption) | assumption)
        have q212 : x10_1 < (l0_2.length : Int) := of_decide_eq_true (by first | (with_reducible assumption) | assumption)
        obtain ⟨ad212, e212, hx212_0, hx212_1, hx212_2, hx212_3⟩ := at_T114 HR0_2.out x10_1 p212 q212
        cases e212
        replace hx212_0 := (HB.out.cell (World.block_lt_of_cell? w _ hx212_0)).trans hx212_0
        replace hx212_1 := (HB.out.cell (World.block_lt_of_cell? w _ hx212_1)).trans hx212_1
        replace hx212_2 := (HB.out.cell (World.block_lt_of_cell? w _ hx212_2)).trans hx212_2
        replace hx212_3 := (HB.out.cell (World.block_lt_of_cell? w _ hx212_3)).trans hx212_3
        replace p212 := eq_true p212
        replace q212 := eq_true q212
        go_wp2_with (first | ((with_reducible refine gate_callee (f := 61) rfl ?_); refine goesL_ (some 48) rfl rfl Tryd.func61 (by kernel_rfl) rfl #[.agg #[.string ((rd_T114 l0_2 x10_1).f0), .int .i64 ((rd_T114 l0_2 x10_1).f1), .int .i64 ((rd_T114 l0_2 x10_1).f2), .string ((rd_T114 l0_2 x10_1).f3)]] rfl (by (try simp only [List.map_toArray, List.map_cons, List.map_nil]); first | done | rfl | (simp only [List.length_drop, List.length_take]; rfl)) ?_; (with_reducible refine (chapbookref06_Bytes.calls k1 ((rd_T114 l0_2 x10_1).f0) ((rd_T114 l0_2 x10_1).f1) ((rd_T114 l0_2 x10_1).f2) ((rd_T114 l0_2 x10_1).f3) t213 _ A16.out).mono ?_); rintro e w19 ⟨rfl, hb⟩; refine ⟨_, rfl, ?_⟩; have n0_ := Aside0.mk (blk_below (g := gb205) (o := .cells #[.int .i64 a0_0, .int .i64 a0_1, .slice (some ad212) l0_2.length c0_2] 43 (0, 0)) (by (with_reducible repeat (first | refine blk_drewN ?_ _ | refine blk_drew ?_ | refine blk_alloc ?_ _)); exact BK205.out) hb); have n1_ := Aside0.mk (below_step (by repeat (first | (with_reducible first | exact HB.out | apply below_alloc | apply pw_below_drewN | apply below_drew1 | refine below_set ?_ GE205.out) | exact HB.out)) hb); clear BK205; clear HB; have BK205 := n0_; have HB := n1_; clear n0_ n1_; (try clear hb); (try clear hb2); (try clear hk); (try clear hi)))
        go_roundg k1
        case measure => have := HK1.out; omega
        case rel => exact ⟨(x9_1 ++ t213), (wrap64 (x10_1 + 1)), (by first | rfl | (simp; done) | (simp [*]; done) | (simp; exact isEmpty_bne _)), (by first | rfl | (simp; done) | (simp [*]; done) | (simp; exact isEmpty_bne _)), H', ⟨by have := HK1.out; omega⟩, ⟨by (with_reducible repeat (first | refine blk_drewN ?_ _ | refine blk_drew ?_ | refine blk_alloc ?_ _)); exact BK205.out⟩, ⟨by repeat (first | (with_reducible first | exact HB.out | apply below_alloc | apply pw_below_drewN | apply below_drew1 | refine below_set ?_ GE205.out) | exact HB.out)⟩⟩
       ·rw [if_neg c17] at H
        exact absurd H (by simp)
      ·rw [if_neg c15] at H
       exact absurd H (by simp)
     ·rw [if_neg c14] at H
      have c14b0 : decide (x10_1 < (l0_2.length : Int)) = false := decide_eq_false c14
      clear c14
      obtain rfl := Option.some.inj H
      have hcz20_0 : wr.cell? ⟨gb205, 0, none⟩ = some (.int .i64 a0_0) := (blk_cell BK205.out 0).trans rfl
      have hcz20_1 : wr.cell? ⟨gb205, 1, none⟩ = some (.int .i64 a0_1) := (blk_cell BK205.out 1).trans rfl
      have hcz20_2 : wr.cell? ⟨gb205, 2, none⟩ = some (.slice A0_2 l0_2.length c0_2) := (blk_cell BK205.out 2).trans rfl
      have hfz20_0 := blk_frozen BK205.out 0
      have hfz20_1 := blk_frozen BK205.out 1
      have hfz20_2 := blk_frozen BK205.out 2
      go_wp2
      go_ret
      exact ⟨by first | rfl | (simp [errW_none, errW_some] <;> rfl) | (simp [*, errW_none, errW_some] <;> rfl), by repeat (first | (with_reducible first | exact HB.out | apply below_alloc | apply pw_below_drewN | apply below_drew1 | refine below_set ?_ GE205.out) | exact HB.out)⟩
  ·rw [if_neg c6] at H
   exact absurd H (by simp)
 ·rw [if_neg c5] at H
  exact absurd H (by simp)
end Go.Proofs.YtjmoncfgoaaekaaDoor.Q
