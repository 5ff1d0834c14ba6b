/- Contracts of the seat's functions, printed: if the Lean function comes to a value, the Go function returns it. -/
import Derived.Test.YtjdenpmaianmfaaDoorY6Spell
namespace Go.Proofs.YtjdenpmaianmfaaDoor.Q
open RowKit YtjdenpmaianmfaaDoorW.PrintWords YtjdenpmaianmfaaDoorW.PrintLast YtjdenpmaianmfaaDoorW.PrintMore
attribute [local go_sem] max2_int min2_int max_two min_two max_three min_three max_four min_four
set_option maxHeartbeats 16000000
set_option maxRecDepth 100000
set_option linter.unusedVariables false
set_option linter.unusedSimpArgs false
mutual
def value_May.j0 : Nat → Bool → ByteArray → Int → Int → ByteArray → Option (Int)
 | 0, _, _, _, _, _ => none
 | k + 1, x12, x109000, x109001, x109002, x109003 => if x12 = true then (some 1) else (if x109001 = 1 then (value_May.j1 k x109001 (x109001 == 1) x109000 x109001 x109002 x109003) else (value_May.j1 k x109001 (x109001 == 3) x109000 x109001 x109002 x109003))
def value_May.j1 : Nat → Int → Bool → ByteArray → Int → Int → ByteArray → Option (Int)
 | 0, _, _, _, _, _, _ => none
 | k + 1, x14, x15, x109000, x109001, x109002, x109003 => if x15 = true then (if x109003.toList = ([] : List UInt8) then (if x109002 < (-2305843009213693952) then (some 1) else (if x109002 ≥ 2305843009213693952 then (some 1) else (some 0))) else (some 13)) else (if x14 = 2 then (value_May.j2 k x14 (x14 == 2) x109000 x109001 x109002 x109003) else (value_May.j2 k x14 (x14 == 4) x109000 x109001 x109002 x109003))
def value_May.j2 : Nat → Int → Bool → ByteArray → Int → Int → ByteArray → Option (Int)
 | 0, _, _, _, _, _, _ => none
 | k + 1, x14, x29, x109000, x109001, x109002, x109003 => if x29 = true then (if x109002 = 0 then (if (x109003.size : Int) > 32 then (some 1) else (some 0)) else (some 13)) else (if x14 = 5 then (if x109002 = 0 then (if x109003.toList = ([] : List UInt8) then (some 0) else (some 13)) else (some 13)) else (some 5))
end
def value_May.f (k : Nat) (a0_0 : ByteArray) (a0_1 : Int) (a0_2 : Int) (a0_3 : ByteArray) : Option (Int) := if (a0_0.size : Int) < 1 then (value_May.j0 k true a0_0 a0_1 a0_2 a0_3) else (value_May.j0 k (decide ((a0_0.size : Int) > 16)) a0_0 a0_1 a0_2 a0_3)
theorem value_May.calls (k : Nat) (a0_0 : ByteArray) (a0_1 : Int) (a0_2 : Int) (a0_3 : ByteArray) (r : Int) (w : World) (h : value_May.f k a0_0 a0_1 a0_2 a0_3 = some r) :
  Calls Tryd.prog 69 #[.agg #[a0_0, a0_1, a0_2, a0_3]] w fun e w' => e = .returned (.int .i64 r) ∧ Below w.heap.size w w' := by
 have hu32 := Tryd.underlying32
 have HB := Am (Below.refl w.heap.size w)
 have H : (if (a0_0.size : Int) < 1 then (value_May.j0 k true a0_0 a0_1 a0_2 a0_3) else (value_May.j0 k (decide ((a0_0.size : Int) > 16)) a0_0 a0_1 a0_2 a0_3)) = some r := h
 clear h
 have HC2 := Am H
 clear H
 go_enter Tryd.func69, Tryd.ntmps69
 go_upto_region 1 with (first | ((with_reducible refine gD 1 rfl ?_); (try (refine gate_guard (by rfl) ?_; dsimp only)); refine box_event rfl (N := 1) rfl (cs := #[a0_0, a0_1, a0_2, a0_3]) (t := 32) gs_ ?_; intro gb108 hg w3 hbox hb; have BK108 := Am (hbox); have GW108 := Am (gw_ hg HB); have GE108 := Am (gw_ hg HB); replace HB := Am (below_step (bl_ HB) hb); clear hb hbox hg))
 (try simp only [Act.put, List.setIfInBounds_toArray, List.set_cons_zero, List.set_cons_succ])
 go_cut [12] (fun v12 wc => ∃ (kq : Nat) (x12_1 : Bool), v12 = .bool x12_1 ∧ Aside0 (value_May.j0 kq x12_1 a0_0 a0_1 a0_2 a0_3 = some r) ∧ Aside0 (kq ≤ k) ∧ Aside0 (wc.heap[gb108]? = some (.cells #[a0_0, a0_1, a0_2, a0_3] 32 (0, 0))) ∧ Aside0 (Below w.heap.size w wc))
 case first =>
  have H := HC2.out
  clear HC2
  by_cases c4 : (a0_0.size : Int) < 1
  ·rw [if_pos c4] at H
   have c4b0 := decide_eq_true c4
   have c4b1 : decide (a0_0.size < 1) = true := decide_eq_true (by omega)
   clear c4
   (first | rw [c4b0] | (simp only [i64_w, i32_w]; rw [c4b0]) | skip)
   have H' := Am H
   clear H
   have hz5 := kb4_ BK108
   go_wp2
   go_meet
   case rel => exact ⟨_, (true), er_, H', ⟨by first | omega | exact Nat.le_refl _⟩, ⟨bk_ BK108⟩, ⟨bl_ HB⟩⟩
  ·rw [if_neg c4] at H
   have c4b0 := decide_eq_false c4
   have c4b1 : decide (a0_0.size < 1) = false := decide_eq_false (by omega)
   clear c4
   (first | rw [c4b0] | (simp only [i64_w, i32_w]; rw [c4b0]) | skip)
   have H' := Am H
   clear H
   have hz6 := kb4_ BK108
   go_wp2
   go_meet
   case rel => exact ⟨_, (decide ((a0_0.size : Int) > 16)), er_, H', ⟨by first | omega | exact Nat.le_refl _⟩, ⟨bk_ BK108⟩, ⟨bl_ HB⟩⟩
 case rest =>
  clear HC2
  try clear p2
  try clear c4
  try clear c4b0
  try clear c4b1
  try clear c6
  try clear hz5
  try clear hz6
  try clear hz5
  try clear hz6
  obtain ⟨kq, x12_1, rfl, HA, HJ1, BK108, HB⟩ := hcut
  cases kq with
  | zero => exact absurd HA.out (by simp [value_May.j0])
  | succ kj1 =>
   have H := HA.out
   clear HA
   simp only [value_May.j0] at H
   by_cases c7 : x12_1 = true
   ·subst c7
    replace H : (some 1) = some r := by rw [if_pos rfl] at H; exact H
    obtain rfl := Option.some.inj H
    go_wp2
    go_ret
    exact ⟨ew_, bl_ HB⟩
   ·replace c7 := Bool.eq_false_iff.mpr c7
    subst c7
    replace H : (if a0_1 = 1 then (value_May.j1 kj1 a0_1 (a0_1 == 1) a0_0 a0_1 a0_2 a0_3) else (value_May.j1 kj1 a0_1 (a0_1 == 3) a0_0 a0_1 a0_2 a0_3)) = some r := by rw [if_neg (show ¬ (false = true) by decide)] at H; exact H
    have HC8 := Am H
    clear H
    have hz9 := kb4_ BK108
    go_upto_if 15 with (fail)
    go_cut [15] (fun v15 wc => ∃ (kq : Nat) (x15_7 : Bool), v15 = .bool x15_7 ∧ Aside0 (value_May.j1 kq a0_1 x15_7 a0_0 a0_1 a0_2 a0_3 = some r) ∧ Aside0 (kq ≤ kj1) ∧ Aside0 (wc.heap[gb108]? = some (.cells #[a0_0, a0_1, a0_2, a0_3] 32 (0, 0))) ∧ Aside0 (Below w.heap.size w wc))
    case first =>
     have H := HC8.out
     clear HC8
     by_cases c10 : a0_1 = 1
     ·rw [if_pos c10] at H
      have c10b0 : (a0_1 == 1) = true := beq_iff_eq.mpr c10
      have c10b1 : (a0_1 != 1) = false := bne_eq_false_iff_eq.mpr c10
      clear c10
      (first | rw [c10b0] | (simp only [i64_w, i32_w]; rw [c10b0]) | skip)
      have H' := Am H
      clear H
      go_wp2
      go_meet
      case rel => exact ⟨_, ((a0_1 == 1)), er_, H', ⟨by have := HJ1.out; first | omega | exact Nat.le_refl _⟩, ⟨bk_ BK108⟩, ⟨bl_ HB⟩⟩
     ·rw [if_neg c10] at H
      have c10b0 : (a0_1 == 1) = false := beq_eq_false_iff_ne.mpr c10
      have c10b1 : (a0_1 != 1) = true := bne_iff_ne.mpr c10
      (first | rw [c10b0] | (simp only [i64_w, i32_w]; rw [c10b0]) | skip)
      have H' := Am H
      clear H
      go_wp2
      go_meet
      case rel => exact ⟨_, ((a0_1 == 3)), er_, H', ⟨by have := HJ1.out; first | omega | exact Nat.le_refl _⟩, ⟨bk_ BK108⟩, ⟨bl_ HB⟩⟩
    case rest =>
     clear HC8
     try clear c1
     try clear p2
     try clear c4
     try clear c4b0
     try clear c4b1
     try clear c6
     try clear c7
     try clear c10
     try clear c10b0
     try clear c10b1
     try clear hz5
     try clear hz6
     try clear hz9
     try clear hz5
     try clear hz6
     try clear hz9
     try clear p2
     obtain ⟨kq, x15_7, rfl, HA, HJ7, BK108, HB⟩ := hcut
     cases kq with
     | zero => exact absurd HA.out (by simp [value_May.j1])
     | succ kj7 =>
      have H := HA.out
      clear HA
      simp only [value_May.j1] at H
      by_cases c11 : x15_7 = true
      ·subst c11
       replace H : (if a0_3.toList = ([] : List UInt8) then (if a0_2 < (-2305843009213693952) then (some 1) else (if a0_2 ≥ 2305843009213693952 then (some 1) else (some 0))) else (some 13)) = some r := by rw [if_pos rfl] at H; exact H
       by_cases c12 : a0_3.toList = ([] : List UInt8)
       ·rw [if_pos c12] at H
        have c12b0 : (a0_3.toList == ([] : List UInt8)) = true := beq_iff_eq.mpr c12
        have c12e0 : a0_3.toList.isEmpty = true := by rw [← beq_nil]; exact c12b0
        have c12b1 : (a0_3.toList != ([] : List UInt8)) = false := bne_eq_false_iff_eq.mpr c12
        clear c12
        by_cases c13 : a0_2 < (-2305843009213693952)
        ·rw [if_pos c13] at H
         have c13b0 := decide_eq_true c13
         clear c13
         obtain rfl := Option.some.inj H
         have hz14 := kb4_ BK108
         go_wp2
         go_ret
         exact ⟨ew_, bl_ HB⟩
        ·rw [if_neg c13] at H
         have c13b0 := decide_eq_false c13
         clear c13
         by_cases c15 : a0_2 ≥ 2305843009213693952
         ·rw [if_pos c15] at H
          have c15b0 : decide (2305843009213693952 ≤ a0_2) = true := decide_eq_true c15
          clear c15
          obtain rfl := Option.some.inj H
          have hz16 := kb4_ BK108
          go_wp2
          go_ret
          exact ⟨ew_, bl_ HB⟩
         ·rw [if_neg c15] at H
          have c15b0 : decide (2305843009213693952 ≤ a0_2) = false := decide_eq_false c15
          clear c15
          obtain rfl := Option.some.inj H
          have hz17 := kb4_ BK108
          go_wp2
          go_ret
          exact ⟨ew_, bl_ HB⟩
       ·rw [if_neg c12] at H
        have c12b0 : (a0_3.toList == ([] : List UInt8)) = false := beq_eq_false_iff_ne.mpr c12
        have c12e0 : a0_3.toList.isEmpty = false := by rw [← beq_nil]; exact c12b0
        have c12b1 : (a0_3.toList != ([] : List UInt8)) = true := bne_iff_ne.mpr c12
        obtain rfl := Option.some.inj H
        have hz18 := kb4_ BK108
        go_wp2
        go_ret
        exact ⟨ew_, bl_ HB⟩
      ·replace c11 := Bool.eq_false_iff.mpr c11
       subst c11
       replace H : (if a0_1 = 2 then (value_May.j2 kj7 a0_1 (a0_1 == 2) a0_0 a0_1 a0_2 a0_3) else (value_May.j2 kj7 a0_1 (a0_1 == 4) a0_0 a0_1 a0_2 a0_3)) = some r := by rw [if_neg (show ¬ (false = true) by decide)] at H; exact H
       have HC19 := Am H
       clear H
       go_upto_if 29 with (fail)
       go_cut [29] (fun v29 wc => ∃ (kq : Nat) (x29_18 : Bool), v29 = .bool x29_18 ∧ Aside0 (value_May.j2 kq a0_1 x29_18 a0_0 a0_1 a0_2 a0_3 = some r) ∧ Aside0 (kq ≤ kj7) ∧ Aside0 (wc.heap[gb108]? = some (.cells #[a0_0, a0_1, a0_2, a0_3] 32 (0, 0))) ∧ Aside0 (Below w.heap.size w wc))
       case first =>
        have H := HC19.out
        clear HC19
        by_cases c20 : a0_1 = 2
        ·rw [if_pos c20] at H
         have c20b0 : (a0_1 == 2) = true := beq_iff_eq.mpr c20
         have c20b1 : (a0_1 != 2) = false := bne_eq_false_iff_eq.mpr c20
         clear c20
         (first | rw [c20b0] | (simp only [i64_w, i32_w]; rw [c20b0]) | skip)
         have H' := Am H
         clear H
         go_wp2
         go_meet
         case rel => exact ⟨_, ((a0_1 == 2)), er_, H', ⟨by have := HJ1.out; have := HJ7.out; first | omega | exact Nat.le_refl _⟩, ⟨bk_ BK108⟩, ⟨bl_ HB⟩⟩
        ·rw [if_neg c20] at H
         have c20b0 : (a0_1 == 2) = false := beq_eq_false_iff_ne.mpr c20
         have c20b1 : (a0_1 != 2) = true := bne_iff_ne.mpr c20
         (first | rw [c20b0] | (simp only [i64_w, i32_w]; rw [c20b0]) | skip)
         have H' := Am H
         clear H
         go_wp2
         go_meet
         case rel => exact ⟨_, ((a0_1 == 4)), er_, H', ⟨by have := HJ1.out; have := HJ7.out; first | omega | exact Nat.le_refl _⟩, ⟨bk_ BK108⟩, ⟨bl_ HB⟩⟩
       case rest =>
        clear HC19
        try clear c1
        try clear c2
        try clear p2
        try clear c4
        try clear c4b0
        try clear c4b1
        try clear c6
        try clear c7
        try clear c10
        try clear c10b0
        try clear c10b1
        try clear c11
        try clear c12
        try clear c12b0
        try clear c12b1
        try clear c13
        try clear c13b0
        try clear c15
        try clear c15b0
        try clear c20
        try clear c20b0
        try clear c20b1
        try clear hz14
        try clear hz16
        try clear hz17
        try clear hz18
        try clear hz5
        try clear hz6
        try clear hz9
        try clear hz14
        try clear hz16
        try clear hz17
        try clear hz18
        try clear hz5
        try clear hz6
        try clear hz9
        try clear p2
        obtain ⟨kq, x29_18, rfl, HA, HJ18, BK108, HB⟩ := hcut
        cases kq with
        | zero => exact absurd HA.out (by simp [value_May.j2])
        | succ kj18 =>
         have H := HA.out
         clear HA
         simp only [value_May.j2] at H
         by_cases c21 : x29_18 = true
         ·subst c21
          replace H : (if a0_2 = 0 then (if (a0_3.size : Int) > 32 then (some 1) else (some 0)) else (some 13)) = some r := by rw [if_pos rfl] at H; exact H
          by_cases c22 : a0_2 = 0
          ·rw [if_pos c22] at H
           have c22b0 : (a0_2 == 0) = true := beq_iff_eq.mpr c22
           have c22b1 : (a0_2 != 0) = false := bne_eq_false_iff_eq.mpr c22
           clear c22
           by_cases c23 : (a0_3.size : Int) > 32
           ·rw [if_pos c23] at H
            have c23b0 : decide (32 < (a0_3.size : Int)) = true := decide_eq_true c23
            have c23b1 : decide (32 < a0_3.size) = true := decide_eq_true (by omega)
            clear c23
            obtain rfl := Option.some.inj H
            have hz24 := kb4_ BK108
            go_wp2
            go_ret
            exact ⟨ew_, bl_ HB⟩
           ·rw [if_neg c23] at H
            have c23b0 : decide (32 < (a0_3.size : Int)) = false := decide_eq_false c23
            have c23b1 : decide (32 < a0_3.size) = false := decide_eq_false (by omega)
            clear c23
            obtain rfl := Option.some.inj H
            have hz25 := kb4_ BK108
            go_wp2
            go_ret
            exact ⟨ew_, bl_ HB⟩
          ·rw [if_neg c22] at H
           have c22b0 : (a0_2 == 0) = false := beq_eq_false_iff_ne.mpr c22
           have c22b1 : (a0_2 != 0) = true := bne_iff_ne.mpr c22
           obtain rfl := Option.some.inj H
           have hz26 := kb4_ BK108
           go_wp2
           go_ret
           exact ⟨ew_, bl_ HB⟩
         ·replace c21 := Bool.eq_false_iff.mpr c21
          subst c21
          replace H : (if a0_1 = 5 then (if a0_2 = 0 then (if a0_3.toList = ([] : List UInt8) then (some 0) else (some 13)) else (some 13)) else (some 5)) = some r := by rw [if_neg (show ¬ (false = true) by decide)] at H; exact H
          by_cases c27 : a0_1 = 5
          ·rw [if_pos c27] at H
           have c27b0 : (a0_1 == 5) = true := beq_iff_eq.mpr c27
           have c27b1 : (a0_1 != 5) = false := bne_eq_false_iff_eq.mpr c27
           clear c27
           by_cases c28 : a0_2 = 0
           ·rw [if_pos c28] at H
            have c28b0 : (a0_2 == 0) = true := beq_iff_eq.mpr c28
            have c28b1 : (a0_2 != 0) = false := bne_eq_false_iff_eq.mpr c28
            clear c28
            by_cases c29 : a0_3.toList = ([] : List UInt8)
            ·rw [if_pos c29] at H
             have c29b0 : (a0_3.toList == ([] : List UInt8)) = true := beq_iff_eq.mpr c29
             have c29e0 : a0_3.toList.isEmpty = true := by rw [← beq_nil]; exact c29b0
             have c29b1 : (a0_3.toList != ([] : List UInt8)) = false := bne_eq_false_iff_eq.mpr c29
             clear c29
             obtain rfl := Option.some.inj H
             have hz30 := kb4_ BK108
             go_wp2
             go_ret
             exact ⟨ew_, bl_ HB⟩
            ·rw [if_neg c29] at H
             have c29b0 : (a0_3.toList == ([] : List UInt8)) = false := beq_eq_false_iff_ne.mpr c29
             have c29e0 : a0_3.toList.isEmpty = false := by rw [← beq_nil]; exact c29b0
             have c29b1 : (a0_3.toList != ([] : List UInt8)) = true := bne_iff_ne.mpr c29
             obtain rfl := Option.some.inj H
             have hz31 := kb4_ BK108
             go_wp2
             go_ret
             exact ⟨ew_, bl_ HB⟩
           ·rw [if_neg c28] at H
            have c28b0 : (a0_2 == 0) = false := beq_eq_false_iff_ne.mpr c28
            have c28b1 : (a0_2 != 0) = true := bne_iff_ne.mpr c28
            obtain rfl := Option.some.inj H
            have hz32 := kb4_ BK108
            go_wp2
            go_ret
            exact ⟨ew_, bl_ HB⟩
          ·rw [if_neg c27] at H
           have c27b0 : (a0_1 == 5) = false := beq_eq_false_iff_ne.mpr c27
           have c27b1 : (a0_1 != 5) = true := bne_iff_ne.mpr c27
           obtain rfl := Option.some.inj H
           go_wp2
           go_ret
           exact ⟨ew_, bl_ HB⟩
def round_in.f (a0 : Int) (a1 : Int) (a2 : Int) : Option (Bool) := if a0 ≥ a1 then (some (decide (a0 ≤ a2))) else (some false)
theorem round_in.calls (a0 : Int) (a1 : Int) (a2 : Int) (r : Bool) (w : World) (h : round_in.f a0 a1 a2 = some r) :
  Calls Tryd.prog 95 #[a0, a1, a2] w fun e w' => e = .returned (.bool r) ∧ Drawn0 w w' := by
 have H : (if a0 ≥ a1 then (some (decide (a0 ≤ a2))) else (some false)) = some r := h
 clear h
 by_cases c4 : a0 ≥ a1
 ·rw [if_pos c4] at H
  have c4b0 : decide (a1 ≤ a0) = true := decide_eq_true c4
  clear c4
  obtain rfl := Option.some.inj H
  go_enter Tryd.func95, Tryd.ntmps95
  go_wp2
  go_ret
  exact ⟨es_, by repeat (first | exact Drawn0.refl _ | apply Drawn0.step)⟩
 ·rw [if_neg c4] at H
  have c4b0 : decide (a1 ≤ a0) = false := decide_eq_false c4
  clear c4
  obtain rfl := Option.some.inj H
  go_enter Tryd.func95, Tryd.ntmps95
  go_wp2
  go_ret
  exact ⟨es_, by repeat (first | exact Drawn0.refl _ | apply Drawn0.step)⟩
end Go.Proofs.YtjdenpmaianmfaaDoor.Q
