/- Contracts of the seat's functions, printed: if the Lean function comes to a value, the Go function returns it. -/
import Derived.Test.YtjdenpmaianmfaaDoorY6Spell
namespace Go.Proofs.YtjdenpmaianmfaaDoor.Q
open RowKit YtjdenpmaianmfaaDoorW.PrintWords YtjdenpmaianmfaaDoorW.PrintLast YtjdenpmaianmfaaDoorW.PrintMore
attribute [local go_sem] max2_int min2_int max_two min_two max_three min_three max_four min_four
set_option maxHeartbeats 16000000
set_option maxRecDepth 100000
set_option linter.unusedVariables false
set_option linter.unusedSimpArgs false
mutual
def chapbookref04_May.j0 : Nat → Bool → ByteArray → Int → Int → ByteArray → Option (Int)
 | 0, _, _, _, _, _ => none
 | k + 1, x14, x138000, x138001, x138002, x138003 => if x14 = true then (some 1) else (if x138001 < 1 then (chapbookref04_May.j1 k true x138000 x138001 x138002 x138003) else (chapbookref04_May.j1 k (decide (x138001 > 5)) x138000 x138001 x138002 x138003))
def chapbookref04_May.j1 : Nat → Bool → ByteArray → Int → Int → ByteArray → Option (Int)
 | 0, _, _, _, _, _ => none
 | k + 1, x22, x138000, x138001, x138002, x138003 => if x22 = true then (some 5) else (if x138001 = 1 then (chapbookref04_May.j2 k true x138000 x138001 x138002 x138003) else (chapbookref04_May.j2 k (x138001 == 3) x138000 x138001 x138002 x138003))
def chapbookref04_May.j2 : Nat → Bool → ByteArray → Int → Int → ByteArray → Option (Int)
 | 0, _, _, _, _, _ => none
 | k + 1, x3, x138000, x138001, x138002, x138003 => if x138001 = 2 then (chapbookref04_May.j3 k x3 true x138000 x138001 x138002 x138003) else (chapbookref04_May.j3 k x3 (x138001 == 4) x138000 x138001 x138002 x138003)
def chapbookref04_May.j3 : Nat → Bool → Bool → ByteArray → Int → Int → ByteArray → Option (Int)
 | 0, _, _, _, _, _, _ => none
 | k + 1, x3, x4, x138000, x138001, x138002, x138003 => if x3 = true then (if x4 = true then (chapbookref04_May.j4 k false x138000 x138001 x138002 x138003) else (chapbookref04_May.j4 k (x138003.toList != ([] : List UInt8)) x138000 x138001 x138002 x138003)) else (if x138002 = 0 then (if x4 = true then (chapbookref04_May.j4 k false x138000 x138001 x138002 x138003) else (chapbookref04_May.j4 k (x138003.toList != ([] : List UInt8)) x138000 x138001 x138002 x138003)) else (chapbookref04_May.j4 k true x138000 x138001 x138002 x138003))
def chapbookref04_May.j4 : Nat → Bool → ByteArray → Int → Int → ByteArray → Option (Int)
 | 0, _, _, _, _, _ => none
 | k + 1, x54, x138000, x138001, x138002, x138003 => if x54 = true then (some 13) else (if x138002 < (-2305843009213693952) then (some 1) else (if x138002 > 2305843009213693951 then (some 1) else (if (x138003.size : Int) > 32 then (some 1) else (some 0))))
end
def chapbookref04_May.f (k : Nat) (a0_0 : ByteArray) (a0_1 : Int) (a0_2 : Int) (a0_3 : ByteArray) : Option (Int) := if (a0_0.size : Int) = 0 then (chapbookref04_May.j0 k true a0_0 a0_1 a0_2 a0_3) else (chapbookref04_May.j0 k (decide ((a0_0.size : Int) > 16)) a0_0 a0_1 a0_2 a0_3)
theorem chapbookref04_May.calls (k : Nat) (a0_0 : ByteArray) (a0_1 : Int) (a0_2 : Int) (a0_3 : ByteArray) (r : Int) (w : World) (h : chapbookref04_May.f k a0_0 a0_1 a0_2 a0_3 = some r) :
  Calls Tryd.prog 86 #[.agg #[a0_0, a0_1, a0_2, a0_3]] w fun e w' => e = .returned (.int .i64 r) ∧ Below w.heap.size w w' := by
 have hu32 := Tryd.underlying32
 have HB := Am (Below.refl w.heap.size w)
 have H : (if (a0_0.size : Int) = 0 then (chapbookref04_May.j0 k true a0_0 a0_1 a0_2 a0_3) else (chapbookref04_May.j0 k (decide ((a0_0.size : Int) > 16)) a0_0 a0_1 a0_2 a0_3)) = some r := h
 clear h
 have HC2 := Am H
 clear H
 go_enter Tryd.func86, Tryd.ntmps86
 go_upto_region 1 with (first | ((with_reducible refine gD 1 rfl ?_); (try (refine gate_guard (by rfl) ?_; dsimp only)); refine box_event rfl (N := 1) rfl (cs := #[a0_0, a0_1, a0_2, a0_3]) (t := 32) gs_ ?_; intro gb137 hg w3 hbox hb; have BK137 := Am (hbox); have GW137 := Am (gw_ hg HB); have GE137 := Am (gw_ hg HB); replace HB := Am (below_step (bl_ HB) hb); clear hb hbox hg))
 (try simp only [Act.put, List.setIfInBounds_toArray, List.set_cons_zero, List.set_cons_succ])
 go_cut [14] (fun v14 wc => ∃ (kq : Nat) (x14_1 : Bool), v14 = .bool x14_1 ∧ Aside0 (chapbookref04_May.j0 kq x14_1 a0_0 a0_1 a0_2 a0_3 = some r) ∧ Aside0 (kq ≤ k) ∧ Aside0 (wc.heap[gb137]? = some (.cells #[a0_0, a0_1, a0_2, a0_3] 32 (0, 0))) ∧ Aside0 (Below w.heap.size w wc))
 case first =>
  have H := HC2.out
  clear HC2
  by_cases c4 : (a0_0.size : Int) = 0
  ·rw [if_pos c4] at H
   have c4b0 : ((a0_0.size : Int) == 0) = true := beq_iff_eq.mpr c4
   have c4b1 : ((a0_0.size : Int) != 0) = false := bne_eq_false_iff_eq.mpr c4
   clear c4
   (first | rw [c4b0] | (simp only [i64_w, i32_w]; rw [c4b0]) | skip)
   have H' := Am H
   clear H
   have hz5 := kb4_ BK137
   go_wp2
   go_meet
   case rel => exact ⟨_, (true), er_, H', ⟨by first | omega | exact Nat.le_refl _⟩, ⟨bk_ BK137⟩, ⟨bl_ HB⟩⟩
  ·rw [if_neg c4] at H
   have c4b0 : ((a0_0.size : Int) == 0) = false := beq_eq_false_iff_ne.mpr c4
   have c4b1 : ((a0_0.size : Int) != 0) = true := bne_iff_ne.mpr c4
   (first | rw [c4b0] | (simp only [i64_w, i32_w]; rw [c4b0]) | skip)
   have H' := Am H
   clear H
   have hz6 := kb4_ BK137
   go_wp2
   go_meet
   case rel => exact ⟨_, (decide ((a0_0.size : Int) > 16)), er_, H', ⟨by first | omega | exact Nat.le_refl _⟩, ⟨bk_ BK137⟩, ⟨bl_ HB⟩⟩
 case rest =>
  clear HC2
  try clear p2
  try clear c4
  try clear c4b0
  try clear c4b1
  try clear hz5
  try clear hz6
  try clear hz5
  try clear hz6
  obtain ⟨kq, x14_1, rfl, HA, HJ1, BK137, HB⟩ := hcut
  cases kq with
  | zero => exact absurd HA.out (by simp [chapbookref04_May.j0])
  | succ kj1 =>
   have H := HA.out
   clear HA
   simp only [chapbookref04_May.j0] at H
   by_cases c7 : x14_1 = true
   ·subst c7
    replace H : (some 1) = some r := by rw [if_pos rfl] at H; exact H
    obtain rfl := Option.some.inj H
    go_wp2
    go_ret
    exact ⟨ew_, bl_ HB⟩
   ·replace c7 := Bool.eq_false_iff.mpr c7
    subst c7
    replace H : (if a0_1 < 1 then (chapbookref04_May.j1 kj1 true a0_0 a0_1 a0_2 a0_3) else (chapbookref04_May.j1 kj1 (decide (a0_1 > 5)) a0_0 a0_1 a0_2 a0_3)) = some r := by rw [if_neg (show ¬ (false = true) by decide)] at H; exact H
    have HC8 := Am H
    clear H
    go_upto_region 3 with (fail)
    go_cut [22] (fun v22 wc => ∃ (kq : Nat) (x22_7 : Bool), v22 = .bool x22_7 ∧ Aside0 (chapbookref04_May.j1 kq x22_7 a0_0 a0_1 a0_2 a0_3 = some r) ∧ Aside0 (kq ≤ kj1) ∧ Aside0 (wc.heap[gb137]? = some (.cells #[a0_0, a0_1, a0_2, a0_3] 32 (0, 0))) ∧ Aside0 (Below w.heap.size w wc))
    case first =>
     have H := HC8.out
     clear HC8
     by_cases c9 : a0_1 < 1
     ·rw [if_pos c9] at H
      have c9b0 := decide_eq_true c9
      clear c9
      (first | rw [c9b0] | (simp only [i64_w, i32_w]; rw [c9b0]) | skip)
      have H' := Am H
      clear H
      have hz10 := kb4_ BK137
      go_wp2
      go_meet
      case rel => exact ⟨_, (true), er_, H', ⟨by have := HJ1.out; first | omega | exact Nat.le_refl _⟩, ⟨bk_ BK137⟩, ⟨bl_ HB⟩⟩
     ·rw [if_neg c9] at H
      have c9b0 := decide_eq_false c9
      clear c9
      (first | rw [c9b0] | (simp only [i64_w, i32_w]; rw [c9b0]) | skip)
      have H' := Am H
      clear H
      have hz11 := kb4_ BK137
      go_wp2
      go_meet
      case rel => exact ⟨_, (decide (a0_1 > 5)), er_, H', ⟨by have := HJ1.out; first | omega | exact Nat.le_refl _⟩, ⟨bk_ BK137⟩, ⟨bl_ HB⟩⟩
    case rest =>
     clear HC8
     try clear p2
     try clear c4
     try clear c4b0
     try clear c4b1
     try clear c7
     try clear c8
     try clear c9
     try clear c9b0
     try clear hz10
     try clear hz11
     try clear hz5
     try clear hz6
     try clear hz10
     try clear hz11
     try clear hz5
     try clear hz6
     try clear p2
     obtain ⟨kq, x22_7, rfl, HA, HJ7, BK137, HB⟩ := hcut
     cases kq with
     | zero => exact absurd HA.out (by simp [chapbookref04_May.j1])
     | succ kj7 =>
      have H := HA.out
      clear HA
      simp only [chapbookref04_May.j1] at H
      by_cases c12 : x22_7 = true
      ·subst c12
       replace H : (some 5) = some r := by rw [if_pos rfl] at H; exact H
       obtain rfl := Option.some.inj H
       go_wp2
       go_ret
       exact ⟨ew_, bl_ HB⟩
      ·replace c12 := Bool.eq_false_iff.mpr c12
       subst c12
       replace H : (if a0_1 = 1 then (chapbookref04_May.j2 kj7 true a0_0 a0_1 a0_2 a0_3) else (chapbookref04_May.j2 kj7 (a0_1 == 3) a0_0 a0_1 a0_2 a0_3)) = some r := by rw [if_neg (show ¬ (false = true) by decide)] at H; exact H
       have HC13 := Am H
       clear H
       go_upto_region 5 with (fail)
       go_cut [3] (fun v3 wc => ∃ (kq : Nat) (x3_12 : Bool), v3 = .bool x3_12 ∧ Aside0 (chapbookref04_May.j2 kq x3_12 a0_0 a0_1 a0_2 a0_3 = some r) ∧ Aside0 (kq ≤ kj7) ∧ Aside0 (wc.heap[gb137]? = some (.cells #[a0_0, a0_1, a0_2, a0_3] 32 (0, 0))) ∧ Aside0 (Below w.heap.size w wc))
       case first =>
        have H := HC13.out
        clear HC13
        by_cases c14 : a0_1 = 1
        ·rw [if_pos c14] at H
         have c14b0 : (a0_1 == 1) = true := beq_iff_eq.mpr c14
         have c14b1 : (a0_1 != 1) = false := bne_eq_false_iff_eq.mpr c14
         clear c14
         (first | rw [c14b0] | (simp only [i64_w, i32_w]; rw [c14b0]) | skip)
         have H' := Am H
         clear H
         have hz15 := kb4_ BK137
         go_wp2
         go_meet
         case rel => exact ⟨_, (true), er_, H', ⟨by have := HJ1.out; have := HJ7.out; first | omega | exact Nat.le_refl _⟩, ⟨bk_ BK137⟩, ⟨bl_ HB⟩⟩
        ·rw [if_neg c14] at H
         have c14b0 : (a0_1 == 1) = false := beq_eq_false_iff_ne.mpr c14
         have c14b1 : (a0_1 != 1) = true := bne_iff_ne.mpr c14
         (first | rw [c14b0] | (simp only [i64_w, i32_w]; rw [c14b0]) | skip)
         have H' := Am H
         clear H
         have hz16 := kb4_ BK137
         go_wp2
         go_meet
         case rel => exact ⟨_, ((a0_1 == 3)), er_, H', ⟨by have := HJ1.out; have := HJ7.out; first | omega | exact Nat.le_refl _⟩, ⟨bk_ BK137⟩, ⟨bl_ HB⟩⟩
       case rest =>
        clear HC13
        try clear c1
        try clear p2
        try clear c4
        try clear c4b0
        try clear c4b1
        try clear c7
        try clear c8
        try clear c9
        try clear c9b0
        try clear c12
        try clear c14
        try clear c14b0
        try clear c14b1
        try clear hz10
        try clear hz11
        try clear hz15
        try clear hz16
        try clear hz5
        try clear hz6
        try clear hz10
        try clear hz11
        try clear hz15
        try clear hz16
        try clear hz5
        try clear hz6
        try clear p2
        obtain ⟨kq, x3_12, rfl, HA, HJ12, BK137, HB⟩ := hcut
        cases kq with
        | zero => exact absurd HA.out (by simp [chapbookref04_May.j2])
        | succ kj12 =>
         have H := HA.out
         clear HA
         simp only [chapbookref04_May.j2] at H
         have HC17 := Am H
         clear H
         go_upto_region 6 with (fail)
         go_cut [4] (fun v4 wc => ∃ (kq : Nat) (x4_16 : Bool), v4 = .bool x4_16 ∧ Aside0 (chapbookref04_May.j3 kq x3_12 x4_16 a0_0 a0_1 a0_2 a0_3 = some r) ∧ Aside0 (kq ≤ kj12) ∧ Aside0 (wc.heap[gb137]? = some (.cells #[a0_0, a0_1, a0_2, a0_3] 32 (0, 0))) ∧ Aside0 (Below w.heap.size w wc))
         case first =>
          have H := HC17.out
          clear HC17
          by_cases c18 : a0_1 = 2
          ·rw [if_pos c18] at H
           have c18b0 : (a0_1 == 2) = true := beq_iff_eq.mpr c18
           have c18b1 : (a0_1 != 2) = false := bne_eq_false_iff_eq.mpr c18
           clear c18
           (first | rw [c18b0] | (simp only [i64_w, i32_w]; rw [c18b0]) | skip)
           have H' := Am H
           clear H
           have hz19 := kb4_ BK137
           go_wp2
           go_meet
           case rel => exact ⟨_, (true), er_, H', ⟨by have := HJ1.out; have := HJ7.out; have := HJ12.out; first | omega | exact Nat.le_refl _⟩, ⟨bk_ BK137⟩, ⟨bl_ HB⟩⟩
          ·rw [if_neg c18] at H
           have c18b0 : (a0_1 == 2) = false := beq_eq_false_iff_ne.mpr c18
           have c18b1 : (a0_1 != 2) = true := bne_iff_ne.mpr c18
           (first | rw [c18b0] | (simp only [i64_w, i32_w]; rw [c18b0]) | skip)
           have H' := Am H
           clear H
           have hz20 := kb4_ BK137
           go_wp2
           go_meet
           case rel => exact ⟨_, ((a0_1 == 4)), er_, H', ⟨by have := HJ1.out; have := HJ7.out; have := HJ12.out; first | omega | exact Nat.le_refl _⟩, ⟨bk_ BK137⟩, ⟨bl_ HB⟩⟩
         case rest =>
          clear HC17
          try clear c1
          try clear p2
          try clear c4
          try clear c4b0
          try clear c4b1
          try clear c7
          try clear c8
          try clear c9
          try clear c9b0
          try clear c12
          try clear c14
          try clear c14b0
          try clear c14b1
          try clear c18
          try clear c18b0
          try clear c18b1
          try clear hz10
          try clear hz11
          try clear hz15
          try clear hz16
          try clear hz19
          try clear hz20
          try clear hz5
          try clear hz6
          try clear hz10
          try clear hz11
          try clear hz15
          try clear hz16
          try clear hz19
          try clear hz20
          try clear hz5
          try clear hz6
          try clear p2
          obtain ⟨kq, x4_16, rfl, HA, HJ16, BK137, HB⟩ := hcut
          cases kq with
          | zero => exact absurd HA.out (by simp [chapbookref04_May.j3])
          | succ kj16 =>
           have H := HA.out
           clear HA
           simp only [chapbookref04_May.j3] at H
           have HC21 := Am H
           clear H
           go_upto_region 7 with (fail)
           go_cut [54] (fun v54 wc => ∃ (kq : Nat) (x54_20 : Bool), v54 = .bool x54_20 ∧ Aside0 (chapbookref04_May.j4 kq x54_20 a0_0 a0_1 a0_2 a0_3 = some r) ∧ Aside0 (kq ≤ kj16) ∧ Aside0 (wc.heap[gb137]? = some (.cells #[a0_0, a0_1, a0_2, a0_3] 32 (0, 0))) ∧ Aside0 (Below w.heap.size w wc))
           case first =>
            have H := HC21.out
            clear HC21
            by_cases c22 : x3_12 = true
            ·subst c22
             replace H : (if x4_16 = true then (chapbookref04_May.j4 kj16 false a0_0 a0_1 a0_2 a0_3) else (chapbookref04_May.j4 kj16 (a0_3.toList != ([] : List UInt8)) a0_0 a0_1 a0_2 a0_3)) = some r := by rw [if_pos rfl] at H; exact H
             by_cases c23 : x4_16 = true
             ·subst c23
              replace H : (chapbookref04_May.j4 kj16 false a0_0 a0_1 a0_2 a0_3) = some r := by rw [if_pos rfl] at H; exact H
              have H' := Am H
              clear H
              go_wp2
              go_meet
              case rel => exact ⟨_, (false), er_, H', ⟨by have := HJ1.out; have := HJ7.out; have := HJ12.out; have := HJ16.out; first | omega | exact Nat.le_refl _⟩, ⟨bk_ BK137⟩, ⟨bl_ HB⟩⟩
             ·replace c23 := Bool.eq_false_iff.mpr c23
              subst c23
              replace H : (chapbookref04_May.j4 kj16 (a0_3.toList != ([] : List UInt8)) a0_0 a0_1 a0_2 a0_3) = some r := by rw [if_neg (show ¬ (false = true) by decide)] at H; exact H
              have H' := Am H
              clear H
              have hz24 := kb4_ BK137
              go_wp2
              go_meet
              case rel => exact ⟨_, ((a0_3.toList != ([] : List UInt8))), er_, H', ⟨by have := HJ1.out; have := HJ7.out; have := HJ12.out; have := HJ16.out; first | omega | exact Nat.le_refl _⟩, ⟨bk_ BK137⟩, ⟨bl_ HB⟩⟩
            ·replace c22 := Bool.eq_false_iff.mpr c22
             subst c22
             replace H : (if a0_2 = 0 then (if x4_16 = true then (chapbookref04_May.j4 kj16 false a0_0 a0_1 a0_2 a0_3) else (chapbookref04_May.j4 kj16 (a0_3.toList != ([] : List UInt8)) a0_0 a0_1 a0_2 a0_3)) else (chapbookref04_May.j4 kj16 true a0_0 a0_1 a0_2 a0_3)) = some r := by rw [if_neg (show ¬ (false = true) by decide)] at H; exact H
             by_cases c25 : a0_2 = 0
             ·rw [if_pos c25] at H
              have c25b0 : (a0_2 == 0) = true := beq_iff_eq.mpr c25
              have c25b1 : (a0_2 != 0) = false := bne_eq_false_iff_eq.mpr c25
              clear c25
              (first | rw [c25b0] | (simp only [i64_w, i32_w]; rw [c25b0]) | skip)
              by_cases c26 : x4_16 = true
              ·subst c26
               replace H : (chapbookref04_May.j4 kj16 false a0_0 a0_1 a0_2 a0_3) = some r := by rw [if_pos rfl] at H; exact H
               have H' := Am H
               clear H
               have hz27 := kb4_ BK137
               go_wp2
               go_meet
               case rel => exact ⟨_, (false), er_, H', ⟨by have := HJ1.out; have := HJ7.out; have := HJ12.out; have := HJ16.out; first | omega | exact Nat.le_refl _⟩, ⟨bk_ BK137⟩, ⟨bl_ HB⟩⟩
              ·replace c26 := Bool.eq_false_iff.mpr c26
               subst c26
               replace H : (chapbookref04_May.j4 kj16 (a0_3.toList != ([] : List UInt8)) a0_0 a0_1 a0_2 a0_3) = some r := by rw [if_neg (show ¬ (false = true) by decide)] at H; exact H
               have H' := Am H
               clear H
               have hz28 := kb4_ BK137
               go_wp2
               go_meet
               case rel => exact ⟨_, ((a0_3.toList != ([] : List UInt8))), er_, H', ⟨by have := HJ1.out; have := HJ7.out; have := HJ12.out; have := HJ16.out; first | omega | exact Nat.le_refl _⟩, ⟨bk_ BK137⟩, ⟨bl_ HB⟩⟩
             ·rw [if_neg c25] at H
              have c25b0 : (a0_2 == 0) = false := beq_eq_false_iff_ne.mpr c25
              have c25b1 : (a0_2 != 0) = true := bne_iff_ne.mpr c25
              (first | rw [c25b0] | (simp only [i64_w, i32_w]; rw [c25b0]) | skip)
              have H' := Am H
              clear H
              have hz29 := kb4_ BK137
              go_wp2
              go_meet
              case rel => exact ⟨_, (true), er_, H', ⟨by have := HJ1.out; have := HJ7.out; have := HJ12.out; have := HJ16.out; first | omega | exact Nat.le_refl _⟩, ⟨bk_ BK137⟩, ⟨bl_ HB⟩⟩
           case rest =>
            clear HC21
            try clear c1
            try clear c2
            try clear p2
            try clear c4
            try clear c4b0
            try clear c4b1
            try clear c7
            try clear c8
            try clear c9
            try clear c9b0
            try clear c12
            try clear c14
            try clear c14b0
            try clear c14b1
            try clear c18
            try clear c18b0
            try clear c18b1
            try clear c22
            try clear c23
            try clear c25
            try clear c25b0
            try clear c25b1
            try clear c26
            try clear hz10
            try clear hz11
            try clear hz15
            try clear hz16
            try clear hz19
            try clear hz20
            try clear hz24
            try clear hz27
            try clear hz28
            try clear hz29
            try clear hz5
            try clear hz6
            try clear hz10
            try clear hz11
            try clear hz15
            try clear hz16
            try clear hz19
            try clear hz20
            try clear hz24
            try clear hz27
            try clear hz28
            try clear hz29
            try clear hz5
            try clear hz6
            try clear p2
            obtain ⟨kq, x54_20, rfl, HA, HJ20, BK137, HB⟩ := hcut
            cases kq with
            | zero => exact absurd HA.out (by simp [chapbookref04_May.j4])
            | succ kj20 =>
             have H := HA.out
             clear HA
             simp only [chapbookref04_May.j4] at H
             by_cases c30 : x54_20 = true
             ·subst c30
              replace H : (some 13) = some r := by rw [if_pos rfl] at H; exact H
              obtain rfl := Option.some.inj H
              go_wp2
              go_ret
              exact ⟨ew_, bl_ HB⟩
             ·replace c30 := Bool.eq_false_iff.mpr c30
              subst c30
              replace H : (if a0_2 < (-2305843009213693952) then (some 1) else (if a0_2 > 2305843009213693951 then (some 1) else (if (a0_3.size : Int) > 32 then (some 1) else (some 0)))) = some r := by rw [if_neg (show ¬ (false = true) by decide)] at H; exact H
              by_cases c31 : a0_2 < (-2305843009213693952)
              ·rw [if_pos c31] at H
               have c31b0 := decide_eq_true c31
               clear c31
               obtain rfl := Option.some.inj H
               have hz32 := kb4_ BK137
               go_wp2
               go_ret
               exact ⟨ew_, bl_ HB⟩
              ·rw [if_neg c31] at H
               have c31b0 := decide_eq_false c31
               clear c31
               by_cases c33 : a0_2 > 2305843009213693951
               ·rw [if_pos c33] at H
                have c33b0 : decide (2305843009213693951 < a0_2) = true := decide_eq_true c33
                clear c33
                obtain rfl := Option.some.inj H
                have hz34 := kb4_ BK137
                go_wp2
                go_ret
                exact ⟨ew_, bl_ HB⟩
               ·rw [if_neg c33] at H
                have c33b0 : decide (2305843009213693951 < a0_2) = false := decide_eq_false c33
                clear c33
                by_cases c35 : (a0_3.size : Int) > 32
                ·rw [if_pos c35] at H
                 have c35b0 : decide (32 < (a0_3.size : Int)) = true := decide_eq_true c35
                 have c35b1 : decide (32 < a0_3.size) = true := decide_eq_true (by omega)
                 clear c35
                 obtain rfl := Option.some.inj H
                 have hz36 := kb4_ BK137
                 go_wp2
                 go_ret
                 exact ⟨ew_, bl_ HB⟩
                ·rw [if_neg c35] at H
                 have c35b0 : decide (32 < (a0_3.size : Int)) = false := decide_eq_false c35
                 have c35b1 : decide (32 < a0_3.size) = false := decide_eq_false (by omega)
                 clear c35
                 obtain rfl := Option.some.inj H
                 have hz37 := kb4_ BK137
                 go_wp2
                 go_ret
                 exact ⟨ew_, bl_ HB⟩
end Go.Proofs.YtjdenpmaianmfaaDoor.Q
