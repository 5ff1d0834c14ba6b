/- Contracts of the seat's functions, printed: if the Lean function comes to a value, the Go function returns it. -/
import Derived.Test.YtjdenpmaianmfaaDoorY6Q5
namespace Go.Proofs.YtjdenpmaianmfaaDoor.Q
open RowKit YtjdenpmaianmfaaDoorW.PrintWords YtjdenpmaianmfaaDoorW.PrintLast YtjdenpmaianmfaaDoorW.PrintMore
attribute [local go_sem] max2_int min2_int max_two min_two max_three min_three max_four min_four
set_option linter.unusedVariables false
set_option linter.unusedSimpArgs false
theorem eqA32 (d : Nat) (w : World) (x0 y0 : ByteArray) (x1 y1 : Int) (x2 y2 : Int) (x3 y3 : ByteArray) :
  (Op.equalIn (d + 2) 32 (.agg #[x0, x1, x2, x3]) (.agg #[y0, y1, y2, y3])).run Tryd.prog w = .ok (x0.toList == y0.toList && (x1 == y1 && (x2 == y2 && (x3.toList == y3.toList)))) w := by
 refine eqA_of Tryd.underlying32 (by kernel_rfl) ?_
 refine eqf_cons (by rfl) (by go_simp; rfl) (by go_simp; rfl) (by go_simp) ?_
 refine eqf_cons (by rfl) (by go_simp; rfl) (by go_simp; rfl) (by go_simp) ?_
 refine eqf_cons (by rfl) (by go_simp; rfl) (by go_simp; rfl) (by go_simp) ?_
 exact eqf_last (by rfl) (by go_simp; rfl) (by go_simp; rfl) (by go_simp)
end Go.Proofs.YtjdenpmaianmfaaDoor.Q
namespace Go.Proofs.YtjdenpmaianmfaaDoor.Q
open RowKit YtjdenpmaianmfaaDoorW.PrintWords YtjdenpmaianmfaaDoorW.PrintLast YtjdenpmaianmfaaDoorW.PrintMore
attribute [local go_sem] max2_int min2_int max_two min_two max_three min_three max_four min_four
set_option maxHeartbeats 16000000
set_option maxRecDepth 100000
set_option linter.unusedVariables false
set_option linter.unusedSimpArgs false
attribute [local go_sem high] eqA32
mutual
def chapbookref07_May.j0 : Nat → Int → Bool → Int → Int → List (S32) → Option (Int)
 | 0, _, _, _, _, _ => none
 | k + 1, x3, x34, x139000, x139001, x139002 => if x34 = true then (some 1) else (chapbookref07_May.l0 k x3 0 x139000 x139001 x139002)
def chapbookref07_May.l0 : Nat → Int → Int → Int → Int → List (S32) → Option (Int)
 | 0, _, _, _, _, _ => none
 | k + 1, x3, x4, x139000, x139001, x139002 => if x4 < x3 then (if 0 ≤ x4 then (if x4 < (x139002.length : Int) then ((chapbookref04_May.f k ((rd_T32 x139002 x4).f0) ((rd_T32 x139002 x4).f1) ((rd_T32 x139002 x4).f2) ((rd_T32 x139002 x4).f3)).bind fun t140 => (if t140 = 0 then (chapbookref07_May.l0 k x3 (wrap64 (x4 + 1)) x139000 x139001 x139002) else (some t140))) else (none)) else (none)) else (some 0)
end
def chapbookref07_May.f (k : Nat) (a0_0 : Int) (a0_1 : Int) (l0_2 : List (S32)) : Option (Int) := if a0_0 < 1 then (chapbookref07_May.j0 k (l0_2.length : Int) true a0_0 a0_1 l0_2) else (if a0_0 > 64 then (chapbookref07_May.j0 k (l0_2.length : Int) true a0_0 a0_1 l0_2) else (if a0_1 < 1 then (chapbookref07_May.j0 k (l0_2.length : Int) true a0_0 a0_1 l0_2) else (if a0_1 > 1099511627776 then (chapbookref07_May.j0 k (l0_2.length : Int) true a0_0 a0_1 l0_2) else (if (l0_2.length : Int) < 1 then (chapbookref07_May.j0 k (l0_2.length : Int) true a0_0 a0_1 l0_2) else (chapbookref07_May.j0 k (l0_2.length : Int) (decide ((l0_2.length : Int) > 8)) a0_0 a0_1 l0_2)))))
theorem chapbookref07_May.calls (k : Nat) (a0_0 : Int) (a0_1 : Int) (A0_2 : Option Addr) (c0_2 : Nat) (l0_2 : List (S32)) (r : Int) (w : World) (hr0_2 : Kd.C k32 w A0_2 l0_2.length l0_2) (hc0_2 : l0_2.length ≤ c0_2) (h : chapbookref07_May.f k a0_0 a0_1 l0_2 = some r) :
  Calls Tryd.prog 100 #[.agg #[a0_0, a0_1, .slice A0_2 l0_2.length c0_2]] w fun e w' => e = .returned (.int .i64 r) ∧ Below w.heap.size w w' := by
 have hu35 := Tryd.underlying35
 have hu32 := Tryd.underlying32
 have HR0_2 := Am hr0_2
 have HC0_2 := Am hc0_2
 clear hr0_2 hc0_2
 have HB := Am (Below.refl w.heap.size w)
 have H : (if a0_0 < 1 then (chapbookref07_May.j0 k (l0_2.length : Int) true a0_0 a0_1 l0_2) else (if a0_0 > 64 then (chapbookref07_May.j0 k (l0_2.length : Int) true a0_0 a0_1 l0_2) else (if a0_1 < 1 then (chapbookref07_May.j0 k (l0_2.length : Int) true a0_0 a0_1 l0_2) else (if a0_1 > 1099511627776 then (chapbookref07_May.j0 k (l0_2.length : Int) true a0_0 a0_1 l0_2) else (if (l0_2.length : Int) < 1 then (chapbookref07_May.j0 k (l0_2.length : Int) true a0_0 a0_1 l0_2) else (chapbookref07_May.j0 k (l0_2.length : Int) (decide ((l0_2.length : Int) > 8)) a0_0 a0_1 l0_2)))))) = some r := h
 clear h
 have HC2 := Am H
 clear H
 go_enter Tryd.func100, Tryd.ntmps100
 go_upto_region 2 with (first | ((with_reducible refine gD 1 rfl ?_); refine box_event rfl (N := 1) rfl (cs := #[a0_0, a0_1, .slice A0_2 l0_2.length c0_2]) (t := 35) gs_ ?_; intro gb138 hg w3 hbox hb; have BK138 := Am (hbox); have GW138 := Am (gw_ hg HB); have GE138 := Am (gw_ hg HB); replace HB := Am (below_step (bl_ HB) hb); clear hb hbox hg; have hz4 := kb3_ BK138))
 (try simp only [Act.put, List.setIfInBounds_toArray, List.set_cons_zero, List.set_cons_succ])
 go_cut [34] (fun v34 wc => ∃ (kq : Nat) (x34_1 : Bool), v34 = .bool x34_1 ∧ Aside0 (chapbookref07_May.j0 kq (l0_2.length : Int) x34_1 a0_0 a0_1 l0_2 = some r) ∧ Aside0 (kq ≤ k) ∧ Aside0 (wc.heap[gb138]? = some (.cells #[a0_0, a0_1, (.slice A0_2 l0_2.length c0_2)] 35 (0, 0))) ∧ Aside0 (Below w.heap.size w wc))
 case first =>
  have H := HC2.out
  clear HC2
  by_cases c5 : a0_0 < 1
  ·rw [if_pos c5] at H
   have c5b0 := decide_eq_true c5
   clear c5
   (first | rw [c5b0] | (simp only [i64_w, i32_w]; rw [c5b0]) | skip)
   have H' := Am H
   clear H
   have hz6 := kb3_ BK138
   go_wp2
   go_meet
   case rel => exact ⟨_, (true), er_, H', ⟨by first | omega | exact Nat.le_refl _⟩, ⟨bk_ BK138⟩, ⟨bl_ HB⟩⟩
  ·rw [if_neg c5] at H
   have c5b0 := decide_eq_false c5
   clear c5
   (first | rw [c5b0] | (simp only [i64_w, i32_w]; rw [c5b0]) | skip)
   by_cases c7 : a0_0 > 64
   ·rw [if_pos c7] at H
    have c7b0 : decide (64 < a0_0) = true := decide_eq_true c7
    clear c7
    have H' := Am H
    clear H
    have hz8 := kb3_ BK138
    go_wp2
    go_meet
    case rel => exact ⟨_, (true), er_, H', ⟨by first | omega | exact Nat.le_refl _⟩, ⟨bk_ BK138⟩, ⟨bl_ HB⟩⟩
   ·rw [if_neg c7] at H
    have c7b0 : decide (64 < a0_0) = false := decide_eq_false c7
    clear c7
    by_cases c9 : a0_1 < 1
    ·rw [if_pos c9] at H
     have c9b0 := decide_eq_true c9
     clear c9
     have H' := Am H
     clear H
     have hz10 := kb3_ BK138
     go_wp2
     go_meet
     case rel => exact ⟨_, (true), er_, H', ⟨by first | omega | exact Nat.le_refl _⟩, ⟨bk_ BK138⟩, ⟨bl_ HB⟩⟩
    ·rw [if_neg c9] at H
     have c9b0 := decide_eq_false c9
     clear c9
     by_cases c11 : a0_1 > 1099511627776
     ·rw [if_pos c11] at H
      have c11b0 : decide (1099511627776 < a0_1) = true := decide_eq_true c11
      clear c11
      have H' := Am H
      clear H
      have hz12 := kb3_ BK138
      go_wp2
      go_meet
      case rel => exact ⟨_, (true), er_, H', ⟨by first | omega | exact Nat.le_refl _⟩, ⟨bk_ BK138⟩, ⟨bl_ HB⟩⟩
     ·rw [if_neg c11] at H
      have c11b0 : decide (1099511627776 < a0_1) = false := decide_eq_false c11
      clear c11
      by_cases c13 : (l0_2.length : Int) < 1
      ·rw [if_pos c13] at H
       have c13b0 := decide_eq_true c13
       have c13b1 : decide (l0_2.length < 1) = true := decide_eq_true (by omega)
       clear c13
       have H' := Am H
       clear H
       have hz14 := kb3_ BK138
       go_wp2
       go_meet
       case rel => exact ⟨_, (true), er_, H', ⟨by first | omega | exact Nat.le_refl _⟩, ⟨bk_ BK138⟩, ⟨bl_ HB⟩⟩
      ·rw [if_neg c13] at H
       have c13b0 := decide_eq_false c13
       have c13b1 : decide (l0_2.length < 1) = false := decide_eq_false (by omega)
       clear c13
       have H' := Am H
       clear H
       have hz15 := kb3_ BK138
       go_wp2
       go_meet
       case rel => exact ⟨_, (decide ((l0_2.length : Int) > 8)), er_, H', ⟨by first | omega | exact Nat.le_refl _⟩, ⟨bk_ BK138⟩, ⟨bl_ HB⟩⟩
 case rest =>
  clear HC2
  try clear c1
  try clear p2
  try clear c5
  try clear c5b0
  try clear c7
  try clear c7b0
  try clear c9
  try clear c9b0
  try clear c10
  try clear c11
  try clear c11b0
  try clear c13
  try clear c13b0
  try clear c13b1
  try clear hz10
  try clear hz12
  try clear hz14
  try clear hz15
  try clear hz4
  try clear hz6
  try clear hz8
  try clear hz10
  try clear hz12
  try clear hz14
  try clear hz15
  try clear hz4
  try clear hz6
  try clear hz8
  obtain ⟨kq, x34_1, rfl, HA, HJ1, BK138, HB⟩ := hcut
  cases kq with
  | zero => exact absurd HA.out (by simp [chapbookref07_May.j0])
  | succ kj1 =>
   have H := HA.out
   clear HA
   simp only [chapbookref07_May.j0] at H
   by_cases c16 : x34_1 = true
   ·subst c16
    replace H : (some 1) = some r := by rw [if_pos rfl] at H; exact H
    obtain rfl := Option.some.inj H
    go_wp2
    go_ret
    exact ⟨ew_, bl_ HB⟩
   ·replace c16 := Bool.eq_false_iff.mpr c16
    subst c16
    replace H : (chapbookref07_May.l0 kj1 (l0_2.length : Int) 0 a0_0 a0_1 l0_2) = some r := by rw [if_neg (show ¬ (false = true) by decide)] at H; exact H
    have H' := Am H
    clear H
    go_wp2
    go_loopg [4] kj1 (fun kq v4 w' => ∃ (x4_2 : Int), v4 = .int .i64 x4_2 ∧ Aside0 (chapbookref07_May.l0 kq (l0_2.length : Int) x4_2 a0_0 a0_1 l0_2 = some r) ∧ Aside0 (kq ≤ kj1) ∧ Aside0 (w'.heap[gb138]? = some (.cells #[a0_0, a0_1, (.slice A0_2 l0_2.length c0_2)] 35 (0, 0))) ∧ Aside0 (Below w.heap.size w w'))
    case atStart => exact ⟨(0), er_, H', ⟨Nat.le_refl _⟩, ⟨bk_ BK138⟩, ⟨bl_ HB⟩⟩
    case round =>
     clear H'
     try clear c1
     try clear p2
     try clear c5
     try clear c5b0
     try clear c7
     try clear c7b0
     try clear c9
     try clear c9b0
     try clear c10
     try clear c11
     try clear c11b0
     try clear c13
     try clear c13b0
     try clear c13b1
     try clear c16
     try clear hz10
     try clear hz12
     try clear hz14
     try clear hz15
     try clear hz4
     try clear hz6
     try clear hz8
     try clear hz10
     try clear hz12
     try clear hz14
     try clear hz15
     try clear hz4
     try clear hz6
     try clear hz8
     try clear p2
     obtain ⟨x4_2, rfl, HA, HK2, BK138, HB⟩ := hrel
     cases gk with
     | zero => exact absurd HA.out (by simp [chapbookref07_May.l0])
     | succ k2 =>
      have H := HA.out
      clear HA
      simp only [chapbookref07_May.l0] at H
      by_cases c17 : x4_2 < (l0_2.length : Int)
      ·rw [if_pos c17] at H
       have c17b0 := decide_eq_true c17
       clear c17
       by_cases c18 : 0 ≤ x4_2
       ·rw [if_pos c18] at H
        have c18b0 := decide_eq_true c18
        clear c18
        by_cases c19 : x4_2 < (l0_2.length : Int)
        ·rw [if_pos c19] at H
         have c19b0 := decide_eq_true c19
         clear c19
         replace H := Option.bind_eq_some_iff.mp H
         obtain ⟨t140, A200, H⟩ := H
         replace H : (if t140 = 0 then (chapbookref07_May.l0 k2 (l0_2.length : Int) (wrap64 (x4_2 + 1)) a0_0 a0_1 l0_2) else (some t140)) = some r := H
         have A20 := Am A200
         clear A200
         by_cases c21 : t140 = 0
         ·rw [if_pos c21] at H
          have c21b0 : (t140 == 0) = true := beq_iff_eq.mpr c21
          have c21b1 : (t140 != 0) = false := bne_eq_false_iff_eq.mpr c21
          clear c21
          have H' := Am H
          clear H
          have hz22 := kb3_ BK138
          have p139 : 0 ≤ (x4_2 : Int) := od_
          have q139 : x4_2 < (l0_2.length : Int) := od_
          obtain ⟨ad139, e139, hx139_0, hx139_1, hx139_2, hx139_3⟩ := at_T32 (Kd.C_below HR0_2.out HB.out) x4_2 p139 q139
          cases e139
          replace p139 := eq_true p139
          replace q139 := eq_true q139
          go_wp2_with (first | ((with_reducible refine gC 86 rfl ?_); refine goesL_ (some 45) rfl rfl Tryd.func86 (by kernel_rfl) rfl #[.agg #[.string ((rd_T32 l0_2 x4_2).f0), .int .i64 ((rd_T32 l0_2 x4_2).f1), .int .i64 ((rd_T32 l0_2 x4_2).f2), .string ((rd_T32 l0_2 x4_2).f3)]] rfl am_ ?_; (with_reducible refine (chapbookref04_May.calls k2 ((rd_T32 l0_2 x4_2).f0) ((rd_T32 l0_2 x4_2).f1) ((rd_T32 l0_2 x4_2).f2) ((rd_T32 l0_2 x4_2).f3) t140 _ A20.out).mono ?_); rintro e w23 ⟨rfl, hb⟩; refine ⟨_, rfl, ?_⟩; replace BK138 := bb_ BK138 hb; replace HB := Am (below_step (bl_ HB) hb); (try clear hb); (try clear hb2); (try clear hk); (try clear hi)))
          go_roundg k2
          case measure => have := HJ1.out; have := HK2.out; omega
          case rel => exact ⟨(wrap64 (x4_2 + 1)), er_, H', ⟨by have := HJ1.out; have := HK2.out; omega⟩, ⟨bk_ BK138⟩, ⟨bl_ HB⟩⟩
         ·rw [if_neg c21] at H
          have c21b0 : (t140 == 0) = false := beq_eq_false_iff_ne.mpr c21
          have c21b1 : (t140 != 0) = true := bne_iff_ne.mpr c21
          obtain rfl := Option.some.inj H
          have hz24 := kb3_ BK138
          have p139 : 0 ≤ (x4_2 : Int) := od_
          have q139 : x4_2 < (l0_2.length : Int) := od_
          obtain ⟨ad139, e139, hx139_0, hx139_1, hx139_2, hx139_3⟩ := at_T32 (Kd.C_below HR0_2.out HB.out) x4_2 p139 q139
          cases e139
          replace p139 := eq_true p139
          replace q139 := eq_true q139
          go_wp2_with (first | ((with_reducible refine gC 86 rfl ?_); refine goesL_ (some 45) rfl rfl Tryd.func86 (by kernel_rfl) rfl #[.agg #[.string ((rd_T32 l0_2 x4_2).f0), .int .i64 ((rd_T32 l0_2 x4_2).f1), .int .i64 ((rd_T32 l0_2 x4_2).f2), .string ((rd_T32 l0_2 x4_2).f3)]] rfl am_ ?_; (with_reducible refine (chapbookref04_May.calls k2 ((rd_T32 l0_2 x4_2).f0) ((rd_T32 l0_2 x4_2).f1) ((rd_T32 l0_2 x4_2).f2) ((rd_T32 l0_2 x4_2).f3) t140 _ A20.out).mono ?_); rintro e w25 ⟨rfl, hb⟩; refine ⟨_, rfl, ?_⟩; replace BK138 := bb_ BK138 hb; replace HB := Am (below_step (bl_ HB) hb); (try clear hb); (try clear hb2); (try clear hk); (try clear hi)))
          go_ret
          exact ⟨ew_, bl_ HB⟩
        ·rw [if_neg c19] at H
         exact absurd H (by simp)
       ·rw [if_neg c18] at H
        exact absurd H (by simp)
      ·rw [if_neg c17] at H
       have c17b0 : decide (x4_2 < (l0_2.length : Int)) = false := decide_eq_false c17
       clear c17
       obtain rfl := Option.some.inj H
       go_wp2
       go_ret
       exact ⟨ew_, bl_ HB⟩
mutual
def chapbookref07_Same.j0 : Nat → Bool → Int → Int → List (S32) → Int → Int → List (S32) → Option (Bool)
 | 0, _, _, _, _, _, _, _ => none
 | k + 1, x26, x142000, x142001, x142002, x143000, x143001, x143002 => if x26 = true then (some false) else (chapbookref07_Same.l0 k 0 x142000 x142001 x142002 x143000 x143001 x143002)
def chapbookref07_Same.l0 : Nat → Int → Int → Int → List (S32) → Int → Int → List (S32) → Option (Bool)
 | 0, _, _, _, _, _, _, _ => none
 | k + 1, x5, x142000, x142001, x142002, x143000, x143001, x143002 => if x5 < (x142002.length : Int) then (if 0 ≤ x5 then (if x5 < (x143002.length : Int) then (if (!((((rd_T32 x142002 x5).f0).toList) == (((rd_T32 x143002 x5).f0).toList)) || (!(((rd_T32 x142002 x5).f1) == ((rd_T32 x143002 x5).f1)) || (!(((rd_T32 x142002 x5).f2) == ((rd_T32 x143002 x5).f2)) || (!((((rd_T32 x142002 x5).f3).toList) == (((rd_T32 x143002 x5).f3).toList)))))) = true then (some false) else (chapbookref07_Same.l0 k (wrap64 (x5 + 1)) x142000 x142001 x142002 x143000 x143001 x143002)) else (none)) else (none)) else (some true)
end
def chapbookref07_Same.f (k : Nat) (a0_0 : Int) (a0_1 : Int) (l0_2 : List (S32)) (a1_0 : Int) (a1_1 : Int) (l1_2 : List (S32)) : Option (Bool) := if a0_0 = a1_0 then (if a0_1 = a1_1 then (chapbookref07_Same.j0 k ((l0_2.length : Int) != (l1_2.length : Int)) a0_0 a0_1 l0_2 a1_0 a1_1 l1_2) else (chapbookref07_Same.j0 k true a0_0 a0_1 l0_2 a1_0 a1_1 l1_2)) else (chapbookref07_Same.j0 k true a0_0 a0_1 l0_2 a1_0 a1_1 l1_2)
theorem chapbookref07_Same.calls (k : Nat) (a0_0 : Int) (a0_1 : Int) (A0_2 : Option Addr) (c0_2 : Nat) (l0_2 : List (S32)) (a1_0 : Int) (a1_1 : Int) (A1_2 : Option Addr) (c1_2 : Nat) (l1_2 : List (S32)) (r : Bool) (w : World) (hr0_2 : Kd.C k32 w A0_2 l0_2.length l0_2) (hc0_2 : l0_2.length ≤ c0_2) (hr1_2 : Kd.C k32 w A1_2 l1_2.length l1_2) (hc1_2 : l1_2.length ≤ c1_2) (h : chapbookref07_Same.f k a0_0 a0_1 l0_2 a1_0 a1_1 l1_2 = some r) :
  Calls Tryd.prog 22 #[.agg #[a0_0, a0_1, .slice A0_2 l0_2.length c0_2], .agg #[a1_0, a1_1, .slice A1_2 l1_2.length c1_2]] w fun e w' => e = .returned (.bool r) ∧ Below w.heap.size w w' := by
 have hu35 := Tryd.underlying35
 have hu32 := Tryd.underlying32
 have HR0_2 := Am hr0_2
 have HC0_2 := Am hc0_2
 clear hr0_2 hc0_2
 have HR1_2 := Am hr1_2
 have HC1_2 := Am hc1_2
 clear hr1_2 hc1_2
 have HB := Am (Below.refl w.heap.size w)
 have H : (if a0_0 = a1_0 then (if a0_1 = a1_1 then (chapbookref07_Same.j0 k ((l0_2.length : Int) != (l1_2.length : Int)) a0_0 a0_1 l0_2 a1_0 a1_1 l1_2) else (chapbookref07_Same.j0 k true a0_0 a0_1 l0_2 a1_0 a1_1 l1_2)) else (chapbookref07_Same.j0 k true a0_0 a0_1 l0_2 a1_0 a1_1 l1_2)) = some r := h
 clear h
 have HC3 := Am H
 clear H
 go_enter Tryd.func22, Tryd.ntmps22
 go_upto_region 1 with (first | ((with_reducible refine gD 2 rfl ?_); (try (refine gate_guard (by rfl) ?_; dsimp only)); refine box_event rfl (N := 2) rfl (cs := #[a0_0, a0_1, .slice A0_2 l0_2.length c0_2]) (t := 35) gs_ ?_; intro gb141 hg w4 hbox hb; have BK141 := Am (hbox); have GW141 := Am (gw_ hg HB); have GE141 := Am (gw_ hg HB); replace HB := Am (below_step (bl_ HB) hb); clear hb hbox hg) | ((with_reducible refine gD 3 rfl ?_); (try (refine gate_guard (by rfl) ?_; dsimp only)); refine box_event rfl (N := 3) rfl (cs := #[a1_0, a1_1, .slice A1_2 l1_2.length c1_2]) (t := 35) gs_ ?_; intro gb142 hg w5 hbox hb; have BK142 := Am (hbox); have GW142 := Am (gw_ hg HB); have GE142 := Am (gw_ hg HB); replace HB := Am (below_step (bl_ HB) hb); have NB141_142 := Am (nl_ hg BK141); have NB142_141 := Am (ng_ hg BK141); replace BK141 := bb_ BK141 hb; clear hb hbox hg))
 repeat (go_quiet (first | ((with_reducible refine gD 2 rfl ?_); (try (refine gate_guard (by rfl) ?_; dsimp only)); refine box_event rfl (N := 2) rfl (cs := #[a0_0, a0_1, .slice A0_2 l0_2.length c0_2]) (t := 35) gs_ ?_; intro gb141 hg w4 hbox hb; have BK141 := Am (hbox); have GW141 := Am (gw_ hg HB); have GE141 := Am (gw_ hg HB); replace HB := Am (below_step (bl_ HB) hb); clear hb hbox hg) | ((with_reducible refine gD 3 rfl ?_); (try (refine gate_guard (by rfl) ?_; dsimp only)); refine box_event rfl (N := 3) rfl (cs := #[a1_0, a1_1, .slice A1_2 l1_2.length c1_2]) (t := 35) gs_ ?_; intro gb142 hg w5 hbox hb; have BK142 := Am (hbox); have GW142 := Am (gw_ hg HB); have GE142 := Am (gw_ hg HB); replace HB := Am (below_step (bl_ HB) hb); have NB141_142 := Am (nl_ hg BK141); have NB142_141 := Am (ng_ hg BK141); replace BK141 := bb_ BK141 hb; clear hb hbox hg)); go_upto_region 1 with (first | ((with_reducible refine gD 2 rfl ?_); (try (refine gate_guard (by rfl) ?_; dsimp only)); refine box_event rfl (N := 2) rfl (cs := #[a0_0, a0_1, .slice A0_2 l0_2.length c0_2]) (t := 35) gs_ ?_; intro gb141 hg w4 hbox hb; have BK141 := Am (hbox); have GW141 := Am (gw_ hg HB); have GE141 := Am (gw_ hg HB); replace HB := Am (below_step (bl_ HB) hb); clear hb hbox hg) | ((with_reducible refine gD 3 rfl ?_); (try (refine gate_guard (by rfl) ?_; dsimp only)); refine box_event rfl (N := 3) rfl (cs := #[a1_0, a1_1, .slice A1_2 l1_2.length c1_2]) (t := 35) gs_ ?_; intro gb142 hg w5 hbox hb; have BK142 := Am (hbox); have GW142 := Am (gw_ hg HB); have GE142 := Am (gw_ hg HB); replace HB := Am (below_step (bl_ HB) hb); have NB141_142 := Am (nl_ hg BK141); have NB142_141 := Am (ng_ hg BK141); replace BK141 := bb_ BK141 hb; clear hb hbox hg)))
 (try simp only [Act.put, List.setIfInBounds_toArray, List.set_cons_zero, List.set_cons_succ])
 go_cut [26] (fun v26 wc => ∃ (kq : Nat) (x26_2 : Bool), v26 = .bool x26_2 ∧ Aside0 (chapbookref07_Same.j0 kq x26_2 a0_0 a0_1 l0_2 a1_0 a1_1 l1_2 = some r) ∧ Aside0 (kq ≤ k) ∧ Aside0 (wc.heap[gb141]? = some (.cells #[a0_0, a0_1, (.slice A0_2 l0_2.length c0_2)] 35 (0, 0))) ∧ Aside0 (wc.heap[gb142]? = some (.cells #[a1_0, a1_1, (.slice A1_2 l1_2.length c1_2)] 35 (0, 0))) ∧ Aside0 (Below w.heap.size w wc))
 case first =>
  have H := HC3.out
  clear HC3
  by_cases c6 : a0_0 = a1_0
  ·rw [if_pos c6] at H
   have c6b0 : (a0_0 == a1_0) = true := beq_iff_eq.mpr c6
   have c6b1 : (a0_0 != a1_0) = false := bne_eq_false_iff_eq.mpr c6
   clear c6
   (first | rw [c6b0] | (simp only [i64_w, i32_w]; rw [c6b0]) | skip)
   by_cases c7 : a0_1 = a1_1
   ·rw [if_pos c7] at H
    have c7b0 : (a0_1 == a1_1) = true := beq_iff_eq.mpr c7
    have c7b1 : (a0_1 != a1_1) = false := bne_eq_false_iff_eq.mpr c7
    clear c7
    have H' := Am H
    clear H
    have hnb8 := NB141_142.out
    have hnc8 := NB142_141.out
    have hz9 := kb3_ BK141
    have hz10 := kb3_ BK142
    go_wp2
    repeat (go_quiet (fail); try go_wp2)
    go_meet
    case rel => exact ⟨_, (((l0_2.length : Int) != (l1_2.length : Int))), er_, H', ⟨by first | omega | exact Nat.le_refl _⟩, ⟨bk_ BK141⟩, ⟨bk_ BK142⟩, ⟨bl_ HB⟩⟩
   ·rw [if_neg c7] at H
    have c7b0 : (a0_1 == a1_1) = false := beq_eq_false_iff_ne.mpr c7
    have c7b1 : (a0_1 != a1_1) = true := bne_iff_ne.mpr c7
    have H' := Am H
    clear H
    have hnb11 := NB141_142.out
    have hnc11 := NB142_141.out
    have hz12 := kb3_ BK141
    have hz13 := kb3_ BK142
    go_wp2
    repeat (go_quiet (fail); try go_wp2)
    go_meet
    case rel => exact ⟨_, (true), er_, H', ⟨by first | omega | exact Nat.le_refl _⟩, ⟨bk_ BK141⟩, ⟨bk_ BK142⟩, ⟨bl_ HB⟩⟩
  ·rw [if_neg c6] at H
   have c6b0 : (a0_0 == a1_0) = false := beq_eq_false_iff_ne.mpr c6
   have c6b1 : (a0_0 != a1_0) = true := bne_iff_ne.mpr c6
   (first | rw [c6b0] | (simp only [i64_w, i32_w]; rw [c6b0]) | skip)
   have H' := Am H
   clear H
   have hnb14 := NB141_142.out
   have hnc14 := NB142_141.out
   have hz15 := kb3_ BK141
   have hz16 := kb3_ BK142
   go_wp2
   repeat (go_quiet (fail); try go_wp2)
   go_meet
   case rel => exact ⟨_, (true), er_, H', ⟨by first | omega | exact Nat.le_refl _⟩, ⟨bk_ BK141⟩, ⟨bk_ BK142⟩, ⟨bl_ HB⟩⟩
 case rest =>
  clear HC3
  try clear c1
  try clear c2
  try clear p2
  try clear c6
  try clear c6b0
  try clear c6b1
  try clear c7
  try clear c7b0
  try clear c7b1
  try clear c8
  try clear c11
  try clear c14
  try clear hz10
  try clear hz12
  try clear hz13
  try clear hz15
  try clear hz16
  try clear hz9
  try clear hz10
  try clear hz12
  try clear hz13
  try clear hz15
  try clear hz16
  try clear hz9
  obtain ⟨kq, x26_2, rfl, HA, HJ2, BK141, BK142, HB⟩ := hcut
  cases kq with
  | zero => exact absurd HA.out (by simp [chapbookref07_Same.j0])
  | succ kj2 =>
   have H := HA.out
   clear HA
   simp only [chapbookref07_Same.j0] at H
   by_cases c17 : x26_2 = true
   ·subst c17
    replace H : (some false) = some r := by rw [if_pos rfl] at H; exact H
    obtain rfl := Option.some.inj H
    go_wp2
    repeat (go_quiet (fail); try go_wp2)
    go_ret
    exact ⟨ew_, bl_ HB⟩
   ·replace c17 := Bool.eq_false_iff.mpr c17
    subst c17
    replace H : (chapbookref07_Same.l0 kj2 0 a0_0 a0_1 l0_2 a1_0 a1_1 l1_2) = some r := by rw [if_neg (show ¬ (false = true) by decide)] at H; exact H
    have H' := Am H
    clear H
    go_wp2
    repeat (go_quiet (fail); try go_wp2)
    go_loopg [5] kj2 (fun kq v5 w' => ∃ (x5_2 : Int), v5 = .int .i64 x5_2 ∧ Aside0 (chapbookref07_Same.l0 kq x5_2 a0_0 a0_1 l0_2 a1_0 a1_1 l1_2 = some r) ∧ Aside0 (kq ≤ kj2) ∧ Aside0 (w'.heap[gb141]? = some (.cells #[a0_0, a0_1, (.slice A0_2 l0_2.length c0_2)] 35 (0, 0))) ∧ Aside0 (w'.heap[gb142]? = some (.cells #[a1_0, a1_1, (.slice A1_2 l1_2.length c1_2)] 35 (0, 0))) ∧ Aside0 (Below w.heap.size w w'))
    case atStart => exact ⟨(0), er_, H', ⟨Nat.le_refl _⟩, ⟨bk_ BK141⟩, ⟨bk_ BK142⟩, ⟨bl_ HB⟩⟩
    case round =>
     clear H'
     try clear c1
     try clear c2
     try clear p2
     try clear c6
     try clear c6b0
     try clear c6b1
     try clear c7
     try clear c7b0
     try clear c7b1
     try clear c8
     try clear c11
     try clear c14
     try clear c17
     try clear hz10
     try clear hz12
     try clear hz13
     try clear hz15
     try clear hz16
     try clear hz9
     try clear hz10
     try clear hz12
     try clear hz13
     try clear hz15
     try clear hz16
     try clear hz9
     try clear p2
     obtain ⟨x5_2, rfl, HA, HK2, BK141, BK142, HB⟩ := hrel
     cases gk with
     | zero => exact absurd HA.out (by simp [chapbookref07_Same.l0])
     | succ k2 =>
      have H := HA.out
      clear HA
      simp only [chapbookref07_Same.l0] at H
      by_cases c18 : x5_2 < (l0_2.length : Int)
      ·rw [if_pos c18] at H
       have c18b0 := decide_eq_true c18
       clear c18
       by_cases c19 : 0 ≤ x5_2
       ·rw [if_pos c19] at H
        have c19b0 := decide_eq_true c19
        clear c19
        by_cases c20 : x5_2 < (l1_2.length : Int)
        ·rw [if_pos c20] at H
         have c20b0 := decide_eq_true c20
         clear c20
         by_cases c21 : (!((((rd_T32 l0_2 x5_2).f0).toList) == (((rd_T32 l1_2 x5_2).f0).toList)) || (!(((rd_T32 l0_2 x5_2).f1) == ((rd_T32 l1_2 x5_2).f1)) || (!(((rd_T32 l0_2 x5_2).f2) == ((rd_T32 l1_2 x5_2).f2)) || (!((((rd_T32 l0_2 x5_2).f3).toList) == (((rd_T32 l1_2 x5_2).f3).toList)))))) = true
         ·rw [if_pos c21] at H
          have c21b0 : (!((((rd_T32 l0_2 x5_2).f0).toList) == (((rd_T32 l1_2 x5_2).f0).toList)) || (!(((rd_T32 l0_2 x5_2).f1) == ((rd_T32 l1_2 x5_2).f1)) || (!(((rd_T32 l0_2 x5_2).f2) == ((rd_T32 l1_2 x5_2).f2)) || (!((((rd_T32 l0_2 x5_2).f3).toList) == (((rd_T32 l1_2 x5_2).f3).toList)))))) = true := c21
          clear c21
          obtain rfl := Option.some.inj H
          have hnb22 := NB141_142.out
          have hnc22 := NB142_141.out
          have hz23 := kb3_ BK141
          have p143 : 0 ≤ (x5_2 : Int) := od_
          have q143 : x5_2 < (l0_2.length : Int) := od_
          obtain ⟨ad143, e143, hx143_0, hx143_1, hx143_2, hx143_3⟩ := at_T32 (Kd.C_below HR0_2.out HB.out) x5_2 p143 q143
          cases e143
          replace p143 := eq_true p143
          replace q143 := eq_true q143
          have hz24 := kb3_ BK142
          have p144 : 0 ≤ (x5_2 : Int) := od_
          have q144 : x5_2 < (l1_2.length : Int) := od_
          obtain ⟨ad144, e144, hx144_0, hx144_1, hx144_2, hx144_3⟩ := at_T32 (Kd.C_below HR1_2.out HB.out) x5_2 p144 q144
          cases e144
          replace p144 := eq_true p144
          replace q144 := eq_true q144
          go_wp2
          repeat (go_quiet (fail); try go_wp2)
          go_ret
          exact ⟨ew_, bl_ HB⟩
         ·rw [if_neg c21] at H
          have c21b0 : (!((((rd_T32 l0_2 x5_2).f0).toList) == (((rd_T32 l1_2 x5_2).f0).toList)) || (!(((rd_T32 l0_2 x5_2).f1) == ((rd_T32 l1_2 x5_2).f1)) || (!(((rd_T32 l0_2 x5_2).f2) == ((rd_T32 l1_2 x5_2).f2)) || (!((((rd_T32 l0_2 x5_2).f3).toList) == (((rd_T32 l1_2 x5_2).f3).toList)))))) = false := by simpa using c21
          clear c21
          have H' := Am H
          clear H
          have hnb25 := NB141_142.out
          have hnc25 := NB142_141.out
          have hz26 := kb3_ BK141
          have p143 : 0 ≤ (x5_2 : Int) := od_
          have q143 : x5_2 < (l0_2.length : Int) := od_
          obtain ⟨ad143, e143, hx143_0, hx143_1, hx143_2, hx143_3⟩ := at_T32 (Kd.C_below HR0_2.out HB.out) x5_2 p143 q143
          cases e143
          replace p143 := eq_true p143
          replace q143 := eq_true q143
          have hz27 := kb3_ BK142
          have p144 : 0 ≤ (x5_2 : Int) := od_
          have q144 : x5_2 < (l1_2.length : Int) := od_
          obtain ⟨ad144, e144, hx144_0, hx144_1, hx144_2, hx144_3⟩ := at_T32 (Kd.C_below HR1_2.out HB.out) x5_2 p144 q144
          cases e144
          replace p144 := eq_true p144
          replace q144 := eq_true q144
          go_wp2
          repeat (go_quiet (fail); try go_wp2)
          go_roundg k2
          case measure => have := HJ2.out; have := HK2.out; omega
          case rel => exact ⟨(wrap64 (x5_2 + 1)), er_, H', ⟨by have := HJ2.out; have := HK2.out; omega⟩, ⟨bk_ BK141⟩, ⟨bk_ BK142⟩, ⟨bl_ HB⟩⟩
        ·rw [if_neg c20] at H
         exact absurd H (by simp)
       ·rw [if_neg c19] at H
        exact absurd H (by simp)
      ·rw [if_neg c18] at H
       have c18b0 : decide (x5_2 < (l0_2.length : Int)) = false := decide_eq_false c18
       clear c18
       obtain rfl := Option.some.inj H
       have hnb28 := NB141_142.out
       have hnc28 := NB142_141.out
       have hz29 := kb3_ BK141
       go_wp2
       repeat (go_quiet (fail); try go_wp2)
       go_ret
       exact ⟨ew_, bl_ HB⟩
end Go.Proofs.YtjdenpmaianmfaaDoor.Q
