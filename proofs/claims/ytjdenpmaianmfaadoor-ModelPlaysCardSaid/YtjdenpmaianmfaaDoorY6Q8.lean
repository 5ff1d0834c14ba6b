/- Contracts of the seat's functions, printed: if the Lean function comes to a value, the Go function returns it. -/
import Derived.Test.YtjdenpmaianmfaaDoorY6Q7
namespace Go.Proofs.YtjdenpmaianmfaaDoor.Q
open RowKit YtjdenpmaianmfaaDoorW.PrintWords YtjdenpmaianmfaaDoorW.PrintLast YtjdenpmaianmfaaDoorW.PrintMore
attribute [local go_sem] max2_int min2_int max_two min_two max_three min_three max_four min_four
set_option maxHeartbeats 16000000
set_option maxRecDepth 100000
set_option linter.unusedVariables false
set_option linter.unusedSimpArgs false
def chapbookref01_Put.lf (x5 : List Int) (x7 : Int) : Option (ByteArray × Int) := (if 0 < (x5.length : Int) then ((some (([(wrap64 ((wrap64 (rd x5 0)) + x7)) % 256] : List Int) : List Int)).bind fun y167 => (if 1 ≤ (x5.length : Int) then ((some (x5.drop 1 : List Int)).bind fun y170 => (if (strOfNums y167).size + (strOfNums y170).size ≤ 9223372036854775807 then (some ((strOfNums y167) ++ (strOfNums y170), 0)) else (none))) else (none))) else (none))
mutual
def chapbookref01_Put.l0 : Nat → Int → Int → List Int → Int → Option (ByteArray × Int)
 | 0, _, _, _, _ => none
 | k + 1, x0, x4, x5, x6 => if x6 < x4 then ((some (([(Int.tmod x0 256) % 256] : List Int) : List Int)).bind fun y152 => (if y152.length + x5.length < 140737488355328 then (chapbookref01_Put.l0 k (IntKind.u64.wrap (Int.tdiv x0 256)) x4 (y152 ++ x5) (wrap64 (x6 + 1))) else (none))) else (if x4 = 2 then (chapbookref01_Put.j1 k x4 x5 64) else (chapbookref01_Put.j1 k x4 x5 0))
def chapbookref01_Put.j1 : Nat → Int → List Int → Int → Option (ByteArray × Int)
 | 0, _, _, _ => none
 | k + 1, x4, x5, x7 => if x4 = 4 then (chapbookref01_Put.j2 k x4 x5 128) else (chapbookref01_Put.j2 k x4 x5 x7)
def chapbookref01_Put.j2 : Nat → Int → List Int → Int → Option (ByteArray × Int)
 | 0, _, _, _ => none
 | k + 1, x4, x5, x7 => if x4 = 8 then (chapbookref01_Put.lf x5 192) else (chapbookref01_Put.lf x5 x7)
end
def chapbookref01_Put.f (k : Nat) (a0 : Int) : Option (ByteArray × Int) := (chapbookref01_Size.f a0).bind fun t148 => (if t148 = 0 then (some ((⟨#[]⟩ : ByteArray), 1)) else (chapbookref01_Put.l0 k a0 t148 (([] : List Int)) 0))
def chapbookref01_Put.T17 : Bool × List (List Nat × List Nat) := (true, [([], []), ([0], [0]), ([1], [1]), ([2], [2]), ([], []), ([3, 4], [3, 4]), ([5], [5]), ([6], [6]), ([7], [7]), ([], []), ([9], [9]), ([10], [10]), ([8, 11], [8, 11]), ([12, 0, 1, 2, 3, 4, 5, 6, 7, 8, 9, 10, 11, 12], [12]), ([13, 0, 1, 2, 3, 4, 5, 6, 7, 8, 9, 10, 11, 12, 13], [])])
def chapbookref01_Put.B17 : List Nat := [0, 1, 3, 7, 0, 31, 63, 127, 255, 0, 512, 1536, 4095, 8191, 16383]
theorem chapbookref01_Put.tab17 : rtab .any (opsOf Tryd.f115 17) = chapbookref01_Put.T17 := by kernel_rfl
theorem chapbookref01_Put.bits17 : waitsOk chapbookref01_Put.T17.2 chapbookref01_Put.B17 = true := by kernel_rfl
theorem chapbookref01_Put.calls (k : Nat) (a0 : Int) (r1 : ByteArray) (r2 : Int) (w : World) (h : chapbookref01_Put.f k a0 = some (r1, r2)) :
  Calls Tryd.prog 115 #[.int .u64 a0] w fun e w' => e = .returned (.tuple #[r1, r2]) ∧ Below w.heap.size w w' := by
 have HB := Am (Below.refl w.heap.size w)
 have H : ((chapbookref01_Size.f a0).bind fun t148 => (if t148 = 0 then (some ((⟨#[]⟩ : ByteArray), 1)) else (chapbookref01_Put.l0 k a0 t148 (([] : List Int)) 0))) = some (r1, r2) := h
 clear h
 replace H := Option.bind_eq_some_iff.mp H
 obtain ⟨t148, A20, H⟩ := H
 replace H : (if t148 = 0 then (some ((⟨#[]⟩ : ByteArray), 1)) else (chapbookref01_Put.l0 k a0 t148 (([] : List Int)) 0)) = some (r1, r2) := H
 have A2 := Am A20
 clear A20
 by_cases c3 : t148 = 0
 ·rw [if_pos c3] at H
  have c3b0 : (t148 == 0) = true := beq_iff_eq.mpr c3
  have c3b1 : (t148 != 0) = false := bne_eq_false_iff_eq.mpr c3
  clear c3
  simp only [Option.some.injEq, Prod.mk.injEq] at H
  obtain ⟨rfl, rfl⟩ := H
  go_enter Tryd.func115, Tryd.ntmps115
  go_wp2_with (first | ((with_reducible refine gC 124 rfl ?_); refine goesL_ (some 9) rfl rfl Tryd.func124 (by kernel_rfl) rfl #[.int .u64 a0] rfl am_ ?_; (with_reducible refine (chapbookref01_Size.calls a0 t148 _ A2.out).mono ?_); rintro e w' ⟨rfl, ⟨nd, rfl⟩⟩; refine ⟨_, rfl, ?_⟩))
  go_ret2
  exact ⟨ew_, bl_ HB⟩
 ·rw [if_neg c3] at H
  have c3b0 : (t148 == 0) = false := beq_eq_false_iff_ne.mpr c3
  have c3b1 : (t148 != 0) = true := bne_iff_ne.mpr c3
  obtain ⟨y149, hy149⟩ : ∃ y_ : List Int, y_ = (([] : List Int)) := ⟨_, rfl⟩
  replace H : (chapbookref01_Put.l0 k a0 t148 y149 0) = some (r1, r2) := rp_ H hy149
  have Ny149 := Am hy149
  clear hy149
  have H' := Am H
  clear H
  go_enter Tryd.func115, Tryd.ntmps115
  go_wp2_with (first | ((with_reducible refine gC 124 rfl ?_); refine goesL_ (some 9) rfl rfl Tryd.func124 (by kernel_rfl) rfl #[.int .u64 a0] rfl am_ ?_; (with_reducible refine (chapbookref01_Size.calls a0 t148 _ A2.out).mono ?_); rintro e w' ⟨rfl, ⟨nd, rfl⟩⟩; refine ⟨_, rfl, ?_⟩) | ((with_reducible refine gD 12 rfl ?_); refine Kd.R_lit (Kd.int .u8) _ 5 rfl (N := 12) rfl (xs := ([] : List Int)) (inner := []) (ok := fun _ => True) (okp := fun _ => True) gs_ ?hp (fun _ hk => hk) trivial (Below.refl _ _) (Nat.le_refl _) (by simp) ?_; (case hp => exact (Reps.none _ _)); intro v150 w4 ho5 hb hg_ hnew_; clear hg_ hnew_; (first | rw [← Ny149.out] at ho5 | (simp only [Int.reduceToNat] at ho5; rw [← Ny149.out] at ho5)); have HO151 := Am (Kd.R_lower ho5 (below_size (bl_ HB))); replace HB := Am (below_step (bl_ HB) hb); clear hb ho5))
  go_loopg [0, 5, 6] k (fun kq v0 v5 v6 w' => ∃ (x0_1 : Int) (x5_1 : List Int) (x6_1 : Int), v0 = .int .u64 x0_1 ∧ v6 = .int .i64 x6_1 ∧ Aside0 (chapbookref01_Put.l0 kq x0_1 t148 x5_1 x6_1 = some (r1, r2)) ∧ Aside0 (kq ≤ k) ∧ Aside0 (Kd.R (Kd.int .u8) 5 w' w.heap.size (fun _ => True) v5 x5_1) ∧ Aside0 (Below w.heap.size w w'))
  case atStart => exact ⟨(a0), (y149), (0), er_, er_, H', ⟨Nat.le_refl _⟩, ⟨rk_ HO151⟩, ⟨bl_ HB⟩⟩
  case round =>
   clear H'
   try clear c1
   try clear p2
   try clear c3
   try clear c3b0
   try clear c3b1
   obtain ⟨x0_1, x5_1, x6_1, rfl, rfl, HA, HK1, HO_5, HB⟩ := hrel
   cases gk with
   | zero => exact absurd HA.out (by simp [chapbookref01_Put.l0])
   | succ k1 =>
    have H := HA.out
    clear HA
    simp only [chapbookref01_Put.l0] at H
    by_cases c6 : x6_1 < t148
    ·rw [if_pos c6] at H
     have c6b0 := decide_eq_true c6
     clear c6
     obtain ⟨y152, hy152⟩ : ∃ y_ : List Int, y_ = (([(Int.tmod x0_1 256) % 256] : List Int)) := ⟨_, rfl⟩
     replace H : (if y152.length + x5_1.length < 140737488355328 then (chapbookref01_Put.l0 k1 (IntKind.u64.wrap (Int.tdiv x0_1 256)) t148 (y152 ++ x5_1) (wrap64 (x6_1 + 1))) else (none)) = some (r1, r2) := rp_ H hy152
     have Ny152 := Am hy152
     clear hy152
     by_cases c7 : y152.length + x5_1.length < 140737488355328
     ·rw [if_pos c7] at H
      have LMc7 := Am c7
      clear c7
      obtain ⟨y155, hy155⟩ : ∃ y_ : List Int, y_ = (y152 ++ x5_1) := ⟨_, rfl⟩
      replace H : (chapbookref01_Put.l0 k1 (IntKind.u64.wrap (Int.tdiv x0_1 256)) t148 y155 (wrap64 (x6_1 + 1))) = some (r1, r2) := rp_ H hy155
      have Ny155 := Am hy155
      clear hy155
      have H' := Am H
      clear H
      go_wp2_with (first | ((with_reducible refine gD 21 rfl ?_); refine Kd.R_lit (Kd.int .u8) _ 5 rfl (N := 21) rfl (xs := ([(Int.tmod x0_1 256) % 256] : List Int)) (inner := [.int .u8 ((Int.tmod x0_1 256) % 256)]) (ok := fun _ => True) (okp := fun _ => True) gs_ ?hp (fun _ hk => hk) trivial (Below.refl _ _) (Nat.le_refl _) (by simp) ?_; (case hp => exact (Reps.one (show Kd.M (Kd.int .u8) _ _ _ ((Int.tmod x0_1 256) % 256) [.int .u8 ((Int.tmod x0_1 256) % 256)] from rfl) (Reps.none _ _))); intro v153 w8 ho9 hb hg_ hnew_; clear hg_ hnew_; (first | rw [← Ny152.out] at ho9 | (simp only [Int.reduceToNat] at ho9; rw [← Ny152.out] at ho9)); have HO154 := Am (Kd.R_lower (Kd.R_new' ho9 (Kd.R_lt (rk_ HO_5))) (below_size (bl_ HB))); replace HO_5 := Am (Kd.R_elder' (rk_ HO_5) (Kd.R_base ho9) hb); replace HB := Am (below_step (bl_ HB) hb); clear hb ho9; obtain ⟨Ao11, co11, eo11⟩ := Kd.R_slice HO_5.out; subst eo11) | ((with_reducible refine gate_builtin (b := .append) (xs := #[.tmp 21, .tmp 22]) rfl ?_); at_builtin; refine Kd.R_append_rows (Kd.int .u8) (w0 := w) w.heap.size rfl (.tmp 21) (.tmp 22) 154 5 (.int .u8 0) 1 rfl Tryd.underlying154 info5 rfl (by decide) (by omega) v153 y152 x5_1 _ _ _ (fun k_ => some k_ ≠ (.slice Ao11 x5_1.length co11 : Value).ownBlock) (fun _ => False) rfl rfl ?aO ?aR (fun _ _ h => h) (fun _ h => h.elim) ?aF ?aB ?aS ?aL ?_; (case aR => repeat (first | exact (Kd.R_reads' HO_5.out).2.2 | (with_reducible refine Kd.C_alloc ?_ _) | (with_reducible refine Kd.C_drewN ?_ _) | (with_reducible refine Kd.C_drew ?_))); (case aB => exact (bl_ HB)); (case aF => exact (fun k_ hk => Kd.fresh' (Kd.R_lt (rk_ HO_5)) k_ hk)); (case aO => exact (by (with_reducible repeat (first | apply Kd.R_alloc | apply Kd.R_drewN | apply Kd.R_drew)); exact Kd.R_mono HO154.out (fun _ hk => hk.2))); (case aS => exact (below_size (bl_ HB))); (case aL => have := LMc7.out; omega); intro v156 w10 ho hb hg hat; rw [← Ny155.out] at ho; replace HO_5 := Am (Kd.R_after (ok := (fun _ => True)) (rk_ HO_5) hg hat); replace HB := Am (hb); have HO157 := Am (ho); clear HO154 ho hb hg hat))
      go_roundg k1
      case measure => have := HK1.out; omega
      case rel => exact ⟨(IntKind.u64.wrap (Int.tdiv x0_1 256)), (y155), (wrap64 (x6_1 + 1)), er_, er_, H', ⟨by have := HK1.out; omega⟩, ⟨by (with_reducible repeat (first | apply Kd.R_alloc | apply Kd.R_drewN | apply Kd.R_drew)); exact Kd.R_mono HO157.out (fun _ hk => trivial)⟩, ⟨bl_ HB⟩⟩
     ·rw [if_neg c7] at H
      exact absurd H (by simp)
    ·rw [if_neg c6] at H
     have c6b0 : decide (x6_1 < t148) = false := decide_eq_false c6
     clear c6
     have HC12 := Am H
     clear H
     go_upto_if 27 with (fail)
     go_cut [7] (fun v7 wc => ∃ (kq : Nat) (x7_11 : Int), v7 = .int .i64 x7_11 ∧ Aside0 (chapbookref01_Put.j1 kq t148 x5_1 x7_11 = some (r1, r2)) ∧ Aside0 (kq ≤ k1) ∧ Aside0 (Kd.R (Kd.int .u8) 5 wc w.heap.size (fun _ => True) u5 x5_1) ∧ Aside0 (Below w.heap.size w wc))
     case first =>
      have H := HC12.out
      clear HC12
      by_cases c13 : t148 = 2
      ·rw [if_pos c13] at H
       have c13b0 : (t148 == 2) = true := beq_iff_eq.mpr c13
       have c13b1 : (t148 != 2) = false := bne_eq_false_iff_eq.mpr c13
       clear c13
       (first | rw [c13b0] | (simp only [i64_w, i32_w]; rw [c13b0]) | skip)
       have H' := Am H
       clear H
       go_wp2
       go_meet
       case rel => exact ⟨_, (64), er_, H', ⟨by have := HK1.out; first | omega | exact Nat.le_refl _⟩, ⟨rk_ HO_5⟩, ⟨bl_ HB⟩⟩
      ·rw [if_neg c13] at H
       have c13b0 : (t148 == 2) = false := beq_eq_false_iff_ne.mpr c13
       have c13b1 : (t148 != 2) = true := bne_iff_ne.mpr c13
       (first | rw [c13b0] | (simp only [i64_w, i32_w]; rw [c13b0]) | skip)
       have H' := Am H
       clear H
       go_wp2
       go_meet
       case rel => exact ⟨_, (0), er_, H', ⟨by have := HK1.out; first | omega | exact Nat.le_refl _⟩, ⟨rk_ HO_5⟩, ⟨bl_ HB⟩⟩
     case rest =>
      clear HC12
      try clear c1
      try clear p2
      try clear c3
      try clear c3b0
      try clear c3b1
      try clear c6
      try clear c6b0
      try clear p6
      try clear c7
      try clear c11
      try clear c12
      try clear c13
      try clear c13b0
      try clear c13b1
      try clear p2
      obtain ⟨kq, x7_11, rfl, HA, HJ11, HO_5, HB⟩ := hcut
      cases kq with
      | zero => exact absurd HA.out (by simp [chapbookref01_Put.j1])
      | succ kj11 =>
       have H := HA.out
       clear HA
       simp only [chapbookref01_Put.j1] at H
       have HC14 := Am H
       clear H
       go_upto_if 29 with (fail)
       go_cut [7] (fun v7 wc => ∃ (kq : Nat) (x7_13 : Int), v7 = .int .i64 x7_13 ∧ Aside0 (chapbookref01_Put.j2 kq t148 x5_1 x7_13 = some (r1, r2)) ∧ Aside0 (kq ≤ kj11) ∧ Aside0 (Kd.R (Kd.int .u8) 5 wc w.heap.size (fun _ => True) u5 x5_1) ∧ Aside0 (Below w.heap.size w wc))
       case first =>
        have H := HC14.out
        clear HC14
        by_cases c15 : t148 = 4
        ·rw [if_pos c15] at H
         have c15b0 : (t148 == 4) = true := beq_iff_eq.mpr c15
         have c15b1 : (t148 != 4) = false := bne_eq_false_iff_eq.mpr c15
         clear c15
         (first | rw [c15b0] | (simp only [i64_w, i32_w]; rw [c15b0]) | skip)
         have H' := Am H
         clear H
         go_wp2
         go_meet
         case rel => exact ⟨_, (128), er_, H', ⟨by have := HK1.out; have := HJ11.out; first | omega | exact Nat.le_refl _⟩, ⟨rk_ HO_5⟩, ⟨bl_ HB⟩⟩
        ·rw [if_neg c15] at H
         have c15b0 : (t148 == 4) = false := beq_eq_false_iff_ne.mpr c15
         have c15b1 : (t148 != 4) = true := bne_iff_ne.mpr c15
         (first | rw [c15b0] | (simp only [i64_w, i32_w]; rw [c15b0]) | skip)
         have H' := Am H
         clear H
         go_wp2
         go_meet
         case rel => exact ⟨_, (x7_11), er_, H', ⟨by have := HK1.out; have := HJ11.out; first | omega | exact Nat.le_refl _⟩, ⟨rk_ HO_5⟩, ⟨bl_ HB⟩⟩
       case rest =>
        clear HC14
        try clear c1
        try clear p2
        try clear c3
        try clear c3b0
        try clear c3b1
        try clear c6
        try clear c6b0
        try clear p6
        try clear c7
        try clear c11
        try clear c12
        try clear c13
        try clear c13b0
        try clear c13b1
        try clear c15
        try clear c15b0
        try clear c15b1
        try clear p2
        try clear p6
        obtain ⟨kq, x7_13, rfl, HA, HJ13, HO_5, HB⟩ := hcut
        cases kq with
        | zero => exact absurd HA.out (by simp [chapbookref01_Put.j2])
        | succ kj13 =>
         have H := HA.out
         clear HA
         simp only [chapbookref01_Put.j2] at H
         have HC99 := Am H
         clear H
         go_upto_if 31 with (fail)
         go_cut [7] (fun v7 wc => ∃ (x7_99 : Int), v7 = .int .i64 x7_99 ∧ Aside0 (chapbookref01_Put.lf x5_1 x7_99 = some (r1, r2)) ∧ Aside0 (Kd.R (Kd.int .u8) 5 wc w.heap.size (fun _ => True) u5 x5_1) ∧ Aside0 (Below w.heap.size w wc))
         case first =>
          have H := HC99.out
          clear HC99
          by_cases c16 : t148 = 8
          ·rw [if_pos c16] at H
           have c16b0 : (t148 == 8) = true := beq_iff_eq.mpr c16
           have c16b1 : (t148 != 8) = false := bne_eq_false_iff_eq.mpr c16
           clear c16
           (first | rw [c16b0] | (simp only [i64_w, i32_w]; rw [c16b0]) | skip)
           have H' := Am H
           clear H
           go_wp2
           go_meet
           case rel => exact ⟨(192), er_, H', ⟨rk_ HO_5⟩, ⟨bl_ HB⟩⟩
          ·rw [if_neg c16] at H
           have c16b0 : (t148 == 8) = false := beq_eq_false_iff_ne.mpr c16
           have c16b1 : (t148 != 8) = true := bne_iff_ne.mpr c16
           clear c16
           (first | rw [c16b0] | (simp only [i64_w, i32_w]; rw [c16b0]) | skip)
           have H' := Am H
           clear H
           go_wp2
           go_meet
           case rel => exact ⟨(x7_13), er_, H', ⟨rk_ HO_5⟩, ⟨bl_ HB⟩⟩
         case rest =>
          clear HC99
          obtain ⟨x7_99, rfl, HA, HO_5, HB⟩ := hcut
          have H := HA.out
          clear HA
          unfold chapbookref01_Put.lf at H
          by_cases c28 : 0 < (x5_1.length : Int)
          ·rw [if_pos c28] at H
           have c28b0 := decide_eq_true c28
           have c28b1 : decide (0 < x5_1.length) = true := decide_eq_true (by omega)
           clear c28
           obtain ⟨y167, hy167⟩ : ∃ y_ : List Int, y_ = (([(wrap64 ((wrap64 (rd x5_1 0)) + x7_99)) % 256] : List Int)) := ⟨_, rfl⟩
           replace H : (if 1 ≤ (x5_1.length : Int) then ((some (x5_1.drop 1 : List Int)).bind fun y170 => (if (strOfNums y167).size + (strOfNums y170).size ≤ 9223372036854775807 then (some ((strOfNums y167) ++ (strOfNums y170), 0)) else (none))) else (none)) = some (r1, r2) := rp_ H hy167
           have Ny167 := Am hy167
           clear hy167
           by_cases c29 : 1 ≤ (x5_1.length : Int)
           ·rw [if_pos c29] at H
            have c29b0 := eq_true c29
            have c29b1 := decide_eq_true c29
            clear c29
            obtain ⟨y170, hy170⟩ : ∃ y_ : List Int, y_ = (x5_1.drop 1) := ⟨_, rfl⟩
            replace H : (if (strOfNums y167).size + (strOfNums y170).size ≤ 9223372036854775807 then (some ((strOfNums y167) ++ (strOfNums y170), 0)) else (none)) = some (r1, r2) := rp_ H hy170
            have Ny170 := Am hy170
            clear hy170
            by_cases c30 : (strOfNums y167).size + (strOfNums y170).size ≤ 9223372036854775807
            ·rw [if_pos c30] at H
             have c30b0 := eq_true c30
             have c30b1 := decide_eq_true c30
             try have c30b2 : (9223372036854775807 < (strOfNums y167).size + (strOfNums y170).size) = False := eq_false (Nat.not_lt.2 c30)
             simp only [Option.some.injEq, Prod.mk.injEq] at H
             obtain ⟨rfl, rfl⟩ := H
             try go_wp2
             replace HO_5 := Am (Kd.R_drew HO_5.out)
             replace HB := Am (below_drew1 HB.out)
             obtain ⟨Ao32, co32, eo32⟩ := Kd.R_slice HO_5.out
             (first | subst eo32 | (injection eo32 with f1_ f2_ f3_; have f4_ := f1_.symm; have f5_ := f3_.symm; clear f1_ f2_ f3_; subst f4_; subst f5_))
             have p166 : 0 ≤ (0 : Int) := (by omega)
             have q166 : 0 < (x5_1.length : Int) := od_
             obtain ⟨ad166, e166, hx166_0⟩ := Kd.at_int (Kd.R_reads' HO_5.out).2.2 0 p166 q166
             cases e166
             have qi166 : (0 < x5_1.length) = True := eq_true (by omega)
             (try rw [show ((0 : Int)).toNat = 0 from rfl] at hx166_0)
             (try rw [Addr.add_zero'] at hx166_0)
             replace p166 := eq_true p166
             replace q166 := eq_true q166
             have q33 : (1 : Int) ≤ ((x5_1.length : Int) : Int) := od_
             obtain ⟨i033, hi033, _, hsz33, _⟩ := info_parts info5
             have hroom33 : x5_1.length ≤ co32 := (Kd.R_reads' HO_5.out).2.1
             have hC33 : Kd.C (Kd.int .u8) _ (some ad166) x5_1.length x5_1 := (Kd.R_reads' HO_5.out).2.2
             have hcut33 := cut_from (P := Tryd.prog) 154 5 .i64 Tryd.underlying154 hi033 1 hsz33 (some ad166) x5_1.length co32 1 (by omega) q33
             have hr33 := Kd.C_drop (m := (1 : Int).toNat) (c := co32) hC33 (by omega) hroom33
             obtain ⟨A33, hA33⟩ : ∃ Aq_, Aq_ = (if co32 = (1 : Int).toNat then (some ad166) else ((some ad166) : Option Addr).map (·.add ((1 : Int).toNat * 1))) := ⟨_, rfl⟩
             obtain ⟨c33, hc33⟩ : ∃ cq_, cq_ = co32 - (1 : Int).toNat := ⟨_, rfl⟩
             have hy33 : y170.length = x5_1.length - (1 : Int).toNat := (by rw [Ny170.out, List.length_drop] <;> omega)
             rw [show (x5_1).drop (1 : Int).toNat = y170 from Ny170.out.symm] at hr33
             replace hr33 : Kd.C (Kd.int .u8) _ A33 y170.length y170 := (by rw [hA33]; exact hr33)
             rw [← hy33, ← hA33, ← hc33] at hcut33
             have HR173 := Am hr33
             have HC173 := Am (show y170.length ≤ c33 from by rw [hy33, hc33]; exact Nat.sub_le_sub_right hroom33 _)
             clear hr33 hC33 hroom33 hi033 hsz33 hc33
             have KY33 := Am hy33
             have KA33 := Am hA33
             clear hy33 hA33
             have KL33 := Am (show 1 ≤ x5_1.length from by omega)
             replace q33 := eq_true q33
             refine start_ (n := 15) (S := fun w' => w'.cell? ad166 = some (.int .u8 (rd x5_1 0)) ∧ Kd.C (Kd.int .u8) w' A33 y170.length y170) (ds := []) #[false, false, false, false, false, false, false, false, false, false, false, false, false, false, false] (by kernel_rfl) rfl rfl (⟨hx166_0, HR173.out⟩) (fun hHeld => ?_); refine with_tabW chapbookref01_Put.tab17 chapbookref01_Put.bits17 (fun HT_ HW_ => ?_)
             generalize wc.drew = w31 at HO_5 HB HR173 hx166_0 hHeld ⊢
             refine uP 0 (some 32) ?_
             refine uP 1 (some 33) ?_
             refine uP 4 (some 36) ?_
             refine uP 9 (some 41) ?_
             refine uP 10 (some 42) ?_
             refine take_ (i := 11) (N := some 43) (v := ?_) (a' := ?_) #[true, true, false, false, true, false, false, false, false, true, true, true, false, false, false] rfl rfl (take_ofW HT_.out HW_.out (by kernel_rfl)) (fun _ _ _ h => h) (Or.inl ⟨by rfl, ?_⟩) hHeld ?_ ?_
             rotate_left
             ·intro w' s0
              have hcv := Kd.C_string (P := Tryd.prog) (A := A33) (c := c33) Tryd.underlying154 Tryd.underlying5 Tryd.underlying9 s0.2
              clear s0
              go_simp
              with_reducible rfl
             rotate_left
             ·simp only [Act.put, List.setIfInBounds_toArray, List.set_cons_zero, List.set_cons_succ, i64_w, i32_w]
              rfl
             refine take_ (i := 2) (N := some 34) (v := ?_) (a' := ?_) #[true, true, true, false, true, false, false, false, false, true, true, true, false, false, false] rfl rfl (take_ofW HT_.out HW_.out (by kernel_rfl)) (fun _ _ _ h => h) (Or.inl ⟨by rfl, ?_⟩) hHeld ?_ ?_
             rotate_left
             ·intro w' s0
              replace s0 := s0.1
              go_simp
              with_reducible rfl
             rotate_left
             ·simp only [Act.put, List.setIfInBounds_toArray, List.set_cons_zero, List.set_cons_succ, i64_w, i32_w]
              rfl
             refine uP 3 (some 35) ?_
             refine uP 5 (some 37) ?_
             refine uP 6 (some 38) ?_
             refine one_ (i := 7) (N := some 39) #[true, true, true, true, true, true, true, true, false, true, true, true, false, false, false] rfl rfl (one_of HT_.out (by kernel_rfl)) (by decide) (fun K hK => ?_)
             refine Kd.R_lit_step (Kd.int .u8) _ 5 rfl (N := 39) rfl (xs := ([(wrap64 ((wrap64 (rd x5_1 0)) + x7_99)) % 256] : List Int)) (inner := [.int .u8 ((wrap64 ((wrap64 (rd x5_1 0)) + x7_99)) % 256)]) (ok := fun _ => True) (okp := fun _ => True) gs_ ?hp (fun _ hk => hk) trivial (Below.refl _ _) (Nat.le_refl _) (by simp) ?_; (case hp => exact (Reps.one (show Kd.M (Kd.int .u8) _ _ _ ((wrap64 ((wrap64 (rd x5_1 0)) + x7_99)) % 256) [.int .u8 ((wrap64 ((wrap64 (rd x5_1 0)) + x7_99)) % 256)] from rfl) (Reps.none _ _)))
             intro v168 w34 ho35 hb hg_ hnew_
             have HS0_ := And.intro ((hb.cell (World.block_lt_of_cell? _ _ (hHeld.1))).trans (hHeld.1)) (Kd.C_below hHeld.2 hb)
             clear hg_ hnew_
             (first | rw [← Ny167.out] at ho35 | (simp only [Int.reduceToNat] at ho35; rw [← Ny167.out] at ho35))
             have n0_ := Am (Kd.R_elder' (rk_ HO_5) (Kd.R_base ho35) hb)
             have n1_ := Am (Kd.R_lower (Kd.R_new' ho35 (Kd.R_lt (rk_ HO_5))) (below_size (bl_ HB)))
             have n2_ := Am (Kd.C_below (ck_ HR173) hb)
             have n3_ := Am (below_step (bl_ HB) hb)
             clear HO_5 HR173 HB
             have HO_5 := n0_
             have HO169 := n1_
             have HR173 := n2_
             have HB := n3_
             clear n0_ n1_ n2_ n3_ hb ho35
             have hcv37 := Kd.C_string (P := Tryd.prog) (A := A33) (c := c33) Tryd.underlying154 Tryd.underlying5 Tryd.underlying9 (ck_ HR173)
             refine hK.out _ _ (HS0_) (fun hHeld => ?_)
             clear hK K
             refine norm_ (a' := ?_) ?_ ?_
             rotate_left
             ·show Act.put _ (some 39) _ = _
              simp only [Act.put, List.setIfInBounds_toArray, List.set_cons_zero, List.set_cons_succ, i64_w, i32_w]
              rfl
             refine one_ (i := 8) (N := some 40) #[true, true, true, true, true, true, true, true, true, true, true, true, false, false, false] rfl rfl (one_of HT_.out (by kernel_rfl)) (by decide) (fun K hK => ?_)
             have hcv36 := own_string (P := Tryd.prog) Tryd.underlying154 Tryd.underlying5 Tryd.underlying9 (Kd.own_of_R HO169.out)
             refine value_ (w1 := ?_) (v := ?_) (by rfl) rfl ?_ ?_
             rotate_left 2
             ·go_simp
              constructor
              ·rfl
              ·rfl
             clear hcv36
             refine hK.out _ _ hHeld (fun hHeld => ?_)
             clear hK K
             refine norm_ (a' := ?_) ?_ ?_
             rotate_left
             ·show Act.put _ (some 40) _ = _
              simp only [Act.put, List.setIfInBounds_toArray, List.set_cons_zero, List.set_cons_succ, i64_w, i32_w]
              rfl
             refine uP 12 (some 44) ?_
             refine uP 13 (some 2) ?_
             refine uP 14 (some 3) ?_
             refine done_ (done_of HT_.out (by kernel_rfl)) ?_
             try go_wp2
             go_ret2
             exact ⟨ew_, bl_ HB⟩
            ·rw [if_neg c30] at H
             exact absurd H (by simp)
           ·rw [if_neg c29] at H
            exact absurd H (by simp)
          ·rw [if_neg c28] at H
           exact absurd H (by simp)
end Go.Proofs.YtjdenpmaianmfaaDoor.Q
