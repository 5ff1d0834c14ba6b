/- Contracts of the seat's functions, printed: if the Lean function comes to a value, the Go function returns it. -/
import Derived.Test.YtjdenpmaianmfaaDoorYClientWaitsSq
import Derived.Test.YtjdenpmaianmfaaDoorYClientWaitsSpell
import Derived.Test.YtjdenpmaianmfaaDoorYClientWaitsQ7
namespace Go.Proofs.YtjdenpmaianmfaaDoor.Q
open Go.RowKit Go.Proofs.YtjdenpmaianmfaaDoorW.PrintWords Go.Proofs.YtjdenpmaianmfaaDoorW.PrintLast Go.Proofs.YtjdenpmaianmfaaDoorW.PrintMore
attribute [local go_sem] max2_int min2_int max_two min_two max_three min_three max_four min_four
set_option maxHeartbeats 16000000
set_option maxRecDepth 100000
set_option linter.unusedVariables false
set_option linter.unusedSimpArgs false
mutual
def chapbookref01_Put.l0 : Nat → Int → Int → List Int → Int → Option (ByteArray × Int)
 | 0, _, _, _, _ => none
 | k + 1, x0, x4, x5, x6 => if x6 < x4 then ((some (([(Int.tmod x0 256) % 256] : List Int) : List Int)).bind fun y152 => (if y152.length + x5.length < 140737488355328 then (chapbookref01_Put.l0 k (IntKind.u64.wrap (Int.tdiv x0 256)) x4 (y152 ++ x5) (wrap64 (x6 + 1))) else (none))) else (if x4 = 2 then (chapbookref01_Put.j1 k x4 x5 64) else (chapbookref01_Put.j1 k x4 x5 0))
def chapbookref01_Put.j1 : Nat → Int → List Int → Int → Option (ByteArray × Int)
 | 0, _, _, _ => none
 | k + 1, x4, x5, x7 => if x4 = 4 then (if x4 = 8 then (if 0 < (x5.length : Int) then ((some (([(wrap64 ((wrap64 (rd x5 0)) + 192)) % 256] : List Int) : List Int)).bind fun y159 => (if 1 ≤ (x5.length : Int) then ((some (x5.drop 1 : List Int)).bind fun y162 => (if (strOfNums y159).size + (strOfNums y162).size ≤ 9223372036854775807 then (some ((strOfNums y159) ++ (strOfNums y162), 0)) else (none))) else (none))) else (none)) else (if 0 < (x5.length : Int) then ((some (([(wrap64 ((wrap64 (rd x5 0)) + 128)) % 256] : List Int) : List Int)).bind fun y167 => (if 1 ≤ (x5.length : Int) then ((some (x5.drop 1 : List Int)).bind fun y170 => (if (strOfNums y167).size + (strOfNums y170).size ≤ 9223372036854775807 then (some ((strOfNums y167) ++ (strOfNums y170), 0)) else (none))) else (none))) else (none))) else (if x4 = 8 then (if 0 < (x5.length : Int) then ((some (([(wrap64 ((wrap64 (rd x5 0)) + 192)) % 256] : List Int) : List Int)).bind fun y175 => (if 1 ≤ (x5.length : Int) then ((some (x5.drop 1 : List Int)).bind fun y178 => (if (strOfNums y175).size + (strOfNums y178).size ≤ 9223372036854775807 then (some ((strOfNums y175) ++ (strOfNums y178), 0)) else (none))) else (none))) else (none)) else (if 0 < (x5.length : Int) then ((some (([(wrap64 ((wrap64 (rd x5 0)) + x7)) % 256] : List Int) : List Int)).bind fun y183 => (if 1 ≤ (x5.length : Int) then ((some (x5.drop 1 : List Int)).bind fun y186 => (if (strOfNums y183).size + (strOfNums y186).size ≤ 9223372036854775807 then (some ((strOfNums y183) ++ (strOfNums y186), 0)) else (none))) else (none))) else (none)))
end
def chapbookref01_Put.f (k : Nat) (a0 : Int) : Option (ByteArray × Int) := (chapbookref01_Size.f a0).bind fun t148 => (if t148 = 0 then (some ((⟨#[]⟩ : ByteArray), 1)) else (chapbookref01_Put.l0 k a0 t148 (([] : List Int)) 0))
def chapbookref01_Put.T17 : Bool × List (List Nat × List Nat) := (true, [([], []), ([0], [0]), ([1], [1]), ([2], [2]), ([], []), ([3, 4], [3, 4]), ([5], [5]), ([6], [6]), ([7], [7]), ([], []), ([9], [9]), ([10], [10]), ([8, 11], [8, 11]), ([12, 0, 1, 2, 3, 4, 5, 6, 7, 8, 9, 10, 11, 12], [12]), ([13, 0, 1, 2, 3, 4, 5, 6, 7, 8, 9, 10, 11, 12, 13], [])])
def chapbookref01_Put.B17 : List Nat := [0, 1, 3, 7, 0, 31, 63, 127, 255, 0, 512, 1536, 4095, 8191, 16383]
theorem chapbookref01_Put.tab17 : rtab .any (opsOf Tryd.f115 17) = chapbookref01_Put.T17 := by kernel_rfl
theorem chapbookref01_Put.bits17 : waitsOk chapbookref01_Put.T17.2 chapbookref01_Put.B17 = true := by kernel_rfl
theorem chapbookref01_Put.calls (k : Nat) (a0 : Int) (r1 : ByteArray) (r2 : Int) (w : World) (h : chapbookref01_Put.f k a0 = some (r1, r2)) :
  Calls Tryd.prog 115 #[.int .u64 a0] w fun e w' => e = .returned (.tuple #[.string r1, .int .i64 r2]) ∧ Below w.heap.size w w' := by
 have HB := Aside0.mk (Below.refl w.heap.size w)
 have H : ((chapbookref01_Size.f a0).bind fun t148 => (if t148 = 0 then (some ((⟨#[]⟩ : ByteArray), 1)) else (chapbookref01_Put.l0 k a0 t148 (([] : List Int)) 0))) = some (r1, r2) := h
 clear h
 replace H := Option.bind_eq_some_iff.mp H
 obtain ⟨t148, A20, H⟩ := H
 replace H : (if t148 = 0 then (some ((⟨#[]⟩ : ByteArray), 1)) else (chapbookref01_Put.l0 k a0 t148 (([] : List Int)) 0)) = some (r1, r2) := H
 have A2 := Aside0.mk A20
 clear A20
 by_cases c3 : t148 = 0
 ·rw [if_pos c3] at H
  have c3b0 : (t148 == 0) = true := beq_iff_eq.mpr c3
  have c3b1 : (t148 != 0) = false := bne_eq_false_iff_eq.mpr c3
  clear c3
  simp only [Option.some.injEq, Prod.mk.injEq] at H
  obtain ⟨rfl, rfl⟩ := H
  go_enter Tryd.func115, Tryd.ntmps115
  go_wp2_with (first | ((with_reducible refine gC 124 rfl ?_); refine goesL_ (some 9) rfl rfl Tryd.func124 (by kernel_rfl) rfl #[.int .u64 a0] rfl am_ ?_; (with_reducible refine (chapbookref01_Size.calls a0 t148 _ A2.out).mono ?_); rintro e w' ⟨rfl, ⟨nd, rfl⟩⟩; refine ⟨_, rfl, ?_⟩))
  go_ret2
  exact ⟨ew_, bl_ HB⟩
 ·rw [if_neg c3] at H
  have c3b0 : (t148 == 0) = false := beq_eq_false_iff_ne.mpr c3
  have c3b1 : (t148 != 0) = true := bne_iff_ne.mpr c3
  obtain ⟨y149, hy149⟩ : ∃ y_ : List Int, y_ = (([] : List Int)) := ⟨_, rfl⟩
  replace H : (chapbookref01_Put.l0 k a0 t148 y149 0) = some (r1, r2) := rp_ H hy149
  have Ny149 := Aside0.mk hy149
  clear hy149
  have H' := Aside0.mk H
  clear H
  go_enter Tryd.func115, Tryd.ntmps115
  go_wp2_with (first | ((with_reducible refine gC 124 rfl ?_); refine goesL_ (some 9) rfl rfl Tryd.func124 (by kernel_rfl) rfl #[.int .u64 a0] rfl am_ ?_; (with_reducible refine (chapbookref01_Size.calls a0 t148 _ A2.out).mono ?_); rintro e w' ⟨rfl, ⟨nd, rfl⟩⟩; refine ⟨_, rfl, ?_⟩) | ((with_reducible refine gD 12 rfl ?_); refine Kd.R_lit (Kd.int .u8) _ 5 rfl (N := 12) rfl (xs := ([] : List Int)) (inner := []) (ok := fun _ => True) (okp := fun _ => True) gs_ ?hp (fun _ hk => hk) trivial (Below.refl _ _) (Nat.le_refl _) (by simp) ?_; (case hp => exact (Reps.none _ _)); intro v150 w4 ho5 hb hg_ hnew_; clear hg_ hnew_; (first | rw [← Ny149.out] at ho5 | (simp only [Int.reduceToNat] at ho5; rw [← Ny149.out] at ho5)); have n0_ := Aside0.mk (Kd.R_lower ho5 (below_size (bl_ HB))); have n1_ := Aside0.mk (below_step (bl_ HB) hb); clear HB; have HO151 := n0_; have HB := n1_; clear n0_ n1_; clear hb ho5))
  go_loopg [0, 5, 6] k (fun kq v0 v5 v6 w' => ∃ (x0_1 : Int) (x5_1 : List Int) (x6_1 : Int), v0 = .int .u64 x0_1 ∧ v6 = .int .i64 x6_1 ∧ Aside0 (chapbookref01_Put.l0 kq x0_1 t148 x5_1 x6_1 = some (r1, r2)) ∧ Aside0 (kq ≤ k) ∧ Aside0 (Kd.R (Kd.int .u8) 5 w' w.heap.size (fun _ => True) v5 x5_1) ∧ Aside0 (Below w.heap.size w w'))
  case atStart => exact ⟨(a0), (y149), (0), er_, er_, H', ⟨Nat.le_refl _⟩, ⟨by (with_reducible repeat (first | apply Kd.R_alloc | apply Kd.R_drewN | apply Kd.R_drew)); exact HO151.out⟩, ⟨bl_ HB⟩⟩
  case round =>
   clear H'
   try clear c1
   try clear p2
   try clear c3
   try clear c3b0
   try clear c3b1
   obtain ⟨x0_1, x5_1, x6_1, rfl, rfl, HA, HK1, HO_5, HB⟩ := hrel
   cases gk with
   | zero => exact absurd HA.out (by simp [chapbookref01_Put.l0])
   | succ k1 =>
    have H := HA.out
    clear HA
    simp only [chapbookref01_Put.l0] at H
    by_cases c6 : x6_1 < t148
    ·rw [if_pos c6] at H
     have c6b0 : decide (x6_1 < t148) = true := decide_eq_true c6
     clear c6
     obtain ⟨y152, hy152⟩ : ∃ y_ : List Int, y_ = (([(Int.tmod x0_1 256) % 256] : List Int)) := ⟨_, rfl⟩
     replace H : (if y152.length + x5_1.length < 140737488355328 then (chapbookref01_Put.l0 k1 (IntKind.u64.wrap (Int.tdiv x0_1 256)) t148 (y152 ++ x5_1) (wrap64 (x6_1 + 1))) else (none)) = some (r1, r2) := rp_ H hy152
     have Ny152 := Aside0.mk hy152
     clear hy152
     by_cases c7 : y152.length + x5_1.length < 140737488355328
     ·rw [if_pos c7] at H
      have LMc7 := Aside0.mk c7
      clear c7
      obtain ⟨y155, hy155⟩ : ∃ y_ : List Int, y_ = (y152 ++ x5_1) := ⟨_, rfl⟩
      replace H : (chapbookref01_Put.l0 k1 (IntKind.u64.wrap (Int.tdiv x0_1 256)) t148 y155 (wrap64 (x6_1 + 1))) = some (r1, r2) := rp_ H hy155
      have Ny155 := Aside0.mk hy155
      clear hy155
      have H' := Aside0.mk H
      clear H
      go_wp2_with (first | ((with_reducible refine gD 21 rfl ?_); refine Kd.R_lit (Kd.int .u8) _ 5 rfl (N := 21) rfl (xs := ([(Int.tmod x0_1 256) % 256] : List Int)) (inner := [.int .u8 ((Int.tmod x0_1 256) % 256)]) (ok := fun _ => True) (okp := fun _ => True) gs_ ?hp (fun _ hk => hk) trivial (Below.refl _ _) (Nat.le_refl _) (by simp) ?_; (case hp => exact (Reps.one (show Kd.M (Kd.int .u8) _ _ _ ((Int.tmod x0_1 256) % 256) [.int .u8 ((Int.tmod x0_1 256) % 256)] from rfl) (Reps.none _ _))); intro v153 w8 ho9 hb hg_ hnew_; clear hg_ hnew_; (first | rw [← Ny152.out] at ho9 | (simp only [Int.reduceToNat] at ho9; rw [← Ny152.out] at ho9)); have n0_ := Aside0.mk (Kd.R_elder' (by (with_reducible repeat (first | apply Kd.R_alloc | apply Kd.R_drewN | apply Kd.R_drew)); exact HO_5.out) (Kd.R_base ho9) hb); have n1_ := Aside0.mk (Kd.R_lower (Kd.R_new' ho9 (Kd.R_lt (by (with_reducible repeat (first | apply Kd.R_alloc | apply Kd.R_drewN | apply Kd.R_drew)); exact HO_5.out))) (below_size (bl_ HB))); have n2_ := Aside0.mk (below_step (bl_ HB) hb); clear HO_5; clear HB; have HO_5 := n0_; have HO154 := n1_; have HB := n2_; clear n0_ n1_ n2_; clear hb ho9; obtain ⟨Ao11, co11, eo11⟩ := Kd.R_slice HO_5.out; subst eo11) | ((with_reducible refine gate_builtin (b := .append) (xs := #[.tmp 21, .tmp 22]) rfl ?_); at_builtin; refine Kd.R_append_rows (Kd.int .u8) (w0 := w) w.heap.size rfl (.tmp 21) (.tmp 22) 154 5 (.int .u8 0) 1 rfl Tryd.underlying154 info5 rfl (by decide) (by omega) v153 y152 x5_1 _ _ _ (fun k_ => some k_ ≠ (.slice Ao11 x5_1.length co11 : Value).ownBlock) (fun _ => False) rfl rfl ?aO ?aR (fun _ _ h => h) (fun _ h => h.elim) ?aF ?aB ?aS ?aL ?_; (case aR => repeat (first | exact (Kd.R_reads' HO_5.out).2.2 | (with_reducible refine Kd.C_alloc ?_ _) | (with_reducible refine Kd.C_drewN ?_ _) | (with_reducible refine Kd.C_drew ?_))); (case aB => exact (bl_ HB)); (case aF => exact (fun k_ hk => Kd.fresh' (Kd.R_lt (by (with_reducible repeat (first | apply Kd.R_alloc | apply Kd.R_drewN | apply Kd.R_drew)); exact HO_5.out)) k_ hk)); (case aO => exact (by (with_reducible repeat (first | apply Kd.R_alloc | apply Kd.R_drewN | apply Kd.R_drew)); exact Kd.R_mono HO154.out (fun _ hk => hk.2))); (case aS => exact (below_size (bl_ HB))); (case aL => have := LMc7.out; omega); intro v156 w10 ho hb hg hat; rw [← Ny155.out] at ho; have n0_ := Aside0.mk (Kd.R_after (ok := (fun _ => True)) (by (with_reducible repeat (first | apply Kd.R_alloc | apply Kd.R_drewN | apply Kd.R_drew)); exact HO_5.out) hg hat); have n1_ := Aside0.mk (hb); have n2_ := Aside0.mk (ho); clear HO_5; clear HB; clear HO154; have HO_5 := n0_; have HB := n1_; have HO157 := n2_; clear n0_ n1_ n2_; clear ho hb hg hat))
      go_roundg k1
      case measure => have := HK1.out; omega
      case rel => exact ⟨(IntKind.u64.wrap (Int.tdiv x0_1 256)), (y155), (wrap64 (x6_1 + 1)), er_, er_, H', ⟨by have := HK1.out; omega⟩, ⟨by (with_reducible repeat (first | apply Kd.R_alloc | apply Kd.R_drewN | apply Kd.R_drew)); exact Kd.R_mono HO157.out (fun _ hk => trivial)⟩, ⟨bl_ HB⟩⟩
     ·rw [if_neg c7] at H
      exact absurd H (by simp)
    ·rw [if_neg c6] at H
     have c6b0 : decide (x6_1 < t148) = false := decide_eq_false c6
     clear c6
     have HC12 := Aside0.mk H
     clear H
     go_upto_if 27 with (fail)
     go_cut [7] (fun v7 wc => ∃ (kq : Nat) (x7_11 : Int), v7 = .int .i64 x7_11 ∧ Aside0 (chapbookref01_Put.j1 kq t148 x5_1 x7_11 = some (r1, r2)) ∧ Aside0 (kq ≤ k1) ∧ Aside0 (Kd.R (Kd.int .u8) 5 wc w.heap.size (fun _ => True) u5 x5_1) ∧ Aside0 (Below w.heap.size w wc))
     case first =>
      have H := HC12.out
      clear HC12
      by_cases c13 : t148 = 2
      ·rw [if_pos c13] at H
       have c13b0 : (t148 == 2) = true := beq_iff_eq.mpr c13
       have c13b1 : (t148 != 2) = false := bne_eq_false_iff_eq.mpr c13
       clear c13
       (first | rw [c13b0] | (simp only [i64_w, i32_w]; rw [c13b0]) | skip)
       have H' := Aside0.mk H
       clear H
       go_wp2
       go_meet
       case rel => exact ⟨_, (64), er_, H', ⟨by have := HK1.out; first | omega | exact Nat.le_refl _⟩, ⟨by (with_reducible repeat (first | apply Kd.R_alloc | apply Kd.R_drewN | apply Kd.R_drew)); exact HO_5.out⟩, ⟨bl_ HB⟩⟩
      ·rw [if_neg c13] at H
       have c13b0 : (t148 == 2) = false := beq_eq_false_iff_ne.mpr c13
       have c13b1 : (t148 != 2) = true := bne_iff_ne.mpr c13
       (first | rw [c13b0] | (simp only [i64_w, i32_w]; rw [c13b0]) | skip)
       have H' := Aside0.mk H
       clear H
       go_wp2
       go_meet
       case rel => exact ⟨_, (0), er_, H', ⟨by have := HK1.out; first | omega | exact Nat.le_refl _⟩, ⟨by (with_reducible repeat (first | apply Kd.R_alloc | apply Kd.R_drewN | apply Kd.R_drew)); exact HO_5.out⟩, ⟨bl_ HB⟩⟩
     case rest =>
      clear HC12
      try clear c1
      try clear p2
      try clear c3
      try clear c3b0
      try clear c3b1
      try clear c6
      try clear c6b0
      try clear p6
      try clear c7
      try clear c11
      try clear c12
      try clear c13
      try clear c13b0
      try clear c13b1
      try clear p2
      obtain ⟨kq, x7_11, rfl, HA, HJ11, HO_5, HB⟩ := hcut
      cases kq with
      | zero => exact absurd HA.out (by simp [chapbookref01_Put.j1])
      | succ kj11 =>
       have H := HA.out
       clear HA
       simp only [chapbookref01_Put.j1] at H
       by_cases c14 : t148 = 4
       ·rw [if_pos c14] at H
        have c14b0 : (t148 == 4) = true := beq_iff_eq.mpr c14
        have c14b1 : (t148 != 4) = false := bne_eq_false_iff_eq.mpr c14
        clear c14
        by_cases c15 : t148 = 8
        ·rw [if_pos c15] at H
         have c15b0 : (t148 == 8) = true := beq_iff_eq.mpr c15
         have c15b1 : (t148 != 8) = false := bne_eq_false_iff_eq.mpr c15
         clear c15
         by_cases c16 : 0 < (x5_1.length : Int)
         ·rw [if_pos c16] at H
          have c16b0 : decide (0 < (x5_1.length : Int)) = true := decide_eq_true c16
          have c16b1 : decide (0 < x5_1.length) = true := decide_eq_true (by omega)
          clear c16
          obtain ⟨y159, hy159⟩ : ∃ y_ : List Int, y_ = (([(wrap64 ((wrap64 (rd x5_1 0)) + 192)) % 256] : List Int)) := ⟨_, rfl⟩
          replace H : (if 1 ≤ (x5_1.length : Int) then ((some (x5_1.drop 1 : List Int)).bind fun y162 => (if (strOfNums y159).size + (strOfNums y162).size ≤ 9223372036854775807 then (some ((strOfNums y159) ++ (strOfNums y162), 0)) else (none))) else (none)) = some (r1, r2) := rp_ H hy159
          have Ny159 := Aside0.mk hy159
          clear hy159
          by_cases c17 : 1 ≤ (x5_1.length : Int)
          ·rw [if_pos c17] at H
           have c17b0 := eq_true c17
           have c17b1 : decide (1 ≤ (x5_1.length : Int)) = true := decide_eq_true c17
           clear c17
           obtain ⟨y162, hy162⟩ : ∃ y_ : List Int, y_ = (x5_1.drop 1) := ⟨_, rfl⟩
           replace H : (if (strOfNums y159).size + (strOfNums y162).size ≤ 9223372036854775807 then (some ((strOfNums y159) ++ (strOfNums y162), 0)) else (none)) = some (r1, r2) := rp_ H hy162
           have Ny162 := Aside0.mk hy162
           clear hy162
           by_cases c18 : (strOfNums y159).size + (strOfNums y162).size ≤ 9223372036854775807
           ·rw [if_pos c18] at H
            have c18b0 := eq_true c18
            have c18b1 : decide ((strOfNums y159).size + (strOfNums y162).size ≤ 9223372036854775807) = true := decide_eq_true c18
            try have c18b2 : (9223372036854775807 < (strOfNums y159).size + (strOfNums y162).size) = False := eq_false (Nat.not_lt.2 c18)
            simp only [Option.some.injEq, Prod.mk.injEq] at H
            obtain ⟨rfl, rfl⟩ := H
            try go_wp2
            have n0_ := Aside0.mk (Kd.R_drew HO_5.out)
            have n1_ := Aside0.mk (below_drew1 HB.out)
            clear HO_5
            clear HB
            have HO_5 := n0_
            have HB := n1_
            clear n0_ n1_
            obtain ⟨Ao20, co20, eo20⟩ := Kd.R_slice HO_5.out
            (first | subst eo20 | (injection eo20 with f1_ f2_ f3_; have f4_ := f1_.symm; have f5_ := f3_.symm; clear f1_ f2_ f3_; subst f4_; subst f5_))
            have p158 : 0 ≤ (0 : Int) := (by omega)
            have q158 : 0 < (x5_1.length : Int) := of_decide_eq_true (by first | (with_reducible assumption) | assumption)
            obtain ⟨ad158, e158, hx158_0⟩ := Kd.at_int (Kd.R_reads' HO_5.out).2.2 0 p158 q158
            cases e158
            have qi158 : (0 < x5_1.length) = True := eq_true (by omega)
            (try rw [show ((0 : Int)).toNat = 0 from rfl] at hx158_0)
            (try rw [Addr.add_zero'] at hx158_0)
            replace p158 := eq_true p158
            replace q158 := eq_true q158
            have q21 : (1 : Int) ≤ ((x5_1.length : Int) : Int) := of_decide_eq_true (by first | (with_reducible assumption) | assumption)
            obtain ⟨i021, hi021, _, hsz21, _⟩ := info_parts info5
            have hroom21 : x5_1.length ≤ co20 := (Kd.R_reads' HO_5.out).2.1
            have hC21 : Kd.C (Kd.int .u8) _ (some ad158) x5_1.length x5_1 := (Kd.R_reads' HO_5.out).2.2
            have hcut21 := cut_from (P := Tryd.prog) 154 5 .i64 Tryd.underlying154 hi021 1 hsz21 (some ad158) x5_1.length co20 1 (by omega) q21
            have hr21 := Kd.C_drop (m := (1 : Int).toNat) (c := co20) hC21 (by omega) hroom21
            obtain ⟨A21, hA21⟩ : ∃ Aq_, Aq_ = (if co20 = (1 : Int).toNat then (some ad158) else ((some ad158) : Option Addr).map (·.add ((1 : Int).toNat * 1))) := ⟨_, rfl⟩
            obtain ⟨c21, hc21⟩ : ∃ cq_, cq_ = co20 - (1 : Int).toNat := ⟨_, rfl⟩
            have hy21 : y162.length = x5_1.length - (1 : Int).toNat := (by rw [Ny162.out, List.length_drop] <;> omega)
            rw [show (x5_1).drop (1 : Int).toNat = y162 from Ny162.out.symm] at hr21
            replace hr21 : Kd.C (Kd.int .u8) _ A21 y162.length y162 := (by rw [hA21]; exact hr21)
            rw [← hy21, ← hA21, ← hc21] at hcut21
            have HR165 := Aside0.mk hr21
            have HC165 := Aside0.mk (show y162.length ≤ c21 from by rw [hy21, hc21]; exact Nat.sub_le_sub_right hroom21 _)
            clear hr21 hC21 hroom21 hi021 hsz21 hc21
            have KY21 := Aside0.mk hy21
            have KA21 := Aside0.mk hA21
            clear hy21 hA21
            have KL21 := Aside0.mk (show 1 ≤ x5_1.length from by omega)
            replace q21 := eq_true q21
            refine start_ (n := 15) (S := fun w' => w'.cell? ad158 = some (.int .u8 (rd x5_1 0)) ∧ Kd.C (Kd.int .u8) w' A21 y162.length y162) (ds := []) #[false, false, false, false, false, false, false, false, false, false, false, false, false, false, false] (by kernel_rfl) rfl rfl (⟨hx158_0, HR165.out⟩) (fun hHeld => ?_); refine with_tabW chapbookref01_Put.tab17 chapbookref01_Put.bits17 (fun HT_ HW_ => ?_)
            generalize wc.drew = w19 at HO_5 HB HR165 hx158_0 hHeld ⊢
            refine uP 0 (some 32) ?_
            refine uP 1 (some 33) ?_
            refine uP 4 (some 36) ?_
            refine uP 9 (some 41) ?_
            refine uP 10 (some 42) ?_
            refine take_ (i := 11) (N := some 43) (v := ?_) (a' := ?_) #[true, true, false, false, true, false, false, false, false, true, true, true, false, false, false] rfl rfl (take_ofW HT_.out HW_.out (by kernel_rfl)) (fun _ _ _ h => h) (Or.inl ⟨by rfl, ?_⟩) hHeld ?_ ?_
            rotate_left
            ·intro w' s0
             have hcv := Kd.C_string (P := Tryd.prog) (A := A21) (c := c21) Tryd.underlying154 Tryd.underlying5 Tryd.underlying9 s0.2
             clear s0
             go_simp
             with_reducible rfl
            rotate_left
            ·simp only [Act.put, List.setIfInBounds_toArray, List.set_cons_zero, List.set_cons_succ, i64_w, i32_w]
             rfl
            refine take_ (i := 2) (N := some 34) (v := ?_) (a' := ?_) #[true, true, true, false, true, false, false, false, false, true, true, true, false, false, false] rfl rfl (take_ofW HT_.out HW_.out (by kernel_rfl)) (fun _ _ _ h => h) (Or.inl ⟨by rfl, ?_⟩) hHeld ?_ ?_
            rotate_left
            ·intro w' s0
             replace s0 := s0.1
             go_simp
             with_reducible rfl
            rotate_left
            ·simp only [Act.put, List.setIfInBounds_toArray, List.set_cons_zero, List.set_cons_succ, i64_w, i32_w]
             rfl
            refine uP 3 (some 35) ?_
            refine uP 5 (some 37) ?_
            refine uP 6 (some 38) ?_
            refine one_ (i := 7) (N := some 39) #[true, true, true, true, true, true, true, true, false, true, true, true, false, false, false] rfl rfl (one_of HT_.out (by kernel_rfl)) (by decide) (fun K hK => ?_)
            refine Kd.R_lit_step (Kd.int .u8) _ 5 rfl (N := 39) rfl (xs := ([(wrap64 ((wrap64 (rd x5_1 0)) + 192)) % 256] : List Int)) (inner := [.int .u8 ((wrap64 ((wrap64 (rd x5_1 0)) + 192)) % 256)]) (ok := fun _ => True) (okp := fun _ => True) gs_ ?hp (fun _ hk => hk) trivial (Below.refl _ _) (Nat.le_refl _) (by simp) ?_; (case hp => exact (Reps.one (show Kd.M (Kd.int .u8) _ _ _ ((wrap64 ((wrap64 (rd x5_1 0)) + 192)) % 256) [.int .u8 ((wrap64 ((wrap64 (rd x5_1 0)) + 192)) % 256)] from rfl) (Reps.none _ _)))
            intro v160 w22 ho23 hb hg_ hnew_
            have HS0_ := And.intro ((hb.cell (World.block_lt_of_cell? _ _ (hHeld.1))).trans (hHeld.1)) (Kd.C_below hHeld.2 hb)
            clear hg_ hnew_
            (first | rw [← Ny159.out] at ho23 | (simp only [Int.reduceToNat] at ho23; rw [← Ny159.out] at ho23))
            have n0_ := Aside0.mk (Kd.R_elder' (by (with_reducible repeat (first | apply Kd.R_alloc | apply Kd.R_drewN | apply Kd.R_drew)); exact HO_5.out) (Kd.R_base ho23) hb)
            have n1_ := Aside0.mk (Kd.R_lower (Kd.R_new' ho23 (Kd.R_lt (by (with_reducible repeat (first | apply Kd.R_alloc | apply Kd.R_drewN | apply Kd.R_drew)); exact HO_5.out))) (below_size (bl_ HB)))
            have n2_ := Aside0.mk (Kd.C_below (by repeat (first | (with_reducible exact HR165.out) | (with_reducible refine Kd.C_alloc ?_ _) | (with_reducible refine Kd.C_drewN ?_ _) | (with_reducible refine Kd.C_drew ?_) | exact HR165.out)) hb)
            have n3_ := Aside0.mk (below_step (bl_ HB) hb)
            clear HO_5
            clear HR165
            clear HB
            have HO_5 := n0_
            have HO161 := n1_
            have HR165 := n2_
            have HB := n3_
            clear n0_ n1_ n2_ n3_
            clear hb ho23
            have hcv25 := Kd.C_string (P := Tryd.prog) (A := A21) (c := c21) Tryd.underlying154 Tryd.underlying5 Tryd.underlying9 (by repeat (first | (with_reducible exact HR165.out) | (with_reducible refine Kd.C_alloc ?_ _) | (with_reducible refine Kd.C_drewN ?_ _) | (with_reducible refine Kd.C_drew ?_) | exact HR165.out))
            refine hK.out _ _ (HS0_) (fun hHeld => ?_)
            clear hK K
            refine norm_ (a' := ?_) ?_ ?_
            rotate_left
            ·show Act.put _ (some 39) _ = _
             simp only [Act.put, List.setIfInBounds_toArray, List.set_cons_zero, List.set_cons_succ, i64_w, i32_w]
             rfl
            refine one_ (i := 8) (N := some 40) #[true, true, true, true, true, true, true, true, true, true, true, true, false, false, false] rfl rfl (one_of HT_.out (by kernel_rfl)) (by decide) (fun K hK => ?_)
            have hcv24 := own_string (P := Tryd.prog) Tryd.underlying154 Tryd.underlying5 Tryd.underlying9 (Kd.own_of_R HO161.out)
            refine value_ (w1 := ?_) (v := ?_) (by rfl) rfl ?_ ?_
            rotate_left 2
            ·go_simp
             constructor
             ·rfl
             ·rfl
            clear hcv24
            refine hK.out _ _ hHeld (fun hHeld => ?_)
            clear hK K
            refine norm_ (a' := ?_) ?_ ?_
            rotate_left
            ·show Act.put _ (some 40) _ = _
             simp only [Act.put, List.setIfInBounds_toArray, List.set_cons_zero, List.set_cons_succ, i64_w, i32_w]
             rfl
            refine uP 12 (some 44) ?_
            refine uP 13 (some 2) ?_
            refine uP 14 (some 3) ?_
            refine done_ (done_of HT_.out (by kernel_rfl)) ?_
            try go_wp2
            go_ret2
            exact ⟨ew_, bl_ HB⟩
           ·rw [if_neg c18] at H
            exact absurd H (by simp)
          ·rw [if_neg c17] at H
           exact absurd H (by simp)
         ·rw [if_neg c16] at H
          exact absurd H (by simp)
        ·rw [if_neg c15] at H
         have c15b0 : (t148 == 8) = false := beq_eq_false_iff_ne.mpr c15
         have c15b1 : (t148 != 8) = true := bne_iff_ne.mpr c15
         by_cases c27 : 0 < (x5_1.length : Int)
         ·rw [if_pos c27] at H
          have c27b0 : decide (0 < (x5_1.length : Int)) = true := decide_eq_true c27
          have c27b1 : decide (0 < x5_1.length) = true := decide_eq_true (by omega)
          clear c27
          obtain ⟨y167, hy167⟩ : ∃ y_ : List Int, y_ = (([(wrap64 ((wrap64 (rd x5_1 0)) + 128)) % 256] : List Int)) := ⟨_, rfl⟩
          replace H : (if 1 ≤ (x5_1.length : Int) then ((some (x5_1.drop 1 : List Int)).bind fun y170 => (if (strOfNums y167).size + (strOfNums y170).size ≤ 9223372036854775807 then (some ((strOfNums y167) ++ (strOfNums y170), 0)) else (none))) else (none)) = some (r1, r2) := rp_ H hy167
          have Ny167 := Aside0.mk hy167
          clear hy167
          by_cases c28 : 1 ≤ (x5_1.length : Int)
          ·rw [if_pos c28] at H
           have c28b0 := eq_true c28
           have c28b1 : decide (1 ≤ (x5_1.length : Int)) = true := decide_eq_true c28
           clear c28
           obtain ⟨y170, hy170⟩ : ∃ y_ : List Int, y_ = (x5_1.drop 1) := ⟨_, rfl⟩
           replace H : (if (strOfNums y167).size + (strOfNums y170).size ≤ 9223372036854775807 then (some ((strOfNums y167) ++ (strOfNums y170), 0)) else (none)) = some (r1, r2) := rp_ H hy170
           have Ny170 := Aside0.mk hy170
           clear hy170
           by_cases c29 : (strOfNums y167).size + (strOfNums y170).size ≤ 9223372036854775807
           ·rw [if_pos c29] at H
            have c29b0 := eq_true c29
            have c29b1 : decide ((strOfNums y167).size + (strOfNums y170).size ≤ 9223372036854775807) = true := decide_eq_true c29
            try have c29b2 : (9223372036854775807 < (strOfNums y167).size + (strOfNums y170).size) = False := eq_false (Nat.not_lt.2 c29)
            simp only [Option.some.injEq, Prod.mk.injEq] at H
            obtain ⟨rfl, rfl⟩ := H
            try go_wp2
            have n0_ := Aside0.mk (Kd.R_drew HO_5.out)
            have n1_ := Aside0.mk (below_drew1 HB.out)
            clear HO_5
            clear HB
            have HO_5 := n0_
            have HB := n1_
            clear n0_ n1_
            obtain ⟨Ao31, co31, eo31⟩ := Kd.R_slice HO_5.out
            (first | subst eo31 | (injection eo31 with f1_ f2_ f3_; have f4_ := f1_.symm; have f5_ := f3_.symm; clear f1_ f2_ f3_; subst f4_; subst f5_))
            have p166 : 0 ≤ (0 : Int) := (by omega)
            have q166 : 0 < (x5_1.length : Int) := of_decide_eq_true (by first | (with_reducible assumption) | assumption)
            obtain ⟨ad166, e166, hx166_0⟩ := Kd.at_int (Kd.R_reads' HO_5.out).2.2 0 p166 q166
            cases e166
            have qi166 : (0 < x5_1.length) = True := eq_true (by omega)
            (try rw [show ((0 : Int)).toNat = 0 from rfl] at hx166_0)
            (try rw [Addr.add_zero'] at hx166_0)
            replace p166 := eq_true p166
            replace q166 := eq_true q166
            have q32 : (1 : Int) ≤ ((x5_1.length : Int) : Int) := of_decide_eq_true (by first | (with_reducible assumption) | assumption)
            obtain ⟨i032, hi032, _, hsz32, _⟩ := info_parts info5
            have hroom32 : x5_1.length ≤ co31 := (Kd.R_reads' HO_5.out).2.1
            have hC32 : Kd.C (Kd.int .u8) _ (some ad166) x5_1.length x5_1 := (Kd.R_reads' HO_5.out).2.2
            have hcut32 := cut_from (P := Tryd.prog) 154 5 .i64 Tryd.underlying154 hi032 1 hsz32 (some ad166) x5_1.length co31 1 (by omega) q32
            have hr32 := Kd.C_drop (m := (1 : Int).toNat) (c := co31) hC32 (by omega) hroom32
            obtain ⟨A32, hA32⟩ : ∃ Aq_, Aq_ = (if co31 = (1 : Int).toNat then (some ad166) else ((some ad166) : Option Addr).map (·.add ((1 : Int).toNat * 1))) := ⟨_, rfl⟩
            obtain ⟨c32, hc32⟩ : ∃ cq_, cq_ = co31 - (1 : Int).toNat := ⟨_, rfl⟩
            have hy32 : y170.length = x5_1.length - (1 : Int).toNat := (by rw [Ny170.out, List.length_drop] <;> omega)
            rw [show (x5_1).drop (1 : Int).toNat = y170 from Ny170.out.symm] at hr32
            replace hr32 : Kd.C (Kd.int .u8) _ A32 y170.length y170 := (by rw [hA32]; exact hr32)
            rw [← hy32, ← hA32, ← hc32] at hcut32
            have HR173 := Aside0.mk hr32
            have HC173 := Aside0.mk (show y170.length ≤ c32 from by rw [hy32, hc32]; exact Nat.sub_le_sub_right hroom32 _)
            clear hr32 hC32 hroom32 hi032 hsz32 hc32
            have KY32 := Aside0.mk hy32
            have KA32 := Aside0.mk hA32
            clear hy32 hA32
            have KL32 := Aside0.mk (show 1 ≤ x5_1.length from by omega)
            replace q32 := eq_true q32
            refine start_ (n := 15) (S := fun w' => w'.cell? ad166 = some (.int .u8 (rd x5_1 0)) ∧ Kd.C (Kd.int .u8) w' A32 y170.length y170) (ds := []) #[false, false, false, false, false, false, false, false, false, false, false, false, false, false, false] (by kernel_rfl) rfl rfl (⟨hx166_0, HR173.out⟩) (fun hHeld => ?_); refine with_tabW chapbookref01_Put.tab17 chapbookref01_Put.bits17 (fun HT_ HW_ => ?_)
            generalize wc.drew = w30 at HO_5 HB HR173 hx166_0 hHeld ⊢
            refine uP 0 (some 32) ?_
            refine uP 1 (some 33) ?_
            refine uP 4 (some 36) ?_
            refine uP 9 (some 41) ?_
            refine uP 10 (some 42) ?_
            refine take_ (i := 11) (N := some 43) (v := ?_) (a' := ?_) #[true, true, false, false, true, false, false, false, false, true, true, true, false, false, false] rfl rfl (take_ofW HT_.out HW_.out (by kernel_rfl)) (fun _ _ _ h => h) (Or.inl ⟨by rfl, ?_⟩) hHeld ?_ ?_
            rotate_left
            ·intro w' s0
             have hcv := Kd.C_string (P := Tryd.prog) (A := A32) (c := c32) Tryd.underlying154 Tryd.underlying5 Tryd.underlying9 s0.2
             clear s0
             go_simp
             with_reducible rfl
            rotate_left
            ·simp only [Act.put, List.setIfInBounds_toArray, List.set_cons_zero, List.set_cons_succ, i64_w, i32_w]
             rfl
            refine take_ (i := 2) (N := some 34) (v := ?_) (a' := ?_) #[true, true, true, false, true, false, false, false, false, true, true, true, false, false, false] rfl rfl (take_ofW HT_.out HW_.out (by kernel_rfl)) (fun _ _ _ h => h) (Or.inl ⟨by rfl, ?_⟩) hHeld ?_ ?_
            rotate_left
            ·intro w' s0
             replace s0 := s0.1
             go_simp
             with_reducible rfl
            rotate_left
            ·simp only [Act.put, List.setIfInBounds_toArray, List.set_cons_zero, List.set_cons_succ, i64_w, i32_w]
             rfl
            refine uP 3 (some 35) ?_
            refine uP 5 (some 37) ?_
            refine uP 6 (some 38) ?_
            refine one_ (i := 7) (N := some 39) #[true, true, true, true, true, true, true, true, false, true, true, true, false, false, false] rfl rfl (one_of HT_.out (by kernel_rfl)) (by decide) (fun K hK => ?_)
            refine Kd.R_lit_step (Kd.int .u8) _ 5 rfl (N := 39) rfl (xs := ([(wrap64 ((wrap64 (rd x5_1 0)) + 128)) % 256] : List Int)) (inner := [.int .u8 ((wrap64 ((wrap64 (rd x5_1 0)) + 128)) % 256)]) (ok := fun _ => True) (okp := fun _ => True) gs_ ?hp (fun _ hk => hk) trivial (Below.refl _ _) (Nat.le_refl _) (by simp) ?_; (case hp => exact (Reps.one (show Kd.M (Kd.int .u8) _ _ _ ((wrap64 ((wrap64 (rd x5_1 0)) + 128)) % 256) [.int .u8 ((wrap64 ((wrap64 (rd x5_1 0)) + 128)) % 256)] from rfl) (Reps.none _ _)))
            intro v168 w33 ho34 hb hg_ hnew_
            have HS0_ := And.intro ((hb.cell (World.block_lt_of_cell? _ _ (hHeld.1))).trans (hHeld.1)) (Kd.C_below hHeld.2 hb)
            clear hg_ hnew_
            (first | rw [← Ny167.out] at ho34 | (simp only [Int.reduceToNat] at ho34; rw [← Ny167.out] at ho34))
            have n0_ := Aside0.mk (Kd.R_elder' (by (with_reducible repeat (first | apply Kd.R_alloc | apply Kd.R_drewN | apply Kd.R_drew)); exact HO_5.out) (Kd.R_base ho34) hb)
            have n1_ := Aside0.mk (Kd.R_lower (Kd.R_new' ho34 (Kd.R_lt (by (with_reducible repeat (first | apply Kd.R_alloc | apply Kd.R_drewN | apply Kd.R_drew)); exact HO_5.out))) (below_size (bl_ HB)))
            have n2_ := Aside0.mk (Kd.C_below (by repeat (first | (with_reducible exact HR173.out) | (with_reducible refine Kd.C_alloc ?_ _) | (with_reducible refine Kd.C_drewN ?_ _) | (with_reducible refine Kd.C_drew ?_) | exact HR173.out)) hb)
            have n3_ := Aside0.mk (below_step (bl_ HB) hb)
            clear HO_5
            clear HR173
            clear HB
            have HO_5 := n0_
            have HO169 := n1_
            have HR173 := n2_
            have HB := n3_
            clear n0_ n1_ n2_ n3_
            clear hb ho34
            have hcv36 := Kd.C_string (P := Tryd.prog) (A := A32) (c := c32) Tryd.underlying154 Tryd.underlying5 Tryd.underlying9 (by repeat (first | (with_reducible exact HR173.out) | (with_reducible refine Kd.C_alloc ?_ _) | (with_reducible refine Kd.C_drewN ?_ _) | (with_reducible refine Kd.C_drew ?_) | exact HR173.out))
            refine hK.out _ _ (HS0_) (fun hHeld => ?_)
            clear hK K
            refine norm_ (a' := ?_) ?_ ?_
            rotate_left
            ·show Act.put _ (some 39) _ = _
             simp only [Act.put, List.setIfInBounds_toArray, List.set_cons_zero, List.set_cons_succ, i64_w, i32_w]
             rfl
            refine one_ (i := 8) (N := some 40) #[true, true, true, true, true, true, true, true, true, true, true, true, false, false, false] rfl rfl (one_of HT_.out (by kernel_rfl)) (by decide) (fun K hK => ?_)
            have hcv35 := own_string (P := Tryd.prog) Tryd.underlying154 Tryd.underlying5 Tryd.underlying9 (Kd.own_of_R HO169.out)
            refine value_ (w1 := ?_) (v := ?_) (by rfl) rfl ?_ ?_
            rotate_left 2
            ·go_simp
             constructor
             ·rfl
             ·rfl
            clear hcv35
            refine hK.out _ _ hHeld (fun hHeld => ?_)
            clear hK K
            refine norm_ (a' := ?_) ?_ ?_
            rotate_left
            ·show Act.put _ (some 40) _ = _
             simp only [Act.put, List.setIfInBounds_toArray, List.set_cons_zero, List.set_cons_succ, i64_w, i32_w]
             rfl
            refine uP 12 (some 44) ?_
            refine uP 13 (some 2) ?_
            refine uP 14 (some 3) ?_
            refine done_ (done_of HT_.out (by kernel_rfl)) ?_
            try go_wp2
            go_ret2
            exact ⟨ew_, bl_ HB⟩
           ·rw [if_neg c29] at H
            exact absurd H (by simp)
          ·rw [if_neg c28] at H
           exact absurd H (by simp)
         ·rw [if_neg c27] at H
          exact absurd H (by simp)
       ·rw [if_neg c14] at H
        have c14b0 : (t148 == 4) = false := beq_eq_false_iff_ne.mpr c14
        have c14b1 : (t148 != 4) = true := bne_iff_ne.mpr c14
        by_cases c38 : t148 = 8
        ·rw [if_pos c38] at H
         have c38b0 : (t148 == 8) = true := beq_iff_eq.mpr c38
         have c38b1 : (t148 != 8) = false := bne_eq_false_iff_eq.mpr c38
         clear c38
         by_cases c39 : 0 < (x5_1.length : Int)
         ·rw [if_pos c39] at H
          have c39b0 : decide (0 < (x5_1.length : Int)) = true := decide_eq_true c39
          have c39b1 : decide (0 < x5_1.length) = true := decide_eq_true (by omega)
          clear c39
          obtain ⟨y175, hy175⟩ : ∃ y_ : List Int, y_ = (([(wrap64 ((wrap64 (rd x5_1 0)) + 192)) % 256] : List Int)) := ⟨_, rfl⟩
          replace H : (if 1 ≤ (x5_1.length : Int) then ((some (x5_1.drop 1 : List Int)).bind fun y178 => (if (strOfNums y175).size + (strOfNums y178).size ≤ 9223372036854775807 then (some ((strOfNums y175) ++ (strOfNums y178), 0)) else (none))) else (none)) = some (r1, r2) := rp_ H hy175
          have Ny175 := Aside0.mk hy175
          clear hy175
          by_cases c40 : 1 ≤ (x5_1.length : Int)
          ·rw [if_pos c40] at H
           have c40b0 := eq_true c40
           have c40b1 : decide (1 ≤ (x5_1.length : Int)) = true := decide_eq_true c40
           clear c40
           obtain ⟨y178, hy178⟩ : ∃ y_ : List Int, y_ = (x5_1.drop 1) := ⟨_, rfl⟩
           replace H : (if (strOfNums y175).size + (strOfNums y178).size ≤ 9223372036854775807 then (some ((strOfNums y175) ++ (strOfNums y178), 0)) else (none)) = some (r1, r2) := rp_ H hy178
           have Ny178 := Aside0.mk hy178
           clear hy178
           by_cases c41 : (strOfNums y175).size + (strOfNums y178).size ≤ 9223372036854775807
           ·rw [if_pos c41] at H
            have c41b0 := eq_true c41
            have c41b1 : decide ((strOfNums y175).size + (strOfNums y178).size ≤ 9223372036854775807) = true := decide_eq_true c41
            try have c41b2 : (9223372036854775807 < (strOfNums y175).size + (strOfNums y178).size) = False := eq_false (Nat.not_lt.2 c41)
            simp only [Option.some.injEq, Prod.mk.injEq] at H
            obtain ⟨rfl, rfl⟩ := H
            try go_wp2
            have n0_ := Aside0.mk (Kd.R_drew HO_5.out)
            have n1_ := Aside0.mk (below_drew1 HB.out)
            clear HO_5
            clear HB
            have HO_5 := n0_
            have HB := n1_
            clear n0_ n1_
            obtain ⟨Ao43, co43, eo43⟩ := Kd.R_slice HO_5.out
            (first | subst eo43 | (injection eo43 with f1_ f2_ f3_; have f4_ := f1_.symm; have f5_ := f3_.symm; clear f1_ f2_ f3_; subst f4_; subst f5_))
            have p174 : 0 ≤ (0 : Int) := (by omega)
            have q174 : 0 < (x5_1.length : Int) := of_decide_eq_true (by first | (with_reducible assumption) | assumption)
            obtain ⟨ad174, e174, hx174_0⟩ := Kd.at_int (Kd.R_reads' HO_5.out).2.2 0 p174 q174
            cases e174
            have qi174 : (0 < x5_1.length) = True := eq_true (by omega)
            (try rw [show ((0 : Int)).toNat = 0 from rfl] at hx174_0)
            (try rw [Addr.add_zero'] at hx174_0)
            replace p174 := eq_true p174
            replace q174 := eq_true q174
            have q44 : (1 : Int) ≤ ((x5_1.length : Int) : Int) := of_decide_eq_true (by first | (with_reducible assumption) | assumption)
            obtain ⟨i044, hi044, _, hsz44, _⟩ := info_parts info5
            have hroom44 : x5_1.length ≤ co43 := (Kd.R_reads' HO_5.out).2.1
            have hC44 : Kd.C (Kd.int .u8) _ (some ad174) x5_1.length x5_1 := (Kd.R_reads' HO_5.out).2.2
            have hcut44 := cut_from (P := Tryd.prog) 154 5 .i64 Tryd.underlying154 hi044 1 hsz44 (some ad174) x5_1.length co43 1 (by omega) q44
            have hr44 := Kd.C_drop (m := (1 : Int).toNat) (c := co43) hC44 (by omega) hroom44
            obtain ⟨A44, hA44⟩ : ∃ Aq_, Aq_ = (if co43 = (1 : Int).toNat then (some ad174) else ((some ad174) : Option Addr).map (·.add ((1 : Int).toNat * 1))) := ⟨_, rfl⟩
            obtain ⟨c44, hc44⟩ : ∃ cq_, cq_ = co43 - (1 : Int).toNat := ⟨_, rfl⟩
            have hy44 : y178.length = x5_1.length - (1 : Int).toNat := (by rw [Ny178.out, List.length_drop] <;> omega)
            rw [show (x5_1).drop (1 : Int).toNat = y178 from Ny178.out.symm] at hr44
            replace hr44 : Kd.C (Kd.int .u8) _ A44 y178.length y178 := (by rw [hA44]; exact hr44)
            rw [← hy44, ← hA44, ← hc44] at hcut44
            have HR181 := Aside0.mk hr44
            have HC181 := Aside0.mk (show y178.length ≤ c44 from by rw [hy44, hc44]; exact Nat.sub_le_sub_right hroom44 _)
            clear hr44 hC44 hroom44 hi044 hsz44 hc44
            have KY44 := Aside0.mk hy44
            have KA44 := Aside0.mk hA44
            clear hy44 hA44
            have KL44 := Aside0.mk (show 1 ≤ x5_1.length from by omega)
            replace q44 := eq_true q44
            refine start_ (n := 15) (S := fun w' => w'.cell? ad174 = some (.int .u8 (rd x5_1 0)) ∧ Kd.C (Kd.int .u8) w' A44 y178.length y178) (ds := []) #[false, false, false, false, false, false, false, false, false, false, false, false, false, false, false] (by kernel_rfl) rfl rfl (⟨hx174_0, HR181.out⟩) (fun hHeld => ?_); refine with_tabW chapbookref01_Put.tab17 chapbookref01_Put.bits17 (fun HT_ HW_ => ?_)
            generalize wc.drew = w42 at HO_5 HB HR181 hx174_0 hHeld ⊢
            refine uP 0 (some 32) ?_
            refine uP 1 (some 33) ?_
            refine uP 4 (some 36) ?_
            refine uP 9 (some 41) ?_
            refine uP 10 (some 42) ?_
            refine take_ (i := 11) (N := some 43) (v := ?_) (a' := ?_) #[true, true, false, false, true, false, false, false, false, true, true, true, false, false, false] rfl rfl (take_ofW HT_.out HW_.out (by kernel_rfl)) (fun _ _ _ h => h) (Or.inl ⟨by rfl, ?_⟩) hHeld ?_ ?_
            rotate_left
            ·intro w' s0
             have hcv := Kd.C_string (P := Tryd.prog) (A := A44) (c := c44) Tryd.underlying154 Tryd.underlying5 Tryd.underlying9 s0.2
             clear s0
             go_simp
             with_reducible rfl
            rotate_left
            ·simp only [Act.put, List.setIfInBounds_toArray, List.set_cons_zero, List.set_cons_succ, i64_w, i32_w]
             rfl
            refine take_ (i := 2) (N := some 34) (v := ?_) (a' := ?_) #[true, true, true, false, true, false, false, false, false, true, true, true, false, false, false] rfl rfl (take_ofW HT_.out HW_.out (by kernel_rfl)) (fun _ _ _ h => h) (Or.inl ⟨by rfl, ?_⟩) hHeld ?_ ?_
            rotate_left
            ·intro w' s0
             replace s0 := s0.1
             go_simp
             with_reducible rfl
            rotate_left
            ·simp only [Act.put, List.setIfInBounds_toArray, List.set_cons_zero, List.set_cons_succ, i64_w, i32_w]
             rfl
            refine uP 3 (some 35) ?_
            refine uP 5 (some 37) ?_
            refine uP 6 (some 38) ?_
            refine one_ (i := 7) (N := some 39) #[true, true, true, true, true, true, true, true, false, true, true, true, false, false, false] rfl rfl (one_of HT_.out (by kernel_rfl)) (by decide) (fun K hK => ?_)
            refine Kd.R_lit_step (Kd.int .u8) _ 5 rfl (N := 39) rfl (xs := ([(wrap64 ((wrap64 (rd x5_1 0)) + 192)) % 256] : List Int)) (inner := [.int .u8 ((wrap64 ((wrap64 (rd x5_1 0)) + 192)) % 256)]) (ok := fun _ => True) (okp := fun _ => True) gs_ ?hp (fun _ hk => hk) trivial (Below.refl _ _) (Nat.le_refl _) (by simp) ?_; (case hp => exact (Reps.one (show Kd.M (Kd.int .u8) _ _ _ ((wrap64 ((wrap64 (rd x5_1 0)) + 192)) % 256) [.int .u8 ((wrap64 ((wrap64 (rd x5_1 0)) + 192)) % 256)] from rfl) (Reps.none _ _)))
            intro v176 w45 ho46 hb hg_ hnew_
            have HS0_ := And.intro ((hb.cell (World.block_lt_of_cell? _ _ (hHeld.1))).trans (hHeld.1)) (Kd.C_below hHeld.2 hb)
            clear hg_ hnew_
            (first | rw [← Ny175.out] at ho46 | (simp only [Int.reduceToNat] at ho46; rw [← Ny175.out] at ho46))
            have n0_ := Aside0.mk (Kd.R_elder' (by (with_reducible repeat (first | apply Kd.R_alloc | apply Kd.R_drewN | apply Kd.R_drew)); exact HO_5.out) (Kd.R_base ho46) hb)
            have n1_ := Aside0.mk (Kd.R_lower (Kd.R_new' ho46 (Kd.R_lt (by (with_reducible repeat (first | apply Kd.R_alloc | apply Kd.R_drewN | apply Kd.R_drew)); exact HO_5.out))) (below_size (bl_ HB)))
            have n2_ := Aside0.mk (Kd.C_below (by repeat (first | (with_reducible exact HR181.out) | (with_reducible refine Kd.C_alloc ?_ _) | (with_reducible refine Kd.C_drewN ?_ _) | (with_reducible refine Kd.C_drew ?_) | exact HR181.out)) hb)
            have n3_ := Aside0.mk (below_step (bl_ HB) hb)
            clear HO_5
            clear HR181
            clear HB
            have HO_5 := n0_
            have HO177 := n1_
            have HR181 := n2_
            have HB := n3_
            clear n0_ n1_ n2_ n3_
            clear hb ho46
            have hcv48 := Kd.C_string (P := Tryd.prog) (A := A44) (c := c44) Tryd.underlying154 Tryd.underlying5 Tryd.underlying9 (by repeat (first | (with_reducible exact HR181.out) | (with_reducible refine Kd.C_alloc ?_ _) | (with_reducible refine Kd.C_drewN ?_ _) | (with_reducible refine Kd.C_drew ?_) | exact HR181.out))
            refine hK.out _ _ (HS0_) (fun hHeld => ?_)
            clear hK K
            refine norm_ (a' := ?_) ?_ ?_
            rotate_left
            ·show Act.put _ (some 39) _ = _
             simp only [Act.put, List.setIfInBounds_toArray, List.set_cons_zero, List.set_cons_succ, i64_w, i32_w]
             rfl
            refine one_ (i := 8) (N := some 40) #[true, true, true, true, true, true, true, true, true, true, true, true, false, false, false] rfl rfl (one_of HT_.out (by kernel_rfl)) (by decide) (fun K hK => ?_)
            have hcv47 := own_string (P := Tryd.prog) Tryd.underlying154 Tryd.underlying5 Tryd.underlying9 (Kd.own_of_R HO177.out)
            refine value_ (w1 := ?_) (v := ?_) (by rfl) rfl ?_ ?_
            rotate_left 2
            ·go_simp
             constructor
             ·rfl
             ·rfl
            clear hcv47
            refine hK.out _ _ hHeld (fun hHeld => ?_)
            clear hK K
            refine norm_ (a' := ?_) ?_ ?_
            rotate_left
            ·show Act.put _ (some 40) _ = _
             simp only [Act.put, List.setIfInBounds_toArray, List.set_cons_zero, List.set_cons_succ, i64_w, i32_w]
             rfl
            refine uP 12 (some 44) ?_
            refine uP 13 (some 2) ?_
            refine uP 14 (some 3) ?_
            refine done_ (done_of HT_.out (by kernel_rfl)) ?_
            try go_wp2
            go_ret2
            exact ⟨ew_, bl_ HB⟩
           ·rw [if_neg c41] at H
            exact absurd H (by simp)
          ·rw [if_neg c40] at H
           exact absurd H (by simp)
         ·rw [if_neg c39] at H
          exact absurd H (by simp)
        ·rw [if_neg c38] at H
         have c38b0 : (t148 == 8) = false := beq_eq_false_iff_ne.mpr c38
         have c38b1 : (t148 != 8) = true := bne_iff_ne.mpr c38
         by_cases c50 : 0 < (x5_1.length : Int)
         ·rw [if_pos c50] at H
          have c50b0 : decide (0 < (x5_1.length : Int)) = true := decide_eq_true c50
          have c50b1 : decide (0 < x5_1.length) = true := decide_eq_true (by omega)
          clear c50
          obtain ⟨y183, hy183⟩ : ∃ y_ : List Int, y_ = (([(wrap64 ((wrap64 (rd x5_1 0)) + x7_11)) % 256] : List Int)) := ⟨_, rfl⟩
          replace H : (if 1 ≤ (x5_1.length : Int) then ((some (x5_1.drop 1 : List Int)).bind fun y186 => (if (strOfNums y183).size + (strOfNums y186).size ≤ 9223372036854775807 then (some ((strOfNums y183) ++ (strOfNums y186), 0)) else (none))) else (none)) = some (r1, r2) := rp_ H hy183
          have Ny183 := Aside0.mk hy183
          clear hy183
          by_cases c51 : 1 ≤ (x5_1.length : Int)
          ·rw [if_pos c51] at H
           have c51b0 := eq_true c51
           have c51b1 : decide (1 ≤ (x5_1.length : Int)) = true := decide_eq_true c51
           clear c51
           obtain ⟨y186, hy186⟩ : ∃ y_ : List Int, y_ = (x5_1.drop 1) := ⟨_, rfl⟩
           replace H : (if (strOfNums y183).size + (strOfNums y186).size ≤ 9223372036854775807 then (some ((strOfNums y183) ++ (strOfNums y186), 0)) else (none)) = some (r1, r2) := rp_ H hy186
           have Ny186 := Aside0.mk hy186
           clear hy186
           by_cases c52 : (strOfNums y183).size + (strOfNums y186).size ≤ 9223372036854775807
           ·rw [if_pos c52] at H
            have c52b0 := eq_true c52
            have c52b1 : decide ((strOfNums y183).size + (strOfNums y186).size ≤ 9223372036854775807) = true := decide_eq_true c52
            try have c52b2 : (9223372036854775807 < (strOfNums y183).size + (strOfNums y186).size) = False := eq_false (Nat.not_lt.2 c52)
            simp only [Option.some.injEq, Prod.mk.injEq] at H
            obtain ⟨rfl, rfl⟩ := H
            try go_wp2
            have n0_ := Aside0.mk (Kd.R_drew HO_5.out)
            have n1_ := Aside0.mk (below_drew1 HB.out)
            clear HO_5
            clear HB
            have HO_5 := n0_
            have HB := n1_
            clear n0_ n1_
            obtain ⟨Ao54, co54, eo54⟩ := Kd.R_slice HO_5.out
            (first | subst eo54 | (injection eo54 with f1_ f2_ f3_; have f4_ := f1_.symm; have f5_ := f3_.symm; clear f1_ f2_ f3_; subst f4_; subst f5_))
            have p182 : 0 ≤ (0 : Int) := (by omega)
            have q182 : 0 < (x5_1.length : Int) := of_decide_eq_true (by first | (with_reducible assumption) | assumption)
            obtain ⟨ad182, e182, hx182_0⟩ := Kd.at_int (Kd.R_reads' HO_5.out).2.2 0 p182 q182
            cases e182
            have qi182 : (0 < x5_1.length) = True := eq_true (by omega)
            (try rw [show ((0 : Int)).toNat = 0 from rfl] at hx182_0)
            (try rw [Addr.add_zero'] at hx182_0)
            replace p182 := eq_true p182
            replace q182 := eq_true q182
            have q55 : (1 : Int) ≤ ((x5_1.length : Int) : Int) := of_decide_eq_true (by first | (with_reducible assumption) | assumption)
            obtain ⟨i055, hi055, _, hsz55, _⟩ := info_parts info5
            have hroom55 : x5_1.length ≤ co54 := (Kd.R_reads' HO_5.out).2.1
            have hC55 : Kd.C (Kd.int .u8) _ (some ad182) x5_1.length x5_1 := (Kd.R_reads' HO_5.out).2.2
            have hcut55 := cut_from (P := Tryd.prog) 154 5 .i64 Tryd.underlying154 hi055 1 hsz55 (some ad182) x5_1.length co54 1 (by omega) q55
            have hr55 := Kd.C_drop (m := (1 : Int).toNat) (c := co54) hC55 (by omega) hroom55
            obtain ⟨A55, hA55⟩ : ∃ Aq_, Aq_ = (if co54 = (1 : Int).toNat then (some ad182) else ((some ad182) : Option Addr).map (·.add ((1 : Int).toNat * 1))) := ⟨_, rfl⟩
            obtain ⟨c55, hc55⟩ : ∃ cq_, cq_ = co54 - (1 : Int).toNat := ⟨_, rfl⟩
            have hy55 : y186.length = x5_1.length - (1 : Int).toNat := (by rw [Ny186.out, List.length_drop] <;> omega)
            rw [show (x5_1).drop (1 : Int).toNat = y186 from Ny186.out.symm] at hr55
            replace hr55 : Kd.C (Kd.int .u8) _ A55 y186.length y186 := (by rw [hA55]; exact hr55)
            rw [← hy55, ← hA55, ← hc55] at hcut55
            have HR189 := Aside0.mk hr55
            have HC189 := Aside0.mk (show y186.length ≤ c55 from by rw [hy55, hc55]; exact Nat.sub_le_sub_right hroom55 _)
            clear hr55 hC55 hroom55 hi055 hsz55 hc55
            have KY55 := Aside0.mk hy55
            have KA55 := Aside0.mk hA55
            clear hy55 hA55
            have KL55 := Aside0.mk (show 1 ≤ x5_1.length from by omega)
            replace q55 := eq_true q55
            refine start_ (n := 15) (S := fun w' => w'.cell? ad182 = some (.int .u8 (rd x5_1 0)) ∧ Kd.C (Kd.int .u8) w' A55 y186.length y186) (ds := []) #[false, false, false, false, false, false, false, false, false, false, false, false, false, false, false] (by kernel_rfl) rfl rfl (⟨hx182_0, HR189.out⟩) (fun hHeld => ?_); refine with_tabW chapbookref01_Put.tab17 chapbookref01_Put.bits17 (fun HT_ HW_ => ?_)
            generalize wc.drew = w53 at HO_5 HB HR189 hx182_0 hHeld ⊢
            refine uP 0 (some 32) ?_
            refine uP 1 (some 33) ?_
            refine uP 4 (some 36) ?_
            refine uP 9 (some 41) ?_
            refine uP 10 (some 42) ?_
            refine take_ (i := 11) (N := some 43) (v := ?_) (a' := ?_) #[true, true, false, false, true, false, false, false, false, true, true, true, false, false, false] rfl rfl (take_ofW HT_.out HW_.out (by kernel_rfl)) (fun _ _ _ h => h) (Or.inl ⟨by rfl, ?_⟩) hHeld ?_ ?_
            rotate_left
            ·intro w' s0
             have hcv := Kd.C_string (P := Tryd.prog) (A := A55) (c := c55) Tryd.underlying154 Tryd.underlying5 Tryd.underlying9 s0.2
             clear s0
             go_simp
             with_reducible rfl
            rotate_left
            ·simp only [Act.put, List.setIfInBounds_toArray, List.set_cons_zero, List.set_cons_succ, i64_w, i32_w]
             rfl
            refine take_ (i := 2) (N := some 34) (v := ?_) (a' := ?_) #[true, true, true, false, true, false, false, false, false, true, true, true, false, false, false] rfl rfl (take_ofW HT_.out HW_.out (by kernel_rfl)) (fun _ _ _ h => h) (Or.inl ⟨by rfl, ?_⟩) hHeld ?_ ?_
            rotate_left
            ·intro w' s0
             replace s0 := s0.1
             go_simp
             with_reducible rfl
            rotate_left
            ·simp only [Act.put, List.setIfInBounds_toArray, List.set_cons_zero, List.set_cons_succ, i64_w, i32_w]
             rfl
            refine uP 3 (some 35) ?_
            refine uP 5 (some 37) ?_
            refine uP 6 (some 38) ?_
            refine one_ (i := 7) (N := some 39) #[true, true, true, true, true, true, true, true, false, true, true, true, false, false, false] rfl rfl (one_of HT_.out (by kernel_rfl)) (by decide) (fun K hK => ?_)
            refine Kd.R_lit_step (Kd.int .u8) _ 5 rfl (N := 39) rfl (xs := ([(wrap64 ((wrap64 (rd x5_1 0)) + x7_11)) % 256] : List Int)) (inner := [.int .u8 ((wrap64 ((wrap64 (rd x5_1 0)) + x7_11)) % 256)]) (ok := fun _ => True) (okp := fun _ => True) gs_ ?hp (fun _ hk => hk) trivial (Below.refl _ _) (Nat.le_refl _) (by simp) ?_; (case hp => exact (Reps.one (show Kd.M (Kd.int .u8) _ _ _ ((wrap64 ((wrap64 (rd x5_1 0)) + x7_11)) % 256) [.int .u8 ((wrap64 ((wrap64 (rd x5_1 0)) + x7_11)) % 256)] from rfl) (Reps.none _ _)))
            intro v184 w56 ho57 hb hg_ hnew_
            have HS0_ := And.intro ((hb.cell (World.block_lt_of_cell? _ _ (hHeld.1))).trans (hHeld.1)) (Kd.C_below hHeld.2 hb)
            clear hg_ hnew_
            (first | rw [← Ny183.out] at ho57 | (simp only [Int.reduceToNat] at ho57; rw [← Ny183.out] at ho57))
            have n0_ := Aside0.mk (Kd.R_elder' (by (with_reducible repeat (first | apply Kd.R_alloc | apply Kd.R_drewN | apply Kd.R_drew)); exact HO_5.out) (Kd.R_base ho57) hb)
            have n1_ := Aside0.mk (Kd.R_lower (Kd.R_new' ho57 (Kd.R_lt (by (with_reducible repeat (first | apply Kd.R_alloc | apply Kd.R_drewN | apply Kd.R_drew)); exact HO_5.out))) (below_size (bl_ HB)))
            have n2_ := Aside0.mk (Kd.C_below (by repeat (first | (with_reducible exact HR189.out) | (with_reducible refine Kd.C_alloc ?_ _) | (with_reducible refine Kd.C_drewN ?_ _) | (with_reducible refine Kd.C_drew ?_) | exact HR189.out)) hb)
            have n3_ := Aside0.mk (below_step (bl_ HB) hb)
            clear HO_5
            clear HR189
            clear HB
            have HO_5 := n0_
            have HO185 := n1_
            have HR189 := n2_
            have HB := n3_
            clear n0_ n1_ n2_ n3_
            clear hb ho57
            have hcv59 := Kd.C_string (P := Tryd.prog) (A := A55) (c := c55) Tryd.underlying154 Tryd.underlying5 Tryd.underlying9 (by repeat (first | (with_reducible exact HR189.out) | (with_reducible refine Kd.C_alloc ?_ _) | (with_reducible refine Kd.C_drewN ?_ _) | (with_reducible refine Kd.C_drew ?_) | exact HR189.out))
            refine hK.out _ _ (HS0_) (fun hHeld => ?_)
            clear hK K
            refine norm_ (a' := ?_) ?_ ?_
            rotate_left
            ·show Act.put _ (some 39) _ = _
             simp only [Act.put, List.setIfInBounds_toArray, List.set_cons_zero, List.set_cons_succ, i64_w, i32_w]
             rfl
            refine one_ (i := 8) (N := some 40) #[true, true, true, true, true, true, true, true, true, true, true, true, false, false, false] rfl rfl (one_of HT_.out (by kernel_rfl)) (by decide) (fun K hK => ?_)
            have hcv58 := own_string (P := Tryd.prog) Tryd.underlying154 Tryd.underlying5 Tryd.underlying9 (Kd.own_of_R HO185.out)
            refine value_ (w1 := ?_) (v := ?_) (by rfl) rfl ?_ ?_
            rotate_left 2
            ·go_simp
             constructor
             ·rfl
             ·rfl
            clear hcv58
            refine hK.out _ _ hHeld (fun hHeld => ?_)
            clear hK K
            refine norm_ (a' := ?_) ?_ ?_
            rotate_left
            ·show Act.put _ (some 40) _ = _
             simp only [Act.put, List.setIfInBounds_toArray, List.set_cons_zero, List.set_cons_succ, i64_w, i32_w]
             rfl
            refine uP 12 (some 44) ?_
            refine uP 13 (some 2) ?_
            refine uP 14 (some 3) ?_
            refine done_ (done_of HT_.out (by kernel_rfl)) ?_
            try go_wp2
            go_ret2
            exact ⟨ew_, bl_ HB⟩
           ·rw [if_neg c52] at H
            exact absurd H (by simp)
          ·rw [if_neg c51] at H
           exact absurd H (by simp)
         ·rw [if_neg c50] at H
          exact absurd H (by simp)
end Go.Proofs.YtjdenpmaianmfaaDoor.Q
