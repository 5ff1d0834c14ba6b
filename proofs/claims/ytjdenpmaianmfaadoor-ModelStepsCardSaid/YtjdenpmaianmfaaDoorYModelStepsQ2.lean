/- Contracts of the seat's functions, printed: if the Lean function comes to a value, the Go function returns it. -/
import Derived.Test.YtjdenpmaianmfaaDoorYModelStepsSq
import Derived.Test.YtjdenpmaianmfaaDoorYModelStepsSpell
namespace Go.Proofs.YtjdenpmaianmfaaDoor.Q
open Go.RowKit Go.Proofs.YtjdenpmaianmfaaDoorW.PrintWords Go.Proofs.YtjdenpmaianmfaaDoorW.PrintLast Go.Proofs.YtjdenpmaianmfaaDoorW.PrintMore
attribute [local go_sem] max2_int min2_int max_two min_two max_three min_three max_four min_four
set_option maxHeartbeats 16000000
set_option maxRecDepth 100000
set_option linter.unusedVariables false
set_option linter.unusedSimpArgs false
def prefix_Size.f (a0 : Int) : Option (Int) := if a0 ≥ 4611686018427387904 then (some 0) else ((prefix_spelling.f a0).bind fun t101 => (if 0 ≤ t101 then (some (shl .i64 1 t101)) else (none)))
theorem prefix_Size.calls (a0 : Int) (r : Int) (w : World) (HT : Aside0 (Tab w)) (h : prefix_Size.f a0 = some r) :
  Calls Tryd.prog 126 #[.int .u64 a0] w fun e w' => e = .returned (.int .i64 r) ∧ Drawn0 w w' := by
 have H : (if a0 ≥ 4611686018427387904 then (some 0) else ((prefix_spelling.f a0).bind fun t101 => (if 0 ≤ t101 then (some (shl .i64 1 t101)) else (none)))) = some r := h
 clear h
 by_cases c2 : a0 ≥ 4611686018427387904
 ·rw [if_pos c2] at H
  have c2b0 : decide (4611686018427387904 ≤ a0) = true := decide_eq_true c2
  clear c2
  obtain rfl := Option.some.inj H
  go_enter Tryd.func126, Tryd.ntmps126
  go_wp2
  go_ret
  exact ⟨es_, by repeat (first | exact Drawn0.refl _ | apply Drawn0.step)⟩
 ·rw [if_neg c2] at H
  have c2b0 : decide (4611686018427387904 ≤ a0) = false := decide_eq_false c2
  clear c2
  replace H := Option.bind_eq_some_iff.mp H
  obtain ⟨t101, A30, H⟩ := H
  replace H : (if 0 ≤ t101 then (some (shl .i64 1 t101)) else (none)) = some r := H
  have A3 := Aside0.mk A30
  clear A30
  by_cases c4 : 0 ≤ t101
  ·rw [if_pos c4] at H
   have c4b0 := eq_true c4
   have c4b1 : decide (0 ≤ t101) = true := decide_eq_true c4
   clear c4
   obtain ⟨ji5, hji5⟩ : ∃ j_ : Int, (shl .i64 1 t101) = j_ := ⟨_, rfl⟩
   replace H : (some ji5) = some r := by first | (rw [hji5] at H; exact H) | (simp only [hji5] at H ⊢; exact H)
   (try rw [hji5] at A3)
   have hji5_ : (IntKind.i64.wrap (1 * 2 ^ min t101.toNat 64)) = ji5 := hji5
   have hji5z : t101 ≤ 64 → (IntKind.i64.wrap (1 * 2 ^ t101.toNat)) = ji5 := shl_small hji5
   have hji5u : (IntKind.i64.wrap (2 ^ min t101.toNat 64)) = ji5 := by have h_ := hji5_; rw [Int.one_mul] at h_; exact h_
   have hji5v : t101 ≤ 64 → (IntKind.i64.wrap (2 ^ t101.toNat)) = ji5 := fun hle_ => by have h_ := hji5z hle_; rw [Int.one_mul] at h_; exact h_
   have hji5y : (wrap64 (1 * 2 ^ min t101.toNat 64)) = ji5 := (i64_w _).symm.trans hji5_
   have hji5x : t101 ≤ 64 → (wrap64 (1 * 2 ^ t101.toNat)) = ji5 := fun h_ => (i64_w _).symm.trans (hji5z h_)
   obtain rfl := Option.some.inj H
   go_enter Tryd.func126, Tryd.ntmps126
   go_wp2_with (first | ((with_reducible refine gC 127 rfl ?_); refine goesL_ (some 6) rfl rfl Tryd.func127 (by kernel_rfl) rfl #[.int .u64 a0] rfl am_ ?_; (with_reducible refine (prefix_spelling.calls a0 t101 _ (Aside0.mk (by repeat (first | exact HT.out | apply Tab.drewN | apply Tab.drew))) A3.out).mono ?_); rintro e w' ⟨rfl, ⟨nd, rfl⟩⟩; refine ⟨_, rfl, ?_⟩))
   go_ret
   exact ⟨by first | rfl | (simp; done) | (simp only [← hji5] <;> (first | rfl | simp)) | (simp [*]; done), by repeat (first | exact Drawn0.refl _ | apply Drawn0.step)⟩
  ·rw [if_neg c4] at H
   exact absurd H (by simp)
def prefix_Put.l0 : Nat → Int → Int → List Int → Int → Int → Option (ByteArray × Int)
 | 0, _, _, _, _, _ => none
 | k + 1, x0, x4, x5, x23, x24 => if x24 < x23 then (if 0 ≤ (wrap64 (8 * (wrap64 ((wrap64 (x4 - 1)) - x24)))) then (if 0 ≤ x24 then (if x24 < (x5.length : Int) then (prefix_Put.l0 k x0 x4 (x5.set (x24 : Int).toNat ((shr .u64 x0 (wrap64 (8 * (wrap64 ((wrap64 (x4 - 1)) - x24))))) % 256)) x23 (wrap64 (x24 + 1))) else (none)) else (none)) else (none)) else (some (strOfNums x5, 0))
def prefix_Put.f (k : Nat) (a0 : Int) : Option (ByteArray × Int) := (prefix_Size.f a0).bind fun t102 => (if t102 = 0 then (some ((⟨#[]⟩ : ByteArray), 1)) else ((prefix_spelling.f a0).bind fun t103 => (if 0 ≤ (wrap64 ((wrap64 (8 * t102)) - 2)) then (if 0 ≤ t102 then (if (t102 : Int).toNat ≤ 281474976710656 then ((some (List.replicate (t102 : Int).toNat 0 : List Int)).bind fun y104 => (prefix_Put.l0 k (Go.bits .or .u64 a0 (shl .u64 (IntKind.u64.wrap (t103)) (wrap64 ((wrap64 (8 * t102)) - 2)))) t102 y104 (y104.length : Int) 0)) else (none)) else (none)) else (none))))
theorem prefix_Put.calls (k : Nat) (a0 : Int) (r1 : ByteArray) (r2 : Int) (w : World) (HT : Aside0 (Tab w)) (h : prefix_Put.f k a0 = some (r1, r2)) :
  Calls Tryd.prog 121 #[.int .u64 a0] w fun e w' => e = .returned (.tuple #[.string r1, .int .i64 r2]) ∧ Below w.heap.size w w' := by
 have HB := Aside0.mk (Below.refl w.heap.size w)
 have H : ((prefix_Size.f a0).bind fun t102 => (if t102 = 0 then (some ((⟨#[]⟩ : ByteArray), 1)) else ((prefix_spelling.f a0).bind fun t103 => (if 0 ≤ (wrap64 ((wrap64 (8 * t102)) - 2)) then (if 0 ≤ t102 then (if (t102 : Int).toNat ≤ 281474976710656 then ((some (List.replicate (t102 : Int).toNat 0 : List Int)).bind fun y104 => (prefix_Put.l0 k (Go.bits .or .u64 a0 (shl .u64 (IntKind.u64.wrap (t103)) (wrap64 ((wrap64 (8 * t102)) - 2)))) t102 y104 (y104.length : Int) 0)) else (none)) else (none)) else (none))))) = some (r1, r2) := h
 clear h
 replace H := Option.bind_eq_some_iff.mp H
 obtain ⟨t102, A20, H⟩ := H
 replace H : (if t102 = 0 then (some ((⟨#[]⟩ : ByteArray), 1)) else ((prefix_spelling.f a0).bind fun t103 => (if 0 ≤ (wrap64 ((wrap64 (8 * t102)) - 2)) then (if 0 ≤ t102 then (if (t102 : Int).toNat ≤ 281474976710656 then ((some (List.replicate (t102 : Int).toNat 0 : List Int)).bind fun y104 => (prefix_Put.l0 k (Go.bits .or .u64 a0 (shl .u64 (IntKind.u64.wrap (t103)) (wrap64 ((wrap64 (8 * t102)) - 2)))) t102 y104 (y104.length : Int) 0)) else (none)) else (none)) else (none)))) = some (r1, r2) := H
 have A2 := Aside0.mk A20
 clear A20
 by_cases c3 : t102 = 0
 ·rw [if_pos c3] at H
  have c3b0 : (t102 == 0) = true := beq_iff_eq.mpr c3
  have c3b1 : (t102 != 0) = false := bne_eq_false_iff_eq.mpr c3
  clear c3
  simp only [Option.some.injEq, Prod.mk.injEq] at H
  obtain ⟨rfl, rfl⟩ := H
  go_enter Tryd.func121, Tryd.ntmps121
  go_wp2_with (first | ((with_reducible refine gC 126 rfl ?_); refine goesL_ (some 8) rfl rfl Tryd.func126 (by kernel_rfl) rfl #[.int .u64 a0] rfl am_ ?_; (with_reducible refine (prefix_Size.calls a0 t102 _ (Aside0.mk (Tab.below HT.out (by repeat (first | (with_reducible first | exact HB.out | apply below_alloc | apply pw_below_drewN | apply below_drew1) | refine below_set ?_ (Aside0.out (by assumption)) | exact HB.out)))) A2.out).mono ?_); rintro e w' ⟨rfl, ⟨nd, rfl⟩⟩; refine ⟨_, rfl, ?_⟩))
  go_ret2
  exact ⟨ew_, bl_ HB⟩
 ·rw [if_neg c3] at H
  have c3b0 : (t102 == 0) = false := beq_eq_false_iff_ne.mpr c3
  have c3b1 : (t102 != 0) = true := bne_iff_ne.mpr c3
  replace H := Option.bind_eq_some_iff.mp H
  obtain ⟨t103, A40, H⟩ := H
  replace H : (if 0 ≤ (wrap64 ((wrap64 (8 * t102)) - 2)) then (if 0 ≤ t102 then (if (t102 : Int).toNat ≤ 281474976710656 then ((some (List.replicate (t102 : Int).toNat 0 : List Int)).bind fun y104 => (prefix_Put.l0 k (Go.bits .or .u64 a0 (shl .u64 (IntKind.u64.wrap (t103)) (wrap64 ((wrap64 (8 * t102)) - 2)))) t102 y104 (y104.length : Int) 0)) else (none)) else (none)) else (none)) = some (r1, r2) := H
  have A4 := Aside0.mk A40
  clear A40
  obtain ⟨ji5, hji5⟩ : ∃ j_ : Int, (wrap64 ((wrap64 (8 * t102)) - 2)) = j_ := ⟨_, rfl⟩
  replace H : (if 0 ≤ (ji5) then (if 0 ≤ t102 then (if (t102 : Int).toNat ≤ 281474976710656 then ((some (List.replicate (t102 : Int).toNat 0 : List Int)).bind fun y104 => (prefix_Put.l0 k (Go.bits .or .u64 a0 (shl .u64 (IntKind.u64.wrap (t103)) (ji5))) t102 y104 (y104.length : Int) 0)) else (none)) else (none)) else (none)) = some (r1, r2) := by first | (rw [hji5] at H; exact H) | (simp only [hji5] at H ⊢; exact H)
  (try rw [hji5] at A2)
  (try rw [hji5] at A4)
  have hji5w : (IntKind.i64.wrap ((wrap64 (8 * t102)) - 2)) = ji5 := (i64_w _).trans hji5
  by_cases c6 : 0 ≤ (ji5)
  ·rw [if_pos c6] at H
   have c6b0 := eq_true c6
   have c6b1 : decide (0 ≤ (ji5)) = true := decide_eq_true c6
   clear c6
   obtain ⟨ji7, hji7⟩ : ∃ j_ : Int, (shl .u64 (IntKind.u64.wrap (t103)) (ji5)) = j_ := ⟨_, rfl⟩
   replace H : (if 0 ≤ t102 then (if (t102 : Int).toNat ≤ 281474976710656 then ((some (List.replicate (t102 : Int).toNat 0 : List Int)).bind fun y104 => (prefix_Put.l0 k (Go.bits .or .u64 a0 (ji7)) t102 y104 (y104.length : Int) 0)) else (none)) else (none)) = some (r1, r2) := by first | (rw [hji7] at H; exact H) | (simp only [hji7] at H ⊢; exact H)
   (try rw [hji7] at A2)
   (try rw [hji7] at A4)
   have hji7_ : (IntKind.u64.wrap ((IntKind.u64.wrap (t103)) * 2 ^ min (ji5).toNat 64)) = ji7 := hji7
   have hji7z : (ji5) ≤ 64 → (IntKind.u64.wrap ((IntKind.u64.wrap (t103)) * 2 ^ (ji5).toNat)) = ji7 := shl_small hji7
   by_cases c8 : 0 ≤ t102
   ·rw [if_pos c8] at H
    have c8b0 := eq_true c8
    have c8b1 : decide (0 ≤ t102) = true := decide_eq_true c8
    clear c8
    by_cases c9 : (t102 : Int).toNat ≤ 281474976710656
    ·rw [if_pos c9] at H
     have c9b0 := eq_true c9
     have c9b1 : decide ((t102 : Int).toNat ≤ 281474976710656) = true := decide_eq_true c9
     clear c9
     obtain ⟨y104, hy104⟩ : ∃ y_ : List Int, y_ = (List.replicate (t102 : Int).toNat 0) := ⟨_, rfl⟩
     replace H : (prefix_Put.l0 k (Go.bits .or .u64 a0 (ji7)) t102 y104 (y104.length : Int) 0) = some (r1, r2) := rp_ H hy104
     have Ny104 := Aside0.mk hy104
     clear hy104
     have H' := Aside0.mk H
     clear H
     go_enter Tryd.func121, Tryd.ntmps121
     go_wp2_with (first | ((with_reducible refine gC 126 rfl ?_); refine goesL_ (some 8) rfl rfl Tryd.func126 (by kernel_rfl) rfl #[.int .u64 a0] rfl am_ ?_; (with_reducible refine (prefix_Size.calls a0 t102 _ (Aside0.mk (Tab.below HT.out (by repeat (first | (with_reducible first | exact HB.out | apply below_alloc | apply pw_below_drewN | apply below_drew1) | refine below_set ?_ (Aside0.out (by assumption)) | exact HB.out)))) A2.out).mono ?_); rintro e w' ⟨rfl, ⟨nd, rfl⟩⟩; refine ⟨_, rfl, ?_⟩) | ((with_reducible refine gC 127 rfl ?_); refine goesL_ (some 13) rfl rfl Tryd.func127 (by kernel_rfl) rfl #[.int .u64 a0] rfl am_ ?_; (with_reducible refine (prefix_spelling.calls a0 t103 _ (Aside0.mk (Tab.below HT.out (by repeat (first | (with_reducible first | exact HB.out | apply below_alloc | apply pw_below_drewN | apply below_drew1) | refine below_set ?_ (Aside0.out (by assumption)) | exact HB.out)))) A4.out).mono ?_); rintro e w' ⟨rfl, ⟨nd, rfl⟩⟩; refine ⟨_, rfl, ?_⟩) | ((with_reducible refine gD 21 rfl ?_); refine Kd.R_make (Kd.int .u8) _ 5 rfl (N := 21) rfl 154 _ _ rfl t102 rfl rfl Tryd.underlying154 (.int .u8 0) 1 info5 rfl (by decide) (by omega) 0 (ok := fun _ => True) (okp := fun _ => True) rfl (fun _ hk => hk) trivial (of_decide_eq_true (by first | (with_reducible assumption) | assumption)) (Nat.le_trans (Nat.mul_le_mul_right _ (of_decide_eq_true (by first | (with_reducible assumption) | assumption) : t102.toNat ≤ 281474976710656)) (by omega)) (Below.refl _ _) (Nat.le_refl _) ?_; intro v105 w10 ho11 hb hg_ hnew_; clear hg_ hnew_; (first | rw [← Ny104.out] at ho11 | (simp only [Int.reduceToNat] at ho11; rw [← Ny104.out] at ho11)); have n0_ := Aside0.mk (Kd.R_lower ho11 (below_size (bl_ HB))); have n1_ := Aside0.mk (below_step (bl_ HB) hb); clear HB; have HO106 := n0_; have HB := n1_; clear n0_ n1_; clear hb ho11; obtain ⟨Ao12, co12, eo12⟩ := Kd.R_slice HO106.out; subst eo12))
     go_loopg [24] k (fun kq v24 w' => ∃ (x5_1 : List Int) (x24_1 : Int), v24 = .int .i64 x24_1 ∧ Aside0 (prefix_Put.l0 kq (Go.bits .or .u64 a0 (ji7)) t102 x5_1 (y104.length : Int) x24_1 = some (r1, r2)) ∧ Aside0 (kq ≤ k) ∧ Aside0 (Kd.R (Kd.int .u8) 5 w' w.heap.size (fun _ => True) (.slice Ao12 y104.length co12) x5_1) ∧ Aside0 (Below w.heap.size w w'))
     case atStart => exact ⟨(y104), (0), er_, H', ⟨Nat.le_refl _⟩, ⟨by (with_reducible repeat (first | apply Kd.R_alloc | apply Kd.R_drewN | apply Kd.R_drew)); exact HO106.out⟩, ⟨bl_ HB⟩⟩
     case round =>
      clear H'
      try clear c1
      try clear p2
      try clear c3
      try clear c3b0
      try clear c3b1
      try clear c6
      try clear c6b0
      try clear c6b1
      try clear p6
      try clear c8
      try clear c8b0
      try clear c8b1
      try clear c9
      try clear c9b0
      try clear c9b1
      try clear c12
      obtain ⟨x5_1, x24_1, rfl, HA, HK1, HO_5, HB⟩ := hrel
      have hl5_1 := (Kd.R_reads' HO_5.out).1
      rw [hl5_1] at HO_5
      (try simp only [hl5_1])
      cases gk with
      | zero => exact absurd HA.out (by simp [prefix_Put.l0])
      | succ k1 =>
       have H := HA.out
       clear HA
       simp only [prefix_Put.l0] at H
       by_cases c13 : x24_1 < (y104.length : Int)
       ·rw [if_pos c13] at H
        have c13b0 : decide (x24_1 < (y104.length : Int)) = true := decide_eq_true c13
        (try rw [hl5_1] at c13b0)
        clear c13
        obtain ⟨ji14, hji14⟩ : ∃ j_ : Int, (wrap64 (8 * (wrap64 ((wrap64 (t102 - 1)) - x24_1)))) = j_ := ⟨_, rfl⟩
        replace H : (if 0 ≤ (ji14) then (if 0 ≤ x24_1 then (if x24_1 < (x5_1.length : Int) then (prefix_Put.l0 k1 (Go.bits .or .u64 a0 (ji7)) t102 (x5_1.set (x24_1 : Int).toNat ((shr .u64 (Go.bits .or .u64 a0 (ji7)) (ji14)) % 256)) (y104.length : Int) (wrap64 (x24_1 + 1))) else (none)) else (none)) else (none)) = some (r1, r2) := by first | (rw [hji14] at H; exact H) | (simp only [hji14] at H ⊢; exact H)
        have hji14w : (IntKind.i64.wrap (8 * (wrap64 ((wrap64 (t102 - 1)) - x24_1)))) = ji14 := (i64_w _).trans hji14
        by_cases c15 : 0 ≤ (ji14)
        ·rw [if_pos c15] at H
         have c15b0 := eq_true c15
         have c15b1 : decide (0 ≤ (ji14)) = true := decide_eq_true c15
         clear c15
         obtain ⟨ji16, hji16⟩ : ∃ j_ : Int, (shr .u64 (Go.bits .or .u64 a0 (ji7)) (ji14)) = j_ := ⟨_, rfl⟩
         replace H : (if 0 ≤ x24_1 then (if x24_1 < (x5_1.length : Int) then (prefix_Put.l0 k1 (Go.bits .or .u64 a0 (ji7)) t102 (x5_1.set (x24_1 : Int).toNat ((ji16) % 256)) (y104.length : Int) (wrap64 (x24_1 + 1))) else (none)) else (none)) = some (r1, r2) := by first | (rw [hji16] at H; exact H) | (simp only [hji16] at H ⊢; exact H)
         have hji16_ : ((Go.bits .or .u64 a0 (ji7)) / 2 ^ min (ji14).toNat 64) = ji16 := hji16
         have hji16z : (ji14) ≤ 64 → ((Go.bits .or .u64 a0 (ji7)) / 2 ^ (ji14).toNat) = ji16 := shr_small hji16
         by_cases c17 : 0 ≤ x24_1
         ·rw [if_pos c17] at H
          have c17b0 : decide (0 ≤ x24_1) = true := decide_eq_true c17
          clear c17
          by_cases c18 : x24_1 < (x5_1.length : Int)
          ·rw [if_pos c18] at H
           have c18b0 : decide (x24_1 < (x5_1.length : Int)) = true := decide_eq_true c18
           (try rw [hl5_1] at c18b0)
           clear c18
           obtain ⟨y107, hy107⟩ : ∃ y_ : List Int, y_ = (x5_1.set (x24_1 : Int).toNat ((ji16) % 256)) := ⟨_, rfl⟩
           replace H : (prefix_Put.l0 k1 (Go.bits .or .u64 a0 (ji7)) t102 y107 (y104.length : Int) (wrap64 (x24_1 + 1))) = some (r1, r2) := rp_ H hy107
           have Ny107 := Aside0.mk hy107
           clear hy107
           have H' := Aside0.mk H
           clear H
           have p19 : 0 ≤ (x24_1 : Int) := of_decide_eq_true (by first | (with_reducible assumption) | assumption)
           have q19 : (x24_1 : Int) < ((x5_1.length : Int) : Int) := of_decide_eq_true (by first | (with_reducible assumption) | assumption)
           obtain ⟨go19, co19, eo19, gb19, gl19, cl19, HG19⟩ := Kd.R_form HO_5.out (by omega)
           (first | cases eo19 | (injection eo19 with ea_ en_ ec_; (first | subst ea_ | (injection ea_ with ea_; subst ea_)); subst ec_; clear en_))
           have GB19 := Aside0.mk gb19
           have GG19 := Aside0.mk HG19
           clear gb19 gl19 HG19
           obtain ⟨hx19_0, hf19_0⟩ := Kd.R_celln 0 HO_5.out (x24_1 : Int) p19 q19
           replace p19 := eq_true p19
           replace q19 := eq_true q19
           have HP20 := Kd.R_putg HO_5.out (x24_1 : Int) ((ji16) % 256)
           go_wp2_with (first | ((with_reducible refine gT 5 37 rfl ?_); refine store_event (t := 5) (p := 37) (v := ?vo_w21) (w1 := (wr.setCell ⟨go19, (x24_1 : Int).toNat, none⟩ (.int .u8 ((ji16) % 256)))) ?hg ?ho ?hn gs_ ?_; (case ho => rfl); (case hg => rfl); (case hn => rfl); intro w21 hw; have hg : wr.grownBy w21 (some go19) := (by rw [hw]; exact HP20.2); have hp_ : Kd.R (Kd.int .u8) 5 w21 w.heap.size (fun _ => True) (.slice (some ⟨go19, 0, none⟩) x5_1.length co12) y107 := (by rw [hw, Ny107.out]; exact HP20.1); clear HP20; have n0_ := Aside0.mk (hp_); have n1_ := Aside0.mk ((by rw [hw]; exact below_set (HB.out) GB19.out : Below w.heap.size w w21)); clear HO_5; clear HB; have HO_5 := n0_; have HB := n1_; clear n0_ n1_; clear hg hw hp_))
           (try simp only [← hl5_1])
           go_roundg k1
           case measure => have := HK1.out; omega
           case rel => exact ⟨(y107), (wrap64 (x24_1 + 1)), er_, H', ⟨by have := HK1.out; omega⟩, ⟨by (try simp only [hl5_1]); (with_reducible repeat (first | apply Kd.R_alloc | apply Kd.R_drewN | apply Kd.R_drew)); exact HO_5.out⟩, ⟨bl_ HB⟩⟩
          ·rw [if_neg c18] at H
           exact absurd H (by simp)
         ·rw [if_neg c17] at H
          exact absurd H (by simp)
        ·rw [if_neg c15] at H
         exact absurd H (by simp)
       ·rw [if_neg c13] at H
        have c13b0 : decide (x24_1 < (y104.length : Int)) = false := decide_eq_false c13
        (try rw [hl5_1] at c13b0)
        clear c13
        simp only [Option.some.injEq, Prod.mk.injEq] at H
        obtain ⟨rfl, rfl⟩ := H
        have hcv22 := own_string (P := Tryd.prog) Tryd.underlying154 Tryd.underlying5 Tryd.underlying9 (Kd.own_of_R HO_5.out)
        go_wp2
        go_ret2
        exact ⟨by first | rfl | (simp [errW_none, errW_some] <;> rfl) | (simp only [← hji5, ← hji7]; first | rfl | (simp [errW_none, errW_some] <;> rfl)) | (simp [*, errW_none, errW_some] <;> rfl), bl_ HB⟩
    ·rw [if_neg c9] at H
     exact absurd H (by simp)
   ·rw [if_neg c8] at H
    exact absurd H (by simp)
  ·rw [if_neg c6] at H
   exact absurd H (by simp)
def prefix_Zig.f (a0 : Int) : Option (Int × Bool) := if a0 < (-2305843009213693952) then (some (0, false)) else (if a0 ≥ 2305843009213693952 then (some (0, false)) else (some (Go.bits .xor .u64 (IntKind.u64.wrap (wrap64 (a0 * 2))) (IntKind.u64.wrap (a0 / 9223372036854775808)), true)))
theorem prefix_Zig.calls (a0 : Int) (r1 : Int) (r2 : Bool) (w : World) (h : prefix_Zig.f a0 = some (r1, r2)) :
  Calls Tryd.prog 123 #[.int .i64 a0] w fun e w' => e = .returned (.tuple #[.int .u64 r1, .bool r2]) ∧ Drawn0 w w' := by
 have H : (if a0 < (-2305843009213693952) then (some (0, false)) else (if a0 ≥ 2305843009213693952 then (some (0, false)) else (some (Go.bits .xor .u64 (IntKind.u64.wrap (wrap64 (a0 * 2))) (IntKind.u64.wrap (a0 / 9223372036854775808)), true)))) = some (r1, r2) := h
 clear h
 by_cases c2 : a0 < (-2305843009213693952)
 ·rw [if_pos c2] at H
  have c2b0 : decide (a0 < (-2305843009213693952)) = true := decide_eq_true c2
  clear c2
  simp only [Option.some.injEq, Prod.mk.injEq] at H
  obtain ⟨rfl, rfl⟩ := H
  go_enter Tryd.func123, Tryd.ntmps123
  go_wp2
  go_ret2
  exact ⟨es_, by repeat (first | exact Drawn0.refl _ | apply Drawn0.step)⟩
 ·rw [if_neg c2] at H
  have c2b0 : decide (a0 < (-2305843009213693952)) = false := decide_eq_false c2
  clear c2
  by_cases c3 : a0 ≥ 2305843009213693952
  ·rw [if_pos c3] at H
   have c3b0 : decide (2305843009213693952 ≤ a0) = true := decide_eq_true c3
   clear c3
   simp only [Option.some.injEq, Prod.mk.injEq] at H
   obtain ⟨rfl, rfl⟩ := H
   go_enter Tryd.func123, Tryd.ntmps123
   go_wp2
   go_ret2
   exact ⟨es_, by repeat (first | exact Drawn0.refl _ | apply Drawn0.step)⟩
  ·rw [if_neg c3] at H
   have c3b0 : decide (2305843009213693952 ≤ a0) = false := decide_eq_false c3
   clear c3
   simp only [Option.some.injEq, Prod.mk.injEq] at H
   obtain ⟨rfl, rfl⟩ := H
   go_enter Tryd.func123, Tryd.ntmps123
   go_wp2
   go_ret2
   exact ⟨es_, by repeat (first | exact Drawn0.refl _ | apply Drawn0.step)⟩
end Go.Proofs.YtjdenpmaianmfaaDoor.Q
