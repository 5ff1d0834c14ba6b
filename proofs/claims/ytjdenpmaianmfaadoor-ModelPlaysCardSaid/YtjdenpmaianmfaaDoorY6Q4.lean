/- Contracts of the seat's functions, printed: if the Lean function comes to a value, the Go function returns it. -/
import Derived.Lib.SliceRun
import Derived.Test.YtjdenpmaianmfaaDoorY6Q3
namespace Go.Proofs.YtjdenpmaianmfaaDoor.Q
open RowKit YtjdenpmaianmfaaDoorW.PrintWords YtjdenpmaianmfaaDoorW.PrintLast YtjdenpmaianmfaaDoorW.PrintMore
attribute [local go_sem] max2_int min2_int max_two min_two max_three min_three max_four min_four
set_option maxHeartbeats 16000000
set_option maxRecDepth 100000
set_option linter.unusedVariables false
set_option linter.unusedSimpArgs false
def api_Update.f (l0 : List (S32)) : Option ((List (S32))) := if l0.length < 2932031007402 then (some l0) else (none)
theorem api_Update.calls (A0 : Option Addr) (c0 : Nat) (l0 : List (S32)) (r : List (S32)) (w : World) (hr0 : Kd.C k32 w A0 l0.length l0) (hc0 : l0.length ≤ c0) (h : api_Update.f l0 = some r) :
  Calls Tryd.prog 97 #[.slice A0 l0.length c0] w fun e w' => ∃ v0_ : Value, e = .returned (v0_) ∧ Kd.R k32 32 w' w.heap.size (fun _ => True) v0_ r ∧ Below w.heap.size w w' := by
 have LM : l0.length < 2932031007402 ∧ l0 = r := by
  unfold api_Update.f at h
  split at h
  ·rename_i hl; exact ⟨hl, Option.some.inj h⟩
  ·cases h
 obtain ⟨LM, rfl⟩ := LM
 clear h
 have LMc := Am LM
 have HR0 := Am hr0
 have HC0 := Am hc0
 have HB := Am (Below.refl w.heap.size w)
 cases A0 with
 | none =>
  have hl0 : l0 = [] := by
   apply List.eq_nil_of_length_eq_zero
   rcases Nat.eq_zero_or_pos l0.length with h | h
   ·exact h
   ·obtain ⟨ad, e, _⟩ := hr0.2.2 h; cases e
  subst hl0
  have hq : ∀ W : World, (binOp .eql 33 (.slice none 0 c0) (.slice none 0 0)).run Tryd.prog W = .ok (.bool true) W := fun W => Lib.run_eql_slice_nil W _ _ none 0 c0 0 0 Tryd.underlying33
  clear hr0 hc0 LM
  go_enter Tryd.func97, Tryd.ntmps97
  go_wp2
  go_ret
  exact ⟨_, rfl, Kd.R_nil _ _ _ _ _, Below.refl _ _⟩
 | some ad =>
  have hq : ∀ W : World, (binOp .eql 33 (.slice (some ad) l0.length c0) (.slice none 0 0)).run Tryd.prog W = .ok (.bool false) W := fun W => Lib.run_eql_slice_nil W _ _ (some ad) l0.length c0 0 0 Tryd.underlying33
  clear hr0 hc0 LM
  go_enter Tryd.func97, Tryd.ntmps97
  go_wp2_with (first | ((with_reducible refine gD 5 rfl ?_); refine Kd.R_lit k32 _ 32 rfl (N := 5) rfl (xs := ([] : List (S32))) (inner := []) (ok := fun _ => True) (okp := fun _ => True) gs_ ?hp (fun _ hk => hk) trivial (Below.refl _ _) (Nat.le_refl _) (by simp) ?_; (case hp => exact (Reps.none _ _)); intro v115 w3 ho4 hb hg_ hnew_; clear hg_ hnew_; have HO116 := Am ho4; replace HB := Am hb; clear hb ho4) | ((with_reducible refine gate_builtin (b := .append) (xs := #[.tmp 5, .tmp 6]) rfl ?_); at_builtin; refine Kd.R_append_rows k32 (w0 := w) w.heap.size rfl (.tmp 5) (.tmp 6) 33 32 (.agg #[(.string ⟨#[]⟩), (.int .i64 0), (.int .i64 0), (.string ⟨#[]⟩)]) 48 rfl Tryd.underlying33 info32 rfl (by decide) (by omega) v115 [] l0 _ _ _ (fun _ => True) (fun _ => False) rfl rfl ?aO ?aR (fun _ _ h => h) (fun _ h => h.elim) ?aF ?aB ?aS ?aL ?_; (case aR => exact (Kd.C_below HR0.out HB.out)); (case aB => exact HB.out); (case aF => exact (fun _ _ => trivial)); (case aO => exact HO116.out); (case aS => exact HB.out.size); (case aL => have := LMc.out; simp only [List.length_nil]; omega); intro v118 w5 ho hb hg hat; replace HB := Am (hb); have HO119 := Am (ho); clear HO116 ho hb hg hat))
  go_ret
  exact ⟨_, rfl, HO119.out, HB.out⟩
end Go.Proofs.YtjdenpmaianmfaaDoor.Q
namespace Go.Proofs.YtjdenpmaianmfaaDoor.Q
open RowKit YtjdenpmaianmfaaDoorW.PrintWords YtjdenpmaianmfaaDoorW.PrintLast YtjdenpmaianmfaaDoorW.PrintMore
attribute [local go_sem] max2_int min2_int max_two min_two max_three min_three max_four min_four
set_option maxHeartbeats 16000000
set_option maxRecDepth 100000
set_option linter.unusedVariables false
set_option linter.unusedSimpArgs false
mutual
def round_May.j0 : Nat → Bool → Int → Int → List (S32) → Option (Int)
 | 0, _, _, _, _ => none
 | k + 1, x22, x110000, x110001, x110002 => if x22 = true then (some 1) else (round_May.l0 k x110002 (x110002.length : Int) 0)
def round_May.l0 : Nat → List (S32) → Int → Int → Option (Int)
 | 0, _, _, _ => none
 | k + 1, x24, x25, x26 => if x26 < x25 then (if 0 ≤ x26 then (if x26 < (x24.length : Int) then ((value_May.f k ((rd_T32 x24 x26).f0) ((rd_T32 x24 x26).f1) ((rd_T32 x24 x26).f2) ((rd_T32 x24 x26).f3)).bind fun t115 => (if t115 = 0 then (round_May.l0 k x24 x25 (wrap64 (x26 + 1))) else (some t115))) else (none)) else (none)) else (some 0)
end
def round_May.f (k : Nat) (a0_0 : Int) (a0_1 : Int) (l0_2 : List (S32)) : Option (Int) := (round_in.f a0_0 1 64).bind fun t110 => (if t110 = true then ((round_in.f a0_1 1 1099511627776).bind fun t111 => (if t111 = true then ((round_in.f (l0_2.length : Int) 1 8).bind fun t112 => (round_May.j0 k (!t112) a0_0 a0_1 l0_2)) else (round_May.j0 k true a0_0 a0_1 l0_2))) else (round_May.j0 k true a0_0 a0_1 l0_2))
theorem round_May.calls (k : Nat) (a0_0 : Int) (a0_1 : Int) (A0_2 : Option Addr) (c0_2 : Nat) (l0_2 : List (S32)) (r : Int) (w : World) (hr0_2 : Kd.C k32 w A0_2 l0_2.length l0_2) (hc0_2 : l0_2.length ≤ c0_2) (h : round_May.f k a0_0 a0_1 l0_2 = some r) :
  Calls Tryd.prog 96 #[.agg #[a0_0, a0_1, .slice A0_2 l0_2.length c0_2]] w fun e w' => e = .returned (.int .i64 r) ∧ Below w.heap.size w w' := by
 have hu35 := Tryd.underlying35
 have hu32 := Tryd.underlying32
 have HR0_2 := Am hr0_2
 have HC0_2 := Am hc0_2
 clear hr0_2 hc0_2
 have HB := Am (Below.refl w.heap.size w)
 have H : ((round_in.f a0_0 1 64).bind fun t110 => (if t110 = true then ((round_in.f a0_1 1 1099511627776).bind fun t111 => (if t111 = true then ((round_in.f (l0_2.length : Int) 1 8).bind fun t112 => (round_May.j0 k (!t112) a0_0 a0_1 l0_2)) else (round_May.j0 k true a0_0 a0_1 l0_2))) else (round_May.j0 k true a0_0 a0_1 l0_2))) = some r := h
 clear h
 have HC2 := Am H
 clear H
 go_enter Tryd.func96, Tryd.ntmps96
 go_upto_region 1 with (first | ((with_reducible refine gD 1 rfl ?_); (try (refine gate_guard (by rfl) ?_; dsimp only)); refine box_event rfl (N := 1) rfl (cs := #[a0_0, a0_1, .slice A0_2 l0_2.length c0_2]) (t := 35) gs_ ?_; intro gb109 hg w3 hbox hb; have BK109 := Am (hbox); have GW109 := Am (gw_ hg HB); have GE109 := Am (gw_ hg HB); replace HB := Am (below_step (bl_ HB) hb); clear hb hbox hg))
 (try simp only [Act.put, List.setIfInBounds_toArray, List.set_cons_zero, List.set_cons_succ])
 go_cut [22] (fun v22 wc => ∃ (kq : Nat) (x22_1 : Bool), v22 = .bool x22_1 ∧ Aside0 (round_May.j0 kq x22_1 a0_0 a0_1 l0_2 = some r) ∧ Aside0 (kq ≤ k) ∧ Aside0 (wc.heap[gb109]? = some (.cells #[a0_0, a0_1, (.slice A0_2 l0_2.length c0_2)] 35 (0, 0))) ∧ Aside0 (Below w.heap.size w wc))
 case first =>
  have H := HC2.out
  clear HC2
  replace H := Option.bind_eq_some_iff.mp H
  obtain ⟨t110, A40, H⟩ := H
  replace H : (if t110 = true then ((round_in.f a0_1 1 1099511627776).bind fun t111 => (if t111 = true then ((round_in.f (l0_2.length : Int) 1 8).bind fun t112 => (round_May.j0 k (!t112) a0_0 a0_1 l0_2)) else (round_May.j0 k true a0_0 a0_1 l0_2))) else (round_May.j0 k true a0_0 a0_1 l0_2)) = some r := H
  have A4 := Am A40
  clear A40
  by_cases c5 : t110 = true
  ·subst c5
   replace H : ((round_in.f a0_1 1 1099511627776).bind fun t111 => (if t111 = true then ((round_in.f (l0_2.length : Int) 1 8).bind fun t112 => (round_May.j0 k (!t112) a0_0 a0_1 l0_2)) else (round_May.j0 k true a0_0 a0_1 l0_2))) = some r := by rw [if_pos rfl] at H; exact H
   replace H := Option.bind_eq_some_iff.mp H
   obtain ⟨t111, A60, H⟩ := H
   replace H : (if t111 = true then ((round_in.f (l0_2.length : Int) 1 8).bind fun t112 => (round_May.j0 k (!t112) a0_0 a0_1 l0_2)) else (round_May.j0 k true a0_0 a0_1 l0_2)) = some r := H
   have A6 := Am A60
   clear A60
   by_cases c7 : t111 = true
   ·subst c7
    replace H : ((round_in.f (l0_2.length : Int) 1 8).bind fun t112 => (round_May.j0 k (!t112) a0_0 a0_1 l0_2)) = some r := by rw [if_pos rfl] at H; exact H
    replace H := Option.bind_eq_some_iff.mp H
    obtain ⟨t112, A80, H⟩ := H
    replace H : (round_May.j0 k (!t112) a0_0 a0_1 l0_2) = some r := H
    have A8 := Am A80
    clear A80
    have H' := Am H
    clear H
    have hz9 := kb3_ BK109
    go_wp2_with (first | ((with_reducible refine gC 95 rfl ?_); refine goesL_ (some 8) rfl rfl Tryd.func95 (by kernel_rfl) rfl #[a0_0, .int .i64 1, .int .i64 64] rfl am_ ?_; (with_reducible refine (round_in.calls a0_0 1 64 true _ A4.out).mono ?_); rintro e w' ⟨rfl, ⟨nd, rfl⟩⟩; refine ⟨_, rfl, ?_⟩) | (go_at_call 95; (with_reducible refine (round_in.calls a0_1 1 1099511627776 true _ A6.out).mono ?_); rintro e w' ⟨rfl, ⟨nd, rfl⟩⟩) | (go_at_call 95; (with_reducible refine (round_in.calls (l0_2.length : Int) 1 8 t112 _ A8.out).mono ?_); rintro e w' ⟨rfl, ⟨nd, rfl⟩⟩))
    go_meet
    case rel => exact ⟨_, (!t112), er_, H', ⟨by first | omega | exact Nat.le_refl _⟩, ⟨bk_ BK109⟩, ⟨bl_ HB⟩⟩
   ·replace c7 := Bool.eq_false_iff.mpr c7
    subst c7
    replace H : (round_May.j0 k true a0_0 a0_1 l0_2) = some r := by rw [if_neg (show ¬ (false = true) by decide)] at H; exact H
    have H' := Am H
    clear H
    have hz10 := kb3_ BK109
    go_wp2_with (first | ((with_reducible refine gC 95 rfl ?_); refine goesL_ (some 8) rfl rfl Tryd.func95 (by kernel_rfl) rfl #[a0_0, .int .i64 1, .int .i64 64] rfl am_ ?_; (with_reducible refine (round_in.calls a0_0 1 64 true _ A4.out).mono ?_); rintro e w' ⟨rfl, ⟨nd, rfl⟩⟩; refine ⟨_, rfl, ?_⟩) | (go_at_call 95; (with_reducible refine (round_in.calls a0_1 1 1099511627776 false _ A6.out).mono ?_); rintro e w' ⟨rfl, ⟨nd, rfl⟩⟩))
    go_meet
    case rel => exact ⟨_, (true), er_, H', ⟨by first | omega | exact Nat.le_refl _⟩, ⟨bk_ BK109⟩, ⟨bl_ HB⟩⟩
  ·replace c5 := Bool.eq_false_iff.mpr c5
   subst c5
   replace H : (round_May.j0 k true a0_0 a0_1 l0_2) = some r := by rw [if_neg (show ¬ (false = true) by decide)] at H; exact H
   have H' := Am H
   clear H
   have hz11 := kb3_ BK109
   go_wp2_with (first | ((with_reducible refine gC 95 rfl ?_); refine goesL_ (some 8) rfl rfl Tryd.func95 (by kernel_rfl) rfl #[a0_0, .int .i64 1, .int .i64 64] rfl am_ ?_; (with_reducible refine (round_in.calls a0_0 1 64 false _ A4.out).mono ?_); rintro e w' ⟨rfl, ⟨nd, rfl⟩⟩; refine ⟨_, rfl, ?_⟩))
   go_meet
   case rel => exact ⟨_, (true), er_, H', ⟨by first | omega | exact Nat.le_refl _⟩, ⟨bk_ BK109⟩, ⟨bl_ HB⟩⟩
 case rest =>
  clear HC2
  try clear p2
  try clear c5
  try clear c7
  try clear c9
  try clear hz10
  try clear hz11
  try clear hz9
  try clear hz10
  try clear hz11
  try clear hz9
  obtain ⟨kq, x22_1, rfl, HA, HJ1, BK109, HB⟩ := hcut
  cases kq with
  | zero => exact absurd HA.out (by simp [round_May.j0])
  | succ kj1 =>
   have H := HA.out
   clear HA
   simp only [round_May.j0] at H
   by_cases c12 : x22_1 = true
   ·subst c12
    replace H : (some 1) = some r := by rw [if_pos rfl] at H; exact H
    obtain rfl := Option.some.inj H
    go_wp2
    go_ret
    exact ⟨ew_, bl_ HB⟩
   ·replace c12 := Bool.eq_false_iff.mpr c12
    subst c12
    replace H : (round_May.l0 kj1 l0_2 (l0_2.length : Int) 0) = some r := by rw [if_neg (show ¬ (false = true) by decide)] at H; exact H
    have H' := Am H
    clear H
    have hz13 := kb3_ BK109
    go_wp2
    go_loopg [26] kj1 (fun kq v26 w' => ∃ (x26_2 : Int), v26 = .int .i64 x26_2 ∧ Aside0 (round_May.l0 kq l0_2 (l0_2.length : Int) x26_2 = some r) ∧ Aside0 (kq ≤ kj1) ∧ Aside0 (w'.heap[gb109]? = some (.cells #[a0_0, a0_1, (.slice A0_2 l0_2.length c0_2)] 35 (0, 0))) ∧ Aside0 (Below w.heap.size w w'))
    case atStart => exact ⟨(0), er_, H', ⟨Nat.le_refl _⟩, ⟨bk_ BK109⟩, ⟨bl_ HB⟩⟩
    case round =>
     clear H'
     try clear c1
     try clear p2
     try clear c5
     try clear c7
     try clear c9
     try clear c12
     try clear hz10
     try clear hz11
     try clear hz13
     try clear hz9
     try clear hz10
     try clear hz11
     try clear hz13
     try clear hz9
     try clear p2
     obtain ⟨x26_2, rfl, HA, HK2, BK109, HB⟩ := hrel
     cases gk with
     | zero => exact absurd HA.out (by simp [round_May.l0])
     | succ k2 =>
      have H := HA.out
      clear HA
      simp only [round_May.l0] at H
      by_cases c14 : x26_2 < (l0_2.length : Int)
      ·rw [if_pos c14] at H
       have c14b0 := decide_eq_true c14
       clear c14
       by_cases c15 : 0 ≤ x26_2
       ·rw [if_pos c15] at H
        have c15b0 := decide_eq_true c15
        clear c15
        by_cases c16 : x26_2 < (l0_2.length : Int)
        ·rw [if_pos c16] at H
         have c16b0 := decide_eq_true c16
         clear c16
         replace H := Option.bind_eq_some_iff.mp H
         obtain ⟨t115, A170, H⟩ := H
         replace H : (if t115 = 0 then (round_May.l0 k2 l0_2 (l0_2.length : Int) (wrap64 (x26_2 + 1))) else (some t115)) = some r := H
         have A17 := Am A170
         clear A170
         by_cases c18 : t115 = 0
         ·rw [if_pos c18] at H
          have c18b0 : (t115 == 0) = true := beq_iff_eq.mpr c18
          have c18b1 : (t115 != 0) = false := bne_eq_false_iff_eq.mpr c18
          clear c18
          have H' := Am H
          clear H
          have p113 : 0 ≤ (x26_2 : Int) := od_
          have q113 : x26_2 < (l0_2.length : Int) := od_
          obtain ⟨ad113, e113, hx113_0, hx113_1, hx113_2, hx113_3⟩ := at_T32 (Kd.C_below HR0_2.out HB.out) x26_2 p113 q113
          cases e113
          replace p113 := eq_true p113
          replace q113 := eq_true q113
          go_wp2_with (first | ((with_reducible refine gD 4 rfl ?_); (try (refine gate_guard (by rfl) ?_; dsimp only)); refine box_event rfl (N := 4) rfl (cs := #[.string (⟨#[]⟩ : ByteArray), .int .i64 0, .int .i64 0, .string (⟨#[]⟩ : ByteArray)]) (t := 32) gs_ ?_; intro gb114 hg w19 hbox hb; have BK114 := Am (hbox); have GW114 := Am (gw_ hg HB); have GE114 := Am (gw_ hg HB); replace HB := Am (below_step (bl_ HB) hb); have NB109_114 := Am (nl_ hg BK109); have NB114_109 := Am (ng_ hg BK109); replace BK109 := bb_ BK109 hb; clear hb hbox hg; have hnb20 := NB114_109.out; have hnc20 := NB109_114.out; have hcz21_0 : w19.cell? ⟨gb114, 0, none⟩ = some (.string (⟨#[]⟩ : ByteArray)) := (blk_cell BK114.out 0).trans rfl; have hcz21_1 : w19.cell? ⟨gb114, 1, none⟩ = some (.int .i64 0) := (blk_cell BK114.out 1).trans rfl; have hcz21_2 : w19.cell? ⟨gb114, 2, none⟩ = some (.int .i64 0) := (blk_cell BK114.out 2).trans rfl; have hcz21_3 : w19.cell? ⟨gb114, 3, none⟩ = some (.string (⟨#[]⟩ : ByteArray)) := (blk_cell BK114.out 3).trans rfl; have hfz21_0 := blk_frozen BK114.out 0; have hfz21_1 := blk_frozen BK114.out 1; have hfz21_2 := blk_frozen BK114.out 2; have hfz21_3 := blk_frozen BK114.out 3) | ((with_reducible refine gC 69 rfl ?_); refine goesL_ (some 31) rfl rfl Tryd.func69 (by kernel_rfl) rfl #[.agg #[.string ((rd_T32 l0_2 x26_2).f0), .int .i64 ((rd_T32 l0_2 x26_2).f1), .int .i64 ((rd_T32 l0_2 x26_2).f2), .string ((rd_T32 l0_2 x26_2).f3)]] rfl am_ ?_; (with_reducible refine (value_May.calls k2 ((rd_T32 l0_2 x26_2).f0) ((rd_T32 l0_2 x26_2).f1) ((rd_T32 l0_2 x26_2).f2) ((rd_T32 l0_2 x26_2).f3) t115 _ A17.out).mono ?_); rintro e w22 ⟨rfl, hb⟩; refine ⟨_, rfl, ?_⟩; replace BK109 := Am (blk_below (g := gb109) (o := .cells #[a0_0, a0_1, .slice (some ad113) l0_2.length c0_2] 35 (0, 0)) (by (with_reducible repeat (first | refine blk_drewN ?_ _ | refine blk_drew ?_ | refine blk_alloc ?_ _)); refine blk_far ?_ NB109_114.out _; (with_reducible repeat (first | refine blk_drewN ?_ _ | refine blk_drew ?_ | refine blk_alloc ?_ _)); refine blk_far ?_ NB109_114.out _; (with_reducible repeat (first | refine blk_drewN ?_ _ | refine blk_drew ?_ | refine blk_alloc ?_ _)); refine blk_far ?_ NB109_114.out _; (with_reducible repeat (first | refine blk_drewN ?_ _ | refine blk_drew ?_ | refine blk_alloc ?_ _)); refine blk_far ?_ NB109_114.out _; (with_reducible repeat (first | refine blk_drewN ?_ _ | refine blk_drew ?_ | refine blk_alloc ?_ _)); exact BK109.out) hb); replace BK114 := Am (blk_below (g := gb114) (o := .cells #[.string ((rd_T32 l0_2 x26_2).f0), .int .i64 ((rd_T32 l0_2 x26_2).f1), .int .i64 ((rd_T32 l0_2 x26_2).f2), .string ((rd_T32 l0_2 x26_2).f3)] 32 (0, 0)) (by (with_reducible repeat (first | refine blk_drewN ?_ _ | refine blk_drew ?_ | refine blk_alloc ?_ _)); refine blk_put (cs := #[.string ((rd_T32 l0_2 x26_2).f0), .int .i64 ((rd_T32 l0_2 x26_2).f1), .int .i64 ((rd_T32 l0_2 x26_2).f2), .string (⟨#[]⟩ : ByteArray)]) ?_ 3 _ rfl; (with_reducible repeat (first | refine blk_drewN ?_ _ | refine blk_drew ?_ | refine blk_alloc ?_ _)); refine blk_put (cs := #[.string ((rd_T32 l0_2 x26_2).f0), .int .i64 ((rd_T32 l0_2 x26_2).f1), .int .i64 0, .string (⟨#[]⟩ : ByteArray)]) ?_ 2 _ rfl; (with_reducible repeat (first | refine blk_drewN ?_ _ | refine blk_drew ?_ | refine blk_alloc ?_ _)); refine blk_put (cs := #[.string ((rd_T32 l0_2 x26_2).f0), .int .i64 0, .int .i64 0, .string (⟨#[]⟩ : ByteArray)]) ?_ 1 _ rfl; (with_reducible repeat (first | refine blk_drewN ?_ _ | refine blk_drew ?_ | refine blk_alloc ?_ _)); refine blk_put (cs := #[.string (⟨#[]⟩ : ByteArray), .int .i64 0, .int .i64 0, .string (⟨#[]⟩ : ByteArray)]) ?_ 0 _ rfl; (with_reducible repeat (first | refine blk_drewN ?_ _ | refine blk_drew ?_ | refine blk_alloc ?_ _)); exact BK114.out) hb); replace HB := Am (below_step (bl_ HB) hb); (try clear hb); (try clear hb2); (try clear hk); (try clear hi)))
          go_roundg k2
          case measure => have := HJ1.out; have := HK2.out; omega
          case rel => exact ⟨(wrap64 (x26_2 + 1)), er_, H', ⟨by have := HJ1.out; have := HK2.out; omega⟩, ⟨bk_ BK109⟩, ⟨bl_ HB⟩⟩
         ·rw [if_neg c18] at H
          have c18b0 : (t115 == 0) = false := beq_eq_false_iff_ne.mpr c18
          have c18b1 : (t115 != 0) = true := bne_iff_ne.mpr c18
          obtain rfl := Option.some.inj H
          have p113 : 0 ≤ (x26_2 : Int) := od_
          have q113 : x26_2 < (l0_2.length : Int) := od_
          obtain ⟨ad113, e113, hx113_0, hx113_1, hx113_2, hx113_3⟩ := at_T32 (Kd.C_below HR0_2.out HB.out) x26_2 p113 q113
          cases e113
          replace p113 := eq_true p113
          replace q113 := eq_true q113
          go_wp2_with (first | ((with_reducible refine gD 4 rfl ?_); (try (refine gate_guard (by rfl) ?_; dsimp only)); refine box_event rfl (N := 4) rfl (cs := #[.string (⟨#[]⟩ : ByteArray), .int .i64 0, .int .i64 0, .string (⟨#[]⟩ : ByteArray)]) (t := 32) gs_ ?_; intro gb114 hg w23 hbox hb; have BK114 := Am (hbox); have GW114 := Am (gw_ hg HB); have GE114 := Am (gw_ hg HB); replace HB := Am (below_step (bl_ HB) hb); have NB109_114 := Am (nl_ hg BK109); have NB114_109 := Am (ng_ hg BK109); replace BK109 := bb_ BK109 hb; clear hb hbox hg; have hnb24 := NB114_109.out; have hnc24 := NB109_114.out; have hz25 := kb4_ BK114) | ((with_reducible refine gC 69 rfl ?_); refine goesL_ (some 31) rfl rfl Tryd.func69 (by kernel_rfl) rfl #[.agg #[.string ((rd_T32 l0_2 x26_2).f0), .int .i64 ((rd_T32 l0_2 x26_2).f1), .int .i64 ((rd_T32 l0_2 x26_2).f2), .string ((rd_T32 l0_2 x26_2).f3)]] rfl am_ ?_; (with_reducible refine (value_May.calls k2 ((rd_T32 l0_2 x26_2).f0) ((rd_T32 l0_2 x26_2).f1) ((rd_T32 l0_2 x26_2).f2) ((rd_T32 l0_2 x26_2).f3) t115 _ A17.out).mono ?_); rintro e w26 ⟨rfl, hb⟩; refine ⟨_, rfl, ?_⟩; replace BK109 := Am (blk_below (g := gb109) (o := .cells #[a0_0, a0_1, .slice (some ad113) l0_2.length c0_2] 35 (0, 0)) (by (with_reducible repeat (first | refine blk_drewN ?_ _ | refine blk_drew ?_ | refine blk_alloc ?_ _)); refine blk_far ?_ NB109_114.out _; (with_reducible repeat (first | refine blk_drewN ?_ _ | refine blk_drew ?_ | refine blk_alloc ?_ _)); refine blk_far ?_ NB109_114.out _; (with_reducible repeat (first | refine blk_drewN ?_ _ | refine blk_drew ?_ | refine blk_alloc ?_ _)); refine blk_far ?_ NB109_114.out _; (with_reducible repeat (first | refine blk_drewN ?_ _ | refine blk_drew ?_ | refine blk_alloc ?_ _)); refine blk_far ?_ NB109_114.out _; (with_reducible repeat (first | refine blk_drewN ?_ _ | refine blk_drew ?_ | refine blk_alloc ?_ _)); exact BK109.out) hb); replace BK114 := Am (blk_below (g := gb114) (o := .cells #[.string ((rd_T32 l0_2 x26_2).f0), .int .i64 ((rd_T32 l0_2 x26_2).f1), .int .i64 ((rd_T32 l0_2 x26_2).f2), .string ((rd_T32 l0_2 x26_2).f3)] 32 (0, 0)) (by (with_reducible repeat (first | refine blk_drewN ?_ _ | refine blk_drew ?_ | refine blk_alloc ?_ _)); refine blk_put (cs := #[.string ((rd_T32 l0_2 x26_2).f0), .int .i64 ((rd_T32 l0_2 x26_2).f1), .int .i64 ((rd_T32 l0_2 x26_2).f2), .string (⟨#[]⟩ : ByteArray)]) ?_ 3 _ rfl; (with_reducible repeat (first | refine blk_drewN ?_ _ | refine blk_drew ?_ | refine blk_alloc ?_ _)); refine blk_put (cs := #[.string ((rd_T32 l0_2 x26_2).f0), .int .i64 ((rd_T32 l0_2 x26_2).f1), .int .i64 0, .string (⟨#[]⟩ : ByteArray)]) ?_ 2 _ rfl; (with_reducible repeat (first | refine blk_drewN ?_ _ | refine blk_drew ?_ | refine blk_alloc ?_ _)); refine blk_put (cs := #[.string ((rd_T32 l0_2 x26_2).f0), .int .i64 0, .int .i64 0, .string (⟨#[]⟩ : ByteArray)]) ?_ 1 _ rfl; (with_reducible repeat (first | refine blk_drewN ?_ _ | refine blk_drew ?_ | refine blk_alloc ?_ _)); refine blk_put (cs := #[.string (⟨#[]⟩ : ByteArray), .int .i64 0, .int .i64 0, .string (⟨#[]⟩ : ByteArray)]) ?_ 0 _ rfl; (with_reducible repeat (first | refine blk_drewN ?_ _ | refine blk_drew ?_ | refine blk_alloc ?_ _)); exact BK114.out) hb); replace HB := Am (below_step (bl_ HB) hb); (try clear hb); (try clear hb2); (try clear hk); (try clear hi)))
          go_ret
          exact ⟨ew_, bl_ HB⟩
        ·rw [if_neg c16] at H
         exact absurd H (by simp)
       ·rw [if_neg c15] at H
        exact absurd H (by simp)
      ·rw [if_neg c14] at H
       have c14b0 : decide (x26_2 < (l0_2.length : Int)) = false := decide_eq_false c14
       clear c14
       obtain rfl := Option.some.inj H
       go_wp2
       go_ret
       exact ⟨ew_, bl_ HB⟩
def round_Copy.f (a0_0 : Int) (a0_1 : Int) (l0_2 : List (S32)) : Option (Int × Int × (List (S32))) := (api_Update.f l0_2).bind fun t124 => (some (a0_0, a0_1, t124))
theorem round_Copy.calls (a0_0 : Int) (a0_1 : Int) (A0_2 : Option Addr) (c0_2 : Nat) (l0_2 : List (S32)) (r1 : Int) (r2 : Int) (r3 : List (S32)) (w : World) (hr0_2 : Kd.C k32 w A0_2 l0_2.length l0_2) (hc0_2 : l0_2.length ≤ c0_2) (h : round_Copy.f a0_0 a0_1 l0_2 = some (r1, r2, r3)) :
  Calls Tryd.prog 72 #[.agg #[a0_0, a0_1, .slice A0_2 l0_2.length c0_2]] w fun e w' => ∃ v2_ : Value, e = .returned (.agg #[r1, r2, v2_]) ∧ Kd.R k32 32 w' w.heap.size (fun _ => True) v2_ r3 ∧ Below w.heap.size w w' := by
 have hu35 := Tryd.underlying35
 have HR0_2 := Am hr0_2
 have HC0_2 := Am hc0_2
 clear hr0_2 hc0_2
 have HB := Am (Below.refl w.heap.size w)
 have H : ((api_Update.f l0_2).bind fun t124 => (some (a0_0, a0_1, t124))) = some (r1, r2, r3) := h
 clear h
 replace H := Option.bind_eq_some_iff.mp H
 obtain ⟨t124, A20, H⟩ := H
 replace H : (some (a0_0, a0_1, t124)) = some (r1, r2, r3) := H
 have A2 := Am A20
 clear A20
 simp only [Option.some.injEq, Prod.mk.injEq] at H
 obtain ⟨rfl, rfl, rfl⟩ := H
 go_enter Tryd.func72, Tryd.ntmps72
 go_wp2_with (first | ((with_reducible refine gD 1 rfl ?_); refine box_event rfl (N := 1) rfl (cs := #[a0_0, a0_1, .slice A0_2 l0_2.length c0_2]) (t := 35) gs_ ?_; intro gb122 hg w3 hbox hb; have BK122 := Am (hbox); have GW122 := Am (gw_ hg HB); have GE122 := Am (gw_ hg HB); replace HB := Am (below_step (bl_ HB) hb); clear hb hbox hg) | ((with_reducible refine gD 2 rfl ?_); refine box_event rfl (N := 2) rfl (cs := #[.int .i64 0, .int .i64 0, .slice none 0 0]) (t := 35) gs_ ?_; intro gb123 hg w4 hbox hb; have BK123 := Am (hbox); have GW123 := Am (gw_ hg HB); have GE123 := Am (gw_ hg HB); replace HB := Am (below_step (bl_ HB) hb); have NB122_123 := Am (nl_ hg BK122); have NB123_122 := Am (ng_ hg BK122); replace BK122 := bb_ BK122 hb; clear hb hbox hg; have hnb5 := NB122_123.out; have hnc5 := NB123_122.out; have hz6 := kb3_ BK122) | ((with_reducible refine gC 97 rfl ?_); refine goesL_ (some 5) rfl rfl Tryd.func97 (by kernel_rfl) rfl #[.slice A0_2 l0_2.length c0_2] rfl am_ ?_; (with_reducible refine (api_Update.calls _ _ l0_2 t124 _ ?side1 ?side2 A2.out).mono ?_); (case side1 => repeat (first | exact (Kd.C_below HR0_2.out HB.out) | (with_reducible refine Kd.C_alloc ?_ _) | (with_reducible refine Kd.C_drewN ?_ _) | (with_reducible refine Kd.C_drew ?_))); (case side2 => exact HC0_2.out); rintro e w7 ⟨v125, rfl, ho0, hb⟩; refine ⟨_, rfl, ?_⟩; have HO126 := Am (Kd.R_lower ho0 (below_size (bl_ HB))); replace BK122 := bb_ BK122 hb; replace BK123 := bb_ BK123 hb; replace HB := Am (below_step (bl_ HB) hb); (try clear hb); (try clear hb2); (try clear hk); (try clear hi); (try clear ho0); obtain ⟨Ao8, co8, eo8⟩ := Kd.R_slice HO126.out; subst eo8; have hz9 := kb3_ BK122; have hz10 := kb3_ BK123))
 refine bodyPost_ret (results_cell_row rfl _ _ gb123 35 #[a0_0, a0_1, .slice Ao8 t124.length co8] (0, 0) _ rfl (by (with_reducible repeat (first | refine blk_drewN ?_ _ | refine blk_drew ?_ | refine blk_alloc ?_ _)); refine blk_put (cs := #[a0_0, a0_1, .slice none 0 0]) ?_ 2 _ rfl; (with_reducible repeat (first | refine blk_drewN ?_ _ | refine blk_drew ?_ | refine blk_alloc ?_ _)); refine blk_put (cs := #[a0_0, .int .i64 0, .slice none 0 0]) ?_ 1 _ rfl; (with_reducible repeat (first | refine blk_drewN ?_ _ | refine blk_drew ?_ | refine blk_alloc ?_ _)); refine blk_put (cs := #[.int .i64 0, .int .i64 0, .slice none 0 0]) ?_ 0 _ rfl; (with_reducible repeat (first | refine blk_drewN ?_ _ | refine blk_drew ?_ | refine blk_alloc ?_ _)); refine blk_far ?_ NB123_122.out _; (with_reducible repeat (first | refine blk_drewN ?_ _ | refine blk_drew ?_ | refine blk_alloc ?_ _)); exact BK123.out) Tryd.underlying35 rfl (by kernel_rfl)) rfl ?_
 exact ⟨_, ew_, by (with_reducible repeat (first | apply Kd.R_alloc | apply Kd.R_drewN | apply Kd.R_drew)); exact Kd.R_mono (Kd.R_far (p := ⟨gb123, 2, none⟩) (Kd.R_far (p := ⟨gb123, 1, none⟩) (Kd.R_far (p := ⟨gb123, 0, none⟩) (Kd.R_far (p := ⟨gb122, 2, none⟩) (Kd.R_types (Kd.R_types HO126.out BK122.out (by decide)) BK123.out (by decide)) (fun _ hk => hk.1.2) (.slice Ao8 t124.length co8)) (fun _ hk => hk.2) (.int .i64 a0_0)) (fun _ hk => hk.2) (.int .i64 a0_1)) (fun _ hk => hk.2) (.slice Ao8 t124.length co8)) (fun _ hk => trivial), bl_ HB⟩
def value_number.f (a0 : Int) : Option (Int × Int × ByteArray) := some (1, a0, (⟨#[]⟩ : ByteArray))
theorem value_number.calls (a0 : Int) (r1 : Int) (r2 : Int) (r3 : ByteArray) (w : World) (h : value_number.f a0 = some (r1, r2, r3)) :
  Calls Tryd.prog 119 #[a0] w fun e w' => e = .returned (.agg #[r1, r2, r3]) ∧ Below w.heap.size w w' := by
 have hu49 := Tryd.underlying49
 have HB := Am (Below.refl w.heap.size w)
 have H : (some (1, a0, (⟨#[]⟩ : ByteArray))) = some (r1, r2, r3) := h
 clear h
 simp only [Option.some.injEq, Prod.mk.injEq] at H
 obtain ⟨rfl, rfl, rfl⟩ := H
 go_enter Tryd.func119, Tryd.ntmps119
 go_wp2_with (first | ((with_reducible refine gD 2 rfl ?_); refine box_event rfl (N := 2) rfl (cs := #[.int .i64 0, .int .i64 0, .string (⟨#[]⟩ : ByteArray)]) (t := 49) gs_ ?_; intro gb127 hg w2 hbox hb; have BK127 := Am (hbox); have GW127 := Am (gw_ hg HB); have GE127 := Am (gw_ hg HB); replace HB := Am (below_step (bl_ HB) hb); clear hb hbox hg; have hz3 := kb3_ BK127))
 refine bodyPost_ret (results_cell_row rfl _ _ gb127 49 #[.int .i64 1, a0, .string (⟨#[]⟩ : ByteArray)] (0, 0) _ rfl (by (with_reducible repeat (first | refine blk_drewN ?_ _ | refine blk_drew ?_ | refine blk_alloc ?_ _)); refine blk_put (cs := #[.int .i64 1, a0, .string (⟨#[]⟩ : ByteArray)]) ?_ 2 _ rfl; (with_reducible repeat (first | refine blk_drewN ?_ _ | refine blk_drew ?_ | refine blk_alloc ?_ _)); refine blk_put (cs := #[.int .i64 1, .int .i64 0, .string (⟨#[]⟩ : ByteArray)]) ?_ 1 _ rfl; (with_reducible repeat (first | refine blk_drewN ?_ _ | refine blk_drew ?_ | refine blk_alloc ?_ _)); refine blk_put (cs := #[.int .i64 0, .int .i64 0, .string (⟨#[]⟩ : ByteArray)]) ?_ 0 _ rfl; (with_reducible repeat (first | refine blk_drewN ?_ _ | refine blk_drew ?_ | refine blk_alloc ?_ _)); exact BK127.out) Tryd.underlying49 rfl (by kernel_rfl)) rfl ?_
 exact ⟨ew_, bl_ HB⟩
def value_text.f (a0 : ByteArray) : Option (Int × Int × ByteArray) := some (2, 0, a0)
theorem value_text.calls (a0 : ByteArray) (r1 : Int) (r2 : Int) (r3 : ByteArray) (w : World) (h : value_text.f a0 = some (r1, r2, r3)) :
  Calls Tryd.prog 120 #[a0] w fun e w' => e = .returned (.agg #[r1, r2, r3]) ∧ Below w.heap.size w w' := by
 have hu49 := Tryd.underlying49
 have HB := Am (Below.refl w.heap.size w)
 have H : (some (2, 0, a0)) = some (r1, r2, r3) := h
 clear h
 simp only [Option.some.injEq, Prod.mk.injEq] at H
 obtain ⟨rfl, rfl, rfl⟩ := H
 go_enter Tryd.func120, Tryd.ntmps120
 go_wp2_with (first | ((with_reducible refine gD 2 rfl ?_); refine box_event rfl (N := 2) rfl (cs := #[.int .i64 0, .int .i64 0, .string (⟨#[]⟩ : ByteArray)]) (t := 49) gs_ ?_; intro gb128 hg w2 hbox hb; have BK128 := Am (hbox); have GW128 := Am (gw_ hg HB); have GE128 := Am (gw_ hg HB); replace HB := Am (below_step (bl_ HB) hb); clear hb hbox hg; have hz3 := kb3_ BK128))
 refine bodyPost_ret (results_cell_row rfl _ _ gb128 49 #[.int .i64 2, .int .i64 0, a0] (0, 0) _ rfl (by (with_reducible repeat (first | refine blk_drewN ?_ _ | refine blk_drew ?_ | refine blk_alloc ?_ _)); refine blk_put (cs := #[.int .i64 2, .int .i64 0, .string (⟨#[]⟩ : ByteArray)]) ?_ 2 _ rfl; (with_reducible repeat (first | refine blk_drewN ?_ _ | refine blk_drew ?_ | refine blk_alloc ?_ _)); refine blk_put (cs := #[.int .i64 2, .int .i64 0, .string (⟨#[]⟩ : ByteArray)]) ?_ 1 _ rfl; (with_reducible repeat (first | refine blk_drewN ?_ _ | refine blk_drew ?_ | refine blk_alloc ?_ _)); refine blk_put (cs := #[.int .i64 0, .int .i64 0, .string (⟨#[]⟩ : ByteArray)]) ?_ 0 _ rfl; (with_reducible repeat (first | refine blk_drewN ?_ _ | refine blk_drew ?_ | refine blk_alloc ?_ _)); exact BK128.out) Tryd.underlying49 rfl (by kernel_rfl)) rfl ?_
 exact ⟨ew_, bl_ HB⟩
def value_clean.f (a0_0 : Int) (a0_1 : Int) (a0_2 : ByteArray) : Option (Int × Int × ByteArray) := if a0_0 = 1 then ((value_number.f a0_1).bind fun bt131 => (some (bt131.1, bt131.2.1, bt131.2.2))) else (if a0_0 = 2 then ((value_text.f a0_2).bind fun bt134 => (some (bt134.1, bt134.2.1, bt134.2.2))) else (some (0, 0, (⟨#[]⟩ : ByteArray))))
theorem value_clean.calls (a0_0 : Int) (a0_1 : Int) (a0_2 : ByteArray) (r1 : Int) (r2 : Int) (r3 : ByteArray) (w : World) (h : value_clean.f a0_0 a0_1 a0_2 = some (r1, r2, r3)) :
  Calls Tryd.prog 118 #[.agg #[a0_0, a0_1, a0_2]] w fun e w' => e = .returned (.agg #[r1, r2, r3]) ∧ Below w.heap.size w w' := by
 have hu49 := Tryd.underlying49
 have HB := Am (Below.refl w.heap.size w)
 have H : (if a0_0 = 1 then ((value_number.f a0_1).bind fun bt131 => (some (bt131.1, bt131.2.1, bt131.2.2))) else (if a0_0 = 2 then ((value_text.f a0_2).bind fun bt134 => (some (bt134.1, bt134.2.1, bt134.2.2))) else (some (0, 0, (⟨#[]⟩ : ByteArray))))) = some (r1, r2, r3) := h
 clear h
 by_cases c2 : a0_0 = 1
 ·rw [if_pos c2] at H
  have c2b0 : (a0_0 == 1) = true := beq_iff_eq.mpr c2
  have c2b1 : (a0_0 != 1) = false := bne_eq_false_iff_eq.mpr c2
  clear c2
  replace H := Option.bind_eq_some_iff.mp H
  obtain ⟨⟨t131, t132, t133⟩, A30, H⟩ := H
  replace H : (some (t131, t132, t133)) = some (r1, r2, r3) := H
  have A3 := Am A30
  clear A30
  simp only [Option.some.injEq, Prod.mk.injEq] at H
  obtain ⟨rfl, rfl, rfl⟩ := H
  go_enter Tryd.func118, Tryd.ntmps118
  go_wp2_with (first | ((with_reducible refine gD 1 rfl ?_); refine box_event rfl (N := 1) rfl (cs := #[a0_0, a0_1, a0_2]) (t := 49) gs_ ?_; intro gb129 hg w4 hbox hb; have BK129 := Am (hbox); have GW129 := Am (gw_ hg HB); have GE129 := Am (gw_ hg HB); replace HB := Am (below_step (bl_ HB) hb); clear hb hbox hg) | ((with_reducible refine gD 2 rfl ?_); refine box_event rfl (N := 2) rfl (cs := #[.int .i64 0, .int .i64 0, .string (⟨#[]⟩ : ByteArray)]) (t := 49) gs_ ?_; intro gb130 hg w5 hbox hb; have BK130 := Am (hbox); have GW130 := Am (gw_ hg HB); have GE130 := Am (gw_ hg HB); replace HB := Am (below_step (bl_ HB) hb); have NB129_130 := Am (nl_ hg BK129); have NB130_129 := Am (ng_ hg BK129); replace BK129 := bb_ BK129 hb; clear hb hbox hg; have hnb6 := NB129_130.out; have hnc6 := NB130_129.out; have hz7 := kb3_ BK129) | ((with_reducible refine gC 119 rfl ?_); refine goesL_ (some 9) rfl rfl Tryd.func119 (by kernel_rfl) rfl #[a0_1] rfl am_ ?_; (with_reducible refine (value_number.calls a0_1 t131 t132 t133 _ A3.out).mono ?_); rintro e w8 ⟨rfl, hb⟩; refine ⟨_, rfl, ?_⟩; replace BK129 := bb_ BK129 hb; replace BK130 := bb_ BK130 hb; replace HB := Am (below_step (bl_ HB) hb); (try clear hb); (try clear hb2); (try clear hk); (try clear hi); have hz9 := kb3_ BK130))
  refine bodyPost_ret (results_cell_row rfl _ _ gb130 49 #[t131, t132, t133] (0, 0) _ rfl (by (with_reducible repeat (first | refine blk_drewN ?_ _ | refine blk_drew ?_ | refine blk_alloc ?_ _)); refine blk_put (cs := #[t131, t132, .string (⟨#[]⟩ : ByteArray)]) ?_ 2 _ rfl; (with_reducible repeat (first | refine blk_drewN ?_ _ | refine blk_drew ?_ | refine blk_alloc ?_ _)); refine blk_put (cs := #[t131, .int .i64 0, .string (⟨#[]⟩ : ByteArray)]) ?_ 1 _ rfl; (with_reducible repeat (first | refine blk_drewN ?_ _ | refine blk_drew ?_ | refine blk_alloc ?_ _)); refine blk_put (cs := #[.int .i64 0, .int .i64 0, .string (⟨#[]⟩ : ByteArray)]) ?_ 0 _ rfl; (with_reducible repeat (first | refine blk_drewN ?_ _ | refine blk_drew ?_ | refine blk_alloc ?_ _)); exact BK130.out) Tryd.underlying49 rfl (by kernel_rfl)) rfl ?_
  exact ⟨ew_, bl_ HB⟩
 ·rw [if_neg c2] at H
  have c2b0 : (a0_0 == 1) = false := beq_eq_false_iff_ne.mpr c2
  have c2b1 : (a0_0 != 1) = true := bne_iff_ne.mpr c2
  by_cases c10 : a0_0 = 2
  ·rw [if_pos c10] at H
   have c10b0 : (a0_0 == 2) = true := beq_iff_eq.mpr c10
   have c10b1 : (a0_0 != 2) = false := bne_eq_false_iff_eq.mpr c10
   clear c10
   replace H := Option.bind_eq_some_iff.mp H
   obtain ⟨⟨t134, t135, t136⟩, A110, H⟩ := H
   replace H : (some (t134, t135, t136)) = some (r1, r2, r3) := H
   have A11 := Am A110
   clear A110
   simp only [Option.some.injEq, Prod.mk.injEq] at H
   obtain ⟨rfl, rfl, rfl⟩ := H
   go_enter Tryd.func118, Tryd.ntmps118
   go_wp2_with (first | ((with_reducible refine gD 1 rfl ?_); refine box_event rfl (N := 1) rfl (cs := #[a0_0, a0_1, a0_2]) (t := 49) gs_ ?_; intro gb129 hg w12 hbox hb; have BK129 := Am (hbox); have GW129 := Am (gw_ hg HB); have GE129 := Am (gw_ hg HB); replace HB := Am (below_step (bl_ HB) hb); clear hb hbox hg) | ((with_reducible refine gD 2 rfl ?_); refine box_event rfl (N := 2) rfl (cs := #[.int .i64 0, .int .i64 0, .string (⟨#[]⟩ : ByteArray)]) (t := 49) gs_ ?_; intro gb130 hg w13 hbox hb; have BK130 := Am (hbox); have GW130 := Am (gw_ hg HB); have GE130 := Am (gw_ hg HB); replace HB := Am (below_step (bl_ HB) hb); have NB129_130 := Am (nl_ hg BK129); have NB130_129 := Am (ng_ hg BK129); replace BK129 := bb_ BK129 hb; clear hb hbox hg; have hnb14 := NB129_130.out; have hnc14 := NB130_129.out; have hz15 := kb3_ BK129) | ((with_reducible refine gC 120 rfl ?_); refine goesL_ (some 14) rfl rfl Tryd.func120 (by kernel_rfl) rfl #[a0_2] rfl am_ ?_; (with_reducible refine (value_text.calls a0_2 t134 t135 t136 _ A11.out).mono ?_); rintro e w16 ⟨rfl, hb⟩; refine ⟨_, rfl, ?_⟩; replace BK129 := bb_ BK129 hb; replace BK130 := bb_ BK130 hb; replace HB := Am (below_step (bl_ HB) hb); (try clear hb); (try clear hb2); (try clear hk); (try clear hi); have hz17 := kb3_ BK130))
   refine bodyPost_ret (results_cell_row rfl _ _ gb130 49 #[t134, t135, t136] (0, 0) _ rfl (by (with_reducible repeat (first | refine blk_drewN ?_ _ | refine blk_drew ?_ | refine blk_alloc ?_ _)); refine blk_put (cs := #[t134, t135, .string (⟨#[]⟩ : ByteArray)]) ?_ 2 _ rfl; (with_reducible repeat (first | refine blk_drewN ?_ _ | refine blk_drew ?_ | refine blk_alloc ?_ _)); refine blk_put (cs := #[t134, .int .i64 0, .string (⟨#[]⟩ : ByteArray)]) ?_ 1 _ rfl; (with_reducible repeat (first | refine blk_drewN ?_ _ | refine blk_drew ?_ | refine blk_alloc ?_ _)); refine blk_put (cs := #[.int .i64 0, .int .i64 0, .string (⟨#[]⟩ : ByteArray)]) ?_ 0 _ rfl; (with_reducible repeat (first | refine blk_drewN ?_ _ | refine blk_drew ?_ | refine blk_alloc ?_ _)); exact BK130.out) Tryd.underlying49 rfl (by kernel_rfl)) rfl ?_
   exact ⟨ew_, bl_ HB⟩
  ·rw [if_neg c10] at H
   have c10b0 : (a0_0 == 2) = false := beq_eq_false_iff_ne.mpr c10
   have c10b1 : (a0_0 != 2) = true := bne_iff_ne.mpr c10
   simp only [Option.some.injEq, Prod.mk.injEq] at H
   obtain ⟨rfl, rfl, rfl⟩ := H
   go_enter Tryd.func118, Tryd.ntmps118
   go_wp2_with (first | ((with_reducible refine gD 1 rfl ?_); refine box_event rfl (N := 1) rfl (cs := #[a0_0, a0_1, a0_2]) (t := 49) gs_ ?_; intro gb129 hg w18 hbox hb; have BK129 := Am (hbox); have GW129 := Am (gw_ hg HB); have GE129 := Am (gw_ hg HB); replace HB := Am (below_step (bl_ HB) hb); clear hb hbox hg) | ((with_reducible refine gD 2 rfl ?_); refine box_event rfl (N := 2) rfl (cs := #[.int .i64 0, .int .i64 0, .string (⟨#[]⟩ : ByteArray)]) (t := 49) gs_ ?_; intro gb130 hg w19 hbox hb; have BK130 := Am (hbox); have GW130 := Am (gw_ hg HB); have GE130 := Am (gw_ hg HB); replace HB := Am (below_step (bl_ HB) hb); have NB129_130 := Am (nl_ hg BK129); have NB130_129 := Am (ng_ hg BK129); replace BK129 := bb_ BK129 hb; clear hb hbox hg; have hnb20 := NB129_130.out; have hnc20 := NB130_129.out; have hcz21_0 : w19.cell? ⟨gb129, 0, none⟩ = some (.int .i64 a0_0) := (blk_cell BK129.out 0).trans rfl; have hcz21_1 : w19.cell? ⟨gb129, 1, none⟩ = some (.int .i64 a0_1) := (blk_cell BK129.out 1).trans rfl; have hcz21_2 : w19.cell? ⟨gb129, 2, none⟩ = some (.string a0_2) := (blk_cell BK129.out 2).trans rfl; have hfz21_0 := blk_frozen BK129.out 0; have hfz21_1 := blk_frozen BK129.out 1; have hfz21_2 := blk_frozen BK129.out 2; have hz22 := kb3_ BK130))
   refine bodyPost_ret (results_cell_row rfl _ _ gb130 49 #[.int .i64 0, .int .i64 0, .string (⟨#[]⟩ : ByteArray)] (0, 0) _ rfl (by (with_reducible repeat (first | refine blk_drewN ?_ _ | refine blk_drew ?_ | refine blk_alloc ?_ _)); refine blk_put (cs := #[.int .i64 0, .int .i64 0, .string (⟨#[]⟩ : ByteArray)]) ?_ 2 _ rfl; (with_reducible repeat (first | refine blk_drewN ?_ _ | refine blk_drew ?_ | refine blk_alloc ?_ _)); refine blk_put (cs := #[.int .i64 0, .int .i64 0, .string (⟨#[]⟩ : ByteArray)]) ?_ 1 _ rfl; (with_reducible repeat (first | refine blk_drewN ?_ _ | refine blk_drew ?_ | refine blk_alloc ?_ _)); refine blk_put (cs := #[.int .i64 0, .int .i64 0, .string (⟨#[]⟩ : ByteArray)]) ?_ 0 _ rfl; (with_reducible repeat (first | refine blk_drewN ?_ _ | refine blk_drew ?_ | refine blk_alloc ?_ _)); exact BK130.out) Tryd.underlying49 rfl (by kernel_rfl)) rfl ?_
   exact ⟨ew_, bl_ HB⟩
end Go.Proofs.YtjdenpmaianmfaaDoor.Q
