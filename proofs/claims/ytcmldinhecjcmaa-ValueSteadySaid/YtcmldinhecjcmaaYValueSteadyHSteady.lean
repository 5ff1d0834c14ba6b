/- The law ValueSteady: a plain walk through its text. -/
import Derived.Test.YtcmldinhecjcmaaYValueSteadyVS
import Derived.Test.YtcmldinhecjcmaaYValueSteadyEv
import Derived.Test.YtcmldinhecjcmaaYValueSteadyQ2
import Derived.Test.YtcmldinhecjcmaaYValueSteadyQ3
namespace Go.Proofs.Ytcmldinhecjcmaa.J
set_option linter.unusedSimpArgs false
set_option linter.unusedVariables false
open Go Go.RowKit Go.Proofs.YtcmldinhecjcmaaW.PrintWords Go.Proofs.YtcmldinhecjcmaaW.PrintLast Go.Proofs.YtcmldinhecjcmaaW.PrintMore Go.Proofs.Ytcmldinhecjcmaa.Q Go.Proofs.Ytcmldinhecjcmaa.Sep
attribute [local go_sem] max2_int min2_int max_two min_two max_three min_three max_four min_four
attribute [local go_sem high] eqA23
theorem flatU : Flat k25 := flat_iso _ (flat_pair flat_scalar (flat_pair flat_scalar (flat_pair flat_scalar flat_scalar)))
theorem rep2 (w : World) (x y : S25) : Reps (Kd.FK k25 w (fun _ => False)) 4 [x, y] [.string x.f0, .int .i64 x.f1, .int .i64 x.f2, .string x.f3, .string y.f0, .int .i64 y.f1, .int .i64 y.f2, .string y.f3] :=
  ((Reps.none _ 4).snoc (flatU.FK (k25_mk w x)) rfl).snoc (flatU.FK (k25_mk w y)) rfl
def chapbooklaw04_ValueSteady.f (a0_0 a0_1 a0_2 : Int) (a1_0 a1_1 a1_2 : ByteArray) : Option Bool := if (Lit.int .i64 a0_0).wf = true ∧ (Lit.int .i64 a0_1).wf = true ∧ (Lit.int .i64 a0_2).wf = true then some true else none
theorem blk3_ {w : World} {g : Nat} {t : TypeId} {v0 v1 v2 : Value} (h : w.heap[g]? = some (.cells #[v0, v1, v2] t (0, 0))) : w.cell? ⟨g, 0, none⟩ = some v0 ∧ w.cell? ⟨g, 1, none⟩ = some v1 ∧ w.cell? ⟨g, 2, none⟩ = some v2 ∧ ∀ i, w.frozen? ⟨g, i, none⟩ = false := ⟨(blk_cell h 0).trans rfl, (blk_cell h 1).trans rfl, (blk_cell h 2).trans rfl, fun i => blk_frozen h i⟩
theorem blk4_ {w : World} {g : Nat} {t : TypeId} {v0 v1 v2 v3 : Value} (h : w.heap[g]? = some (.cells #[v0, v1, v2, v3] t (0, 0))) : w.cell? ⟨g, 0, none⟩ = some v0 ∧ w.cell? ⟨g, 1, none⟩ = some v1 ∧ w.cell? ⟨g, 2, none⟩ = some v2 ∧ w.cell? ⟨g, 3, none⟩ = some v3 ∧ ∀ i, w.frozen? ⟨g, i, none⟩ = false := ⟨(blk_cell h 0).trans rfl, (blk_cell h 1).trans rfl, (blk_cell h 2).trans rfl, (blk_cell h 3).trans rfl, fun i => blk_frozen h i⟩
set_option maxHeartbeats 16000000 in
set_option maxRecDepth 100000 in
theorem chapbooklaw04_ValueSteady.calls (a0_0 : Int) (a0_1 : Int) (a0_2 : Int) (a1_0 : ByteArray) (a1_1 : ByteArray) (a1_2 : ByteArray) (r : Bool) (w : World) (h : chapbooklaw04_ValueSteady.f a0_0 a0_1 a0_2 a1_0 a1_1 a1_2 = some r) :
    Calls Try.prog 7 #[.agg #[.int .i64 a0_0, .int .i64 a0_1, .int .i64 a0_2], .agg #[.string a1_0, .string a1_1, .string a1_2]] w fun e_ w' => e_ = .returned (.bool r) ∧ Below w.heap.size w w' := by
  unfold chapbooklaw04_ValueSteady.f at h
  by_cases hwf : (Lit.int .i64 a0_0).wf = true ∧ (Lit.int .i64 a0_1).wf = true ∧ (Lit.int .i64 a0_2).wf = true
  rotate_left
  · rw [if_neg hwf] at h; cases h
  rw [if_pos hwf] at h
  obtain rfl : true = r := Option.some.inj h
  have HWF := Aside0.mk hwf
  clear h hwf
  obtain ⟨N, hN⟩ : ∃ N : Nat → Prop, N = fun k => k < w.heap.size := ⟨_, rfl⟩
  have HN := Aside0.mk hN
  have O0 : Aside0 (Own N w []) := ⟨Own.start_ (fun k hk => by rw [hN] at hk; exact hk)⟩
  have K0 : Aside0 (KeepS N w w) := ⟨KeepS.refl _ _⟩
  clear hN
  by_cases hb0 : 300 < a1_0.size
  · have d0 : decide ((a1_0.size : Int) > 300) = true := decide_eq_true (by omega)
    have e0 : decide (300 < (a1_0.size : Int)) = true := decide_eq_true (by omega)
    go_enter Try.func7, Try.ntmps7
    go_wp2_with (first | ((with_reducible refine gate_dst (N := 2) rfl ?_); refine own_box rfl (D := 2) rfl (cs := #[.int .i64 a0_0, .int .i64 a0_1, .int .i64 a0_2]) (t := 39) ?hr O0.out ?_; (case hr => first | (go_simp; done) | (go_simp; rfl)); intro gi w1 o_ k_; have O1 : Aside0 (Own N w1 [cells gi #[.int .i64 a0_0, .int .i64 a0_1, .int .i64 a0_2] 39]) := ⟨o_⟩; have K1 : Aside0 (KeepS N w w1) := ⟨K0.out.trans k_⟩; clear O0 K0; obtain ⟨a0a, a0b, a0c, b0⟩ := blk3_ (O1.out.blk (i := 0) rfl); clear o_ k_) | ((with_reducible refine gate_dst (N := 3) rfl ?_); refine own_box rfl (D := 3) rfl (cs := #[.string a1_0, .string a1_1, .string a1_2]) (t := 40) ?hr O1.out ?_; (case hr => first | (go_simp; done) | (go_simp; rfl)); intro gs w2 o_ k_; have O2 : Aside0 (Own N w2 [cells gi #[.int .i64 a0_0, .int .i64 a0_1, .int .i64 a0_2] 39, cells gs #[.string a1_0, .string a1_1, .string a1_2] 40]) := ⟨o_⟩; have K2 : Aside0 (KeepS N w w2) := ⟨K1.out.trans k_⟩; clear a0a a0b a0c b0 O1 K1; obtain ⟨a0a, a0b, a0c, b0⟩ := blk3_ (O2.out.blk (i := 0) rfl); obtain ⟨a1a, a1b, a1c, b1⟩ := blk3_ (O2.out.blk (i := 1) rfl); clear o_ k_))
    refine start_ (n := 9) (S := fun w' => w'.cell? ⟨gi, 0, none⟩ = some (.int .i64 a0_0) ∧ w'.cell? ⟨gi, 1, none⟩ = some (.int .i64 a0_1) ∧ w'.cell? ⟨gi, 2, none⟩ = some (.int .i64 a0_2)) (ds := []) #[false, false, false, false, false, false, false, false, false] (by kernel_rfl) rfl rfl ⟨((blk_cell (O2.out.blk (i := 0) rfl) 0).trans rfl), ((blk_cell (O2.out.blk (i := 0) rfl) 1).trans rfl), ((blk_cell (O2.out.blk (i := 0) rfl) 2).trans rfl)⟩ (fun hHeld => ?_)
    obtain ⟨w3, hw_⟩ : ∃ W, W = w2.drew := ⟨_, rfl⟩
    have o_ := O2.out.drew
    have k_ : KeepS N w2 w2.drew := KeepS.drew
    rw [← hw_] at o_ k_ hHeld ⊢
    clear hw_
    have O3 : Aside0 (Own N w3 [cells gi #[.int .i64 a0_0, .int .i64 a0_1, .int .i64 a0_2] 39, cells gs #[.string a1_0, .string a1_1, .string a1_2] 40]) := ⟨o_⟩
    have K3 : Aside0 (KeepS N w w3) := ⟨K2.out.trans k_⟩
    clear a0a a0b a0c b0 a1a a1b a1c b1 O2 K2
    obtain ⟨a0a, a0b, a0c, b0⟩ := blk3_ (O3.out.blk (i := 0) rfl)
    obtain ⟨a1a, a1b, a1c, b1⟩ := blk3_ (O3.out.blk (i := 1) rfl)
    clear o_ k_
    refine pure_ (i := 0) (N := some 13) (v := ?_) (a' := ?_) #[true, false, false, false, false, false, false, false, false] rfl rfl (by kernel_rfl) (fun _ _ _ h => h) (Or.inl ⟨by rfl, ?_⟩) ?_ ?_
    rotate_left
    · intro w'
      go_simp
      with_reducible rfl
    rotate_left
    · simp only [Act.put, List.setIfInBounds_toArray, List.set_cons_zero, List.set_cons_succ, i64_w, i32_w]
      rfl
    refine pure_ (i := 2) (N := some 15) (v := ?_) (a' := ?_) #[true, false, true, false, false, false, false, false, false] rfl rfl (by kernel_rfl) (fun _ _ _ h => h) (Or.inl ⟨by rfl, ?_⟩) ?_ ?_
    rotate_left
    · intro w'
      go_simp
      with_reducible rfl
    rotate_left
    · simp only [Act.put, List.setIfInBounds_toArray, List.set_cons_zero, List.set_cons_succ, i64_w, i32_w]
      rfl
    refine pure_ (i := 4) (N := some 17) (v := ?_) (a' := ?_) #[true, false, true, false, true, false, false, false, false] rfl rfl (by kernel_rfl) (fun _ _ _ h => h) (Or.inl ⟨by rfl, ?_⟩) ?_ ?_
    rotate_left
    · intro w'
      go_simp
      with_reducible rfl
    rotate_left
    · simp only [Act.put, List.setIfInBounds_toArray, List.set_cons_zero, List.set_cons_succ, i64_w, i32_w]
      rfl
    refine take_ (i := 1) (N := some 14) (v := ?_) (a' := ?_) #[true, true, true, false, true, false, false, false, false] rfl rfl (by kernel_rfl) (fun _ _ _ h => h) (Or.inl ⟨by rfl, ?_⟩) hHeld ?_ ?_
    rotate_left
    · rintro w' ⟨s0, s1, s2⟩
      go_simp
      with_reducible rfl
    rotate_left
    · simp only [Act.put, List.setIfInBounds_toArray, List.set_cons_zero, List.set_cons_succ, i64_w, i32_w]
      rfl
    refine pure_ (i := 6) (N := some 5) (v := ?_) (a' := ?_) #[true, true, true, false, true, false, true, false, false] rfl rfl (by kernel_rfl) (fun _ _ _ h => h) (Or.inl ⟨by rfl, ?_⟩) ?_ ?_
    rotate_left
    · intro w'
      go_simp
      with_reducible rfl
    rotate_left
    · simp only [Act.put, List.setIfInBounds_toArray, List.set_cons_zero, List.set_cons_succ, i64_w, i32_w]
      rfl
    refine take_ (i := 3) (N := some 16) (v := ?_) (a' := ?_) #[true, true, true, true, true, false, true, false, false] rfl rfl (by kernel_rfl) (fun _ _ _ h => h) (Or.inl ⟨by rfl, ?_⟩) hHeld ?_ ?_
    rotate_left
    · rintro w' ⟨s0, s1, s2⟩
      go_simp
      with_reducible rfl
    rotate_left
    · simp only [Act.put, List.setIfInBounds_toArray, List.set_cons_zero, List.set_cons_succ, i64_w, i32_w]
      rfl
    refine pure_ (i := 7) (N := some 6) (v := ?_) (a' := ?_) #[true, true, true, true, true, false, true, true, false] rfl rfl (by kernel_rfl) (fun _ _ _ h => h) (Or.inl ⟨by rfl, ?_⟩) ?_ ?_
    rotate_left
    · intro w'
      go_simp
      with_reducible rfl
    rotate_left
    · simp only [Act.put, List.setIfInBounds_toArray, List.set_cons_zero, List.set_cons_succ, i64_w, i32_w]
      rfl
    refine take_ (i := 5) (N := some 18) (v := ?_) (a' := ?_) #[true, true, true, true, true, true, true, true, false] rfl rfl (by kernel_rfl) (fun _ _ _ h => h) (Or.inl ⟨by rfl, ?_⟩) hHeld ?_ ?_
    rotate_left
    · rintro w' ⟨s0, s1, s2⟩
      go_simp
      with_reducible rfl
    rotate_left
    · simp only [Act.put, List.setIfInBounds_toArray, List.set_cons_zero, List.set_cons_succ, i64_w, i32_w]
      rfl
    refine pure_ (i := 8) (N := some 7) (v := ?_) (a' := ?_) #[true, true, true, true, true, true, true, true, true] rfl rfl (by kernel_rfl) (fun _ _ _ h => h) (Or.inl ⟨by rfl, ?_⟩) ?_ ?_
    rotate_left
    · intro w'
      go_simp
      with_reducible rfl
    rotate_left
    · simp only [Act.put, List.setIfInBounds_toArray, List.set_cons_zero, List.set_cons_succ, i64_w, i32_w]
      rfl
    refine done_ (by kernel_rfl) ?_
    clear hHeld
    go_wp2_with (first | ((with_reducible refine gate_callee (f := 8) rfl ?_); refine goesL_ (some 19) rfl rfl Try.func8 (by kernel_rfl) rfl #[] rfl (by (try simp only [List.map_toArray, List.map_cons, List.map_nil]); first | done | rfl) ?_; refine (chapbooklaw04_awake.calls 8 true _ (awake_ge (Nat.le_refl _))).mono ?_; rintro e_ w4 ⟨rfl, hb_⟩; refine ⟨_, rfl, ?_⟩; have o_ := O3.out.below hb_; have k_ := KeepS.of_below (N := N) hb_; have O4 : Aside0 (Own N w4 [cells gi #[.int .i64 a0_0, .int .i64 a0_1, .int .i64 a0_2] 39, cells gs #[.string a1_0, .string a1_1, .string a1_2] 40]) := ⟨o_⟩; have K4 : Aside0 (KeepS N w w4) := ⟨K3.out.trans k_⟩; clear a0a a0b a0c b0 a1a a1b a1c b1 O3 K3; obtain ⟨a0a, a0b, a0c, b0⟩ := blk3_ (O4.out.blk (i := 0) rfl); obtain ⟨a1a, a1b, a1c, b1⟩ := blk3_ (O4.out.blk (i := 1) rfl); clear o_ k_ hb_) | ((with_reducible refine gate_callee (f := 8) rfl ?_); refine goesL_ (some 39) rfl rfl Try.func8 (by kernel_rfl) rfl #[] rfl (by (try simp only [List.map_toArray, List.map_cons, List.map_nil]); first | done | rfl) ?_; refine (chapbooklaw04_awake.calls 8 true _ (awake_ge (Nat.le_refl _))).mono ?_; rintro e_ w5 ⟨rfl, hb_⟩; refine ⟨_, rfl, ?_⟩; have o_ := O4.out.below hb_; have k_ := KeepS.of_below (N := N) hb_; have O5 : Aside0 (Own N w5 [cells gi #[.int .i64 a0_0, .int .i64 a0_1, .int .i64 a0_2] 39, cells gs #[.string a1_0, .string a1_1, .string a1_2] 40]) := ⟨o_⟩; have K5 : Aside0 (KeepS N w w5) := ⟨K4.out.trans k_⟩; clear a0a a0b a0c b0 a1a a1b a1c b1 O4 K4; obtain ⟨a0a, a0b, a0c, b0⟩ := blk3_ (O5.out.blk (i := 0) rfl); obtain ⟨a1a, a1b, a1c, b1⟩ := blk3_ (O5.out.blk (i := 1) rfl); clear o_ k_ hb_))
    go_ret
    exact ⟨rfl, K5.out.below (Nat.le_refl _) (fun k hk => by rw [HN.out]; exact hk)⟩
  by_cases hb1 : 300 < a1_1.size
  · have d0 : decide ((a1_0.size : Int) > 300) = false := decide_eq_false (by omega)
    have e0 : decide (300 < (a1_0.size : Int)) = false := decide_eq_false (by omega)
    have d1 : decide ((a1_1.size : Int) > 300) = true := decide_eq_true (by omega)
    have e1 : decide (300 < (a1_1.size : Int)) = true := decide_eq_true (by omega)
    go_enter Try.func7, Try.ntmps7
    go_wp2_with (first | ((with_reducible refine gate_dst (N := 2) rfl ?_); refine own_box rfl (D := 2) rfl (cs := #[.int .i64 a0_0, .int .i64 a0_1, .int .i64 a0_2]) (t := 39) ?hr O0.out ?_; (case hr => first | (go_simp; done) | (go_simp; rfl)); intro gi w1 o_ k_; have O1 : Aside0 (Own N w1 [cells gi #[.int .i64 a0_0, .int .i64 a0_1, .int .i64 a0_2] 39]) := ⟨o_⟩; have K1 : Aside0 (KeepS N w w1) := ⟨K0.out.trans k_⟩; clear O0 K0; obtain ⟨a0a, a0b, a0c, b0⟩ := blk3_ (O1.out.blk (i := 0) rfl); clear o_ k_) | ((with_reducible refine gate_dst (N := 3) rfl ?_); refine own_box rfl (D := 3) rfl (cs := #[.string a1_0, .string a1_1, .string a1_2]) (t := 40) ?hr O1.out ?_; (case hr => first | (go_simp; done) | (go_simp; rfl)); intro gs w2 o_ k_; have O2 : Aside0 (Own N w2 [cells gi #[.int .i64 a0_0, .int .i64 a0_1, .int .i64 a0_2] 39, cells gs #[.string a1_0, .string a1_1, .string a1_2] 40]) := ⟨o_⟩; have K2 : Aside0 (KeepS N w w2) := ⟨K1.out.trans k_⟩; clear a0a a0b a0c b0 O1 K1; obtain ⟨a0a, a0b, a0c, b0⟩ := blk3_ (O2.out.blk (i := 0) rfl); obtain ⟨a1a, a1b, a1c, b1⟩ := blk3_ (O2.out.blk (i := 1) rfl); clear o_ k_))
    refine start_ (n := 9) (S := fun w' => w'.cell? ⟨gi, 0, none⟩ = some (.int .i64 a0_0) ∧ w'.cell? ⟨gi, 1, none⟩ = some (.int .i64 a0_1) ∧ w'.cell? ⟨gi, 2, none⟩ = some (.int .i64 a0_2)) (ds := []) #[false, false, false, false, false, false, false, false, false] (by kernel_rfl) rfl rfl ⟨((blk_cell (O2.out.blk (i := 0) rfl) 0).trans rfl), ((blk_cell (O2.out.blk (i := 0) rfl) 1).trans rfl), ((blk_cell (O2.out.blk (i := 0) rfl) 2).trans rfl)⟩ (fun hHeld => ?_)
    obtain ⟨w3, hw_⟩ : ∃ W, W = w2.drew := ⟨_, rfl⟩
    have o_ := O2.out.drew
    have k_ : KeepS N w2 w2.drew := KeepS.drew
    rw [← hw_] at o_ k_ hHeld ⊢
    clear hw_
    have O3 : Aside0 (Own N w3 [cells gi #[.int .i64 a0_0, .int .i64 a0_1, .int .i64 a0_2] 39, cells gs #[.string a1_0, .string a1_1, .string a1_2] 40]) := ⟨o_⟩
    have K3 : Aside0 (KeepS N w w3) := ⟨K2.out.trans k_⟩
    clear a0a a0b a0c b0 a1a a1b a1c b1 O2 K2
    obtain ⟨a0a, a0b, a0c, b0⟩ := blk3_ (O3.out.blk (i := 0) rfl)
    obtain ⟨a1a, a1b, a1c, b1⟩ := blk3_ (O3.out.blk (i := 1) rfl)
    clear o_ k_
    refine pure_ (i := 0) (N := some 13) (v := ?_) (a' := ?_) #[true, false, false, false, false, false, false, false, false] rfl rfl (by kernel_rfl) (fun _ _ _ h => h) (Or.inl ⟨by rfl, ?_⟩) ?_ ?_
    rotate_left
    · intro w'
      go_simp
      with_reducible rfl
    rotate_left
    · simp only [Act.put, List.setIfInBounds_toArray, List.set_cons_zero, List.set_cons_succ, i64_w, i32_w]
      rfl
    refine pure_ (i := 2) (N := some 15) (v := ?_) (a' := ?_) #[true, false, true, false, false, false, false, false, false] rfl rfl (by kernel_rfl) (fun _ _ _ h => h) (Or.inl ⟨by rfl, ?_⟩) ?_ ?_
    rotate_left
    · intro w'
      go_simp
      with_reducible rfl
    rotate_left
    · simp only [Act.put, List.setIfInBounds_toArray, List.set_cons_zero, List.set_cons_succ, i64_w, i32_w]
      rfl
    refine pure_ (i := 4) (N := some 17) (v := ?_) (a' := ?_) #[true, false, true, false, true, false, false, false, false] rfl rfl (by kernel_rfl) (fun _ _ _ h => h) (Or.inl ⟨by rfl, ?_⟩) ?_ ?_
    rotate_left
    · intro w'
      go_simp
      with_reducible rfl
    rotate_left
    · simp only [Act.put, List.setIfInBounds_toArray, List.set_cons_zero, List.set_cons_succ, i64_w, i32_w]
      rfl
    refine take_ (i := 1) (N := some 14) (v := ?_) (a' := ?_) #[true, true, true, false, true, false, false, false, false] rfl rfl (by kernel_rfl) (fun _ _ _ h => h) (Or.inl ⟨by rfl, ?_⟩) hHeld ?_ ?_
    rotate_left
    · rintro w' ⟨s0, s1, s2⟩
      go_simp
      with_reducible rfl
    rotate_left
    · simp only [Act.put, List.setIfInBounds_toArray, List.set_cons_zero, List.set_cons_succ, i64_w, i32_w]
      rfl
    refine pure_ (i := 6) (N := some 5) (v := ?_) (a' := ?_) #[true, true, true, false, true, false, true, false, false] rfl rfl (by kernel_rfl) (fun _ _ _ h => h) (Or.inl ⟨by rfl, ?_⟩) ?_ ?_
    rotate_left
    · intro w'
      go_simp
      with_reducible rfl
    rotate_left
    · simp only [Act.put, List.setIfInBounds_toArray, List.set_cons_zero, List.set_cons_succ, i64_w, i32_w]
      rfl
    refine take_ (i := 3) (N := some 16) (v := ?_) (a' := ?_) #[true, true, true, true, true, false, true, false, false] rfl rfl (by kernel_rfl) (fun _ _ _ h => h) (Or.inl ⟨by rfl, ?_⟩) hHeld ?_ ?_
    rotate_left
    · rintro w' ⟨s0, s1, s2⟩
      go_simp
      with_reducible rfl
    rotate_left
    · simp only [Act.put, List.setIfInBounds_toArray, List.set_cons_zero, List.set_cons_succ, i64_w, i32_w]
      rfl
    refine pure_ (i := 7) (N := some 6) (v := ?_) (a' := ?_) #[true, true, true, true, true, false, true, true, false] rfl rfl (by kernel_rfl) (fun _ _ _ h => h) (Or.inl ⟨by rfl, ?_⟩) ?_ ?_
    rotate_left
    · intro w'
      go_simp
      with_reducible rfl
    rotate_left
    · simp only [Act.put, List.setIfInBounds_toArray, List.set_cons_zero, List.set_cons_succ, i64_w, i32_w]
      rfl
    refine take_ (i := 5) (N := some 18) (v := ?_) (a' := ?_) #[true, true, true, true, true, true, true, true, false] rfl rfl (by kernel_rfl) (fun _ _ _ h => h) (Or.inl ⟨by rfl, ?_⟩) hHeld ?_ ?_
    rotate_left
    · rintro w' ⟨s0, s1, s2⟩
      go_simp
      with_reducible rfl
    rotate_left
    · simp only [Act.put, List.setIfInBounds_toArray, List.set_cons_zero, List.set_cons_succ, i64_w, i32_w]
      rfl
    refine pure_ (i := 8) (N := some 7) (v := ?_) (a' := ?_) #[true, true, true, true, true, true, true, true, true] rfl rfl (by kernel_rfl) (fun _ _ _ h => h) (Or.inl ⟨by rfl, ?_⟩) ?_ ?_
    rotate_left
    · intro w'
      go_simp
      with_reducible rfl
    rotate_left
    · simp only [Act.put, List.setIfInBounds_toArray, List.set_cons_zero, List.set_cons_succ, i64_w, i32_w]
      rfl
    refine done_ (by kernel_rfl) ?_
    clear hHeld
    go_wp2_with (first | ((with_reducible refine gate_callee (f := 8) rfl ?_); refine goesL_ (some 19) rfl rfl Try.func8 (by kernel_rfl) rfl #[] rfl (by (try simp only [List.map_toArray, List.map_cons, List.map_nil]); first | done | rfl) ?_; refine (chapbooklaw04_awake.calls 8 true _ (awake_ge (Nat.le_refl _))).mono ?_; rintro e_ w4 ⟨rfl, hb_⟩; refine ⟨_, rfl, ?_⟩; have o_ := O3.out.below hb_; have k_ := KeepS.of_below (N := N) hb_; have O4 : Aside0 (Own N w4 [cells gi #[.int .i64 a0_0, .int .i64 a0_1, .int .i64 a0_2] 39, cells gs #[.string a1_0, .string a1_1, .string a1_2] 40]) := ⟨o_⟩; have K4 : Aside0 (KeepS N w w4) := ⟨K3.out.trans k_⟩; clear a0a a0b a0c b0 a1a a1b a1c b1 O3 K3; obtain ⟨a0a, a0b, a0c, b0⟩ := blk3_ (O4.out.blk (i := 0) rfl); obtain ⟨a1a, a1b, a1c, b1⟩ := blk3_ (O4.out.blk (i := 1) rfl); clear o_ k_ hb_) | ((with_reducible refine gate_callee (f := 8) rfl ?_); refine goesL_ (some 39) rfl rfl Try.func8 (by kernel_rfl) rfl #[] rfl (by (try simp only [List.map_toArray, List.map_cons, List.map_nil]); first | done | rfl) ?_; refine (chapbooklaw04_awake.calls 8 true _ (awake_ge (Nat.le_refl _))).mono ?_; rintro e_ w5 ⟨rfl, hb_⟩; refine ⟨_, rfl, ?_⟩; have o_ := O4.out.below hb_; have k_ := KeepS.of_below (N := N) hb_; have O5 : Aside0 (Own N w5 [cells gi #[.int .i64 a0_0, .int .i64 a0_1, .int .i64 a0_2] 39, cells gs #[.string a1_0, .string a1_1, .string a1_2] 40]) := ⟨o_⟩; have K5 : Aside0 (KeepS N w w5) := ⟨K4.out.trans k_⟩; clear a0a a0b a0c b0 a1a a1b a1c b1 O4 K4; obtain ⟨a0a, a0b, a0c, b0⟩ := blk3_ (O5.out.blk (i := 0) rfl); obtain ⟨a1a, a1b, a1c, b1⟩ := blk3_ (O5.out.blk (i := 1) rfl); clear o_ k_ hb_))
    go_ret
    exact ⟨rfl, K5.out.below (Nat.le_refl _) (fun k hk => by rw [HN.out]; exact hk)⟩
  by_cases hb2 : 300 < a1_2.size
  · have d0 : decide ((a1_0.size : Int) > 300) = false := decide_eq_false (by omega)
    have e0 : decide (300 < (a1_0.size : Int)) = false := decide_eq_false (by omega)
    have d1 : decide ((a1_1.size : Int) > 300) = false := decide_eq_false (by omega)
    have e1 : decide (300 < (a1_1.size : Int)) = false := decide_eq_false (by omega)
    have d2 : decide ((a1_2.size : Int) > 300) = true := decide_eq_true (by omega)
    have e2 : decide (300 < (a1_2.size : Int)) = true := decide_eq_true (by omega)
    go_enter Try.func7, Try.ntmps7
    go_wp2_with (first | ((with_reducible refine gate_dst (N := 2) rfl ?_); refine own_box rfl (D := 2) rfl (cs := #[.int .i64 a0_0, .int .i64 a0_1, .int .i64 a0_2]) (t := 39) ?hr O0.out ?_; (case hr => first | (go_simp; done) | (go_simp; rfl)); intro gi w1 o_ k_; have O1 : Aside0 (Own N w1 [cells gi #[.int .i64 a0_0, .int .i64 a0_1, .int .i64 a0_2] 39]) := ⟨o_⟩; have K1 : Aside0 (KeepS N w w1) := ⟨K0.out.trans k_⟩; clear O0 K0; obtain ⟨a0a, a0b, a0c, b0⟩ := blk3_ (O1.out.blk (i := 0) rfl); clear o_ k_) | ((with_reducible refine gate_dst (N := 3) rfl ?_); refine own_box rfl (D := 3) rfl (cs := #[.string a1_0, .string a1_1, .string a1_2]) (t := 40) ?hr O1.out ?_; (case hr => first | (go_simp; done) | (go_simp; rfl)); intro gs w2 o_ k_; have O2 : Aside0 (Own N w2 [cells gi #[.int .i64 a0_0, .int .i64 a0_1, .int .i64 a0_2] 39, cells gs #[.string a1_0, .string a1_1, .string a1_2] 40]) := ⟨o_⟩; have K2 : Aside0 (KeepS N w w2) := ⟨K1.out.trans k_⟩; clear a0a a0b a0c b0 O1 K1; obtain ⟨a0a, a0b, a0c, b0⟩ := blk3_ (O2.out.blk (i := 0) rfl); obtain ⟨a1a, a1b, a1c, b1⟩ := blk3_ (O2.out.blk (i := 1) rfl); clear o_ k_))
    refine start_ (n := 9) (S := fun w' => w'.cell? ⟨gi, 0, none⟩ = some (.int .i64 a0_0) ∧ w'.cell? ⟨gi, 1, none⟩ = some (.int .i64 a0_1) ∧ w'.cell? ⟨gi, 2, none⟩ = some (.int .i64 a0_2)) (ds := []) #[false, false, false, false, false, false, false, false, false] (by kernel_rfl) rfl rfl ⟨((blk_cell (O2.out.blk (i := 0) rfl) 0).trans rfl), ((blk_cell (O2.out.blk (i := 0) rfl) 1).trans rfl), ((blk_cell (O2.out.blk (i := 0) rfl) 2).trans rfl)⟩ (fun hHeld => ?_)
    obtain ⟨w3, hw_⟩ : ∃ W, W = w2.drew := ⟨_, rfl⟩
    have o_ := O2.out.drew
    have k_ : KeepS N w2 w2.drew := KeepS.drew
    rw [← hw_] at o_ k_ hHeld ⊢
    clear hw_
    have O3 : Aside0 (Own N w3 [cells gi #[.int .i64 a0_0, .int .i64 a0_1, .int .i64 a0_2] 39, cells gs #[.string a1_0, .string a1_1, .string a1_2] 40]) := ⟨o_⟩
    have K3 : Aside0 (KeepS N w w3) := ⟨K2.out.trans k_⟩
    clear a0a a0b a0c b0 a1a a1b a1c b1 O2 K2
    obtain ⟨a0a, a0b, a0c, b0⟩ := blk3_ (O3.out.blk (i := 0) rfl)
    obtain ⟨a1a, a1b, a1c, b1⟩ := blk3_ (O3.out.blk (i := 1) rfl)
    clear o_ k_
    refine pure_ (i := 0) (N := some 13) (v := ?_) (a' := ?_) #[true, false, false, false, false, false, false, false, false] rfl rfl (by kernel_rfl) (fun _ _ _ h => h) (Or.inl ⟨by rfl, ?_⟩) ?_ ?_
    rotate_left
    · intro w'
      go_simp
      with_reducible rfl
    rotate_left
    · simp only [Act.put, List.setIfInBounds_toArray, List.set_cons_zero, List.set_cons_succ, i64_w, i32_w]
      rfl
    refine pure_ (i := 2) (N := some 15) (v := ?_) (a' := ?_) #[true, false, true, false, false, false, false, false, false] rfl rfl (by kernel_rfl) (fun _ _ _ h => h) (Or.inl ⟨by rfl, ?_⟩) ?_ ?_
    rotate_left
    · intro w'
      go_simp
      with_reducible rfl
    rotate_left
    · simp only [Act.put, List.setIfInBounds_toArray, List.set_cons_zero, List.set_cons_succ, i64_w, i32_w]
      rfl
    refine pure_ (i := 4) (N := some 17) (v := ?_) (a' := ?_) #[true, false, true, false, true, false, false, false, false] rfl rfl (by kernel_rfl) (fun _ _ _ h => h) (Or.inl ⟨by rfl, ?_⟩) ?_ ?_
    rotate_left
    · intro w'
      go_simp
      with_reducible rfl
    rotate_left
    · simp only [Act.put, List.setIfInBounds_toArray, List.set_cons_zero, List.set_cons_succ, i64_w, i32_w]
      rfl
    refine take_ (i := 1) (N := some 14) (v := ?_) (a' := ?_) #[true, true, true, false, true, false, false, false, false] rfl rfl (by kernel_rfl) (fun _ _ _ h => h) (Or.inl ⟨by rfl, ?_⟩) hHeld ?_ ?_
    rotate_left
    · rintro w' ⟨s0, s1, s2⟩
      go_simp
      with_reducible rfl
    rotate_left
    · simp only [Act.put, List.setIfInBounds_toArray, List.set_cons_zero, List.set_cons_succ, i64_w, i32_w]
      rfl
    refine pure_ (i := 6) (N := some 5) (v := ?_) (a' := ?_) #[true, true, true, false, true, false, true, false, false] rfl rfl (by kernel_rfl) (fun _ _ _ h => h) (Or.inl ⟨by rfl, ?_⟩) ?_ ?_
    rotate_left
    · intro w'
      go_simp
      with_reducible rfl
    rotate_left
    · simp only [Act.put, List.setIfInBounds_toArray, List.set_cons_zero, List.set_cons_succ, i64_w, i32_w]
      rfl
    refine take_ (i := 3) (N := some 16) (v := ?_) (a' := ?_) #[true, true, true, true, true, false, true, false, false] rfl rfl (by kernel_rfl) (fun _ _ _ h => h) (Or.inl ⟨by rfl, ?_⟩) hHeld ?_ ?_
    rotate_left
    · rintro w' ⟨s0, s1, s2⟩
      go_simp
      with_reducible rfl
    rotate_left
    · simp only [Act.put, List.setIfInBounds_toArray, List.set_cons_zero, List.set_cons_succ, i64_w, i32_w]
      rfl
    refine pure_ (i := 7) (N := some 6) (v := ?_) (a' := ?_) #[true, true, true, true, true, false, true, true, false] rfl rfl (by kernel_rfl) (fun _ _ _ h => h) (Or.inl ⟨by rfl, ?_⟩) ?_ ?_
    rotate_left
    · intro w'
      go_simp
      with_reducible rfl
    rotate_left
    · simp only [Act.put, List.setIfInBounds_toArray, List.set_cons_zero, List.set_cons_succ, i64_w, i32_w]
      rfl
    refine take_ (i := 5) (N := some 18) (v := ?_) (a' := ?_) #[true, true, true, true, true, true, true, true, false] rfl rfl (by kernel_rfl) (fun _ _ _ h => h) (Or.inl ⟨by rfl, ?_⟩) hHeld ?_ ?_
    rotate_left
    · rintro w' ⟨s0, s1, s2⟩
      go_simp
      with_reducible rfl
    rotate_left
    · simp only [Act.put, List.setIfInBounds_toArray, List.set_cons_zero, List.set_cons_succ, i64_w, i32_w]
      rfl
    refine pure_ (i := 8) (N := some 7) (v := ?_) (a' := ?_) #[true, true, true, true, true, true, true, true, true] rfl rfl (by kernel_rfl) (fun _ _ _ h => h) (Or.inl ⟨by rfl, ?_⟩) ?_ ?_
    rotate_left
    · intro w'
      go_simp
      with_reducible rfl
    rotate_left
    · simp only [Act.put, List.setIfInBounds_toArray, List.set_cons_zero, List.set_cons_succ, i64_w, i32_w]
      rfl
    refine done_ (by kernel_rfl) ?_
    clear hHeld
    go_wp2_with (first | ((with_reducible refine gate_callee (f := 8) rfl ?_); refine goesL_ (some 19) rfl rfl Try.func8 (by kernel_rfl) rfl #[] rfl (by (try simp only [List.map_toArray, List.map_cons, List.map_nil]); first | done | rfl) ?_; refine (chapbooklaw04_awake.calls 8 true _ (awake_ge (Nat.le_refl _))).mono ?_; rintro e_ w4 ⟨rfl, hb_⟩; refine ⟨_, rfl, ?_⟩; have o_ := O3.out.below hb_; have k_ := KeepS.of_below (N := N) hb_; have O4 : Aside0 (Own N w4 [cells gi #[.int .i64 a0_0, .int .i64 a0_1, .int .i64 a0_2] 39, cells gs #[.string a1_0, .string a1_1, .string a1_2] 40]) := ⟨o_⟩; have K4 : Aside0 (KeepS N w w4) := ⟨K3.out.trans k_⟩; clear a0a a0b a0c b0 a1a a1b a1c b1 O3 K3; obtain ⟨a0a, a0b, a0c, b0⟩ := blk3_ (O4.out.blk (i := 0) rfl); obtain ⟨a1a, a1b, a1c, b1⟩ := blk3_ (O4.out.blk (i := 1) rfl); clear o_ k_ hb_) | ((with_reducible refine gate_callee (f := 8) rfl ?_); refine goesL_ (some 39) rfl rfl Try.func8 (by kernel_rfl) rfl #[] rfl (by (try simp only [List.map_toArray, List.map_cons, List.map_nil]); first | done | rfl) ?_; refine (chapbooklaw04_awake.calls 8 true _ (awake_ge (Nat.le_refl _))).mono ?_; rintro e_ w5 ⟨rfl, hb_⟩; refine ⟨_, rfl, ?_⟩; have o_ := O4.out.below hb_; have k_ := KeepS.of_below (N := N) hb_; have O5 : Aside0 (Own N w5 [cells gi #[.int .i64 a0_0, .int .i64 a0_1, .int .i64 a0_2] 39, cells gs #[.string a1_0, .string a1_1, .string a1_2] 40]) := ⟨o_⟩; have K5 : Aside0 (KeepS N w w5) := ⟨K4.out.trans k_⟩; clear a0a a0b a0c b0 a1a a1b a1c b1 O4 K4; obtain ⟨a0a, a0b, a0c, b0⟩ := blk3_ (O5.out.blk (i := 0) rfl); obtain ⟨a1a, a1b, a1c, b1⟩ := blk3_ (O5.out.blk (i := 1) rfl); clear o_ k_ hb_))
    go_ret
    exact ⟨rfl, K5.out.below (Nat.le_refl _) (fun k hk => by rw [HN.out]; exact hk)⟩
  have d0 : decide ((a1_0.size : Int) > 300) = false := decide_eq_false (by omega)
  have e0 : decide (300 < (a1_0.size : Int)) = false := decide_eq_false (by omega)
  have HS0 : Aside0 (a1_0.size ≤ 300) := ⟨by omega⟩
  have d1 : decide ((a1_1.size : Int) > 300) = false := decide_eq_false (by omega)
  have e1 : decide (300 < (a1_1.size : Int)) = false := decide_eq_false (by omega)
  have HS1 : Aside0 (a1_1.size ≤ 300) := ⟨by omega⟩
  have d2 : decide ((a1_2.size : Int) > 300) = false := decide_eq_false (by omega)
  have e2 : decide (300 < (a1_2.size : Int)) = false := decide_eq_false (by omega)
  have HS2 : Aside0 (a1_2.size ≤ 300) := ⟨by omega⟩
  have hz : (a1_1.size + a1_2.size ≤ 9223372036854775807) = True := eq_true (by omega)
  have hz2 : (9223372036854775807 < a1_1.size + a1_2.size) = False := eq_false (by omega)
  go_enter Try.func7, Try.ntmps7
  go_wp2_with (first | ((with_reducible refine gate_dst (N := 2) rfl ?_); refine own_box rfl (D := 2) rfl (cs := #[.int .i64 a0_0, .int .i64 a0_1, .int .i64 a0_2]) (t := 39) ?hr O0.out ?_; (case hr => first | (go_simp; done) | (go_simp; rfl)); intro gi w1 o_ k_; have O1 : Aside0 (Own N w1 [cells gi #[.int .i64 a0_0, .int .i64 a0_1, .int .i64 a0_2] 39]) := ⟨o_⟩; have K1 : Aside0 (KeepS N w w1) := ⟨K0.out.trans k_⟩; clear O0 K0; obtain ⟨a0a, a0b, a0c, b0⟩ := blk3_ (O1.out.blk (i := 0) rfl); clear o_ k_) | ((with_reducible refine gate_dst (N := 3) rfl ?_); refine own_box rfl (D := 3) rfl (cs := #[.string a1_0, .string a1_1, .string a1_2]) (t := 40) ?hr O1.out ?_; (case hr => first | (go_simp; done) | (go_simp; rfl)); intro gs w2 o_ k_; have O2 : Aside0 (Own N w2 [cells gi #[.int .i64 a0_0, .int .i64 a0_1, .int .i64 a0_2] 39, cells gs #[.string a1_0, .string a1_1, .string a1_2] 40]) := ⟨o_⟩; have K2 : Aside0 (KeepS N w w2) := ⟨K1.out.trans k_⟩; clear a0a a0b a0c b0 O1 K1; obtain ⟨a0a, a0b, a0c, b0⟩ := blk3_ (O2.out.blk (i := 0) rfl); obtain ⟨a1a, a1b, a1c, b1⟩ := blk3_ (O2.out.blk (i := 1) rfl); clear o_ k_))
  refine start_ (n := 9) (S := fun w' => w'.cell? ⟨gi, 0, none⟩ = some (.int .i64 a0_0) ∧ w'.cell? ⟨gi, 1, none⟩ = some (.int .i64 a0_1) ∧ w'.cell? ⟨gi, 2, none⟩ = some (.int .i64 a0_2)) (ds := []) #[false, false, false, false, false, false, false, false, false] (by kernel_rfl) rfl rfl ⟨((blk_cell (O2.out.blk (i := 0) rfl) 0).trans rfl), ((blk_cell (O2.out.blk (i := 0) rfl) 1).trans rfl), ((blk_cell (O2.out.blk (i := 0) rfl) 2).trans rfl)⟩ (fun hHeld => ?_)
  obtain ⟨w3, hw_⟩ : ∃ W, W = w2.drew := ⟨_, rfl⟩
  have o_ := O2.out.drew
  have k_ : KeepS N w2 w2.drew := KeepS.drew
  rw [← hw_] at o_ k_ hHeld ⊢
  clear hw_
  have O3 : Aside0 (Own N w3 [cells gi #[.int .i64 a0_0, .int .i64 a0_1, .int .i64 a0_2] 39, cells gs #[.string a1_0, .string a1_1, .string a1_2] 40]) := ⟨o_⟩
  have K3 : Aside0 (KeepS N w w3) := ⟨K2.out.trans k_⟩
  clear a0a a0b a0c b0 a1a a1b a1c b1 O2 K2
  obtain ⟨a0a, a0b, a0c, b0⟩ := blk3_ (O3.out.blk (i := 0) rfl)
  obtain ⟨a1a, a1b, a1c, b1⟩ := blk3_ (O3.out.blk (i := 1) rfl)
  clear o_ k_
  refine pure_ (i := 0) (N := some 13) (v := ?_) (a' := ?_) #[true, false, false, false, false, false, false, false, false] rfl rfl (by kernel_rfl) (fun _ _ _ h => h) (Or.inl ⟨by rfl, ?_⟩) ?_ ?_
  rotate_left
  · intro w'
    go_simp
    with_reducible rfl
  rotate_left
  · simp only [Act.put, List.setIfInBounds_toArray, List.set_cons_zero, List.set_cons_succ, i64_w, i32_w]
    rfl
  refine pure_ (i := 2) (N := some 15) (v := ?_) (a' := ?_) #[true, false, true, false, false, false, false, false, false] rfl rfl (by kernel_rfl) (fun _ _ _ h => h) (Or.inl ⟨by rfl, ?_⟩) ?_ ?_
  rotate_left
  · intro w'
    go_simp
    with_reducible rfl
  rotate_left
  · simp only [Act.put, List.setIfInBounds_toArray, List.set_cons_zero, List.set_cons_succ, i64_w, i32_w]
    rfl
  refine pure_ (i := 4) (N := some 17) (v := ?_) (a' := ?_) #[true, false, true, false, true, false, false, false, false] rfl rfl (by kernel_rfl) (fun _ _ _ h => h) (Or.inl ⟨by rfl, ?_⟩) ?_ ?_
  rotate_left
  · intro w'
    go_simp
    with_reducible rfl
  rotate_left
  · simp only [Act.put, List.setIfInBounds_toArray, List.set_cons_zero, List.set_cons_succ, i64_w, i32_w]
    rfl
  refine take_ (i := 1) (N := some 14) (v := ?_) (a' := ?_) #[true, true, true, false, true, false, false, false, false] rfl rfl (by kernel_rfl) (fun _ _ _ h => h) (Or.inl ⟨by rfl, ?_⟩) hHeld ?_ ?_
  rotate_left
  · rintro w' ⟨s0, s1, s2⟩
    go_simp
    with_reducible rfl
  rotate_left
  · simp only [Act.put, List.setIfInBounds_toArray, List.set_cons_zero, List.set_cons_succ, i64_w, i32_w]
    rfl
  refine pure_ (i := 6) (N := some 5) (v := ?_) (a' := ?_) #[true, true, true, false, true, false, true, false, false] rfl rfl (by kernel_rfl) (fun _ _ _ h => h) (Or.inl ⟨by rfl, ?_⟩) ?_ ?_
  rotate_left
  · intro w'
    go_simp
    with_reducible rfl
  rotate_left
  · simp only [Act.put, List.setIfInBounds_toArray, List.set_cons_zero, List.set_cons_succ, i64_w, i32_w]
    rfl
  refine take_ (i := 3) (N := some 16) (v := ?_) (a' := ?_) #[true, true, true, true, true, false, true, false, false] rfl rfl (by kernel_rfl) (fun _ _ _ h => h) (Or.inl ⟨by rfl, ?_⟩) hHeld ?_ ?_
  rotate_left
  · rintro w' ⟨s0, s1, s2⟩
    go_simp
    with_reducible rfl
  rotate_left
  · simp only [Act.put, List.setIfInBounds_toArray, List.set_cons_zero, List.set_cons_succ, i64_w, i32_w]
    rfl
  refine pure_ (i := 7) (N := some 6) (v := ?_) (a' := ?_) #[true, true, true, true, true, false, true, true, false] rfl rfl (by kernel_rfl) (fun _ _ _ h => h) (Or.inl ⟨by rfl, ?_⟩) ?_ ?_
  rotate_left
  · intro w'
    go_simp
    with_reducible rfl
  rotate_left
  · simp only [Act.put, List.setIfInBounds_toArray, List.set_cons_zero, List.set_cons_succ, i64_w, i32_w]
    rfl
  refine take_ (i := 5) (N := some 18) (v := ?_) (a' := ?_) #[true, true, true, true, true, true, true, true, false] rfl rfl (by kernel_rfl) (fun _ _ _ h => h) (Or.inl ⟨by rfl, ?_⟩) hHeld ?_ ?_
  rotate_left
  · rintro w' ⟨s0, s1, s2⟩
    go_simp
    with_reducible rfl
  rotate_left
  · simp only [Act.put, List.setIfInBounds_toArray, List.set_cons_zero, List.set_cons_succ, i64_w, i32_w]
    rfl
  refine pure_ (i := 8) (N := some 7) (v := ?_) (a' := ?_) #[true, true, true, true, true, true, true, true, true] rfl rfl (by kernel_rfl) (fun _ _ _ h => h) (Or.inl ⟨by rfl, ?_⟩) ?_ ?_
  rotate_left
  · intro w'
    go_simp
    with_reducible rfl
  rotate_left
  · simp only [Act.put, List.setIfInBounds_toArray, List.set_cons_zero, List.set_cons_succ, i64_w, i32_w]
    rfl
  refine done_ (by kernel_rfl) ?_
  clear hHeld
  go_wp2_with (first | ((with_reducible refine gate_callee (f := 8) rfl ?_); refine goesL_ (some 19) rfl rfl Try.func8 (by kernel_rfl) rfl #[] rfl (by (try simp only [List.map_toArray, List.map_cons, List.map_nil]); first | done | rfl) ?_; refine (chapbooklaw04_awake.calls 8 true _ (awake_ge (Nat.le_refl _))).mono ?_; rintro e_ w4 ⟨rfl, hb_⟩; refine ⟨_, rfl, ?_⟩; have o_ := O3.out.below hb_; have k_ := KeepS.of_below (N := N) hb_; have O4 : Aside0 (Own N w4 [cells gi #[.int .i64 a0_0, .int .i64 a0_1, .int .i64 a0_2] 39, cells gs #[.string a1_0, .string a1_1, .string a1_2] 40]) := ⟨o_⟩; have K4 : Aside0 (KeepS N w w4) := ⟨K3.out.trans k_⟩; clear a0a a0b a0c b0 a1a a1b a1c b1 O3 K3; obtain ⟨a0a, a0b, a0c, b0⟩ := blk3_ (O4.out.blk (i := 0) rfl); obtain ⟨a1a, a1b, a1c, b1⟩ := blk3_ (O4.out.blk (i := 1) rfl); clear o_ k_ hb_) | ((with_reducible refine gate_dst (N := 8) rfl ?_); refine own_box rfl (D := 8) rfl (cs := #[.int .i64 0, .int .i64 0, .string ⟨#[]⟩]) (t := 23) ?hr O4.out ?_; (case hr => first | (go_simp; done) | (go_simp; rfl)); intro gv w5 o_ k_; have O5 : Aside0 (Own N w5 [cells gi #[.int .i64 a0_0, .int .i64 a0_1, .int .i64 a0_2] 39, cells gs #[.string a1_0, .string a1_1, .string a1_2] 40, cells gv #[.int .i64 0, .int .i64 0, .string ⟨#[]⟩] 23]) := ⟨o_⟩; have K5 : Aside0 (KeepS N w w5) := ⟨K4.out.trans k_⟩; clear a0a a0b a0c b0 a1a a1b a1c b1 O4 K4; obtain ⟨a0a, a0b, a0c, b0⟩ := blk3_ (O5.out.blk (i := 0) rfl); obtain ⟨a1a, a1b, a1c, b1⟩ := blk3_ (O5.out.blk (i := 1) rfl); obtain ⟨a2a, a2b, a2c, b2⟩ := blk3_ (O5.out.blk (i := 2) rfl); clear o_ k_) | ((with_reducible refine gate_store (t := 23) (p := 8) rfl ?_); refine own_store rfl rfl rfl (w1 := (World.setCell (World.setCell (World.setCell w5 ⟨gv, 0, none⟩ (.int .i64 1)) ⟨gv, 1, none⟩ (.int .i64 a0_0)) ⟨gv, 2, none⟩ (.string ⟨#[]⟩))) (N := N) (l' := [cells gi #[.int .i64 a0_0, .int .i64 a0_1, .int .i64 a0_2] 39, cells gs #[.string a1_0, .string a1_1, .string a1_2] 40, cells gv #[.int .i64 1, .int .i64 a0_0, .string ⟨#[]⟩] 23]) ?hr ?ho ?hk ?_; (case hr => first | (go_simp; done) | (go_simp; rfl)); (case ho => exact (((O5.out.set (i := 2) rfl 0 (.int .i64 1)).set (i := 2) rfl 1 (.int .i64 a0_0)).set (i := 2) rfl 2 (.string ⟨#[]⟩))); (case hk => exact (((KeepS.setCell (O5.out.far (i := 2) rfl) (.int .i64 1)).trans (KeepS.setCell (O5.out.far (i := 2) rfl) (.int .i64 a0_0))).trans (KeepS.setCell (O5.out.far (i := 2) rfl) (.string ⟨#[]⟩)))); intro w6 o_ k_; have O6 : Aside0 (Own N w6 [cells gi #[.int .i64 a0_0, .int .i64 a0_1, .int .i64 a0_2] 39, cells gs #[.string a1_0, .string a1_1, .string a1_2] 40, cells gv #[.int .i64 1, .int .i64 a0_0, .string ⟨#[]⟩] 23]) := ⟨o_⟩; have K6 : Aside0 (KeepS N w w6) := ⟨K5.out.trans k_⟩; clear a0a a0b a0c b0 a1a a1b a1c b1 a2a a2b a2c b2 O5 K5; obtain ⟨a0a, a0b, a0c, b0⟩ := blk3_ (O6.out.blk (i := 0) rfl); obtain ⟨a1a, a1b, a1c, b1⟩ := blk3_ (O6.out.blk (i := 1) rfl); obtain ⟨a2a, a2b, a2c, b2⟩ := blk3_ (O6.out.blk (i := 2) rfl); clear o_ k_) | ((with_reducible refine gate_dst (N := 9) rfl ?_); refine own_box rfl (D := 9) rfl (cs := #[.string ⟨#[]⟩, .int .i64 0, .int .i64 0, .string ⟨#[]⟩]) (t := 25) ?hr O6.out ?_; (case hr => first | (go_simp; done) | (go_simp; rfl)); intro gx w7 o_ k_; have O7 : Aside0 (Own N w7 [cells gi #[.int .i64 a0_0, .int .i64 a0_1, .int .i64 a0_2] 39, cells gs #[.string a1_0, .string a1_1, .string a1_2] 40, cells gv #[.int .i64 1, .int .i64 a0_0, .string ⟨#[]⟩] 23, cells gx #[.string ⟨#[]⟩, .int .i64 0, .int .i64 0, .string ⟨#[]⟩] 25]) := ⟨o_⟩; have K7 : Aside0 (KeepS N w w7) := ⟨K6.out.trans k_⟩; clear a0a a0b a0c b0 a1a a1b a1c b1 a2a a2b a2c b2 O6 K6; obtain ⟨a0a, a0b, a0c, b0⟩ := blk3_ (O7.out.blk (i := 0) rfl); obtain ⟨a1a, a1b, a1c, b1⟩ := blk3_ (O7.out.blk (i := 1) rfl); obtain ⟨a2a, a2b, a2c, b2⟩ := blk3_ (O7.out.blk (i := 2) rfl); obtain ⟨a3a, a3b, a3c, a3d, b3⟩ := blk4_ (O7.out.blk (i := 3) rfl); clear o_ k_) | ((with_reducible refine gate_dst (N := 10) rfl ?_); refine own_box rfl (D := 10) rfl (cs := #[.string ⟨#[]⟩, .int .i64 0, .int .i64 0, .string ⟨#[]⟩]) (t := 25) ?hr O7.out ?_; (case hr => first | (go_simp; done) | (go_simp; rfl)); intro gy w8 o_ k_; have O8 : Aside0 (Own N w8 [cells gi #[.int .i64 a0_0, .int .i64 a0_1, .int .i64 a0_2] 39, cells gs #[.string a1_0, .string a1_1, .string a1_2] 40, cells gv #[.int .i64 1, .int .i64 a0_0, .string ⟨#[]⟩] 23, cells gx #[.string ⟨#[]⟩, .int .i64 0, .int .i64 0, .string ⟨#[]⟩] 25, cells gy #[.string ⟨#[]⟩, .int .i64 0, .int .i64 0, .string ⟨#[]⟩] 25]) := ⟨o_⟩; have K8 : Aside0 (KeepS N w w8) := ⟨K7.out.trans k_⟩; clear a0a a0b a0c b0 a1a a1b a1c b1 a2a a2b a2c b2 a3a a3b a3c a3d b3 O7 K7; obtain ⟨a0a, a0b, a0c, b0⟩ := blk3_ (O8.out.blk (i := 0) rfl); obtain ⟨a1a, a1b, a1c, b1⟩ := blk3_ (O8.out.blk (i := 1) rfl); obtain ⟨a2a, a2b, a2c, b2⟩ := blk3_ (O8.out.blk (i := 2) rfl); obtain ⟨a3a, a3b, a3c, a3d, b3⟩ := blk4_ (O8.out.blk (i := 3) rfl); obtain ⟨a4a, a4b, a4c, a4d, b4⟩ := blk4_ (O8.out.blk (i := 4) rfl); clear o_ k_) | ((with_reducible refine gate_store (t := 25) (p := 9) rfl ?_); refine own_store rfl rfl rfl (w1 := (World.setCell (World.setCell (World.setCell (World.setCell w8 ⟨gx, 0, none⟩ (.string ⟨#[]⟩)) ⟨gx, 1, none⟩ (.int .i64 3)) ⟨gx, 2, none⟩ (.int .i64 a0_1)) ⟨gx, 3, none⟩ (.string ⟨#[]⟩))) (N := N) (l' := [cells gi #[.int .i64 a0_0, .int .i64 a0_1, .int .i64 a0_2] 39, cells gs #[.string a1_0, .string a1_1, .string a1_2] 40, cells gv #[.int .i64 1, .int .i64 a0_0, .string ⟨#[]⟩] 23, cells gx #[.string ⟨#[]⟩, .int .i64 3, .int .i64 a0_1, .string ⟨#[]⟩] 25, cells gy #[.string ⟨#[]⟩, .int .i64 0, .int .i64 0, .string ⟨#[]⟩] 25]) ?hr ?ho ?hk ?_; (case hr => first | (go_simp; done) | (go_simp; rfl)); (case ho => exact ((((O8.out.set (i := 3) rfl 0 (.string ⟨#[]⟩)).set (i := 3) rfl 1 (.int .i64 3)).set (i := 3) rfl 2 (.int .i64 a0_1)).set (i := 3) rfl 3 (.string ⟨#[]⟩))); (case hk => exact ((((KeepS.setCell (O8.out.far (i := 3) rfl) (.string ⟨#[]⟩)).trans (KeepS.setCell (O8.out.far (i := 3) rfl) (.int .i64 3))).trans (KeepS.setCell (O8.out.far (i := 3) rfl) (.int .i64 a0_1))).trans (KeepS.setCell (O8.out.far (i := 3) rfl) (.string ⟨#[]⟩)))); intro w9 o_ k_; have O9 : Aside0 (Own N w9 [cells gi #[.int .i64 a0_0, .int .i64 a0_1, .int .i64 a0_2] 39, cells gs #[.string a1_0, .string a1_1, .string a1_2] 40, cells gv #[.int .i64 1, .int .i64 a0_0, .string ⟨#[]⟩] 23, cells gx #[.string ⟨#[]⟩, .int .i64 3, .int .i64 a0_1, .string ⟨#[]⟩] 25, cells gy #[.string ⟨#[]⟩, .int .i64 0, .int .i64 0, .string ⟨#[]⟩] 25]) := ⟨o_⟩; have K9 : Aside0 (KeepS N w w9) := ⟨K8.out.trans k_⟩; clear a0a a0b a0c b0 a1a a1b a1c b1 a2a a2b a2c b2 a3a a3b a3c a3d b3 a4a a4b a4c a4d b4 O8 K8; obtain ⟨a0a, a0b, a0c, b0⟩ := blk3_ (O9.out.blk (i := 0) rfl); obtain ⟨a1a, a1b, a1c, b1⟩ := blk3_ (O9.out.blk (i := 1) rfl); obtain ⟨a2a, a2b, a2c, b2⟩ := blk3_ (O9.out.blk (i := 2) rfl); obtain ⟨a3a, a3b, a3c, a3d, b3⟩ := blk4_ (O9.out.blk (i := 3) rfl); obtain ⟨a4a, a4b, a4c, a4d, b4⟩ := blk4_ (O9.out.blk (i := 4) rfl); clear o_ k_) | ((with_reducible refine gate_store (t := 25) (p := 10) rfl ?_); refine own_store rfl rfl rfl (w1 := (World.setCell (World.setCell (World.setCell (World.setCell w9 ⟨gy, 0, none⟩ (.string ⟨#[]⟩)) ⟨gy, 1, none⟩ (.int .i64 3)) ⟨gy, 2, none⟩ (.int .i64 a0_2)) ⟨gy, 3, none⟩ (.string ⟨#[]⟩))) (N := N) (l' := [cells gi #[.int .i64 a0_0, .int .i64 a0_1, .int .i64 a0_2] 39, cells gs #[.string a1_0, .string a1_1, .string a1_2] 40, cells gv #[.int .i64 1, .int .i64 a0_0, .string ⟨#[]⟩] 23, cells gx #[.string ⟨#[]⟩, .int .i64 3, .int .i64 a0_1, .string ⟨#[]⟩] 25, cells gy #[.string ⟨#[]⟩, .int .i64 3, .int .i64 a0_2, .string ⟨#[]⟩] 25]) ?hr ?ho ?hk ?_; (case hr => first | (go_simp; done) | (go_simp; rfl)); (case ho => exact ((((O9.out.set (i := 4) rfl 0 (.string ⟨#[]⟩)).set (i := 4) rfl 1 (.int .i64 3)).set (i := 4) rfl 2 (.int .i64 a0_2)).set (i := 4) rfl 3 (.string ⟨#[]⟩))); (case hk => exact ((((KeepS.setCell (O9.out.far (i := 4) rfl) (.string ⟨#[]⟩)).trans (KeepS.setCell (O9.out.far (i := 4) rfl) (.int .i64 3))).trans (KeepS.setCell (O9.out.far (i := 4) rfl) (.int .i64 a0_2))).trans (KeepS.setCell (O9.out.far (i := 4) rfl) (.string ⟨#[]⟩)))); intro w10 o_ k_; have O10 : Aside0 (Own N w10 [cells gi #[.int .i64 a0_0, .int .i64 a0_1, .int .i64 a0_2] 39, cells gs #[.string a1_0, .string a1_1, .string a1_2] 40, cells gv #[.int .i64 1, .int .i64 a0_0, .string ⟨#[]⟩] 23, cells gx #[.string ⟨#[]⟩, .int .i64 3, .int .i64 a0_1, .string ⟨#[]⟩] 25, cells gy #[.string ⟨#[]⟩, .int .i64 3, .int .i64 a0_2, .string ⟨#[]⟩] 25]) := ⟨o_⟩; have K10 : Aside0 (KeepS N w w10) := ⟨K9.out.trans k_⟩; clear a0a a0b a0c b0 a1a a1b a1c b1 a2a a2b a2c b2 a3a a3b a3c a3d b3 a4a a4b a4c a4d b4 O9 K9; obtain ⟨a0a, a0b, a0c, b0⟩ := blk3_ (O10.out.blk (i := 0) rfl); obtain ⟨a1a, a1b, a1c, b1⟩ := blk3_ (O10.out.blk (i := 1) rfl); obtain ⟨a2a, a2b, a2c, b2⟩ := blk3_ (O10.out.blk (i := 2) rfl); obtain ⟨a3a, a3b, a3c, a3d, b3⟩ := blk4_ (O10.out.blk (i := 3) rfl); obtain ⟨a4a, a4b, a4c, a4d, b4⟩ := blk4_ (O10.out.blk (i := 4) rfl); clear o_ k_) | ((with_reducible refine gate_dst (N := 11) rfl ?_); refine own_box rfl (D := 11) rfl (cs := #[.int .i64 0, .int .i64 0, .string ⟨#[]⟩]) (t := 23) ?hr O10.out ?_; (case hr => first | (go_simp; done) | (go_simp; rfl)); intro gt w11 o_ k_; have O11 : Aside0 (Own N w11 [cells gi #[.int .i64 a0_0, .int .i64 a0_1, .int .i64 a0_2] 39, cells gs #[.string a1_0, .string a1_1, .string a1_2] 40, cells gv #[.int .i64 1, .int .i64 a0_0, .string ⟨#[]⟩] 23, cells gx #[.string ⟨#[]⟩, .int .i64 3, .int .i64 a0_1, .string ⟨#[]⟩] 25, cells gy #[.string ⟨#[]⟩, .int .i64 3, .int .i64 a0_2, .string ⟨#[]⟩] 25, cells gt #[.int .i64 0, .int .i64 0, .string ⟨#[]⟩] 23]) := ⟨o_⟩; have K11 : Aside0 (KeepS N w w11) := ⟨K10.out.trans k_⟩; clear a0a a0b a0c b0 a1a a1b a1c b1 a2a a2b a2c b2 a3a a3b a3c a3d b3 a4a a4b a4c a4d b4 O10 K10; obtain ⟨a0a, a0b, a0c, b0⟩ := blk3_ (O11.out.blk (i := 0) rfl); obtain ⟨a1a, a1b, a1c, b1⟩ := blk3_ (O11.out.blk (i := 1) rfl); obtain ⟨a2a, a2b, a2c, b2⟩ := blk3_ (O11.out.blk (i := 2) rfl); obtain ⟨a3a, a3b, a3c, a3d, b3⟩ := blk4_ (O11.out.blk (i := 3) rfl); obtain ⟨a4a, a4b, a4c, a4d, b4⟩ := blk4_ (O11.out.blk (i := 4) rfl); obtain ⟨a5a, a5b, a5c, b5⟩ := blk3_ (O11.out.blk (i := 5) rfl); clear o_ k_) | ((with_reducible refine gate_store (t := 23) (p := 11) rfl ?_); refine own_store rfl rfl rfl (w1 := (World.setCell (World.setCell (World.setCell w11 ⟨gt, 0, none⟩ (.int .i64 2)) ⟨gt, 1, none⟩ (.int .i64 0)) ⟨gt, 2, none⟩ (.string a1_0))) (N := N) (l' := [cells gi #[.int .i64 a0_0, .int .i64 a0_1, .int .i64 a0_2] 39, cells gs #[.string a1_0, .string a1_1, .string a1_2] 40, cells gv #[.int .i64 1, .int .i64 a0_0, .string ⟨#[]⟩] 23, cells gx #[.string ⟨#[]⟩, .int .i64 3, .int .i64 a0_1, .string ⟨#[]⟩] 25, cells gy #[.string ⟨#[]⟩, .int .i64 3, .int .i64 a0_2, .string ⟨#[]⟩] 25, cells gt #[.int .i64 2, .int .i64 0, .string a1_0] 23]) ?hr ?ho ?hk ?_; (case hr => first | (go_simp; done) | (go_simp; rfl)); (case ho => exact (((O11.out.set (i := 5) rfl 0 (.int .i64 2)).set (i := 5) rfl 1 (.int .i64 0)).set (i := 5) rfl 2 (.string a1_0))); (case hk => exact (((KeepS.setCell (O11.out.far (i := 5) rfl) (.int .i64 2)).trans (KeepS.setCell (O11.out.far (i := 5) rfl) (.int .i64 0))).trans (KeepS.setCell (O11.out.far (i := 5) rfl) (.string a1_0)))); intro w12 o_ k_; have O12 : Aside0 (Own N w12 [cells gi #[.int .i64 a0_0, .int .i64 a0_1, .int .i64 a0_2] 39, cells gs #[.string a1_0, .string a1_1, .string a1_2] 40, cells gv #[.int .i64 1, .int .i64 a0_0, .string ⟨#[]⟩] 23, cells gx #[.string ⟨#[]⟩, .int .i64 3, .int .i64 a0_1, .string ⟨#[]⟩] 25, cells gy #[.string ⟨#[]⟩, .int .i64 3, .int .i64 a0_2, .string ⟨#[]⟩] 25, cells gt #[.int .i64 2, .int .i64 0, .string a1_0] 23]) := ⟨o_⟩; have K12 : Aside0 (KeepS N w w12) := ⟨K11.out.trans k_⟩; clear a0a a0b a0c b0 a1a a1b a1c b1 a2a a2b a2c b2 a3a a3b a3c a3d b3 a4a a4b a4c a4d b4 a5a a5b a5c b5 O11 K11; obtain ⟨a0a, a0b, a0c, b0⟩ := blk3_ (O12.out.blk (i := 0) rfl); obtain ⟨a1a, a1b, a1c, b1⟩ := blk3_ (O12.out.blk (i := 1) rfl); obtain ⟨a2a, a2b, a2c, b2⟩ := blk3_ (O12.out.blk (i := 2) rfl); obtain ⟨a3a, a3b, a3c, a3d, b3⟩ := blk4_ (O12.out.blk (i := 3) rfl); obtain ⟨a4a, a4b, a4c, a4d, b4⟩ := blk4_ (O12.out.blk (i := 4) rfl); obtain ⟨a5a, a5b, a5c, b5⟩ := blk3_ (O12.out.blk (i := 5) rfl); clear o_ k_) | ((with_reducible refine gate_dst (N := 56) rfl ?_); refine own_lit k25 (N := N) (e := 25) (xs := [uS a1_1, uS a1_2]) (inner := [.string ⟨#[]⟩, .int .i64 4, .int .i64 0, .string a1_1, .string ⟨#[]⟩, .int .i64 4, .int .i64 0, .string a1_2]) rfl (D := 56) rfl ?hr ?hp (by show 2 ≤ 9223372036854775807; decide) O12.out ?_; (case hr => first | (go_simp; done) | (go_simp; rfl)); (case hp => exact rep2 _ (uS a1_1) (uS a1_2)); intro B1 d1 w13 o_ k_; have O13 : Aside0 (Own N w13 [cells gi #[.int .i64 a0_0, .int .i64 a0_1, .int .i64 a0_2] 39, cells gs #[.string a1_0, .string a1_1, .string a1_2] 40, cells gv #[.int .i64 1, .int .i64 a0_0, .string ⟨#[]⟩] 23, cells gx #[.string ⟨#[]⟩, .int .i64 3, .int .i64 a0_1, .string ⟨#[]⟩] 25, cells gy #[.string ⟨#[]⟩, .int .i64 3, .int .i64 a0_2, .string ⟨#[]⟩] 25, cells gt #[.int .i64 2, .int .i64 0, .string a1_0] 23, nrow k25 25 (.slice B1 2 d1) ([uS a1_1, uS a1_2])]) := ⟨o_⟩; have K13 : Aside0 (KeepS N w w13) := ⟨K12.out.trans k_⟩; clear a0a a0b a0c b0 a1a a1b a1c b1 a2a a2b a2c b2 a3a a3b a3c a3d b3 a4a a4b a4c a4d b4 a5a a5b a5c b5 O12 K12; obtain ⟨a0a, a0b, a0c, b0⟩ := blk3_ (O13.out.blk (i := 0) rfl); obtain ⟨a1a, a1b, a1c, b1⟩ := blk3_ (O13.out.blk (i := 1) rfl); obtain ⟨a2a, a2b, a2c, b2⟩ := blk3_ (O13.out.blk (i := 2) rfl); obtain ⟨a3a, a3b, a3c, a3d, b3⟩ := blk4_ (O13.out.blk (i := 3) rfl); obtain ⟨a4a, a4b, a4c, a4d, b4⟩ := blk4_ (O13.out.blk (i := 4) rfl); obtain ⟨a5a, a5b, a5c, b5⟩ := blk3_ (O13.out.blk (i := 5) rfl); clear o_ k_) | ((with_reducible refine gate_callee (f := 16) rfl ?_); refine goesL_ (some 57) rfl rfl Try.func16 (by kernel_rfl) rfl #[.agg #[.int .i64 2, .int .i64 0, .string a1_0], .slice B1 2 d1] rfl (by (try simp only [List.map_toArray, List.map_cons, List.map_nil]); first | done | rfl) ?_; refine (value_All.calls 9 2 0 a1_0 _ _ [uS a1_1, uS a1_2] 2 0 (a1_0 ++ a1_1 ++ a1_2) _ (O13.out.nreads (i := 6) rfl).2.2 (O13.out.nreads (i := 6) rfl).2.1 (st_4 a1_0 a1_1 a1_2 HS0.out HS1.out HS2.out)).mono ?_; rintro e_ w14 ⟨rfl, hb_⟩; refine ⟨_, rfl, ?_⟩; have o_ := O13.out.below hb_; have k_ := KeepS.of_below (N := N) hb_; have O14 : Aside0 (Own N w14 [cells gi #[.int .i64 a0_0, .int .i64 a0_1, .int .i64 a0_2] 39, cells gs #[.string a1_0, .string a1_1, .string a1_2] 40, cells gv #[.int .i64 1, .int .i64 a0_0, .string ⟨#[]⟩] 23, cells gx #[.string ⟨#[]⟩, .int .i64 3, .int .i64 a0_1, .string ⟨#[]⟩] 25, cells gy #[.string ⟨#[]⟩, .int .i64 3, .int .i64 a0_2, .string ⟨#[]⟩] 25, cells gt #[.int .i64 2, .int .i64 0, .string a1_0] 23, nrow k25 25 (.slice B1 2 d1) ([uS a1_1, uS a1_2])]) := ⟨o_⟩; have K14 : Aside0 (KeepS N w w14) := ⟨K13.out.trans k_⟩; clear a0a a0b a0c b0 a1a a1b a1c b1 a2a a2b a2c b2 a3a a3b a3c a3d b3 a4a a4b a4c a4d b4 a5a a5b a5c b5 O13 K13; obtain ⟨a0a, a0b, a0c, b0⟩ := blk3_ (O14.out.blk (i := 0) rfl); obtain ⟨a1a, a1b, a1c, b1⟩ := blk3_ (O14.out.blk (i := 1) rfl); obtain ⟨a2a, a2b, a2c, b2⟩ := blk3_ (O14.out.blk (i := 2) rfl); obtain ⟨a3a, a3b, a3c, a3d, b3⟩ := blk4_ (O14.out.blk (i := 3) rfl); obtain ⟨a4a, a4b, a4c, a4d, b4⟩ := blk4_ (O14.out.blk (i := 4) rfl); obtain ⟨a5a, a5b, a5c, b5⟩ := blk3_ (O14.out.blk (i := 5) rfl); clear o_ k_ hb_) | ((with_reducible refine gate_dst (N := 12) rfl ?_); refine own_box rfl (D := 12) rfl (cs := #[.int .i64 0, .int .i64 0, .string ⟨#[]⟩]) (t := 23) ?hr O14.out ?_; (case hr => first | (go_simp; done) | (go_simp; rfl)); intro gc w15 o_ k_; have O15 : Aside0 (Own N w15 [cells gi #[.int .i64 a0_0, .int .i64 a0_1, .int .i64 a0_2] 39, cells gs #[.string a1_0, .string a1_1, .string a1_2] 40, cells gv #[.int .i64 1, .int .i64 a0_0, .string ⟨#[]⟩] 23, cells gx #[.string ⟨#[]⟩, .int .i64 3, .int .i64 a0_1, .string ⟨#[]⟩] 25, cells gy #[.string ⟨#[]⟩, .int .i64 3, .int .i64 a0_2, .string ⟨#[]⟩] 25, cells gt #[.int .i64 2, .int .i64 0, .string a1_0] 23, nrow k25 25 (.slice B1 2 d1) ([uS a1_1, uS a1_2]), cells gc #[.int .i64 0, .int .i64 0, .string ⟨#[]⟩] 23]) := ⟨o_⟩; have K15 : Aside0 (KeepS N w w15) := ⟨K14.out.trans k_⟩; clear a0a a0b a0c b0 a1a a1b a1c b1 a2a a2b a2c b2 a3a a3b a3c a3d b3 a4a a4b a4c a4d b4 a5a a5b a5c b5 O14 K14; obtain ⟨a0a, a0b, a0c, b0⟩ := blk3_ (O15.out.blk (i := 0) rfl); obtain ⟨a1a, a1b, a1c, b1⟩ := blk3_ (O15.out.blk (i := 1) rfl); obtain ⟨a2a, a2b, a2c, b2⟩ := blk3_ (O15.out.blk (i := 2) rfl); obtain ⟨a3a, a3b, a3c, a3d, b3⟩ := blk4_ (O15.out.blk (i := 3) rfl); obtain ⟨a4a, a4b, a4c, a4d, b4⟩ := blk4_ (O15.out.blk (i := 4) rfl); obtain ⟨a5a, a5b, a5c, b5⟩ := blk3_ (O15.out.blk (i := 5) rfl); obtain ⟨a7a, a7b, a7c, b7⟩ := blk3_ (O15.out.blk (i := 7) rfl); clear o_ k_) | ((with_reducible refine gate_store (t := 23) (p := 12) rfl ?_); refine own_store rfl rfl rfl (w1 := (World.setCell (World.setCell (World.setCell w15 ⟨gc, 0, none⟩ (.int .i64 2)) ⟨gc, 1, none⟩ (.int .i64 0)) ⟨gc, 2, none⟩ (.string (a1_0 ++ a1_1 ++ a1_2)))) (N := N) (l' := [cells gi #[.int .i64 a0_0, .int .i64 a0_1, .int .i64 a0_2] 39, cells gs #[.string a1_0, .string a1_1, .string a1_2] 40, cells gv #[.int .i64 1, .int .i64 a0_0, .string ⟨#[]⟩] 23, cells gx #[.string ⟨#[]⟩, .int .i64 3, .int .i64 a0_1, .string ⟨#[]⟩] 25, cells gy #[.string ⟨#[]⟩, .int .i64 3, .int .i64 a0_2, .string ⟨#[]⟩] 25, cells gt #[.int .i64 2, .int .i64 0, .string a1_0] 23, nrow k25 25 (.slice B1 2 d1) ([uS a1_1, uS a1_2]), cells gc #[.int .i64 2, .int .i64 0, .string (a1_0 ++ a1_1 ++ a1_2)] 23]) ?hr ?ho ?hk ?_; (case hr => first | (go_simp; done) | (go_simp; rfl)); (case ho => exact (((O15.out.set (i := 7) rfl 0 (.int .i64 2)).set (i := 7) rfl 1 (.int .i64 0)).set (i := 7) rfl 2 (.string (a1_0 ++ a1_1 ++ a1_2)))); (case hk => exact (((KeepS.setCell (O15.out.far (i := 7) rfl) (.int .i64 2)).trans (KeepS.setCell (O15.out.far (i := 7) rfl) (.int .i64 0))).trans (KeepS.setCell (O15.out.far (i := 7) rfl) (.string (a1_0 ++ a1_1 ++ a1_2))))); intro w16 o_ k_; have O16 : Aside0 (Own N w16 [cells gi #[.int .i64 a0_0, .int .i64 a0_1, .int .i64 a0_2] 39, cells gs #[.string a1_0, .string a1_1, .string a1_2] 40, cells gv #[.int .i64 1, .int .i64 a0_0, .string ⟨#[]⟩] 23, cells gx #[.string ⟨#[]⟩, .int .i64 3, .int .i64 a0_1, .string ⟨#[]⟩] 25, cells gy #[.string ⟨#[]⟩, .int .i64 3, .int .i64 a0_2, .string ⟨#[]⟩] 25, cells gt #[.int .i64 2, .int .i64 0, .string a1_0] 23, nrow k25 25 (.slice B1 2 d1) ([uS a1_1, uS a1_2]), cells gc #[.int .i64 2, .int .i64 0, .string (a1_0 ++ a1_1 ++ a1_2)] 23]) := ⟨o_⟩; have K16 : Aside0 (KeepS N w w16) := ⟨K15.out.trans k_⟩; clear a0a a0b a0c b0 a1a a1b a1c b1 a2a a2b a2c b2 a3a a3b a3c a3d b3 a4a a4b a4c a4d b4 a5a a5b a5c b5 a7a a7b a7c b7 O15 K15; obtain ⟨a0a, a0b, a0c, b0⟩ := blk3_ (O16.out.blk (i := 0) rfl); obtain ⟨a1a, a1b, a1c, b1⟩ := blk3_ (O16.out.blk (i := 1) rfl); obtain ⟨a2a, a2b, a2c, b2⟩ := blk3_ (O16.out.blk (i := 2) rfl); obtain ⟨a3a, a3b, a3c, a3d, b3⟩ := blk4_ (O16.out.blk (i := 3) rfl); obtain ⟨a4a, a4b, a4c, a4d, b4⟩ := blk4_ (O16.out.blk (i := 4) rfl); obtain ⟨a5a, a5b, a5c, b5⟩ := blk3_ (O16.out.blk (i := 5) rfl); obtain ⟨a7a, a7b, a7c, b7⟩ := blk3_ (O16.out.blk (i := 7) rfl); clear o_ k_))
  refine start_ (n := 54) (S := fun w' => w'.cell? ⟨gs, 0, none⟩ = some (.string a1_0) ∧ w'.cell? ⟨gs, 1, none⟩ = some (.string a1_1) ∧ w'.cell? ⟨gs, 2, none⟩ = some (.string a1_2) ∧ w'.cell? ⟨gv, 0, none⟩ = some (.int .i64 1) ∧ w'.cell? ⟨gv, 1, none⟩ = some (.int .i64 a0_0) ∧ w'.cell? ⟨gv, 2, none⟩ = some (.string ⟨#[]⟩) ∧ w'.cell? ⟨gx, 0, none⟩ = some (.string ⟨#[]⟩) ∧ w'.cell? ⟨gx, 1, none⟩ = some (.int .i64 3) ∧ w'.cell? ⟨gx, 2, none⟩ = some (.int .i64 a0_1) ∧ w'.cell? ⟨gx, 3, none⟩ = some (.string ⟨#[]⟩) ∧ w'.cell? ⟨gy, 0, none⟩ = some (.string ⟨#[]⟩) ∧ w'.cell? ⟨gy, 1, none⟩ = some (.int .i64 3) ∧ w'.cell? ⟨gy, 2, none⟩ = some (.int .i64 a0_2) ∧ w'.cell? ⟨gy, 3, none⟩ = some (.string ⟨#[]⟩) ∧ w'.cell? ⟨gt, 0, none⟩ = some (.int .i64 2) ∧ w'.cell? ⟨gt, 1, none⟩ = some (.int .i64 0) ∧ w'.cell? ⟨gt, 2, none⟩ = some (.string a1_0) ∧ w'.cell? ⟨gc, 0, none⟩ = some (.int .i64 2) ∧ w'.cell? ⟨gc, 1, none⟩ = some (.int .i64 0) ∧ w'.cell? ⟨gc, 2, none⟩ = some (.string (a1_0 ++ a1_1 ++ a1_2))) (ds := []) #[false, false, false, false, false, false, false, false, false, false, false, false, false, false, false, false, false, false, false, false, false, false, false, false, false, false, false, false, false, false, false, false, false, false, false, false, false, false, false, false, false, false, false, false, false, false, false, false, false, false, false, false, false, false] (by kernel_rfl) rfl rfl ⟨((blk_cell (O16.out.blk (i := 1) rfl) 0).trans rfl), ((blk_cell (O16.out.blk (i := 1) rfl) 1).trans rfl), ((blk_cell (O16.out.blk (i := 1) rfl) 2).trans rfl), ((blk_cell (O16.out.blk (i := 2) rfl) 0).trans rfl), ((blk_cell (O16.out.blk (i := 2) rfl) 1).trans rfl), ((blk_cell (O16.out.blk (i := 2) rfl) 2).trans rfl), ((blk_cell (O16.out.blk (i := 3) rfl) 0).trans rfl), ((blk_cell (O16.out.blk (i := 3) rfl) 1).trans rfl), ((blk_cell (O16.out.blk (i := 3) rfl) 2).trans rfl), ((blk_cell (O16.out.blk (i := 3) rfl) 3).trans rfl), ((blk_cell (O16.out.blk (i := 4) rfl) 0).trans rfl), ((blk_cell (O16.out.blk (i := 4) rfl) 1).trans rfl), ((blk_cell (O16.out.blk (i := 4) rfl) 2).trans rfl), ((blk_cell (O16.out.blk (i := 4) rfl) 3).trans rfl), ((blk_cell (O16.out.blk (i := 5) rfl) 0).trans rfl), ((blk_cell (O16.out.blk (i := 5) rfl) 1).trans rfl), ((blk_cell (O16.out.blk (i := 5) rfl) 2).trans rfl), ((blk_cell (O16.out.blk (i := 7) rfl) 0).trans rfl), ((blk_cell (O16.out.blk (i := 7) rfl) 1).trans rfl), ((blk_cell (O16.out.blk (i := 7) rfl) 2).trans rfl)⟩ (fun hHeld => ?_)
  obtain ⟨w17, hw_⟩ : ∃ W, W = w16.drew := ⟨_, rfl⟩
  have o_ := O16.out.drew
  have k_ : KeepS N w16 w16.drew := KeepS.drew
  rw [← hw_] at o_ k_ hHeld ⊢
  clear hw_
  have O17 : Aside0 (Own N w17 [cells gi #[.int .i64 a0_0, .int .i64 a0_1, .int .i64 a0_2] 39, cells gs #[.string a1_0, .string a1_1, .string a1_2] 40, cells gv #[.int .i64 1, .int .i64 a0_0, .string ⟨#[]⟩] 23, cells gx #[.string ⟨#[]⟩, .int .i64 3, .int .i64 a0_1, .string ⟨#[]⟩] 25, cells gy #[.string ⟨#[]⟩, .int .i64 3, .int .i64 a0_2, .string ⟨#[]⟩] 25, cells gt #[.int .i64 2, .int .i64 0, .string a1_0] 23, nrow k25 25 (.slice B1 2 d1) ([uS a1_1, uS a1_2]), cells gc #[.int .i64 2, .int .i64 0, .string (a1_0 ++ a1_1 ++ a1_2)] 23]) := ⟨o_⟩
  have K17 : Aside0 (KeepS N w w17) := ⟨K16.out.trans k_⟩
  clear a0a a0b a0c b0 a1a a1b a1c b1 a2a a2b a2c b2 a3a a3b a3c a3d b3 a4a a4b a4c a4d b4 a5a a5b a5c b5 a7a a7b a7c b7 O16 K16
  obtain ⟨a0a, a0b, a0c, b0⟩ := blk3_ (O17.out.blk (i := 0) rfl)
  obtain ⟨a1a, a1b, a1c, b1⟩ := blk3_ (O17.out.blk (i := 1) rfl)
  obtain ⟨a2a, a2b, a2c, b2⟩ := blk3_ (O17.out.blk (i := 2) rfl)
  obtain ⟨a3a, a3b, a3c, a3d, b3⟩ := blk4_ (O17.out.blk (i := 3) rfl)
  obtain ⟨a4a, a4b, a4c, a4d, b4⟩ := blk4_ (O17.out.blk (i := 4) rfl)
  obtain ⟨a5a, a5b, a5c, b5⟩ := blk3_ (O17.out.blk (i := 5) rfl)
  obtain ⟨a7a, a7b, a7c, b7⟩ := blk3_ (O17.out.blk (i := 7) rfl)
  clear o_ k_
  refine take_ (i := 0) (N := some 58) (v := ?_) (a' := ?_) #[true, false, false, false, false, false, false, false, false, false, false, false, false, false, false, false, false, false, false, false, false, false, false, false, false, false, false, false, false, false, false, false, false, false, false, false, false, false, false, false, false, false, false, false, false, false, false, false, false, false, false, false, false, false] rfl rfl (by kernel_rfl) (fun _ _ _ h => h) (Or.inl ⟨by rfl, ?_⟩) hHeld ?_ ?_
  rotate_left
  · rintro w' ⟨s0, s1, s2, s3, s4, s5, s6, s7, s8, s9, s10, s11, s12, s13, s14, s15, s16, s17, s18, s19⟩
    go_simp
    with_reducible rfl
  rotate_left
  · simp only [Act.put, List.setIfInBounds_toArray, List.set_cons_zero, List.set_cons_succ, i64_w, i32_w]
    rfl
  refine take_ (i := 1) (N := some 59) (v := ?_) (a' := ?_) #[true, true, false, false, false, false, false, false, false, false, false, false, false, false, false, false, false, false, false, false, false, false, false, false, false, false, false, false, false, false, false, false, false, false, false, false, false, false, false, false, false, false, false, false, false, false, false, false, false, false, false, false, false, false] rfl rfl (by kernel_rfl) (fun _ _ _ h => h) (Or.inl ⟨by rfl, ?_⟩) hHeld ?_ ?_
  rotate_left
  · rintro w' ⟨s0, s1, s2, s3, s4, s5, s6, s7, s8, s9, s10, s11, s12, s13, s14, s15, s16, s17, s18, s19⟩
    go_simp
    with_reducible rfl
  rotate_left
  · simp only [Act.put, List.setIfInBounds_toArray, List.set_cons_zero, List.set_cons_succ, i64_w, i32_w]
    rfl
  refine take_ (i := 2) (N := some 60) (v := ?_) (a' := ?_) #[true, true, true, false, false, false, false, false, false, false, false, false, false, false, false, false, false, false, false, false, false, false, false, false, false, false, false, false, false, false, false, false, false, false, false, false, false, false, false, false, false, false, false, false, false, false, false, false, false, false, false, false, false, false] rfl rfl (by kernel_rfl) (fun _ _ _ h => h) (Or.inl ⟨by rfl, ?_⟩) hHeld ?_ ?_
  rotate_left
  · rintro w' ⟨s0, s1, s2, s3, s4, s5, s6, s7, s8, s9, s10, s11, s12, s13, s14, s15, s16, s17, s18, s19⟩
    go_simp
    with_reducible rfl
  rotate_left
  · simp only [Act.put, List.setIfInBounds_toArray, List.set_cons_zero, List.set_cons_succ, i64_w, i32_w]
    rfl
  refine take_ (i := 5) (N := some 63) (v := ?_) (a' := ?_) #[true, true, true, false, false, true, false, false, false, false, false, false, false, false, false, false, false, false, false, false, false, false, false, false, false, false, false, false, false, false, false, false, false, false, false, false, false, false, false, false, false, false, false, false, false, false, false, false, false, false, false, false, false, false] rfl rfl (by kernel_rfl) (fun _ _ _ h => h) (Or.inl ⟨by rfl, ?_⟩) hHeld ?_ ?_
  rotate_left
  · rintro w' ⟨s0, s1, s2, s3, s4, s5, s6, s7, s8, s9, s10, s11, s12, s13, s14, s15, s16, s17, s18, s19⟩
    go_simp
    with_reducible rfl
  rotate_left
  · simp only [Act.put, List.setIfInBounds_toArray, List.set_cons_zero, List.set_cons_succ, i64_w, i32_w]
    rfl
  refine take_ (i := 6) (N := some 64) (v := ?_) (a' := ?_) #[true, true, true, false, false, true, true, false, false, false, false, false, false, false, false, false, false, false, false, false, false, false, false, false, false, false, false, false, false, false, false, false, false, false, false, false, false, false, false, false, false, false, false, false, false, false, false, false, false, false, false, false, false, false] rfl rfl (by kernel_rfl) (fun _ _ _ h => h) (Or.inl ⟨by rfl, ?_⟩) hHeld ?_ ?_
  rotate_left
  · rintro w' ⟨s0, s1, s2, s3, s4, s5, s6, s7, s8, s9, s10, s11, s12, s13, s14, s15, s16, s17, s18, s19⟩
    go_simp
    with_reducible rfl
  rotate_left
  · simp only [Act.put, List.setIfInBounds_toArray, List.set_cons_zero, List.set_cons_succ, i64_w, i32_w]
    rfl
  refine take_ (i := 7) (N := some 65) (v := ?_) (a' := ?_) #[true, true, true, false, false, true, true, true, false, false, false, false, false, false, false, false, false, false, false, false, false, false, false, false, false, false, false, false, false, false, false, false, false, false, false, false, false, false, false, false, false, false, false, false, false, false, false, false, false, false, false, false, false, false] rfl rfl (by kernel_rfl) (fun _ _ _ h => h) (Or.inl ⟨by rfl, ?_⟩) hHeld ?_ ?_
  rotate_left
  · rintro w' ⟨s0, s1, s2, s3, s4, s5, s6, s7, s8, s9, s10, s11, s12, s13, s14, s15, s16, s17, s18, s19⟩
    go_simp
    with_reducible rfl
  rotate_left
  · simp only [Act.put, List.setIfInBounds_toArray, List.set_cons_zero, List.set_cons_succ, i64_w, i32_w]
    rfl
  refine join_ (σ := Option Addr × Nat × Option Addr × Nat) 45 #[true, true, true, true, true, true, true, true, true, false, false, false, false, false, false, false, false, false, false, false, false, false, false, false, false, false, false, false, false, false, false, false, false, false, false, false, false, false, false, false, false, false, false, false, false, false, false, false, false, false, false, false, false, false] (fun ⟨B2, d2, B3, d3⟩ => [(61, .slice B2 2 d2), (62, .agg #[.int .i64 1, .int .i64 (wrap64 (a0_0 + wrap64 (a0_1 + a0_2))), .string ⟨#[]⟩]), (66, .slice B3 2 d3)]) (fun ⟨B2, d2, B3, d3⟩ w' => Own N w' [cells gi #[.int .i64 a0_0, .int .i64 a0_1, .int .i64 a0_2] 39, cells gs #[.string a1_0, .string a1_1, .string a1_2] 40, cells gv #[.int .i64 1, .int .i64 a0_0, .string ⟨#[]⟩] 23, cells gx #[.string ⟨#[]⟩, .int .i64 3, .int .i64 a0_1, .string ⟨#[]⟩] 25, cells gy #[.string ⟨#[]⟩, .int .i64 3, .int .i64 a0_2, .string ⟨#[]⟩] 25, cells gt #[.int .i64 2, .int .i64 0, .string a1_0] 23, nrow k25 25 (.slice B1 2 d1) ([uS a1_1, uS a1_2]), cells gc #[.int .i64 2, .int .i64 0, .string (a1_0 ++ a1_1 ++ a1_2)] 23, nrow k25 25 (.slice B2 2 d2) [uA a0_1, uA a0_2], nrow k25 25 (.slice B3 2 d3) [uA a0_2, uA a0_1]] ∧ KeepS N w17 w') ?hcont ?hways
  case hways =>
    intro hc_
    have K18 : Aside0 (KeepS N w17 w17) := ⟨KeepS.refl _ _⟩
    have O18 : Aside0 (Own N w17 [cells gi #[.int .i64 a0_0, .int .i64 a0_1, .int .i64 a0_2] 39, cells gs #[.string a1_0, .string a1_1, .string a1_2] 40, cells gv #[.int .i64 1, .int .i64 a0_0, .string ⟨#[]⟩] 23, cells gx #[.string ⟨#[]⟩, .int .i64 3, .int .i64 a0_1, .string ⟨#[]⟩] 25, cells gy #[.string ⟨#[]⟩, .int .i64 3, .int .i64 a0_2, .string ⟨#[]⟩] 25, cells gt #[.int .i64 2, .int .i64 0, .string a1_0] 23, nrow k25 25 (.slice B1 2 d1) ([uS a1_1, uS a1_2]), cells gc #[.int .i64 2, .int .i64 0, .string (a1_0 ++ a1_1 ++ a1_2)] 23]) := O17
    refine two_ (i := 3) (j := 8) (Ni := some 61) (Nj := some 66) #[true, true, true, true, false, true, true, true, false, false, false, false, false, false, false, false, false, false, false, false, false, false, false, false, false, false, false, false, false, false, false, false, false, false, false, false, false, false, false, false, false, false, false, false, false, false, false, false, false, false, false, false, false, false] #[true, true, true, false, false, true, true, true, true, false, false, false, false, false, false, false, false, false, false, false, false, false, false, false, false, false, false, false, false, false, false, false, false, false, false, false, false, false, false, false, false, false, false, false, false, false, false, false, false, false, false, false, false, false] rfl rfl rfl rfl (by kernel_rfl) (by decide) (by decide) (fun K_ hK_ => ?_) (fun K_ hK_ => ?_)
    · skip
      refine own_lit_step k25 (N := N) (e := 25) (xs := [uA a0_1, uA a0_2]) (inner := [.string ⟨#[]⟩, .int .i64 3, .int .i64 a0_1, .string ⟨#[]⟩, .string ⟨#[]⟩, .int .i64 3, .int .i64 a0_2, .string ⟨#[]⟩]) rfl rfl ?hr (rep2 _ (uA a0_1) (uA a0_2)) (by show 2 ≤ 9223372036854775807; decide) O18.out ?_
      (case hr => first | (go_simp; done) | (go_simp; rfl))
      intro B2 d2 w19 o_ k_
      have O19 : Aside0 (Own N w19 [cells gi #[.int .i64 a0_0, .int .i64 a0_1, .int .i64 a0_2] 39, cells gs #[.string a1_0, .string a1_1, .string a1_2] 40, cells gv #[.int .i64 1, .int .i64 a0_0, .string ⟨#[]⟩] 23, cells gx #[.string ⟨#[]⟩, .int .i64 3, .int .i64 a0_1, .string ⟨#[]⟩] 25, cells gy #[.string ⟨#[]⟩, .int .i64 3, .int .i64 a0_2, .string ⟨#[]⟩] 25, cells gt #[.int .i64 2, .int .i64 0, .string a1_0] 23, nrow k25 25 (.slice B1 2 d1) ([uS a1_1, uS a1_2]), cells gc #[.int .i64 2, .int .i64 0, .string (a1_0 ++ a1_1 ++ a1_2)] 23, nrow k25 25 (.slice B2 2 d2) [uA a0_1, uA a0_2]]) := ⟨o_⟩
      have K19 : Aside0 (KeepS N w17 w19) := ⟨K18.out.trans k_⟩
      clear a0a a0b a0c b0 a1a a1b a1c b1 a2a a2b a2c b2 a3a a3b a3c a3d b3 a4a a4b a4c a4d b4 a5a a5b a5c b5 a7a a7b a7c b7 O18 K18
      obtain ⟨a0a, a0b, a0c, b0⟩ := blk3_ (O19.out.blk (i := 0) rfl)
      obtain ⟨a1a, a1b, a1c, b1⟩ := blk3_ (O19.out.blk (i := 1) rfl)
      obtain ⟨a2a, a2b, a2c, b2⟩ := blk3_ (O19.out.blk (i := 2) rfl)
      obtain ⟨a3a, a3b, a3c, a3d, b3⟩ := blk4_ (O19.out.blk (i := 3) rfl)
      obtain ⟨a4a, a4b, a4c, a4d, b4⟩ := blk4_ (O19.out.blk (i := 4) rfl)
      obtain ⟨a5a, a5b, a5c, b5⟩ := blk3_ (O19.out.blk (i := 5) rfl)
      obtain ⟨a7a, a7b, a7c, b7⟩ := blk3_ (O19.out.blk (i := 7) rfl)
      clear o_ k_
      clear hHeld
      refine hK_.out _ _ ⟨((blk_cell (O19.out.blk (i := 1) rfl) 0).trans rfl), ((blk_cell (O19.out.blk (i := 1) rfl) 1).trans rfl), ((blk_cell (O19.out.blk (i := 1) rfl) 2).trans rfl), ((blk_cell (O19.out.blk (i := 2) rfl) 0).trans rfl), ((blk_cell (O19.out.blk (i := 2) rfl) 1).trans rfl), ((blk_cell (O19.out.blk (i := 2) rfl) 2).trans rfl), ((blk_cell (O19.out.blk (i := 3) rfl) 0).trans rfl), ((blk_cell (O19.out.blk (i := 3) rfl) 1).trans rfl), ((blk_cell (O19.out.blk (i := 3) rfl) 2).trans rfl), ((blk_cell (O19.out.blk (i := 3) rfl) 3).trans rfl), ((blk_cell (O19.out.blk (i := 4) rfl) 0).trans rfl), ((blk_cell (O19.out.blk (i := 4) rfl) 1).trans rfl), ((blk_cell (O19.out.blk (i := 4) rfl) 2).trans rfl), ((blk_cell (O19.out.blk (i := 4) rfl) 3).trans rfl), ((blk_cell (O19.out.blk (i := 5) rfl) 0).trans rfl), ((blk_cell (O19.out.blk (i := 5) rfl) 1).trans rfl), ((blk_cell (O19.out.blk (i := 5) rfl) 2).trans rfl), ((blk_cell (O19.out.blk (i := 7) rfl) 0).trans rfl), ((blk_cell (O19.out.blk (i := 7) rfl) 1).trans rfl), ((blk_cell (O19.out.blk (i := 7) rfl) 2).trans rfl)⟩ (fun hHeld => ?_)
      clear hK_ K_
      refine norm_ (a' := ?_) ?_ ?_
      rotate_left
      · simp only [Act.put, List.setIfInBounds_toArray, List.set_cons_zero, List.set_cons_succ, i64_w, i32_w]
        rfl
      refine two_ (i := 4) (j := 8) (Ni := some 62) (Nj := some 66) #[true, true, true, true, true, true, true, true, false, false, false, false, false, false, false, false, false, false, false, false, false, false, false, false, false, false, false, false, false, false, false, false, false, false, false, false, false, false, false, false, false, false, false, false, false, false, false, false, false, false, false, false, false, false] #[true, true, true, true, false, true, true, true, true, false, false, false, false, false, false, false, false, false, false, false, false, false, false, false, false, false, false, false, false, false, false, false, false, false, false, false, false, false, false, false, false, false, false, false, false, false, false, false, false, false, false, false, false, false] rfl rfl rfl rfl (by kernel_rfl) (by decide) (by decide) (fun K_ hK_ => ?_) (fun K_ hK_ => ?_)
      · skip
        refine goes_ Try.func16 (by kernel_rfl) rfl #[.agg #[.int .i64 1, .int .i64 a0_0, .string ⟨#[]⟩], .slice B2 2 d2] (by rfl) rfl rfl (by (try simp only [List.map_toArray, List.map_cons, List.map_nil]); first | done | rfl) ?_
        refine (value_All.calls 9 1 a0_0 none' _ _ [uA a0_1, uA a0_2] 1 (wrap64 (a0_0 + wrap64 (a0_1 + a0_2))) none' _ (O19.out.nreads (i := 8) rfl).2.2 (O19.out.nreads (i := 8) rfl).2.1 (st_1 a0_0 a0_1 a0_2 HWF.out.1 HWF.out.2.1 HWF.out.2.2)).mono ?_
        rintro e_ w20 ⟨rfl, hb_⟩
        refine ⟨_, rfl, ?_⟩
        have o_ := O19.out.below hb_
        have k_ := KeepS.of_below (N := N) hb_
        have O20 : Aside0 (Own N w20 [cells gi #[.int .i64 a0_0, .int .i64 a0_1, .int .i64 a0_2] 39, cells gs #[.string a1_0, .string a1_1, .string a1_2] 40, cells gv #[.int .i64 1, .int .i64 a0_0, .string ⟨#[]⟩] 23, cells gx #[.string ⟨#[]⟩, .int .i64 3, .int .i64 a0_1, .string ⟨#[]⟩] 25, cells gy #[.string ⟨#[]⟩, .int .i64 3, .int .i64 a0_2, .string ⟨#[]⟩] 25, cells gt #[.int .i64 2, .int .i64 0, .string a1_0] 23, nrow k25 25 (.slice B1 2 d1) ([uS a1_1, uS a1_2]), cells gc #[.int .i64 2, .int .i64 0, .string (a1_0 ++ a1_1 ++ a1_2)] 23, nrow k25 25 (.slice B2 2 d2) [uA a0_1, uA a0_2]]) := ⟨o_⟩
        have K20 : Aside0 (KeepS N w17 w20) := ⟨K19.out.trans k_⟩
        clear a0a a0b a0c b0 a1a a1b a1c b1 a2a a2b a2c b2 a3a a3b a3c a3d b3 a4a a4b a4c a4d b4 a5a a5b a5c b5 a7a a7b a7c b7 O19 K19
        obtain ⟨a0a, a0b, a0c, b0⟩ := blk3_ (O20.out.blk (i := 0) rfl)
        obtain ⟨a1a, a1b, a1c, b1⟩ := blk3_ (O20.out.blk (i := 1) rfl)
        obtain ⟨a2a, a2b, a2c, b2⟩ := blk3_ (O20.out.blk (i := 2) rfl)
        obtain ⟨a3a, a3b, a3c, a3d, b3⟩ := blk4_ (O20.out.blk (i := 3) rfl)
        obtain ⟨a4a, a4b, a4c, a4d, b4⟩ := blk4_ (O20.out.blk (i := 4) rfl)
        obtain ⟨a5a, a5b, a5c, b5⟩ := blk3_ (O20.out.blk (i := 5) rfl)
        obtain ⟨a7a, a7b, a7c, b7⟩ := blk3_ (O20.out.blk (i := 7) rfl)
        clear o_ k_ hb_
        clear hHeld
        refine hK_.out _ _ ⟨((blk_cell (O20.out.blk (i := 1) rfl) 0).trans rfl), ((blk_cell (O20.out.blk (i := 1) rfl) 1).trans rfl), ((blk_cell (O20.out.blk (i := 1) rfl) 2).trans rfl), ((blk_cell (O20.out.blk (i := 2) rfl) 0).trans rfl), ((blk_cell (O20.out.blk (i := 2) rfl) 1).trans rfl), ((blk_cell (O20.out.blk (i := 2) rfl) 2).trans rfl), ((blk_cell (O20.out.blk (i := 3) rfl) 0).trans rfl), ((blk_cell (O20.out.blk (i := 3) rfl) 1).trans rfl), ((blk_cell (O20.out.blk (i := 3) rfl) 2).trans rfl), ((blk_cell (O20.out.blk (i := 3) rfl) 3).trans rfl), ((blk_cell (O20.out.blk (i := 4) rfl) 0).trans rfl), ((blk_cell (O20.out.blk (i := 4) rfl) 1).trans rfl), ((blk_cell (O20.out.blk (i := 4) rfl) 2).trans rfl), ((blk_cell (O20.out.blk (i := 4) rfl) 3).trans rfl), ((blk_cell (O20.out.blk (i := 5) rfl) 0).trans rfl), ((blk_cell (O20.out.blk (i := 5) rfl) 1).trans rfl), ((blk_cell (O20.out.blk (i := 5) rfl) 2).trans rfl), ((blk_cell (O20.out.blk (i := 7) rfl) 0).trans rfl), ((blk_cell (O20.out.blk (i := 7) rfl) 1).trans rfl), ((blk_cell (O20.out.blk (i := 7) rfl) 2).trans rfl)⟩ (fun hHeld => ?_)
        clear hK_ K_
        refine norm_ (a' := ?_) ?_ ?_
        rotate_left
        · simp only [Act.put, List.setIfInBounds_toArray, List.set_cons_zero, List.set_cons_succ, i64_w, i32_w]
          rfl
        refine one_ (i := 8) (N := some 66) #[true, true, true, true, true, true, true, true, true, false, false, false, false, false, false, false, false, false, false, false, false, false, false, false, false, false, false, false, false, false, false, false, false, false, false, false, false, false, false, false, false, false, false, false, false, false, false, false, false, false, false, false, false, false] rfl rfl (by kernel_rfl) (by decide) (fun K_ hK_ => ?_)
        refine own_lit_step k25 (N := N) (e := 25) (xs := [uA a0_2, uA a0_1]) (inner := [.string ⟨#[]⟩, .int .i64 3, .int .i64 a0_2, .string ⟨#[]⟩, .string ⟨#[]⟩, .int .i64 3, .int .i64 a0_1, .string ⟨#[]⟩]) rfl rfl ?hr (rep2 _ (uA a0_2) (uA a0_1)) (by show 2 ≤ 9223372036854775807; decide) O20.out ?_
        (case hr => first | (go_simp; done) | (go_simp; rfl))
        intro B3 d3 w21 o_ k_
        have O21 : Aside0 (Own N w21 [cells gi #[.int .i64 a0_0, .int .i64 a0_1, .int .i64 a0_2] 39, cells gs #[.string a1_0, .string a1_1, .string a1_2] 40, cells gv #[.int .i64 1, .int .i64 a0_0, .string ⟨#[]⟩] 23, cells gx #[.string ⟨#[]⟩, .int .i64 3, .int .i64 a0_1, .string ⟨#[]⟩] 25, cells gy #[.string ⟨#[]⟩, .int .i64 3, .int .i64 a0_2, .string ⟨#[]⟩] 25, cells gt #[.int .i64 2, .int .i64 0, .string a1_0] 23, nrow k25 25 (.slice B1 2 d1) ([uS a1_1, uS a1_2]), cells gc #[.int .i64 2, .int .i64 0, .string (a1_0 ++ a1_1 ++ a1_2)] 23, nrow k25 25 (.slice B2 2 d2) [uA a0_1, uA a0_2], nrow k25 25 (.slice B3 2 d3) [uA a0_2, uA a0_1]]) := ⟨o_⟩
        have K21 : Aside0 (KeepS N w17 w21) := ⟨K20.out.trans k_⟩
        clear a0a a0b a0c b0 a1a a1b a1c b1 a2a a2b a2c b2 a3a a3b a3c a3d b3 a4a a4b a4c a4d b4 a5a a5b a5c b5 a7a a7b a7c b7 O20 K20
        obtain ⟨a0a, a0b, a0c, b0⟩ := blk3_ (O21.out.blk (i := 0) rfl)
        obtain ⟨a1a, a1b, a1c, b1⟩ := blk3_ (O21.out.blk (i := 1) rfl)
        obtain ⟨a2a, a2b, a2c, b2⟩ := blk3_ (O21.out.blk (i := 2) rfl)
        obtain ⟨a3a, a3b, a3c, a3d, b3⟩ := blk4_ (O21.out.blk (i := 3) rfl)
        obtain ⟨a4a, a4b, a4c, a4d, b4⟩ := blk4_ (O21.out.blk (i := 4) rfl)
        obtain ⟨a5a, a5b, a5c, b5⟩ := blk3_ (O21.out.blk (i := 5) rfl)
        obtain ⟨a7a, a7b, a7c, b7⟩ := blk3_ (O21.out.blk (i := 7) rfl)
        clear o_ k_
        clear hHeld
        refine hK_.out _ _ ⟨((blk_cell (O21.out.blk (i := 1) rfl) 0).trans rfl), ((blk_cell (O21.out.blk (i := 1) rfl) 1).trans rfl), ((blk_cell (O21.out.blk (i := 1) rfl) 2).trans rfl), ((blk_cell (O21.out.blk (i := 2) rfl) 0).trans rfl), ((blk_cell (O21.out.blk (i := 2) rfl) 1).trans rfl), ((blk_cell (O21.out.blk (i := 2) rfl) 2).trans rfl), ((blk_cell (O21.out.blk (i := 3) rfl) 0).trans rfl), ((blk_cell (O21.out.blk (i := 3) rfl) 1).trans rfl), ((blk_cell (O21.out.blk (i := 3) rfl) 2).trans rfl), ((blk_cell (O21.out.blk (i := 3) rfl) 3).trans rfl), ((blk_cell (O21.out.blk (i := 4) rfl) 0).trans rfl), ((blk_cell (O21.out.blk (i := 4) rfl) 1).trans rfl), ((blk_cell (O21.out.blk (i := 4) rfl) 2).trans rfl), ((blk_cell (O21.out.blk (i := 4) rfl) 3).trans rfl), ((blk_cell (O21.out.blk (i := 5) rfl) 0).trans rfl), ((blk_cell (O21.out.blk (i := 5) rfl) 1).trans rfl), ((blk_cell (O21.out.blk (i := 5) rfl) 2).trans rfl), ((blk_cell (O21.out.blk (i := 7) rfl) 0).trans rfl), ((blk_cell (O21.out.blk (i := 7) rfl) 1).trans rfl), ((blk_cell (O21.out.blk (i := 7) rfl) 2).trans rfl)⟩ (fun hHeld => ?_)
        clear hK_ K_
        refine norm_ (a' := ?_) ?_ ?_
        rotate_left
        · simp only [Act.put, List.setIfInBounds_toArray, List.set_cons_zero, List.set_cons_succ, i64_w, i32_w]
          rfl
        refine norm_ (a' := _) ?_ (hc_ ⟨B2, d2, B3, d3⟩ _ ⟨?_, K21.out⟩)
        · simp only [putAll, Act.put, List.setIfInBounds_toArray, List.set_cons_zero, List.set_cons_succ]
          try rfl
        · exact O21.out.pickL [0, 1, 2, 3, 4, 5, 6, 7, 8, 9] (by decide) (by simp)
      · skip
        refine own_lit_step k25 (N := N) (e := 25) (xs := [uA a0_2, uA a0_1]) (inner := [.string ⟨#[]⟩, .int .i64 3, .int .i64 a0_2, .string ⟨#[]⟩, .string ⟨#[]⟩, .int .i64 3, .int .i64 a0_1, .string ⟨#[]⟩]) rfl rfl ?hr (rep2 _ (uA a0_2) (uA a0_1)) (by show 2 ≤ 9223372036854775807; decide) O19.out ?_
        (case hr => first | (go_simp; done) | (go_simp; rfl))
        intro B3 d3 w20 o_ k_
        have O20 : Aside0 (Own N w20 [cells gi #[.int .i64 a0_0, .int .i64 a0_1, .int .i64 a0_2] 39, cells gs #[.string a1_0, .string a1_1, .string a1_2] 40, cells gv #[.int .i64 1, .int .i64 a0_0, .string ⟨#[]⟩] 23, cells gx #[.string ⟨#[]⟩, .int .i64 3, .int .i64 a0_1, .string ⟨#[]⟩] 25, cells gy #[.string ⟨#[]⟩, .int .i64 3, .int .i64 a0_2, .string ⟨#[]⟩] 25, cells gt #[.int .i64 2, .int .i64 0, .string a1_0] 23, nrow k25 25 (.slice B1 2 d1) ([uS a1_1, uS a1_2]), cells gc #[.int .i64 2, .int .i64 0, .string (a1_0 ++ a1_1 ++ a1_2)] 23, nrow k25 25 (.slice B2 2 d2) [uA a0_1, uA a0_2], nrow k25 25 (.slice B3 2 d3) [uA a0_2, uA a0_1]]) := ⟨o_⟩
        have K20 : Aside0 (KeepS N w17 w20) := ⟨K19.out.trans k_⟩
        clear a0a a0b a0c b0 a1a a1b a1c b1 a2a a2b a2c b2 a3a a3b a3c a3d b3 a4a a4b a4c a4d b4 a5a a5b a5c b5 a7a a7b a7c b7 O19 K19
        obtain ⟨a0a, a0b, a0c, b0⟩ := blk3_ (O20.out.blk (i := 0) rfl)
        obtain ⟨a1a, a1b, a1c, b1⟩ := blk3_ (O20.out.blk (i := 1) rfl)
        obtain ⟨a2a, a2b, a2c, b2⟩ := blk3_ (O20.out.blk (i := 2) rfl)
        obtain ⟨a3a, a3b, a3c, a3d, b3⟩ := blk4_ (O20.out.blk (i := 3) rfl)
        obtain ⟨a4a, a4b, a4c, a4d, b4⟩ := blk4_ (O20.out.blk (i := 4) rfl)
        obtain ⟨a5a, a5b, a5c, b5⟩ := blk3_ (O20.out.blk (i := 5) rfl)
        obtain ⟨a7a, a7b, a7c, b7⟩ := blk3_ (O20.out.blk (i := 7) rfl)
        clear o_ k_
        clear hHeld
        refine hK_.out _ _ ⟨((blk_cell (O20.out.blk (i := 1) rfl) 0).trans rfl), ((blk_cell (O20.out.blk (i := 1) rfl) 1).trans rfl), ((blk_cell (O20.out.blk (i := 1) rfl) 2).trans rfl), ((blk_cell (O20.out.blk (i := 2) rfl) 0).trans rfl), ((blk_cell (O20.out.blk (i := 2) rfl) 1).trans rfl), ((blk_cell (O20.out.blk (i := 2) rfl) 2).trans rfl), ((blk_cell (O20.out.blk (i := 3) rfl) 0).trans rfl), ((blk_cell (O20.out.blk (i := 3) rfl) 1).trans rfl), ((blk_cell (O20.out.blk (i := 3) rfl) 2).trans rfl), ((blk_cell (O20.out.blk (i := 3) rfl) 3).trans rfl), ((blk_cell (O20.out.blk (i := 4) rfl) 0).trans rfl), ((blk_cell (O20.out.blk (i := 4) rfl) 1).trans rfl), ((blk_cell (O20.out.blk (i := 4) rfl) 2).trans rfl), ((blk_cell (O20.out.blk (i := 4) rfl) 3).trans rfl), ((blk_cell (O20.out.blk (i := 5) rfl) 0).trans rfl), ((blk_cell (O20.out.blk (i := 5) rfl) 1).trans rfl), ((blk_cell (O20.out.blk (i := 5) rfl) 2).trans rfl), ((blk_cell (O20.out.blk (i := 7) rfl) 0).trans rfl), ((blk_cell (O20.out.blk (i := 7) rfl) 1).trans rfl), ((blk_cell (O20.out.blk (i := 7) rfl) 2).trans rfl)⟩ (fun hHeld => ?_)
        clear hK_ K_
        refine norm_ (a' := ?_) ?_ ?_
        rotate_left
        · simp only [Act.put, List.setIfInBounds_toArray, List.set_cons_zero, List.set_cons_succ, i64_w, i32_w]
          rfl
        refine one_ (i := 4) (N := some 62) #[true, true, true, true, true, true, true, true, true, false, false, false, false, false, false, false, false, false, false, false, false, false, false, false, false, false, false, false, false, false, false, false, false, false, false, false, false, false, false, false, false, false, false, false, false, false, false, false, false, false, false, false, false, false] rfl rfl (by kernel_rfl) (by decide) (fun K_ hK_ => ?_)
        refine goes_ Try.func16 (by kernel_rfl) rfl #[.agg #[.int .i64 1, .int .i64 a0_0, .string ⟨#[]⟩], .slice B2 2 d2] (by rfl) rfl rfl (by (try simp only [List.map_toArray, List.map_cons, List.map_nil]); first | done | rfl) ?_
        refine (value_All.calls 9 1 a0_0 none' _ _ [uA a0_1, uA a0_2] 1 (wrap64 (a0_0 + wrap64 (a0_1 + a0_2))) none' _ (O20.out.nreads (i := 8) rfl).2.2 (O20.out.nreads (i := 8) rfl).2.1 (st_1 a0_0 a0_1 a0_2 HWF.out.1 HWF.out.2.1 HWF.out.2.2)).mono ?_
        rintro e_ w21 ⟨rfl, hb_⟩
        refine ⟨_, rfl, ?_⟩
        have o_ := O20.out.below hb_
        have k_ := KeepS.of_below (N := N) hb_
        have O21 : Aside0 (Own N w21 [cells gi #[.int .i64 a0_0, .int .i64 a0_1, .int .i64 a0_2] 39, cells gs #[.string a1_0, .string a1_1, .string a1_2] 40, cells gv #[.int .i64 1, .int .i64 a0_0, .string ⟨#[]⟩] 23, cells gx #[.string ⟨#[]⟩, .int .i64 3, .int .i64 a0_1, .string ⟨#[]⟩] 25, cells gy #[.string ⟨#[]⟩, .int .i64 3, .int .i64 a0_2, .string ⟨#[]⟩] 25, cells gt #[.int .i64 2, .int .i64 0, .string a1_0] 23, nrow k25 25 (.slice B1 2 d1) ([uS a1_1, uS a1_2]), cells gc #[.int .i64 2, .int .i64 0, .string (a1_0 ++ a1_1 ++ a1_2)] 23, nrow k25 25 (.slice B2 2 d2) [uA a0_1, uA a0_2], nrow k25 25 (.slice B3 2 d3) [uA a0_2, uA a0_1]]) := ⟨o_⟩
        have K21 : Aside0 (KeepS N w17 w21) := ⟨K20.out.trans k_⟩
        clear a0a a0b a0c b0 a1a a1b a1c b1 a2a a2b a2c b2 a3a a3b a3c a3d b3 a4a a4b a4c a4d b4 a5a a5b a5c b5 a7a a7b a7c b7 O20 K20
        obtain ⟨a0a, a0b, a0c, b0⟩ := blk3_ (O21.out.blk (i := 0) rfl)
        obtain ⟨a1a, a1b, a1c, b1⟩ := blk3_ (O21.out.blk (i := 1) rfl)
        obtain ⟨a2a, a2b, a2c, b2⟩ := blk3_ (O21.out.blk (i := 2) rfl)
        obtain ⟨a3a, a3b, a3c, a3d, b3⟩ := blk4_ (O21.out.blk (i := 3) rfl)
        obtain ⟨a4a, a4b, a4c, a4d, b4⟩ := blk4_ (O21.out.blk (i := 4) rfl)
        obtain ⟨a5a, a5b, a5c, b5⟩ := blk3_ (O21.out.blk (i := 5) rfl)
        obtain ⟨a7a, a7b, a7c, b7⟩ := blk3_ (O21.out.blk (i := 7) rfl)
        clear o_ k_ hb_
        clear hHeld
        refine hK_.out _ _ ⟨((blk_cell (O21.out.blk (i := 1) rfl) 0).trans rfl), ((blk_cell (O21.out.blk (i := 1) rfl) 1).trans rfl), ((blk_cell (O21.out.blk (i := 1) rfl) 2).trans rfl), ((blk_cell (O21.out.blk (i := 2) rfl) 0).trans rfl), ((blk_cell (O21.out.blk (i := 2) rfl) 1).trans rfl), ((blk_cell (O21.out.blk (i := 2) rfl) 2).trans rfl), ((blk_cell (O21.out.blk (i := 3) rfl) 0).trans rfl), ((blk_cell (O21.out.blk (i := 3) rfl) 1).trans rfl), ((blk_cell (O21.out.blk (i := 3) rfl) 2).trans rfl), ((blk_cell (O21.out.blk (i := 3) rfl) 3).trans rfl), ((blk_cell (O21.out.blk (i := 4) rfl) 0).trans rfl), ((blk_cell (O21.out.blk (i := 4) rfl) 1).trans rfl), ((blk_cell (O21.out.blk (i := 4) rfl) 2).trans rfl), ((blk_cell (O21.out.blk (i := 4) rfl) 3).trans rfl), ((blk_cell (O21.out.blk (i := 5) rfl) 0).trans rfl), ((blk_cell (O21.out.blk (i := 5) rfl) 1).trans rfl), ((blk_cell (O21.out.blk (i := 5) rfl) 2).trans rfl), ((blk_cell (O21.out.blk (i := 7) rfl) 0).trans rfl), ((blk_cell (O21.out.blk (i := 7) rfl) 1).trans rfl), ((blk_cell (O21.out.blk (i := 7) rfl) 2).trans rfl)⟩ (fun hHeld => ?_)
        clear hK_ K_
        refine norm_ (a' := ?_) ?_ ?_
        rotate_left
        · simp only [Act.put, List.setIfInBounds_toArray, List.set_cons_zero, List.set_cons_succ, i64_w, i32_w]
          rfl
        refine norm_ (a' := _) ?_ (hc_ ⟨B2, d2, B3, d3⟩ _ ⟨?_, K21.out⟩)
        · simp only [putAll, Act.put, List.setIfInBounds_toArray, List.set_cons_zero, List.set_cons_succ]
          try rfl
        · exact O21.out.pickL [0, 1, 2, 3, 4, 5, 6, 7, 8, 9] (by decide) (by simp)
    · skip
      refine own_lit_step k25 (N := N) (e := 25) (xs := [uA a0_2, uA a0_1]) (inner := [.string ⟨#[]⟩, .int .i64 3, .int .i64 a0_2, .string ⟨#[]⟩, .string ⟨#[]⟩, .int .i64 3, .int .i64 a0_1, .string ⟨#[]⟩]) rfl rfl ?hr (rep2 _ (uA a0_2) (uA a0_1)) (by show 2 ≤ 9223372036854775807; decide) O18.out ?_
      (case hr => first | (go_simp; done) | (go_simp; rfl))
      intro B3 d3 w19 o_ k_
      have O19 : Aside0 (Own N w19 [cells gi #[.int .i64 a0_0, .int .i64 a0_1, .int .i64 a0_2] 39, cells gs #[.string a1_0, .string a1_1, .string a1_2] 40, cells gv #[.int .i64 1, .int .i64 a0_0, .string ⟨#[]⟩] 23, cells gx #[.string ⟨#[]⟩, .int .i64 3, .int .i64 a0_1, .string ⟨#[]⟩] 25, cells gy #[.string ⟨#[]⟩, .int .i64 3, .int .i64 a0_2, .string ⟨#[]⟩] 25, cells gt #[.int .i64 2, .int .i64 0, .string a1_0] 23, nrow k25 25 (.slice B1 2 d1) ([uS a1_1, uS a1_2]), cells gc #[.int .i64 2, .int .i64 0, .string (a1_0 ++ a1_1 ++ a1_2)] 23, nrow k25 25 (.slice B3 2 d3) [uA a0_2, uA a0_1]]) := ⟨o_⟩
      have K19 : Aside0 (KeepS N w17 w19) := ⟨K18.out.trans k_⟩
      clear a0a a0b a0c b0 a1a a1b a1c b1 a2a a2b a2c b2 a3a a3b a3c a3d b3 a4a a4b a4c a4d b4 a5a a5b a5c b5 a7a a7b a7c b7 O18 K18
      obtain ⟨a0a, a0b, a0c, b0⟩ := blk3_ (O19.out.blk (i := 0) rfl)
      obtain ⟨a1a, a1b, a1c, b1⟩ := blk3_ (O19.out.blk (i := 1) rfl)
      obtain ⟨a2a, a2b, a2c, b2⟩ := blk3_ (O19.out.blk (i := 2) rfl)
      obtain ⟨a3a, a3b, a3c, a3d, b3⟩ := blk4_ (O19.out.blk (i := 3) rfl)
      obtain ⟨a4a, a4b, a4c, a4d, b4⟩ := blk4_ (O19.out.blk (i := 4) rfl)
      obtain ⟨a5a, a5b, a5c, b5⟩ := blk3_ (O19.out.blk (i := 5) rfl)
      obtain ⟨a7a, a7b, a7c, b7⟩ := blk3_ (O19.out.blk (i := 7) rfl)
      clear o_ k_
      clear hHeld
      refine hK_.out _ _ ⟨((blk_cell (O19.out.blk (i := 1) rfl) 0).trans rfl), ((blk_cell (O19.out.blk (i := 1) rfl) 1).trans rfl), ((blk_cell (O19.out.blk (i := 1) rfl) 2).trans rfl), ((blk_cell (O19.out.blk (i := 2) rfl) 0).trans rfl), ((blk_cell (O19.out.blk (i := 2) rfl) 1).trans rfl), ((blk_cell (O19.out.blk (i := 2) rfl) 2).trans rfl), ((blk_cell (O19.out.blk (i := 3) rfl) 0).trans rfl), ((blk_cell (O19.out.blk (i := 3) rfl) 1).trans rfl), ((blk_cell (O19.out.blk (i := 3) rfl) 2).trans rfl), ((blk_cell (O19.out.blk (i := 3) rfl) 3).trans rfl), ((blk_cell (O19.out.blk (i := 4) rfl) 0).trans rfl), ((blk_cell (O19.out.blk (i := 4) rfl) 1).trans rfl), ((blk_cell (O19.out.blk (i := 4) rfl) 2).trans rfl), ((blk_cell (O19.out.blk (i := 4) rfl) 3).trans rfl), ((blk_cell (O19.out.blk (i := 5) rfl) 0).trans rfl), ((blk_cell (O19.out.blk (i := 5) rfl) 1).trans rfl), ((blk_cell (O19.out.blk (i := 5) rfl) 2).trans rfl), ((blk_cell (O19.out.blk (i := 7) rfl) 0).trans rfl), ((blk_cell (O19.out.blk (i := 7) rfl) 1).trans rfl), ((blk_cell (O19.out.blk (i := 7) rfl) 2).trans rfl)⟩ (fun hHeld => ?_)
      clear hK_ K_
      refine norm_ (a' := ?_) ?_ ?_
      rotate_left
      · simp only [Act.put, List.setIfInBounds_toArray, List.set_cons_zero, List.set_cons_succ, i64_w, i32_w]
        rfl
      refine one_ (i := 3) (N := some 61) #[true, true, true, true, false, true, true, true, true, false, false, false, false, false, false, false, false, false, false, false, false, false, false, false, false, false, false, false, false, false, false, false, false, false, false, false, false, false, false, false, false, false, false, false, false, false, false, false, false, false, false, false, false, false] rfl rfl (by kernel_rfl) (by decide) (fun K_ hK_ => ?_)
      refine own_lit_step k25 (N := N) (e := 25) (xs := [uA a0_1, uA a0_2]) (inner := [.string ⟨#[]⟩, .int .i64 3, .int .i64 a0_1, .string ⟨#[]⟩, .string ⟨#[]⟩, .int .i64 3, .int .i64 a0_2, .string ⟨#[]⟩]) rfl rfl ?hr (rep2 _ (uA a0_1) (uA a0_2)) (by show 2 ≤ 9223372036854775807; decide) O19.out ?_
      (case hr => first | (go_simp; done) | (go_simp; rfl))
      intro B2 d2 w20 o_ k_
      have O20 : Aside0 (Own N w20 [cells gi #[.int .i64 a0_0, .int .i64 a0_1, .int .i64 a0_2] 39, cells gs #[.string a1_0, .string a1_1, .string a1_2] 40, cells gv #[.int .i64 1, .int .i64 a0_0, .string ⟨#[]⟩] 23, cells gx #[.string ⟨#[]⟩, .int .i64 3, .int .i64 a0_1, .string ⟨#[]⟩] 25, cells gy #[.string ⟨#[]⟩, .int .i64 3, .int .i64 a0_2, .string ⟨#[]⟩] 25, cells gt #[.int .i64 2, .int .i64 0, .string a1_0] 23, nrow k25 25 (.slice B1 2 d1) ([uS a1_1, uS a1_2]), cells gc #[.int .i64 2, .int .i64 0, .string (a1_0 ++ a1_1 ++ a1_2)] 23, nrow k25 25 (.slice B3 2 d3) [uA a0_2, uA a0_1], nrow k25 25 (.slice B2 2 d2) [uA a0_1, uA a0_2]]) := ⟨o_⟩
      have K20 : Aside0 (KeepS N w17 w20) := ⟨K19.out.trans k_⟩
      clear a0a a0b a0c b0 a1a a1b a1c b1 a2a a2b a2c b2 a3a a3b a3c a3d b3 a4a a4b a4c a4d b4 a5a a5b a5c b5 a7a a7b a7c b7 O19 K19
      obtain ⟨a0a, a0b, a0c, b0⟩ := blk3_ (O20.out.blk (i := 0) rfl)
      obtain ⟨a1a, a1b, a1c, b1⟩ := blk3_ (O20.out.blk (i := 1) rfl)
      obtain ⟨a2a, a2b, a2c, b2⟩ := blk3_ (O20.out.blk (i := 2) rfl)
      obtain ⟨a3a, a3b, a3c, a3d, b3⟩ := blk4_ (O20.out.blk (i := 3) rfl)
      obtain ⟨a4a, a4b, a4c, a4d, b4⟩ := blk4_ (O20.out.blk (i := 4) rfl)
      obtain ⟨a5a, a5b, a5c, b5⟩ := blk3_ (O20.out.blk (i := 5) rfl)
      obtain ⟨a7a, a7b, a7c, b7⟩ := blk3_ (O20.out.blk (i := 7) rfl)
      clear o_ k_
      clear hHeld
      refine hK_.out _ _ ⟨((blk_cell (O20.out.blk (i := 1) rfl) 0).trans rfl), ((blk_cell (O20.out.blk (i := 1) rfl) 1).trans rfl), ((blk_cell (O20.out.blk (i := 1) rfl) 2).trans rfl), ((blk_cell (O20.out.blk (i := 2) rfl) 0).trans rfl), ((blk_cell (O20.out.blk (i := 2) rfl) 1).trans rfl), ((blk_cell (O20.out.blk (i := 2) rfl) 2).trans rfl), ((blk_cell (O20.out.blk (i := 3) rfl) 0).trans rfl), ((blk_cell (O20.out.blk (i := 3) rfl) 1).trans rfl), ((blk_cell (O20.out.blk (i := 3) rfl) 2).trans rfl), ((blk_cell (O20.out.blk (i := 3) rfl) 3).trans rfl), ((blk_cell (O20.out.blk (i := 4) rfl) 0).trans rfl), ((blk_cell (O20.out.blk (i := 4) rfl) 1).trans rfl), ((blk_cell (O20.out.blk (i := 4) rfl) 2).trans rfl), ((blk_cell (O20.out.blk (i := 4) rfl) 3).trans rfl), ((blk_cell (O20.out.blk (i := 5) rfl) 0).trans rfl), ((blk_cell (O20.out.blk (i := 5) rfl) 1).trans rfl), ((blk_cell (O20.out.blk (i := 5) rfl) 2).trans rfl), ((blk_cell (O20.out.blk (i := 7) rfl) 0).trans rfl), ((blk_cell (O20.out.blk (i := 7) rfl) 1).trans rfl), ((blk_cell (O20.out.blk (i := 7) rfl) 2).trans rfl)⟩ (fun hHeld => ?_)
      clear hK_ K_
      refine norm_ (a' := ?_) ?_ ?_
      rotate_left
      · simp only [Act.put, List.setIfInBounds_toArray, List.set_cons_zero, List.set_cons_succ, i64_w, i32_w]
        rfl
      refine one_ (i := 4) (N := some 62) #[true, true, true, true, true, true, true, true, true, false, false, false, false, false, false, false, false, false, false, false, false, false, false, false, false, false, false, false, false, false, false, false, false, false, false, false, false, false, false, false, false, false, false, false, false, false, false, false, false, false, false, false, false, false] rfl rfl (by kernel_rfl) (by decide) (fun K_ hK_ => ?_)
      refine goes_ Try.func16 (by kernel_rfl) rfl #[.agg #[.int .i64 1, .int .i64 a0_0, .string ⟨#[]⟩], .slice B2 2 d2] (by rfl) rfl rfl (by (try simp only [List.map_toArray, List.map_cons, List.map_nil]); first | done | rfl) ?_
      refine (value_All.calls 9 1 a0_0 none' _ _ [uA a0_1, uA a0_2] 1 (wrap64 (a0_0 + wrap64 (a0_1 + a0_2))) none' _ (O20.out.nreads (i := 9) rfl).2.2 (O20.out.nreads (i := 9) rfl).2.1 (st_1 a0_0 a0_1 a0_2 HWF.out.1 HWF.out.2.1 HWF.out.2.2)).mono ?_
      rintro e_ w21 ⟨rfl, hb_⟩
      refine ⟨_, rfl, ?_⟩
      have o_ := O20.out.below hb_
      have k_ := KeepS.of_below (N := N) hb_
      have O21 : Aside0 (Own N w21 [cells gi #[.int .i64 a0_0, .int .i64 a0_1, .int .i64 a0_2] 39, cells gs #[.string a1_0, .string a1_1, .string a1_2] 40, cells gv #[.int .i64 1, .int .i64 a0_0, .string ⟨#[]⟩] 23, cells gx #[.string ⟨#[]⟩, .int .i64 3, .int .i64 a0_1, .string ⟨#[]⟩] 25, cells gy #[.string ⟨#[]⟩, .int .i64 3, .int .i64 a0_2, .string ⟨#[]⟩] 25, cells gt #[.int .i64 2, .int .i64 0, .string a1_0] 23, nrow k25 25 (.slice B1 2 d1) ([uS a1_1, uS a1_2]), cells gc #[.int .i64 2, .int .i64 0, .string (a1_0 ++ a1_1 ++ a1_2)] 23, nrow k25 25 (.slice B3 2 d3) [uA a0_2, uA a0_1], nrow k25 25 (.slice B2 2 d2) [uA a0_1, uA a0_2]]) := ⟨o_⟩
      have K21 : Aside0 (KeepS N w17 w21) := ⟨K20.out.trans k_⟩
      clear a0a a0b a0c b0 a1a a1b a1c b1 a2a a2b a2c b2 a3a a3b a3c a3d b3 a4a a4b a4c a4d b4 a5a a5b a5c b5 a7a a7b a7c b7 O20 K20
      obtain ⟨a0a, a0b, a0c, b0⟩ := blk3_ (O21.out.blk (i := 0) rfl)
      obtain ⟨a1a, a1b, a1c, b1⟩ := blk3_ (O21.out.blk (i := 1) rfl)
      obtain ⟨a2a, a2b, a2c, b2⟩ := blk3_ (O21.out.blk (i := 2) rfl)
      obtain ⟨a3a, a3b, a3c, a3d, b3⟩ := blk4_ (O21.out.blk (i := 3) rfl)
      obtain ⟨a4a, a4b, a4c, a4d, b4⟩ := blk4_ (O21.out.blk (i := 4) rfl)
      obtain ⟨a5a, a5b, a5c, b5⟩ := blk3_ (O21.out.blk (i := 5) rfl)
      obtain ⟨a7a, a7b, a7c, b7⟩ := blk3_ (O21.out.blk (i := 7) rfl)
      clear o_ k_ hb_
      clear hHeld
      refine hK_.out _ _ ⟨((blk_cell (O21.out.blk (i := 1) rfl) 0).trans rfl), ((blk_cell (O21.out.blk (i := 1) rfl) 1).trans rfl), ((blk_cell (O21.out.blk (i := 1) rfl) 2).trans rfl), ((blk_cell (O21.out.blk (i := 2) rfl) 0).trans rfl), ((blk_cell (O21.out.blk (i := 2) rfl) 1).trans rfl), ((blk_cell (O21.out.blk (i := 2) rfl) 2).trans rfl), ((blk_cell (O21.out.blk (i := 3) rfl) 0).trans rfl), ((blk_cell (O21.out.blk (i := 3) rfl) 1).trans rfl), ((blk_cell (O21.out.blk (i := 3) rfl) 2).trans rfl), ((blk_cell (O21.out.blk (i := 3) rfl) 3).trans rfl), ((blk_cell (O21.out.blk (i := 4) rfl) 0).trans rfl), ((blk_cell (O21.out.blk (i := 4) rfl) 1).trans rfl), ((blk_cell (O21.out.blk (i := 4) rfl) 2).trans rfl), ((blk_cell (O21.out.blk (i := 4) rfl) 3).trans rfl), ((blk_cell (O21.out.blk (i := 5) rfl) 0).trans rfl), ((blk_cell (O21.out.blk (i := 5) rfl) 1).trans rfl), ((blk_cell (O21.out.blk (i := 5) rfl) 2).trans rfl), ((blk_cell (O21.out.blk (i := 7) rfl) 0).trans rfl), ((blk_cell (O21.out.blk (i := 7) rfl) 1).trans rfl), ((blk_cell (O21.out.blk (i := 7) rfl) 2).trans rfl)⟩ (fun hHeld => ?_)
      clear hK_ K_
      refine norm_ (a' := ?_) ?_ ?_
      rotate_left
      · simp only [Act.put, List.setIfInBounds_toArray, List.set_cons_zero, List.set_cons_succ, i64_w, i32_w]
        rfl
      refine norm_ (a' := _) ?_ (hc_ ⟨B2, d2, B3, d3⟩ _ ⟨?_, K21.out⟩)
      · simp only [putAll, Act.put, List.setIfInBounds_toArray, List.set_cons_zero, List.set_cons_succ]
        try rfl
      · exact O21.out.pickL [0, 1, 2, 3, 4, 5, 6, 7, 9, 8] (by decide) (by simp)
  case hcont =>
    clear hHeld
    rintro ⟨B2, d2, B3, d3⟩ w18 ⟨o_, k_⟩
    have O18 : Aside0 (Own N w18 [cells gi #[.int .i64 a0_0, .int .i64 a0_1, .int .i64 a0_2] 39, cells gs #[.string a1_0, .string a1_1, .string a1_2] 40, cells gv #[.int .i64 1, .int .i64 a0_0, .string ⟨#[]⟩] 23, cells gx #[.string ⟨#[]⟩, .int .i64 3, .int .i64 a0_1, .string ⟨#[]⟩] 25, cells gy #[.string ⟨#[]⟩, .int .i64 3, .int .i64 a0_2, .string ⟨#[]⟩] 25, cells gt #[.int .i64 2, .int .i64 0, .string a1_0] 23, nrow k25 25 (.slice B1 2 d1) ([uS a1_1, uS a1_2]), cells gc #[.int .i64 2, .int .i64 0, .string (a1_0 ++ a1_1 ++ a1_2)] 23, nrow k25 25 (.slice B2 2 d2) [uA a0_1, uA a0_2], nrow k25 25 (.slice B3 2 d3) [uA a0_2, uA a0_1]]) := ⟨o_⟩
    have K18 : Aside0 (KeepS N w w18) := ⟨K17.out.trans k_⟩
    clear a0a a0b a0c b0 a1a a1b a1c b1 a2a a2b a2c b2 a3a a3b a3c a3d b3 a4a a4b a4c a4d b4 a5a a5b a5c b5 a7a a7b a7c b7 O17 K17
    obtain ⟨a0a, a0b, a0c, b0⟩ := blk3_ (O18.out.blk (i := 0) rfl)
    obtain ⟨a1a, a1b, a1c, b1⟩ := blk3_ (O18.out.blk (i := 1) rfl)
    obtain ⟨a2a, a2b, a2c, b2⟩ := blk3_ (O18.out.blk (i := 2) rfl)
    obtain ⟨a3a, a3b, a3c, a3d, b3⟩ := blk4_ (O18.out.blk (i := 3) rfl)
    obtain ⟨a4a, a4b, a4c, a4d, b4⟩ := blk4_ (O18.out.blk (i := 4) rfl)
    obtain ⟨a5a, a5b, a5c, b5⟩ := blk3_ (O18.out.blk (i := 5) rfl)
    obtain ⟨a7a, a7b, a7c, b7⟩ := blk3_ (O18.out.blk (i := 7) rfl)
    clear o_ k_
    refine norm_ (a' := ?_) ?_ ?_
    rotate_left
    · simp only [putAll, Act.put, List.setIfInBounds_toArray, List.set_cons_zero, List.set_cons_succ]
      rfl
    have hHeld : w18.cell? ⟨gs, 0, none⟩ = some (.string a1_0) ∧ w18.cell? ⟨gs, 1, none⟩ = some (.string a1_1) ∧ w18.cell? ⟨gs, 2, none⟩ = some (.string a1_2) ∧ w18.cell? ⟨gv, 0, none⟩ = some (.int .i64 1) ∧ w18.cell? ⟨gv, 1, none⟩ = some (.int .i64 a0_0) ∧ w18.cell? ⟨gv, 2, none⟩ = some (.string ⟨#[]⟩) ∧ w18.cell? ⟨gx, 0, none⟩ = some (.string ⟨#[]⟩) ∧ w18.cell? ⟨gx, 1, none⟩ = some (.int .i64 3) ∧ w18.cell? ⟨gx, 2, none⟩ = some (.int .i64 a0_1) ∧ w18.cell? ⟨gx, 3, none⟩ = some (.string ⟨#[]⟩) ∧ w18.cell? ⟨gy, 0, none⟩ = some (.string ⟨#[]⟩) ∧ w18.cell? ⟨gy, 1, none⟩ = some (.int .i64 3) ∧ w18.cell? ⟨gy, 2, none⟩ = some (.int .i64 a0_2) ∧ w18.cell? ⟨gy, 3, none⟩ = some (.string ⟨#[]⟩) ∧ w18.cell? ⟨gt, 0, none⟩ = some (.int .i64 2) ∧ w18.cell? ⟨gt, 1, none⟩ = some (.int .i64 0) ∧ w18.cell? ⟨gt, 2, none⟩ = some (.string a1_0) ∧ w18.cell? ⟨gc, 0, none⟩ = some (.int .i64 2) ∧ w18.cell? ⟨gc, 1, none⟩ = some (.int .i64 0) ∧ w18.cell? ⟨gc, 2, none⟩ = some (.string (a1_0 ++ a1_1 ++ a1_2)) := ⟨((blk_cell (O18.out.blk (i := 1) rfl) 0).trans rfl), ((blk_cell (O18.out.blk (i := 1) rfl) 1).trans rfl), ((blk_cell (O18.out.blk (i := 1) rfl) 2).trans rfl), ((blk_cell (O18.out.blk (i := 2) rfl) 0).trans rfl), ((blk_cell (O18.out.blk (i := 2) rfl) 1).trans rfl), ((blk_cell (O18.out.blk (i := 2) rfl) 2).trans rfl), ((blk_cell (O18.out.blk (i := 3) rfl) 0).trans rfl), ((blk_cell (O18.out.blk (i := 3) rfl) 1).trans rfl), ((blk_cell (O18.out.blk (i := 3) rfl) 2).trans rfl), ((blk_cell (O18.out.blk (i := 3) rfl) 3).trans rfl), ((blk_cell (O18.out.blk (i := 4) rfl) 0).trans rfl), ((blk_cell (O18.out.blk (i := 4) rfl) 1).trans rfl), ((blk_cell (O18.out.blk (i := 4) rfl) 2).trans rfl), ((blk_cell (O18.out.blk (i := 4) rfl) 3).trans rfl), ((blk_cell (O18.out.blk (i := 5) rfl) 0).trans rfl), ((blk_cell (O18.out.blk (i := 5) rfl) 1).trans rfl), ((blk_cell (O18.out.blk (i := 5) rfl) 2).trans rfl), ((blk_cell (O18.out.blk (i := 7) rfl) 0).trans rfl), ((blk_cell (O18.out.blk (i := 7) rfl) 1).trans rfl), ((blk_cell (O18.out.blk (i := 7) rfl) 2).trans rfl)⟩
    refine one_ (i := 9) (N := some 67) #[true, true, true, true, true, true, true, true, true, true, false, false, false, false, false, false, false, false, false, false, false, false, false, false, false, false, false, false, false, false, false, false, false, false, false, false, false, false, false, false, false, false, false, false, false, false, false, false, false, false, false, false, false, false] rfl rfl (by kernel_rfl) (by decide) (fun K_ hK_ => ?_)
    refine goes_ Try.func16 (by kernel_rfl) rfl #[.agg #[.int .i64 1, .int .i64 a0_0, .string ⟨#[]⟩], .slice B3 2 d3] (by rfl) rfl rfl (by (try simp only [List.map_toArray, List.map_cons, List.map_nil]); first | done | rfl) ?_
    refine (value_All.calls 9 1 a0_0 none' _ _ [uA a0_2, uA a0_1] 1 (wrap64 (a0_0 + wrap64 (a0_1 + a0_2))) none' _ (O18.out.nreads (i := 9) rfl).2.2 (O18.out.nreads (i := 9) rfl).2.1 (st_2 a0_0 a0_1 a0_2 HWF.out.1 HWF.out.2.1 HWF.out.2.2)).mono ?_
    rintro e_ w19 ⟨rfl, hb_⟩
    refine ⟨_, rfl, ?_⟩
    have o_ := O18.out.below hb_
    have k_ := KeepS.of_below (N := N) hb_
    have O19 : Aside0 (Own N w19 [cells gi #[.int .i64 a0_0, .int .i64 a0_1, .int .i64 a0_2] 39, cells gs #[.string a1_0, .string a1_1, .string a1_2] 40, cells gv #[.int .i64 1, .int .i64 a0_0, .string ⟨#[]⟩] 23, cells gx #[.string ⟨#[]⟩, .int .i64 3, .int .i64 a0_1, .string ⟨#[]⟩] 25, cells gy #[.string ⟨#[]⟩, .int .i64 3, .int .i64 a0_2, .string ⟨#[]⟩] 25, cells gt #[.int .i64 2, .int .i64 0, .string a1_0] 23, nrow k25 25 (.slice B1 2 d1) ([uS a1_1, uS a1_2]), cells gc #[.int .i64 2, .int .i64 0, .string (a1_0 ++ a1_1 ++ a1_2)] 23, nrow k25 25 (.slice B2 2 d2) [uA a0_1, uA a0_2], nrow k25 25 (.slice B3 2 d3) [uA a0_2, uA a0_1]]) := ⟨o_⟩
    have K19 : Aside0 (KeepS N w w19) := ⟨K18.out.trans k_⟩
    clear a0a a0b a0c b0 a1a a1b a1c b1 a2a a2b a2c b2 a3a a3b a3c a3d b3 a4a a4b a4c a4d b4 a5a a5b a5c b5 a7a a7b a7c b7 O18 K18
    obtain ⟨a0a, a0b, a0c, b0⟩ := blk3_ (O19.out.blk (i := 0) rfl)
    obtain ⟨a1a, a1b, a1c, b1⟩ := blk3_ (O19.out.blk (i := 1) rfl)
    obtain ⟨a2a, a2b, a2c, b2⟩ := blk3_ (O19.out.blk (i := 2) rfl)
    obtain ⟨a3a, a3b, a3c, a3d, b3⟩ := blk4_ (O19.out.blk (i := 3) rfl)
    obtain ⟨a4a, a4b, a4c, a4d, b4⟩ := blk4_ (O19.out.blk (i := 4) rfl)
    obtain ⟨a5a, a5b, a5c, b5⟩ := blk3_ (O19.out.blk (i := 5) rfl)
    obtain ⟨a7a, a7b, a7c, b7⟩ := blk3_ (O19.out.blk (i := 7) rfl)
    clear o_ k_ hb_
    clear hHeld
    refine hK_.out _ _ ⟨((blk_cell (O19.out.blk (i := 1) rfl) 0).trans rfl), ((blk_cell (O19.out.blk (i := 1) rfl) 1).trans rfl), ((blk_cell (O19.out.blk (i := 1) rfl) 2).trans rfl), ((blk_cell (O19.out.blk (i := 2) rfl) 0).trans rfl), ((blk_cell (O19.out.blk (i := 2) rfl) 1).trans rfl), ((blk_cell (O19.out.blk (i := 2) rfl) 2).trans rfl), ((blk_cell (O19.out.blk (i := 3) rfl) 0).trans rfl), ((blk_cell (O19.out.blk (i := 3) rfl) 1).trans rfl), ((blk_cell (O19.out.blk (i := 3) rfl) 2).trans rfl), ((blk_cell (O19.out.blk (i := 3) rfl) 3).trans rfl), ((blk_cell (O19.out.blk (i := 4) rfl) 0).trans rfl), ((blk_cell (O19.out.blk (i := 4) rfl) 1).trans rfl), ((blk_cell (O19.out.blk (i := 4) rfl) 2).trans rfl), ((blk_cell (O19.out.blk (i := 4) rfl) 3).trans rfl), ((blk_cell (O19.out.blk (i := 5) rfl) 0).trans rfl), ((blk_cell (O19.out.blk (i := 5) rfl) 1).trans rfl), ((blk_cell (O19.out.blk (i := 5) rfl) 2).trans rfl), ((blk_cell (O19.out.blk (i := 7) rfl) 0).trans rfl), ((blk_cell (O19.out.blk (i := 7) rfl) 1).trans rfl), ((blk_cell (O19.out.blk (i := 7) rfl) 2).trans rfl)⟩ (fun hHeld => ?_)
    clear hK_ K_
    refine norm_ (a' := ?_) ?_ ?_
    rotate_left
    · simp only [Act.put, List.setIfInBounds_toArray, List.set_cons_zero, List.set_cons_succ, i64_w, i32_w]
      rfl
    refine pure_ (i := 10) (N := some 68) (v := ?_) (a' := ?_) #[true, true, true, true, true, true, true, true, true, true, true, false, false, false, false, false, false, false, false, false, false, false, false, false, false, false, false, false, false, false, false, false, false, false, false, false, false, false, false, false, false, false, false, false, false, false, false, false, false, false, false, false, false, false] rfl rfl (by kernel_rfl) (fun _ _ _ h => h) (Or.inl ⟨by rfl, ?_⟩) ?_ ?_
    rotate_left
    · intro w'
      go_simp
      with_reducible rfl
    rotate_left
    · simp only [Act.put, List.setIfInBounds_toArray, List.set_cons_zero, List.set_cons_succ, i64_w, i32_w]
      rfl
    refine pure_ (i := 11) (N := some 69) (v := ?_) (a' := ?_) #[true, true, true, true, true, true, true, true, true, true, true, true, false, false, false, false, false, false, false, false, false, false, false, false, false, false, false, false, false, false, false, false, false, false, false, false, false, false, false, false, false, false, false, false, false, false, false, false, false, false, false, false, false, false] rfl rfl (by kernel_rfl) (fun _ _ _ h => h) (Or.inl ⟨by rfl, ?_⟩) ?_ ?_
    rotate_left
    · intro w'
      go_simp
      with_reducible rfl
    rotate_left
    · simp only [Act.put, List.setIfInBounds_toArray, List.set_cons_zero, List.set_cons_succ, i64_w, i32_w]
      rfl
    refine pure_ (i := 18) (N := some 76) (v := ?_) (a' := ?_) #[true, true, true, true, true, true, true, true, true, true, true, true, false, false, false, false, false, false, true, false, false, false, false, false, false, false, false, false, false, false, false, false, false, false, false, false, false, false, false, false, false, false, false, false, false, false, false, false, false, false, false, false, false, false] rfl rfl (by kernel_rfl) (fun _ _ _ h => h) (Or.inl ⟨by rfl, ?_⟩) ?_ ?_
    rotate_left
    · intro w'
      go_simp
      with_reducible rfl
    rotate_left
    · simp only [Act.put, List.setIfInBounds_toArray, List.set_cons_zero, List.set_cons_succ, i64_w, i32_w]
      rfl
    refine pure_ (i := 19) (N := some 77) (v := ?_) (a' := ?_) #[true, true, true, true, true, true, true, true, true, true, true, true, false, false, false, false, false, false, true, true, false, false, false, false, false, false, false, false, false, false, false, false, false, false, false, false, false, false, false, false, false, false, false, false, false, false, false, false, false, false, false, false, false, false] rfl rfl (by kernel_rfl) (fun _ _ _ h => h) (Or.inl ⟨by rfl, ?_⟩) ?_ ?_
    rotate_left
    · intro w'
      go_simp
      with_reducible rfl
    rotate_left
    · simp only [Act.put, List.setIfInBounds_toArray, List.set_cons_zero, List.set_cons_succ, i64_w, i32_w]
      rfl
    refine pure_ (i := 20) (N := some 78) (v := ?_) (a' := ?_) #[true, true, true, true, true, true, true, true, true, true, true, true, false, false, false, false, false, false, true, true, true, false, false, false, false, false, false, false, false, false, false, false, false, false, false, false, false, false, false, false, false, false, false, false, false, false, false, false, false, false, false, false, false, false] rfl rfl (by kernel_rfl) (fun _ _ _ h => h) (Or.inl ⟨by rfl, ?_⟩) ?_ ?_
    rotate_left
    · intro w'
      go_simp
      with_reducible rfl
    rotate_left
    · simp only [Act.put, List.setIfInBounds_toArray, List.set_cons_zero, List.set_cons_succ, i64_w, i32_w]
      rfl
    refine pure_ (i := 21) (N := some 79) (v := ?_) (a' := ?_) #[true, true, true, true, true, true, true, true, true, true, true, true, false, false, false, false, false, false, true, true, true, true, false, false, false, false, false, false, false, false, false, false, false, false, false, false, false, false, false, false, false, false, false, false, false, false, false, false, false, false, false, false, false, false] rfl rfl (by kernel_rfl) (fun _ _ _ h => h) (Or.inl ⟨by rfl, ?_⟩) ?_ ?_
    rotate_left
    · intro w'
      go_simp
      with_reducible rfl
    rotate_left
    · simp only [Act.put, List.setIfInBounds_toArray, List.set_cons_zero, List.set_cons_succ, i64_w, i32_w]
      rfl
    refine take_ (i := 12) (N := some 70) (v := ?_) (a' := ?_) #[true, true, true, true, true, true, true, true, true, true, true, true, true, false, false, false, false, false, true, true, true, true, false, false, false, false, false, false, false, false, false, false, false, false, false, false, false, false, false, false, false, false, false, false, false, false, false, false, false, false, false, false, false, false] rfl rfl (by kernel_rfl) (fun _ _ _ h => h) (Or.inl ⟨by rfl, ?_⟩) hHeld ?_ ?_
    rotate_left
    · rintro w' ⟨s0, s1, s2, s3, s4, s5, s6, s7, s8, s9, s10, s11, s12, s13, s14, s15, s16, s17, s18, s19⟩
      go_simp
      with_reducible rfl
    rotate_left
    · simp only [Act.put, List.setIfInBounds_toArray, List.set_cons_zero, List.set_cons_succ, i64_w, i32_w]
      rfl
    refine take_ (i := 13) (N := some 71) (v := ?_) (a' := ?_) #[true, true, true, true, true, true, true, true, true, true, true, true, true, true, false, false, false, false, true, true, true, true, false, false, false, false, false, false, false, false, false, false, false, false, false, false, false, false, false, false, false, false, false, false, false, false, false, false, false, false, false, false, false, false] rfl rfl (by kernel_rfl) (fun _ _ _ h => h) (Or.inl ⟨by rfl, ?_⟩) hHeld ?_ ?_
    rotate_left
    · rintro w' ⟨s0, s1, s2, s3, s4, s5, s6, s7, s8, s9, s10, s11, s12, s13, s14, s15, s16, s17, s18, s19⟩
      go_simp
      with_reducible rfl
    rotate_left
    · simp only [Act.put, List.setIfInBounds_toArray, List.set_cons_zero, List.set_cons_succ, i64_w, i32_w]
      rfl
    refine take_ (i := 14) (N := some 72) (v := ?_) (a' := ?_) #[true, true, true, true, true, true, true, true, true, true, true, true, true, true, true, false, false, false, true, true, true, true, false, false, false, false, false, false, false, false, false, false, false, false, false, false, false, false, false, false, false, false, false, false, false, false, false, false, false, false, false, false, false, false] rfl rfl (by kernel_rfl) (fun _ _ _ h => h) (Or.inl ⟨by rfl, ?_⟩) hHeld ?_ ?_
    rotate_left
    · rintro w' ⟨s0, s1, s2, s3, s4, s5, s6, s7, s8, s9, s10, s11, s12, s13, s14, s15, s16, s17, s18, s19⟩
      go_simp
      with_reducible rfl
    rotate_left
    · simp only [Act.put, List.setIfInBounds_toArray, List.set_cons_zero, List.set_cons_succ, i64_w, i32_w]
      rfl
    refine take_ (i := 17) (N := some 75) (v := ?_) (a' := ?_) #[true, true, true, true, true, true, true, true, true, true, true, true, true, true, true, false, false, true, true, true, true, true, false, false, false, false, false, false, false, false, false, false, false, false, false, false, false, false, false, false, false, false, false, false, false, false, false, false, false, false, false, false, false, false] rfl rfl (by kernel_rfl) (fun _ _ _ h => h) (Or.inl ⟨by rfl, ?_⟩) hHeld ?_ ?_
    rotate_left
    · rintro w' ⟨s0, s1, s2, s3, s4, s5, s6, s7, s8, s9, s10, s11, s12, s13, s14, s15, s16, s17, s18, s19⟩
      go_simp
      with_reducible rfl
    rotate_left
    · simp only [Act.put, List.setIfInBounds_toArray, List.set_cons_zero, List.set_cons_succ, i64_w, i32_w]
      rfl
    refine one_ (i := 15) (N := some 73) #[true, true, true, true, true, true, true, true, true, true, true, true, true, true, true, true, false, true, true, true, true, true, false, false, false, false, false, false, false, false, false, false, false, false, false, false, false, false, false, false, false, false, false, false, false, false, false, false, false, false, false, false, false, false] rfl rfl (by kernel_rfl) (by decide) (fun K_ hK_ => ?_)
    refine own_lit_step k25 (N := N) (e := 25) (xs := [uA a0_1, uA a0_2]) (inner := [.string ⟨#[]⟩, .int .i64 3, .int .i64 a0_1, .string ⟨#[]⟩, .string ⟨#[]⟩, .int .i64 3, .int .i64 a0_2, .string ⟨#[]⟩]) rfl rfl ?hr (rep2 _ (uA a0_1) (uA a0_2)) (by show 2 ≤ 9223372036854775807; decide) O19.out ?_
    (case hr => first | (go_simp; done) | (go_simp; rfl))
    intro B4 d4 w20 o_ k_
    have O20 : Aside0 (Own N w20 [cells gi #[.int .i64 a0_0, .int .i64 a0_1, .int .i64 a0_2] 39, cells gs #[.string a1_0, .string a1_1, .string a1_2] 40, cells gv #[.int .i64 1, .int .i64 a0_0, .string ⟨#[]⟩] 23, cells gx #[.string ⟨#[]⟩, .int .i64 3, .int .i64 a0_1, .string ⟨#[]⟩] 25, cells gy #[.string ⟨#[]⟩, .int .i64 3, .int .i64 a0_2, .string ⟨#[]⟩] 25, cells gt #[.int .i64 2, .int .i64 0, .string a1_0] 23, nrow k25 25 (.slice B1 2 d1) ([uS a1_1, uS a1_2]), cells gc #[.int .i64 2, .int .i64 0, .string (a1_0 ++ a1_1 ++ a1_2)] 23, nrow k25 25 (.slice B2 2 d2) [uA a0_1, uA a0_2], nrow k25 25 (.slice B3 2 d3) [uA a0_2, uA a0_1], nrow k25 25 (.slice B4 2 d4) [uA a0_1, uA a0_2]]) := ⟨o_⟩
    have K20 : Aside0 (KeepS N w w20) := ⟨K19.out.trans k_⟩
    clear a0a a0b a0c b0 a1a a1b a1c b1 a2a a2b a2c b2 a3a a3b a3c a3d b3 a4a a4b a4c a4d b4 a5a a5b a5c b5 a7a a7b a7c b7 O19 K19
    obtain ⟨a0a, a0b, a0c, b0⟩ := blk3_ (O20.out.blk (i := 0) rfl)
    obtain ⟨a1a, a1b, a1c, b1⟩ := blk3_ (O20.out.blk (i := 1) rfl)
    obtain ⟨a2a, a2b, a2c, b2⟩ := blk3_ (O20.out.blk (i := 2) rfl)
    obtain ⟨a3a, a3b, a3c, a3d, b3⟩ := blk4_ (O20.out.blk (i := 3) rfl)
    obtain ⟨a4a, a4b, a4c, a4d, b4⟩ := blk4_ (O20.out.blk (i := 4) rfl)
    obtain ⟨a5a, a5b, a5c, b5⟩ := blk3_ (O20.out.blk (i := 5) rfl)
    obtain ⟨a7a, a7b, a7c, b7⟩ := blk3_ (O20.out.blk (i := 7) rfl)
    clear o_ k_
    clear hHeld
    refine hK_.out _ _ ⟨((blk_cell (O20.out.blk (i := 1) rfl) 0).trans rfl), ((blk_cell (O20.out.blk (i := 1) rfl) 1).trans rfl), ((blk_cell (O20.out.blk (i := 1) rfl) 2).trans rfl), ((blk_cell (O20.out.blk (i := 2) rfl) 0).trans rfl), ((blk_cell (O20.out.blk (i := 2) rfl) 1).trans rfl), ((blk_cell (O20.out.blk (i := 2) rfl) 2).trans rfl), ((blk_cell (O20.out.blk (i := 3) rfl) 0).trans rfl), ((blk_cell (O20.out.blk (i := 3) rfl) 1).trans rfl), ((blk_cell (O20.out.blk (i := 3) rfl) 2).trans rfl), ((blk_cell (O20.out.blk (i := 3) rfl) 3).trans rfl), ((blk_cell (O20.out.blk (i := 4) rfl) 0).trans rfl), ((blk_cell (O20.out.blk (i := 4) rfl) 1).trans rfl), ((blk_cell (O20.out.blk (i := 4) rfl) 2).trans rfl), ((blk_cell (O20.out.blk (i := 4) rfl) 3).trans rfl), ((blk_cell (O20.out.blk (i := 5) rfl) 0).trans rfl), ((blk_cell (O20.out.blk (i := 5) rfl) 1).trans rfl), ((blk_cell (O20.out.blk (i := 5) rfl) 2).trans rfl), ((blk_cell (O20.out.blk (i := 7) rfl) 0).trans rfl), ((blk_cell (O20.out.blk (i := 7) rfl) 1).trans rfl), ((blk_cell (O20.out.blk (i := 7) rfl) 2).trans rfl)⟩ (fun hHeld => ?_)
    clear hK_ K_
    refine norm_ (a' := ?_) ?_ ?_
    rotate_left
    · simp only [Act.put, List.setIfInBounds_toArray, List.set_cons_zero, List.set_cons_succ, i64_w, i32_w]
      rfl
    refine one_ (i := 16) (N := some 74) #[true, true, true, true, true, true, true, true, true, true, true, true, true, true, true, true, true, true, true, true, true, true, false, false, false, false, false, false, false, false, false, false, false, false, false, false, false, false, false, false, false, false, false, false, false, false, false, false, false, false, false, false, false, false] rfl rfl (by kernel_rfl) (by decide) (fun K_ hK_ => ?_)
    refine goes_ Try.func16 (by kernel_rfl) rfl #[.agg #[.int .i64 1, .int .i64 a0_0, .string ⟨#[]⟩], .slice B4 2 d4] (by rfl) rfl rfl (by (try simp only [List.map_toArray, List.map_cons, List.map_nil]); first | done | rfl) ?_
    refine (value_All.calls 9 1 a0_0 none' _ _ [uA a0_1, uA a0_2] 1 (wrap64 (a0_0 + wrap64 (a0_1 + a0_2))) none' _ (O20.out.nreads (i := 10) rfl).2.2 (O20.out.nreads (i := 10) rfl).2.1 (st_1 a0_0 a0_1 a0_2 HWF.out.1 HWF.out.2.1 HWF.out.2.2)).mono ?_
    rintro e_ w21 ⟨rfl, hb_⟩
    refine ⟨_, rfl, ?_⟩
    have o_ := O20.out.below hb_
    have k_ := KeepS.of_below (N := N) hb_
    have O21 : Aside0 (Own N w21 [cells gi #[.int .i64 a0_0, .int .i64 a0_1, .int .i64 a0_2] 39, cells gs #[.string a1_0, .string a1_1, .string a1_2] 40, cells gv #[.int .i64 1, .int .i64 a0_0, .string ⟨#[]⟩] 23, cells gx #[.string ⟨#[]⟩, .int .i64 3, .int .i64 a0_1, .string ⟨#[]⟩] 25, cells gy #[.string ⟨#[]⟩, .int .i64 3, .int .i64 a0_2, .string ⟨#[]⟩] 25, cells gt #[.int .i64 2, .int .i64 0, .string a1_0] 23, nrow k25 25 (.slice B1 2 d1) ([uS a1_1, uS a1_2]), cells gc #[.int .i64 2, .int .i64 0, .string (a1_0 ++ a1_1 ++ a1_2)] 23, nrow k25 25 (.slice B2 2 d2) [uA a0_1, uA a0_2], nrow k25 25 (.slice B3 2 d3) [uA a0_2, uA a0_1], nrow k25 25 (.slice B4 2 d4) [uA a0_1, uA a0_2]]) := ⟨o_⟩
    have K21 : Aside0 (KeepS N w w21) := ⟨K20.out.trans k_⟩
    clear a0a a0b a0c b0 a1a a1b a1c b1 a2a a2b a2c b2 a3a a3b a3c a3d b3 a4a a4b a4c a4d b4 a5a a5b a5c b5 a7a a7b a7c b7 O20 K20
    obtain ⟨a0a, a0b, a0c, b0⟩ := blk3_ (O21.out.blk (i := 0) rfl)
    obtain ⟨a1a, a1b, a1c, b1⟩ := blk3_ (O21.out.blk (i := 1) rfl)
    obtain ⟨a2a, a2b, a2c, b2⟩ := blk3_ (O21.out.blk (i := 2) rfl)
    obtain ⟨a3a, a3b, a3c, a3d, b3⟩ := blk4_ (O21.out.blk (i := 3) rfl)
    obtain ⟨a4a, a4b, a4c, a4d, b4⟩ := blk4_ (O21.out.blk (i := 4) rfl)
    obtain ⟨a5a, a5b, a5c, b5⟩ := blk3_ (O21.out.blk (i := 5) rfl)
    obtain ⟨a7a, a7b, a7c, b7⟩ := blk3_ (O21.out.blk (i := 7) rfl)
    clear o_ k_ hb_
    clear hHeld
    refine hK_.out _ _ ⟨((blk_cell (O21.out.blk (i := 1) rfl) 0).trans rfl), ((blk_cell (O21.out.blk (i := 1) rfl) 1).trans rfl), ((blk_cell (O21.out.blk (i := 1) rfl) 2).trans rfl), ((blk_cell (O21.out.blk (i := 2) rfl) 0).trans rfl), ((blk_cell (O21.out.blk (i := 2) rfl) 1).trans rfl), ((blk_cell (O21.out.blk (i := 2) rfl) 2).trans rfl), ((blk_cell (O21.out.blk (i := 3) rfl) 0).trans rfl), ((blk_cell (O21.out.blk (i := 3) rfl) 1).trans rfl), ((blk_cell (O21.out.blk (i := 3) rfl) 2).trans rfl), ((blk_cell (O21.out.blk (i := 3) rfl) 3).trans rfl), ((blk_cell (O21.out.blk (i := 4) rfl) 0).trans rfl), ((blk_cell (O21.out.blk (i := 4) rfl) 1).trans rfl), ((blk_cell (O21.out.blk (i := 4) rfl) 2).trans rfl), ((blk_cell (O21.out.blk (i := 4) rfl) 3).trans rfl), ((blk_cell (O21.out.blk (i := 5) rfl) 0).trans rfl), ((blk_cell (O21.out.blk (i := 5) rfl) 1).trans rfl), ((blk_cell (O21.out.blk (i := 5) rfl) 2).trans rfl), ((blk_cell (O21.out.blk (i := 7) rfl) 0).trans rfl), ((blk_cell (O21.out.blk (i := 7) rfl) 1).trans rfl), ((blk_cell (O21.out.blk (i := 7) rfl) 2).trans rfl)⟩ (fun hHeld => ?_)
    clear hK_ K_
    refine norm_ (a' := ?_) ?_ ?_
    rotate_left
    · simp only [Act.put, List.setIfInBounds_toArray, List.set_cons_zero, List.set_cons_succ, i64_w, i32_w]
      rfl
    refine one_ (i := 22) (N := some 80) #[true, true, true, true, true, true, true, true, true, true, true, true, true, true, true, true, true, true, true, true, true, true, true, false, false, false, false, false, false, false, false, false, false, false, false, false, false, false, false, false, false, false, false, false, false, false, false, false, false, false, false, false, false, false] rfl rfl (by kernel_rfl) (by decide) (fun K_ hK_ => ?_)
    refine goes_ Try.func11 (by kernel_rfl) rfl #[.agg #[.int .i64 1, .int .i64 a0_0, .string ⟨#[]⟩], .agg #[.string ⟨#[]⟩, .int .i64 3, .int .i64 (wrap64 (a0_1 + a0_2)), .string ⟨#[]⟩]] (by rfl) rfl rfl (by (try simp only [List.map_toArray, List.map_cons, List.map_nil]); first | done | rfl) ?_
    refine (value_Apply.calls 1 a0_0 none' none' 3 (wrap64 (a0_1 + a0_2)) none' 1 (wrap64 (a0_0 + wrap64 (a0_1 + a0_2))) none' _ (st_3 a0_0 a0_1 a0_2)).mono ?_
    rintro e_ w22 ⟨rfl, hb_⟩
    refine ⟨_, rfl, ?_⟩
    have o_ := O21.out.below hb_
    have k_ := KeepS.of_below (N := N) hb_
    have O22 : Aside0 (Own N w22 [cells gi #[.int .i64 a0_0, .int .i64 a0_1, .int .i64 a0_2] 39, cells gs #[.string a1_0, .string a1_1, .string a1_2] 40, cells gv #[.int .i64 1, .int .i64 a0_0, .string ⟨#[]⟩] 23, cells gx #[.string ⟨#[]⟩, .int .i64 3, .int .i64 a0_1, .string ⟨#[]⟩] 25, cells gy #[.string ⟨#[]⟩, .int .i64 3, .int .i64 a0_2, .string ⟨#[]⟩] 25, cells gt #[.int .i64 2, .int .i64 0, .string a1_0] 23, nrow k25 25 (.slice B1 2 d1) ([uS a1_1, uS a1_2]), cells gc #[.int .i64 2, .int .i64 0, .string (a1_0 ++ a1_1 ++ a1_2)] 23, nrow k25 25 (.slice B2 2 d2) [uA a0_1, uA a0_2], nrow k25 25 (.slice B3 2 d3) [uA a0_2, uA a0_1], nrow k25 25 (.slice B4 2 d4) [uA a0_1, uA a0_2]]) := ⟨o_⟩
    have K22 : Aside0 (KeepS N w w22) := ⟨K21.out.trans k_⟩
    clear a0a a0b a0c b0 a1a a1b a1c b1 a2a a2b a2c b2 a3a a3b a3c a3d b3 a4a a4b a4c a4d b4 a5a a5b a5c b5 a7a a7b a7c b7 O21 K21
    obtain ⟨a0a, a0b, a0c, b0⟩ := blk3_ (O22.out.blk (i := 0) rfl)
    obtain ⟨a1a, a1b, a1c, b1⟩ := blk3_ (O22.out.blk (i := 1) rfl)
    obtain ⟨a2a, a2b, a2c, b2⟩ := blk3_ (O22.out.blk (i := 2) rfl)
    obtain ⟨a3a, a3b, a3c, a3d, b3⟩ := blk4_ (O22.out.blk (i := 3) rfl)
    obtain ⟨a4a, a4b, a4c, a4d, b4⟩ := blk4_ (O22.out.blk (i := 4) rfl)
    obtain ⟨a5a, a5b, a5c, b5⟩ := blk3_ (O22.out.blk (i := 5) rfl)
    obtain ⟨a7a, a7b, a7c, b7⟩ := blk3_ (O22.out.blk (i := 7) rfl)
    clear o_ k_ hb_
    clear hHeld
    refine hK_.out _ _ ⟨((blk_cell (O22.out.blk (i := 1) rfl) 0).trans rfl), ((blk_cell (O22.out.blk (i := 1) rfl) 1).trans rfl), ((blk_cell (O22.out.blk (i := 1) rfl) 2).trans rfl), ((blk_cell (O22.out.blk (i := 2) rfl) 0).trans rfl), ((blk_cell (O22.out.blk (i := 2) rfl) 1).trans rfl), ((blk_cell (O22.out.blk (i := 2) rfl) 2).trans rfl), ((blk_cell (O22.out.blk (i := 3) rfl) 0).trans rfl), ((blk_cell (O22.out.blk (i := 3) rfl) 1).trans rfl), ((blk_cell (O22.out.blk (i := 3) rfl) 2).trans rfl), ((blk_cell (O22.out.blk (i := 3) rfl) 3).trans rfl), ((blk_cell (O22.out.blk (i := 4) rfl) 0).trans rfl), ((blk_cell (O22.out.blk (i := 4) rfl) 1).trans rfl), ((blk_cell (O22.out.blk (i := 4) rfl) 2).trans rfl), ((blk_cell (O22.out.blk (i := 4) rfl) 3).trans rfl), ((blk_cell (O22.out.blk (i := 5) rfl) 0).trans rfl), ((blk_cell (O22.out.blk (i := 5) rfl) 1).trans rfl), ((blk_cell (O22.out.blk (i := 5) rfl) 2).trans rfl), ((blk_cell (O22.out.blk (i := 7) rfl) 0).trans rfl), ((blk_cell (O22.out.blk (i := 7) rfl) 1).trans rfl), ((blk_cell (O22.out.blk (i := 7) rfl) 2).trans rfl)⟩ (fun hHeld => ?_)
    clear hK_ K_
    refine norm_ (a' := ?_) ?_ ?_
    rotate_left
    · simp only [Act.put, List.setIfInBounds_toArray, List.set_cons_zero, List.set_cons_succ, i64_w, i32_w]
      rfl
    refine pure_ (i := 23) (N := some 81) (v := ?_) (a' := ?_) #[true, true, true, true, true, true, true, true, true, true, true, true, true, true, true, true, true, true, true, true, true, true, true, true, false, false, false, false, false, false, false, false, false, false, false, false, false, false, false, false, false, false, false, false, false, false, false, false, false, false, false, false, false, false] rfl rfl (by kernel_rfl) (fun _ _ _ h => h) (Or.inl ⟨by rfl, ?_⟩) ?_ ?_
    rotate_left
    · intro w'
      go_simp
      with_reducible rfl
    rotate_left
    · simp only [Act.put, List.setIfInBounds_toArray, List.set_cons_zero, List.set_cons_succ, i64_w, i32_w]
      rfl
    refine pure_ (i := 24) (N := some 82) (v := ?_) (a' := ?_) #[true, true, true, true, true, true, true, true, true, true, true, true, true, true, true, true, true, true, true, true, true, true, true, true, true, false, false, false, false, false, false, false, false, false, false, false, false, false, false, false, false, false, false, false, false, false, false, false, false, false, false, false, false, false] rfl rfl (by kernel_rfl) (fun _ _ _ h => h) (Or.inl ⟨by rfl, ?_⟩) ?_ ?_
    rotate_left
    · intro w'
      go_simp
      with_reducible rfl
    rotate_left
    · simp only [Act.put, List.setIfInBounds_toArray, List.set_cons_zero, List.set_cons_succ, i64_w, i32_w]
      rfl
    refine pure_ (i := 25) (N := some 83) (v := ?_) (a' := ?_) #[true, true, true, true, true, true, true, true, true, true, true, true, true, true, true, true, true, true, true, true, true, true, true, true, true, true, false, false, false, false, false, false, false, false, false, false, false, false, false, false, false, false, false, false, false, false, false, false, false, false, false, false, false, false] rfl rfl (by kernel_rfl) (fun _ _ _ h => h) (Or.inl ⟨by rfl, ?_⟩) ?_ ?_
    rotate_left
    · intro w'
      go_simp
      with_reducible rfl
    rotate_left
    · simp only [Act.put, List.setIfInBounds_toArray, List.set_cons_zero, List.set_cons_succ, i64_w, i32_w]
      rfl
    refine pure_ (i := 28) (N := some 86) (v := ?_) (a' := ?_) #[true, true, true, true, true, true, true, true, true, true, true, true, true, true, true, true, true, true, true, true, true, true, true, true, true, true, false, false, true, false, false, false, false, false, false, false, false, false, false, false, false, false, false, false, false, false, false, false, false, false, false, false, false, false] rfl rfl (by kernel_rfl) (fun _ _ _ h => h) (Or.inl ⟨by rfl, ?_⟩) ?_ ?_
    rotate_left
    · intro w'
      go_simp
      with_reducible rfl
    rotate_left
    · simp only [Act.put, List.setIfInBounds_toArray, List.set_cons_zero, List.set_cons_succ, i64_w, i32_w]
      rfl
    refine pure_ (i := 30) (N := some 88) (v := ?_) (a' := ?_) #[true, true, true, true, true, true, true, true, true, true, true, true, true, true, true, true, true, true, true, true, true, true, true, true, true, true, false, false, true, false, true, false, false, false, false, false, false, false, false, false, false, false, false, false, false, false, false, false, false, false, false, false, false, false] rfl rfl (by kernel_rfl) (fun _ _ _ h => h) (Or.inl ⟨by rfl, ?_⟩) ?_ ?_
    rotate_left
    · intro w'
      go_simp
      with_reducible rfl
    rotate_left
    · simp only [Act.put, List.setIfInBounds_toArray, List.set_cons_zero, List.set_cons_succ, i64_w, i32_w]
      rfl
    refine take_ (i := 26) (N := some 84) (v := ?_) (a' := ?_) #[true, true, true, true, true, true, true, true, true, true, true, true, true, true, true, true, true, true, true, true, true, true, true, true, true, true, true, false, true, false, true, false, false, false, false, false, false, false, false, false, false, false, false, false, false, false, false, false, false, false, false, false, false, false] rfl rfl (by kernel_rfl) (fun _ _ _ h => h) (Or.inl ⟨by rfl, ?_⟩) hHeld ?_ ?_
    rotate_left
    · rintro w' ⟨s0, s1, s2, s3, s4, s5, s6, s7, s8, s9, s10, s11, s12, s13, s14, s15, s16, s17, s18, s19⟩
      go_simp
      with_reducible rfl
    rotate_left
    · simp only [Act.put, List.setIfInBounds_toArray, List.set_cons_zero, List.set_cons_succ, i64_w, i32_w]
      rfl
    refine take_ (i := 27) (N := some 85) (v := ?_) (a' := ?_) #[true, true, true, true, true, true, true, true, true, true, true, true, true, true, true, true, true, true, true, true, true, true, true, true, true, true, true, true, true, false, true, false, false, false, false, false, false, false, false, false, false, false, false, false, false, false, false, false, false, false, false, false, false, false] rfl rfl (by kernel_rfl) (fun _ _ _ h => h) (Or.inl ⟨by rfl, ?_⟩) hHeld ?_ ?_
    rotate_left
    · rintro w' ⟨s0, s1, s2, s3, s4, s5, s6, s7, s8, s9, s10, s11, s12, s13, s14, s15, s16, s17, s18, s19⟩
      go_simp
      with_reducible rfl
    rotate_left
    · simp only [Act.put, List.setIfInBounds_toArray, List.set_cons_zero, List.set_cons_succ, i64_w, i32_w]
      rfl
    refine take_ (i := 29) (N := some 87) (v := ?_) (a' := ?_) #[true, true, true, true, true, true, true, true, true, true, true, true, true, true, true, true, true, true, true, true, true, true, true, true, true, true, true, true, true, true, true, false, false, false, false, false, false, false, false, false, false, false, false, false, false, false, false, false, false, false, false, false, false, false] rfl rfl (by kernel_rfl) (fun _ _ _ h => h) (Or.inl ⟨by rfl, ?_⟩) hHeld ?_ ?_
    rotate_left
    · rintro w' ⟨s0, s1, s2, s3, s4, s5, s6, s7, s8, s9, s10, s11, s12, s13, s14, s15, s16, s17, s18, s19⟩
      go_simp
      with_reducible rfl
    rotate_left
    · simp only [Act.put, List.setIfInBounds_toArray, List.set_cons_zero, List.set_cons_succ, i64_w, i32_w]
      rfl
    refine take_ (i := 31) (N := some 89) (v := ?_) (a' := ?_) #[true, true, true, true, true, true, true, true, true, true, true, true, true, true, true, true, true, true, true, true, true, true, true, true, true, true, true, true, true, true, true, true, false, false, false, false, false, false, false, false, false, false, false, false, false, false, false, false, false, false, false, false, false, false] rfl rfl (by kernel_rfl) (fun _ _ _ h => h) (Or.inl ⟨by rfl, ?_⟩) hHeld ?_ ?_
    rotate_left
    · rintro w' ⟨s0, s1, s2, s3, s4, s5, s6, s7, s8, s9, s10, s11, s12, s13, s14, s15, s16, s17, s18, s19⟩
      go_simp
      with_reducible rfl
    rotate_left
    · simp only [Act.put, List.setIfInBounds_toArray, List.set_cons_zero, List.set_cons_succ, i64_w, i32_w]
      rfl
    refine pure_ (i := 32) (N := some 90) (v := ?_) (a' := ?_) #[true, true, true, true, true, true, true, true, true, true, true, true, true, true, true, true, true, true, true, true, true, true, true, true, true, true, true, true, true, true, true, true, true, false, false, false, false, false, false, false, false, false, false, false, false, false, false, false, false, false, false, false, false, false] rfl rfl (by kernel_rfl) (fun _ _ _ h => h) (Or.inl ⟨by rfl, ?_⟩) ?_ ?_
    rotate_left
    · intro w'
      go_simp
      with_reducible rfl
    rotate_left
    · simp only [Act.put, List.setIfInBounds_toArray, List.set_cons_zero, List.set_cons_succ, i64_w, i32_w]
      rfl
    refine pure_ (i := 33) (N := some 91) (v := ?_) (a' := ?_) #[true, true, true, true, true, true, true, true, true, true, true, true, true, true, true, true, true, true, true, true, true, true, true, true, true, true, true, true, true, true, true, true, true, true, false, false, false, false, false, false, false, false, false, false, false, false, false, false, false, false, false, false, false, false] rfl rfl (by kernel_rfl) (fun _ _ _ h => h) (Or.inl ⟨by rfl, ?_⟩) ?_ ?_
    rotate_left
    · intro w'
      go_simp
      with_reducible rfl
    rotate_left
    · simp only [Act.put, List.setIfInBounds_toArray, List.set_cons_zero, List.set_cons_succ, i64_w, i32_w]
      rfl
    refine one_ (i := 34) (N := some 92) #[true, true, true, true, true, true, true, true, true, true, true, true, true, true, true, true, true, true, true, true, true, true, true, true, true, true, true, true, true, true, true, true, true, true, true, false, false, false, false, false, false, false, false, false, false, false, false, false, false, false, false, false, false, false] rfl rfl (by kernel_rfl) (by decide) (fun K_ hK_ => ?_)
    refine goes_ Try.func11 (by kernel_rfl) rfl #[.agg #[.int .i64 2, .int .i64 0, .string a1_0], .agg #[.string ⟨#[]⟩, .int .i64 4, .int .i64 0, .string (a1_1 ++ a1_2)]] (by rfl) rfl rfl (by (try simp only [List.map_toArray, List.map_cons, List.map_nil]); first | done | rfl) ?_
    refine (value_Apply.calls 2 0 a1_0 none' 4 0 (a1_1 ++ a1_2) 2 0 (a1_0 ++ a1_1 ++ a1_2) _ (st_5 a1_0 a1_1 a1_2 HS0.out HS1.out HS2.out)).mono ?_
    rintro e_ w23 ⟨rfl, hb_⟩
    refine ⟨_, rfl, ?_⟩
    have o_ := O22.out.below hb_
    have k_ := KeepS.of_below (N := N) hb_
    have O23 : Aside0 (Own N w23 [cells gi #[.int .i64 a0_0, .int .i64 a0_1, .int .i64 a0_2] 39, cells gs #[.string a1_0, .string a1_1, .string a1_2] 40, cells gv #[.int .i64 1, .int .i64 a0_0, .string ⟨#[]⟩] 23, cells gx #[.string ⟨#[]⟩, .int .i64 3, .int .i64 a0_1, .string ⟨#[]⟩] 25, cells gy #[.string ⟨#[]⟩, .int .i64 3, .int .i64 a0_2, .string ⟨#[]⟩] 25, cells gt #[.int .i64 2, .int .i64 0, .string a1_0] 23, nrow k25 25 (.slice B1 2 d1) ([uS a1_1, uS a1_2]), cells gc #[.int .i64 2, .int .i64 0, .string (a1_0 ++ a1_1 ++ a1_2)] 23, nrow k25 25 (.slice B2 2 d2) [uA a0_1, uA a0_2], nrow k25 25 (.slice B3 2 d3) [uA a0_2, uA a0_1], nrow k25 25 (.slice B4 2 d4) [uA a0_1, uA a0_2]]) := ⟨o_⟩
    have K23 : Aside0 (KeepS N w w23) := ⟨K22.out.trans k_⟩
    clear a0a a0b a0c b0 a1a a1b a1c b1 a2a a2b a2c b2 a3a a3b a3c a3d b3 a4a a4b a4c a4d b4 a5a a5b a5c b5 a7a a7b a7c b7 O22 K22
    obtain ⟨a0a, a0b, a0c, b0⟩ := blk3_ (O23.out.blk (i := 0) rfl)
    obtain ⟨a1a, a1b, a1c, b1⟩ := blk3_ (O23.out.blk (i := 1) rfl)
    obtain ⟨a2a, a2b, a2c, b2⟩ := blk3_ (O23.out.blk (i := 2) rfl)
    obtain ⟨a3a, a3b, a3c, a3d, b3⟩ := blk4_ (O23.out.blk (i := 3) rfl)
    obtain ⟨a4a, a4b, a4c, a4d, b4⟩ := blk4_ (O23.out.blk (i := 4) rfl)
    obtain ⟨a5a, a5b, a5c, b5⟩ := blk3_ (O23.out.blk (i := 5) rfl)
    obtain ⟨a7a, a7b, a7c, b7⟩ := blk3_ (O23.out.blk (i := 7) rfl)
    clear o_ k_ hb_
    clear hHeld
    refine hK_.out _ _ ⟨((blk_cell (O23.out.blk (i := 1) rfl) 0).trans rfl), ((blk_cell (O23.out.blk (i := 1) rfl) 1).trans rfl), ((blk_cell (O23.out.blk (i := 1) rfl) 2).trans rfl), ((blk_cell (O23.out.blk (i := 2) rfl) 0).trans rfl), ((blk_cell (O23.out.blk (i := 2) rfl) 1).trans rfl), ((blk_cell (O23.out.blk (i := 2) rfl) 2).trans rfl), ((blk_cell (O23.out.blk (i := 3) rfl) 0).trans rfl), ((blk_cell (O23.out.blk (i := 3) rfl) 1).trans rfl), ((blk_cell (O23.out.blk (i := 3) rfl) 2).trans rfl), ((blk_cell (O23.out.blk (i := 3) rfl) 3).trans rfl), ((blk_cell (O23.out.blk (i := 4) rfl) 0).trans rfl), ((blk_cell (O23.out.blk (i := 4) rfl) 1).trans rfl), ((blk_cell (O23.out.blk (i := 4) rfl) 2).trans rfl), ((blk_cell (O23.out.blk (i := 4) rfl) 3).trans rfl), ((blk_cell (O23.out.blk (i := 5) rfl) 0).trans rfl), ((blk_cell (O23.out.blk (i := 5) rfl) 1).trans rfl), ((blk_cell (O23.out.blk (i := 5) rfl) 2).trans rfl), ((blk_cell (O23.out.blk (i := 7) rfl) 0).trans rfl), ((blk_cell (O23.out.blk (i := 7) rfl) 1).trans rfl), ((blk_cell (O23.out.blk (i := 7) rfl) 2).trans rfl)⟩ (fun hHeld => ?_)
    clear hK_ K_
    refine norm_ (a' := ?_) ?_ ?_
    rotate_left
    · simp only [Act.put, List.setIfInBounds_toArray, List.set_cons_zero, List.set_cons_succ, i64_w, i32_w]
      rfl
    refine pure_ (i := 35) (N := some 93) (v := ?_) (a' := ?_) #[true, true, true, true, true, true, true, true, true, true, true, true, true, true, true, true, true, true, true, true, true, true, true, true, true, true, true, true, true, true, true, true, true, true, true, true, false, false, false, false, false, false, false, false, false, false, false, false, false, false, false, false, false, false] rfl rfl (by kernel_rfl) (fun _ _ _ h => h) (Or.inl ⟨by rfl, ?_⟩) ?_ ?_
    rotate_left
    · intro w'
      go_simp
      with_reducible rfl
    rotate_left
    · simp only [Act.put, List.setIfInBounds_toArray, List.set_cons_zero, List.set_cons_succ, i64_w, i32_w]
      rfl
    refine pure_ (i := 36) (N := some 94) (v := ?_) (a' := ?_) #[true, true, true, true, true, true, true, true, true, true, true, true, true, true, true, true, true, true, true, true, true, true, true, true, true, true, true, true, true, true, true, true, true, true, true, true, true, false, false, false, false, false, false, false, false, false, false, false, false, false, false, false, false, false] rfl rfl (by kernel_rfl) (fun _ _ _ h => h) (Or.inl ⟨by rfl, ?_⟩) ?_ ?_
    rotate_left
    · intro w'
      go_simp
      with_reducible rfl
    rotate_left
    · simp only [Act.put, List.setIfInBounds_toArray, List.set_cons_zero, List.set_cons_succ, i64_w, i32_w]
      rfl
    refine pure_ (i := 37) (N := some 95) (v := ?_) (a' := ?_) #[true, true, true, true, true, true, true, true, true, true, true, true, true, true, true, true, true, true, true, true, true, true, true, true, true, true, true, true, true, true, true, true, true, true, true, true, true, true, false, false, false, false, false, false, false, false, false, false, false, false, false, false, false, false] rfl rfl (by kernel_rfl) (fun _ _ _ h => h) (Or.inl ⟨by rfl, ?_⟩) ?_ ?_
    rotate_left
    · intro w'
      go_simp
      with_reducible rfl
    rotate_left
    · simp only [Act.put, List.setIfInBounds_toArray, List.set_cons_zero, List.set_cons_succ, i64_w, i32_w]
      rfl
    refine pure_ (i := 39) (N := some 97) (v := ?_) (a' := ?_) #[true, true, true, true, true, true, true, true, true, true, true, true, true, true, true, true, true, true, true, true, true, true, true, true, true, true, true, true, true, true, true, true, true, true, true, true, true, true, false, true, false, false, false, false, false, false, false, false, false, false, false, false, false, false] rfl rfl (by kernel_rfl) (fun _ _ _ h => h) (Or.inl ⟨by rfl, ?_⟩) ?_ ?_
    rotate_left
    · intro w'
      go_simp
      with_reducible rfl
    rotate_left
    · simp only [Act.put, List.setIfInBounds_toArray, List.set_cons_zero, List.set_cons_succ, i64_w, i32_w]
      rfl
    refine take_ (i := 38) (N := some 96) (v := ?_) (a' := ?_) #[true, true, true, true, true, true, true, true, true, true, true, true, true, true, true, true, true, true, true, true, true, true, true, true, true, true, true, true, true, true, true, true, true, true, true, true, true, true, true, true, false, false, false, false, false, false, false, false, false, false, false, false, false, false] rfl rfl (by kernel_rfl) (fun _ _ _ h => h) (Or.inl ⟨by rfl, ?_⟩) hHeld ?_ ?_
    rotate_left
    · rintro w' ⟨s0, s1, s2, s3, s4, s5, s6, s7, s8, s9, s10, s11, s12, s13, s14, s15, s16, s17, s18, s19⟩
      go_simp
      with_reducible rfl
    rotate_left
    · simp only [Act.put, List.setIfInBounds_toArray, List.set_cons_zero, List.set_cons_succ, i64_w, i32_w]
      rfl
    refine take_ (i := 40) (N := some 98) (v := ?_) (a' := ?_) #[true, true, true, true, true, true, true, true, true, true, true, true, true, true, true, true, true, true, true, true, true, true, true, true, true, true, true, true, true, true, true, true, true, true, true, true, true, true, true, true, true, false, false, false, false, false, false, false, false, false, false, false, false, false] rfl rfl (by kernel_rfl) (fun _ _ _ h => h) (Or.inl ⟨by rfl, ?_⟩) hHeld ?_ ?_
    rotate_left
    · rintro w' ⟨s0, s1, s2, s3, s4, s5, s6, s7, s8, s9, s10, s11, s12, s13, s14, s15, s16, s17, s18, s19⟩
      go_simp
      with_reducible rfl
    rotate_left
    · simp only [Act.put, List.setIfInBounds_toArray, List.set_cons_zero, List.set_cons_succ, i64_w, i32_w]
      rfl
    refine pure_ (i := 41) (N := some 99) (v := ?_) (a' := ?_) #[true, true, true, true, true, true, true, true, true, true, true, true, true, true, true, true, true, true, true, true, true, true, true, true, true, true, true, true, true, true, true, true, true, true, true, true, true, true, true, true, true, true, false, false, false, false, false, false, false, false, false, false, false, false] rfl rfl (by kernel_rfl) (fun _ _ _ h => h) (Or.inl ⟨by rfl, ?_⟩) ?_ ?_
    rotate_left
    · intro w'
      go_simp
      with_reducible rfl
    rotate_left
    · simp only [Act.put, List.setIfInBounds_toArray, List.set_cons_zero, List.set_cons_succ, i64_w, i32_w]
      rfl
    refine take_ (i := 43) (N := some 101) (v := ?_) (a' := ?_) #[true, true, true, true, true, true, true, true, true, true, true, true, true, true, true, true, true, true, true, true, true, true, true, true, true, true, true, true, true, true, true, true, true, true, true, true, true, true, true, true, true, true, false, true, false, false, false, false, false, false, false, false, false, false] rfl rfl (by kernel_rfl) (fun _ _ _ h => h) (Or.inl ⟨by rfl, ?_⟩) hHeld ?_ ?_
    rotate_left
    · rintro w' ⟨s0, s1, s2, s3, s4, s5, s6, s7, s8, s9, s10, s11, s12, s13, s14, s15, s16, s17, s18, s19⟩
      go_simp
      with_reducible rfl
    rotate_left
    · simp only [Act.put, List.setIfInBounds_toArray, List.set_cons_zero, List.set_cons_succ, i64_w, i32_w]
      rfl
    refine one_ (i := 42) (N := some 100) #[true, true, true, true, true, true, true, true, true, true, true, true, true, true, true, true, true, true, true, true, true, true, true, true, true, true, true, true, true, true, true, true, true, true, true, true, true, true, true, true, true, true, true, true, false, false, false, false, false, false, false, false, false, false] rfl rfl (by kernel_rfl) (by decide) (fun K_ hK_ => ?_)
    refine goes_ Try.func11 (by kernel_rfl) rfl #[.agg #[.int .i64 1, .int .i64 a0_0, .string ⟨#[]⟩], .agg #[.string ⟨#[]⟩, .int .i64 4, .int .i64 0, .string a1_1]] (by rfl) rfl rfl (by (try simp only [List.map_toArray, List.map_cons, List.map_nil]); first | done | rfl) ?_
    refine (value_Apply.calls 1 a0_0 none' none' 4 0 a1_1 1 a0_0 none' _ (st_6 a0_0 a1_1 HS1.out)).mono ?_
    rintro e_ w24 ⟨rfl, hb_⟩
    refine ⟨_, rfl, ?_⟩
    have o_ := O23.out.below hb_
    have k_ := KeepS.of_below (N := N) hb_
    have O24 : Aside0 (Own N w24 [cells gi #[.int .i64 a0_0, .int .i64 a0_1, .int .i64 a0_2] 39, cells gs #[.string a1_0, .string a1_1, .string a1_2] 40, cells gv #[.int .i64 1, .int .i64 a0_0, .string ⟨#[]⟩] 23, cells gx #[.string ⟨#[]⟩, .int .i64 3, .int .i64 a0_1, .string ⟨#[]⟩] 25, cells gy #[.string ⟨#[]⟩, .int .i64 3, .int .i64 a0_2, .string ⟨#[]⟩] 25, cells gt #[.int .i64 2, .int .i64 0, .string a1_0] 23, nrow k25 25 (.slice B1 2 d1) ([uS a1_1, uS a1_2]), cells gc #[.int .i64 2, .int .i64 0, .string (a1_0 ++ a1_1 ++ a1_2)] 23, nrow k25 25 (.slice B2 2 d2) [uA a0_1, uA a0_2], nrow k25 25 (.slice B3 2 d3) [uA a0_2, uA a0_1], nrow k25 25 (.slice B4 2 d4) [uA a0_1, uA a0_2]]) := ⟨o_⟩
    have K24 : Aside0 (KeepS N w w24) := ⟨K23.out.trans k_⟩
    clear a0a a0b a0c b0 a1a a1b a1c b1 a2a a2b a2c b2 a3a a3b a3c a3d b3 a4a a4b a4c a4d b4 a5a a5b a5c b5 a7a a7b a7c b7 O23 K23
    obtain ⟨a0a, a0b, a0c, b0⟩ := blk3_ (O24.out.blk (i := 0) rfl)
    obtain ⟨a1a, a1b, a1c, b1⟩ := blk3_ (O24.out.blk (i := 1) rfl)
    obtain ⟨a2a, a2b, a2c, b2⟩ := blk3_ (O24.out.blk (i := 2) rfl)
    obtain ⟨a3a, a3b, a3c, a3d, b3⟩ := blk4_ (O24.out.blk (i := 3) rfl)
    obtain ⟨a4a, a4b, a4c, a4d, b4⟩ := blk4_ (O24.out.blk (i := 4) rfl)
    obtain ⟨a5a, a5b, a5c, b5⟩ := blk3_ (O24.out.blk (i := 5) rfl)
    obtain ⟨a7a, a7b, a7c, b7⟩ := blk3_ (O24.out.blk (i := 7) rfl)
    clear o_ k_ hb_
    clear hHeld
    refine hK_.out _ _ ⟨((blk_cell (O24.out.blk (i := 1) rfl) 0).trans rfl), ((blk_cell (O24.out.blk (i := 1) rfl) 1).trans rfl), ((blk_cell (O24.out.blk (i := 1) rfl) 2).trans rfl), ((blk_cell (O24.out.blk (i := 2) rfl) 0).trans rfl), ((blk_cell (O24.out.blk (i := 2) rfl) 1).trans rfl), ((blk_cell (O24.out.blk (i := 2) rfl) 2).trans rfl), ((blk_cell (O24.out.blk (i := 3) rfl) 0).trans rfl), ((blk_cell (O24.out.blk (i := 3) rfl) 1).trans rfl), ((blk_cell (O24.out.blk (i := 3) rfl) 2).trans rfl), ((blk_cell (O24.out.blk (i := 3) rfl) 3).trans rfl), ((blk_cell (O24.out.blk (i := 4) rfl) 0).trans rfl), ((blk_cell (O24.out.blk (i := 4) rfl) 1).trans rfl), ((blk_cell (O24.out.blk (i := 4) rfl) 2).trans rfl), ((blk_cell (O24.out.blk (i := 4) rfl) 3).trans rfl), ((blk_cell (O24.out.blk (i := 5) rfl) 0).trans rfl), ((blk_cell (O24.out.blk (i := 5) rfl) 1).trans rfl), ((blk_cell (O24.out.blk (i := 5) rfl) 2).trans rfl), ((blk_cell (O24.out.blk (i := 7) rfl) 0).trans rfl), ((blk_cell (O24.out.blk (i := 7) rfl) 1).trans rfl), ((blk_cell (O24.out.blk (i := 7) rfl) 2).trans rfl)⟩ (fun hHeld => ?_)
    clear hK_ K_
    refine norm_ (a' := ?_) ?_ ?_
    rotate_left
    · simp only [Act.put, List.setIfInBounds_toArray, List.set_cons_zero, List.set_cons_succ, i64_w, i32_w]
      rfl
    refine pure_ (i := 44) (N := some 102) (v := ?_) (a' := ?_) #[true, true, true, true, true, true, true, true, true, true, true, true, true, true, true, true, true, true, true, true, true, true, true, true, true, true, true, true, true, true, true, true, true, true, true, true, true, true, true, true, true, true, true, true, true, false, false, false, false, false, false, false, false, false] rfl rfl (by kernel_rfl) (fun _ _ _ h => h) (Or.inl ⟨by rfl, ?_⟩) ?_ ?_
    rotate_left
    · intro w'
      go_simp
      with_reducible rfl
    rotate_left
    · simp only [Act.put, List.setIfInBounds_toArray, List.set_cons_zero, List.set_cons_succ, i64_w, i32_w]
      rfl
    refine pure_ (i := 45) (N := some 103) (v := ?_) (a' := ?_) #[true, true, true, true, true, true, true, true, true, true, true, true, true, true, true, true, true, true, true, true, true, true, true, true, true, true, true, true, true, true, true, true, true, true, true, true, true, true, true, true, true, true, true, true, true, true, false, false, false, false, false, false, false, false] rfl rfl (by kernel_rfl) (fun _ _ _ h => h) (Or.inl ⟨by rfl, ?_⟩) ?_ ?_
    rotate_left
    · intro w'
      go_simp
      with_reducible rfl
    rotate_left
    · simp only [Act.put, List.setIfInBounds_toArray, List.set_cons_zero, List.set_cons_succ, i64_w, i32_w]
      rfl
    refine pure_ (i := 46) (N := some 104) (v := ?_) (a' := ?_) #[true, true, true, true, true, true, true, true, true, true, true, true, true, true, true, true, true, true, true, true, true, true, true, true, true, true, true, true, true, true, true, true, true, true, true, true, true, true, true, true, true, true, true, true, true, true, true, false, false, false, false, false, false, false] rfl rfl (by kernel_rfl) (fun _ _ _ h => h) (Or.inl ⟨by rfl, ?_⟩) ?_ ?_
    rotate_left
    · intro w'
      go_simp
      with_reducible rfl
    rotate_left
    · simp only [Act.put, List.setIfInBounds_toArray, List.set_cons_zero, List.set_cons_succ, i64_w, i32_w]
      rfl
    refine take_ (i := 47) (N := some 105) (v := ?_) (a' := ?_) #[true, true, true, true, true, true, true, true, true, true, true, true, true, true, true, true, true, true, true, true, true, true, true, true, true, true, true, true, true, true, true, true, true, true, true, true, true, true, true, true, true, true, true, true, true, true, true, true, false, false, false, false, false, false] rfl rfl (by kernel_rfl) (fun _ _ _ h => h) (Or.inl ⟨by rfl, ?_⟩) hHeld ?_ ?_
    rotate_left
    · rintro w' ⟨s0, s1, s2, s3, s4, s5, s6, s7, s8, s9, s10, s11, s12, s13, s14, s15, s16, s17, s18, s19⟩
      go_simp
      with_reducible rfl
    rotate_left
    · simp only [Act.put, List.setIfInBounds_toArray, List.set_cons_zero, List.set_cons_succ, i64_w, i32_w]
      rfl
    refine take_ (i := 48) (N := some 106) (v := ?_) (a' := ?_) #[true, true, true, true, true, true, true, true, true, true, true, true, true, true, true, true, true, true, true, true, true, true, true, true, true, true, true, true, true, true, true, true, true, true, true, true, true, true, true, true, true, true, true, true, true, true, true, true, true, false, false, false, false, false] rfl rfl (by kernel_rfl) (fun _ _ _ h => h) (Or.inl ⟨by rfl, ?_⟩) hHeld ?_ ?_
    rotate_left
    · rintro w' ⟨s0, s1, s2, s3, s4, s5, s6, s7, s8, s9, s10, s11, s12, s13, s14, s15, s16, s17, s18, s19⟩
      go_simp
      with_reducible rfl
    rotate_left
    · simp only [Act.put, List.setIfInBounds_toArray, List.set_cons_zero, List.set_cons_succ, i64_w, i32_w]
      rfl
    refine take_ (i := 50) (N := some 108) (v := ?_) (a' := ?_) #[true, true, true, true, true, true, true, true, true, true, true, true, true, true, true, true, true, true, true, true, true, true, true, true, true, true, true, true, true, true, true, true, true, true, true, true, true, true, true, true, true, true, true, true, true, true, true, true, true, false, true, false, false, false] rfl rfl (by kernel_rfl) (fun _ _ _ h => h) (Or.inl ⟨by rfl, ?_⟩) hHeld ?_ ?_
    rotate_left
    · rintro w' ⟨s0, s1, s2, s3, s4, s5, s6, s7, s8, s9, s10, s11, s12, s13, s14, s15, s16, s17, s18, s19⟩
      go_simp
      with_reducible rfl
    rotate_left
    · simp only [Act.put, List.setIfInBounds_toArray, List.set_cons_zero, List.set_cons_succ, i64_w, i32_w]
      rfl
    refine one_ (i := 49) (N := some 107) #[true, true, true, true, true, true, true, true, true, true, true, true, true, true, true, true, true, true, true, true, true, true, true, true, true, true, true, true, true, true, true, true, true, true, true, true, true, true, true, true, true, true, true, true, true, true, true, true, true, true, true, false, false, false] rfl rfl (by kernel_rfl) (by decide) (fun K_ hK_ => ?_)
    refine goes_ Try.func11 (by kernel_rfl) rfl #[.agg #[.int .i64 2, .int .i64 0, .string a1_0], .agg #[.string ⟨#[]⟩, .int .i64 3, .int .i64 a0_1, .string ⟨#[]⟩]] (by rfl) rfl rfl (by (try simp only [List.map_toArray, List.map_cons, List.map_nil]); first | done | rfl) ?_
    refine (value_Apply.calls 2 0 a1_0 none' 3 a0_1 none' 2 0 a1_0 _ (st_7 a0_1 a1_0 HS0.out)).mono ?_
    rintro e_ w25 ⟨rfl, hb_⟩
    refine ⟨_, rfl, ?_⟩
    have o_ := O24.out.below hb_
    have k_ := KeepS.of_below (N := N) hb_
    have O25 : Aside0 (Own N w25 [cells gi #[.int .i64 a0_0, .int .i64 a0_1, .int .i64 a0_2] 39, cells gs #[.string a1_0, .string a1_1, .string a1_2] 40, cells gv #[.int .i64 1, .int .i64 a0_0, .string ⟨#[]⟩] 23, cells gx #[.string ⟨#[]⟩, .int .i64 3, .int .i64 a0_1, .string ⟨#[]⟩] 25, cells gy #[.string ⟨#[]⟩, .int .i64 3, .int .i64 a0_2, .string ⟨#[]⟩] 25, cells gt #[.int .i64 2, .int .i64 0, .string a1_0] 23, nrow k25 25 (.slice B1 2 d1) ([uS a1_1, uS a1_2]), cells gc #[.int .i64 2, .int .i64 0, .string (a1_0 ++ a1_1 ++ a1_2)] 23, nrow k25 25 (.slice B2 2 d2) [uA a0_1, uA a0_2], nrow k25 25 (.slice B3 2 d3) [uA a0_2, uA a0_1], nrow k25 25 (.slice B4 2 d4) [uA a0_1, uA a0_2]]) := ⟨o_⟩
    have K25 : Aside0 (KeepS N w w25) := ⟨K24.out.trans k_⟩
    clear a0a a0b a0c b0 a1a a1b a1c b1 a2a a2b a2c b2 a3a a3b a3c a3d b3 a4a a4b a4c a4d b4 a5a a5b a5c b5 a7a a7b a7c b7 O24 K24
    obtain ⟨a0a, a0b, a0c, b0⟩ := blk3_ (O25.out.blk (i := 0) rfl)
    obtain ⟨a1a, a1b, a1c, b1⟩ := blk3_ (O25.out.blk (i := 1) rfl)
    obtain ⟨a2a, a2b, a2c, b2⟩ := blk3_ (O25.out.blk (i := 2) rfl)
    obtain ⟨a3a, a3b, a3c, a3d, b3⟩ := blk4_ (O25.out.blk (i := 3) rfl)
    obtain ⟨a4a, a4b, a4c, a4d, b4⟩ := blk4_ (O25.out.blk (i := 4) rfl)
    obtain ⟨a5a, a5b, a5c, b5⟩ := blk3_ (O25.out.blk (i := 5) rfl)
    obtain ⟨a7a, a7b, a7c, b7⟩ := blk3_ (O25.out.blk (i := 7) rfl)
    clear o_ k_ hb_
    clear hHeld
    refine hK_.out _ _ ⟨((blk_cell (O25.out.blk (i := 1) rfl) 0).trans rfl), ((blk_cell (O25.out.blk (i := 1) rfl) 1).trans rfl), ((blk_cell (O25.out.blk (i := 1) rfl) 2).trans rfl), ((blk_cell (O25.out.blk (i := 2) rfl) 0).trans rfl), ((blk_cell (O25.out.blk (i := 2) rfl) 1).trans rfl), ((blk_cell (O25.out.blk (i := 2) rfl) 2).trans rfl), ((blk_cell (O25.out.blk (i := 3) rfl) 0).trans rfl), ((blk_cell (O25.out.blk (i := 3) rfl) 1).trans rfl), ((blk_cell (O25.out.blk (i := 3) rfl) 2).trans rfl), ((blk_cell (O25.out.blk (i := 3) rfl) 3).trans rfl), ((blk_cell (O25.out.blk (i := 4) rfl) 0).trans rfl), ((blk_cell (O25.out.blk (i := 4) rfl) 1).trans rfl), ((blk_cell (O25.out.blk (i := 4) rfl) 2).trans rfl), ((blk_cell (O25.out.blk (i := 4) rfl) 3).trans rfl), ((blk_cell (O25.out.blk (i := 5) rfl) 0).trans rfl), ((blk_cell (O25.out.blk (i := 5) rfl) 1).trans rfl), ((blk_cell (O25.out.blk (i := 5) rfl) 2).trans rfl), ((blk_cell (O25.out.blk (i := 7) rfl) 0).trans rfl), ((blk_cell (O25.out.blk (i := 7) rfl) 1).trans rfl), ((blk_cell (O25.out.blk (i := 7) rfl) 2).trans rfl)⟩ (fun hHeld => ?_)
    clear hK_ K_
    refine norm_ (a' := ?_) ?_ ?_
    rotate_left
    · simp only [Act.put, List.setIfInBounds_toArray, List.set_cons_zero, List.set_cons_succ, i64_w, i32_w]
      rfl
    refine pure_ (i := 51) (N := some 109) (v := ?_) (a' := ?_) #[true, true, true, true, true, true, true, true, true, true, true, true, true, true, true, true, true, true, true, true, true, true, true, true, true, true, true, true, true, true, true, true, true, true, true, true, true, true, true, true, true, true, true, true, true, true, true, true, true, true, true, true, false, false] rfl rfl (by kernel_rfl) (fun _ _ _ h => h) (Or.inl ⟨by rfl, ?_⟩) ?_ ?_
    rotate_left
    · intro w'
      go_simp
      with_reducible rfl
    rotate_left
    · simp only [Act.put, List.setIfInBounds_toArray, List.set_cons_zero, List.set_cons_succ, i64_w, i32_w]
      rfl
    refine pure_ (i := 52) (N := some 110) (v := ?_) (a' := ?_) #[true, true, true, true, true, true, true, true, true, true, true, true, true, true, true, true, true, true, true, true, true, true, true, true, true, true, true, true, true, true, true, true, true, true, true, true, true, true, true, true, true, true, true, true, true, true, true, true, true, true, true, true, true, false] rfl rfl (by kernel_rfl) (fun _ _ _ h => h) (Or.inl ⟨by rfl, ?_⟩) ?_ ?_
    rotate_left
    · intro w'
      go_simp
      with_reducible rfl
    rotate_left
    · simp only [Act.put, List.setIfInBounds_toArray, List.set_cons_zero, List.set_cons_succ, i64_w, i32_w]
      rfl
    refine pure_ (i := 53) (N := some 4) (v := ?_) (a' := ?_) #[true, true, true, true, true, true, true, true, true, true, true, true, true, true, true, true, true, true, true, true, true, true, true, true, true, true, true, true, true, true, true, true, true, true, true, true, true, true, true, true, true, true, true, true, true, true, true, true, true, true, true, true, true, true] rfl rfl (by kernel_rfl) (fun _ _ _ h => h) (Or.inl ⟨by rfl, ?_⟩) ?_ ?_
    rotate_left
    · intro w'
      go_simp
      with_reducible rfl
    rotate_left
    · simp only [Act.put, List.setIfInBounds_toArray, List.set_cons_zero, List.set_cons_succ, i64_w, i32_w]
      rfl
    refine done_ (by kernel_rfl) ?_
    clear hHeld
    go_wp2
    go_ret
    exact ⟨rfl, K25.out.below (Nat.le_refl _) (fun k hk => by rw [HN.out]; exact hk)⟩
end Go.Proofs.Ytcmldinhecjcmaa.J
