/- What the given program's Journal does: New, Len and Add, as turns of a resource: a plain walk through their text. -/
import Derived.Test.YtfpegjdplggkpaaYJournalLastsJ0
import Derived.Test.YtfpegjdplggkpaaYJournalLastsQ3
namespace Go.Proofs.Ytfpegjdplggkpaa.J
set_option linter.unusedSimpArgs false
set_option linter.unusedVariables false
open Go Go.RowKit Go.Proofs.YtfpegjdplggkpaaW.PrintWords Go.Proofs.YtfpegjdplggkpaaW.PrintLast Go.Proofs.YtfpegjdplggkpaaW.PrintMore Go.Proofs.Ytfpegjdplggkpaa.Q Go.Proofs.Ytfpegjdplggkpaa.Sep
attribute [local go_sem] max2_int min2_int max_two min_two max_three min_three max_four min_four
set_option maxHeartbeats 8000000 in
set_option maxRecDepth 100000 in
theorem New {N : Nat → Prop} {w : World} (o m : Int) (h : Own N w []) :
    Calls Try.prog 8 #[.int .i64 o, .int .i64 m] w fun e w' => ∃ g, e = .returned (.pointer (some ⟨g, 0, none⟩)) ∧ Own N w' [Obj3 52 g o (mn (mx m 1) 1099511627776) []] ∧ KeepS N w w' := by
  have O0 : Aside0 (Own N w []) := ⟨h⟩
  have K0 : Aside0 (KeepS N w w) := ⟨KeepS.refl _ _⟩
  go_enter Try.func8, Try.ntmps8
  go_wp2_with (first | ((with_reducible refine gate_dst (N := 10) rfl ?_); refine own_box rfl (D := 10) rfl (cs := #[.int .i64 o, .int .i64 (mn (mx m 1) 1099511627776), .slice none 0 0]) (t := 52) ?hr O0.out ?_; (case hr => first | (go_simp; done) | (go_simp; rfl)); intro g1 w1 o_ k_; have O1 : Aside0 (Own N w1 [cells g1 #[.int .i64 o, .int .i64 (mn (mx m 1) 1099511627776), .slice none 0 0] 52]) := ⟨o_⟩; have K1 : Aside0 (KeepS N w w1) := ⟨K0.out.trans k_⟩; clear O0 K0; have c1_0_0 : w1.cell? ⟨g1, 0, none⟩ = some (.int .i64 o) := (blk_cell (O1.out.blk (i := 0) rfl) 0).trans rfl; have f1_0_0 : w1.frozen? ⟨g1, 0, none⟩ = false := blk_frozen (O1.out.blk (i := 0) rfl) 0; have c1_0_1 : w1.cell? ⟨g1, 1, none⟩ = some (.int .i64 (mn (mx m 1) 1099511627776)) := (blk_cell (O1.out.blk (i := 0) rfl) 1).trans rfl; have f1_0_1 : w1.frozen? ⟨g1, 1, none⟩ = false := blk_frozen (O1.out.blk (i := 0) rfl) 1; have c1_0_2 : w1.cell? ⟨g1, 2, none⟩ = some (.slice none 0 0) := (blk_cell (O1.out.blk (i := 0) rfl) 2).trans rfl; have f1_0_2 : w1.frozen? ⟨g1, 2, none⟩ = false := blk_frozen (O1.out.blk (i := 0) rfl) 2; clear o_ k_))
  all_goals go_ret
  all_goals refine ⟨_, rfl, ?_, K1.out⟩
  all_goals exact (Obj3.shut (i := 0) (j := 1) (L := []) (O1.out.push_emp (nrow k32 32 (.slice none 0 0) []) (fun w => Kd.N_nil _ _ _ _ _)) rfl rfl (by decide)).take 1
set_option maxHeartbeats 8000000 in
set_option maxRecDepth 100000 in
theorem Len {N : Nat → Prop} {w : World} {g : Nat} {o m : Int} {L : List S32} (h : Own N w [Obj3 52 g o m L]) :
    Calls Try.prog 15 #[.pointer (some ⟨g, 0, none⟩)] w fun e w' => e = .returned (.int .i64 L.length) ∧ Own N w' [Obj3 52 g o m L] ∧ KeepS N w w' := by
  obtain ⟨A0, c0, h2⟩ := Obj3.open_ h (i := 0) rfl
  have O0 : Aside0 (Own N w [cells g #[.int .i64 o, .int .i64 m, .slice A0 L.length c0] 52, nrow k32 32 (.slice A0 L.length c0) L]) := ⟨h2⟩
  have K0 : Aside0 (KeepS N w w) := ⟨KeepS.refl _ _⟩
  have c0_0_0 : w.cell? ⟨g, 0, none⟩ = some (.int .i64 o) := (blk_cell (O0.out.blk (i := 0) rfl) 0).trans rfl
  have f0_0_0 : w.frozen? ⟨g, 0, none⟩ = false := blk_frozen (O0.out.blk (i := 0) rfl) 0
  have c0_0_1 : w.cell? ⟨g, 1, none⟩ = some (.int .i64 m) := (blk_cell (O0.out.blk (i := 0) rfl) 1).trans rfl
  have f0_0_1 : w.frozen? ⟨g, 1, none⟩ = false := blk_frozen (O0.out.blk (i := 0) rfl) 1
  have c0_0_2 : w.cell? ⟨g, 2, none⟩ = some (.slice A0 L.length c0) := (blk_cell (O0.out.blk (i := 0) rfl) 2).trans rfl
  have f0_0_2 : w.frozen? ⟨g, 2, none⟩ = false := blk_frozen (O0.out.blk (i := 0) rfl) 2
  clear h2
  have H0 := Aside0.mk h
  clear h
  go_enter Try.func15, Try.ntmps15
  go_wp2
  go_ret
  exact ⟨rfl, H0.out, K0.out⟩
set_option maxHeartbeats 8000000 in
set_option maxRecDepth 100000 in
theorem Add_full {N : Nat → Prop} {w : World} {g : Nat} {o m : Int} {L : List S32} (B : Option Addr) (c : Nat) (ups : List S50) (h : Own N w [Obj3 52 g o m L]) (hr : Kd.F k50 w N B ups.length ups) (hc : ups.length ≤ c) (hL : L.length ≤ 1000000) (hu : ups.length ≤ 1000000) (hq : ((L.length : Int) == m) = true) :
    Calls Try.prog 12 #[.pointer (some ⟨g, 0, none⟩), .slice B ups.length c] w fun e_ w' => ∃ A1 c1, e_ = .returned (.tuple #[.agg #[.int .i64 0, .int .i64 0, .slice A1 (([] : List S50)).length c1], .int .i64 8]) ∧ Own N w' [Obj3 52 g o m (L), nrow k50 50 (.slice A1 (([] : List S50)).length c1) (([] : List S50))] ∧ KeepS N w w' := by
  obtain ⟨A0, c0, h2⟩ := Obj3.open_ h (i := 0) rfl
  have HR_0 : Aside0 (Kd.F k50 w N B ups.length ups) := ⟨hr⟩
  have HC := Aside0.mk hc
  have O0 : Aside0 (Own N w [cells g #[.int .i64 o, .int .i64 m, .slice A0 L.length c0] 52, nrow k32 32 (.slice A0 L.length c0) L]) := ⟨h2⟩
  have K0 : Aside0 (KeepS N w w) := ⟨KeepS.refl _ _⟩
  have c0_0_0 : w.cell? ⟨g, 0, none⟩ = some (.int .i64 o) := (blk_cell (O0.out.blk (i := 0) rfl) 0).trans rfl
  have f0_0_0 : w.frozen? ⟨g, 0, none⟩ = false := blk_frozen (O0.out.blk (i := 0) rfl) 0
  have c0_0_1 : w.cell? ⟨g, 1, none⟩ = some (.int .i64 m) := (blk_cell (O0.out.blk (i := 0) rfl) 1).trans rfl
  have f0_0_1 : w.frozen? ⟨g, 1, none⟩ = false := blk_frozen (O0.out.blk (i := 0) rfl) 1
  have c0_0_2 : w.cell? ⟨g, 2, none⟩ = some (.slice A0 L.length c0) := (blk_cell (O0.out.blk (i := 0) rfl) 2).trans rfl
  have f0_0_2 : w.frozen? ⟨g, 2, none⟩ = false := blk_frozen (O0.out.blk (i := 0) rfl) 2
  have hs1 : IntKind.i64.wrap ((L.length : Int) + 1) = (L.length : Int) + 1 := by rw [IntKind.wrap_i64]; omega
  have hs2 : wrap64 ((L.length : Int) + 1) = (L.length : Int) + 1 := by unfold wrap64; omega
  clear h2 h hr hc hL hu
  go_enter Try.func12, Try.ntmps12
  go_wp2_with (first | ((with_reducible refine gate_dst (N := 4) rfl ?_); refine own_box rfl (D := 4) rfl (cs := #[.int .i64 0, .int .i64 0, .slice none 0 0]) (t := 32) ?hr O0.out ?_; (case hr => first | (go_simp; done) | (go_simp; rfl)); intro g1 w1 o_ k_; have O1 : Aside0 (Own N w1 [cells g #[.int .i64 o, .int .i64 m, .slice A0 L.length c0] 52, nrow k32 32 (.slice A0 L.length c0) L, cells g1 #[.int .i64 0, .int .i64 0, .slice none 0 0] 32]) := ⟨o_⟩; have K1 : Aside0 (KeepS N w w1) := ⟨K0.out.trans k_⟩; have HR_1 : Aside0 (Kd.F k50 w1 N B ups.length ups) := ⟨keepF HR_0.out k_⟩; clear c0_0_0 f0_0_0 c0_0_1 f0_0_1 c0_0_2 f0_0_2 O0 K0 HR_0; have c1_0_0 : w1.cell? ⟨g, 0, none⟩ = some (.int .i64 o) := (blk_cell (O1.out.blk (i := 0) rfl) 0).trans rfl; have f1_0_0 : w1.frozen? ⟨g, 0, none⟩ = false := blk_frozen (O1.out.blk (i := 0) rfl) 0; have c1_0_1 : w1.cell? ⟨g, 1, none⟩ = some (.int .i64 m) := (blk_cell (O1.out.blk (i := 0) rfl) 1).trans rfl; have f1_0_1 : w1.frozen? ⟨g, 1, none⟩ = false := blk_frozen (O1.out.blk (i := 0) rfl) 1; have c1_0_2 : w1.cell? ⟨g, 2, none⟩ = some (.slice A0 L.length c0) := (blk_cell (O1.out.blk (i := 0) rfl) 2).trans rfl; have f1_0_2 : w1.frozen? ⟨g, 2, none⟩ = false := blk_frozen (O1.out.blk (i := 0) rfl) 2; have c1_2_0 : w1.cell? ⟨g1, 0, none⟩ = some (.int .i64 0) := (blk_cell (O1.out.blk (i := 2) rfl) 0).trans rfl; have f1_2_0 : w1.frozen? ⟨g1, 0, none⟩ = false := blk_frozen (O1.out.blk (i := 2) rfl) 0; have c1_2_1 : w1.cell? ⟨g1, 1, none⟩ = some (.int .i64 0) := (blk_cell (O1.out.blk (i := 2) rfl) 1).trans rfl; have f1_2_1 : w1.frozen? ⟨g1, 1, none⟩ = false := blk_frozen (O1.out.blk (i := 2) rfl) 1; have c1_2_2 : w1.cell? ⟨g1, 2, none⟩ = some (.slice none 0 0) := (blk_cell (O1.out.blk (i := 2) rfl) 2).trans rfl; have f1_2_2 : w1.frozen? ⟨g1, 2, none⟩ = false := blk_frozen (O1.out.blk (i := 2) rfl) 2; have n1_0_2 : g ≠ g1 := O1.out.ne (i := 0) (j := 2) rfl rfl (by decide); have n1_2_0 : g1 ≠ g := O1.out.ne (i := 2) (j := 0) rfl rfl (by decide); clear o_ k_))
  refine start_ (n := 10) (S := fun w' => w'.cell? ⟨g, 0, none⟩ = some (.int .i64 o) ∧ w'.cell? ⟨g, 1, none⟩ = some (.int .i64 m) ∧ w'.cell? ⟨g, 2, none⟩ = some (.slice A0 L.length c0)) (ds := []) #[false, false, false, false, false, false, false, false, false, false] (by kernel_rfl) rfl rfl ⟨((blk_cell (O1.out.blk (i := 0) rfl) 0).trans rfl), ((blk_cell (O1.out.blk (i := 0) rfl) 1).trans rfl), ((blk_cell (O1.out.blk (i := 0) rfl) 2).trans rfl)⟩ (fun hHeld => ?_)
  obtain ⟨w2, hw_⟩ : ∃ W, W = w1.drew := ⟨_, rfl⟩
  have o_ := O1.out.drew
  have k_ : KeepS N w1 w1.drew := KeepS.drew
  rw [← hw_] at o_ k_ hHeld ⊢
  clear hw_
  have O2 : Aside0 (Own N w2 [cells g #[.int .i64 o, .int .i64 m, .slice A0 L.length c0] 52, nrow k32 32 (.slice A0 L.length c0) L, cells g1 #[.int .i64 0, .int .i64 0, .slice none 0 0] 32]) := ⟨o_⟩
  have K2 : Aside0 (KeepS N w w2) := ⟨K1.out.trans k_⟩
  have HR_2 : Aside0 (Kd.F k50 w2 N B ups.length ups) := ⟨keepF HR_1.out k_⟩
  clear c1_0_0 f1_0_0 c1_0_1 f1_0_1 c1_0_2 f1_0_2 c1_2_0 f1_2_0 c1_2_1 f1_2_1 c1_2_2 f1_2_2 n1_0_2 n1_2_0 O1 K1 HR_1
  have c2_0_0 : w2.cell? ⟨g, 0, none⟩ = some (.int .i64 o) := (blk_cell (O2.out.blk (i := 0) rfl) 0).trans rfl
  have f2_0_0 : w2.frozen? ⟨g, 0, none⟩ = false := blk_frozen (O2.out.blk (i := 0) rfl) 0
  have c2_0_1 : w2.cell? ⟨g, 1, none⟩ = some (.int .i64 m) := (blk_cell (O2.out.blk (i := 0) rfl) 1).trans rfl
  have f2_0_1 : w2.frozen? ⟨g, 1, none⟩ = false := blk_frozen (O2.out.blk (i := 0) rfl) 1
  have c2_0_2 : w2.cell? ⟨g, 2, none⟩ = some (.slice A0 L.length c0) := (blk_cell (O2.out.blk (i := 0) rfl) 2).trans rfl
  have f2_0_2 : w2.frozen? ⟨g, 2, none⟩ = false := blk_frozen (O2.out.blk (i := 0) rfl) 2
  have c2_2_0 : w2.cell? ⟨g1, 0, none⟩ = some (.int .i64 0) := (blk_cell (O2.out.blk (i := 2) rfl) 0).trans rfl
  have f2_2_0 : w2.frozen? ⟨g1, 0, none⟩ = false := blk_frozen (O2.out.blk (i := 2) rfl) 0
  have c2_2_1 : w2.cell? ⟨g1, 1, none⟩ = some (.int .i64 0) := (blk_cell (O2.out.blk (i := 2) rfl) 1).trans rfl
  have f2_2_1 : w2.frozen? ⟨g1, 1, none⟩ = false := blk_frozen (O2.out.blk (i := 2) rfl) 1
  have c2_2_2 : w2.cell? ⟨g1, 2, none⟩ = some (.slice none 0 0) := (blk_cell (O2.out.blk (i := 2) rfl) 2).trans rfl
  have f2_2_2 : w2.frozen? ⟨g1, 2, none⟩ = false := blk_frozen (O2.out.blk (i := 2) rfl) 2
  have n2_0_2 : g ≠ g1 := O2.out.ne (i := 0) (j := 2) rfl rfl (by decide)
  have n2_2_0 : g1 ≠ g := O2.out.ne (i := 2) (j := 0) rfl rfl (by decide)
  clear o_ k_
  refine pure_ (i := 0) (N := some 8) (v := ?_) (a' := ?_) #[true, false, false, false, false, false, false, false, false, false] rfl rfl (by kernel_rfl) (fun _ _ _ h => h) (Or.inl ⟨by rfl, ?_⟩) ?_ ?_
  rotate_left
  · intro w'
    go_simp
    with_reducible rfl
  rotate_left
  · simp only [Act.put, List.setIfInBounds_toArray, List.set_cons_zero, List.set_cons_succ, i64_w, i32_w]
    rfl
  refine pure_ (i := 1) (N := some 9) (v := ?_) (a' := ?_) #[true, true, false, false, false, false, false, false, false, false] rfl rfl (by kernel_rfl) (fun _ _ _ h => h) (Or.inl ⟨by rfl, ?_⟩) ?_ ?_
  rotate_left
  · intro w'
    go_simp
    with_reducible rfl
  rotate_left
  · simp only [Act.put, List.setIfInBounds_toArray, List.set_cons_zero, List.set_cons_succ, i64_w, i32_w]
    rfl
  refine pure_ (i := 2) (N := some 10) (v := ?_) (a' := ?_) #[true, true, true, false, false, false, false, false, false, false] rfl rfl (by kernel_rfl) (fun _ _ _ h => h) (Or.inl ⟨by rfl, ?_⟩) ?_ ?_
  rotate_left
  · intro w'
    go_simp
    with_reducible rfl
  rotate_left
  · simp only [Act.put, List.setIfInBounds_toArray, List.set_cons_zero, List.set_cons_succ, i64_w, i32_w]
    rfl
  refine pure_ (i := 5) (N := some 13) (v := ?_) (a' := ?_) #[true, true, true, false, false, true, false, false, false, false] rfl rfl (by kernel_rfl) (fun _ _ _ h => h) (Or.inl ⟨by rfl, ?_⟩) ?_ ?_
  rotate_left
  · intro w'
    go_simp
    with_reducible rfl
  rotate_left
  · simp only [Act.put, List.setIfInBounds_toArray, List.set_cons_zero, List.set_cons_succ, i64_w, i32_w]
    rfl
  refine pure_ (i := 6) (N := some 14) (v := ?_) (a' := ?_) #[true, true, true, false, false, true, true, false, false, false] rfl rfl (by kernel_rfl) (fun _ _ _ h => h) (Or.inl ⟨by rfl, ?_⟩) ?_ ?_
  rotate_left
  · intro w'
    go_simp
    with_reducible rfl
  rotate_left
  · simp only [Act.put, List.setIfInBounds_toArray, List.set_cons_zero, List.set_cons_succ, i64_w, i32_w]
    rfl
  refine pure_ (i := 7) (N := some 15) (v := ?_) (a' := ?_) #[true, true, true, false, false, true, true, true, false, false] rfl rfl (by kernel_rfl) (fun _ _ _ h => h) (Or.inl ⟨by rfl, ?_⟩) ?_ ?_
  rotate_left
  · intro w'
    go_simp
    with_reducible rfl
  rotate_left
  · simp only [Act.put, List.setIfInBounds_toArray, List.set_cons_zero, List.set_cons_succ, i64_w, i32_w]
    rfl
  refine take_ (i := 3) (N := some 11) (v := ?_) (a' := ?_) #[true, true, true, true, false, true, true, true, false, false] rfl rfl (by kernel_rfl) (fun _ _ _ h => h) (Or.inl ⟨by rfl, ?_⟩) hHeld ?_ ?_
  rotate_left
  · rintro w' ⟨s0, s1, s2⟩
    go_simp
    with_reducible rfl
  rotate_left
  · simp only [Act.put, List.setIfInBounds_toArray, List.set_cons_zero, List.set_cons_succ, i64_w, i32_w]
    rfl
  refine pure_ (i := 4) (N := some 12) (v := ?_) (a' := ?_) #[true, true, true, true, true, true, true, true, false, false] rfl rfl (by kernel_rfl) (fun _ _ _ h => h) (Or.inl ⟨by rfl, ?_⟩) ?_ ?_
  rotate_left
  · intro w'
    go_simp
    with_reducible rfl
  rotate_left
  · simp only [Act.put, List.setIfInBounds_toArray, List.set_cons_zero, List.set_cons_succ, i64_w, i32_w]
    rfl
  refine take_ (i := 8) (N := some 16) (v := ?_) (a' := ?_) #[true, true, true, true, true, true, true, true, true, false] rfl rfl (by kernel_rfl) (fun _ _ _ h => h) (Or.inl ⟨by rfl, ?_⟩) hHeld ?_ ?_
  rotate_left
  · rintro w' ⟨s0, s1, s2⟩
    go_simp
    with_reducible rfl
  rotate_left
  · simp only [Act.put, List.setIfInBounds_toArray, List.set_cons_zero, List.set_cons_succ, i64_w, i32_w]
    rfl
  refine pure_ (i := 9) (N := some 17) (v := ?_) (a' := ?_) #[true, true, true, true, true, true, true, true, true, true] rfl rfl (by kernel_rfl) (fun _ _ _ h => h) (Or.inl ⟨by rfl, ?_⟩) ?_ ?_
  rotate_left
  · intro w'
    go_simp
    with_reducible rfl
  rotate_left
  · simp only [Act.put, List.setIfInBounds_toArray, List.set_cons_zero, List.set_cons_succ, i64_w, i32_w]
    rfl
  refine done_ (by kernel_rfl) ?_
  clear hHeld
  clear HR_2 HC hs1 hs2
  go_wp2_with (first | ((with_reducible refine gate_store (t := 32) (p := 4) rfl ?_); refine own_store rfl rfl rfl (w1 := (World.setCell (World.setCell (World.setCell w2 ⟨g1, 0, none⟩ (.int .i64 0)) ⟨g1, 1, none⟩ (.int .i64 0)) ⟨g1, 2, none⟩ (.slice none 0 0))) (N := N) (l' := [cells g #[.int .i64 o, .int .i64 m, .slice A0 L.length c0] 52, nrow k32 32 (.slice A0 L.length c0) L, cells g1 #[.int .i64 0, .int .i64 0, .slice none 0 0] 32]) ?hr ?ho ?hk ?_; (case hr => first | (go_simp; done) | (go_simp; rfl)); (case ho => exact (((O2.out.set (i := 2) rfl 0 (.int .i64 0)).set (i := 2) rfl 1 (.int .i64 0)).set (i := 2) rfl 2 (.slice none 0 0))); (case hk => exact (((KeepS.setCell (O2.out.far (i := 2) rfl) (.int .i64 0)).trans (KeepS.setCell (O2.out.far (i := 2) rfl) (.int .i64 0))).trans (KeepS.setCell (O2.out.far (i := 2) rfl) (.slice none 0 0)))); intro w3 o_ k_; have O3 : Aside0 (Own N w3 [cells g #[.int .i64 o, .int .i64 m, .slice A0 L.length c0] 52, nrow k32 32 (.slice A0 L.length c0) L, cells g1 #[.int .i64 0, .int .i64 0, .slice none 0 0] 32]) := ⟨o_⟩; have K3 : Aside0 (KeepS N w w3) := ⟨K2.out.trans k_⟩; clear c2_0_0 f2_0_0 c2_0_1 f2_0_1 c2_0_2 f2_0_2 c2_2_0 f2_2_0 c2_2_1 f2_2_1 c2_2_2 f2_2_2 n2_0_2 n2_2_0 O2 K2; have c3_0_0 : w3.cell? ⟨g, 0, none⟩ = some (.int .i64 o) := (blk_cell (O3.out.blk (i := 0) rfl) 0).trans rfl; have f3_0_0 : w3.frozen? ⟨g, 0, none⟩ = false := blk_frozen (O3.out.blk (i := 0) rfl) 0; have c3_0_1 : w3.cell? ⟨g, 1, none⟩ = some (.int .i64 m) := (blk_cell (O3.out.blk (i := 0) rfl) 1).trans rfl; have f3_0_1 : w3.frozen? ⟨g, 1, none⟩ = false := blk_frozen (O3.out.blk (i := 0) rfl) 1; have c3_0_2 : w3.cell? ⟨g, 2, none⟩ = some (.slice A0 L.length c0) := (blk_cell (O3.out.blk (i := 0) rfl) 2).trans rfl; have f3_0_2 : w3.frozen? ⟨g, 2, none⟩ = false := blk_frozen (O3.out.blk (i := 0) rfl) 2; have c3_2_0 : w3.cell? ⟨g1, 0, none⟩ = some (.int .i64 0) := (blk_cell (O3.out.blk (i := 2) rfl) 0).trans rfl; have f3_2_0 : w3.frozen? ⟨g1, 0, none⟩ = false := blk_frozen (O3.out.blk (i := 2) rfl) 0; have c3_2_1 : w3.cell? ⟨g1, 1, none⟩ = some (.int .i64 0) := (blk_cell (O3.out.blk (i := 2) rfl) 1).trans rfl; have f3_2_1 : w3.frozen? ⟨g1, 1, none⟩ = false := blk_frozen (O3.out.blk (i := 2) rfl) 1; have c3_2_2 : w3.cell? ⟨g1, 2, none⟩ = some (.slice none 0 0) := (blk_cell (O3.out.blk (i := 2) rfl) 2).trans rfl; have f3_2_2 : w3.frozen? ⟨g1, 2, none⟩ = false := blk_frozen (O3.out.blk (i := 2) rfl) 2; have n3_0_2 : g ≠ g1 := O3.out.ne (i := 0) (j := 2) rfl rfl (by decide); have n3_2_0 : g1 ≠ g := O3.out.ne (i := 2) (j := 0) rfl rfl (by decide); clear o_ k_))
  refine bodyPost_ret (results_ct rfl _ _ g1 32 #[.int .i64 0, .int .i64 0, .slice none 0 0] (0, 0) _ rfl (O3.out.blk (i := 2) rfl) Try.underlying32 rfl (by kernel_rfl)) rfl ?_
  exact ⟨none, 0, rfl, ((Obj3.shut (i := 0) (j := 1) O3.out rfl rfl (by decide)).take 1).push_emp _ (fun w => Kd.N_nil _ _ _ _ _), K3.out⟩
set_option maxHeartbeats 8000000 in
set_option maxRecDepth 100000 in
theorem Add_no {N : Nat → Prop} {w : World} {g : Nat} {o m : Int} {L : List S32} (B : Option Addr) (c : Nat) (ups : List S50) (h : Own N w [Obj3 52 g o m L]) (hr : Kd.F k50 w N B ups.length ups) (hc : ups.length ≤ c) (hL : L.length ≤ 1000000) (hu : ups.length ≤ 1000000) (hq : ((L.length : Int) == m) = false) (k : Nat) (e : Int) (he : round_May.f k o ((L.length : Int) + 1) ups = some e) (hz : (e != 0) = true) :
    Calls Try.prog 12 #[.pointer (some ⟨g, 0, none⟩), .slice B ups.length c] w fun e_ w' => ∃ A1 c1, e_ = .returned (.tuple #[.agg #[.int .i64 0, .int .i64 0, .slice A1 (([] : List S50)).length c1], .int .i64 e]) ∧ Own N w' [Obj3 52 g o m (L), nrow k50 50 (.slice A1 (([] : List S50)).length c1) (([] : List S50))] ∧ KeepS N w w' := by
  obtain ⟨A0, c0, h2⟩ := Obj3.open_ h (i := 0) rfl
  have HR_0 : Aside0 (Kd.F k50 w N B ups.length ups) := ⟨hr⟩
  have HC := Aside0.mk hc
  have O0 : Aside0 (Own N w [cells g #[.int .i64 o, .int .i64 m, .slice A0 L.length c0] 52, nrow k32 32 (.slice A0 L.length c0) L]) := ⟨h2⟩
  have K0 : Aside0 (KeepS N w w) := ⟨KeepS.refl _ _⟩
  have c0_0_0 : w.cell? ⟨g, 0, none⟩ = some (.int .i64 o) := (blk_cell (O0.out.blk (i := 0) rfl) 0).trans rfl
  have f0_0_0 : w.frozen? ⟨g, 0, none⟩ = false := blk_frozen (O0.out.blk (i := 0) rfl) 0
  have c0_0_1 : w.cell? ⟨g, 1, none⟩ = some (.int .i64 m) := (blk_cell (O0.out.blk (i := 0) rfl) 1).trans rfl
  have f0_0_1 : w.frozen? ⟨g, 1, none⟩ = false := blk_frozen (O0.out.blk (i := 0) rfl) 1
  have c0_0_2 : w.cell? ⟨g, 2, none⟩ = some (.slice A0 L.length c0) := (blk_cell (O0.out.blk (i := 0) rfl) 2).trans rfl
  have f0_0_2 : w.frozen? ⟨g, 2, none⟩ = false := blk_frozen (O0.out.blk (i := 0) rfl) 2
  have HE := Aside0.mk he
  clear he
  have hs1 : IntKind.i64.wrap ((L.length : Int) + 1) = (L.length : Int) + 1 := by rw [IntKind.wrap_i64]; omega
  have hs2 : wrap64 ((L.length : Int) + 1) = (L.length : Int) + 1 := by unfold wrap64; omega
  clear h2 h hr hc hL hu
  go_enter Try.func12, Try.ntmps12
  go_wp2_with (first | ((with_reducible refine gate_dst (N := 4) rfl ?_); refine own_box rfl (D := 4) rfl (cs := #[.int .i64 0, .int .i64 0, .slice none 0 0]) (t := 32) ?hr O0.out ?_; (case hr => first | (go_simp; done) | (go_simp; rfl)); intro g1 w1 o_ k_; have O1 : Aside0 (Own N w1 [cells g #[.int .i64 o, .int .i64 m, .slice A0 L.length c0] 52, nrow k32 32 (.slice A0 L.length c0) L, cells g1 #[.int .i64 0, .int .i64 0, .slice none 0 0] 32]) := ⟨o_⟩; have K1 : Aside0 (KeepS N w w1) := ⟨K0.out.trans k_⟩; have HR_1 : Aside0 (Kd.F k50 w1 N B ups.length ups) := ⟨keepF HR_0.out k_⟩; clear c0_0_0 f0_0_0 c0_0_1 f0_0_1 c0_0_2 f0_0_2 O0 K0 HR_0; have c1_0_0 : w1.cell? ⟨g, 0, none⟩ = some (.int .i64 o) := (blk_cell (O1.out.blk (i := 0) rfl) 0).trans rfl; have f1_0_0 : w1.frozen? ⟨g, 0, none⟩ = false := blk_frozen (O1.out.blk (i := 0) rfl) 0; have c1_0_1 : w1.cell? ⟨g, 1, none⟩ = some (.int .i64 m) := (blk_cell (O1.out.blk (i := 0) rfl) 1).trans rfl; have f1_0_1 : w1.frozen? ⟨g, 1, none⟩ = false := blk_frozen (O1.out.blk (i := 0) rfl) 1; have c1_0_2 : w1.cell? ⟨g, 2, none⟩ = some (.slice A0 L.length c0) := (blk_cell (O1.out.blk (i := 0) rfl) 2).trans rfl; have f1_0_2 : w1.frozen? ⟨g, 2, none⟩ = false := blk_frozen (O1.out.blk (i := 0) rfl) 2; have c1_2_0 : w1.cell? ⟨g1, 0, none⟩ = some (.int .i64 0) := (blk_cell (O1.out.blk (i := 2) rfl) 0).trans rfl; have f1_2_0 : w1.frozen? ⟨g1, 0, none⟩ = false := blk_frozen (O1.out.blk (i := 2) rfl) 0; have c1_2_1 : w1.cell? ⟨g1, 1, none⟩ = some (.int .i64 0) := (blk_cell (O1.out.blk (i := 2) rfl) 1).trans rfl; have f1_2_1 : w1.frozen? ⟨g1, 1, none⟩ = false := blk_frozen (O1.out.blk (i := 2) rfl) 1; have c1_2_2 : w1.cell? ⟨g1, 2, none⟩ = some (.slice none 0 0) := (blk_cell (O1.out.blk (i := 2) rfl) 2).trans rfl; have f1_2_2 : w1.frozen? ⟨g1, 2, none⟩ = false := blk_frozen (O1.out.blk (i := 2) rfl) 2; have n1_0_2 : g ≠ g1 := O1.out.ne (i := 0) (j := 2) rfl rfl (by decide); have n1_2_0 : g1 ≠ g := O1.out.ne (i := 2) (j := 0) rfl rfl (by decide); clear o_ k_))
  refine start_ (n := 10) (S := fun w' => w'.cell? ⟨g, 0, none⟩ = some (.int .i64 o) ∧ w'.cell? ⟨g, 1, none⟩ = some (.int .i64 m) ∧ w'.cell? ⟨g, 2, none⟩ = some (.slice A0 L.length c0)) (ds := []) #[false, false, false, false, false, false, false, false, false, false] (by kernel_rfl) rfl rfl ⟨((blk_cell (O1.out.blk (i := 0) rfl) 0).trans rfl), ((blk_cell (O1.out.blk (i := 0) rfl) 1).trans rfl), ((blk_cell (O1.out.blk (i := 0) rfl) 2).trans rfl)⟩ (fun hHeld => ?_)
  obtain ⟨w2, hw_⟩ : ∃ W, W = w1.drew := ⟨_, rfl⟩
  have o_ := O1.out.drew
  have k_ : KeepS N w1 w1.drew := KeepS.drew
  rw [← hw_] at o_ k_ hHeld ⊢
  clear hw_
  have O2 : Aside0 (Own N w2 [cells g #[.int .i64 o, .int .i64 m, .slice A0 L.length c0] 52, nrow k32 32 (.slice A0 L.length c0) L, cells g1 #[.int .i64 0, .int .i64 0, .slice none 0 0] 32]) := ⟨o_⟩
  have K2 : Aside0 (KeepS N w w2) := ⟨K1.out.trans k_⟩
  have HR_2 : Aside0 (Kd.F k50 w2 N B ups.length ups) := ⟨keepF HR_1.out k_⟩
  clear c1_0_0 f1_0_0 c1_0_1 f1_0_1 c1_0_2 f1_0_2 c1_2_0 f1_2_0 c1_2_1 f1_2_1 c1_2_2 f1_2_2 n1_0_2 n1_2_0 O1 K1 HR_1
  have c2_0_0 : w2.cell? ⟨g, 0, none⟩ = some (.int .i64 o) := (blk_cell (O2.out.blk (i := 0) rfl) 0).trans rfl
  have f2_0_0 : w2.frozen? ⟨g, 0, none⟩ = false := blk_frozen (O2.out.blk (i := 0) rfl) 0
  have c2_0_1 : w2.cell? ⟨g, 1, none⟩ = some (.int .i64 m) := (blk_cell (O2.out.blk (i := 0) rfl) 1).trans rfl
  have f2_0_1 : w2.frozen? ⟨g, 1, none⟩ = false := blk_frozen (O2.out.blk (i := 0) rfl) 1
  have c2_0_2 : w2.cell? ⟨g, 2, none⟩ = some (.slice A0 L.length c0) := (blk_cell (O2.out.blk (i := 0) rfl) 2).trans rfl
  have f2_0_2 : w2.frozen? ⟨g, 2, none⟩ = false := blk_frozen (O2.out.blk (i := 0) rfl) 2
  have c2_2_0 : w2.cell? ⟨g1, 0, none⟩ = some (.int .i64 0) := (blk_cell (O2.out.blk (i := 2) rfl) 0).trans rfl
  have f2_2_0 : w2.frozen? ⟨g1, 0, none⟩ = false := blk_frozen (O2.out.blk (i := 2) rfl) 0
  have c2_2_1 : w2.cell? ⟨g1, 1, none⟩ = some (.int .i64 0) := (blk_cell (O2.out.blk (i := 2) rfl) 1).trans rfl
  have f2_2_1 : w2.frozen? ⟨g1, 1, none⟩ = false := blk_frozen (O2.out.blk (i := 2) rfl) 1
  have c2_2_2 : w2.cell? ⟨g1, 2, none⟩ = some (.slice none 0 0) := (blk_cell (O2.out.blk (i := 2) rfl) 2).trans rfl
  have f2_2_2 : w2.frozen? ⟨g1, 2, none⟩ = false := blk_frozen (O2.out.blk (i := 2) rfl) 2
  have n2_0_2 : g ≠ g1 := O2.out.ne (i := 0) (j := 2) rfl rfl (by decide)
  have n2_2_0 : g1 ≠ g := O2.out.ne (i := 2) (j := 0) rfl rfl (by decide)
  clear o_ k_
  refine pure_ (i := 0) (N := some 8) (v := ?_) (a' := ?_) #[true, false, false, false, false, false, false, false, false, false] rfl rfl (by kernel_rfl) (fun _ _ _ h => h) (Or.inl ⟨by rfl, ?_⟩) ?_ ?_
  rotate_left
  · intro w'
    go_simp
    with_reducible rfl
  rotate_left
  · simp only [Act.put, List.setIfInBounds_toArray, List.set_cons_zero, List.set_cons_succ, i64_w, i32_w]
    rfl
  refine pure_ (i := 1) (N := some 9) (v := ?_) (a' := ?_) #[true, true, false, false, false, false, false, false, false, false] rfl rfl (by kernel_rfl) (fun _ _ _ h => h) (Or.inl ⟨by rfl, ?_⟩) ?_ ?_
  rotate_left
  · intro w'
    go_simp
    with_reducible rfl
  rotate_left
  · simp only [Act.put, List.setIfInBounds_toArray, List.set_cons_zero, List.set_cons_succ, i64_w, i32_w]
    rfl
  refine pure_ (i := 2) (N := some 10) (v := ?_) (a' := ?_) #[true, true, true, false, false, false, false, false, false, false] rfl rfl (by kernel_rfl) (fun _ _ _ h => h) (Or.inl ⟨by rfl, ?_⟩) ?_ ?_
  rotate_left
  · intro w'
    go_simp
    with_reducible rfl
  rotate_left
  · simp only [Act.put, List.setIfInBounds_toArray, List.set_cons_zero, List.set_cons_succ, i64_w, i32_w]
    rfl
  refine pure_ (i := 5) (N := some 13) (v := ?_) (a' := ?_) #[true, true, true, false, false, true, false, false, false, false] rfl rfl (by kernel_rfl) (fun _ _ _ h => h) (Or.inl ⟨by rfl, ?_⟩) ?_ ?_
  rotate_left
  · intro w'
    go_simp
    with_reducible rfl
  rotate_left
  · simp only [Act.put, List.setIfInBounds_toArray, List.set_cons_zero, List.set_cons_succ, i64_w, i32_w]
    rfl
  refine pure_ (i := 6) (N := some 14) (v := ?_) (a' := ?_) #[true, true, true, false, false, true, true, false, false, false] rfl rfl (by kernel_rfl) (fun _ _ _ h => h) (Or.inl ⟨by rfl, ?_⟩) ?_ ?_
  rotate_left
  · intro w'
    go_simp
    with_reducible rfl
  rotate_left
  · simp only [Act.put, List.setIfInBounds_toArray, List.set_cons_zero, List.set_cons_succ, i64_w, i32_w]
    rfl
  refine pure_ (i := 7) (N := some 15) (v := ?_) (a' := ?_) #[true, true, true, false, false, true, true, true, false, false] rfl rfl (by kernel_rfl) (fun _ _ _ h => h) (Or.inl ⟨by rfl, ?_⟩) ?_ ?_
  rotate_left
  · intro w'
    go_simp
    with_reducible rfl
  rotate_left
  · simp only [Act.put, List.setIfInBounds_toArray, List.set_cons_zero, List.set_cons_succ, i64_w, i32_w]
    rfl
  refine take_ (i := 3) (N := some 11) (v := ?_) (a' := ?_) #[true, true, true, true, false, true, true, true, false, false] rfl rfl (by kernel_rfl) (fun _ _ _ h => h) (Or.inl ⟨by rfl, ?_⟩) hHeld ?_ ?_
  rotate_left
  · rintro w' ⟨s0, s1, s2⟩
    go_simp
    with_reducible rfl
  rotate_left
  · simp only [Act.put, List.setIfInBounds_toArray, List.set_cons_zero, List.set_cons_succ, i64_w, i32_w]
    rfl
  refine pure_ (i := 4) (N := some 12) (v := ?_) (a' := ?_) #[true, true, true, true, true, true, true, true, false, false] rfl rfl (by kernel_rfl) (fun _ _ _ h => h) (Or.inl ⟨by rfl, ?_⟩) ?_ ?_
  rotate_left
  · intro w'
    go_simp
    with_reducible rfl
  rotate_left
  · simp only [Act.put, List.setIfInBounds_toArray, List.set_cons_zero, List.set_cons_succ, i64_w, i32_w]
    rfl
  refine take_ (i := 8) (N := some 16) (v := ?_) (a' := ?_) #[true, true, true, true, true, true, true, true, true, false] rfl rfl (by kernel_rfl) (fun _ _ _ h => h) (Or.inl ⟨by rfl, ?_⟩) hHeld ?_ ?_
  rotate_left
  · rintro w' ⟨s0, s1, s2⟩
    go_simp
    with_reducible rfl
  rotate_left
  · simp only [Act.put, List.setIfInBounds_toArray, List.set_cons_zero, List.set_cons_succ, i64_w, i32_w]
    rfl
  refine pure_ (i := 9) (N := some 17) (v := ?_) (a' := ?_) #[true, true, true, true, true, true, true, true, true, true] rfl rfl (by kernel_rfl) (fun _ _ _ h => h) (Or.inl ⟨by rfl, ?_⟩) ?_ ?_
  rotate_left
  · intro w'
    go_simp
    with_reducible rfl
  rotate_left
  · simp only [Act.put, List.setIfInBounds_toArray, List.set_cons_zero, List.set_cons_succ, i64_w, i32_w]
    rfl
  refine done_ (by kernel_rfl) ?_
  clear hHeld
  go_wp2
  refine start_ (n := 14) (S := fun w' => w'.cell? ⟨g, 0, none⟩ = some (.int .i64 o) ∧ w'.cell? ⟨g, 1, none⟩ = some (.int .i64 m) ∧ w'.cell? ⟨g, 2, none⟩ = some (.slice A0 L.length c0)) (ds := []) #[false, false, false, false, false, false, false, false, false, false, false, false, false, false] (by kernel_rfl) rfl rfl ⟨((blk_cell (O2.out.blk (i := 0) rfl) 0).trans rfl), ((blk_cell (O2.out.blk (i := 0) rfl) 1).trans rfl), ((blk_cell (O2.out.blk (i := 0) rfl) 2).trans rfl)⟩ (fun hHeld => ?_)
  obtain ⟨w3, hw_⟩ : ∃ W, W = w2.drew := ⟨_, rfl⟩
  have o_ := O2.out.drew
  have k_ : KeepS N w2 w2.drew := KeepS.drew
  rw [← hw_] at o_ k_ hHeld ⊢
  clear hw_
  have O3 : Aside0 (Own N w3 [cells g #[.int .i64 o, .int .i64 m, .slice A0 L.length c0] 52, nrow k32 32 (.slice A0 L.length c0) L, cells g1 #[.int .i64 0, .int .i64 0, .slice none 0 0] 32]) := ⟨o_⟩
  have K3 : Aside0 (KeepS N w w3) := ⟨K2.out.trans k_⟩
  have HR_3 : Aside0 (Kd.F k50 w3 N B ups.length ups) := ⟨keepF HR_2.out k_⟩
  clear c2_0_0 f2_0_0 c2_0_1 f2_0_1 c2_0_2 f2_0_2 c2_2_0 f2_2_0 c2_2_1 f2_2_1 c2_2_2 f2_2_2 n2_0_2 n2_2_0 O2 K2 HR_2
  have c3_0_0 : w3.cell? ⟨g, 0, none⟩ = some (.int .i64 o) := (blk_cell (O3.out.blk (i := 0) rfl) 0).trans rfl
  have f3_0_0 : w3.frozen? ⟨g, 0, none⟩ = false := blk_frozen (O3.out.blk (i := 0) rfl) 0
  have c3_0_1 : w3.cell? ⟨g, 1, none⟩ = some (.int .i64 m) := (blk_cell (O3.out.blk (i := 0) rfl) 1).trans rfl
  have f3_0_1 : w3.frozen? ⟨g, 1, none⟩ = false := blk_frozen (O3.out.blk (i := 0) rfl) 1
  have c3_0_2 : w3.cell? ⟨g, 2, none⟩ = some (.slice A0 L.length c0) := (blk_cell (O3.out.blk (i := 0) rfl) 2).trans rfl
  have f3_0_2 : w3.frozen? ⟨g, 2, none⟩ = false := blk_frozen (O3.out.blk (i := 0) rfl) 2
  have c3_2_0 : w3.cell? ⟨g1, 0, none⟩ = some (.int .i64 0) := (blk_cell (O3.out.blk (i := 2) rfl) 0).trans rfl
  have f3_2_0 : w3.frozen? ⟨g1, 0, none⟩ = false := blk_frozen (O3.out.blk (i := 2) rfl) 0
  have c3_2_1 : w3.cell? ⟨g1, 1, none⟩ = some (.int .i64 0) := (blk_cell (O3.out.blk (i := 2) rfl) 1).trans rfl
  have f3_2_1 : w3.frozen? ⟨g1, 1, none⟩ = false := blk_frozen (O3.out.blk (i := 2) rfl) 1
  have c3_2_2 : w3.cell? ⟨g1, 2, none⟩ = some (.slice none 0 0) := (blk_cell (O3.out.blk (i := 2) rfl) 2).trans rfl
  have f3_2_2 : w3.frozen? ⟨g1, 2, none⟩ = false := blk_frozen (O3.out.blk (i := 2) rfl) 2
  have n3_0_2 : g ≠ g1 := O3.out.ne (i := 0) (j := 2) rfl rfl (by decide)
  have n3_2_0 : g1 ≠ g := O3.out.ne (i := 2) (j := 0) rfl rfl (by decide)
  clear o_ k_
  refine pure_ (i := 0) (N := some 19) (v := ?_) (a' := ?_) #[true, false, false, false, false, false, false, false, false, false, false, false, false, false] rfl rfl (by kernel_rfl) (fun _ _ _ h => h) (Or.inl ⟨by rfl, ?_⟩) ?_ ?_
  rotate_left
  · intro w'
    go_simp
    with_reducible rfl
  rotate_left
  · simp only [Act.put, List.setIfInBounds_toArray, List.set_cons_zero, List.set_cons_succ, i64_w, i32_w]
    rfl
  refine pure_ (i := 1) (N := some 20) (v := ?_) (a' := ?_) #[true, true, false, false, false, false, false, false, false, false, false, false, false, false] rfl rfl (by kernel_rfl) (fun _ _ _ h => h) (Or.inl ⟨by rfl, ?_⟩) ?_ ?_
  rotate_left
  · intro w'
    go_simp
    with_reducible rfl
  rotate_left
  · simp only [Act.put, List.setIfInBounds_toArray, List.set_cons_zero, List.set_cons_succ, i64_w, i32_w]
    rfl
  refine pure_ (i := 2) (N := some 21) (v := ?_) (a' := ?_) #[true, true, true, false, false, false, false, false, false, false, false, false, false, false] rfl rfl (by kernel_rfl) (fun _ _ _ h => h) (Or.inl ⟨by rfl, ?_⟩) ?_ ?_
  rotate_left
  · intro w'
    go_simp
    with_reducible rfl
  rotate_left
  · simp only [Act.put, List.setIfInBounds_toArray, List.set_cons_zero, List.set_cons_succ, i64_w, i32_w]
    rfl
  refine pure_ (i := 4) (N := some 23) (v := ?_) (a' := ?_) #[true, true, true, false, true, false, false, false, false, false, false, false, false, false] rfl rfl (by kernel_rfl) (fun _ _ _ h => h) (Or.inl ⟨by rfl, ?_⟩) ?_ ?_
  rotate_left
  · intro w'
    go_simp
    with_reducible rfl
  rotate_left
  · simp only [Act.put, List.setIfInBounds_toArray, List.set_cons_zero, List.set_cons_succ, i64_w, i32_w]
    rfl
  refine pure_ (i := 5) (N := some 24) (v := ?_) (a' := ?_) #[true, true, true, false, true, true, false, false, false, false, false, false, false, false] rfl rfl (by kernel_rfl) (fun _ _ _ h => h) (Or.inl ⟨by rfl, ?_⟩) ?_ ?_
  rotate_left
  · intro w'
    go_simp
    with_reducible rfl
  rotate_left
  · simp only [Act.put, List.setIfInBounds_toArray, List.set_cons_zero, List.set_cons_succ, i64_w, i32_w]
    rfl
  refine pure_ (i := 6) (N := some 25) (v := ?_) (a' := ?_) #[true, true, true, false, true, true, true, false, false, false, false, false, false, false] rfl rfl (by kernel_rfl) (fun _ _ _ h => h) (Or.inl ⟨by rfl, ?_⟩) ?_ ?_
  rotate_left
  · intro w'
    go_simp
    with_reducible rfl
  rotate_left
  · simp only [Act.put, List.setIfInBounds_toArray, List.set_cons_zero, List.set_cons_succ, i64_w, i32_w]
    rfl
  refine pure_ (i := 10) (N := some 29) (v := ?_) (a' := ?_) #[true, true, true, false, true, true, true, false, false, false, true, false, false, false] rfl rfl (by kernel_rfl) (fun _ _ _ h => h) (Or.inl ⟨by rfl, ?_⟩) ?_ ?_
  rotate_left
  · intro w'
    go_simp
    with_reducible rfl
  rotate_left
  · simp only [Act.put, List.setIfInBounds_toArray, List.set_cons_zero, List.set_cons_succ, i64_w, i32_w]
    rfl
  refine take_ (i := 3) (N := some 22) (v := ?_) (a' := ?_) #[true, true, true, true, true, true, true, false, false, false, true, false, false, false] rfl rfl (by kernel_rfl) (fun _ _ _ h => h) (Or.inl ⟨by rfl, ?_⟩) hHeld ?_ ?_
  rotate_left
  · rintro w' ⟨s0, s1, s2⟩
    go_simp
    with_reducible rfl
  rotate_left
  · simp only [Act.put, List.setIfInBounds_toArray, List.set_cons_zero, List.set_cons_succ, i64_w, i32_w]
    rfl
  refine take_ (i := 7) (N := some 26) (v := ?_) (a' := ?_) #[true, true, true, true, true, true, true, true, false, false, true, false, false, false] rfl rfl (by kernel_rfl) (fun _ _ _ h => h) (Or.inl ⟨by rfl, ?_⟩) hHeld ?_ ?_
  rotate_left
  · rintro w' ⟨s0, s1, s2⟩
    go_simp
    with_reducible rfl
  rotate_left
  · simp only [Act.put, List.setIfInBounds_toArray, List.set_cons_zero, List.set_cons_succ, i64_w, i32_w]
    rfl
  refine pure_ (i := 8) (N := some 27) (v := ?_) (a' := ?_) #[true, true, true, true, true, true, true, true, true, false, true, false, false, false] rfl rfl (by kernel_rfl) (fun _ _ _ h => h) (Or.inl ⟨by rfl, ?_⟩) ?_ ?_
  rotate_left
  · intro w'
    go_simp
    with_reducible rfl
  rotate_left
  · simp only [Act.put, List.setIfInBounds_toArray, List.set_cons_zero, List.set_cons_succ, i64_w, i32_w]
    rfl
  refine pure_ (i := 9) (N := some 28) (v := ?_) (a' := ?_) #[true, true, true, true, true, true, true, true, true, true, true, false, false, false] rfl rfl (by kernel_rfl) (fun _ _ _ h => h) (Or.inl ⟨by rfl, ?_⟩) ?_ ?_
  rotate_left
  · intro w'
    go_simp
    with_reducible rfl
  rotate_left
  · simp only [Act.put, List.setIfInBounds_toArray, List.set_cons_zero, List.set_cons_succ, i64_w, i32_w]
    rfl
  refine pure_ (i := 11) (N := some 30) (v := ?_) (a' := ?_) #[true, true, true, true, true, true, true, true, true, true, true, true, false, false] rfl rfl (by kernel_rfl) (fun _ _ _ h => h) (Or.inl ⟨by rfl, ?_⟩) ?_ ?_
  rotate_left
  · intro w'
    go_simp
    with_reducible rfl
  rotate_left
  · simp only [Act.put, List.setIfInBounds_toArray, List.set_cons_zero, List.set_cons_succ, i64_w, i32_w]
    rfl
  refine one_ (i := 12) (N := some 6) #[true, true, true, true, true, true, true, true, true, true, true, true, true, false] rfl rfl (by kernel_rfl) (by decide) (fun K_ hK_ => ?_)
  refine own_box_step rfl rfl (cs := #[.int .i64 0, .int .i64 0, .slice none 0 0]) (t := 32) ?hr O3.out ?_
  (case hr => first | (go_simp; done) | (go_simp; rfl))
  intro g4 w4 o_ k_
  have O4 : Aside0 (Own N w4 [cells g #[.int .i64 o, .int .i64 m, .slice A0 L.length c0] 52, nrow k32 32 (.slice A0 L.length c0) L, cells g1 #[.int .i64 0, .int .i64 0, .slice none 0 0] 32, cells g4 #[.int .i64 0, .int .i64 0, .slice none 0 0] 32]) := ⟨o_⟩
  have K4 : Aside0 (KeepS N w w4) := ⟨K3.out.trans k_⟩
  have HR_4 : Aside0 (Kd.F k50 w4 N B ups.length ups) := ⟨keepF HR_3.out k_⟩
  clear c3_0_0 f3_0_0 c3_0_1 f3_0_1 c3_0_2 f3_0_2 c3_2_0 f3_2_0 c3_2_1 f3_2_1 c3_2_2 f3_2_2 n3_0_2 n3_2_0 O3 K3 HR_3
  have c4_0_0 : w4.cell? ⟨g, 0, none⟩ = some (.int .i64 o) := (blk_cell (O4.out.blk (i := 0) rfl) 0).trans rfl
  have f4_0_0 : w4.frozen? ⟨g, 0, none⟩ = false := blk_frozen (O4.out.blk (i := 0) rfl) 0
  have c4_0_1 : w4.cell? ⟨g, 1, none⟩ = some (.int .i64 m) := (blk_cell (O4.out.blk (i := 0) rfl) 1).trans rfl
  have f4_0_1 : w4.frozen? ⟨g, 1, none⟩ = false := blk_frozen (O4.out.blk (i := 0) rfl) 1
  have c4_0_2 : w4.cell? ⟨g, 2, none⟩ = some (.slice A0 L.length c0) := (blk_cell (O4.out.blk (i := 0) rfl) 2).trans rfl
  have f4_0_2 : w4.frozen? ⟨g, 2, none⟩ = false := blk_frozen (O4.out.blk (i := 0) rfl) 2
  have c4_2_0 : w4.cell? ⟨g1, 0, none⟩ = some (.int .i64 0) := (blk_cell (O4.out.blk (i := 2) rfl) 0).trans rfl
  have f4_2_0 : w4.frozen? ⟨g1, 0, none⟩ = false := blk_frozen (O4.out.blk (i := 2) rfl) 0
  have c4_2_1 : w4.cell? ⟨g1, 1, none⟩ = some (.int .i64 0) := (blk_cell (O4.out.blk (i := 2) rfl) 1).trans rfl
  have f4_2_1 : w4.frozen? ⟨g1, 1, none⟩ = false := blk_frozen (O4.out.blk (i := 2) rfl) 1
  have c4_2_2 : w4.cell? ⟨g1, 2, none⟩ = some (.slice none 0 0) := (blk_cell (O4.out.blk (i := 2) rfl) 2).trans rfl
  have f4_2_2 : w4.frozen? ⟨g1, 2, none⟩ = false := blk_frozen (O4.out.blk (i := 2) rfl) 2
  have c4_3_0 : w4.cell? ⟨g4, 0, none⟩ = some (.int .i64 0) := (blk_cell (O4.out.blk (i := 3) rfl) 0).trans rfl
  have f4_3_0 : w4.frozen? ⟨g4, 0, none⟩ = false := blk_frozen (O4.out.blk (i := 3) rfl) 0
  have c4_3_1 : w4.cell? ⟨g4, 1, none⟩ = some (.int .i64 0) := (blk_cell (O4.out.blk (i := 3) rfl) 1).trans rfl
  have f4_3_1 : w4.frozen? ⟨g4, 1, none⟩ = false := blk_frozen (O4.out.blk (i := 3) rfl) 1
  have c4_3_2 : w4.cell? ⟨g4, 2, none⟩ = some (.slice none 0 0) := (blk_cell (O4.out.blk (i := 3) rfl) 2).trans rfl
  have f4_3_2 : w4.frozen? ⟨g4, 2, none⟩ = false := blk_frozen (O4.out.blk (i := 3) rfl) 2
  have n4_0_2 : g ≠ g1 := O4.out.ne (i := 0) (j := 2) rfl rfl (by decide)
  have n4_0_3 : g ≠ g4 := O4.out.ne (i := 0) (j := 3) rfl rfl (by decide)
  have n4_2_0 : g1 ≠ g := O4.out.ne (i := 2) (j := 0) rfl rfl (by decide)
  have n4_2_3 : g1 ≠ g4 := O4.out.ne (i := 2) (j := 3) rfl rfl (by decide)
  have n4_3_0 : g4 ≠ g := O4.out.ne (i := 3) (j := 0) rfl rfl (by decide)
  have n4_3_2 : g4 ≠ g1 := O4.out.ne (i := 3) (j := 2) rfl rfl (by decide)
  clear o_ k_
  clear hHeld
  refine hK_.out _ _ ⟨((blk_cell (O4.out.blk (i := 0) rfl) 0).trans rfl), ((blk_cell (O4.out.blk (i := 0) rfl) 1).trans rfl), ((blk_cell (O4.out.blk (i := 0) rfl) 2).trans rfl)⟩ (fun hHeld => ?_)
  clear hK_ K_
  refine norm_ (a' := ?_) ?_ ?_
  rotate_left
  · simp only [Act.put, List.setIfInBounds_toArray, List.set_cons_zero, List.set_cons_succ, i64_w, i32_w]
    rfl
  refine one_ (i := 13) (N := none) #[true, true, true, true, true, true, true, true, true, true, true, true, true, true] rfl rfl (by kernel_rfl) (by decide) (fun K_ hK_ => ?_)
  refine own_store_step rfl rfl (w1 := (World.setCell (World.setCell (World.setCell w4 ⟨g4, 0, none⟩ (.int .i64 o)) ⟨g4, 1, none⟩ (.int .i64 ((L.length : Int) + 1))) ⟨g4, 2, none⟩ (.slice B ups.length c))) (N := N) (l' := [cells g #[.int .i64 o, .int .i64 m, .slice A0 L.length c0] 52, nrow k32 32 (.slice A0 L.length c0) L, cells g1 #[.int .i64 0, .int .i64 0, .slice none 0 0] 32, cells g4 #[.int .i64 o, .int .i64 ((L.length : Int) + 1), .slice B ups.length c] 32]) ?hr ?ho ?hk ?_
  (case hr => first | (go_simp; done) | (go_simp; rfl))
  (case ho => exact (((O4.out.set (i := 3) rfl 0 (.int .i64 o)).set (i := 3) rfl 1 (.int .i64 ((L.length : Int) + 1))).set (i := 3) rfl 2 (.slice B ups.length c)))
  (case hk => exact (((KeepS.setCell (O4.out.far (i := 3) rfl) (.int .i64 o)).trans (KeepS.setCell (O4.out.far (i := 3) rfl) (.int .i64 ((L.length : Int) + 1)))).trans (KeepS.setCell (O4.out.far (i := 3) rfl) (.slice B ups.length c))))
  intro w5 o_ k_
  have O5 : Aside0 (Own N w5 [cells g #[.int .i64 o, .int .i64 m, .slice A0 L.length c0] 52, nrow k32 32 (.slice A0 L.length c0) L, cells g1 #[.int .i64 0, .int .i64 0, .slice none 0 0] 32, cells g4 #[.int .i64 o, .int .i64 ((L.length : Int) + 1), .slice B ups.length c] 32]) := ⟨o_⟩
  have K5 : Aside0 (KeepS N w w5) := ⟨K4.out.trans k_⟩
  have HR_5 : Aside0 (Kd.F k50 w5 N B ups.length ups) := ⟨keepF HR_4.out k_⟩
  clear c4_0_0 f4_0_0 c4_0_1 f4_0_1 c4_0_2 f4_0_2 c4_2_0 f4_2_0 c4_2_1 f4_2_1 c4_2_2 f4_2_2 c4_3_0 f4_3_0 c4_3_1 f4_3_1 c4_3_2 f4_3_2 n4_0_2 n4_0_3 n4_2_0 n4_2_3 n4_3_0 n4_3_2 O4 K4 HR_4
  have c5_0_0 : w5.cell? ⟨g, 0, none⟩ = some (.int .i64 o) := (blk_cell (O5.out.blk (i := 0) rfl) 0).trans rfl
  have f5_0_0 : w5.frozen? ⟨g, 0, none⟩ = false := blk_frozen (O5.out.blk (i := 0) rfl) 0
  have c5_0_1 : w5.cell? ⟨g, 1, none⟩ = some (.int .i64 m) := (blk_cell (O5.out.blk (i := 0) rfl) 1).trans rfl
  have f5_0_1 : w5.frozen? ⟨g, 1, none⟩ = false := blk_frozen (O5.out.blk (i := 0) rfl) 1
  have c5_0_2 : w5.cell? ⟨g, 2, none⟩ = some (.slice A0 L.length c0) := (blk_cell (O5.out.blk (i := 0) rfl) 2).trans rfl
  have f5_0_2 : w5.frozen? ⟨g, 2, none⟩ = false := blk_frozen (O5.out.blk (i := 0) rfl) 2
  have c5_2_0 : w5.cell? ⟨g1, 0, none⟩ = some (.int .i64 0) := (blk_cell (O5.out.blk (i := 2) rfl) 0).trans rfl
  have f5_2_0 : w5.frozen? ⟨g1, 0, none⟩ = false := blk_frozen (O5.out.blk (i := 2) rfl) 0
  have c5_2_1 : w5.cell? ⟨g1, 1, none⟩ = some (.int .i64 0) := (blk_cell (O5.out.blk (i := 2) rfl) 1).trans rfl
  have f5_2_1 : w5.frozen? ⟨g1, 1, none⟩ = false := blk_frozen (O5.out.blk (i := 2) rfl) 1
  have c5_2_2 : w5.cell? ⟨g1, 2, none⟩ = some (.slice none 0 0) := (blk_cell (O5.out.blk (i := 2) rfl) 2).trans rfl
  have f5_2_2 : w5.frozen? ⟨g1, 2, none⟩ = false := blk_frozen (O5.out.blk (i := 2) rfl) 2
  have c5_3_0 : w5.cell? ⟨g4, 0, none⟩ = some (.int .i64 o) := (blk_cell (O5.out.blk (i := 3) rfl) 0).trans rfl
  have f5_3_0 : w5.frozen? ⟨g4, 0, none⟩ = false := blk_frozen (O5.out.blk (i := 3) rfl) 0
  have c5_3_1 : w5.cell? ⟨g4, 1, none⟩ = some (.int .i64 ((L.length : Int) + 1)) := (blk_cell (O5.out.blk (i := 3) rfl) 1).trans rfl
  have f5_3_1 : w5.frozen? ⟨g4, 1, none⟩ = false := blk_frozen (O5.out.blk (i := 3) rfl) 1
  have c5_3_2 : w5.cell? ⟨g4, 2, none⟩ = some (.slice B ups.length c) := (blk_cell (O5.out.blk (i := 3) rfl) 2).trans rfl
  have f5_3_2 : w5.frozen? ⟨g4, 2, none⟩ = false := blk_frozen (O5.out.blk (i := 3) rfl) 2
  have n5_0_2 : g ≠ g1 := O5.out.ne (i := 0) (j := 2) rfl rfl (by decide)
  have n5_0_3 : g ≠ g4 := O5.out.ne (i := 0) (j := 3) rfl rfl (by decide)
  have n5_2_0 : g1 ≠ g := O5.out.ne (i := 2) (j := 0) rfl rfl (by decide)
  have n5_2_3 : g1 ≠ g4 := O5.out.ne (i := 2) (j := 3) rfl rfl (by decide)
  have n5_3_0 : g4 ≠ g := O5.out.ne (i := 3) (j := 0) rfl rfl (by decide)
  have n5_3_2 : g4 ≠ g1 := O5.out.ne (i := 3) (j := 2) rfl rfl (by decide)
  clear o_ k_
  clear hHeld
  refine hK_.out _ _ ⟨((blk_cell (O5.out.blk (i := 0) rfl) 0).trans rfl), ((blk_cell (O5.out.blk (i := 0) rfl) 1).trans rfl), ((blk_cell (O5.out.blk (i := 0) rfl) 2).trans rfl)⟩ (fun hHeld => ?_)
  clear hK_ K_
  refine done_ (by kernel_rfl) ?_
  clear hHeld
  go_wp2_with (first | ((with_reducible refine gate_callee (f := 21) rfl ?_); refine goesL_ (some 32) rfl rfl Try.func21 (by kernel_rfl) rfl #[.agg #[.int .i64 o, .int .i64 ((L.length : Int) + 1), .slice B ups.length c]] rfl (by (try simp only [List.map_toArray, List.map_cons, List.map_nil]); first | done | rfl) ?_; refine (round_May.calls k _ _ _ _ ups e _ (Kd.F_now HR_5.out) HC.out HE.out).mono ?_; rintro e_ w6 ⟨rfl, hb_⟩; refine ⟨_, rfl, ?_⟩; have o_ := O5.out.below hb_; have k_ := KeepS.of_below (N := N) hb_; have O6 : Aside0 (Own N w6 [cells g #[.int .i64 o, .int .i64 m, .slice A0 L.length c0] 52, nrow k32 32 (.slice A0 L.length c0) L, cells g1 #[.int .i64 0, .int .i64 0, .slice none 0 0] 32, cells g4 #[.int .i64 o, .int .i64 ((L.length : Int) + 1), .slice B ups.length c] 32]) := ⟨o_⟩; have K6 : Aside0 (KeepS N w w6) := ⟨K5.out.trans k_⟩; have HR_6 : Aside0 (Kd.F k50 w6 N B ups.length ups) := ⟨keepF HR_5.out k_⟩; clear c5_0_0 f5_0_0 c5_0_1 f5_0_1 c5_0_2 f5_0_2 c5_2_0 f5_2_0 c5_2_1 f5_2_1 c5_2_2 f5_2_2 c5_3_0 f5_3_0 c5_3_1 f5_3_1 c5_3_2 f5_3_2 n5_0_2 n5_0_3 n5_2_0 n5_2_3 n5_3_0 n5_3_2 O5 K5 HR_5; have c6_0_0 : w6.cell? ⟨g, 0, none⟩ = some (.int .i64 o) := (blk_cell (O6.out.blk (i := 0) rfl) 0).trans rfl; have f6_0_0 : w6.frozen? ⟨g, 0, none⟩ = false := blk_frozen (O6.out.blk (i := 0) rfl) 0; have c6_0_1 : w6.cell? ⟨g, 1, none⟩ = some (.int .i64 m) := (blk_cell (O6.out.blk (i := 0) rfl) 1).trans rfl; have f6_0_1 : w6.frozen? ⟨g, 1, none⟩ = false := blk_frozen (O6.out.blk (i := 0) rfl) 1; have c6_0_2 : w6.cell? ⟨g, 2, none⟩ = some (.slice A0 L.length c0) := (blk_cell (O6.out.blk (i := 0) rfl) 2).trans rfl; have f6_0_2 : w6.frozen? ⟨g, 2, none⟩ = false := blk_frozen (O6.out.blk (i := 0) rfl) 2; have c6_2_0 : w6.cell? ⟨g1, 0, none⟩ = some (.int .i64 0) := (blk_cell (O6.out.blk (i := 2) rfl) 0).trans rfl; have f6_2_0 : w6.frozen? ⟨g1, 0, none⟩ = false := blk_frozen (O6.out.blk (i := 2) rfl) 0; have c6_2_1 : w6.cell? ⟨g1, 1, none⟩ = some (.int .i64 0) := (blk_cell (O6.out.blk (i := 2) rfl) 1).trans rfl; have f6_2_1 : w6.frozen? ⟨g1, 1, none⟩ = false := blk_frozen (O6.out.blk (i := 2) rfl) 1; have c6_2_2 : w6.cell? ⟨g1, 2, none⟩ = some (.slice none 0 0) := (blk_cell (O6.out.blk (i := 2) rfl) 2).trans rfl; have f6_2_2 : w6.frozen? ⟨g1, 2, none⟩ = false := blk_frozen (O6.out.blk (i := 2) rfl) 2; have c6_3_0 : w6.cell? ⟨g4, 0, none⟩ = some (.int .i64 o) := (blk_cell (O6.out.blk (i := 3) rfl) 0).trans rfl; have f6_3_0 : w6.frozen? ⟨g4, 0, none⟩ = false := blk_frozen (O6.out.blk (i := 3) rfl) 0; have c6_3_1 : w6.cell? ⟨g4, 1, none⟩ = some (.int .i64 ((L.length : Int) + 1)) := (blk_cell (O6.out.blk (i := 3) rfl) 1).trans rfl; have f6_3_1 : w6.frozen? ⟨g4, 1, none⟩ = false := blk_frozen (O6.out.blk (i := 3) rfl) 1; have c6_3_2 : w6.cell? ⟨g4, 2, none⟩ = some (.slice B ups.length c) := (blk_cell (O6.out.blk (i := 3) rfl) 2).trans rfl; have f6_3_2 : w6.frozen? ⟨g4, 2, none⟩ = false := blk_frozen (O6.out.blk (i := 3) rfl) 2; have n6_0_2 : g ≠ g1 := O6.out.ne (i := 0) (j := 2) rfl rfl (by decide); have n6_0_3 : g ≠ g4 := O6.out.ne (i := 0) (j := 3) rfl rfl (by decide); have n6_2_0 : g1 ≠ g := O6.out.ne (i := 2) (j := 0) rfl rfl (by decide); have n6_2_3 : g1 ≠ g4 := O6.out.ne (i := 2) (j := 3) rfl rfl (by decide); have n6_3_0 : g4 ≠ g := O6.out.ne (i := 3) (j := 0) rfl rfl (by decide); have n6_3_2 : g4 ≠ g1 := O6.out.ne (i := 3) (j := 2) rfl rfl (by decide); clear o_ k_ hb_) | ((with_reducible refine gate_store (t := 32) (p := 4) rfl ?_); refine own_store rfl rfl rfl (w1 := (World.setCell (World.setCell (World.setCell w6 ⟨g1, 0, none⟩ (.int .i64 0)) ⟨g1, 1, none⟩ (.int .i64 0)) ⟨g1, 2, none⟩ (.slice none 0 0))) (N := N) (l' := [cells g #[.int .i64 o, .int .i64 m, .slice A0 L.length c0] 52, nrow k32 32 (.slice A0 L.length c0) L, cells g1 #[.int .i64 0, .int .i64 0, .slice none 0 0] 32, cells g4 #[.int .i64 o, .int .i64 ((L.length : Int) + 1), .slice B ups.length c] 32]) ?hr ?ho ?hk ?_; (case hr => first | (go_simp; done) | (go_simp; rfl)); (case ho => exact (((O6.out.set (i := 2) rfl 0 (.int .i64 0)).set (i := 2) rfl 1 (.int .i64 0)).set (i := 2) rfl 2 (.slice none 0 0))); (case hk => exact (((KeepS.setCell (O6.out.far (i := 2) rfl) (.int .i64 0)).trans (KeepS.setCell (O6.out.far (i := 2) rfl) (.int .i64 0))).trans (KeepS.setCell (O6.out.far (i := 2) rfl) (.slice none 0 0)))); intro w7 o_ k_; have O7 : Aside0 (Own N w7 [cells g #[.int .i64 o, .int .i64 m, .slice A0 L.length c0] 52, nrow k32 32 (.slice A0 L.length c0) L, cells g1 #[.int .i64 0, .int .i64 0, .slice none 0 0] 32, cells g4 #[.int .i64 o, .int .i64 ((L.length : Int) + 1), .slice B ups.length c] 32]) := ⟨o_⟩; have K7 : Aside0 (KeepS N w w7) := ⟨K6.out.trans k_⟩; have HR_7 : Aside0 (Kd.F k50 w7 N B ups.length ups) := ⟨keepF HR_6.out k_⟩; clear c6_0_0 f6_0_0 c6_0_1 f6_0_1 c6_0_2 f6_0_2 c6_2_0 f6_2_0 c6_2_1 f6_2_1 c6_2_2 f6_2_2 c6_3_0 f6_3_0 c6_3_1 f6_3_1 c6_3_2 f6_3_2 n6_0_2 n6_0_3 n6_2_0 n6_2_3 n6_3_0 n6_3_2 O6 K6 HR_6; have c7_0_0 : w7.cell? ⟨g, 0, none⟩ = some (.int .i64 o) := (blk_cell (O7.out.blk (i := 0) rfl) 0).trans rfl; have f7_0_0 : w7.frozen? ⟨g, 0, none⟩ = false := blk_frozen (O7.out.blk (i := 0) rfl) 0; have c7_0_1 : w7.cell? ⟨g, 1, none⟩ = some (.int .i64 m) := (blk_cell (O7.out.blk (i := 0) rfl) 1).trans rfl; have f7_0_1 : w7.frozen? ⟨g, 1, none⟩ = false := blk_frozen (O7.out.blk (i := 0) rfl) 1; have c7_0_2 : w7.cell? ⟨g, 2, none⟩ = some (.slice A0 L.length c0) := (blk_cell (O7.out.blk (i := 0) rfl) 2).trans rfl; have f7_0_2 : w7.frozen? ⟨g, 2, none⟩ = false := blk_frozen (O7.out.blk (i := 0) rfl) 2; have c7_2_0 : w7.cell? ⟨g1, 0, none⟩ = some (.int .i64 0) := (blk_cell (O7.out.blk (i := 2) rfl) 0).trans rfl; have f7_2_0 : w7.frozen? ⟨g1, 0, none⟩ = false := blk_frozen (O7.out.blk (i := 2) rfl) 0; have c7_2_1 : w7.cell? ⟨g1, 1, none⟩ = some (.int .i64 0) := (blk_cell (O7.out.blk (i := 2) rfl) 1).trans rfl; have f7_2_1 : w7.frozen? ⟨g1, 1, none⟩ = false := blk_frozen (O7.out.blk (i := 2) rfl) 1; have c7_2_2 : w7.cell? ⟨g1, 2, none⟩ = some (.slice none 0 0) := (blk_cell (O7.out.blk (i := 2) rfl) 2).trans rfl; have f7_2_2 : w7.frozen? ⟨g1, 2, none⟩ = false := blk_frozen (O7.out.blk (i := 2) rfl) 2; have c7_3_0 : w7.cell? ⟨g4, 0, none⟩ = some (.int .i64 o) := (blk_cell (O7.out.blk (i := 3) rfl) 0).trans rfl; have f7_3_0 : w7.frozen? ⟨g4, 0, none⟩ = false := blk_frozen (O7.out.blk (i := 3) rfl) 0; have c7_3_1 : w7.cell? ⟨g4, 1, none⟩ = some (.int .i64 ((L.length : Int) + 1)) := (blk_cell (O7.out.blk (i := 3) rfl) 1).trans rfl; have f7_3_1 : w7.frozen? ⟨g4, 1, none⟩ = false := blk_frozen (O7.out.blk (i := 3) rfl) 1; have c7_3_2 : w7.cell? ⟨g4, 2, none⟩ = some (.slice B ups.length c) := (blk_cell (O7.out.blk (i := 3) rfl) 2).trans rfl; have f7_3_2 : w7.frozen? ⟨g4, 2, none⟩ = false := blk_frozen (O7.out.blk (i := 3) rfl) 2; have n7_0_2 : g ≠ g1 := O7.out.ne (i := 0) (j := 2) rfl rfl (by decide); have n7_0_3 : g ≠ g4 := O7.out.ne (i := 0) (j := 3) rfl rfl (by decide); have n7_2_0 : g1 ≠ g := O7.out.ne (i := 2) (j := 0) rfl rfl (by decide); have n7_2_3 : g1 ≠ g4 := O7.out.ne (i := 2) (j := 3) rfl rfl (by decide); have n7_3_0 : g4 ≠ g := O7.out.ne (i := 3) (j := 0) rfl rfl (by decide); have n7_3_2 : g4 ≠ g1 := O7.out.ne (i := 3) (j := 2) rfl rfl (by decide); clear o_ k_))
  refine bodyPost_ret (results_ct rfl _ _ g1 32 #[.int .i64 0, .int .i64 0, .slice none 0 0] (0, 0) _ rfl (O7.out.blk (i := 2) rfl) Try.underlying32 rfl (by kernel_rfl)) rfl ?_
  exact ⟨none, 0, rfl, ((Obj3.shut (i := 0) (j := 1) O7.out rfl rfl (by decide)).take 1).push_emp _ (fun w => Kd.N_nil _ _ _ _ _), K7.out⟩
theorem copy_ok (o n : Int) (ups : List S50) (hu : ups.length ≤ 1000000) : round_Copy.f o n ups = some (o, n, ups) := by
  unfold round_Copy.f api_Update.f
  rw [if_pos (by omega)]
  rfl
set_option maxHeartbeats 8000000 in
set_option maxRecDepth 100000 in
theorem Add_ok {N : Nat → Prop} {w : World} {g : Nat} {o m : Int} {L : List S32} (B : Option Addr) (c : Nat) (ups : List S50) (h : Own N w [Obj3 52 g o m L]) (hr : Kd.F k50 w N B ups.length ups) (hc : ups.length ≤ c) (hL : L.length ≤ 1000000) (hu : ups.length ≤ 1000000) (hq : ((L.length : Int) == m) = false) (k : Nat) (he : round_May.f k o ((L.length : Int) + 1) ups = some 0) :
    Calls Try.prog 12 #[.pointer (some ⟨g, 0, none⟩), .slice B ups.length c] w fun e_ w' => ∃ A1 c1, e_ = .returned (.tuple #[.agg #[.int .i64 o, .int .i64 ((L.length : Int) + 1), .slice A1 (ups).length c1], .int .i64 0]) ∧ Own N w' [Obj3 52 g o m (L ++ [(⟨o, (L.length : Int) + 1, ups⟩ : S32)]), nrow k50 50 (.slice A1 (ups).length c1) (ups)] ∧ KeepS N w w' := by
  obtain ⟨A0, c0, h2⟩ := Obj3.open_ h (i := 0) rfl
  have HR_0 : Aside0 (Kd.F k50 w N B ups.length ups) := ⟨hr⟩
  have HC := Aside0.mk hc
  have O0 : Aside0 (Own N w [cells g #[.int .i64 o, .int .i64 m, .slice A0 L.length c0] 52, nrow k32 32 (.slice A0 L.length c0) L]) := ⟨h2⟩
  have K0 : Aside0 (KeepS N w w) := ⟨KeepS.refl _ _⟩
  have c0_0_0 : w.cell? ⟨g, 0, none⟩ = some (.int .i64 o) := (blk_cell (O0.out.blk (i := 0) rfl) 0).trans rfl
  have f0_0_0 : w.frozen? ⟨g, 0, none⟩ = false := blk_frozen (O0.out.blk (i := 0) rfl) 0
  have c0_0_1 : w.cell? ⟨g, 1, none⟩ = some (.int .i64 m) := (blk_cell (O0.out.blk (i := 0) rfl) 1).trans rfl
  have f0_0_1 : w.frozen? ⟨g, 1, none⟩ = false := blk_frozen (O0.out.blk (i := 0) rfl) 1
  have c0_0_2 : w.cell? ⟨g, 2, none⟩ = some (.slice A0 L.length c0) := (blk_cell (O0.out.blk (i := 0) rfl) 2).trans rfl
  have f0_0_2 : w.frozen? ⟨g, 2, none⟩ = false := blk_frozen (O0.out.blk (i := 0) rfl) 2
  have HE := Aside0.mk he
  clear he
  have hs1 : IntKind.i64.wrap ((L.length : Int) + 1) = (L.length : Int) + 1 := by rw [IntKind.wrap_i64]; omega
  have hs2 : wrap64 ((L.length : Int) + 1) = (L.length : Int) + 1 := by unfold wrap64; omega
  have HL := Aside0.mk hL
  have HCP : Aside0 (round_Copy.f o ((L.length : Int) + 1) ups = some (o, (L.length : Int) + 1, ups)) := ⟨copy_ok _ _ _ hu⟩
  clear h2 h hr hc hL hu
  go_enter Try.func12, Try.ntmps12
  go_wp2_with (first | ((with_reducible refine gate_dst (N := 4) rfl ?_); refine own_box rfl (D := 4) rfl (cs := #[.int .i64 0, .int .i64 0, .slice none 0 0]) (t := 32) ?hr O0.out ?_; (case hr => first | (go_simp; done) | (go_simp; rfl)); intro g1 w1 o_ k_; have O1 : Aside0 (Own N w1 [cells g #[.int .i64 o, .int .i64 m, .slice A0 L.length c0] 52, nrow k32 32 (.slice A0 L.length c0) L, cells g1 #[.int .i64 0, .int .i64 0, .slice none 0 0] 32]) := ⟨o_⟩; have K1 : Aside0 (KeepS N w w1) := ⟨K0.out.trans k_⟩; have HR_1 : Aside0 (Kd.F k50 w1 N B ups.length ups) := ⟨keepF HR_0.out k_⟩; clear c0_0_0 f0_0_0 c0_0_1 f0_0_1 c0_0_2 f0_0_2 O0 K0 HR_0; have c1_0_0 : w1.cell? ⟨g, 0, none⟩ = some (.int .i64 o) := (blk_cell (O1.out.blk (i := 0) rfl) 0).trans rfl; have f1_0_0 : w1.frozen? ⟨g, 0, none⟩ = false := blk_frozen (O1.out.blk (i := 0) rfl) 0; have c1_0_1 : w1.cell? ⟨g, 1, none⟩ = some (.int .i64 m) := (blk_cell (O1.out.blk (i := 0) rfl) 1).trans rfl; have f1_0_1 : w1.frozen? ⟨g, 1, none⟩ = false := blk_frozen (O1.out.blk (i := 0) rfl) 1; have c1_0_2 : w1.cell? ⟨g, 2, none⟩ = some (.slice A0 L.length c0) := (blk_cell (O1.out.blk (i := 0) rfl) 2).trans rfl; have f1_0_2 : w1.frozen? ⟨g, 2, none⟩ = false := blk_frozen (O1.out.blk (i := 0) rfl) 2; have c1_2_0 : w1.cell? ⟨g1, 0, none⟩ = some (.int .i64 0) := (blk_cell (O1.out.blk (i := 2) rfl) 0).trans rfl; have f1_2_0 : w1.frozen? ⟨g1, 0, none⟩ = false := blk_frozen (O1.out.blk (i := 2) rfl) 0; have c1_2_1 : w1.cell? ⟨g1, 1, none⟩ = some (.int .i64 0) := (blk_cell (O1.out.blk (i := 2) rfl) 1).trans rfl; have f1_2_1 : w1.frozen? ⟨g1, 1, none⟩ = false := blk_frozen (O1.out.blk (i := 2) rfl) 1; have c1_2_2 : w1.cell? ⟨g1, 2, none⟩ = some (.slice none 0 0) := (blk_cell (O1.out.blk (i := 2) rfl) 2).trans rfl; have f1_2_2 : w1.frozen? ⟨g1, 2, none⟩ = false := blk_frozen (O1.out.blk (i := 2) rfl) 2; have n1_0_2 : g ≠ g1 := O1.out.ne (i := 0) (j := 2) rfl rfl (by decide); have n1_2_0 : g1 ≠ g := O1.out.ne (i := 2) (j := 0) rfl rfl (by decide); clear o_ k_))
  refine start_ (n := 10) (S := fun w' => w'.cell? ⟨g, 0, none⟩ = some (.int .i64 o) ∧ w'.cell? ⟨g, 1, none⟩ = some (.int .i64 m) ∧ w'.cell? ⟨g, 2, none⟩ = some (.slice A0 L.length c0)) (ds := []) #[false, false, false, false, false, false, false, false, false, false] (by kernel_rfl) rfl rfl ⟨((blk_cell (O1.out.blk (i := 0) rfl) 0).trans rfl), ((blk_cell (O1.out.blk (i := 0) rfl) 1).trans rfl), ((blk_cell (O1.out.blk (i := 0) rfl) 2).trans rfl)⟩ (fun hHeld => ?_)
  obtain ⟨w2, hw_⟩ : ∃ W, W = w1.drew := ⟨_, rfl⟩
  have o_ := O1.out.drew
  have k_ : KeepS N w1 w1.drew := KeepS.drew
  rw [← hw_] at o_ k_ hHeld ⊢
  clear hw_
  have O2 : Aside0 (Own N w2 [cells g #[.int .i64 o, .int .i64 m, .slice A0 L.length c0] 52, nrow k32 32 (.slice A0 L.length c0) L, cells g1 #[.int .i64 0, .int .i64 0, .slice none 0 0] 32]) := ⟨o_⟩
  have K2 : Aside0 (KeepS N w w2) := ⟨K1.out.trans k_⟩
  have HR_2 : Aside0 (Kd.F k50 w2 N B ups.length ups) := ⟨keepF HR_1.out k_⟩
  clear c1_0_0 f1_0_0 c1_0_1 f1_0_1 c1_0_2 f1_0_2 c1_2_0 f1_2_0 c1_2_1 f1_2_1 c1_2_2 f1_2_2 n1_0_2 n1_2_0 O1 K1 HR_1
  have c2_0_0 : w2.cell? ⟨g, 0, none⟩ = some (.int .i64 o) := (blk_cell (O2.out.blk (i := 0) rfl) 0).trans rfl
  have f2_0_0 : w2.frozen? ⟨g, 0, none⟩ = false := blk_frozen (O2.out.blk (i := 0) rfl) 0
  have c2_0_1 : w2.cell? ⟨g, 1, none⟩ = some (.int .i64 m) := (blk_cell (O2.out.blk (i := 0) rfl) 1).trans rfl
  have f2_0_1 : w2.frozen? ⟨g, 1, none⟩ = false := blk_frozen (O2.out.blk (i := 0) rfl) 1
  have c2_0_2 : w2.cell? ⟨g, 2, none⟩ = some (.slice A0 L.length c0) := (blk_cell (O2.out.blk (i := 0) rfl) 2).trans rfl
  have f2_0_2 : w2.frozen? ⟨g, 2, none⟩ = false := blk_frozen (O2.out.blk (i := 0) rfl) 2
  have c2_2_0 : w2.cell? ⟨g1, 0, none⟩ = some (.int .i64 0) := (blk_cell (O2.out.blk (i := 2) rfl) 0).trans rfl
  have f2_2_0 : w2.frozen? ⟨g1, 0, none⟩ = false := blk_frozen (O2.out.blk (i := 2) rfl) 0
  have c2_2_1 : w2.cell? ⟨g1, 1, none⟩ = some (.int .i64 0) := (blk_cell (O2.out.blk (i := 2) rfl) 1).trans rfl
  have f2_2_1 : w2.frozen? ⟨g1, 1, none⟩ = false := blk_frozen (O2.out.blk (i := 2) rfl) 1
  have c2_2_2 : w2.cell? ⟨g1, 2, none⟩ = some (.slice none 0 0) := (blk_cell (O2.out.blk (i := 2) rfl) 2).trans rfl
  have f2_2_2 : w2.frozen? ⟨g1, 2, none⟩ = false := blk_frozen (O2.out.blk (i := 2) rfl) 2
  have n2_0_2 : g ≠ g1 := O2.out.ne (i := 0) (j := 2) rfl rfl (by decide)
  have n2_2_0 : g1 ≠ g := O2.out.ne (i := 2) (j := 0) rfl rfl (by decide)
  clear o_ k_
  refine pure_ (i := 0) (N := some 8) (v := ?_) (a' := ?_) #[true, false, false, false, false, false, false, false, false, false] rfl rfl (by kernel_rfl) (fun _ _ _ h => h) (Or.inl ⟨by rfl, ?_⟩) ?_ ?_
  rotate_left
  · intro w'
    go_simp
    with_reducible rfl
  rotate_left
  · simp only [Act.put, List.setIfInBounds_toArray, List.set_cons_zero, List.set_cons_succ, i64_w, i32_w]
    rfl
  refine pure_ (i := 1) (N := some 9) (v := ?_) (a' := ?_) #[true, true, false, false, false, false, false, false, false, false] rfl rfl (by kernel_rfl) (fun _ _ _ h => h) (Or.inl ⟨by rfl, ?_⟩) ?_ ?_
  rotate_left
  · intro w'
    go_simp
    with_reducible rfl
  rotate_left
  · simp only [Act.put, List.setIfInBounds_toArray, List.set_cons_zero, List.set_cons_succ, i64_w, i32_w]
    rfl
  refine pure_ (i := 2) (N := some 10) (v := ?_) (a' := ?_) #[true, true, true, false, false, false, false, false, false, false] rfl rfl (by kernel_rfl) (fun _ _ _ h => h) (Or.inl ⟨by rfl, ?_⟩) ?_ ?_
  rotate_left
  · intro w'
    go_simp
    with_reducible rfl
  rotate_left
  · simp only [Act.put, List.setIfInBounds_toArray, List.set_cons_zero, List.set_cons_succ, i64_w, i32_w]
    rfl
  refine pure_ (i := 5) (N := some 13) (v := ?_) (a' := ?_) #[true, true, true, false, false, true, false, false, false, false] rfl rfl (by kernel_rfl) (fun _ _ _ h => h) (Or.inl ⟨by rfl, ?_⟩) ?_ ?_
  rotate_left
  · intro w'
    go_simp
    with_reducible rfl
  rotate_left
  · simp only [Act.put, List.setIfInBounds_toArray, List.set_cons_zero, List.set_cons_succ, i64_w, i32_w]
    rfl
  refine pure_ (i := 6) (N := some 14) (v := ?_) (a' := ?_) #[true, true, true, false, false, true, true, false, false, false] rfl rfl (by kernel_rfl) (fun _ _ _ h => h) (Or.inl ⟨by rfl, ?_⟩) ?_ ?_
  rotate_left
  · intro w'
    go_simp
    with_reducible rfl
  rotate_left
  · simp only [Act.put, List.setIfInBounds_toArray, List.set_cons_zero, List.set_cons_succ, i64_w, i32_w]
    rfl
  refine pure_ (i := 7) (N := some 15) (v := ?_) (a' := ?_) #[true, true, true, false, false, true, true, true, false, false] rfl rfl (by kernel_rfl) (fun _ _ _ h => h) (Or.inl ⟨by rfl, ?_⟩) ?_ ?_
  rotate_left
  · intro w'
    go_simp
    with_reducible rfl
  rotate_left
  · simp only [Act.put, List.setIfInBounds_toArray, List.set_cons_zero, List.set_cons_succ, i64_w, i32_w]
    rfl
  refine take_ (i := 3) (N := some 11) (v := ?_) (a' := ?_) #[true, true, true, true, false, true, true, true, false, false] rfl rfl (by kernel_rfl) (fun _ _ _ h => h) (Or.inl ⟨by rfl, ?_⟩) hHeld ?_ ?_
  rotate_left
  · rintro w' ⟨s0, s1, s2⟩
    go_simp
    with_reducible rfl
  rotate_left
  · simp only [Act.put, List.setIfInBounds_toArray, List.set_cons_zero, List.set_cons_succ, i64_w, i32_w]
    rfl
  refine pure_ (i := 4) (N := some 12) (v := ?_) (a' := ?_) #[true, true, true, true, true, true, true, true, false, false] rfl rfl (by kernel_rfl) (fun _ _ _ h => h) (Or.inl ⟨by rfl, ?_⟩) ?_ ?_
  rotate_left
  · intro w'
    go_simp
    with_reducible rfl
  rotate_left
  · simp only [Act.put, List.setIfInBounds_toArray, List.set_cons_zero, List.set_cons_succ, i64_w, i32_w]
    rfl
  refine take_ (i := 8) (N := some 16) (v := ?_) (a' := ?_) #[true, true, true, true, true, true, true, true, true, false] rfl rfl (by kernel_rfl) (fun _ _ _ h => h) (Or.inl ⟨by rfl, ?_⟩) hHeld ?_ ?_
  rotate_left
  · rintro w' ⟨s0, s1, s2⟩
    go_simp
    with_reducible rfl
  rotate_left
  · simp only [Act.put, List.setIfInBounds_toArray, List.set_cons_zero, List.set_cons_succ, i64_w, i32_w]
    rfl
  refine pure_ (i := 9) (N := some 17) (v := ?_) (a' := ?_) #[true, true, true, true, true, true, true, true, true, true] rfl rfl (by kernel_rfl) (fun _ _ _ h => h) (Or.inl ⟨by rfl, ?_⟩) ?_ ?_
  rotate_left
  · intro w'
    go_simp
    with_reducible rfl
  rotate_left
  · simp only [Act.put, List.setIfInBounds_toArray, List.set_cons_zero, List.set_cons_succ, i64_w, i32_w]
    rfl
  refine done_ (by kernel_rfl) ?_
  clear hHeld
  go_wp2
  refine start_ (n := 14) (S := fun w' => w'.cell? ⟨g, 0, none⟩ = some (.int .i64 o) ∧ w'.cell? ⟨g, 1, none⟩ = some (.int .i64 m) ∧ w'.cell? ⟨g, 2, none⟩ = some (.slice A0 L.length c0)) (ds := []) #[false, false, false, false, false, false, false, false, false, false, false, false, false, false] (by kernel_rfl) rfl rfl ⟨((blk_cell (O2.out.blk (i := 0) rfl) 0).trans rfl), ((blk_cell (O2.out.blk (i := 0) rfl) 1).trans rfl), ((blk_cell (O2.out.blk (i := 0) rfl) 2).trans rfl)⟩ (fun hHeld => ?_)
  obtain ⟨w3, hw_⟩ : ∃ W, W = w2.drew := ⟨_, rfl⟩
  have o_ := O2.out.drew
  have k_ : KeepS N w2 w2.drew := KeepS.drew
  rw [← hw_] at o_ k_ hHeld ⊢
  clear hw_
  have O3 : Aside0 (Own N w3 [cells g #[.int .i64 o, .int .i64 m, .slice A0 L.length c0] 52, nrow k32 32 (.slice A0 L.length c0) L, cells g1 #[.int .i64 0, .int .i64 0, .slice none 0 0] 32]) := ⟨o_⟩
  have K3 : Aside0 (KeepS N w w3) := ⟨K2.out.trans k_⟩
  have HR_3 : Aside0 (Kd.F k50 w3 N B ups.length ups) := ⟨keepF HR_2.out k_⟩
  clear c2_0_0 f2_0_0 c2_0_1 f2_0_1 c2_0_2 f2_0_2 c2_2_0 f2_2_0 c2_2_1 f2_2_1 c2_2_2 f2_2_2 n2_0_2 n2_2_0 O2 K2 HR_2
  have c3_0_0 : w3.cell? ⟨g, 0, none⟩ = some (.int .i64 o) := (blk_cell (O3.out.blk (i := 0) rfl) 0).trans rfl
  have f3_0_0 : w3.frozen? ⟨g, 0, none⟩ = false := blk_frozen (O3.out.blk (i := 0) rfl) 0
  have c3_0_1 : w3.cell? ⟨g, 1, none⟩ = some (.int .i64 m) := (blk_cell (O3.out.blk (i := 0) rfl) 1).trans rfl
  have f3_0_1 : w3.frozen? ⟨g, 1, none⟩ = false := blk_frozen (O3.out.blk (i := 0) rfl) 1
  have c3_0_2 : w3.cell? ⟨g, 2, none⟩ = some (.slice A0 L.length c0) := (blk_cell (O3.out.blk (i := 0) rfl) 2).trans rfl
  have f3_0_2 : w3.frozen? ⟨g, 2, none⟩ = false := blk_frozen (O3.out.blk (i := 0) rfl) 2
  have c3_2_0 : w3.cell? ⟨g1, 0, none⟩ = some (.int .i64 0) := (blk_cell (O3.out.blk (i := 2) rfl) 0).trans rfl
  have f3_2_0 : w3.frozen? ⟨g1, 0, none⟩ = false := blk_frozen (O3.out.blk (i := 2) rfl) 0
  have c3_2_1 : w3.cell? ⟨g1, 1, none⟩ = some (.int .i64 0) := (blk_cell (O3.out.blk (i := 2) rfl) 1).trans rfl
  have f3_2_1 : w3.frozen? ⟨g1, 1, none⟩ = false := blk_frozen (O3.out.blk (i := 2) rfl) 1
  have c3_2_2 : w3.cell? ⟨g1, 2, none⟩ = some (.slice none 0 0) := (blk_cell (O3.out.blk (i := 2) rfl) 2).trans rfl
  have f3_2_2 : w3.frozen? ⟨g1, 2, none⟩ = false := blk_frozen (O3.out.blk (i := 2) rfl) 2
  have n3_0_2 : g ≠ g1 := O3.out.ne (i := 0) (j := 2) rfl rfl (by decide)
  have n3_2_0 : g1 ≠ g := O3.out.ne (i := 2) (j := 0) rfl rfl (by decide)
  clear o_ k_
  refine pure_ (i := 0) (N := some 19) (v := ?_) (a' := ?_) #[true, false, false, false, false, false, false, false, false, false, false, false, false, false] rfl rfl (by kernel_rfl) (fun _ _ _ h => h) (Or.inl ⟨by rfl, ?_⟩) ?_ ?_
  rotate_left
  · intro w'
    go_simp
    with_reducible rfl
  rotate_left
  · simp only [Act.put, List.setIfInBounds_toArray, List.set_cons_zero, List.set_cons_succ, i64_w, i32_w]
    rfl
  refine pure_ (i := 1) (N := some 20) (v := ?_) (a' := ?_) #[true, true, false, false, false, false, false, false, false, false, false, false, false, false] rfl rfl (by kernel_rfl) (fun _ _ _ h => h) (Or.inl ⟨by rfl, ?_⟩) ?_ ?_
  rotate_left
  · intro w'
    go_simp
    with_reducible rfl
  rotate_left
  · simp only [Act.put, List.setIfInBounds_toArray, List.set_cons_zero, List.set_cons_succ, i64_w, i32_w]
    rfl
  refine pure_ (i := 2) (N := some 21) (v := ?_) (a' := ?_) #[true, true, true, false, false, false, false, false, false, false, false, false, false, false] rfl rfl (by kernel_rfl) (fun _ _ _ h => h) (Or.inl ⟨by rfl, ?_⟩) ?_ ?_
  rotate_left
  · intro w'
    go_simp
    with_reducible rfl
  rotate_left
  · simp only [Act.put, List.setIfInBounds_toArray, List.set_cons_zero, List.set_cons_succ, i64_w, i32_w]
    rfl
  refine pure_ (i := 4) (N := some 23) (v := ?_) (a' := ?_) #[true, true, true, false, true, false, false, false, false, false, false, false, false, false] rfl rfl (by kernel_rfl) (fun _ _ _ h => h) (Or.inl ⟨by rfl, ?_⟩) ?_ ?_
  rotate_left
  · intro w'
    go_simp
    with_reducible rfl
  rotate_left
  · simp only [Act.put, List.setIfInBounds_toArray, List.set_cons_zero, List.set_cons_succ, i64_w, i32_w]
    rfl
  refine pure_ (i := 5) (N := some 24) (v := ?_) (a' := ?_) #[true, true, true, false, true, true, false, false, false, false, false, false, false, false] rfl rfl (by kernel_rfl) (fun _ _ _ h => h) (Or.inl ⟨by rfl, ?_⟩) ?_ ?_
  rotate_left
  · intro w'
    go_simp
    with_reducible rfl
  rotate_left
  · simp only [Act.put, List.setIfInBounds_toArray, List.set_cons_zero, List.set_cons_succ, i64_w, i32_w]
    rfl
  refine pure_ (i := 6) (N := some 25) (v := ?_) (a' := ?_) #[true, true, true, false, true, true, true, false, false, false, false, false, false, false] rfl rfl (by kernel_rfl) (fun _ _ _ h => h) (Or.inl ⟨by rfl, ?_⟩) ?_ ?_
  rotate_left
  · intro w'
    go_simp
    with_reducible rfl
  rotate_left
  · simp only [Act.put, List.setIfInBounds_toArray, List.set_cons_zero, List.set_cons_succ, i64_w, i32_w]
    rfl
  refine pure_ (i := 10) (N := some 29) (v := ?_) (a' := ?_) #[true, true, true, false, true, true, true, false, false, false, true, false, false, false] rfl rfl (by kernel_rfl) (fun _ _ _ h => h) (Or.inl ⟨by rfl, ?_⟩) ?_ ?_
  rotate_left
  · intro w'
    go_simp
    with_reducible rfl
  rotate_left
  · simp only [Act.put, List.setIfInBounds_toArray, List.set_cons_zero, List.set_cons_succ, i64_w, i32_w]
    rfl
  refine take_ (i := 3) (N := some 22) (v := ?_) (a' := ?_) #[true, true, true, true, true, true, true, false, false, false, true, false, false, false] rfl rfl (by kernel_rfl) (fun _ _ _ h => h) (Or.inl ⟨by rfl, ?_⟩) hHeld ?_ ?_
  rotate_left
  · rintro w' ⟨s0, s1, s2⟩
    go_simp
    with_reducible rfl
  rotate_left
  · simp only [Act.put, List.setIfInBounds_toArray, List.set_cons_zero, List.set_cons_succ, i64_w, i32_w]
    rfl
  refine take_ (i := 7) (N := some 26) (v := ?_) (a' := ?_) #[true, true, true, true, true, true, true, true, false, false, true, false, false, false] rfl rfl (by kernel_rfl) (fun _ _ _ h => h) (Or.inl ⟨by rfl, ?_⟩) hHeld ?_ ?_
  rotate_left
  · rintro w' ⟨s0, s1, s2⟩
    go_simp
    with_reducible rfl
  rotate_left
  · simp only [Act.put, List.setIfInBounds_toArray, List.set_cons_zero, List.set_cons_succ, i64_w, i32_w]
    rfl
  refine pure_ (i := 8) (N := some 27) (v := ?_) (a' := ?_) #[true, true, true, true, true, true, true, true, true, false, true, false, false, false] rfl rfl (by kernel_rfl) (fun _ _ _ h => h) (Or.inl ⟨by rfl, ?_⟩) ?_ ?_
  rotate_left
  · intro w'
    go_simp
    with_reducible rfl
  rotate_left
  · simp only [Act.put, List.setIfInBounds_toArray, List.set_cons_zero, List.set_cons_succ, i64_w, i32_w]
    rfl
  refine pure_ (i := 9) (N := some 28) (v := ?_) (a' := ?_) #[true, true, true, true, true, true, true, true, true, true, true, false, false, false] rfl rfl (by kernel_rfl) (fun _ _ _ h => h) (Or.inl ⟨by rfl, ?_⟩) ?_ ?_
  rotate_left
  · intro w'
    go_simp
    with_reducible rfl
  rotate_left
  · simp only [Act.put, List.setIfInBounds_toArray, List.set_cons_zero, List.set_cons_succ, i64_w, i32_w]
    rfl
  refine pure_ (i := 11) (N := some 30) (v := ?_) (a' := ?_) #[true, true, true, true, true, true, true, true, true, true, true, true, false, false] rfl rfl (by kernel_rfl) (fun _ _ _ h => h) (Or.inl ⟨by rfl, ?_⟩) ?_ ?_
  rotate_left
  · intro w'
    go_simp
    with_reducible rfl
  rotate_left
  · simp only [Act.put, List.setIfInBounds_toArray, List.set_cons_zero, List.set_cons_succ, i64_w, i32_w]
    rfl
  refine one_ (i := 12) (N := some 6) #[true, true, true, true, true, true, true, true, true, true, true, true, true, false] rfl rfl (by kernel_rfl) (by decide) (fun K_ hK_ => ?_)
  refine own_box_step rfl rfl (cs := #[.int .i64 0, .int .i64 0, .slice none 0 0]) (t := 32) ?hr O3.out ?_
  (case hr => first | (go_simp; done) | (go_simp; rfl))
  intro g4 w4 o_ k_
  have O4 : Aside0 (Own N w4 [cells g #[.int .i64 o, .int .i64 m, .slice A0 L.length c0] 52, nrow k32 32 (.slice A0 L.length c0) L, cells g1 #[.int .i64 0, .int .i64 0, .slice none 0 0] 32, cells g4 #[.int .i64 0, .int .i64 0, .slice none 0 0] 32]) := ⟨o_⟩
  have K4 : Aside0 (KeepS N w w4) := ⟨K3.out.trans k_⟩
  have HR_4 : Aside0 (Kd.F k50 w4 N B ups.length ups) := ⟨keepF HR_3.out k_⟩
  clear c3_0_0 f3_0_0 c3_0_1 f3_0_1 c3_0_2 f3_0_2 c3_2_0 f3_2_0 c3_2_1 f3_2_1 c3_2_2 f3_2_2 n3_0_2 n3_2_0 O3 K3 HR_3
  have c4_0_0 : w4.cell? ⟨g, 0, none⟩ = some (.int .i64 o) := (blk_cell (O4.out.blk (i := 0) rfl) 0).trans rfl
  have f4_0_0 : w4.frozen? ⟨g, 0, none⟩ = false := blk_frozen (O4.out.blk (i := 0) rfl) 0
  have c4_0_1 : w4.cell? ⟨g, 1, none⟩ = some (.int .i64 m) := (blk_cell (O4.out.blk (i := 0) rfl) 1).trans rfl
  have f4_0_1 : w4.frozen? ⟨g, 1, none⟩ = false := blk_frozen (O4.out.blk (i := 0) rfl) 1
  have c4_0_2 : w4.cell? ⟨g, 2, none⟩ = some (.slice A0 L.length c0) := (blk_cell (O4.out.blk (i := 0) rfl) 2).trans rfl
  have f4_0_2 : w4.frozen? ⟨g, 2, none⟩ = false := blk_frozen (O4.out.blk (i := 0) rfl) 2
  have c4_2_0 : w4.cell? ⟨g1, 0, none⟩ = some (.int .i64 0) := (blk_cell (O4.out.blk (i := 2) rfl) 0).trans rfl
  have f4_2_0 : w4.frozen? ⟨g1, 0, none⟩ = false := blk_frozen (O4.out.blk (i := 2) rfl) 0
  have c4_2_1 : w4.cell? ⟨g1, 1, none⟩ = some (.int .i64 0) := (blk_cell (O4.out.blk (i := 2) rfl) 1).trans rfl
  have f4_2_1 : w4.frozen? ⟨g1, 1, none⟩ = false := blk_frozen (O4.out.blk (i := 2) rfl) 1
  have c4_2_2 : w4.cell? ⟨g1, 2, none⟩ = some (.slice none 0 0) := (blk_cell (O4.out.blk (i := 2) rfl) 2).trans rfl
  have f4_2_2 : w4.frozen? ⟨g1, 2, none⟩ = false := blk_frozen (O4.out.blk (i := 2) rfl) 2
  have c4_3_0 : w4.cell? ⟨g4, 0, none⟩ = some (.int .i64 0) := (blk_cell (O4.out.blk (i := 3) rfl) 0).trans rfl
  have f4_3_0 : w4.frozen? ⟨g4, 0, none⟩ = false := blk_frozen (O4.out.blk (i := 3) rfl) 0
  have c4_3_1 : w4.cell? ⟨g4, 1, none⟩ = some (.int .i64 0) := (blk_cell (O4.out.blk (i := 3) rfl) 1).trans rfl
  have f4_3_1 : w4.frozen? ⟨g4, 1, none⟩ = false := blk_frozen (O4.out.blk (i := 3) rfl) 1
  have c4_3_2 : w4.cell? ⟨g4, 2, none⟩ = some (.slice none 0 0) := (blk_cell (O4.out.blk (i := 3) rfl) 2).trans rfl
  have f4_3_2 : w4.frozen? ⟨g4, 2, none⟩ = false := blk_frozen (O4.out.blk (i := 3) rfl) 2
  have n4_0_2 : g ≠ g1 := O4.out.ne (i := 0) (j := 2) rfl rfl (by decide)
  have n4_0_3 : g ≠ g4 := O4.out.ne (i := 0) (j := 3) rfl rfl (by decide)
  have n4_2_0 : g1 ≠ g := O4.out.ne (i := 2) (j := 0) rfl rfl (by decide)
  have n4_2_3 : g1 ≠ g4 := O4.out.ne (i := 2) (j := 3) rfl rfl (by decide)
  have n4_3_0 : g4 ≠ g := O4.out.ne (i := 3) (j := 0) rfl rfl (by decide)
  have n4_3_2 : g4 ≠ g1 := O4.out.ne (i := 3) (j := 2) rfl rfl (by decide)
  clear o_ k_
  clear hHeld
  refine hK_.out _ _ ⟨((blk_cell (O4.out.blk (i := 0) rfl) 0).trans rfl), ((blk_cell (O4.out.blk (i := 0) rfl) 1).trans rfl), ((blk_cell (O4.out.blk (i := 0) rfl) 2).trans rfl)⟩ (fun hHeld => ?_)
  clear hK_ K_
  refine norm_ (a' := ?_) ?_ ?_
  rotate_left
  · simp only [Act.put, List.setIfInBounds_toArray, List.set_cons_zero, List.set_cons_succ, i64_w, i32_w]
    rfl
  refine one_ (i := 13) (N := none) #[true, true, true, true, true, true, true, true, true, true, true, true, true, true] rfl rfl (by kernel_rfl) (by decide) (fun K_ hK_ => ?_)
  refine own_store_step rfl rfl (w1 := (World.setCell (World.setCell (World.setCell w4 ⟨g4, 0, none⟩ (.int .i64 o)) ⟨g4, 1, none⟩ (.int .i64 ((L.length : Int) + 1))) ⟨g4, 2, none⟩ (.slice B ups.length c))) (N := N) (l' := [cells g #[.int .i64 o, .int .i64 m, .slice A0 L.length c0] 52, nrow k32 32 (.slice A0 L.length c0) L, cells g1 #[.int .i64 0, .int .i64 0, .slice none 0 0] 32, cells g4 #[.int .i64 o, .int .i64 ((L.length : Int) + 1), .slice B ups.length c] 32]) ?hr ?ho ?hk ?_
  (case hr => first | (go_simp; done) | (go_simp; rfl))
  (case ho => exact (((O4.out.set (i := 3) rfl 0 (.int .i64 o)).set (i := 3) rfl 1 (.int .i64 ((L.length : Int) + 1))).set (i := 3) rfl 2 (.slice B ups.length c)))
  (case hk => exact (((KeepS.setCell (O4.out.far (i := 3) rfl) (.int .i64 o)).trans (KeepS.setCell (O4.out.far (i := 3) rfl) (.int .i64 ((L.length : Int) + 1)))).trans (KeepS.setCell (O4.out.far (i := 3) rfl) (.slice B ups.length c))))
  intro w5 o_ k_
  have O5 : Aside0 (Own N w5 [cells g #[.int .i64 o, .int .i64 m, .slice A0 L.length c0] 52, nrow k32 32 (.slice A0 L.length c0) L, cells g1 #[.int .i64 0, .int .i64 0, .slice none 0 0] 32, cells g4 #[.int .i64 o, .int .i64 ((L.length : Int) + 1), .slice B ups.length c] 32]) := ⟨o_⟩
  have K5 : Aside0 (KeepS N w w5) := ⟨K4.out.trans k_⟩
  have HR_5 : Aside0 (Kd.F k50 w5 N B ups.length ups) := ⟨keepF HR_4.out k_⟩
  clear c4_0_0 f4_0_0 c4_0_1 f4_0_1 c4_0_2 f4_0_2 c4_2_0 f4_2_0 c4_2_1 f4_2_1 c4_2_2 f4_2_2 c4_3_0 f4_3_0 c4_3_1 f4_3_1 c4_3_2 f4_3_2 n4_0_2 n4_0_3 n4_2_0 n4_2_3 n4_3_0 n4_3_2 O4 K4 HR_4
  have c5_0_0 : w5.cell? ⟨g, 0, none⟩ = some (.int .i64 o) := (blk_cell (O5.out.blk (i := 0) rfl) 0).trans rfl
  have f5_0_0 : w5.frozen? ⟨g, 0, none⟩ = false := blk_frozen (O5.out.blk (i := 0) rfl) 0
  have c5_0_1 : w5.cell? ⟨g, 1, none⟩ = some (.int .i64 m) := (blk_cell (O5.out.blk (i := 0) rfl) 1).trans rfl
  have f5_0_1 : w5.frozen? ⟨g, 1, none⟩ = false := blk_frozen (O5.out.blk (i := 0) rfl) 1
  have c5_0_2 : w5.cell? ⟨g, 2, none⟩ = some (.slice A0 L.length c0) := (blk_cell (O5.out.blk (i := 0) rfl) 2).trans rfl
  have f5_0_2 : w5.frozen? ⟨g, 2, none⟩ = false := blk_frozen (O5.out.blk (i := 0) rfl) 2
  have c5_2_0 : w5.cell? ⟨g1, 0, none⟩ = some (.int .i64 0) := (blk_cell (O5.out.blk (i := 2) rfl) 0).trans rfl
  have f5_2_0 : w5.frozen? ⟨g1, 0, none⟩ = false := blk_frozen (O5.out.blk (i := 2) rfl) 0
  have c5_2_1 : w5.cell? ⟨g1, 1, none⟩ = some (.int .i64 0) := (blk_cell (O5.out.blk (i := 2) rfl) 1).trans rfl
  have f5_2_1 : w5.frozen? ⟨g1, 1, none⟩ = false := blk_frozen (O5.out.blk (i := 2) rfl) 1
  have c5_2_2 : w5.cell? ⟨g1, 2, none⟩ = some (.slice none 0 0) := (blk_cell (O5.out.blk (i := 2) rfl) 2).trans rfl
  have f5_2_2 : w5.frozen? ⟨g1, 2, none⟩ = false := blk_frozen (O5.out.blk (i := 2) rfl) 2
  have c5_3_0 : w5.cell? ⟨g4, 0, none⟩ = some (.int .i64 o) := (blk_cell (O5.out.blk (i := 3) rfl) 0).trans rfl
  have f5_3_0 : w5.frozen? ⟨g4, 0, none⟩ = false := blk_frozen (O5.out.blk (i := 3) rfl) 0
  have c5_3_1 : w5.cell? ⟨g4, 1, none⟩ = some (.int .i64 ((L.length : Int) + 1)) := (blk_cell (O5.out.blk (i := 3) rfl) 1).trans rfl
  have f5_3_1 : w5.frozen? ⟨g4, 1, none⟩ = false := blk_frozen (O5.out.blk (i := 3) rfl) 1
  have c5_3_2 : w5.cell? ⟨g4, 2, none⟩ = some (.slice B ups.length c) := (blk_cell (O5.out.blk (i := 3) rfl) 2).trans rfl
  have f5_3_2 : w5.frozen? ⟨g4, 2, none⟩ = false := blk_frozen (O5.out.blk (i := 3) rfl) 2
  have n5_0_2 : g ≠ g1 := O5.out.ne (i := 0) (j := 2) rfl rfl (by decide)
  have n5_0_3 : g ≠ g4 := O5.out.ne (i := 0) (j := 3) rfl rfl (by decide)
  have n5_2_0 : g1 ≠ g := O5.out.ne (i := 2) (j := 0) rfl rfl (by decide)
  have n5_2_3 : g1 ≠ g4 := O5.out.ne (i := 2) (j := 3) rfl rfl (by decide)
  have n5_3_0 : g4 ≠ g := O5.out.ne (i := 3) (j := 0) rfl rfl (by decide)
  have n5_3_2 : g4 ≠ g1 := O5.out.ne (i := 3) (j := 2) rfl rfl (by decide)
  clear o_ k_
  clear hHeld
  refine hK_.out _ _ ⟨((blk_cell (O5.out.blk (i := 0) rfl) 0).trans rfl), ((blk_cell (O5.out.blk (i := 0) rfl) 1).trans rfl), ((blk_cell (O5.out.blk (i := 0) rfl) 2).trans rfl)⟩ (fun hHeld => ?_)
  clear hK_ K_
  refine done_ (by kernel_rfl) ?_
  clear hHeld
  go_wp2_with (first | ((with_reducible refine gate_callee (f := 21) rfl ?_); refine goesL_ (some 32) rfl rfl Try.func21 (by kernel_rfl) rfl #[.agg #[.int .i64 o, .int .i64 ((L.length : Int) + 1), .slice B ups.length c]] rfl (by (try simp only [List.map_toArray, List.map_cons, List.map_nil]); first | done | rfl) ?_; refine (round_May.calls k _ _ _ _ ups 0 _ (Kd.F_now HR_5.out) HC.out HE.out).mono ?_; rintro e_ w6 ⟨rfl, hb_⟩; refine ⟨_, rfl, ?_⟩; have o_ := O5.out.below hb_; have k_ := KeepS.of_below (N := N) hb_; have O6 : Aside0 (Own N w6 [cells g #[.int .i64 o, .int .i64 m, .slice A0 L.length c0] 52, nrow k32 32 (.slice A0 L.length c0) L, cells g1 #[.int .i64 0, .int .i64 0, .slice none 0 0] 32, cells g4 #[.int .i64 o, .int .i64 ((L.length : Int) + 1), .slice B ups.length c] 32]) := ⟨o_⟩; have K6 : Aside0 (KeepS N w w6) := ⟨K5.out.trans k_⟩; have HR_6 : Aside0 (Kd.F k50 w6 N B ups.length ups) := ⟨keepF HR_5.out k_⟩; clear c5_0_0 f5_0_0 c5_0_1 f5_0_1 c5_0_2 f5_0_2 c5_2_0 f5_2_0 c5_2_1 f5_2_1 c5_2_2 f5_2_2 c5_3_0 f5_3_0 c5_3_1 f5_3_1 c5_3_2 f5_3_2 n5_0_2 n5_0_3 n5_2_0 n5_2_3 n5_3_0 n5_3_2 O5 K5 HR_5; have c6_0_0 : w6.cell? ⟨g, 0, none⟩ = some (.int .i64 o) := (blk_cell (O6.out.blk (i := 0) rfl) 0).trans rfl; have f6_0_0 : w6.frozen? ⟨g, 0, none⟩ = false := blk_frozen (O6.out.blk (i := 0) rfl) 0; have c6_0_1 : w6.cell? ⟨g, 1, none⟩ = some (.int .i64 m) := (blk_cell (O6.out.blk (i := 0) rfl) 1).trans rfl; have f6_0_1 : w6.frozen? ⟨g, 1, none⟩ = false := blk_frozen (O6.out.blk (i := 0) rfl) 1; have c6_0_2 : w6.cell? ⟨g, 2, none⟩ = some (.slice A0 L.length c0) := (blk_cell (O6.out.blk (i := 0) rfl) 2).trans rfl; have f6_0_2 : w6.frozen? ⟨g, 2, none⟩ = false := blk_frozen (O6.out.blk (i := 0) rfl) 2; have c6_2_0 : w6.cell? ⟨g1, 0, none⟩ = some (.int .i64 0) := (blk_cell (O6.out.blk (i := 2) rfl) 0).trans rfl; have f6_2_0 : w6.frozen? ⟨g1, 0, none⟩ = false := blk_frozen (O6.out.blk (i := 2) rfl) 0; have c6_2_1 : w6.cell? ⟨g1, 1, none⟩ = some (.int .i64 0) := (blk_cell (O6.out.blk (i := 2) rfl) 1).trans rfl; have f6_2_1 : w6.frozen? ⟨g1, 1, none⟩ = false := blk_frozen (O6.out.blk (i := 2) rfl) 1; have c6_2_2 : w6.cell? ⟨g1, 2, none⟩ = some (.slice none 0 0) := (blk_cell (O6.out.blk (i := 2) rfl) 2).trans rfl; have f6_2_2 : w6.frozen? ⟨g1, 2, none⟩ = false := blk_frozen (O6.out.blk (i := 2) rfl) 2; have c6_3_0 : w6.cell? ⟨g4, 0, none⟩ = some (.int .i64 o) := (blk_cell (O6.out.blk (i := 3) rfl) 0).trans rfl; have f6_3_0 : w6.frozen? ⟨g4, 0, none⟩ = false := blk_frozen (O6.out.blk (i := 3) rfl) 0; have c6_3_1 : w6.cell? ⟨g4, 1, none⟩ = some (.int .i64 ((L.length : Int) + 1)) := (blk_cell (O6.out.blk (i := 3) rfl) 1).trans rfl; have f6_3_1 : w6.frozen? ⟨g4, 1, none⟩ = false := blk_frozen (O6.out.blk (i := 3) rfl) 1; have c6_3_2 : w6.cell? ⟨g4, 2, none⟩ = some (.slice B ups.length c) := (blk_cell (O6.out.blk (i := 3) rfl) 2).trans rfl; have f6_3_2 : w6.frozen? ⟨g4, 2, none⟩ = false := blk_frozen (O6.out.blk (i := 3) rfl) 2; have n6_0_2 : g ≠ g1 := O6.out.ne (i := 0) (j := 2) rfl rfl (by decide); have n6_0_3 : g ≠ g4 := O6.out.ne (i := 0) (j := 3) rfl rfl (by decide); have n6_2_0 : g1 ≠ g := O6.out.ne (i := 2) (j := 0) rfl rfl (by decide); have n6_2_3 : g1 ≠ g4 := O6.out.ne (i := 2) (j := 3) rfl rfl (by decide); have n6_3_0 : g4 ≠ g := O6.out.ne (i := 3) (j := 0) rfl rfl (by decide); have n6_3_2 : g4 ≠ g1 := O6.out.ne (i := 3) (j := 2) rfl rfl (by decide); clear o_ k_ hb_))
  refine start_ (n := 12) (S := fun w' => w'.cell? ⟨g, 0, none⟩ = some (.int .i64 o) ∧ w'.cell? ⟨g, 1, none⟩ = some (.int .i64 m) ∧ w'.cell? ⟨g, 2, none⟩ = some (.slice A0 L.length c0) ∧ w'.cell? ⟨g4, 0, none⟩ = some (.int .i64 o) ∧ w'.cell? ⟨g4, 1, none⟩ = some (.int .i64 ((L.length : Int) + 1)) ∧ w'.cell? ⟨g4, 2, none⟩ = some (.slice B ups.length c)) (ds := [8, 11]) #[false, false, false, false, false, false, false, false, false, false, false, false] (by kernel_rfl) rfl rfl ⟨((blk_cell (O6.out.blk (i := 0) rfl) 0).trans rfl), ((blk_cell (O6.out.blk (i := 0) rfl) 1).trans rfl), ((blk_cell (O6.out.blk (i := 0) rfl) 2).trans rfl), ((blk_cell (O6.out.blk (i := 3) rfl) 0).trans rfl), ((blk_cell (O6.out.blk (i := 3) rfl) 1).trans rfl), ((blk_cell (O6.out.blk (i := 3) rfl) 2).trans rfl)⟩ (fun hHeld => ?_)
  obtain ⟨w7, hw_⟩ : ∃ W, W = w6.drew := ⟨_, rfl⟩
  have o_ := O6.out.drew
  have k_ : KeepS N w6 w6.drew := KeepS.drew
  rw [← hw_] at o_ k_ hHeld ⊢
  clear hw_
  have O7 : Aside0 (Own N w7 [cells g #[.int .i64 o, .int .i64 m, .slice A0 L.length c0] 52, nrow k32 32 (.slice A0 L.length c0) L, cells g1 #[.int .i64 0, .int .i64 0, .slice none 0 0] 32, cells g4 #[.int .i64 o, .int .i64 ((L.length : Int) + 1), .slice B ups.length c] 32]) := ⟨o_⟩
  have K7 : Aside0 (KeepS N w w7) := ⟨K6.out.trans k_⟩
  have HR_7 : Aside0 (Kd.F k50 w7 N B ups.length ups) := ⟨keepF HR_6.out k_⟩
  clear c6_0_0 f6_0_0 c6_0_1 f6_0_1 c6_0_2 f6_0_2 c6_2_0 f6_2_0 c6_2_1 f6_2_1 c6_2_2 f6_2_2 c6_3_0 f6_3_0 c6_3_1 f6_3_1 c6_3_2 f6_3_2 n6_0_2 n6_0_3 n6_2_0 n6_2_3 n6_3_0 n6_3_2 O6 K6 HR_6
  have c7_0_0 : w7.cell? ⟨g, 0, none⟩ = some (.int .i64 o) := (blk_cell (O7.out.blk (i := 0) rfl) 0).trans rfl
  have f7_0_0 : w7.frozen? ⟨g, 0, none⟩ = false := blk_frozen (O7.out.blk (i := 0) rfl) 0
  have c7_0_1 : w7.cell? ⟨g, 1, none⟩ = some (.int .i64 m) := (blk_cell (O7.out.blk (i := 0) rfl) 1).trans rfl
  have f7_0_1 : w7.frozen? ⟨g, 1, none⟩ = false := blk_frozen (O7.out.blk (i := 0) rfl) 1
  have c7_0_2 : w7.cell? ⟨g, 2, none⟩ = some (.slice A0 L.length c0) := (blk_cell (O7.out.blk (i := 0) rfl) 2).trans rfl
  have f7_0_2 : w7.frozen? ⟨g, 2, none⟩ = false := blk_frozen (O7.out.blk (i := 0) rfl) 2
  have c7_2_0 : w7.cell? ⟨g1, 0, none⟩ = some (.int .i64 0) := (blk_cell (O7.out.blk (i := 2) rfl) 0).trans rfl
  have f7_2_0 : w7.frozen? ⟨g1, 0, none⟩ = false := blk_frozen (O7.out.blk (i := 2) rfl) 0
  have c7_2_1 : w7.cell? ⟨g1, 1, none⟩ = some (.int .i64 0) := (blk_cell (O7.out.blk (i := 2) rfl) 1).trans rfl
  have f7_2_1 : w7.frozen? ⟨g1, 1, none⟩ = false := blk_frozen (O7.out.blk (i := 2) rfl) 1
  have c7_2_2 : w7.cell? ⟨g1, 2, none⟩ = some (.slice none 0 0) := (blk_cell (O7.out.blk (i := 2) rfl) 2).trans rfl
  have f7_2_2 : w7.frozen? ⟨g1, 2, none⟩ = false := blk_frozen (O7.out.blk (i := 2) rfl) 2
  have c7_3_0 : w7.cell? ⟨g4, 0, none⟩ = some (.int .i64 o) := (blk_cell (O7.out.blk (i := 3) rfl) 0).trans rfl
  have f7_3_0 : w7.frozen? ⟨g4, 0, none⟩ = false := blk_frozen (O7.out.blk (i := 3) rfl) 0
  have c7_3_1 : w7.cell? ⟨g4, 1, none⟩ = some (.int .i64 ((L.length : Int) + 1)) := (blk_cell (O7.out.blk (i := 3) rfl) 1).trans rfl
  have f7_3_1 : w7.frozen? ⟨g4, 1, none⟩ = false := blk_frozen (O7.out.blk (i := 3) rfl) 1
  have c7_3_2 : w7.cell? ⟨g4, 2, none⟩ = some (.slice B ups.length c) := (blk_cell (O7.out.blk (i := 3) rfl) 2).trans rfl
  have f7_3_2 : w7.frozen? ⟨g4, 2, none⟩ = false := blk_frozen (O7.out.blk (i := 3) rfl) 2
  have n7_0_2 : g ≠ g1 := O7.out.ne (i := 0) (j := 2) rfl rfl (by decide)
  have n7_0_3 : g ≠ g4 := O7.out.ne (i := 0) (j := 3) rfl rfl (by decide)
  have n7_2_0 : g1 ≠ g := O7.out.ne (i := 2) (j := 0) rfl rfl (by decide)
  have n7_2_3 : g1 ≠ g4 := O7.out.ne (i := 2) (j := 3) rfl rfl (by decide)
  have n7_3_0 : g4 ≠ g := O7.out.ne (i := 3) (j := 0) rfl rfl (by decide)
  have n7_3_2 : g4 ≠ g1 := O7.out.ne (i := 3) (j := 2) rfl rfl (by decide)
  clear o_ k_
  refine pure_ (i := 0) (N := some 37) (v := ?_) (a' := ?_) #[true, false, false, false, false, false, false, false, false, false, false, false] rfl rfl (by kernel_rfl) (fun _ _ _ h => h) (Or.inl ⟨by rfl, ?_⟩) ?_ ?_
  rotate_left
  · intro w'
    go_simp
    with_reducible rfl
  rotate_left
  · simp only [Act.put, List.setIfInBounds_toArray, List.set_cons_zero, List.set_cons_succ, i64_w, i32_w]
    rfl
  refine pure_ (i := 1) (N := some 38) (v := ?_) (a' := ?_) #[true, true, false, false, false, false, false, false, false, false, false, false] rfl rfl (by kernel_rfl) (fun _ _ _ h => h) (Or.inl ⟨by rfl, ?_⟩) ?_ ?_
  rotate_left
  · intro w'
    go_simp
    with_reducible rfl
  rotate_left
  · simp only [Act.put, List.setIfInBounds_toArray, List.set_cons_zero, List.set_cons_succ, i64_w, i32_w]
    rfl
  refine pure_ (i := 2) (N := some 39) (v := ?_) (a' := ?_) #[true, true, true, false, false, false, false, false, false, false, false, false] rfl rfl (by kernel_rfl) (fun _ _ _ h => h) (Or.inl ⟨by rfl, ?_⟩) ?_ ?_
  rotate_left
  · intro w'
    go_simp
    with_reducible rfl
  rotate_left
  · simp only [Act.put, List.setIfInBounds_toArray, List.set_cons_zero, List.set_cons_succ, i64_w, i32_w]
    rfl
  refine pure_ (i := 3) (N := some 40) (v := ?_) (a' := ?_) #[true, true, true, true, false, false, false, false, false, false, false, false] rfl rfl (by kernel_rfl) (fun _ _ _ h => h) (Or.inl ⟨by rfl, ?_⟩) ?_ ?_
  rotate_left
  · intro w'
    go_simp
    with_reducible rfl
  rotate_left
  · simp only [Act.put, List.setIfInBounds_toArray, List.set_cons_zero, List.set_cons_succ, i64_w, i32_w]
    rfl
  refine take_ (i := 4) (N := some 41) (v := ?_) (a' := ?_) #[true, true, true, true, true, false, false, false, false, false, false, false] rfl rfl (by kernel_rfl) (fun _ _ _ h => h) (Or.inl ⟨by rfl, ?_⟩) hHeld ?_ ?_
  rotate_left
  · rintro w' ⟨s0, s1, s2, s3, s4, s5⟩
    go_simp
    with_reducible rfl
  rotate_left
  · simp only [Act.put, List.setIfInBounds_toArray, List.set_cons_zero, List.set_cons_succ, i64_w, i32_w]
    rfl
  refine take_ (i := 5) (N := some 42) (v := ?_) (a' := ?_) #[true, true, true, true, true, true, false, false, false, false, false, false] rfl rfl (by kernel_rfl) (fun _ _ _ h => h) (Or.inl ⟨by rfl, ?_⟩) hHeld ?_ ?_
  rotate_left
  · rintro w' ⟨s0, s1, s2, s3, s4, s5⟩
    go_simp
    with_reducible rfl
  rotate_left
  · simp only [Act.put, List.setIfInBounds_toArray, List.set_cons_zero, List.set_cons_succ, i64_w, i32_w]
    rfl
  refine one_ (i := 6) (N := some 43) #[true, true, true, true, true, true, true, false, false, false, false, false] rfl rfl (by kernel_rfl) (by decide) (fun K_ hK_ => ?_)
  refine goes_ Try.func22 (by kernel_rfl) rfl #[.agg #[.int .i64 o, .int .i64 ((L.length : Int) + 1), .slice B ups.length c]] (by rfl) rfl rfl (by (try simp only [List.map_toArray, List.map_cons, List.map_nil]); first | done | rfl) ?_
  refine (round_Copy.calls o ((L.length : Int) + 1) _ _ ups o ((L.length : Int) + 1) ups _ (Kd.F_now HR_7.out) HC.out HCP.out).mono ?_
  rintro e_ w8 ⟨v_, rfl, hR_, hb_⟩
  obtain ⟨A1, c1, e__⟩ := Kd.R_slice hR_
  subst e__
  refine ⟨_, rfl, ?_⟩
  have o_ := O7.out.pushR hb_ (Nat.le_refl _) hR_
  have k_ := KeepS.of_below (N := N) hb_
  have o2_ := roundOf ((⟨o, (L.length : Int) + 1, ups⟩ : S32)) (i := 4) o_ rfl
  have O8 : Aside0 (Own N w8 [cells g #[.int .i64 o, .int .i64 m, .slice A0 L.length c0] 52, nrow k32 32 (.slice A0 L.length c0) L, cells g1 #[.int .i64 0, .int .i64 0, .slice none 0 0] 32, cells g4 #[.int .i64 o, .int .i64 ((L.length : Int) + 1), .slice B ups.length c] 32, elt k32 ((⟨o, (L.length : Int) + 1, ups⟩ : S32)) [.int .i64 ((⟨o, (L.length : Int) + 1, ups⟩ : S32)).f0, .int .i64 ((⟨o, (L.length : Int) + 1, ups⟩ : S32)).f1, .slice A1 (ups).length c1]]) := ⟨o2_⟩
  have K8 : Aside0 (KeepS N w w8) := ⟨K7.out.trans k_⟩
  have HR_8 : Aside0 (Kd.F k50 w8 N B ups.length ups) := ⟨keepF HR_7.out k_⟩
  clear c7_0_0 f7_0_0 c7_0_1 f7_0_1 c7_0_2 f7_0_2 c7_2_0 f7_2_0 c7_2_1 f7_2_1 c7_2_2 f7_2_2 c7_3_0 f7_3_0 c7_3_1 f7_3_1 c7_3_2 f7_3_2 n7_0_2 n7_0_3 n7_2_0 n7_2_3 n7_3_0 n7_3_2 O7 K7 HR_7
  have c8_0_0 : w8.cell? ⟨g, 0, none⟩ = some (.int .i64 o) := (blk_cell (O8.out.blk (i := 0) rfl) 0).trans rfl
  have f8_0_0 : w8.frozen? ⟨g, 0, none⟩ = false := blk_frozen (O8.out.blk (i := 0) rfl) 0
  have c8_0_1 : w8.cell? ⟨g, 1, none⟩ = some (.int .i64 m) := (blk_cell (O8.out.blk (i := 0) rfl) 1).trans rfl
  have f8_0_1 : w8.frozen? ⟨g, 1, none⟩ = false := blk_frozen (O8.out.blk (i := 0) rfl) 1
  have c8_0_2 : w8.cell? ⟨g, 2, none⟩ = some (.slice A0 L.length c0) := (blk_cell (O8.out.blk (i := 0) rfl) 2).trans rfl
  have f8_0_2 : w8.frozen? ⟨g, 2, none⟩ = false := blk_frozen (O8.out.blk (i := 0) rfl) 2
  have c8_2_0 : w8.cell? ⟨g1, 0, none⟩ = some (.int .i64 0) := (blk_cell (O8.out.blk (i := 2) rfl) 0).trans rfl
  have f8_2_0 : w8.frozen? ⟨g1, 0, none⟩ = false := blk_frozen (O8.out.blk (i := 2) rfl) 0
  have c8_2_1 : w8.cell? ⟨g1, 1, none⟩ = some (.int .i64 0) := (blk_cell (O8.out.blk (i := 2) rfl) 1).trans rfl
  have f8_2_1 : w8.frozen? ⟨g1, 1, none⟩ = false := blk_frozen (O8.out.blk (i := 2) rfl) 1
  have c8_2_2 : w8.cell? ⟨g1, 2, none⟩ = some (.slice none 0 0) := (blk_cell (O8.out.blk (i := 2) rfl) 2).trans rfl
  have f8_2_2 : w8.frozen? ⟨g1, 2, none⟩ = false := blk_frozen (O8.out.blk (i := 2) rfl) 2
  have c8_3_0 : w8.cell? ⟨g4, 0, none⟩ = some (.int .i64 o) := (blk_cell (O8.out.blk (i := 3) rfl) 0).trans rfl
  have f8_3_0 : w8.frozen? ⟨g4, 0, none⟩ = false := blk_frozen (O8.out.blk (i := 3) rfl) 0
  have c8_3_1 : w8.cell? ⟨g4, 1, none⟩ = some (.int .i64 ((L.length : Int) + 1)) := (blk_cell (O8.out.blk (i := 3) rfl) 1).trans rfl
  have f8_3_1 : w8.frozen? ⟨g4, 1, none⟩ = false := blk_frozen (O8.out.blk (i := 3) rfl) 1
  have c8_3_2 : w8.cell? ⟨g4, 2, none⟩ = some (.slice B ups.length c) := (blk_cell (O8.out.blk (i := 3) rfl) 2).trans rfl
  have f8_3_2 : w8.frozen? ⟨g4, 2, none⟩ = false := blk_frozen (O8.out.blk (i := 3) rfl) 2
  have n8_0_2 : g ≠ g1 := O8.out.ne (i := 0) (j := 2) rfl rfl (by decide)
  have n8_0_3 : g ≠ g4 := O8.out.ne (i := 0) (j := 3) rfl rfl (by decide)
  have n8_2_0 : g1 ≠ g := O8.out.ne (i := 2) (j := 0) rfl rfl (by decide)
  have n8_2_3 : g1 ≠ g4 := O8.out.ne (i := 2) (j := 3) rfl rfl (by decide)
  have n8_3_0 : g4 ≠ g := O8.out.ne (i := 3) (j := 0) rfl rfl (by decide)
  have n8_3_2 : g4 ≠ g1 := O8.out.ne (i := 3) (j := 2) rfl rfl (by decide)
  clear o_ k_ hb_ hR_ o2_
  clear hHeld
  refine hK_.out _ _ ⟨((blk_cell (O8.out.blk (i := 0) rfl) 0).trans rfl), ((blk_cell (O8.out.blk (i := 0) rfl) 1).trans rfl), ((blk_cell (O8.out.blk (i := 0) rfl) 2).trans rfl), ((blk_cell (O8.out.blk (i := 3) rfl) 0).trans rfl), ((blk_cell (O8.out.blk (i := 3) rfl) 1).trans rfl), ((blk_cell (O8.out.blk (i := 3) rfl) 2).trans rfl)⟩ (fun hHeld => ?_)
  clear hK_ K_
  refine norm_ (a' := ?_) ?_ ?_
  rotate_left
  · simp only [Act.put, List.setIfInBounds_toArray, List.set_cons_zero, List.set_cons_succ, i64_w, i32_w]
    rfl
  refine one_ (i := 7) (N := some 44) #[true, true, true, true, true, true, true, true, false, false, false, false] rfl rfl (by kernel_rfl) (by decide) (fun K_ hK_ => ?_)
  refine value_ rfl rfl (w1 := (World.alloc w8 (.cells [.int .i64 ((⟨o, (L.length : Int) + 1, ups⟩ : S32)).f0, .int .i64 ((⟨o, (L.length : Int) + 1, ups⟩ : S32)).f1, .slice A1 ups.length c1].toArray 32))) (v := .slice (some ⟨w8.heap.size, 0, none⟩) 1 1) ?hr ?_
  (case hr => first | (go_simp; done) | (go_simp; rfl))
  clear hHeld
  refine hK_.out _ _ ⟨(pw_cell_below ((Below.refl _ _).alloc (Nat.le_refl _) _) ((blk_cell (O8.out.blk (i := 0) rfl) 0).trans rfl)), (pw_cell_below ((Below.refl _ _).alloc (Nat.le_refl _) _) ((blk_cell (O8.out.blk (i := 0) rfl) 1).trans rfl)), (pw_cell_below ((Below.refl _ _).alloc (Nat.le_refl _) _) ((blk_cell (O8.out.blk (i := 0) rfl) 2).trans rfl)), (pw_cell_below ((Below.refl _ _).alloc (Nat.le_refl _) _) ((blk_cell (O8.out.blk (i := 3) rfl) 0).trans rfl)), (pw_cell_below ((Below.refl _ _).alloc (Nat.le_refl _) _) ((blk_cell (O8.out.blk (i := 3) rfl) 1).trans rfl)), (pw_cell_below ((Below.refl _ _).alloc (Nat.le_refl _) _) ((blk_cell (O8.out.blk (i := 3) rfl) 2).trans rfl))⟩ (fun hHeld => ?_)
  clear hK_ K_
  refine norm_ (a' := ?_) ?_ ?_
  rotate_left
  · simp only [Act.put, List.setIfInBounds_toArray, List.set_cons_zero, List.set_cons_succ, i64_w, i32_w]
    rfl
  refine last_ (i := 8) (N := some 45) #[true, true, true, true, true, true, true, true, true, false, false, false] rfl rfl (by kernel_rfl) (by decide) (fun K_ hK_ => ?_)
  refine Own.append_step k32 O8.out (i := 1) (j := 4) rfl rfl (by decide) rfl rfl (.tmp 41) (.tmp 44) 40 (.agg #[.int .i64 0, .int .i64 0, .slice none 0 0]) 40 rfl Try.underlying40 infoR rfl (by decide) (by decide) rfl rfl (by have := HL.out; omega) ?_
  intro A2 c2 w9 o_ k_
  have O9 : Aside0 (Own N w9 [cells g #[.int .i64 o, .int .i64 m, .slice A0 L.length c0] 52, nrow k32 32 (.slice A2 (L.length + 1) c2) (L ++ [(⟨o, (L.length : Int) + 1, ups⟩ : S32)]), cells g1 #[.int .i64 0, .int .i64 0, .slice none 0 0] 32, cells g4 #[.int .i64 o, .int .i64 ((L.length : Int) + 1), .slice B ups.length c] 32, emp]) := ⟨o_⟩
  have K9 : Aside0 (KeepS N w w9) := ⟨K8.out.trans k_⟩
  have HR_9 : Aside0 (Kd.F k50 w9 N B ups.length ups) := ⟨keepF HR_8.out k_⟩
  clear c8_0_0 f8_0_0 c8_0_1 f8_0_1 c8_0_2 f8_0_2 c8_2_0 f8_2_0 c8_2_1 f8_2_1 c8_2_2 f8_2_2 c8_3_0 f8_3_0 c8_3_1 f8_3_1 c8_3_2 f8_3_2 n8_0_2 n8_0_3 n8_2_0 n8_2_3 n8_3_0 n8_3_2 O8 K8 HR_8
  have c9_0_0 : w9.cell? ⟨g, 0, none⟩ = some (.int .i64 o) := (blk_cell (O9.out.blk (i := 0) rfl) 0).trans rfl
  have f9_0_0 : w9.frozen? ⟨g, 0, none⟩ = false := blk_frozen (O9.out.blk (i := 0) rfl) 0
  have c9_0_1 : w9.cell? ⟨g, 1, none⟩ = some (.int .i64 m) := (blk_cell (O9.out.blk (i := 0) rfl) 1).trans rfl
  have f9_0_1 : w9.frozen? ⟨g, 1, none⟩ = false := blk_frozen (O9.out.blk (i := 0) rfl) 1
  have c9_0_2 : w9.cell? ⟨g, 2, none⟩ = some (.slice A0 L.length c0) := (blk_cell (O9.out.blk (i := 0) rfl) 2).trans rfl
  have f9_0_2 : w9.frozen? ⟨g, 2, none⟩ = false := blk_frozen (O9.out.blk (i := 0) rfl) 2
  have c9_2_0 : w9.cell? ⟨g1, 0, none⟩ = some (.int .i64 0) := (blk_cell (O9.out.blk (i := 2) rfl) 0).trans rfl
  have f9_2_0 : w9.frozen? ⟨g1, 0, none⟩ = false := blk_frozen (O9.out.blk (i := 2) rfl) 0
  have c9_2_1 : w9.cell? ⟨g1, 1, none⟩ = some (.int .i64 0) := (blk_cell (O9.out.blk (i := 2) rfl) 1).trans rfl
  have f9_2_1 : w9.frozen? ⟨g1, 1, none⟩ = false := blk_frozen (O9.out.blk (i := 2) rfl) 1
  have c9_2_2 : w9.cell? ⟨g1, 2, none⟩ = some (.slice none 0 0) := (blk_cell (O9.out.blk (i := 2) rfl) 2).trans rfl
  have f9_2_2 : w9.frozen? ⟨g1, 2, none⟩ = false := blk_frozen (O9.out.blk (i := 2) rfl) 2
  have c9_3_0 : w9.cell? ⟨g4, 0, none⟩ = some (.int .i64 o) := (blk_cell (O9.out.blk (i := 3) rfl) 0).trans rfl
  have f9_3_0 : w9.frozen? ⟨g4, 0, none⟩ = false := blk_frozen (O9.out.blk (i := 3) rfl) 0
  have c9_3_1 : w9.cell? ⟨g4, 1, none⟩ = some (.int .i64 ((L.length : Int) + 1)) := (blk_cell (O9.out.blk (i := 3) rfl) 1).trans rfl
  have f9_3_1 : w9.frozen? ⟨g4, 1, none⟩ = false := blk_frozen (O9.out.blk (i := 3) rfl) 1
  have c9_3_2 : w9.cell? ⟨g4, 2, none⟩ = some (.slice B ups.length c) := (blk_cell (O9.out.blk (i := 3) rfl) 2).trans rfl
  have f9_3_2 : w9.frozen? ⟨g4, 2, none⟩ = false := blk_frozen (O9.out.blk (i := 3) rfl) 2
  have n9_0_2 : g ≠ g1 := O9.out.ne (i := 0) (j := 2) rfl rfl (by decide)
  have n9_0_3 : g ≠ g4 := O9.out.ne (i := 0) (j := 3) rfl rfl (by decide)
  have n9_2_0 : g1 ≠ g := O9.out.ne (i := 2) (j := 0) rfl rfl (by decide)
  have n9_2_3 : g1 ≠ g4 := O9.out.ne (i := 2) (j := 3) rfl rfl (by decide)
  have n9_3_0 : g4 ≠ g := O9.out.ne (i := 3) (j := 0) rfl rfl (by decide)
  have n9_3_2 : g4 ≠ g1 := O9.out.ne (i := 3) (j := 2) rfl rfl (by decide)
  clear o_ k_
  refine hK_.out _ _ ?_
  clear hK_ K_
  refine norm_ (a' := ?_) ?_ ?_
  rotate_left
  · simp only [Act.put, List.setIfInBounds_toArray, List.set_cons_zero, List.set_cons_succ, i64_w, i32_w]
    rfl
  refine pure_ (i := 9) (N := some 46) (v := ?_) (a' := ?_) #[true, true, true, true, true, true, true, true, true, true, false, false] rfl rfl (by kernel_rfl) (fun _ _ _ h => h) (Or.inl ⟨by rfl, ?_⟩) ?_ ?_
  rotate_left
  · intro w'
    go_simp
    with_reducible rfl
  rotate_left
  · simp only [Act.put, List.setIfInBounds_toArray, List.set_cons_zero, List.set_cons_succ, i64_w, i32_w]
    rfl
  refine pure_ (i := 10) (N := some 47) (v := ?_) (a' := ?_) #[true, true, true, true, true, true, true, true, true, true, true, false] rfl rfl (by kernel_rfl) (fun _ _ _ h => h) (Or.inl ⟨by rfl, ?_⟩) ?_ ?_
  rotate_left
  · intro w'
    go_simp
    with_reducible rfl
  rotate_left
  · simp only [Act.put, List.setIfInBounds_toArray, List.set_cons_zero, List.set_cons_succ, i64_w, i32_w]
    rfl
  refine last_ (i := 11) (N := none) #[true, true, true, true, true, true, true, true, true, true, true, true] rfl rfl (by kernel_rfl) (by decide) (fun K_ hK_ => ?_)
  refine own_store_step rfl rfl (w1 := (World.setCell w9 ⟨g, 2, none⟩ (.slice A2 (L.length + 1) c2))) (N := N) (l' := [cells g #[.int .i64 o, .int .i64 m, .slice A2 (L.length + 1) c2] 52, nrow k32 32 (.slice A2 (L.length + 1) c2) (L ++ [(⟨o, (L.length : Int) + 1, ups⟩ : S32)]), cells g1 #[.int .i64 0, .int .i64 0, .slice none 0 0] 32, cells g4 #[.int .i64 o, .int .i64 ((L.length : Int) + 1), .slice B ups.length c] 32, emp]) ?hr ?ho ?hk ?_
  (case hr => first | (go_simp; done) | (go_simp; rfl))
  (case ho => exact (O9.out.set (i := 0) rfl 2 (.slice A2 (L.length + 1) c2)))
  (case hk => exact (KeepS.setCell (O9.out.far (i := 0) rfl) (.slice A2 (L.length + 1) c2)))
  intro w10 o_ k_
  have O10 : Aside0 (Own N w10 [cells g #[.int .i64 o, .int .i64 m, .slice A2 (L.length + 1) c2] 52, nrow k32 32 (.slice A2 (L.length + 1) c2) (L ++ [(⟨o, (L.length : Int) + 1, ups⟩ : S32)]), cells g1 #[.int .i64 0, .int .i64 0, .slice none 0 0] 32, cells g4 #[.int .i64 o, .int .i64 ((L.length : Int) + 1), .slice B ups.length c] 32, emp]) := ⟨o_⟩
  have K10 : Aside0 (KeepS N w w10) := ⟨K9.out.trans k_⟩
  have HR_10 : Aside0 (Kd.F k50 w10 N B ups.length ups) := ⟨keepF HR_9.out k_⟩
  clear c9_0_0 f9_0_0 c9_0_1 f9_0_1 c9_0_2 f9_0_2 c9_2_0 f9_2_0 c9_2_1 f9_2_1 c9_2_2 f9_2_2 c9_3_0 f9_3_0 c9_3_1 f9_3_1 c9_3_2 f9_3_2 n9_0_2 n9_0_3 n9_2_0 n9_2_3 n9_3_0 n9_3_2 O9 K9 HR_9
  have c10_0_0 : w10.cell? ⟨g, 0, none⟩ = some (.int .i64 o) := (blk_cell (O10.out.blk (i := 0) rfl) 0).trans rfl
  have f10_0_0 : w10.frozen? ⟨g, 0, none⟩ = false := blk_frozen (O10.out.blk (i := 0) rfl) 0
  have c10_0_1 : w10.cell? ⟨g, 1, none⟩ = some (.int .i64 m) := (blk_cell (O10.out.blk (i := 0) rfl) 1).trans rfl
  have f10_0_1 : w10.frozen? ⟨g, 1, none⟩ = false := blk_frozen (O10.out.blk (i := 0) rfl) 1
  have c10_0_2 : w10.cell? ⟨g, 2, none⟩ = some (.slice A2 (L.length + 1) c2) := (blk_cell (O10.out.blk (i := 0) rfl) 2).trans rfl
  have f10_0_2 : w10.frozen? ⟨g, 2, none⟩ = false := blk_frozen (O10.out.blk (i := 0) rfl) 2
  have c10_2_0 : w10.cell? ⟨g1, 0, none⟩ = some (.int .i64 0) := (blk_cell (O10.out.blk (i := 2) rfl) 0).trans rfl
  have f10_2_0 : w10.frozen? ⟨g1, 0, none⟩ = false := blk_frozen (O10.out.blk (i := 2) rfl) 0
  have c10_2_1 : w10.cell? ⟨g1, 1, none⟩ = some (.int .i64 0) := (blk_cell (O10.out.blk (i := 2) rfl) 1).trans rfl
  have f10_2_1 : w10.frozen? ⟨g1, 1, none⟩ = false := blk_frozen (O10.out.blk (i := 2) rfl) 1
  have c10_2_2 : w10.cell? ⟨g1, 2, none⟩ = some (.slice none 0 0) := (blk_cell (O10.out.blk (i := 2) rfl) 2).trans rfl
  have f10_2_2 : w10.frozen? ⟨g1, 2, none⟩ = false := blk_frozen (O10.out.blk (i := 2) rfl) 2
  have c10_3_0 : w10.cell? ⟨g4, 0, none⟩ = some (.int .i64 o) := (blk_cell (O10.out.blk (i := 3) rfl) 0).trans rfl
  have f10_3_0 : w10.frozen? ⟨g4, 0, none⟩ = false := blk_frozen (O10.out.blk (i := 3) rfl) 0
  have c10_3_1 : w10.cell? ⟨g4, 1, none⟩ = some (.int .i64 ((L.length : Int) + 1)) := (blk_cell (O10.out.blk (i := 3) rfl) 1).trans rfl
  have f10_3_1 : w10.frozen? ⟨g4, 1, none⟩ = false := blk_frozen (O10.out.blk (i := 3) rfl) 1
  have c10_3_2 : w10.cell? ⟨g4, 2, none⟩ = some (.slice B ups.length c) := (blk_cell (O10.out.blk (i := 3) rfl) 2).trans rfl
  have f10_3_2 : w10.frozen? ⟨g4, 2, none⟩ = false := blk_frozen (O10.out.blk (i := 3) rfl) 2
  have n10_0_2 : g ≠ g1 := O10.out.ne (i := 0) (j := 2) rfl rfl (by decide)
  have n10_0_3 : g ≠ g4 := O10.out.ne (i := 0) (j := 3) rfl rfl (by decide)
  have n10_2_0 : g1 ≠ g := O10.out.ne (i := 2) (j := 0) rfl rfl (by decide)
  have n10_2_3 : g1 ≠ g4 := O10.out.ne (i := 2) (j := 3) rfl rfl (by decide)
  have n10_3_0 : g4 ≠ g := O10.out.ne (i := 3) (j := 0) rfl rfl (by decide)
  have n10_3_2 : g4 ≠ g1 := O10.out.ne (i := 3) (j := 2) rfl rfl (by decide)
  clear o_ k_
  refine hK_.out _ _ ?_
  clear hK_ K_
  refine done_ (by kernel_rfl) ?_
  clear hHeld
  go_wp2_with (first | ((with_reducible refine gate_callee (f := 22) rfl ?_); refine goesL_ (some 49) rfl rfl Try.func22 (by kernel_rfl) rfl #[.agg #[.int .i64 o, .int .i64 ((L.length : Int) + 1), .slice B ups.length c]] rfl (by (try simp only [List.map_toArray, List.map_cons, List.map_nil]); first | done | rfl) ?_; refine (round_Copy.calls o ((L.length : Int) + 1) _ _ ups o ((L.length : Int) + 1) ups _ (Kd.F_now HR_10.out) HC.out HCP.out).mono ?_; rintro e_ w11 ⟨v_, rfl, hR_, hb_⟩; obtain ⟨A3, c3, e__⟩ := Kd.R_slice hR_; subst e__; refine ⟨_, rfl, ?_⟩; have o_ := O10.out.pushR hb_ (Nat.le_refl _) hR_; have k_ := KeepS.of_below (N := N) hb_; have O11 : Aside0 (Own N w11 [cells g #[.int .i64 o, .int .i64 m, .slice A2 (L.length + 1) c2] 52, nrow k32 32 (.slice A2 (L.length + 1) c2) (L ++ [(⟨o, (L.length : Int) + 1, ups⟩ : S32)]), cells g1 #[.int .i64 0, .int .i64 0, .slice none 0 0] 32, cells g4 #[.int .i64 o, .int .i64 ((L.length : Int) + 1), .slice B ups.length c] 32, emp, nrow k50 50 (.slice A3 (ups).length c3) (ups)]) := ⟨o_⟩; have K11 : Aside0 (KeepS N w w11) := ⟨K10.out.trans k_⟩; have HR_11 : Aside0 (Kd.F k50 w11 N B ups.length ups) := ⟨keepF HR_10.out k_⟩; clear c10_0_0 f10_0_0 c10_0_1 f10_0_1 c10_0_2 f10_0_2 c10_2_0 f10_2_0 c10_2_1 f10_2_1 c10_2_2 f10_2_2 c10_3_0 f10_3_0 c10_3_1 f10_3_1 c10_3_2 f10_3_2 n10_0_2 n10_0_3 n10_2_0 n10_2_3 n10_3_0 n10_3_2 O10 K10 HR_10; have c11_0_0 : w11.cell? ⟨g, 0, none⟩ = some (.int .i64 o) := (blk_cell (O11.out.blk (i := 0) rfl) 0).trans rfl; have f11_0_0 : w11.frozen? ⟨g, 0, none⟩ = false := blk_frozen (O11.out.blk (i := 0) rfl) 0; have c11_0_1 : w11.cell? ⟨g, 1, none⟩ = some (.int .i64 m) := (blk_cell (O11.out.blk (i := 0) rfl) 1).trans rfl; have f11_0_1 : w11.frozen? ⟨g, 1, none⟩ = false := blk_frozen (O11.out.blk (i := 0) rfl) 1; have c11_0_2 : w11.cell? ⟨g, 2, none⟩ = some (.slice A2 (L.length + 1) c2) := (blk_cell (O11.out.blk (i := 0) rfl) 2).trans rfl; have f11_0_2 : w11.frozen? ⟨g, 2, none⟩ = false := blk_frozen (O11.out.blk (i := 0) rfl) 2; have c11_2_0 : w11.cell? ⟨g1, 0, none⟩ = some (.int .i64 0) := (blk_cell (O11.out.blk (i := 2) rfl) 0).trans rfl; have f11_2_0 : w11.frozen? ⟨g1, 0, none⟩ = false := blk_frozen (O11.out.blk (i := 2) rfl) 0; have c11_2_1 : w11.cell? ⟨g1, 1, none⟩ = some (.int .i64 0) := (blk_cell (O11.out.blk (i := 2) rfl) 1).trans rfl; have f11_2_1 : w11.frozen? ⟨g1, 1, none⟩ = false := blk_frozen (O11.out.blk (i := 2) rfl) 1; have c11_2_2 : w11.cell? ⟨g1, 2, none⟩ = some (.slice none 0 0) := (blk_cell (O11.out.blk (i := 2) rfl) 2).trans rfl; have f11_2_2 : w11.frozen? ⟨g1, 2, none⟩ = false := blk_frozen (O11.out.blk (i := 2) rfl) 2; have c11_3_0 : w11.cell? ⟨g4, 0, none⟩ = some (.int .i64 o) := (blk_cell (O11.out.blk (i := 3) rfl) 0).trans rfl; have f11_3_0 : w11.frozen? ⟨g4, 0, none⟩ = false := blk_frozen (O11.out.blk (i := 3) rfl) 0; have c11_3_1 : w11.cell? ⟨g4, 1, none⟩ = some (.int .i64 ((L.length : Int) + 1)) := (blk_cell (O11.out.blk (i := 3) rfl) 1).trans rfl; have f11_3_1 : w11.frozen? ⟨g4, 1, none⟩ = false := blk_frozen (O11.out.blk (i := 3) rfl) 1; have c11_3_2 : w11.cell? ⟨g4, 2, none⟩ = some (.slice B ups.length c) := (blk_cell (O11.out.blk (i := 3) rfl) 2).trans rfl; have f11_3_2 : w11.frozen? ⟨g4, 2, none⟩ = false := blk_frozen (O11.out.blk (i := 3) rfl) 2; have n11_0_2 : g ≠ g1 := O11.out.ne (i := 0) (j := 2) rfl rfl (by decide); have n11_0_3 : g ≠ g4 := O11.out.ne (i := 0) (j := 3) rfl rfl (by decide); have n11_2_0 : g1 ≠ g := O11.out.ne (i := 2) (j := 0) rfl rfl (by decide); have n11_2_3 : g1 ≠ g4 := O11.out.ne (i := 2) (j := 3) rfl rfl (by decide); have n11_3_0 : g4 ≠ g := O11.out.ne (i := 3) (j := 0) rfl rfl (by decide); have n11_3_2 : g4 ≠ g1 := O11.out.ne (i := 3) (j := 2) rfl rfl (by decide); clear o_ k_ hb_ hR_) | ((with_reducible refine gate_store (t := 32) (p := 4) rfl ?_); refine own_store rfl rfl rfl (w1 := (World.setCell (World.setCell (World.setCell w11 ⟨g1, 0, none⟩ (.int .i64 o)) ⟨g1, 1, none⟩ (.int .i64 ((L.length : Int) + 1))) ⟨g1, 2, none⟩ (.slice A3 ups.length c3))) (N := N) (l' := [cells g #[.int .i64 o, .int .i64 m, .slice A2 (L.length + 1) c2] 52, nrow k32 32 (.slice A2 (L.length + 1) c2) (L ++ [(⟨o, (L.length : Int) + 1, ups⟩ : S32)]), cells g1 #[.int .i64 o, .int .i64 ((L.length : Int) + 1), .slice A3 ups.length c3] 32, cells g4 #[.int .i64 o, .int .i64 ((L.length : Int) + 1), .slice B ups.length c] 32, emp, nrow k50 50 (.slice A3 (ups).length c3) (ups)]) ?hr ?ho ?hk ?_; (case hr => first | (go_simp; done) | (go_simp; rfl)); (case ho => exact (((O11.out.set (i := 2) rfl 0 (.int .i64 o)).set (i := 2) rfl 1 (.int .i64 ((L.length : Int) + 1))).set (i := 2) rfl 2 (.slice A3 ups.length c3))); (case hk => exact (((KeepS.setCell (O11.out.far (i := 2) rfl) (.int .i64 o)).trans (KeepS.setCell (O11.out.far (i := 2) rfl) (.int .i64 ((L.length : Int) + 1)))).trans (KeepS.setCell (O11.out.far (i := 2) rfl) (.slice A3 ups.length c3)))); intro w12 o_ k_; have O12 : Aside0 (Own N w12 [cells g #[.int .i64 o, .int .i64 m, .slice A2 (L.length + 1) c2] 52, nrow k32 32 (.slice A2 (L.length + 1) c2) (L ++ [(⟨o, (L.length : Int) + 1, ups⟩ : S32)]), cells g1 #[.int .i64 o, .int .i64 ((L.length : Int) + 1), .slice A3 ups.length c3] 32, cells g4 #[.int .i64 o, .int .i64 ((L.length : Int) + 1), .slice B ups.length c] 32, emp, nrow k50 50 (.slice A3 (ups).length c3) (ups)]) := ⟨o_⟩; have K12 : Aside0 (KeepS N w w12) := ⟨K11.out.trans k_⟩; have HR_12 : Aside0 (Kd.F k50 w12 N B ups.length ups) := ⟨keepF HR_11.out k_⟩; clear c11_0_0 f11_0_0 c11_0_1 f11_0_1 c11_0_2 f11_0_2 c11_2_0 f11_2_0 c11_2_1 f11_2_1 c11_2_2 f11_2_2 c11_3_0 f11_3_0 c11_3_1 f11_3_1 c11_3_2 f11_3_2 n11_0_2 n11_0_3 n11_2_0 n11_2_3 n11_3_0 n11_3_2 O11 K11 HR_11; have c12_0_0 : w12.cell? ⟨g, 0, none⟩ = some (.int .i64 o) := (blk_cell (O12.out.blk (i := 0) rfl) 0).trans rfl; have f12_0_0 : w12.frozen? ⟨g, 0, none⟩ = false := blk_frozen (O12.out.blk (i := 0) rfl) 0; have c12_0_1 : w12.cell? ⟨g, 1, none⟩ = some (.int .i64 m) := (blk_cell (O12.out.blk (i := 0) rfl) 1).trans rfl; have f12_0_1 : w12.frozen? ⟨g, 1, none⟩ = false := blk_frozen (O12.out.blk (i := 0) rfl) 1; have c12_0_2 : w12.cell? ⟨g, 2, none⟩ = some (.slice A2 (L.length + 1) c2) := (blk_cell (O12.out.blk (i := 0) rfl) 2).trans rfl; have f12_0_2 : w12.frozen? ⟨g, 2, none⟩ = false := blk_frozen (O12.out.blk (i := 0) rfl) 2; have c12_2_0 : w12.cell? ⟨g1, 0, none⟩ = some (.int .i64 o) := (blk_cell (O12.out.blk (i := 2) rfl) 0).trans rfl; have f12_2_0 : w12.frozen? ⟨g1, 0, none⟩ = false := blk_frozen (O12.out.blk (i := 2) rfl) 0; have c12_2_1 : w12.cell? ⟨g1, 1, none⟩ = some (.int .i64 ((L.length : Int) + 1)) := (blk_cell (O12.out.blk (i := 2) rfl) 1).trans rfl; have f12_2_1 : w12.frozen? ⟨g1, 1, none⟩ = false := blk_frozen (O12.out.blk (i := 2) rfl) 1; have c12_2_2 : w12.cell? ⟨g1, 2, none⟩ = some (.slice A3 ups.length c3) := (blk_cell (O12.out.blk (i := 2) rfl) 2).trans rfl; have f12_2_2 : w12.frozen? ⟨g1, 2, none⟩ = false := blk_frozen (O12.out.blk (i := 2) rfl) 2; have c12_3_0 : w12.cell? ⟨g4, 0, none⟩ = some (.int .i64 o) := (blk_cell (O12.out.blk (i := 3) rfl) 0).trans rfl; have f12_3_0 : w12.frozen? ⟨g4, 0, none⟩ = false := blk_frozen (O12.out.blk (i := 3) rfl) 0; have c12_3_1 : w12.cell? ⟨g4, 1, none⟩ = some (.int .i64 ((L.length : Int) + 1)) := (blk_cell (O12.out.blk (i := 3) rfl) 1).trans rfl; have f12_3_1 : w12.frozen? ⟨g4, 1, none⟩ = false := blk_frozen (O12.out.blk (i := 3) rfl) 1; have c12_3_2 : w12.cell? ⟨g4, 2, none⟩ = some (.slice B ups.length c) := (blk_cell (O12.out.blk (i := 3) rfl) 2).trans rfl; have f12_3_2 : w12.frozen? ⟨g4, 2, none⟩ = false := blk_frozen (O12.out.blk (i := 3) rfl) 2; have n12_0_2 : g ≠ g1 := O12.out.ne (i := 0) (j := 2) rfl rfl (by decide); have n12_0_3 : g ≠ g4 := O12.out.ne (i := 0) (j := 3) rfl rfl (by decide); have n12_2_0 : g1 ≠ g := O12.out.ne (i := 2) (j := 0) rfl rfl (by decide); have n12_2_3 : g1 ≠ g4 := O12.out.ne (i := 2) (j := 3) rfl rfl (by decide); have n12_3_0 : g4 ≠ g := O12.out.ne (i := 3) (j := 0) rfl rfl (by decide); have n12_3_2 : g4 ≠ g1 := O12.out.ne (i := 3) (j := 2) rfl rfl (by decide); clear o_ k_))
  refine bodyPost_ret (results_ct rfl _ _ g1 32 #[.int .i64 o, .int .i64 ((L.length : Int) + 1), .slice A3 ups.length c3] (0, 0) _ rfl (O12.out.blk (i := 2) rfl) Try.underlying32 rfl (by kernel_rfl)) rfl ?_
  exact ⟨A3, c3, rfl, (Obj3.shut (i := 0) (j := 1) O12.out rfl rfl (by decide)).pick2 (a := 0) (b := 5) rfl rfl (by decide), K12.out⟩
end Go.Proofs.Ytfpegjdplggkpaa.J
