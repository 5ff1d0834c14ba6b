/- What the document's Journal does: New and Add of package chapbookref13, as turns of a resource: a plain walk through their text. -/
import Derived.Test.YtfpegjdplggkpaaYJournalLastsJ3
namespace Go.Proofs.Ytfpegjdplggkpaa.J
set_option linter.unusedSimpArgs false
set_option linter.unusedVariables false
open Go Go.RowKit Go.Proofs.YtfpegjdplggkpaaW.PrintWords Go.Proofs.YtfpegjdplggkpaaW.PrintLast Go.Proofs.YtfpegjdplggkpaaW.PrintMore Go.Proofs.Ytfpegjdplggkpaa.Q Go.Proofs.Ytfpegjdplggkpaa.Sep Go.Proofs.Ytfpegjdplggkpaa.Pure
attribute [local go_sem] max2_int min2_int max_two min_two max_three min_three max_four min_four
set_option maxHeartbeats 16000000 in
set_option maxRecDepth 100000 in
theorem RNew_low {N : Nat → Prop} {w : World} (o m : Int) (h : Own N w []) (hm : m < 1) :
    Calls Try.prog 9 #[.int .i64 o, .int .i64 m] w fun e w' => ∃ g, e = .returned (.pointer (some ⟨g, 0, none⟩)) ∧ Own N w' [Obj3 42 g o (1) []] ∧ KeepS N w w' := by
  have O0 : Aside0 (Own N w []) := ⟨h⟩
  have K0 : Aside0 (KeepS N w w) := ⟨KeepS.refl _ _⟩
  have d1 : decide (m < 1) = true := decide_eq_true hm
  have d2 : decide ((1 : Int) > 1099511627776) = false := by decide
  clear h hm
  go_enter Try.func9, Try.ntmps9
  go_wp2_with (first | ((with_reducible refine gate_dst (N := 12) rfl ?_); refine own_box rfl (D := 12) rfl (cs := #[.int .i64 o, .int .i64 1, .slice none 0 0]) (t := 42) ?hr O0.out ?_; (case hr => first | (go_simp; done) | (go_simp; rfl)); intro g1 w1 o_ k_; have O1 : Aside0 (Own N w1 [cells g1 #[.int .i64 o, .int .i64 1, .slice none 0 0] 42]) := ⟨o_⟩; have K1 : Aside0 (KeepS N w w1) := ⟨K0.out.trans k_⟩; clear O0 K0; have c1_0_0 : w1.cell? ⟨g1, 0, none⟩ = some (.int .i64 o) := (blk_cell (O1.out.blk (i := 0) rfl) 0).trans rfl; have f1_0_0 : w1.frozen? ⟨g1, 0, none⟩ = false := blk_frozen (O1.out.blk (i := 0) rfl) 0; have c1_0_1 : w1.cell? ⟨g1, 1, none⟩ = some (.int .i64 1) := (blk_cell (O1.out.blk (i := 0) rfl) 1).trans rfl; have f1_0_1 : w1.frozen? ⟨g1, 1, none⟩ = false := blk_frozen (O1.out.blk (i := 0) rfl) 1; have c1_0_2 : w1.cell? ⟨g1, 2, none⟩ = some (.slice none 0 0) := (blk_cell (O1.out.blk (i := 0) rfl) 2).trans rfl; have f1_0_2 : w1.frozen? ⟨g1, 2, none⟩ = false := blk_frozen (O1.out.blk (i := 0) rfl) 2; clear o_ k_))
  go_ret
  refine ⟨_, rfl, ?_, K1.out⟩
  exact (Obj3.shut (i := 0) (j := 1) (L := []) (O1.out.push_emp (nrow k32 32 (.slice none 0 0) []) (fun w => Kd.N_nil _ _ _ _ _)) rfl rfl (by decide)).take 1
set_option maxHeartbeats 16000000 in
set_option maxRecDepth 100000 in
theorem RNew_high {N : Nat → Prop} {w : World} (o m : Int) (h : Own N w []) (hm : 1099511627776 < m) :
    Calls Try.prog 9 #[.int .i64 o, .int .i64 m] w fun e w' => ∃ g, e = .returned (.pointer (some ⟨g, 0, none⟩)) ∧ Own N w' [Obj3 42 g o (1099511627776) []] ∧ KeepS N w w' := by
  have O0 : Aside0 (Own N w []) := ⟨h⟩
  have K0 : Aside0 (KeepS N w w) := ⟨KeepS.refl _ _⟩
  have d1 : decide (m < 1) = false := decide_eq_false (by omega)
  have d2 : decide (m > 1099511627776) = true := decide_eq_true hm
  have d3 : decide (1099511627776 < m) = true := decide_eq_true hm
  clear h hm
  go_enter Try.func9, Try.ntmps9
  go_wp2_with (first | ((with_reducible refine gate_dst (N := 12) rfl ?_); refine own_box rfl (D := 12) rfl (cs := #[.int .i64 o, .int .i64 1099511627776, .slice none 0 0]) (t := 42) ?hr O0.out ?_; (case hr => first | (go_simp; done) | (go_simp; rfl)); intro g1 w1 o_ k_; have O1 : Aside0 (Own N w1 [cells g1 #[.int .i64 o, .int .i64 1099511627776, .slice none 0 0] 42]) := ⟨o_⟩; have K1 : Aside0 (KeepS N w w1) := ⟨K0.out.trans k_⟩; clear O0 K0; have c1_0_0 : w1.cell? ⟨g1, 0, none⟩ = some (.int .i64 o) := (blk_cell (O1.out.blk (i := 0) rfl) 0).trans rfl; have f1_0_0 : w1.frozen? ⟨g1, 0, none⟩ = false := blk_frozen (O1.out.blk (i := 0) rfl) 0; have c1_0_1 : w1.cell? ⟨g1, 1, none⟩ = some (.int .i64 1099511627776) := (blk_cell (O1.out.blk (i := 0) rfl) 1).trans rfl; have f1_0_1 : w1.frozen? ⟨g1, 1, none⟩ = false := blk_frozen (O1.out.blk (i := 0) rfl) 1; have c1_0_2 : w1.cell? ⟨g1, 2, none⟩ = some (.slice none 0 0) := (blk_cell (O1.out.blk (i := 0) rfl) 2).trans rfl; have f1_0_2 : w1.frozen? ⟨g1, 2, none⟩ = false := blk_frozen (O1.out.blk (i := 0) rfl) 2; clear o_ k_))
  go_ret
  refine ⟨_, rfl, ?_, K1.out⟩
  exact (Obj3.shut (i := 0) (j := 1) (L := []) (O1.out.push_emp (nrow k32 32 (.slice none 0 0) []) (fun w => Kd.N_nil _ _ _ _ _)) rfl rfl (by decide)).take 1
set_option maxHeartbeats 16000000 in
set_option maxRecDepth 100000 in
theorem RNew_mid {N : Nat → Prop} {w : World} (o m : Int) (h : Own N w []) (hm : 1 ≤ m) (hm2 : m ≤ 1099511627776) :
    Calls Try.prog 9 #[.int .i64 o, .int .i64 m] w fun e w' => ∃ g, e = .returned (.pointer (some ⟨g, 0, none⟩)) ∧ Own N w' [Obj3 42 g o (m) []] ∧ KeepS N w w' := by
  have O0 : Aside0 (Own N w []) := ⟨h⟩
  have K0 : Aside0 (KeepS N w w) := ⟨KeepS.refl _ _⟩
  have d1 : decide (m < 1) = false := decide_eq_false (by omega)
  have d2 : decide (m > 1099511627776) = false := decide_eq_false (by omega)
  have d3 : decide (1099511627776 < m) = false := decide_eq_false (by omega)
  clear h hm hm2
  go_enter Try.func9, Try.ntmps9
  go_wp2_with (first | ((with_reducible refine gate_dst (N := 12) rfl ?_); refine own_box rfl (D := 12) rfl (cs := #[.int .i64 o, .int .i64 m, .slice none 0 0]) (t := 42) ?hr O0.out ?_; (case hr => first | (go_simp; done) | (go_simp; rfl)); intro g1 w1 o_ k_; have O1 : Aside0 (Own N w1 [cells g1 #[.int .i64 o, .int .i64 m, .slice none 0 0] 42]) := ⟨o_⟩; have K1 : Aside0 (KeepS N w w1) := ⟨K0.out.trans k_⟩; clear O0 K0; have c1_0_0 : w1.cell? ⟨g1, 0, none⟩ = some (.int .i64 o) := (blk_cell (O1.out.blk (i := 0) rfl) 0).trans rfl; have f1_0_0 : w1.frozen? ⟨g1, 0, none⟩ = false := blk_frozen (O1.out.blk (i := 0) rfl) 0; have c1_0_1 : w1.cell? ⟨g1, 1, none⟩ = some (.int .i64 m) := (blk_cell (O1.out.blk (i := 0) rfl) 1).trans rfl; have f1_0_1 : w1.frozen? ⟨g1, 1, none⟩ = false := blk_frozen (O1.out.blk (i := 0) rfl) 1; have c1_0_2 : w1.cell? ⟨g1, 2, none⟩ = some (.slice none 0 0) := (blk_cell (O1.out.blk (i := 0) rfl) 2).trans rfl; have f1_0_2 : w1.frozen? ⟨g1, 2, none⟩ = false := blk_frozen (O1.out.blk (i := 0) rfl) 2; clear o_ k_))
  go_ret
  refine ⟨_, rfl, ?_, K1.out⟩
  exact (Obj3.shut (i := 0) (j := 1) (L := []) (O1.out.push_emp (nrow k32 32 (.slice none 0 0) []) (fun w => Kd.N_nil _ _ _ _ _)) rfl rfl (by decide)).take 1
theorem RNew {N : Nat → Prop} {w : World} (o m : Int) (h : Own N w []) :
    Calls Try.prog 9 #[.int .i64 o, .int .i64 m] w fun e w' => ∃ g, e = .returned (.pointer (some ⟨g, 0, none⟩)) ∧ Own N w' [Obj3 42 g o (mn (mx m 1) 1099511627776) []] ∧ KeepS N w w' := by
  by_cases h1 : m < 1
  · rw [show mn (mx m 1) 1099511627776 = 1 by unfold mn mx; (repeat' split) <;> omega]
    exact RNew_low o m h h1
  by_cases h2 : 1099511627776 < m
  · rw [show mn (mx m 1) 1099511627776 = 1099511627776 by unfold mn mx; (repeat' split) <;> omega]
    exact RNew_high o m h h2
  · rw [show mn (mx m 1) 1099511627776 = m by unfold mn mx; (repeat' split) <;> omega]
    exact RNew_mid o m h (by omega) (by omega)
set_option maxHeartbeats 16000000 in
set_option maxRecDepth 100000 in
theorem RAdd_full {N : Nat → Prop} {w : World} {g : Nat} {o m : Int} {L : List Rnd} (B : Option Addr) (c : Nat) (ups : List Upd) (h : Own N w [Obj3 42 g o m L]) (hr : Kd.F k50 w N B ups.length ups) (hc : ups.length ≤ c) (hL : L.length ≤ 1000000) (hu : ups.length ≤ 1000000) (hq : (L.length : Int) ≥ m) :
    Calls Try.prog 13 #[.pointer (some ⟨g, 0, none⟩), .slice B ups.length c] w fun e_ w' => ∃ A1 c1 A2 c2, e_ = .returned (.tuple #[.agg #[.int .i64 0, .int .i64 0, .slice A1 (([] : List Upd)).length c1], .int .i64 8]) ∧ (([] : List Upd)).length ≤ c1 ∧ Own N w' [cells g #[.int .i64 o, .int .i64 m, .slice A2 (L).length c2] 42, both (nrow k32 32 (.slice A2 (L).length c2) (L)) (rd k50 A1 (([] : List Upd)).length (([] : List Upd)))] ∧ KeepS N w w' := by
  obtain ⟨A0, c0, h2⟩ := Obj3.open_ h (i := 0) rfl
  have HR_0 : Aside0 (Kd.F k50 w N B ups.length ups) := ⟨hr⟩
  have HC := Aside0.mk hc
  have HL := Aside0.mk hL
  have HU := Aside0.mk hu
  have O0 : Aside0 (Own N w [cells g #[.int .i64 o, .int .i64 m, .slice A0 L.length c0] 42, nrow k32 32 (.slice A0 L.length c0) L]) := ⟨h2⟩
  have K0 : Aside0 (KeepS N w w) := ⟨KeepS.refl _ _⟩
  have c0_0_0 : w.cell? ⟨g, 0, none⟩ = some (.int .i64 o) := (blk_cell (O0.out.blk (i := 0) rfl) 0).trans rfl
  have f0_0_0 : w.frozen? ⟨g, 0, none⟩ = false := blk_frozen (O0.out.blk (i := 0) rfl) 0
  have c0_0_1 : w.cell? ⟨g, 1, none⟩ = some (.int .i64 m) := (blk_cell (O0.out.blk (i := 0) rfl) 1).trans rfl
  have f0_0_1 : w.frozen? ⟨g, 1, none⟩ = false := blk_frozen (O0.out.blk (i := 0) rfl) 1
  have c0_0_2 : w.cell? ⟨g, 2, none⟩ = some (.slice A0 L.length c0) := (blk_cell (O0.out.blk (i := 0) rfl) 2).trans rfl
  have f0_0_2 : w.frozen? ⟨g, 2, none⟩ = false := blk_frozen (O0.out.blk (i := 0) rfl) 2
  have hs1 : IntKind.i64.wrap ((L.length : Int) + 1) = (L.length : Int) + 1 := by rw [IntKind.wrap_i64]; omega
  have hs2 : wrap64 ((L.length : Int) + 1) = (L.length : Int) + 1 := by unfold wrap64; omega
  have hq1 : decide ((L.length : Int) ≥ m) = true := decide_eq_true hq
  have hq2 : decide (m ≤ (L.length : Int)) = true := hq1
  clear h2 h hr hc hL hu hq
  go_enter Try.func13, Try.ntmps13
  go_wp2_with (first | ((with_reducible refine gate_dst (N := 4) rfl ?_); refine own_box rfl (D := 4) rfl (cs := #[.int .i64 0, .int .i64 0, .slice none 0 0]) (t := 32) ?hr O0.out ?_; (case hr => first | (go_simp; done) | (go_simp; rfl)); intro g1 w1 o_ k_; have O1 : Aside0 (Own N w1 [cells g #[.int .i64 o, .int .i64 m, .slice A0 L.length c0] 42, nrow k32 32 (.slice A0 L.length c0) L, cells g1 #[.int .i64 0, .int .i64 0, .slice none 0 0] 32]) := ⟨o_⟩; have K1 : Aside0 (KeepS N w w1) := ⟨K0.out.trans k_⟩; have HR_1 : Aside0 (Kd.F k50 w1 N B ups.length ups) := ⟨keepF HR_0.out k_⟩; clear c0_0_0 f0_0_0 c0_0_1 f0_0_1 c0_0_2 f0_0_2 O0 K0 HR_0; have c1_0_0 : w1.cell? ⟨g, 0, none⟩ = some (.int .i64 o) := (blk_cell (O1.out.blk (i := 0) rfl) 0).trans rfl; have f1_0_0 : w1.frozen? ⟨g, 0, none⟩ = false := blk_frozen (O1.out.blk (i := 0) rfl) 0; have c1_0_1 : w1.cell? ⟨g, 1, none⟩ = some (.int .i64 m) := (blk_cell (O1.out.blk (i := 0) rfl) 1).trans rfl; have f1_0_1 : w1.frozen? ⟨g, 1, none⟩ = false := blk_frozen (O1.out.blk (i := 0) rfl) 1; have c1_0_2 : w1.cell? ⟨g, 2, none⟩ = some (.slice A0 L.length c0) := (blk_cell (O1.out.blk (i := 0) rfl) 2).trans rfl; have f1_0_2 : w1.frozen? ⟨g, 2, none⟩ = false := blk_frozen (O1.out.blk (i := 0) rfl) 2; have c1_2_0 : w1.cell? ⟨g1, 0, none⟩ = some (.int .i64 0) := (blk_cell (O1.out.blk (i := 2) rfl) 0).trans rfl; have f1_2_0 : w1.frozen? ⟨g1, 0, none⟩ = false := blk_frozen (O1.out.blk (i := 2) rfl) 0; have c1_2_1 : w1.cell? ⟨g1, 1, none⟩ = some (.int .i64 0) := (blk_cell (O1.out.blk (i := 2) rfl) 1).trans rfl; have f1_2_1 : w1.frozen? ⟨g1, 1, none⟩ = false := blk_frozen (O1.out.blk (i := 2) rfl) 1; have c1_2_2 : w1.cell? ⟨g1, 2, none⟩ = some (.slice none 0 0) := (blk_cell (O1.out.blk (i := 2) rfl) 2).trans rfl; have f1_2_2 : w1.frozen? ⟨g1, 2, none⟩ = false := blk_frozen (O1.out.blk (i := 2) rfl) 2; have n1_0_2 : g ≠ g1 := O1.out.ne (i := 0) (j := 2) rfl rfl (by decide); have n1_2_0 : g1 ≠ g := O1.out.ne (i := 2) (j := 0) rfl rfl (by decide); clear o_ k_))
  refine start_ (n := 10) (S := fun w' => w'.cell? ⟨g, 0, none⟩ = some (.int .i64 o) ∧ w'.cell? ⟨g, 1, none⟩ = some (.int .i64 m) ∧ w'.cell? ⟨g, 2, none⟩ = some (.slice A0 L.length c0)) (ds := []) #[false, false, false, false, false, false, false, false, false, false] (by kernel_rfl) rfl rfl ⟨((blk_cell (O1.out.blk (i := 0) rfl) 0).trans rfl), ((blk_cell (O1.out.blk (i := 0) rfl) 1).trans rfl), ((blk_cell (O1.out.blk (i := 0) rfl) 2).trans rfl)⟩ (fun hHeld => ?_)
  obtain ⟨w2, hw_⟩ : ∃ W, W = w1.drew := ⟨_, rfl⟩
  have o_ := O1.out.drew
  have k_ : KeepS N w1 w1.drew := KeepS.drew
  rw [← hw_] at o_ k_ hHeld ⊢
  clear hw_
  have O2 : Aside0 (Own N w2 [cells g #[.int .i64 o, .int .i64 m, .slice A0 L.length c0] 42, nrow k32 32 (.slice A0 L.length c0) L, cells g1 #[.int .i64 0, .int .i64 0, .slice none 0 0] 32]) := ⟨o_⟩
  have K2 : Aside0 (KeepS N w w2) := ⟨K1.out.trans k_⟩
  have HR_2 : Aside0 (Kd.F k50 w2 N B ups.length ups) := ⟨keepF HR_1.out k_⟩
  clear c1_0_0 f1_0_0 c1_0_1 f1_0_1 c1_0_2 f1_0_2 c1_2_0 f1_2_0 c1_2_1 f1_2_1 c1_2_2 f1_2_2 n1_0_2 n1_2_0 O1 K1 HR_1
  have c2_0_0 : w2.cell? ⟨g, 0, none⟩ = some (.int .i64 o) := (blk_cell (O2.out.blk (i := 0) rfl) 0).trans rfl
  have f2_0_0 : w2.frozen? ⟨g, 0, none⟩ = false := blk_frozen (O2.out.blk (i := 0) rfl) 0
  have c2_0_1 : w2.cell? ⟨g, 1, none⟩ = some (.int .i64 m) := (blk_cell (O2.out.blk (i := 0) rfl) 1).trans rfl
  have f2_0_1 : w2.frozen? ⟨g, 1, none⟩ = false := blk_frozen (O2.out.blk (i := 0) rfl) 1
  have c2_0_2 : w2.cell? ⟨g, 2, none⟩ = some (.slice A0 L.length c0) := (blk_cell (O2.out.blk (i := 0) rfl) 2).trans rfl
  have f2_0_2 : w2.frozen? ⟨g, 2, none⟩ = false := blk_frozen (O2.out.blk (i := 0) rfl) 2
  have c2_2_0 : w2.cell? ⟨g1, 0, none⟩ = some (.int .i64 0) := (blk_cell (O2.out.blk (i := 2) rfl) 0).trans rfl
  have f2_2_0 : w2.frozen? ⟨g1, 0, none⟩ = false := blk_frozen (O2.out.blk (i := 2) rfl) 0
  have c2_2_1 : w2.cell? ⟨g1, 1, none⟩ = some (.int .i64 0) := (blk_cell (O2.out.blk (i := 2) rfl) 1).trans rfl
  have f2_2_1 : w2.frozen? ⟨g1, 1, none⟩ = false := blk_frozen (O2.out.blk (i := 2) rfl) 1
  have c2_2_2 : w2.cell? ⟨g1, 2, none⟩ = some (.slice none 0 0) := (blk_cell (O2.out.blk (i := 2) rfl) 2).trans rfl
  have f2_2_2 : w2.frozen? ⟨g1, 2, none⟩ = false := blk_frozen (O2.out.blk (i := 2) rfl) 2
  have n2_0_2 : g ≠ g1 := O2.out.ne (i := 0) (j := 2) rfl rfl (by decide)
  have n2_2_0 : g1 ≠ g := O2.out.ne (i := 2) (j := 0) rfl rfl (by decide)
  clear o_ k_
  refine pure_ (i := 0) (N := some 8) (v := ?_) (a' := ?_) #[true, false, false, false, false, false, false, false, false, false] rfl rfl (by kernel_rfl) (fun _ _ _ h => h) (Or.inl ⟨by rfl, ?_⟩) ?_ ?_
  rotate_left
  · intro w'
    go_simp
    with_reducible rfl
  rotate_left
  · simp only [Act.put, List.setIfInBounds_toArray, List.set_cons_zero, List.set_cons_succ, i64_w, i32_w]
    rfl
  refine pure_ (i := 1) (N := some 9) (v := ?_) (a' := ?_) #[true, true, false, false, false, false, false, false, false, false] rfl rfl (by kernel_rfl) (fun _ _ _ h => h) (Or.inl ⟨by rfl, ?_⟩) ?_ ?_
  rotate_left
  · intro w'
    go_simp
    with_reducible rfl
  rotate_left
  · simp only [Act.put, List.setIfInBounds_toArray, List.set_cons_zero, List.set_cons_succ, i64_w, i32_w]
    rfl
  refine pure_ (i := 2) (N := some 10) (v := ?_) (a' := ?_) #[true, true, true, false, false, false, false, false, false, false] rfl rfl (by kernel_rfl) (fun _ _ _ h => h) (Or.inl ⟨by rfl, ?_⟩) ?_ ?_
  rotate_left
  · intro w'
    go_simp
    with_reducible rfl
  rotate_left
  · simp only [Act.put, List.setIfInBounds_toArray, List.set_cons_zero, List.set_cons_succ, i64_w, i32_w]
    rfl
  refine pure_ (i := 5) (N := some 13) (v := ?_) (a' := ?_) #[true, true, true, false, false, true, false, false, false, false] rfl rfl (by kernel_rfl) (fun _ _ _ h => h) (Or.inl ⟨by rfl, ?_⟩) ?_ ?_
  rotate_left
  · intro w'
    go_simp
    with_reducible rfl
  rotate_left
  · simp only [Act.put, List.setIfInBounds_toArray, List.set_cons_zero, List.set_cons_succ, i64_w, i32_w]
    rfl
  refine pure_ (i := 6) (N := some 14) (v := ?_) (a' := ?_) #[true, true, true, false, false, true, true, false, false, false] rfl rfl (by kernel_rfl) (fun _ _ _ h => h) (Or.inl ⟨by rfl, ?_⟩) ?_ ?_
  rotate_left
  · intro w'
    go_simp
    with_reducible rfl
  rotate_left
  · simp only [Act.put, List.setIfInBounds_toArray, List.set_cons_zero, List.set_cons_succ, i64_w, i32_w]
    rfl
  refine pure_ (i := 7) (N := some 15) (v := ?_) (a' := ?_) #[true, true, true, false, false, true, true, true, false, false] rfl rfl (by kernel_rfl) (fun _ _ _ h => h) (Or.inl ⟨by rfl, ?_⟩) ?_ ?_
  rotate_left
  · intro w'
    go_simp
    with_reducible rfl
  rotate_left
  · simp only [Act.put, List.setIfInBounds_toArray, List.set_cons_zero, List.set_cons_succ, i64_w, i32_w]
    rfl
  refine take_ (i := 3) (N := some 11) (v := ?_) (a' := ?_) #[true, true, true, true, false, true, true, true, false, false] rfl rfl (by kernel_rfl) (fun _ _ _ h => h) (Or.inl ⟨by rfl, ?_⟩) hHeld ?_ ?_
  rotate_left
  · rintro w' ⟨s0, s1, s2⟩
    go_simp
    with_reducible rfl
  rotate_left
  · simp only [Act.put, List.setIfInBounds_toArray, List.set_cons_zero, List.set_cons_succ, i64_w, i32_w]
    rfl
  refine pure_ (i := 4) (N := some 12) (v := ?_) (a' := ?_) #[true, true, true, true, true, true, true, true, false, false] rfl rfl (by kernel_rfl) (fun _ _ _ h => h) (Or.inl ⟨by rfl, ?_⟩) ?_ ?_
  rotate_left
  · intro w'
    go_simp
    with_reducible rfl
  rotate_left
  · simp only [Act.put, List.setIfInBounds_toArray, List.set_cons_zero, List.set_cons_succ, i64_w, i32_w]
    rfl
  refine take_ (i := 8) (N := some 16) (v := ?_) (a' := ?_) #[true, true, true, true, true, true, true, true, true, false] rfl rfl (by kernel_rfl) (fun _ _ _ h => h) (Or.inl ⟨by rfl, ?_⟩) hHeld ?_ ?_
  rotate_left
  · rintro w' ⟨s0, s1, s2⟩
    go_simp
    with_reducible rfl
  rotate_left
  · simp only [Act.put, List.setIfInBounds_toArray, List.set_cons_zero, List.set_cons_succ, i64_w, i32_w]
    rfl
  refine pure_ (i := 9) (N := some 17) (v := ?_) (a' := ?_) #[true, true, true, true, true, true, true, true, true, true] rfl rfl (by kernel_rfl) (fun _ _ _ h => h) (Or.inl ⟨by rfl, ?_⟩) ?_ ?_
  rotate_left
  · intro w'
    go_simp
    with_reducible rfl
  rotate_left
  · simp only [Act.put, List.setIfInBounds_toArray, List.set_cons_zero, List.set_cons_succ, i64_w, i32_w]
    rfl
  refine done_ (by kernel_rfl) ?_
  clear hHeld
  clear HR_2 HC hs1 hs2
  go_wp2_with (first | ((with_reducible refine gate_store (t := 32) (p := 4) rfl ?_); refine own_store rfl rfl rfl (w1 := (World.setCell (World.setCell (World.setCell w2 ⟨g1, 0, none⟩ (.int .i64 0)) ⟨g1, 1, none⟩ (.int .i64 0)) ⟨g1, 2, none⟩ (.slice none 0 0))) (N := N) (l' := [cells g #[.int .i64 o, .int .i64 m, .slice A0 L.length c0] 42, nrow k32 32 (.slice A0 L.length c0) L, cells g1 #[.int .i64 0, .int .i64 0, .slice none 0 0] 32]) ?hr ?ho ?hk ?_; (case hr => first | (go_simp; done) | (go_simp; rfl)); (case ho => exact (((O2.out.set (i := 2) rfl 0 (.int .i64 0)).set (i := 2) rfl 1 (.int .i64 0)).set (i := 2) rfl 2 (.slice none 0 0))); (case hk => exact (((KeepS.setCell (O2.out.far (i := 2) rfl) (.int .i64 0)).trans (KeepS.setCell (O2.out.far (i := 2) rfl) (.int .i64 0))).trans (KeepS.setCell (O2.out.far (i := 2) rfl) (.slice none 0 0)))); intro w3 o_ k_; have O3 : Aside0 (Own N w3 [cells g #[.int .i64 o, .int .i64 m, .slice A0 L.length c0] 42, nrow k32 32 (.slice A0 L.length c0) L, cells g1 #[.int .i64 0, .int .i64 0, .slice none 0 0] 32]) := ⟨o_⟩; have K3 : Aside0 (KeepS N w w3) := ⟨K2.out.trans k_⟩; clear c2_0_0 f2_0_0 c2_0_1 f2_0_1 c2_0_2 f2_0_2 c2_2_0 f2_2_0 c2_2_1 f2_2_1 c2_2_2 f2_2_2 n2_0_2 n2_2_0 O2 K2; have c3_0_0 : w3.cell? ⟨g, 0, none⟩ = some (.int .i64 o) := (blk_cell (O3.out.blk (i := 0) rfl) 0).trans rfl; have f3_0_0 : w3.frozen? ⟨g, 0, none⟩ = false := blk_frozen (O3.out.blk (i := 0) rfl) 0; have c3_0_1 : w3.cell? ⟨g, 1, none⟩ = some (.int .i64 m) := (blk_cell (O3.out.blk (i := 0) rfl) 1).trans rfl; have f3_0_1 : w3.frozen? ⟨g, 1, none⟩ = false := blk_frozen (O3.out.blk (i := 0) rfl) 1; have c3_0_2 : w3.cell? ⟨g, 2, none⟩ = some (.slice A0 L.length c0) := (blk_cell (O3.out.blk (i := 0) rfl) 2).trans rfl; have f3_0_2 : w3.frozen? ⟨g, 2, none⟩ = false := blk_frozen (O3.out.blk (i := 0) rfl) 2; have c3_2_0 : w3.cell? ⟨g1, 0, none⟩ = some (.int .i64 0) := (blk_cell (O3.out.blk (i := 2) rfl) 0).trans rfl; have f3_2_0 : w3.frozen? ⟨g1, 0, none⟩ = false := blk_frozen (O3.out.blk (i := 2) rfl) 0; have c3_2_1 : w3.cell? ⟨g1, 1, none⟩ = some (.int .i64 0) := (blk_cell (O3.out.blk (i := 2) rfl) 1).trans rfl; have f3_2_1 : w3.frozen? ⟨g1, 1, none⟩ = false := blk_frozen (O3.out.blk (i := 2) rfl) 1; have c3_2_2 : w3.cell? ⟨g1, 2, none⟩ = some (.slice none 0 0) := (blk_cell (O3.out.blk (i := 2) rfl) 2).trans rfl; have f3_2_2 : w3.frozen? ⟨g1, 2, none⟩ = false := blk_frozen (O3.out.blk (i := 2) rfl) 2; have n3_0_2 : g ≠ g1 := O3.out.ne (i := 0) (j := 2) rfl rfl (by decide); have n3_2_0 : g1 ≠ g := O3.out.ne (i := 2) (j := 0) rfl rfl (by decide); clear o_ k_))
  refine bodyPost_ret (results_ct rfl _ _ g1 32 #[.int .i64 0, .int .i64 0, .slice none 0 0] (0, 0) _ rfl (O3.out.blk (i := 2) rfl) Try.underlying32 rfl (by kernel_rfl)) rfl ?_
  exact ⟨none, 0, A0, c0, rfl, Nat.le_refl _, (O3.out.pick2 (a := 0) (b := 1) rfl rfl (by decide)).conv (i := 1) rfl _ (fun F hp _ => ⟨hp, Kd.F_nil _ _ _⟩), K3.out⟩
set_option maxHeartbeats 16000000 in
set_option maxRecDepth 100000 in
theorem RAdd_no {N : Nat → Prop} {w : World} {g : Nat} {o m : Int} {L : List Rnd} (B : Option Addr) (c : Nat) (ups : List Upd) (h : Own N w [Obj3 42 g o m L]) (hr : Kd.F k50 w N B ups.length ups) (hc : ups.length ≤ c) (hL : L.length ≤ 1000000) (hu : ups.length ≤ 1000000) (hq : ¬ (L.length : Int) ≥ m) (k : Nat) (e : Int) (he : chapbookref07_May.f k o ((L.length : Int) + 1) ups = some e) (hz : (e != 0) = true) :
    Calls Try.prog 13 #[.pointer (some ⟨g, 0, none⟩), .slice B ups.length c] w fun e_ w' => ∃ A1 c1 A2 c2, e_ = .returned (.tuple #[.agg #[.int .i64 0, .int .i64 0, .slice A1 (([] : List Upd)).length c1], .int .i64 e]) ∧ (([] : List Upd)).length ≤ c1 ∧ Own N w' [cells g #[.int .i64 o, .int .i64 m, .slice A2 (L).length c2] 42, both (nrow k32 32 (.slice A2 (L).length c2) (L)) (rd k50 A1 (([] : List Upd)).length (([] : List Upd)))] ∧ KeepS N w w' := by
  obtain ⟨A0, c0, h2⟩ := Obj3.open_ h (i := 0) rfl
  have HR_0 : Aside0 (Kd.F k50 w N B ups.length ups) := ⟨hr⟩
  have HC := Aside0.mk hc
  have HL := Aside0.mk hL
  have HU := Aside0.mk hu
  have O0 : Aside0 (Own N w [cells g #[.int .i64 o, .int .i64 m, .slice A0 L.length c0] 42, nrow k32 32 (.slice A0 L.length c0) L]) := ⟨h2⟩
  have K0 : Aside0 (KeepS N w w) := ⟨KeepS.refl _ _⟩
  have c0_0_0 : w.cell? ⟨g, 0, none⟩ = some (.int .i64 o) := (blk_cell (O0.out.blk (i := 0) rfl) 0).trans rfl
  have f0_0_0 : w.frozen? ⟨g, 0, none⟩ = false := blk_frozen (O0.out.blk (i := 0) rfl) 0
  have c0_0_1 : w.cell? ⟨g, 1, none⟩ = some (.int .i64 m) := (blk_cell (O0.out.blk (i := 0) rfl) 1).trans rfl
  have f0_0_1 : w.frozen? ⟨g, 1, none⟩ = false := blk_frozen (O0.out.blk (i := 0) rfl) 1
  have c0_0_2 : w.cell? ⟨g, 2, none⟩ = some (.slice A0 L.length c0) := (blk_cell (O0.out.blk (i := 0) rfl) 2).trans rfl
  have f0_0_2 : w.frozen? ⟨g, 2, none⟩ = false := blk_frozen (O0.out.blk (i := 0) rfl) 2
  have HE := Aside0.mk he
  clear he
  have hs1 : IntKind.i64.wrap ((L.length : Int) + 1) = (L.length : Int) + 1 := by rw [IntKind.wrap_i64]; omega
  have hs2 : wrap64 ((L.length : Int) + 1) = (L.length : Int) + 1 := by unfold wrap64; omega
  have hq1 : decide ((L.length : Int) ≥ m) = false := decide_eq_false hq
  have hq2 : decide (m ≤ (L.length : Int)) = false := hq1
  clear h2 h hr hc hL hu hq
  go_enter Try.func13, Try.ntmps13
  go_wp2_with (first | ((with_reducible refine gate_dst (N := 4) rfl ?_); refine own_box rfl (D := 4) rfl (cs := #[.int .i64 0, .int .i64 0, .slice none 0 0]) (t := 32) ?hr O0.out ?_; (case hr => first | (go_simp; done) | (go_simp; rfl)); intro g1 w1 o_ k_; have O1 : Aside0 (Own N w1 [cells g #[.int .i64 o, .int .i64 m, .slice A0 L.length c0] 42, nrow k32 32 (.slice A0 L.length c0) L, cells g1 #[.int .i64 0, .int .i64 0, .slice none 0 0] 32]) := ⟨o_⟩; have K1 : Aside0 (KeepS N w w1) := ⟨K0.out.trans k_⟩; have HR_1 : Aside0 (Kd.F k50 w1 N B ups.length ups) := ⟨keepF HR_0.out k_⟩; clear c0_0_0 f0_0_0 c0_0_1 f0_0_1 c0_0_2 f0_0_2 O0 K0 HR_0; have c1_0_0 : w1.cell? ⟨g, 0, none⟩ = some (.int .i64 o) := (blk_cell (O1.out.blk (i := 0) rfl) 0).trans rfl; have f1_0_0 : w1.frozen? ⟨g, 0, none⟩ = false := blk_frozen (O1.out.blk (i := 0) rfl) 0; have c1_0_1 : w1.cell? ⟨g, 1, none⟩ = some (.int .i64 m) := (blk_cell (O1.out.blk (i := 0) rfl) 1).trans rfl; have f1_0_1 : w1.frozen? ⟨g, 1, none⟩ = false := blk_frozen (O1.out.blk (i := 0) rfl) 1; have c1_0_2 : w1.cell? ⟨g, 2, none⟩ = some (.slice A0 L.length c0) := (blk_cell (O1.out.blk (i := 0) rfl) 2).trans rfl; have f1_0_2 : w1.frozen? ⟨g, 2, none⟩ = false := blk_frozen (O1.out.blk (i := 0) rfl) 2; have c1_2_0 : w1.cell? ⟨g1, 0, none⟩ = some (.int .i64 0) := (blk_cell (O1.out.blk (i := 2) rfl) 0).trans rfl; have f1_2_0 : w1.frozen? ⟨g1, 0, none⟩ = false := blk_frozen (O1.out.blk (i := 2) rfl) 0; have c1_2_1 : w1.cell? ⟨g1, 1, none⟩ = some (.int .i64 0) := (blk_cell (O1.out.blk (i := 2) rfl) 1).trans rfl; have f1_2_1 : w1.frozen? ⟨g1, 1, none⟩ = false := blk_frozen (O1.out.blk (i := 2) rfl) 1; have c1_2_2 : w1.cell? ⟨g1, 2, none⟩ = some (.slice none 0 0) := (blk_cell (O1.out.blk (i := 2) rfl) 2).trans rfl; have f1_2_2 : w1.frozen? ⟨g1, 2, none⟩ = false := blk_frozen (O1.out.blk (i := 2) rfl) 2; have n1_0_2 : g ≠ g1 := O1.out.ne (i := 0) (j := 2) rfl rfl (by decide); have n1_2_0 : g1 ≠ g := O1.out.ne (i := 2) (j := 0) rfl rfl (by decide); clear o_ k_))
  refine start_ (n := 10) (S := fun w' => w'.cell? ⟨g, 0, none⟩ = some (.int .i64 o) ∧ w'.cell? ⟨g, 1, none⟩ = some (.int .i64 m) ∧ w'.cell? ⟨g, 2, none⟩ = some (.slice A0 L.length c0)) (ds := []) #[false, false, false, false, false, false, false, false, false, false] (by kernel_rfl) rfl rfl ⟨((blk_cell (O1.out.blk (i := 0) rfl) 0).trans rfl), ((blk_cell (O1.out.blk (i := 0) rfl) 1).trans rfl), ((blk_cell (O1.out.blk (i := 0) rfl) 2).trans rfl)⟩ (fun hHeld => ?_)
  obtain ⟨w2, hw_⟩ : ∃ W, W = w1.drew := ⟨_, rfl⟩
  have o_ := O1.out.drew
  have k_ : KeepS N w1 w1.drew := KeepS.drew
  rw [← hw_] at o_ k_ hHeld ⊢
  clear hw_
  have O2 : Aside0 (Own N w2 [cells g #[.int .i64 o, .int .i64 m, .slice A0 L.length c0] 42, nrow k32 32 (.slice A0 L.length c0) L, cells g1 #[.int .i64 0, .int .i64 0, .slice none 0 0] 32]) := ⟨o_⟩
  have K2 : Aside0 (KeepS N w w2) := ⟨K1.out.trans k_⟩
  have HR_2 : Aside0 (Kd.F k50 w2 N B ups.length ups) := ⟨keepF HR_1.out k_⟩
  clear c1_0_0 f1_0_0 c1_0_1 f1_0_1 c1_0_2 f1_0_2 c1_2_0 f1_2_0 c1_2_1 f1_2_1 c1_2_2 f1_2_2 n1_0_2 n1_2_0 O1 K1 HR_1
  have c2_0_0 : w2.cell? ⟨g, 0, none⟩ = some (.int .i64 o) := (blk_cell (O2.out.blk (i := 0) rfl) 0).trans rfl
  have f2_0_0 : w2.frozen? ⟨g, 0, none⟩ = false := blk_frozen (O2.out.blk (i := 0) rfl) 0
  have c2_0_1 : w2.cell? ⟨g, 1, none⟩ = some (.int .i64 m) := (blk_cell (O2.out.blk (i := 0) rfl) 1).trans rfl
  have f2_0_1 : w2.frozen? ⟨g, 1, none⟩ = false := blk_frozen (O2.out.blk (i := 0) rfl) 1
  have c2_0_2 : w2.cell? ⟨g, 2, none⟩ = some (.slice A0 L.length c0) := (blk_cell (O2.out.blk (i := 0) rfl) 2).trans rfl
  have f2_0_2 : w2.frozen? ⟨g, 2, none⟩ = false := blk_frozen (O2.out.blk (i := 0) rfl) 2
  have c2_2_0 : w2.cell? ⟨g1, 0, none⟩ = some (.int .i64 0) := (blk_cell (O2.out.blk (i := 2) rfl) 0).trans rfl
  have f2_2_0 : w2.frozen? ⟨g1, 0, none⟩ = false := blk_frozen (O2.out.blk (i := 2) rfl) 0
  have c2_2_1 : w2.cell? ⟨g1, 1, none⟩ = some (.int .i64 0) := (blk_cell (O2.out.blk (i := 2) rfl) 1).trans rfl
  have f2_2_1 : w2.frozen? ⟨g1, 1, none⟩ = false := blk_frozen (O2.out.blk (i := 2) rfl) 1
  have c2_2_2 : w2.cell? ⟨g1, 2, none⟩ = some (.slice none 0 0) := (blk_cell (O2.out.blk (i := 2) rfl) 2).trans rfl
  have f2_2_2 : w2.frozen? ⟨g1, 2, none⟩ = false := blk_frozen (O2.out.blk (i := 2) rfl) 2
  have n2_0_2 : g ≠ g1 := O2.out.ne (i := 0) (j := 2) rfl rfl (by decide)
  have n2_2_0 : g1 ≠ g := O2.out.ne (i := 2) (j := 0) rfl rfl (by decide)
  clear o_ k_
  refine pure_ (i := 0) (N := some 8) (v := ?_) (a' := ?_) #[true, false, false, false, false, false, false, false, false, false] rfl rfl (by kernel_rfl) (fun _ _ _ h => h) (Or.inl ⟨by rfl, ?_⟩) ?_ ?_
  rotate_left
  · intro w'
    go_simp
    with_reducible rfl
  rotate_left
  · simp only [Act.put, List.setIfInBounds_toArray, List.set_cons_zero, List.set_cons_succ, i64_w, i32_w]
    rfl
  refine pure_ (i := 1) (N := some 9) (v := ?_) (a' := ?_) #[true, true, false, false, false, false, false, false, false, false] rfl rfl (by kernel_rfl) (fun _ _ _ h => h) (Or.inl ⟨by rfl, ?_⟩) ?_ ?_
  rotate_left
  · intro w'
    go_simp
    with_reducible rfl
  rotate_left
  · simp only [Act.put, List.setIfInBounds_toArray, List.set_cons_zero, List.set_cons_succ, i64_w, i32_w]
    rfl
  refine pure_ (i := 2) (N := some 10) (v := ?_) (a' := ?_) #[true, true, true, false, false, false, false, false, false, false] rfl rfl (by kernel_rfl) (fun _ _ _ h => h) (Or.inl ⟨by rfl, ?_⟩) ?_ ?_
  rotate_left
  · intro w'
    go_simp
    with_reducible rfl
  rotate_left
  · simp only [Act.put, List.setIfInBounds_toArray, List.set_cons_zero, List.set_cons_succ, i64_w, i32_w]
    rfl
  refine pure_ (i := 5) (N := some 13) (v := ?_) (a' := ?_) #[true, true, true, false, false, true, false, false, false, false] rfl rfl (by kernel_rfl) (fun _ _ _ h => h) (Or.inl ⟨by rfl, ?_⟩) ?_ ?_
  rotate_left
  · intro w'
    go_simp
    with_reducible rfl
  rotate_left
  · simp only [Act.put, List.setIfInBounds_toArray, List.set_cons_zero, List.set_cons_succ, i64_w, i32_w]
    rfl
  refine pure_ (i := 6) (N := some 14) (v := ?_) (a' := ?_) #[true, true, true, false, false, true, true, false, false, false] rfl rfl (by kernel_rfl) (fun _ _ _ h => h) (Or.inl ⟨by rfl, ?_⟩) ?_ ?_
  rotate_left
  · intro w'
    go_simp
    with_reducible rfl
  rotate_left
  · simp only [Act.put, List.setIfInBounds_toArray, List.set_cons_zero, List.set_cons_succ, i64_w, i32_w]
    rfl
  refine pure_ (i := 7) (N := some 15) (v := ?_) (a' := ?_) #[true, true, true, false, false, true, true, true, false, false] rfl rfl (by kernel_rfl) (fun _ _ _ h => h) (Or.inl ⟨by rfl, ?_⟩) ?_ ?_
  rotate_left
  · intro w'
    go_simp
    with_reducible rfl
  rotate_left
  · simp only [Act.put, List.setIfInBounds_toArray, List.set_cons_zero, List.set_cons_succ, i64_w, i32_w]
    rfl
  refine take_ (i := 3) (N := some 11) (v := ?_) (a' := ?_) #[true, true, true, true, false, true, true, true, false, false] rfl rfl (by kernel_rfl) (fun _ _ _ h => h) (Or.inl ⟨by rfl, ?_⟩) hHeld ?_ ?_
  rotate_left
  · rintro w' ⟨s0, s1, s2⟩
    go_simp
    with_reducible rfl
  rotate_left
  · simp only [Act.put, List.setIfInBounds_toArray, List.set_cons_zero, List.set_cons_succ, i64_w, i32_w]
    rfl
  refine pure_ (i := 4) (N := some 12) (v := ?_) (a' := ?_) #[true, true, true, true, true, true, true, true, false, false] rfl rfl (by kernel_rfl) (fun _ _ _ h => h) (Or.inl ⟨by rfl, ?_⟩) ?_ ?_
  rotate_left
  · intro w'
    go_simp
    with_reducible rfl
  rotate_left
  · simp only [Act.put, List.setIfInBounds_toArray, List.set_cons_zero, List.set_cons_succ, i64_w, i32_w]
    rfl
  refine take_ (i := 8) (N := some 16) (v := ?_) (a' := ?_) #[true, true, true, true, true, true, true, true, true, false] rfl rfl (by kernel_rfl) (fun _ _ _ h => h) (Or.inl ⟨by rfl, ?_⟩) hHeld ?_ ?_
  rotate_left
  · rintro w' ⟨s0, s1, s2⟩
    go_simp
    with_reducible rfl
  rotate_left
  · simp only [Act.put, List.setIfInBounds_toArray, List.set_cons_zero, List.set_cons_succ, i64_w, i32_w]
    rfl
  refine pure_ (i := 9) (N := some 17) (v := ?_) (a' := ?_) #[true, true, true, true, true, true, true, true, true, true] rfl rfl (by kernel_rfl) (fun _ _ _ h => h) (Or.inl ⟨by rfl, ?_⟩) ?_ ?_
  rotate_left
  · intro w'
    go_simp
    with_reducible rfl
  rotate_left
  · simp only [Act.put, List.setIfInBounds_toArray, List.set_cons_zero, List.set_cons_succ, i64_w, i32_w]
    rfl
  refine done_ (by kernel_rfl) ?_
  clear hHeld
  go_wp2
  refine start_ (n := 16) (S := fun w' => w'.cell? ⟨g, 0, none⟩ = some (.int .i64 o) ∧ w'.cell? ⟨g, 1, none⟩ = some (.int .i64 m) ∧ w'.cell? ⟨g, 2, none⟩ = some (.slice A0 L.length c0)) (ds := []) #[false, false, false, false, false, false, false, false, false, false, false, false, false, false, false, false] (by kernel_rfl) rfl rfl ⟨((blk_cell (O2.out.blk (i := 0) rfl) 0).trans rfl), ((blk_cell (O2.out.blk (i := 0) rfl) 1).trans rfl), ((blk_cell (O2.out.blk (i := 0) rfl) 2).trans rfl)⟩ (fun hHeld => ?_)
  obtain ⟨w3, hw_⟩ : ∃ W, W = w2.drew := ⟨_, rfl⟩
  have o_ := O2.out.drew
  have k_ : KeepS N w2 w2.drew := KeepS.drew
  rw [← hw_] at o_ k_ hHeld ⊢
  clear hw_
  have O3 : Aside0 (Own N w3 [cells g #[.int .i64 o, .int .i64 m, .slice A0 L.length c0] 42, nrow k32 32 (.slice A0 L.length c0) L, cells g1 #[.int .i64 0, .int .i64 0, .slice none 0 0] 32]) := ⟨o_⟩
  have K3 : Aside0 (KeepS N w w3) := ⟨K2.out.trans k_⟩
  have HR_3 : Aside0 (Kd.F k50 w3 N B ups.length ups) := ⟨keepF HR_2.out k_⟩
  clear c2_0_0 f2_0_0 c2_0_1 f2_0_1 c2_0_2 f2_0_2 c2_2_0 f2_2_0 c2_2_1 f2_2_1 c2_2_2 f2_2_2 n2_0_2 n2_2_0 O2 K2 HR_2
  have c3_0_0 : w3.cell? ⟨g, 0, none⟩ = some (.int .i64 o) := (blk_cell (O3.out.blk (i := 0) rfl) 0).trans rfl
  have f3_0_0 : w3.frozen? ⟨g, 0, none⟩ = false := blk_frozen (O3.out.blk (i := 0) rfl) 0
  have c3_0_1 : w3.cell? ⟨g, 1, none⟩ = some (.int .i64 m) := (blk_cell (O3.out.blk (i := 0) rfl) 1).trans rfl
  have f3_0_1 : w3.frozen? ⟨g, 1, none⟩ = false := blk_frozen (O3.out.blk (i := 0) rfl) 1
  have c3_0_2 : w3.cell? ⟨g, 2, none⟩ = some (.slice A0 L.length c0) := (blk_cell (O3.out.blk (i := 0) rfl) 2).trans rfl
  have f3_0_2 : w3.frozen? ⟨g, 2, none⟩ = false := blk_frozen (O3.out.blk (i := 0) rfl) 2
  have c3_2_0 : w3.cell? ⟨g1, 0, none⟩ = some (.int .i64 0) := (blk_cell (O3.out.blk (i := 2) rfl) 0).trans rfl
  have f3_2_0 : w3.frozen? ⟨g1, 0, none⟩ = false := blk_frozen (O3.out.blk (i := 2) rfl) 0
  have c3_2_1 : w3.cell? ⟨g1, 1, none⟩ = some (.int .i64 0) := (blk_cell (O3.out.blk (i := 2) rfl) 1).trans rfl
  have f3_2_1 : w3.frozen? ⟨g1, 1, none⟩ = false := blk_frozen (O3.out.blk (i := 2) rfl) 1
  have c3_2_2 : w3.cell? ⟨g1, 2, none⟩ = some (.slice none 0 0) := (blk_cell (O3.out.blk (i := 2) rfl) 2).trans rfl
  have f3_2_2 : w3.frozen? ⟨g1, 2, none⟩ = false := blk_frozen (O3.out.blk (i := 2) rfl) 2
  have n3_0_2 : g ≠ g1 := O3.out.ne (i := 0) (j := 2) rfl rfl (by decide)
  have n3_2_0 : g1 ≠ g := O3.out.ne (i := 2) (j := 0) rfl rfl (by decide)
  clear o_ k_
  refine pure_ (i := 0) (N := some 19) (v := ?_) (a' := ?_) #[true, false, false, false, false, false, false, false, false, false, false, false, false, false, false, false] rfl rfl (by kernel_rfl) (fun _ _ _ h => h) (Or.inl ⟨by rfl, ?_⟩) ?_ ?_
  rotate_left
  · intro w'
    go_simp
    with_reducible rfl
  rotate_left
  · simp only [Act.put, List.setIfInBounds_toArray, List.set_cons_zero, List.set_cons_succ, i64_w, i32_w]
    rfl
  refine pure_ (i := 1) (N := some 20) (v := ?_) (a' := ?_) #[true, true, false, false, false, false, false, false, false, false, false, false, false, false, false, false] rfl rfl (by kernel_rfl) (fun _ _ _ h => h) (Or.inl ⟨by rfl, ?_⟩) ?_ ?_
  rotate_left
  · intro w'
    go_simp
    with_reducible rfl
  rotate_left
  · simp only [Act.put, List.setIfInBounds_toArray, List.set_cons_zero, List.set_cons_succ, i64_w, i32_w]
    rfl
  refine pure_ (i := 2) (N := some 21) (v := ?_) (a' := ?_) #[true, true, true, false, false, false, false, false, false, false, false, false, false, false, false, false] rfl rfl (by kernel_rfl) (fun _ _ _ h => h) (Or.inl ⟨by rfl, ?_⟩) ?_ ?_
  rotate_left
  · intro w'
    go_simp
    with_reducible rfl
  rotate_left
  · simp only [Act.put, List.setIfInBounds_toArray, List.set_cons_zero, List.set_cons_succ, i64_w, i32_w]
    rfl
  refine pure_ (i := 4) (N := some 23) (v := ?_) (a' := ?_) #[true, true, true, false, true, false, false, false, false, false, false, false, false, false, false, false] rfl rfl (by kernel_rfl) (fun _ _ _ h => h) (Or.inl ⟨by rfl, ?_⟩) ?_ ?_
  rotate_left
  · intro w'
    go_simp
    with_reducible rfl
  rotate_left
  · simp only [Act.put, List.setIfInBounds_toArray, List.set_cons_zero, List.set_cons_succ, i64_w, i32_w]
    rfl
  refine pure_ (i := 5) (N := some 24) (v := ?_) (a' := ?_) #[true, true, true, false, true, true, false, false, false, false, false, false, false, false, false, false] rfl rfl (by kernel_rfl) (fun _ _ _ h => h) (Or.inl ⟨by rfl, ?_⟩) ?_ ?_
  rotate_left
  · intro w'
    go_simp
    with_reducible rfl
  rotate_left
  · simp only [Act.put, List.setIfInBounds_toArray, List.set_cons_zero, List.set_cons_succ, i64_w, i32_w]
    rfl
  refine pure_ (i := 6) (N := some 25) (v := ?_) (a' := ?_) #[true, true, true, false, true, true, true, false, false, false, false, false, false, false, false, false] rfl rfl (by kernel_rfl) (fun _ _ _ h => h) (Or.inl ⟨by rfl, ?_⟩) ?_ ?_
  rotate_left
  · intro w'
    go_simp
    with_reducible rfl
  rotate_left
  · simp only [Act.put, List.setIfInBounds_toArray, List.set_cons_zero, List.set_cons_succ, i64_w, i32_w]
    rfl
  refine pure_ (i := 11) (N := some 30) (v := ?_) (a' := ?_) #[true, true, true, false, true, true, true, false, false, false, false, true, false, false, false, false] rfl rfl (by kernel_rfl) (fun _ _ _ h => h) (Or.inl ⟨by rfl, ?_⟩) ?_ ?_
  rotate_left
  · intro w'
    go_simp
    with_reducible rfl
  rotate_left
  · simp only [Act.put, List.setIfInBounds_toArray, List.set_cons_zero, List.set_cons_succ, i64_w, i32_w]
    rfl
  refine take_ (i := 3) (N := some 22) (v := ?_) (a' := ?_) #[true, true, true, true, true, true, true, false, false, false, false, true, false, false, false, false] rfl rfl (by kernel_rfl) (fun _ _ _ h => h) (Or.inl ⟨by rfl, ?_⟩) hHeld ?_ ?_
  rotate_left
  · rintro w' ⟨s0, s1, s2⟩
    go_simp
    with_reducible rfl
  rotate_left
  · simp only [Act.put, List.setIfInBounds_toArray, List.set_cons_zero, List.set_cons_succ, i64_w, i32_w]
    rfl
  refine take_ (i := 7) (N := some 26) (v := ?_) (a' := ?_) #[true, true, true, true, true, true, true, true, false, false, false, true, false, false, false, false] rfl rfl (by kernel_rfl) (fun _ _ _ h => h) (Or.inl ⟨by rfl, ?_⟩) hHeld ?_ ?_
  rotate_left
  · rintro w' ⟨s0, s1, s2⟩
    go_simp
    with_reducible rfl
  rotate_left
  · simp only [Act.put, List.setIfInBounds_toArray, List.set_cons_zero, List.set_cons_succ, i64_w, i32_w]
    rfl
  refine pure_ (i := 8) (N := some 27) (v := ?_) (a' := ?_) #[true, true, true, true, true, true, true, true, true, false, false, true, false, false, false, false] rfl rfl (by kernel_rfl) (fun _ _ _ h => h) (Or.inl ⟨by rfl, ?_⟩) ?_ ?_
  rotate_left
  · intro w'
    go_simp
    with_reducible rfl
  rotate_left
  · simp only [Act.put, List.setIfInBounds_toArray, List.set_cons_zero, List.set_cons_succ, i64_w, i32_w]
    rfl
  refine pure_ (i := 9) (N := some 28) (v := ?_) (a' := ?_) #[true, true, true, true, true, true, true, true, true, true, false, true, false, false, false, false] rfl rfl (by kernel_rfl) (fun _ _ _ h => h) (Or.inl ⟨by rfl, ?_⟩) ?_ ?_
  rotate_left
  · intro w'
    go_simp
    with_reducible rfl
  rotate_left
  · simp only [Act.put, List.setIfInBounds_toArray, List.set_cons_zero, List.set_cons_succ, i64_w, i32_w]
    rfl
  refine join_ (σ := Option Addr × Nat × Option Addr × Nat × Nat) 1 #[true, true, true, true, true, true, true, true, true, true, true, true, true, true, true, false] (fun ⟨B1, d1, B2, d2, gx⟩ => [(29, .slice B1 0 d1), (31, .slice B2 ups.length d2), (32, .agg #[.int .i64 o, .int .i64 ((L.length : Int) + 1), .slice B2 ups.length d2]), (6, .pointer (some ⟨gx, 0, none⟩))]) (fun ⟨B1, d1, B2, d2, gx⟩ w' => Own N w' [cells g #[.int .i64 o, .int .i64 m, .slice A0 L.length c0] 42, nrow k32 32 (.slice A0 L.length c0) L, cells g1 #[.int .i64 0, .int .i64 0, .slice none 0 0] 32, nrow k50 50 (.slice B2 ups.length d2) ups, cells gx #[.int .i64 0, .int .i64 0, .slice none 0 0] 32] ∧ KeepS N w3 w') ?hcont ?hways
  case hways =>
    intro hc_
    have K4 : Aside0 (KeepS N w3 w3) := ⟨KeepS.refl _ _⟩
    have O4 : Aside0 (Own N w3 [cells g #[.int .i64 o, .int .i64 m, .slice A0 L.length c0] 42, nrow k32 32 (.slice A0 L.length c0) L, cells g1 #[.int .i64 0, .int .i64 0, .slice none 0 0] 32]) := O3
    refine two_ (i := 10) (j := 14) (Ni := some 29) (Nj := some 6) #[true, true, true, true, true, true, true, true, true, true, true, true, false, false, false, false] #[true, true, true, true, true, true, true, true, true, true, false, true, false, false, true, false] rfl rfl rfl rfl (by kernel_rfl) (by decide) (by decide) (fun K_ hK_ => ?_) (fun K_ hK_ => ?_)
    · skip
      refine own_lit_step k50 (N := N) (e := 50) (xs := []) (inner := []) rfl rfl ?hr (Reps.none _ _) (by simp) O4.out ?_
      (case hr => first | (go_simp; done) | (go_simp; rfl))
      intro B1 d1 w5 o_ k_
      have O5 : Aside0 (Own N w5 [cells g #[.int .i64 o, .int .i64 m, .slice A0 L.length c0] 42, nrow k32 32 (.slice A0 L.length c0) L, cells g1 #[.int .i64 0, .int .i64 0, .slice none 0 0] 32, nrow k50 50 (.slice B1 0 d1) []]) := ⟨o_⟩
      have K5 : Aside0 (KeepS N w3 w5) := ⟨K4.out.trans k_⟩
      have HR_5 : Aside0 (Kd.F k50 w5 N B ups.length ups) := ⟨keepF HR_3.out k_⟩
      clear c3_0_0 f3_0_0 c3_0_1 f3_0_1 c3_0_2 f3_0_2 c3_2_0 f3_2_0 c3_2_1 f3_2_1 c3_2_2 f3_2_2 n3_0_2 n3_2_0 O4 K4 HR_3
      have c5_0_0 : w5.cell? ⟨g, 0, none⟩ = some (.int .i64 o) := (blk_cell (O5.out.blk (i := 0) rfl) 0).trans rfl
      have f5_0_0 : w5.frozen? ⟨g, 0, none⟩ = false := blk_frozen (O5.out.blk (i := 0) rfl) 0
      have c5_0_1 : w5.cell? ⟨g, 1, none⟩ = some (.int .i64 m) := (blk_cell (O5.out.blk (i := 0) rfl) 1).trans rfl
      have f5_0_1 : w5.frozen? ⟨g, 1, none⟩ = false := blk_frozen (O5.out.blk (i := 0) rfl) 1
      have c5_0_2 : w5.cell? ⟨g, 2, none⟩ = some (.slice A0 L.length c0) := (blk_cell (O5.out.blk (i := 0) rfl) 2).trans rfl
      have f5_0_2 : w5.frozen? ⟨g, 2, none⟩ = false := blk_frozen (O5.out.blk (i := 0) rfl) 2
      have c5_2_0 : w5.cell? ⟨g1, 0, none⟩ = some (.int .i64 0) := (blk_cell (O5.out.blk (i := 2) rfl) 0).trans rfl
      have f5_2_0 : w5.frozen? ⟨g1, 0, none⟩ = false := blk_frozen (O5.out.blk (i := 2) rfl) 0
      have c5_2_1 : w5.cell? ⟨g1, 1, none⟩ = some (.int .i64 0) := (blk_cell (O5.out.blk (i := 2) rfl) 1).trans rfl
      have f5_2_1 : w5.frozen? ⟨g1, 1, none⟩ = false := blk_frozen (O5.out.blk (i := 2) rfl) 1
      have c5_2_2 : w5.cell? ⟨g1, 2, none⟩ = some (.slice none 0 0) := (blk_cell (O5.out.blk (i := 2) rfl) 2).trans rfl
      have f5_2_2 : w5.frozen? ⟨g1, 2, none⟩ = false := blk_frozen (O5.out.blk (i := 2) rfl) 2
      have n5_0_2 : g ≠ g1 := O5.out.ne (i := 0) (j := 2) rfl rfl (by decide)
      have n5_2_0 : g1 ≠ g := O5.out.ne (i := 2) (j := 0) rfl rfl (by decide)
      clear o_ k_
      clear hHeld
      refine hK_.out _ _ ⟨((blk_cell (O5.out.blk (i := 0) rfl) 0).trans rfl), ((blk_cell (O5.out.blk (i := 0) rfl) 1).trans rfl), ((blk_cell (O5.out.blk (i := 0) rfl) 2).trans rfl)⟩ (fun hHeld => ?_)
      clear hK_ K_
      refine norm_ (a' := ?_) ?_ ?_
      rotate_left
      · simp only [Act.put, List.setIfInBounds_toArray, List.set_cons_zero, List.set_cons_succ, i64_w, i32_w]
        rfl
      refine two_ (i := 12) (j := 14) (Ni := some 31) (Nj := some 6) #[true, true, true, true, true, true, true, true, true, true, true, true, true, false, false, false] #[true, true, true, true, true, true, true, true, true, true, true, true, false, false, true, false] rfl rfl rfl rfl (by kernel_rfl) (by decide) (by decide) (fun K_ hK_ => ?_) (fun K_ hK_ => ?_)
      · skip
        refine Own.append_flat_step k50 flatU O5.out (i := 3) (ys := ups) rfl (Kd.F_now HR_5.out) rfl rfl (.tmp 29) (.tmp 30) 30 (.agg #[.string ⟨#[]⟩, .int .i64 0, .int .i64 0, .string ⟨#[]⟩]) 48 rfl Try.underlying30 info50 rfl (by decide) (by decide) rfl rfl (by have := HU.out; simp only [List.length_nil]; omega) ?_
        intro B2 d2 w6 o_ k_
        have O6 : Aside0 (Own N w6 [cells g #[.int .i64 o, .int .i64 m, .slice A0 L.length c0] 42, nrow k32 32 (.slice A0 L.length c0) L, cells g1 #[.int .i64 0, .int .i64 0, .slice none 0 0] 32, nrow k50 50 (.slice B2 ups.length d2) ups]) := ⟨o_⟩
        have K6 : Aside0 (KeepS N w3 w6) := ⟨K5.out.trans k_⟩
        have HR_6 : Aside0 (Kd.F k50 w6 N B ups.length ups) := ⟨keepF HR_5.out k_⟩
        clear c5_0_0 f5_0_0 c5_0_1 f5_0_1 c5_0_2 f5_0_2 c5_2_0 f5_2_0 c5_2_1 f5_2_1 c5_2_2 f5_2_2 n5_0_2 n5_2_0 O5 K5 HR_5
        have c6_0_0 : w6.cell? ⟨g, 0, none⟩ = some (.int .i64 o) := (blk_cell (O6.out.blk (i := 0) rfl) 0).trans rfl
        have f6_0_0 : w6.frozen? ⟨g, 0, none⟩ = false := blk_frozen (O6.out.blk (i := 0) rfl) 0
        have c6_0_1 : w6.cell? ⟨g, 1, none⟩ = some (.int .i64 m) := (blk_cell (O6.out.blk (i := 0) rfl) 1).trans rfl
        have f6_0_1 : w6.frozen? ⟨g, 1, none⟩ = false := blk_frozen (O6.out.blk (i := 0) rfl) 1
        have c6_0_2 : w6.cell? ⟨g, 2, none⟩ = some (.slice A0 L.length c0) := (blk_cell (O6.out.blk (i := 0) rfl) 2).trans rfl
        have f6_0_2 : w6.frozen? ⟨g, 2, none⟩ = false := blk_frozen (O6.out.blk (i := 0) rfl) 2
        have c6_2_0 : w6.cell? ⟨g1, 0, none⟩ = some (.int .i64 0) := (blk_cell (O6.out.blk (i := 2) rfl) 0).trans rfl
        have f6_2_0 : w6.frozen? ⟨g1, 0, none⟩ = false := blk_frozen (O6.out.blk (i := 2) rfl) 0
        have c6_2_1 : w6.cell? ⟨g1, 1, none⟩ = some (.int .i64 0) := (blk_cell (O6.out.blk (i := 2) rfl) 1).trans rfl
        have f6_2_1 : w6.frozen? ⟨g1, 1, none⟩ = false := blk_frozen (O6.out.blk (i := 2) rfl) 1
        have c6_2_2 : w6.cell? ⟨g1, 2, none⟩ = some (.slice none 0 0) := (blk_cell (O6.out.blk (i := 2) rfl) 2).trans rfl
        have f6_2_2 : w6.frozen? ⟨g1, 2, none⟩ = false := blk_frozen (O6.out.blk (i := 2) rfl) 2
        have n6_0_2 : g ≠ g1 := O6.out.ne (i := 0) (j := 2) rfl rfl (by decide)
        have n6_2_0 : g1 ≠ g := O6.out.ne (i := 2) (j := 0) rfl rfl (by decide)
        clear o_ k_
        clear hHeld
        refine hK_.out _ _ ⟨((blk_cell (O6.out.blk (i := 0) rfl) 0).trans rfl), ((blk_cell (O6.out.blk (i := 0) rfl) 1).trans rfl), ((blk_cell (O6.out.blk (i := 0) rfl) 2).trans rfl)⟩ (fun hHeld => ?_)
        clear hK_ K_
        refine norm_ (a' := ?_) ?_ ?_
        rotate_left
        · simp only [Act.put, List.setIfInBounds_toArray, List.set_cons_zero, List.set_cons_succ, i64_w, i32_w]
          rfl
        refine pure_ (i := 13) (N := some 32) (v := ?_) (a' := ?_) #[true, true, true, true, true, true, true, true, true, true, true, true, true, true, false, false] rfl rfl (by kernel_rfl) (fun _ _ _ h => h) (Or.inl ⟨by rfl, ?_⟩) ?_ ?_
        rotate_left
        · intro w'
          go_simp
          with_reducible rfl
        rotate_left
        · simp only [Act.put, List.setIfInBounds_toArray, List.set_cons_zero, List.set_cons_succ, i64_w, i32_w]
          rfl
        refine one_ (i := 14) (N := some 6) #[true, true, true, true, true, true, true, true, true, true, true, true, true, true, true, false] rfl rfl (by kernel_rfl) (by decide) (fun K_ hK_ => ?_)
        refine own_box_step rfl rfl (cs := #[.int .i64 0, .int .i64 0, .slice none 0 0]) (t := 32) ?hr O6.out ?_
        (case hr => first | (go_simp; done) | (go_simp; rfl))
        intro gx w7 o_ k_
        have O7 : Aside0 (Own N w7 [cells g #[.int .i64 o, .int .i64 m, .slice A0 L.length c0] 42, nrow k32 32 (.slice A0 L.length c0) L, cells g1 #[.int .i64 0, .int .i64 0, .slice none 0 0] 32, nrow k50 50 (.slice B2 ups.length d2) ups, cells gx #[.int .i64 0, .int .i64 0, .slice none 0 0] 32]) := ⟨o_⟩
        have K7 : Aside0 (KeepS N w3 w7) := ⟨K6.out.trans k_⟩
        have HR_7 : Aside0 (Kd.F k50 w7 N B ups.length ups) := ⟨keepF HR_6.out k_⟩
        clear c6_0_0 f6_0_0 c6_0_1 f6_0_1 c6_0_2 f6_0_2 c6_2_0 f6_2_0 c6_2_1 f6_2_1 c6_2_2 f6_2_2 n6_0_2 n6_2_0 O6 K6 HR_6
        have c7_0_0 : w7.cell? ⟨g, 0, none⟩ = some (.int .i64 o) := (blk_cell (O7.out.blk (i := 0) rfl) 0).trans rfl
        have f7_0_0 : w7.frozen? ⟨g, 0, none⟩ = false := blk_frozen (O7.out.blk (i := 0) rfl) 0
        have c7_0_1 : w7.cell? ⟨g, 1, none⟩ = some (.int .i64 m) := (blk_cell (O7.out.blk (i := 0) rfl) 1).trans rfl
        have f7_0_1 : w7.frozen? ⟨g, 1, none⟩ = false := blk_frozen (O7.out.blk (i := 0) rfl) 1
        have c7_0_2 : w7.cell? ⟨g, 2, none⟩ = some (.slice A0 L.length c0) := (blk_cell (O7.out.blk (i := 0) rfl) 2).trans rfl
        have f7_0_2 : w7.frozen? ⟨g, 2, none⟩ = false := blk_frozen (O7.out.blk (i := 0) rfl) 2
        have c7_2_0 : w7.cell? ⟨g1, 0, none⟩ = some (.int .i64 0) := (blk_cell (O7.out.blk (i := 2) rfl) 0).trans rfl
        have f7_2_0 : w7.frozen? ⟨g1, 0, none⟩ = false := blk_frozen (O7.out.blk (i := 2) rfl) 0
        have c7_2_1 : w7.cell? ⟨g1, 1, none⟩ = some (.int .i64 0) := (blk_cell (O7.out.blk (i := 2) rfl) 1).trans rfl
        have f7_2_1 : w7.frozen? ⟨g1, 1, none⟩ = false := blk_frozen (O7.out.blk (i := 2) rfl) 1
        have c7_2_2 : w7.cell? ⟨g1, 2, none⟩ = some (.slice none 0 0) := (blk_cell (O7.out.blk (i := 2) rfl) 2).trans rfl
        have f7_2_2 : w7.frozen? ⟨g1, 2, none⟩ = false := blk_frozen (O7.out.blk (i := 2) rfl) 2
        have c7_4_0 : w7.cell? ⟨gx, 0, none⟩ = some (.int .i64 0) := (blk_cell (O7.out.blk (i := 4) rfl) 0).trans rfl
        have f7_4_0 : w7.frozen? ⟨gx, 0, none⟩ = false := blk_frozen (O7.out.blk (i := 4) rfl) 0
        have c7_4_1 : w7.cell? ⟨gx, 1, none⟩ = some (.int .i64 0) := (blk_cell (O7.out.blk (i := 4) rfl) 1).trans rfl
        have f7_4_1 : w7.frozen? ⟨gx, 1, none⟩ = false := blk_frozen (O7.out.blk (i := 4) rfl) 1
        have c7_4_2 : w7.cell? ⟨gx, 2, none⟩ = some (.slice none 0 0) := (blk_cell (O7.out.blk (i := 4) rfl) 2).trans rfl
        have f7_4_2 : w7.frozen? ⟨gx, 2, none⟩ = false := blk_frozen (O7.out.blk (i := 4) rfl) 2
        have n7_0_2 : g ≠ g1 := O7.out.ne (i := 0) (j := 2) rfl rfl (by decide)
        have n7_0_4 : g ≠ gx := O7.out.ne (i := 0) (j := 4) rfl rfl (by decide)
        have n7_2_0 : g1 ≠ g := O7.out.ne (i := 2) (j := 0) rfl rfl (by decide)
        have n7_2_4 : g1 ≠ gx := O7.out.ne (i := 2) (j := 4) rfl rfl (by decide)
        have n7_4_0 : gx ≠ g := O7.out.ne (i := 4) (j := 0) rfl rfl (by decide)
        have n7_4_2 : gx ≠ g1 := O7.out.ne (i := 4) (j := 2) rfl rfl (by decide)
        clear o_ k_
        clear hHeld
        refine hK_.out _ _ ⟨((blk_cell (O7.out.blk (i := 0) rfl) 0).trans rfl), ((blk_cell (O7.out.blk (i := 0) rfl) 1).trans rfl), ((blk_cell (O7.out.blk (i := 0) rfl) 2).trans rfl)⟩ (fun hHeld => ?_)
        clear hK_ K_
        refine norm_ (a' := ?_) ?_ ?_
        rotate_left
        · simp only [Act.put, List.setIfInBounds_toArray, List.set_cons_zero, List.set_cons_succ, i64_w, i32_w]
          rfl
        refine norm_ (a' := _) ?_ (hc_ ⟨B1, d1, B2, d2, gx⟩ _ ⟨?_, K7.out⟩)
        · simp only [putAll, Act.put, List.setIfInBounds_toArray, List.set_cons_zero, List.set_cons_succ]
          try rfl
        · exact O7.out.pickL [0, 1, 2, 3, 4] (by decide) (by simp)
      · skip
        refine own_box_step rfl rfl (cs := #[.int .i64 0, .int .i64 0, .slice none 0 0]) (t := 32) ?hr O5.out ?_
        (case hr => first | (go_simp; done) | (go_simp; rfl))
        intro gx w6 o_ k_
        have O6 : Aside0 (Own N w6 [cells g #[.int .i64 o, .int .i64 m, .slice A0 L.length c0] 42, nrow k32 32 (.slice A0 L.length c0) L, cells g1 #[.int .i64 0, .int .i64 0, .slice none 0 0] 32, nrow k50 50 (.slice B1 0 d1) [], cells gx #[.int .i64 0, .int .i64 0, .slice none 0 0] 32]) := ⟨o_⟩
        have K6 : Aside0 (KeepS N w3 w6) := ⟨K5.out.trans k_⟩
        have HR_6 : Aside0 (Kd.F k50 w6 N B ups.length ups) := ⟨keepF HR_5.out k_⟩
        clear c5_0_0 f5_0_0 c5_0_1 f5_0_1 c5_0_2 f5_0_2 c5_2_0 f5_2_0 c5_2_1 f5_2_1 c5_2_2 f5_2_2 n5_0_2 n5_2_0 O5 K5 HR_5
        have c6_0_0 : w6.cell? ⟨g, 0, none⟩ = some (.int .i64 o) := (blk_cell (O6.out.blk (i := 0) rfl) 0).trans rfl
        have f6_0_0 : w6.frozen? ⟨g, 0, none⟩ = false := blk_frozen (O6.out.blk (i := 0) rfl) 0
        have c6_0_1 : w6.cell? ⟨g, 1, none⟩ = some (.int .i64 m) := (blk_cell (O6.out.blk (i := 0) rfl) 1).trans rfl
        have f6_0_1 : w6.frozen? ⟨g, 1, none⟩ = false := blk_frozen (O6.out.blk (i := 0) rfl) 1
        have c6_0_2 : w6.cell? ⟨g, 2, none⟩ = some (.slice A0 L.length c0) := (blk_cell (O6.out.blk (i := 0) rfl) 2).trans rfl
        have f6_0_2 : w6.frozen? ⟨g, 2, none⟩ = false := blk_frozen (O6.out.blk (i := 0) rfl) 2
        have c6_2_0 : w6.cell? ⟨g1, 0, none⟩ = some (.int .i64 0) := (blk_cell (O6.out.blk (i := 2) rfl) 0).trans rfl
        have f6_2_0 : w6.frozen? ⟨g1, 0, none⟩ = false := blk_frozen (O6.out.blk (i := 2) rfl) 0
        have c6_2_1 : w6.cell? ⟨g1, 1, none⟩ = some (.int .i64 0) := (blk_cell (O6.out.blk (i := 2) rfl) 1).trans rfl
        have f6_2_1 : w6.frozen? ⟨g1, 1, none⟩ = false := blk_frozen (O6.out.blk (i := 2) rfl) 1
        have c6_2_2 : w6.cell? ⟨g1, 2, none⟩ = some (.slice none 0 0) := (blk_cell (O6.out.blk (i := 2) rfl) 2).trans rfl
        have f6_2_2 : w6.frozen? ⟨g1, 2, none⟩ = false := blk_frozen (O6.out.blk (i := 2) rfl) 2
        have c6_4_0 : w6.cell? ⟨gx, 0, none⟩ = some (.int .i64 0) := (blk_cell (O6.out.blk (i := 4) rfl) 0).trans rfl
        have f6_4_0 : w6.frozen? ⟨gx, 0, none⟩ = false := blk_frozen (O6.out.blk (i := 4) rfl) 0
        have c6_4_1 : w6.cell? ⟨gx, 1, none⟩ = some (.int .i64 0) := (blk_cell (O6.out.blk (i := 4) rfl) 1).trans rfl
        have f6_4_1 : w6.frozen? ⟨gx, 1, none⟩ = false := blk_frozen (O6.out.blk (i := 4) rfl) 1
        have c6_4_2 : w6.cell? ⟨gx, 2, none⟩ = some (.slice none 0 0) := (blk_cell (O6.out.blk (i := 4) rfl) 2).trans rfl
        have f6_4_2 : w6.frozen? ⟨gx, 2, none⟩ = false := blk_frozen (O6.out.blk (i := 4) rfl) 2
        have n6_0_2 : g ≠ g1 := O6.out.ne (i := 0) (j := 2) rfl rfl (by decide)
        have n6_0_4 : g ≠ gx := O6.out.ne (i := 0) (j := 4) rfl rfl (by decide)
        have n6_2_0 : g1 ≠ g := O6.out.ne (i := 2) (j := 0) rfl rfl (by decide)
        have n6_2_4 : g1 ≠ gx := O6.out.ne (i := 2) (j := 4) rfl rfl (by decide)
        have n6_4_0 : gx ≠ g := O6.out.ne (i := 4) (j := 0) rfl rfl (by decide)
        have n6_4_2 : gx ≠ g1 := O6.out.ne (i := 4) (j := 2) rfl rfl (by decide)
        clear o_ k_
        clear hHeld
        refine hK_.out _ _ ⟨((blk_cell (O6.out.blk (i := 0) rfl) 0).trans rfl), ((blk_cell (O6.out.blk (i := 0) rfl) 1).trans rfl), ((blk_cell (O6.out.blk (i := 0) rfl) 2).trans rfl)⟩ (fun hHeld => ?_)
        clear hK_ K_
        refine norm_ (a' := ?_) ?_ ?_
        rotate_left
        · simp only [Act.put, List.setIfInBounds_toArray, List.set_cons_zero, List.set_cons_succ, i64_w, i32_w]
          rfl
        refine one_ (i := 12) (N := some 31) #[true, true, true, true, true, true, true, true, true, true, true, true, true, false, true, false] rfl rfl (by kernel_rfl) (by decide) (fun K_ hK_ => ?_)
        refine Own.append_flat_step k50 flatU O6.out (i := 3) (ys := ups) rfl (Kd.F_now HR_6.out) rfl rfl (.tmp 29) (.tmp 30) 30 (.agg #[.string ⟨#[]⟩, .int .i64 0, .int .i64 0, .string ⟨#[]⟩]) 48 rfl Try.underlying30 info50 rfl (by decide) (by decide) rfl rfl (by have := HU.out; simp only [List.length_nil]; omega) ?_
        intro B2 d2 w7 o_ k_
        have O7 : Aside0 (Own N w7 [cells g #[.int .i64 o, .int .i64 m, .slice A0 L.length c0] 42, nrow k32 32 (.slice A0 L.length c0) L, cells g1 #[.int .i64 0, .int .i64 0, .slice none 0 0] 32, nrow k50 50 (.slice B2 ups.length d2) ups, cells gx #[.int .i64 0, .int .i64 0, .slice none 0 0] 32]) := ⟨o_⟩
        have K7 : Aside0 (KeepS N w3 w7) := ⟨K6.out.trans k_⟩
        have HR_7 : Aside0 (Kd.F k50 w7 N B ups.length ups) := ⟨keepF HR_6.out k_⟩
        clear c6_0_0 f6_0_0 c6_0_1 f6_0_1 c6_0_2 f6_0_2 c6_2_0 f6_2_0 c6_2_1 f6_2_1 c6_2_2 f6_2_2 c6_4_0 f6_4_0 c6_4_1 f6_4_1 c6_4_2 f6_4_2 n6_0_2 n6_0_4 n6_2_0 n6_2_4 n6_4_0 n6_4_2 O6 K6 HR_6
        have c7_0_0 : w7.cell? ⟨g, 0, none⟩ = some (.int .i64 o) := (blk_cell (O7.out.blk (i := 0) rfl) 0).trans rfl
        have f7_0_0 : w7.frozen? ⟨g, 0, none⟩ = false := blk_frozen (O7.out.blk (i := 0) rfl) 0
        have c7_0_1 : w7.cell? ⟨g, 1, none⟩ = some (.int .i64 m) := (blk_cell (O7.out.blk (i := 0) rfl) 1).trans rfl
        have f7_0_1 : w7.frozen? ⟨g, 1, none⟩ = false := blk_frozen (O7.out.blk (i := 0) rfl) 1
        have c7_0_2 : w7.cell? ⟨g, 2, none⟩ = some (.slice A0 L.length c0) := (blk_cell (O7.out.blk (i := 0) rfl) 2).trans rfl
        have f7_0_2 : w7.frozen? ⟨g, 2, none⟩ = false := blk_frozen (O7.out.blk (i := 0) rfl) 2
        have c7_2_0 : w7.cell? ⟨g1, 0, none⟩ = some (.int .i64 0) := (blk_cell (O7.out.blk (i := 2) rfl) 0).trans rfl
        have f7_2_0 : w7.frozen? ⟨g1, 0, none⟩ = false := blk_frozen (O7.out.blk (i := 2) rfl) 0
        have c7_2_1 : w7.cell? ⟨g1, 1, none⟩ = some (.int .i64 0) := (blk_cell (O7.out.blk (i := 2) rfl) 1).trans rfl
        have f7_2_1 : w7.frozen? ⟨g1, 1, none⟩ = false := blk_frozen (O7.out.blk (i := 2) rfl) 1
        have c7_2_2 : w7.cell? ⟨g1, 2, none⟩ = some (.slice none 0 0) := (blk_cell (O7.out.blk (i := 2) rfl) 2).trans rfl
        have f7_2_2 : w7.frozen? ⟨g1, 2, none⟩ = false := blk_frozen (O7.out.blk (i := 2) rfl) 2
        have c7_4_0 : w7.cell? ⟨gx, 0, none⟩ = some (.int .i64 0) := (blk_cell (O7.out.blk (i := 4) rfl) 0).trans rfl
        have f7_4_0 : w7.frozen? ⟨gx, 0, none⟩ = false := blk_frozen (O7.out.blk (i := 4) rfl) 0
        have c7_4_1 : w7.cell? ⟨gx, 1, none⟩ = some (.int .i64 0) := (blk_cell (O7.out.blk (i := 4) rfl) 1).trans rfl
        have f7_4_1 : w7.frozen? ⟨gx, 1, none⟩ = false := blk_frozen (O7.out.blk (i := 4) rfl) 1
        have c7_4_2 : w7.cell? ⟨gx, 2, none⟩ = some (.slice none 0 0) := (blk_cell (O7.out.blk (i := 4) rfl) 2).trans rfl
        have f7_4_2 : w7.frozen? ⟨gx, 2, none⟩ = false := blk_frozen (O7.out.blk (i := 4) rfl) 2
        have n7_0_2 : g ≠ g1 := O7.out.ne (i := 0) (j := 2) rfl rfl (by decide)
        have n7_0_4 : g ≠ gx := O7.out.ne (i := 0) (j := 4) rfl rfl (by decide)
        have n7_2_0 : g1 ≠ g := O7.out.ne (i := 2) (j := 0) rfl rfl (by decide)
        have n7_2_4 : g1 ≠ gx := O7.out.ne (i := 2) (j := 4) rfl rfl (by decide)
        have n7_4_0 : gx ≠ g := O7.out.ne (i := 4) (j := 0) rfl rfl (by decide)
        have n7_4_2 : gx ≠ g1 := O7.out.ne (i := 4) (j := 2) rfl rfl (by decide)
        clear o_ k_
        clear hHeld
        refine hK_.out _ _ ⟨((blk_cell (O7.out.blk (i := 0) rfl) 0).trans rfl), ((blk_cell (O7.out.blk (i := 0) rfl) 1).trans rfl), ((blk_cell (O7.out.blk (i := 0) rfl) 2).trans rfl)⟩ (fun hHeld => ?_)
        clear hK_ K_
        refine norm_ (a' := ?_) ?_ ?_
        rotate_left
        · simp only [Act.put, List.setIfInBounds_toArray, List.set_cons_zero, List.set_cons_succ, i64_w, i32_w]
          rfl
        refine pure_ (i := 13) (N := some 32) (v := ?_) (a' := ?_) #[true, true, true, true, true, true, true, true, true, true, true, true, true, true, true, false] rfl rfl (by kernel_rfl) (fun _ _ _ h => h) (Or.inl ⟨by rfl, ?_⟩) ?_ ?_
        rotate_left
        · intro w'
          go_simp
          with_reducible rfl
        rotate_left
        · simp only [Act.put, List.setIfInBounds_toArray, List.set_cons_zero, List.set_cons_succ, i64_w, i32_w]
          rfl
        refine norm_ (a' := _) ?_ (hc_ ⟨B1, d1, B2, d2, gx⟩ _ ⟨?_, K7.out⟩)
        · simp only [putAll, Act.put, List.setIfInBounds_toArray, List.set_cons_zero, List.set_cons_succ]
          try rfl
        · exact O7.out.pickL [0, 1, 2, 3, 4] (by decide) (by simp)
    · skip
      refine own_box_step rfl rfl (cs := #[.int .i64 0, .int .i64 0, .slice none 0 0]) (t := 32) ?hr O4.out ?_
      (case hr => first | (go_simp; done) | (go_simp; rfl))
      intro gx w5 o_ k_
      have O5 : Aside0 (Own N w5 [cells g #[.int .i64 o, .int .i64 m, .slice A0 L.length c0] 42, nrow k32 32 (.slice A0 L.length c0) L, cells g1 #[.int .i64 0, .int .i64 0, .slice none 0 0] 32, cells gx #[.int .i64 0, .int .i64 0, .slice none 0 0] 32]) := ⟨o_⟩
      have K5 : Aside0 (KeepS N w3 w5) := ⟨K4.out.trans k_⟩
      have HR_5 : Aside0 (Kd.F k50 w5 N B ups.length ups) := ⟨keepF HR_3.out k_⟩
      clear c3_0_0 f3_0_0 c3_0_1 f3_0_1 c3_0_2 f3_0_2 c3_2_0 f3_2_0 c3_2_1 f3_2_1 c3_2_2 f3_2_2 n3_0_2 n3_2_0 O4 K4 HR_3
      have c5_0_0 : w5.cell? ⟨g, 0, none⟩ = some (.int .i64 o) := (blk_cell (O5.out.blk (i := 0) rfl) 0).trans rfl
      have f5_0_0 : w5.frozen? ⟨g, 0, none⟩ = false := blk_frozen (O5.out.blk (i := 0) rfl) 0
      have c5_0_1 : w5.cell? ⟨g, 1, none⟩ = some (.int .i64 m) := (blk_cell (O5.out.blk (i := 0) rfl) 1).trans rfl
      have f5_0_1 : w5.frozen? ⟨g, 1, none⟩ = false := blk_frozen (O5.out.blk (i := 0) rfl) 1
      have c5_0_2 : w5.cell? ⟨g, 2, none⟩ = some (.slice A0 L.length c0) := (blk_cell (O5.out.blk (i := 0) rfl) 2).trans rfl
      have f5_0_2 : w5.frozen? ⟨g, 2, none⟩ = false := blk_frozen (O5.out.blk (i := 0) rfl) 2
      have c5_2_0 : w5.cell? ⟨g1, 0, none⟩ = some (.int .i64 0) := (blk_cell (O5.out.blk (i := 2) rfl) 0).trans rfl
      have f5_2_0 : w5.frozen? ⟨g1, 0, none⟩ = false := blk_frozen (O5.out.blk (i := 2) rfl) 0
      have c5_2_1 : w5.cell? ⟨g1, 1, none⟩ = some (.int .i64 0) := (blk_cell (O5.out.blk (i := 2) rfl) 1).trans rfl
      have f5_2_1 : w5.frozen? ⟨g1, 1, none⟩ = false := blk_frozen (O5.out.blk (i := 2) rfl) 1
      have c5_2_2 : w5.cell? ⟨g1, 2, none⟩ = some (.slice none 0 0) := (blk_cell (O5.out.blk (i := 2) rfl) 2).trans rfl
      have f5_2_2 : w5.frozen? ⟨g1, 2, none⟩ = false := blk_frozen (O5.out.blk (i := 2) rfl) 2
      have c5_3_0 : w5.cell? ⟨gx, 0, none⟩ = some (.int .i64 0) := (blk_cell (O5.out.blk (i := 3) rfl) 0).trans rfl
      have f5_3_0 : w5.frozen? ⟨gx, 0, none⟩ = false := blk_frozen (O5.out.blk (i := 3) rfl) 0
      have c5_3_1 : w5.cell? ⟨gx, 1, none⟩ = some (.int .i64 0) := (blk_cell (O5.out.blk (i := 3) rfl) 1).trans rfl
      have f5_3_1 : w5.frozen? ⟨gx, 1, none⟩ = false := blk_frozen (O5.out.blk (i := 3) rfl) 1
      have c5_3_2 : w5.cell? ⟨gx, 2, none⟩ = some (.slice none 0 0) := (blk_cell (O5.out.blk (i := 3) rfl) 2).trans rfl
      have f5_3_2 : w5.frozen? ⟨gx, 2, none⟩ = false := blk_frozen (O5.out.blk (i := 3) rfl) 2
      have n5_0_2 : g ≠ g1 := O5.out.ne (i := 0) (j := 2) rfl rfl (by decide)
      have n5_0_3 : g ≠ gx := O5.out.ne (i := 0) (j := 3) rfl rfl (by decide)
      have n5_2_0 : g1 ≠ g := O5.out.ne (i := 2) (j := 0) rfl rfl (by decide)
      have n5_2_3 : g1 ≠ gx := O5.out.ne (i := 2) (j := 3) rfl rfl (by decide)
      have n5_3_0 : gx ≠ g := O5.out.ne (i := 3) (j := 0) rfl rfl (by decide)
      have n5_3_2 : gx ≠ g1 := O5.out.ne (i := 3) (j := 2) rfl rfl (by decide)
      clear o_ k_
      clear hHeld
      refine hK_.out _ _ ⟨((blk_cell (O5.out.blk (i := 0) rfl) 0).trans rfl), ((blk_cell (O5.out.blk (i := 0) rfl) 1).trans rfl), ((blk_cell (O5.out.blk (i := 0) rfl) 2).trans rfl)⟩ (fun hHeld => ?_)
      clear hK_ K_
      refine norm_ (a' := ?_) ?_ ?_
      rotate_left
      · simp only [Act.put, List.setIfInBounds_toArray, List.set_cons_zero, List.set_cons_succ, i64_w, i32_w]
        rfl
      refine one_ (i := 10) (N := some 29) #[true, true, true, true, true, true, true, true, true, true, true, true, false, false, true, false] rfl rfl (by kernel_rfl) (by decide) (fun K_ hK_ => ?_)
      refine own_lit_step k50 (N := N) (e := 50) (xs := []) (inner := []) rfl rfl ?hr (Reps.none _ _) (by simp) O5.out ?_
      (case hr => first | (go_simp; done) | (go_simp; rfl))
      intro B1 d1 w6 o_ k_
      have O6 : Aside0 (Own N w6 [cells g #[.int .i64 o, .int .i64 m, .slice A0 L.length c0] 42, nrow k32 32 (.slice A0 L.length c0) L, cells g1 #[.int .i64 0, .int .i64 0, .slice none 0 0] 32, cells gx #[.int .i64 0, .int .i64 0, .slice none 0 0] 32, nrow k50 50 (.slice B1 0 d1) []]) := ⟨o_⟩
      have K6 : Aside0 (KeepS N w3 w6) := ⟨K5.out.trans k_⟩
      have HR_6 : Aside0 (Kd.F k50 w6 N B ups.length ups) := ⟨keepF HR_5.out k_⟩
      clear c5_0_0 f5_0_0 c5_0_1 f5_0_1 c5_0_2 f5_0_2 c5_2_0 f5_2_0 c5_2_1 f5_2_1 c5_2_2 f5_2_2 c5_3_0 f5_3_0 c5_3_1 f5_3_1 c5_3_2 f5_3_2 n5_0_2 n5_0_3 n5_2_0 n5_2_3 n5_3_0 n5_3_2 O5 K5 HR_5
      have c6_0_0 : w6.cell? ⟨g, 0, none⟩ = some (.int .i64 o) := (blk_cell (O6.out.blk (i := 0) rfl) 0).trans rfl
      have f6_0_0 : w6.frozen? ⟨g, 0, none⟩ = false := blk_frozen (O6.out.blk (i := 0) rfl) 0
      have c6_0_1 : w6.cell? ⟨g, 1, none⟩ = some (.int .i64 m) := (blk_cell (O6.out.blk (i := 0) rfl) 1).trans rfl
      have f6_0_1 : w6.frozen? ⟨g, 1, none⟩ = false := blk_frozen (O6.out.blk (i := 0) rfl) 1
      have c6_0_2 : w6.cell? ⟨g, 2, none⟩ = some (.slice A0 L.length c0) := (blk_cell (O6.out.blk (i := 0) rfl) 2).trans rfl
      have f6_0_2 : w6.frozen? ⟨g, 2, none⟩ = false := blk_frozen (O6.out.blk (i := 0) rfl) 2
      have c6_2_0 : w6.cell? ⟨g1, 0, none⟩ = some (.int .i64 0) := (blk_cell (O6.out.blk (i := 2) rfl) 0).trans rfl
      have f6_2_0 : w6.frozen? ⟨g1, 0, none⟩ = false := blk_frozen (O6.out.blk (i := 2) rfl) 0
      have c6_2_1 : w6.cell? ⟨g1, 1, none⟩ = some (.int .i64 0) := (blk_cell (O6.out.blk (i := 2) rfl) 1).trans rfl
      have f6_2_1 : w6.frozen? ⟨g1, 1, none⟩ = false := blk_frozen (O6.out.blk (i := 2) rfl) 1
      have c6_2_2 : w6.cell? ⟨g1, 2, none⟩ = some (.slice none 0 0) := (blk_cell (O6.out.blk (i := 2) rfl) 2).trans rfl
      have f6_2_2 : w6.frozen? ⟨g1, 2, none⟩ = false := blk_frozen (O6.out.blk (i := 2) rfl) 2
      have c6_3_0 : w6.cell? ⟨gx, 0, none⟩ = some (.int .i64 0) := (blk_cell (O6.out.blk (i := 3) rfl) 0).trans rfl
      have f6_3_0 : w6.frozen? ⟨gx, 0, none⟩ = false := blk_frozen (O6.out.blk (i := 3) rfl) 0
      have c6_3_1 : w6.cell? ⟨gx, 1, none⟩ = some (.int .i64 0) := (blk_cell (O6.out.blk (i := 3) rfl) 1).trans rfl
      have f6_3_1 : w6.frozen? ⟨gx, 1, none⟩ = false := blk_frozen (O6.out.blk (i := 3) rfl) 1
      have c6_3_2 : w6.cell? ⟨gx, 2, none⟩ = some (.slice none 0 0) := (blk_cell (O6.out.blk (i := 3) rfl) 2).trans rfl
      have f6_3_2 : w6.frozen? ⟨gx, 2, none⟩ = false := blk_frozen (O6.out.blk (i := 3) rfl) 2
      have n6_0_2 : g ≠ g1 := O6.out.ne (i := 0) (j := 2) rfl rfl (by decide)
      have n6_0_3 : g ≠ gx := O6.out.ne (i := 0) (j := 3) rfl rfl (by decide)
      have n6_2_0 : g1 ≠ g := O6.out.ne (i := 2) (j := 0) rfl rfl (by decide)
      have n6_2_3 : g1 ≠ gx := O6.out.ne (i := 2) (j := 3) rfl rfl (by decide)
      have n6_3_0 : gx ≠ g := O6.out.ne (i := 3) (j := 0) rfl rfl (by decide)
      have n6_3_2 : gx ≠ g1 := O6.out.ne (i := 3) (j := 2) rfl rfl (by decide)
      clear o_ k_
      clear hHeld
      refine hK_.out _ _ ⟨((blk_cell (O6.out.blk (i := 0) rfl) 0).trans rfl), ((blk_cell (O6.out.blk (i := 0) rfl) 1).trans rfl), ((blk_cell (O6.out.blk (i := 0) rfl) 2).trans rfl)⟩ (fun hHeld => ?_)
      clear hK_ K_
      refine norm_ (a' := ?_) ?_ ?_
      rotate_left
      · simp only [Act.put, List.setIfInBounds_toArray, List.set_cons_zero, List.set_cons_succ, i64_w, i32_w]
        rfl
      refine one_ (i := 12) (N := some 31) #[true, true, true, true, true, true, true, true, true, true, true, true, true, false, true, false] rfl rfl (by kernel_rfl) (by decide) (fun K_ hK_ => ?_)
      refine Own.append_flat_step k50 flatU O6.out (i := 4) (ys := ups) rfl (Kd.F_now HR_6.out) rfl rfl (.tmp 29) (.tmp 30) 30 (.agg #[.string ⟨#[]⟩, .int .i64 0, .int .i64 0, .string ⟨#[]⟩]) 48 rfl Try.underlying30 info50 rfl (by decide) (by decide) rfl rfl (by have := HU.out; simp only [List.length_nil]; omega) ?_
      intro B2 d2 w7 o_ k_
      have O7 : Aside0 (Own N w7 [cells g #[.int .i64 o, .int .i64 m, .slice A0 L.length c0] 42, nrow k32 32 (.slice A0 L.length c0) L, cells g1 #[.int .i64 0, .int .i64 0, .slice none 0 0] 32, cells gx #[.int .i64 0, .int .i64 0, .slice none 0 0] 32, nrow k50 50 (.slice B2 ups.length d2) ups]) := ⟨o_⟩
      have K7 : Aside0 (KeepS N w3 w7) := ⟨K6.out.trans k_⟩
      have HR_7 : Aside0 (Kd.F k50 w7 N B ups.length ups) := ⟨keepF HR_6.out k_⟩
      clear c6_0_0 f6_0_0 c6_0_1 f6_0_1 c6_0_2 f6_0_2 c6_2_0 f6_2_0 c6_2_1 f6_2_1 c6_2_2 f6_2_2 c6_3_0 f6_3_0 c6_3_1 f6_3_1 c6_3_2 f6_3_2 n6_0_2 n6_0_3 n6_2_0 n6_2_3 n6_3_0 n6_3_2 O6 K6 HR_6
      have c7_0_0 : w7.cell? ⟨g, 0, none⟩ = some (.int .i64 o) := (blk_cell (O7.out.blk (i := 0) rfl) 0).trans rfl
      have f7_0_0 : w7.frozen? ⟨g, 0, none⟩ = false := blk_frozen (O7.out.blk (i := 0) rfl) 0
      have c7_0_1 : w7.cell? ⟨g, 1, none⟩ = some (.int .i64 m) := (blk_cell (O7.out.blk (i := 0) rfl) 1).trans rfl
      have f7_0_1 : w7.frozen? ⟨g, 1, none⟩ = false := blk_frozen (O7.out.blk (i := 0) rfl) 1
      have c7_0_2 : w7.cell? ⟨g, 2, none⟩ = some (.slice A0 L.length c0) := (blk_cell (O7.out.blk (i := 0) rfl) 2).trans rfl
      have f7_0_2 : w7.frozen? ⟨g, 2, none⟩ = false := blk_frozen (O7.out.blk (i := 0) rfl) 2
      have c7_2_0 : w7.cell? ⟨g1, 0, none⟩ = some (.int .i64 0) := (blk_cell (O7.out.blk (i := 2) rfl) 0).trans rfl
      have f7_2_0 : w7.frozen? ⟨g1, 0, none⟩ = false := blk_frozen (O7.out.blk (i := 2) rfl) 0
      have c7_2_1 : w7.cell? ⟨g1, 1, none⟩ = some (.int .i64 0) := (blk_cell (O7.out.blk (i := 2) rfl) 1).trans rfl
      have f7_2_1 : w7.frozen? ⟨g1, 1, none⟩ = false := blk_frozen (O7.out.blk (i := 2) rfl) 1
      have c7_2_2 : w7.cell? ⟨g1, 2, none⟩ = some (.slice none 0 0) := (blk_cell (O7.out.blk (i := 2) rfl) 2).trans rfl
      have f7_2_2 : w7.frozen? ⟨g1, 2, none⟩ = false := blk_frozen (O7.out.blk (i := 2) rfl) 2
      have c7_3_0 : w7.cell? ⟨gx, 0, none⟩ = some (.int .i64 0) := (blk_cell (O7.out.blk (i := 3) rfl) 0).trans rfl
      have f7_3_0 : w7.frozen? ⟨gx, 0, none⟩ = false := blk_frozen (O7.out.blk (i := 3) rfl) 0
      have c7_3_1 : w7.cell? ⟨gx, 1, none⟩ = some (.int .i64 0) := (blk_cell (O7.out.blk (i := 3) rfl) 1).trans rfl
      have f7_3_1 : w7.frozen? ⟨gx, 1, none⟩ = false := blk_frozen (O7.out.blk (i := 3) rfl) 1
      have c7_3_2 : w7.cell? ⟨gx, 2, none⟩ = some (.slice none 0 0) := (blk_cell (O7.out.blk (i := 3) rfl) 2).trans rfl
      have f7_3_2 : w7.frozen? ⟨gx, 2, none⟩ = false := blk_frozen (O7.out.blk (i := 3) rfl) 2
      have n7_0_2 : g ≠ g1 := O7.out.ne (i := 0) (j := 2) rfl rfl (by decide)
      have n7_0_3 : g ≠ gx := O7.out.ne (i := 0) (j := 3) rfl rfl (by decide)
      have n7_2_0 : g1 ≠ g := O7.out.ne (i := 2) (j := 0) rfl rfl (by decide)
      have n7_2_3 : g1 ≠ gx := O7.out.ne (i := 2) (j := 3) rfl rfl (by decide)
      have n7_3_0 : gx ≠ g := O7.out.ne (i := 3) (j := 0) rfl rfl (by decide)
      have n7_3_2 : gx ≠ g1 := O7.out.ne (i := 3) (j := 2) rfl rfl (by decide)
      clear o_ k_
      clear hHeld
      refine hK_.out _ _ ⟨((blk_cell (O7.out.blk (i := 0) rfl) 0).trans rfl), ((blk_cell (O7.out.blk (i := 0) rfl) 1).trans rfl), ((blk_cell (O7.out.blk (i := 0) rfl) 2).trans rfl)⟩ (fun hHeld => ?_)
      clear hK_ K_
      refine norm_ (a' := ?_) ?_ ?_
      rotate_left
      · simp only [Act.put, List.setIfInBounds_toArray, List.set_cons_zero, List.set_cons_succ, i64_w, i32_w]
        rfl
      refine pure_ (i := 13) (N := some 32) (v := ?_) (a' := ?_) #[true, true, true, true, true, true, true, true, true, true, true, true, true, true, true, false] rfl rfl (by kernel_rfl) (fun _ _ _ h => h) (Or.inl ⟨by rfl, ?_⟩) ?_ ?_
      rotate_left
      · intro w'
        go_simp
        with_reducible rfl
      rotate_left
      · simp only [Act.put, List.setIfInBounds_toArray, List.set_cons_zero, List.set_cons_succ, i64_w, i32_w]
        rfl
      refine norm_ (a' := _) ?_ (hc_ ⟨B1, d1, B2, d2, gx⟩ _ ⟨?_, K7.out⟩)
      · simp only [putAll, Act.put, List.setIfInBounds_toArray, List.set_cons_zero, List.set_cons_succ]
        try rfl
      · exact O7.out.pickL [0, 1, 2, 4, 3] (by decide) (by simp)
  case hcont =>
    clear hHeld
    rintro ⟨B1, d1, B2, d2, gx⟩ w4 ⟨o_, k_⟩
    have O4 : Aside0 (Own N w4 [cells g #[.int .i64 o, .int .i64 m, .slice A0 L.length c0] 42, nrow k32 32 (.slice A0 L.length c0) L, cells g1 #[.int .i64 0, .int .i64 0, .slice none 0 0] 32, nrow k50 50 (.slice B2 ups.length d2) ups, cells gx #[.int .i64 0, .int .i64 0, .slice none 0 0] 32]) := ⟨o_⟩
    have K4 : Aside0 (KeepS N w w4) := ⟨K3.out.trans k_⟩
    have HR_4 : Aside0 (Kd.F k50 w4 N B ups.length ups) := ⟨keepF HR_3.out k_⟩
    clear c3_0_0 f3_0_0 c3_0_1 f3_0_1 c3_0_2 f3_0_2 c3_2_0 f3_2_0 c3_2_1 f3_2_1 c3_2_2 f3_2_2 n3_0_2 n3_2_0 O3 K3 HR_3
    have c4_0_0 : w4.cell? ⟨g, 0, none⟩ = some (.int .i64 o) := (blk_cell (O4.out.blk (i := 0) rfl) 0).trans rfl
    have f4_0_0 : w4.frozen? ⟨g, 0, none⟩ = false := blk_frozen (O4.out.blk (i := 0) rfl) 0
    have c4_0_1 : w4.cell? ⟨g, 1, none⟩ = some (.int .i64 m) := (blk_cell (O4.out.blk (i := 0) rfl) 1).trans rfl
    have f4_0_1 : w4.frozen? ⟨g, 1, none⟩ = false := blk_frozen (O4.out.blk (i := 0) rfl) 1
    have c4_0_2 : w4.cell? ⟨g, 2, none⟩ = some (.slice A0 L.length c0) := (blk_cell (O4.out.blk (i := 0) rfl) 2).trans rfl
    have f4_0_2 : w4.frozen? ⟨g, 2, none⟩ = false := blk_frozen (O4.out.blk (i := 0) rfl) 2
    have c4_2_0 : w4.cell? ⟨g1, 0, none⟩ = some (.int .i64 0) := (blk_cell (O4.out.blk (i := 2) rfl) 0).trans rfl
    have f4_2_0 : w4.frozen? ⟨g1, 0, none⟩ = false := blk_frozen (O4.out.blk (i := 2) rfl) 0
    have c4_2_1 : w4.cell? ⟨g1, 1, none⟩ = some (.int .i64 0) := (blk_cell (O4.out.blk (i := 2) rfl) 1).trans rfl
    have f4_2_1 : w4.frozen? ⟨g1, 1, none⟩ = false := blk_frozen (O4.out.blk (i := 2) rfl) 1
    have c4_2_2 : w4.cell? ⟨g1, 2, none⟩ = some (.slice none 0 0) := (blk_cell (O4.out.blk (i := 2) rfl) 2).trans rfl
    have f4_2_2 : w4.frozen? ⟨g1, 2, none⟩ = false := blk_frozen (O4.out.blk (i := 2) rfl) 2
    have c4_4_0 : w4.cell? ⟨gx, 0, none⟩ = some (.int .i64 0) := (blk_cell (O4.out.blk (i := 4) rfl) 0).trans rfl
    have f4_4_0 : w4.frozen? ⟨gx, 0, none⟩ = false := blk_frozen (O4.out.blk (i := 4) rfl) 0
    have c4_4_1 : w4.cell? ⟨gx, 1, none⟩ = some (.int .i64 0) := (blk_cell (O4.out.blk (i := 4) rfl) 1).trans rfl
    have f4_4_1 : w4.frozen? ⟨gx, 1, none⟩ = false := blk_frozen (O4.out.blk (i := 4) rfl) 1
    have c4_4_2 : w4.cell? ⟨gx, 2, none⟩ = some (.slice none 0 0) := (blk_cell (O4.out.blk (i := 4) rfl) 2).trans rfl
    have f4_4_2 : w4.frozen? ⟨gx, 2, none⟩ = false := blk_frozen (O4.out.blk (i := 4) rfl) 2
    have n4_0_2 : g ≠ g1 := O4.out.ne (i := 0) (j := 2) rfl rfl (by decide)
    have n4_0_4 : g ≠ gx := O4.out.ne (i := 0) (j := 4) rfl rfl (by decide)
    have n4_2_0 : g1 ≠ g := O4.out.ne (i := 2) (j := 0) rfl rfl (by decide)
    have n4_2_4 : g1 ≠ gx := O4.out.ne (i := 2) (j := 4) rfl rfl (by decide)
    have n4_4_0 : gx ≠ g := O4.out.ne (i := 4) (j := 0) rfl rfl (by decide)
    have n4_4_2 : gx ≠ g1 := O4.out.ne (i := 4) (j := 2) rfl rfl (by decide)
    clear o_ k_
    refine norm_ (a' := ?_) ?_ ?_
    rotate_left
    · simp only [putAll, Act.put, List.setIfInBounds_toArray, List.set_cons_zero, List.set_cons_succ]
      rfl
    have hHeld : w4.cell? ⟨g, 0, none⟩ = some (.int .i64 o) ∧ w4.cell? ⟨g, 1, none⟩ = some (.int .i64 m) ∧ w4.cell? ⟨g, 2, none⟩ = some (.slice A0 L.length c0) := ⟨((blk_cell (O4.out.blk (i := 0) rfl) 0).trans rfl), ((blk_cell (O4.out.blk (i := 0) rfl) 1).trans rfl), ((blk_cell (O4.out.blk (i := 0) rfl) 2).trans rfl)⟩
    refine one_ (i := 15) (N := none) #[true, true, true, true, true, true, true, true, true, true, true, true, true, true, true, true] rfl rfl (by kernel_rfl) (by decide) (fun K_ hK_ => ?_)
    refine own_store_step rfl rfl (w1 := (World.setCell (World.setCell (World.setCell w4 ⟨gx, 0, none⟩ (.int .i64 o)) ⟨gx, 1, none⟩ (.int .i64 ((L.length : Int) + 1))) ⟨gx, 2, none⟩ (.slice B2 ups.length d2))) (N := N) (l' := [cells g #[.int .i64 o, .int .i64 m, .slice A0 L.length c0] 42, nrow k32 32 (.slice A0 L.length c0) L, cells g1 #[.int .i64 0, .int .i64 0, .slice none 0 0] 32, nrow k50 50 (.slice B2 ups.length d2) ups, cells gx #[.int .i64 o, .int .i64 ((L.length : Int) + 1), .slice B2 ups.length d2] 32]) ?hr ?ho ?hk ?_
    (case hr => first | (go_simp; done) | (go_simp; rfl))
    (case ho => exact (((O4.out.set (i := 4) rfl 0 (.int .i64 o)).set (i := 4) rfl 1 (.int .i64 ((L.length : Int) + 1))).set (i := 4) rfl 2 (.slice B2 ups.length d2)))
    (case hk => exact (((KeepS.setCell (O4.out.far (i := 4) rfl) (.int .i64 o)).trans (KeepS.setCell (O4.out.far (i := 4) rfl) (.int .i64 ((L.length : Int) + 1)))).trans (KeepS.setCell (O4.out.far (i := 4) rfl) (.slice B2 ups.length d2))))
    intro w5 o_ k_
    have O5 : Aside0 (Own N w5 [cells g #[.int .i64 o, .int .i64 m, .slice A0 L.length c0] 42, nrow k32 32 (.slice A0 L.length c0) L, cells g1 #[.int .i64 0, .int .i64 0, .slice none 0 0] 32, nrow k50 50 (.slice B2 ups.length d2) ups, cells gx #[.int .i64 o, .int .i64 ((L.length : Int) + 1), .slice B2 ups.length d2] 32]) := ⟨o_⟩
    have K5 : Aside0 (KeepS N w w5) := ⟨K4.out.trans k_⟩
    have HR_5 : Aside0 (Kd.F k50 w5 N B ups.length ups) := ⟨keepF HR_4.out k_⟩
    clear c4_0_0 f4_0_0 c4_0_1 f4_0_1 c4_0_2 f4_0_2 c4_2_0 f4_2_0 c4_2_1 f4_2_1 c4_2_2 f4_2_2 c4_4_0 f4_4_0 c4_4_1 f4_4_1 c4_4_2 f4_4_2 n4_0_2 n4_0_4 n4_2_0 n4_2_4 n4_4_0 n4_4_2 O4 K4 HR_4
    have c5_0_0 : w5.cell? ⟨g, 0, none⟩ = some (.int .i64 o) := (blk_cell (O5.out.blk (i := 0) rfl) 0).trans rfl
    have f5_0_0 : w5.frozen? ⟨g, 0, none⟩ = false := blk_frozen (O5.out.blk (i := 0) rfl) 0
    have c5_0_1 : w5.cell? ⟨g, 1, none⟩ = some (.int .i64 m) := (blk_cell (O5.out.blk (i := 0) rfl) 1).trans rfl
    have f5_0_1 : w5.frozen? ⟨g, 1, none⟩ = false := blk_frozen (O5.out.blk (i := 0) rfl) 1
    have c5_0_2 : w5.cell? ⟨g, 2, none⟩ = some (.slice A0 L.length c0) := (blk_cell (O5.out.blk (i := 0) rfl) 2).trans rfl
    have f5_0_2 : w5.frozen? ⟨g, 2, none⟩ = false := blk_frozen (O5.out.blk (i := 0) rfl) 2
    have c5_2_0 : w5.cell? ⟨g1, 0, none⟩ = some (.int .i64 0) := (blk_cell (O5.out.blk (i := 2) rfl) 0).trans rfl
    have f5_2_0 : w5.frozen? ⟨g1, 0, none⟩ = false := blk_frozen (O5.out.blk (i := 2) rfl) 0
    have c5_2_1 : w5.cell? ⟨g1, 1, none⟩ = some (.int .i64 0) := (blk_cell (O5.out.blk (i := 2) rfl) 1).trans rfl
    have f5_2_1 : w5.frozen? ⟨g1, 1, none⟩ = false := blk_frozen (O5.out.blk (i := 2) rfl) 1
    have c5_2_2 : w5.cell? ⟨g1, 2, none⟩ = some (.slice none 0 0) := (blk_cell (O5.out.blk (i := 2) rfl) 2).trans rfl
    have f5_2_2 : w5.frozen? ⟨g1, 2, none⟩ = false := blk_frozen (O5.out.blk (i := 2) rfl) 2
    have c5_4_0 : w5.cell? ⟨gx, 0, none⟩ = some (.int .i64 o) := (blk_cell (O5.out.blk (i := 4) rfl) 0).trans rfl
    have f5_4_0 : w5.frozen? ⟨gx, 0, none⟩ = false := blk_frozen (O5.out.blk (i := 4) rfl) 0
    have c5_4_1 : w5.cell? ⟨gx, 1, none⟩ = some (.int .i64 ((L.length : Int) + 1)) := (blk_cell (O5.out.blk (i := 4) rfl) 1).trans rfl
    have f5_4_1 : w5.frozen? ⟨gx, 1, none⟩ = false := blk_frozen (O5.out.blk (i := 4) rfl) 1
    have c5_4_2 : w5.cell? ⟨gx, 2, none⟩ = some (.slice B2 ups.length d2) := (blk_cell (O5.out.blk (i := 4) rfl) 2).trans rfl
    have f5_4_2 : w5.frozen? ⟨gx, 2, none⟩ = false := blk_frozen (O5.out.blk (i := 4) rfl) 2
    have n5_0_2 : g ≠ g1 := O5.out.ne (i := 0) (j := 2) rfl rfl (by decide)
    have n5_0_4 : g ≠ gx := O5.out.ne (i := 0) (j := 4) rfl rfl (by decide)
    have n5_2_0 : g1 ≠ g := O5.out.ne (i := 2) (j := 0) rfl rfl (by decide)
    have n5_2_4 : g1 ≠ gx := O5.out.ne (i := 2) (j := 4) rfl rfl (by decide)
    have n5_4_0 : gx ≠ g := O5.out.ne (i := 4) (j := 0) rfl rfl (by decide)
    have n5_4_2 : gx ≠ g1 := O5.out.ne (i := 4) (j := 2) rfl rfl (by decide)
    clear o_ k_
    clear hHeld
    refine hK_.out _ _ ⟨((blk_cell (O5.out.blk (i := 0) rfl) 0).trans rfl), ((blk_cell (O5.out.blk (i := 0) rfl) 1).trans rfl), ((blk_cell (O5.out.blk (i := 0) rfl) 2).trans rfl)⟩ (fun hHeld => ?_)
    clear hK_ K_
    refine done_ (by kernel_rfl) ?_
    clear hHeld
    go_wp2_with (first | ((with_reducible refine gate_callee (f := 23) rfl ?_); refine goesL_ (some 34) rfl rfl Try.func23 (by kernel_rfl) rfl #[.agg #[.int .i64 o, .int .i64 ((L.length : Int) + 1), .slice B2 ups.length d2]] rfl (by (try simp only [List.map_toArray, List.map_cons, List.map_nil]); first | done | rfl) ?_; refine (chapbookref07_May.calls k _ _ _ _ ups e _ (O5.out.nreads (i := 3) rfl).2.2 (O5.out.nreads (i := 3) rfl).2.1 HE.out).mono ?_; rintro e_ w6 ⟨rfl, hb_⟩; refine ⟨_, rfl, ?_⟩; have o_ := O5.out.below hb_; have k_ := KeepS.of_below (N := N) hb_; have O6 : Aside0 (Own N w6 [cells g #[.int .i64 o, .int .i64 m, .slice A0 L.length c0] 42, nrow k32 32 (.slice A0 L.length c0) L, cells g1 #[.int .i64 0, .int .i64 0, .slice none 0 0] 32, nrow k50 50 (.slice B2 ups.length d2) ups, cells gx #[.int .i64 o, .int .i64 ((L.length : Int) + 1), .slice B2 ups.length d2] 32]) := ⟨o_⟩; have K6 : Aside0 (KeepS N w w6) := ⟨K5.out.trans k_⟩; have HR_6 : Aside0 (Kd.F k50 w6 N B ups.length ups) := ⟨keepF HR_5.out k_⟩; clear c5_0_0 f5_0_0 c5_0_1 f5_0_1 c5_0_2 f5_0_2 c5_2_0 f5_2_0 c5_2_1 f5_2_1 c5_2_2 f5_2_2 c5_4_0 f5_4_0 c5_4_1 f5_4_1 c5_4_2 f5_4_2 n5_0_2 n5_0_4 n5_2_0 n5_2_4 n5_4_0 n5_4_2 O5 K5 HR_5; have c6_0_0 : w6.cell? ⟨g, 0, none⟩ = some (.int .i64 o) := (blk_cell (O6.out.blk (i := 0) rfl) 0).trans rfl; have f6_0_0 : w6.frozen? ⟨g, 0, none⟩ = false := blk_frozen (O6.out.blk (i := 0) rfl) 0; have c6_0_1 : w6.cell? ⟨g, 1, none⟩ = some (.int .i64 m) := (blk_cell (O6.out.blk (i := 0) rfl) 1).trans rfl; have f6_0_1 : w6.frozen? ⟨g, 1, none⟩ = false := blk_frozen (O6.out.blk (i := 0) rfl) 1; have c6_0_2 : w6.cell? ⟨g, 2, none⟩ = some (.slice A0 L.length c0) := (blk_cell (O6.out.blk (i := 0) rfl) 2).trans rfl; have f6_0_2 : w6.frozen? ⟨g, 2, none⟩ = false := blk_frozen (O6.out.blk (i := 0) rfl) 2; have c6_2_0 : w6.cell? ⟨g1, 0, none⟩ = some (.int .i64 0) := (blk_cell (O6.out.blk (i := 2) rfl) 0).trans rfl; have f6_2_0 : w6.frozen? ⟨g1, 0, none⟩ = false := blk_frozen (O6.out.blk (i := 2) rfl) 0; have c6_2_1 : w6.cell? ⟨g1, 1, none⟩ = some (.int .i64 0) := (blk_cell (O6.out.blk (i := 2) rfl) 1).trans rfl; have f6_2_1 : w6.frozen? ⟨g1, 1, none⟩ = false := blk_frozen (O6.out.blk (i := 2) rfl) 1; have c6_2_2 : w6.cell? ⟨g1, 2, none⟩ = some (.slice none 0 0) := (blk_cell (O6.out.blk (i := 2) rfl) 2).trans rfl; have f6_2_2 : w6.frozen? ⟨g1, 2, none⟩ = false := blk_frozen (O6.out.blk (i := 2) rfl) 2; have c6_4_0 : w6.cell? ⟨gx, 0, none⟩ = some (.int .i64 o) := (blk_cell (O6.out.blk (i := 4) rfl) 0).trans rfl; have f6_4_0 : w6.frozen? ⟨gx, 0, none⟩ = false := blk_frozen (O6.out.blk (i := 4) rfl) 0; have c6_4_1 : w6.cell? ⟨gx, 1, none⟩ = some (.int .i64 ((L.length : Int) + 1)) := (blk_cell (O6.out.blk (i := 4) rfl) 1).trans rfl; have f6_4_1 : w6.frozen? ⟨gx, 1, none⟩ = false := blk_frozen (O6.out.blk (i := 4) rfl) 1; have c6_4_2 : w6.cell? ⟨gx, 2, none⟩ = some (.slice B2 ups.length d2) := (blk_cell (O6.out.blk (i := 4) rfl) 2).trans rfl; have f6_4_2 : w6.frozen? ⟨gx, 2, none⟩ = false := blk_frozen (O6.out.blk (i := 4) rfl) 2; have n6_0_2 : g ≠ g1 := O6.out.ne (i := 0) (j := 2) rfl rfl (by decide); have n6_0_4 : g ≠ gx := O6.out.ne (i := 0) (j := 4) rfl rfl (by decide); have n6_2_0 : g1 ≠ g := O6.out.ne (i := 2) (j := 0) rfl rfl (by decide); have n6_2_4 : g1 ≠ gx := O6.out.ne (i := 2) (j := 4) rfl rfl (by decide); have n6_4_0 : gx ≠ g := O6.out.ne (i := 4) (j := 0) rfl rfl (by decide); have n6_4_2 : gx ≠ g1 := O6.out.ne (i := 4) (j := 2) rfl rfl (by decide); clear o_ k_ hb_) | ((with_reducible refine gate_store (t := 32) (p := 4) rfl ?_); refine own_store rfl rfl rfl (w1 := (World.setCell (World.setCell (World.setCell w6 ⟨g1, 0, none⟩ (.int .i64 0)) ⟨g1, 1, none⟩ (.int .i64 0)) ⟨g1, 2, none⟩ (.slice none 0 0))) (N := N) (l' := [cells g #[.int .i64 o, .int .i64 m, .slice A0 L.length c0] 42, nrow k32 32 (.slice A0 L.length c0) L, cells g1 #[.int .i64 0, .int .i64 0, .slice none 0 0] 32, nrow k50 50 (.slice B2 ups.length d2) ups, cells gx #[.int .i64 o, .int .i64 ((L.length : Int) + 1), .slice B2 ups.length d2] 32]) ?hr ?ho ?hk ?_; (case hr => first | (go_simp; done) | (go_simp; rfl)); (case ho => exact (((O6.out.set (i := 2) rfl 0 (.int .i64 0)).set (i := 2) rfl 1 (.int .i64 0)).set (i := 2) rfl 2 (.slice none 0 0))); (case hk => exact (((KeepS.setCell (O6.out.far (i := 2) rfl) (.int .i64 0)).trans (KeepS.setCell (O6.out.far (i := 2) rfl) (.int .i64 0))).trans (KeepS.setCell (O6.out.far (i := 2) rfl) (.slice none 0 0)))); intro w7 o_ k_; have O7 : Aside0 (Own N w7 [cells g #[.int .i64 o, .int .i64 m, .slice A0 L.length c0] 42, nrow k32 32 (.slice A0 L.length c0) L, cells g1 #[.int .i64 0, .int .i64 0, .slice none 0 0] 32, nrow k50 50 (.slice B2 ups.length d2) ups, cells gx #[.int .i64 o, .int .i64 ((L.length : Int) + 1), .slice B2 ups.length d2] 32]) := ⟨o_⟩; have K7 : Aside0 (KeepS N w w7) := ⟨K6.out.trans k_⟩; have HR_7 : Aside0 (Kd.F k50 w7 N B ups.length ups) := ⟨keepF HR_6.out k_⟩; clear c6_0_0 f6_0_0 c6_0_1 f6_0_1 c6_0_2 f6_0_2 c6_2_0 f6_2_0 c6_2_1 f6_2_1 c6_2_2 f6_2_2 c6_4_0 f6_4_0 c6_4_1 f6_4_1 c6_4_2 f6_4_2 n6_0_2 n6_0_4 n6_2_0 n6_2_4 n6_4_0 n6_4_2 O6 K6 HR_6; have c7_0_0 : w7.cell? ⟨g, 0, none⟩ = some (.int .i64 o) := (blk_cell (O7.out.blk (i := 0) rfl) 0).trans rfl; have f7_0_0 : w7.frozen? ⟨g, 0, none⟩ = false := blk_frozen (O7.out.blk (i := 0) rfl) 0; have c7_0_1 : w7.cell? ⟨g, 1, none⟩ = some (.int .i64 m) := (blk_cell (O7.out.blk (i := 0) rfl) 1).trans rfl; have f7_0_1 : w7.frozen? ⟨g, 1, none⟩ = false := blk_frozen (O7.out.blk (i := 0) rfl) 1; have c7_0_2 : w7.cell? ⟨g, 2, none⟩ = some (.slice A0 L.length c0) := (blk_cell (O7.out.blk (i := 0) rfl) 2).trans rfl; have f7_0_2 : w7.frozen? ⟨g, 2, none⟩ = false := blk_frozen (O7.out.blk (i := 0) rfl) 2; have c7_2_0 : w7.cell? ⟨g1, 0, none⟩ = some (.int .i64 0) := (blk_cell (O7.out.blk (i := 2) rfl) 0).trans rfl; have f7_2_0 : w7.frozen? ⟨g1, 0, none⟩ = false := blk_frozen (O7.out.blk (i := 2) rfl) 0; have c7_2_1 : w7.cell? ⟨g1, 1, none⟩ = some (.int .i64 0) := (blk_cell (O7.out.blk (i := 2) rfl) 1).trans rfl; have f7_2_1 : w7.frozen? ⟨g1, 1, none⟩ = false := blk_frozen (O7.out.blk (i := 2) rfl) 1; have c7_2_2 : w7.cell? ⟨g1, 2, none⟩ = some (.slice none 0 0) := (blk_cell (O7.out.blk (i := 2) rfl) 2).trans rfl; have f7_2_2 : w7.frozen? ⟨g1, 2, none⟩ = false := blk_frozen (O7.out.blk (i := 2) rfl) 2; have c7_4_0 : w7.cell? ⟨gx, 0, none⟩ = some (.int .i64 o) := (blk_cell (O7.out.blk (i := 4) rfl) 0).trans rfl; have f7_4_0 : w7.frozen? ⟨gx, 0, none⟩ = false := blk_frozen (O7.out.blk (i := 4) rfl) 0; have c7_4_1 : w7.cell? ⟨gx, 1, none⟩ = some (.int .i64 ((L.length : Int) + 1)) := (blk_cell (O7.out.blk (i := 4) rfl) 1).trans rfl; have f7_4_1 : w7.frozen? ⟨gx, 1, none⟩ = false := blk_frozen (O7.out.blk (i := 4) rfl) 1; have c7_4_2 : w7.cell? ⟨gx, 2, none⟩ = some (.slice B2 ups.length d2) := (blk_cell (O7.out.blk (i := 4) rfl) 2).trans rfl; have f7_4_2 : w7.frozen? ⟨gx, 2, none⟩ = false := blk_frozen (O7.out.blk (i := 4) rfl) 2; have n7_0_2 : g ≠ g1 := O7.out.ne (i := 0) (j := 2) rfl rfl (by decide); have n7_0_4 : g ≠ gx := O7.out.ne (i := 0) (j := 4) rfl rfl (by decide); have n7_2_0 : g1 ≠ g := O7.out.ne (i := 2) (j := 0) rfl rfl (by decide); have n7_2_4 : g1 ≠ gx := O7.out.ne (i := 2) (j := 4) rfl rfl (by decide); have n7_4_0 : gx ≠ g := O7.out.ne (i := 4) (j := 0) rfl rfl (by decide); have n7_4_2 : gx ≠ g1 := O7.out.ne (i := 4) (j := 2) rfl rfl (by decide); clear o_ k_))
    refine bodyPost_ret (results_ct rfl _ _ g1 32 #[.int .i64 0, .int .i64 0, .slice none 0 0] (0, 0) _ rfl (O7.out.blk (i := 2) rfl) Try.underlying32 rfl (by kernel_rfl)) rfl ?_
    exact ⟨none, 0, A0, c0, rfl, Nat.le_refl _, (O7.out.pick2 (a := 0) (b := 1) rfl rfl (by decide)).conv (i := 1) rfl _ (fun F hp _ => ⟨hp, Kd.F_nil _ _ _⟩), K7.out⟩
set_option maxHeartbeats 16000000 in
set_option maxRecDepth 100000 in
theorem RAdd_ok {N : Nat → Prop} {w : World} {g : Nat} {o m : Int} {L : List Rnd} (B : Option Addr) (c : Nat) (ups : List Upd) (h : Own N w [Obj3 42 g o m L]) (hr : Kd.F k50 w N B ups.length ups) (hc : ups.length ≤ c) (hL : L.length ≤ 1000000) (hu : ups.length ≤ 1000000) (hq : ¬ (L.length : Int) ≥ m) (k : Nat) (he : chapbookref07_May.f k o ((L.length : Int) + 1) ups = some 0) :
    Calls Try.prog 13 #[.pointer (some ⟨g, 0, none⟩), .slice B ups.length c] w fun e_ w' => ∃ A1 c1 A2 c2, e_ = .returned (.tuple #[.agg #[.int .i64 o, .int .i64 ((L.length : Int) + 1), .slice A1 (ups).length c1], .int .i64 0]) ∧ (ups).length ≤ c1 ∧ Own N w' [cells g #[.int .i64 o, .int .i64 m, .slice A2 (L ++ [(⟨o, (L.length : Int) + 1, ups⟩ : Rnd)]).length c2] 42, both (nrow k32 32 (.slice A2 (L ++ [(⟨o, (L.length : Int) + 1, ups⟩ : Rnd)]).length c2) (L ++ [(⟨o, (L.length : Int) + 1, ups⟩ : Rnd)])) (rd k50 A1 (ups).length (ups))] ∧ KeepS N w w' := by
  obtain ⟨A0, c0, h2⟩ := Obj3.open_ h (i := 0) rfl
  have HR_0 : Aside0 (Kd.F k50 w N B ups.length ups) := ⟨hr⟩
  have HC := Aside0.mk hc
  have HL := Aside0.mk hL
  have HU := Aside0.mk hu
  have O0 : Aside0 (Own N w [cells g #[.int .i64 o, .int .i64 m, .slice A0 L.length c0] 42, nrow k32 32 (.slice A0 L.length c0) L]) := ⟨h2⟩
  have K0 : Aside0 (KeepS N w w) := ⟨KeepS.refl _ _⟩
  have c0_0_0 : w.cell? ⟨g, 0, none⟩ = some (.int .i64 o) := (blk_cell (O0.out.blk (i := 0) rfl) 0).trans rfl
  have f0_0_0 : w.frozen? ⟨g, 0, none⟩ = false := blk_frozen (O0.out.blk (i := 0) rfl) 0
  have c0_0_1 : w.cell? ⟨g, 1, none⟩ = some (.int .i64 m) := (blk_cell (O0.out.blk (i := 0) rfl) 1).trans rfl
  have f0_0_1 : w.frozen? ⟨g, 1, none⟩ = false := blk_frozen (O0.out.blk (i := 0) rfl) 1
  have c0_0_2 : w.cell? ⟨g, 2, none⟩ = some (.slice A0 L.length c0) := (blk_cell (O0.out.blk (i := 0) rfl) 2).trans rfl
  have f0_0_2 : w.frozen? ⟨g, 2, none⟩ = false := blk_frozen (O0.out.blk (i := 0) rfl) 2
  have HE := Aside0.mk he
  clear he
  have hs1 : IntKind.i64.wrap ((L.length : Int) + 1) = (L.length : Int) + 1 := by rw [IntKind.wrap_i64]; omega
  have hs2 : wrap64 ((L.length : Int) + 1) = (L.length : Int) + 1 := by unfold wrap64; omega
  have hq1 : decide ((L.length : Int) ≥ m) = false := decide_eq_false hq
  have hq2 : decide (m ≤ (L.length : Int)) = false := hq1
  clear h2 h hr hc hL hu hq
  go_enter Try.func13, Try.ntmps13
  go_wp2_with (first | ((with_reducible refine gate_dst (N := 4) rfl ?_); refine own_box rfl (D := 4) rfl (cs := #[.int .i64 0, .int .i64 0, .slice none 0 0]) (t := 32) ?hr O0.out ?_; (case hr => first | (go_simp; done) | (go_simp; rfl)); intro g1 w1 o_ k_; have O1 : Aside0 (Own N w1 [cells g #[.int .i64 o, .int .i64 m, .slice A0 L.length c0] 42, nrow k32 32 (.slice A0 L.length c0) L, cells g1 #[.int .i64 0, .int .i64 0, .slice none 0 0] 32]) := ⟨o_⟩; have K1 : Aside0 (KeepS N w w1) := ⟨K0.out.trans k_⟩; have HR_1 : Aside0 (Kd.F k50 w1 N B ups.length ups) := ⟨keepF HR_0.out k_⟩; clear c0_0_0 f0_0_0 c0_0_1 f0_0_1 c0_0_2 f0_0_2 O0 K0 HR_0; have c1_0_0 : w1.cell? ⟨g, 0, none⟩ = some (.int .i64 o) := (blk_cell (O1.out.blk (i := 0) rfl) 0).trans rfl; have f1_0_0 : w1.frozen? ⟨g, 0, none⟩ = false := blk_frozen (O1.out.blk (i := 0) rfl) 0; have c1_0_1 : w1.cell? ⟨g, 1, none⟩ = some (.int .i64 m) := (blk_cell (O1.out.blk (i := 0) rfl) 1).trans rfl; have f1_0_1 : w1.frozen? ⟨g, 1, none⟩ = false := blk_frozen (O1.out.blk (i := 0) rfl) 1; have c1_0_2 : w1.cell? ⟨g, 2, none⟩ = some (.slice A0 L.length c0) := (blk_cell (O1.out.blk (i := 0) rfl) 2).trans rfl; have f1_0_2 : w1.frozen? ⟨g, 2, none⟩ = false := blk_frozen (O1.out.blk (i := 0) rfl) 2; have c1_2_0 : w1.cell? ⟨g1, 0, none⟩ = some (.int .i64 0) := (blk_cell (O1.out.blk (i := 2) rfl) 0).trans rfl; have f1_2_0 : w1.frozen? ⟨g1, 0, none⟩ = false := blk_frozen (O1.out.blk (i := 2) rfl) 0; have c1_2_1 : w1.cell? ⟨g1, 1, none⟩ = some (.int .i64 0) := (blk_cell (O1.out.blk (i := 2) rfl) 1).trans rfl; have f1_2_1 : w1.frozen? ⟨g1, 1, none⟩ = false := blk_frozen (O1.out.blk (i := 2) rfl) 1; have c1_2_2 : w1.cell? ⟨g1, 2, none⟩ = some (.slice none 0 0) := (blk_cell (O1.out.blk (i := 2) rfl) 2).trans rfl; have f1_2_2 : w1.frozen? ⟨g1, 2, none⟩ = false := blk_frozen (O1.out.blk (i := 2) rfl) 2; have n1_0_2 : g ≠ g1 := O1.out.ne (i := 0) (j := 2) rfl rfl (by decide); have n1_2_0 : g1 ≠ g := O1.out.ne (i := 2) (j := 0) rfl rfl (by decide); clear o_ k_))
  refine start_ (n := 10) (S := fun w' => w'.cell? ⟨g, 0, none⟩ = some (.int .i64 o) ∧ w'.cell? ⟨g, 1, none⟩ = some (.int .i64 m) ∧ w'.cell? ⟨g, 2, none⟩ = some (.slice A0 L.length c0)) (ds := []) #[false, false, false, false, false, false, false, false, false, false] (by kernel_rfl) rfl rfl ⟨((blk_cell (O1.out.blk (i := 0) rfl) 0).trans rfl), ((blk_cell (O1.out.blk (i := 0) rfl) 1).trans rfl), ((blk_cell (O1.out.blk (i := 0) rfl) 2).trans rfl)⟩ (fun hHeld => ?_)
  obtain ⟨w2, hw_⟩ : ∃ W, W = w1.drew := ⟨_, rfl⟩
  have o_ := O1.out.drew
  have k_ : KeepS N w1 w1.drew := KeepS.drew
  rw [← hw_] at o_ k_ hHeld ⊢
  clear hw_
  have O2 : Aside0 (Own N w2 [cells g #[.int .i64 o, .int .i64 m, .slice A0 L.length c0] 42, nrow k32 32 (.slice A0 L.length c0) L, cells g1 #[.int .i64 0, .int .i64 0, .slice none 0 0] 32]) := ⟨o_⟩
  have K2 : Aside0 (KeepS N w w2) := ⟨K1.out.trans k_⟩
  have HR_2 : Aside0 (Kd.F k50 w2 N B ups.length ups) := ⟨keepF HR_1.out k_⟩
  clear c1_0_0 f1_0_0 c1_0_1 f1_0_1 c1_0_2 f1_0_2 c1_2_0 f1_2_0 c1_2_1 f1_2_1 c1_2_2 f1_2_2 n1_0_2 n1_2_0 O1 K1 HR_1
  have c2_0_0 : w2.cell? ⟨g, 0, none⟩ = some (.int .i64 o) := (blk_cell (O2.out.blk (i := 0) rfl) 0).trans rfl
  have f2_0_0 : w2.frozen? ⟨g, 0, none⟩ = false := blk_frozen (O2.out.blk (i := 0) rfl) 0
  have c2_0_1 : w2.cell? ⟨g, 1, none⟩ = some (.int .i64 m) := (blk_cell (O2.out.blk (i := 0) rfl) 1).trans rfl
  have f2_0_1 : w2.frozen? ⟨g, 1, none⟩ = false := blk_frozen (O2.out.blk (i := 0) rfl) 1
  have c2_0_2 : w2.cell? ⟨g, 2, none⟩ = some (.slice A0 L.length c0) := (blk_cell (O2.out.blk (i := 0) rfl) 2).trans rfl
  have f2_0_2 : w2.frozen? ⟨g, 2, none⟩ = false := blk_frozen (O2.out.blk (i := 0) rfl) 2
  have c2_2_0 : w2.cell? ⟨g1, 0, none⟩ = some (.int .i64 0) := (blk_cell (O2.out.blk (i := 2) rfl) 0).trans rfl
  have f2_2_0 : w2.frozen? ⟨g1, 0, none⟩ = false := blk_frozen (O2.out.blk (i := 2) rfl) 0
  have c2_2_1 : w2.cell? ⟨g1, 1, none⟩ = some (.int .i64 0) := (blk_cell (O2.out.blk (i := 2) rfl) 1).trans rfl
  have f2_2_1 : w2.frozen? ⟨g1, 1, none⟩ = false := blk_frozen (O2.out.blk (i := 2) rfl) 1
  have c2_2_2 : w2.cell? ⟨g1, 2, none⟩ = some (.slice none 0 0) := (blk_cell (O2.out.blk (i := 2) rfl) 2).trans rfl
  have f2_2_2 : w2.frozen? ⟨g1, 2, none⟩ = false := blk_frozen (O2.out.blk (i := 2) rfl) 2
  have n2_0_2 : g ≠ g1 := O2.out.ne (i := 0) (j := 2) rfl rfl (by decide)
  have n2_2_0 : g1 ≠ g := O2.out.ne (i := 2) (j := 0) rfl rfl (by decide)
  clear o_ k_
  refine pure_ (i := 0) (N := some 8) (v := ?_) (a' := ?_) #[true, false, false, false, false, false, false, false, false, false] rfl rfl (by kernel_rfl) (fun _ _ _ h => h) (Or.inl ⟨by rfl, ?_⟩) ?_ ?_
  rotate_left
  · intro w'
    go_simp
    with_reducible rfl
  rotate_left
  · simp only [Act.put, List.setIfInBounds_toArray, List.set_cons_zero, List.set_cons_succ, i64_w, i32_w]
    rfl
  refine pure_ (i := 1) (N := some 9) (v := ?_) (a' := ?_) #[true, true, false, false, false, false, false, false, false, false] rfl rfl (by kernel_rfl) (fun _ _ _ h => h) (Or.inl ⟨by rfl, ?_⟩) ?_ ?_
  rotate_left
  · intro w'
    go_simp
    with_reducible rfl
  rotate_left
  · simp only [Act.put, List.setIfInBounds_toArray, List.set_cons_zero, List.set_cons_succ, i64_w, i32_w]
    rfl
  refine pure_ (i := 2) (N := some 10) (v := ?_) (a' := ?_) #[true, true, true, false, false, false, false, false, false, false] rfl rfl (by kernel_rfl) (fun _ _ _ h => h) (Or.inl ⟨by rfl, ?_⟩) ?_ ?_
  rotate_left
  · intro w'
    go_simp
    with_reducible rfl
  rotate_left
  · simp only [Act.put, List.setIfInBounds_toArray, List.set_cons_zero, List.set_cons_succ, i64_w, i32_w]
    rfl
  refine pure_ (i := 5) (N := some 13) (v := ?_) (a' := ?_) #[true, true, true, false, false, true, false, false, false, false] rfl rfl (by kernel_rfl) (fun _ _ _ h => h) (Or.inl ⟨by rfl, ?_⟩) ?_ ?_
  rotate_left
  · intro w'
    go_simp
    with_reducible rfl
  rotate_left
  · simp only [Act.put, List.setIfInBounds_toArray, List.set_cons_zero, List.set_cons_succ, i64_w, i32_w]
    rfl
  refine pure_ (i := 6) (N := some 14) (v := ?_) (a' := ?_) #[true, true, true, false, false, true, true, false, false, false] rfl rfl (by kernel_rfl) (fun _ _ _ h => h) (Or.inl ⟨by rfl, ?_⟩) ?_ ?_
  rotate_left
  · intro w'
    go_simp
    with_reducible rfl
  rotate_left
  · simp only [Act.put, List.setIfInBounds_toArray, List.set_cons_zero, List.set_cons_succ, i64_w, i32_w]
    rfl
  refine pure_ (i := 7) (N := some 15) (v := ?_) (a' := ?_) #[true, true, true, false, false, true, true, true, false, false] rfl rfl (by kernel_rfl) (fun _ _ _ h => h) (Or.inl ⟨by rfl, ?_⟩) ?_ ?_
  rotate_left
  · intro w'
    go_simp
    with_reducible rfl
  rotate_left
  · simp only [Act.put, List.setIfInBounds_toArray, List.set_cons_zero, List.set_cons_succ, i64_w, i32_w]
    rfl
  refine take_ (i := 3) (N := some 11) (v := ?_) (a' := ?_) #[true, true, true, true, false, true, true, true, false, false] rfl rfl (by kernel_rfl) (fun _ _ _ h => h) (Or.inl ⟨by rfl, ?_⟩) hHeld ?_ ?_
  rotate_left
  · rintro w' ⟨s0, s1, s2⟩
    go_simp
    with_reducible rfl
  rotate_left
  · simp only [Act.put, List.setIfInBounds_toArray, List.set_cons_zero, List.set_cons_succ, i64_w, i32_w]
    rfl
  refine pure_ (i := 4) (N := some 12) (v := ?_) (a' := ?_) #[true, true, true, true, true, true, true, true, false, false] rfl rfl (by kernel_rfl) (fun _ _ _ h => h) (Or.inl ⟨by rfl, ?_⟩) ?_ ?_
  rotate_left
  · intro w'
    go_simp
    with_reducible rfl
  rotate_left
  · simp only [Act.put, List.setIfInBounds_toArray, List.set_cons_zero, List.set_cons_succ, i64_w, i32_w]
    rfl
  refine take_ (i := 8) (N := some 16) (v := ?_) (a' := ?_) #[true, true, true, true, true, true, true, true, true, false] rfl rfl (by kernel_rfl) (fun _ _ _ h => h) (Or.inl ⟨by rfl, ?_⟩) hHeld ?_ ?_
  rotate_left
  · rintro w' ⟨s0, s1, s2⟩
    go_simp
    with_reducible rfl
  rotate_left
  · simp only [Act.put, List.setIfInBounds_toArray, List.set_cons_zero, List.set_cons_succ, i64_w, i32_w]
    rfl
  refine pure_ (i := 9) (N := some 17) (v := ?_) (a' := ?_) #[true, true, true, true, true, true, true, true, true, true] rfl rfl (by kernel_rfl) (fun _ _ _ h => h) (Or.inl ⟨by rfl, ?_⟩) ?_ ?_
  rotate_left
  · intro w'
    go_simp
    with_reducible rfl
  rotate_left
  · simp only [Act.put, List.setIfInBounds_toArray, List.set_cons_zero, List.set_cons_succ, i64_w, i32_w]
    rfl
  refine done_ (by kernel_rfl) ?_
  clear hHeld
  go_wp2
  refine start_ (n := 16) (S := fun w' => w'.cell? ⟨g, 0, none⟩ = some (.int .i64 o) ∧ w'.cell? ⟨g, 1, none⟩ = some (.int .i64 m) ∧ w'.cell? ⟨g, 2, none⟩ = some (.slice A0 L.length c0)) (ds := []) #[false, false, false, false, false, false, false, false, false, false, false, false, false, false, false, false] (by kernel_rfl) rfl rfl ⟨((blk_cell (O2.out.blk (i := 0) rfl) 0).trans rfl), ((blk_cell (O2.out.blk (i := 0) rfl) 1).trans rfl), ((blk_cell (O2.out.blk (i := 0) rfl) 2).trans rfl)⟩ (fun hHeld => ?_)
  obtain ⟨w3, hw_⟩ : ∃ W, W = w2.drew := ⟨_, rfl⟩
  have o_ := O2.out.drew
  have k_ : KeepS N w2 w2.drew := KeepS.drew
  rw [← hw_] at o_ k_ hHeld ⊢
  clear hw_
  have O3 : Aside0 (Own N w3 [cells g #[.int .i64 o, .int .i64 m, .slice A0 L.length c0] 42, nrow k32 32 (.slice A0 L.length c0) L, cells g1 #[.int .i64 0, .int .i64 0, .slice none 0 0] 32]) := ⟨o_⟩
  have K3 : Aside0 (KeepS N w w3) := ⟨K2.out.trans k_⟩
  have HR_3 : Aside0 (Kd.F k50 w3 N B ups.length ups) := ⟨keepF HR_2.out k_⟩
  clear c2_0_0 f2_0_0 c2_0_1 f2_0_1 c2_0_2 f2_0_2 c2_2_0 f2_2_0 c2_2_1 f2_2_1 c2_2_2 f2_2_2 n2_0_2 n2_2_0 O2 K2 HR_2
  have c3_0_0 : w3.cell? ⟨g, 0, none⟩ = some (.int .i64 o) := (blk_cell (O3.out.blk (i := 0) rfl) 0).trans rfl
  have f3_0_0 : w3.frozen? ⟨g, 0, none⟩ = false := blk_frozen (O3.out.blk (i := 0) rfl) 0
  have c3_0_1 : w3.cell? ⟨g, 1, none⟩ = some (.int .i64 m) := (blk_cell (O3.out.blk (i := 0) rfl) 1).trans rfl
  have f3_0_1 : w3.frozen? ⟨g, 1, none⟩ = false := blk_frozen (O3.out.blk (i := 0) rfl) 1
  have c3_0_2 : w3.cell? ⟨g, 2, none⟩ = some (.slice A0 L.length c0) := (blk_cell (O3.out.blk (i := 0) rfl) 2).trans rfl
  have f3_0_2 : w3.frozen? ⟨g, 2, none⟩ = false := blk_frozen (O3.out.blk (i := 0) rfl) 2
  have c3_2_0 : w3.cell? ⟨g1, 0, none⟩ = some (.int .i64 0) := (blk_cell (O3.out.blk (i := 2) rfl) 0).trans rfl
  have f3_2_0 : w3.frozen? ⟨g1, 0, none⟩ = false := blk_frozen (O3.out.blk (i := 2) rfl) 0
  have c3_2_1 : w3.cell? ⟨g1, 1, none⟩ = some (.int .i64 0) := (blk_cell (O3.out.blk (i := 2) rfl) 1).trans rfl
  have f3_2_1 : w3.frozen? ⟨g1, 1, none⟩ = false := blk_frozen (O3.out.blk (i := 2) rfl) 1
  have c3_2_2 : w3.cell? ⟨g1, 2, none⟩ = some (.slice none 0 0) := (blk_cell (O3.out.blk (i := 2) rfl) 2).trans rfl
  have f3_2_2 : w3.frozen? ⟨g1, 2, none⟩ = false := blk_frozen (O3.out.blk (i := 2) rfl) 2
  have n3_0_2 : g ≠ g1 := O3.out.ne (i := 0) (j := 2) rfl rfl (by decide)
  have n3_2_0 : g1 ≠ g := O3.out.ne (i := 2) (j := 0) rfl rfl (by decide)
  clear o_ k_
  refine pure_ (i := 0) (N := some 19) (v := ?_) (a' := ?_) #[true, false, false, false, false, false, false, false, false, false, false, false, false, false, false, false] rfl rfl (by kernel_rfl) (fun _ _ _ h => h) (Or.inl ⟨by rfl, ?_⟩) ?_ ?_
  rotate_left
  · intro w'
    go_simp
    with_reducible rfl
  rotate_left
  · simp only [Act.put, List.setIfInBounds_toArray, List.set_cons_zero, List.set_cons_succ, i64_w, i32_w]
    rfl
  refine pure_ (i := 1) (N := some 20) (v := ?_) (a' := ?_) #[true, true, false, false, false, false, false, false, false, false, false, false, false, false, false, false] rfl rfl (by kernel_rfl) (fun _ _ _ h => h) (Or.inl ⟨by rfl, ?_⟩) ?_ ?_
  rotate_left
  · intro w'
    go_simp
    with_reducible rfl
  rotate_left
  · simp only [Act.put, List.setIfInBounds_toArray, List.set_cons_zero, List.set_cons_succ, i64_w, i32_w]
    rfl
  refine pure_ (i := 2) (N := some 21) (v := ?_) (a' := ?_) #[true, true, true, false, false, false, false, false, false, false, false, false, false, false, false, false] rfl rfl (by kernel_rfl) (fun _ _ _ h => h) (Or.inl ⟨by rfl, ?_⟩) ?_ ?_
  rotate_left
  · intro w'
    go_simp
    with_reducible rfl
  rotate_left
  · simp only [Act.put, List.setIfInBounds_toArray, List.set_cons_zero, List.set_cons_succ, i64_w, i32_w]
    rfl
  refine pure_ (i := 4) (N := some 23) (v := ?_) (a' := ?_) #[true, true, true, false, true, false, false, false, false, false, false, false, false, false, false, false] rfl rfl (by kernel_rfl) (fun _ _ _ h => h) (Or.inl ⟨by rfl, ?_⟩) ?_ ?_
  rotate_left
  · intro w'
    go_simp
    with_reducible rfl
  rotate_left
  · simp only [Act.put, List.setIfInBounds_toArray, List.set_cons_zero, List.set_cons_succ, i64_w, i32_w]
    rfl
  refine pure_ (i := 5) (N := some 24) (v := ?_) (a' := ?_) #[true, true, true, false, true, true, false, false, false, false, false, false, false, false, false, false] rfl rfl (by kernel_rfl) (fun _ _ _ h => h) (Or.inl ⟨by rfl, ?_⟩) ?_ ?_
  rotate_left
  · intro w'
    go_simp
    with_reducible rfl
  rotate_left
  · simp only [Act.put, List.setIfInBounds_toArray, List.set_cons_zero, List.set_cons_succ, i64_w, i32_w]
    rfl
  refine pure_ (i := 6) (N := some 25) (v := ?_) (a' := ?_) #[true, true, true, false, true, true, true, false, false, false, false, false, false, false, false, false] rfl rfl (by kernel_rfl) (fun _ _ _ h => h) (Or.inl ⟨by rfl, ?_⟩) ?_ ?_
  rotate_left
  · intro w'
    go_simp
    with_reducible rfl
  rotate_left
  · simp only [Act.put, List.setIfInBounds_toArray, List.set_cons_zero, List.set_cons_succ, i64_w, i32_w]
    rfl
  refine pure_ (i := 11) (N := some 30) (v := ?_) (a' := ?_) #[true, true, true, false, true, true, true, false, false, false, false, true, false, false, false, false] rfl rfl (by kernel_rfl) (fun _ _ _ h => h) (Or.inl ⟨by rfl, ?_⟩) ?_ ?_
  rotate_left
  · intro w'
    go_simp
    with_reducible rfl
  rotate_left
  · simp only [Act.put, List.setIfInBounds_toArray, List.set_cons_zero, List.set_cons_succ, i64_w, i32_w]
    rfl
  refine take_ (i := 3) (N := some 22) (v := ?_) (a' := ?_) #[true, true, true, true, true, true, true, false, false, false, false, true, false, false, false, false] rfl rfl (by kernel_rfl) (fun _ _ _ h => h) (Or.inl ⟨by rfl, ?_⟩) hHeld ?_ ?_
  rotate_left
  · rintro w' ⟨s0, s1, s2⟩
    go_simp
    with_reducible rfl
  rotate_left
  · simp only [Act.put, List.setIfInBounds_toArray, List.set_cons_zero, List.set_cons_succ, i64_w, i32_w]
    rfl
  refine take_ (i := 7) (N := some 26) (v := ?_) (a' := ?_) #[true, true, true, true, true, true, true, true, false, false, false, true, false, false, false, false] rfl rfl (by kernel_rfl) (fun _ _ _ h => h) (Or.inl ⟨by rfl, ?_⟩) hHeld ?_ ?_
  rotate_left
  · rintro w' ⟨s0, s1, s2⟩
    go_simp
    with_reducible rfl
  rotate_left
  · simp only [Act.put, List.setIfInBounds_toArray, List.set_cons_zero, List.set_cons_succ, i64_w, i32_w]
    rfl
  refine pure_ (i := 8) (N := some 27) (v := ?_) (a' := ?_) #[true, true, true, true, true, true, true, true, true, false, false, true, false, false, false, false] rfl rfl (by kernel_rfl) (fun _ _ _ h => h) (Or.inl ⟨by rfl, ?_⟩) ?_ ?_
  rotate_left
  · intro w'
    go_simp
    with_reducible rfl
  rotate_left
  · simp only [Act.put, List.setIfInBounds_toArray, List.set_cons_zero, List.set_cons_succ, i64_w, i32_w]
    rfl
  refine pure_ (i := 9) (N := some 28) (v := ?_) (a' := ?_) #[true, true, true, true, true, true, true, true, true, true, false, true, false, false, false, false] rfl rfl (by kernel_rfl) (fun _ _ _ h => h) (Or.inl ⟨by rfl, ?_⟩) ?_ ?_
  rotate_left
  · intro w'
    go_simp
    with_reducible rfl
  rotate_left
  · simp only [Act.put, List.setIfInBounds_toArray, List.set_cons_zero, List.set_cons_succ, i64_w, i32_w]
    rfl
  refine join_ (σ := Option Addr × Nat × Option Addr × Nat × Nat) 1 #[true, true, true, true, true, true, true, true, true, true, true, true, true, true, true, false] (fun ⟨B1, d1, B2, d2, gx⟩ => [(29, .slice B1 0 d1), (31, .slice B2 ups.length d2), (32, .agg #[.int .i64 o, .int .i64 ((L.length : Int) + 1), .slice B2 ups.length d2]), (6, .pointer (some ⟨gx, 0, none⟩))]) (fun ⟨B1, d1, B2, d2, gx⟩ w' => Own N w' [cells g #[.int .i64 o, .int .i64 m, .slice A0 L.length c0] 42, nrow k32 32 (.slice A0 L.length c0) L, cells g1 #[.int .i64 0, .int .i64 0, .slice none 0 0] 32, nrow k50 50 (.slice B2 ups.length d2) ups, cells gx #[.int .i64 0, .int .i64 0, .slice none 0 0] 32] ∧ KeepS N w3 w') ?hcont ?hways
  case hways =>
    intro hc_
    have K4 : Aside0 (KeepS N w3 w3) := ⟨KeepS.refl _ _⟩
    have O4 : Aside0 (Own N w3 [cells g #[.int .i64 o, .int .i64 m, .slice A0 L.length c0] 42, nrow k32 32 (.slice A0 L.length c0) L, cells g1 #[.int .i64 0, .int .i64 0, .slice none 0 0] 32]) := O3
    refine two_ (i := 10) (j := 14) (Ni := some 29) (Nj := some 6) #[true, true, true, true, true, true, true, true, true, true, true, true, false, false, false, false] #[true, true, true, true, true, true, true, true, true, true, false, true, false, false, true, false] rfl rfl rfl rfl (by kernel_rfl) (by decide) (by decide) (fun K_ hK_ => ?_) (fun K_ hK_ => ?_)
    · skip
      refine own_lit_step k50 (N := N) (e := 50) (xs := []) (inner := []) rfl rfl ?hr (Reps.none _ _) (by simp) O4.out ?_
      (case hr => first | (go_simp; done) | (go_simp; rfl))
      intro B1 d1 w5 o_ k_
      have O5 : Aside0 (Own N w5 [cells g #[.int .i64 o, .int .i64 m, .slice A0 L.length c0] 42, nrow k32 32 (.slice A0 L.length c0) L, cells g1 #[.int .i64 0, .int .i64 0, .slice none 0 0] 32, nrow k50 50 (.slice B1 0 d1) []]) := ⟨o_⟩
      have K5 : Aside0 (KeepS N w3 w5) := ⟨K4.out.trans k_⟩
      have HR_5 : Aside0 (Kd.F k50 w5 N B ups.length ups) := ⟨keepF HR_3.out k_⟩
      clear c3_0_0 f3_0_0 c3_0_1 f3_0_1 c3_0_2 f3_0_2 c3_2_0 f3_2_0 c3_2_1 f3_2_1 c3_2_2 f3_2_2 n3_0_2 n3_2_0 O4 K4 HR_3
      have c5_0_0 : w5.cell? ⟨g, 0, none⟩ = some (.int .i64 o) := (blk_cell (O5.out.blk (i := 0) rfl) 0).trans rfl
      have f5_0_0 : w5.frozen? ⟨g, 0, none⟩ = false := blk_frozen (O5.out.blk (i := 0) rfl) 0
      have c5_0_1 : w5.cell? ⟨g, 1, none⟩ = some (.int .i64 m) := (blk_cell (O5.out.blk (i := 0) rfl) 1).trans rfl
      have f5_0_1 : w5.frozen? ⟨g, 1, none⟩ = false := blk_frozen (O5.out.blk (i := 0) rfl) 1
      have c5_0_2 : w5.cell? ⟨g, 2, none⟩ = some (.slice A0 L.length c0) := (blk_cell (O5.out.blk (i := 0) rfl) 2).trans rfl
      have f5_0_2 : w5.frozen? ⟨g, 2, none⟩ = false := blk_frozen (O5.out.blk (i := 0) rfl) 2
      have c5_2_0 : w5.cell? ⟨g1, 0, none⟩ = some (.int .i64 0) := (blk_cell (O5.out.blk (i := 2) rfl) 0).trans rfl
      have f5_2_0 : w5.frozen? ⟨g1, 0, none⟩ = false := blk_frozen (O5.out.blk (i := 2) rfl) 0
      have c5_2_1 : w5.cell? ⟨g1, 1, none⟩ = some (.int .i64 0) := (blk_cell (O5.out.blk (i := 2) rfl) 1).trans rfl
      have f5_2_1 : w5.frozen? ⟨g1, 1, none⟩ = false := blk_frozen (O5.out.blk (i := 2) rfl) 1
      have c5_2_2 : w5.cell? ⟨g1, 2, none⟩ = some (.slice none 0 0) := (blk_cell (O5.out.blk (i := 2) rfl) 2).trans rfl
      have f5_2_2 : w5.frozen? ⟨g1, 2, none⟩ = false := blk_frozen (O5.out.blk (i := 2) rfl) 2
      have n5_0_2 : g ≠ g1 := O5.out.ne (i := 0) (j := 2) rfl rfl (by decide)
      have n5_2_0 : g1 ≠ g := O5.out.ne (i := 2) (j := 0) rfl rfl (by decide)
      clear o_ k_
      clear hHeld
      refine hK_.out _ _ ⟨((blk_cell (O5.out.blk (i := 0) rfl) 0).trans rfl), ((blk_cell (O5.out.blk (i := 0) rfl) 1).trans rfl), ((blk_cell (O5.out.blk (i := 0) rfl) 2).trans rfl)⟩ (fun hHeld => ?_)
      clear hK_ K_
      refine norm_ (a' := ?_) ?_ ?_
      rotate_left
      · simp only [Act.put, List.setIfInBounds_toArray, List.set_cons_zero, List.set_cons_succ, i64_w, i32_w]
        rfl
      refine two_ (i := 12) (j := 14) (Ni := some 31) (Nj := some 6) #[true, true, true, true, true, true, true, true, true, true, true, true, true, false, false, false] #[true, true, true, true, true, true, true, true, true, true, true, true, false, false, true, false] rfl rfl rfl rfl (by kernel_rfl) (by decide) (by decide) (fun K_ hK_ => ?_) (fun K_ hK_ => ?_)
      · skip
        refine Own.append_flat_step k50 flatU O5.out (i := 3) (ys := ups) rfl (Kd.F_now HR_5.out) rfl rfl (.tmp 29) (.tmp 30) 30 (.agg #[.string ⟨#[]⟩, .int .i64 0, .int .i64 0, .string ⟨#[]⟩]) 48 rfl Try.underlying30 info50 rfl (by decide) (by decide) rfl rfl (by have := HU.out; simp only [List.length_nil]; omega) ?_
        intro B2 d2 w6 o_ k_
        have O6 : Aside0 (Own N w6 [cells g #[.int .i64 o, .int .i64 m, .slice A0 L.length c0] 42, nrow k32 32 (.slice A0 L.length c0) L, cells g1 #[.int .i64 0, .int .i64 0, .slice none 0 0] 32, nrow k50 50 (.slice B2 ups.length d2) ups]) := ⟨o_⟩
        have K6 : Aside0 (KeepS N w3 w6) := ⟨K5.out.trans k_⟩
        have HR_6 : Aside0 (Kd.F k50 w6 N B ups.length ups) := ⟨keepF HR_5.out k_⟩
        clear c5_0_0 f5_0_0 c5_0_1 f5_0_1 c5_0_2 f5_0_2 c5_2_0 f5_2_0 c5_2_1 f5_2_1 c5_2_2 f5_2_2 n5_0_2 n5_2_0 O5 K5 HR_5
        have c6_0_0 : w6.cell? ⟨g, 0, none⟩ = some (.int .i64 o) := (blk_cell (O6.out.blk (i := 0) rfl) 0).trans rfl
        have f6_0_0 : w6.frozen? ⟨g, 0, none⟩ = false := blk_frozen (O6.out.blk (i := 0) rfl) 0
        have c6_0_1 : w6.cell? ⟨g, 1, none⟩ = some (.int .i64 m) := (blk_cell (O6.out.blk (i := 0) rfl) 1).trans rfl
        have f6_0_1 : w6.frozen? ⟨g, 1, none⟩ = false := blk_frozen (O6.out.blk (i := 0) rfl) 1
        have c6_0_2 : w6.cell? ⟨g, 2, none⟩ = some (.slice A0 L.length c0) := (blk_cell (O6.out.blk (i := 0) rfl) 2).trans rfl
        have f6_0_2 : w6.frozen? ⟨g, 2, none⟩ = false := blk_frozen (O6.out.blk (i := 0) rfl) 2
        have c6_2_0 : w6.cell? ⟨g1, 0, none⟩ = some (.int .i64 0) := (blk_cell (O6.out.blk (i := 2) rfl) 0).trans rfl
        have f6_2_0 : w6.frozen? ⟨g1, 0, none⟩ = false := blk_frozen (O6.out.blk (i := 2) rfl) 0
        have c6_2_1 : w6.cell? ⟨g1, 1, none⟩ = some (.int .i64 0) := (blk_cell (O6.out.blk (i := 2) rfl) 1).trans rfl
        have f6_2_1 : w6.frozen? ⟨g1, 1, none⟩ = false := blk_frozen (O6.out.blk (i := 2) rfl) 1
        have c6_2_2 : w6.cell? ⟨g1, 2, none⟩ = some (.slice none 0 0) := (blk_cell (O6.out.blk (i := 2) rfl) 2).trans rfl
        have f6_2_2 : w6.frozen? ⟨g1, 2, none⟩ = false := blk_frozen (O6.out.blk (i := 2) rfl) 2
        have n6_0_2 : g ≠ g1 := O6.out.ne (i := 0) (j := 2) rfl rfl (by decide)
        have n6_2_0 : g1 ≠ g := O6.out.ne (i := 2) (j := 0) rfl rfl (by decide)
        clear o_ k_
        clear hHeld
        refine hK_.out _ _ ⟨((blk_cell (O6.out.blk (i := 0) rfl) 0).trans rfl), ((blk_cell (O6.out.blk (i := 0) rfl) 1).trans rfl), ((blk_cell (O6.out.blk (i := 0) rfl) 2).trans rfl)⟩ (fun hHeld => ?_)
        clear hK_ K_
        refine norm_ (a' := ?_) ?_ ?_
        rotate_left
        · simp only [Act.put, List.setIfInBounds_toArray, List.set_cons_zero, List.set_cons_succ, i64_w, i32_w]
          rfl
        refine pure_ (i := 13) (N := some 32) (v := ?_) (a' := ?_) #[true, true, true, true, true, true, true, true, true, true, true, true, true, true, false, false] rfl rfl (by kernel_rfl) (fun _ _ _ h => h) (Or.inl ⟨by rfl, ?_⟩) ?_ ?_
        rotate_left
        · intro w'
          go_simp
          with_reducible rfl
        rotate_left
        · simp only [Act.put, List.setIfInBounds_toArray, List.set_cons_zero, List.set_cons_succ, i64_w, i32_w]
          rfl
        refine one_ (i := 14) (N := some 6) #[true, true, true, true, true, true, true, true, true, true, true, true, true, true, true, false] rfl rfl (by kernel_rfl) (by decide) (fun K_ hK_ => ?_)
        refine own_box_step rfl rfl (cs := #[.int .i64 0, .int .i64 0, .slice none 0 0]) (t := 32) ?hr O6.out ?_
        (case hr => first | (go_simp; done) | (go_simp; rfl))
        intro gx w7 o_ k_
        have O7 : Aside0 (Own N w7 [cells g #[.int .i64 o, .int .i64 m, .slice A0 L.length c0] 42, nrow k32 32 (.slice A0 L.length c0) L, cells g1 #[.int .i64 0, .int .i64 0, .slice none 0 0] 32, nrow k50 50 (.slice B2 ups.length d2) ups, cells gx #[.int .i64 0, .int .i64 0, .slice none 0 0] 32]) := ⟨o_⟩
        have K7 : Aside0 (KeepS N w3 w7) := ⟨K6.out.trans k_⟩
        have HR_7 : Aside0 (Kd.F k50 w7 N B ups.length ups) := ⟨keepF HR_6.out k_⟩
        clear c6_0_0 f6_0_0 c6_0_1 f6_0_1 c6_0_2 f6_0_2 c6_2_0 f6_2_0 c6_2_1 f6_2_1 c6_2_2 f6_2_2 n6_0_2 n6_2_0 O6 K6 HR_6
        have c7_0_0 : w7.cell? ⟨g, 0, none⟩ = some (.int .i64 o) := (blk_cell (O7.out.blk (i := 0) rfl) 0).trans rfl
        have f7_0_0 : w7.frozen? ⟨g, 0, none⟩ = false := blk_frozen (O7.out.blk (i := 0) rfl) 0
        have c7_0_1 : w7.cell? ⟨g, 1, none⟩ = some (.int .i64 m) := (blk_cell (O7.out.blk (i := 0) rfl) 1).trans rfl
        have f7_0_1 : w7.frozen? ⟨g, 1, none⟩ = false := blk_frozen (O7.out.blk (i := 0) rfl) 1
        have c7_0_2 : w7.cell? ⟨g, 2, none⟩ = some (.slice A0 L.length c0) := (blk_cell (O7.out.blk (i := 0) rfl) 2).trans rfl
        have f7_0_2 : w7.frozen? ⟨g, 2, none⟩ = false := blk_frozen (O7.out.blk (i := 0) rfl) 2
        have c7_2_0 : w7.cell? ⟨g1, 0, none⟩ = some (.int .i64 0) := (blk_cell (O7.out.blk (i := 2) rfl) 0).trans rfl
        have f7_2_0 : w7.frozen? ⟨g1, 0, none⟩ = false := blk_frozen (O7.out.blk (i := 2) rfl) 0
        have c7_2_1 : w7.cell? ⟨g1, 1, none⟩ = some (.int .i64 0) := (blk_cell (O7.out.blk (i := 2) rfl) 1).trans rfl
        have f7_2_1 : w7.frozen? ⟨g1, 1, none⟩ = false := blk_frozen (O7.out.blk (i := 2) rfl) 1
        have c7_2_2 : w7.cell? ⟨g1, 2, none⟩ = some (.slice none 0 0) := (blk_cell (O7.out.blk (i := 2) rfl) 2).trans rfl
        have f7_2_2 : w7.frozen? ⟨g1, 2, none⟩ = false := blk_frozen (O7.out.blk (i := 2) rfl) 2
        have c7_4_0 : w7.cell? ⟨gx, 0, none⟩ = some (.int .i64 0) := (blk_cell (O7.out.blk (i := 4) rfl) 0).trans rfl
        have f7_4_0 : w7.frozen? ⟨gx, 0, none⟩ = false := blk_frozen (O7.out.blk (i := 4) rfl) 0
        have c7_4_1 : w7.cell? ⟨gx, 1, none⟩ = some (.int .i64 0) := (blk_cell (O7.out.blk (i := 4) rfl) 1).trans rfl
        have f7_4_1 : w7.frozen? ⟨gx, 1, none⟩ = false := blk_frozen (O7.out.blk (i := 4) rfl) 1
        have c7_4_2 : w7.cell? ⟨gx, 2, none⟩ = some (.slice none 0 0) := (blk_cell (O7.out.blk (i := 4) rfl) 2).trans rfl
        have f7_4_2 : w7.frozen? ⟨gx, 2, none⟩ = false := blk_frozen (O7.out.blk (i := 4) rfl) 2
        have n7_0_2 : g ≠ g1 := O7.out.ne (i := 0) (j := 2) rfl rfl (by decide)
        have n7_0_4 : g ≠ gx := O7.out.ne (i := 0) (j := 4) rfl rfl (by decide)
        have n7_2_0 : g1 ≠ g := O7.out.ne (i := 2) (j := 0) rfl rfl (by decide)
        have n7_2_4 : g1 ≠ gx := O7.out.ne (i := 2) (j := 4) rfl rfl (by decide)
        have n7_4_0 : gx ≠ g := O7.out.ne (i := 4) (j := 0) rfl rfl (by decide)
        have n7_4_2 : gx ≠ g1 := O7.out.ne (i := 4) (j := 2) rfl rfl (by decide)
        clear o_ k_
        clear hHeld
        refine hK_.out _ _ ⟨((blk_cell (O7.out.blk (i := 0) rfl) 0).trans rfl), ((blk_cell (O7.out.blk (i := 0) rfl) 1).trans rfl), ((blk_cell (O7.out.blk (i := 0) rfl) 2).trans rfl)⟩ (fun hHeld => ?_)
        clear hK_ K_
        refine norm_ (a' := ?_) ?_ ?_
        rotate_left
        · simp only [Act.put, List.setIfInBounds_toArray, List.set_cons_zero, List.set_cons_succ, i64_w, i32_w]
          rfl
        refine norm_ (a' := _) ?_ (hc_ ⟨B1, d1, B2, d2, gx⟩ _ ⟨?_, K7.out⟩)
        · simp only [putAll, Act.put, List.setIfInBounds_toArray, List.set_cons_zero, List.set_cons_succ]
          try rfl
        · exact O7.out.pickL [0, 1, 2, 3, 4] (by decide) (by simp)
      · skip
        refine own_box_step rfl rfl (cs := #[.int .i64 0, .int .i64 0, .slice none 0 0]) (t := 32) ?hr O5.out ?_
        (case hr => first | (go_simp; done) | (go_simp; rfl))
        intro gx w6 o_ k_
        have O6 : Aside0 (Own N w6 [cells g #[.int .i64 o, .int .i64 m, .slice A0 L.length c0] 42, nrow k32 32 (.slice A0 L.length c0) L, cells g1 #[.int .i64 0, .int .i64 0, .slice none 0 0] 32, nrow k50 50 (.slice B1 0 d1) [], cells gx #[.int .i64 0, .int .i64 0, .slice none 0 0] 32]) := ⟨o_⟩
        have K6 : Aside0 (KeepS N w3 w6) := ⟨K5.out.trans k_⟩
        have HR_6 : Aside0 (Kd.F k50 w6 N B ups.length ups) := ⟨keepF HR_5.out k_⟩
        clear c5_0_0 f5_0_0 c5_0_1 f5_0_1 c5_0_2 f5_0_2 c5_2_0 f5_2_0 c5_2_1 f5_2_1 c5_2_2 f5_2_2 n5_0_2 n5_2_0 O5 K5 HR_5
        have c6_0_0 : w6.cell? ⟨g, 0, none⟩ = some (.int .i64 o) := (blk_cell (O6.out.blk (i := 0) rfl) 0).trans rfl
        have f6_0_0 : w6.frozen? ⟨g, 0, none⟩ = false := blk_frozen (O6.out.blk (i := 0) rfl) 0
        have c6_0_1 : w6.cell? ⟨g, 1, none⟩ = some (.int .i64 m) := (blk_cell (O6.out.blk (i := 0) rfl) 1).trans rfl
        have f6_0_1 : w6.frozen? ⟨g, 1, none⟩ = false := blk_frozen (O6.out.blk (i := 0) rfl) 1
        have c6_0_2 : w6.cell? ⟨g, 2, none⟩ = some (.slice A0 L.length c0) := (blk_cell (O6.out.blk (i := 0) rfl) 2).trans rfl
        have f6_0_2 : w6.frozen? ⟨g, 2, none⟩ = false := blk_frozen (O6.out.blk (i := 0) rfl) 2
        have c6_2_0 : w6.cell? ⟨g1, 0, none⟩ = some (.int .i64 0) := (blk_cell (O6.out.blk (i := 2) rfl) 0).trans rfl
        have f6_2_0 : w6.frozen? ⟨g1, 0, none⟩ = false := blk_frozen (O6.out.blk (i := 2) rfl) 0
        have c6_2_1 : w6.cell? ⟨g1, 1, none⟩ = some (.int .i64 0) := (blk_cell (O6.out.blk (i := 2) rfl) 1).trans rfl
        have f6_2_1 : w6.frozen? ⟨g1, 1, none⟩ = false := blk_frozen (O6.out.blk (i := 2) rfl) 1
        have c6_2_2 : w6.cell? ⟨g1, 2, none⟩ = some (.slice none 0 0) := (blk_cell (O6.out.blk (i := 2) rfl) 2).trans rfl
        have f6_2_2 : w6.frozen? ⟨g1, 2, none⟩ = false := blk_frozen (O6.out.blk (i := 2) rfl) 2
        have c6_4_0 : w6.cell? ⟨gx, 0, none⟩ = some (.int .i64 0) := (blk_cell (O6.out.blk (i := 4) rfl) 0).trans rfl
        have f6_4_0 : w6.frozen? ⟨gx, 0, none⟩ = false := blk_frozen (O6.out.blk (i := 4) rfl) 0
        have c6_4_1 : w6.cell? ⟨gx, 1, none⟩ = some (.int .i64 0) := (blk_cell (O6.out.blk (i := 4) rfl) 1).trans rfl
        have f6_4_1 : w6.frozen? ⟨gx, 1, none⟩ = false := blk_frozen (O6.out.blk (i := 4) rfl) 1
        have c6_4_2 : w6.cell? ⟨gx, 2, none⟩ = some (.slice none 0 0) := (blk_cell (O6.out.blk (i := 4) rfl) 2).trans rfl
        have f6_4_2 : w6.frozen? ⟨gx, 2, none⟩ = false := blk_frozen (O6.out.blk (i := 4) rfl) 2
        have n6_0_2 : g ≠ g1 := O6.out.ne (i := 0) (j := 2) rfl rfl (by decide)
        have n6_0_4 : g ≠ gx := O6.out.ne (i := 0) (j := 4) rfl rfl (by decide)
        have n6_2_0 : g1 ≠ g := O6.out.ne (i := 2) (j := 0) rfl rfl (by decide)
        have n6_2_4 : g1 ≠ gx := O6.out.ne (i := 2) (j := 4) rfl rfl (by decide)
        have n6_4_0 : gx ≠ g := O6.out.ne (i := 4) (j := 0) rfl rfl (by decide)
        have n6_4_2 : gx ≠ g1 := O6.out.ne (i := 4) (j := 2) rfl rfl (by decide)
        clear o_ k_
        clear hHeld
        refine hK_.out _ _ ⟨((blk_cell (O6.out.blk (i := 0) rfl) 0).trans rfl), ((blk_cell (O6.out.blk (i := 0) rfl) 1).trans rfl), ((blk_cell (O6.out.blk (i := 0) rfl) 2).trans rfl)⟩ (fun hHeld => ?_)
        clear hK_ K_
        refine norm_ (a' := ?_) ?_ ?_
        rotate_left
        · simp only [Act.put, List.setIfInBounds_toArray, List.set_cons_zero, List.set_cons_succ, i64_w, i32_w]
          rfl
        refine one_ (i := 12) (N := some 31) #[true, true, true, true, true, true, true, true, true, true, true, true, true, false, true, false] rfl rfl (by kernel_rfl) (by decide) (fun K_ hK_ => ?_)
        refine Own.append_flat_step k50 flatU O6.out (i := 3) (ys := ups) rfl (Kd.F_now HR_6.out) rfl rfl (.tmp 29) (.tmp 30) 30 (.agg #[.string ⟨#[]⟩, .int .i64 0, .int .i64 0, .string ⟨#[]⟩]) 48 rfl Try.underlying30 info50 rfl (by decide) (by decide) rfl rfl (by have := HU.out; simp only [List.length_nil]; omega) ?_
        intro B2 d2 w7 o_ k_
        have O7 : Aside0 (Own N w7 [cells g #[.int .i64 o, .int .i64 m, .slice A0 L.length c0] 42, nrow k32 32 (.slice A0 L.length c0) L, cells g1 #[.int .i64 0, .int .i64 0, .slice none 0 0] 32, nrow k50 50 (.slice B2 ups.length d2) ups, cells gx #[.int .i64 0, .int .i64 0, .slice none 0 0] 32]) := ⟨o_⟩
        have K7 : Aside0 (KeepS N w3 w7) := ⟨K6.out.trans k_⟩
        have HR_7 : Aside0 (Kd.F k50 w7 N B ups.length ups) := ⟨keepF HR_6.out k_⟩
        clear c6_0_0 f6_0_0 c6_0_1 f6_0_1 c6_0_2 f6_0_2 c6_2_0 f6_2_0 c6_2_1 f6_2_1 c6_2_2 f6_2_2 c6_4_0 f6_4_0 c6_4_1 f6_4_1 c6_4_2 f6_4_2 n6_0_2 n6_0_4 n6_2_0 n6_2_4 n6_4_0 n6_4_2 O6 K6 HR_6
        have c7_0_0 : w7.cell? ⟨g, 0, none⟩ = some (.int .i64 o) := (blk_cell (O7.out.blk (i := 0) rfl) 0).trans rfl
        have f7_0_0 : w7.frozen? ⟨g, 0, none⟩ = false := blk_frozen (O7.out.blk (i := 0) rfl) 0
        have c7_0_1 : w7.cell? ⟨g, 1, none⟩ = some (.int .i64 m) := (blk_cell (O7.out.blk (i := 0) rfl) 1).trans rfl
        have f7_0_1 : w7.frozen? ⟨g, 1, none⟩ = false := blk_frozen (O7.out.blk (i := 0) rfl) 1
        have c7_0_2 : w7.cell? ⟨g, 2, none⟩ = some (.slice A0 L.length c0) := (blk_cell (O7.out.blk (i := 0) rfl) 2).trans rfl
        have f7_0_2 : w7.frozen? ⟨g, 2, none⟩ = false := blk_frozen (O7.out.blk (i := 0) rfl) 2
        have c7_2_0 : w7.cell? ⟨g1, 0, none⟩ = some (.int .i64 0) := (blk_cell (O7.out.blk (i := 2) rfl) 0).trans rfl
        have f7_2_0 : w7.frozen? ⟨g1, 0, none⟩ = false := blk_frozen (O7.out.blk (i := 2) rfl) 0
        have c7_2_1 : w7.cell? ⟨g1, 1, none⟩ = some (.int .i64 0) := (blk_cell (O7.out.blk (i := 2) rfl) 1).trans rfl
        have f7_2_1 : w7.frozen? ⟨g1, 1, none⟩ = false := blk_frozen (O7.out.blk (i := 2) rfl) 1
        have c7_2_2 : w7.cell? ⟨g1, 2, none⟩ = some (.slice none 0 0) := (blk_cell (O7.out.blk (i := 2) rfl) 2).trans rfl
        have f7_2_2 : w7.frozen? ⟨g1, 2, none⟩ = false := blk_frozen (O7.out.blk (i := 2) rfl) 2
        have c7_4_0 : w7.cell? ⟨gx, 0, none⟩ = some (.int .i64 0) := (blk_cell (O7.out.blk (i := 4) rfl) 0).trans rfl
        have f7_4_0 : w7.frozen? ⟨gx, 0, none⟩ = false := blk_frozen (O7.out.blk (i := 4) rfl) 0
        have c7_4_1 : w7.cell? ⟨gx, 1, none⟩ = some (.int .i64 0) := (blk_cell (O7.out.blk (i := 4) rfl) 1).trans rfl
        have f7_4_1 : w7.frozen? ⟨gx, 1, none⟩ = false := blk_frozen (O7.out.blk (i := 4) rfl) 1
        have c7_4_2 : w7.cell? ⟨gx, 2, none⟩ = some (.slice none 0 0) := (blk_cell (O7.out.blk (i := 4) rfl) 2).trans rfl
        have f7_4_2 : w7.frozen? ⟨gx, 2, none⟩ = false := blk_frozen (O7.out.blk (i := 4) rfl) 2
        have n7_0_2 : g ≠ g1 := O7.out.ne (i := 0) (j := 2) rfl rfl (by decide)
        have n7_0_4 : g ≠ gx := O7.out.ne (i := 0) (j := 4) rfl rfl (by decide)
        have n7_2_0 : g1 ≠ g := O7.out.ne (i := 2) (j := 0) rfl rfl (by decide)
        have n7_2_4 : g1 ≠ gx := O7.out.ne (i := 2) (j := 4) rfl rfl (by decide)
        have n7_4_0 : gx ≠ g := O7.out.ne (i := 4) (j := 0) rfl rfl (by decide)
        have n7_4_2 : gx ≠ g1 := O7.out.ne (i := 4) (j := 2) rfl rfl (by decide)
        clear o_ k_
        clear hHeld
        refine hK_.out _ _ ⟨((blk_cell (O7.out.blk (i := 0) rfl) 0).trans rfl), ((blk_cell (O7.out.blk (i := 0) rfl) 1).trans rfl), ((blk_cell (O7.out.blk (i := 0) rfl) 2).trans rfl)⟩ (fun hHeld => ?_)
        clear hK_ K_
        refine norm_ (a' := ?_) ?_ ?_
        rotate_left
        · simp only [Act.put, List.setIfInBounds_toArray, List.set_cons_zero, List.set_cons_succ, i64_w, i32_w]
          rfl
        refine pure_ (i := 13) (N := some 32) (v := ?_) (a' := ?_) #[true, true, true, true, true, true, true, true, true, true, true, true, true, true, true, false] rfl rfl (by kernel_rfl) (fun _ _ _ h => h) (Or.inl ⟨by rfl, ?_⟩) ?_ ?_
        rotate_left
        · intro w'
          go_simp
          with_reducible rfl
        rotate_left
        · simp only [Act.put, List.setIfInBounds_toArray, List.set_cons_zero, List.set_cons_succ, i64_w, i32_w]
          rfl
        refine norm_ (a' := _) ?_ (hc_ ⟨B1, d1, B2, d2, gx⟩ _ ⟨?_, K7.out⟩)
        · simp only [putAll, Act.put, List.setIfInBounds_toArray, List.set_cons_zero, List.set_cons_succ]
          try rfl
        · exact O7.out.pickL [0, 1, 2, 3, 4] (by decide) (by simp)
    · skip
      refine own_box_step rfl rfl (cs := #[.int .i64 0, .int .i64 0, .slice none 0 0]) (t := 32) ?hr O4.out ?_
      (case hr => first | (go_simp; done) | (go_simp; rfl))
      intro gx w5 o_ k_
      have O5 : Aside0 (Own N w5 [cells g #[.int .i64 o, .int .i64 m, .slice A0 L.length c0] 42, nrow k32 32 (.slice A0 L.length c0) L, cells g1 #[.int .i64 0, .int .i64 0, .slice none 0 0] 32, cells gx #[.int .i64 0, .int .i64 0, .slice none 0 0] 32]) := ⟨o_⟩
      have K5 : Aside0 (KeepS N w3 w5) := ⟨K4.out.trans k_⟩
      have HR_5 : Aside0 (Kd.F k50 w5 N B ups.length ups) := ⟨keepF HR_3.out k_⟩
      clear c3_0_0 f3_0_0 c3_0_1 f3_0_1 c3_0_2 f3_0_2 c3_2_0 f3_2_0 c3_2_1 f3_2_1 c3_2_2 f3_2_2 n3_0_2 n3_2_0 O4 K4 HR_3
      have c5_0_0 : w5.cell? ⟨g, 0, none⟩ = some (.int .i64 o) := (blk_cell (O5.out.blk (i := 0) rfl) 0).trans rfl
      have f5_0_0 : w5.frozen? ⟨g, 0, none⟩ = false := blk_frozen (O5.out.blk (i := 0) rfl) 0
      have c5_0_1 : w5.cell? ⟨g, 1, none⟩ = some (.int .i64 m) := (blk_cell (O5.out.blk (i := 0) rfl) 1).trans rfl
      have f5_0_1 : w5.frozen? ⟨g, 1, none⟩ = false := blk_frozen (O5.out.blk (i := 0) rfl) 1
      have c5_0_2 : w5.cell? ⟨g, 2, none⟩ = some (.slice A0 L.length c0) := (blk_cell (O5.out.blk (i := 0) rfl) 2).trans rfl
      have f5_0_2 : w5.frozen? ⟨g, 2, none⟩ = false := blk_frozen (O5.out.blk (i := 0) rfl) 2
      have c5_2_0 : w5.cell? ⟨g1, 0, none⟩ = some (.int .i64 0) := (blk_cell (O5.out.blk (i := 2) rfl) 0).trans rfl
      have f5_2_0 : w5.frozen? ⟨g1, 0, none⟩ = false := blk_frozen (O5.out.blk (i := 2) rfl) 0
      have c5_2_1 : w5.cell? ⟨g1, 1, none⟩ = some (.int .i64 0) := (blk_cell (O5.out.blk (i := 2) rfl) 1).trans rfl
      have f5_2_1 : w5.frozen? ⟨g1, 1, none⟩ = false := blk_frozen (O5.out.blk (i := 2) rfl) 1
      have c5_2_2 : w5.cell? ⟨g1, 2, none⟩ = some (.slice none 0 0) := (blk_cell (O5.out.blk (i := 2) rfl) 2).trans rfl
      have f5_2_2 : w5.frozen? ⟨g1, 2, none⟩ = false := blk_frozen (O5.out.blk (i := 2) rfl) 2
      have c5_3_0 : w5.cell? ⟨gx, 0, none⟩ = some (.int .i64 0) := (blk_cell (O5.out.blk (i := 3) rfl) 0).trans rfl
      have f5_3_0 : w5.frozen? ⟨gx, 0, none⟩ = false := blk_frozen (O5.out.blk (i := 3) rfl) 0
      have c5_3_1 : w5.cell? ⟨gx, 1, none⟩ = some (.int .i64 0) := (blk_cell (O5.out.blk (i := 3) rfl) 1).trans rfl
      have f5_3_1 : w5.frozen? ⟨gx, 1, none⟩ = false := blk_frozen (O5.out.blk (i := 3) rfl) 1
      have c5_3_2 : w5.cell? ⟨gx, 2, none⟩ = some (.slice none 0 0) := (blk_cell (O5.out.blk (i := 3) rfl) 2).trans rfl
      have f5_3_2 : w5.frozen? ⟨gx, 2, none⟩ = false := blk_frozen (O5.out.blk (i := 3) rfl) 2
      have n5_0_2 : g ≠ g1 := O5.out.ne (i := 0) (j := 2) rfl rfl (by decide)
      have n5_0_3 : g ≠ gx := O5.out.ne (i := 0) (j := 3) rfl rfl (by decide)
      have n5_2_0 : g1 ≠ g := O5.out.ne (i := 2) (j := 0) rfl rfl (by decide)
      have n5_2_3 : g1 ≠ gx := O5.out.ne (i := 2) (j := 3) rfl rfl (by decide)
      have n5_3_0 : gx ≠ g := O5.out.ne (i := 3) (j := 0) rfl rfl (by decide)
      have n5_3_2 : gx ≠ g1 := O5.out.ne (i := 3) (j := 2) rfl rfl (by decide)
      clear o_ k_
      clear hHeld
      refine hK_.out _ _ ⟨((blk_cell (O5.out.blk (i := 0) rfl) 0).trans rfl), ((blk_cell (O5.out.blk (i := 0) rfl) 1).trans rfl), ((blk_cell (O5.out.blk (i := 0) rfl) 2).trans rfl)⟩ (fun hHeld => ?_)
      clear hK_ K_
      refine norm_ (a' := ?_) ?_ ?_
      rotate_left
      · simp only [Act.put, List.setIfInBounds_toArray, List.set_cons_zero, List.set_cons_succ, i64_w, i32_w]
        rfl
      refine one_ (i := 10) (N := some 29) #[true, true, true, true, true, true, true, true, true, true, true, true, false, false, true, false] rfl rfl (by kernel_rfl) (by decide) (fun K_ hK_ => ?_)
      refine own_lit_step k50 (N := N) (e := 50) (xs := []) (inner := []) rfl rfl ?hr (Reps.none _ _) (by simp) O5.out ?_
      (case hr => first | (go_simp; done) | (go_simp; rfl))
      intro B1 d1 w6 o_ k_
      have O6 : Aside0 (Own N w6 [cells g #[.int .i64 o, .int .i64 m, .slice A0 L.length c0] 42, nrow k32 32 (.slice A0 L.length c0) L, cells g1 #[.int .i64 0, .int .i64 0, .slice none 0 0] 32, cells gx #[.int .i64 0, .int .i64 0, .slice none 0 0] 32, nrow k50 50 (.slice B1 0 d1) []]) := ⟨o_⟩
      have K6 : Aside0 (KeepS N w3 w6) := ⟨K5.out.trans k_⟩
      have HR_6 : Aside0 (Kd.F k50 w6 N B ups.length ups) := ⟨keepF HR_5.out k_⟩
      clear c5_0_0 f5_0_0 c5_0_1 f5_0_1 c5_0_2 f5_0_2 c5_2_0 f5_2_0 c5_2_1 f5_2_1 c5_2_2 f5_2_2 c5_3_0 f5_3_0 c5_3_1 f5_3_1 c5_3_2 f5_3_2 n5_0_2 n5_0_3 n5_2_0 n5_2_3 n5_3_0 n5_3_2 O5 K5 HR_5
      have c6_0_0 : w6.cell? ⟨g, 0, none⟩ = some (.int .i64 o) := (blk_cell (O6.out.blk (i := 0) rfl) 0).trans rfl
      have f6_0_0 : w6.frozen? ⟨g, 0, none⟩ = false := blk_frozen (O6.out.blk (i := 0) rfl) 0
      have c6_0_1 : w6.cell? ⟨g, 1, none⟩ = some (.int .i64 m) := (blk_cell (O6.out.blk (i := 0) rfl) 1).trans rfl
      have f6_0_1 : w6.frozen? ⟨g, 1, none⟩ = false := blk_frozen (O6.out.blk (i := 0) rfl) 1
      have c6_0_2 : w6.cell? ⟨g, 2, none⟩ = some (.slice A0 L.length c0) := (blk_cell (O6.out.blk (i := 0) rfl) 2).trans rfl
      have f6_0_2 : w6.frozen? ⟨g, 2, none⟩ = false := blk_frozen (O6.out.blk (i := 0) rfl) 2
      have c6_2_0 : w6.cell? ⟨g1, 0, none⟩ = some (.int .i64 0) := (blk_cell (O6.out.blk (i := 2) rfl) 0).trans rfl
      have f6_2_0 : w6.frozen? ⟨g1, 0, none⟩ = false := blk_frozen (O6.out.blk (i := 2) rfl) 0
      have c6_2_1 : w6.cell? ⟨g1, 1, none⟩ = some (.int .i64 0) := (blk_cell (O6.out.blk (i := 2) rfl) 1).trans rfl
      have f6_2_1 : w6.frozen? ⟨g1, 1, none⟩ = false := blk_frozen (O6.out.blk (i := 2) rfl) 1
      have c6_2_2 : w6.cell? ⟨g1, 2, none⟩ = some (.slice none 0 0) := (blk_cell (O6.out.blk (i := 2) rfl) 2).trans rfl
      have f6_2_2 : w6.frozen? ⟨g1, 2, none⟩ = false := blk_frozen (O6.out.blk (i := 2) rfl) 2
      have c6_3_0 : w6.cell? ⟨gx, 0, none⟩ = some (.int .i64 0) := (blk_cell (O6.out.blk (i := 3) rfl) 0).trans rfl
      have f6_3_0 : w6.frozen? ⟨gx, 0, none⟩ = false := blk_frozen (O6.out.blk (i := 3) rfl) 0
      have c6_3_1 : w6.cell? ⟨gx, 1, none⟩ = some (.int .i64 0) := (blk_cell (O6.out.blk (i := 3) rfl) 1).trans rfl
      have f6_3_1 : w6.frozen? ⟨gx, 1, none⟩ = false := blk_frozen (O6.out.blk (i := 3) rfl) 1
      have c6_3_2 : w6.cell? ⟨gx, 2, none⟩ = some (.slice none 0 0) := (blk_cell (O6.out.blk (i := 3) rfl) 2).trans rfl
      have f6_3_2 : w6.frozen? ⟨gx, 2, none⟩ = false := blk_frozen (O6.out.blk (i := 3) rfl) 2
      have n6_0_2 : g ≠ g1 := O6.out.ne (i := 0) (j := 2) rfl rfl (by decide)
      have n6_0_3 : g ≠ gx := O6.out.ne (i := 0) (j := 3) rfl rfl (by decide)
      have n6_2_0 : g1 ≠ g := O6.out.ne (i := 2) (j := 0) rfl rfl (by decide)
      have n6_2_3 : g1 ≠ gx := O6.out.ne (i := 2) (j := 3) rfl rfl (by decide)
      have n6_3_0 : gx ≠ g := O6.out.ne (i := 3) (j := 0) rfl rfl (by decide)
      have n6_3_2 : gx ≠ g1 := O6.out.ne (i := 3) (j := 2) rfl rfl (by decide)
      clear o_ k_
      clear hHeld
      refine hK_.out _ _ ⟨((blk_cell (O6.out.blk (i := 0) rfl) 0).trans rfl), ((blk_cell (O6.out.blk (i := 0) rfl) 1).trans rfl), ((blk_cell (O6.out.blk (i := 0) rfl) 2).trans rfl)⟩ (fun hHeld => ?_)
      clear hK_ K_
      refine norm_ (a' := ?_) ?_ ?_
      rotate_left
      · simp only [Act.put, List.setIfInBounds_toArray, List.set_cons_zero, List.set_cons_succ, i64_w, i32_w]
        rfl
      refine one_ (i := 12) (N := some 31) #[true, true, true, true, true, true, true, true, true, true, true, true, true, false, true, false] rfl rfl (by kernel_rfl) (by decide) (fun K_ hK_ => ?_)
      refine Own.append_flat_step k50 flatU O6.out (i := 4) (ys := ups) rfl (Kd.F_now HR_6.out) rfl rfl (.tmp 29) (.tmp 30) 30 (.agg #[.string ⟨#[]⟩, .int .i64 0, .int .i64 0, .string ⟨#[]⟩]) 48 rfl Try.underlying30 info50 rfl (by decide) (by decide) rfl rfl (by have := HU.out; simp only [List.length_nil]; omega) ?_
      intro B2 d2 w7 o_ k_
      have O7 : Aside0 (Own N w7 [cells g #[.int .i64 o, .int .i64 m, .slice A0 L.length c0] 42, nrow k32 32 (.slice A0 L.length c0) L, cells g1 #[.int .i64 0, .int .i64 0, .slice none 0 0] 32, cells gx #[.int .i64 0, .int .i64 0, .slice none 0 0] 32, nrow k50 50 (.slice B2 ups.length d2) ups]) := ⟨o_⟩
      have K7 : Aside0 (KeepS N w3 w7) := ⟨K6.out.trans k_⟩
      have HR_7 : Aside0 (Kd.F k50 w7 N B ups.length ups) := ⟨keepF HR_6.out k_⟩
      clear c6_0_0 f6_0_0 c6_0_1 f6_0_1 c6_0_2 f6_0_2 c6_2_0 f6_2_0 c6_2_1 f6_2_1 c6_2_2 f6_2_2 c6_3_0 f6_3_0 c6_3_1 f6_3_1 c6_3_2 f6_3_2 n6_0_2 n6_0_3 n6_2_0 n6_2_3 n6_3_0 n6_3_2 O6 K6 HR_6
      have c7_0_0 : w7.cell? ⟨g, 0, none⟩ = some (.int .i64 o) := (blk_cell (O7.out.blk (i := 0) rfl) 0).trans rfl
      have f7_0_0 : w7.frozen? ⟨g, 0, none⟩ = false := blk_frozen (O7.out.blk (i := 0) rfl) 0
      have c7_0_1 : w7.cell? ⟨g, 1, none⟩ = some (.int .i64 m) := (blk_cell (O7.out.blk (i := 0) rfl) 1).trans rfl
      have f7_0_1 : w7.frozen? ⟨g, 1, none⟩ = false := blk_frozen (O7.out.blk (i := 0) rfl) 1
      have c7_0_2 : w7.cell? ⟨g, 2, none⟩ = some (.slice A0 L.length c0) := (blk_cell (O7.out.blk (i := 0) rfl) 2).trans rfl
      have f7_0_2 : w7.frozen? ⟨g, 2, none⟩ = false := blk_frozen (O7.out.blk (i := 0) rfl) 2
      have c7_2_0 : w7.cell? ⟨g1, 0, none⟩ = some (.int .i64 0) := (blk_cell (O7.out.blk (i := 2) rfl) 0).trans rfl
      have f7_2_0 : w7.frozen? ⟨g1, 0, none⟩ = false := blk_frozen (O7.out.blk (i := 2) rfl) 0
      have c7_2_1 : w7.cell? ⟨g1, 1, none⟩ = some (.int .i64 0) := (blk_cell (O7.out.blk (i := 2) rfl) 1).trans rfl
      have f7_2_1 : w7.frozen? ⟨g1, 1, none⟩ = false := blk_frozen (O7.out.blk (i := 2) rfl) 1
      have c7_2_2 : w7.cell? ⟨g1, 2, none⟩ = some (.slice none 0 0) := (blk_cell (O7.out.blk (i := 2) rfl) 2).trans rfl
      have f7_2_2 : w7.frozen? ⟨g1, 2, none⟩ = false := blk_frozen (O7.out.blk (i := 2) rfl) 2
      have c7_3_0 : w7.cell? ⟨gx, 0, none⟩ = some (.int .i64 0) := (blk_cell (O7.out.blk (i := 3) rfl) 0).trans rfl
      have f7_3_0 : w7.frozen? ⟨gx, 0, none⟩ = false := blk_frozen (O7.out.blk (i := 3) rfl) 0
      have c7_3_1 : w7.cell? ⟨gx, 1, none⟩ = some (.int .i64 0) := (blk_cell (O7.out.blk (i := 3) rfl) 1).trans rfl
      have f7_3_1 : w7.frozen? ⟨gx, 1, none⟩ = false := blk_frozen (O7.out.blk (i := 3) rfl) 1
      have c7_3_2 : w7.cell? ⟨gx, 2, none⟩ = some (.slice none 0 0) := (blk_cell (O7.out.blk (i := 3) rfl) 2).trans rfl
      have f7_3_2 : w7.frozen? ⟨gx, 2, none⟩ = false := blk_frozen (O7.out.blk (i := 3) rfl) 2
      have n7_0_2 : g ≠ g1 := O7.out.ne (i := 0) (j := 2) rfl rfl (by decide)
      have n7_0_3 : g ≠ gx := O7.out.ne (i := 0) (j := 3) rfl rfl (by decide)
      have n7_2_0 : g1 ≠ g := O7.out.ne (i := 2) (j := 0) rfl rfl (by decide)
      have n7_2_3 : g1 ≠ gx := O7.out.ne (i := 2) (j := 3) rfl rfl (by decide)
      have n7_3_0 : gx ≠ g := O7.out.ne (i := 3) (j := 0) rfl rfl (by decide)
      have n7_3_2 : gx ≠ g1 := O7.out.ne (i := 3) (j := 2) rfl rfl (by decide)
      clear o_ k_
      clear hHeld
      refine hK_.out _ _ ⟨((blk_cell (O7.out.blk (i := 0) rfl) 0).trans rfl), ((blk_cell (O7.out.blk (i := 0) rfl) 1).trans rfl), ((blk_cell (O7.out.blk (i := 0) rfl) 2).trans rfl)⟩ (fun hHeld => ?_)
      clear hK_ K_
      refine norm_ (a' := ?_) ?_ ?_
      rotate_left
      · simp only [Act.put, List.setIfInBounds_toArray, List.set_cons_zero, List.set_cons_succ, i64_w, i32_w]
        rfl
      refine pure_ (i := 13) (N := some 32) (v := ?_) (a' := ?_) #[true, true, true, true, true, true, true, true, true, true, true, true, true, true, true, false] rfl rfl (by kernel_rfl) (fun _ _ _ h => h) (Or.inl ⟨by rfl, ?_⟩) ?_ ?_
      rotate_left
      · intro w'
        go_simp
        with_reducible rfl
      rotate_left
      · simp only [Act.put, List.setIfInBounds_toArray, List.set_cons_zero, List.set_cons_succ, i64_w, i32_w]
        rfl
      refine norm_ (a' := _) ?_ (hc_ ⟨B1, d1, B2, d2, gx⟩ _ ⟨?_, K7.out⟩)
      · simp only [putAll, Act.put, List.setIfInBounds_toArray, List.set_cons_zero, List.set_cons_succ]
        try rfl
      · exact O7.out.pickL [0, 1, 2, 4, 3] (by decide) (by simp)
  case hcont =>
    clear hHeld
    rintro ⟨B1, d1, B2, d2, gx⟩ w4 ⟨o_, k_⟩
    have O4 : Aside0 (Own N w4 [cells g #[.int .i64 o, .int .i64 m, .slice A0 L.length c0] 42, nrow k32 32 (.slice A0 L.length c0) L, cells g1 #[.int .i64 0, .int .i64 0, .slice none 0 0] 32, nrow k50 50 (.slice B2 ups.length d2) ups, cells gx #[.int .i64 0, .int .i64 0, .slice none 0 0] 32]) := ⟨o_⟩
    have K4 : Aside0 (KeepS N w w4) := ⟨K3.out.trans k_⟩
    have HR_4 : Aside0 (Kd.F k50 w4 N B ups.length ups) := ⟨keepF HR_3.out k_⟩
    clear c3_0_0 f3_0_0 c3_0_1 f3_0_1 c3_0_2 f3_0_2 c3_2_0 f3_2_0 c3_2_1 f3_2_1 c3_2_2 f3_2_2 n3_0_2 n3_2_0 O3 K3 HR_3
    have c4_0_0 : w4.cell? ⟨g, 0, none⟩ = some (.int .i64 o) := (blk_cell (O4.out.blk (i := 0) rfl) 0).trans rfl
    have f4_0_0 : w4.frozen? ⟨g, 0, none⟩ = false := blk_frozen (O4.out.blk (i := 0) rfl) 0
    have c4_0_1 : w4.cell? ⟨g, 1, none⟩ = some (.int .i64 m) := (blk_cell (O4.out.blk (i := 0) rfl) 1).trans rfl
    have f4_0_1 : w4.frozen? ⟨g, 1, none⟩ = false := blk_frozen (O4.out.blk (i := 0) rfl) 1
    have c4_0_2 : w4.cell? ⟨g, 2, none⟩ = some (.slice A0 L.length c0) := (blk_cell (O4.out.blk (i := 0) rfl) 2).trans rfl
    have f4_0_2 : w4.frozen? ⟨g, 2, none⟩ = false := blk_frozen (O4.out.blk (i := 0) rfl) 2
    have c4_2_0 : w4.cell? ⟨g1, 0, none⟩ = some (.int .i64 0) := (blk_cell (O4.out.blk (i := 2) rfl) 0).trans rfl
    have f4_2_0 : w4.frozen? ⟨g1, 0, none⟩ = false := blk_frozen (O4.out.blk (i := 2) rfl) 0
    have c4_2_1 : w4.cell? ⟨g1, 1, none⟩ = some (.int .i64 0) := (blk_cell (O4.out.blk (i := 2) rfl) 1).trans rfl
    have f4_2_1 : w4.frozen? ⟨g1, 1, none⟩ = false := blk_frozen (O4.out.blk (i := 2) rfl) 1
    have c4_2_2 : w4.cell? ⟨g1, 2, none⟩ = some (.slice none 0 0) := (blk_cell (O4.out.blk (i := 2) rfl) 2).trans rfl
    have f4_2_2 : w4.frozen? ⟨g1, 2, none⟩ = false := blk_frozen (O4.out.blk (i := 2) rfl) 2
    have c4_4_0 : w4.cell? ⟨gx, 0, none⟩ = some (.int .i64 0) := (blk_cell (O4.out.blk (i := 4) rfl) 0).trans rfl
    have f4_4_0 : w4.frozen? ⟨gx, 0, none⟩ = false := blk_frozen (O4.out.blk (i := 4) rfl) 0
    have c4_4_1 : w4.cell? ⟨gx, 1, none⟩ = some (.int .i64 0) := (blk_cell (O4.out.blk (i := 4) rfl) 1).trans rfl
    have f4_4_1 : w4.frozen? ⟨gx, 1, none⟩ = false := blk_frozen (O4.out.blk (i := 4) rfl) 1
    have c4_4_2 : w4.cell? ⟨gx, 2, none⟩ = some (.slice none 0 0) := (blk_cell (O4.out.blk (i := 4) rfl) 2).trans rfl
    have f4_4_2 : w4.frozen? ⟨gx, 2, none⟩ = false := blk_frozen (O4.out.blk (i := 4) rfl) 2
    have n4_0_2 : g ≠ g1 := O4.out.ne (i := 0) (j := 2) rfl rfl (by decide)
    have n4_0_4 : g ≠ gx := O4.out.ne (i := 0) (j := 4) rfl rfl (by decide)
    have n4_2_0 : g1 ≠ g := O4.out.ne (i := 2) (j := 0) rfl rfl (by decide)
    have n4_2_4 : g1 ≠ gx := O4.out.ne (i := 2) (j := 4) rfl rfl (by decide)
    have n4_4_0 : gx ≠ g := O4.out.ne (i := 4) (j := 0) rfl rfl (by decide)
    have n4_4_2 : gx ≠ g1 := O4.out.ne (i := 4) (j := 2) rfl rfl (by decide)
    clear o_ k_
    refine norm_ (a' := ?_) ?_ ?_
    rotate_left
    · simp only [putAll, Act.put, List.setIfInBounds_toArray, List.set_cons_zero, List.set_cons_succ]
      rfl
    have hHeld : w4.cell? ⟨g, 0, none⟩ = some (.int .i64 o) ∧ w4.cell? ⟨g, 1, none⟩ = some (.int .i64 m) ∧ w4.cell? ⟨g, 2, none⟩ = some (.slice A0 L.length c0) := ⟨((blk_cell (O4.out.blk (i := 0) rfl) 0).trans rfl), ((blk_cell (O4.out.blk (i := 0) rfl) 1).trans rfl), ((blk_cell (O4.out.blk (i := 0) rfl) 2).trans rfl)⟩
    refine one_ (i := 15) (N := none) #[true, true, true, true, true, true, true, true, true, true, true, true, true, true, true, true] rfl rfl (by kernel_rfl) (by decide) (fun K_ hK_ => ?_)
    refine own_store_step rfl rfl (w1 := (World.setCell (World.setCell (World.setCell w4 ⟨gx, 0, none⟩ (.int .i64 o)) ⟨gx, 1, none⟩ (.int .i64 ((L.length : Int) + 1))) ⟨gx, 2, none⟩ (.slice B2 ups.length d2))) (N := N) (l' := [cells g #[.int .i64 o, .int .i64 m, .slice A0 L.length c0] 42, nrow k32 32 (.slice A0 L.length c0) L, cells g1 #[.int .i64 0, .int .i64 0, .slice none 0 0] 32, nrow k50 50 (.slice B2 ups.length d2) ups, cells gx #[.int .i64 o, .int .i64 ((L.length : Int) + 1), .slice B2 ups.length d2] 32]) ?hr ?ho ?hk ?_
    (case hr => first | (go_simp; done) | (go_simp; rfl))
    (case ho => exact (((O4.out.set (i := 4) rfl 0 (.int .i64 o)).set (i := 4) rfl 1 (.int .i64 ((L.length : Int) + 1))).set (i := 4) rfl 2 (.slice B2 ups.length d2)))
    (case hk => exact (((KeepS.setCell (O4.out.far (i := 4) rfl) (.int .i64 o)).trans (KeepS.setCell (O4.out.far (i := 4) rfl) (.int .i64 ((L.length : Int) + 1)))).trans (KeepS.setCell (O4.out.far (i := 4) rfl) (.slice B2 ups.length d2))))
    intro w5 o_ k_
    have O5 : Aside0 (Own N w5 [cells g #[.int .i64 o, .int .i64 m, .slice A0 L.length c0] 42, nrow k32 32 (.slice A0 L.length c0) L, cells g1 #[.int .i64 0, .int .i64 0, .slice none 0 0] 32, nrow k50 50 (.slice B2 ups.length d2) ups, cells gx #[.int .i64 o, .int .i64 ((L.length : Int) + 1), .slice B2 ups.length d2] 32]) := ⟨o_⟩
    have K5 : Aside0 (KeepS N w w5) := ⟨K4.out.trans k_⟩
    have HR_5 : Aside0 (Kd.F k50 w5 N B ups.length ups) := ⟨keepF HR_4.out k_⟩
    clear c4_0_0 f4_0_0 c4_0_1 f4_0_1 c4_0_2 f4_0_2 c4_2_0 f4_2_0 c4_2_1 f4_2_1 c4_2_2 f4_2_2 c4_4_0 f4_4_0 c4_4_1 f4_4_1 c4_4_2 f4_4_2 n4_0_2 n4_0_4 n4_2_0 n4_2_4 n4_4_0 n4_4_2 O4 K4 HR_4
    have c5_0_0 : w5.cell? ⟨g, 0, none⟩ = some (.int .i64 o) := (blk_cell (O5.out.blk (i := 0) rfl) 0).trans rfl
    have f5_0_0 : w5.frozen? ⟨g, 0, none⟩ = false := blk_frozen (O5.out.blk (i := 0) rfl) 0
    have c5_0_1 : w5.cell? ⟨g, 1, none⟩ = some (.int .i64 m) := (blk_cell (O5.out.blk (i := 0) rfl) 1).trans rfl
    have f5_0_1 : w5.frozen? ⟨g, 1, none⟩ = false := blk_frozen (O5.out.blk (i := 0) rfl) 1
    have c5_0_2 : w5.cell? ⟨g, 2, none⟩ = some (.slice A0 L.length c0) := (blk_cell (O5.out.blk (i := 0) rfl) 2).trans rfl
    have f5_0_2 : w5.frozen? ⟨g, 2, none⟩ = false := blk_frozen (O5.out.blk (i := 0) rfl) 2
    have c5_2_0 : w5.cell? ⟨g1, 0, none⟩ = some (.int .i64 0) := (blk_cell (O5.out.blk (i := 2) rfl) 0).trans rfl
    have f5_2_0 : w5.frozen? ⟨g1, 0, none⟩ = false := blk_frozen (O5.out.blk (i := 2) rfl) 0
    have c5_2_1 : w5.cell? ⟨g1, 1, none⟩ = some (.int .i64 0) := (blk_cell (O5.out.blk (i := 2) rfl) 1).trans rfl
    have f5_2_1 : w5.frozen? ⟨g1, 1, none⟩ = false := blk_frozen (O5.out.blk (i := 2) rfl) 1
    have c5_2_2 : w5.cell? ⟨g1, 2, none⟩ = some (.slice none 0 0) := (blk_cell (O5.out.blk (i := 2) rfl) 2).trans rfl
    have f5_2_2 : w5.frozen? ⟨g1, 2, none⟩ = false := blk_frozen (O5.out.blk (i := 2) rfl) 2
    have c5_4_0 : w5.cell? ⟨gx, 0, none⟩ = some (.int .i64 o) := (blk_cell (O5.out.blk (i := 4) rfl) 0).trans rfl
    have f5_4_0 : w5.frozen? ⟨gx, 0, none⟩ = false := blk_frozen (O5.out.blk (i := 4) rfl) 0
    have c5_4_1 : w5.cell? ⟨gx, 1, none⟩ = some (.int .i64 ((L.length : Int) + 1)) := (blk_cell (O5.out.blk (i := 4) rfl) 1).trans rfl
    have f5_4_1 : w5.frozen? ⟨gx, 1, none⟩ = false := blk_frozen (O5.out.blk (i := 4) rfl) 1
    have c5_4_2 : w5.cell? ⟨gx, 2, none⟩ = some (.slice B2 ups.length d2) := (blk_cell (O5.out.blk (i := 4) rfl) 2).trans rfl
    have f5_4_2 : w5.frozen? ⟨gx, 2, none⟩ = false := blk_frozen (O5.out.blk (i := 4) rfl) 2
    have n5_0_2 : g ≠ g1 := O5.out.ne (i := 0) (j := 2) rfl rfl (by decide)
    have n5_0_4 : g ≠ gx := O5.out.ne (i := 0) (j := 4) rfl rfl (by decide)
    have n5_2_0 : g1 ≠ g := O5.out.ne (i := 2) (j := 0) rfl rfl (by decide)
    have n5_2_4 : g1 ≠ gx := O5.out.ne (i := 2) (j := 4) rfl rfl (by decide)
    have n5_4_0 : gx ≠ g := O5.out.ne (i := 4) (j := 0) rfl rfl (by decide)
    have n5_4_2 : gx ≠ g1 := O5.out.ne (i := 4) (j := 2) rfl rfl (by decide)
    clear o_ k_
    clear hHeld
    refine hK_.out _ _ ⟨((blk_cell (O5.out.blk (i := 0) rfl) 0).trans rfl), ((blk_cell (O5.out.blk (i := 0) rfl) 1).trans rfl), ((blk_cell (O5.out.blk (i := 0) rfl) 2).trans rfl)⟩ (fun hHeld => ?_)
    clear hK_ K_
    refine done_ (by kernel_rfl) ?_
    clear hHeld
    go_wp2_with (first | ((with_reducible refine gate_callee (f := 23) rfl ?_); refine goesL_ (some 34) rfl rfl Try.func23 (by kernel_rfl) rfl #[.agg #[.int .i64 o, .int .i64 ((L.length : Int) + 1), .slice B2 ups.length d2]] rfl (by (try simp only [List.map_toArray, List.map_cons, List.map_nil]); first | done | rfl) ?_; refine (chapbookref07_May.calls k _ _ _ _ ups 0 _ (O5.out.nreads (i := 3) rfl).2.2 (O5.out.nreads (i := 3) rfl).2.1 HE.out).mono ?_; rintro e_ w6 ⟨rfl, hb_⟩; refine ⟨_, rfl, ?_⟩; have o_ := O5.out.below hb_; have k_ := KeepS.of_below (N := N) hb_; have O6 : Aside0 (Own N w6 [cells g #[.int .i64 o, .int .i64 m, .slice A0 L.length c0] 42, nrow k32 32 (.slice A0 L.length c0) L, cells g1 #[.int .i64 0, .int .i64 0, .slice none 0 0] 32, nrow k50 50 (.slice B2 ups.length d2) ups, cells gx #[.int .i64 o, .int .i64 ((L.length : Int) + 1), .slice B2 ups.length d2] 32]) := ⟨o_⟩; have K6 : Aside0 (KeepS N w w6) := ⟨K5.out.trans k_⟩; have HR_6 : Aside0 (Kd.F k50 w6 N B ups.length ups) := ⟨keepF HR_5.out k_⟩; clear c5_0_0 f5_0_0 c5_0_1 f5_0_1 c5_0_2 f5_0_2 c5_2_0 f5_2_0 c5_2_1 f5_2_1 c5_2_2 f5_2_2 c5_4_0 f5_4_0 c5_4_1 f5_4_1 c5_4_2 f5_4_2 n5_0_2 n5_0_4 n5_2_0 n5_2_4 n5_4_0 n5_4_2 O5 K5 HR_5; have c6_0_0 : w6.cell? ⟨g, 0, none⟩ = some (.int .i64 o) := (blk_cell (O6.out.blk (i := 0) rfl) 0).trans rfl; have f6_0_0 : w6.frozen? ⟨g, 0, none⟩ = false := blk_frozen (O6.out.blk (i := 0) rfl) 0; have c6_0_1 : w6.cell? ⟨g, 1, none⟩ = some (.int .i64 m) := (blk_cell (O6.out.blk (i := 0) rfl) 1).trans rfl; have f6_0_1 : w6.frozen? ⟨g, 1, none⟩ = false := blk_frozen (O6.out.blk (i := 0) rfl) 1; have c6_0_2 : w6.cell? ⟨g, 2, none⟩ = some (.slice A0 L.length c0) := (blk_cell (O6.out.blk (i := 0) rfl) 2).trans rfl; have f6_0_2 : w6.frozen? ⟨g, 2, none⟩ = false := blk_frozen (O6.out.blk (i := 0) rfl) 2; have c6_2_0 : w6.cell? ⟨g1, 0, none⟩ = some (.int .i64 0) := (blk_cell (O6.out.blk (i := 2) rfl) 0).trans rfl; have f6_2_0 : w6.frozen? ⟨g1, 0, none⟩ = false := blk_frozen (O6.out.blk (i := 2) rfl) 0; have c6_2_1 : w6.cell? ⟨g1, 1, none⟩ = some (.int .i64 0) := (blk_cell (O6.out.blk (i := 2) rfl) 1).trans rfl; have f6_2_1 : w6.frozen? ⟨g1, 1, none⟩ = false := blk_frozen (O6.out.blk (i := 2) rfl) 1; have c6_2_2 : w6.cell? ⟨g1, 2, none⟩ = some (.slice none 0 0) := (blk_cell (O6.out.blk (i := 2) rfl) 2).trans rfl; have f6_2_2 : w6.frozen? ⟨g1, 2, none⟩ = false := blk_frozen (O6.out.blk (i := 2) rfl) 2; have c6_4_0 : w6.cell? ⟨gx, 0, none⟩ = some (.int .i64 o) := (blk_cell (O6.out.blk (i := 4) rfl) 0).trans rfl; have f6_4_0 : w6.frozen? ⟨gx, 0, none⟩ = false := blk_frozen (O6.out.blk (i := 4) rfl) 0; have c6_4_1 : w6.cell? ⟨gx, 1, none⟩ = some (.int .i64 ((L.length : Int) + 1)) := (blk_cell (O6.out.blk (i := 4) rfl) 1).trans rfl; have f6_4_1 : w6.frozen? ⟨gx, 1, none⟩ = false := blk_frozen (O6.out.blk (i := 4) rfl) 1; have c6_4_2 : w6.cell? ⟨gx, 2, none⟩ = some (.slice B2 ups.length d2) := (blk_cell (O6.out.blk (i := 4) rfl) 2).trans rfl; have f6_4_2 : w6.frozen? ⟨gx, 2, none⟩ = false := blk_frozen (O6.out.blk (i := 4) rfl) 2; have n6_0_2 : g ≠ g1 := O6.out.ne (i := 0) (j := 2) rfl rfl (by decide); have n6_0_4 : g ≠ gx := O6.out.ne (i := 0) (j := 4) rfl rfl (by decide); have n6_2_0 : g1 ≠ g := O6.out.ne (i := 2) (j := 0) rfl rfl (by decide); have n6_2_4 : g1 ≠ gx := O6.out.ne (i := 2) (j := 4) rfl rfl (by decide); have n6_4_0 : gx ≠ g := O6.out.ne (i := 4) (j := 0) rfl rfl (by decide); have n6_4_2 : gx ≠ g1 := O6.out.ne (i := 4) (j := 2) rfl rfl (by decide); clear o_ k_ hb_))
    have HCD : Aside0 (ups.length ≤ d2) := ⟨(O6.out.nreads (i := 3) rfl).2.1⟩
    have O7 : Aside0 (Own N w6 [cells g #[.int .i64 o, .int .i64 m, .slice A0 L.length c0] 42, nrow k32 32 (.slice A0 L.length c0) L, cells g1 #[.int .i64 0, .int .i64 0, .slice none 0 0] 32, both (elt k32 (⟨o, (L.length : Int) + 1, ups⟩ : Rnd) [.int .i64 (⟨o, (L.length : Int) + 1, ups⟩ : Rnd).f0, .int .i64 (⟨o, (L.length : Int) + 1, ups⟩ : Rnd).f1, .slice B2 ups.length d2]) (rd k50 B2 ups.length ups), cells gx #[.int .i64 o, .int .i64 ((L.length : Int) + 1), .slice B2 ups.length d2] 32]) := ⟨roundOf2 (⟨o, (L.length : Int) + 1, ups⟩ : Rnd) (i := 3) O6.out rfl⟩
    have O8 : Aside0 (Own N w6 [cells g #[.int .i64 o, .int .i64 m, .slice A0 L.length c0] 42, rd k32 A0 L.length L, cells g1 #[.int .i64 0, .int .i64 0, .slice none 0 0] 32, both (elt k32 (⟨o, (L.length : Int) + 1, ups⟩ : Rnd) [.int .i64 (⟨o, (L.length : Int) + 1, ups⟩ : Rnd).f0, .int .i64 (⟨o, (L.length : Int) + 1, ups⟩ : Rnd).f1, .slice B2 ups.length d2]) (rd k50 B2 ups.length ups), cells gx #[.int .i64 o, .int .i64 ((L.length : Int) + 1), .slice B2 ups.length d2] 32]) := ⟨O7.out.nrd (i := 1) rfl⟩
    clear O6 O7
    refine start_ (n := 13) (S := fun w' => w'.cell? ⟨g, 0, none⟩ = some (.int .i64 o) ∧ w'.cell? ⟨g, 1, none⟩ = some (.int .i64 m) ∧ w'.cell? ⟨g, 2, none⟩ = some (.slice A0 L.length c0) ∧ w'.cell? ⟨gx, 0, none⟩ = some (.int .i64 o) ∧ w'.cell? ⟨gx, 1, none⟩ = some (.int .i64 ((L.length : Int) + 1)) ∧ w'.cell? ⟨gx, 2, none⟩ = some (.slice B2 ups.length d2)) (ds := [12]) #[false, false, false, false, false, false, false, false, false, false, false, false, false] (by kernel_rfl) rfl rfl ⟨((blk_cell (O8.out.blk (i := 0) rfl) 0).trans rfl), ((blk_cell (O8.out.blk (i := 0) rfl) 1).trans rfl), ((blk_cell (O8.out.blk (i := 0) rfl) 2).trans rfl), ((blk_cell (O8.out.blk (i := 4) rfl) 0).trans rfl), ((blk_cell (O8.out.blk (i := 4) rfl) 1).trans rfl), ((blk_cell (O8.out.blk (i := 4) rfl) 2).trans rfl)⟩ (fun hHeld => ?_)
    obtain ⟨w9, hw_⟩ : ∃ W, W = w6.drew := ⟨_, rfl⟩
    have o_ := O8.out.drew
    have k_ : KeepS N w6 w6.drew := KeepS.drew
    rw [← hw_] at o_ k_ hHeld ⊢
    clear hw_
    have O9 : Aside0 (Own N w9 [cells g #[.int .i64 o, .int .i64 m, .slice A0 L.length c0] 42, rd k32 A0 L.length L, cells g1 #[.int .i64 0, .int .i64 0, .slice none 0 0] 32, both (elt k32 (⟨o, (L.length : Int) + 1, ups⟩ : Rnd) [.int .i64 (⟨o, (L.length : Int) + 1, ups⟩ : Rnd).f0, .int .i64 (⟨o, (L.length : Int) + 1, ups⟩ : Rnd).f1, .slice B2 ups.length d2]) (rd k50 B2 ups.length ups), cells gx #[.int .i64 o, .int .i64 ((L.length : Int) + 1), .slice B2 ups.length d2] 32]) := ⟨o_⟩
    have K9 : Aside0 (KeepS N w w9) := ⟨K6.out.trans k_⟩
    have HR_9 : Aside0 (Kd.F k50 w9 N B ups.length ups) := ⟨keepF HR_6.out k_⟩
    clear c6_0_0 f6_0_0 c6_0_1 f6_0_1 c6_0_2 f6_0_2 c6_2_0 f6_2_0 c6_2_1 f6_2_1 c6_2_2 f6_2_2 c6_4_0 f6_4_0 c6_4_1 f6_4_1 c6_4_2 f6_4_2 n6_0_2 n6_0_4 n6_2_0 n6_2_4 n6_4_0 n6_4_2 O8 K6 HR_6
    have c9_0_0 : w9.cell? ⟨g, 0, none⟩ = some (.int .i64 o) := (blk_cell (O9.out.blk (i := 0) rfl) 0).trans rfl
    have f9_0_0 : w9.frozen? ⟨g, 0, none⟩ = false := blk_frozen (O9.out.blk (i := 0) rfl) 0
    have c9_0_1 : w9.cell? ⟨g, 1, none⟩ = some (.int .i64 m) := (blk_cell (O9.out.blk (i := 0) rfl) 1).trans rfl
    have f9_0_1 : w9.frozen? ⟨g, 1, none⟩ = false := blk_frozen (O9.out.blk (i := 0) rfl) 1
    have c9_0_2 : w9.cell? ⟨g, 2, none⟩ = some (.slice A0 L.length c0) := (blk_cell (O9.out.blk (i := 0) rfl) 2).trans rfl
    have f9_0_2 : w9.frozen? ⟨g, 2, none⟩ = false := blk_frozen (O9.out.blk (i := 0) rfl) 2
    have c9_2_0 : w9.cell? ⟨g1, 0, none⟩ = some (.int .i64 0) := (blk_cell (O9.out.blk (i := 2) rfl) 0).trans rfl
    have f9_2_0 : w9.frozen? ⟨g1, 0, none⟩ = false := blk_frozen (O9.out.blk (i := 2) rfl) 0
    have c9_2_1 : w9.cell? ⟨g1, 1, none⟩ = some (.int .i64 0) := (blk_cell (O9.out.blk (i := 2) rfl) 1).trans rfl
    have f9_2_1 : w9.frozen? ⟨g1, 1, none⟩ = false := blk_frozen (O9.out.blk (i := 2) rfl) 1
    have c9_2_2 : w9.cell? ⟨g1, 2, none⟩ = some (.slice none 0 0) := (blk_cell (O9.out.blk (i := 2) rfl) 2).trans rfl
    have f9_2_2 : w9.frozen? ⟨g1, 2, none⟩ = false := blk_frozen (O9.out.blk (i := 2) rfl) 2
    have c9_4_0 : w9.cell? ⟨gx, 0, none⟩ = some (.int .i64 o) := (blk_cell (O9.out.blk (i := 4) rfl) 0).trans rfl
    have f9_4_0 : w9.frozen? ⟨gx, 0, none⟩ = false := blk_frozen (O9.out.blk (i := 4) rfl) 0
    have c9_4_1 : w9.cell? ⟨gx, 1, none⟩ = some (.int .i64 ((L.length : Int) + 1)) := (blk_cell (O9.out.blk (i := 4) rfl) 1).trans rfl
    have f9_4_1 : w9.frozen? ⟨gx, 1, none⟩ = false := blk_frozen (O9.out.blk (i := 4) rfl) 1
    have c9_4_2 : w9.cell? ⟨gx, 2, none⟩ = some (.slice B2 ups.length d2) := (blk_cell (O9.out.blk (i := 4) rfl) 2).trans rfl
    have f9_4_2 : w9.frozen? ⟨gx, 2, none⟩ = false := blk_frozen (O9.out.blk (i := 4) rfl) 2
    have n9_0_2 : g ≠ g1 := O9.out.ne (i := 0) (j := 2) rfl rfl (by decide)
    have n9_0_4 : g ≠ gx := O9.out.ne (i := 0) (j := 4) rfl rfl (by decide)
    have n9_2_0 : g1 ≠ g := O9.out.ne (i := 2) (j := 0) rfl rfl (by decide)
    have n9_2_4 : g1 ≠ gx := O9.out.ne (i := 2) (j := 4) rfl rfl (by decide)
    have n9_4_0 : gx ≠ g := O9.out.ne (i := 4) (j := 0) rfl rfl (by decide)
    have n9_4_2 : gx ≠ g1 := O9.out.ne (i := 4) (j := 2) rfl rfl (by decide)
    clear o_ k_
    refine pure_ (i := 0) (N := some 39) (v := ?_) (a' := ?_) #[true, false, false, false, false, false, false, false, false, false, false, false, false] rfl rfl (by kernel_rfl) (fun _ _ _ h => h) (Or.inl ⟨by rfl, ?_⟩) ?_ ?_
    rotate_left
    · intro w'
      go_simp
      with_reducible rfl
    rotate_left
    · simp only [Act.put, List.setIfInBounds_toArray, List.set_cons_zero, List.set_cons_succ, i64_w, i32_w]
      rfl
    refine pure_ (i := 2) (N := some 41) (v := ?_) (a' := ?_) #[true, false, true, false, false, false, false, false, false, false, false, false, false] rfl rfl (by kernel_rfl) (fun _ _ _ h => h) (Or.inl ⟨by rfl, ?_⟩) ?_ ?_
    rotate_left
    · intro w'
      go_simp
      with_reducible rfl
    rotate_left
    · simp only [Act.put, List.setIfInBounds_toArray, List.set_cons_zero, List.set_cons_succ, i64_w, i32_w]
      rfl
    refine pure_ (i := 3) (N := some 42) (v := ?_) (a' := ?_) #[true, false, true, true, false, false, false, false, false, false, false, false, false] rfl rfl (by kernel_rfl) (fun _ _ _ h => h) (Or.inl ⟨by rfl, ?_⟩) ?_ ?_
    rotate_left
    · intro w'
      go_simp
      with_reducible rfl
    rotate_left
    · simp only [Act.put, List.setIfInBounds_toArray, List.set_cons_zero, List.set_cons_succ, i64_w, i32_w]
      rfl
    refine pure_ (i := 4) (N := some 43) (v := ?_) (a' := ?_) #[true, false, true, true, true, false, false, false, false, false, false, false, false] rfl rfl (by kernel_rfl) (fun _ _ _ h => h) (Or.inl ⟨by rfl, ?_⟩) ?_ ?_
    rotate_left
    · intro w'
      go_simp
      with_reducible rfl
    rotate_left
    · simp only [Act.put, List.setIfInBounds_toArray, List.set_cons_zero, List.set_cons_succ, i64_w, i32_w]
      rfl
    refine take_ (i := 5) (N := some 44) (v := ?_) (a' := ?_) #[true, false, true, true, true, true, false, false, false, false, false, false, false] rfl rfl (by kernel_rfl) (fun _ _ _ h => h) (Or.inl ⟨by rfl, ?_⟩) hHeld ?_ ?_
    rotate_left
    · rintro w' ⟨s0, s1, s2, s3, s4, s5⟩
      go_simp
      with_reducible rfl
    rotate_left
    · simp only [Act.put, List.setIfInBounds_toArray, List.set_cons_zero, List.set_cons_succ, i64_w, i32_w]
      rfl
    refine take_ (i := 7) (N := some 46) (v := ?_) (a' := ?_) #[true, false, true, true, true, true, false, true, false, false, false, false, false] rfl rfl (by kernel_rfl) (fun _ _ _ h => h) (Or.inl ⟨by rfl, ?_⟩) hHeld ?_ ?_
    rotate_left
    · rintro w' ⟨s0, s1, s2, s3, s4, s5⟩
      go_simp
      with_reducible rfl
    rotate_left
    · simp only [Act.put, List.setIfInBounds_toArray, List.set_cons_zero, List.set_cons_succ, i64_w, i32_w]
      rfl
    refine join_ (σ := Option Addr × Nat × Option Addr × Nat × Option Addr × Nat) 4 #[true, true, true, true, true, true, true, true, true, false, false, false, false] (fun ⟨C1, e1, C2, e2, D1, h1⟩ => [(40, .slice C1 0 e1), (45, .slice C2 L.length e2), (47, .slice D1 1 h1)]) (fun ⟨C1, e1, C2, e2, D1, h1⟩ w' => Own N w' [cells g #[.int .i64 o, .int .i64 m, .slice A0 L.length c0] 42, emp, cells g1 #[.int .i64 0, .int .i64 0, .slice none 0 0] 32, both (nrow k32 32 (.slice D1 1 h1) [(⟨o, (L.length : Int) + 1, ups⟩ : Rnd)]) (rd k50 B2 ups.length ups), cells gx #[.int .i64 o, .int .i64 ((L.length : Int) + 1), .slice B2 ups.length d2] 32, nrow k32 32 (.slice C2 L.length e2) L] ∧ KeepS N w9 w') ?hcont ?hways
    case hways =>
      intro hc_
      have K10 : Aside0 (KeepS N w9 w9) := ⟨KeepS.refl _ _⟩
      have O10 : Aside0 (Own N w9 [cells g #[.int .i64 o, .int .i64 m, .slice A0 L.length c0] 42, rd k32 A0 L.length L, cells g1 #[.int .i64 0, .int .i64 0, .slice none 0 0] 32, both (elt k32 (⟨o, (L.length : Int) + 1, ups⟩ : Rnd) [.int .i64 (⟨o, (L.length : Int) + 1, ups⟩ : Rnd).f0, .int .i64 (⟨o, (L.length : Int) + 1, ups⟩ : Rnd).f1, .slice B2 ups.length d2]) (rd k50 B2 ups.length ups), cells gx #[.int .i64 o, .int .i64 ((L.length : Int) + 1), .slice B2 ups.length d2] 32]) := O9
      refine two_ (i := 1) (j := 8) (Ni := some 40) (Nj := some 47) #[true, true, true, true, true, true, false, true, false, false, false, false, false] #[true, false, true, true, true, true, false, true, true, false, false, false, false] rfl rfl rfl rfl (by kernel_rfl) (by decide) (by decide) (fun K_ hK_ => ?_) (fun K_ hK_ => ?_)
      · skip
        refine own_lit_step k32 (N := N) (e := 32) (xs := []) (inner := []) rfl rfl ?hr (Reps.none _ _) (by simp) O10.out ?_
        (case hr => first | (go_simp; done) | (go_simp; rfl))
        intro C1 e1 w11 o_ k_
        have O11 : Aside0 (Own N w11 [cells g #[.int .i64 o, .int .i64 m, .slice A0 L.length c0] 42, rd k32 A0 L.length L, cells g1 #[.int .i64 0, .int .i64 0, .slice none 0 0] 32, both (elt k32 (⟨o, (L.length : Int) + 1, ups⟩ : Rnd) [.int .i64 (⟨o, (L.length : Int) + 1, ups⟩ : Rnd).f0, .int .i64 (⟨o, (L.length : Int) + 1, ups⟩ : Rnd).f1, .slice B2 ups.length d2]) (rd k50 B2 ups.length ups), cells gx #[.int .i64 o, .int .i64 ((L.length : Int) + 1), .slice B2 ups.length d2] 32, nrow k32 32 (.slice C1 0 e1) []]) := ⟨o_⟩
        have K11 : Aside0 (KeepS N w9 w11) := ⟨K10.out.trans k_⟩
        have HR_11 : Aside0 (Kd.F k50 w11 N B ups.length ups) := ⟨keepF HR_9.out k_⟩
        clear c9_0_0 f9_0_0 c9_0_1 f9_0_1 c9_0_2 f9_0_2 c9_2_0 f9_2_0 c9_2_1 f9_2_1 c9_2_2 f9_2_2 c9_4_0 f9_4_0 c9_4_1 f9_4_1 c9_4_2 f9_4_2 n9_0_2 n9_0_4 n9_2_0 n9_2_4 n9_4_0 n9_4_2 O10 K10 HR_9
        have c11_0_0 : w11.cell? ⟨g, 0, none⟩ = some (.int .i64 o) := (blk_cell (O11.out.blk (i := 0) rfl) 0).trans rfl
        have f11_0_0 : w11.frozen? ⟨g, 0, none⟩ = false := blk_frozen (O11.out.blk (i := 0) rfl) 0
        have c11_0_1 : w11.cell? ⟨g, 1, none⟩ = some (.int .i64 m) := (blk_cell (O11.out.blk (i := 0) rfl) 1).trans rfl
        have f11_0_1 : w11.frozen? ⟨g, 1, none⟩ = false := blk_frozen (O11.out.blk (i := 0) rfl) 1
        have c11_0_2 : w11.cell? ⟨g, 2, none⟩ = some (.slice A0 L.length c0) := (blk_cell (O11.out.blk (i := 0) rfl) 2).trans rfl
        have f11_0_2 : w11.frozen? ⟨g, 2, none⟩ = false := blk_frozen (O11.out.blk (i := 0) rfl) 2
        have c11_2_0 : w11.cell? ⟨g1, 0, none⟩ = some (.int .i64 0) := (blk_cell (O11.out.blk (i := 2) rfl) 0).trans rfl
        have f11_2_0 : w11.frozen? ⟨g1, 0, none⟩ = false := blk_frozen (O11.out.blk (i := 2) rfl) 0
        have c11_2_1 : w11.cell? ⟨g1, 1, none⟩ = some (.int .i64 0) := (blk_cell (O11.out.blk (i := 2) rfl) 1).trans rfl
        have f11_2_1 : w11.frozen? ⟨g1, 1, none⟩ = false := blk_frozen (O11.out.blk (i := 2) rfl) 1
        have c11_2_2 : w11.cell? ⟨g1, 2, none⟩ = some (.slice none 0 0) := (blk_cell (O11.out.blk (i := 2) rfl) 2).trans rfl
        have f11_2_2 : w11.frozen? ⟨g1, 2, none⟩ = false := blk_frozen (O11.out.blk (i := 2) rfl) 2
        have c11_4_0 : w11.cell? ⟨gx, 0, none⟩ = some (.int .i64 o) := (blk_cell (O11.out.blk (i := 4) rfl) 0).trans rfl
        have f11_4_0 : w11.frozen? ⟨gx, 0, none⟩ = false := blk_frozen (O11.out.blk (i := 4) rfl) 0
        have c11_4_1 : w11.cell? ⟨gx, 1, none⟩ = some (.int .i64 ((L.length : Int) + 1)) := (blk_cell (O11.out.blk (i := 4) rfl) 1).trans rfl
        have f11_4_1 : w11.frozen? ⟨gx, 1, none⟩ = false := blk_frozen (O11.out.blk (i := 4) rfl) 1
        have c11_4_2 : w11.cell? ⟨gx, 2, none⟩ = some (.slice B2 ups.length d2) := (blk_cell (O11.out.blk (i := 4) rfl) 2).trans rfl
        have f11_4_2 : w11.frozen? ⟨gx, 2, none⟩ = false := blk_frozen (O11.out.blk (i := 4) rfl) 2
        have n11_0_2 : g ≠ g1 := O11.out.ne (i := 0) (j := 2) rfl rfl (by decide)
        have n11_0_4 : g ≠ gx := O11.out.ne (i := 0) (j := 4) rfl rfl (by decide)
        have n11_2_0 : g1 ≠ g := O11.out.ne (i := 2) (j := 0) rfl rfl (by decide)
        have n11_2_4 : g1 ≠ gx := O11.out.ne (i := 2) (j := 4) rfl rfl (by decide)
        have n11_4_0 : gx ≠ g := O11.out.ne (i := 4) (j := 0) rfl rfl (by decide)
        have n11_4_2 : gx ≠ g1 := O11.out.ne (i := 4) (j := 2) rfl rfl (by decide)
        clear o_ k_
        clear hHeld
        refine hK_.out _ _ ⟨((blk_cell (O11.out.blk (i := 0) rfl) 0).trans rfl), ((blk_cell (O11.out.blk (i := 0) rfl) 1).trans rfl), ((blk_cell (O11.out.blk (i := 0) rfl) 2).trans rfl), ((blk_cell (O11.out.blk (i := 4) rfl) 0).trans rfl), ((blk_cell (O11.out.blk (i := 4) rfl) 1).trans rfl), ((blk_cell (O11.out.blk (i := 4) rfl) 2).trans rfl)⟩ (fun hHeld => ?_)
        clear hK_ K_
        refine norm_ (a' := ?_) ?_ ?_
        rotate_left
        · simp only [Act.put, List.setIfInBounds_toArray, List.set_cons_zero, List.set_cons_succ, i64_w, i32_w]
          rfl
        refine two_ (i := 6) (j := 8) (Ni := some 45) (Nj := some 47) #[true, true, true, true, true, true, true, true, false, false, false, false, false] #[true, true, true, true, true, true, false, true, true, false, false, false, false] rfl rfl rfl rfl (by kernel_rfl) (by decide) (by decide) (fun K_ hK_ => ?_) (fun K_ hK_ => ?_)
        · skip
          refine Own.append_rows_step k32 O11.out (i := 5) (j := 1) rfl rfl (by decide) rfl rfl (.tmp 40) (.tmp 44) 40 (.agg #[.int .i64 0, .int .i64 0, .slice none 0 0]) 40 rfl Try.underlying40 infoR rfl (by decide) (by decide) rfl rfl (by have := HL.out; simp only [List.length_nil]; omega) ?_
          intro C2 e2 w12 o_ k_
          have O12 : Aside0 (Own N w12 [cells g #[.int .i64 o, .int .i64 m, .slice A0 L.length c0] 42, emp, cells g1 #[.int .i64 0, .int .i64 0, .slice none 0 0] 32, both (elt k32 (⟨o, (L.length : Int) + 1, ups⟩ : Rnd) [.int .i64 (⟨o, (L.length : Int) + 1, ups⟩ : Rnd).f0, .int .i64 (⟨o, (L.length : Int) + 1, ups⟩ : Rnd).f1, .slice B2 ups.length d2]) (rd k50 B2 ups.length ups), cells gx #[.int .i64 o, .int .i64 ((L.length : Int) + 1), .slice B2 ups.length d2] 32, nrow k32 32 (.slice C2 L.length e2) L]) := ⟨o_⟩
          have K12 : Aside0 (KeepS N w9 w12) := ⟨K11.out.trans k_⟩
          have HR_12 : Aside0 (Kd.F k50 w12 N B ups.length ups) := ⟨keepF HR_11.out k_⟩
          clear c11_0_0 f11_0_0 c11_0_1 f11_0_1 c11_0_2 f11_0_2 c11_2_0 f11_2_0 c11_2_1 f11_2_1 c11_2_2 f11_2_2 c11_4_0 f11_4_0 c11_4_1 f11_4_1 c11_4_2 f11_4_2 n11_0_2 n11_0_4 n11_2_0 n11_2_4 n11_4_0 n11_4_2 O11 K11 HR_11
          have c12_0_0 : w12.cell? ⟨g, 0, none⟩ = some (.int .i64 o) := (blk_cell (O12.out.blk (i := 0) rfl) 0).trans rfl
          have f12_0_0 : w12.frozen? ⟨g, 0, none⟩ = false := blk_frozen (O12.out.blk (i := 0) rfl) 0
          have c12_0_1 : w12.cell? ⟨g, 1, none⟩ = some (.int .i64 m) := (blk_cell (O12.out.blk (i := 0) rfl) 1).trans rfl
          have f12_0_1 : w12.frozen? ⟨g, 1, none⟩ = false := blk_frozen (O12.out.blk (i := 0) rfl) 1
          have c12_0_2 : w12.cell? ⟨g, 2, none⟩ = some (.slice A0 L.length c0) := (blk_cell (O12.out.blk (i := 0) rfl) 2).trans rfl
          have f12_0_2 : w12.frozen? ⟨g, 2, none⟩ = false := blk_frozen (O12.out.blk (i := 0) rfl) 2
          have c12_2_0 : w12.cell? ⟨g1, 0, none⟩ = some (.int .i64 0) := (blk_cell (O12.out.blk (i := 2) rfl) 0).trans rfl
          have f12_2_0 : w12.frozen? ⟨g1, 0, none⟩ = false := blk_frozen (O12.out.blk (i := 2) rfl) 0
          have c12_2_1 : w12.cell? ⟨g1, 1, none⟩ = some (.int .i64 0) := (blk_cell (O12.out.blk (i := 2) rfl) 1).trans rfl
          have f12_2_1 : w12.frozen? ⟨g1, 1, none⟩ = false := blk_frozen (O12.out.blk (i := 2) rfl) 1
          have c12_2_2 : w12.cell? ⟨g1, 2, none⟩ = some (.slice none 0 0) := (blk_cell (O12.out.blk (i := 2) rfl) 2).trans rfl
          have f12_2_2 : w12.frozen? ⟨g1, 2, none⟩ = false := blk_frozen (O12.out.blk (i := 2) rfl) 2
          have c12_4_0 : w12.cell? ⟨gx, 0, none⟩ = some (.int .i64 o) := (blk_cell (O12.out.blk (i := 4) rfl) 0).trans rfl
          have f12_4_0 : w12.frozen? ⟨gx, 0, none⟩ = false := blk_frozen (O12.out.blk (i := 4) rfl) 0
          have c12_4_1 : w12.cell? ⟨gx, 1, none⟩ = some (.int .i64 ((L.length : Int) + 1)) := (blk_cell (O12.out.blk (i := 4) rfl) 1).trans rfl
          have f12_4_1 : w12.frozen? ⟨gx, 1, none⟩ = false := blk_frozen (O12.out.blk (i := 4) rfl) 1
          have c12_4_2 : w12.cell? ⟨gx, 2, none⟩ = some (.slice B2 ups.length d2) := (blk_cell (O12.out.blk (i := 4) rfl) 2).trans rfl
          have f12_4_2 : w12.frozen? ⟨gx, 2, none⟩ = false := blk_frozen (O12.out.blk (i := 4) rfl) 2
          have n12_0_2 : g ≠ g1 := O12.out.ne (i := 0) (j := 2) rfl rfl (by decide)
          have n12_0_4 : g ≠ gx := O12.out.ne (i := 0) (j := 4) rfl rfl (by decide)
          have n12_2_0 : g1 ≠ g := O12.out.ne (i := 2) (j := 0) rfl rfl (by decide)
          have n12_2_4 : g1 ≠ gx := O12.out.ne (i := 2) (j := 4) rfl rfl (by decide)
          have n12_4_0 : gx ≠ g := O12.out.ne (i := 4) (j := 0) rfl rfl (by decide)
          have n12_4_2 : gx ≠ g1 := O12.out.ne (i := 4) (j := 2) rfl rfl (by decide)
          clear o_ k_
          clear hHeld
          refine hK_.out _ _ ⟨((blk_cell (O12.out.blk (i := 0) rfl) 0).trans rfl), ((blk_cell (O12.out.blk (i := 0) rfl) 1).trans rfl), ((blk_cell (O12.out.blk (i := 0) rfl) 2).trans rfl), ((blk_cell (O12.out.blk (i := 4) rfl) 0).trans rfl), ((blk_cell (O12.out.blk (i := 4) rfl) 1).trans rfl), ((blk_cell (O12.out.blk (i := 4) rfl) 2).trans rfl)⟩ (fun hHeld => ?_)
          clear hK_ K_
          refine norm_ (a' := ?_) ?_ ?_
          rotate_left
          · simp only [Act.put, List.setIfInBounds_toArray, List.set_cons_zero, List.set_cons_succ, i64_w, i32_w]
            rfl
          refine one_ (i := 8) (N := some 47) #[true, true, true, true, true, true, true, true, true, false, false, false, false] rfl rfl (by kernel_rfl) (by decide) (fun K_ hK_ => ?_)
          refine own_lit1_step (p := (⟨o, (L.length : Int) + 1, ups⟩ : Rnd)) (cs := [.int .i64 (⟨o, (L.length : Int) + 1, ups⟩ : Rnd).f0, .int .i64 (⟨o, (L.length : Int) + 1, ups⟩ : Rnd).f1, .slice B2 ups.length d2]) (e := 32) k32 O12.out (j := 3) rfl rfl rfl ?hr ?_
          (case hr => first | (go_simp; done) | (go_simp; rfl))
          intro D1 h1 w13 o_ k_
          have O13 : Aside0 (Own N w13 [cells g #[.int .i64 o, .int .i64 m, .slice A0 L.length c0] 42, emp, cells g1 #[.int .i64 0, .int .i64 0, .slice none 0 0] 32, both (nrow k32 32 (.slice D1 1 h1) [(⟨o, (L.length : Int) + 1, ups⟩ : Rnd)]) (rd k50 B2 ups.length ups), cells gx #[.int .i64 o, .int .i64 ((L.length : Int) + 1), .slice B2 ups.length d2] 32, nrow k32 32 (.slice C2 L.length e2) L]) := ⟨o_⟩
          have K13 : Aside0 (KeepS N w9 w13) := ⟨K12.out.trans k_⟩
          have HR_13 : Aside0 (Kd.F k50 w13 N B ups.length ups) := ⟨keepF HR_12.out k_⟩
          clear c12_0_0 f12_0_0 c12_0_1 f12_0_1 c12_0_2 f12_0_2 c12_2_0 f12_2_0 c12_2_1 f12_2_1 c12_2_2 f12_2_2 c12_4_0 f12_4_0 c12_4_1 f12_4_1 c12_4_2 f12_4_2 n12_0_2 n12_0_4 n12_2_0 n12_2_4 n12_4_0 n12_4_2 O12 K12 HR_12
          have c13_0_0 : w13.cell? ⟨g, 0, none⟩ = some (.int .i64 o) := (blk_cell (O13.out.blk (i := 0) rfl) 0).trans rfl
          have f13_0_0 : w13.frozen? ⟨g, 0, none⟩ = false := blk_frozen (O13.out.blk (i := 0) rfl) 0
          have c13_0_1 : w13.cell? ⟨g, 1, none⟩ = some (.int .i64 m) := (blk_cell (O13.out.blk (i := 0) rfl) 1).trans rfl
          have f13_0_1 : w13.frozen? ⟨g, 1, none⟩ = false := blk_frozen (O13.out.blk (i := 0) rfl) 1
          have c13_0_2 : w13.cell? ⟨g, 2, none⟩ = some (.slice A0 L.length c0) := (blk_cell (O13.out.blk (i := 0) rfl) 2).trans rfl
          have f13_0_2 : w13.frozen? ⟨g, 2, none⟩ = false := blk_frozen (O13.out.blk (i := 0) rfl) 2
          have c13_2_0 : w13.cell? ⟨g1, 0, none⟩ = some (.int .i64 0) := (blk_cell (O13.out.blk (i := 2) rfl) 0).trans rfl
          have f13_2_0 : w13.frozen? ⟨g1, 0, none⟩ = false := blk_frozen (O13.out.blk (i := 2) rfl) 0
          have c13_2_1 : w13.cell? ⟨g1, 1, none⟩ = some (.int .i64 0) := (blk_cell (O13.out.blk (i := 2) rfl) 1).trans rfl
          have f13_2_1 : w13.frozen? ⟨g1, 1, none⟩ = false := blk_frozen (O13.out.blk (i := 2) rfl) 1
          have c13_2_2 : w13.cell? ⟨g1, 2, none⟩ = some (.slice none 0 0) := (blk_cell (O13.out.blk (i := 2) rfl) 2).trans rfl
          have f13_2_2 : w13.frozen? ⟨g1, 2, none⟩ = false := blk_frozen (O13.out.blk (i := 2) rfl) 2
          have c13_4_0 : w13.cell? ⟨gx, 0, none⟩ = some (.int .i64 o) := (blk_cell (O13.out.blk (i := 4) rfl) 0).trans rfl
          have f13_4_0 : w13.frozen? ⟨gx, 0, none⟩ = false := blk_frozen (O13.out.blk (i := 4) rfl) 0
          have c13_4_1 : w13.cell? ⟨gx, 1, none⟩ = some (.int .i64 ((L.length : Int) + 1)) := (blk_cell (O13.out.blk (i := 4) rfl) 1).trans rfl
          have f13_4_1 : w13.frozen? ⟨gx, 1, none⟩ = false := blk_frozen (O13.out.blk (i := 4) rfl) 1
          have c13_4_2 : w13.cell? ⟨gx, 2, none⟩ = some (.slice B2 ups.length d2) := (blk_cell (O13.out.blk (i := 4) rfl) 2).trans rfl
          have f13_4_2 : w13.frozen? ⟨gx, 2, none⟩ = false := blk_frozen (O13.out.blk (i := 4) rfl) 2
          have n13_0_2 : g ≠ g1 := O13.out.ne (i := 0) (j := 2) rfl rfl (by decide)
          have n13_0_4 : g ≠ gx := O13.out.ne (i := 0) (j := 4) rfl rfl (by decide)
          have n13_2_0 : g1 ≠ g := O13.out.ne (i := 2) (j := 0) rfl rfl (by decide)
          have n13_2_4 : g1 ≠ gx := O13.out.ne (i := 2) (j := 4) rfl rfl (by decide)
          have n13_4_0 : gx ≠ g := O13.out.ne (i := 4) (j := 0) rfl rfl (by decide)
          have n13_4_2 : gx ≠ g1 := O13.out.ne (i := 4) (j := 2) rfl rfl (by decide)
          clear o_ k_
          clear hHeld
          refine hK_.out _ _ ⟨((blk_cell (O13.out.blk (i := 0) rfl) 0).trans rfl), ((blk_cell (O13.out.blk (i := 0) rfl) 1).trans rfl), ((blk_cell (O13.out.blk (i := 0) rfl) 2).trans rfl), ((blk_cell (O13.out.blk (i := 4) rfl) 0).trans rfl), ((blk_cell (O13.out.blk (i := 4) rfl) 1).trans rfl), ((blk_cell (O13.out.blk (i := 4) rfl) 2).trans rfl)⟩ (fun hHeld => ?_)
          clear hK_ K_
          refine norm_ (a' := ?_) ?_ ?_
          rotate_left
          · simp only [Act.put, List.setIfInBounds_toArray, List.set_cons_zero, List.set_cons_succ, i64_w, i32_w]
            rfl
          refine norm_ (a' := _) ?_ (hc_ ⟨C1, e1, C2, e2, D1, h1⟩ _ ⟨?_, K13.out⟩)
          · simp only [putAll, Act.put, List.setIfInBounds_toArray, List.set_cons_zero, List.set_cons_succ]
            try rfl
          · exact O13.out.pickL [0, 1, 2, 3, 4, 5] (by decide) (by simp)
        · skip
          refine own_lit1_step (p := (⟨o, (L.length : Int) + 1, ups⟩ : Rnd)) (cs := [.int .i64 (⟨o, (L.length : Int) + 1, ups⟩ : Rnd).f0, .int .i64 (⟨o, (L.length : Int) + 1, ups⟩ : Rnd).f1, .slice B2 ups.length d2]) (e := 32) k32 O11.out (j := 3) rfl rfl rfl ?hr ?_
          (case hr => first | (go_simp; done) | (go_simp; rfl))
          intro D1 h1 w12 o_ k_
          have O12 : Aside0 (Own N w12 [cells g #[.int .i64 o, .int .i64 m, .slice A0 L.length c0] 42, rd k32 A0 L.length L, cells g1 #[.int .i64 0, .int .i64 0, .slice none 0 0] 32, both (nrow k32 32 (.slice D1 1 h1) [(⟨o, (L.length : Int) + 1, ups⟩ : Rnd)]) (rd k50 B2 ups.length ups), cells gx #[.int .i64 o, .int .i64 ((L.length : Int) + 1), .slice B2 ups.length d2] 32, nrow k32 32 (.slice C1 0 e1) []]) := ⟨o_⟩
          have K12 : Aside0 (KeepS N w9 w12) := ⟨K11.out.trans k_⟩
          have HR_12 : Aside0 (Kd.F k50 w12 N B ups.length ups) := ⟨keepF HR_11.out k_⟩
          clear c11_0_0 f11_0_0 c11_0_1 f11_0_1 c11_0_2 f11_0_2 c11_2_0 f11_2_0 c11_2_1 f11_2_1 c11_2_2 f11_2_2 c11_4_0 f11_4_0 c11_4_1 f11_4_1 c11_4_2 f11_4_2 n11_0_2 n11_0_4 n11_2_0 n11_2_4 n11_4_0 n11_4_2 O11 K11 HR_11
          have c12_0_0 : w12.cell? ⟨g, 0, none⟩ = some (.int .i64 o) := (blk_cell (O12.out.blk (i := 0) rfl) 0).trans rfl
          have f12_0_0 : w12.frozen? ⟨g, 0, none⟩ = false := blk_frozen (O12.out.blk (i := 0) rfl) 0
          have c12_0_1 : w12.cell? ⟨g, 1, none⟩ = some (.int .i64 m) := (blk_cell (O12.out.blk (i := 0) rfl) 1).trans rfl
          have f12_0_1 : w12.frozen? ⟨g, 1, none⟩ = false := blk_frozen (O12.out.blk (i := 0) rfl) 1
          have c12_0_2 : w12.cell? ⟨g, 2, none⟩ = some (.slice A0 L.length c0) := (blk_cell (O12.out.blk (i := 0) rfl) 2).trans rfl
          have f12_0_2 : w12.frozen? ⟨g, 2, none⟩ = false := blk_frozen (O12.out.blk (i := 0) rfl) 2
          have c12_2_0 : w12.cell? ⟨g1, 0, none⟩ = some (.int .i64 0) := (blk_cell (O12.out.blk (i := 2) rfl) 0).trans rfl
          have f12_2_0 : w12.frozen? ⟨g1, 0, none⟩ = false := blk_frozen (O12.out.blk (i := 2) rfl) 0
          have c12_2_1 : w12.cell? ⟨g1, 1, none⟩ = some (.int .i64 0) := (blk_cell (O12.out.blk (i := 2) rfl) 1).trans rfl
          have f12_2_1 : w12.frozen? ⟨g1, 1, none⟩ = false := blk_frozen (O12.out.blk (i := 2) rfl) 1
          have c12_2_2 : w12.cell? ⟨g1, 2, none⟩ = some (.slice none 0 0) := (blk_cell (O12.out.blk (i := 2) rfl) 2).trans rfl
          have f12_2_2 : w12.frozen? ⟨g1, 2, none⟩ = false := blk_frozen (O12.out.blk (i := 2) rfl) 2
          have c12_4_0 : w12.cell? ⟨gx, 0, none⟩ = some (.int .i64 o) := (blk_cell (O12.out.blk (i := 4) rfl) 0).trans rfl
          have f12_4_0 : w12.frozen? ⟨gx, 0, none⟩ = false := blk_frozen (O12.out.blk (i := 4) rfl) 0
          have c12_4_1 : w12.cell? ⟨gx, 1, none⟩ = some (.int .i64 ((L.length : Int) + 1)) := (blk_cell (O12.out.blk (i := 4) rfl) 1).trans rfl
          have f12_4_1 : w12.frozen? ⟨gx, 1, none⟩ = false := blk_frozen (O12.out.blk (i := 4) rfl) 1
          have c12_4_2 : w12.cell? ⟨gx, 2, none⟩ = some (.slice B2 ups.length d2) := (blk_cell (O12.out.blk (i := 4) rfl) 2).trans rfl
          have f12_4_2 : w12.frozen? ⟨gx, 2, none⟩ = false := blk_frozen (O12.out.blk (i := 4) rfl) 2
          have n12_0_2 : g ≠ g1 := O12.out.ne (i := 0) (j := 2) rfl rfl (by decide)
          have n12_0_4 : g ≠ gx := O12.out.ne (i := 0) (j := 4) rfl rfl (by decide)
          have n12_2_0 : g1 ≠ g := O12.out.ne (i := 2) (j := 0) rfl rfl (by decide)
          have n12_2_4 : g1 ≠ gx := O12.out.ne (i := 2) (j := 4) rfl rfl (by decide)
          have n12_4_0 : gx ≠ g := O12.out.ne (i := 4) (j := 0) rfl rfl (by decide)
          have n12_4_2 : gx ≠ g1 := O12.out.ne (i := 4) (j := 2) rfl rfl (by decide)
          clear o_ k_
          clear hHeld
          refine hK_.out _ _ ⟨((blk_cell (O12.out.blk (i := 0) rfl) 0).trans rfl), ((blk_cell (O12.out.blk (i := 0) rfl) 1).trans rfl), ((blk_cell (O12.out.blk (i := 0) rfl) 2).trans rfl), ((blk_cell (O12.out.blk (i := 4) rfl) 0).trans rfl), ((blk_cell (O12.out.blk (i := 4) rfl) 1).trans rfl), ((blk_cell (O12.out.blk (i := 4) rfl) 2).trans rfl)⟩ (fun hHeld => ?_)
          clear hK_ K_
          refine norm_ (a' := ?_) ?_ ?_
          rotate_left
          · simp only [Act.put, List.setIfInBounds_toArray, List.set_cons_zero, List.set_cons_succ, i64_w, i32_w]
            rfl
          refine one_ (i := 6) (N := some 45) #[true, true, true, true, true, true, true, true, true, false, false, false, false] rfl rfl (by kernel_rfl) (by decide) (fun K_ hK_ => ?_)
          refine Own.append_rows_step k32 O12.out (i := 5) (j := 1) rfl rfl (by decide) rfl rfl (.tmp 40) (.tmp 44) 40 (.agg #[.int .i64 0, .int .i64 0, .slice none 0 0]) 40 rfl Try.underlying40 infoR rfl (by decide) (by decide) rfl rfl (by have := HL.out; simp only [List.length_nil]; omega) ?_
          intro C2 e2 w13 o_ k_
          have O13 : Aside0 (Own N w13 [cells g #[.int .i64 o, .int .i64 m, .slice A0 L.length c0] 42, emp, cells g1 #[.int .i64 0, .int .i64 0, .slice none 0 0] 32, both (nrow k32 32 (.slice D1 1 h1) [(⟨o, (L.length : Int) + 1, ups⟩ : Rnd)]) (rd k50 B2 ups.length ups), cells gx #[.int .i64 o, .int .i64 ((L.length : Int) + 1), .slice B2 ups.length d2] 32, nrow k32 32 (.slice C2 L.length e2) L]) := ⟨o_⟩
          have K13 : Aside0 (KeepS N w9 w13) := ⟨K12.out.trans k_⟩
          have HR_13 : Aside0 (Kd.F k50 w13 N B ups.length ups) := ⟨keepF HR_12.out k_⟩
          clear c12_0_0 f12_0_0 c12_0_1 f12_0_1 c12_0_2 f12_0_2 c12_2_0 f12_2_0 c12_2_1 f12_2_1 c12_2_2 f12_2_2 c12_4_0 f12_4_0 c12_4_1 f12_4_1 c12_4_2 f12_4_2 n12_0_2 n12_0_4 n12_2_0 n12_2_4 n12_4_0 n12_4_2 O12 K12 HR_12
          have c13_0_0 : w13.cell? ⟨g, 0, none⟩ = some (.int .i64 o) := (blk_cell (O13.out.blk (i := 0) rfl) 0).trans rfl
          have f13_0_0 : w13.frozen? ⟨g, 0, none⟩ = false := blk_frozen (O13.out.blk (i := 0) rfl) 0
          have c13_0_1 : w13.cell? ⟨g, 1, none⟩ = some (.int .i64 m) := (blk_cell (O13.out.blk (i := 0) rfl) 1).trans rfl
          have f13_0_1 : w13.frozen? ⟨g, 1, none⟩ = false := blk_frozen (O13.out.blk (i := 0) rfl) 1
          have c13_0_2 : w13.cell? ⟨g, 2, none⟩ = some (.slice A0 L.length c0) := (blk_cell (O13.out.blk (i := 0) rfl) 2).trans rfl
          have f13_0_2 : w13.frozen? ⟨g, 2, none⟩ = false := blk_frozen (O13.out.blk (i := 0) rfl) 2
          have c13_2_0 : w13.cell? ⟨g1, 0, none⟩ = some (.int .i64 0) := (blk_cell (O13.out.blk (i := 2) rfl) 0).trans rfl
          have f13_2_0 : w13.frozen? ⟨g1, 0, none⟩ = false := blk_frozen (O13.out.blk (i := 2) rfl) 0
          have c13_2_1 : w13.cell? ⟨g1, 1, none⟩ = some (.int .i64 0) := (blk_cell (O13.out.blk (i := 2) rfl) 1).trans rfl
          have f13_2_1 : w13.frozen? ⟨g1, 1, none⟩ = false := blk_frozen (O13.out.blk (i := 2) rfl) 1
          have c13_2_2 : w13.cell? ⟨g1, 2, none⟩ = some (.slice none 0 0) := (blk_cell (O13.out.blk (i := 2) rfl) 2).trans rfl
          have f13_2_2 : w13.frozen? ⟨g1, 2, none⟩ = false := blk_frozen (O13.out.blk (i := 2) rfl) 2
          have c13_4_0 : w13.cell? ⟨gx, 0, none⟩ = some (.int .i64 o) := (blk_cell (O13.out.blk (i := 4) rfl) 0).trans rfl
          have f13_4_0 : w13.frozen? ⟨gx, 0, none⟩ = false := blk_frozen (O13.out.blk (i := 4) rfl) 0
          have c13_4_1 : w13.cell? ⟨gx, 1, none⟩ = some (.int .i64 ((L.length : Int) + 1)) := (blk_cell (O13.out.blk (i := 4) rfl) 1).trans rfl
          have f13_4_1 : w13.frozen? ⟨gx, 1, none⟩ = false := blk_frozen (O13.out.blk (i := 4) rfl) 1
          have c13_4_2 : w13.cell? ⟨gx, 2, none⟩ = some (.slice B2 ups.length d2) := (blk_cell (O13.out.blk (i := 4) rfl) 2).trans rfl
          have f13_4_2 : w13.frozen? ⟨gx, 2, none⟩ = false := blk_frozen (O13.out.blk (i := 4) rfl) 2
          have n13_0_2 : g ≠ g1 := O13.out.ne (i := 0) (j := 2) rfl rfl (by decide)
          have n13_0_4 : g ≠ gx := O13.out.ne (i := 0) (j := 4) rfl rfl (by decide)
          have n13_2_0 : g1 ≠ g := O13.out.ne (i := 2) (j := 0) rfl rfl (by decide)
          have n13_2_4 : g1 ≠ gx := O13.out.ne (i := 2) (j := 4) rfl rfl (by decide)
          have n13_4_0 : gx ≠ g := O13.out.ne (i := 4) (j := 0) rfl rfl (by decide)
          have n13_4_2 : gx ≠ g1 := O13.out.ne (i := 4) (j := 2) rfl rfl (by decide)
          clear o_ k_
          clear hHeld
          refine hK_.out _ _ ⟨((blk_cell (O13.out.blk (i := 0) rfl) 0).trans rfl), ((blk_cell (O13.out.blk (i := 0) rfl) 1).trans rfl), ((blk_cell (O13.out.blk (i := 0) rfl) 2).trans rfl), ((blk_cell (O13.out.blk (i := 4) rfl) 0).trans rfl), ((blk_cell (O13.out.blk (i := 4) rfl) 1).trans rfl), ((blk_cell (O13.out.blk (i := 4) rfl) 2).trans rfl)⟩ (fun hHeld => ?_)
          clear hK_ K_
          refine norm_ (a' := ?_) ?_ ?_
          rotate_left
          · simp only [Act.put, List.setIfInBounds_toArray, List.set_cons_zero, List.set_cons_succ, i64_w, i32_w]
            rfl
          refine norm_ (a' := _) ?_ (hc_ ⟨C1, e1, C2, e2, D1, h1⟩ _ ⟨?_, K13.out⟩)
          · simp only [putAll, Act.put, List.setIfInBounds_toArray, List.set_cons_zero, List.set_cons_succ]
            try rfl
          · exact O13.out.pickL [0, 1, 2, 3, 4, 5] (by decide) (by simp)
      · skip
        refine own_lit1_step (p := (⟨o, (L.length : Int) + 1, ups⟩ : Rnd)) (cs := [.int .i64 (⟨o, (L.length : Int) + 1, ups⟩ : Rnd).f0, .int .i64 (⟨o, (L.length : Int) + 1, ups⟩ : Rnd).f1, .slice B2 ups.length d2]) (e := 32) k32 O10.out (j := 3) rfl rfl rfl ?hr ?_
        (case hr => first | (go_simp; done) | (go_simp; rfl))
        intro D1 h1 w11 o_ k_
        have O11 : Aside0 (Own N w11 [cells g #[.int .i64 o, .int .i64 m, .slice A0 L.length c0] 42, rd k32 A0 L.length L, cells g1 #[.int .i64 0, .int .i64 0, .slice none 0 0] 32, both (nrow k32 32 (.slice D1 1 h1) [(⟨o, (L.length : Int) + 1, ups⟩ : Rnd)]) (rd k50 B2 ups.length ups), cells gx #[.int .i64 o, .int .i64 ((L.length : Int) + 1), .slice B2 ups.length d2] 32]) := ⟨o_⟩
        have K11 : Aside0 (KeepS N w9 w11) := ⟨K10.out.trans k_⟩
        have HR_11 : Aside0 (Kd.F k50 w11 N B ups.length ups) := ⟨keepF HR_9.out k_⟩
        clear c9_0_0 f9_0_0 c9_0_1 f9_0_1 c9_0_2 f9_0_2 c9_2_0 f9_2_0 c9_2_1 f9_2_1 c9_2_2 f9_2_2 c9_4_0 f9_4_0 c9_4_1 f9_4_1 c9_4_2 f9_4_2 n9_0_2 n9_0_4 n9_2_0 n9_2_4 n9_4_0 n9_4_2 O10 K10 HR_9
        have c11_0_0 : w11.cell? ⟨g, 0, none⟩ = some (.int .i64 o) := (blk_cell (O11.out.blk (i := 0) rfl) 0).trans rfl
        have f11_0_0 : w11.frozen? ⟨g, 0, none⟩ = false := blk_frozen (O11.out.blk (i := 0) rfl) 0
        have c11_0_1 : w11.cell? ⟨g, 1, none⟩ = some (.int .i64 m) := (blk_cell (O11.out.blk (i := 0) rfl) 1).trans rfl
        have f11_0_1 : w11.frozen? ⟨g, 1, none⟩ = false := blk_frozen (O11.out.blk (i := 0) rfl) 1
        have c11_0_2 : w11.cell? ⟨g, 2, none⟩ = some (.slice A0 L.length c0) := (blk_cell (O11.out.blk (i := 0) rfl) 2).trans rfl
        have f11_0_2 : w11.frozen? ⟨g, 2, none⟩ = false := blk_frozen (O11.out.blk (i := 0) rfl) 2
        have c11_2_0 : w11.cell? ⟨g1, 0, none⟩ = some (.int .i64 0) := (blk_cell (O11.out.blk (i := 2) rfl) 0).trans rfl
        have f11_2_0 : w11.frozen? ⟨g1, 0, none⟩ = false := blk_frozen (O11.out.blk (i := 2) rfl) 0
        have c11_2_1 : w11.cell? ⟨g1, 1, none⟩ = some (.int .i64 0) := (blk_cell (O11.out.blk (i := 2) rfl) 1).trans rfl
        have f11_2_1 : w11.frozen? ⟨g1, 1, none⟩ = false := blk_frozen (O11.out.blk (i := 2) rfl) 1
        have c11_2_2 : w11.cell? ⟨g1, 2, none⟩ = some (.slice none 0 0) := (blk_cell (O11.out.blk (i := 2) rfl) 2).trans rfl
        have f11_2_2 : w11.frozen? ⟨g1, 2, none⟩ = false := blk_frozen (O11.out.blk (i := 2) rfl) 2
        have c11_4_0 : w11.cell? ⟨gx, 0, none⟩ = some (.int .i64 o) := (blk_cell (O11.out.blk (i := 4) rfl) 0).trans rfl
        have f11_4_0 : w11.frozen? ⟨gx, 0, none⟩ = false := blk_frozen (O11.out.blk (i := 4) rfl) 0
        have c11_4_1 : w11.cell? ⟨gx, 1, none⟩ = some (.int .i64 ((L.length : Int) + 1)) := (blk_cell (O11.out.blk (i := 4) rfl) 1).trans rfl
        have f11_4_1 : w11.frozen? ⟨gx, 1, none⟩ = false := blk_frozen (O11.out.blk (i := 4) rfl) 1
        have c11_4_2 : w11.cell? ⟨gx, 2, none⟩ = some (.slice B2 ups.length d2) := (blk_cell (O11.out.blk (i := 4) rfl) 2).trans rfl
        have f11_4_2 : w11.frozen? ⟨gx, 2, none⟩ = false := blk_frozen (O11.out.blk (i := 4) rfl) 2
        have n11_0_2 : g ≠ g1 := O11.out.ne (i := 0) (j := 2) rfl rfl (by decide)
        have n11_0_4 : g ≠ gx := O11.out.ne (i := 0) (j := 4) rfl rfl (by decide)
        have n11_2_0 : g1 ≠ g := O11.out.ne (i := 2) (j := 0) rfl rfl (by decide)
        have n11_2_4 : g1 ≠ gx := O11.out.ne (i := 2) (j := 4) rfl rfl (by decide)
        have n11_4_0 : gx ≠ g := O11.out.ne (i := 4) (j := 0) rfl rfl (by decide)
        have n11_4_2 : gx ≠ g1 := O11.out.ne (i := 4) (j := 2) rfl rfl (by decide)
        clear o_ k_
        clear hHeld
        refine hK_.out _ _ ⟨((blk_cell (O11.out.blk (i := 0) rfl) 0).trans rfl), ((blk_cell (O11.out.blk (i := 0) rfl) 1).trans rfl), ((blk_cell (O11.out.blk (i := 0) rfl) 2).trans rfl), ((blk_cell (O11.out.blk (i := 4) rfl) 0).trans rfl), ((blk_cell (O11.out.blk (i := 4) rfl) 1).trans rfl), ((blk_cell (O11.out.blk (i := 4) rfl) 2).trans rfl)⟩ (fun hHeld => ?_)
        clear hK_ K_
        refine norm_ (a' := ?_) ?_ ?_
        rotate_left
        · simp only [Act.put, List.setIfInBounds_toArray, List.set_cons_zero, List.set_cons_succ, i64_w, i32_w]
          rfl
        refine one_ (i := 1) (N := some 40) #[true, true, true, true, true, true, false, true, true, false, false, false, false] rfl rfl (by kernel_rfl) (by decide) (fun K_ hK_ => ?_)
        refine own_lit_step k32 (N := N) (e := 32) (xs := []) (inner := []) rfl rfl ?hr (Reps.none _ _) (by simp) O11.out ?_
        (case hr => first | (go_simp; done) | (go_simp; rfl))
        intro C1 e1 w12 o_ k_
        have O12 : Aside0 (Own N w12 [cells g #[.int .i64 o, .int .i64 m, .slice A0 L.length c0] 42, rd k32 A0 L.length L, cells g1 #[.int .i64 0, .int .i64 0, .slice none 0 0] 32, both (nrow k32 32 (.slice D1 1 h1) [(⟨o, (L.length : Int) + 1, ups⟩ : Rnd)]) (rd k50 B2 ups.length ups), cells gx #[.int .i64 o, .int .i64 ((L.length : Int) + 1), .slice B2 ups.length d2] 32, nrow k32 32 (.slice C1 0 e1) []]) := ⟨o_⟩
        have K12 : Aside0 (KeepS N w9 w12) := ⟨K11.out.trans k_⟩
        have HR_12 : Aside0 (Kd.F k50 w12 N B ups.length ups) := ⟨keepF HR_11.out k_⟩
        clear c11_0_0 f11_0_0 c11_0_1 f11_0_1 c11_0_2 f11_0_2 c11_2_0 f11_2_0 c11_2_1 f11_2_1 c11_2_2 f11_2_2 c11_4_0 f11_4_0 c11_4_1 f11_4_1 c11_4_2 f11_4_2 n11_0_2 n11_0_4 n11_2_0 n11_2_4 n11_4_0 n11_4_2 O11 K11 HR_11
        have c12_0_0 : w12.cell? ⟨g, 0, none⟩ = some (.int .i64 o) := (blk_cell (O12.out.blk (i := 0) rfl) 0).trans rfl
        have f12_0_0 : w12.frozen? ⟨g, 0, none⟩ = false := blk_frozen (O12.out.blk (i := 0) rfl) 0
        have c12_0_1 : w12.cell? ⟨g, 1, none⟩ = some (.int .i64 m) := (blk_cell (O12.out.blk (i := 0) rfl) 1).trans rfl
        have f12_0_1 : w12.frozen? ⟨g, 1, none⟩ = false := blk_frozen (O12.out.blk (i := 0) rfl) 1
        have c12_0_2 : w12.cell? ⟨g, 2, none⟩ = some (.slice A0 L.length c0) := (blk_cell (O12.out.blk (i := 0) rfl) 2).trans rfl
        have f12_0_2 : w12.frozen? ⟨g, 2, none⟩ = false := blk_frozen (O12.out.blk (i := 0) rfl) 2
        have c12_2_0 : w12.cell? ⟨g1, 0, none⟩ = some (.int .i64 0) := (blk_cell (O12.out.blk (i := 2) rfl) 0).trans rfl
        have f12_2_0 : w12.frozen? ⟨g1, 0, none⟩ = false := blk_frozen (O12.out.blk (i := 2) rfl) 0
        have c12_2_1 : w12.cell? ⟨g1, 1, none⟩ = some (.int .i64 0) := (blk_cell (O12.out.blk (i := 2) rfl) 1).trans rfl
        have f12_2_1 : w12.frozen? ⟨g1, 1, none⟩ = false := blk_frozen (O12.out.blk (i := 2) rfl) 1
        have c12_2_2 : w12.cell? ⟨g1, 2, none⟩ = some (.slice none 0 0) := (blk_cell (O12.out.blk (i := 2) rfl) 2).trans rfl
        have f12_2_2 : w12.frozen? ⟨g1, 2, none⟩ = false := blk_frozen (O12.out.blk (i := 2) rfl) 2
        have c12_4_0 : w12.cell? ⟨gx, 0, none⟩ = some (.int .i64 o) := (blk_cell (O12.out.blk (i := 4) rfl) 0).trans rfl
        have f12_4_0 : w12.frozen? ⟨gx, 0, none⟩ = false := blk_frozen (O12.out.blk (i := 4) rfl) 0
        have c12_4_1 : w12.cell? ⟨gx, 1, none⟩ = some (.int .i64 ((L.length : Int) + 1)) := (blk_cell (O12.out.blk (i := 4) rfl) 1).trans rfl
        have f12_4_1 : w12.frozen? ⟨gx, 1, none⟩ = false := blk_frozen (O12.out.blk (i := 4) rfl) 1
        have c12_4_2 : w12.cell? ⟨gx, 2, none⟩ = some (.slice B2 ups.length d2) := (blk_cell (O12.out.blk (i := 4) rfl) 2).trans rfl
        have f12_4_2 : w12.frozen? ⟨gx, 2, none⟩ = false := blk_frozen (O12.out.blk (i := 4) rfl) 2
        have n12_0_2 : g ≠ g1 := O12.out.ne (i := 0) (j := 2) rfl rfl (by decide)
        have n12_0_4 : g ≠ gx := O12.out.ne (i := 0) (j := 4) rfl rfl (by decide)
        have n12_2_0 : g1 ≠ g := O12.out.ne (i := 2) (j := 0) rfl rfl (by decide)
        have n12_2_4 : g1 ≠ gx := O12.out.ne (i := 2) (j := 4) rfl rfl (by decide)
        have n12_4_0 : gx ≠ g := O12.out.ne (i := 4) (j := 0) rfl rfl (by decide)
        have n12_4_2 : gx ≠ g1 := O12.out.ne (i := 4) (j := 2) rfl rfl (by decide)
        clear o_ k_
        clear hHeld
        refine hK_.out _ _ ⟨((blk_cell (O12.out.blk (i := 0) rfl) 0).trans rfl), ((blk_cell (O12.out.blk (i := 0) rfl) 1).trans rfl), ((blk_cell (O12.out.blk (i := 0) rfl) 2).trans rfl), ((blk_cell (O12.out.blk (i := 4) rfl) 0).trans rfl), ((blk_cell (O12.out.blk (i := 4) rfl) 1).trans rfl), ((blk_cell (O12.out.blk (i := 4) rfl) 2).trans rfl)⟩ (fun hHeld => ?_)
        clear hK_ K_
        refine norm_ (a' := ?_) ?_ ?_
        rotate_left
        · simp only [Act.put, List.setIfInBounds_toArray, List.set_cons_zero, List.set_cons_succ, i64_w, i32_w]
          rfl
        refine one_ (i := 6) (N := some 45) #[true, true, true, true, true, true, true, true, true, false, false, false, false] rfl rfl (by kernel_rfl) (by decide) (fun K_ hK_ => ?_)
        refine Own.append_rows_step k32 O12.out (i := 5) (j := 1) rfl rfl (by decide) rfl rfl (.tmp 40) (.tmp 44) 40 (.agg #[.int .i64 0, .int .i64 0, .slice none 0 0]) 40 rfl Try.underlying40 infoR rfl (by decide) (by decide) rfl rfl (by have := HL.out; simp only [List.length_nil]; omega) ?_
        intro C2 e2 w13 o_ k_
        have O13 : Aside0 (Own N w13 [cells g #[.int .i64 o, .int .i64 m, .slice A0 L.length c0] 42, emp, cells g1 #[.int .i64 0, .int .i64 0, .slice none 0 0] 32, both (nrow k32 32 (.slice D1 1 h1) [(⟨o, (L.length : Int) + 1, ups⟩ : Rnd)]) (rd k50 B2 ups.length ups), cells gx #[.int .i64 o, .int .i64 ((L.length : Int) + 1), .slice B2 ups.length d2] 32, nrow k32 32 (.slice C2 L.length e2) L]) := ⟨o_⟩
        have K13 : Aside0 (KeepS N w9 w13) := ⟨K12.out.trans k_⟩
        have HR_13 : Aside0 (Kd.F k50 w13 N B ups.length ups) := ⟨keepF HR_12.out k_⟩
        clear c12_0_0 f12_0_0 c12_0_1 f12_0_1 c12_0_2 f12_0_2 c12_2_0 f12_2_0 c12_2_1 f12_2_1 c12_2_2 f12_2_2 c12_4_0 f12_4_0 c12_4_1 f12_4_1 c12_4_2 f12_4_2 n12_0_2 n12_0_4 n12_2_0 n12_2_4 n12_4_0 n12_4_2 O12 K12 HR_12
        have c13_0_0 : w13.cell? ⟨g, 0, none⟩ = some (.int .i64 o) := (blk_cell (O13.out.blk (i := 0) rfl) 0).trans rfl
        have f13_0_0 : w13.frozen? ⟨g, 0, none⟩ = false := blk_frozen (O13.out.blk (i := 0) rfl) 0
        have c13_0_1 : w13.cell? ⟨g, 1, none⟩ = some (.int .i64 m) := (blk_cell (O13.out.blk (i := 0) rfl) 1).trans rfl
        have f13_0_1 : w13.frozen? ⟨g, 1, none⟩ = false := blk_frozen (O13.out.blk (i := 0) rfl) 1
        have c13_0_2 : w13.cell? ⟨g, 2, none⟩ = some (.slice A0 L.length c0) := (blk_cell (O13.out.blk (i := 0) rfl) 2).trans rfl
        have f13_0_2 : w13.frozen? ⟨g, 2, none⟩ = false := blk_frozen (O13.out.blk (i := 0) rfl) 2
        have c13_2_0 : w13.cell? ⟨g1, 0, none⟩ = some (.int .i64 0) := (blk_cell (O13.out.blk (i := 2) rfl) 0).trans rfl
        have f13_2_0 : w13.frozen? ⟨g1, 0, none⟩ = false := blk_frozen (O13.out.blk (i := 2) rfl) 0
        have c13_2_1 : w13.cell? ⟨g1, 1, none⟩ = some (.int .i64 0) := (blk_cell (O13.out.blk (i := 2) rfl) 1).trans rfl
        have f13_2_1 : w13.frozen? ⟨g1, 1, none⟩ = false := blk_frozen (O13.out.blk (i := 2) rfl) 1
        have c13_2_2 : w13.cell? ⟨g1, 2, none⟩ = some (.slice none 0 0) := (blk_cell (O13.out.blk (i := 2) rfl) 2).trans rfl
        have f13_2_2 : w13.frozen? ⟨g1, 2, none⟩ = false := blk_frozen (O13.out.blk (i := 2) rfl) 2
        have c13_4_0 : w13.cell? ⟨gx, 0, none⟩ = some (.int .i64 o) := (blk_cell (O13.out.blk (i := 4) rfl) 0).trans rfl
        have f13_4_0 : w13.frozen? ⟨gx, 0, none⟩ = false := blk_frozen (O13.out.blk (i := 4) rfl) 0
        have c13_4_1 : w13.cell? ⟨gx, 1, none⟩ = some (.int .i64 ((L.length : Int) + 1)) := (blk_cell (O13.out.blk (i := 4) rfl) 1).trans rfl
        have f13_4_1 : w13.frozen? ⟨gx, 1, none⟩ = false := blk_frozen (O13.out.blk (i := 4) rfl) 1
        have c13_4_2 : w13.cell? ⟨gx, 2, none⟩ = some (.slice B2 ups.length d2) := (blk_cell (O13.out.blk (i := 4) rfl) 2).trans rfl
        have f13_4_2 : w13.frozen? ⟨gx, 2, none⟩ = false := blk_frozen (O13.out.blk (i := 4) rfl) 2
        have n13_0_2 : g ≠ g1 := O13.out.ne (i := 0) (j := 2) rfl rfl (by decide)
        have n13_0_4 : g ≠ gx := O13.out.ne (i := 0) (j := 4) rfl rfl (by decide)
        have n13_2_0 : g1 ≠ g := O13.out.ne (i := 2) (j := 0) rfl rfl (by decide)
        have n13_2_4 : g1 ≠ gx := O13.out.ne (i := 2) (j := 4) rfl rfl (by decide)
        have n13_4_0 : gx ≠ g := O13.out.ne (i := 4) (j := 0) rfl rfl (by decide)
        have n13_4_2 : gx ≠ g1 := O13.out.ne (i := 4) (j := 2) rfl rfl (by decide)
        clear o_ k_
        clear hHeld
        refine hK_.out _ _ ⟨((blk_cell (O13.out.blk (i := 0) rfl) 0).trans rfl), ((blk_cell (O13.out.blk (i := 0) rfl) 1).trans rfl), ((blk_cell (O13.out.blk (i := 0) rfl) 2).trans rfl), ((blk_cell (O13.out.blk (i := 4) rfl) 0).trans rfl), ((blk_cell (O13.out.blk (i := 4) rfl) 1).trans rfl), ((blk_cell (O13.out.blk (i := 4) rfl) 2).trans rfl)⟩ (fun hHeld => ?_)
        clear hK_ K_
        refine norm_ (a' := ?_) ?_ ?_
        rotate_left
        · simp only [Act.put, List.setIfInBounds_toArray, List.set_cons_zero, List.set_cons_succ, i64_w, i32_w]
          rfl
        refine norm_ (a' := _) ?_ (hc_ ⟨C1, e1, C2, e2, D1, h1⟩ _ ⟨?_, K13.out⟩)
        · simp only [putAll, Act.put, List.setIfInBounds_toArray, List.set_cons_zero, List.set_cons_succ]
          try rfl
        · exact O13.out.pickL [0, 1, 2, 3, 4, 5] (by decide) (by simp)
    case hcont =>
      clear hHeld
      rintro ⟨C1, e1, C2, e2, D1, h1⟩ w10 ⟨o_, k_⟩
      have O10 : Aside0 (Own N w10 [cells g #[.int .i64 o, .int .i64 m, .slice A0 L.length c0] 42, emp, cells g1 #[.int .i64 0, .int .i64 0, .slice none 0 0] 32, both (nrow k32 32 (.slice D1 1 h1) [(⟨o, (L.length : Int) + 1, ups⟩ : Rnd)]) (rd k50 B2 ups.length ups), cells gx #[.int .i64 o, .int .i64 ((L.length : Int) + 1), .slice B2 ups.length d2] 32, nrow k32 32 (.slice C2 L.length e2) L]) := ⟨o_⟩
      have K10 : Aside0 (KeepS N w w10) := ⟨K9.out.trans k_⟩
      have HR_10 : Aside0 (Kd.F k50 w10 N B ups.length ups) := ⟨keepF HR_9.out k_⟩
      clear c9_0_0 f9_0_0 c9_0_1 f9_0_1 c9_0_2 f9_0_2 c9_2_0 f9_2_0 c9_2_1 f9_2_1 c9_2_2 f9_2_2 c9_4_0 f9_4_0 c9_4_1 f9_4_1 c9_4_2 f9_4_2 n9_0_2 n9_0_4 n9_2_0 n9_2_4 n9_4_0 n9_4_2 O9 K9 HR_9
      have c10_0_0 : w10.cell? ⟨g, 0, none⟩ = some (.int .i64 o) := (blk_cell (O10.out.blk (i := 0) rfl) 0).trans rfl
      have f10_0_0 : w10.frozen? ⟨g, 0, none⟩ = false := blk_frozen (O10.out.blk (i := 0) rfl) 0
      have c10_0_1 : w10.cell? ⟨g, 1, none⟩ = some (.int .i64 m) := (blk_cell (O10.out.blk (i := 0) rfl) 1).trans rfl
      have f10_0_1 : w10.frozen? ⟨g, 1, none⟩ = false := blk_frozen (O10.out.blk (i := 0) rfl) 1
      have c10_0_2 : w10.cell? ⟨g, 2, none⟩ = some (.slice A0 L.length c0) := (blk_cell (O10.out.blk (i := 0) rfl) 2).trans rfl
      have f10_0_2 : w10.frozen? ⟨g, 2, none⟩ = false := blk_frozen (O10.out.blk (i := 0) rfl) 2
      have c10_2_0 : w10.cell? ⟨g1, 0, none⟩ = some (.int .i64 0) := (blk_cell (O10.out.blk (i := 2) rfl) 0).trans rfl
      have f10_2_0 : w10.frozen? ⟨g1, 0, none⟩ = false := blk_frozen (O10.out.blk (i := 2) rfl) 0
      have c10_2_1 : w10.cell? ⟨g1, 1, none⟩ = some (.int .i64 0) := (blk_cell (O10.out.blk (i := 2) rfl) 1).trans rfl
      have f10_2_1 : w10.frozen? ⟨g1, 1, none⟩ = false := blk_frozen (O10.out.blk (i := 2) rfl) 1
      have c10_2_2 : w10.cell? ⟨g1, 2, none⟩ = some (.slice none 0 0) := (blk_cell (O10.out.blk (i := 2) rfl) 2).trans rfl
      have f10_2_2 : w10.frozen? ⟨g1, 2, none⟩ = false := blk_frozen (O10.out.blk (i := 2) rfl) 2
      have c10_4_0 : w10.cell? ⟨gx, 0, none⟩ = some (.int .i64 o) := (blk_cell (O10.out.blk (i := 4) rfl) 0).trans rfl
      have f10_4_0 : w10.frozen? ⟨gx, 0, none⟩ = false := blk_frozen (O10.out.blk (i := 4) rfl) 0
      have c10_4_1 : w10.cell? ⟨gx, 1, none⟩ = some (.int .i64 ((L.length : Int) + 1)) := (blk_cell (O10.out.blk (i := 4) rfl) 1).trans rfl
      have f10_4_1 : w10.frozen? ⟨gx, 1, none⟩ = false := blk_frozen (O10.out.blk (i := 4) rfl) 1
      have c10_4_2 : w10.cell? ⟨gx, 2, none⟩ = some (.slice B2 ups.length d2) := (blk_cell (O10.out.blk (i := 4) rfl) 2).trans rfl
      have f10_4_2 : w10.frozen? ⟨gx, 2, none⟩ = false := blk_frozen (O10.out.blk (i := 4) rfl) 2
      have n10_0_2 : g ≠ g1 := O10.out.ne (i := 0) (j := 2) rfl rfl (by decide)
      have n10_0_4 : g ≠ gx := O10.out.ne (i := 0) (j := 4) rfl rfl (by decide)
      have n10_2_0 : g1 ≠ g := O10.out.ne (i := 2) (j := 0) rfl rfl (by decide)
      have n10_2_4 : g1 ≠ gx := O10.out.ne (i := 2) (j := 4) rfl rfl (by decide)
      have n10_4_0 : gx ≠ g := O10.out.ne (i := 4) (j := 0) rfl rfl (by decide)
      have n10_4_2 : gx ≠ g1 := O10.out.ne (i := 4) (j := 2) rfl rfl (by decide)
      clear o_ k_
      refine norm_ (a' := ?_) ?_ ?_
      rotate_left
      · simp only [putAll, Act.put, List.setIfInBounds_toArray, List.set_cons_zero, List.set_cons_succ]
        rfl
      have hHeld : w10.cell? ⟨g, 0, none⟩ = some (.int .i64 o) ∧ w10.cell? ⟨g, 1, none⟩ = some (.int .i64 m) ∧ w10.cell? ⟨g, 2, none⟩ = some (.slice A0 L.length c0) ∧ w10.cell? ⟨gx, 0, none⟩ = some (.int .i64 o) ∧ w10.cell? ⟨gx, 1, none⟩ = some (.int .i64 ((L.length : Int) + 1)) ∧ w10.cell? ⟨gx, 2, none⟩ = some (.slice B2 ups.length d2) := ⟨((blk_cell (O10.out.blk (i := 0) rfl) 0).trans rfl), ((blk_cell (O10.out.blk (i := 0) rfl) 1).trans rfl), ((blk_cell (O10.out.blk (i := 0) rfl) 2).trans rfl), ((blk_cell (O10.out.blk (i := 4) rfl) 0).trans rfl), ((blk_cell (O10.out.blk (i := 4) rfl) 1).trans rfl), ((blk_cell (O10.out.blk (i := 4) rfl) 2).trans rfl)⟩
      refine one_ (i := 9) (N := some 48) #[true, true, true, true, true, true, true, true, true, true, false, false, false] rfl rfl (by kernel_rfl) (by decide) (fun K_ hK_ => ?_)
      have O11 : Aside0 (Own N w10 [cells g #[.int .i64 o, .int .i64 m, .slice A0 L.length c0] 42, emp, cells g1 #[.int .i64 0, .int .i64 0, .slice none 0 0] 32, both (rd k32 D1 1 [(⟨o, (L.length : Int) + 1, ups⟩ : Rnd)]) (rd k50 B2 ups.length ups), cells gx #[.int .i64 o, .int .i64 ((L.length : Int) + 1), .slice B2 ups.length d2] 32, nrow k32 32 (.slice C2 L.length e2) L]) := ⟨O10.out.conv (i := 3) rfl _ (fun F hp _ => ⟨Kd.N_F hp.1, hp.2⟩)⟩
      clear O10
      refine Own.append_rows2_step k32 O11.out (i := 5) (j := 3) (ys := [(⟨o, (L.length : Int) + 1, ups⟩ : Rnd)]) rfl rfl (by decide) rfl rfl (.tmp 45) (.tmp 47) 40 (.agg #[.int .i64 0, .int .i64 0, .slice none 0 0]) 40 rfl Try.underlying40 infoR rfl (by decide) (by decide) rfl rfl (by have := HL.out; omega) ?_
      intro C3 e3 w12 o_ k_
      have O12 : Aside0 (Own N w12 [cells g #[.int .i64 o, .int .i64 m, .slice A0 L.length c0] 42, emp, cells g1 #[.int .i64 0, .int .i64 0, .slice none 0 0] 32, emp, cells gx #[.int .i64 o, .int .i64 ((L.length : Int) + 1), .slice B2 ups.length d2] 32, both (nrow k32 32 (.slice C3 (L ++ [(⟨o, (L.length : Int) + 1, ups⟩ : Rnd)]).length e3) (L ++ [(⟨o, (L.length : Int) + 1, ups⟩ : Rnd)])) (rd k50 B2 ups.length ups)]) := ⟨o_⟩
      have K12 : Aside0 (KeepS N w w12) := ⟨K10.out.trans k_⟩
      have HR_12 : Aside0 (Kd.F k50 w12 N B ups.length ups) := ⟨keepF HR_10.out k_⟩
      clear c10_0_0 f10_0_0 c10_0_1 f10_0_1 c10_0_2 f10_0_2 c10_2_0 f10_2_0 c10_2_1 f10_2_1 c10_2_2 f10_2_2 c10_4_0 f10_4_0 c10_4_1 f10_4_1 c10_4_2 f10_4_2 n10_0_2 n10_0_4 n10_2_0 n10_2_4 n10_4_0 n10_4_2 O11 K10 HR_10
      have c12_0_0 : w12.cell? ⟨g, 0, none⟩ = some (.int .i64 o) := (blk_cell (O12.out.blk (i := 0) rfl) 0).trans rfl
      have f12_0_0 : w12.frozen? ⟨g, 0, none⟩ = false := blk_frozen (O12.out.blk (i := 0) rfl) 0
      have c12_0_1 : w12.cell? ⟨g, 1, none⟩ = some (.int .i64 m) := (blk_cell (O12.out.blk (i := 0) rfl) 1).trans rfl
      have f12_0_1 : w12.frozen? ⟨g, 1, none⟩ = false := blk_frozen (O12.out.blk (i := 0) rfl) 1
      have c12_0_2 : w12.cell? ⟨g, 2, none⟩ = some (.slice A0 L.length c0) := (blk_cell (O12.out.blk (i := 0) rfl) 2).trans rfl
      have f12_0_2 : w12.frozen? ⟨g, 2, none⟩ = false := blk_frozen (O12.out.blk (i := 0) rfl) 2
      have c12_2_0 : w12.cell? ⟨g1, 0, none⟩ = some (.int .i64 0) := (blk_cell (O12.out.blk (i := 2) rfl) 0).trans rfl
      have f12_2_0 : w12.frozen? ⟨g1, 0, none⟩ = false := blk_frozen (O12.out.blk (i := 2) rfl) 0
      have c12_2_1 : w12.cell? ⟨g1, 1, none⟩ = some (.int .i64 0) := (blk_cell (O12.out.blk (i := 2) rfl) 1).trans rfl
      have f12_2_1 : w12.frozen? ⟨g1, 1, none⟩ = false := blk_frozen (O12.out.blk (i := 2) rfl) 1
      have c12_2_2 : w12.cell? ⟨g1, 2, none⟩ = some (.slice none 0 0) := (blk_cell (O12.out.blk (i := 2) rfl) 2).trans rfl
      have f12_2_2 : w12.frozen? ⟨g1, 2, none⟩ = false := blk_frozen (O12.out.blk (i := 2) rfl) 2
      have c12_4_0 : w12.cell? ⟨gx, 0, none⟩ = some (.int .i64 o) := (blk_cell (O12.out.blk (i := 4) rfl) 0).trans rfl
      have f12_4_0 : w12.frozen? ⟨gx, 0, none⟩ = false := blk_frozen (O12.out.blk (i := 4) rfl) 0
      have c12_4_1 : w12.cell? ⟨gx, 1, none⟩ = some (.int .i64 ((L.length : Int) + 1)) := (blk_cell (O12.out.blk (i := 4) rfl) 1).trans rfl
      have f12_4_1 : w12.frozen? ⟨gx, 1, none⟩ = false := blk_frozen (O12.out.blk (i := 4) rfl) 1
      have c12_4_2 : w12.cell? ⟨gx, 2, none⟩ = some (.slice B2 ups.length d2) := (blk_cell (O12.out.blk (i := 4) rfl) 2).trans rfl
      have f12_4_2 : w12.frozen? ⟨gx, 2, none⟩ = false := blk_frozen (O12.out.blk (i := 4) rfl) 2
      have n12_0_2 : g ≠ g1 := O12.out.ne (i := 0) (j := 2) rfl rfl (by decide)
      have n12_0_4 : g ≠ gx := O12.out.ne (i := 0) (j := 4) rfl rfl (by decide)
      have n12_2_0 : g1 ≠ g := O12.out.ne (i := 2) (j := 0) rfl rfl (by decide)
      have n12_2_4 : g1 ≠ gx := O12.out.ne (i := 2) (j := 4) rfl rfl (by decide)
      have n12_4_0 : gx ≠ g := O12.out.ne (i := 4) (j := 0) rfl rfl (by decide)
      have n12_4_2 : gx ≠ g1 := O12.out.ne (i := 4) (j := 2) rfl rfl (by decide)
      clear o_ k_
      clear hHeld
      refine hK_.out _ _ ⟨((blk_cell (O12.out.blk (i := 0) rfl) 0).trans rfl), ((blk_cell (O12.out.blk (i := 0) rfl) 1).trans rfl), ((blk_cell (O12.out.blk (i := 0) rfl) 2).trans rfl), ((blk_cell (O12.out.blk (i := 4) rfl) 0).trans rfl), ((blk_cell (O12.out.blk (i := 4) rfl) 1).trans rfl), ((blk_cell (O12.out.blk (i := 4) rfl) 2).trans rfl)⟩ (fun hHeld => ?_)
      clear hK_ K_
      refine norm_ (a' := ?_) ?_ ?_
      rotate_left
      · simp only [Act.put, List.setIfInBounds_toArray, List.set_cons_zero, List.set_cons_succ, i64_w, i32_w]
        rfl
      refine pure_ (i := 10) (N := some 49) (v := ?_) (a' := ?_) #[true, true, true, true, true, true, true, true, true, true, true, false, false] rfl rfl (by kernel_rfl) (fun _ _ _ h => h) (Or.inl ⟨by rfl, ?_⟩) ?_ ?_
      rotate_left
      · intro w'
        go_simp
        with_reducible rfl
      rotate_left
      · simp only [Act.put, List.setIfInBounds_toArray, List.set_cons_zero, List.set_cons_succ, i64_w, i32_w]
        rfl
      refine pure_ (i := 11) (N := some 50) (v := ?_) (a' := ?_) #[true, true, true, true, true, true, true, true, true, true, true, true, false] rfl rfl (by kernel_rfl) (fun _ _ _ h => h) (Or.inl ⟨by rfl, ?_⟩) ?_ ?_
      rotate_left
      · intro w'
        go_simp
        with_reducible rfl
      rotate_left
      · simp only [Act.put, List.setIfInBounds_toArray, List.set_cons_zero, List.set_cons_succ, i64_w, i32_w]
        rfl
      refine last_ (i := 12) (N := none) #[true, true, true, true, true, true, true, true, true, true, true, true, true] rfl rfl (by kernel_rfl) (by decide) (fun K_ hK_ => ?_)
      refine own_store_step rfl rfl (w1 := (World.setCell w12 ⟨g, 2, none⟩ (.slice C3 (L ++ [(⟨o, (L.length : Int) + 1, ups⟩ : Rnd)]).length e3))) (N := N) (l' := [cells g #[.int .i64 o, .int .i64 m, .slice C3 (L ++ [(⟨o, (L.length : Int) + 1, ups⟩ : Rnd)]).length e3] 42, emp, cells g1 #[.int .i64 0, .int .i64 0, .slice none 0 0] 32, emp, cells gx #[.int .i64 o, .int .i64 ((L.length : Int) + 1), .slice B2 ups.length d2] 32, both (nrow k32 32 (.slice C3 (L ++ [(⟨o, (L.length : Int) + 1, ups⟩ : Rnd)]).length e3) (L ++ [(⟨o, (L.length : Int) + 1, ups⟩ : Rnd)])) (rd k50 B2 ups.length ups)]) ?hr ?ho ?hk ?_
      (case hr => first | (go_simp; done) | (go_simp; rfl))
      (case ho => exact (O12.out.set (i := 0) rfl 2 (.slice C3 (L ++ [(⟨o, (L.length : Int) + 1, ups⟩ : Rnd)]).length e3)))
      (case hk => exact (KeepS.setCell (O12.out.far (i := 0) rfl) (.slice C3 (L ++ [(⟨o, (L.length : Int) + 1, ups⟩ : Rnd)]).length e3)))
      intro w13 o_ k_
      have O13 : Aside0 (Own N w13 [cells g #[.int .i64 o, .int .i64 m, .slice C3 (L ++ [(⟨o, (L.length : Int) + 1, ups⟩ : Rnd)]).length e3] 42, emp, cells g1 #[.int .i64 0, .int .i64 0, .slice none 0 0] 32, emp, cells gx #[.int .i64 o, .int .i64 ((L.length : Int) + 1), .slice B2 ups.length d2] 32, both (nrow k32 32 (.slice C3 (L ++ [(⟨o, (L.length : Int) + 1, ups⟩ : Rnd)]).length e3) (L ++ [(⟨o, (L.length : Int) + 1, ups⟩ : Rnd)])) (rd k50 B2 ups.length ups)]) := ⟨o_⟩
      have K13 : Aside0 (KeepS N w w13) := ⟨K12.out.trans k_⟩
      have HR_13 : Aside0 (Kd.F k50 w13 N B ups.length ups) := ⟨keepF HR_12.out k_⟩
      clear c12_0_0 f12_0_0 c12_0_1 f12_0_1 c12_0_2 f12_0_2 c12_2_0 f12_2_0 c12_2_1 f12_2_1 c12_2_2 f12_2_2 c12_4_0 f12_4_0 c12_4_1 f12_4_1 c12_4_2 f12_4_2 n12_0_2 n12_0_4 n12_2_0 n12_2_4 n12_4_0 n12_4_2 O12 K12 HR_12
      have c13_0_0 : w13.cell? ⟨g, 0, none⟩ = some (.int .i64 o) := (blk_cell (O13.out.blk (i := 0) rfl) 0).trans rfl
      have f13_0_0 : w13.frozen? ⟨g, 0, none⟩ = false := blk_frozen (O13.out.blk (i := 0) rfl) 0
      have c13_0_1 : w13.cell? ⟨g, 1, none⟩ = some (.int .i64 m) := (blk_cell (O13.out.blk (i := 0) rfl) 1).trans rfl
      have f13_0_1 : w13.frozen? ⟨g, 1, none⟩ = false := blk_frozen (O13.out.blk (i := 0) rfl) 1
      have c13_0_2 : w13.cell? ⟨g, 2, none⟩ = some (.slice C3 (L ++ [(⟨o, (L.length : Int) + 1, ups⟩ : Rnd)]).length e3) := (blk_cell (O13.out.blk (i := 0) rfl) 2).trans rfl
      have f13_0_2 : w13.frozen? ⟨g, 2, none⟩ = false := blk_frozen (O13.out.blk (i := 0) rfl) 2
      have c13_2_0 : w13.cell? ⟨g1, 0, none⟩ = some (.int .i64 0) := (blk_cell (O13.out.blk (i := 2) rfl) 0).trans rfl
      have f13_2_0 : w13.frozen? ⟨g1, 0, none⟩ = false := blk_frozen (O13.out.blk (i := 2) rfl) 0
      have c13_2_1 : w13.cell? ⟨g1, 1, none⟩ = some (.int .i64 0) := (blk_cell (O13.out.blk (i := 2) rfl) 1).trans rfl
      have f13_2_1 : w13.frozen? ⟨g1, 1, none⟩ = false := blk_frozen (O13.out.blk (i := 2) rfl) 1
      have c13_2_2 : w13.cell? ⟨g1, 2, none⟩ = some (.slice none 0 0) := (blk_cell (O13.out.blk (i := 2) rfl) 2).trans rfl
      have f13_2_2 : w13.frozen? ⟨g1, 2, none⟩ = false := blk_frozen (O13.out.blk (i := 2) rfl) 2
      have c13_4_0 : w13.cell? ⟨gx, 0, none⟩ = some (.int .i64 o) := (blk_cell (O13.out.blk (i := 4) rfl) 0).trans rfl
      have f13_4_0 : w13.frozen? ⟨gx, 0, none⟩ = false := blk_frozen (O13.out.blk (i := 4) rfl) 0
      have c13_4_1 : w13.cell? ⟨gx, 1, none⟩ = some (.int .i64 ((L.length : Int) + 1)) := (blk_cell (O13.out.blk (i := 4) rfl) 1).trans rfl
      have f13_4_1 : w13.frozen? ⟨gx, 1, none⟩ = false := blk_frozen (O13.out.blk (i := 4) rfl) 1
      have c13_4_2 : w13.cell? ⟨gx, 2, none⟩ = some (.slice B2 ups.length d2) := (blk_cell (O13.out.blk (i := 4) rfl) 2).trans rfl
      have f13_4_2 : w13.frozen? ⟨gx, 2, none⟩ = false := blk_frozen (O13.out.blk (i := 4) rfl) 2
      have n13_0_2 : g ≠ g1 := O13.out.ne (i := 0) (j := 2) rfl rfl (by decide)
      have n13_0_4 : g ≠ gx := O13.out.ne (i := 0) (j := 4) rfl rfl (by decide)
      have n13_2_0 : g1 ≠ g := O13.out.ne (i := 2) (j := 0) rfl rfl (by decide)
      have n13_2_4 : g1 ≠ gx := O13.out.ne (i := 2) (j := 4) rfl rfl (by decide)
      have n13_4_0 : gx ≠ g := O13.out.ne (i := 4) (j := 0) rfl rfl (by decide)
      have n13_4_2 : gx ≠ g1 := O13.out.ne (i := 4) (j := 2) rfl rfl (by decide)
      clear o_ k_
      refine hK_.out _ _ ?_
      clear hK_ K_
      refine done_ (by kernel_rfl) ?_
      clear hHeld
      go_wp2_with (first | ((with_reducible refine gate_store (t := 32) (p := 4) rfl ?_); refine own_store rfl rfl rfl (w1 := (World.setCell (World.setCell (World.setCell w13 ⟨g1, 0, none⟩ (.int .i64 o)) ⟨g1, 1, none⟩ (.int .i64 ((L.length : Int) + 1))) ⟨g1, 2, none⟩ (.slice B2 ups.length d2))) (N := N) (l' := [cells g #[.int .i64 o, .int .i64 m, .slice C3 (L ++ [(⟨o, (L.length : Int) + 1, ups⟩ : Rnd)]).length e3] 42, emp, cells g1 #[.int .i64 o, .int .i64 ((L.length : Int) + 1), .slice B2 ups.length d2] 32, emp, cells gx #[.int .i64 o, .int .i64 ((L.length : Int) + 1), .slice B2 ups.length d2] 32, both (nrow k32 32 (.slice C3 (L ++ [(⟨o, (L.length : Int) + 1, ups⟩ : Rnd)]).length e3) (L ++ [(⟨o, (L.length : Int) + 1, ups⟩ : Rnd)])) (rd k50 B2 ups.length ups)]) ?hr ?ho ?hk ?_; (case hr => first | (go_simp; done) | (go_simp; rfl)); (case ho => exact (((O13.out.set (i := 2) rfl 0 (.int .i64 o)).set (i := 2) rfl 1 (.int .i64 ((L.length : Int) + 1))).set (i := 2) rfl 2 (.slice B2 ups.length d2))); (case hk => exact (((KeepS.setCell (O13.out.far (i := 2) rfl) (.int .i64 o)).trans (KeepS.setCell (O13.out.far (i := 2) rfl) (.int .i64 ((L.length : Int) + 1)))).trans (KeepS.setCell (O13.out.far (i := 2) rfl) (.slice B2 ups.length d2)))); intro w14 o_ k_; have O14 : Aside0 (Own N w14 [cells g #[.int .i64 o, .int .i64 m, .slice C3 (L ++ [(⟨o, (L.length : Int) + 1, ups⟩ : Rnd)]).length e3] 42, emp, cells g1 #[.int .i64 o, .int .i64 ((L.length : Int) + 1), .slice B2 ups.length d2] 32, emp, cells gx #[.int .i64 o, .int .i64 ((L.length : Int) + 1), .slice B2 ups.length d2] 32, both (nrow k32 32 (.slice C3 (L ++ [(⟨o, (L.length : Int) + 1, ups⟩ : Rnd)]).length e3) (L ++ [(⟨o, (L.length : Int) + 1, ups⟩ : Rnd)])) (rd k50 B2 ups.length ups)]) := ⟨o_⟩; have K14 : Aside0 (KeepS N w w14) := ⟨K13.out.trans k_⟩; have HR_14 : Aside0 (Kd.F k50 w14 N B ups.length ups) := ⟨keepF HR_13.out k_⟩; clear c13_0_0 f13_0_0 c13_0_1 f13_0_1 c13_0_2 f13_0_2 c13_2_0 f13_2_0 c13_2_1 f13_2_1 c13_2_2 f13_2_2 c13_4_0 f13_4_0 c13_4_1 f13_4_1 c13_4_2 f13_4_2 n13_0_2 n13_0_4 n13_2_0 n13_2_4 n13_4_0 n13_4_2 O13 K13 HR_13; have c14_0_0 : w14.cell? ⟨g, 0, none⟩ = some (.int .i64 o) := (blk_cell (O14.out.blk (i := 0) rfl) 0).trans rfl; have f14_0_0 : w14.frozen? ⟨g, 0, none⟩ = false := blk_frozen (O14.out.blk (i := 0) rfl) 0; have c14_0_1 : w14.cell? ⟨g, 1, none⟩ = some (.int .i64 m) := (blk_cell (O14.out.blk (i := 0) rfl) 1).trans rfl; have f14_0_1 : w14.frozen? ⟨g, 1, none⟩ = false := blk_frozen (O14.out.blk (i := 0) rfl) 1; have c14_0_2 : w14.cell? ⟨g, 2, none⟩ = some (.slice C3 (L ++ [(⟨o, (L.length : Int) + 1, ups⟩ : Rnd)]).length e3) := (blk_cell (O14.out.blk (i := 0) rfl) 2).trans rfl; have f14_0_2 : w14.frozen? ⟨g, 2, none⟩ = false := blk_frozen (O14.out.blk (i := 0) rfl) 2; have c14_2_0 : w14.cell? ⟨g1, 0, none⟩ = some (.int .i64 o) := (blk_cell (O14.out.blk (i := 2) rfl) 0).trans rfl; have f14_2_0 : w14.frozen? ⟨g1, 0, none⟩ = false := blk_frozen (O14.out.blk (i := 2) rfl) 0; have c14_2_1 : w14.cell? ⟨g1, 1, none⟩ = some (.int .i64 ((L.length : Int) + 1)) := (blk_cell (O14.out.blk (i := 2) rfl) 1).trans rfl; have f14_2_1 : w14.frozen? ⟨g1, 1, none⟩ = false := blk_frozen (O14.out.blk (i := 2) rfl) 1; have c14_2_2 : w14.cell? ⟨g1, 2, none⟩ = some (.slice B2 ups.length d2) := (blk_cell (O14.out.blk (i := 2) rfl) 2).trans rfl; have f14_2_2 : w14.frozen? ⟨g1, 2, none⟩ = false := blk_frozen (O14.out.blk (i := 2) rfl) 2; have c14_4_0 : w14.cell? ⟨gx, 0, none⟩ = some (.int .i64 o) := (blk_cell (O14.out.blk (i := 4) rfl) 0).trans rfl; have f14_4_0 : w14.frozen? ⟨gx, 0, none⟩ = false := blk_frozen (O14.out.blk (i := 4) rfl) 0; have c14_4_1 : w14.cell? ⟨gx, 1, none⟩ = some (.int .i64 ((L.length : Int) + 1)) := (blk_cell (O14.out.blk (i := 4) rfl) 1).trans rfl; have f14_4_1 : w14.frozen? ⟨gx, 1, none⟩ = false := blk_frozen (O14.out.blk (i := 4) rfl) 1; have c14_4_2 : w14.cell? ⟨gx, 2, none⟩ = some (.slice B2 ups.length d2) := (blk_cell (O14.out.blk (i := 4) rfl) 2).trans rfl; have f14_4_2 : w14.frozen? ⟨gx, 2, none⟩ = false := blk_frozen (O14.out.blk (i := 4) rfl) 2; have n14_0_2 : g ≠ g1 := O14.out.ne (i := 0) (j := 2) rfl rfl (by decide); have n14_0_4 : g ≠ gx := O14.out.ne (i := 0) (j := 4) rfl rfl (by decide); have n14_2_0 : g1 ≠ g := O14.out.ne (i := 2) (j := 0) rfl rfl (by decide); have n14_2_4 : g1 ≠ gx := O14.out.ne (i := 2) (j := 4) rfl rfl (by decide); have n14_4_0 : gx ≠ g := O14.out.ne (i := 4) (j := 0) rfl rfl (by decide); have n14_4_2 : gx ≠ g1 := O14.out.ne (i := 4) (j := 2) rfl rfl (by decide); clear o_ k_))
      refine bodyPost_ret (results_ct rfl _ _ g1 32 #[.int .i64 o, .int .i64 ((L.length : Int) + 1), .slice B2 ups.length d2] (0, 0) _ rfl (O14.out.blk (i := 2) rfl) Try.underlying32 rfl (by kernel_rfl)) rfl ?_
      exact ⟨B2, d2, C3, e3, rfl, HCD.out, O14.out.pick2 (a := 0) (b := 5) rfl rfl (by decide), K14.out⟩
theorem addE_ge {o m : Int} {L : List Rnd} {ups : List Upd} (hm : (L.length : Int) ≤ m) (h : ¬ (L.length : Int) ≥ m) : addE o m L ups = mayR o (L.length + 1) ups := by
  unfold addE
  rw [if_neg (by omega)]
theorem RAdd_y {N : Nat → Prop} {w : World} {g : Nat} {o m : Int} {L : List Rnd} (B : Option Addr) (c : Nat) (ups : List Upd) (h : Own N w [Obj3 42 g o m L]) (hr : Kd.F k50 w N B ups.length ups) (hc : ups.length ≤ c) (hL : L.length ≤ 1000000) (hu : ups.length ≤ 1000000) (hm : (L.length : Int) ≤ m) (he : addE o m L ups = 0) :
    Calls Try.prog 13 #[.pointer (some ⟨g, 0, none⟩), .slice B ups.length c] w fun e_ w' => ∃ A1 c1 A2 c2, e_ = .returned (.tuple #[.agg #[.int .i64 o, .int .i64 ((L.length : Int) + 1), .slice A1 (ups).length c1], .int .i64 0]) ∧ (ups).length ≤ c1 ∧ Own N w' [cells g #[.int .i64 o, .int .i64 m, .slice A2 (L ++ [(⟨o, (L.length : Int) + 1, ups⟩ : Rnd)]).length c2] 42, both (nrow k32 32 (.slice A2 (L ++ [(⟨o, (L.length : Int) + 1, ups⟩ : Rnd)]).length c2) (L ++ [(⟨o, (L.length : Int) + 1, ups⟩ : Rnd)])) (rd k50 A1 (ups).length (ups))] ∧ KeepS N w w' := by
  have hq : ¬ (L.length : Int) ≥ m := fun hq => by
    have : addE o m L ups = 8 := by unfold addE; rw [if_pos (by omega)]
    omega
  rw [addE_ge hm hq] at he
  exact RAdd_ok B c ups h hr hc hL hu hq 20 (by rw [rmayR 0, he])
theorem RAdd_n {N : Nat → Prop} {w : World} {g : Nat} {o m : Int} {L : List Rnd} (B : Option Addr) (c : Nat) (ups : List Upd) (h : Own N w [Obj3 42 g o m L]) (hr : Kd.F k50 w N B ups.length ups) (hc : ups.length ≤ c) (hL : L.length ≤ 1000000) (hu : ups.length ≤ 1000000) (hm : (L.length : Int) ≤ m) (E : Int) (he : addE o m L ups = E) (hE : E ≠ 0) :
    Calls Try.prog 13 #[.pointer (some ⟨g, 0, none⟩), .slice B ups.length c] w fun e_ w' => ∃ A1 c1 A2 c2, e_ = .returned (.tuple #[.agg #[.int .i64 0, .int .i64 0, .slice A1 (([] : List Upd)).length c1], .int .i64 E]) ∧ (([] : List Upd)).length ≤ c1 ∧ Own N w' [cells g #[.int .i64 o, .int .i64 m, .slice A2 (L).length c2] 42, both (nrow k32 32 (.slice A2 (L).length c2) (L)) (rd k50 A1 (([] : List Upd)).length (([] : List Upd)))] ∧ KeepS N w w' := by
  by_cases hq : (L.length : Int) ≥ m
  · have : addE o m L ups = 8 := by unfold addE; rw [if_pos (by omega)]
    obtain rfl : E = 8 := by omega
    exact RAdd_full B c ups h hr hc hL hu hq
  · rw [addE_ge hm hq] at he
    subst he
    exact RAdd_no B c ups h hr hc hL hu hq 20 _ (rmayR 0 _ _ _) (by rw [bne_iff_ne]; exact hE)
end Go.Proofs.Ytfpegjdplggkpaa.J
