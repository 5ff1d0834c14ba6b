/- What the given program's Log does: New, Len and Last, as turns of a resource: a plain walk through their text. -/
import Derived.Test.YtjmoncfgoaaekaaYCommitOrderC0
import Derived.Test.YtjmoncfgoaaekaaYCommitOrderQ3
namespace Go.Proofs.Ytjmoncfgoaaekaa.J
set_option linter.unusedSimpArgs false
set_option linter.unusedVariables false
open Go Go.RowKit Go.Proofs.YtjmoncfgoaaekaaW.PrintWords Go.Proofs.YtjmoncfgoaaekaaW.PrintLast Go.Proofs.YtjmoncfgoaaekaaW.PrintMore Go.Proofs.Ytjmoncfgoaaekaa.Q Go.Proofs.Ytjmoncfgoaaekaa.Sep Go.Proofs.Ytjmoncfgoaaekaa.Pure
attribute [local go_sem] max2_int min2_int max_two min_two max_three min_three max_four min_four
attribute [local go_sem] zeroLog logC_ne logC_set0
set_option maxHeartbeats 16000000 in
set_option maxRecDepth 100000 in
theorem New {N : Nat → Prop} {w : World} (n : Int) (h : Own N w []) :
    Calls Try.prog 9 #[.int .i64 n] w fun e w' => ∃ g, e = .returned (.pointer (some ⟨g, 0, none⟩)) ∧ Own N w' [ObjC g (mn (mx n 1) 64) []] ∧ KeepS N w w' := by
  have O0 : Aside0 (Own N w []) := ⟨h⟩
  have K0 : Aside0 (KeepS N w w) := ⟨KeepS.refl _ _⟩
  go_enter Try.func9, Try.ntmps9
  go_wp2_with (first | ((with_reducible refine gate_dst (N := 7) rfl ?_); refine own_box rfl (D := 7) rfl (cs := logC (mn (mx n 1) 64) [] (.slice none 0 0)) (t := 53) ?hr O0.out ?_; (case hr => first | (go_simp; done) | (go_simp; rfl) | (go_simp; refine congrArg (fun x => w.alloc (.cells (logC x [] (.slice none 0 0)) 53)) ?_; unfold mn mx; (repeat' split) <;> omega)); intro g1 w1 o_ k_; have O1 : Aside0 (Own N w1 [cells g1 (logC (mn (mx n 1) 64) [] (.slice none 0 0)) 53]) := ⟨o_⟩; have K1 : Aside0 (KeepS N w w1) := ⟨K0.out.trans k_⟩; clear O0 K0; have c1_0_0 : w1.cell? ⟨g1, 0, none⟩ = some (.int .i64 (mn (mx n 1) 64)) := (blk_cell (O1.out.blk (i := 0) rfl) 0).trans (logC_0 _ _ _); have f1_0_0 : w1.frozen? ⟨g1, 0, none⟩ = false := blk_frozen (O1.out.blk (i := 0) rfl) 0; have c1_0_1 : w1.cell? ⟨g1, 1, none⟩ = some (.slice none 0 0) := (blk_cell (O1.out.blk (i := 0) rfl) 1).trans (logC_1 _ _ _); have f1_0_1 : w1.frozen? ⟨g1, 1, none⟩ = false := blk_frozen (O1.out.blk (i := 0) rfl) 1; clear o_ k_))
  all_goals go_ret
  all_goals refine ⟨_, rfl, ?_, K1.out⟩
  all_goals exact (ObjG.shut (f := logC (mn (mx n 1) 64) []) (i := 0) (j := 1) (L := []) (O1.out.push_emp (nrow k31 31 (.slice none 0 0) []) (fun w => Kd.N_nil _ _ _ _ _)) rfl rfl (by decide)).take 1
set_option maxHeartbeats 16000000 in
set_option maxRecDepth 100000 in
theorem Len {N : Nat → Prop} {w : World} {g : Nat} {C : Int} {L : List Rnd} (h : Own N w [ObjC g C L]) :
    Calls Try.prog 15 #[.pointer (some ⟨g, 0, none⟩)] w fun e w' => e = .returned (.int .i64 L.length) ∧ Own N w' [ObjC g C L] ∧ KeepS N w w' := by
  obtain ⟨A0, c0, h2⟩ := ObjG.open_ h (i := 0) rfl
  have O0 : Aside0 (Own N w [cells g (logC C L (.slice A0 L.length c0)) 53, nrow k31 31 (.slice A0 L.length c0) L]) := ⟨h2⟩
  have K0 : Aside0 (KeepS N w w) := ⟨KeepS.refl _ _⟩
  have c0_0_0 : w.cell? ⟨g, 0, none⟩ = some (.int .i64 C) := (blk_cell (O0.out.blk (i := 0) rfl) 0).trans (logC_0 _ _ _)
  have f0_0_0 : w.frozen? ⟨g, 0, none⟩ = false := blk_frozen (O0.out.blk (i := 0) rfl) 0
  have c0_0_1 : w.cell? ⟨g, 1, none⟩ = some (.slice A0 L.length c0) := (blk_cell (O0.out.blk (i := 0) rfl) 1).trans (logC_1 _ _ _)
  have f0_0_1 : w.frozen? ⟨g, 1, none⟩ = false := blk_frozen (O0.out.blk (i := 0) rfl) 1
  clear h2
  have H0 := Aside0.mk h
  clear h
  go_enter Try.func15, Try.ntmps15
  go_wp2
  go_ret
  exact ⟨rfl, H0.out, K0.out⟩
set_option maxHeartbeats 16000000 in
set_option maxRecDepth 100000 in
theorem Last_low {N : Nat → Prop} {w : World} {g : Nat} {C : Int} {L : List Rnd} (o : Int) (h : Own N w [ObjC g C L]) (ho : o < 1) :
    Calls Try.prog 20 #[.pointer (some ⟨g, 0, none⟩), .int .i64 o] w fun e w' => e = .returned (.int .i64 0) ∧ Own N w' [ObjC g C L] ∧ KeepS N w w' := by
  have HO := Aside0.mk ho
  have d1 : decide (o < 1) = true := decide_eq_true ho
  obtain ⟨A0, c0, h2⟩ := ObjG.open_ h (i := 0) rfl
  have O0 : Aside0 (Own N w [cells g (logC C L (.slice A0 L.length c0)) 53, nrow k31 31 (.slice A0 L.length c0) L]) := ⟨h2⟩
  have K0 : Aside0 (KeepS N w w) := ⟨KeepS.refl _ _⟩
  have c0_0_0 : w.cell? ⟨g, 0, none⟩ = some (.int .i64 C) := (blk_cell (O0.out.blk (i := 0) rfl) 0).trans (logC_0 _ _ _)
  have f0_0_0 : w.frozen? ⟨g, 0, none⟩ = false := blk_frozen (O0.out.blk (i := 0) rfl) 0
  have c0_0_1 : w.cell? ⟨g, 1, none⟩ = some (.slice A0 L.length c0) := (blk_cell (O0.out.blk (i := 0) rfl) 1).trans (logC_1 _ _ _)
  have f0_0_1 : w.frozen? ⟨g, 1, none⟩ = false := blk_frozen (O0.out.blk (i := 0) rfl) 1
  clear h2 ho
  have H0 := Aside0.mk h
  clear h
  go_enter Try.func20, Try.ntmps20
  go_wp2
  go_ret
  exact ⟨rfl, H0.out, K0.out⟩
set_option maxHeartbeats 16000000 in
set_option maxRecDepth 100000 in
theorem Last_high {N : Nat → Prop} {w : World} {g : Nat} {C : Int} {L : List Rnd} (o : Int) (h : Own N w [ObjC g C L]) (ho : o > C) (hC : 1 ≤ C) :
    Calls Try.prog 20 #[.pointer (some ⟨g, 0, none⟩), .int .i64 o] w fun e w' => e = .returned (.int .i64 0) ∧ Own N w' [ObjC g C L] ∧ KeepS N w w' := by
  have HO := Aside0.mk ho
  have d1 : decide (o < 1) = false := decide_eq_false (by omega)
  have d2 : decide (o > C) = true := decide_eq_true ho
  have d3 : decide (C < o) = true := decide_eq_true ho
  obtain ⟨A0, c0, h2⟩ := ObjG.open_ h (i := 0) rfl
  have O0 : Aside0 (Own N w [cells g (logC C L (.slice A0 L.length c0)) 53, nrow k31 31 (.slice A0 L.length c0) L]) := ⟨h2⟩
  have K0 : Aside0 (KeepS N w w) := ⟨KeepS.refl _ _⟩
  have c0_0_0 : w.cell? ⟨g, 0, none⟩ = some (.int .i64 C) := (blk_cell (O0.out.blk (i := 0) rfl) 0).trans (logC_0 _ _ _)
  have f0_0_0 : w.frozen? ⟨g, 0, none⟩ = false := blk_frozen (O0.out.blk (i := 0) rfl) 0
  have c0_0_1 : w.cell? ⟨g, 1, none⟩ = some (.slice A0 L.length c0) := (blk_cell (O0.out.blk (i := 0) rfl) 1).trans (logC_1 _ _ _)
  have f0_0_1 : w.frozen? ⟨g, 1, none⟩ = false := blk_frozen (O0.out.blk (i := 0) rfl) 1
  clear h2 ho hC
  have H0 := Aside0.mk h
  clear h
  go_enter Try.func20, Try.ntmps20
  go_wp2
  go_ret
  exact ⟨rfl, H0.out, K0.out⟩
set_option maxHeartbeats 16000000 in
set_option maxRecDepth 100000 in
theorem Last_in {N : Nat → Prop} {w : World} {g : Nat} {C : Int} {L : List Rnd} (o : Int) (h : Own N w [ObjC g C L]) (ho : 1 ≤ o) (ho2 : o ≤ C) (hC : C ≤ 64) :
    Calls Try.prog 20 #[.pointer (some ⟨g, 0, none⟩), .int .i64 o] w fun e w' => e = .returned (.int .i64 (lastOf o L)) ∧ Own N w' [ObjC g C L] ∧ KeepS N w w' := by
  have HO := Aside0.mk ho
  have d1 : decide (o < 1) = false := decide_eq_false (by omega)
  have d2 : decide (o > C) = false := decide_eq_false (by omega)
  have d3 : decide (C < o) = false := decide_eq_false (by omega)
  have d4 : (0 ≤ o) = True := eq_true (by omega)
  have d5 : (o < 65) = True := eq_true (by omega)
  have HO2 := Aside0.mk ho2
  have HC := Aside0.mk hC
  obtain ⟨A0, c0, h2⟩ := ObjG.open_ h (i := 0) rfl
  have O0 : Aside0 (Own N w [cells g (logC C L (.slice A0 L.length c0)) 53, nrow k31 31 (.slice A0 L.length c0) L]) := ⟨h2⟩
  have K0 : Aside0 (KeepS N w w) := ⟨KeepS.refl _ _⟩
  have c0_0_0 : w.cell? ⟨g, 0, none⟩ = some (.int .i64 C) := (blk_cell (O0.out.blk (i := 0) rfl) 0).trans (logC_0 _ _ _)
  have f0_0_0 : w.frozen? ⟨g, 0, none⟩ = false := blk_frozen (O0.out.blk (i := 0) rfl) 0
  have c0_0_1 : w.cell? ⟨g, 1, none⟩ = some (.slice A0 L.length c0) := (blk_cell (O0.out.blk (i := 0) rfl) 1).trans (logC_1 _ _ _)
  have f0_0_1 : w.frozen? ⟨g, 1, none⟩ = false := blk_frozen (O0.out.blk (i := 0) rfl) 1
  have c0_0_o : w.cell? ⟨g, 2 + (o).toNat, none⟩ = some (.int .i64 (lastOf (o) L)) := (blk_cell (O0.out.blk (i := 0) rfl) _).trans (logC_get _ _ _ _ (by have := HO.out; omega) (by have := HO2.out; have := HC.out; omega))
  have f0_0_o : w.frozen? ⟨g, 2 + (o).toNat, none⟩ = false := blk_frozen (O0.out.blk (i := 0) rfl) _
  clear h2 ho ho2 hC
  have H0 := Aside0.mk h
  clear h
  go_enter Try.func20, Try.ntmps20
  go_wp2
  go_ret
  exact ⟨rfl, H0.out, K0.out⟩
end Go.Proofs.Ytjmoncfgoaaekaa.J
