/- The table of package prefix ('bits': 6, 14, 30, 62) as a fact about a world, and what the function that looks into it returns: which spelling a number has. It holds in every world in which the variable reads as its initialiser lays it. -/
import Derived.Test.YtjdenpmaianmfaaDoorY6Aid
namespace Go.Proofs.YtjdenpmaianmfaaDoor.Q
open RowKit YtjdenpmaianmfaaDoorW.PrintWords YtjdenpmaianmfaaDoorW.PrintLast YtjdenpmaianmfaaDoorW.PrintMore
attribute [local go_sem] max2_int min2_int max_two min_two max_three min_three max_four min_four
def Tab (w : World) : Prop :=
 w.cell? ⟨0, 0, none⟩ = some (.int .u64 6) ∧ w.cell? ⟨0, 1, none⟩ = some (.int .u64 14) ∧
  w.cell? ⟨0, 2, none⟩ = some (.int .u64 30) ∧ w.cell? ⟨0, 3, none⟩ = some (.int .u64 62)
theorem Tab.below {w w1 : World} (h : Tab w) (hb : Below w.heap.size w w1) : Tab w1 :=
 ⟨pw_cell_below hb h.1, pw_cell_below hb h.2.1, pw_cell_below hb h.2.2.1, pw_cell_below hb h.2.2.2⟩
theorem Tab.drew {w : World} (h : Tab w) : Tab w.drew := h
theorem Tab.drewN {w : World} (h : Tab w) (n : Nat) : Tab (w.drewN n) := h.below (Drawn0.below ⟨⟨n, rfl⟩⟩)
def prefix_spelling.f (a0 : Int) : Option Int := if a0 < 0 then none else if a0 < 64 then (some 0) else (if a0 < 16384 then (some 1) else (if a0 < 1073741824 then (some 2) else (if a0 < 4611686018427387904 then (some 3) else (some 4))))
set_option maxHeartbeats 4000000 in
set_option maxRecDepth 100000 in
theorem prefix_spelling.calls (a0 : Int) (r : Int) (w : World) (HT : Aside0 (Tab w)) (h : prefix_spelling.f a0 = some r) :
  Calls Tryd.prog 127 #[.int .u64 a0] w fun e w' => e = .returned (.int .i64 r) ∧ Drawn0 w w' := by
 obtain ⟨h0, h1, h2, h3⟩ := HT.out
 clear HT
 have i0 : ∀ w, (Instr.index 188 (.agg #[.int .u64 6, .int .u64 14, .int .u64 30, .int .u64 62]) (.int .i64 0)).run Tryd.prog w = .ok (.int .u64 6) w := fun _ => by kernel_rfl
 have i1 : ∀ w, (Instr.index 188 (.agg #[.int .u64 6, .int .u64 14, .int .u64 30, .int .u64 62]) (.int .i64 1)).run Tryd.prog w = .ok (.int .u64 14) w := fun _ => by kernel_rfl
 have i2 : ∀ w, (Instr.index 188 (.agg #[.int .u64 6, .int .u64 14, .int .u64 30, .int .u64 62]) (.int .i64 2)).run Tryd.prog w = .ok (.int .u64 30) w := fun _ => by kernel_rfl
 have i3 : ∀ w, (Instr.index 188 (.agg #[.int .u64 6, .int .u64 14, .int .u64 30, .int .u64 62]) (.int .i64 3)).run Tryd.prog w = .ok (.int .u64 62) w := fun _ => by kernel_rfl
 have fin : ∀ q : Int, q = r → (Ending.returned (.int .i64 q) = Ending.returned (.int .i64 r) ∧ Drawn0 w w) := fun q e => by rw [e]; exact ⟨rfl, Drawn0.refl _⟩
 unfold prefix_spelling.f at h
 by_cases hneg : a0 < 0
 ·rw [if_pos hneg] at h; cases h
 rw [if_neg hneg] at h
 by_cases c0 : a0 < 64
 ·rw [if_pos c0] at h
  have g := fin 0 (Option.some.inj h)
  have t0 : (a0 / 64 == 0) = true := beq_iff_eq.2 (by omega)
  clear c0 h fin hneg
  have G := Am g
  clear g
  go_enter Tryd.func127, Tryd.ntmps127
  go_wp2
  refine wp_loop_rounds 4 ?_
  rw [rounds_succ]
  go_wp2
  go_ret
  exact G.out
 rw [if_neg c0] at h
 have t0 : (a0 / 64 == 0) = false := beq_eq_false_iff_ne.2 (by omega)
 by_cases c1 : a0 < 16384
 ·rw [if_pos c1] at h
  have g := fin 1 (Option.some.inj h)
  have t1 : (a0 / 16384 == 0) = true := beq_iff_eq.2 (by omega)
  clear c0 c1 h fin hneg
  have G := Am g
  clear g
  go_enter Tryd.func127, Tryd.ntmps127
  go_wp2
  refine wp_loop_rounds 4 ?_
  rw [rounds_succ]
  go_wp2
  rw [rounds_succ]
  go_wp2
  go_ret
  exact G.out
 rw [if_neg c1] at h
 have t1 : (a0 / 16384 == 0) = false := beq_eq_false_iff_ne.2 (by omega)
 by_cases c2 : a0 < 1073741824
 ·rw [if_pos c2] at h
  have g := fin 2 (Option.some.inj h)
  have t2 : (a0 / 1073741824 == 0) = true := beq_iff_eq.2 (by omega)
  clear c0 c1 c2 h fin hneg
  have G := Am g
  clear g
  go_enter Tryd.func127, Tryd.ntmps127
  go_wp2
  refine wp_loop_rounds 4 ?_
  rw [rounds_succ]
  go_wp2
  rw [rounds_succ]
  go_wp2
  rw [rounds_succ]
  go_wp2
  go_ret
  exact G.out
 rw [if_neg c2] at h
 have t2 : (a0 / 1073741824 == 0) = false := beq_eq_false_iff_ne.2 (by omega)
 by_cases c3 : a0 < 4611686018427387904
 ·rw [if_pos c3] at h
  have g := fin 3 (Option.some.inj h)
  have t3 : (a0 / 4611686018427387904 == 0) = true := beq_iff_eq.2 (by omega)
  clear c0 c1 c2 c3 h fin hneg
  have G := Am g
  clear g
  go_enter Tryd.func127, Tryd.ntmps127
  go_wp2
  refine wp_loop_rounds 4 ?_
  rw [rounds_succ]
  go_wp2
  rw [rounds_succ]
  go_wp2
  rw [rounds_succ]
  go_wp2
  rw [rounds_succ]
  go_wp2
  go_ret
  exact G.out
 ·rw [if_neg c3] at h
  have g := fin 4 (Option.some.inj h)
  have t3 : (a0 / 4611686018427387904 == 0) = false := beq_eq_false_iff_ne.2 (by omega)
  clear c0 c1 c2 c3 h fin hneg
  have G := Am g
  clear g
  go_enter Tryd.func127, Tryd.ntmps127
  go_wp2
  refine wp_loop_rounds 5 ?_
  rw [rounds_succ]
  go_wp2
  rw [rounds_succ]
  go_wp2
  rw [rounds_succ]
  go_wp2
  rw [rounds_succ]
  go_wp2
  rw [rounds_succ]
  go_wp2
  go_ret
  exact G.out
end Go.Proofs.YtjdenpmaianmfaaDoor.Q
