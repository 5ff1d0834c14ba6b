/- What a Link does: Hear, when it begins anew, as a turn of a resource: a plain walk through its text. -/
import Derived.Test.YtjmoncfgoaaekaaDoorYFeedAgainL3
namespace Go.Proofs.YtjmoncfgoaaekaaDoor.J
set_option linter.unusedSimpArgs false
set_option linter.unusedVariables false
open Go Go.RowKit Go.Proofs.YtjmoncfgoaaekaaDoorW.PrintWords Go.Proofs.YtjmoncfgoaaekaaDoorW.PrintLast Go.Proofs.YtjmoncfgoaaekaaDoorW.PrintMore Go.Proofs.YtjmoncfgoaaekaaDoor.Sep
set_option maxHeartbeats 16000000 in
set_option maxRecDepth 100000 in
theorem LHear_anew_ack {N : Nat → Prop} {w : World} {g : Nat} {E Wn Rm : Int} {W La S : Int} {xs : List Piece} {room acked n : Int} (fe fq fa : Int) (fd : ByteArray) (W2 room2 : Int) (h : Own N w [LinkO g E Wn Rm true W La S xs room acked n]) (hf : E < fe) (he : 0 ≤ fe ∧ fe ≤ 1099511627776) (hW : mn (mx Wn 1) 16 = W2) (hR : mn (mx Rm 1) 16 = room2) (hq : fq = 0) :
  Calls Tryd.prog 16 #[.pointer (some ⟨g, 0, none⟩), .agg #[.int .i64 fe, .int .i64 fq, .int .i64 fa, .string fd]] w fun e_ w' => e_ = .returned (.bool true) ∧ Own N w' [LinkO g fe Wn Rm true W2 1125899906842624 0 (ackX 0 fa []) room2 0 0] ∧ KeepS N w w' := by
 have d1 : decide (fe > E) = true := decide_eq_true hf
 have d2 : decide (E < fe) = true := decide_eq_true hf
 have d3 : decide (fe < E) = false := decide_eq_false (by omega)
 have HE1 : Aside0 (mn (mx fe 0) 1099511627776 = fe) := ⟨by unfold mn mx; (repeat' split) <;> omega⟩
 have HW := Aside0.mk hW
 have HR := Aside0.mk hR
 have HRR : Aside0 (0 ≤ (0 : Int) ∧ (0 : Int) ≤ room2 ∧ room2 ≤ 16) := ⟨by have h_ := hR; unfold mn mx at h_; (repeat' split at h_) <;> omega⟩
 subst hq
 have d5 : ((0 : Int) != 0) = false := by decide
 obtain ⟨gs, gr, h2⟩ := LinkO.open_ h
 have O0 : Aside0 (Own N w [cells g #[.pointer (some ⟨gs, 0, none⟩), .pointer (some ⟨gr, 0, none⟩), .int .i64 E, .int .i64 Wn, .int .i64 Rm, .bool true] 75, RecvO gr room acked n, SendO gs W La S xs]) := ⟨h2⟩
 have K0 : Aside0 (KeepS N w w) := ⟨KeepS.refl _ _⟩
 obtain ⟨a0a, a0b, a0c, a0d, a0e, a0f, b0⟩ := blk6_ (O0.out.blk (i := 0) rfl)
 clear h2 h hf he hW hR
 go_enter Tryd.func16, Tryd.ntmps16
 go_wp2_with (first | ((with_reducible refine gate_dst (N := 3) rfl ?_); refine own_box rfl (D := 3) rfl (cs := #[.int .i64 fe, .int .i64 0, .int .i64 fa, .string fd]) (t := 40) ?hr O0.out ?_; (case hr => first | (go_simp; done) | (go_simp; rfl)); intro gf w1 o_ k_; have O1 : Aside0 (Own N w1 [cells g #[.pointer (some ⟨gs, 0, none⟩), .pointer (some ⟨gr, 0, none⟩), .int .i64 E, .int .i64 Wn, .int .i64 Rm, .bool true] 75, RecvO gr room acked n, SendO gs W La S xs, cells gf #[.int .i64 fe, .int .i64 0, .int .i64 fa, .string fd] 40]) := ⟨o_⟩; have K1 : Aside0 (KeepS N w w1) := ⟨K0.out.trans k_⟩; clear a0a a0b a0c a0d a0e a0f b0 O0 K0; obtain ⟨a0a, a0b, a0c, a0d, a0e, a0f, b0⟩ := blk6_ (O1.out.blk (i := 0) rfl); obtain ⟨a3a, a3b, a3c, a3d, b3⟩ := blk4_ (O1.out.blk (i := 3) rfl); clear o_ k_))
 refine start_ (n := 8) (S := fun w' => w'.cell? ⟨g, 0, none⟩ = some (.pointer (some ⟨gs, 0, none⟩)) ∧ w'.cell? ⟨g, 1, none⟩ = some (.pointer (some ⟨gr, 0, none⟩)) ∧ w'.cell? ⟨g, 2, none⟩ = some (.int .i64 E) ∧ w'.cell? ⟨g, 3, none⟩ = some (.int .i64 Wn) ∧ w'.cell? ⟨g, 4, none⟩ = some (.int .i64 Rm) ∧ w'.cell? ⟨g, 5, none⟩ = some (.bool true) ∧ w'.cell? ⟨gf, 0, none⟩ = some (.int .i64 fe) ∧ w'.cell? ⟨gf, 1, none⟩ = some (.int .i64 0) ∧ w'.cell? ⟨gf, 2, none⟩ = some (.int .i64 fa) ∧ w'.cell? ⟨gf, 3, none⟩ = some (.string fd)) (ds := []) #[false, false, false, false, false, false, false, false] (by kernel_rfl) rfl rfl ⟨((blk_cell (O1.out.blk (i := 0) rfl) 0).trans rfl), ((blk_cell (O1.out.blk (i := 0) rfl) 1).trans rfl), ((blk_cell (O1.out.blk (i := 0) rfl) 2).trans rfl), ((blk_cell (O1.out.blk (i := 0) rfl) 3).trans rfl), ((blk_cell (O1.out.blk (i := 0) rfl) 4).trans rfl), ((blk_cell (O1.out.blk (i := 0) rfl) 5).trans rfl), ((blk_cell (O1.out.blk (i := 3) rfl) 0).trans rfl), ((blk_cell (O1.out.blk (i := 3) rfl) 1).trans rfl), ((blk_cell (O1.out.blk (i := 3) rfl) 2).trans rfl), ((blk_cell (O1.out.blk (i := 3) rfl) 3).trans rfl)⟩ (fun hHeld => ?_)
 obtain ⟨w2, hw_⟩ : ∃ W, W = w1.drew := ⟨_, rfl⟩
 have o_ := O1.out.drew
 have k_ : KeepS N w1 w1.drew := KeepS.drew
 rw [← hw_] at o_ k_ hHeld ⊢
 clear hw_
 have O2 : Aside0 (Own N w2 [cells g #[.pointer (some ⟨gs, 0, none⟩), .pointer (some ⟨gr, 0, none⟩), .int .i64 E, .int .i64 Wn, .int .i64 Rm, .bool true] 75, RecvO gr room acked n, SendO gs W La S xs, cells gf #[.int .i64 fe, .int .i64 0, .int .i64 fa, .string fd] 40]) := ⟨o_⟩
 have K2 : Aside0 (KeepS N w w2) := ⟨K1.out.trans k_⟩
 clear a0a a0b a0c a0d a0e a0f b0 a3a a3b a3c a3d b3 O1 K1
 obtain ⟨a0a, a0b, a0c, a0d, a0e, a0f, b0⟩ := blk6_ (O2.out.blk (i := 0) rfl)
 obtain ⟨a3a, a3b, a3c, a3d, b3⟩ := blk4_ (O2.out.blk (i := 3) rfl)
 clear o_ k_
 refine pure_ (i := 0) (N := some 6) (v := ?_) (a' := ?_) #[true, false, false, false, false, false, false, false] rfl rfl (by kernel_rfl) (fun _ _ _ h => h) (Or.inl ⟨by rfl, ?_⟩) ?_ ?_
 rotate_left
 ·intro w'
  go_simp
  with_reducible rfl
 rotate_left
 ·simp only [Act.put, List.setIfInBounds_toArray, List.set_cons_zero, List.set_cons_succ, i64_w, i32_w]
  rfl
 refine pure_ (i := 2) (N := some 8) (v := ?_) (a' := ?_) #[true, false, true, false, false, false, false, false] rfl rfl (by kernel_rfl) (fun _ _ _ h => h) (Or.inl ⟨by rfl, ?_⟩) ?_ ?_
 rotate_left
 ·intro w'
  go_simp
  with_reducible rfl
 rotate_left
 ·simp only [Act.put, List.setIfInBounds_toArray, List.set_cons_zero, List.set_cons_succ, i64_w, i32_w]
  rfl
 refine pure_ (i := 3) (N := some 9) (v := ?_) (a' := ?_) #[true, false, true, true, false, false, false, false] rfl rfl (by kernel_rfl) (fun _ _ _ h => h) (Or.inl ⟨by rfl, ?_⟩) ?_ ?_
 rotate_left
 ·intro w'
  go_simp
  with_reducible rfl
 rotate_left
 ·simp only [Act.put, List.setIfInBounds_toArray, List.set_cons_zero, List.set_cons_succ, i64_w, i32_w]
  rfl
 refine pure_ (i := 4) (N := some 10) (v := ?_) (a' := ?_) #[true, false, true, true, true, false, false, false] rfl rfl (by kernel_rfl) (fun _ _ _ h => h) (Or.inl ⟨by rfl, ?_⟩) ?_ ?_
 rotate_left
 ·intro w'
  go_simp
  with_reducible rfl
 rotate_left
 ·simp only [Act.put, List.setIfInBounds_toArray, List.set_cons_zero, List.set_cons_succ, i64_w, i32_w]
  rfl
 refine take_ (i := 1) (N := some 7) (v := ?_) (a' := ?_) #[true, true, true, true, true, false, false, false] rfl rfl (by kernel_rfl) (fun _ _ _ h => h) (Or.inl ⟨by rfl, ?_⟩) hHeld ?_ ?_
 rotate_left
 ·rintro w' ⟨s0, s1, s2, s3, s4, s5, s6, s7, s8, s9⟩
  go_simp
  with_reducible rfl
 rotate_left
 ·simp only [Act.put, List.setIfInBounds_toArray, List.set_cons_zero, List.set_cons_succ, i64_w, i32_w]
  rfl
 refine take_ (i := 5) (N := some 11) (v := ?_) (a' := ?_) #[true, true, true, true, true, true, false, false] rfl rfl (by kernel_rfl) (fun _ _ _ h => h) (Or.inl ⟨by rfl, ?_⟩) hHeld ?_ ?_
 rotate_left
 ·rintro w' ⟨s0, s1, s2, s3, s4, s5, s6, s7, s8, s9⟩
  go_simp
  with_reducible rfl
 rotate_left
 ·simp only [Act.put, List.setIfInBounds_toArray, List.set_cons_zero, List.set_cons_succ, i64_w, i32_w]
  rfl
 refine pure_ (i := 6) (N := some 12) (v := ?_) (a' := ?_) #[true, true, true, true, true, true, true, false] rfl rfl (by kernel_rfl) (fun _ _ _ h => h) (Or.inl ⟨by rfl, ?_⟩) ?_ ?_
 rotate_left
 ·intro w'
  go_simp
  with_reducible rfl
 rotate_left
 ·simp only [Act.put, List.setIfInBounds_toArray, List.set_cons_zero, List.set_cons_succ, i64_w, i32_w]
  rfl
 refine pure_ (i := 7) (N := some 5) (v := ?_) (a' := ?_) #[true, true, true, true, true, true, true, true] rfl rfl (by kernel_rfl) (fun _ _ _ h => h) (Or.inl ⟨by rfl, ?_⟩) ?_ ?_
 rotate_left
 ·intro w'
  go_simp
  with_reducible rfl
 rotate_left
 ·simp only [Act.put, List.setIfInBounds_toArray, List.set_cons_zero, List.set_cons_succ, i64_w, i32_w]
  rfl
 refine done_ (by kernel_rfl) ?_
 clear hHeld
 go_wp2
 refine start_ (n := 17) (S := fun w' => w'.cell? ⟨g, 0, none⟩ = some (.pointer (some ⟨gs, 0, none⟩)) ∧ w'.cell? ⟨g, 1, none⟩ = some (.pointer (some ⟨gr, 0, none⟩)) ∧ w'.cell? ⟨g, 2, none⟩ = some (.int .i64 E) ∧ w'.cell? ⟨g, 3, none⟩ = some (.int .i64 Wn) ∧ w'.cell? ⟨g, 4, none⟩ = some (.int .i64 Rm) ∧ w'.cell? ⟨g, 5, none⟩ = some (.bool true) ∧ w'.cell? ⟨gf, 0, none⟩ = some (.int .i64 fe) ∧ w'.cell? ⟨gf, 1, none⟩ = some (.int .i64 0) ∧ w'.cell? ⟨gf, 2, none⟩ = some (.int .i64 fa) ∧ w'.cell? ⟨gf, 3, none⟩ = some (.string fd)) (ds := []) #[false, false, false, false, false, false, false, false, false, false, false, false, false, false, false, false, false] (by kernel_rfl) rfl rfl ⟨((blk_cell (O2.out.blk (i := 0) rfl) 0).trans rfl), ((blk_cell (O2.out.blk (i := 0) rfl) 1).trans rfl), ((blk_cell (O2.out.blk (i := 0) rfl) 2).trans rfl), ((blk_cell (O2.out.blk (i := 0) rfl) 3).trans rfl), ((blk_cell (O2.out.blk (i := 0) rfl) 4).trans rfl), ((blk_cell (O2.out.blk (i := 0) rfl) 5).trans rfl), ((blk_cell (O2.out.blk (i := 3) rfl) 0).trans rfl), ((blk_cell (O2.out.blk (i := 3) rfl) 1).trans rfl), ((blk_cell (O2.out.blk (i := 3) rfl) 2).trans rfl), ((blk_cell (O2.out.blk (i := 3) rfl) 3).trans rfl)⟩ (fun hHeld => ?_)
 obtain ⟨w3, hw_⟩ : ∃ W, W = w2.drew := ⟨_, rfl⟩
 have o_ := O2.out.drew
 have k_ : KeepS N w2 w2.drew := KeepS.drew
 rw [← hw_] at o_ k_ hHeld ⊢
 clear hw_
 have O3 : Aside0 (Own N w3 [cells g #[.pointer (some ⟨gs, 0, none⟩), .pointer (some ⟨gr, 0, none⟩), .int .i64 E, .int .i64 Wn, .int .i64 Rm, .bool true] 75, RecvO gr room acked n, SendO gs W La S xs, cells gf #[.int .i64 fe, .int .i64 0, .int .i64 fa, .string fd] 40]) := ⟨o_⟩
 have K3 : Aside0 (KeepS N w w3) := ⟨K2.out.trans k_⟩
 clear a0a a0b a0c a0d a0e a0f b0 a3a a3b a3c a3d b3 O2 K2
 obtain ⟨a0a, a0b, a0c, a0d, a0e, a0f, b0⟩ := blk6_ (O3.out.blk (i := 0) rfl)
 obtain ⟨a3a, a3b, a3c, a3d, b3⟩ := blk4_ (O3.out.blk (i := 3) rfl)
 clear o_ k_
 refine pure_ (i := 0) (N := some 13) (v := ?_) (a' := ?_) #[true, false, false, false, false, false, false, false, false, false, false, false, false, false, false, false, false] rfl rfl (by kernel_rfl) (fun _ _ _ h => h) (Or.inl ⟨by rfl, ?_⟩) ?_ ?_
 rotate_left
 ·intro w'
  go_simp
  with_reducible rfl
 rotate_left
 ·simp only [Act.put, List.setIfInBounds_toArray, List.set_cons_zero, List.set_cons_succ, i64_w, i32_w]
  rfl
 refine pure_ (i := 2) (N := some 15) (v := ?_) (a' := ?_) #[true, false, true, false, false, false, false, false, false, false, false, false, false, false, false, false, false] rfl rfl (by kernel_rfl) (fun _ _ _ h => h) (Or.inl ⟨by rfl, ?_⟩) ?_ ?_
 rotate_left
 ·intro w'
  go_simp
  with_reducible rfl
 rotate_left
 ·simp only [Act.put, List.setIfInBounds_toArray, List.set_cons_zero, List.set_cons_succ, i64_w, i32_w]
  rfl
 refine pure_ (i := 3) (N := some 16) (v := ?_) (a' := ?_) #[true, false, true, true, false, false, false, false, false, false, false, false, false, false, false, false, false] rfl rfl (by kernel_rfl) (fun _ _ _ h => h) (Or.inl ⟨by rfl, ?_⟩) ?_ ?_
 rotate_left
 ·intro w'
  go_simp
  with_reducible rfl
 rotate_left
 ·simp only [Act.put, List.setIfInBounds_toArray, List.set_cons_zero, List.set_cons_succ, i64_w, i32_w]
  rfl
 refine pure_ (i := 4) (N := some 17) (v := ?_) (a' := ?_) #[true, false, true, true, true, false, false, false, false, false, false, false, false, false, false, false, false] rfl rfl (by kernel_rfl) (fun _ _ _ h => h) (Or.inl ⟨by rfl, ?_⟩) ?_ ?_
 rotate_left
 ·intro w'
  go_simp
  with_reducible rfl
 rotate_left
 ·simp only [Act.put, List.setIfInBounds_toArray, List.set_cons_zero, List.set_cons_succ, i64_w, i32_w]
  rfl
 refine take_ (i := 1) (N := some 14) (v := ?_) (a' := ?_) #[true, true, true, true, true, false, false, false, false, false, false, false, false, false, false, false, false] rfl rfl (by kernel_rfl) (fun _ _ _ h => h) (Or.inl ⟨by rfl, ?_⟩) hHeld ?_ ?_
 rotate_left
 ·rintro w' ⟨s0, s1, s2, s3, s4, s5, s6, s7, s8, s9⟩
  go_simp
  with_reducible rfl
 rotate_left
 ·simp only [Act.put, List.setIfInBounds_toArray, List.set_cons_zero, List.set_cons_succ, i64_w, i32_w]
  rfl
 refine take_ (i := 5) (N := some 18) (v := ?_) (a' := ?_) #[true, true, true, true, true, true, false, false, false, false, false, false, false, false, false, false, false] rfl rfl (by kernel_rfl) (fun _ _ _ h => h) (Or.inl ⟨by rfl, ?_⟩) hHeld ?_ ?_
 rotate_left
 ·rintro w' ⟨s0, s1, s2, s3, s4, s5, s6, s7, s8, s9⟩
  go_simp
  with_reducible rfl
 rotate_left
 ·simp only [Act.put, List.setIfInBounds_toArray, List.set_cons_zero, List.set_cons_succ, i64_w, i32_w]
  rfl
 refine pure_ (i := 6) (N := some 19) (v := ?_) (a' := ?_) #[true, true, true, true, true, true, true, false, false, false, false, false, false, false, false, false, false] rfl rfl (by kernel_rfl) (fun _ _ _ h => h) (Or.inl ⟨by rfl, ?_⟩) ?_ ?_
 rotate_left
 ·intro w'
  go_simp
  with_reducible rfl
 rotate_left
 ·simp only [Act.put, List.setIfInBounds_toArray, List.set_cons_zero, List.set_cons_succ, i64_w, i32_w]
  rfl
 refine pure_ (i := 7) (N := some 20) (v := ?_) (a' := ?_) #[true, true, true, true, true, true, true, true, false, false, false, false, false, false, false, false, false] rfl rfl (by kernel_rfl) (fun _ _ _ h => h) (Or.inl ⟨by rfl, ?_⟩) ?_ ?_
 rotate_left
 ·intro w'
  go_simp
  with_reducible rfl
 rotate_left
 ·simp only [Act.put, List.setIfInBounds_toArray, List.set_cons_zero, List.set_cons_succ, i64_w, i32_w]
  rfl
 refine pure_ (i := 8) (N := some 21) (v := ?_) (a' := ?_) #[true, true, true, true, true, true, true, true, true, false, false, false, false, false, false, false, false] rfl rfl (by kernel_rfl) (fun _ _ _ h => h) (Or.inl ⟨by rfl, ?_⟩) ?_ ?_
 rotate_left
 ·intro w'
  go_simp
  with_reducible rfl
 rotate_left
 ·simp only [Act.put, List.setIfInBounds_toArray, List.set_cons_zero, List.set_cons_succ, i64_w, i32_w]
  rfl
 refine pure_ (i := 9) (N := some 22) (v := ?_) (a' := ?_) #[true, true, true, true, true, true, true, true, true, true, false, false, false, false, false, false, false] rfl rfl (by kernel_rfl) (fun _ _ _ h => h) (Or.inl ⟨by rfl, ?_⟩) ?_ ?_
 rotate_left
 ·intro w'
  go_simp
  with_reducible rfl
 rotate_left
 ·simp only [Act.put, List.setIfInBounds_toArray, List.set_cons_zero, List.set_cons_succ, i64_w, i32_w]
  rfl
 refine pure_ (i := 10) (N := some 23) (v := ?_) (a' := ?_) #[true, true, true, true, true, true, true, true, true, true, true, false, false, false, false, false, false] rfl rfl (by kernel_rfl) (fun _ _ _ h => h) (Or.inl ⟨by rfl, ?_⟩) ?_ ?_
 rotate_left
 ·intro w'
  go_simp
  with_reducible rfl
 rotate_left
 ·simp only [Act.put, List.setIfInBounds_toArray, List.set_cons_zero, List.set_cons_succ, i64_w, i32_w]
  rfl
 refine pure_ (i := 11) (N := some 24) (v := ?_) (a' := ?_) #[true, true, true, true, true, true, true, true, true, true, true, true, false, false, false, false, false] rfl rfl (by kernel_rfl) (fun _ _ _ h => h) (Or.inl ⟨by rfl, ?_⟩) ?_ ?_
 rotate_left
 ·intro w'
  go_simp
  with_reducible rfl
 rotate_left
 ·simp only [Act.put, List.setIfInBounds_toArray, List.set_cons_zero, List.set_cons_succ, i64_w, i32_w]
  rfl
 refine pure_ (i := 12) (N := some 25) (v := ?_) (a' := ?_) #[true, true, true, true, true, true, true, true, true, true, true, true, true, false, false, false, false] rfl rfl (by kernel_rfl) (fun _ _ _ h => h) (Or.inl ⟨by rfl, ?_⟩) ?_ ?_
 rotate_left
 ·intro w'
  go_simp
  with_reducible rfl
 rotate_left
 ·simp only [Act.put, List.setIfInBounds_toArray, List.set_cons_zero, List.set_cons_succ, i64_w, i32_w]
  rfl
 refine take_ (i := 13) (N := some 26) (v := ?_) (a' := ?_) #[true, true, true, true, true, true, true, true, true, true, true, true, true, true, false, false, false] rfl rfl (by kernel_rfl) (fun _ _ _ h => h) (Or.inl ⟨by rfl, ?_⟩) hHeld ?_ ?_
 rotate_left
 ·rintro w' ⟨s0, s1, s2, s3, s4, s5, s6, s7, s8, s9⟩
  go_simp
  with_reducible rfl
 rotate_left
 ·simp only [Act.put, List.setIfInBounds_toArray, List.set_cons_zero, List.set_cons_succ, i64_w, i32_w]
  rfl
 refine pure_ (i := 14) (N := some 27) (v := ?_) (a' := ?_) #[true, true, true, true, true, true, true, true, true, true, true, true, true, true, true, false, false] rfl rfl (by kernel_rfl) (fun _ _ _ h => h) (Or.inl ⟨by rfl, ?_⟩) ?_ ?_
 rotate_left
 ·intro w'
  go_simp
  with_reducible rfl
 rotate_left
 ·simp only [Act.put, List.setIfInBounds_toArray, List.set_cons_zero, List.set_cons_succ, i64_w, i32_w]
  rfl
 refine pure_ (i := 15) (N := some 28) (v := ?_) (a' := ?_) #[true, true, true, true, true, true, true, true, true, true, true, true, true, true, true, true, false] rfl rfl (by kernel_rfl) (fun _ _ _ h => h) (Or.inl ⟨by rfl, ?_⟩) ?_ ?_
 rotate_left
 ·intro w'
  go_simp
  with_reducible rfl
 rotate_left
 ·simp only [Act.put, List.setIfInBounds_toArray, List.set_cons_zero, List.set_cons_succ, i64_w, i32_w]
  rfl
 refine pure_ (i := 16) (N := some 29) (v := ?_) (a' := ?_) #[true, true, true, true, true, true, true, true, true, true, true, true, true, true, true, true, true] rfl rfl (by kernel_rfl) (fun _ _ _ h => h) (Or.inl ⟨by rfl, ?_⟩) ?_ ?_
 rotate_left
 ·intro w'
  go_simp
  with_reducible rfl
 rotate_left
 ·simp only [Act.put, List.setIfInBounds_toArray, List.set_cons_zero, List.set_cons_succ, i64_w, i32_w]
  rfl
 refine done_ (by kernel_rfl) ?_
 clear hHeld
 go_wp2_with (first | ((with_reducible refine gate_callee (f := 30) rfl ?_); refine goesL_ (some 34) rfl rfl Tryd.func30 (by kernel_rfl) rfl #[.pointer (some ⟨g, 0, none⟩), .int .i64 fe] rfl (by (try simp only [List.map_toArray, List.map_cons, List.map_nil]); first | done | rfl) ?_; obtain ⟨N_, on_, nn_, rr_, bb_⟩ := O3.out.frame1 (i := 0) rfl; refine (LBegin fe fe W2 room2 HE1.out HW.out HR.out on_).mono ?_; rintro e_ w4 ⟨rfl, oo_, kk_⟩; obtain ⟨o_, k_⟩ := bb_ _ _ _ kk_ oo_; refine ⟨_, rfl, ?_⟩; have O4 : Aside0 (Own N w4 [LinkO g fe Wn Rm true W2 1125899906842624 0 [] room2 0 0, RecvO gr room acked n, SendO gs W La S xs, cells gf #[.int .i64 fe, .int .i64 0, .int .i64 fa, .string fd] 40]) := ⟨o_⟩; have K4 : Aside0 (KeepS N w w4) := ⟨K3.out.trans k_⟩; clear a0a a0b a0c a0d a0e a0f b0 a3a a3b a3c a3d b3 O3 K3; obtain ⟨a3a, a3b, a3c, a3d, b3⟩ := blk4_ (O4.out.blk (i := 3) rfl); clear o_ k_ oo_ kk_ on_ nn_ rr_ bb_))
 obtain ⟨gs2, o1_⟩ := O4.out.of_ex (i := 0) rfl
 obtain ⟨gr2, o2_⟩ := o1_.of_ex (i := 0) rfl
 have o3_ := o2_.split (i := 0) rfl
 have o4_ := o3_.split (i := 0) rfl
 have O5 : Aside0 (Own N w4 [cells g #[.pointer (some ⟨gs2, 0, none⟩), .pointer (some ⟨gr2, 0, none⟩), .int .i64 fe, .int .i64 Wn, .int .i64 Rm, .bool true] 75, RecvO gr room acked n, SendO gs W La S xs, cells gf #[.int .i64 fe, .int .i64 0, .int .i64 fa, .string fd] 40, RecvO gr2 room2 0 0, SendO gs2 W2 1125899906842624 0 []]) := ⟨o4_⟩
 have K5 := K4
 clear o1_ o2_ o3_ o4_ O4 K4 a3a a3b a3c a3d b3
 obtain ⟨a0a, a0b, a0c, a0d, a0e, a0f, b0⟩ := blk6_ (O5.out.blk (i := 0) rfl)
 obtain ⟨a3a, a3b, a3c, a3d, b3⟩ := blk4_ (O5.out.blk (i := 3) rfl)
 refine start_ (n := 8) (S := fun w' => w'.cell? ⟨g, 0, none⟩ = some (.pointer (some ⟨gs2, 0, none⟩)) ∧ w'.cell? ⟨g, 1, none⟩ = some (.pointer (some ⟨gr2, 0, none⟩)) ∧ w'.cell? ⟨g, 2, none⟩ = some (.int .i64 fe) ∧ w'.cell? ⟨g, 3, none⟩ = some (.int .i64 Wn) ∧ w'.cell? ⟨g, 4, none⟩ = some (.int .i64 Rm) ∧ w'.cell? ⟨g, 5, none⟩ = some (.bool true) ∧ w'.cell? ⟨gf, 0, none⟩ = some (.int .i64 fe) ∧ w'.cell? ⟨gf, 1, none⟩ = some (.int .i64 0) ∧ w'.cell? ⟨gf, 2, none⟩ = some (.int .i64 fa) ∧ w'.cell? ⟨gf, 3, none⟩ = some (.string fd)) (ds := []) #[false, false, false, false, false, false, false, false] (by kernel_rfl) rfl rfl ⟨((blk_cell (O5.out.blk (i := 0) rfl) 0).trans rfl), ((blk_cell (O5.out.blk (i := 0) rfl) 1).trans rfl), ((blk_cell (O5.out.blk (i := 0) rfl) 2).trans rfl), ((blk_cell (O5.out.blk (i := 0) rfl) 3).trans rfl), ((blk_cell (O5.out.blk (i := 0) rfl) 4).trans rfl), ((blk_cell (O5.out.blk (i := 0) rfl) 5).trans rfl), ((blk_cell (O5.out.blk (i := 3) rfl) 0).trans rfl), ((blk_cell (O5.out.blk (i := 3) rfl) 1).trans rfl), ((blk_cell (O5.out.blk (i := 3) rfl) 2).trans rfl), ((blk_cell (O5.out.blk (i := 3) rfl) 3).trans rfl)⟩ (fun hHeld => ?_)
 obtain ⟨w6, hw_⟩ : ∃ W, W = w4.drew := ⟨_, rfl⟩
 have o_ := O5.out.drew
 have k_ : KeepS N w4 w4.drew := KeepS.drew
 rw [← hw_] at o_ k_ hHeld ⊢
 clear hw_
 have O6 : Aside0 (Own N w6 [cells g #[.pointer (some ⟨gs2, 0, none⟩), .pointer (some ⟨gr2, 0, none⟩), .int .i64 fe, .int .i64 Wn, .int .i64 Rm, .bool true] 75, RecvO gr room acked n, SendO gs W La S xs, cells gf #[.int .i64 fe, .int .i64 0, .int .i64 fa, .string fd] 40, RecvO gr2 room2 0 0, SendO gs2 W2 1125899906842624 0 []]) := ⟨o_⟩
 have K6 : Aside0 (KeepS N w w6) := ⟨K5.out.trans k_⟩
 clear a0a a0b a0c a0d a0e a0f b0 a3a a3b a3c a3d b3 O5 K5
 obtain ⟨a0a, a0b, a0c, a0d, a0e, a0f, b0⟩ := blk6_ (O6.out.blk (i := 0) rfl)
 obtain ⟨a3a, a3b, a3c, a3d, b3⟩ := blk4_ (O6.out.blk (i := 3) rfl)
 clear o_ k_
 refine pure_ (i := 0) (N := some 35) (v := ?_) (a' := ?_) #[true, false, false, false, false, false, false, false] rfl rfl (by kernel_rfl) (fun _ _ _ h => h) (Or.inl ⟨by rfl, ?_⟩) ?_ ?_
 rotate_left
 ·intro w'
  go_simp
  with_reducible rfl
 rotate_left
 ·simp only [Act.put, List.setIfInBounds_toArray, List.set_cons_zero, List.set_cons_succ, i64_w, i32_w]
  rfl
 refine pure_ (i := 1) (N := some 36) (v := ?_) (a' := ?_) #[true, true, false, false, false, false, false, false] rfl rfl (by kernel_rfl) (fun _ _ _ h => h) (Or.inl ⟨by rfl, ?_⟩) ?_ ?_
 rotate_left
 ·intro w'
  go_simp
  with_reducible rfl
 rotate_left
 ·simp only [Act.put, List.setIfInBounds_toArray, List.set_cons_zero, List.set_cons_succ, i64_w, i32_w]
  rfl
 refine pure_ (i := 2) (N := some 37) (v := ?_) (a' := ?_) #[true, true, true, false, false, false, false, false] rfl rfl (by kernel_rfl) (fun _ _ _ h => h) (Or.inl ⟨by rfl, ?_⟩) ?_ ?_
 rotate_left
 ·intro w'
  go_simp
  with_reducible rfl
 rotate_left
 ·simp only [Act.put, List.setIfInBounds_toArray, List.set_cons_zero, List.set_cons_succ, i64_w, i32_w]
  rfl
 refine pure_ (i := 3) (N := some 38) (v := ?_) (a' := ?_) #[true, true, true, true, false, false, false, false] rfl rfl (by kernel_rfl) (fun _ _ _ h => h) (Or.inl ⟨by rfl, ?_⟩) ?_ ?_
 rotate_left
 ·intro w'
  go_simp
  with_reducible rfl
 rotate_left
 ·simp only [Act.put, List.setIfInBounds_toArray, List.set_cons_zero, List.set_cons_succ, i64_w, i32_w]
  rfl
 refine pure_ (i := 5) (N := some 40) (v := ?_) (a' := ?_) #[true, true, true, true, false, true, false, false] rfl rfl (by kernel_rfl) (fun _ _ _ h => h) (Or.inl ⟨by rfl, ?_⟩) ?_ ?_
 rotate_left
 ·intro w'
  go_simp
  with_reducible rfl
 rotate_left
 ·simp only [Act.put, List.setIfInBounds_toArray, List.set_cons_zero, List.set_cons_succ, i64_w, i32_w]
  rfl
 refine take_ (i := 4) (N := some 39) (v := ?_) (a' := ?_) #[true, true, true, true, true, true, false, false] rfl rfl (by kernel_rfl) (fun _ _ _ h => h) (Or.inl ⟨by rfl, ?_⟩) hHeld ?_ ?_
 rotate_left
 ·rintro w' ⟨s0, s1, s2, s3, s4, s5, s6, s7, s8, s9⟩
  go_simp
  with_reducible rfl
 rotate_left
 ·simp only [Act.put, List.setIfInBounds_toArray, List.set_cons_zero, List.set_cons_succ, i64_w, i32_w]
  rfl
 refine take_ (i := 6) (N := some 41) (v := ?_) (a' := ?_) #[true, true, true, true, true, true, true, false] rfl rfl (by kernel_rfl) (fun _ _ _ h => h) (Or.inl ⟨by rfl, ?_⟩) hHeld ?_ ?_
 rotate_left
 ·rintro w' ⟨s0, s1, s2, s3, s4, s5, s6, s7, s8, s9⟩
  go_simp
  with_reducible rfl
 rotate_left
 ·simp only [Act.put, List.setIfInBounds_toArray, List.set_cons_zero, List.set_cons_succ, i64_w, i32_w]
  rfl
 refine one_ (i := 7) (N := some 42) #[true, true, true, true, true, true, true, true] rfl rfl (by kernel_rfl) (by decide) (fun K_ hK_ => ?_)
 refine goes_ Tryd.func40 (by kernel_rfl) rfl #[.pointer (some ⟨gs2, 0, none⟩), .int .i64 fa] (by rfl) rfl rfl (by (try simp only [List.map_toArray, List.map_cons, List.map_nil]); first | done | rfl) ?_
 obtain ⟨N_, on_, nn_, rr_, bb_⟩ := O6.out.frame1 (i := 5) rfl
 refine (SAck_a fa on_ (by decide)).mono ?_
 rintro e_ w7 ⟨rfl, oo_, kk_⟩
 obtain ⟨o_, k_⟩ := bb_ _ _ _ kk_ oo_
 refine ⟨_, rfl, ?_⟩
 have O7 : Aside0 (Own N w7 [cells g #[.pointer (some ⟨gs2, 0, none⟩), .pointer (some ⟨gr2, 0, none⟩), .int .i64 fe, .int .i64 Wn, .int .i64 Rm, .bool true] 75, RecvO gr room acked n, SendO gs W La S xs, cells gf #[.int .i64 fe, .int .i64 0, .int .i64 fa, .string fd] 40, RecvO gr2 room2 0 0, SendO gs2 W2 1125899906842624 0 (ackX 0 fa [])]) := ⟨o_⟩
 have K7 : Aside0 (KeepS N w w7) := ⟨K6.out.trans k_⟩
 clear a0a a0b a0c a0d a0e a0f b0 a3a a3b a3c a3d b3 O6 K6
 obtain ⟨a0a, a0b, a0c, a0d, a0e, a0f, b0⟩ := blk6_ (O7.out.blk (i := 0) rfl)
 obtain ⟨a3a, a3b, a3c, a3d, b3⟩ := blk4_ (O7.out.blk (i := 3) rfl)
 clear o_ k_ oo_ kk_ on_ nn_ rr_ bb_
 clear hHeld
 refine hK_.out _ _ ⟨((blk_cell (O7.out.blk (i := 0) rfl) 0).trans rfl), ((blk_cell (O7.out.blk (i := 0) rfl) 1).trans rfl), ((blk_cell (O7.out.blk (i := 0) rfl) 2).trans rfl), ((blk_cell (O7.out.blk (i := 0) rfl) 3).trans rfl), ((blk_cell (O7.out.blk (i := 0) rfl) 4).trans rfl), ((blk_cell (O7.out.blk (i := 0) rfl) 5).trans rfl), ((blk_cell (O7.out.blk (i := 3) rfl) 0).trans rfl), ((blk_cell (O7.out.blk (i := 3) rfl) 1).trans rfl), ((blk_cell (O7.out.blk (i := 3) rfl) 2).trans rfl), ((blk_cell (O7.out.blk (i := 3) rfl) 3).trans rfl)⟩ (fun hHeld => ?_)
 clear hK_ K_
 refine norm_ (a' := ?_) ?_ ?_
 rotate_left
 ·simp only [Act.put, List.setIfInBounds_toArray, List.set_cons_zero, List.set_cons_succ, i64_w, i32_w]
  rfl
 refine done_ (by kernel_rfl) ?_
 clear hHeld
 go_wp2
 go_ret
 exact ⟨rfl, LinkO.shut (gs := gs2) (gr := gr2) (O7.out.pickL [0, 4, 5] (by decide) (by simp)), K7.out⟩
end Go.Proofs.YtjmoncfgoaaekaaDoor.J
