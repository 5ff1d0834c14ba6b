/- What a Sender does, as turns of a resource: a plain walk through its text. -/
import Derived.Test.YtjmoncfgoaaekaaDoorYFeedAgainS0
import Derived.Test.YtjmoncfgoaaekaaDoorProg
namespace Go.Proofs.YtjmoncfgoaaekaaDoor.J
set_option linter.unusedSimpArgs false
set_option linter.unusedVariables false
open Go Go.RowKit Go.Proofs.YtjmoncfgoaaekaaDoorW.PrintWords Go.Proofs.YtjmoncfgoaaekaaDoorW.PrintLast Go.Proofs.YtjmoncfgoaaekaaDoorW.PrintMore Go.Proofs.YtjmoncfgoaaekaaDoor.Sep
attribute [local go_sem] max2_int min2_int max_two min_two max_three min_three max_four min_four
theorem infoP : (Tryd.prog.info? 102).map (fun i => (i.zero, i.size, i.bytes)) = some (some (Value.agg #[.int .i64 0, .string ⟨#[]⟩]), 2, 24) := by kernel_rfl
theorem cut3 {P : Program} (t e : TypeId) {i : TypeInfo} (ht : P.underlying t = some (.slice e)) (hi : P.info? e = some i) (A : Option Addr) (n c : Nat) (hc : n ≤ c) : ∀ W : World, (Instr.slice t (.slice A n c) none (some (.int .i64 (n : Int))) (some (.int .i64 (n : Int)))).run P W = .ok (.slice A n n) W := by
 intro W
 have hel : P.elem t = e := by simp [Program.elem, ht]
 have hu : P.underlying t = some (.slice (P.elem t)) := by rw [hel]; exact ht
 have ha : (A.map fun x => x.add 0) = A := by cases A <;> simp [Addr.add]
 rw [run_slice_hm W t A n c hu .i64 .i64 n n (by omega) (by omega) (by omega), hel]
 simp [sizeOf, typeInfo, hi, sliced, Result.andThen, ha]
set_option maxHeartbeats 16000000 in
set_option maxRecDepth 100000 in
theorem SNew {N : Nat → Prop} {w : World} (a0 a1 W La : Int) (hW : mn (mx a0 1) 16 = W) (hL : mn (mx a1 0) 1125899906842624 = La) (h : Own N w []) :
  Calls Tryd.prog 56 #[.int .i64 a0, .int .i64 a1] w fun e_ w' => ∃ g, e_ = .returned (.pointer (some ⟨g, 0, none⟩)) ∧ Own N w' [SendO g W La 0 []] ∧ KeepS N w w' := by
 have O0 : Aside0 (Own N w []) := ⟨h⟩
 have K0 : Aside0 (KeepS N w w) := ⟨KeepS.refl _ _⟩
 have w1 := hW
 have l1 := hL
 have w2 : (if 16 < if a0 < 1 then 1 else a0 then 16 else if a0 < 1 then 1 else a0) = W := by (have e_ := hW; simp only [mn, mx] at e_; (repeat' split at e_) <;> (repeat' split) <;> omega)
 have l2 : (if 1125899906842624 < if a1 < 0 then 0 else a1 then 1125899906842624 else if a1 < 0 then 0 else a1) = La := by (have e_ := hL; simp only [mn, mx] at e_; (repeat' split at e_) <;> (repeat' split) <;> omega)
 go_enter Tryd.func56, Tryd.ntmps56
 go_wp2_with (first | ((with_reducible refine gate_dst (N := 12) rfl ?_); refine own_box rfl (D := 12) rfl (cs := #[.int .i64 W, .int .i64 La, .int .i64 0, .slice none 0 0]) (t := 136) ?hr O0.out ?_; (case hr => first | (go_simp; done) | (go_simp; rfl)); intro g w1 o_ k_; have O1 : Aside0 (Own N w1 [cells g #[.int .i64 W, .int .i64 La, .int .i64 0, .slice none 0 0] 136]) := ⟨o_⟩; have K1 : Aside0 (KeepS N w w1) := ⟨K0.out.trans k_⟩; clear O0 K0; have c1_0_0 : w1.cell? ⟨g, 0, none⟩ = some (.int .i64 W) := (blk_cell (O1.out.blk (i := 0) rfl) 0).trans rfl; have f1_0_0 : w1.frozen? ⟨g, 0, none⟩ = false := blk_frozen (O1.out.blk (i := 0) rfl) 0; have c1_0_1 : w1.cell? ⟨g, 1, none⟩ = some (.int .i64 La) := (blk_cell (O1.out.blk (i := 0) rfl) 1).trans rfl; have f1_0_1 : w1.frozen? ⟨g, 1, none⟩ = false := blk_frozen (O1.out.blk (i := 0) rfl) 1; have c1_0_2 : w1.cell? ⟨g, 2, none⟩ = some (.int .i64 0) := (blk_cell (O1.out.blk (i := 0) rfl) 2).trans rfl; have f1_0_2 : w1.frozen? ⟨g, 2, none⟩ = false := blk_frozen (O1.out.blk (i := 0) rfl) 2; have c1_0_3 : w1.cell? ⟨g, 3, none⟩ = some (.slice none 0 0) := (blk_cell (O1.out.blk (i := 0) rfl) 3).trans rfl; have f1_0_3 : w1.frozen? ⟨g, 3, none⟩ = false := blk_frozen (O1.out.blk (i := 0) rfl) 3; clear o_ k_))
 all_goals go_ret
 all_goals exact ⟨g, rfl, (SendO.shut (i := 0) (j := 1) (O1.out.qnil kP 102) rfl rfl (by decide)).take 1, K1.out⟩
set_option maxHeartbeats 16000000 in
set_option maxRecDepth 100000 in
theorem SOffer_full {N : Nat → Prop} {w : World} {g : Nat} {W La S : Int} {xs : List Piece} (data : ByteArray) (h : Own N w [SendO g W La S xs]) (hf : (xs.length : Int) = W) :
  Calls Tryd.prog 66 #[.pointer (some ⟨g, 0, none⟩), .string data] w fun e_ w' => e_ = .returned (.tuple #[.int .i64 0, .int .i64 7]) ∧ Own N w' [SendO g W La S xs] ∧ KeepS N w w' := by
 have d1 : ((xs.length : Int) == W) = true := by simp [hf]
 have H0 := Aside0.mk h
 obtain ⟨A0, c0, h2⟩ := SendO.open_ h (i := 0) rfl
 have O0 : Aside0 (Own N w [cells g #[.int .i64 W, .int .i64 La, .int .i64 S, .slice A0 xs.length c0] 136, qrow kP 102 (.slice A0 xs.length c0) xs]) := ⟨h2⟩
 have K0 : Aside0 (KeepS N w w) := ⟨KeepS.refl _ _⟩
 have c0_0_0 : w.cell? ⟨g, 0, none⟩ = some (.int .i64 W) := (blk_cell (O0.out.blk (i := 0) rfl) 0).trans rfl
 have f0_0_0 : w.frozen? ⟨g, 0, none⟩ = false := blk_frozen (O0.out.blk (i := 0) rfl) 0
 have c0_0_1 : w.cell? ⟨g, 1, none⟩ = some (.int .i64 La) := (blk_cell (O0.out.blk (i := 0) rfl) 1).trans rfl
 have f0_0_1 : w.frozen? ⟨g, 1, none⟩ = false := blk_frozen (O0.out.blk (i := 0) rfl) 1
 have c0_0_2 : w.cell? ⟨g, 2, none⟩ = some (.int .i64 S) := (blk_cell (O0.out.blk (i := 0) rfl) 2).trans rfl
 have f0_0_2 : w.frozen? ⟨g, 2, none⟩ = false := blk_frozen (O0.out.blk (i := 0) rfl) 2
 have c0_0_3 : w.cell? ⟨g, 3, none⟩ = some (.slice A0 xs.length c0) := (blk_cell (O0.out.blk (i := 0) rfl) 3).trans rfl
 have f0_0_3 : w.frozen? ⟨g, 3, none⟩ = false := blk_frozen (O0.out.blk (i := 0) rfl) 3
 clear h2 h
 go_enter Tryd.func66, Tryd.ntmps66
 go_wp2
 refine start_ (n := 11) (S := fun w' => w'.cell? ⟨g, 0, none⟩ = some (.int .i64 W) ∧ w'.cell? ⟨g, 1, none⟩ = some (.int .i64 La) ∧ w'.cell? ⟨g, 2, none⟩ = some (.int .i64 S) ∧ w'.cell? ⟨g, 3, none⟩ = some (.slice A0 xs.length c0)) (ds := []) #[false, false, false, false, false, false, false, false, false, false, false] (by kernel_rfl) rfl rfl ⟨((blk_cell (O0.out.blk (i := 0) rfl) 0).trans rfl), ((blk_cell (O0.out.blk (i := 0) rfl) 1).trans rfl), ((blk_cell (O0.out.blk (i := 0) rfl) 2).trans rfl), ((blk_cell (O0.out.blk (i := 0) rfl) 3).trans rfl)⟩ (fun hHeld => ?_)
 obtain ⟨w1, hw_⟩ : ∃ W, W = w.drew := ⟨_, rfl⟩
 have o_ := O0.out.drew
 have k_ : KeepS N w w.drew := KeepS.drew
 rw [← hw_] at o_ k_ hHeld ⊢
 clear hw_
 have O1 : Aside0 (Own N w1 [cells g #[.int .i64 W, .int .i64 La, .int .i64 S, .slice A0 xs.length c0] 136, qrow kP 102 (.slice A0 xs.length c0) xs]) := ⟨o_⟩
 have K1 : Aside0 (KeepS N w w1) := ⟨K0.out.trans k_⟩
 clear c0_0_0 f0_0_0 c0_0_1 f0_0_1 c0_0_2 f0_0_2 c0_0_3 f0_0_3 O0 K0
 have c1_0_0 : w1.cell? ⟨g, 0, none⟩ = some (.int .i64 W) := (blk_cell (O1.out.blk (i := 0) rfl) 0).trans rfl
 have f1_0_0 : w1.frozen? ⟨g, 0, none⟩ = false := blk_frozen (O1.out.blk (i := 0) rfl) 0
 have c1_0_1 : w1.cell? ⟨g, 1, none⟩ = some (.int .i64 La) := (blk_cell (O1.out.blk (i := 0) rfl) 1).trans rfl
 have f1_0_1 : w1.frozen? ⟨g, 1, none⟩ = false := blk_frozen (O1.out.blk (i := 0) rfl) 1
 have c1_0_2 : w1.cell? ⟨g, 2, none⟩ = some (.int .i64 S) := (blk_cell (O1.out.blk (i := 0) rfl) 2).trans rfl
 have f1_0_2 : w1.frozen? ⟨g, 2, none⟩ = false := blk_frozen (O1.out.blk (i := 0) rfl) 2
 have c1_0_3 : w1.cell? ⟨g, 3, none⟩ = some (.slice A0 xs.length c0) := (blk_cell (O1.out.blk (i := 0) rfl) 3).trans rfl
 have f1_0_3 : w1.frozen? ⟨g, 3, none⟩ = false := blk_frozen (O1.out.blk (i := 0) rfl) 3
 clear o_ k_
 refine pure_ (i := 0) (N := some 8) (v := ?_) (a' := ?_) #[true, false, false, false, false, false, false, false, false, false, false] rfl rfl (by kernel_rfl) (fun _ _ _ h => h) (Or.inl ⟨by rfl, ?_⟩) ?_ ?_
 rotate_left
 ·intro w'
  go_simp
  with_reducible rfl
 rotate_left
 ·simp only [Act.put, List.setIfInBounds_toArray, List.set_cons_zero, List.set_cons_succ, i64_w, i32_w]
  rfl
 refine pure_ (i := 1) (N := some 9) (v := ?_) (a' := ?_) #[true, true, false, false, false, false, false, false, false, false, false] rfl rfl (by kernel_rfl) (fun _ _ _ h => h) (Or.inl ⟨by rfl, ?_⟩) ?_ ?_
 rotate_left
 ·intro w'
  go_simp
  with_reducible rfl
 rotate_left
 ·simp only [Act.put, List.setIfInBounds_toArray, List.set_cons_zero, List.set_cons_succ, i64_w, i32_w]
  rfl
 refine pure_ (i := 2) (N := some 10) (v := ?_) (a' := ?_) #[true, true, true, false, false, false, false, false, false, false, false] rfl rfl (by kernel_rfl) (fun _ _ _ h => h) (Or.inl ⟨by rfl, ?_⟩) ?_ ?_
 rotate_left
 ·intro w'
  go_simp
  with_reducible rfl
 rotate_left
 ·simp only [Act.put, List.setIfInBounds_toArray, List.set_cons_zero, List.set_cons_succ, i64_w, i32_w]
  rfl
 refine pure_ (i := 5) (N := some 13) (v := ?_) (a' := ?_) #[true, true, true, false, false, true, false, false, false, false, false] rfl rfl (by kernel_rfl) (fun _ _ _ h => h) (Or.inl ⟨by rfl, ?_⟩) ?_ ?_
 rotate_left
 ·intro w'
  go_simp
  with_reducible rfl
 rotate_left
 ·simp only [Act.put, List.setIfInBounds_toArray, List.set_cons_zero, List.set_cons_succ, i64_w, i32_w]
  rfl
 refine pure_ (i := 6) (N := some 14) (v := ?_) (a' := ?_) #[true, true, true, false, false, true, true, false, false, false, false] rfl rfl (by kernel_rfl) (fun _ _ _ h => h) (Or.inl ⟨by rfl, ?_⟩) ?_ ?_
 rotate_left
 ·intro w'
  go_simp
  with_reducible rfl
 rotate_left
 ·simp only [Act.put, List.setIfInBounds_toArray, List.set_cons_zero, List.set_cons_succ, i64_w, i32_w]
  rfl
 refine pure_ (i := 7) (N := some 15) (v := ?_) (a' := ?_) #[true, true, true, false, false, true, true, true, false, false, false] rfl rfl (by kernel_rfl) (fun _ _ _ h => h) (Or.inl ⟨by rfl, ?_⟩) ?_ ?_
 rotate_left
 ·intro w'
  go_simp
  with_reducible rfl
 rotate_left
 ·simp only [Act.put, List.setIfInBounds_toArray, List.set_cons_zero, List.set_cons_succ, i64_w, i32_w]
  rfl
 refine take_ (i := 3) (N := some 11) (v := ?_) (a' := ?_) #[true, true, true, true, false, true, true, true, false, false, false] rfl rfl (by kernel_rfl) (fun _ _ _ h => h) (Or.inl ⟨by rfl, ?_⟩) hHeld ?_ ?_
 rotate_left
 ·rintro w' ⟨s0, s1, s2, s3⟩
  go_simp
  with_reducible rfl
 rotate_left
 ·simp only [Act.put, List.setIfInBounds_toArray, List.set_cons_zero, List.set_cons_succ, i64_w, i32_w]
  rfl
 refine pure_ (i := 4) (N := some 12) (v := ?_) (a' := ?_) #[true, true, true, true, true, true, true, true, false, false, false] rfl rfl (by kernel_rfl) (fun _ _ _ h => h) (Or.inl ⟨by rfl, ?_⟩) ?_ ?_
 rotate_left
 ·intro w'
  go_simp
  with_reducible rfl
 rotate_left
 ·simp only [Act.put, List.setIfInBounds_toArray, List.set_cons_zero, List.set_cons_succ, i64_w, i32_w]
  rfl
 refine take_ (i := 8) (N := some 16) (v := ?_) (a' := ?_) #[true, true, true, true, true, true, true, true, true, false, false] rfl rfl (by kernel_rfl) (fun _ _ _ h => h) (Or.inl ⟨by rfl, ?_⟩) hHeld ?_ ?_
 rotate_left
 ·rintro w' ⟨s0, s1, s2, s3⟩
  go_simp
  with_reducible rfl
 rotate_left
 ·simp only [Act.put, List.setIfInBounds_toArray, List.set_cons_zero, List.set_cons_succ, i64_w, i32_w]
  rfl
 refine pure_ (i := 9) (N := some 17) (v := ?_) (a' := ?_) #[true, true, true, true, true, true, true, true, true, true, false] rfl rfl (by kernel_rfl) (fun _ _ _ h => h) (Or.inl ⟨by rfl, ?_⟩) ?_ ?_
 rotate_left
 ·intro w'
  go_simp
  with_reducible rfl
 rotate_left
 ·simp only [Act.put, List.setIfInBounds_toArray, List.set_cons_zero, List.set_cons_succ, i64_w, i32_w]
  rfl
 refine pure_ (i := 10) (N := some 7) (v := ?_) (a' := ?_) #[true, true, true, true, true, true, true, true, true, true, true] rfl rfl (by kernel_rfl) (fun _ _ _ h => h) (Or.inl ⟨by rfl, ?_⟩) ?_ ?_
 rotate_left
 ·intro w'
  go_simp
  with_reducible rfl
 rotate_left
 ·simp only [Act.put, List.setIfInBounds_toArray, List.set_cons_zero, List.set_cons_succ, i64_w, i32_w]
  rfl
 refine done_ (by kernel_rfl) ?_
 clear hHeld
 go_wp2
 go_ret2
 exact ⟨rfl, (SendO.shut (i := 0) (j := 1) O1.out rfl rfl (by decide)).take 1, K1.out⟩
set_option maxHeartbeats 16000000 in
set_option maxRecDepth 100000 in
theorem SOffer_ok {N : Nat → Prop} {w : World} {g : Nat} {W La S : Int} {xs : List Piece} (data : ByteArray) (h : Own N w [SendO g W La S xs]) (hf : (xs.length : Int) ≠ W) (ho : S ≠ La) (hs : 0 ≤ S ∧ S < 1125899906842624) (hl : xs.length ≤ 16) :
  Calls Tryd.prog 66 #[.pointer (some ⟨g, 0, none⟩), .string data] w fun e_ w' => e_ = .returned (.tuple #[.int .i64 (S + 1), .int .i64 0]) ∧ Own N w' [SendO g W La (S + 1) (xs ++ [(S + 1, data)])] ∧ KeepS N w w' := by
 have d1 : ((xs.length : Int) == W) = false := by simp [hf]
 have d2 : (S == La) = false := by simp [ho]
 have s1 : wrap64 (S + 1) = S + 1 := by unfold wrap64; omega
 have s2 : IntKind.i64.wrap (S + 1) = S + 1 := by rw [IntKind.wrap_i64]; omega
 have HL := Aside0.mk hl
 clear hf ho hs hl
 have H0 := Aside0.mk h
 obtain ⟨A0, c0, h2⟩ := SendO.open_ h (i := 0) rfl
 have O0 : Aside0 (Own N w [cells g #[.int .i64 W, .int .i64 La, .int .i64 S, .slice A0 xs.length c0] 136, qrow kP 102 (.slice A0 xs.length c0) xs]) := ⟨h2⟩
 have K0 : Aside0 (KeepS N w w) := ⟨KeepS.refl _ _⟩
 have c0_0_0 : w.cell? ⟨g, 0, none⟩ = some (.int .i64 W) := (blk_cell (O0.out.blk (i := 0) rfl) 0).trans rfl
 have f0_0_0 : w.frozen? ⟨g, 0, none⟩ = false := blk_frozen (O0.out.blk (i := 0) rfl) 0
 have c0_0_1 : w.cell? ⟨g, 1, none⟩ = some (.int .i64 La) := (blk_cell (O0.out.blk (i := 0) rfl) 1).trans rfl
 have f0_0_1 : w.frozen? ⟨g, 1, none⟩ = false := blk_frozen (O0.out.blk (i := 0) rfl) 1
 have c0_0_2 : w.cell? ⟨g, 2, none⟩ = some (.int .i64 S) := (blk_cell (O0.out.blk (i := 0) rfl) 2).trans rfl
 have f0_0_2 : w.frozen? ⟨g, 2, none⟩ = false := blk_frozen (O0.out.blk (i := 0) rfl) 2
 have c0_0_3 : w.cell? ⟨g, 3, none⟩ = some (.slice A0 xs.length c0) := (blk_cell (O0.out.blk (i := 0) rfl) 3).trans rfl
 have f0_0_3 : w.frozen? ⟨g, 3, none⟩ = false := blk_frozen (O0.out.blk (i := 0) rfl) 3
 clear h2 h
 go_enter Tryd.func66, Tryd.ntmps66
 go_wp2
 refine start_ (n := 11) (S := fun w' => w'.cell? ⟨g, 0, none⟩ = some (.int .i64 W) ∧ w'.cell? ⟨g, 1, none⟩ = some (.int .i64 La) ∧ w'.cell? ⟨g, 2, none⟩ = some (.int .i64 S) ∧ w'.cell? ⟨g, 3, none⟩ = some (.slice A0 xs.length c0)) (ds := []) #[false, false, false, false, false, false, false, false, false, false, false] (by kernel_rfl) rfl rfl ⟨((blk_cell (O0.out.blk (i := 0) rfl) 0).trans rfl), ((blk_cell (O0.out.blk (i := 0) rfl) 1).trans rfl), ((blk_cell (O0.out.blk (i := 0) rfl) 2).trans rfl), ((blk_cell (O0.out.blk (i := 0) rfl) 3).trans rfl)⟩ (fun hHeld => ?_)
 obtain ⟨w1, hw_⟩ : ∃ W, W = w.drew := ⟨_, rfl⟩
 have o_ := O0.out.drew
 have k_ : KeepS N w w.drew := KeepS.drew
 rw [← hw_] at o_ k_ hHeld ⊢
 clear hw_
 have O1 : Aside0 (Own N w1 [cells g #[.int .i64 W, .int .i64 La, .int .i64 S, .slice A0 xs.length c0] 136, qrow kP 102 (.slice A0 xs.length c0) xs]) := ⟨o_⟩
 have K1 : Aside0 (KeepS N w w1) := ⟨K0.out.trans k_⟩
 clear c0_0_0 f0_0_0 c0_0_1 f0_0_1 c0_0_2 f0_0_2 c0_0_3 f0_0_3 O0 K0
 have c1_0_0 : w1.cell? ⟨g, 0, none⟩ = some (.int .i64 W) := (blk_cell (O1.out.blk (i := 0) rfl) 0).trans rfl
 have f1_0_0 : w1.frozen? ⟨g, 0, none⟩ = false := blk_frozen (O1.out.blk (i := 0) rfl) 0
 have c1_0_1 : w1.cell? ⟨g, 1, none⟩ = some (.int .i64 La) := (blk_cell (O1.out.blk (i := 0) rfl) 1).trans rfl
 have f1_0_1 : w1.frozen? ⟨g, 1, none⟩ = false := blk_frozen (O1.out.blk (i := 0) rfl) 1
 have c1_0_2 : w1.cell? ⟨g, 2, none⟩ = some (.int .i64 S) := (blk_cell (O1.out.blk (i := 0) rfl) 2).trans rfl
 have f1_0_2 : w1.frozen? ⟨g, 2, none⟩ = false := blk_frozen (O1.out.blk (i := 0) rfl) 2
 have c1_0_3 : w1.cell? ⟨g, 3, none⟩ = some (.slice A0 xs.length c0) := (blk_cell (O1.out.blk (i := 0) rfl) 3).trans rfl
 have f1_0_3 : w1.frozen? ⟨g, 3, none⟩ = false := blk_frozen (O1.out.blk (i := 0) rfl) 3
 clear o_ k_
 refine pure_ (i := 0) (N := some 8) (v := ?_) (a' := ?_) #[true, false, false, false, false, false, false, false, false, false, false] rfl rfl (by kernel_rfl) (fun _ _ _ h => h) (Or.inl ⟨by rfl, ?_⟩) ?_ ?_
 rotate_left
 ·intro w'
  go_simp
  with_reducible rfl
 rotate_left
 ·simp only [Act.put, List.setIfInBounds_toArray, List.set_cons_zero, List.set_cons_succ, i64_w, i32_w]
  rfl
 refine pure_ (i := 1) (N := some 9) (v := ?_) (a' := ?_) #[true, true, false, false, false, false, false, false, false, false, false] rfl rfl (by kernel_rfl) (fun _ _ _ h => h) (Or.inl ⟨by rfl, ?_⟩) ?_ ?_
 rotate_left
 ·intro w'
  go_simp
  with_reducible rfl
 rotate_left
 ·simp only [Act.put, List.setIfInBounds_toArray, List.set_cons_zero, List.set_cons_succ, i64_w, i32_w]
  rfl
 refine pure_ (i := 2) (N := some 10) (v := ?_) (a' := ?_) #[true, true, true, false, false, false, false, false, false, false, false] rfl rfl (by kernel_rfl) (fun _ _ _ h => h) (Or.inl ⟨by rfl, ?_⟩) ?_ ?_
 rotate_left
 ·intro w'
  go_simp
  with_reducible rfl
 rotate_left
 ·simp only [Act.put, List.setIfInBounds_toArray, List.set_cons_zero, List.set_cons_succ, i64_w, i32_w]
  rfl
 refine pure_ (i := 5) (N := some 13) (v := ?_) (a' := ?_) #[true, true, true, false, false, true, false, false, false, false, false] rfl rfl (by kernel_rfl) (fun _ _ _ h => h) (Or.inl ⟨by rfl, ?_⟩) ?_ ?_
 rotate_left
 ·intro w'
  go_simp
  with_reducible rfl
 rotate_left
 ·simp only [Act.put, List.setIfInBounds_toArray, List.set_cons_zero, List.set_cons_succ, i64_w, i32_w]
  rfl
 refine pure_ (i := 6) (N := some 14) (v := ?_) (a' := ?_) #[true, true, true, false, false, true, true, false, false, false, false] rfl rfl (by kernel_rfl) (fun _ _ _ h => h) (Or.inl ⟨by rfl, ?_⟩) ?_ ?_
 rotate_left
 ·intro w'
  go_simp
  with_reducible rfl
 rotate_left
 ·simp only [Act.put, List.setIfInBounds_toArray, List.set_cons_zero, List.set_cons_succ, i64_w, i32_w]
  rfl
 refine pure_ (i := 7) (N := some 15) (v := ?_) (a' := ?_) #[true, true, true, false, false, true, true, true, false, false, false] rfl rfl (by kernel_rfl) (fun _ _ _ h => h) (Or.inl ⟨by rfl, ?_⟩) ?_ ?_
 rotate_left
 ·intro w'
  go_simp
  with_reducible rfl
 rotate_left
 ·simp only [Act.put, List.setIfInBounds_toArray, List.set_cons_zero, List.set_cons_succ, i64_w, i32_w]
  rfl
 refine take_ (i := 3) (N := some 11) (v := ?_) (a' := ?_) #[true, true, true, true, false, true, true, true, false, false, false] rfl rfl (by kernel_rfl) (fun _ _ _ h => h) (Or.inl ⟨by rfl, ?_⟩) hHeld ?_ ?_
 rotate_left
 ·rintro w' ⟨s0, s1, s2, s3⟩
  go_simp
  with_reducible rfl
 rotate_left
 ·simp only [Act.put, List.setIfInBounds_toArray, List.set_cons_zero, List.set_cons_succ, i64_w, i32_w]
  rfl
 refine pure_ (i := 4) (N := some 12) (v := ?_) (a' := ?_) #[true, true, true, true, true, true, true, true, false, false, false] rfl rfl (by kernel_rfl) (fun _ _ _ h => h) (Or.inl ⟨by rfl, ?_⟩) ?_ ?_
 rotate_left
 ·intro w'
  go_simp
  with_reducible rfl
 rotate_left
 ·simp only [Act.put, List.setIfInBounds_toArray, List.set_cons_zero, List.set_cons_succ, i64_w, i32_w]
  rfl
 refine take_ (i := 8) (N := some 16) (v := ?_) (a' := ?_) #[true, true, true, true, true, true, true, true, true, false, false] rfl rfl (by kernel_rfl) (fun _ _ _ h => h) (Or.inl ⟨by rfl, ?_⟩) hHeld ?_ ?_
 rotate_left
 ·rintro w' ⟨s0, s1, s2, s3⟩
  go_simp
  with_reducible rfl
 rotate_left
 ·simp only [Act.put, List.setIfInBounds_toArray, List.set_cons_zero, List.set_cons_succ, i64_w, i32_w]
  rfl
 refine pure_ (i := 9) (N := some 17) (v := ?_) (a' := ?_) #[true, true, true, true, true, true, true, true, true, true, false] rfl rfl (by kernel_rfl) (fun _ _ _ h => h) (Or.inl ⟨by rfl, ?_⟩) ?_ ?_
 rotate_left
 ·intro w'
  go_simp
  with_reducible rfl
 rotate_left
 ·simp only [Act.put, List.setIfInBounds_toArray, List.set_cons_zero, List.set_cons_succ, i64_w, i32_w]
  rfl
 refine pure_ (i := 10) (N := some 7) (v := ?_) (a' := ?_) #[true, true, true, true, true, true, true, true, true, true, true] rfl rfl (by kernel_rfl) (fun _ _ _ h => h) (Or.inl ⟨by rfl, ?_⟩) ?_ ?_
 rotate_left
 ·intro w'
  go_simp
  with_reducible rfl
 rotate_left
 ·simp only [Act.put, List.setIfInBounds_toArray, List.set_cons_zero, List.set_cons_succ, i64_w, i32_w]
  rfl
 refine done_ (by kernel_rfl) ?_
 clear hHeld
 go_wp2
 refine start_ (n := 10) (S := fun w' => w'.cell? ⟨g, 0, none⟩ = some (.int .i64 W) ∧ w'.cell? ⟨g, 1, none⟩ = some (.int .i64 La) ∧ w'.cell? ⟨g, 2, none⟩ = some (.int .i64 S) ∧ w'.cell? ⟨g, 3, none⟩ = some (.slice A0 xs.length c0)) (ds := []) #[false, false, false, false, false, false, false, false, false, false] (by kernel_rfl) rfl rfl ⟨((blk_cell (O1.out.blk (i := 0) rfl) 0).trans rfl), ((blk_cell (O1.out.blk (i := 0) rfl) 1).trans rfl), ((blk_cell (O1.out.blk (i := 0) rfl) 2).trans rfl), ((blk_cell (O1.out.blk (i := 0) rfl) 3).trans rfl)⟩ (fun hHeld => ?_)
 obtain ⟨w2, hw_⟩ : ∃ W, W = w1.drew := ⟨_, rfl⟩
 have o_ := O1.out.drew
 have k_ : KeepS N w1 w1.drew := KeepS.drew
 rw [← hw_] at o_ k_ hHeld ⊢
 clear hw_
 have O2 : Aside0 (Own N w2 [cells g #[.int .i64 W, .int .i64 La, .int .i64 S, .slice A0 xs.length c0] 136, qrow kP 102 (.slice A0 xs.length c0) xs]) := ⟨o_⟩
 have K2 : Aside0 (KeepS N w w2) := ⟨K1.out.trans k_⟩
 clear c1_0_0 f1_0_0 c1_0_1 f1_0_1 c1_0_2 f1_0_2 c1_0_3 f1_0_3 O1 K1
 have c2_0_0 : w2.cell? ⟨g, 0, none⟩ = some (.int .i64 W) := (blk_cell (O2.out.blk (i := 0) rfl) 0).trans rfl
 have f2_0_0 : w2.frozen? ⟨g, 0, none⟩ = false := blk_frozen (O2.out.blk (i := 0) rfl) 0
 have c2_0_1 : w2.cell? ⟨g, 1, none⟩ = some (.int .i64 La) := (blk_cell (O2.out.blk (i := 0) rfl) 1).trans rfl
 have f2_0_1 : w2.frozen? ⟨g, 1, none⟩ = false := blk_frozen (O2.out.blk (i := 0) rfl) 1
 have c2_0_2 : w2.cell? ⟨g, 2, none⟩ = some (.int .i64 S) := (blk_cell (O2.out.blk (i := 0) rfl) 2).trans rfl
 have f2_0_2 : w2.frozen? ⟨g, 2, none⟩ = false := blk_frozen (O2.out.blk (i := 0) rfl) 2
 have c2_0_3 : w2.cell? ⟨g, 3, none⟩ = some (.slice A0 xs.length c0) := (blk_cell (O2.out.blk (i := 0) rfl) 3).trans rfl
 have f2_0_3 : w2.frozen? ⟨g, 3, none⟩ = false := blk_frozen (O2.out.blk (i := 0) rfl) 3
 clear o_ k_
 refine pure_ (i := 0) (N := some 19) (v := ?_) (a' := ?_) #[true, false, false, false, false, false, false, false, false, false] rfl rfl (by kernel_rfl) (fun _ _ _ h => h) (Or.inl ⟨by rfl, ?_⟩) ?_ ?_
 rotate_left
 ·intro w'
  go_simp
  with_reducible rfl
 rotate_left
 ·simp only [Act.put, List.setIfInBounds_toArray, List.set_cons_zero, List.set_cons_succ, i64_w, i32_w]
  rfl
 refine pure_ (i := 1) (N := some 20) (v := ?_) (a' := ?_) #[true, true, false, false, false, false, false, false, false, false] rfl rfl (by kernel_rfl) (fun _ _ _ h => h) (Or.inl ⟨by rfl, ?_⟩) ?_ ?_
 rotate_left
 ·intro w'
  go_simp
  with_reducible rfl
 rotate_left
 ·simp only [Act.put, List.setIfInBounds_toArray, List.set_cons_zero, List.set_cons_succ, i64_w, i32_w]
  rfl
 refine pure_ (i := 2) (N := some 21) (v := ?_) (a' := ?_) #[true, true, true, false, false, false, false, false, false, false] rfl rfl (by kernel_rfl) (fun _ _ _ h => h) (Or.inl ⟨by rfl, ?_⟩) ?_ ?_
 rotate_left
 ·intro w'
  go_simp
  with_reducible rfl
 rotate_left
 ·simp only [Act.put, List.setIfInBounds_toArray, List.set_cons_zero, List.set_cons_succ, i64_w, i32_w]
  rfl
 refine pure_ (i := 4) (N := some 23) (v := ?_) (a' := ?_) #[true, true, true, false, true, false, false, false, false, false] rfl rfl (by kernel_rfl) (fun _ _ _ h => h) (Or.inl ⟨by rfl, ?_⟩) ?_ ?_
 rotate_left
 ·intro w'
  go_simp
  with_reducible rfl
 rotate_left
 ·simp only [Act.put, List.setIfInBounds_toArray, List.set_cons_zero, List.set_cons_succ, i64_w, i32_w]
  rfl
 refine pure_ (i := 5) (N := some 24) (v := ?_) (a' := ?_) #[true, true, true, false, true, true, false, false, false, false] rfl rfl (by kernel_rfl) (fun _ _ _ h => h) (Or.inl ⟨by rfl, ?_⟩) ?_ ?_
 rotate_left
 ·intro w'
  go_simp
  with_reducible rfl
 rotate_left
 ·simp only [Act.put, List.setIfInBounds_toArray, List.set_cons_zero, List.set_cons_succ, i64_w, i32_w]
  rfl
 refine pure_ (i := 6) (N := some 25) (v := ?_) (a' := ?_) #[true, true, true, false, true, true, true, false, false, false] rfl rfl (by kernel_rfl) (fun _ _ _ h => h) (Or.inl ⟨by rfl, ?_⟩) ?_ ?_
 rotate_left
 ·intro w'
  go_simp
  with_reducible rfl
 rotate_left
 ·simp only [Act.put, List.setIfInBounds_toArray, List.set_cons_zero, List.set_cons_succ, i64_w, i32_w]
  rfl
 refine take_ (i := 3) (N := some 22) (v := ?_) (a' := ?_) #[true, true, true, true, true, true, true, false, false, false] rfl rfl (by kernel_rfl) (fun _ _ _ h => h) (Or.inl ⟨by rfl, ?_⟩) hHeld ?_ ?_
 rotate_left
 ·rintro w' ⟨s0, s1, s2, s3⟩
  go_simp
  with_reducible rfl
 rotate_left
 ·simp only [Act.put, List.setIfInBounds_toArray, List.set_cons_zero, List.set_cons_succ, i64_w, i32_w]
  rfl
 refine take_ (i := 7) (N := some 26) (v := ?_) (a' := ?_) #[true, true, true, true, true, true, true, true, false, false] rfl rfl (by kernel_rfl) (fun _ _ _ h => h) (Or.inl ⟨by rfl, ?_⟩) hHeld ?_ ?_
 rotate_left
 ·rintro w' ⟨s0, s1, s2, s3⟩
  go_simp
  with_reducible rfl
 rotate_left
 ·simp only [Act.put, List.setIfInBounds_toArray, List.set_cons_zero, List.set_cons_succ, i64_w, i32_w]
  rfl
 refine pure_ (i := 8) (N := some 27) (v := ?_) (a' := ?_) #[true, true, true, true, true, true, true, true, true, false] rfl rfl (by kernel_rfl) (fun _ _ _ h => h) (Or.inl ⟨by rfl, ?_⟩) ?_ ?_
 rotate_left
 ·intro w'
  go_simp
  with_reducible rfl
 rotate_left
 ·simp only [Act.put, List.setIfInBounds_toArray, List.set_cons_zero, List.set_cons_succ, i64_w, i32_w]
  rfl
 refine pure_ (i := 9) (N := some 18) (v := ?_) (a' := ?_) #[true, true, true, true, true, true, true, true, true, true] rfl rfl (by kernel_rfl) (fun _ _ _ h => h) (Or.inl ⟨by rfl, ?_⟩) ?_ ?_
 rotate_left
 ·intro w'
  go_simp
  with_reducible rfl
 rotate_left
 ·simp only [Act.put, List.setIfInBounds_toArray, List.set_cons_zero, List.set_cons_succ, i64_w, i32_w]
  rfl
 refine done_ (by kernel_rfl) ?_
 clear hHeld
 go_wp2_with (first | ((with_reducible refine gate_store (t := 3) (p := 34) rfl ?_); refine own_store rfl rfl rfl (w1 := (World.setCell w2 ⟨g, 2, none⟩ (.int .i64 (S + 1)))) (N := N) (l' := [cells g #[.int .i64 W, .int .i64 La, .int .i64 (S + 1), .slice A0 xs.length c0] 136, qrow kP 102 (.slice A0 xs.length c0) xs]) ?hr ?ho ?hk ?_; (case hr => first | (go_simp; done) | (go_simp; rfl)); (case ho => exact (O2.out.set (i := 0) rfl 2 (.int .i64 (S + 1)))); (case hk => exact (KeepS.setCell (O2.out.far (i := 0) rfl) (.int .i64 (S + 1)))); intro w3 o_ k_; have O3 : Aside0 (Own N w3 [cells g #[.int .i64 W, .int .i64 La, .int .i64 (S + 1), .slice A0 xs.length c0] 136, qrow kP 102 (.slice A0 xs.length c0) xs]) := ⟨o_⟩; have K3 : Aside0 (KeepS N w w3) := ⟨K2.out.trans k_⟩; clear c2_0_0 f2_0_0 c2_0_1 f2_0_1 c2_0_2 f2_0_2 c2_0_3 f2_0_3 O2 K2; have c3_0_0 : w3.cell? ⟨g, 0, none⟩ = some (.int .i64 W) := (blk_cell (O3.out.blk (i := 0) rfl) 0).trans rfl; have f3_0_0 : w3.frozen? ⟨g, 0, none⟩ = false := blk_frozen (O3.out.blk (i := 0) rfl) 0; have c3_0_1 : w3.cell? ⟨g, 1, none⟩ = some (.int .i64 La) := (blk_cell (O3.out.blk (i := 0) rfl) 1).trans rfl; have f3_0_1 : w3.frozen? ⟨g, 1, none⟩ = false := blk_frozen (O3.out.blk (i := 0) rfl) 1; have c3_0_2 : w3.cell? ⟨g, 2, none⟩ = some (.int .i64 (S + 1)) := (blk_cell (O3.out.blk (i := 0) rfl) 2).trans rfl; have f3_0_2 : w3.frozen? ⟨g, 2, none⟩ = false := blk_frozen (O3.out.blk (i := 0) rfl) 2; have c3_0_3 : w3.cell? ⟨g, 3, none⟩ = some (.slice A0 xs.length c0) := (blk_cell (O3.out.blk (i := 0) rfl) 3).trans rfl; have f3_0_3 : w3.frozen? ⟨g, 3, none⟩ = false := blk_frozen (O3.out.blk (i := 0) rfl) 3; clear o_ k_))
 have hcut : ∀ W_ : World, (Instr.slice 99 (.slice A0 xs.length c0) none (some (.int .i64 (xs.length : Int))) (some (.int .i64 (xs.length : Int)))).run Tryd.prog W_ = .ok (.slice A0 xs.length xs.length) W_ := by obtain ⟨i0_, hi0_, _⟩ := Option.map_eq_some_iff.1 infoP; exact cut3 99 102 Tryd.underlying99 hi0_ _ _ _ (O3.out.qreads (i := 1) rfl).2.1
 refine start_ (n := 19) (S := fun w' => w'.cell? ⟨g, 0, none⟩ = some (.int .i64 W) ∧ w'.cell? ⟨g, 1, none⟩ = some (.int .i64 La) ∧ w'.cell? ⟨g, 2, none⟩ = some (.int .i64 (S + 1)) ∧ w'.cell? ⟨g, 3, none⟩ = some (.slice A0 xs.length c0)) (ds := [18]) #[false, false, false, false, false, false, false, false, false, false, false, false, false, false, false, false, false, false, false] (by kernel_rfl) rfl rfl ⟨((blk_cell (O3.out.blk (i := 0) rfl) 0).trans rfl), ((blk_cell (O3.out.blk (i := 0) rfl) 1).trans rfl), ((blk_cell (O3.out.blk (i := 0) rfl) 2).trans rfl), ((blk_cell (O3.out.blk (i := 0) rfl) 3).trans rfl)⟩ (fun hHeld => ?_)
 obtain ⟨w4, hw_⟩ : ∃ W, W = w3.drew := ⟨_, rfl⟩
 have o_ := O3.out.drew
 have k_ : KeepS N w3 w3.drew := KeepS.drew
 rw [← hw_] at o_ k_ hHeld ⊢
 clear hw_
 have O4 : Aside0 (Own N w4 [cells g #[.int .i64 W, .int .i64 La, .int .i64 (S + 1), .slice A0 xs.length c0] 136, qrow kP 102 (.slice A0 xs.length c0) xs]) := ⟨o_⟩
 have K4 : Aside0 (KeepS N w w4) := ⟨K3.out.trans k_⟩
 clear c3_0_0 f3_0_0 c3_0_1 f3_0_1 c3_0_2 f3_0_2 c3_0_3 f3_0_3 O3 K3
 have c4_0_0 : w4.cell? ⟨g, 0, none⟩ = some (.int .i64 W) := (blk_cell (O4.out.blk (i := 0) rfl) 0).trans rfl
 have f4_0_0 : w4.frozen? ⟨g, 0, none⟩ = false := blk_frozen (O4.out.blk (i := 0) rfl) 0
 have c4_0_1 : w4.cell? ⟨g, 1, none⟩ = some (.int .i64 La) := (blk_cell (O4.out.blk (i := 0) rfl) 1).trans rfl
 have f4_0_1 : w4.frozen? ⟨g, 1, none⟩ = false := blk_frozen (O4.out.blk (i := 0) rfl) 1
 have c4_0_2 : w4.cell? ⟨g, 2, none⟩ = some (.int .i64 (S + 1)) := (blk_cell (O4.out.blk (i := 0) rfl) 2).trans rfl
 have f4_0_2 : w4.frozen? ⟨g, 2, none⟩ = false := blk_frozen (O4.out.blk (i := 0) rfl) 2
 have c4_0_3 : w4.cell? ⟨g, 3, none⟩ = some (.slice A0 xs.length c0) := (blk_cell (O4.out.blk (i := 0) rfl) 3).trans rfl
 have f4_0_3 : w4.frozen? ⟨g, 3, none⟩ = false := blk_frozen (O4.out.blk (i := 0) rfl) 3
 clear o_ k_
 refine pure_ (i := 0) (N := some 40) (v := ?_) (a' := ?_) #[true, false, false, false, false, false, false, false, false, false, false, false, false, false, false, false, false, false, false] rfl rfl (by kernel_rfl) (fun _ _ _ h => h) (Or.inl ⟨by rfl, ?_⟩) ?_ ?_
 rotate_left
 ·intro w'
  go_simp
  with_reducible rfl
 rotate_left
 ·simp only [Act.put, List.setIfInBounds_toArray, List.set_cons_zero, List.set_cons_succ, i64_w, i32_w]
  rfl
 refine pure_ (i := 1) (N := some 41) (v := ?_) (a' := ?_) #[true, true, false, false, false, false, false, false, false, false, false, false, false, false, false, false, false, false, false] rfl rfl (by kernel_rfl) (fun _ _ _ h => h) (Or.inl ⟨by rfl, ?_⟩) ?_ ?_
 rotate_left
 ·intro w'
  go_simp
  with_reducible rfl
 rotate_left
 ·simp only [Act.put, List.setIfInBounds_toArray, List.set_cons_zero, List.set_cons_succ, i64_w, i32_w]
  rfl
 refine pure_ (i := 2) (N := some 42) (v := ?_) (a' := ?_) #[true, true, true, false, false, false, false, false, false, false, false, false, false, false, false, false, false, false, false] rfl rfl (by kernel_rfl) (fun _ _ _ h => h) (Or.inl ⟨by rfl, ?_⟩) ?_ ?_
 rotate_left
 ·intro w'
  go_simp
  with_reducible rfl
 rotate_left
 ·simp only [Act.put, List.setIfInBounds_toArray, List.set_cons_zero, List.set_cons_succ, i64_w, i32_w]
  rfl
 refine pure_ (i := 3) (N := some 43) (v := ?_) (a' := ?_) #[true, true, true, true, false, false, false, false, false, false, false, false, false, false, false, false, false, false, false] rfl rfl (by kernel_rfl) (fun _ _ _ h => h) (Or.inl ⟨by rfl, ?_⟩) ?_ ?_
 rotate_left
 ·intro w'
  go_simp
  with_reducible rfl
 rotate_left
 ·simp only [Act.put, List.setIfInBounds_toArray, List.set_cons_zero, List.set_cons_succ, i64_w, i32_w]
  rfl
 refine pure_ (i := 5) (N := some 45) (v := ?_) (a' := ?_) #[true, true, true, true, false, true, false, false, false, false, false, false, false, false, false, false, false, false, false] rfl rfl (by kernel_rfl) (fun _ _ _ h => h) (Or.inl ⟨by rfl, ?_⟩) ?_ ?_
 rotate_left
 ·intro w'
  go_simp
  with_reducible rfl
 rotate_left
 ·simp only [Act.put, List.setIfInBounds_toArray, List.set_cons_zero, List.set_cons_succ, i64_w, i32_w]
  rfl
 refine pure_ (i := 6) (N := some 46) (v := ?_) (a' := ?_) #[true, true, true, true, false, true, true, false, false, false, false, false, false, false, false, false, false, false, false] rfl rfl (by kernel_rfl) (fun _ _ _ h => h) (Or.inl ⟨by rfl, ?_⟩) ?_ ?_
 rotate_left
 ·intro w'
  go_simp
  with_reducible rfl
 rotate_left
 ·simp only [Act.put, List.setIfInBounds_toArray, List.set_cons_zero, List.set_cons_succ, i64_w, i32_w]
  rfl
 refine pure_ (i := 8) (N := some 48) (v := ?_) (a' := ?_) #[true, true, true, true, false, true, true, false, true, false, false, false, false, false, false, false, false, false, false] rfl rfl (by kernel_rfl) (fun _ _ _ h => h) (Or.inl ⟨by rfl, ?_⟩) ?_ ?_
 rotate_left
 ·intro w'
  go_simp
  with_reducible rfl
 rotate_left
 ·simp only [Act.put, List.setIfInBounds_toArray, List.set_cons_zero, List.set_cons_succ, i64_w, i32_w]
  rfl
 refine pure_ (i := 9) (N := some 49) (v := ?_) (a' := ?_) #[true, true, true, true, false, true, true, false, true, true, false, false, false, false, false, false, false, false, false] rfl rfl (by kernel_rfl) (fun _ _ _ h => h) (Or.inl ⟨by rfl, ?_⟩) ?_ ?_
 rotate_left
 ·intro w'
  go_simp
  with_reducible rfl
 rotate_left
 ·simp only [Act.put, List.setIfInBounds_toArray, List.set_cons_zero, List.set_cons_succ, i64_w, i32_w]
  rfl
 refine pure_ (i := 10) (N := some 50) (v := ?_) (a' := ?_) #[true, true, true, true, false, true, true, false, true, true, true, false, false, false, false, false, false, false, false] rfl rfl (by kernel_rfl) (fun _ _ _ h => h) (Or.inl ⟨by rfl, ?_⟩) ?_ ?_
 rotate_left
 ·intro w'
  go_simp
  with_reducible rfl
 rotate_left
 ·simp only [Act.put, List.setIfInBounds_toArray, List.set_cons_zero, List.set_cons_succ, i64_w, i32_w]
  rfl
 refine pure_ (i := 12) (N := some 52) (v := ?_) (a' := ?_) #[true, true, true, true, false, true, true, false, true, true, true, false, true, false, false, false, false, false, false] rfl rfl (by kernel_rfl) (fun _ _ _ h => h) (Or.inl ⟨by rfl, ?_⟩) ?_ ?_
 rotate_left
 ·intro w'
  go_simp
  with_reducible rfl
 rotate_left
 ·simp only [Act.put, List.setIfInBounds_toArray, List.set_cons_zero, List.set_cons_succ, i64_w, i32_w]
  rfl
 refine take_ (i := 4) (N := some 44) (v := ?_) (a' := ?_) #[true, true, true, true, true, true, true, false, true, true, true, false, true, false, false, false, false, false, false] rfl rfl (by kernel_rfl) (fun _ _ _ h => h) (Or.inl ⟨by rfl, ?_⟩) hHeld ?_ ?_
 rotate_left
 ·rintro w' ⟨s0, s1, s2, s3⟩
  go_simp
  with_reducible rfl
 rotate_left
 ·simp only [Act.put, List.setIfInBounds_toArray, List.set_cons_zero, List.set_cons_succ, i64_w, i32_w]
  rfl
 refine pure_ (i := 7) (N := some 47) (v := ?_) (a' := ?_) #[true, true, true, true, true, true, true, true, true, true, true, false, true, false, false, false, false, false, false] rfl rfl (by kernel_rfl) (fun _ _ _ h => h) (Or.inl ⟨by rfl, ?_⟩) ?_ ?_
 rotate_left
 ·intro w'
  go_simp
  with_reducible rfl
 rotate_left
 ·simp only [Act.put, List.setIfInBounds_toArray, List.set_cons_zero, List.set_cons_succ, i64_w, i32_w]
  rfl
 refine take_ (i := 11) (N := some 51) (v := ?_) (a' := ?_) #[true, true, true, true, true, true, true, true, true, true, true, true, true, false, false, false, false, false, false] rfl rfl (by kernel_rfl) (fun _ _ _ h => h) (Or.inl ⟨by rfl, ?_⟩) hHeld ?_ ?_
 rotate_left
 ·rintro w' ⟨s0, s1, s2, s3⟩
  go_simp
  with_reducible rfl
 rotate_left
 ·simp only [Act.put, List.setIfInBounds_toArray, List.set_cons_zero, List.set_cons_succ, i64_w, i32_w]
  rfl
 refine pure_ (i := 13) (N := some 53) (v := ?_) (a' := ?_) #[true, true, true, true, true, true, true, true, true, true, true, true, true, true, false, false, false, false, false] rfl rfl (by kernel_rfl) (fun _ _ _ h => h) (Or.inl ⟨by rfl, ?_⟩) ?_ ?_
 rotate_left
 ·intro w'
  go_simp
  with_reducible rfl
 rotate_left
 ·simp only [Act.put, List.setIfInBounds_toArray, List.set_cons_zero, List.set_cons_succ, i64_w, i32_w]
  rfl
 refine one_ (i := 14) (N := some 54) #[true, true, true, true, true, true, true, true, true, true, true, true, true, true, true, false, false, false, false] rfl rfl (by kernel_rfl) (by decide) (fun K_ hK_ => ?_)
 refine own_lit_step kP (N := N) (e := 102) (xs := [(S + 1, data)]) (inner := [.int .i64 (S + 1), .string data]) rfl rfl ?hr (repP _ (S + 1, data)) (by show 1 ≤ 9223372036854775807; decide) O4.out ?_
 (case hr => first | (go_simp; done) | (go_simp; rfl))
 intro B1 d1_ w5 o_ k_
 have O5 : Aside0 (Own N w5 [cells g #[.int .i64 W, .int .i64 La, .int .i64 (S + 1), .slice A0 xs.length c0] 136, qrow kP 102 (.slice A0 xs.length c0) xs, nrow kP 102 (.slice B1 1 d1_) [(S + 1, data)]]) := ⟨o_⟩
 have K5 : Aside0 (KeepS N w w5) := ⟨K4.out.trans k_⟩
 clear c4_0_0 f4_0_0 c4_0_1 f4_0_1 c4_0_2 f4_0_2 c4_0_3 f4_0_3 O4 K4
 have c5_0_0 : w5.cell? ⟨g, 0, none⟩ = some (.int .i64 W) := (blk_cell (O5.out.blk (i := 0) rfl) 0).trans rfl
 have f5_0_0 : w5.frozen? ⟨g, 0, none⟩ = false := blk_frozen (O5.out.blk (i := 0) rfl) 0
 have c5_0_1 : w5.cell? ⟨g, 1, none⟩ = some (.int .i64 La) := (blk_cell (O5.out.blk (i := 0) rfl) 1).trans rfl
 have f5_0_1 : w5.frozen? ⟨g, 1, none⟩ = false := blk_frozen (O5.out.blk (i := 0) rfl) 1
 have c5_0_2 : w5.cell? ⟨g, 2, none⟩ = some (.int .i64 (S + 1)) := (blk_cell (O5.out.blk (i := 0) rfl) 2).trans rfl
 have f5_0_2 : w5.frozen? ⟨g, 2, none⟩ = false := blk_frozen (O5.out.blk (i := 0) rfl) 2
 have c5_0_3 : w5.cell? ⟨g, 3, none⟩ = some (.slice A0 xs.length c0) := (blk_cell (O5.out.blk (i := 0) rfl) 3).trans rfl
 have f5_0_3 : w5.frozen? ⟨g, 3, none⟩ = false := blk_frozen (O5.out.blk (i := 0) rfl) 3
 clear o_ k_
 clear hHeld
 refine hK_.out _ _ ⟨((blk_cell (O5.out.blk (i := 0) rfl) 0).trans rfl), ((blk_cell (O5.out.blk (i := 0) rfl) 1).trans rfl), ((blk_cell (O5.out.blk (i := 0) rfl) 2).trans rfl), ((blk_cell (O5.out.blk (i := 0) rfl) 3).trans rfl)⟩ (fun hHeld => ?_)
 clear hK_ K_
 refine norm_ (a' := ?_) ?_ ?_
 rotate_left
 ·simp only [Act.put, List.setIfInBounds_toArray, List.set_cons_zero, List.set_cons_succ, i64_w, i32_w]
  rfl
 refine one_ (i := 15) (N := some 55) #[true, true, true, true, true, true, true, true, true, true, true, true, true, true, true, true, false, false, false] rfl rfl (by kernel_rfl) (by decide) (fun K_ hK_ => ?_)
 refine Own.append3r_step looseP O5.out (i := 1) rfl (O5.out.nreads (i := 2) rfl).2.2 rfl (by rfl) (.tmp 47) (.tmp 54) 99 (.agg #[.int .i64 0, .string ⟨#[]⟩]) 24 rfl Tryd.underlying99 infoP rfl (by decide) (by decide) rfl rfl (by have := HL.out; omega) ?_
 intro A1 c1 w6 o_ k_
 have O6 : Aside0 (Own N w6 [cells g #[.int .i64 W, .int .i64 La, .int .i64 (S + 1), .slice A0 xs.length c0] 136, row kP 102 (.slice A1 (xs.length + 1) c1) (xs ++ [(S + 1, data)]), nrow kP 102 (.slice B1 1 d1_) [(S + 1, data)]]) := ⟨o_⟩
 have K6 : Aside0 (KeepS N w w6) := ⟨K5.out.trans k_⟩
 clear c5_0_0 f5_0_0 c5_0_1 f5_0_1 c5_0_2 f5_0_2 c5_0_3 f5_0_3 O5 K5
 have c6_0_0 : w6.cell? ⟨g, 0, none⟩ = some (.int .i64 W) := (blk_cell (O6.out.blk (i := 0) rfl) 0).trans rfl
 have f6_0_0 : w6.frozen? ⟨g, 0, none⟩ = false := blk_frozen (O6.out.blk (i := 0) rfl) 0
 have c6_0_1 : w6.cell? ⟨g, 1, none⟩ = some (.int .i64 La) := (blk_cell (O6.out.blk (i := 0) rfl) 1).trans rfl
 have f6_0_1 : w6.frozen? ⟨g, 1, none⟩ = false := blk_frozen (O6.out.blk (i := 0) rfl) 1
 have c6_0_2 : w6.cell? ⟨g, 2, none⟩ = some (.int .i64 (S + 1)) := (blk_cell (O6.out.blk (i := 0) rfl) 2).trans rfl
 have f6_0_2 : w6.frozen? ⟨g, 2, none⟩ = false := blk_frozen (O6.out.blk (i := 0) rfl) 2
 have c6_0_3 : w6.cell? ⟨g, 3, none⟩ = some (.slice A0 xs.length c0) := (blk_cell (O6.out.blk (i := 0) rfl) 3).trans rfl
 have f6_0_3 : w6.frozen? ⟨g, 3, none⟩ = false := blk_frozen (O6.out.blk (i := 0) rfl) 3
 clear o_ k_
 clear hHeld
 refine hK_.out _ _ ⟨((blk_cell (O6.out.blk (i := 0) rfl) 0).trans rfl), ((blk_cell (O6.out.blk (i := 0) rfl) 1).trans rfl), ((blk_cell (O6.out.blk (i := 0) rfl) 2).trans rfl), ((blk_cell (O6.out.blk (i := 0) rfl) 3).trans rfl)⟩ (fun hHeld => ?_)
 clear hK_ K_
 refine norm_ (a' := ?_) ?_ ?_
 rotate_left
 ·simp only [Act.put, List.setIfInBounds_toArray, List.set_cons_zero, List.set_cons_succ, i64_w, i32_w]
  rfl
 refine pure_ (i := 16) (N := some 56) (v := ?_) (a' := ?_) #[true, true, true, true, true, true, true, true, true, true, true, true, true, true, true, true, true, false, false] rfl rfl (by kernel_rfl) (fun _ _ _ h => h) (Or.inl ⟨by rfl, ?_⟩) ?_ ?_
 rotate_left
 ·intro w'
  go_simp
  with_reducible rfl
 rotate_left
 ·simp only [Act.put, List.setIfInBounds_toArray, List.set_cons_zero, List.set_cons_succ, i64_w, i32_w]
  rfl
 refine pure_ (i := 17) (N := some 57) (v := ?_) (a' := ?_) #[true, true, true, true, true, true, true, true, true, true, true, true, true, true, true, true, true, true, false] rfl rfl (by kernel_rfl) (fun _ _ _ h => h) (Or.inl ⟨by rfl, ?_⟩) ?_ ?_
 rotate_left
 ·intro w'
  go_simp
  with_reducible rfl
 rotate_left
 ·simp only [Act.put, List.setIfInBounds_toArray, List.set_cons_zero, List.set_cons_succ, i64_w, i32_w]
  rfl
 refine last_ (i := 18) (N := none) #[true, true, true, true, true, true, true, true, true, true, true, true, true, true, true, true, true, true, true] rfl rfl (by kernel_rfl) (by decide) (fun K_ hK_ => ?_)
 refine own_store_step rfl rfl (w1 := (World.setCell w6 ⟨g, 3, none⟩ (.slice A1 (xs.length + 1) c1))) (N := N) (l' := [cells g #[.int .i64 W, .int .i64 La, .int .i64 (S + 1), .slice A1 (xs.length + 1) c1] 136, row kP 102 (.slice A1 (xs.length + 1) c1) (xs ++ [(S + 1, data)]), nrow kP 102 (.slice B1 1 d1_) [(S + 1, data)]]) ?hr ?ho ?hk ?_
 (case hr => first | (go_simp; done) | (go_simp; rfl))
 (case ho => exact (O6.out.set (i := 0) rfl 3 (.slice A1 (xs.length + 1) c1)))
 (case hk => exact (KeepS.setCell (O6.out.far (i := 0) rfl) (.slice A1 (xs.length + 1) c1)))
 intro w7 o_ k_
 have O7 : Aside0 (Own N w7 [cells g #[.int .i64 W, .int .i64 La, .int .i64 (S + 1), .slice A1 (xs.length + 1) c1] 136, row kP 102 (.slice A1 (xs.length + 1) c1) (xs ++ [(S + 1, data)]), nrow kP 102 (.slice B1 1 d1_) [(S + 1, data)]]) := ⟨o_⟩
 have K7 : Aside0 (KeepS N w w7) := ⟨K6.out.trans k_⟩
 clear c6_0_0 f6_0_0 c6_0_1 f6_0_1 c6_0_2 f6_0_2 c6_0_3 f6_0_3 O6 K6
 have c7_0_0 : w7.cell? ⟨g, 0, none⟩ = some (.int .i64 W) := (blk_cell (O7.out.blk (i := 0) rfl) 0).trans rfl
 have f7_0_0 : w7.frozen? ⟨g, 0, none⟩ = false := blk_frozen (O7.out.blk (i := 0) rfl) 0
 have c7_0_1 : w7.cell? ⟨g, 1, none⟩ = some (.int .i64 La) := (blk_cell (O7.out.blk (i := 0) rfl) 1).trans rfl
 have f7_0_1 : w7.frozen? ⟨g, 1, none⟩ = false := blk_frozen (O7.out.blk (i := 0) rfl) 1
 have c7_0_2 : w7.cell? ⟨g, 2, none⟩ = some (.int .i64 (S + 1)) := (blk_cell (O7.out.blk (i := 0) rfl) 2).trans rfl
 have f7_0_2 : w7.frozen? ⟨g, 2, none⟩ = false := blk_frozen (O7.out.blk (i := 0) rfl) 2
 have c7_0_3 : w7.cell? ⟨g, 3, none⟩ = some (.slice A1 (xs.length + 1) c1) := (blk_cell (O7.out.blk (i := 0) rfl) 3).trans rfl
 have f7_0_3 : w7.frozen? ⟨g, 3, none⟩ = false := blk_frozen (O7.out.blk (i := 0) rfl) 3
 clear o_ k_
 refine hK_.out _ _ ?_
 clear hK_ K_
 refine done_ (by kernel_rfl) ?_
 clear hHeld
 go_wp2
 go_ret2
 have o9 := O7.out.row_qrow (i := 1) rfl
 have o8 := (SendO.shut (i := 0) (j := 1) o9 rfl rfl (by decide)).take 1
 exact ⟨rfl, o8, K7.out⟩
end Go.Proofs.YtjmoncfgoaaekaaDoor.J
