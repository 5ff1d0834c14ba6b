/- The law JournalNumbers: behind any number just the later rounds are told, in order: a plain walk through its text. -/
import Derived.Test.YtfpegjdplggkpaaYJournalNumbersJ6
import Derived.Test.YtfpegjdplggkpaaYJournalNumbersJ9
namespace Go.Proofs.Ytfpegjdplggkpaa.J
set_option linter.unusedSimpArgs false
set_option linter.unusedVariables false
open Go Go.RowKit Go.Proofs.YtfpegjdplggkpaaW.PrintWords Go.Proofs.YtfpegjdplggkpaaW.PrintLast Go.Proofs.YtfpegjdplggkpaaW.PrintMore Go.Proofs.Ytfpegjdplggkpaa.Q Go.Proofs.Ytfpegjdplggkpaa.Sep Go.Proofs.Ytfpegjdplggkpaa.Pure
attribute [local go_sem] max2_int min2_int max_two min_two max_three min_three max_four min_four
def chapbooklaw13_JournalNumbers.f (a0_0 a0_1 : Int) (l1 : List (List Upd)) (a2 : Int) : Option Bool := some true
theorem RNew_lit {N : Nat → Prop} {w : World} (o m m2 : Int) (h : Own N w []) (hm : mn (mx m 1) 1099511627776 = m2) :
    Calls Try.prog 9 #[.int .i64 o, .int .i64 m] w fun e w' => ∃ g, e = .returned (.pointer (some ⟨g, 0, none⟩)) ∧ Own N w' [Obj3 42 g o m2 []] ∧ KeepS N w w' := by
  rw [← hm]
  exact RNew o m h
theorem last_ge (b : Int) : 0 ≤ mn (mx b 1) 1099511627776 := by unfold mn mx; (repeat' split) <;> omega
def PlI (N : Nat → Prop) (w : World) (l0 : List (List Upd)) (gj gm : Nat) (a M : Int) (i : Value) (wr : World) : Prop := ∃ (x : Int) (L : List Rnd), 0 ≤ x ∧ x ≤ (l0.length : Int) ∧ i = .int .i64 x ∧ Aside0 ((L.length : Int) ≤ x ∧ (L.length : Int) ≤ M ∧ Short L ∧ Num L) ∧ Aside0 (Own N wr [Obj3 52 gj a M L, Obj3 42 gm a M L]) ∧ Aside0 (KeepS N w wr)
set_option maxHeartbeats 16000000 in
set_option maxRecDepth 100000 in
theorem chapbooklaw13_JournalNumbers.calls (a0_0 : Int) (a0_1 : Int) (A1 : Option Addr) (c1 : Nat) (l1 : List (List Upd)) (a2 : Int) (r : Bool) (w : World) (hr1 : Kd.C (Kd.slice 50 k50) w A1 l1.length l1) (hc1 : l1.length ≤ c1) (h : chapbooklaw13_JournalNumbers.f a0_0 a0_1 l1 a2 = some r) :
    Calls Try.prog 4 #[.agg #[.int .i64 a0_0, .int .i64 a0_1], .slice A1 l1.length c1, .int .i64 a2] w fun e_ w' => e_ = .returned (.bool r) ∧ Below w.heap.size w w' := by
  obtain rfl : true = r := Option.some.inj h
  obtain ⟨M, hM⟩ : ∃ M, M = mn (mx a0_1 1) 1099511627776 := ⟨_, rfl⟩
  have HM := Aside0.mk hM.symm
  have HM0 : Aside0 (0 ≤ M) := ⟨by rw [hM]; exact last_ge _⟩
  clear hM
  obtain ⟨l0, e0⟩ : ∃ l, l = l1 := ⟨_, rfl⟩
  subst e0
  have hr0 := hr1
  have hc0 := hc1
  clear hr1 hc1
  obtain ⟨N, hN⟩ : ∃ N : Nat → Prop, N = fun k => k < w.heap.size := ⟨_, rfl⟩
  have HN := Aside0.mk hN
  have HRL0 : Aside0 (Kd.F (Kd.slice 50 k50) w N A1 l0.length l0) := ⟨by rw [hN]; exact Kd.C_F (Kd.heap_slice _ heapU) hr0⟩
  have HR0 := Aside0.mk hr0
  have HC0 := Aside0.mk hc0
  have O0 : Aside0 (Own N w []) := ⟨Own.start_ (fun k hk => by rw [hN] at hk; exact hk)⟩
  have K0 : Aside0 (KeepS N w w) := ⟨KeepS.refl _ _⟩
  clear hN hr0 hc0
  obtain ⟨b, hgr, hgb⟩ := great13_ok l0
  have HGR := Aside0.mk hgr
  have HGB := Aside0.mk hgb
  clear hgr hgb h
  cases b with
  | true =>
    go_enter Try.func4, Try.ntmps4
    go_wp2_with (first | ((with_reducible refine gate_dst (N := 3) rfl ?_); refine own_box rfl (D := 3) rfl (cs := #[.int .i64 a0_0, .int .i64 a0_1]) (t := 22) ?hr O0.out ?_; (case hr => first | (go_simp; done) | (go_simp; rfl)); intro gx w1 o_ k_; have O1 : Aside0 (Own N w1 [cells gx #[.int .i64 a0_0, .int .i64 a0_1] 22]) := ⟨o_⟩; have K1 : Aside0 (KeepS N w w1) := ⟨K0.out.trans k_⟩; clear O0 K0; have c1_0_0 : w1.cell? ⟨gx, 0, none⟩ = some (.int .i64 a0_0) := (blk_cell (O1.out.blk (i := 0) rfl) 0).trans rfl; have f1_0_0 : w1.frozen? ⟨gx, 0, none⟩ = false := blk_frozen (O1.out.blk (i := 0) rfl) 0; have c1_0_1 : w1.cell? ⟨gx, 1, none⟩ = some (.int .i64 a0_1) := (blk_cell (O1.out.blk (i := 0) rfl) 1).trans rfl; have f1_0_1 : w1.frozen? ⟨gx, 1, none⟩ = false := blk_frozen (O1.out.blk (i := 0) rfl) 1; clear o_ k_))
    refine start_ (n := 12) (S := fun w' => w'.cell? ⟨gx, 0, none⟩ = some (.int .i64 a0_0) ∧ w'.cell? ⟨gx, 1, none⟩ = some (.int .i64 a0_1)) (ds := []) #[false, false, false, false, false, false, false, false, false, false, false, false] (by kernel_rfl) rfl rfl ⟨((blk_cell (O1.out.blk (i := 0) rfl) 0).trans rfl), ((blk_cell (O1.out.blk (i := 0) rfl) 1).trans rfl)⟩ (fun hHeld => ?_)
    obtain ⟨w2, hw_⟩ : ∃ W, W = w1.drew := ⟨_, rfl⟩
    have o_ := O1.out.drew
    have k_ : KeepS N w1 w1.drew := KeepS.drew
    rw [← hw_] at o_ k_ hHeld ⊢
    clear hw_
    have O2 : Aside0 (Own N w2 [cells gx #[.int .i64 a0_0, .int .i64 a0_1] 22]) := ⟨o_⟩
    have K2 : Aside0 (KeepS N w w2) := ⟨K1.out.trans k_⟩
    clear c1_0_0 f1_0_0 c1_0_1 f1_0_1 O1 K1
    have c2_0_0 : w2.cell? ⟨gx, 0, none⟩ = some (.int .i64 a0_0) := (blk_cell (O2.out.blk (i := 0) rfl) 0).trans rfl
    have f2_0_0 : w2.frozen? ⟨gx, 0, none⟩ = false := blk_frozen (O2.out.blk (i := 0) rfl) 0
    have c2_0_1 : w2.cell? ⟨gx, 1, none⟩ = some (.int .i64 a0_1) := (blk_cell (O2.out.blk (i := 0) rfl) 1).trans rfl
    have f2_0_1 : w2.frozen? ⟨gx, 1, none⟩ = false := blk_frozen (O2.out.blk (i := 0) rfl) 1
    clear o_ k_
    refine pure_ (i := 0) (N := some 11) (v := ?_) (a' := ?_) #[true, false, false, false, false, false, false, false, false, false, false, false] rfl rfl (by kernel_rfl) (fun _ _ _ h => h) (Or.inl ⟨by rfl, ?_⟩) ?_ ?_
    rotate_left
    · intro w'
      go_simp
      with_reducible rfl
    rotate_left
    · simp only [Act.put, List.setIfInBounds_toArray, List.set_cons_zero, List.set_cons_succ, i64_w, i32_w]
      rfl
    refine pure_ (i := 2) (N := some 13) (v := ?_) (a' := ?_) #[true, false, true, false, false, false, false, false, false, false, false, false] rfl rfl (by kernel_rfl) (fun _ _ _ h => h) (Or.inl ⟨by rfl, ?_⟩) ?_ ?_
    rotate_left
    · intro w'
      go_simp
      with_reducible rfl
    rotate_left
    · simp only [Act.put, List.setIfInBounds_toArray, List.set_cons_zero, List.set_cons_succ, i64_w, i32_w]
      rfl
    refine pure_ (i := 5) (N := some 16) (v := ?_) (a' := ?_) #[true, false, true, false, false, true, false, false, false, false, false, false] rfl rfl (by kernel_rfl) (fun _ _ _ h => h) (Or.inl ⟨by rfl, ?_⟩) ?_ ?_
    rotate_left
    · intro w'
      go_simp
      with_reducible rfl
    rotate_left
    · simp only [Act.put, List.setIfInBounds_toArray, List.set_cons_zero, List.set_cons_succ, i64_w, i32_w]
      rfl
    refine pure_ (i := 7) (N := some 18) (v := ?_) (a' := ?_) #[true, false, true, false, false, true, false, true, false, false, false, false] rfl rfl (by kernel_rfl) (fun _ _ _ h => h) (Or.inl ⟨by rfl, ?_⟩) ?_ ?_
    rotate_left
    · intro w'
      go_simp
      with_reducible rfl
    rotate_left
    · simp only [Act.put, List.setIfInBounds_toArray, List.set_cons_zero, List.set_cons_succ, i64_w, i32_w]
      rfl
    refine take_ (i := 1) (N := some 12) (v := ?_) (a' := ?_) #[true, true, true, false, false, true, false, true, false, false, false, false] rfl rfl (by kernel_rfl) (fun _ _ _ h => h) (Or.inl ⟨by rfl, ?_⟩) hHeld ?_ ?_
    rotate_left
    · rintro w' ⟨s0, s1⟩
      go_simp
      with_reducible rfl
    rotate_left
    · simp only [Act.put, List.setIfInBounds_toArray, List.set_cons_zero, List.set_cons_succ, i64_w, i32_w]
      rfl
    refine take_ (i := 3) (N := some 14) (v := ?_) (a' := ?_) #[true, true, true, true, false, true, false, true, false, false, false, false] rfl rfl (by kernel_rfl) (fun _ _ _ h => h) (Or.inl ⟨by rfl, ?_⟩) hHeld ?_ ?_
    rotate_left
    · rintro w' ⟨s0, s1⟩
      go_simp
      with_reducible rfl
    rotate_left
    · simp only [Act.put, List.setIfInBounds_toArray, List.set_cons_zero, List.set_cons_succ, i64_w, i32_w]
      rfl
    refine take_ (i := 6) (N := some 17) (v := ?_) (a' := ?_) #[true, true, true, true, false, true, true, true, false, false, false, false] rfl rfl (by kernel_rfl) (fun _ _ _ h => h) (Or.inl ⟨by rfl, ?_⟩) hHeld ?_ ?_
    rotate_left
    · rintro w' ⟨s0, s1⟩
      go_simp
      with_reducible rfl
    rotate_left
    · simp only [Act.put, List.setIfInBounds_toArray, List.set_cons_zero, List.set_cons_succ, i64_w, i32_w]
      rfl
    refine take_ (i := 8) (N := some 19) (v := ?_) (a' := ?_) #[true, true, true, true, false, true, true, true, true, false, false, false] rfl rfl (by kernel_rfl) (fun _ _ _ h => h) (Or.inl ⟨by rfl, ?_⟩) hHeld ?_ ?_
    rotate_left
    · rintro w' ⟨s0, s1⟩
      go_simp
      with_reducible rfl
    rotate_left
    · simp only [Act.put, List.setIfInBounds_toArray, List.set_cons_zero, List.set_cons_succ, i64_w, i32_w]
      rfl
    refine one_ (i := 4) (N := some 15) #[true, true, true, true, true, true, true, true, true, false, false, false] rfl rfl (by kernel_rfl) (by decide) (fun K_ hK_ => ?_)
    refine goes_ Try.func8 (by kernel_rfl) rfl #[.int .i64 a0_0, .int .i64 a0_1] (by rfl) rfl rfl (by (try simp only [List.map_toArray, List.map_cons, List.map_nil]); first | done | rfl) ?_
    obtain ⟨N_, on_, nn_, rr_, bb_⟩ := O2.out.frame0
    refine (New_lit a0_0 a0_1 M on_ HM.out).mono ?_
    rintro e_ w3 ⟨gj, rfl, oo_, kk_⟩
    obtain ⟨o_, k_⟩ := bb_ _ _ kk_ oo_
    refine ⟨_, rfl, ?_⟩
    have O3 : Aside0 (Own N w3 [cells gx #[.int .i64 a0_0, .int .i64 a0_1] 22, Obj3 52 gj a0_0 M []]) := ⟨o_⟩
    have K3 : Aside0 (KeepS N w w3) := ⟨K2.out.trans k_⟩
    clear c2_0_0 f2_0_0 c2_0_1 f2_0_1 O2 K2
    have c3_0_0 : w3.cell? ⟨gx, 0, none⟩ = some (.int .i64 a0_0) := (blk_cell (O3.out.blk (i := 0) rfl) 0).trans rfl
    have f3_0_0 : w3.frozen? ⟨gx, 0, none⟩ = false := blk_frozen (O3.out.blk (i := 0) rfl) 0
    have c3_0_1 : w3.cell? ⟨gx, 1, none⟩ = some (.int .i64 a0_1) := (blk_cell (O3.out.blk (i := 0) rfl) 1).trans rfl
    have f3_0_1 : w3.frozen? ⟨gx, 1, none⟩ = false := blk_frozen (O3.out.blk (i := 0) rfl) 1
    clear o_ k_ oo_ kk_ on_ nn_ rr_ bb_
    clear hHeld
    refine hK_.out _ _ ⟨((blk_cell (O3.out.blk (i := 0) rfl) 0).trans rfl), ((blk_cell (O3.out.blk (i := 0) rfl) 1).trans rfl)⟩ (fun hHeld => ?_)
    clear hK_ K_
    refine norm_ (a' := ?_) ?_ ?_
    rotate_left
    · simp only [Act.put, List.setIfInBounds_toArray, List.set_cons_zero, List.set_cons_succ, i64_w, i32_w]
      rfl
    refine one_ (i := 9) (N := some 20) #[true, true, true, true, true, true, true, true, true, true, false, false] rfl rfl (by kernel_rfl) (by decide) (fun K_ hK_ => ?_)
    refine goes_ Try.func9 (by kernel_rfl) rfl #[.int .i64 a0_0, .int .i64 a0_1] (by rfl) rfl rfl (by (try simp only [List.map_toArray, List.map_cons, List.map_nil]); first | done | rfl) ?_
    obtain ⟨N_, on_, nn_, rr_, bb_⟩ := O3.out.frame0
    refine (RNew_lit a0_0 a0_1 M on_ HM.out).mono ?_
    rintro e_ w4 ⟨gm, rfl, oo_, kk_⟩
    obtain ⟨o_, k_⟩ := bb_ _ _ kk_ oo_
    refine ⟨_, rfl, ?_⟩
    have O4 : Aside0 (Own N w4 [cells gx #[.int .i64 a0_0, .int .i64 a0_1] 22, Obj3 52 gj a0_0 M [], Obj3 42 gm a0_0 M []]) := ⟨o_⟩
    have K4 : Aside0 (KeepS N w w4) := ⟨K3.out.trans k_⟩
    clear c3_0_0 f3_0_0 c3_0_1 f3_0_1 O3 K3
    have c4_0_0 : w4.cell? ⟨gx, 0, none⟩ = some (.int .i64 a0_0) := (blk_cell (O4.out.blk (i := 0) rfl) 0).trans rfl
    have f4_0_0 : w4.frozen? ⟨gx, 0, none⟩ = false := blk_frozen (O4.out.blk (i := 0) rfl) 0
    have c4_0_1 : w4.cell? ⟨gx, 1, none⟩ = some (.int .i64 a0_1) := (blk_cell (O4.out.blk (i := 0) rfl) 1).trans rfl
    have f4_0_1 : w4.frozen? ⟨gx, 1, none⟩ = false := blk_frozen (O4.out.blk (i := 0) rfl) 1
    clear o_ k_ oo_ kk_ on_ nn_ rr_ bb_
    clear hHeld
    refine hK_.out _ _ ⟨((blk_cell (O4.out.blk (i := 0) rfl) 0).trans rfl), ((blk_cell (O4.out.blk (i := 0) rfl) 1).trans rfl)⟩ (fun hHeld => ?_)
    clear hK_ K_
    refine norm_ (a' := ?_) ?_ ?_
    rotate_left
    · simp only [Act.put, List.setIfInBounds_toArray, List.set_cons_zero, List.set_cons_succ, i64_w, i32_w]
      rfl
    refine pure_ (i := 10) (N := some 7) (v := ?_) (a' := ?_) #[true, true, true, true, true, true, true, true, true, true, true, false] rfl rfl (by kernel_rfl) (fun _ _ _ h => h) (Or.inl ⟨by rfl, ?_⟩) ?_ ?_
    rotate_left
    · intro w'
      go_simp
      with_reducible rfl
    rotate_left
    · simp only [Act.put, List.setIfInBounds_toArray, List.set_cons_zero, List.set_cons_succ, i64_w, i32_w]
      rfl
    refine pure_ (i := 11) (N := some 8) (v := ?_) (a' := ?_) #[true, true, true, true, true, true, true, true, true, true, true, true] rfl rfl (by kernel_rfl) (fun _ _ _ h => h) (Or.inl ⟨by rfl, ?_⟩) ?_ ?_
    rotate_left
    · intro w'
      go_simp
      with_reducible rfl
    rotate_left
    · simp only [Act.put, List.setIfInBounds_toArray, List.set_cons_zero, List.set_cons_succ, i64_w, i32_w]
      rfl
    refine done_ (by kernel_rfl) ?_
    clear hHeld
    go_wp2_with (first | ((with_reducible refine gate_callee (f := 10) rfl ?_); refine goesL_ (some 21) rfl rfl Try.func10 (by kernel_rfl) rfl #[] rfl (by (try simp only [List.map_toArray, List.map_cons, List.map_nil]); first | done | rfl) ?_; refine (awake _).mono ?_; rintro e_ w5 ⟨rfl, hb_⟩; refine ⟨_, rfl, ?_⟩; have o_ := O4.out.below hb_; have k_ := KeepS.of_below (N := N) hb_; have O5 : Aside0 (Own N w5 [cells gx #[.int .i64 a0_0, .int .i64 a0_1] 22, Obj3 52 gj a0_0 M [], Obj3 42 gm a0_0 M []]) := ⟨o_⟩; have K5 : Aside0 (KeepS N w w5) := ⟨K4.out.trans k_⟩; clear c4_0_0 f4_0_0 c4_0_1 f4_0_1 O4 K4; have c5_0_0 : w5.cell? ⟨gx, 0, none⟩ = some (.int .i64 a0_0) := (blk_cell (O5.out.blk (i := 0) rfl) 0).trans rfl; have f5_0_0 : w5.frozen? ⟨gx, 0, none⟩ = false := blk_frozen (O5.out.blk (i := 0) rfl) 0; have c5_0_1 : w5.cell? ⟨gx, 1, none⟩ = some (.int .i64 a0_1) := (blk_cell (O5.out.blk (i := 0) rfl) 1).trans rfl; have f5_0_1 : w5.frozen? ⟨gx, 1, none⟩ = false := blk_frozen (O5.out.blk (i := 0) rfl) 1; clear o_ k_ hb_) | ((with_reducible refine gate_callee (f := 11) rfl ?_); refine gate_guard (by rfl) ?_; refine goesL_ (some 29) rfl rfl Try.func11 (by kernel_rfl) rfl #[.slice A1 l0.length c1] rfl (by (try simp only [List.map_toArray, List.map_cons, List.map_nil]); first | done | rfl) ?_; refine (chapbooklaw13_great.calls 300 _ _ l0 true _ (Kd.C_below HR0.out (K5.out.below (Nat.le_refl _) (fun k hk => by rw [HN.out]; exact hk))) HC0.out HGR.out).mono ?_; rintro e_ w6 ⟨rfl, hb_⟩; refine ⟨_, rfl, ?_⟩; have o_ := O5.out.below hb_; have k_ := KeepS.of_below (N := N) hb_; have O6 : Aside0 (Own N w6 [cells gx #[.int .i64 a0_0, .int .i64 a0_1] 22, Obj3 52 gj a0_0 M [], Obj3 42 gm a0_0 M []]) := ⟨o_⟩; have K6 : Aside0 (KeepS N w w6) := ⟨K5.out.trans k_⟩; clear c5_0_0 f5_0_0 c5_0_1 f5_0_1 O5 K5; have c6_0_0 : w6.cell? ⟨gx, 0, none⟩ = some (.int .i64 a0_0) := (blk_cell (O6.out.blk (i := 0) rfl) 0).trans rfl; have f6_0_0 : w6.frozen? ⟨gx, 0, none⟩ = false := blk_frozen (O6.out.blk (i := 0) rfl) 0; have c6_0_1 : w6.cell? ⟨gx, 1, none⟩ = some (.int .i64 a0_1) := (blk_cell (O6.out.blk (i := 0) rfl) 1).trans rfl; have f6_0_1 : w6.frozen? ⟨gx, 1, none⟩ = false := blk_frozen (O6.out.blk (i := 0) rfl) 1; clear o_ k_ hb_) | ((with_reducible refine gate_callee (f := 10) rfl ?_); refine goesL_ (some 31) rfl rfl Try.func10 (by kernel_rfl) rfl #[] rfl (by (try simp only [List.map_toArray, List.map_cons, List.map_nil]); first | done | rfl) ?_; refine (awake _).mono ?_; rintro e_ w7 ⟨rfl, hb_⟩; refine ⟨_, rfl, ?_⟩; have o_ := O6.out.below hb_; have k_ := KeepS.of_below (N := N) hb_; have O7 : Aside0 (Own N w7 [cells gx #[.int .i64 a0_0, .int .i64 a0_1] 22, Obj3 52 gj a0_0 M [], Obj3 42 gm a0_0 M []]) := ⟨o_⟩; have K7 : Aside0 (KeepS N w w7) := ⟨K6.out.trans k_⟩; clear c6_0_0 f6_0_0 c6_0_1 f6_0_1 O6 K6; have c7_0_0 : w7.cell? ⟨gx, 0, none⟩ = some (.int .i64 a0_0) := (blk_cell (O7.out.blk (i := 0) rfl) 0).trans rfl; have f7_0_0 : w7.frozen? ⟨gx, 0, none⟩ = false := blk_frozen (O7.out.blk (i := 0) rfl) 0; have c7_0_1 : w7.cell? ⟨gx, 1, none⟩ = some (.int .i64 a0_1) := (blk_cell (O7.out.blk (i := 0) rfl) 1).trans rfl; have f7_0_1 : w7.frozen? ⟨gx, 1, none⟩ = false := blk_frozen (O7.out.blk (i := 0) rfl) 1; clear o_ k_ hb_))
    go_ret
    exact ⟨rfl, K7.out.below (Nat.le_refl _) (fun k hk => by rw [HN.out]; exact hk)⟩
  | false =>
    obtain ⟨hl30, hl12⟩ := HGB.out rfl
    have HL30 := Aside0.mk hl30
    have HL12 := Aside0.mk hl12
    clear hl30 hl12 HGB
    go_enter Try.func4, Try.ntmps4
    go_wp2_with (first | ((with_reducible refine gate_dst (N := 3) rfl ?_); refine own_box rfl (D := 3) rfl (cs := #[.int .i64 a0_0, .int .i64 a0_1]) (t := 22) ?hr O0.out ?_; (case hr => first | (go_simp; done) | (go_simp; rfl)); intro gx w1 o_ k_; have O1 : Aside0 (Own N w1 [cells gx #[.int .i64 a0_0, .int .i64 a0_1] 22]) := ⟨o_⟩; have K1 : Aside0 (KeepS N w w1) := ⟨K0.out.trans k_⟩; clear O0 K0; have c1_0_0 : w1.cell? ⟨gx, 0, none⟩ = some (.int .i64 a0_0) := (blk_cell (O1.out.blk (i := 0) rfl) 0).trans rfl; have f1_0_0 : w1.frozen? ⟨gx, 0, none⟩ = false := blk_frozen (O1.out.blk (i := 0) rfl) 0; have c1_0_1 : w1.cell? ⟨gx, 1, none⟩ = some (.int .i64 a0_1) := (blk_cell (O1.out.blk (i := 0) rfl) 1).trans rfl; have f1_0_1 : w1.frozen? ⟨gx, 1, none⟩ = false := blk_frozen (O1.out.blk (i := 0) rfl) 1; clear o_ k_))
    refine start_ (n := 12) (S := fun w' => w'.cell? ⟨gx, 0, none⟩ = some (.int .i64 a0_0) ∧ w'.cell? ⟨gx, 1, none⟩ = some (.int .i64 a0_1)) (ds := []) #[false, false, false, false, false, false, false, false, false, false, false, false] (by kernel_rfl) rfl rfl ⟨((blk_cell (O1.out.blk (i := 0) rfl) 0).trans rfl), ((blk_cell (O1.out.blk (i := 0) rfl) 1).trans rfl)⟩ (fun hHeld => ?_)
    obtain ⟨w2, hw_⟩ : ∃ W, W = w1.drew := ⟨_, rfl⟩
    have o_ := O1.out.drew
    have k_ : KeepS N w1 w1.drew := KeepS.drew
    rw [← hw_] at o_ k_ hHeld ⊢
    clear hw_
    have O2 : Aside0 (Own N w2 [cells gx #[.int .i64 a0_0, .int .i64 a0_1] 22]) := ⟨o_⟩
    have K2 : Aside0 (KeepS N w w2) := ⟨K1.out.trans k_⟩
    clear c1_0_0 f1_0_0 c1_0_1 f1_0_1 O1 K1
    have c2_0_0 : w2.cell? ⟨gx, 0, none⟩ = some (.int .i64 a0_0) := (blk_cell (O2.out.blk (i := 0) rfl) 0).trans rfl
    have f2_0_0 : w2.frozen? ⟨gx, 0, none⟩ = false := blk_frozen (O2.out.blk (i := 0) rfl) 0
    have c2_0_1 : w2.cell? ⟨gx, 1, none⟩ = some (.int .i64 a0_1) := (blk_cell (O2.out.blk (i := 0) rfl) 1).trans rfl
    have f2_0_1 : w2.frozen? ⟨gx, 1, none⟩ = false := blk_frozen (O2.out.blk (i := 0) rfl) 1
    clear o_ k_
    refine pure_ (i := 0) (N := some 11) (v := ?_) (a' := ?_) #[true, false, false, false, false, false, false, false, false, false, false, false] rfl rfl (by kernel_rfl) (fun _ _ _ h => h) (Or.inl ⟨by rfl, ?_⟩) ?_ ?_
    rotate_left
    · intro w'
      go_simp
      with_reducible rfl
    rotate_left
    · simp only [Act.put, List.setIfInBounds_toArray, List.set_cons_zero, List.set_cons_succ, i64_w, i32_w]
      rfl
    refine pure_ (i := 2) (N := some 13) (v := ?_) (a' := ?_) #[true, false, true, false, false, false, false, false, false, false, false, false] rfl rfl (by kernel_rfl) (fun _ _ _ h => h) (Or.inl ⟨by rfl, ?_⟩) ?_ ?_
    rotate_left
    · intro w'
      go_simp
      with_reducible rfl
    rotate_left
    · simp only [Act.put, List.setIfInBounds_toArray, List.set_cons_zero, List.set_cons_succ, i64_w, i32_w]
      rfl
    refine pure_ (i := 5) (N := some 16) (v := ?_) (a' := ?_) #[true, false, true, false, false, true, false, false, false, false, false, false] rfl rfl (by kernel_rfl) (fun _ _ _ h => h) (Or.inl ⟨by rfl, ?_⟩) ?_ ?_
    rotate_left
    · intro w'
      go_simp
      with_reducible rfl
    rotate_left
    · simp only [Act.put, List.setIfInBounds_toArray, List.set_cons_zero, List.set_cons_succ, i64_w, i32_w]
      rfl
    refine pure_ (i := 7) (N := some 18) (v := ?_) (a' := ?_) #[true, false, true, false, false, true, false, true, false, false, false, false] rfl rfl (by kernel_rfl) (fun _ _ _ h => h) (Or.inl ⟨by rfl, ?_⟩) ?_ ?_
    rotate_left
    · intro w'
      go_simp
      with_reducible rfl
    rotate_left
    · simp only [Act.put, List.setIfInBounds_toArray, List.set_cons_zero, List.set_cons_succ, i64_w, i32_w]
      rfl
    refine take_ (i := 1) (N := some 12) (v := ?_) (a' := ?_) #[true, true, true, false, false, true, false, true, false, false, false, false] rfl rfl (by kernel_rfl) (fun _ _ _ h => h) (Or.inl ⟨by rfl, ?_⟩) hHeld ?_ ?_
    rotate_left
    · rintro w' ⟨s0, s1⟩
      go_simp
      with_reducible rfl
    rotate_left
    · simp only [Act.put, List.setIfInBounds_toArray, List.set_cons_zero, List.set_cons_succ, i64_w, i32_w]
      rfl
    refine take_ (i := 3) (N := some 14) (v := ?_) (a' := ?_) #[true, true, true, true, false, true, false, true, false, false, false, false] rfl rfl (by kernel_rfl) (fun _ _ _ h => h) (Or.inl ⟨by rfl, ?_⟩) hHeld ?_ ?_
    rotate_left
    · rintro w' ⟨s0, s1⟩
      go_simp
      with_reducible rfl
    rotate_left
    · simp only [Act.put, List.setIfInBounds_toArray, List.set_cons_zero, List.set_cons_succ, i64_w, i32_w]
      rfl
    refine take_ (i := 6) (N := some 17) (v := ?_) (a' := ?_) #[true, true, true, true, false, true, true, true, false, false, false, false] rfl rfl (by kernel_rfl) (fun _ _ _ h => h) (Or.inl ⟨by rfl, ?_⟩) hHeld ?_ ?_
    rotate_left
    · rintro w' ⟨s0, s1⟩
      go_simp
      with_reducible rfl
    rotate_left
    · simp only [Act.put, List.setIfInBounds_toArray, List.set_cons_zero, List.set_cons_succ, i64_w, i32_w]
      rfl
    refine take_ (i := 8) (N := some 19) (v := ?_) (a' := ?_) #[true, true, true, true, false, true, true, true, true, false, false, false] rfl rfl (by kernel_rfl) (fun _ _ _ h => h) (Or.inl ⟨by rfl, ?_⟩) hHeld ?_ ?_
    rotate_left
    · rintro w' ⟨s0, s1⟩
      go_simp
      with_reducible rfl
    rotate_left
    · simp only [Act.put, List.setIfInBounds_toArray, List.set_cons_zero, List.set_cons_succ, i64_w, i32_w]
      rfl
    refine one_ (i := 4) (N := some 15) #[true, true, true, true, true, true, true, true, true, false, false, false] rfl rfl (by kernel_rfl) (by decide) (fun K_ hK_ => ?_)
    refine goes_ Try.func8 (by kernel_rfl) rfl #[.int .i64 a0_0, .int .i64 a0_1] (by rfl) rfl rfl (by (try simp only [List.map_toArray, List.map_cons, List.map_nil]); first | done | rfl) ?_
    obtain ⟨N_, on_, nn_, rr_, bb_⟩ := O2.out.frame0
    refine (New_lit a0_0 a0_1 M on_ HM.out).mono ?_
    rintro e_ w3 ⟨gj, rfl, oo_, kk_⟩
    obtain ⟨o_, k_⟩ := bb_ _ _ kk_ oo_
    refine ⟨_, rfl, ?_⟩
    have O3 : Aside0 (Own N w3 [cells gx #[.int .i64 a0_0, .int .i64 a0_1] 22, Obj3 52 gj a0_0 M []]) := ⟨o_⟩
    have K3 : Aside0 (KeepS N w w3) := ⟨K2.out.trans k_⟩
    clear c2_0_0 f2_0_0 c2_0_1 f2_0_1 O2 K2
    have c3_0_0 : w3.cell? ⟨gx, 0, none⟩ = some (.int .i64 a0_0) := (blk_cell (O3.out.blk (i := 0) rfl) 0).trans rfl
    have f3_0_0 : w3.frozen? ⟨gx, 0, none⟩ = false := blk_frozen (O3.out.blk (i := 0) rfl) 0
    have c3_0_1 : w3.cell? ⟨gx, 1, none⟩ = some (.int .i64 a0_1) := (blk_cell (O3.out.blk (i := 0) rfl) 1).trans rfl
    have f3_0_1 : w3.frozen? ⟨gx, 1, none⟩ = false := blk_frozen (O3.out.blk (i := 0) rfl) 1
    clear o_ k_ oo_ kk_ on_ nn_ rr_ bb_
    clear hHeld
    refine hK_.out _ _ ⟨((blk_cell (O3.out.blk (i := 0) rfl) 0).trans rfl), ((blk_cell (O3.out.blk (i := 0) rfl) 1).trans rfl)⟩ (fun hHeld => ?_)
    clear hK_ K_
    refine norm_ (a' := ?_) ?_ ?_
    rotate_left
    · simp only [Act.put, List.setIfInBounds_toArray, List.set_cons_zero, List.set_cons_succ, i64_w, i32_w]
      rfl
    refine one_ (i := 9) (N := some 20) #[true, true, true, true, true, true, true, true, true, true, false, false] rfl rfl (by kernel_rfl) (by decide) (fun K_ hK_ => ?_)
    refine goes_ Try.func9 (by kernel_rfl) rfl #[.int .i64 a0_0, .int .i64 a0_1] (by rfl) rfl rfl (by (try simp only [List.map_toArray, List.map_cons, List.map_nil]); first | done | rfl) ?_
    obtain ⟨N_, on_, nn_, rr_, bb_⟩ := O3.out.frame0
    refine (RNew_lit a0_0 a0_1 M on_ HM.out).mono ?_
    rintro e_ w4 ⟨gm, rfl, oo_, kk_⟩
    obtain ⟨o_, k_⟩ := bb_ _ _ kk_ oo_
    refine ⟨_, rfl, ?_⟩
    have O4 : Aside0 (Own N w4 [cells gx #[.int .i64 a0_0, .int .i64 a0_1] 22, Obj3 52 gj a0_0 M [], Obj3 42 gm a0_0 M []]) := ⟨o_⟩
    have K4 : Aside0 (KeepS N w w4) := ⟨K3.out.trans k_⟩
    clear c3_0_0 f3_0_0 c3_0_1 f3_0_1 O3 K3
    have c4_0_0 : w4.cell? ⟨gx, 0, none⟩ = some (.int .i64 a0_0) := (blk_cell (O4.out.blk (i := 0) rfl) 0).trans rfl
    have f4_0_0 : w4.frozen? ⟨gx, 0, none⟩ = false := blk_frozen (O4.out.blk (i := 0) rfl) 0
    have c4_0_1 : w4.cell? ⟨gx, 1, none⟩ = some (.int .i64 a0_1) := (blk_cell (O4.out.blk (i := 0) rfl) 1).trans rfl
    have f4_0_1 : w4.frozen? ⟨gx, 1, none⟩ = false := blk_frozen (O4.out.blk (i := 0) rfl) 1
    clear o_ k_ oo_ kk_ on_ nn_ rr_ bb_
    clear hHeld
    refine hK_.out _ _ ⟨((blk_cell (O4.out.blk (i := 0) rfl) 0).trans rfl), ((blk_cell (O4.out.blk (i := 0) rfl) 1).trans rfl)⟩ (fun hHeld => ?_)
    clear hK_ K_
    refine norm_ (a' := ?_) ?_ ?_
    rotate_left
    · simp only [Act.put, List.setIfInBounds_toArray, List.set_cons_zero, List.set_cons_succ, i64_w, i32_w]
      rfl
    refine pure_ (i := 10) (N := some 7) (v := ?_) (a' := ?_) #[true, true, true, true, true, true, true, true, true, true, true, false] rfl rfl (by kernel_rfl) (fun _ _ _ h => h) (Or.inl ⟨by rfl, ?_⟩) ?_ ?_
    rotate_left
    · intro w'
      go_simp
      with_reducible rfl
    rotate_left
    · simp only [Act.put, List.setIfInBounds_toArray, List.set_cons_zero, List.set_cons_succ, i64_w, i32_w]
      rfl
    refine pure_ (i := 11) (N := some 8) (v := ?_) (a' := ?_) #[true, true, true, true, true, true, true, true, true, true, true, true] rfl rfl (by kernel_rfl) (fun _ _ _ h => h) (Or.inl ⟨by rfl, ?_⟩) ?_ ?_
    rotate_left
    · intro w'
      go_simp
      with_reducible rfl
    rotate_left
    · simp only [Act.put, List.setIfInBounds_toArray, List.set_cons_zero, List.set_cons_succ, i64_w, i32_w]
      rfl
    refine done_ (by kernel_rfl) ?_
    clear hHeld
    go_wp2_with (first | ((with_reducible refine gate_callee (f := 10) rfl ?_); refine goesL_ (some 21) rfl rfl Try.func10 (by kernel_rfl) rfl #[] rfl (by (try simp only [List.map_toArray, List.map_cons, List.map_nil]); first | done | rfl) ?_; refine (awake _).mono ?_; rintro e_ w5 ⟨rfl, hb_⟩; refine ⟨_, rfl, ?_⟩; have o_ := O4.out.below hb_; have k_ := KeepS.of_below (N := N) hb_; have O5 : Aside0 (Own N w5 [cells gx #[.int .i64 a0_0, .int .i64 a0_1] 22, Obj3 52 gj a0_0 M [], Obj3 42 gm a0_0 M []]) := ⟨o_⟩; have K5 : Aside0 (KeepS N w w5) := ⟨K4.out.trans k_⟩; clear c4_0_0 f4_0_0 c4_0_1 f4_0_1 O4 K4; have c5_0_0 : w5.cell? ⟨gx, 0, none⟩ = some (.int .i64 a0_0) := (blk_cell (O5.out.blk (i := 0) rfl) 0).trans rfl; have f5_0_0 : w5.frozen? ⟨gx, 0, none⟩ = false := blk_frozen (O5.out.blk (i := 0) rfl) 0; have c5_0_1 : w5.cell? ⟨gx, 1, none⟩ = some (.int .i64 a0_1) := (blk_cell (O5.out.blk (i := 0) rfl) 1).trans rfl; have f5_0_1 : w5.frozen? ⟨gx, 1, none⟩ = false := blk_frozen (O5.out.blk (i := 0) rfl) 1; clear o_ k_ hb_) | ((with_reducible refine gate_callee (f := 11) rfl ?_); refine gate_guard (by rfl) ?_; refine goesL_ (some 29) rfl rfl Try.func11 (by kernel_rfl) rfl #[.slice A1 l0.length c1] rfl (by (try simp only [List.map_toArray, List.map_cons, List.map_nil]); first | done | rfl) ?_; refine (chapbooklaw13_great.calls 300 _ _ l0 false _ (Kd.C_below HR0.out (K5.out.below (Nat.le_refl _) (fun k hk => by rw [HN.out]; exact hk))) HC0.out HGR.out).mono ?_; rintro e_ w6 ⟨rfl, hb_⟩; refine ⟨_, rfl, ?_⟩; have o_ := O5.out.below hb_; have k_ := KeepS.of_below (N := N) hb_; have O6 : Aside0 (Own N w6 [cells gx #[.int .i64 a0_0, .int .i64 a0_1] 22, Obj3 52 gj a0_0 M [], Obj3 42 gm a0_0 M []]) := ⟨o_⟩; have K6 : Aside0 (KeepS N w w6) := ⟨K5.out.trans k_⟩; clear c5_0_0 f5_0_0 c5_0_1 f5_0_1 O5 K5; have c6_0_0 : w6.cell? ⟨gx, 0, none⟩ = some (.int .i64 a0_0) := (blk_cell (O6.out.blk (i := 0) rfl) 0).trans rfl; have f6_0_0 : w6.frozen? ⟨gx, 0, none⟩ = false := blk_frozen (O6.out.blk (i := 0) rfl) 0; have c6_0_1 : w6.cell? ⟨gx, 1, none⟩ = some (.int .i64 a0_1) := (blk_cell (O6.out.blk (i := 0) rfl) 1).trans rfl; have f6_0_1 : w6.frozen? ⟨gx, 1, none⟩ = false := blk_frozen (O6.out.blk (i := 0) rfl) 1; clear o_ k_ hb_))
    go_loopw [34] (fun i wr => PlI N w l0 gj gm a0_0 M i wr) (fun i _ => l0.length - (intOf i).toNat)
    case atStart => exact ⟨0, [], by omega, by omega, rfl, ⟨by decide, HM0.out, short_nil, num_nil⟩, ⟨O6.out.pick2 (a := 1) (b := 2) rfl rfl (by decide)⟩, K6⟩
    case round =>
      clear c6_0_0 f6_0_0 c6_0_1 f6_0_1
      obtain ⟨x, L, hx0, hx1, rfl, HI, OA, KA⟩ := hrel
      have hF2 := keepF HRL0.out KA.out
      have hLx := HL30.out
      have HLL : Aside0 (L.length ≤ 1000000) := ⟨by have := HI.out.1; omega⟩
      by_cases hlt : x < (l0.length : Int)
      · obtain ⟨ad, A3, c3, e3, x0, hl3, hF3⟩ := at_FL hF2 x hx0 hlt
        cases e3
        have HC3 := Aside0.mk hl3
        have HF3 := Aside0.mk hF3
        have hs2 : wrap64 (x + 1) = x + 1 := by unfold wrap64; omega
        have hp := eq_true hx0
        have hq := eq_true hlt
        have hd : decide (x < (l0.length : Int)) = true := decide_eq_true hlt
        have HX := Aside0.mk (And.intro hx0 hlt)
        have HU : Aside0 ((rd_L3 l0 x).length ≤ 1000000) := ⟨Nat.le_trans (HL12.out x hx0 hlt) (by decide)⟩
        have HU2 : Aside0 ((rd_L3 l0 x).length ≤ 12) := ⟨HL12.out x hx0 hlt⟩
        clear hF3 hF2 hl3
        have O7 : Aside0 (Own N wr [Obj3 52 gj a0_0 M L, Obj3 42 gm a0_0 M L]) := ⟨OA.out⟩
        have K7 : Aside0 (KeepS N w wr) := ⟨KA.out⟩
        have HRI_7 : Aside0 (Kd.F k50 wr N A3 (rd_L3 l0 x).length (rd_L3 l0 x)) := ⟨HF3.out⟩
        clear OA KA HF3
        by_cases he : addE a0_0 M L (rd_L3 l0 x) = 0
        · have HE := Aside0.mk he
          have HLM : Aside0 ((L.length : Int) + 1 ≤ M) := ⟨addE_lt HE.out HI.out.2.1⟩
          clear he hlt hx0 hx1
          go_wp2_with (first | ((with_reducible refine gate_dst (N := 39) rfl ?_); refine own_lit k50 (N := N) (e := 50) (xs := []) (inner := []) rfl (D := 39) rfl ?hr (Reps.none _ _) (by simp) O7.out ?_; (case hr => first | (go_simp; done) | (go_simp; rfl)); intro B1 d1 w8 o_ k_; have O8 : Aside0 (Own N w8 [Obj3 52 gj a0_0 M L, Obj3 42 gm a0_0 M L, nrow k50 50 (.slice B1 0 d1) []]) := ⟨o_⟩; have K8 : Aside0 (KeepS N w w8) := ⟨K7.out.trans k_⟩; have HRI_8 : Aside0 (Kd.F k50 w8 N A3 (rd_L3 l0 x).length (rd_L3 l0 x)) := ⟨keepF HRI_7.out k_⟩; clear O7 K7 HRI_7; clear o_ k_) | ((with_reducible refine gate_builtin (b := .append) (xs := #[.tmp 39, .tmp 40]) rfl ?_); at_builtin; refine Own.append_flat k50 flatU O8.out (i := 2) (ys := (rd_L3 l0 x)) rfl (Kd.F_now HRI_8.out) rfl (.tmp 39) (.tmp 40) 30 (.agg #[.string ⟨#[]⟩, .int .i64 0, .int .i64 0, .string ⟨#[]⟩]) 48 rfl Try.underlying30 info50 rfl (by decide) (by decide) rfl rfl (by have := HU.out; simp only [List.length_nil]; omega) ?_; intro B2 d2 w9 o_ k_; have O9 : Aside0 (Own N w9 [Obj3 52 gj a0_0 M L, Obj3 42 gm a0_0 M L, nrow k50 50 (.slice B2 ((rd_L3 l0 x)).length d2) ((rd_L3 l0 x))]) := ⟨o_⟩; have K9 : Aside0 (KeepS N w w9) := ⟨K8.out.trans k_⟩; have HRI_9 : Aside0 (Kd.F k50 w9 N A3 (rd_L3 l0 x).length (rd_L3 l0 x)) := ⟨keepF HRI_8.out k_⟩; clear O8 K8 HRI_8; clear o_ k_) | ((with_reducible refine gate_callee (f := 12) rfl ?_); refine goesL_ (some 42) rfl rfl Try.func12 (by kernel_rfl) rfl #[.pointer (some ⟨gj, 0, none⟩), .slice B2 (rd_L3 l0 x).length d2] rfl (by (try simp only [List.map_toArray, List.map_cons, List.map_nil]); first | done | rfl) ?_; obtain ⟨N_, on_, nn_, rr_, bb_⟩ := O9.out.frame1 (i := 0) rfl; have hr_ := Kd.N_F (rr_ 2 _ (by decide) rfl); have hc_ := (O9.out.nreads (i := 2) rfl).2.1; refine (Add_y B2 d2 (rd_L3 l0 x) on_ hr_ hc_ HLL.out HU.out HE.out).mono ?_; rintro e_ w10 ⟨B3, d3, rfl, oo_, kk_⟩; obtain ⟨o_, k_⟩ := bb_ _ _ _ kk_ oo_; refine ⟨_, rfl, ?_⟩; have O10 : Aside0 (Own N w10 [Obj3 52 gj a0_0 M (L ++ [(⟨a0_0, (L.length : Int) + 1, (rd_L3 l0 x)⟩ : Rnd)]), Obj3 42 gm a0_0 M L, nrow k50 50 (.slice B2 ((rd_L3 l0 x)).length d2) ((rd_L3 l0 x)), nrow k50 50 (.slice B3 (rd_L3 l0 x).length d3) (rd_L3 l0 x)]) := ⟨o_⟩; have K10 : Aside0 (KeepS N w w10) := ⟨K9.out.trans k_⟩; have HRI_10 : Aside0 (Kd.F k50 w10 N A3 (rd_L3 l0 x).length (rd_L3 l0 x)) := ⟨keepF HRI_9.out k_⟩; clear O9 K9 HRI_9; clear o_ k_ oo_ kk_ on_ nn_ rr_ bb_ hr_ hc_) | ((with_reducible refine gate_callee (f := 13) rfl ?_); refine goesL_ (some 45) rfl rfl Try.func13 (by kernel_rfl) rfl #[.pointer (some ⟨gm, 0, none⟩), .slice A3 (rd_L3 l0 x).length c3] rfl (by (try simp only [List.map_toArray, List.map_cons, List.map_nil]); first | done | rfl) ?_; obtain ⟨N_, on_, nn_, rr_, bb_⟩ := O10.out.frame1 (i := 1) rfl; have hr_ := Kd.F_mono HRI_10.out nn_; refine (RAdd_y A3 c3 (rd_L3 l0 x) on_ hr_ HC3.out HLL.out HU.out HI.out.2.1 HE.out).mono ?_; rintro e_ w11 ⟨B4, d4, B5, d5, rfl, hcc_, oo_, kk_⟩; obtain ⟨o_, k_⟩ := bb_ _ _ _ kk_ oo_; refine ⟨_, rfl, ?_⟩; have O11 : Aside0 (Own N w11 [Obj3 52 gj a0_0 M (L ++ [(⟨a0_0, (L.length : Int) + 1, (rd_L3 l0 x)⟩ : Rnd)]), cells gm #[.int .i64 a0_0, .int .i64 M, .slice B5 (L ++ [(⟨a0_0, (L.length : Int) + 1, (rd_L3 l0 x)⟩ : Rnd)]).length d5] 42, nrow k50 50 (.slice B2 ((rd_L3 l0 x)).length d2) ((rd_L3 l0 x)), nrow k50 50 (.slice B3 (rd_L3 l0 x).length d3) (rd_L3 l0 x), both (nrow k32 32 (.slice B5 (L ++ [(⟨a0_0, (L.length : Int) + 1, (rd_L3 l0 x)⟩ : Rnd)]).length d5) (L ++ [(⟨a0_0, (L.length : Int) + 1, (rd_L3 l0 x)⟩ : Rnd)])) (rd k50 B4 (rd_L3 l0 x).length (rd_L3 l0 x))]) := ⟨o_⟩; have K11 : Aside0 (KeepS N w w11) := ⟨K10.out.trans k_⟩; have HRI_11 : Aside0 (Kd.F k50 w11 N A3 (rd_L3 l0 x).length (rd_L3 l0 x)) := ⟨keepF HRI_10.out k_⟩; clear O10 K10 HRI_10; have HCC := Aside0.mk hcc_; clear hcc_; clear o_ k_ oo_ kk_ on_ nn_ rr_ bb_ hr_; have c11_1_0 : w11.cell? ⟨gm, 0, none⟩ = some (.int .i64 a0_0) := (blk_cell (O11.out.blk (i := 1) rfl) 0).trans rfl; have f11_1_0 : w11.frozen? ⟨gm, 0, none⟩ = false := blk_frozen (O11.out.blk (i := 1) rfl) 0; have c11_1_1 : w11.cell? ⟨gm, 1, none⟩ = some (.int .i64 M) := (blk_cell (O11.out.blk (i := 1) rfl) 1).trans rfl; have f11_1_1 : w11.frozen? ⟨gm, 1, none⟩ = false := blk_frozen (O11.out.blk (i := 1) rfl) 1; have c11_1_2 : w11.cell? ⟨gm, 2, none⟩ = some (.slice B5 (L ++ [(⟨a0_0, (L.length : Int) + 1, (rd_L3 l0 x)⟩ : Rnd)]).length d5) := (blk_cell (O11.out.blk (i := 1) rfl) 2).trans rfl; have f11_1_2 : w11.frozen? ⟨gm, 2, none⟩ = false := blk_frozen (O11.out.blk (i := 1) rfl) 2))
          go_roundw
          case rel => exact ⟨x + 1, (L ++ [(⟨a0_0, (L.length : Int) + 1, (rd_L3 l0 x)⟩ : Rnd)]), by have := HX.out; omega, by have := HX.out; omega, int_eq (by unfold wrap64; have := HX.out; have := HL30.out; omega), ⟨⟨by have := HI.out.1; have := HX.out; simp; omega, by have := HLM.out; simp; omega, addS HI.out.2.2.1 HE.out, num_snoc _ _ HI.out.2.2.2⟩⟩, ⟨((((Obj3.shut2 (i := 1) (j := 4) O11.out rfl rfl (by decide)).conv (i := 1) rfl (Obj3 42 gm a0_0 M (L ++ [(⟨a0_0, (L.length : Int) + 1, (rd_L3 l0 x)⟩ : Rnd)])) (fun F hp _ => hp.1))).pick2 (a := 0) (b := 1) rfl rfl (by decide))⟩, K11⟩
          case measure => have := HX.out; simp [intOf]; omega
        · have HE := Aside0.mk he
          obtain ⟨E, hE⟩ : ∃ E, E = addE a0_0 M L (rd_L3 l0 x) := ⟨_, rfl⟩
          have HE2 := Aside0.mk hE.symm
          have hz : (E == 0) = false := beq_eq_false_iff_ne.2 (by rw [hE]; exact he)
          have hz2 : (E != 0) = true := by rw [bne_iff_ne, hE]; exact he
          have hz3 : (E != E) = false := by simp
          have HE3 : Aside0 (E ≠ 0) := ⟨by rw [hE]; exact he⟩
          clear hE
          clear he hlt hx0 hx1
          go_wp2_with (first | ((with_reducible refine gate_dst (N := 39) rfl ?_); refine own_lit k50 (N := N) (e := 50) (xs := []) (inner := []) rfl (D := 39) rfl ?hr (Reps.none _ _) (by simp) O7.out ?_; (case hr => first | (go_simp; done) | (go_simp; rfl)); intro B1 d1 w8 o_ k_; have O8 : Aside0 (Own N w8 [Obj3 52 gj a0_0 M L, Obj3 42 gm a0_0 M L, nrow k50 50 (.slice B1 0 d1) []]) := ⟨o_⟩; have K8 : Aside0 (KeepS N w w8) := ⟨K7.out.trans k_⟩; have HRI_8 : Aside0 (Kd.F k50 w8 N A3 (rd_L3 l0 x).length (rd_L3 l0 x)) := ⟨keepF HRI_7.out k_⟩; clear O7 K7 HRI_7; clear o_ k_) | ((with_reducible refine gate_builtin (b := .append) (xs := #[.tmp 39, .tmp 40]) rfl ?_); at_builtin; refine Own.append_flat k50 flatU O8.out (i := 2) (ys := (rd_L3 l0 x)) rfl (Kd.F_now HRI_8.out) rfl (.tmp 39) (.tmp 40) 30 (.agg #[.string ⟨#[]⟩, .int .i64 0, .int .i64 0, .string ⟨#[]⟩]) 48 rfl Try.underlying30 info50 rfl (by decide) (by decide) rfl rfl (by have := HU.out; simp only [List.length_nil]; omega) ?_; intro B2 d2 w9 o_ k_; have O9 : Aside0 (Own N w9 [Obj3 52 gj a0_0 M L, Obj3 42 gm a0_0 M L, nrow k50 50 (.slice B2 ((rd_L3 l0 x)).length d2) ((rd_L3 l0 x))]) := ⟨o_⟩; have K9 : Aside0 (KeepS N w w9) := ⟨K8.out.trans k_⟩; have HRI_9 : Aside0 (Kd.F k50 w9 N A3 (rd_L3 l0 x).length (rd_L3 l0 x)) := ⟨keepF HRI_8.out k_⟩; clear O8 K8 HRI_8; clear o_ k_) | ((with_reducible refine gate_callee (f := 12) rfl ?_); refine goesL_ (some 42) rfl rfl Try.func12 (by kernel_rfl) rfl #[.pointer (some ⟨gj, 0, none⟩), .slice B2 (rd_L3 l0 x).length d2] rfl (by (try simp only [List.map_toArray, List.map_cons, List.map_nil]); first | done | rfl) ?_; obtain ⟨N_, on_, nn_, rr_, bb_⟩ := O9.out.frame1 (i := 0) rfl; have hr_ := Kd.N_F (rr_ 2 _ (by decide) rfl); have hc_ := (O9.out.nreads (i := 2) rfl).2.1; refine (Add_n B2 d2 (rd_L3 l0 x) on_ hr_ hc_ HLL.out HU.out E HE2.out HE3.out).mono ?_; rintro e_ w10 ⟨B3, d3, rfl, oo_, kk_⟩; obtain ⟨o_, k_⟩ := bb_ _ _ _ kk_ oo_; refine ⟨_, rfl, ?_⟩; have O10 : Aside0 (Own N w10 [Obj3 52 gj a0_0 M L, Obj3 42 gm a0_0 M L, nrow k50 50 (.slice B2 ((rd_L3 l0 x)).length d2) ((rd_L3 l0 x)), nrow k50 50 (.slice B3 0 d3) ([] : List Upd)]) := ⟨o_⟩; have K10 : Aside0 (KeepS N w w10) := ⟨K9.out.trans k_⟩; have HRI_10 : Aside0 (Kd.F k50 w10 N A3 (rd_L3 l0 x).length (rd_L3 l0 x)) := ⟨keepF HRI_9.out k_⟩; clear O9 K9 HRI_9; clear o_ k_ oo_ kk_ on_ nn_ rr_ bb_ hr_ hc_) | ((with_reducible refine gate_callee (f := 13) rfl ?_); refine goesL_ (some 45) rfl rfl Try.func13 (by kernel_rfl) rfl #[.pointer (some ⟨gm, 0, none⟩), .slice A3 (rd_L3 l0 x).length c3] rfl (by (try simp only [List.map_toArray, List.map_cons, List.map_nil]); first | done | rfl) ?_; obtain ⟨N_, on_, nn_, rr_, bb_⟩ := O10.out.frame1 (i := 1) rfl; have hr_ := Kd.F_mono HRI_10.out nn_; refine (RAdd_n A3 c3 (rd_L3 l0 x) on_ hr_ HC3.out HLL.out HU.out HI.out.2.1 E HE2.out HE3.out).mono ?_; rintro e_ w11 ⟨B4, d4, B5, d5, rfl, hcc_, oo_, kk_⟩; obtain ⟨o_, k_⟩ := bb_ _ _ _ kk_ oo_; refine ⟨_, rfl, ?_⟩; have O11 : Aside0 (Own N w11 [Obj3 52 gj a0_0 M L, cells gm #[.int .i64 a0_0, .int .i64 M, .slice B5 L.length d5] 42, nrow k50 50 (.slice B2 ((rd_L3 l0 x)).length d2) ((rd_L3 l0 x)), nrow k50 50 (.slice B3 0 d3) ([] : List Upd), both (nrow k32 32 (.slice B5 L.length d5) L) (rd k50 B4 0 ([] : List Upd))]) := ⟨o_⟩; have K11 : Aside0 (KeepS N w w11) := ⟨K10.out.trans k_⟩; have HRI_11 : Aside0 (Kd.F k50 w11 N A3 (rd_L3 l0 x).length (rd_L3 l0 x)) := ⟨keepF HRI_10.out k_⟩; clear O10 K10 HRI_10; have HCC := Aside0.mk hcc_; clear hcc_; clear o_ k_ oo_ kk_ on_ nn_ rr_ bb_ hr_; have c11_1_0 : w11.cell? ⟨gm, 0, none⟩ = some (.int .i64 a0_0) := (blk_cell (O11.out.blk (i := 1) rfl) 0).trans rfl; have f11_1_0 : w11.frozen? ⟨gm, 0, none⟩ = false := blk_frozen (O11.out.blk (i := 1) rfl) 0; have c11_1_1 : w11.cell? ⟨gm, 1, none⟩ = some (.int .i64 M) := (blk_cell (O11.out.blk (i := 1) rfl) 1).trans rfl; have f11_1_1 : w11.frozen? ⟨gm, 1, none⟩ = false := blk_frozen (O11.out.blk (i := 1) rfl) 1; have c11_1_2 : w11.cell? ⟨gm, 2, none⟩ = some (.slice B5 L.length d5) := (blk_cell (O11.out.blk (i := 1) rfl) 2).trans rfl; have f11_1_2 : w11.frozen? ⟨gm, 2, none⟩ = false := blk_frozen (O11.out.blk (i := 1) rfl) 2))
          go_roundw
          case rel => exact ⟨x + 1, L, by have := HX.out; omega, by have := HX.out; omega, int_eq (by unfold wrap64; have := HX.out; have := HL30.out; omega), ⟨⟨by have := HI.out.1; omega, HI.out.2⟩⟩, ⟨((((Obj3.shut2 (i := 1) (j := 4) O11.out rfl rfl (by decide)).conv (i := 1) rfl (Obj3 42 gm a0_0 M L) (fun F hp _ => hp.1))).pick2 (a := 0) (b := 1) rfl rfl (by decide))⟩, K11⟩
          case measure => have := HX.out; simp [intOf]; omega
      · have hxe : x = (l0.length : Int) := by omega
        subst hxe
        have hd : decide ((l0.length : Int) < (l0.length : Int)) = false := decide_eq_false (Int.lt_irrefl _)
        clear hlt hx0 hx1 hF2 hLx
        obtain ⟨wo, hwo⟩ : ∃ wo : World, wo = wr := ⟨_, rfl⟩
        subst hwo
        obtain ⟨Am, cm, h2⟩ := Obj3.open_ OA.out (i := 1) rfl
        have HCM : Aside0 (L.length ≤ cm) := ⟨(h2.nreads (i := 2) rfl).2.1⟩
        obtain ⟨N1, h3, hn1, hF, hback⟩ := h2.hide (i := 2) rfl
        have hFm : Kd.F k32 wo N1 Am L.length L := Kd.N_F hF
        have HRM0 := Aside0.mk hFm
        have HN1 := Aside0.mk hn1
        have HS := Aside0.mk HI.out.2.2.1
        have HNU := Aside0.mk HI.out.2.2.2
        have O9 : Aside0 (Own N1 wo [Obj3 52 gj a0_0 M L, cells gm #[.int .i64 a0_0, .int .i64 M, .slice Am L.length cm] 42, emp]) := ⟨h3⟩
        have K9 : Aside0 (KeepS N1 wo wo) := ⟨KeepS.refl _ _⟩
        have HRM_9 : Aside0 (Kd.F k32 wo N1 Am L.length L) := ⟨hFm⟩
        have c9_1_0 : wo.cell? ⟨gm, 0, none⟩ = some (.int .i64 a0_0) := (blk_cell (O9.out.blk (i := 1) rfl) 0).trans rfl
        have f9_1_0 : wo.frozen? ⟨gm, 0, none⟩ = false := blk_frozen (O9.out.blk (i := 1) rfl) 0
        have c9_1_1 : wo.cell? ⟨gm, 1, none⟩ = some (.int .i64 M) := (blk_cell (O9.out.blk (i := 1) rfl) 1).trans rfl
        have f9_1_1 : wo.frozen? ⟨gm, 1, none⟩ = false := blk_frozen (O9.out.blk (i := 1) rfl) 1
        have c9_1_2 : wo.cell? ⟨gm, 2, none⟩ = some (.slice Am L.length cm) := (blk_cell (O9.out.blk (i := 1) rfl) 2).trans rfl
        have f9_1_2 : wo.frozen? ⟨gm, 2, none⟩ = false := blk_frozen (O9.out.blk (i := 1) rfl) 2
        clear OA h2 h3 hn1 hF hback hFm
        go_wp2
        refine start_ (n := 17) (S := fun w' => w'.cell? ⟨gm, 0, none⟩ = some (.int .i64 a0_0) ∧ w'.cell? ⟨gm, 1, none⟩ = some (.int .i64 M) ∧ w'.cell? ⟨gm, 2, none⟩ = some (.slice Am L.length cm)) (ds := []) #[false, false, false, false, false, false, false, false, false, false, false, false, false, false, false, false, false] (by kernel_rfl) rfl rfl ⟨((blk_cell (O9.out.blk (i := 1) rfl) 0).trans rfl), ((blk_cell (O9.out.blk (i := 1) rfl) 1).trans rfl), ((blk_cell (O9.out.blk (i := 1) rfl) 2).trans rfl)⟩ (fun hHeld => ?_)
        obtain ⟨w10, hw_⟩ : ∃ W, W = wo.drew := ⟨_, rfl⟩
        have o_ := O9.out.drew
        have k_ : KeepS N1 wo wo.drew := KeepS.drew
        rw [← hw_] at o_ k_ hHeld ⊢
        clear hw_
        have O10 : Aside0 (Own N1 w10 [Obj3 52 gj a0_0 M L, cells gm #[.int .i64 a0_0, .int .i64 M, .slice Am L.length cm] 42, emp]) := ⟨o_⟩
        have K10 : Aside0 (KeepS N1 wo w10) := ⟨K9.out.trans k_⟩
        have HRM_10 : Aside0 (Kd.F k32 w10 N1 Am L.length L) := ⟨keepF HRM_9.out k_⟩
        clear c9_1_0 f9_1_0 c9_1_1 f9_1_1 c9_1_2 f9_1_2 O9 K9 HRM_9
        have c10_1_0 : w10.cell? ⟨gm, 0, none⟩ = some (.int .i64 a0_0) := (blk_cell (O10.out.blk (i := 1) rfl) 0).trans rfl
        have f10_1_0 : w10.frozen? ⟨gm, 0, none⟩ = false := blk_frozen (O10.out.blk (i := 1) rfl) 0
        have c10_1_1 : w10.cell? ⟨gm, 1, none⟩ = some (.int .i64 M) := (blk_cell (O10.out.blk (i := 1) rfl) 1).trans rfl
        have f10_1_1 : w10.frozen? ⟨gm, 1, none⟩ = false := blk_frozen (O10.out.blk (i := 1) rfl) 1
        have c10_1_2 : w10.cell? ⟨gm, 2, none⟩ = some (.slice Am L.length cm) := (blk_cell (O10.out.blk (i := 1) rfl) 2).trans rfl
        have f10_1_2 : w10.frozen? ⟨gm, 2, none⟩ = false := blk_frozen (O10.out.blk (i := 1) rfl) 2
        clear o_ k_
        refine pure_ (i := 0) (N := some 47) (v := ?_) (a' := ?_) #[true, false, false, false, false, false, false, false, false, false, false, false, false, false, false, false, false] rfl rfl (by kernel_rfl) (fun _ _ _ h => h) (Or.inl ⟨by rfl, ?_⟩) ?_ ?_
        rotate_left
        · intro w'
          go_simp
          with_reducible rfl
        rotate_left
        · simp only [Act.put, List.setIfInBounds_toArray, List.set_cons_zero, List.set_cons_succ, i64_w, i32_w]
          rfl
        refine pure_ (i := 1) (N := some 48) (v := ?_) (a' := ?_) #[true, true, false, false, false, false, false, false, false, false, false, false, false, false, false, false, false] rfl rfl (by kernel_rfl) (fun _ _ _ h => h) (Or.inl ⟨by rfl, ?_⟩) ?_ ?_
        rotate_left
        · intro w'
          go_simp
          with_reducible rfl
        rotate_left
        · simp only [Act.put, List.setIfInBounds_toArray, List.set_cons_zero, List.set_cons_succ, i64_w, i32_w]
          rfl
        refine pure_ (i := 3) (N := some 50) (v := ?_) (a' := ?_) #[true, true, false, true, false, false, false, false, false, false, false, false, false, false, false, false, false] rfl rfl (by kernel_rfl) (fun _ _ _ h => h) (Or.inl ⟨by rfl, ?_⟩) ?_ ?_
        rotate_left
        · intro w'
          go_simp
          with_reducible rfl
        rotate_left
        · simp only [Act.put, List.setIfInBounds_toArray, List.set_cons_zero, List.set_cons_succ, i64_w, i32_w]
          rfl
        refine pure_ (i := 4) (N := some 51) (v := ?_) (a' := ?_) #[true, true, false, true, true, false, false, false, false, false, false, false, false, false, false, false, false] rfl rfl (by kernel_rfl) (fun _ _ _ h => h) (Or.inl ⟨by rfl, ?_⟩) ?_ ?_
        rotate_left
        · intro w'
          go_simp
          with_reducible rfl
        rotate_left
        · simp only [Act.put, List.setIfInBounds_toArray, List.set_cons_zero, List.set_cons_succ, i64_w, i32_w]
          rfl
        refine one_ (i := 2) (N := some 49) #[true, true, true, true, true, false, false, false, false, false, false, false, false, false, false, false, false] rfl rfl (by kernel_rfl) (by decide) (fun K_ hK_ => ?_)
        refine goes_ Try.func18 (by kernel_rfl) rfl #[.pointer (some ⟨gj, 0, none⟩), .int .i64 a2] (by rfl) rfl rfl (by (try simp only [List.map_toArray, List.map_cons, List.map_nil]); first | done | rfl) ?_
        obtain ⟨N_, on_, nn_, rr_, bb_⟩ := O10.out.frame1 (i := 0) rfl
        refine (From_n a2 (L.drop a2.toNat) (L.drop a2.toNat).length (from_drop HNU.out a2) rfl on_ HLL.out HS.out).mono ?_
        rintro e_ w11 ⟨B1, d1, rfl, oo_, kk_⟩
        obtain ⟨o_, k_⟩ := bb_ _ _ _ kk_ oo_
        refine ⟨_, rfl, ?_⟩
        have O11 : Aside0 (Own N1 w11 [Obj3 52 gj a0_0 M L, cells gm #[.int .i64 a0_0, .int .i64 M, .slice Am L.length cm] 42, emp, nrow k32 32 (.slice B1 (L.drop a2.toNat).length d1) (L.drop a2.toNat)]) := ⟨o_⟩
        have K11 : Aside0 (KeepS N1 wo w11) := ⟨K10.out.trans k_⟩
        have HRM_11 : Aside0 (Kd.F k32 w11 N1 Am L.length L) := ⟨keepF HRM_10.out k_⟩
        clear c10_1_0 f10_1_0 c10_1_1 f10_1_1 c10_1_2 f10_1_2 O10 K10 HRM_10
        have c11_1_0 : w11.cell? ⟨gm, 0, none⟩ = some (.int .i64 a0_0) := (blk_cell (O11.out.blk (i := 1) rfl) 0).trans rfl
        have f11_1_0 : w11.frozen? ⟨gm, 0, none⟩ = false := blk_frozen (O11.out.blk (i := 1) rfl) 0
        have c11_1_1 : w11.cell? ⟨gm, 1, none⟩ = some (.int .i64 M) := (blk_cell (O11.out.blk (i := 1) rfl) 1).trans rfl
        have f11_1_1 : w11.frozen? ⟨gm, 1, none⟩ = false := blk_frozen (O11.out.blk (i := 1) rfl) 1
        have c11_1_2 : w11.cell? ⟨gm, 2, none⟩ = some (.slice Am L.length cm) := (blk_cell (O11.out.blk (i := 1) rfl) 2).trans rfl
        have f11_1_2 : w11.frozen? ⟨gm, 2, none⟩ = false := blk_frozen (O11.out.blk (i := 1) rfl) 2
        clear o_ k_ oo_ kk_ on_ nn_ rr_ bb_
        clear hHeld
        refine hK_.out _ _ ⟨((blk_cell (O11.out.blk (i := 1) rfl) 0).trans rfl), ((blk_cell (O11.out.blk (i := 1) rfl) 1).trans rfl), ((blk_cell (O11.out.blk (i := 1) rfl) 2).trans rfl)⟩ (fun hHeld => ?_)
        clear hK_ K_
        refine norm_ (a' := ?_) ?_ ?_
        rotate_left
        · simp only [Act.put, List.setIfInBounds_toArray, List.set_cons_zero, List.set_cons_succ, i64_w, i32_w]
          rfl
        refine one_ (i := 5) (N := some 52) #[true, true, true, true, true, true, false, false, false, false, false, false, false, false, false, false, false] rfl rfl (by kernel_rfl) (by decide) (fun K_ hK_ => ?_)
        refine goes_ Try.func19 (by kernel_rfl) rfl #[.pointer (some ⟨gm, 0, none⟩), .int .i64 a2] (by rfl) rfl rfl (by (try simp only [List.map_toArray, List.map_cons, List.map_nil]); first | done | rfl) ?_
        obtain ⟨N_, on_, nn_, rr_, bb_⟩ := O11.out.frame1 (i := 1) rfl
        refine (RFrom a2 on_ HCM.out HLL.out).mono ?_
        rintro e_ w12 ⟨C1, e1, rfl, hcc_, hct_, oo_, kk_⟩
        obtain ⟨o_, k_⟩ := bb_ _ _ _ kk_ oo_
        refine ⟨_, rfl, ?_⟩
        have O12 : Aside0 (Own N1 w12 [Obj3 52 gj a0_0 M L, cells gm #[.int .i64 a0_0, .int .i64 M, .slice Am L.length cm] 42, emp, nrow k32 32 (.slice B1 (L.drop a2.toNat).length d1) (L.drop a2.toNat)]) := ⟨o_⟩
        have K12 : Aside0 (KeepS N1 wo w12) := ⟨K11.out.trans k_⟩
        have HRM_12 : Aside0 (Kd.F k32 w12 N1 Am L.length L) := ⟨keepF HRM_11.out k_⟩
        clear c11_1_0 f11_1_0 c11_1_1 f11_1_1 c11_1_2 f11_1_2 O11 K11 HRM_11
        have c12_1_0 : w12.cell? ⟨gm, 0, none⟩ = some (.int .i64 a0_0) := (blk_cell (O12.out.blk (i := 1) rfl) 0).trans rfl
        have f12_1_0 : w12.frozen? ⟨gm, 0, none⟩ = false := blk_frozen (O12.out.blk (i := 1) rfl) 0
        have c12_1_1 : w12.cell? ⟨gm, 1, none⟩ = some (.int .i64 M) := (blk_cell (O12.out.blk (i := 1) rfl) 1).trans rfl
        have f12_1_1 : w12.frozen? ⟨gm, 1, none⟩ = false := blk_frozen (O12.out.blk (i := 1) rfl) 1
        have c12_1_2 : w12.cell? ⟨gm, 2, none⟩ = some (.slice Am L.length cm) := (blk_cell (O12.out.blk (i := 1) rfl) 2).trans rfl
        have f12_1_2 : w12.frozen? ⟨gm, 2, none⟩ = false := blk_frozen (O12.out.blk (i := 1) rfl) 2
        clear o_ k_ oo_ kk_ on_ nn_ rr_ bb_
        have HCC := Aside0.mk hcc_
        have HCT := Aside0.mk hct_
        clear hcc_ hct_
        clear hHeld
        refine hK_.out _ _ ⟨((blk_cell (O12.out.blk (i := 1) rfl) 0).trans rfl), ((blk_cell (O12.out.blk (i := 1) rfl) 1).trans rfl), ((blk_cell (O12.out.blk (i := 1) rfl) 2).trans rfl)⟩ (fun hHeld => ?_)
        clear hK_ K_
        refine norm_ (a' := ?_) ?_ ?_
        rotate_left
        · simp only [Act.put, List.setIfInBounds_toArray, List.set_cons_zero, List.set_cons_succ, i64_w, i32_w]
          rfl
        refine one_ (i := 6) (N := some 53) #[true, true, true, true, true, true, true, false, false, false, false, false, false, false, false, false, false] rfl rfl (by kernel_rfl) (by decide) (fun K_ hK_ => ?_)
        refine goes_ Try.func17 (by kernel_rfl) rfl #[.slice B1 (L.drop a2.toNat).length d1, .slice C1 (L.drop a2.toNat).length e1] (by rfl) rfl rfl (by (try simp only [List.map_toArray, List.map_cons, List.map_nil]); first | done | rfl) ?_
        refine (chapbookref07_SameAll.calls 200 _ _ (L.drop a2.toNat) _ _ (L.drop a2.toNat) true _ (O12.out.nreads (i := 3) rfl).2.2 (O12.out.nreads (i := 3) rfl).2.1 (Kd.F_now (HCT.out _ _ HRM_12.out)) HCC.out (psameAll 8 200 (L.drop a2.toNat) (by rw [List.length_drop]; have := HLL.out; omega) (short_drop _ HS.out) (by decide) (by rw [List.length_drop]; have := HI.out.1; have := HL30.out; omega))).mono ?_
        rintro e_ w13 ⟨rfl, hb_⟩
        refine ⟨_, rfl, ?_⟩
        have o_ := O12.out.below hb_
        have k_ := KeepS.of_below (N := N1) hb_
        have O13 : Aside0 (Own N1 w13 [Obj3 52 gj a0_0 M L, cells gm #[.int .i64 a0_0, .int .i64 M, .slice Am L.length cm] 42, emp, nrow k32 32 (.slice B1 (L.drop a2.toNat).length d1) (L.drop a2.toNat)]) := ⟨o_⟩
        have K13 : Aside0 (KeepS N1 wo w13) := ⟨K12.out.trans k_⟩
        have HRM_13 : Aside0 (Kd.F k32 w13 N1 Am L.length L) := ⟨keepF HRM_12.out k_⟩
        clear c12_1_0 f12_1_0 c12_1_1 f12_1_1 c12_1_2 f12_1_2 O12 K12 HRM_12
        have c13_1_0 : w13.cell? ⟨gm, 0, none⟩ = some (.int .i64 a0_0) := (blk_cell (O13.out.blk (i := 1) rfl) 0).trans rfl
        have f13_1_0 : w13.frozen? ⟨gm, 0, none⟩ = false := blk_frozen (O13.out.blk (i := 1) rfl) 0
        have c13_1_1 : w13.cell? ⟨gm, 1, none⟩ = some (.int .i64 M) := (blk_cell (O13.out.blk (i := 1) rfl) 1).trans rfl
        have f13_1_1 : w13.frozen? ⟨gm, 1, none⟩ = false := blk_frozen (O13.out.blk (i := 1) rfl) 1
        have c13_1_2 : w13.cell? ⟨gm, 2, none⟩ = some (.slice Am L.length cm) := (blk_cell (O13.out.blk (i := 1) rfl) 2).trans rfl
        have f13_1_2 : w13.frozen? ⟨gm, 2, none⟩ = false := blk_frozen (O13.out.blk (i := 1) rfl) 2
        clear o_ k_ hb_
        clear hHeld
        refine hK_.out _ _ ⟨((blk_cell (O13.out.blk (i := 1) rfl) 0).trans rfl), ((blk_cell (O13.out.blk (i := 1) rfl) 1).trans rfl), ((blk_cell (O13.out.blk (i := 1) rfl) 2).trans rfl)⟩ (fun hHeld => ?_)
        clear hK_ K_
        refine norm_ (a' := ?_) ?_ ?_
        rotate_left
        · simp only [Act.put, List.setIfInBounds_toArray, List.set_cons_zero, List.set_cons_succ, i64_w, i32_w]
          rfl
        refine pure_ (i := 7) (N := some 54) (v := ?_) (a' := ?_) #[true, true, true, true, true, true, true, true, false, false, false, false, false, false, false, false, false] rfl rfl (by kernel_rfl) (fun _ _ _ h => h) (Or.inl ⟨by rfl, ?_⟩) ?_ ?_
        rotate_left
        · intro w'
          go_simp
          with_reducible rfl
        rotate_left
        · simp only [Act.put, List.setIfInBounds_toArray, List.set_cons_zero, List.set_cons_succ, i64_w, i32_w]
          rfl
        refine pure_ (i := 8) (N := some 55) (v := ?_) (a' := ?_) #[true, true, true, true, true, true, true, true, true, false, false, false, false, false, false, false, false] rfl rfl (by kernel_rfl) (fun _ _ _ h => h) (Or.inl ⟨by rfl, ?_⟩) ?_ ?_
        rotate_left
        · intro w'
          go_simp
          with_reducible rfl
        rotate_left
        · simp only [Act.put, List.setIfInBounds_toArray, List.set_cons_zero, List.set_cons_succ, i64_w, i32_w]
          rfl
        refine pure_ (i := 10) (N := some 57) (v := ?_) (a' := ?_) #[true, true, true, true, true, true, true, true, true, false, true, false, false, false, false, false, false] rfl rfl (by kernel_rfl) (fun _ _ _ h => h) (Or.inl ⟨by rfl, ?_⟩) ?_ ?_
        rotate_left
        · intro w'
          go_simp
          with_reducible rfl
        rotate_left
        · simp only [Act.put, List.setIfInBounds_toArray, List.set_cons_zero, List.set_cons_succ, i64_w, i32_w]
          rfl
        refine pure_ (i := 11) (N := some 58) (v := ?_) (a' := ?_) #[true, true, true, true, true, true, true, true, true, false, true, true, false, false, false, false, false] rfl rfl (by kernel_rfl) (fun _ _ _ h => h) (Or.inl ⟨by rfl, ?_⟩) ?_ ?_
        rotate_left
        · intro w'
          go_simp
          with_reducible rfl
        rotate_left
        · simp only [Act.put, List.setIfInBounds_toArray, List.set_cons_zero, List.set_cons_succ, i64_w, i32_w]
          rfl
        refine pure_ (i := 12) (N := some 59) (v := ?_) (a' := ?_) #[true, true, true, true, true, true, true, true, true, false, true, true, true, false, false, false, false] rfl rfl (by kernel_rfl) (fun _ _ _ h => h) (Or.inl ⟨by rfl, ?_⟩) ?_ ?_
        rotate_left
        · intro w'
          go_simp
          with_reducible rfl
        rotate_left
        · simp only [Act.put, List.setIfInBounds_toArray, List.set_cons_zero, List.set_cons_succ, i64_w, i32_w]
          rfl
        refine take_ (i := 13) (N := some 60) (v := ?_) (a' := ?_) #[true, true, true, true, true, true, true, true, true, false, true, true, true, true, false, false, false] rfl rfl (by kernel_rfl) (fun _ _ _ h => h) (Or.inl ⟨by rfl, ?_⟩) hHeld ?_ ?_
        rotate_left
        · rintro w' ⟨s0, s1, s2⟩
          go_simp
          with_reducible rfl
        rotate_left
        · simp only [Act.put, List.setIfInBounds_toArray, List.set_cons_zero, List.set_cons_succ, i64_w, i32_w]
          rfl
        refine one_ (i := 9) (N := some 56) #[true, true, true, true, true, true, true, true, true, true, true, true, true, true, false, false, false] rfl rfl (by kernel_rfl) (by decide) (fun K_ hK_ => ?_)
        refine goes_ Try.func18 (by kernel_rfl) rfl #[.pointer (some ⟨gj, 0, none⟩), .int .i64 0] (by rfl) rfl rfl (by (try simp only [List.map_toArray, List.map_cons, List.map_nil]); first | done | rfl) ?_
        obtain ⟨N_, on_, nn_, rr_, bb_⟩ := O13.out.frame1 (i := 0) rfl
        refine (From_n 0 L L.length (from_all 0 (by decide) HNU.out) rfl on_ HLL.out HS.out).mono ?_
        rintro e_ w14 ⟨B2, d2, rfl, oo_, kk_⟩
        obtain ⟨o_, k_⟩ := bb_ _ _ _ kk_ oo_
        refine ⟨_, rfl, ?_⟩
        have O14 : Aside0 (Own N1 w14 [Obj3 52 gj a0_0 M L, cells gm #[.int .i64 a0_0, .int .i64 M, .slice Am L.length cm] 42, emp, nrow k32 32 (.slice B1 (L.drop a2.toNat).length d1) (L.drop a2.toNat), nrow k32 32 (.slice B2 L.length d2) L]) := ⟨o_⟩
        have K14 : Aside0 (KeepS N1 wo w14) := ⟨K13.out.trans k_⟩
        have HRM_14 : Aside0 (Kd.F k32 w14 N1 Am L.length L) := ⟨keepF HRM_13.out k_⟩
        clear c13_1_0 f13_1_0 c13_1_1 f13_1_1 c13_1_2 f13_1_2 O13 K13 HRM_13
        have c14_1_0 : w14.cell? ⟨gm, 0, none⟩ = some (.int .i64 a0_0) := (blk_cell (O14.out.blk (i := 1) rfl) 0).trans rfl
        have f14_1_0 : w14.frozen? ⟨gm, 0, none⟩ = false := blk_frozen (O14.out.blk (i := 1) rfl) 0
        have c14_1_1 : w14.cell? ⟨gm, 1, none⟩ = some (.int .i64 M) := (blk_cell (O14.out.blk (i := 1) rfl) 1).trans rfl
        have f14_1_1 : w14.frozen? ⟨gm, 1, none⟩ = false := blk_frozen (O14.out.blk (i := 1) rfl) 1
        have c14_1_2 : w14.cell? ⟨gm, 2, none⟩ = some (.slice Am L.length cm) := (blk_cell (O14.out.blk (i := 1) rfl) 2).trans rfl
        have f14_1_2 : w14.frozen? ⟨gm, 2, none⟩ = false := blk_frozen (O14.out.blk (i := 1) rfl) 2
        clear o_ k_ oo_ kk_ on_ nn_ rr_ bb_
        clear hHeld
        refine hK_.out _ _ ⟨((blk_cell (O14.out.blk (i := 1) rfl) 0).trans rfl), ((blk_cell (O14.out.blk (i := 1) rfl) 1).trans rfl), ((blk_cell (O14.out.blk (i := 1) rfl) 2).trans rfl)⟩ (fun hHeld => ?_)
        clear hK_ K_
        refine norm_ (a' := ?_) ?_ ?_
        rotate_left
        · simp only [Act.put, List.setIfInBounds_toArray, List.set_cons_zero, List.set_cons_succ, i64_w, i32_w]
          rfl
        refine one_ (i := 14) (N := some 61) #[true, true, true, true, true, true, true, true, true, true, true, true, true, true, true, false, false] rfl rfl (by kernel_rfl) (by decide) (fun K_ hK_ => ?_)
        refine goes_ Try.func17 (by kernel_rfl) rfl #[.slice B2 L.length d2, .slice Am L.length cm] (by rfl) rfl rfl (by (try simp only [List.map_toArray, List.map_cons, List.map_nil]); first | done | rfl) ?_
        refine (chapbookref07_SameAll.calls 200 _ _ L _ _ L true _ (O14.out.nreads (i := 4) rfl).2.2 (O14.out.nreads (i := 4) rfl).2.1 (Kd.F_now HRM_14.out) HCM.out (psameAll 8 200 L (by have := HLL.out; omega) HS.out (by decide) (by have := HI.out.1; have := HL30.out; omega))).mono ?_
        rintro e_ w15 ⟨rfl, hb_⟩
        refine ⟨_, rfl, ?_⟩
        have o_ := O14.out.below hb_
        have k_ := KeepS.of_below (N := N1) hb_
        have O15 : Aside0 (Own N1 w15 [Obj3 52 gj a0_0 M L, cells gm #[.int .i64 a0_0, .int .i64 M, .slice Am L.length cm] 42, emp, nrow k32 32 (.slice B1 (L.drop a2.toNat).length d1) (L.drop a2.toNat), nrow k32 32 (.slice B2 L.length d2) L]) := ⟨o_⟩
        have K15 : Aside0 (KeepS N1 wo w15) := ⟨K14.out.trans k_⟩
        have HRM_15 : Aside0 (Kd.F k32 w15 N1 Am L.length L) := ⟨keepF HRM_14.out k_⟩
        clear c14_1_0 f14_1_0 c14_1_1 f14_1_1 c14_1_2 f14_1_2 O14 K14 HRM_14
        have c15_1_0 : w15.cell? ⟨gm, 0, none⟩ = some (.int .i64 a0_0) := (blk_cell (O15.out.blk (i := 1) rfl) 0).trans rfl
        have f15_1_0 : w15.frozen? ⟨gm, 0, none⟩ = false := blk_frozen (O15.out.blk (i := 1) rfl) 0
        have c15_1_1 : w15.cell? ⟨gm, 1, none⟩ = some (.int .i64 M) := (blk_cell (O15.out.blk (i := 1) rfl) 1).trans rfl
        have f15_1_1 : w15.frozen? ⟨gm, 1, none⟩ = false := blk_frozen (O15.out.blk (i := 1) rfl) 1
        have c15_1_2 : w15.cell? ⟨gm, 2, none⟩ = some (.slice Am L.length cm) := (blk_cell (O15.out.blk (i := 1) rfl) 2).trans rfl
        have f15_1_2 : w15.frozen? ⟨gm, 2, none⟩ = false := blk_frozen (O15.out.blk (i := 1) rfl) 2
        clear o_ k_ hb_
        clear hHeld
        refine hK_.out _ _ ⟨((blk_cell (O15.out.blk (i := 1) rfl) 0).trans rfl), ((blk_cell (O15.out.blk (i := 1) rfl) 1).trans rfl), ((blk_cell (O15.out.blk (i := 1) rfl) 2).trans rfl)⟩ (fun hHeld => ?_)
        clear hK_ K_
        refine norm_ (a' := ?_) ?_ ?_
        rotate_left
        · simp only [Act.put, List.setIfInBounds_toArray, List.set_cons_zero, List.set_cons_succ, i64_w, i32_w]
          rfl
        refine pure_ (i := 15) (N := some 62) (v := ?_) (a' := ?_) #[true, true, true, true, true, true, true, true, true, true, true, true, true, true, true, true, false] rfl rfl (by kernel_rfl) (fun _ _ _ h => h) (Or.inl ⟨by rfl, ?_⟩) ?_ ?_
        rotate_left
        · intro w'
          go_simp
          with_reducible rfl
        rotate_left
        · simp only [Act.put, List.setIfInBounds_toArray, List.set_cons_zero, List.set_cons_succ, i64_w, i32_w]
          rfl
        refine pure_ (i := 16) (N := some 6) (v := ?_) (a' := ?_) #[true, true, true, true, true, true, true, true, true, true, true, true, true, true, true, true, true] rfl rfl (by kernel_rfl) (fun _ _ _ h => h) (Or.inl ⟨by rfl, ?_⟩) ?_ ?_
        rotate_left
        · intro w'
          go_simp
          with_reducible rfl
        rotate_left
        · simp only [Act.put, List.setIfInBounds_toArray, List.set_cons_zero, List.set_cons_succ, i64_w, i32_w]
          rfl
        refine done_ (by kernel_rfl) ?_
        clear hHeld
        go_wp2
        go_ret
        exact ⟨rfl, (KA.out.trans (K15.out.mono HN1.out)).below (Nat.le_refl _) (fun k hk => by rw [HN.out]; exact hk)⟩
end Go.Proofs.Ytfpegjdplggkpaa.J
