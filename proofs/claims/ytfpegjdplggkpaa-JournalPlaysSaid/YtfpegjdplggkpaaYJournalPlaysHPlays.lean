/- The law JournalPlays: of any lists of updates, one by one, just the rounds are there that the document says, and each is told to be one, or why not: a plain walk through its text. -/
import Derived.Test.YtfpegjdplggkpaaYJournalPlaysJ6
import Derived.Test.YtfpegjdplggkpaaYJournalPlaysJ8
namespace Go.Proofs.Ytfpegjdplggkpaa.J
set_option linter.unusedSimpArgs false
set_option linter.unusedVariables false
open Go Go.RowKit Go.Proofs.YtfpegjdplggkpaaW.PrintWords Go.Proofs.YtfpegjdplggkpaaW.PrintLast Go.Proofs.YtfpegjdplggkpaaW.PrintMore Go.Proofs.Ytfpegjdplggkpaa.Q Go.Proofs.Ytfpegjdplggkpaa.Sep Go.Proofs.Ytfpegjdplggkpaa.Pure
attribute [local go_sem] max2_int min2_int max_two min_two max_three min_three max_four min_four
def chapbooklaw13_JournalPlays.f (a0_0 a0_1 : Int) (l1 : List (List Upd)) : Option Bool := some true
theorem RNew_lit {N : Nat → Prop} {w : World} (o m m2 : Int) (h : Own N w []) (hm : mn (mx m 1) 1099511627776 = m2) :
    Calls Try.prog 9 #[.int .i64 o, .int .i64 m] w fun e w' => ∃ g, e = .returned (.pointer (some ⟨g, 0, none⟩)) ∧ Own N w' [Obj3 42 g o m2 []] ∧ KeepS N w w' := by
  rw [← hm]
  exact RNew o m h
theorem last_ge (b : Int) : 0 ≤ mn (mx b 1) 1099511627776 := by unfold mn mx; (repeat' split) <;> omega
theorem At_out {N : Nat → Prop} {w : World} {g : Nat} {o m : Int} {L : List Rnd} (x : Int) (h : Own N w [Obj3 52 g o m L]) (hL : L.length ≤ 1000000) (hx : x < 0 ∨ (L.length : Int) ≤ x) :
    Calls Try.prog 16 #[.pointer (some ⟨g, 0, none⟩), .int .i64 x] w fun e_ w' => e_ = .returned (.tuple #[.agg #[.int .i64 0, .int .i64 0, .slice none 0 0], .bool false]) ∧ Own N w' [Obj3 52 g o m L] ∧ KeepS N w w' := by
  by_cases h1 : x < 0
  · exact At_low x h hL h1
  · exact At_high x h hL (by omega) (by omega)
def PlI (N : Nat → Prop) (w : World) (l0 : List (List Upd)) (gj gm : Nat) (a M : Int) (i : Value) (wr : World) : Prop := ∃ (x : Int) (L : List Rnd), 0 ≤ x ∧ x ≤ (l0.length : Int) ∧ i = .int .i64 x ∧ Aside0 ((L.length : Int) ≤ x ∧ (L.length : Int) ≤ M ∧ Short L) ∧ Aside0 (Own N wr [Obj3 52 gj a M L, Obj3 42 gm a M L]) ∧ Aside0 (KeepS N w wr)
def PlI2 (N : Nat → Prop) (w : World) (gj gm : Nat) (a M : Int) (L : List Rnd) (Am : Option Addr) (cm : Nat) (i : Value) (wr : World) : Prop := ∃ (x : Int), 0 ≤ x ∧ x ≤ (L.length : Int) ∧ i = .int .i64 x ∧ Aside0 (Own N wr [Obj3 52 gj a M L, cells gm #[.int .i64 a, .int .i64 M, .slice Am L.length cm] 42, emp]) ∧ Aside0 (KeepS N w wr)
set_option maxHeartbeats 16000000 in
set_option maxRecDepth 100000 in
theorem chapbooklaw13_JournalPlays.calls (a0_0 : Int) (a0_1 : Int) (A1 : Option Addr) (c1 : Nat) (l1 : List (List Upd)) (r : Bool) (w : World) (hr1 : Kd.C (Kd.slice 50 k50) w A1 l1.length l1) (hc1 : l1.length ≤ c1) (h : chapbooklaw13_JournalPlays.f a0_0 a0_1 l1 = some r) :
    Calls Try.prog 3 #[.agg #[.int .i64 a0_0, .int .i64 a0_1], .slice A1 l1.length c1] w fun e_ w' => e_ = .returned (.bool r) ∧ Below w.heap.size w w' := by
  obtain rfl : true = r := Option.some.inj h
  obtain ⟨M, hM⟩ : ∃ M, M = mn (mx a0_1 1) 1099511627776 := ⟨_, rfl⟩
  have HM := Aside0.mk hM.symm
  have HM0 : Aside0 (0 ≤ M) := ⟨by rw [hM]; exact last_ge _⟩
  clear hM
  obtain ⟨l0, e0⟩ : ∃ l, l = l1 := ⟨_, rfl⟩
  subst e0
  have hr0 := hr1
  have hc0 := hc1
  clear hr1 hc1
  obtain ⟨N, hN⟩ : ∃ N : Nat → Prop, N = fun k => k < w.heap.size := ⟨_, rfl⟩
  have HN := Aside0.mk hN
  have HRL0 : Aside0 (Kd.F (Kd.slice 50 k50) w N A1 l0.length l0) := ⟨by rw [hN]; exact Kd.C_F (Kd.heap_slice _ heapU) hr0⟩
  have HR0 := Aside0.mk hr0
  have HC0 := Aside0.mk hc0
  have O0 : Aside0 (Own N w []) := ⟨Own.start_ (fun k hk => by rw [hN] at hk; exact hk)⟩
  have K0 : Aside0 (KeepS N w w) := ⟨KeepS.refl _ _⟩
  clear hN hr0 hc0
  obtain ⟨b, hgr, hgb⟩ := great13_ok l0
  have HGR := Aside0.mk hgr
  have HGB := Aside0.mk hgb
  clear hgr hgb h
  cases b with
  | true =>
    go_enter Try.func3, Try.ntmps3
    go_wp2_with (first | ((with_reducible refine gate_dst (N := 2) rfl ?_); refine own_box rfl (D := 2) rfl (cs := #[.int .i64 a0_0, .int .i64 a0_1]) (t := 22) ?hr O0.out ?_; (case hr => first | (go_simp; done) | (go_simp; rfl)); intro gx w1 o_ k_; have O1 : Aside0 (Own N w1 [cells gx #[.int .i64 a0_0, .int .i64 a0_1] 22]) := ⟨o_⟩; have K1 : Aside0 (KeepS N w w1) := ⟨K0.out.trans k_⟩; clear O0 K0; have c1_0_0 : w1.cell? ⟨gx, 0, none⟩ = some (.int .i64 a0_0) := (blk_cell (O1.out.blk (i := 0) rfl) 0).trans rfl; have f1_0_0 : w1.frozen? ⟨gx, 0, none⟩ = false := blk_frozen (O1.out.blk (i := 0) rfl) 0; have c1_0_1 : w1.cell? ⟨gx, 1, none⟩ = some (.int .i64 a0_1) := (blk_cell (O1.out.blk (i := 0) rfl) 1).trans rfl; have f1_0_1 : w1.frozen? ⟨gx, 1, none⟩ = false := blk_frozen (O1.out.blk (i := 0) rfl) 1; clear o_ k_))
    refine start_ (n := 12) (S := fun w' => w'.cell? ⟨gx, 0, none⟩ = some (.int .i64 a0_0) ∧ w'.cell? ⟨gx, 1, none⟩ = some (.int .i64 a0_1)) (ds := []) #[false, false, false, false, false, false, false, false, false, false, false, false] (by kernel_rfl) rfl rfl ⟨((blk_cell (O1.out.blk (i := 0) rfl) 0).trans rfl), ((blk_cell (O1.out.blk (i := 0) rfl) 1).trans rfl)⟩ (fun hHeld => ?_)
    obtain ⟨w2, hw_⟩ : ∃ W, W = w1.drew := ⟨_, rfl⟩
    have o_ := O1.out.drew
    have k_ : KeepS N w1 w1.drew := KeepS.drew
    rw [← hw_] at o_ k_ hHeld ⊢
    clear hw_
    have O2 : Aside0 (Own N w2 [cells gx #[.int .i64 a0_0, .int .i64 a0_1] 22]) := ⟨o_⟩
    have K2 : Aside0 (KeepS N w w2) := ⟨K1.out.trans k_⟩
    clear c1_0_0 f1_0_0 c1_0_1 f1_0_1 O1 K1
    have c2_0_0 : w2.cell? ⟨gx, 0, none⟩ = some (.int .i64 a0_0) := (blk_cell (O2.out.blk (i := 0) rfl) 0).trans rfl
    have f2_0_0 : w2.frozen? ⟨gx, 0, none⟩ = false := blk_frozen (O2.out.blk (i := 0) rfl) 0
    have c2_0_1 : w2.cell? ⟨gx, 1, none⟩ = some (.int .i64 a0_1) := (blk_cell (O2.out.blk (i := 0) rfl) 1).trans rfl
    have f2_0_1 : w2.frozen? ⟨gx, 1, none⟩ = false := blk_frozen (O2.out.blk (i := 0) rfl) 1
    clear o_ k_
    refine pure_ (i := 0) (N := some 20) (v := ?_) (a' := ?_) #[true, false, false, false, false, false, false, false, false, false, false, false] rfl rfl (by kernel_rfl) (fun _ _ _ h => h) (Or.inl ⟨by rfl, ?_⟩) ?_ ?_
    rotate_left
    · intro w'
      go_simp
      with_reducible rfl
    rotate_left
    · simp only [Act.put, List.setIfInBounds_toArray, List.set_cons_zero, List.set_cons_succ, i64_w, i32_w]
      rfl
    refine pure_ (i := 2) (N := some 22) (v := ?_) (a' := ?_) #[true, false, true, false, false, false, false, false, false, false, false, false] rfl rfl (by kernel_rfl) (fun _ _ _ h => h) (Or.inl ⟨by rfl, ?_⟩) ?_ ?_
    rotate_left
    · intro w'
      go_simp
      with_reducible rfl
    rotate_left
    · simp only [Act.put, List.setIfInBounds_toArray, List.set_cons_zero, List.set_cons_succ, i64_w, i32_w]
      rfl
    refine pure_ (i := 5) (N := some 25) (v := ?_) (a' := ?_) #[true, false, true, false, false, true, false, false, false, false, false, false] rfl rfl (by kernel_rfl) (fun _ _ _ h => h) (Or.inl ⟨by rfl, ?_⟩) ?_ ?_
    rotate_left
    · intro w'
      go_simp
      with_reducible rfl
    rotate_left
    · simp only [Act.put, List.setIfInBounds_toArray, List.set_cons_zero, List.set_cons_succ, i64_w, i32_w]
      rfl
    refine pure_ (i := 7) (N := some 27) (v := ?_) (a' := ?_) #[true, false, true, false, false, true, false, true, false, false, false, false] rfl rfl (by kernel_rfl) (fun _ _ _ h => h) (Or.inl ⟨by rfl, ?_⟩) ?_ ?_
    rotate_left
    · intro w'
      go_simp
      with_reducible rfl
    rotate_left
    · simp only [Act.put, List.setIfInBounds_toArray, List.set_cons_zero, List.set_cons_succ, i64_w, i32_w]
      rfl
    refine take_ (i := 1) (N := some 21) (v := ?_) (a' := ?_) #[true, true, true, false, false, true, false, true, false, false, false, false] rfl rfl (by kernel_rfl) (fun _ _ _ h => h) (Or.inl ⟨by rfl, ?_⟩) hHeld ?_ ?_
    rotate_left
    · rintro w' ⟨s0, s1⟩
      go_simp
      with_reducible rfl
    rotate_left
    · simp only [Act.put, List.setIfInBounds_toArray, List.set_cons_zero, List.set_cons_succ, i64_w, i32_w]
      rfl
    refine take_ (i := 3) (N := some 23) (v := ?_) (a' := ?_) #[true, true, true, true, false, true, false, true, false, false, false, false] rfl rfl (by kernel_rfl) (fun _ _ _ h => h) (Or.inl ⟨by rfl, ?_⟩) hHeld ?_ ?_
    rotate_left
    · rintro w' ⟨s0, s1⟩
      go_simp
      with_reducible rfl
    rotate_left
    · simp only [Act.put, List.setIfInBounds_toArray, List.set_cons_zero, List.set_cons_succ, i64_w, i32_w]
      rfl
    refine take_ (i := 6) (N := some 26) (v := ?_) (a' := ?_) #[true, true, true, true, false, true, true, true, false, false, false, false] rfl rfl (by kernel_rfl) (fun _ _ _ h => h) (Or.inl ⟨by rfl, ?_⟩) hHeld ?_ ?_
    rotate_left
    · rintro w' ⟨s0, s1⟩
      go_simp
      with_reducible rfl
    rotate_left
    · simp only [Act.put, List.setIfInBounds_toArray, List.set_cons_zero, List.set_cons_succ, i64_w, i32_w]
      rfl
    refine take_ (i := 8) (N := some 28) (v := ?_) (a' := ?_) #[true, true, true, true, false, true, true, true, true, false, false, false] rfl rfl (by kernel_rfl) (fun _ _ _ h => h) (Or.inl ⟨by rfl, ?_⟩) hHeld ?_ ?_
    rotate_left
    · rintro w' ⟨s0, s1⟩
      go_simp
      with_reducible rfl
    rotate_left
    · simp only [Act.put, List.setIfInBounds_toArray, List.set_cons_zero, List.set_cons_succ, i64_w, i32_w]
      rfl
    refine one_ (i := 4) (N := some 24) #[true, true, true, true, true, true, true, true, true, false, false, false] rfl rfl (by kernel_rfl) (by decide) (fun K_ hK_ => ?_)
    refine goes_ Try.func8 (by kernel_rfl) rfl #[.int .i64 a0_0, .int .i64 a0_1] (by rfl) rfl rfl (by (try simp only [List.map_toArray, List.map_cons, List.map_nil]); first | done | rfl) ?_
    obtain ⟨N_, on_, nn_, rr_, bb_⟩ := O2.out.frame0
    refine (New_lit a0_0 a0_1 M on_ HM.out).mono ?_
    rintro e_ w3 ⟨gj, rfl, oo_, kk_⟩
    obtain ⟨o_, k_⟩ := bb_ _ _ kk_ oo_
    refine ⟨_, rfl, ?_⟩
    have O3 : Aside0 (Own N w3 [cells gx #[.int .i64 a0_0, .int .i64 a0_1] 22, Obj3 52 gj a0_0 M []]) := ⟨o_⟩
    have K3 : Aside0 (KeepS N w w3) := ⟨K2.out.trans k_⟩
    clear c2_0_0 f2_0_0 c2_0_1 f2_0_1 O2 K2
    have c3_0_0 : w3.cell? ⟨gx, 0, none⟩ = some (.int .i64 a0_0) := (blk_cell (O3.out.blk (i := 0) rfl) 0).trans rfl
    have f3_0_0 : w3.frozen? ⟨gx, 0, none⟩ = false := blk_frozen (O3.out.blk (i := 0) rfl) 0
    have c3_0_1 : w3.cell? ⟨gx, 1, none⟩ = some (.int .i64 a0_1) := (blk_cell (O3.out.blk (i := 0) rfl) 1).trans rfl
    have f3_0_1 : w3.frozen? ⟨gx, 1, none⟩ = false := blk_frozen (O3.out.blk (i := 0) rfl) 1
    clear o_ k_ oo_ kk_ on_ nn_ rr_ bb_
    clear hHeld
    refine hK_.out _ _ ⟨((blk_cell (O3.out.blk (i := 0) rfl) 0).trans rfl), ((blk_cell (O3.out.blk (i := 0) rfl) 1).trans rfl)⟩ (fun hHeld => ?_)
    clear hK_ K_
    refine norm_ (a' := ?_) ?_ ?_
    rotate_left
    · simp only [Act.put, List.setIfInBounds_toArray, List.set_cons_zero, List.set_cons_succ, i64_w, i32_w]
      rfl
    refine one_ (i := 9) (N := some 29) #[true, true, true, true, true, true, true, true, true, true, false, false] rfl rfl (by kernel_rfl) (by decide) (fun K_ hK_ => ?_)
    refine goes_ Try.func9 (by kernel_rfl) rfl #[.int .i64 a0_0, .int .i64 a0_1] (by rfl) rfl rfl (by (try simp only [List.map_toArray, List.map_cons, List.map_nil]); first | done | rfl) ?_
    obtain ⟨N_, on_, nn_, rr_, bb_⟩ := O3.out.frame0
    refine (RNew_lit a0_0 a0_1 M on_ HM.out).mono ?_
    rintro e_ w4 ⟨gm, rfl, oo_, kk_⟩
    obtain ⟨o_, k_⟩ := bb_ _ _ kk_ oo_
    refine ⟨_, rfl, ?_⟩
    have O4 : Aside0 (Own N w4 [cells gx #[.int .i64 a0_0, .int .i64 a0_1] 22, Obj3 52 gj a0_0 M [], Obj3 42 gm a0_0 M []]) := ⟨o_⟩
    have K4 : Aside0 (KeepS N w w4) := ⟨K3.out.trans k_⟩
    clear c3_0_0 f3_0_0 c3_0_1 f3_0_1 O3 K3
    have c4_0_0 : w4.cell? ⟨gx, 0, none⟩ = some (.int .i64 a0_0) := (blk_cell (O4.out.blk (i := 0) rfl) 0).trans rfl
    have f4_0_0 : w4.frozen? ⟨gx, 0, none⟩ = false := blk_frozen (O4.out.blk (i := 0) rfl) 0
    have c4_0_1 : w4.cell? ⟨gx, 1, none⟩ = some (.int .i64 a0_1) := (blk_cell (O4.out.blk (i := 0) rfl) 1).trans rfl
    have f4_0_1 : w4.frozen? ⟨gx, 1, none⟩ = false := blk_frozen (O4.out.blk (i := 0) rfl) 1
    clear o_ k_ oo_ kk_ on_ nn_ rr_ bb_
    clear hHeld
    refine hK_.out _ _ ⟨((blk_cell (O4.out.blk (i := 0) rfl) 0).trans rfl), ((blk_cell (O4.out.blk (i := 0) rfl) 1).trans rfl)⟩ (fun hHeld => ?_)
    clear hK_ K_
    refine norm_ (a' := ?_) ?_ ?_
    rotate_left
    · simp only [Act.put, List.setIfInBounds_toArray, List.set_cons_zero, List.set_cons_succ, i64_w, i32_w]
      rfl
    refine pure_ (i := 10) (N := some 5) (v := ?_) (a' := ?_) #[true, true, true, true, true, true, true, true, true, true, true, false] rfl rfl (by kernel_rfl) (fun _ _ _ h => h) (Or.inl ⟨by rfl, ?_⟩) ?_ ?_
    rotate_left
    · intro w'
      go_simp
      with_reducible rfl
    rotate_left
    · simp only [Act.put, List.setIfInBounds_toArray, List.set_cons_zero, List.set_cons_succ, i64_w, i32_w]
      rfl
    refine pure_ (i := 11) (N := some 6) (v := ?_) (a' := ?_) #[true, true, true, true, true, true, true, true, true, true, true, true] rfl rfl (by kernel_rfl) (fun _ _ _ h => h) (Or.inl ⟨by rfl, ?_⟩) ?_ ?_
    rotate_left
    · intro w'
      go_simp
      with_reducible rfl
    rotate_left
    · simp only [Act.put, List.setIfInBounds_toArray, List.set_cons_zero, List.set_cons_succ, i64_w, i32_w]
      rfl
    refine done_ (by kernel_rfl) ?_
    clear hHeld
    go_wp2_with (first | ((with_reducible refine gate_callee (f := 10) rfl ?_); refine goesL_ (some 30) rfl rfl Try.func10 (by kernel_rfl) rfl #[] rfl (by (try simp only [List.map_toArray, List.map_cons, List.map_nil]); first | done | rfl) ?_; refine (awake _).mono ?_; rintro e_ w5 ⟨rfl, hb_⟩; refine ⟨_, rfl, ?_⟩; have o_ := O4.out.below hb_; have k_ := KeepS.of_below (N := N) hb_; have O5 : Aside0 (Own N w5 [cells gx #[.int .i64 a0_0, .int .i64 a0_1] 22, Obj3 52 gj a0_0 M [], Obj3 42 gm a0_0 M []]) := ⟨o_⟩; have K5 : Aside0 (KeepS N w w5) := ⟨K4.out.trans k_⟩; clear c4_0_0 f4_0_0 c4_0_1 f4_0_1 O4 K4; have c5_0_0 : w5.cell? ⟨gx, 0, none⟩ = some (.int .i64 a0_0) := (blk_cell (O5.out.blk (i := 0) rfl) 0).trans rfl; have f5_0_0 : w5.frozen? ⟨gx, 0, none⟩ = false := blk_frozen (O5.out.blk (i := 0) rfl) 0; have c5_0_1 : w5.cell? ⟨gx, 1, none⟩ = some (.int .i64 a0_1) := (blk_cell (O5.out.blk (i := 0) rfl) 1).trans rfl; have f5_0_1 : w5.frozen? ⟨gx, 1, none⟩ = false := blk_frozen (O5.out.blk (i := 0) rfl) 1; clear o_ k_ hb_) | ((with_reducible refine gate_callee (f := 11) rfl ?_); refine gate_guard (by rfl) ?_; refine goesL_ (some 38) rfl rfl Try.func11 (by kernel_rfl) rfl #[.slice A1 l0.length c1] rfl (by (try simp only [List.map_toArray, List.map_cons, List.map_nil]); first | done | rfl) ?_; refine (chapbooklaw13_great.calls 300 _ _ l0 true _ (Kd.C_below HR0.out (K5.out.below (Nat.le_refl _) (fun k hk => by rw [HN.out]; exact hk))) HC0.out HGR.out).mono ?_; rintro e_ w6 ⟨rfl, hb_⟩; refine ⟨_, rfl, ?_⟩; have o_ := O5.out.below hb_; have k_ := KeepS.of_below (N := N) hb_; have O6 : Aside0 (Own N w6 [cells gx #[.int .i64 a0_0, .int .i64 a0_1] 22, Obj3 52 gj a0_0 M [], Obj3 42 gm a0_0 M []]) := ⟨o_⟩; have K6 : Aside0 (KeepS N w w6) := ⟨K5.out.trans k_⟩; clear c5_0_0 f5_0_0 c5_0_1 f5_0_1 O5 K5; have c6_0_0 : w6.cell? ⟨gx, 0, none⟩ = some (.int .i64 a0_0) := (blk_cell (O6.out.blk (i := 0) rfl) 0).trans rfl; have f6_0_0 : w6.frozen? ⟨gx, 0, none⟩ = false := blk_frozen (O6.out.blk (i := 0) rfl) 0; have c6_0_1 : w6.cell? ⟨gx, 1, none⟩ = some (.int .i64 a0_1) := (blk_cell (O6.out.blk (i := 0) rfl) 1).trans rfl; have f6_0_1 : w6.frozen? ⟨gx, 1, none⟩ = false := blk_frozen (O6.out.blk (i := 0) rfl) 1; clear o_ k_ hb_) | ((with_reducible refine gate_callee (f := 10) rfl ?_); refine goesL_ (some 40) rfl rfl Try.func10 (by kernel_rfl) rfl #[] rfl (by (try simp only [List.map_toArray, List.map_cons, List.map_nil]); first | done | rfl) ?_; refine (awake _).mono ?_; rintro e_ w7 ⟨rfl, hb_⟩; refine ⟨_, rfl, ?_⟩; have o_ := O6.out.below hb_; have k_ := KeepS.of_below (N := N) hb_; have O7 : Aside0 (Own N w7 [cells gx #[.int .i64 a0_0, .int .i64 a0_1] 22, Obj3 52 gj a0_0 M [], Obj3 42 gm a0_0 M []]) := ⟨o_⟩; have K7 : Aside0 (KeepS N w w7) := ⟨K6.out.trans k_⟩; clear c6_0_0 f6_0_0 c6_0_1 f6_0_1 O6 K6; have c7_0_0 : w7.cell? ⟨gx, 0, none⟩ = some (.int .i64 a0_0) := (blk_cell (O7.out.blk (i := 0) rfl) 0).trans rfl; have f7_0_0 : w7.frozen? ⟨gx, 0, none⟩ = false := blk_frozen (O7.out.blk (i := 0) rfl) 0; have c7_0_1 : w7.cell? ⟨gx, 1, none⟩ = some (.int .i64 a0_1) := (blk_cell (O7.out.blk (i := 0) rfl) 1).trans rfl; have f7_0_1 : w7.frozen? ⟨gx, 1, none⟩ = false := blk_frozen (O7.out.blk (i := 0) rfl) 1; clear o_ k_ hb_))
    go_ret
    exact ⟨rfl, K7.out.below (Nat.le_refl _) (fun k hk => by rw [HN.out]; exact hk)⟩
  | false =>
    obtain ⟨hl30, hl12⟩ := HGB.out rfl
    have HL30 := Aside0.mk hl30
    have HL12 := Aside0.mk hl12
    clear hl30 hl12 HGB
    go_enter Try.func3, Try.ntmps3
    go_wp2_with (first | ((with_reducible refine gate_dst (N := 2) rfl ?_); refine own_box rfl (D := 2) rfl (cs := #[.int .i64 a0_0, .int .i64 a0_1]) (t := 22) ?hr O0.out ?_; (case hr => first | (go_simp; done) | (go_simp; rfl)); intro gx w1 o_ k_; have O1 : Aside0 (Own N w1 [cells gx #[.int .i64 a0_0, .int .i64 a0_1] 22]) := ⟨o_⟩; have K1 : Aside0 (KeepS N w w1) := ⟨K0.out.trans k_⟩; clear O0 K0; have c1_0_0 : w1.cell? ⟨gx, 0, none⟩ = some (.int .i64 a0_0) := (blk_cell (O1.out.blk (i := 0) rfl) 0).trans rfl; have f1_0_0 : w1.frozen? ⟨gx, 0, none⟩ = false := blk_frozen (O1.out.blk (i := 0) rfl) 0; have c1_0_1 : w1.cell? ⟨gx, 1, none⟩ = some (.int .i64 a0_1) := (blk_cell (O1.out.blk (i := 0) rfl) 1).trans rfl; have f1_0_1 : w1.frozen? ⟨gx, 1, none⟩ = false := blk_frozen (O1.out.blk (i := 0) rfl) 1; clear o_ k_))
    refine start_ (n := 12) (S := fun w' => w'.cell? ⟨gx, 0, none⟩ = some (.int .i64 a0_0) ∧ w'.cell? ⟨gx, 1, none⟩ = some (.int .i64 a0_1)) (ds := []) #[false, false, false, false, false, false, false, false, false, false, false, false] (by kernel_rfl) rfl rfl ⟨((blk_cell (O1.out.blk (i := 0) rfl) 0).trans rfl), ((blk_cell (O1.out.blk (i := 0) rfl) 1).trans rfl)⟩ (fun hHeld => ?_)
    obtain ⟨w2, hw_⟩ : ∃ W, W = w1.drew := ⟨_, rfl⟩
    have o_ := O1.out.drew
    have k_ : KeepS N w1 w1.drew := KeepS.drew
    rw [← hw_] at o_ k_ hHeld ⊢
    clear hw_
    have O2 : Aside0 (Own N w2 [cells gx #[.int .i64 a0_0, .int .i64 a0_1] 22]) := ⟨o_⟩
    have K2 : Aside0 (KeepS N w w2) := ⟨K1.out.trans k_⟩
    clear c1_0_0 f1_0_0 c1_0_1 f1_0_1 O1 K1
    have c2_0_0 : w2.cell? ⟨gx, 0, none⟩ = some (.int .i64 a0_0) := (blk_cell (O2.out.blk (i := 0) rfl) 0).trans rfl
    have f2_0_0 : w2.frozen? ⟨gx, 0, none⟩ = false := blk_frozen (O2.out.blk (i := 0) rfl) 0
    have c2_0_1 : w2.cell? ⟨gx, 1, none⟩ = some (.int .i64 a0_1) := (blk_cell (O2.out.blk (i := 0) rfl) 1).trans rfl
    have f2_0_1 : w2.frozen? ⟨gx, 1, none⟩ = false := blk_frozen (O2.out.blk (i := 0) rfl) 1
    clear o_ k_
    refine pure_ (i := 0) (N := some 20) (v := ?_) (a' := ?_) #[true, false, false, false, false, false, false, false, false, false, false, false] rfl rfl (by kernel_rfl) (fun _ _ _ h => h) (Or.inl ⟨by rfl, ?_⟩) ?_ ?_
    rotate_left
    · intro w'
      go_simp
      with_reducible rfl
    rotate_left
    · simp only [Act.put, List.setIfInBounds_toArray, List.set_cons_zero, List.set_cons_succ, i64_w, i32_w]
      rfl
    refine pure_ (i := 2) (N := some 22) (v := ?_) (a' := ?_) #[true, false, true, false, false, false, false, false, false, false, false, false] rfl rfl (by kernel_rfl) (fun _ _ _ h => h) (Or.inl ⟨by rfl, ?_⟩) ?_ ?_
    rotate_left
    · intro w'
      go_simp
      with_reducible rfl
    rotate_left
    · simp only [Act.put, List.setIfInBounds_toArray, List.set_cons_zero, List.set_cons_succ, i64_w, i32_w]
      rfl
    refine pure_ (i := 5) (N := some 25) (v := ?_) (a' := ?_) #[true, false, true, false, false, true, false, false, false, false, false, false] rfl rfl (by kernel_rfl) (fun _ _ _ h => h) (Or.inl ⟨by rfl, ?_⟩) ?_ ?_
    rotate_left
    · intro w'
      go_simp
      with_reducible rfl
    rotate_left
    · simp only [Act.put, List.setIfInBounds_toArray, List.set_cons_zero, List.set_cons_succ, i64_w, i32_w]
      rfl
    refine pure_ (i := 7) (N := some 27) (v := ?_) (a' := ?_) #[true, false, true, false, false, true, false, true, false, false, false, false] rfl rfl (by kernel_rfl) (fun _ _ _ h => h) (Or.inl ⟨by rfl, ?_⟩) ?_ ?_
    rotate_left
    · intro w'
      go_simp
      with_reducible rfl
    rotate_left
    · simp only [Act.put, List.setIfInBounds_toArray, List.set_cons_zero, List.set_cons_succ, i64_w, i32_w]
      rfl
    refine take_ (i := 1) (N := some 21) (v := ?_) (a' := ?_) #[true, true, true, false, false, true, false, true, false, false, false, false] rfl rfl (by kernel_rfl) (fun _ _ _ h => h) (Or.inl ⟨by rfl, ?_⟩) hHeld ?_ ?_
    rotate_left
    · rintro w' ⟨s0, s1⟩
      go_simp
      with_reducible rfl
    rotate_left
    · simp only [Act.put, List.setIfInBounds_toArray, List.set_cons_zero, List.set_cons_succ, i64_w, i32_w]
      rfl
    refine take_ (i := 3) (N := some 23) (v := ?_) (a' := ?_) #[true, true, true, true, false, true, false, true, false, false, false, false] rfl rfl (by kernel_rfl) (fun _ _ _ h => h) (Or.inl ⟨by rfl, ?_⟩) hHeld ?_ ?_
    rotate_left
    · rintro w' ⟨s0, s1⟩
      go_simp
      with_reducible rfl
    rotate_left
    · simp only [Act.put, List.setIfInBounds_toArray, List.set_cons_zero, List.set_cons_succ, i64_w, i32_w]
      rfl
    refine take_ (i := 6) (N := some 26) (v := ?_) (a' := ?_) #[true, true, true, true, false, true, true, true, false, false, false, false] rfl rfl (by kernel_rfl) (fun _ _ _ h => h) (Or.inl ⟨by rfl, ?_⟩) hHeld ?_ ?_
    rotate_left
    · rintro w' ⟨s0, s1⟩
      go_simp
      with_reducible rfl
    rotate_left
    · simp only [Act.put, List.setIfInBounds_toArray, List.set_cons_zero, List.set_cons_succ, i64_w, i32_w]
      rfl
    refine take_ (i := 8) (N := some 28) (v := ?_) (a' := ?_) #[true, true, true, true, false, true, true, true, true, false, false, false] rfl rfl (by kernel_rfl) (fun _ _ _ h => h) (Or.inl ⟨by rfl, ?_⟩) hHeld ?_ ?_
    rotate_left
    · rintro w' ⟨s0, s1⟩
      go_simp
      with_reducible rfl
    rotate_left
    · simp only [Act.put, List.setIfInBounds_toArray, List.set_cons_zero, List.set_cons_succ, i64_w, i32_w]
      rfl
    refine one_ (i := 4) (N := some 24) #[true, true, true, true, true, true, true, true, true, false, false, false] rfl rfl (by kernel_rfl) (by decide) (fun K_ hK_ => ?_)
    refine goes_ Try.func8 (by kernel_rfl) rfl #[.int .i64 a0_0, .int .i64 a0_1] (by rfl) rfl rfl (by (try simp only [List.map_toArray, List.map_cons, List.map_nil]); first | done | rfl) ?_
    obtain ⟨N_, on_, nn_, rr_, bb_⟩ := O2.out.frame0
    refine (New_lit a0_0 a0_1 M on_ HM.out).mono ?_
    rintro e_ w3 ⟨gj, rfl, oo_, kk_⟩
    obtain ⟨o_, k_⟩ := bb_ _ _ kk_ oo_
    refine ⟨_, rfl, ?_⟩
    have O3 : Aside0 (Own N w3 [cells gx #[.int .i64 a0_0, .int .i64 a0_1] 22, Obj3 52 gj a0_0 M []]) := ⟨o_⟩
    have K3 : Aside0 (KeepS N w w3) := ⟨K2.out.trans k_⟩
    clear c2_0_0 f2_0_0 c2_0_1 f2_0_1 O2 K2
    have c3_0_0 : w3.cell? ⟨gx, 0, none⟩ = some (.int .i64 a0_0) := (blk_cell (O3.out.blk (i := 0) rfl) 0).trans rfl
    have f3_0_0 : w3.frozen? ⟨gx, 0, none⟩ = false := blk_frozen (O3.out.blk (i := 0) rfl) 0
    have c3_0_1 : w3.cell? ⟨gx, 1, none⟩ = some (.int .i64 a0_1) := (blk_cell (O3.out.blk (i := 0) rfl) 1).trans rfl
    have f3_0_1 : w3.frozen? ⟨gx, 1, none⟩ = false := blk_frozen (O3.out.blk (i := 0) rfl) 1
    clear o_ k_ oo_ kk_ on_ nn_ rr_ bb_
    clear hHeld
    refine hK_.out _ _ ⟨((blk_cell (O3.out.blk (i := 0) rfl) 0).trans rfl), ((blk_cell (O3.out.blk (i := 0) rfl) 1).trans rfl)⟩ (fun hHeld => ?_)
    clear hK_ K_
    refine norm_ (a' := ?_) ?_ ?_
    rotate_left
    · simp only [Act.put, List.setIfInBounds_toArray, List.set_cons_zero, List.set_cons_succ, i64_w, i32_w]
      rfl
    refine one_ (i := 9) (N := some 29) #[true, true, true, true, true, true, true, true, true, true, false, false] rfl rfl (by kernel_rfl) (by decide) (fun K_ hK_ => ?_)
    refine goes_ Try.func9 (by kernel_rfl) rfl #[.int .i64 a0_0, .int .i64 a0_1] (by rfl) rfl rfl (by (try simp only [List.map_toArray, List.map_cons, List.map_nil]); first | done | rfl) ?_
    obtain ⟨N_, on_, nn_, rr_, bb_⟩ := O3.out.frame0
    refine (RNew_lit a0_0 a0_1 M on_ HM.out).mono ?_
    rintro e_ w4 ⟨gm, rfl, oo_, kk_⟩
    obtain ⟨o_, k_⟩ := bb_ _ _ kk_ oo_
    refine ⟨_, rfl, ?_⟩
    have O4 : Aside0 (Own N w4 [cells gx #[.int .i64 a0_0, .int .i64 a0_1] 22, Obj3 52 gj a0_0 M [], Obj3 42 gm a0_0 M []]) := ⟨o_⟩
    have K4 : Aside0 (KeepS N w w4) := ⟨K3.out.trans k_⟩
    clear c3_0_0 f3_0_0 c3_0_1 f3_0_1 O3 K3
    have c4_0_0 : w4.cell? ⟨gx, 0, none⟩ = some (.int .i64 a0_0) := (blk_cell (O4.out.blk (i := 0) rfl) 0).trans rfl
    have f4_0_0 : w4.frozen? ⟨gx, 0, none⟩ = false := blk_frozen (O4.out.blk (i := 0) rfl) 0
    have c4_0_1 : w4.cell? ⟨gx, 1, none⟩ = some (.int .i64 a0_1) := (blk_cell (O4.out.blk (i := 0) rfl) 1).trans rfl
    have f4_0_1 : w4.frozen? ⟨gx, 1, none⟩ = false := blk_frozen (O4.out.blk (i := 0) rfl) 1
    clear o_ k_ oo_ kk_ on_ nn_ rr_ bb_
    clear hHeld
    refine hK_.out _ _ ⟨((blk_cell (O4.out.blk (i := 0) rfl) 0).trans rfl), ((blk_cell (O4.out.blk (i := 0) rfl) 1).trans rfl)⟩ (fun hHeld => ?_)
    clear hK_ K_
    refine norm_ (a' := ?_) ?_ ?_
    rotate_left
    · simp only [Act.put, List.setIfInBounds_toArray, List.set_cons_zero, List.set_cons_succ, i64_w, i32_w]
      rfl
    refine pure_ (i := 10) (N := some 5) (v := ?_) (a' := ?_) #[true, true, true, true, true, true, true, true, true, true, true, false] rfl rfl (by kernel_rfl) (fun _ _ _ h => h) (Or.inl ⟨by rfl, ?_⟩) ?_ ?_
    rotate_left
    · intro w'
      go_simp
      with_reducible rfl
    rotate_left
    · simp only [Act.put, List.setIfInBounds_toArray, List.set_cons_zero, List.set_cons_succ, i64_w, i32_w]
      rfl
    refine pure_ (i := 11) (N := some 6) (v := ?_) (a' := ?_) #[true, true, true, true, true, true, true, true, true, true, true, true] rfl rfl (by kernel_rfl) (fun _ _ _ h => h) (Or.inl ⟨by rfl, ?_⟩) ?_ ?_
    rotate_left
    · intro w'
      go_simp
      with_reducible rfl
    rotate_left
    · simp only [Act.put, List.setIfInBounds_toArray, List.set_cons_zero, List.set_cons_succ, i64_w, i32_w]
      rfl
    refine done_ (by kernel_rfl) ?_
    clear hHeld
    go_wp2_with (first | ((with_reducible refine gate_callee (f := 10) rfl ?_); refine goesL_ (some 30) rfl rfl Try.func10 (by kernel_rfl) rfl #[] rfl (by (try simp only [List.map_toArray, List.map_cons, List.map_nil]); first | done | rfl) ?_; refine (awake _).mono ?_; rintro e_ w5 ⟨rfl, hb_⟩; refine ⟨_, rfl, ?_⟩; have o_ := O4.out.below hb_; have k_ := KeepS.of_below (N := N) hb_; have O5 : Aside0 (Own N w5 [cells gx #[.int .i64 a0_0, .int .i64 a0_1] 22, Obj3 52 gj a0_0 M [], Obj3 42 gm a0_0 M []]) := ⟨o_⟩; have K5 : Aside0 (KeepS N w w5) := ⟨K4.out.trans k_⟩; clear c4_0_0 f4_0_0 c4_0_1 f4_0_1 O4 K4; have c5_0_0 : w5.cell? ⟨gx, 0, none⟩ = some (.int .i64 a0_0) := (blk_cell (O5.out.blk (i := 0) rfl) 0).trans rfl; have f5_0_0 : w5.frozen? ⟨gx, 0, none⟩ = false := blk_frozen (O5.out.blk (i := 0) rfl) 0; have c5_0_1 : w5.cell? ⟨gx, 1, none⟩ = some (.int .i64 a0_1) := (blk_cell (O5.out.blk (i := 0) rfl) 1).trans rfl; have f5_0_1 : w5.frozen? ⟨gx, 1, none⟩ = false := blk_frozen (O5.out.blk (i := 0) rfl) 1; clear o_ k_ hb_) | ((with_reducible refine gate_callee (f := 11) rfl ?_); refine gate_guard (by rfl) ?_; refine goesL_ (some 38) rfl rfl Try.func11 (by kernel_rfl) rfl #[.slice A1 l0.length c1] rfl (by (try simp only [List.map_toArray, List.map_cons, List.map_nil]); first | done | rfl) ?_; refine (chapbooklaw13_great.calls 300 _ _ l0 false _ (Kd.C_below HR0.out (K5.out.below (Nat.le_refl _) (fun k hk => by rw [HN.out]; exact hk))) HC0.out HGR.out).mono ?_; rintro e_ w6 ⟨rfl, hb_⟩; refine ⟨_, rfl, ?_⟩; have o_ := O5.out.below hb_; have k_ := KeepS.of_below (N := N) hb_; have O6 : Aside0 (Own N w6 [cells gx #[.int .i64 a0_0, .int .i64 a0_1] 22, Obj3 52 gj a0_0 M [], Obj3 42 gm a0_0 M []]) := ⟨o_⟩; have K6 : Aside0 (KeepS N w w6) := ⟨K5.out.trans k_⟩; clear c5_0_0 f5_0_0 c5_0_1 f5_0_1 O5 K5; have c6_0_0 : w6.cell? ⟨gx, 0, none⟩ = some (.int .i64 a0_0) := (blk_cell (O6.out.blk (i := 0) rfl) 0).trans rfl; have f6_0_0 : w6.frozen? ⟨gx, 0, none⟩ = false := blk_frozen (O6.out.blk (i := 0) rfl) 0; have c6_0_1 : w6.cell? ⟨gx, 1, none⟩ = some (.int .i64 a0_1) := (blk_cell (O6.out.blk (i := 0) rfl) 1).trans rfl; have f6_0_1 : w6.frozen? ⟨gx, 1, none⟩ = false := blk_frozen (O6.out.blk (i := 0) rfl) 1; clear o_ k_ hb_))
    go_loopw [43] (fun i wr => PlI N w l0 gj gm a0_0 M i wr) (fun i _ => l0.length - (intOf i).toNat)
    case atStart => exact ⟨0, [], by omega, by omega, rfl, ⟨by decide, HM0.out, short_nil⟩, ⟨O6.out.pick2 (a := 1) (b := 2) rfl rfl (by decide)⟩, K6⟩
    case round =>
      clear c6_0_0 f6_0_0 c6_0_1 f6_0_1
      obtain ⟨x, L, hx0, hx1, rfl, HI, OA, KA⟩ := hrel
      have hF2 := keepF HRL0.out KA.out
      have hLx := HL30.out
      have HLL : Aside0 (L.length ≤ 1000000) := ⟨by have := HI.out.1; omega⟩
      by_cases hlt : x < (l0.length : Int)
      · obtain ⟨ad, A3, c3, e3, x0, hl3, hF3⟩ := at_FL hF2 x hx0 hlt
        cases e3
        have HC3 := Aside0.mk hl3
        have HF3 := Aside0.mk hF3
        have hs2 : wrap64 (x + 1) = x + 1 := by unfold wrap64; omega
        have hp := eq_true hx0
        have hq := eq_true hlt
        have hd : decide (x < (l0.length : Int)) = true := decide_eq_true hlt
        have HX := Aside0.mk (And.intro hx0 hlt)
        have HU : Aside0 ((rd_L3 l0 x).length ≤ 1000000) := ⟨Nat.le_trans (HL12.out x hx0 hlt) (by decide)⟩
        have HU2 : Aside0 ((rd_L3 l0 x).length ≤ 12) := ⟨HL12.out x hx0 hlt⟩
        clear hF3 hF2 hl3
        have O7 : Aside0 (Own N wr [Obj3 52 gj a0_0 M L, Obj3 42 gm a0_0 M L]) := ⟨OA.out⟩
        have K7 : Aside0 (KeepS N w wr) := ⟨KA.out⟩
        have HRI_7 : Aside0 (Kd.F k50 wr N A3 (rd_L3 l0 x).length (rd_L3 l0 x)) := ⟨HF3.out⟩
        clear OA KA HF3
        by_cases he : addE a0_0 M L (rd_L3 l0 x) = 0
        · have HE := Aside0.mk he
          have HLM : Aside0 ((L.length : Int) + 1 ≤ M) := ⟨addE_lt HE.out HI.out.2.1⟩
          clear he hlt hx0 hx1
          go_wp2_with (first | ((with_reducible refine gate_dst (N := 49) rfl ?_); refine own_lit k50 (N := N) (e := 50) (xs := []) (inner := []) rfl (D := 49) rfl ?hr (Reps.none _ _) (by simp) O7.out ?_; (case hr => first | (go_simp; done) | (go_simp; rfl)); intro B1 d1 w8 o_ k_; have O8 : Aside0 (Own N w8 [Obj3 52 gj a0_0 M L, Obj3 42 gm a0_0 M L, nrow k50 50 (.slice B1 0 d1) []]) := ⟨o_⟩; have K8 : Aside0 (KeepS N w w8) := ⟨K7.out.trans k_⟩; have HRI_8 : Aside0 (Kd.F k50 w8 N A3 (rd_L3 l0 x).length (rd_L3 l0 x)) := ⟨keepF HRI_7.out k_⟩; clear O7 K7 HRI_7; clear o_ k_) | ((with_reducible refine gate_builtin (b := .append) (xs := #[.tmp 49, .tmp 50]) rfl ?_); at_builtin; refine Own.append_flat k50 flatU O8.out (i := 2) (ys := (rd_L3 l0 x)) rfl (Kd.F_now HRI_8.out) rfl (.tmp 49) (.tmp 50) 30 (.agg #[.string ⟨#[]⟩, .int .i64 0, .int .i64 0, .string ⟨#[]⟩]) 48 rfl Try.underlying30 info50 rfl (by decide) (by decide) rfl rfl (by have := HU.out; simp only [List.length_nil]; omega) ?_; intro B2 d2 w9 o_ k_; have O9 : Aside0 (Own N w9 [Obj3 52 gj a0_0 M L, Obj3 42 gm a0_0 M L, nrow k50 50 (.slice B2 ((rd_L3 l0 x)).length d2) ((rd_L3 l0 x))]) := ⟨o_⟩; have K9 : Aside0 (KeepS N w w9) := ⟨K8.out.trans k_⟩; have HRI_9 : Aside0 (Kd.F k50 w9 N A3 (rd_L3 l0 x).length (rd_L3 l0 x)) := ⟨keepF HRI_8.out k_⟩; clear O8 K8 HRI_8; clear o_ k_) | ((with_reducible refine gate_callee (f := 12) rfl ?_); refine goesL_ (some 52) rfl rfl Try.func12 (by kernel_rfl) rfl #[.pointer (some ⟨gj, 0, none⟩), .slice B2 (rd_L3 l0 x).length d2] rfl (by (try simp only [List.map_toArray, List.map_cons, List.map_nil]); first | done | rfl) ?_; obtain ⟨N_, on_, nn_, rr_, bb_⟩ := O9.out.frame1 (i := 0) rfl; have hr_ := Kd.N_F (rr_ 2 _ (by decide) rfl); have hc_ := (O9.out.nreads (i := 2) rfl).2.1; refine (Add_y B2 d2 (rd_L3 l0 x) on_ hr_ hc_ HLL.out HU.out HE.out).mono ?_; rintro e_ w10 ⟨B3, d3, rfl, oo_, kk_⟩; obtain ⟨o_, k_⟩ := bb_ _ _ _ kk_ oo_; refine ⟨_, rfl, ?_⟩; have O10 : Aside0 (Own N w10 [Obj3 52 gj a0_0 M (L ++ [(⟨a0_0, (L.length : Int) + 1, (rd_L3 l0 x)⟩ : Rnd)]), Obj3 42 gm a0_0 M L, nrow k50 50 (.slice B2 ((rd_L3 l0 x)).length d2) ((rd_L3 l0 x)), nrow k50 50 (.slice B3 (rd_L3 l0 x).length d3) (rd_L3 l0 x)]) := ⟨o_⟩; have K10 : Aside0 (KeepS N w w10) := ⟨K9.out.trans k_⟩; have HRI_10 : Aside0 (Kd.F k50 w10 N A3 (rd_L3 l0 x).length (rd_L3 l0 x)) := ⟨keepF HRI_9.out k_⟩; clear O9 K9 HRI_9; clear o_ k_ oo_ kk_ on_ nn_ rr_ bb_ hr_ hc_) | ((with_reducible refine gate_dst (N := 9) rfl ?_); refine own_box rfl (D := 9) rfl (cs := #[.int .i64 0, .int .i64 0, .slice none 0 0]) (t := 32) ?hr O10.out ?_; (case hr => first | (go_simp; done) | (go_simp; rfl)); intro gb1 w11 o_ k_; have O11 : Aside0 (Own N w11 [Obj3 52 gj a0_0 M (L ++ [(⟨a0_0, (L.length : Int) + 1, (rd_L3 l0 x)⟩ : Rnd)]), Obj3 42 gm a0_0 M L, nrow k50 50 (.slice B2 ((rd_L3 l0 x)).length d2) ((rd_L3 l0 x)), nrow k50 50 (.slice B3 (rd_L3 l0 x).length d3) (rd_L3 l0 x), cells gb1 #[.int .i64 0, .int .i64 0, .slice none 0 0] 32]) := ⟨o_⟩; have K11 : Aside0 (KeepS N w w11) := ⟨K10.out.trans k_⟩; have HRI_11 : Aside0 (Kd.F k50 w11 N A3 (rd_L3 l0 x).length (rd_L3 l0 x)) := ⟨keepF HRI_10.out k_⟩; clear O10 K10 HRI_10; have c11_4_0 : w11.cell? ⟨gb1, 0, none⟩ = some (.int .i64 0) := (blk_cell (O11.out.blk (i := 4) rfl) 0).trans rfl; have f11_4_0 : w11.frozen? ⟨gb1, 0, none⟩ = false := blk_frozen (O11.out.blk (i := 4) rfl) 0; have c11_4_1 : w11.cell? ⟨gb1, 1, none⟩ = some (.int .i64 0) := (blk_cell (O11.out.blk (i := 4) rfl) 1).trans rfl; have f11_4_1 : w11.frozen? ⟨gb1, 1, none⟩ = false := blk_frozen (O11.out.blk (i := 4) rfl) 1; have c11_4_2 : w11.cell? ⟨gb1, 2, none⟩ = some (.slice none 0 0) := (blk_cell (O11.out.blk (i := 4) rfl) 2).trans rfl; have f11_4_2 : w11.frozen? ⟨gb1, 2, none⟩ = false := blk_frozen (O11.out.blk (i := 4) rfl) 2; clear o_ k_) | ((with_reducible refine gate_store (t := 32) (p := 9) rfl ?_); refine own_store rfl rfl rfl (w1 := (World.setCell (World.setCell (World.setCell w11 ⟨gb1, 0, none⟩ (.int .i64 a0_0)) ⟨gb1, 1, none⟩ (.int .i64 ((L.length : Int) + 1))) ⟨gb1, 2, none⟩ (.slice B3 (rd_L3 l0 x).length d3))) (N := N) (l' := [Obj3 52 gj a0_0 M (L ++ [(⟨a0_0, (L.length : Int) + 1, (rd_L3 l0 x)⟩ : Rnd)]), Obj3 42 gm a0_0 M L, nrow k50 50 (.slice B2 ((rd_L3 l0 x)).length d2) ((rd_L3 l0 x)), nrow k50 50 (.slice B3 (rd_L3 l0 x).length d3) (rd_L3 l0 x), cells gb1 #[.int .i64 a0_0, .int .i64 ((L.length : Int) + 1), .slice B3 (rd_L3 l0 x).length d3] 32]) ?hr ?ho ?hk ?_; (case hr => first | (go_simp; done) | (go_simp; rfl)); (case ho => exact (((O11.out.set (i := 4) rfl 0 (.int .i64 a0_0)).set (i := 4) rfl 1 (.int .i64 ((L.length : Int) + 1))).set (i := 4) rfl 2 (.slice B3 (rd_L3 l0 x).length d3))); (case hk => exact (((KeepS.setCell (O11.out.far (i := 4) rfl) (.int .i64 a0_0)).trans (KeepS.setCell (O11.out.far (i := 4) rfl) (.int .i64 ((L.length : Int) + 1)))).trans (KeepS.setCell (O11.out.far (i := 4) rfl) (.slice B3 (rd_L3 l0 x).length d3)))); intro w12 o_ k_; have O12 : Aside0 (Own N w12 [Obj3 52 gj a0_0 M (L ++ [(⟨a0_0, (L.length : Int) + 1, (rd_L3 l0 x)⟩ : Rnd)]), Obj3 42 gm a0_0 M L, nrow k50 50 (.slice B2 ((rd_L3 l0 x)).length d2) ((rd_L3 l0 x)), nrow k50 50 (.slice B3 (rd_L3 l0 x).length d3) (rd_L3 l0 x), cells gb1 #[.int .i64 a0_0, .int .i64 ((L.length : Int) + 1), .slice B3 (rd_L3 l0 x).length d3] 32]) := ⟨o_⟩; have K12 : Aside0 (KeepS N w w12) := ⟨K11.out.trans k_⟩; have HRI_12 : Aside0 (Kd.F k50 w12 N A3 (rd_L3 l0 x).length (rd_L3 l0 x)) := ⟨keepF HRI_11.out k_⟩; clear c11_4_0 f11_4_0 c11_4_1 f11_4_1 c11_4_2 f11_4_2 O11 K11 HRI_11; have c12_4_0 : w12.cell? ⟨gb1, 0, none⟩ = some (.int .i64 a0_0) := (blk_cell (O12.out.blk (i := 4) rfl) 0).trans rfl; have f12_4_0 : w12.frozen? ⟨gb1, 0, none⟩ = false := blk_frozen (O12.out.blk (i := 4) rfl) 0; have c12_4_1 : w12.cell? ⟨gb1, 1, none⟩ = some (.int .i64 ((L.length : Int) + 1)) := (blk_cell (O12.out.blk (i := 4) rfl) 1).trans rfl; have f12_4_1 : w12.frozen? ⟨gb1, 1, none⟩ = false := blk_frozen (O12.out.blk (i := 4) rfl) 1; have c12_4_2 : w12.cell? ⟨gb1, 2, none⟩ = some (.slice B3 (rd_L3 l0 x).length d3) := (blk_cell (O12.out.blk (i := 4) rfl) 2).trans rfl; have f12_4_2 : w12.frozen? ⟨gb1, 2, none⟩ = false := blk_frozen (O12.out.blk (i := 4) rfl) 2; clear o_ k_) | ((with_reducible refine gate_callee (f := 13) rfl ?_); refine goesL_ (some 58) rfl rfl Try.func13 (by kernel_rfl) rfl #[.pointer (some ⟨gm, 0, none⟩), .slice A3 (rd_L3 l0 x).length c3] rfl (by (try simp only [List.map_toArray, List.map_cons, List.map_nil]); first | done | rfl) ?_; obtain ⟨N_, on_, nn_, rr_, bb_⟩ := O12.out.frame1 (i := 1) rfl; have hr_ := Kd.F_mono HRI_12.out nn_; refine (RAdd_y A3 c3 (rd_L3 l0 x) on_ hr_ HC3.out HLL.out HU.out HI.out.2.1 HE.out).mono ?_; rintro e_ w13 ⟨B4, d4, B5, d5, rfl, hcc_, oo_, kk_⟩; obtain ⟨o_, k_⟩ := bb_ _ _ _ kk_ oo_; refine ⟨_, rfl, ?_⟩; have O13 : Aside0 (Own N w13 [Obj3 52 gj a0_0 M (L ++ [(⟨a0_0, (L.length : Int) + 1, (rd_L3 l0 x)⟩ : Rnd)]), cells gm #[.int .i64 a0_0, .int .i64 M, .slice B5 (L ++ [(⟨a0_0, (L.length : Int) + 1, (rd_L3 l0 x)⟩ : Rnd)]).length d5] 42, nrow k50 50 (.slice B2 ((rd_L3 l0 x)).length d2) ((rd_L3 l0 x)), nrow k50 50 (.slice B3 (rd_L3 l0 x).length d3) (rd_L3 l0 x), cells gb1 #[.int .i64 a0_0, .int .i64 ((L.length : Int) + 1), .slice B3 (rd_L3 l0 x).length d3] 32, both (nrow k32 32 (.slice B5 (L ++ [(⟨a0_0, (L.length : Int) + 1, (rd_L3 l0 x)⟩ : Rnd)]).length d5) (L ++ [(⟨a0_0, (L.length : Int) + 1, (rd_L3 l0 x)⟩ : Rnd)])) (rd k50 B4 (rd_L3 l0 x).length (rd_L3 l0 x))]) := ⟨o_⟩; have K13 : Aside0 (KeepS N w w13) := ⟨K12.out.trans k_⟩; have HRI_13 : Aside0 (Kd.F k50 w13 N A3 (rd_L3 l0 x).length (rd_L3 l0 x)) := ⟨keepF HRI_12.out k_⟩; clear c12_4_0 f12_4_0 c12_4_1 f12_4_1 c12_4_2 f12_4_2 O12 K12 HRI_12; have c13_4_0 : w13.cell? ⟨gb1, 0, none⟩ = some (.int .i64 a0_0) := (blk_cell (O13.out.blk (i := 4) rfl) 0).trans rfl; have f13_4_0 : w13.frozen? ⟨gb1, 0, none⟩ = false := blk_frozen (O13.out.blk (i := 4) rfl) 0; have c13_4_1 : w13.cell? ⟨gb1, 1, none⟩ = some (.int .i64 ((L.length : Int) + 1)) := (blk_cell (O13.out.blk (i := 4) rfl) 1).trans rfl; have f13_4_1 : w13.frozen? ⟨gb1, 1, none⟩ = false := blk_frozen (O13.out.blk (i := 4) rfl) 1; have c13_4_2 : w13.cell? ⟨gb1, 2, none⟩ = some (.slice B3 (rd_L3 l0 x).length d3) := (blk_cell (O13.out.blk (i := 4) rfl) 2).trans rfl; have f13_4_2 : w13.frozen? ⟨gb1, 2, none⟩ = false := blk_frozen (O13.out.blk (i := 4) rfl) 2; have HCC := Aside0.mk hcc_; clear hcc_; clear o_ k_ oo_ kk_ on_ nn_ rr_ bb_ hr_; clear c13_4_0 f13_4_0 c13_4_1 f13_4_1 c13_4_2 f13_4_2; have c13_4_0 : w13.cell? ⟨gb1, 0, none⟩ = some (.int .i64 a0_0) := (blk_cell (O13.out.blk (i := 4) rfl) 0).trans rfl; have f13_4_0 : w13.frozen? ⟨gb1, 0, none⟩ = false := blk_frozen (O13.out.blk (i := 4) rfl) 0; have c13_4_1 : w13.cell? ⟨gb1, 1, none⟩ = some (.int .i64 ((L.length : Int) + 1)) := (blk_cell (O13.out.blk (i := 4) rfl) 1).trans rfl; have f13_4_1 : w13.frozen? ⟨gb1, 1, none⟩ = false := blk_frozen (O13.out.blk (i := 4) rfl) 1; have c13_4_2 : w13.cell? ⟨gb1, 2, none⟩ = some (.slice B3 (rd_L3 l0 x).length d3) := (blk_cell (O13.out.blk (i := 4) rfl) 2).trans rfl; have f13_4_2 : w13.frozen? ⟨gb1, 2, none⟩ = false := blk_frozen (O13.out.blk (i := 4) rfl) 2; have c13_1_0 : w13.cell? ⟨gm, 0, none⟩ = some (.int .i64 a0_0) := (blk_cell (O13.out.blk (i := 1) rfl) 0).trans rfl; have f13_1_0 : w13.frozen? ⟨gm, 0, none⟩ = false := blk_frozen (O13.out.blk (i := 1) rfl) 0; have c13_1_1 : w13.cell? ⟨gm, 1, none⟩ = some (.int .i64 M) := (blk_cell (O13.out.blk (i := 1) rfl) 1).trans rfl; have f13_1_1 : w13.frozen? ⟨gm, 1, none⟩ = false := blk_frozen (O13.out.blk (i := 1) rfl) 1; have c13_1_2 : w13.cell? ⟨gm, 2, none⟩ = some (.slice B5 (L ++ [(⟨a0_0, (L.length : Int) + 1, (rd_L3 l0 x)⟩ : Rnd)]).length d5) := (blk_cell (O13.out.blk (i := 1) rfl) 2).trans rfl; have f13_1_2 : w13.frozen? ⟨gm, 2, none⟩ = false := blk_frozen (O13.out.blk (i := 1) rfl) 2; have n13_4_1 : gb1 ≠ gm := O13.out.ne (i := 4) (j := 1) rfl rfl (by decide); have n13_1_4 : gm ≠ gb1 := O13.out.ne (i := 1) (j := 4) rfl rfl (by decide)) | ((with_reducible refine gate_dst (N := 11) rfl ?_); refine own_box rfl (D := 11) rfl (cs := #[.int .i64 0, .int .i64 0, .slice none 0 0]) (t := 32) ?hr O13.out ?_; (case hr => first | (go_simp; done) | (go_simp; rfl)); intro gb2 w14 o_ k_; have O14 : Aside0 (Own N w14 [Obj3 52 gj a0_0 M (L ++ [(⟨a0_0, (L.length : Int) + 1, (rd_L3 l0 x)⟩ : Rnd)]), cells gm #[.int .i64 a0_0, .int .i64 M, .slice B5 (L ++ [(⟨a0_0, (L.length : Int) + 1, (rd_L3 l0 x)⟩ : Rnd)]).length d5] 42, nrow k50 50 (.slice B2 ((rd_L3 l0 x)).length d2) ((rd_L3 l0 x)), nrow k50 50 (.slice B3 (rd_L3 l0 x).length d3) (rd_L3 l0 x), cells gb1 #[.int .i64 a0_0, .int .i64 ((L.length : Int) + 1), .slice B3 (rd_L3 l0 x).length d3] 32, both (nrow k32 32 (.slice B5 (L ++ [(⟨a0_0, (L.length : Int) + 1, (rd_L3 l0 x)⟩ : Rnd)]).length d5) (L ++ [(⟨a0_0, (L.length : Int) + 1, (rd_L3 l0 x)⟩ : Rnd)])) (rd k50 B4 (rd_L3 l0 x).length (rd_L3 l0 x)), cells gb2 #[.int .i64 0, .int .i64 0, .slice none 0 0] 32]) := ⟨o_⟩; have K14 : Aside0 (KeepS N w w14) := ⟨K13.out.trans k_⟩; have HRI_14 : Aside0 (Kd.F k50 w14 N A3 (rd_L3 l0 x).length (rd_L3 l0 x)) := ⟨keepF HRI_13.out k_⟩; clear c13_4_0 f13_4_0 c13_4_1 f13_4_1 c13_4_2 f13_4_2 c13_1_0 f13_1_0 c13_1_1 f13_1_1 c13_1_2 f13_1_2 n13_4_1 n13_1_4 O13 K13 HRI_13; have c14_4_0 : w14.cell? ⟨gb1, 0, none⟩ = some (.int .i64 a0_0) := (blk_cell (O14.out.blk (i := 4) rfl) 0).trans rfl; have f14_4_0 : w14.frozen? ⟨gb1, 0, none⟩ = false := blk_frozen (O14.out.blk (i := 4) rfl) 0; have c14_4_1 : w14.cell? ⟨gb1, 1, none⟩ = some (.int .i64 ((L.length : Int) + 1)) := (blk_cell (O14.out.blk (i := 4) rfl) 1).trans rfl; have f14_4_1 : w14.frozen? ⟨gb1, 1, none⟩ = false := blk_frozen (O14.out.blk (i := 4) rfl) 1; have c14_4_2 : w14.cell? ⟨gb1, 2, none⟩ = some (.slice B3 (rd_L3 l0 x).length d3) := (blk_cell (O14.out.blk (i := 4) rfl) 2).trans rfl; have f14_4_2 : w14.frozen? ⟨gb1, 2, none⟩ = false := blk_frozen (O14.out.blk (i := 4) rfl) 2; have c14_1_0 : w14.cell? ⟨gm, 0, none⟩ = some (.int .i64 a0_0) := (blk_cell (O14.out.blk (i := 1) rfl) 0).trans rfl; have f14_1_0 : w14.frozen? ⟨gm, 0, none⟩ = false := blk_frozen (O14.out.blk (i := 1) rfl) 0; have c14_1_1 : w14.cell? ⟨gm, 1, none⟩ = some (.int .i64 M) := (blk_cell (O14.out.blk (i := 1) rfl) 1).trans rfl; have f14_1_1 : w14.frozen? ⟨gm, 1, none⟩ = false := blk_frozen (O14.out.blk (i := 1) rfl) 1; have c14_1_2 : w14.cell? ⟨gm, 2, none⟩ = some (.slice B5 (L ++ [(⟨a0_0, (L.length : Int) + 1, (rd_L3 l0 x)⟩ : Rnd)]).length d5) := (blk_cell (O14.out.blk (i := 1) rfl) 2).trans rfl; have f14_1_2 : w14.frozen? ⟨gm, 2, none⟩ = false := blk_frozen (O14.out.blk (i := 1) rfl) 2; have c14_6_0 : w14.cell? ⟨gb2, 0, none⟩ = some (.int .i64 0) := (blk_cell (O14.out.blk (i := 6) rfl) 0).trans rfl; have f14_6_0 : w14.frozen? ⟨gb2, 0, none⟩ = false := blk_frozen (O14.out.blk (i := 6) rfl) 0; have c14_6_1 : w14.cell? ⟨gb2, 1, none⟩ = some (.int .i64 0) := (blk_cell (O14.out.blk (i := 6) rfl) 1).trans rfl; have f14_6_1 : w14.frozen? ⟨gb2, 1, none⟩ = false := blk_frozen (O14.out.blk (i := 6) rfl) 1; have c14_6_2 : w14.cell? ⟨gb2, 2, none⟩ = some (.slice none 0 0) := (blk_cell (O14.out.blk (i := 6) rfl) 2).trans rfl; have f14_6_2 : w14.frozen? ⟨gb2, 2, none⟩ = false := blk_frozen (O14.out.blk (i := 6) rfl) 2; have n14_4_1 : gb1 ≠ gm := O14.out.ne (i := 4) (j := 1) rfl rfl (by decide); have n14_4_6 : gb1 ≠ gb2 := O14.out.ne (i := 4) (j := 6) rfl rfl (by decide); have n14_1_4 : gm ≠ gb1 := O14.out.ne (i := 1) (j := 4) rfl rfl (by decide); have n14_1_6 : gm ≠ gb2 := O14.out.ne (i := 1) (j := 6) rfl rfl (by decide); have n14_6_4 : gb2 ≠ gb1 := O14.out.ne (i := 6) (j := 4) rfl rfl (by decide); have n14_6_1 : gb2 ≠ gm := O14.out.ne (i := 6) (j := 1) rfl rfl (by decide); clear o_ k_) | ((with_reducible refine gate_store (t := 32) (p := 11) rfl ?_); refine own_store rfl rfl rfl (w1 := (World.setCell (World.setCell (World.setCell w14 ⟨gb2, 0, none⟩ (.int .i64 a0_0)) ⟨gb2, 1, none⟩ (.int .i64 ((L.length : Int) + 1))) ⟨gb2, 2, none⟩ (.slice B4 (rd_L3 l0 x).length d4))) (N := N) (l' := [Obj3 52 gj a0_0 M (L ++ [(⟨a0_0, (L.length : Int) + 1, (rd_L3 l0 x)⟩ : Rnd)]), cells gm #[.int .i64 a0_0, .int .i64 M, .slice B5 (L ++ [(⟨a0_0, (L.length : Int) + 1, (rd_L3 l0 x)⟩ : Rnd)]).length d5] 42, nrow k50 50 (.slice B2 ((rd_L3 l0 x)).length d2) ((rd_L3 l0 x)), nrow k50 50 (.slice B3 (rd_L3 l0 x).length d3) (rd_L3 l0 x), cells gb1 #[.int .i64 a0_0, .int .i64 ((L.length : Int) + 1), .slice B3 (rd_L3 l0 x).length d3] 32, both (nrow k32 32 (.slice B5 (L ++ [(⟨a0_0, (L.length : Int) + 1, (rd_L3 l0 x)⟩ : Rnd)]).length d5) (L ++ [(⟨a0_0, (L.length : Int) + 1, (rd_L3 l0 x)⟩ : Rnd)])) (rd k50 B4 (rd_L3 l0 x).length (rd_L3 l0 x)), cells gb2 #[.int .i64 a0_0, .int .i64 ((L.length : Int) + 1), .slice B4 (rd_L3 l0 x).length d4] 32]) ?hr ?ho ?hk ?_; (case hr => first | (go_simp; done) | (go_simp; rfl)); (case ho => exact (((O14.out.set (i := 6) rfl 0 (.int .i64 a0_0)).set (i := 6) rfl 1 (.int .i64 ((L.length : Int) + 1))).set (i := 6) rfl 2 (.slice B4 (rd_L3 l0 x).length d4))); (case hk => exact (((KeepS.setCell (O14.out.far (i := 6) rfl) (.int .i64 a0_0)).trans (KeepS.setCell (O14.out.far (i := 6) rfl) (.int .i64 ((L.length : Int) + 1)))).trans (KeepS.setCell (O14.out.far (i := 6) rfl) (.slice B4 (rd_L3 l0 x).length d4)))); intro w15 o_ k_; have O15 : Aside0 (Own N w15 [Obj3 52 gj a0_0 M (L ++ [(⟨a0_0, (L.length : Int) + 1, (rd_L3 l0 x)⟩ : Rnd)]), cells gm #[.int .i64 a0_0, .int .i64 M, .slice B5 (L ++ [(⟨a0_0, (L.length : Int) + 1, (rd_L3 l0 x)⟩ : Rnd)]).length d5] 42, nrow k50 50 (.slice B2 ((rd_L3 l0 x)).length d2) ((rd_L3 l0 x)), nrow k50 50 (.slice B3 (rd_L3 l0 x).length d3) (rd_L3 l0 x), cells gb1 #[.int .i64 a0_0, .int .i64 ((L.length : Int) + 1), .slice B3 (rd_L3 l0 x).length d3] 32, both (nrow k32 32 (.slice B5 (L ++ [(⟨a0_0, (L.length : Int) + 1, (rd_L3 l0 x)⟩ : Rnd)]).length d5) (L ++ [(⟨a0_0, (L.length : Int) + 1, (rd_L3 l0 x)⟩ : Rnd)])) (rd k50 B4 (rd_L3 l0 x).length (rd_L3 l0 x)), cells gb2 #[.int .i64 a0_0, .int .i64 ((L.length : Int) + 1), .slice B4 (rd_L3 l0 x).length d4] 32]) := ⟨o_⟩; have K15 : Aside0 (KeepS N w w15) := ⟨K14.out.trans k_⟩; have HRI_15 : Aside0 (Kd.F k50 w15 N A3 (rd_L3 l0 x).length (rd_L3 l0 x)) := ⟨keepF HRI_14.out k_⟩; clear c14_4_0 f14_4_0 c14_4_1 f14_4_1 c14_4_2 f14_4_2 c14_1_0 f14_1_0 c14_1_1 f14_1_1 c14_1_2 f14_1_2 c14_6_0 f14_6_0 c14_6_1 f14_6_1 c14_6_2 f14_6_2 n14_4_1 n14_4_6 n14_1_4 n14_1_6 n14_6_4 n14_6_1 O14 K14 HRI_14; have c15_4_0 : w15.cell? ⟨gb1, 0, none⟩ = some (.int .i64 a0_0) := (blk_cell (O15.out.blk (i := 4) rfl) 0).trans rfl; have f15_4_0 : w15.frozen? ⟨gb1, 0, none⟩ = false := blk_frozen (O15.out.blk (i := 4) rfl) 0; have c15_4_1 : w15.cell? ⟨gb1, 1, none⟩ = some (.int .i64 ((L.length : Int) + 1)) := (blk_cell (O15.out.blk (i := 4) rfl) 1).trans rfl; have f15_4_1 : w15.frozen? ⟨gb1, 1, none⟩ = false := blk_frozen (O15.out.blk (i := 4) rfl) 1; have c15_4_2 : w15.cell? ⟨gb1, 2, none⟩ = some (.slice B3 (rd_L3 l0 x).length d3) := (blk_cell (O15.out.blk (i := 4) rfl) 2).trans rfl; have f15_4_2 : w15.frozen? ⟨gb1, 2, none⟩ = false := blk_frozen (O15.out.blk (i := 4) rfl) 2; have c15_1_0 : w15.cell? ⟨gm, 0, none⟩ = some (.int .i64 a0_0) := (blk_cell (O15.out.blk (i := 1) rfl) 0).trans rfl; have f15_1_0 : w15.frozen? ⟨gm, 0, none⟩ = false := blk_frozen (O15.out.blk (i := 1) rfl) 0; have c15_1_1 : w15.cell? ⟨gm, 1, none⟩ = some (.int .i64 M) := (blk_cell (O15.out.blk (i := 1) rfl) 1).trans rfl; have f15_1_1 : w15.frozen? ⟨gm, 1, none⟩ = false := blk_frozen (O15.out.blk (i := 1) rfl) 1; have c15_1_2 : w15.cell? ⟨gm, 2, none⟩ = some (.slice B5 (L ++ [(⟨a0_0, (L.length : Int) + 1, (rd_L3 l0 x)⟩ : Rnd)]).length d5) := (blk_cell (O15.out.blk (i := 1) rfl) 2).trans rfl; have f15_1_2 : w15.frozen? ⟨gm, 2, none⟩ = false := blk_frozen (O15.out.blk (i := 1) rfl) 2; have c15_6_0 : w15.cell? ⟨gb2, 0, none⟩ = some (.int .i64 a0_0) := (blk_cell (O15.out.blk (i := 6) rfl) 0).trans rfl; have f15_6_0 : w15.frozen? ⟨gb2, 0, none⟩ = false := blk_frozen (O15.out.blk (i := 6) rfl) 0; have c15_6_1 : w15.cell? ⟨gb2, 1, none⟩ = some (.int .i64 ((L.length : Int) + 1)) := (blk_cell (O15.out.blk (i := 6) rfl) 1).trans rfl; have f15_6_1 : w15.frozen? ⟨gb2, 1, none⟩ = false := blk_frozen (O15.out.blk (i := 6) rfl) 1; have c15_6_2 : w15.cell? ⟨gb2, 2, none⟩ = some (.slice B4 (rd_L3 l0 x).length d4) := (blk_cell (O15.out.blk (i := 6) rfl) 2).trans rfl; have f15_6_2 : w15.frozen? ⟨gb2, 2, none⟩ = false := blk_frozen (O15.out.blk (i := 6) rfl) 2; have n15_4_1 : gb1 ≠ gm := O15.out.ne (i := 4) (j := 1) rfl rfl (by decide); have n15_4_6 : gb1 ≠ gb2 := O15.out.ne (i := 4) (j := 6) rfl rfl (by decide); have n15_1_4 : gm ≠ gb1 := O15.out.ne (i := 1) (j := 4) rfl rfl (by decide); have n15_1_6 : gm ≠ gb2 := O15.out.ne (i := 1) (j := 6) rfl rfl (by decide); have n15_6_4 : gb2 ≠ gb1 := O15.out.ne (i := 6) (j := 4) rfl rfl (by decide); have n15_6_1 : gb2 ≠ gm := O15.out.ne (i := 6) (j := 1) rfl rfl (by decide); clear o_ k_))
          refine start_ (n := 19) (S := fun w' => w'.cell? ⟨gm, 0, none⟩ = some (.int .i64 a0_0) ∧ w'.cell? ⟨gm, 1, none⟩ = some (.int .i64 M) ∧ w'.cell? ⟨gm, 2, none⟩ = some (.slice B5 (L ++ [(⟨a0_0, (L.length : Int) + 1, (rd_L3 l0 x)⟩ : Rnd)]).length d5) ∧ w'.cell? ⟨gb1, 0, none⟩ = some (.int .i64 a0_0) ∧ w'.cell? ⟨gb1, 1, none⟩ = some (.int .i64 ((L.length : Int) + 1)) ∧ w'.cell? ⟨gb1, 2, none⟩ = some (.slice B3 (rd_L3 l0 x).length d3) ∧ w'.cell? ⟨gb2, 0, none⟩ = some (.int .i64 a0_0) ∧ w'.cell? ⟨gb2, 1, none⟩ = some (.int .i64 ((L.length : Int) + 1)) ∧ w'.cell? ⟨gb2, 2, none⟩ = some (.slice B4 (rd_L3 l0 x).length d4)) (ds := []) #[false, false, false, false, false, false, false, false, false, false, false, false, false, false, false, false, false, false, false] (by kernel_rfl) rfl rfl ⟨((blk_cell (O15.out.blk (i := 1) rfl) 0).trans rfl), ((blk_cell (O15.out.blk (i := 1) rfl) 1).trans rfl), ((blk_cell (O15.out.blk (i := 1) rfl) 2).trans rfl), ((blk_cell (O15.out.blk (i := 4) rfl) 0).trans rfl), ((blk_cell (O15.out.blk (i := 4) rfl) 1).trans rfl), ((blk_cell (O15.out.blk (i := 4) rfl) 2).trans rfl), ((blk_cell (O15.out.blk (i := 6) rfl) 0).trans rfl), ((blk_cell (O15.out.blk (i := 6) rfl) 1).trans rfl), ((blk_cell (O15.out.blk (i := 6) rfl) 2).trans rfl)⟩ (fun hHeld => ?_)
          obtain ⟨w16, hw_⟩ : ∃ W, W = w15.drew := ⟨_, rfl⟩
          have o_ := O15.out.drew
          have k_ : KeepS N w15 w15.drew := KeepS.drew
          rw [← hw_] at o_ k_ hHeld ⊢
          clear hw_
          have O16 : Aside0 (Own N w16 [Obj3 52 gj a0_0 M (L ++ [(⟨a0_0, (L.length : Int) + 1, (rd_L3 l0 x)⟩ : Rnd)]), cells gm #[.int .i64 a0_0, .int .i64 M, .slice B5 (L ++ [(⟨a0_0, (L.length : Int) + 1, (rd_L3 l0 x)⟩ : Rnd)]).length d5] 42, nrow k50 50 (.slice B2 ((rd_L3 l0 x)).length d2) ((rd_L3 l0 x)), nrow k50 50 (.slice B3 (rd_L3 l0 x).length d3) (rd_L3 l0 x), cells gb1 #[.int .i64 a0_0, .int .i64 ((L.length : Int) + 1), .slice B3 (rd_L3 l0 x).length d3] 32, both (nrow k32 32 (.slice B5 (L ++ [(⟨a0_0, (L.length : Int) + 1, (rd_L3 l0 x)⟩ : Rnd)]).length d5) (L ++ [(⟨a0_0, (L.length : Int) + 1, (rd_L3 l0 x)⟩ : Rnd)])) (rd k50 B4 (rd_L3 l0 x).length (rd_L3 l0 x)), cells gb2 #[.int .i64 a0_0, .int .i64 ((L.length : Int) + 1), .slice B4 (rd_L3 l0 x).length d4] 32]) := ⟨o_⟩
          have K16 : Aside0 (KeepS N w w16) := ⟨K15.out.trans k_⟩
          have HRI_16 : Aside0 (Kd.F k50 w16 N A3 (rd_L3 l0 x).length (rd_L3 l0 x)) := ⟨keepF HRI_15.out k_⟩
          clear c15_4_0 f15_4_0 c15_4_1 f15_4_1 c15_4_2 f15_4_2 c15_1_0 f15_1_0 c15_1_1 f15_1_1 c15_1_2 f15_1_2 c15_6_0 f15_6_0 c15_6_1 f15_6_1 c15_6_2 f15_6_2 n15_4_1 n15_4_6 n15_1_4 n15_1_6 n15_6_4 n15_6_1 O15 K15 HRI_15
          have c16_4_0 : w16.cell? ⟨gb1, 0, none⟩ = some (.int .i64 a0_0) := (blk_cell (O16.out.blk (i := 4) rfl) 0).trans rfl
          have f16_4_0 : w16.frozen? ⟨gb1, 0, none⟩ = false := blk_frozen (O16.out.blk (i := 4) rfl) 0
          have c16_4_1 : w16.cell? ⟨gb1, 1, none⟩ = some (.int .i64 ((L.length : Int) + 1)) := (blk_cell (O16.out.blk (i := 4) rfl) 1).trans rfl
          have f16_4_1 : w16.frozen? ⟨gb1, 1, none⟩ = false := blk_frozen (O16.out.blk (i := 4) rfl) 1
          have c16_4_2 : w16.cell? ⟨gb1, 2, none⟩ = some (.slice B3 (rd_L3 l0 x).length d3) := (blk_cell (O16.out.blk (i := 4) rfl) 2).trans rfl
          have f16_4_2 : w16.frozen? ⟨gb1, 2, none⟩ = false := blk_frozen (O16.out.blk (i := 4) rfl) 2
          have c16_1_0 : w16.cell? ⟨gm, 0, none⟩ = some (.int .i64 a0_0) := (blk_cell (O16.out.blk (i := 1) rfl) 0).trans rfl
          have f16_1_0 : w16.frozen? ⟨gm, 0, none⟩ = false := blk_frozen (O16.out.blk (i := 1) rfl) 0
          have c16_1_1 : w16.cell? ⟨gm, 1, none⟩ = some (.int .i64 M) := (blk_cell (O16.out.blk (i := 1) rfl) 1).trans rfl
          have f16_1_1 : w16.frozen? ⟨gm, 1, none⟩ = false := blk_frozen (O16.out.blk (i := 1) rfl) 1
          have c16_1_2 : w16.cell? ⟨gm, 2, none⟩ = some (.slice B5 (L ++ [(⟨a0_0, (L.length : Int) + 1, (rd_L3 l0 x)⟩ : Rnd)]).length d5) := (blk_cell (O16.out.blk (i := 1) rfl) 2).trans rfl
          have f16_1_2 : w16.frozen? ⟨gm, 2, none⟩ = false := blk_frozen (O16.out.blk (i := 1) rfl) 2
          have c16_6_0 : w16.cell? ⟨gb2, 0, none⟩ = some (.int .i64 a0_0) := (blk_cell (O16.out.blk (i := 6) rfl) 0).trans rfl
          have f16_6_0 : w16.frozen? ⟨gb2, 0, none⟩ = false := blk_frozen (O16.out.blk (i := 6) rfl) 0
          have c16_6_1 : w16.cell? ⟨gb2, 1, none⟩ = some (.int .i64 ((L.length : Int) + 1)) := (blk_cell (O16.out.blk (i := 6) rfl) 1).trans rfl
          have f16_6_1 : w16.frozen? ⟨gb2, 1, none⟩ = false := blk_frozen (O16.out.blk (i := 6) rfl) 1
          have c16_6_2 : w16.cell? ⟨gb2, 2, none⟩ = some (.slice B4 (rd_L3 l0 x).length d4) := (blk_cell (O16.out.blk (i := 6) rfl) 2).trans rfl
          have f16_6_2 : w16.frozen? ⟨gb2, 2, none⟩ = false := blk_frozen (O16.out.blk (i := 6) rfl) 2
          have n16_4_1 : gb1 ≠ gm := O16.out.ne (i := 4) (j := 1) rfl rfl (by decide)
          have n16_4_6 : gb1 ≠ gb2 := O16.out.ne (i := 4) (j := 6) rfl rfl (by decide)
          have n16_1_4 : gm ≠ gb1 := O16.out.ne (i := 1) (j := 4) rfl rfl (by decide)
          have n16_1_6 : gm ≠ gb2 := O16.out.ne (i := 1) (j := 6) rfl rfl (by decide)
          have n16_6_4 : gb2 ≠ gb1 := O16.out.ne (i := 6) (j := 4) rfl rfl (by decide)
          have n16_6_1 : gb2 ≠ gm := O16.out.ne (i := 6) (j := 1) rfl rfl (by decide)
          clear o_ k_
          refine pure_ (i := 0) (N := some 61) (v := ?_) (a' := ?_) #[true, false, false, false, false, false, false, false, false, false, false, false, false, false, false, false, false, false, false] rfl rfl (by kernel_rfl) (fun _ _ _ h => h) (Or.inl ⟨by rfl, ?_⟩) ?_ ?_
          rotate_left
          · intro w'
            go_simp
            with_reducible rfl
          rotate_left
          · simp only [Act.put, List.setIfInBounds_toArray, List.set_cons_zero, List.set_cons_succ, i64_w, i32_w]
            rfl
          refine pure_ (i := 1) (N := some 62) (v := ?_) (a' := ?_) #[true, true, false, false, false, false, false, false, false, false, false, false, false, false, false, false, false, false, false] rfl rfl (by kernel_rfl) (fun _ _ _ h => h) (Or.inl ⟨by rfl, ?_⟩) ?_ ?_
          rotate_left
          · intro w'
            go_simp
            with_reducible rfl
          rotate_left
          · simp only [Act.put, List.setIfInBounds_toArray, List.set_cons_zero, List.set_cons_succ, i64_w, i32_w]
            rfl
          refine pure_ (i := 2) (N := some 63) (v := ?_) (a' := ?_) #[true, true, true, false, false, false, false, false, false, false, false, false, false, false, false, false, false, false, false] rfl rfl (by kernel_rfl) (fun _ _ _ h => h) (Or.inl ⟨by rfl, ?_⟩) ?_ ?_
          rotate_left
          · intro w'
            go_simp
            with_reducible rfl
          rotate_left
          · simp only [Act.put, List.setIfInBounds_toArray, List.set_cons_zero, List.set_cons_succ, i64_w, i32_w]
            rfl
          refine pure_ (i := 3) (N := some 64) (v := ?_) (a' := ?_) #[true, true, true, true, false, false, false, false, false, false, false, false, false, false, false, false, false, false, false] rfl rfl (by kernel_rfl) (fun _ _ _ h => h) (Or.inl ⟨by rfl, ?_⟩) ?_ ?_
          rotate_left
          · intro w'
            go_simp
            with_reducible rfl
          rotate_left
          · simp only [Act.put, List.setIfInBounds_toArray, List.set_cons_zero, List.set_cons_succ, i64_w, i32_w]
            rfl
          refine take_ (i := 4) (N := some 65) (v := ?_) (a' := ?_) #[true, true, true, true, true, false, false, false, false, false, false, false, false, false, false, false, false, false, false] rfl rfl (by kernel_rfl) (fun _ _ _ h => h) (Or.inl ⟨by rfl, ?_⟩) hHeld ?_ ?_
          rotate_left
          · rintro w' ⟨s0, s1, s2, s3, s4, s5, s6, s7, s8⟩
            go_simp
            with_reducible rfl
          rotate_left
          · simp only [Act.put, List.setIfInBounds_toArray, List.set_cons_zero, List.set_cons_succ, i64_w, i32_w]
            rfl
          refine take_ (i := 5) (N := some 66) (v := ?_) (a' := ?_) #[true, true, true, true, true, true, false, false, false, false, false, false, false, false, false, false, false, false, false] rfl rfl (by kernel_rfl) (fun _ _ _ h => h) (Or.inl ⟨by rfl, ?_⟩) hHeld ?_ ?_
          rotate_left
          · rintro w' ⟨s0, s1, s2, s3, s4, s5, s6, s7, s8⟩
            go_simp
            with_reducible rfl
          rotate_left
          · simp only [Act.put, List.setIfInBounds_toArray, List.set_cons_zero, List.set_cons_succ, i64_w, i32_w]
            rfl
          refine one_ (i := 6) (N := some 67) #[true, true, true, true, true, true, true, false, false, false, false, false, false, false, false, false, false, false, false] rfl rfl (by kernel_rfl) (by decide) (fun K_ hK_ => ?_)
          refine goes_ Try.func14 (by kernel_rfl) rfl #[.agg #[.int .i64 a0_0, .int .i64 ((L.length : Int) + 1), .slice B3 (rd_L3 l0 x).length d3], .agg #[.int .i64 a0_0, .int .i64 ((L.length : Int) + 1), .slice B4 (rd_L3 l0 x).length d4]] (by rfl) rfl rfl (by (try simp only [List.map_toArray, List.map_cons, List.map_nil]); first | done | rfl) ?_
          refine (chapbookref07_Same.calls 30 a0_0 ((L.length : Int) + 1) _ _ (rd_L3 l0 x) a0_0 ((L.length : Int) + 1) _ _ (rd_L3 l0 x) true _ (O16.out.nreads (i := 3) rfl).2.2 (O16.out.nreads (i := 3) rfl).2.1 (by obtain ⟨F_, hf_⟩ := O16.out.fact (i := 5) rfl; exact Kd.F_now hf_.2) HCC.out (psame 30 a0_0 ((L.length : Int) + 1) (rd_L3 l0 x) (by first | (have := HU2.out; omega) | decide) (by first | (have := HU2.out; omega) | decide))).mono ?_
          rintro e_ w17 ⟨rfl, hb_⟩
          refine ⟨_, rfl, ?_⟩
          have o_ := O16.out.below hb_
          have k_ := KeepS.of_below (N := N) hb_
          have O17 : Aside0 (Own N w17 [Obj3 52 gj a0_0 M (L ++ [(⟨a0_0, (L.length : Int) + 1, (rd_L3 l0 x)⟩ : Rnd)]), cells gm #[.int .i64 a0_0, .int .i64 M, .slice B5 (L ++ [(⟨a0_0, (L.length : Int) + 1, (rd_L3 l0 x)⟩ : Rnd)]).length d5] 42, nrow k50 50 (.slice B2 ((rd_L3 l0 x)).length d2) ((rd_L3 l0 x)), nrow k50 50 (.slice B3 (rd_L3 l0 x).length d3) (rd_L3 l0 x), cells gb1 #[.int .i64 a0_0, .int .i64 ((L.length : Int) + 1), .slice B3 (rd_L3 l0 x).length d3] 32, both (nrow k32 32 (.slice B5 (L ++ [(⟨a0_0, (L.length : Int) + 1, (rd_L3 l0 x)⟩ : Rnd)]).length d5) (L ++ [(⟨a0_0, (L.length : Int) + 1, (rd_L3 l0 x)⟩ : Rnd)])) (rd k50 B4 (rd_L3 l0 x).length (rd_L3 l0 x)), cells gb2 #[.int .i64 a0_0, .int .i64 ((L.length : Int) + 1), .slice B4 (rd_L3 l0 x).length d4] 32]) := ⟨o_⟩
          have K17 : Aside0 (KeepS N w w17) := ⟨K16.out.trans k_⟩
          have HRI_17 : Aside0 (Kd.F k50 w17 N A3 (rd_L3 l0 x).length (rd_L3 l0 x)) := ⟨keepF HRI_16.out k_⟩
          clear c16_4_0 f16_4_0 c16_4_1 f16_4_1 c16_4_2 f16_4_2 c16_1_0 f16_1_0 c16_1_1 f16_1_1 c16_1_2 f16_1_2 c16_6_0 f16_6_0 c16_6_1 f16_6_1 c16_6_2 f16_6_2 n16_4_1 n16_4_6 n16_1_4 n16_1_6 n16_6_4 n16_6_1 O16 K16 HRI_16
          have c17_4_0 : w17.cell? ⟨gb1, 0, none⟩ = some (.int .i64 a0_0) := (blk_cell (O17.out.blk (i := 4) rfl) 0).trans rfl
          have f17_4_0 : w17.frozen? ⟨gb1, 0, none⟩ = false := blk_frozen (O17.out.blk (i := 4) rfl) 0
          have c17_4_1 : w17.cell? ⟨gb1, 1, none⟩ = some (.int .i64 ((L.length : Int) + 1)) := (blk_cell (O17.out.blk (i := 4) rfl) 1).trans rfl
          have f17_4_1 : w17.frozen? ⟨gb1, 1, none⟩ = false := blk_frozen (O17.out.blk (i := 4) rfl) 1
          have c17_4_2 : w17.cell? ⟨gb1, 2, none⟩ = some (.slice B3 (rd_L3 l0 x).length d3) := (blk_cell (O17.out.blk (i := 4) rfl) 2).trans rfl
          have f17_4_2 : w17.frozen? ⟨gb1, 2, none⟩ = false := blk_frozen (O17.out.blk (i := 4) rfl) 2
          have c17_1_0 : w17.cell? ⟨gm, 0, none⟩ = some (.int .i64 a0_0) := (blk_cell (O17.out.blk (i := 1) rfl) 0).trans rfl
          have f17_1_0 : w17.frozen? ⟨gm, 0, none⟩ = false := blk_frozen (O17.out.blk (i := 1) rfl) 0
          have c17_1_1 : w17.cell? ⟨gm, 1, none⟩ = some (.int .i64 M) := (blk_cell (O17.out.blk (i := 1) rfl) 1).trans rfl
          have f17_1_1 : w17.frozen? ⟨gm, 1, none⟩ = false := blk_frozen (O17.out.blk (i := 1) rfl) 1
          have c17_1_2 : w17.cell? ⟨gm, 2, none⟩ = some (.slice B5 (L ++ [(⟨a0_0, (L.length : Int) + 1, (rd_L3 l0 x)⟩ : Rnd)]).length d5) := (blk_cell (O17.out.blk (i := 1) rfl) 2).trans rfl
          have f17_1_2 : w17.frozen? ⟨gm, 2, none⟩ = false := blk_frozen (O17.out.blk (i := 1) rfl) 2
          have c17_6_0 : w17.cell? ⟨gb2, 0, none⟩ = some (.int .i64 a0_0) := (blk_cell (O17.out.blk (i := 6) rfl) 0).trans rfl
          have f17_6_0 : w17.frozen? ⟨gb2, 0, none⟩ = false := blk_frozen (O17.out.blk (i := 6) rfl) 0
          have c17_6_1 : w17.cell? ⟨gb2, 1, none⟩ = some (.int .i64 ((L.length : Int) + 1)) := (blk_cell (O17.out.blk (i := 6) rfl) 1).trans rfl
          have f17_6_1 : w17.frozen? ⟨gb2, 1, none⟩ = false := blk_frozen (O17.out.blk (i := 6) rfl) 1
          have c17_6_2 : w17.cell? ⟨gb2, 2, none⟩ = some (.slice B4 (rd_L3 l0 x).length d4) := (blk_cell (O17.out.blk (i := 6) rfl) 2).trans rfl
          have f17_6_2 : w17.frozen? ⟨gb2, 2, none⟩ = false := blk_frozen (O17.out.blk (i := 6) rfl) 2
          have n17_4_1 : gb1 ≠ gm := O17.out.ne (i := 4) (j := 1) rfl rfl (by decide)
          have n17_4_6 : gb1 ≠ gb2 := O17.out.ne (i := 4) (j := 6) rfl rfl (by decide)
          have n17_1_4 : gm ≠ gb1 := O17.out.ne (i := 1) (j := 4) rfl rfl (by decide)
          have n17_1_6 : gm ≠ gb2 := O17.out.ne (i := 1) (j := 6) rfl rfl (by decide)
          have n17_6_4 : gb2 ≠ gb1 := O17.out.ne (i := 6) (j := 4) rfl rfl (by decide)
          have n17_6_1 : gb2 ≠ gm := O17.out.ne (i := 6) (j := 1) rfl rfl (by decide)
          clear o_ k_ hb_
          clear hHeld
          refine hK_.out _ _ ⟨((blk_cell (O17.out.blk (i := 1) rfl) 0).trans rfl), ((blk_cell (O17.out.blk (i := 1) rfl) 1).trans rfl), ((blk_cell (O17.out.blk (i := 1) rfl) 2).trans rfl), ((blk_cell (O17.out.blk (i := 4) rfl) 0).trans rfl), ((blk_cell (O17.out.blk (i := 4) rfl) 1).trans rfl), ((blk_cell (O17.out.blk (i := 4) rfl) 2).trans rfl), ((blk_cell (O17.out.blk (i := 6) rfl) 0).trans rfl), ((blk_cell (O17.out.blk (i := 6) rfl) 1).trans rfl), ((blk_cell (O17.out.blk (i := 6) rfl) 2).trans rfl)⟩ (fun hHeld => ?_)
          clear hK_ K_
          refine norm_ (a' := ?_) ?_ ?_
          rotate_left
          · simp only [Act.put, List.setIfInBounds_toArray, List.set_cons_zero, List.set_cons_succ, i64_w, i32_w]
            rfl
          refine pure_ (i := 7) (N := some 68) (v := ?_) (a' := ?_) #[true, true, true, true, true, true, true, true, false, false, false, false, false, false, false, false, false, false, false] rfl rfl (by kernel_rfl) (fun _ _ _ h => h) (Or.inl ⟨by rfl, ?_⟩) ?_ ?_
          rotate_left
          · intro w'
            go_simp
            with_reducible rfl
          rotate_left
          · simp only [Act.put, List.setIfInBounds_toArray, List.set_cons_zero, List.set_cons_succ, i64_w, i32_w]
            rfl
          refine pure_ (i := 8) (N := some 69) (v := ?_) (a' := ?_) #[true, true, true, true, true, true, true, true, true, false, false, false, false, false, false, false, false, false, false] rfl rfl (by kernel_rfl) (fun _ _ _ h => h) (Or.inl ⟨by rfl, ?_⟩) ?_ ?_
          rotate_left
          · intro w'
            go_simp
            with_reducible rfl
          rotate_left
          · simp only [Act.put, List.setIfInBounds_toArray, List.set_cons_zero, List.set_cons_succ, i64_w, i32_w]
            rfl
          refine pure_ (i := 9) (N := some 70) (v := ?_) (a' := ?_) #[true, true, true, true, true, true, true, true, true, true, false, false, false, false, false, false, false, false, false] rfl rfl (by kernel_rfl) (fun _ _ _ h => h) (Or.inl ⟨by rfl, ?_⟩) ?_ ?_
          rotate_left
          · intro w'
            go_simp
            with_reducible rfl
          rotate_left
          · simp only [Act.put, List.setIfInBounds_toArray, List.set_cons_zero, List.set_cons_succ, i64_w, i32_w]
            rfl
          refine pure_ (i := 10) (N := some 71) (v := ?_) (a' := ?_) #[true, true, true, true, true, true, true, true, true, true, true, false, false, false, false, false, false, false, false] rfl rfl (by kernel_rfl) (fun _ _ _ h => h) (Or.inl ⟨by rfl, ?_⟩) ?_ ?_
          rotate_left
          · intro w'
            go_simp
            with_reducible rfl
          rotate_left
          · simp only [Act.put, List.setIfInBounds_toArray, List.set_cons_zero, List.set_cons_succ, i64_w, i32_w]
            rfl
          refine pure_ (i := 12) (N := some 73) (v := ?_) (a' := ?_) #[true, true, true, true, true, true, true, true, true, true, true, false, true, false, false, false, false, false, false] rfl rfl (by kernel_rfl) (fun _ _ _ h => h) (Or.inl ⟨by rfl, ?_⟩) ?_ ?_
          rotate_left
          · intro w'
            go_simp
            with_reducible rfl
          rotate_left
          · simp only [Act.put, List.setIfInBounds_toArray, List.set_cons_zero, List.set_cons_succ, i64_w, i32_w]
            rfl
          refine pure_ (i := 13) (N := some 74) (v := ?_) (a' := ?_) #[true, true, true, true, true, true, true, true, true, true, true, false, true, true, false, false, false, false, false] rfl rfl (by kernel_rfl) (fun _ _ _ h => h) (Or.inl ⟨by rfl, ?_⟩) ?_ ?_
          rotate_left
          · intro w'
            go_simp
            with_reducible rfl
          rotate_left
          · simp only [Act.put, List.setIfInBounds_toArray, List.set_cons_zero, List.set_cons_succ, i64_w, i32_w]
            rfl
          refine pure_ (i := 14) (N := some 75) (v := ?_) (a' := ?_) #[true, true, true, true, true, true, true, true, true, true, true, false, true, true, true, false, false, false, false] rfl rfl (by kernel_rfl) (fun _ _ _ h => h) (Or.inl ⟨by rfl, ?_⟩) ?_ ?_
          rotate_left
          · intro w'
            go_simp
            with_reducible rfl
          rotate_left
          · simp only [Act.put, List.setIfInBounds_toArray, List.set_cons_zero, List.set_cons_succ, i64_w, i32_w]
            rfl
          refine take_ (i := 15) (N := some 76) (v := ?_) (a' := ?_) #[true, true, true, true, true, true, true, true, true, true, true, false, true, true, true, true, false, false, false] rfl rfl (by kernel_rfl) (fun _ _ _ h => h) (Or.inl ⟨by rfl, ?_⟩) hHeld ?_ ?_
          rotate_left
          · rintro w' ⟨s0, s1, s2, s3, s4, s5, s6, s7, s8⟩
            go_simp
            with_reducible rfl
          rotate_left
          · simp only [Act.put, List.setIfInBounds_toArray, List.set_cons_zero, List.set_cons_succ, i64_w, i32_w]
            rfl
          refine pure_ (i := 16) (N := some 77) (v := ?_) (a' := ?_) #[true, true, true, true, true, true, true, true, true, true, true, false, true, true, true, true, true, false, false] rfl rfl (by kernel_rfl) (fun _ _ _ h => h) (Or.inl ⟨by rfl, ?_⟩) ?_ ?_
          rotate_left
          · intro w'
            go_simp
            with_reducible rfl
          rotate_left
          · simp only [Act.put, List.setIfInBounds_toArray, List.set_cons_zero, List.set_cons_succ, i64_w, i32_w]
            rfl
          refine one_ (i := 11) (N := some 72) #[true, true, true, true, true, true, true, true, true, true, true, true, true, true, true, true, true, false, false] rfl rfl (by kernel_rfl) (by decide) (fun K_ hK_ => ?_)
          refine goes_ Try.func15 (by kernel_rfl) rfl #[.pointer (some ⟨gj, 0, none⟩)] (by rfl) rfl rfl (by (try simp only [List.map_toArray, List.map_cons, List.map_nil]); first | done | rfl) ?_
          obtain ⟨N_, on_, nn_, rr_, bb_⟩ := O17.out.frame1 (i := 0) rfl
          refine (Len_n ((L ++ [(⟨a0_0, (L.length : Int) + 1, (rd_L3 l0 x)⟩ : Rnd)]).length : Int) rfl on_).mono ?_
          rintro e_ w18 ⟨rfl, oo_, kk_⟩
          obtain ⟨o_, k_⟩ := bb_ _ _ _ kk_ oo_
          refine ⟨_, rfl, ?_⟩
          have O18 : Aside0 (Own N w18 [Obj3 52 gj a0_0 M (L ++ [(⟨a0_0, (L.length : Int) + 1, (rd_L3 l0 x)⟩ : Rnd)]), cells gm #[.int .i64 a0_0, .int .i64 M, .slice B5 (L ++ [(⟨a0_0, (L.length : Int) + 1, (rd_L3 l0 x)⟩ : Rnd)]).length d5] 42, nrow k50 50 (.slice B2 ((rd_L3 l0 x)).length d2) ((rd_L3 l0 x)), nrow k50 50 (.slice B3 (rd_L3 l0 x).length d3) (rd_L3 l0 x), cells gb1 #[.int .i64 a0_0, .int .i64 ((L.length : Int) + 1), .slice B3 (rd_L3 l0 x).length d3] 32, both (nrow k32 32 (.slice B5 (L ++ [(⟨a0_0, (L.length : Int) + 1, (rd_L3 l0 x)⟩ : Rnd)]).length d5) (L ++ [(⟨a0_0, (L.length : Int) + 1, (rd_L3 l0 x)⟩ : Rnd)])) (rd k50 B4 (rd_L3 l0 x).length (rd_L3 l0 x)), cells gb2 #[.int .i64 a0_0, .int .i64 ((L.length : Int) + 1), .slice B4 (rd_L3 l0 x).length d4] 32]) := ⟨o_⟩
          have K18 : Aside0 (KeepS N w w18) := ⟨K17.out.trans k_⟩
          have HRI_18 : Aside0 (Kd.F k50 w18 N A3 (rd_L3 l0 x).length (rd_L3 l0 x)) := ⟨keepF HRI_17.out k_⟩
          clear c17_4_0 f17_4_0 c17_4_1 f17_4_1 c17_4_2 f17_4_2 c17_1_0 f17_1_0 c17_1_1 f17_1_1 c17_1_2 f17_1_2 c17_6_0 f17_6_0 c17_6_1 f17_6_1 c17_6_2 f17_6_2 n17_4_1 n17_4_6 n17_1_4 n17_1_6 n17_6_4 n17_6_1 O17 K17 HRI_17
          have c18_4_0 : w18.cell? ⟨gb1, 0, none⟩ = some (.int .i64 a0_0) := (blk_cell (O18.out.blk (i := 4) rfl) 0).trans rfl
          have f18_4_0 : w18.frozen? ⟨gb1, 0, none⟩ = false := blk_frozen (O18.out.blk (i := 4) rfl) 0
          have c18_4_1 : w18.cell? ⟨gb1, 1, none⟩ = some (.int .i64 ((L.length : Int) + 1)) := (blk_cell (O18.out.blk (i := 4) rfl) 1).trans rfl
          have f18_4_1 : w18.frozen? ⟨gb1, 1, none⟩ = false := blk_frozen (O18.out.blk (i := 4) rfl) 1
          have c18_4_2 : w18.cell? ⟨gb1, 2, none⟩ = some (.slice B3 (rd_L3 l0 x).length d3) := (blk_cell (O18.out.blk (i := 4) rfl) 2).trans rfl
          have f18_4_2 : w18.frozen? ⟨gb1, 2, none⟩ = false := blk_frozen (O18.out.blk (i := 4) rfl) 2
          have c18_1_0 : w18.cell? ⟨gm, 0, none⟩ = some (.int .i64 a0_0) := (blk_cell (O18.out.blk (i := 1) rfl) 0).trans rfl
          have f18_1_0 : w18.frozen? ⟨gm, 0, none⟩ = false := blk_frozen (O18.out.blk (i := 1) rfl) 0
          have c18_1_1 : w18.cell? ⟨gm, 1, none⟩ = some (.int .i64 M) := (blk_cell (O18.out.blk (i := 1) rfl) 1).trans rfl
          have f18_1_1 : w18.frozen? ⟨gm, 1, none⟩ = false := blk_frozen (O18.out.blk (i := 1) rfl) 1
          have c18_1_2 : w18.cell? ⟨gm, 2, none⟩ = some (.slice B5 (L ++ [(⟨a0_0, (L.length : Int) + 1, (rd_L3 l0 x)⟩ : Rnd)]).length d5) := (blk_cell (O18.out.blk (i := 1) rfl) 2).trans rfl
          have f18_1_2 : w18.frozen? ⟨gm, 2, none⟩ = false := blk_frozen (O18.out.blk (i := 1) rfl) 2
          have c18_6_0 : w18.cell? ⟨gb2, 0, none⟩ = some (.int .i64 a0_0) := (blk_cell (O18.out.blk (i := 6) rfl) 0).trans rfl
          have f18_6_0 : w18.frozen? ⟨gb2, 0, none⟩ = false := blk_frozen (O18.out.blk (i := 6) rfl) 0
          have c18_6_1 : w18.cell? ⟨gb2, 1, none⟩ = some (.int .i64 ((L.length : Int) + 1)) := (blk_cell (O18.out.blk (i := 6) rfl) 1).trans rfl
          have f18_6_1 : w18.frozen? ⟨gb2, 1, none⟩ = false := blk_frozen (O18.out.blk (i := 6) rfl) 1
          have c18_6_2 : w18.cell? ⟨gb2, 2, none⟩ = some (.slice B4 (rd_L3 l0 x).length d4) := (blk_cell (O18.out.blk (i := 6) rfl) 2).trans rfl
          have f18_6_2 : w18.frozen? ⟨gb2, 2, none⟩ = false := blk_frozen (O18.out.blk (i := 6) rfl) 2
          have n18_4_1 : gb1 ≠ gm := O18.out.ne (i := 4) (j := 1) rfl rfl (by decide)
          have n18_4_6 : gb1 ≠ gb2 := O18.out.ne (i := 4) (j := 6) rfl rfl (by decide)
          have n18_1_4 : gm ≠ gb1 := O18.out.ne (i := 1) (j := 4) rfl rfl (by decide)
          have n18_1_6 : gm ≠ gb2 := O18.out.ne (i := 1) (j := 6) rfl rfl (by decide)
          have n18_6_4 : gb2 ≠ gb1 := O18.out.ne (i := 6) (j := 4) rfl rfl (by decide)
          have n18_6_1 : gb2 ≠ gm := O18.out.ne (i := 6) (j := 1) rfl rfl (by decide)
          clear o_ k_ oo_ kk_ on_ nn_ rr_ bb_
          clear hHeld
          refine hK_.out _ _ ⟨((blk_cell (O18.out.blk (i := 1) rfl) 0).trans rfl), ((blk_cell (O18.out.blk (i := 1) rfl) 1).trans rfl), ((blk_cell (O18.out.blk (i := 1) rfl) 2).trans rfl), ((blk_cell (O18.out.blk (i := 4) rfl) 0).trans rfl), ((blk_cell (O18.out.blk (i := 4) rfl) 1).trans rfl), ((blk_cell (O18.out.blk (i := 4) rfl) 2).trans rfl), ((blk_cell (O18.out.blk (i := 6) rfl) 0).trans rfl), ((blk_cell (O18.out.blk (i := 6) rfl) 1).trans rfl), ((blk_cell (O18.out.blk (i := 6) rfl) 2).trans rfl)⟩ (fun hHeld => ?_)
          clear hK_ K_
          refine norm_ (a' := ?_) ?_ ?_
          rotate_left
          · simp only [Act.put, List.setIfInBounds_toArray, List.set_cons_zero, List.set_cons_succ, i64_w, i32_w]
            rfl
          refine pure_ (i := 17) (N := some 78) (v := ?_) (a' := ?_) #[true, true, true, true, true, true, true, true, true, true, true, true, true, true, true, true, true, true, false] rfl rfl (by kernel_rfl) (fun _ _ _ h => h) (Or.inl ⟨by rfl, ?_⟩) ?_ ?_
          rotate_left
          · intro w'
            go_simp
            with_reducible rfl
          rotate_left
          · simp only [Act.put, List.setIfInBounds_toArray, List.set_cons_zero, List.set_cons_succ, i64_w, i32_w]
            rfl
          refine pure_ (i := 18) (N := some 79) (v := ?_) (a' := ?_) #[true, true, true, true, true, true, true, true, true, true, true, true, true, true, true, true, true, true, true] rfl rfl (by kernel_rfl) (fun _ _ _ h => h) (Or.inl ⟨by rfl, ?_⟩) ?_ ?_
          rotate_left
          · intro w'
            go_simp
            with_reducible rfl
          rotate_left
          · simp only [Act.put, List.setIfInBounds_toArray, List.set_cons_zero, List.set_cons_succ, i64_w, i32_w]
            rfl
          refine done_ (by kernel_rfl) ?_
          clear hHeld
          go_wp2
          go_roundw
          case rel => exact ⟨x + 1, (L ++ [(⟨a0_0, (L.length : Int) + 1, (rd_L3 l0 x)⟩ : Rnd)]), by have := HX.out; omega, by have := HX.out; omega, int_eq (by unfold wrap64; have := HX.out; have := HL30.out; omega), ⟨⟨by have := HI.out.1; have := HX.out; simp; omega, by have := HLM.out; simp; omega, addS HI.out.2.2 HE.out⟩⟩, ⟨((((Obj3.shut2 (i := 1) (j := 5) O18.out rfl rfl (by decide)).conv (i := 1) rfl (Obj3 42 gm a0_0 M (L ++ [(⟨a0_0, (L.length : Int) + 1, (rd_L3 l0 x)⟩ : Rnd)])) (fun F hp _ => hp.1))).pick2 (a := 0) (b := 1) rfl rfl (by decide))⟩, K18⟩
          case measure => have := HX.out; simp [intOf]; omega
        · have HE := Aside0.mk he
          obtain ⟨E, hE⟩ : ∃ E, E = addE a0_0 M L (rd_L3 l0 x) := ⟨_, rfl⟩
          have HE2 := Aside0.mk hE.symm
          have hz : (E == 0) = false := beq_eq_false_iff_ne.2 (by rw [hE]; exact he)
          have hz2 : (E != 0) = true := by rw [bne_iff_ne, hE]; exact he
          have hz3 : (E != E) = false := by simp
          have HE3 : Aside0 (E ≠ 0) := ⟨by rw [hE]; exact he⟩
          clear hE
          clear he hlt hx0 hx1
          go_wp2_with (first | ((with_reducible refine gate_dst (N := 49) rfl ?_); refine own_lit k50 (N := N) (e := 50) (xs := []) (inner := []) rfl (D := 49) rfl ?hr (Reps.none _ _) (by simp) O7.out ?_; (case hr => first | (go_simp; done) | (go_simp; rfl)); intro B1 d1 w8 o_ k_; have O8 : Aside0 (Own N w8 [Obj3 52 gj a0_0 M L, Obj3 42 gm a0_0 M L, nrow k50 50 (.slice B1 0 d1) []]) := ⟨o_⟩; have K8 : Aside0 (KeepS N w w8) := ⟨K7.out.trans k_⟩; have HRI_8 : Aside0 (Kd.F k50 w8 N A3 (rd_L3 l0 x).length (rd_L3 l0 x)) := ⟨keepF HRI_7.out k_⟩; clear O7 K7 HRI_7; clear o_ k_) | ((with_reducible refine gate_builtin (b := .append) (xs := #[.tmp 49, .tmp 50]) rfl ?_); at_builtin; refine Own.append_flat k50 flatU O8.out (i := 2) (ys := (rd_L3 l0 x)) rfl (Kd.F_now HRI_8.out) rfl (.tmp 49) (.tmp 50) 30 (.agg #[.string ⟨#[]⟩, .int .i64 0, .int .i64 0, .string ⟨#[]⟩]) 48 rfl Try.underlying30 info50 rfl (by decide) (by decide) rfl rfl (by have := HU.out; simp only [List.length_nil]; omega) ?_; intro B2 d2 w9 o_ k_; have O9 : Aside0 (Own N w9 [Obj3 52 gj a0_0 M L, Obj3 42 gm a0_0 M L, nrow k50 50 (.slice B2 ((rd_L3 l0 x)).length d2) ((rd_L3 l0 x))]) := ⟨o_⟩; have K9 : Aside0 (KeepS N w w9) := ⟨K8.out.trans k_⟩; have HRI_9 : Aside0 (Kd.F k50 w9 N A3 (rd_L3 l0 x).length (rd_L3 l0 x)) := ⟨keepF HRI_8.out k_⟩; clear O8 K8 HRI_8; clear o_ k_) | ((with_reducible refine gate_callee (f := 12) rfl ?_); refine goesL_ (some 52) rfl rfl Try.func12 (by kernel_rfl) rfl #[.pointer (some ⟨gj, 0, none⟩), .slice B2 (rd_L3 l0 x).length d2] rfl (by (try simp only [List.map_toArray, List.map_cons, List.map_nil]); first | done | rfl) ?_; obtain ⟨N_, on_, nn_, rr_, bb_⟩ := O9.out.frame1 (i := 0) rfl; have hr_ := Kd.N_F (rr_ 2 _ (by decide) rfl); have hc_ := (O9.out.nreads (i := 2) rfl).2.1; refine (Add_n B2 d2 (rd_L3 l0 x) on_ hr_ hc_ HLL.out HU.out E HE2.out HE3.out).mono ?_; rintro e_ w10 ⟨B3, d3, rfl, oo_, kk_⟩; obtain ⟨o_, k_⟩ := bb_ _ _ _ kk_ oo_; refine ⟨_, rfl, ?_⟩; have O10 : Aside0 (Own N w10 [Obj3 52 gj a0_0 M L, Obj3 42 gm a0_0 M L, nrow k50 50 (.slice B2 ((rd_L3 l0 x)).length d2) ((rd_L3 l0 x)), nrow k50 50 (.slice B3 0 d3) ([] : List Upd)]) := ⟨o_⟩; have K10 : Aside0 (KeepS N w w10) := ⟨K9.out.trans k_⟩; have HRI_10 : Aside0 (Kd.F k50 w10 N A3 (rd_L3 l0 x).length (rd_L3 l0 x)) := ⟨keepF HRI_9.out k_⟩; clear O9 K9 HRI_9; clear o_ k_ oo_ kk_ on_ nn_ rr_ bb_ hr_ hc_) | ((with_reducible refine gate_dst (N := 9) rfl ?_); refine own_box rfl (D := 9) rfl (cs := #[.int .i64 0, .int .i64 0, .slice none 0 0]) (t := 32) ?hr O10.out ?_; (case hr => first | (go_simp; done) | (go_simp; rfl)); intro gb1 w11 o_ k_; have O11 : Aside0 (Own N w11 [Obj3 52 gj a0_0 M L, Obj3 42 gm a0_0 M L, nrow k50 50 (.slice B2 ((rd_L3 l0 x)).length d2) ((rd_L3 l0 x)), nrow k50 50 (.slice B3 0 d3) ([] : List Upd), cells gb1 #[.int .i64 0, .int .i64 0, .slice none 0 0] 32]) := ⟨o_⟩; have K11 : Aside0 (KeepS N w w11) := ⟨K10.out.trans k_⟩; have HRI_11 : Aside0 (Kd.F k50 w11 N A3 (rd_L3 l0 x).length (rd_L3 l0 x)) := ⟨keepF HRI_10.out k_⟩; clear O10 K10 HRI_10; have c11_4_0 : w11.cell? ⟨gb1, 0, none⟩ = some (.int .i64 0) := (blk_cell (O11.out.blk (i := 4) rfl) 0).trans rfl; have f11_4_0 : w11.frozen? ⟨gb1, 0, none⟩ = false := blk_frozen (O11.out.blk (i := 4) rfl) 0; have c11_4_1 : w11.cell? ⟨gb1, 1, none⟩ = some (.int .i64 0) := (blk_cell (O11.out.blk (i := 4) rfl) 1).trans rfl; have f11_4_1 : w11.frozen? ⟨gb1, 1, none⟩ = false := blk_frozen (O11.out.blk (i := 4) rfl) 1; have c11_4_2 : w11.cell? ⟨gb1, 2, none⟩ = some (.slice none 0 0) := (blk_cell (O11.out.blk (i := 4) rfl) 2).trans rfl; have f11_4_2 : w11.frozen? ⟨gb1, 2, none⟩ = false := blk_frozen (O11.out.blk (i := 4) rfl) 2; clear o_ k_) | ((with_reducible refine gate_store (t := 32) (p := 9) rfl ?_); refine own_store rfl rfl rfl (w1 := (World.setCell (World.setCell (World.setCell w11 ⟨gb1, 0, none⟩ (.int .i64 0)) ⟨gb1, 1, none⟩ (.int .i64 0)) ⟨gb1, 2, none⟩ (.slice B3 0 d3))) (N := N) (l' := [Obj3 52 gj a0_0 M L, Obj3 42 gm a0_0 M L, nrow k50 50 (.slice B2 ((rd_L3 l0 x)).length d2) ((rd_L3 l0 x)), nrow k50 50 (.slice B3 0 d3) ([] : List Upd), cells gb1 #[.int .i64 0, .int .i64 0, .slice B3 0 d3] 32]) ?hr ?ho ?hk ?_; (case hr => first | (go_simp; done) | (go_simp; rfl)); (case ho => exact (((O11.out.set (i := 4) rfl 0 (.int .i64 0)).set (i := 4) rfl 1 (.int .i64 0)).set (i := 4) rfl 2 (.slice B3 0 d3))); (case hk => exact (((KeepS.setCell (O11.out.far (i := 4) rfl) (.int .i64 0)).trans (KeepS.setCell (O11.out.far (i := 4) rfl) (.int .i64 0))).trans (KeepS.setCell (O11.out.far (i := 4) rfl) (.slice B3 0 d3)))); intro w12 o_ k_; have O12 : Aside0 (Own N w12 [Obj3 52 gj a0_0 M L, Obj3 42 gm a0_0 M L, nrow k50 50 (.slice B2 ((rd_L3 l0 x)).length d2) ((rd_L3 l0 x)), nrow k50 50 (.slice B3 0 d3) ([] : List Upd), cells gb1 #[.int .i64 0, .int .i64 0, .slice B3 0 d3] 32]) := ⟨o_⟩; have K12 : Aside0 (KeepS N w w12) := ⟨K11.out.trans k_⟩; have HRI_12 : Aside0 (Kd.F k50 w12 N A3 (rd_L3 l0 x).length (rd_L3 l0 x)) := ⟨keepF HRI_11.out k_⟩; clear c11_4_0 f11_4_0 c11_4_1 f11_4_1 c11_4_2 f11_4_2 O11 K11 HRI_11; have c12_4_0 : w12.cell? ⟨gb1, 0, none⟩ = some (.int .i64 0) := (blk_cell (O12.out.blk (i := 4) rfl) 0).trans rfl; have f12_4_0 : w12.frozen? ⟨gb1, 0, none⟩ = false := blk_frozen (O12.out.blk (i := 4) rfl) 0; have c12_4_1 : w12.cell? ⟨gb1, 1, none⟩ = some (.int .i64 0) := (blk_cell (O12.out.blk (i := 4) rfl) 1).trans rfl; have f12_4_1 : w12.frozen? ⟨gb1, 1, none⟩ = false := blk_frozen (O12.out.blk (i := 4) rfl) 1; have c12_4_2 : w12.cell? ⟨gb1, 2, none⟩ = some (.slice B3 0 d3) := (blk_cell (O12.out.blk (i := 4) rfl) 2).trans rfl; have f12_4_2 : w12.frozen? ⟨gb1, 2, none⟩ = false := blk_frozen (O12.out.blk (i := 4) rfl) 2; clear o_ k_) | ((with_reducible refine gate_callee (f := 13) rfl ?_); refine goesL_ (some 58) rfl rfl Try.func13 (by kernel_rfl) rfl #[.pointer (some ⟨gm, 0, none⟩), .slice A3 (rd_L3 l0 x).length c3] rfl (by (try simp only [List.map_toArray, List.map_cons, List.map_nil]); first | done | rfl) ?_; obtain ⟨N_, on_, nn_, rr_, bb_⟩ := O12.out.frame1 (i := 1) rfl; have hr_ := Kd.F_mono HRI_12.out nn_; refine (RAdd_n A3 c3 (rd_L3 l0 x) on_ hr_ HC3.out HLL.out HU.out HI.out.2.1 E HE2.out HE3.out).mono ?_; rintro e_ w13 ⟨B4, d4, B5, d5, rfl, hcc_, oo_, kk_⟩; obtain ⟨o_, k_⟩ := bb_ _ _ _ kk_ oo_; refine ⟨_, rfl, ?_⟩; have O13 : Aside0 (Own N w13 [Obj3 52 gj a0_0 M L, cells gm #[.int .i64 a0_0, .int .i64 M, .slice B5 L.length d5] 42, nrow k50 50 (.slice B2 ((rd_L3 l0 x)).length d2) ((rd_L3 l0 x)), nrow k50 50 (.slice B3 0 d3) ([] : List Upd), cells gb1 #[.int .i64 0, .int .i64 0, .slice B3 0 d3] 32, both (nrow k32 32 (.slice B5 L.length d5) L) (rd k50 B4 0 ([] : List Upd))]) := ⟨o_⟩; have K13 : Aside0 (KeepS N w w13) := ⟨K12.out.trans k_⟩; have HRI_13 : Aside0 (Kd.F k50 w13 N A3 (rd_L3 l0 x).length (rd_L3 l0 x)) := ⟨keepF HRI_12.out k_⟩; clear c12_4_0 f12_4_0 c12_4_1 f12_4_1 c12_4_2 f12_4_2 O12 K12 HRI_12; have c13_4_0 : w13.cell? ⟨gb1, 0, none⟩ = some (.int .i64 0) := (blk_cell (O13.out.blk (i := 4) rfl) 0).trans rfl; have f13_4_0 : w13.frozen? ⟨gb1, 0, none⟩ = false := blk_frozen (O13.out.blk (i := 4) rfl) 0; have c13_4_1 : w13.cell? ⟨gb1, 1, none⟩ = some (.int .i64 0) := (blk_cell (O13.out.blk (i := 4) rfl) 1).trans rfl; have f13_4_1 : w13.frozen? ⟨gb1, 1, none⟩ = false := blk_frozen (O13.out.blk (i := 4) rfl) 1; have c13_4_2 : w13.cell? ⟨gb1, 2, none⟩ = some (.slice B3 0 d3) := (blk_cell (O13.out.blk (i := 4) rfl) 2).trans rfl; have f13_4_2 : w13.frozen? ⟨gb1, 2, none⟩ = false := blk_frozen (O13.out.blk (i := 4) rfl) 2; have HCC := Aside0.mk hcc_; clear hcc_; clear o_ k_ oo_ kk_ on_ nn_ rr_ bb_ hr_; clear c13_4_0 f13_4_0 c13_4_1 f13_4_1 c13_4_2 f13_4_2; have c13_4_0 : w13.cell? ⟨gb1, 0, none⟩ = some (.int .i64 0) := (blk_cell (O13.out.blk (i := 4) rfl) 0).trans rfl; have f13_4_0 : w13.frozen? ⟨gb1, 0, none⟩ = false := blk_frozen (O13.out.blk (i := 4) rfl) 0; have c13_4_1 : w13.cell? ⟨gb1, 1, none⟩ = some (.int .i64 0) := (blk_cell (O13.out.blk (i := 4) rfl) 1).trans rfl; have f13_4_1 : w13.frozen? ⟨gb1, 1, none⟩ = false := blk_frozen (O13.out.blk (i := 4) rfl) 1; have c13_4_2 : w13.cell? ⟨gb1, 2, none⟩ = some (.slice B3 0 d3) := (blk_cell (O13.out.blk (i := 4) rfl) 2).trans rfl; have f13_4_2 : w13.frozen? ⟨gb1, 2, none⟩ = false := blk_frozen (O13.out.blk (i := 4) rfl) 2; have c13_1_0 : w13.cell? ⟨gm, 0, none⟩ = some (.int .i64 a0_0) := (blk_cell (O13.out.blk (i := 1) rfl) 0).trans rfl; have f13_1_0 : w13.frozen? ⟨gm, 0, none⟩ = false := blk_frozen (O13.out.blk (i := 1) rfl) 0; have c13_1_1 : w13.cell? ⟨gm, 1, none⟩ = some (.int .i64 M) := (blk_cell (O13.out.blk (i := 1) rfl) 1).trans rfl; have f13_1_1 : w13.frozen? ⟨gm, 1, none⟩ = false := blk_frozen (O13.out.blk (i := 1) rfl) 1; have c13_1_2 : w13.cell? ⟨gm, 2, none⟩ = some (.slice B5 L.length d5) := (blk_cell (O13.out.blk (i := 1) rfl) 2).trans rfl; have f13_1_2 : w13.frozen? ⟨gm, 2, none⟩ = false := blk_frozen (O13.out.blk (i := 1) rfl) 2; have n13_4_1 : gb1 ≠ gm := O13.out.ne (i := 4) (j := 1) rfl rfl (by decide); have n13_1_4 : gm ≠ gb1 := O13.out.ne (i := 1) (j := 4) rfl rfl (by decide)) | ((with_reducible refine gate_dst (N := 11) rfl ?_); refine own_box rfl (D := 11) rfl (cs := #[.int .i64 0, .int .i64 0, .slice none 0 0]) (t := 32) ?hr O13.out ?_; (case hr => first | (go_simp; done) | (go_simp; rfl)); intro gb2 w14 o_ k_; have O14 : Aside0 (Own N w14 [Obj3 52 gj a0_0 M L, cells gm #[.int .i64 a0_0, .int .i64 M, .slice B5 L.length d5] 42, nrow k50 50 (.slice B2 ((rd_L3 l0 x)).length d2) ((rd_L3 l0 x)), nrow k50 50 (.slice B3 0 d3) ([] : List Upd), cells gb1 #[.int .i64 0, .int .i64 0, .slice B3 0 d3] 32, both (nrow k32 32 (.slice B5 L.length d5) L) (rd k50 B4 0 ([] : List Upd)), cells gb2 #[.int .i64 0, .int .i64 0, .slice none 0 0] 32]) := ⟨o_⟩; have K14 : Aside0 (KeepS N w w14) := ⟨K13.out.trans k_⟩; have HRI_14 : Aside0 (Kd.F k50 w14 N A3 (rd_L3 l0 x).length (rd_L3 l0 x)) := ⟨keepF HRI_13.out k_⟩; clear c13_4_0 f13_4_0 c13_4_1 f13_4_1 c13_4_2 f13_4_2 c13_1_0 f13_1_0 c13_1_1 f13_1_1 c13_1_2 f13_1_2 n13_4_1 n13_1_4 O13 K13 HRI_13; have c14_4_0 : w14.cell? ⟨gb1, 0, none⟩ = some (.int .i64 0) := (blk_cell (O14.out.blk (i := 4) rfl) 0).trans rfl; have f14_4_0 : w14.frozen? ⟨gb1, 0, none⟩ = false := blk_frozen (O14.out.blk (i := 4) rfl) 0; have c14_4_1 : w14.cell? ⟨gb1, 1, none⟩ = some (.int .i64 0) := (blk_cell (O14.out.blk (i := 4) rfl) 1).trans rfl; have f14_4_1 : w14.frozen? ⟨gb1, 1, none⟩ = false := blk_frozen (O14.out.blk (i := 4) rfl) 1; have c14_4_2 : w14.cell? ⟨gb1, 2, none⟩ = some (.slice B3 0 d3) := (blk_cell (O14.out.blk (i := 4) rfl) 2).trans rfl; have f14_4_2 : w14.frozen? ⟨gb1, 2, none⟩ = false := blk_frozen (O14.out.blk (i := 4) rfl) 2; have c14_1_0 : w14.cell? ⟨gm, 0, none⟩ = some (.int .i64 a0_0) := (blk_cell (O14.out.blk (i := 1) rfl) 0).trans rfl; have f14_1_0 : w14.frozen? ⟨gm, 0, none⟩ = false := blk_frozen (O14.out.blk (i := 1) rfl) 0; have c14_1_1 : w14.cell? ⟨gm, 1, none⟩ = some (.int .i64 M) := (blk_cell (O14.out.blk (i := 1) rfl) 1).trans rfl; have f14_1_1 : w14.frozen? ⟨gm, 1, none⟩ = false := blk_frozen (O14.out.blk (i := 1) rfl) 1; have c14_1_2 : w14.cell? ⟨gm, 2, none⟩ = some (.slice B5 L.length d5) := (blk_cell (O14.out.blk (i := 1) rfl) 2).trans rfl; have f14_1_2 : w14.frozen? ⟨gm, 2, none⟩ = false := blk_frozen (O14.out.blk (i := 1) rfl) 2; have c14_6_0 : w14.cell? ⟨gb2, 0, none⟩ = some (.int .i64 0) := (blk_cell (O14.out.blk (i := 6) rfl) 0).trans rfl; have f14_6_0 : w14.frozen? ⟨gb2, 0, none⟩ = false := blk_frozen (O14.out.blk (i := 6) rfl) 0; have c14_6_1 : w14.cell? ⟨gb2, 1, none⟩ = some (.int .i64 0) := (blk_cell (O14.out.blk (i := 6) rfl) 1).trans rfl; have f14_6_1 : w14.frozen? ⟨gb2, 1, none⟩ = false := blk_frozen (O14.out.blk (i := 6) rfl) 1; have c14_6_2 : w14.cell? ⟨gb2, 2, none⟩ = some (.slice none 0 0) := (blk_cell (O14.out.blk (i := 6) rfl) 2).trans rfl; have f14_6_2 : w14.frozen? ⟨gb2, 2, none⟩ = false := blk_frozen (O14.out.blk (i := 6) rfl) 2; have n14_4_1 : gb1 ≠ gm := O14.out.ne (i := 4) (j := 1) rfl rfl (by decide); have n14_4_6 : gb1 ≠ gb2 := O14.out.ne (i := 4) (j := 6) rfl rfl (by decide); have n14_1_4 : gm ≠ gb1 := O14.out.ne (i := 1) (j := 4) rfl rfl (by decide); have n14_1_6 : gm ≠ gb2 := O14.out.ne (i := 1) (j := 6) rfl rfl (by decide); have n14_6_4 : gb2 ≠ gb1 := O14.out.ne (i := 6) (j := 4) rfl rfl (by decide); have n14_6_1 : gb2 ≠ gm := O14.out.ne (i := 6) (j := 1) rfl rfl (by decide); clear o_ k_) | ((with_reducible refine gate_store (t := 32) (p := 11) rfl ?_); refine own_store rfl rfl rfl (w1 := (World.setCell (World.setCell (World.setCell w14 ⟨gb2, 0, none⟩ (.int .i64 0)) ⟨gb2, 1, none⟩ (.int .i64 0)) ⟨gb2, 2, none⟩ (.slice B4 0 d4))) (N := N) (l' := [Obj3 52 gj a0_0 M L, cells gm #[.int .i64 a0_0, .int .i64 M, .slice B5 L.length d5] 42, nrow k50 50 (.slice B2 ((rd_L3 l0 x)).length d2) ((rd_L3 l0 x)), nrow k50 50 (.slice B3 0 d3) ([] : List Upd), cells gb1 #[.int .i64 0, .int .i64 0, .slice B3 0 d3] 32, both (nrow k32 32 (.slice B5 L.length d5) L) (rd k50 B4 0 ([] : List Upd)), cells gb2 #[.int .i64 0, .int .i64 0, .slice B4 0 d4] 32]) ?hr ?ho ?hk ?_; (case hr => first | (go_simp; done) | (go_simp; rfl)); (case ho => exact (((O14.out.set (i := 6) rfl 0 (.int .i64 0)).set (i := 6) rfl 1 (.int .i64 0)).set (i := 6) rfl 2 (.slice B4 0 d4))); (case hk => exact (((KeepS.setCell (O14.out.far (i := 6) rfl) (.int .i64 0)).trans (KeepS.setCell (O14.out.far (i := 6) rfl) (.int .i64 0))).trans (KeepS.setCell (O14.out.far (i := 6) rfl) (.slice B4 0 d4)))); intro w15 o_ k_; have O15 : Aside0 (Own N w15 [Obj3 52 gj a0_0 M L, cells gm #[.int .i64 a0_0, .int .i64 M, .slice B5 L.length d5] 42, nrow k50 50 (.slice B2 ((rd_L3 l0 x)).length d2) ((rd_L3 l0 x)), nrow k50 50 (.slice B3 0 d3) ([] : List Upd), cells gb1 #[.int .i64 0, .int .i64 0, .slice B3 0 d3] 32, both (nrow k32 32 (.slice B5 L.length d5) L) (rd k50 B4 0 ([] : List Upd)), cells gb2 #[.int .i64 0, .int .i64 0, .slice B4 0 d4] 32]) := ⟨o_⟩; have K15 : Aside0 (KeepS N w w15) := ⟨K14.out.trans k_⟩; have HRI_15 : Aside0 (Kd.F k50 w15 N A3 (rd_L3 l0 x).length (rd_L3 l0 x)) := ⟨keepF HRI_14.out k_⟩; clear c14_4_0 f14_4_0 c14_4_1 f14_4_1 c14_4_2 f14_4_2 c14_1_0 f14_1_0 c14_1_1 f14_1_1 c14_1_2 f14_1_2 c14_6_0 f14_6_0 c14_6_1 f14_6_1 c14_6_2 f14_6_2 n14_4_1 n14_4_6 n14_1_4 n14_1_6 n14_6_4 n14_6_1 O14 K14 HRI_14; have c15_4_0 : w15.cell? ⟨gb1, 0, none⟩ = some (.int .i64 0) := (blk_cell (O15.out.blk (i := 4) rfl) 0).trans rfl; have f15_4_0 : w15.frozen? ⟨gb1, 0, none⟩ = false := blk_frozen (O15.out.blk (i := 4) rfl) 0; have c15_4_1 : w15.cell? ⟨gb1, 1, none⟩ = some (.int .i64 0) := (blk_cell (O15.out.blk (i := 4) rfl) 1).trans rfl; have f15_4_1 : w15.frozen? ⟨gb1, 1, none⟩ = false := blk_frozen (O15.out.blk (i := 4) rfl) 1; have c15_4_2 : w15.cell? ⟨gb1, 2, none⟩ = some (.slice B3 0 d3) := (blk_cell (O15.out.blk (i := 4) rfl) 2).trans rfl; have f15_4_2 : w15.frozen? ⟨gb1, 2, none⟩ = false := blk_frozen (O15.out.blk (i := 4) rfl) 2; have c15_1_0 : w15.cell? ⟨gm, 0, none⟩ = some (.int .i64 a0_0) := (blk_cell (O15.out.blk (i := 1) rfl) 0).trans rfl; have f15_1_0 : w15.frozen? ⟨gm, 0, none⟩ = false := blk_frozen (O15.out.blk (i := 1) rfl) 0; have c15_1_1 : w15.cell? ⟨gm, 1, none⟩ = some (.int .i64 M) := (blk_cell (O15.out.blk (i := 1) rfl) 1).trans rfl; have f15_1_1 : w15.frozen? ⟨gm, 1, none⟩ = false := blk_frozen (O15.out.blk (i := 1) rfl) 1; have c15_1_2 : w15.cell? ⟨gm, 2, none⟩ = some (.slice B5 L.length d5) := (blk_cell (O15.out.blk (i := 1) rfl) 2).trans rfl; have f15_1_2 : w15.frozen? ⟨gm, 2, none⟩ = false := blk_frozen (O15.out.blk (i := 1) rfl) 2; have c15_6_0 : w15.cell? ⟨gb2, 0, none⟩ = some (.int .i64 0) := (blk_cell (O15.out.blk (i := 6) rfl) 0).trans rfl; have f15_6_0 : w15.frozen? ⟨gb2, 0, none⟩ = false := blk_frozen (O15.out.blk (i := 6) rfl) 0; have c15_6_1 : w15.cell? ⟨gb2, 1, none⟩ = some (.int .i64 0) := (blk_cell (O15.out.blk (i := 6) rfl) 1).trans rfl; have f15_6_1 : w15.frozen? ⟨gb2, 1, none⟩ = false := blk_frozen (O15.out.blk (i := 6) rfl) 1; have c15_6_2 : w15.cell? ⟨gb2, 2, none⟩ = some (.slice B4 0 d4) := (blk_cell (O15.out.blk (i := 6) rfl) 2).trans rfl; have f15_6_2 : w15.frozen? ⟨gb2, 2, none⟩ = false := blk_frozen (O15.out.blk (i := 6) rfl) 2; have n15_4_1 : gb1 ≠ gm := O15.out.ne (i := 4) (j := 1) rfl rfl (by decide); have n15_4_6 : gb1 ≠ gb2 := O15.out.ne (i := 4) (j := 6) rfl rfl (by decide); have n15_1_4 : gm ≠ gb1 := O15.out.ne (i := 1) (j := 4) rfl rfl (by decide); have n15_1_6 : gm ≠ gb2 := O15.out.ne (i := 1) (j := 6) rfl rfl (by decide); have n15_6_4 : gb2 ≠ gb1 := O15.out.ne (i := 6) (j := 4) rfl rfl (by decide); have n15_6_1 : gb2 ≠ gm := O15.out.ne (i := 6) (j := 1) rfl rfl (by decide); clear o_ k_))
          refine start_ (n := 19) (S := fun w' => w'.cell? ⟨gm, 0, none⟩ = some (.int .i64 a0_0) ∧ w'.cell? ⟨gm, 1, none⟩ = some (.int .i64 M) ∧ w'.cell? ⟨gm, 2, none⟩ = some (.slice B5 L.length d5) ∧ w'.cell? ⟨gb1, 0, none⟩ = some (.int .i64 0) ∧ w'.cell? ⟨gb1, 1, none⟩ = some (.int .i64 0) ∧ w'.cell? ⟨gb1, 2, none⟩ = some (.slice B3 0 d3) ∧ w'.cell? ⟨gb2, 0, none⟩ = some (.int .i64 0) ∧ w'.cell? ⟨gb2, 1, none⟩ = some (.int .i64 0) ∧ w'.cell? ⟨gb2, 2, none⟩ = some (.slice B4 0 d4)) (ds := []) #[false, false, false, false, false, false, false, false, false, false, false, false, false, false, false, false, false, false, false] (by kernel_rfl) rfl rfl ⟨((blk_cell (O15.out.blk (i := 1) rfl) 0).trans rfl), ((blk_cell (O15.out.blk (i := 1) rfl) 1).trans rfl), ((blk_cell (O15.out.blk (i := 1) rfl) 2).trans rfl), ((blk_cell (O15.out.blk (i := 4) rfl) 0).trans rfl), ((blk_cell (O15.out.blk (i := 4) rfl) 1).trans rfl), ((blk_cell (O15.out.blk (i := 4) rfl) 2).trans rfl), ((blk_cell (O15.out.blk (i := 6) rfl) 0).trans rfl), ((blk_cell (O15.out.blk (i := 6) rfl) 1).trans rfl), ((blk_cell (O15.out.blk (i := 6) rfl) 2).trans rfl)⟩ (fun hHeld => ?_)
          obtain ⟨w16, hw_⟩ : ∃ W, W = w15.drew := ⟨_, rfl⟩
          have o_ := O15.out.drew
          have k_ : KeepS N w15 w15.drew := KeepS.drew
          rw [← hw_] at o_ k_ hHeld ⊢
          clear hw_
          have O16 : Aside0 (Own N w16 [Obj3 52 gj a0_0 M L, cells gm #[.int .i64 a0_0, .int .i64 M, .slice B5 L.length d5] 42, nrow k50 50 (.slice B2 ((rd_L3 l0 x)).length d2) ((rd_L3 l0 x)), nrow k50 50 (.slice B3 0 d3) ([] : List Upd), cells gb1 #[.int .i64 0, .int .i64 0, .slice B3 0 d3] 32, both (nrow k32 32 (.slice B5 L.length d5) L) (rd k50 B4 0 ([] : List Upd)), cells gb2 #[.int .i64 0, .int .i64 0, .slice B4 0 d4] 32]) := ⟨o_⟩
          have K16 : Aside0 (KeepS N w w16) := ⟨K15.out.trans k_⟩
          have HRI_16 : Aside0 (Kd.F k50 w16 N A3 (rd_L3 l0 x).length (rd_L3 l0 x)) := ⟨keepF HRI_15.out k_⟩
          clear c15_4_0 f15_4_0 c15_4_1 f15_4_1 c15_4_2 f15_4_2 c15_1_0 f15_1_0 c15_1_1 f15_1_1 c15_1_2 f15_1_2 c15_6_0 f15_6_0 c15_6_1 f15_6_1 c15_6_2 f15_6_2 n15_4_1 n15_4_6 n15_1_4 n15_1_6 n15_6_4 n15_6_1 O15 K15 HRI_15
          have c16_4_0 : w16.cell? ⟨gb1, 0, none⟩ = some (.int .i64 0) := (blk_cell (O16.out.blk (i := 4) rfl) 0).trans rfl
          have f16_4_0 : w16.frozen? ⟨gb1, 0, none⟩ = false := blk_frozen (O16.out.blk (i := 4) rfl) 0
          have c16_4_1 : w16.cell? ⟨gb1, 1, none⟩ = some (.int .i64 0) := (blk_cell (O16.out.blk (i := 4) rfl) 1).trans rfl
          have f16_4_1 : w16.frozen? ⟨gb1, 1, none⟩ = false := blk_frozen (O16.out.blk (i := 4) rfl) 1
          have c16_4_2 : w16.cell? ⟨gb1, 2, none⟩ = some (.slice B3 0 d3) := (blk_cell (O16.out.blk (i := 4) rfl) 2).trans rfl
          have f16_4_2 : w16.frozen? ⟨gb1, 2, none⟩ = false := blk_frozen (O16.out.blk (i := 4) rfl) 2
          have c16_1_0 : w16.cell? ⟨gm, 0, none⟩ = some (.int .i64 a0_0) := (blk_cell (O16.out.blk (i := 1) rfl) 0).trans rfl
          have f16_1_0 : w16.frozen? ⟨gm, 0, none⟩ = false := blk_frozen (O16.out.blk (i := 1) rfl) 0
          have c16_1_1 : w16.cell? ⟨gm, 1, none⟩ = some (.int .i64 M) := (blk_cell (O16.out.blk (i := 1) rfl) 1).trans rfl
          have f16_1_1 : w16.frozen? ⟨gm, 1, none⟩ = false := blk_frozen (O16.out.blk (i := 1) rfl) 1
          have c16_1_2 : w16.cell? ⟨gm, 2, none⟩ = some (.slice B5 L.length d5) := (blk_cell (O16.out.blk (i := 1) rfl) 2).trans rfl
          have f16_1_2 : w16.frozen? ⟨gm, 2, none⟩ = false := blk_frozen (O16.out.blk (i := 1) rfl) 2
          have c16_6_0 : w16.cell? ⟨gb2, 0, none⟩ = some (.int .i64 0) := (blk_cell (O16.out.blk (i := 6) rfl) 0).trans rfl
          have f16_6_0 : w16.frozen? ⟨gb2, 0, none⟩ = false := blk_frozen (O16.out.blk (i := 6) rfl) 0
          have c16_6_1 : w16.cell? ⟨gb2, 1, none⟩ = some (.int .i64 0) := (blk_cell (O16.out.blk (i := 6) rfl) 1).trans rfl
          have f16_6_1 : w16.frozen? ⟨gb2, 1, none⟩ = false := blk_frozen (O16.out.blk (i := 6) rfl) 1
          have c16_6_2 : w16.cell? ⟨gb2, 2, none⟩ = some (.slice B4 0 d4) := (blk_cell (O16.out.blk (i := 6) rfl) 2).trans rfl
          have f16_6_2 : w16.frozen? ⟨gb2, 2, none⟩ = false := blk_frozen (O16.out.blk (i := 6) rfl) 2
          have n16_4_1 : gb1 ≠ gm := O16.out.ne (i := 4) (j := 1) rfl rfl (by decide)
          have n16_4_6 : gb1 ≠ gb2 := O16.out.ne (i := 4) (j := 6) rfl rfl (by decide)
          have n16_1_4 : gm ≠ gb1 := O16.out.ne (i := 1) (j := 4) rfl rfl (by decide)
          have n16_1_6 : gm ≠ gb2 := O16.out.ne (i := 1) (j := 6) rfl rfl (by decide)
          have n16_6_4 : gb2 ≠ gb1 := O16.out.ne (i := 6) (j := 4) rfl rfl (by decide)
          have n16_6_1 : gb2 ≠ gm := O16.out.ne (i := 6) (j := 1) rfl rfl (by decide)
          clear o_ k_
          refine pure_ (i := 0) (N := some 61) (v := ?_) (a' := ?_) #[true, false, false, false, false, false, false, false, false, false, false, false, false, false, false, false, false, false, false] rfl rfl (by kernel_rfl) (fun _ _ _ h => h) (Or.inl ⟨by rfl, ?_⟩) ?_ ?_
          rotate_left
          · intro w'
            go_simp
            with_reducible rfl
          rotate_left
          · simp only [Act.put, List.setIfInBounds_toArray, List.set_cons_zero, List.set_cons_succ, i64_w, i32_w]
            rfl
          refine pure_ (i := 1) (N := some 62) (v := ?_) (a' := ?_) #[true, true, false, false, false, false, false, false, false, false, false, false, false, false, false, false, false, false, false] rfl rfl (by kernel_rfl) (fun _ _ _ h => h) (Or.inl ⟨by rfl, ?_⟩) ?_ ?_
          rotate_left
          · intro w'
            go_simp
            with_reducible rfl
          rotate_left
          · simp only [Act.put, List.setIfInBounds_toArray, List.set_cons_zero, List.set_cons_succ, i64_w, i32_w]
            rfl
          refine pure_ (i := 2) (N := some 63) (v := ?_) (a' := ?_) #[true, true, true, false, false, false, false, false, false, false, false, false, false, false, false, false, false, false, false] rfl rfl (by kernel_rfl) (fun _ _ _ h => h) (Or.inl ⟨by rfl, ?_⟩) ?_ ?_
          rotate_left
          · intro w'
            go_simp
            with_reducible rfl
          rotate_left
          · simp only [Act.put, List.setIfInBounds_toArray, List.set_cons_zero, List.set_cons_succ, i64_w, i32_w]
            rfl
          refine pure_ (i := 3) (N := some 64) (v := ?_) (a' := ?_) #[true, true, true, true, false, false, false, false, false, false, false, false, false, false, false, false, false, false, false] rfl rfl (by kernel_rfl) (fun _ _ _ h => h) (Or.inl ⟨by rfl, ?_⟩) ?_ ?_
          rotate_left
          · intro w'
            go_simp
            with_reducible rfl
          rotate_left
          · simp only [Act.put, List.setIfInBounds_toArray, List.set_cons_zero, List.set_cons_succ, i64_w, i32_w]
            rfl
          refine take_ (i := 4) (N := some 65) (v := ?_) (a' := ?_) #[true, true, true, true, true, false, false, false, false, false, false, false, false, false, false, false, false, false, false] rfl rfl (by kernel_rfl) (fun _ _ _ h => h) (Or.inl ⟨by rfl, ?_⟩) hHeld ?_ ?_
          rotate_left
          · rintro w' ⟨s0, s1, s2, s3, s4, s5, s6, s7, s8⟩
            go_simp
            with_reducible rfl
          rotate_left
          · simp only [Act.put, List.setIfInBounds_toArray, List.set_cons_zero, List.set_cons_succ, i64_w, i32_w]
            rfl
          refine take_ (i := 5) (N := some 66) (v := ?_) (a' := ?_) #[true, true, true, true, true, true, false, false, false, false, false, false, false, false, false, false, false, false, false] rfl rfl (by kernel_rfl) (fun _ _ _ h => h) (Or.inl ⟨by rfl, ?_⟩) hHeld ?_ ?_
          rotate_left
          · rintro w' ⟨s0, s1, s2, s3, s4, s5, s6, s7, s8⟩
            go_simp
            with_reducible rfl
          rotate_left
          · simp only [Act.put, List.setIfInBounds_toArray, List.set_cons_zero, List.set_cons_succ, i64_w, i32_w]
            rfl
          refine one_ (i := 6) (N := some 67) #[true, true, true, true, true, true, true, false, false, false, false, false, false, false, false, false, false, false, false] rfl rfl (by kernel_rfl) (by decide) (fun K_ hK_ => ?_)
          refine goes_ Try.func14 (by kernel_rfl) rfl #[.agg #[.int .i64 0, .int .i64 0, .slice B3 0 d3], .agg #[.int .i64 0, .int .i64 0, .slice B4 0 d4]] (by rfl) rfl rfl (by (try simp only [List.map_toArray, List.map_cons, List.map_nil]); first | done | rfl) ?_
          refine (chapbookref07_Same.calls 30 0 0 _ _ ([] : List Upd) 0 0 _ _ ([] : List Upd) true _ (O16.out.nreads (i := 3) rfl).2.2 (O16.out.nreads (i := 3) rfl).2.1 (by obtain ⟨F_, hf_⟩ := O16.out.fact (i := 5) rfl; exact Kd.F_now hf_.2) HCC.out (psame 30 0 0 ([] : List Upd) (by first | (have := HU2.out; omega) | decide) (by first | (have := HU2.out; omega) | decide))).mono ?_
          rintro e_ w17 ⟨rfl, hb_⟩
          refine ⟨_, rfl, ?_⟩
          have o_ := O16.out.below hb_
          have k_ := KeepS.of_below (N := N) hb_
          have O17 : Aside0 (Own N w17 [Obj3 52 gj a0_0 M L, cells gm #[.int .i64 a0_0, .int .i64 M, .slice B5 L.length d5] 42, nrow k50 50 (.slice B2 ((rd_L3 l0 x)).length d2) ((rd_L3 l0 x)), nrow k50 50 (.slice B3 0 d3) ([] : List Upd), cells gb1 #[.int .i64 0, .int .i64 0, .slice B3 0 d3] 32, both (nrow k32 32 (.slice B5 L.length d5) L) (rd k50 B4 0 ([] : List Upd)), cells gb2 #[.int .i64 0, .int .i64 0, .slice B4 0 d4] 32]) := ⟨o_⟩
          have K17 : Aside0 (KeepS N w w17) := ⟨K16.out.trans k_⟩
          have HRI_17 : Aside0 (Kd.F k50 w17 N A3 (rd_L3 l0 x).length (rd_L3 l0 x)) := ⟨keepF HRI_16.out k_⟩
          clear c16_4_0 f16_4_0 c16_4_1 f16_4_1 c16_4_2 f16_4_2 c16_1_0 f16_1_0 c16_1_1 f16_1_1 c16_1_2 f16_1_2 c16_6_0 f16_6_0 c16_6_1 f16_6_1 c16_6_2 f16_6_2 n16_4_1 n16_4_6 n16_1_4 n16_1_6 n16_6_4 n16_6_1 O16 K16 HRI_16
          have c17_4_0 : w17.cell? ⟨gb1, 0, none⟩ = some (.int .i64 0) := (blk_cell (O17.out.blk (i := 4) rfl) 0).trans rfl
          have f17_4_0 : w17.frozen? ⟨gb1, 0, none⟩ = false := blk_frozen (O17.out.blk (i := 4) rfl) 0
          have c17_4_1 : w17.cell? ⟨gb1, 1, none⟩ = some (.int .i64 0) := (blk_cell (O17.out.blk (i := 4) rfl) 1).trans rfl
          have f17_4_1 : w17.frozen? ⟨gb1, 1, none⟩ = false := blk_frozen (O17.out.blk (i := 4) rfl) 1
          have c17_4_2 : w17.cell? ⟨gb1, 2, none⟩ = some (.slice B3 0 d3) := (blk_cell (O17.out.blk (i := 4) rfl) 2).trans rfl
          have f17_4_2 : w17.frozen? ⟨gb1, 2, none⟩ = false := blk_frozen (O17.out.blk (i := 4) rfl) 2
          have c17_1_0 : w17.cell? ⟨gm, 0, none⟩ = some (.int .i64 a0_0) := (blk_cell (O17.out.blk (i := 1) rfl) 0).trans rfl
          have f17_1_0 : w17.frozen? ⟨gm, 0, none⟩ = false := blk_frozen (O17.out.blk (i := 1) rfl) 0
          have c17_1_1 : w17.cell? ⟨gm, 1, none⟩ = some (.int .i64 M) := (blk_cell (O17.out.blk (i := 1) rfl) 1).trans rfl
          have f17_1_1 : w17.frozen? ⟨gm, 1, none⟩ = false := blk_frozen (O17.out.blk (i := 1) rfl) 1
          have c17_1_2 : w17.cell? ⟨gm, 2, none⟩ = some (.slice B5 L.length d5) := (blk_cell (O17.out.blk (i := 1) rfl) 2).trans rfl
          have f17_1_2 : w17.frozen? ⟨gm, 2, none⟩ = false := blk_frozen (O17.out.blk (i := 1) rfl) 2
          have c17_6_0 : w17.cell? ⟨gb2, 0, none⟩ = some (.int .i64 0) := (blk_cell (O17.out.blk (i := 6) rfl) 0).trans rfl
          have f17_6_0 : w17.frozen? ⟨gb2, 0, none⟩ = false := blk_frozen (O17.out.blk (i := 6) rfl) 0
          have c17_6_1 : w17.cell? ⟨gb2, 1, none⟩ = some (.int .i64 0) := (blk_cell (O17.out.blk (i := 6) rfl) 1).trans rfl
          have f17_6_1 : w17.frozen? ⟨gb2, 1, none⟩ = false := blk_frozen (O17.out.blk (i := 6) rfl) 1
          have c17_6_2 : w17.cell? ⟨gb2, 2, none⟩ = some (.slice B4 0 d4) := (blk_cell (O17.out.blk (i := 6) rfl) 2).trans rfl
          have f17_6_2 : w17.frozen? ⟨gb2, 2, none⟩ = false := blk_frozen (O17.out.blk (i := 6) rfl) 2
          have n17_4_1 : gb1 ≠ gm := O17.out.ne (i := 4) (j := 1) rfl rfl (by decide)
          have n17_4_6 : gb1 ≠ gb2 := O17.out.ne (i := 4) (j := 6) rfl rfl (by decide)
          have n17_1_4 : gm ≠ gb1 := O17.out.ne (i := 1) (j := 4) rfl rfl (by decide)
          have n17_1_6 : gm ≠ gb2 := O17.out.ne (i := 1) (j := 6) rfl rfl (by decide)
          have n17_6_4 : gb2 ≠ gb1 := O17.out.ne (i := 6) (j := 4) rfl rfl (by decide)
          have n17_6_1 : gb2 ≠ gm := O17.out.ne (i := 6) (j := 1) rfl rfl (by decide)
          clear o_ k_ hb_
          clear hHeld
          refine hK_.out _ _ ⟨((blk_cell (O17.out.blk (i := 1) rfl) 0).trans rfl), ((blk_cell (O17.out.blk (i := 1) rfl) 1).trans rfl), ((blk_cell (O17.out.blk (i := 1) rfl) 2).trans rfl), ((blk_cell (O17.out.blk (i := 4) rfl) 0).trans rfl), ((blk_cell (O17.out.blk (i := 4) rfl) 1).trans rfl), ((blk_cell (O17.out.blk (i := 4) rfl) 2).trans rfl), ((blk_cell (O17.out.blk (i := 6) rfl) 0).trans rfl), ((blk_cell (O17.out.blk (i := 6) rfl) 1).trans rfl), ((blk_cell (O17.out.blk (i := 6) rfl) 2).trans rfl)⟩ (fun hHeld => ?_)
          clear hK_ K_
          refine norm_ (a' := ?_) ?_ ?_
          rotate_left
          · simp only [Act.put, List.setIfInBounds_toArray, List.set_cons_zero, List.set_cons_succ, i64_w, i32_w]
            rfl
          refine pure_ (i := 7) (N := some 68) (v := ?_) (a' := ?_) #[true, true, true, true, true, true, true, true, false, false, false, false, false, false, false, false, false, false, false] rfl rfl (by kernel_rfl) (fun _ _ _ h => h) (Or.inl ⟨by rfl, ?_⟩) ?_ ?_
          rotate_left
          · intro w'
            go_simp
            with_reducible rfl
          rotate_left
          · simp only [Act.put, List.setIfInBounds_toArray, List.set_cons_zero, List.set_cons_succ, i64_w, i32_w]
            rfl
          refine pure_ (i := 8) (N := some 69) (v := ?_) (a' := ?_) #[true, true, true, true, true, true, true, true, true, false, false, false, false, false, false, false, false, false, false] rfl rfl (by kernel_rfl) (fun _ _ _ h => h) (Or.inl ⟨by rfl, ?_⟩) ?_ ?_
          rotate_left
          · intro w'
            go_simp
            with_reducible rfl
          rotate_left
          · simp only [Act.put, List.setIfInBounds_toArray, List.set_cons_zero, List.set_cons_succ, i64_w, i32_w]
            rfl
          refine pure_ (i := 9) (N := some 70) (v := ?_) (a' := ?_) #[true, true, true, true, true, true, true, true, true, true, false, false, false, false, false, false, false, false, false] rfl rfl (by kernel_rfl) (fun _ _ _ h => h) (Or.inl ⟨by rfl, ?_⟩) ?_ ?_
          rotate_left
          · intro w'
            go_simp
            with_reducible rfl
          rotate_left
          · simp only [Act.put, List.setIfInBounds_toArray, List.set_cons_zero, List.set_cons_succ, i64_w, i32_w]
            rfl
          refine pure_ (i := 10) (N := some 71) (v := ?_) (a' := ?_) #[true, true, true, true, true, true, true, true, true, true, true, false, false, false, false, false, false, false, false] rfl rfl (by kernel_rfl) (fun _ _ _ h => h) (Or.inl ⟨by rfl, ?_⟩) ?_ ?_
          rotate_left
          · intro w'
            go_simp
            with_reducible rfl
          rotate_left
          · simp only [Act.put, List.setIfInBounds_toArray, List.set_cons_zero, List.set_cons_succ, i64_w, i32_w]
            rfl
          refine pure_ (i := 12) (N := some 73) (v := ?_) (a' := ?_) #[true, true, true, true, true, true, true, true, true, true, true, false, true, false, false, false, false, false, false] rfl rfl (by kernel_rfl) (fun _ _ _ h => h) (Or.inl ⟨by rfl, ?_⟩) ?_ ?_
          rotate_left
          · intro w'
            go_simp
            with_reducible rfl
          rotate_left
          · simp only [Act.put, List.setIfInBounds_toArray, List.set_cons_zero, List.set_cons_succ, i64_w, i32_w]
            rfl
          refine pure_ (i := 13) (N := some 74) (v := ?_) (a' := ?_) #[true, true, true, true, true, true, true, true, true, true, true, false, true, true, false, false, false, false, false] rfl rfl (by kernel_rfl) (fun _ _ _ h => h) (Or.inl ⟨by rfl, ?_⟩) ?_ ?_
          rotate_left
          · intro w'
            go_simp
            with_reducible rfl
          rotate_left
          · simp only [Act.put, List.setIfInBounds_toArray, List.set_cons_zero, List.set_cons_succ, i64_w, i32_w]
            rfl
          refine pure_ (i := 14) (N := some 75) (v := ?_) (a' := ?_) #[true, true, true, true, true, true, true, true, true, true, true, false, true, true, true, false, false, false, false] rfl rfl (by kernel_rfl) (fun _ _ _ h => h) (Or.inl ⟨by rfl, ?_⟩) ?_ ?_
          rotate_left
          · intro w'
            go_simp
            with_reducible rfl
          rotate_left
          · simp only [Act.put, List.setIfInBounds_toArray, List.set_cons_zero, List.set_cons_succ, i64_w, i32_w]
            rfl
          refine take_ (i := 15) (N := some 76) (v := ?_) (a' := ?_) #[true, true, true, true, true, true, true, true, true, true, true, false, true, true, true, true, false, false, false] rfl rfl (by kernel_rfl) (fun _ _ _ h => h) (Or.inl ⟨by rfl, ?_⟩) hHeld ?_ ?_
          rotate_left
          · rintro w' ⟨s0, s1, s2, s3, s4, s5, s6, s7, s8⟩
            go_simp
            with_reducible rfl
          rotate_left
          · simp only [Act.put, List.setIfInBounds_toArray, List.set_cons_zero, List.set_cons_succ, i64_w, i32_w]
            rfl
          refine pure_ (i := 16) (N := some 77) (v := ?_) (a' := ?_) #[true, true, true, true, true, true, true, true, true, true, true, false, true, true, true, true, true, false, false] rfl rfl (by kernel_rfl) (fun _ _ _ h => h) (Or.inl ⟨by rfl, ?_⟩) ?_ ?_
          rotate_left
          · intro w'
            go_simp
            with_reducible rfl
          rotate_left
          · simp only [Act.put, List.setIfInBounds_toArray, List.set_cons_zero, List.set_cons_succ, i64_w, i32_w]
            rfl
          refine one_ (i := 11) (N := some 72) #[true, true, true, true, true, true, true, true, true, true, true, true, true, true, true, true, true, false, false] rfl rfl (by kernel_rfl) (by decide) (fun K_ hK_ => ?_)
          refine goes_ Try.func15 (by kernel_rfl) rfl #[.pointer (some ⟨gj, 0, none⟩)] (by rfl) rfl rfl (by (try simp only [List.map_toArray, List.map_cons, List.map_nil]); first | done | rfl) ?_
          obtain ⟨N_, on_, nn_, rr_, bb_⟩ := O17.out.frame1 (i := 0) rfl
          refine (Len_n (L.length : Int) rfl on_).mono ?_
          rintro e_ w18 ⟨rfl, oo_, kk_⟩
          obtain ⟨o_, k_⟩ := bb_ _ _ _ kk_ oo_
          refine ⟨_, rfl, ?_⟩
          have O18 : Aside0 (Own N w18 [Obj3 52 gj a0_0 M L, cells gm #[.int .i64 a0_0, .int .i64 M, .slice B5 L.length d5] 42, nrow k50 50 (.slice B2 ((rd_L3 l0 x)).length d2) ((rd_L3 l0 x)), nrow k50 50 (.slice B3 0 d3) ([] : List Upd), cells gb1 #[.int .i64 0, .int .i64 0, .slice B3 0 d3] 32, both (nrow k32 32 (.slice B5 L.length d5) L) (rd k50 B4 0 ([] : List Upd)), cells gb2 #[.int .i64 0, .int .i64 0, .slice B4 0 d4] 32]) := ⟨o_⟩
          have K18 : Aside0 (KeepS N w w18) := ⟨K17.out.trans k_⟩
          have HRI_18 : Aside0 (Kd.F k50 w18 N A3 (rd_L3 l0 x).length (rd_L3 l0 x)) := ⟨keepF HRI_17.out k_⟩
          clear c17_4_0 f17_4_0 c17_4_1 f17_4_1 c17_4_2 f17_4_2 c17_1_0 f17_1_0 c17_1_1 f17_1_1 c17_1_2 f17_1_2 c17_6_0 f17_6_0 c17_6_1 f17_6_1 c17_6_2 f17_6_2 n17_4_1 n17_4_6 n17_1_4 n17_1_6 n17_6_4 n17_6_1 O17 K17 HRI_17
          have c18_4_0 : w18.cell? ⟨gb1, 0, none⟩ = some (.int .i64 0) := (blk_cell (O18.out.blk (i := 4) rfl) 0).trans rfl
          have f18_4_0 : w18.frozen? ⟨gb1, 0, none⟩ = false := blk_frozen (O18.out.blk (i := 4) rfl) 0
          have c18_4_1 : w18.cell? ⟨gb1, 1, none⟩ = some (.int .i64 0) := (blk_cell (O18.out.blk (i := 4) rfl) 1).trans rfl
          have f18_4_1 : w18.frozen? ⟨gb1, 1, none⟩ = false := blk_frozen (O18.out.blk (i := 4) rfl) 1
          have c18_4_2 : w18.cell? ⟨gb1, 2, none⟩ = some (.slice B3 0 d3) := (blk_cell (O18.out.blk (i := 4) rfl) 2).trans rfl
          have f18_4_2 : w18.frozen? ⟨gb1, 2, none⟩ = false := blk_frozen (O18.out.blk (i := 4) rfl) 2
          have c18_1_0 : w18.cell? ⟨gm, 0, none⟩ = some (.int .i64 a0_0) := (blk_cell (O18.out.blk (i := 1) rfl) 0).trans rfl
          have f18_1_0 : w18.frozen? ⟨gm, 0, none⟩ = false := blk_frozen (O18.out.blk (i := 1) rfl) 0
          have c18_1_1 : w18.cell? ⟨gm, 1, none⟩ = some (.int .i64 M) := (blk_cell (O18.out.blk (i := 1) rfl) 1).trans rfl
          have f18_1_1 : w18.frozen? ⟨gm, 1, none⟩ = false := blk_frozen (O18.out.blk (i := 1) rfl) 1
          have c18_1_2 : w18.cell? ⟨gm, 2, none⟩ = some (.slice B5 L.length d5) := (blk_cell (O18.out.blk (i := 1) rfl) 2).trans rfl
          have f18_1_2 : w18.frozen? ⟨gm, 2, none⟩ = false := blk_frozen (O18.out.blk (i := 1) rfl) 2
          have c18_6_0 : w18.cell? ⟨gb2, 0, none⟩ = some (.int .i64 0) := (blk_cell (O18.out.blk (i := 6) rfl) 0).trans rfl
          have f18_6_0 : w18.frozen? ⟨gb2, 0, none⟩ = false := blk_frozen (O18.out.blk (i := 6) rfl) 0
          have c18_6_1 : w18.cell? ⟨gb2, 1, none⟩ = some (.int .i64 0) := (blk_cell (O18.out.blk (i := 6) rfl) 1).trans rfl
          have f18_6_1 : w18.frozen? ⟨gb2, 1, none⟩ = false := blk_frozen (O18.out.blk (i := 6) rfl) 1
          have c18_6_2 : w18.cell? ⟨gb2, 2, none⟩ = some (.slice B4 0 d4) := (blk_cell (O18.out.blk (i := 6) rfl) 2).trans rfl
          have f18_6_2 : w18.frozen? ⟨gb2, 2, none⟩ = false := blk_frozen (O18.out.blk (i := 6) rfl) 2
          have n18_4_1 : gb1 ≠ gm := O18.out.ne (i := 4) (j := 1) rfl rfl (by decide)
          have n18_4_6 : gb1 ≠ gb2 := O18.out.ne (i := 4) (j := 6) rfl rfl (by decide)
          have n18_1_4 : gm ≠ gb1 := O18.out.ne (i := 1) (j := 4) rfl rfl (by decide)
          have n18_1_6 : gm ≠ gb2 := O18.out.ne (i := 1) (j := 6) rfl rfl (by decide)
          have n18_6_4 : gb2 ≠ gb1 := O18.out.ne (i := 6) (j := 4) rfl rfl (by decide)
          have n18_6_1 : gb2 ≠ gm := O18.out.ne (i := 6) (j := 1) rfl rfl (by decide)
          clear o_ k_ oo_ kk_ on_ nn_ rr_ bb_
          clear hHeld
          refine hK_.out _ _ ⟨((blk_cell (O18.out.blk (i := 1) rfl) 0).trans rfl), ((blk_cell (O18.out.blk (i := 1) rfl) 1).trans rfl), ((blk_cell (O18.out.blk (i := 1) rfl) 2).trans rfl), ((blk_cell (O18.out.blk (i := 4) rfl) 0).trans rfl), ((blk_cell (O18.out.blk (i := 4) rfl) 1).trans rfl), ((blk_cell (O18.out.blk (i := 4) rfl) 2).trans rfl), ((blk_cell (O18.out.blk (i := 6) rfl) 0).trans rfl), ((blk_cell (O18.out.blk (i := 6) rfl) 1).trans rfl), ((blk_cell (O18.out.blk (i := 6) rfl) 2).trans rfl)⟩ (fun hHeld => ?_)
          clear hK_ K_
          refine norm_ (a' := ?_) ?_ ?_
          rotate_left
          · simp only [Act.put, List.setIfInBounds_toArray, List.set_cons_zero, List.set_cons_succ, i64_w, i32_w]
            rfl
          refine pure_ (i := 17) (N := some 78) (v := ?_) (a' := ?_) #[true, true, true, true, true, true, true, true, true, true, true, true, true, true, true, true, true, true, false] rfl rfl (by kernel_rfl) (fun _ _ _ h => h) (Or.inl ⟨by rfl, ?_⟩) ?_ ?_
          rotate_left
          · intro w'
            go_simp
            with_reducible rfl
          rotate_left
          · simp only [Act.put, List.setIfInBounds_toArray, List.set_cons_zero, List.set_cons_succ, i64_w, i32_w]
            rfl
          refine pure_ (i := 18) (N := some 79) (v := ?_) (a' := ?_) #[true, true, true, true, true, true, true, true, true, true, true, true, true, true, true, true, true, true, true] rfl rfl (by kernel_rfl) (fun _ _ _ h => h) (Or.inl ⟨by rfl, ?_⟩) ?_ ?_
          rotate_left
          · intro w'
            go_simp
            with_reducible rfl
          rotate_left
          · simp only [Act.put, List.setIfInBounds_toArray, List.set_cons_zero, List.set_cons_succ, i64_w, i32_w]
            rfl
          refine done_ (by kernel_rfl) ?_
          clear hHeld
          go_wp2
          go_roundw
          case rel => exact ⟨x + 1, L, by have := HX.out; omega, by have := HX.out; omega, int_eq (by unfold wrap64; have := HX.out; have := HL30.out; omega), ⟨⟨by have := HI.out.1; omega, HI.out.2⟩⟩, ⟨((((Obj3.shut2 (i := 1) (j := 5) O18.out rfl rfl (by decide)).conv (i := 1) rfl (Obj3 42 gm a0_0 M L) (fun F hp _ => hp.1))).pick2 (a := 0) (b := 1) rfl rfl (by decide))⟩, K18⟩
          case measure => have := HX.out; simp [intOf]; omega
      · have hxe : x = (l0.length : Int) := by omega
        subst hxe
        have hd : decide ((l0.length : Int) < (l0.length : Int)) = false := decide_eq_false (Int.lt_irrefl _)
        clear hlt hx0 hx1 hF2 hLx
        obtain ⟨wo, hwo⟩ : ∃ wo : World, wo = wr := ⟨_, rfl⟩
        subst hwo
        obtain ⟨Am, cm, h2⟩ := Obj3.open_ OA.out (i := 1) rfl
        obtain ⟨N1, h3, hn1, hF, hback⟩ := h2.hide (i := 2) rfl
        have hFm : Kd.F k32 wo N1 Am L.length L := Kd.N_F hF
        have HRM0 := Aside0.mk hFm
        have HN1 := Aside0.mk hn1
        have HLE := Aside0.mk HI.out.2.2
        have O9 : Aside0 (Own N1 wo [Obj3 52 gj a0_0 M L, cells gm #[.int .i64 a0_0, .int .i64 M, .slice Am L.length cm] 42, emp]) := ⟨h3⟩
        have K9 : Aside0 (KeepS N1 wo wo) := ⟨KeepS.refl _ _⟩
        have c9_1_0 : wo.cell? ⟨gm, 0, none⟩ = some (.int .i64 a0_0) := (blk_cell (O9.out.blk (i := 1) rfl) 0).trans rfl
        have f9_1_0 : wo.frozen? ⟨gm, 0, none⟩ = false := blk_frozen (O9.out.blk (i := 1) rfl) 0
        have c9_1_1 : wo.cell? ⟨gm, 1, none⟩ = some (.int .i64 M) := (blk_cell (O9.out.blk (i := 1) rfl) 1).trans rfl
        have f9_1_1 : wo.frozen? ⟨gm, 1, none⟩ = false := blk_frozen (O9.out.blk (i := 1) rfl) 1
        have c9_1_2 : wo.cell? ⟨gm, 2, none⟩ = some (.slice Am L.length cm) := (blk_cell (O9.out.blk (i := 1) rfl) 2).trans rfl
        have f9_1_2 : wo.frozen? ⟨gm, 2, none⟩ = false := blk_frozen (O9.out.blk (i := 1) rfl) 2
        clear OA h2 h3 hn1 hF hback hFm
        go_wp2
        go_loopw [86] (fun i wr => PlI2 N1 wo gj gm a0_0 M L Am cm i wr) (fun i _ => L.length - (intOf i).toNat)
        case atStart => exact ⟨0, by omega, by omega, rfl, O9, K9⟩
        case round =>
          clear c9_1_0 f9_1_0 c9_1_1 f9_1_1 c9_1_2 f9_1_2
          obtain ⟨y, hy0, hy1, rfl, OB, KB⟩ := hrel
          have hF2 := keepF HRM0.out KB.out
          have hLy := HLL.out
          by_cases hlt : y < (L.length : Int)
          · obtain ⟨ad, A6, c6, e6, hbk, x0, x1, x2, hl6, hF6⟩ := at_FB HRM0.out y hy0 hlt
            cases e6
            have HC6 := Aside0.mk hl6
            have HF6 := Aside0.mk hF6
            have hs2 : wrap64 (y + 1) = y + 1 := by unfold wrap64; omega
            have HY := Aside0.mk (And.intro hy0 hlt)
            have HS8 : Aside0 ((rd_T32 L y).f2.length ≤ 8) := ⟨HLE.out y hy0 hlt⟩
            have hp := eq_true hy0
            have hq := eq_true hlt
            have hd2 : decide (y < (L.length : Int)) = true := decide_eq_true hlt
            have HBK := Aside0.mk hbk
            have XX := Aside0.mk (And.intro x0 (And.intro x1 x2))
            have hx0_ := keepCell KB.out x0 hbk
            have hx1_ := keepCell KB.out x1 hbk
            have hx2_ := keepCell KB.out x2 hbk
            clear hF6 hF2 hl6 hlt hy0 hy1 x0 x1 x2 hx0_ hx1_ hx2_ hbk
            have O10 : Aside0 (Own N1 wr [Obj3 52 gj a0_0 M L, cells gm #[.int .i64 a0_0, .int .i64 M, .slice (some ad) L.length cm] 42, emp]) := ⟨OB.out⟩
            have K10 : Aside0 (KeepS N1 wo wr) := ⟨KB.out⟩
            have HRI_10 : Aside0 (Kd.F k50 wr N1 A6 (rd_T32 L y).f2.length (rd_T32 L y).f2) := ⟨keepF HF6.out KB.out⟩
            have c10_1_0 : wr.cell? ⟨gm, 0, none⟩ = some (.int .i64 a0_0) := (blk_cell (O10.out.blk (i := 1) rfl) 0).trans rfl
            have f10_1_0 : wr.frozen? ⟨gm, 0, none⟩ = false := blk_frozen (O10.out.blk (i := 1) rfl) 0
            have c10_1_1 : wr.cell? ⟨gm, 1, none⟩ = some (.int .i64 M) := (blk_cell (O10.out.blk (i := 1) rfl) 1).trans rfl
            have f10_1_1 : wr.frozen? ⟨gm, 1, none⟩ = false := blk_frozen (O10.out.blk (i := 1) rfl) 1
            have c10_1_2 : wr.cell? ⟨gm, 2, none⟩ = some (.slice (some ad) L.length cm) := (blk_cell (O10.out.blk (i := 1) rfl) 2).trans rfl
            have f10_1_2 : wr.frozen? ⟨gm, 2, none⟩ = false := blk_frozen (O10.out.blk (i := 1) rfl) 2
            clear OB KB HF6
            go_wp2_with (first | ((with_reducible refine gate_callee (f := 16) rfl ?_); refine goesL_ (some 92) rfl rfl Try.func16 (by kernel_rfl) rfl #[.pointer (some ⟨gj, 0, none⟩), .int .i64 y] rfl (by (try simp only [List.map_toArray, List.map_cons, List.map_nil]); first | done | rfl) ?_; obtain ⟨N_, on_, nn_, rr_, bb_⟩ := O10.out.frame1 (i := 0) rfl; refine (At_yes y on_ HLL.out HLE HY.out.1 HY.out.2).mono ?_; rintro e_ w11 ⟨B7, d7, rfl, oo_, kk_⟩; obtain ⟨o_, k_⟩ := bb_ _ _ _ kk_ oo_; refine ⟨_, rfl, ?_⟩; have O11 : Aside0 (Own N1 w11 [Obj3 52 gj a0_0 M L, cells gm #[.int .i64 a0_0, .int .i64 M, .slice (some ad) L.length cm] 42, emp, nrow k50 50 (.slice B7 (rd_T32 L y).f2.length d7) (rd_T32 L y).f2]) := ⟨o_⟩; have K11 : Aside0 (KeepS N1 wo w11) := ⟨K10.out.trans k_⟩; have HRI_11 : Aside0 (Kd.F k50 w11 N1 A6 (rd_T32 L y).f2.length (rd_T32 L y).f2) := ⟨keepF HRI_10.out k_⟩; clear c10_1_0 f10_1_0 c10_1_1 f10_1_1 c10_1_2 f10_1_2 O10 K10 HRI_10; have c11_1_0 : w11.cell? ⟨gm, 0, none⟩ = some (.int .i64 a0_0) := (blk_cell (O11.out.blk (i := 1) rfl) 0).trans rfl; have f11_1_0 : w11.frozen? ⟨gm, 0, none⟩ = false := blk_frozen (O11.out.blk (i := 1) rfl) 0; have c11_1_1 : w11.cell? ⟨gm, 1, none⟩ = some (.int .i64 M) := (blk_cell (O11.out.blk (i := 1) rfl) 1).trans rfl; have f11_1_1 : w11.frozen? ⟨gm, 1, none⟩ = false := blk_frozen (O11.out.blk (i := 1) rfl) 1; have c11_1_2 : w11.cell? ⟨gm, 2, none⟩ = some (.slice (some ad) L.length cm) := (blk_cell (O11.out.blk (i := 1) rfl) 2).trans rfl; have f11_1_2 : w11.frozen? ⟨gm, 2, none⟩ = false := blk_frozen (O11.out.blk (i := 1) rfl) 2; clear o_ k_ oo_ kk_ on_ nn_ rr_ bb_) | ((with_reducible refine gate_dst (N := 14) rfl ?_); refine own_box rfl (D := 14) rfl (cs := #[.int .i64 0, .int .i64 0, .slice none 0 0]) (t := 32) ?hr O11.out ?_; (case hr => first | (go_simp; done) | (go_simp; rfl)); intro gb3 w12 o_ k_; have O12 : Aside0 (Own N1 w12 [Obj3 52 gj a0_0 M L, cells gm #[.int .i64 a0_0, .int .i64 M, .slice (some ad) L.length cm] 42, emp, nrow k50 50 (.slice B7 (rd_T32 L y).f2.length d7) (rd_T32 L y).f2, cells gb3 #[.int .i64 0, .int .i64 0, .slice none 0 0] 32]) := ⟨o_⟩; have K12 : Aside0 (KeepS N1 wo w12) := ⟨K11.out.trans k_⟩; have HRI_12 : Aside0 (Kd.F k50 w12 N1 A6 (rd_T32 L y).f2.length (rd_T32 L y).f2) := ⟨keepF HRI_11.out k_⟩; clear c11_1_0 f11_1_0 c11_1_1 f11_1_1 c11_1_2 f11_1_2 O11 K11 HRI_11; have c12_1_0 : w12.cell? ⟨gm, 0, none⟩ = some (.int .i64 a0_0) := (blk_cell (O12.out.blk (i := 1) rfl) 0).trans rfl; have f12_1_0 : w12.frozen? ⟨gm, 0, none⟩ = false := blk_frozen (O12.out.blk (i := 1) rfl) 0; have c12_1_1 : w12.cell? ⟨gm, 1, none⟩ = some (.int .i64 M) := (blk_cell (O12.out.blk (i := 1) rfl) 1).trans rfl; have f12_1_1 : w12.frozen? ⟨gm, 1, none⟩ = false := blk_frozen (O12.out.blk (i := 1) rfl) 1; have c12_1_2 : w12.cell? ⟨gm, 2, none⟩ = some (.slice (some ad) L.length cm) := (blk_cell (O12.out.blk (i := 1) rfl) 2).trans rfl; have f12_1_2 : w12.frozen? ⟨gm, 2, none⟩ = false := blk_frozen (O12.out.blk (i := 1) rfl) 2; have c12_4_0 : w12.cell? ⟨gb3, 0, none⟩ = some (.int .i64 0) := (blk_cell (O12.out.blk (i := 4) rfl) 0).trans rfl; have f12_4_0 : w12.frozen? ⟨gb3, 0, none⟩ = false := blk_frozen (O12.out.blk (i := 4) rfl) 0; have c12_4_1 : w12.cell? ⟨gb3, 1, none⟩ = some (.int .i64 0) := (blk_cell (O12.out.blk (i := 4) rfl) 1).trans rfl; have f12_4_1 : w12.frozen? ⟨gb3, 1, none⟩ = false := blk_frozen (O12.out.blk (i := 4) rfl) 1; have c12_4_2 : w12.cell? ⟨gb3, 2, none⟩ = some (.slice none 0 0) := (blk_cell (O12.out.blk (i := 4) rfl) 2).trans rfl; have f12_4_2 : w12.frozen? ⟨gb3, 2, none⟩ = false := blk_frozen (O12.out.blk (i := 4) rfl) 2; have n12_1_4 : gm ≠ gb3 := O12.out.ne (i := 1) (j := 4) rfl rfl (by decide); have n12_4_1 : gb3 ≠ gm := O12.out.ne (i := 4) (j := 1) rfl rfl (by decide); clear o_ k_) | ((with_reducible refine gate_store (t := 32) (p := 14) rfl ?_); refine own_store rfl rfl rfl (w1 := (World.setCell (World.setCell (World.setCell w12 ⟨gb3, 0, none⟩ (.int .i64 (rd_T32 L y).f0)) ⟨gb3, 1, none⟩ (.int .i64 (rd_T32 L y).f1)) ⟨gb3, 2, none⟩ (.slice B7 (rd_T32 L y).f2.length d7))) (N := N1) (l' := [Obj3 52 gj a0_0 M L, cells gm #[.int .i64 a0_0, .int .i64 M, .slice (some ad) L.length cm] 42, emp, nrow k50 50 (.slice B7 (rd_T32 L y).f2.length d7) (rd_T32 L y).f2, cells gb3 #[.int .i64 (rd_T32 L y).f0, .int .i64 (rd_T32 L y).f1, .slice B7 (rd_T32 L y).f2.length d7] 32]) ?hr ?ho ?hk ?_; (case hr => first | (go_simp; done) | (go_simp; rfl)); (case ho => exact (((O12.out.set (i := 4) rfl 0 (.int .i64 (rd_T32 L y).f0)).set (i := 4) rfl 1 (.int .i64 (rd_T32 L y).f1)).set (i := 4) rfl 2 (.slice B7 (rd_T32 L y).f2.length d7))); (case hk => exact (((KeepS.setCell (O12.out.far (i := 4) rfl) (.int .i64 (rd_T32 L y).f0)).trans (KeepS.setCell (O12.out.far (i := 4) rfl) (.int .i64 (rd_T32 L y).f1))).trans (KeepS.setCell (O12.out.far (i := 4) rfl) (.slice B7 (rd_T32 L y).f2.length d7)))); intro w13 o_ k_; have O13 : Aside0 (Own N1 w13 [Obj3 52 gj a0_0 M L, cells gm #[.int .i64 a0_0, .int .i64 M, .slice (some ad) L.length cm] 42, emp, nrow k50 50 (.slice B7 (rd_T32 L y).f2.length d7) (rd_T32 L y).f2, cells gb3 #[.int .i64 (rd_T32 L y).f0, .int .i64 (rd_T32 L y).f1, .slice B7 (rd_T32 L y).f2.length d7] 32]) := ⟨o_⟩; have K13 : Aside0 (KeepS N1 wo w13) := ⟨K12.out.trans k_⟩; have HRI_13 : Aside0 (Kd.F k50 w13 N1 A6 (rd_T32 L y).f2.length (rd_T32 L y).f2) := ⟨keepF HRI_12.out k_⟩; clear c12_1_0 f12_1_0 c12_1_1 f12_1_1 c12_1_2 f12_1_2 c12_4_0 f12_4_0 c12_4_1 f12_4_1 c12_4_2 f12_4_2 n12_1_4 n12_4_1 O12 K12 HRI_12; have c13_1_0 : w13.cell? ⟨gm, 0, none⟩ = some (.int .i64 a0_0) := (blk_cell (O13.out.blk (i := 1) rfl) 0).trans rfl; have f13_1_0 : w13.frozen? ⟨gm, 0, none⟩ = false := blk_frozen (O13.out.blk (i := 1) rfl) 0; have c13_1_1 : w13.cell? ⟨gm, 1, none⟩ = some (.int .i64 M) := (blk_cell (O13.out.blk (i := 1) rfl) 1).trans rfl; have f13_1_1 : w13.frozen? ⟨gm, 1, none⟩ = false := blk_frozen (O13.out.blk (i := 1) rfl) 1; have c13_1_2 : w13.cell? ⟨gm, 2, none⟩ = some (.slice (some ad) L.length cm) := (blk_cell (O13.out.blk (i := 1) rfl) 2).trans rfl; have f13_1_2 : w13.frozen? ⟨gm, 2, none⟩ = false := blk_frozen (O13.out.blk (i := 1) rfl) 2; have c13_4_0 : w13.cell? ⟨gb3, 0, none⟩ = some (.int .i64 (rd_T32 L y).f0) := (blk_cell (O13.out.blk (i := 4) rfl) 0).trans rfl; have f13_4_0 : w13.frozen? ⟨gb3, 0, none⟩ = false := blk_frozen (O13.out.blk (i := 4) rfl) 0; have c13_4_1 : w13.cell? ⟨gb3, 1, none⟩ = some (.int .i64 (rd_T32 L y).f1) := (blk_cell (O13.out.blk (i := 4) rfl) 1).trans rfl; have f13_4_1 : w13.frozen? ⟨gb3, 1, none⟩ = false := blk_frozen (O13.out.blk (i := 4) rfl) 1; have c13_4_2 : w13.cell? ⟨gb3, 2, none⟩ = some (.slice B7 (rd_T32 L y).f2.length d7) := (blk_cell (O13.out.blk (i := 4) rfl) 2).trans rfl; have f13_4_2 : w13.frozen? ⟨gb3, 2, none⟩ = false := blk_frozen (O13.out.blk (i := 4) rfl) 2; have n13_1_4 : gm ≠ gb3 := O13.out.ne (i := 1) (j := 4) rfl rfl (by decide); have n13_4_1 : gb3 ≠ gm := O13.out.ne (i := 4) (j := 1) rfl rfl (by decide); clear o_ k_))
            refine start_ (n := 14) (S := fun w' => w'.cell? ⟨gm, 0, none⟩ = some (.int .i64 a0_0) ∧ w'.cell? ⟨gm, 1, none⟩ = some (.int .i64 M) ∧ w'.cell? ⟨gm, 2, none⟩ = some (.slice (some ad) L.length cm) ∧ w'.cell? ⟨gb3, 0, none⟩ = some (.int .i64 (rd_T32 L y).f0) ∧ w'.cell? ⟨gb3, 1, none⟩ = some (.int .i64 (rd_T32 L y).f1) ∧ w'.cell? ⟨gb3, 2, none⟩ = some (.slice B7 (rd_T32 L y).f2.length d7) ∧ w'.cell? (ad.add (y.toNat * 3)) = some (.int .i64 (rd_T32 L y).f0) ∧ w'.cell? ⟨(ad.add (y.toNat * 3)).block, (ad.add (y.toNat * 3)).off + 1, none⟩ = some (.int .i64 (rd_T32 L y).f1) ∧ w'.cell? ⟨(ad.add (y.toNat * 3)).block, (ad.add (y.toNat * 3)).off + 2, none⟩ = some (.slice A6 (rd_T32 L y).f2.length c6)) (ds := []) #[false, false, false, false, false, false, false, false, false, false, false, false, false, false] (by kernel_rfl) rfl rfl ⟨((blk_cell (O13.out.blk (i := 1) rfl) 0).trans rfl), ((blk_cell (O13.out.blk (i := 1) rfl) 1).trans rfl), ((blk_cell (O13.out.blk (i := 1) rfl) 2).trans rfl), ((blk_cell (O13.out.blk (i := 4) rfl) 0).trans rfl), ((blk_cell (O13.out.blk (i := 4) rfl) 1).trans rfl), ((blk_cell (O13.out.blk (i := 4) rfl) 2).trans rfl), (keepCell (K13.out.trans KeepS.drew) XX.out.1 HBK.out), (keepCell (K13.out.trans KeepS.drew) XX.out.2.1 HBK.out), (keepCell (K13.out.trans KeepS.drew) XX.out.2.2 HBK.out)⟩ (fun hHeld => ?_)
            obtain ⟨w14, hw_⟩ : ∃ W, W = w13.drew := ⟨_, rfl⟩
            have o_ := O13.out.drew
            have k_ : KeepS N1 w13 w13.drew := KeepS.drew
            rw [← hw_] at o_ k_ hHeld ⊢
            clear hw_
            have O14 : Aside0 (Own N1 w14 [Obj3 52 gj a0_0 M L, cells gm #[.int .i64 a0_0, .int .i64 M, .slice (some ad) L.length cm] 42, emp, nrow k50 50 (.slice B7 (rd_T32 L y).f2.length d7) (rd_T32 L y).f2, cells gb3 #[.int .i64 (rd_T32 L y).f0, .int .i64 (rd_T32 L y).f1, .slice B7 (rd_T32 L y).f2.length d7] 32]) := ⟨o_⟩
            have K14 : Aside0 (KeepS N1 wo w14) := ⟨K13.out.trans k_⟩
            have HRI_14 : Aside0 (Kd.F k50 w14 N1 A6 (rd_T32 L y).f2.length (rd_T32 L y).f2) := ⟨keepF HRI_13.out k_⟩
            clear c13_1_0 f13_1_0 c13_1_1 f13_1_1 c13_1_2 f13_1_2 c13_4_0 f13_4_0 c13_4_1 f13_4_1 c13_4_2 f13_4_2 n13_1_4 n13_4_1 O13 K13 HRI_13
            have c14_1_0 : w14.cell? ⟨gm, 0, none⟩ = some (.int .i64 a0_0) := (blk_cell (O14.out.blk (i := 1) rfl) 0).trans rfl
            have f14_1_0 : w14.frozen? ⟨gm, 0, none⟩ = false := blk_frozen (O14.out.blk (i := 1) rfl) 0
            have c14_1_1 : w14.cell? ⟨gm, 1, none⟩ = some (.int .i64 M) := (blk_cell (O14.out.blk (i := 1) rfl) 1).trans rfl
            have f14_1_1 : w14.frozen? ⟨gm, 1, none⟩ = false := blk_frozen (O14.out.blk (i := 1) rfl) 1
            have c14_1_2 : w14.cell? ⟨gm, 2, none⟩ = some (.slice (some ad) L.length cm) := (blk_cell (O14.out.blk (i := 1) rfl) 2).trans rfl
            have f14_1_2 : w14.frozen? ⟨gm, 2, none⟩ = false := blk_frozen (O14.out.blk (i := 1) rfl) 2
            have c14_4_0 : w14.cell? ⟨gb3, 0, none⟩ = some (.int .i64 (rd_T32 L y).f0) := (blk_cell (O14.out.blk (i := 4) rfl) 0).trans rfl
            have f14_4_0 : w14.frozen? ⟨gb3, 0, none⟩ = false := blk_frozen (O14.out.blk (i := 4) rfl) 0
            have c14_4_1 : w14.cell? ⟨gb3, 1, none⟩ = some (.int .i64 (rd_T32 L y).f1) := (blk_cell (O14.out.blk (i := 4) rfl) 1).trans rfl
            have f14_4_1 : w14.frozen? ⟨gb3, 1, none⟩ = false := blk_frozen (O14.out.blk (i := 4) rfl) 1
            have c14_4_2 : w14.cell? ⟨gb3, 2, none⟩ = some (.slice B7 (rd_T32 L y).f2.length d7) := (blk_cell (O14.out.blk (i := 4) rfl) 2).trans rfl
            have f14_4_2 : w14.frozen? ⟨gb3, 2, none⟩ = false := blk_frozen (O14.out.blk (i := 4) rfl) 2
            have n14_1_4 : gm ≠ gb3 := O14.out.ne (i := 1) (j := 4) rfl rfl (by decide)
            have n14_4_1 : gb3 ≠ gm := O14.out.ne (i := 4) (j := 1) rfl rfl (by decide)
            clear o_ k_
            refine pure_ (i := 0) (N := some 95) (v := ?_) (a' := ?_) #[true, false, false, false, false, false, false, false, false, false, false, false, false, false] rfl rfl (by kernel_rfl) (fun _ _ _ h => h) (Or.inl ⟨by rfl, ?_⟩) ?_ ?_
            rotate_left
            · intro w'
              go_simp
              with_reducible rfl
            rotate_left
            · simp only [Act.put, List.setIfInBounds_toArray, List.set_cons_zero, List.set_cons_succ, i64_w, i32_w]
              rfl
            refine pure_ (i := 1) (N := some 96) (v := ?_) (a' := ?_) #[true, true, false, false, false, false, false, false, false, false, false, false, false, false] rfl rfl (by kernel_rfl) (fun _ _ _ h => h) (Or.inl ⟨by rfl, ?_⟩) ?_ ?_
            rotate_left
            · intro w'
              go_simp
              with_reducible rfl
            rotate_left
            · simp only [Act.put, List.setIfInBounds_toArray, List.set_cons_zero, List.set_cons_succ, i64_w, i32_w]
              rfl
            refine pure_ (i := 2) (N := some 97) (v := ?_) (a' := ?_) #[true, true, true, false, false, false, false, false, false, false, false, false, false, false] rfl rfl (by kernel_rfl) (fun _ _ _ h => h) (Or.inl ⟨by rfl, ?_⟩) ?_ ?_
            rotate_left
            · intro w'
              go_simp
              with_reducible rfl
            rotate_left
            · simp only [Act.put, List.setIfInBounds_toArray, List.set_cons_zero, List.set_cons_succ, i64_w, i32_w]
              rfl
            refine pure_ (i := 4) (N := some 99) (v := ?_) (a' := ?_) #[true, true, true, false, true, false, false, false, false, false, false, false, false, false] rfl rfl (by kernel_rfl) (fun _ _ _ h => h) (Or.inl ⟨by rfl, ?_⟩) ?_ ?_
            rotate_left
            · intro w'
              go_simp
              with_reducible rfl
            rotate_left
            · simp only [Act.put, List.setIfInBounds_toArray, List.set_cons_zero, List.set_cons_succ, i64_w, i32_w]
              rfl
            refine pure_ (i := 5) (N := some 100) (v := ?_) (a' := ?_) #[true, true, true, false, true, true, false, false, false, false, false, false, false, false] rfl rfl (by kernel_rfl) (fun _ _ _ h => h) (Or.inl ⟨by rfl, ?_⟩) ?_ ?_
            rotate_left
            · intro w'
              go_simp
              with_reducible rfl
            rotate_left
            · simp only [Act.put, List.setIfInBounds_toArray, List.set_cons_zero, List.set_cons_succ, i64_w, i32_w]
              rfl
            refine pure_ (i := 6) (N := some 101) (v := ?_) (a' := ?_) #[true, true, true, false, true, true, true, false, false, false, false, false, false, false] rfl rfl (by kernel_rfl) (fun _ _ _ h => h) (Or.inl ⟨by rfl, ?_⟩) ?_ ?_
            rotate_left
            · intro w'
              go_simp
              with_reducible rfl
            rotate_left
            · simp only [Act.put, List.setIfInBounds_toArray, List.set_cons_zero, List.set_cons_succ, i64_w, i32_w]
              rfl
            refine pure_ (i := 8) (N := some 103) (v := ?_) (a' := ?_) #[true, true, true, false, true, true, true, false, true, false, false, false, false, false] rfl rfl (by kernel_rfl) (fun _ _ _ h => h) (Or.inl ⟨by rfl, ?_⟩) ?_ ?_
            rotate_left
            · intro w'
              go_simp
              with_reducible rfl
            rotate_left
            · simp only [Act.put, List.setIfInBounds_toArray, List.set_cons_zero, List.set_cons_succ, i64_w, i32_w]
              rfl
            refine take_ (i := 3) (N := some 98) (v := ?_) (a' := ?_) #[true, true, true, true, true, true, true, false, true, false, false, false, false, false] rfl rfl (by kernel_rfl) (fun _ _ _ h => h) (Or.inl ⟨by rfl, ?_⟩) hHeld ?_ ?_
            rotate_left
            · rintro w' ⟨s0, s1, s2, s3, s4, s5, s6, s7, s8⟩
              go_simp
              with_reducible rfl
            rotate_left
            · simp only [Act.put, List.setIfInBounds_toArray, List.set_cons_zero, List.set_cons_succ, i64_w, i32_w]
              rfl
            refine take_ (i := 7) (N := some 102) (v := ?_) (a' := ?_) #[true, true, true, true, true, true, true, true, true, false, false, false, false, false] rfl rfl (by kernel_rfl) (fun _ _ _ h => h) (Or.inl ⟨by rfl, ?_⟩) hHeld ?_ ?_
            rotate_left
            · rintro w' ⟨s0, s1, s2, s3, s4, s5, s6, s7, s8⟩
              go_simp
              with_reducible rfl
            rotate_left
            · simp only [Act.put, List.setIfInBounds_toArray, List.set_cons_zero, List.set_cons_succ, i64_w, i32_w]
              rfl
            refine pure_ (i := 9) (N := some 104) (v := ?_) (a' := ?_) #[true, true, true, true, true, true, true, true, true, true, false, false, false, false] rfl rfl (by kernel_rfl) (fun _ _ _ h => h) (Or.inl ⟨by rfl, ?_⟩) ?_ ?_
            rotate_left
            · intro w'
              go_simp
              with_reducible rfl
            rotate_left
            · simp only [Act.put, List.setIfInBounds_toArray, List.set_cons_zero, List.set_cons_succ, i64_w, i32_w]
              rfl
            refine take_ (i := 10) (N := some 105) (v := ?_) (a' := ?_) #[true, true, true, true, true, true, true, true, true, true, true, false, false, false] rfl rfl (by kernel_rfl) (fun _ _ _ h => h) (Or.inl ⟨by rfl, ?_⟩) hHeld ?_ ?_
            rotate_left
            · rintro w' ⟨s0, s1, s2, s3, s4, s5, s6, s7, s8⟩
              go_simp
              with_reducible rfl
            rotate_left
            · simp only [Act.put, List.setIfInBounds_toArray, List.set_cons_zero, List.set_cons_succ, i64_w, i32_w]
              rfl
            refine one_ (i := 11) (N := some 106) #[true, true, true, true, true, true, true, true, true, true, true, true, false, false] rfl rfl (by kernel_rfl) (by decide) (fun K_ hK_ => ?_)
            refine goes_ Try.func14 (by kernel_rfl) rfl #[.agg #[.int .i64 (rd_T32 L y).f0, .int .i64 (rd_T32 L y).f1, .slice B7 (rd_T32 L y).f2.length d7], .agg #[.int .i64 (rd_T32 L y).f0, .int .i64 (rd_T32 L y).f1, .slice A6 (rd_T32 L y).f2.length c6]] (by rfl) rfl rfl (by (try simp only [List.map_toArray, List.map_cons, List.map_nil]); first | done | rfl) ?_
            refine (chapbookref07_Same.calls 30 (rd_T32 L y).f0 (rd_T32 L y).f1 _ _ (rd_T32 L y).f2 (rd_T32 L y).f0 (rd_T32 L y).f1 _ _ (rd_T32 L y).f2 true _ (O14.out.nreads (i := 3) rfl).2.2 (O14.out.nreads (i := 3) rfl).2.1 (Kd.F_now HRI_14.out) HC6.out (psame 30 _ _ _ (by have := HS8.out; omega) (by have := HS8.out; omega))).mono ?_
            rintro e_ w15 ⟨rfl, hb_⟩
            refine ⟨_, rfl, ?_⟩
            have o_ := O14.out.below hb_
            have k_ := KeepS.of_below (N := N1) hb_
            have O15 : Aside0 (Own N1 w15 [Obj3 52 gj a0_0 M L, cells gm #[.int .i64 a0_0, .int .i64 M, .slice (some ad) L.length cm] 42, emp, nrow k50 50 (.slice B7 (rd_T32 L y).f2.length d7) (rd_T32 L y).f2, cells gb3 #[.int .i64 (rd_T32 L y).f0, .int .i64 (rd_T32 L y).f1, .slice B7 (rd_T32 L y).f2.length d7] 32]) := ⟨o_⟩
            have K15 : Aside0 (KeepS N1 wo w15) := ⟨K14.out.trans k_⟩
            have HRI_15 : Aside0 (Kd.F k50 w15 N1 A6 (rd_T32 L y).f2.length (rd_T32 L y).f2) := ⟨keepF HRI_14.out k_⟩
            clear c14_1_0 f14_1_0 c14_1_1 f14_1_1 c14_1_2 f14_1_2 c14_4_0 f14_4_0 c14_4_1 f14_4_1 c14_4_2 f14_4_2 n14_1_4 n14_4_1 O14 K14 HRI_14
            have c15_1_0 : w15.cell? ⟨gm, 0, none⟩ = some (.int .i64 a0_0) := (blk_cell (O15.out.blk (i := 1) rfl) 0).trans rfl
            have f15_1_0 : w15.frozen? ⟨gm, 0, none⟩ = false := blk_frozen (O15.out.blk (i := 1) rfl) 0
            have c15_1_1 : w15.cell? ⟨gm, 1, none⟩ = some (.int .i64 M) := (blk_cell (O15.out.blk (i := 1) rfl) 1).trans rfl
            have f15_1_1 : w15.frozen? ⟨gm, 1, none⟩ = false := blk_frozen (O15.out.blk (i := 1) rfl) 1
            have c15_1_2 : w15.cell? ⟨gm, 2, none⟩ = some (.slice (some ad) L.length cm) := (blk_cell (O15.out.blk (i := 1) rfl) 2).trans rfl
            have f15_1_2 : w15.frozen? ⟨gm, 2, none⟩ = false := blk_frozen (O15.out.blk (i := 1) rfl) 2
            have c15_4_0 : w15.cell? ⟨gb3, 0, none⟩ = some (.int .i64 (rd_T32 L y).f0) := (blk_cell (O15.out.blk (i := 4) rfl) 0).trans rfl
            have f15_4_0 : w15.frozen? ⟨gb3, 0, none⟩ = false := blk_frozen (O15.out.blk (i := 4) rfl) 0
            have c15_4_1 : w15.cell? ⟨gb3, 1, none⟩ = some (.int .i64 (rd_T32 L y).f1) := (blk_cell (O15.out.blk (i := 4) rfl) 1).trans rfl
            have f15_4_1 : w15.frozen? ⟨gb3, 1, none⟩ = false := blk_frozen (O15.out.blk (i := 4) rfl) 1
            have c15_4_2 : w15.cell? ⟨gb3, 2, none⟩ = some (.slice B7 (rd_T32 L y).f2.length d7) := (blk_cell (O15.out.blk (i := 4) rfl) 2).trans rfl
            have f15_4_2 : w15.frozen? ⟨gb3, 2, none⟩ = false := blk_frozen (O15.out.blk (i := 4) rfl) 2
            have n15_1_4 : gm ≠ gb3 := O15.out.ne (i := 1) (j := 4) rfl rfl (by decide)
            have n15_4_1 : gb3 ≠ gm := O15.out.ne (i := 4) (j := 1) rfl rfl (by decide)
            clear o_ k_ hb_
            clear hHeld
            refine hK_.out _ _ ⟨((blk_cell (O15.out.blk (i := 1) rfl) 0).trans rfl), ((blk_cell (O15.out.blk (i := 1) rfl) 1).trans rfl), ((blk_cell (O15.out.blk (i := 1) rfl) 2).trans rfl), ((blk_cell (O15.out.blk (i := 4) rfl) 0).trans rfl), ((blk_cell (O15.out.blk (i := 4) rfl) 1).trans rfl), ((blk_cell (O15.out.blk (i := 4) rfl) 2).trans rfl), (keepCell K15.out XX.out.1 HBK.out), (keepCell K15.out XX.out.2.1 HBK.out), (keepCell K15.out XX.out.2.2 HBK.out)⟩ (fun hHeld => ?_)
            clear hK_ K_
            refine norm_ (a' := ?_) ?_ ?_
            rotate_left
            · simp only [Act.put, List.setIfInBounds_toArray, List.set_cons_zero, List.set_cons_succ, i64_w, i32_w]
              rfl
            refine pure_ (i := 12) (N := some 107) (v := ?_) (a' := ?_) #[true, true, true, true, true, true, true, true, true, true, true, true, true, false] rfl rfl (by kernel_rfl) (fun _ _ _ h => h) (Or.inl ⟨by rfl, ?_⟩) ?_ ?_
            rotate_left
            · intro w'
              go_simp
              with_reducible rfl
            rotate_left
            · simp only [Act.put, List.setIfInBounds_toArray, List.set_cons_zero, List.set_cons_succ, i64_w, i32_w]
              rfl
            refine pure_ (i := 13) (N := some 108) (v := ?_) (a' := ?_) #[true, true, true, true, true, true, true, true, true, true, true, true, true, true] rfl rfl (by kernel_rfl) (fun _ _ _ h => h) (Or.inl ⟨by rfl, ?_⟩) ?_ ?_
            rotate_left
            · intro w'
              go_simp
              with_reducible rfl
            rotate_left
            · simp only [Act.put, List.setIfInBounds_toArray, List.set_cons_zero, List.set_cons_succ, i64_w, i32_w]
              rfl
            refine done_ (by kernel_rfl) ?_
            clear hHeld
            go_wp2
            go_roundw
            case rel => exact ⟨y + 1, by have := HY.out; omega, by have := HY.out; omega, int_eq (by unfold wrap64; have := HY.out; have := HLL.out; omega), ⟨O15.out.pick3 (a := 0) (b := 1) (c := 2) rfl rfl rfl (by decide) (by decide) (by decide)⟩, K15⟩
            case measure => have := HY.out; simp [intOf]; omega
          · have hye : y = (L.length : Int) := by omega
            subst hye
            have hd2 : decide ((L.length : Int) < (L.length : Int)) = false := decide_eq_false (Int.lt_irrefl _)
            clear hlt hy0 hy1 hF2
            have O16 : Aside0 (Own N1 wr [Obj3 52 gj a0_0 M L, cells gm #[.int .i64 a0_0, .int .i64 M, .slice Am L.length cm] 42, emp]) := ⟨OB.out⟩
            have K16 : Aside0 (KeepS N1 wo wr) := ⟨KB.out⟩
            have c16_1_0 : wr.cell? ⟨gm, 0, none⟩ = some (.int .i64 a0_0) := (blk_cell (O16.out.blk (i := 1) rfl) 0).trans rfl
            have f16_1_0 : wr.frozen? ⟨gm, 0, none⟩ = false := blk_frozen (O16.out.blk (i := 1) rfl) 0
            have c16_1_1 : wr.cell? ⟨gm, 1, none⟩ = some (.int .i64 M) := (blk_cell (O16.out.blk (i := 1) rfl) 1).trans rfl
            have f16_1_1 : wr.frozen? ⟨gm, 1, none⟩ = false := blk_frozen (O16.out.blk (i := 1) rfl) 1
            have c16_1_2 : wr.cell? ⟨gm, 2, none⟩ = some (.slice Am L.length cm) := (blk_cell (O16.out.blk (i := 1) rfl) 2).trans rfl
            have f16_1_2 : wr.frozen? ⟨gm, 2, none⟩ = false := blk_frozen (O16.out.blk (i := 1) rfl) 2
            clear OB KB
            go_wp2_with (first | ((with_reducible refine gate_callee (f := 16) rfl ?_); refine goesL_ (some 112) rfl rfl Try.func16 (by kernel_rfl) rfl #[.pointer (some ⟨gj, 0, none⟩), .int .i64 (-1)] rfl (by (try simp only [List.map_toArray, List.map_cons, List.map_nil]); first | done | rfl) ?_; obtain ⟨N_, on_, nn_, rr_, bb_⟩ := O16.out.frame1 (i := 0) rfl; refine (At_out (-1) on_ HLL.out (.inl (by decide))).mono ?_; rintro e_ w17 ⟨rfl, oo_, kk_⟩; obtain ⟨o_, k_⟩ := bb_ _ _ _ kk_ oo_; refine ⟨_, rfl, ?_⟩; have O17 : Aside0 (Own N1 w17 [Obj3 52 gj a0_0 M L, cells gm #[.int .i64 a0_0, .int .i64 M, .slice Am L.length cm] 42, emp]) := ⟨o_⟩; have K17 : Aside0 (KeepS N1 wo w17) := ⟨K16.out.trans k_⟩; clear c16_1_0 f16_1_0 c16_1_1 f16_1_1 c16_1_2 f16_1_2 O16 K16; have c17_1_0 : w17.cell? ⟨gm, 0, none⟩ = some (.int .i64 a0_0) := (blk_cell (O17.out.blk (i := 1) rfl) 0).trans rfl; have f17_1_0 : w17.frozen? ⟨gm, 0, none⟩ = false := blk_frozen (O17.out.blk (i := 1) rfl) 0; have c17_1_1 : w17.cell? ⟨gm, 1, none⟩ = some (.int .i64 M) := (blk_cell (O17.out.blk (i := 1) rfl) 1).trans rfl; have f17_1_1 : w17.frozen? ⟨gm, 1, none⟩ = false := blk_frozen (O17.out.blk (i := 1) rfl) 1; have c17_1_2 : w17.cell? ⟨gm, 2, none⟩ = some (.slice Am L.length cm) := (blk_cell (O17.out.blk (i := 1) rfl) 2).trans rfl; have f17_1_2 : w17.frozen? ⟨gm, 2, none⟩ = false := blk_frozen (O17.out.blk (i := 1) rfl) 2; clear o_ k_ oo_ kk_ on_ nn_ rr_ bb_) | ((with_reducible refine gate_dst (N := 16) rfl ?_); refine own_box rfl (D := 16) rfl (cs := #[.int .i64 0, .int .i64 0, .slice none 0 0]) (t := 32) ?hr O17.out ?_; (case hr => first | (go_simp; done) | (go_simp; rfl)); intro gb4 w18 o_ k_; have O18 : Aside0 (Own N1 w18 [Obj3 52 gj a0_0 M L, cells gm #[.int .i64 a0_0, .int .i64 M, .slice Am L.length cm] 42, emp, cells gb4 #[.int .i64 0, .int .i64 0, .slice none 0 0] 32]) := ⟨o_⟩; have K18 : Aside0 (KeepS N1 wo w18) := ⟨K17.out.trans k_⟩; clear c17_1_0 f17_1_0 c17_1_1 f17_1_1 c17_1_2 f17_1_2 O17 K17; have c18_1_0 : w18.cell? ⟨gm, 0, none⟩ = some (.int .i64 a0_0) := (blk_cell (O18.out.blk (i := 1) rfl) 0).trans rfl; have f18_1_0 : w18.frozen? ⟨gm, 0, none⟩ = false := blk_frozen (O18.out.blk (i := 1) rfl) 0; have c18_1_1 : w18.cell? ⟨gm, 1, none⟩ = some (.int .i64 M) := (blk_cell (O18.out.blk (i := 1) rfl) 1).trans rfl; have f18_1_1 : w18.frozen? ⟨gm, 1, none⟩ = false := blk_frozen (O18.out.blk (i := 1) rfl) 1; have c18_1_2 : w18.cell? ⟨gm, 2, none⟩ = some (.slice Am L.length cm) := (blk_cell (O18.out.blk (i := 1) rfl) 2).trans rfl; have f18_1_2 : w18.frozen? ⟨gm, 2, none⟩ = false := blk_frozen (O18.out.blk (i := 1) rfl) 2; have c18_3_0 : w18.cell? ⟨gb4, 0, none⟩ = some (.int .i64 0) := (blk_cell (O18.out.blk (i := 3) rfl) 0).trans rfl; have f18_3_0 : w18.frozen? ⟨gb4, 0, none⟩ = false := blk_frozen (O18.out.blk (i := 3) rfl) 0; have c18_3_1 : w18.cell? ⟨gb4, 1, none⟩ = some (.int .i64 0) := (blk_cell (O18.out.blk (i := 3) rfl) 1).trans rfl; have f18_3_1 : w18.frozen? ⟨gb4, 1, none⟩ = false := blk_frozen (O18.out.blk (i := 3) rfl) 1; have c18_3_2 : w18.cell? ⟨gb4, 2, none⟩ = some (.slice none 0 0) := (blk_cell (O18.out.blk (i := 3) rfl) 2).trans rfl; have f18_3_2 : w18.frozen? ⟨gb4, 2, none⟩ = false := blk_frozen (O18.out.blk (i := 3) rfl) 2; have n18_1_3 : gm ≠ gb4 := O18.out.ne (i := 1) (j := 3) rfl rfl (by decide); have n18_3_1 : gb4 ≠ gm := O18.out.ne (i := 3) (j := 1) rfl rfl (by decide); clear o_ k_) | ((with_reducible refine gate_store (t := 32) (p := 16) rfl ?_); refine own_store rfl rfl rfl (w1 := (World.setCell (World.setCell (World.setCell w18 ⟨gb4, 0, none⟩ (.int .i64 0)) ⟨gb4, 1, none⟩ (.int .i64 0)) ⟨gb4, 2, none⟩ (.slice none 0 0))) (N := N1) (l' := [Obj3 52 gj a0_0 M L, cells gm #[.int .i64 a0_0, .int .i64 M, .slice Am L.length cm] 42, emp, cells gb4 #[.int .i64 0, .int .i64 0, .slice none 0 0] 32]) ?hr ?ho ?hk ?_; (case hr => first | (go_simp; done) | (go_simp; rfl)); (case ho => exact (((O18.out.set (i := 3) rfl 0 (.int .i64 0)).set (i := 3) rfl 1 (.int .i64 0)).set (i := 3) rfl 2 (.slice none 0 0))); (case hk => exact (((KeepS.setCell (O18.out.far (i := 3) rfl) (.int .i64 0)).trans (KeepS.setCell (O18.out.far (i := 3) rfl) (.int .i64 0))).trans (KeepS.setCell (O18.out.far (i := 3) rfl) (.slice none 0 0)))); intro w19 o_ k_; have O19 : Aside0 (Own N1 w19 [Obj3 52 gj a0_0 M L, cells gm #[.int .i64 a0_0, .int .i64 M, .slice Am L.length cm] 42, emp, cells gb4 #[.int .i64 0, .int .i64 0, .slice none 0 0] 32]) := ⟨o_⟩; have K19 : Aside0 (KeepS N1 wo w19) := ⟨K18.out.trans k_⟩; clear c18_1_0 f18_1_0 c18_1_1 f18_1_1 c18_1_2 f18_1_2 c18_3_0 f18_3_0 c18_3_1 f18_3_1 c18_3_2 f18_3_2 n18_1_3 n18_3_1 O18 K18; have c19_1_0 : w19.cell? ⟨gm, 0, none⟩ = some (.int .i64 a0_0) := (blk_cell (O19.out.blk (i := 1) rfl) 0).trans rfl; have f19_1_0 : w19.frozen? ⟨gm, 0, none⟩ = false := blk_frozen (O19.out.blk (i := 1) rfl) 0; have c19_1_1 : w19.cell? ⟨gm, 1, none⟩ = some (.int .i64 M) := (blk_cell (O19.out.blk (i := 1) rfl) 1).trans rfl; have f19_1_1 : w19.frozen? ⟨gm, 1, none⟩ = false := blk_frozen (O19.out.blk (i := 1) rfl) 1; have c19_1_2 : w19.cell? ⟨gm, 2, none⟩ = some (.slice Am L.length cm) := (blk_cell (O19.out.blk (i := 1) rfl) 2).trans rfl; have f19_1_2 : w19.frozen? ⟨gm, 2, none⟩ = false := blk_frozen (O19.out.blk (i := 1) rfl) 2; have c19_3_0 : w19.cell? ⟨gb4, 0, none⟩ = some (.int .i64 0) := (blk_cell (O19.out.blk (i := 3) rfl) 0).trans rfl; have f19_3_0 : w19.frozen? ⟨gb4, 0, none⟩ = false := blk_frozen (O19.out.blk (i := 3) rfl) 0; have c19_3_1 : w19.cell? ⟨gb4, 1, none⟩ = some (.int .i64 0) := (blk_cell (O19.out.blk (i := 3) rfl) 1).trans rfl; have f19_3_1 : w19.frozen? ⟨gb4, 1, none⟩ = false := blk_frozen (O19.out.blk (i := 3) rfl) 1; have c19_3_2 : w19.cell? ⟨gb4, 2, none⟩ = some (.slice none 0 0) := (blk_cell (O19.out.blk (i := 3) rfl) 2).trans rfl; have f19_3_2 : w19.frozen? ⟨gb4, 2, none⟩ = false := blk_frozen (O19.out.blk (i := 3) rfl) 2; have n19_1_3 : gm ≠ gb4 := O19.out.ne (i := 1) (j := 3) rfl rfl (by decide); have n19_3_1 : gb4 ≠ gm := O19.out.ne (i := 3) (j := 1) rfl rfl (by decide); clear o_ k_) | ((with_reducible refine gate_callee (f := 16) rfl ?_); refine goesL_ (some 122) rfl rfl Try.func16 (by kernel_rfl) rfl #[.pointer (some ⟨gj, 0, none⟩), .int .i64 (L.length : Int)] rfl (by (try simp only [List.map_toArray, List.map_cons, List.map_nil]); first | done | rfl) ?_; obtain ⟨N_, on_, nn_, rr_, bb_⟩ := O19.out.frame1 (i := 0) rfl; refine (At_out (L.length : Int) on_ HLL.out (.inr (Int.le_refl _))).mono ?_; rintro e_ w20 ⟨rfl, oo_, kk_⟩; obtain ⟨o_, k_⟩ := bb_ _ _ _ kk_ oo_; refine ⟨_, rfl, ?_⟩; have O20 : Aside0 (Own N1 w20 [Obj3 52 gj a0_0 M L, cells gm #[.int .i64 a0_0, .int .i64 M, .slice Am L.length cm] 42, emp, cells gb4 #[.int .i64 0, .int .i64 0, .slice none 0 0] 32]) := ⟨o_⟩; have K20 : Aside0 (KeepS N1 wo w20) := ⟨K19.out.trans k_⟩; clear c19_1_0 f19_1_0 c19_1_1 f19_1_1 c19_1_2 f19_1_2 c19_3_0 f19_3_0 c19_3_1 f19_3_1 c19_3_2 f19_3_2 n19_1_3 n19_3_1 O19 K19; have c20_1_0 : w20.cell? ⟨gm, 0, none⟩ = some (.int .i64 a0_0) := (blk_cell (O20.out.blk (i := 1) rfl) 0).trans rfl; have f20_1_0 : w20.frozen? ⟨gm, 0, none⟩ = false := blk_frozen (O20.out.blk (i := 1) rfl) 0; have c20_1_1 : w20.cell? ⟨gm, 1, none⟩ = some (.int .i64 M) := (blk_cell (O20.out.blk (i := 1) rfl) 1).trans rfl; have f20_1_1 : w20.frozen? ⟨gm, 1, none⟩ = false := blk_frozen (O20.out.blk (i := 1) rfl) 1; have c20_1_2 : w20.cell? ⟨gm, 2, none⟩ = some (.slice Am L.length cm) := (blk_cell (O20.out.blk (i := 1) rfl) 2).trans rfl; have f20_1_2 : w20.frozen? ⟨gm, 2, none⟩ = false := blk_frozen (O20.out.blk (i := 1) rfl) 2; have c20_3_0 : w20.cell? ⟨gb4, 0, none⟩ = some (.int .i64 0) := (blk_cell (O20.out.blk (i := 3) rfl) 0).trans rfl; have f20_3_0 : w20.frozen? ⟨gb4, 0, none⟩ = false := blk_frozen (O20.out.blk (i := 3) rfl) 0; have c20_3_1 : w20.cell? ⟨gb4, 1, none⟩ = some (.int .i64 0) := (blk_cell (O20.out.blk (i := 3) rfl) 1).trans rfl; have f20_3_1 : w20.frozen? ⟨gb4, 1, none⟩ = false := blk_frozen (O20.out.blk (i := 3) rfl) 1; have c20_3_2 : w20.cell? ⟨gb4, 2, none⟩ = some (.slice none 0 0) := (blk_cell (O20.out.blk (i := 3) rfl) 2).trans rfl; have f20_3_2 : w20.frozen? ⟨gb4, 2, none⟩ = false := blk_frozen (O20.out.blk (i := 3) rfl) 2; have n20_1_3 : gm ≠ gb4 := O20.out.ne (i := 1) (j := 3) rfl rfl (by decide); have n20_3_1 : gb4 ≠ gm := O20.out.ne (i := 3) (j := 1) rfl rfl (by decide); clear o_ k_ oo_ kk_ on_ nn_ rr_ bb_) | ((with_reducible refine gate_dst (N := 18) rfl ?_); refine own_box rfl (D := 18) rfl (cs := #[.int .i64 0, .int .i64 0, .slice none 0 0]) (t := 32) ?hr O20.out ?_; (case hr => first | (go_simp; done) | (go_simp; rfl)); intro gb5 w21 o_ k_; have O21 : Aside0 (Own N1 w21 [Obj3 52 gj a0_0 M L, cells gm #[.int .i64 a0_0, .int .i64 M, .slice Am L.length cm] 42, emp, cells gb4 #[.int .i64 0, .int .i64 0, .slice none 0 0] 32, cells gb5 #[.int .i64 0, .int .i64 0, .slice none 0 0] 32]) := ⟨o_⟩; have K21 : Aside0 (KeepS N1 wo w21) := ⟨K20.out.trans k_⟩; clear c20_1_0 f20_1_0 c20_1_1 f20_1_1 c20_1_2 f20_1_2 c20_3_0 f20_3_0 c20_3_1 f20_3_1 c20_3_2 f20_3_2 n20_1_3 n20_3_1 O20 K20; have c21_1_0 : w21.cell? ⟨gm, 0, none⟩ = some (.int .i64 a0_0) := (blk_cell (O21.out.blk (i := 1) rfl) 0).trans rfl; have f21_1_0 : w21.frozen? ⟨gm, 0, none⟩ = false := blk_frozen (O21.out.blk (i := 1) rfl) 0; have c21_1_1 : w21.cell? ⟨gm, 1, none⟩ = some (.int .i64 M) := (blk_cell (O21.out.blk (i := 1) rfl) 1).trans rfl; have f21_1_1 : w21.frozen? ⟨gm, 1, none⟩ = false := blk_frozen (O21.out.blk (i := 1) rfl) 1; have c21_1_2 : w21.cell? ⟨gm, 2, none⟩ = some (.slice Am L.length cm) := (blk_cell (O21.out.blk (i := 1) rfl) 2).trans rfl; have f21_1_2 : w21.frozen? ⟨gm, 2, none⟩ = false := blk_frozen (O21.out.blk (i := 1) rfl) 2; have c21_3_0 : w21.cell? ⟨gb4, 0, none⟩ = some (.int .i64 0) := (blk_cell (O21.out.blk (i := 3) rfl) 0).trans rfl; have f21_3_0 : w21.frozen? ⟨gb4, 0, none⟩ = false := blk_frozen (O21.out.blk (i := 3) rfl) 0; have c21_3_1 : w21.cell? ⟨gb4, 1, none⟩ = some (.int .i64 0) := (blk_cell (O21.out.blk (i := 3) rfl) 1).trans rfl; have f21_3_1 : w21.frozen? ⟨gb4, 1, none⟩ = false := blk_frozen (O21.out.blk (i := 3) rfl) 1; have c21_3_2 : w21.cell? ⟨gb4, 2, none⟩ = some (.slice none 0 0) := (blk_cell (O21.out.blk (i := 3) rfl) 2).trans rfl; have f21_3_2 : w21.frozen? ⟨gb4, 2, none⟩ = false := blk_frozen (O21.out.blk (i := 3) rfl) 2; have c21_4_0 : w21.cell? ⟨gb5, 0, none⟩ = some (.int .i64 0) := (blk_cell (O21.out.blk (i := 4) rfl) 0).trans rfl; have f21_4_0 : w21.frozen? ⟨gb5, 0, none⟩ = false := blk_frozen (O21.out.blk (i := 4) rfl) 0; have c21_4_1 : w21.cell? ⟨gb5, 1, none⟩ = some (.int .i64 0) := (blk_cell (O21.out.blk (i := 4) rfl) 1).trans rfl; have f21_4_1 : w21.frozen? ⟨gb5, 1, none⟩ = false := blk_frozen (O21.out.blk (i := 4) rfl) 1; have c21_4_2 : w21.cell? ⟨gb5, 2, none⟩ = some (.slice none 0 0) := (blk_cell (O21.out.blk (i := 4) rfl) 2).trans rfl; have f21_4_2 : w21.frozen? ⟨gb5, 2, none⟩ = false := blk_frozen (O21.out.blk (i := 4) rfl) 2; have n21_1_3 : gm ≠ gb4 := O21.out.ne (i := 1) (j := 3) rfl rfl (by decide); have n21_1_4 : gm ≠ gb5 := O21.out.ne (i := 1) (j := 4) rfl rfl (by decide); have n21_3_1 : gb4 ≠ gm := O21.out.ne (i := 3) (j := 1) rfl rfl (by decide); have n21_3_4 : gb4 ≠ gb5 := O21.out.ne (i := 3) (j := 4) rfl rfl (by decide); have n21_4_1 : gb5 ≠ gm := O21.out.ne (i := 4) (j := 1) rfl rfl (by decide); have n21_4_3 : gb5 ≠ gb4 := O21.out.ne (i := 4) (j := 3) rfl rfl (by decide); clear o_ k_) | ((with_reducible refine gate_store (t := 32) (p := 18) rfl ?_); refine own_store rfl rfl rfl (w1 := (World.setCell (World.setCell (World.setCell w21 ⟨gb5, 0, none⟩ (.int .i64 0)) ⟨gb5, 1, none⟩ (.int .i64 0)) ⟨gb5, 2, none⟩ (.slice none 0 0))) (N := N1) (l' := [Obj3 52 gj a0_0 M L, cells gm #[.int .i64 a0_0, .int .i64 M, .slice Am L.length cm] 42, emp, cells gb4 #[.int .i64 0, .int .i64 0, .slice none 0 0] 32, cells gb5 #[.int .i64 0, .int .i64 0, .slice none 0 0] 32]) ?hr ?ho ?hk ?_; (case hr => first | (go_simp; done) | (go_simp; rfl)); (case ho => exact (((O21.out.set (i := 4) rfl 0 (.int .i64 0)).set (i := 4) rfl 1 (.int .i64 0)).set (i := 4) rfl 2 (.slice none 0 0))); (case hk => exact (((KeepS.setCell (O21.out.far (i := 4) rfl) (.int .i64 0)).trans (KeepS.setCell (O21.out.far (i := 4) rfl) (.int .i64 0))).trans (KeepS.setCell (O21.out.far (i := 4) rfl) (.slice none 0 0)))); intro w22 o_ k_; have O22 : Aside0 (Own N1 w22 [Obj3 52 gj a0_0 M L, cells gm #[.int .i64 a0_0, .int .i64 M, .slice Am L.length cm] 42, emp, cells gb4 #[.int .i64 0, .int .i64 0, .slice none 0 0] 32, cells gb5 #[.int .i64 0, .int .i64 0, .slice none 0 0] 32]) := ⟨o_⟩; have K22 : Aside0 (KeepS N1 wo w22) := ⟨K21.out.trans k_⟩; clear c21_1_0 f21_1_0 c21_1_1 f21_1_1 c21_1_2 f21_1_2 c21_3_0 f21_3_0 c21_3_1 f21_3_1 c21_3_2 f21_3_2 c21_4_0 f21_4_0 c21_4_1 f21_4_1 c21_4_2 f21_4_2 n21_1_3 n21_1_4 n21_3_1 n21_3_4 n21_4_1 n21_4_3 O21 K21; have c22_1_0 : w22.cell? ⟨gm, 0, none⟩ = some (.int .i64 a0_0) := (blk_cell (O22.out.blk (i := 1) rfl) 0).trans rfl; have f22_1_0 : w22.frozen? ⟨gm, 0, none⟩ = false := blk_frozen (O22.out.blk (i := 1) rfl) 0; have c22_1_1 : w22.cell? ⟨gm, 1, none⟩ = some (.int .i64 M) := (blk_cell (O22.out.blk (i := 1) rfl) 1).trans rfl; have f22_1_1 : w22.frozen? ⟨gm, 1, none⟩ = false := blk_frozen (O22.out.blk (i := 1) rfl) 1; have c22_1_2 : w22.cell? ⟨gm, 2, none⟩ = some (.slice Am L.length cm) := (blk_cell (O22.out.blk (i := 1) rfl) 2).trans rfl; have f22_1_2 : w22.frozen? ⟨gm, 2, none⟩ = false := blk_frozen (O22.out.blk (i := 1) rfl) 2; have c22_3_0 : w22.cell? ⟨gb4, 0, none⟩ = some (.int .i64 0) := (blk_cell (O22.out.blk (i := 3) rfl) 0).trans rfl; have f22_3_0 : w22.frozen? ⟨gb4, 0, none⟩ = false := blk_frozen (O22.out.blk (i := 3) rfl) 0; have c22_3_1 : w22.cell? ⟨gb4, 1, none⟩ = some (.int .i64 0) := (blk_cell (O22.out.blk (i := 3) rfl) 1).trans rfl; have f22_3_1 : w22.frozen? ⟨gb4, 1, none⟩ = false := blk_frozen (O22.out.blk (i := 3) rfl) 1; have c22_3_2 : w22.cell? ⟨gb4, 2, none⟩ = some (.slice none 0 0) := (blk_cell (O22.out.blk (i := 3) rfl) 2).trans rfl; have f22_3_2 : w22.frozen? ⟨gb4, 2, none⟩ = false := blk_frozen (O22.out.blk (i := 3) rfl) 2; have c22_4_0 : w22.cell? ⟨gb5, 0, none⟩ = some (.int .i64 0) := (blk_cell (O22.out.blk (i := 4) rfl) 0).trans rfl; have f22_4_0 : w22.frozen? ⟨gb5, 0, none⟩ = false := blk_frozen (O22.out.blk (i := 4) rfl) 0; have c22_4_1 : w22.cell? ⟨gb5, 1, none⟩ = some (.int .i64 0) := (blk_cell (O22.out.blk (i := 4) rfl) 1).trans rfl; have f22_4_1 : w22.frozen? ⟨gb5, 1, none⟩ = false := blk_frozen (O22.out.blk (i := 4) rfl) 1; have c22_4_2 : w22.cell? ⟨gb5, 2, none⟩ = some (.slice none 0 0) := (blk_cell (O22.out.blk (i := 4) rfl) 2).trans rfl; have f22_4_2 : w22.frozen? ⟨gb5, 2, none⟩ = false := blk_frozen (O22.out.blk (i := 4) rfl) 2; have n22_1_3 : gm ≠ gb4 := O22.out.ne (i := 1) (j := 3) rfl rfl (by decide); have n22_1_4 : gm ≠ gb5 := O22.out.ne (i := 1) (j := 4) rfl rfl (by decide); have n22_3_1 : gb4 ≠ gm := O22.out.ne (i := 3) (j := 1) rfl rfl (by decide); have n22_3_4 : gb4 ≠ gb5 := O22.out.ne (i := 3) (j := 4) rfl rfl (by decide); have n22_4_1 : gb5 ≠ gm := O22.out.ne (i := 4) (j := 1) rfl rfl (by decide); have n22_4_3 : gb5 ≠ gb4 := O22.out.ne (i := 4) (j := 3) rfl rfl (by decide); clear o_ k_))
            go_ret
            exact ⟨rfl, (KA.out.trans (K22.out.mono HN1.out)).below (Nat.le_refl _) (fun k hk => by rw [HN.out]; exact hk)⟩
end Go.Proofs.Ytfpegjdplggkpaa.J
