/- The answers of package feed that the document fixes: a plain walk through awake of the laws' package. -/
import Derived.Test.YtjmoncfgoaaekaaDoorYFeedOrderL3
import Derived.Test.YtjmoncfgoaaekaaDoorYFeedOrderQ0
import Derived.Test.YtjmoncfgoaaekaaDoorYFeedOrderSepL
import Derived.Test.YtjmoncfgoaaekaaDoorYFeedOrderRM
import Derived.Test.YtjmoncfgoaaekaaDoorYFeedOrderQ8
import Derived.Test.YtjmoncfgoaaekaaDoorYFeedOrderC3
import Derived.Test.YtjmoncfgoaaekaaDoorYFeedOrderF2
import Derived.Test.YtjmoncfgoaaekaaDoorYFeedOrderR7P
namespace Go.Proofs.YtjmoncfgoaaekaaDoor.J
set_option linter.unusedSimpArgs false
set_option linter.unusedVariables false
open Go Go.RowKit Go.Proofs.YtjmoncfgoaaekaaDoorW.PrintWords Go.Proofs.YtjmoncfgoaaekaaDoorW.PrintLast Go.Proofs.YtjmoncfgoaaekaaDoorW.PrintMore Go.Proofs.YtjmoncfgoaaekaaDoor.Q Go.Proofs.YtjmoncfgoaaekaaDoor.Sep
abbrev Frm := S40
theorem infoF : (Tryd.prog.info? 40).map (fun i => (i.zero, i.size, i.bytes)) = some (some (.agg #[.int .i64 0, .int .i64 0, .int .i64 0, .string ⟨#[]⟩]), 4, 40) := by kernel_rfl
theorem flatF : Flat k40 := flat_iso _ (flat_pair flat_scalar (flat_pair flat_scalar (flat_pair flat_scalar flat_scalar)))
theorem repF (w : World) (x : Frm) : Reps (Kd.FK k40 w (fun _ => False)) 4 [x] [.int .i64 x.f0, .int .i64 x.f1, .int .i64 x.f2, .string x.f3] := (Reps.none _ 4).snoc (flatF.FK (k40_mk w x)) rfl
def fr (E ack : Int) (p : Piece) : Frm := ⟨E, p.1, ack, p.2⟩
def fr0 (E ack : Int) : Frm := ⟨E, 0, ack, ⟨#[]⟩⟩
def frs (E ack : Int) (xs : List Piece) : List Frm := if xs.length = 0 then [fr0 E ack] else xs.map (fr E ack)
def frU (E ack : Int) (xs : List Piece) (x : Int) : List Frm := (xs.take x.toNat).map (fr E ack)
theorem frU_all (E ack : Int) (xs : List Piece) : frU E ack xs xs.length = xs.map (fr E ack) := by unfold frU; rw [Int.toNat_natCast, List.take_length]
theorem frU_len (E ack : Int) (xs : List Piece) (x : Int) : (frU E ack xs x).length ≤ xs.length := by unfold frU; rw [List.length_map, List.length_take]; exact Nat.min_le_right _ _
theorem frU_snoc (E ack : Int) (xs : List Piece) (x : Int) (h0 : 0 ≤ x) (h1 : x < xs.length) : frU E ack xs (x + 1) = frU E ack xs x ++ [fr E ack (pAt xs x)] := by
 unfold frU pAt
 rw [show (x + 1).toNat = x.toNat + 1 by omega, List.take_succ_eq_append_getElem (by omega), List.map_append, List.getD_eq_getElem?_getD, List.getElem?_eq_getElem (by omega)]
 rfl
theorem at_P2 {w : World} {A : Option Addr} {n : Nat} {xs : List Piece} (h : kP.C w A n xs) (x : Int) (h0 : 0 ≤ x) (h1 : x < n) : ∃ ad, A = some ad ∧ w.cell? (ad.add (x.toNat * 2)) = some (.int .i64 (pAt xs x).1) ∧ w.cell? ⟨(ad.add (x.toNat * 2)).block, (ad.add (x.toNat * 2)).off + 1, none⟩ = some (.string (pAt xs x).2) := by
 obtain ⟨ad, c, e, hl, hk, hc0⟩ := ReadsRow.get_ h pz x h0 h1
 have hk' := kP_open hk
 subst hk'
 have hc : ∀ j u, ([.int .i64 (pAt xs x).1, .string (pAt xs x).2] : List Value)[j]? = some u → w.cell? (ad.add (x.toNat * 2 + j)) = some u := hc0
 exact ⟨ad, e, hc 0 _ rfl, by rw [← add_field _ _ 1 (by omega)]; exact hc 1 _ rfl⟩
theorem slice_lenF {A : Option Addr} {n m c : Nat} (h : n = m) : Value.slice A n c = .slice A m c := by rw [h]
def FrI (N : Nat → Prop) (w : World) (R : List HP) (E ack : Int) (xs : List Piece) (v i : Value) (wr : World) : Prop := ∃ (x : Int) (A2 : Option Addr) (c2 : Nat), 0 ≤ x ∧ x ≤ (xs.length : Int) ∧ i = .int .i64 x ∧ v = .slice A2 (frU E ack xs x).length c2 ∧ Aside0 (Own N wr (R ++ [nrow k40 40 (.slice A2 (frU E ack xs x).length c2) (frU E ack xs x)])) ∧ Aside0 (KeepS N w wr)
theorem own_shutF {N : Nat → Prop} {w : World} {g gs gr : Nat} {E Wn Rm : Int} {Pv : Bool} {W La S : Int} {xs : List Piece} {room acked n : Int} {P Q : HP} {rest : List HP} (h : Own N w ([cells g (linkC gs gr E Wn Rm Pv) 75, RecvO gr room acked n, SendO gs W La S xs, P, Q] ++ rest)) : Own N w [LinkO g E Wn Rm Pv W La S xs room acked n, Q] := by
 obtain ⟨N1, o1, n1, r1, b1⟩ := h.frameL [0, 1, 2] (by decide) (by simp)
 obtain ⟨o2, _⟩ := b1 w [LinkO g E Wn Rm Pv W La S xs room acked n, emp, emp] [] rfl (KeepS.refl _ _) (((LinkO.shut o1).push_emp emp (fun _ => trivial)).push_emp emp (fun _ => trivial))
 exact o2.pick2 (a := 0) (b := 4) rfl rfl (by decide)
set_option maxHeartbeats 16000000 in
set_option maxRecDepth 100000 in
theorem LFrames {N : Nat → Prop} {w : World} {g : Nat} {E Wn Rm : Int} {Pv : Bool} {W La S : Int} {xs : List Piece} {room acked n : Int} (h : Own N w [LinkO g E Wn Rm Pv W La S xs room acked n]) (hE : E ≠ 0) (hl : xs.length ≤ 16) :
  Calls Tryd.prog 23 #[.pointer (some ⟨g, 0, none⟩)] w fun e_ w' => ∃ A1 c1, e_ = .returned (.slice A1 (frs E acked xs).length c1) ∧ Own N w' [LinkO g E Wn Rm Pv W La S xs room acked n, nrow k40 40 (.slice A1 (frs E acked xs).length c1) (frs E acked xs)] ∧ KeepS N w w' := by
 obtain ⟨gs, gr, h2⟩ := LinkO.open_ h
 have d1 : (E == 0) = false := by simp [hE]
 have HL := Aside0.mk hl
 have HLM : Aside0 (xs.length ≤ 1000000) := ⟨by omega⟩
 have O0 : Aside0 (Own N w [cells g #[.pointer (some ⟨gs, 0, none⟩), .pointer (some ⟨gr, 0, none⟩), .int .i64 E, .int .i64 Wn, .int .i64 Rm, .bool Pv] 75, RecvO gr room acked n, SendO gs W La S xs]) := ⟨h2⟩
 have K0 : Aside0 (KeepS N w w) := ⟨KeepS.refl _ _⟩
 obtain ⟨a0a, a0b, a0c, a0d, a0e, a0f, b0⟩ := blk6_ (O0.out.blk (i := 0) rfl)
 clear h2 h hl hE
 go_enter Tryd.func23, Tryd.ntmps23
 go_wp2_with (first | ((with_reducible refine gate_callee (f := 48) rfl ?_); refine goesL_ (some 17) rfl rfl Tryd.func48 (by kernel_rfl) rfl #[.pointer (some ⟨gr, 0, none⟩)] rfl (by (try simp only [List.map_toArray, List.map_cons, List.map_nil]); first | done | rfl) ?_; obtain ⟨N_, on_, nn_, rr_, bb_⟩ := O0.out.frame1 (i := 1) rfl; refine (RecvAck on_).mono ?_; rintro e_ w1 ⟨rfl, oo_, kk_⟩; obtain ⟨o_, k_⟩ := bb_ _ _ _ kk_ oo_; refine ⟨_, rfl, ?_⟩; have O1 : Aside0 (Own N w1 [cells g #[.pointer (some ⟨gs, 0, none⟩), .pointer (some ⟨gr, 0, none⟩), .int .i64 E, .int .i64 Wn, .int .i64 Rm, .bool Pv] 75, RecvO gr room acked n, SendO gs W La S xs]) := ⟨o_⟩; have K1 : Aside0 (KeepS N w w1) := ⟨K0.out.trans k_⟩; clear a0a a0b a0c a0d a0e a0f b0 O0 K0; obtain ⟨a0a, a0b, a0c, a0d, a0e, a0f, b0⟩ := blk6_ (O1.out.blk (i := 0) rfl); clear o_ k_ oo_ kk_ on_ nn_ rr_ bb_) | ((with_reducible refine gate_callee (f := 49) rfl ?_); refine goesL_ (some 23) rfl rfl Tryd.func49 (by kernel_rfl) rfl #[.pointer (some ⟨gs, 0, none⟩)] rfl (by (try simp only [List.map_toArray, List.map_cons, List.map_nil]); first | done | rfl) ?_; obtain ⟨N_, on_, nn_, rr_, bb_⟩ := O1.out.frame1 (i := 2) rfl; refine (SPieces on_ HLM.out).mono ?_; rintro e_ w2 ⟨A1, c1, rfl, oo_, kk_⟩; obtain ⟨o_, k_⟩ := bb_ _ _ _ kk_ oo_; refine ⟨_, rfl, ?_⟩; have O2 : Aside0 (Own N w2 [cells g #[.pointer (some ⟨gs, 0, none⟩), .pointer (some ⟨gr, 0, none⟩), .int .i64 E, .int .i64 Wn, .int .i64 Rm, .bool Pv] 75, RecvO gr room acked n, SendO gs W La S xs, nrow kP 102 (.slice A1 xs.length c1) xs]) := ⟨o_⟩; have K2 : Aside0 (KeepS N w w2) := ⟨K1.out.trans k_⟩; clear a0a a0b a0c a0d a0e a0f b0 O1 K1; obtain ⟨a0a, a0b, a0c, a0d, a0e, a0f, b0⟩ := blk6_ (O2.out.blk (i := 0) rfl); clear o_ k_ oo_ kk_ on_ nn_ rr_ bb_))
 clear a0a a0b a0c a0d a0e a0f b0
 go_loopw [3, 25] (fun v i wr => FrI N w [cells g #[.pointer (some ⟨gs, 0, none⟩), .pointer (some ⟨gr, 0, none⟩), .int .i64 E, .int .i64 Wn, .int .i64 Rm, .bool Pv] 75, RecvO gr room acked n, SendO gs W La S xs, nrow kP 102 (.slice A1 xs.length c1) xs] E acked xs v i wr) (fun _ i _ => xs.length - (intOf i).toNat)
 case atStart => exact ⟨0, none, 0, by omega, by omega, rfl, rfl, ⟨O2.out.push_emp (nrow k40 40 (.slice none 0 0) []) (fun w => Kd.N_nil _ _ _ _ _)⟩, K2⟩
 case round =>
  obtain ⟨x, A2, c2, hx0, hx1, rfl, rfl, OA, KA⟩ := hrel
  clear O2 K2
  obtain ⟨R, hR⟩ : ∃ R, R = frU E acked xs x := ⟨_, rfl⟩
  rw [← hR] at OA ⊢
  have HR := Aside0.mk hR
  have HRL : Aside0 (R.length ≤ 16) := ⟨by rw [hR]; have := frU_len E acked xs x; have := HL.out; omega⟩
  clear hR
  have hll := HL.out
  by_cases hlt : x < (xs.length : Int)
  ·obtain ⟨ad, e3, x0, x1⟩ := at_P2 (OA.out.nreads (i := 3) rfl).2.2 x hx0 hlt
   cases e3
   have hs2 : wrap64 (x + 1) = x + 1 := by unfold wrap64; omega
   have hp := eq_true hx0
   have hq := eq_true hlt
   have hd : decide (x < (xs.length : Int)) = true := decide_eq_true hlt
   have HX := Aside0.mk (And.intro hx0 hlt)
   obtain ⟨y, hy⟩ : ∃ y, y = pAt xs x := ⟨_, rfl⟩
   rw [← hy] at x0 x1
   have HY := Aside0.mk hy
   clear hy hx0 hx1 hlt hll
   have O3 : Aside0 (Own N wr [cells g #[.pointer (some ⟨gs, 0, none⟩), .pointer (some ⟨gr, 0, none⟩), .int .i64 E, .int .i64 Wn, .int .i64 Rm, .bool Pv] 75, RecvO gr room acked n, SendO gs W La S xs, nrow kP 102 (.slice (some ad) xs.length c1) xs, nrow k40 40 (.slice A2 R.length c2) R]) := ⟨OA.out⟩
   have K3 : Aside0 (KeepS N w wr) := ⟨KA.out⟩
   obtain ⟨a0a, a0b, a0c, a0d, a0e, a0f, b0⟩ := blk6_ (O3.out.blk (i := 0) rfl)
   clear OA KA
   go_wp2_with (first | ((with_reducible refine gate_dst (N := 6) rfl ?_); refine own_box rfl (D := 6) rfl (cs := #[.int .i64 0, .string ⟨#[]⟩]) (t := 102) ?hr O3.out ?_; (case hr => first | (go_simp; done) | (go_simp; rfl)); intro gp w4 o_ k_; have O4 : Aside0 (Own N w4 [cells g #[.pointer (some ⟨gs, 0, none⟩), .pointer (some ⟨gr, 0, none⟩), .int .i64 E, .int .i64 Wn, .int .i64 Rm, .bool Pv] 75, RecvO gr room acked n, SendO gs W La S xs, nrow kP 102 (.slice (some ad) xs.length c1) xs, nrow k40 40 (.slice A2 R.length c2) R, cells gp #[.int .i64 0, .string ⟨#[]⟩] 102]) := ⟨o_⟩; have K4 : Aside0 (KeepS N w w4) := ⟨K3.out.trans k_⟩; clear a0a a0b a0c a0d a0e a0f b0 O3 K3; obtain ⟨a0a, a0b, a0c, a0d, a0e, a0f, b0⟩ := blk6_ (O4.out.blk (i := 0) rfl); obtain ⟨a5a, a5b, b5⟩ := blk2_ (O4.out.blk (i := 5) rfl); clear o_ k_) | ((with_reducible refine gate_store (t := 102) (p := 6) rfl ?_); refine own_store rfl rfl rfl (w1 := (World.setCell (World.setCell w4 ⟨gp, 0, none⟩ (.int .i64 y.1)) ⟨gp, 1, none⟩ (.string y.2))) (N := N) (l' := [cells g #[.pointer (some ⟨gs, 0, none⟩), .pointer (some ⟨gr, 0, none⟩), .int .i64 E, .int .i64 Wn, .int .i64 Rm, .bool Pv] 75, RecvO gr room acked n, SendO gs W La S xs, nrow kP 102 (.slice (some ad) xs.length c1) xs, nrow k40 40 (.slice A2 R.length c2) R, cells gp #[.int .i64 y.1, .string y.2] 102]) ?hr ?ho ?hk ?_; (case hr => first | (go_simp; done) | (go_simp; rfl)); (case ho => exact ((O4.out.set (i := 5) rfl 0 (.int .i64 y.1)).set (i := 5) rfl 1 (.string y.2))); (case hk => exact ((KeepS.setCell (O4.out.far (i := 5) rfl) (.int .i64 y.1)).trans (KeepS.setCell (O4.out.far (i := 5) rfl) (.string y.2)))); intro w5 o_ k_; have O5 : Aside0 (Own N w5 [cells g #[.pointer (some ⟨gs, 0, none⟩), .pointer (some ⟨gr, 0, none⟩), .int .i64 E, .int .i64 Wn, .int .i64 Rm, .bool Pv] 75, RecvO gr room acked n, SendO gs W La S xs, nrow kP 102 (.slice (some ad) xs.length c1) xs, nrow k40 40 (.slice A2 R.length c2) R, cells gp #[.int .i64 y.1, .string y.2] 102]) := ⟨o_⟩; have K5 : Aside0 (KeepS N w w5) := ⟨K4.out.trans k_⟩; clear a0a a0b a0c a0d a0e a0f b0 a5a a5b b5 O4 K4; obtain ⟨a0a, a0b, a0c, a0d, a0e, a0f, b0⟩ := blk6_ (O5.out.blk (i := 0) rfl); obtain ⟨a5a, a5b, b5⟩ := blk2_ (O5.out.blk (i := 5) rfl); clear o_ k_))
   refine start_ (n := 14) (S := fun w' => w'.cell? ⟨g, 0, none⟩ = some (.pointer (some ⟨gs, 0, none⟩)) ∧ w'.cell? ⟨g, 1, none⟩ = some (.pointer (some ⟨gr, 0, none⟩)) ∧ w'.cell? ⟨g, 2, none⟩ = some (.int .i64 E) ∧ w'.cell? ⟨g, 3, none⟩ = some (.int .i64 Wn) ∧ w'.cell? ⟨g, 4, none⟩ = some (.int .i64 Rm) ∧ w'.cell? ⟨g, 5, none⟩ = some (.bool Pv) ∧ w'.cell? ⟨gp, 0, none⟩ = some (.int .i64 y.1) ∧ w'.cell? ⟨gp, 1, none⟩ = some (.string y.2)) (ds := [12]) #[false, false, false, false, false, false, false, false, false, false, false, false, false, false] (by kernel_rfl) rfl rfl ⟨((blk_cell (O5.out.blk (i := 0) rfl) 0).trans rfl), ((blk_cell (O5.out.blk (i := 0) rfl) 1).trans rfl), ((blk_cell (O5.out.blk (i := 0) rfl) 2).trans rfl), ((blk_cell (O5.out.blk (i := 0) rfl) 3).trans rfl), ((blk_cell (O5.out.blk (i := 0) rfl) 4).trans rfl), ((blk_cell (O5.out.blk (i := 0) rfl) 5).trans rfl), ((blk_cell (O5.out.blk (i := 5) rfl) 0).trans rfl), ((blk_cell (O5.out.blk (i := 5) rfl) 1).trans rfl)⟩ (fun hHeld => ?_)
   obtain ⟨w6, hw_⟩ : ∃ W, W = w5.drew := ⟨_, rfl⟩
   have o_ := O5.out.drew
   have k_ : KeepS N w5 w5.drew := KeepS.drew
   rw [← hw_] at o_ k_ hHeld ⊢
   clear hw_
   have O6 : Aside0 (Own N w6 [cells g #[.pointer (some ⟨gs, 0, none⟩), .pointer (some ⟨gr, 0, none⟩), .int .i64 E, .int .i64 Wn, .int .i64 Rm, .bool Pv] 75, RecvO gr room acked n, SendO gs W La S xs, nrow kP 102 (.slice (some ad) xs.length c1) xs, nrow k40 40 (.slice A2 R.length c2) R, cells gp #[.int .i64 y.1, .string y.2] 102]) := ⟨o_⟩
   have K6 : Aside0 (KeepS N w w6) := ⟨K5.out.trans k_⟩
   clear a0a a0b a0c a0d a0e a0f b0 a5a a5b b5 O5 K5
   obtain ⟨a0a, a0b, a0c, a0d, a0e, a0f, b0⟩ := blk6_ (O6.out.blk (i := 0) rfl)
   obtain ⟨a5a, a5b, b5⟩ := blk2_ (O6.out.blk (i := 5) rfl)
   clear o_ k_
   refine pP 0 (some 29) ?_
   refine pP 1 (some 30) ?_
   refine pP 2 (some 31) ?_
   refine pP 3 (some 32) ?_
   refine pP 5 (some 34) ?_
   refine pP 7 (some 36) ?_
   refine pP 8 (some 37) ?_
   refine tP 4 (some 33) hHeld ?_
   refine tP 6 (some 35) hHeld ?_
   refine tP 9 (some 38) hHeld ?_
   refine pP 10 (some 39) ?_
   refine oP 11 (some 40) (fun K_ hK_ => ?_)
   refine own_lit_step k40 (N := N) (e := 40) (xs := [(fr E acked y)]) (inner := [.int .i64 E, .int .i64 y.1, .int .i64 acked, .string y.2]) rfl rfl ?hr (repF _ (fr E acked y)) (by show 1 ≤ 9223372036854775807; decide) O6.out ?_
   (case hr => first | (go_simp; done) | (go_simp; rfl))
   intro B1 d1_ w7 o_ k_
   have O7 : Aside0 (Own N w7 [cells g #[.pointer (some ⟨gs, 0, none⟩), .pointer (some ⟨gr, 0, none⟩), .int .i64 E, .int .i64 Wn, .int .i64 Rm, .bool Pv] 75, RecvO gr room acked n, SendO gs W La S xs, nrow kP 102 (.slice (some ad) xs.length c1) xs, nrow k40 40 (.slice A2 R.length c2) R, cells gp #[.int .i64 y.1, .string y.2] 102, nrow k40 40 (.slice B1 1 d1_) [(fr E acked y)]]) := ⟨o_⟩
   have K7 : Aside0 (KeepS N w w7) := ⟨K6.out.trans k_⟩
   clear a0a a0b a0c a0d a0e a0f b0 a5a a5b b5 O6 K6
   obtain ⟨a0a, a0b, a0c, a0d, a0e, a0f, b0⟩ := blk6_ (O7.out.blk (i := 0) rfl)
   obtain ⟨a5a, a5b, b5⟩ := blk2_ (O7.out.blk (i := 5) rfl)
   clear o_ k_
   clear hHeld
   refine hK_.out _ _ ⟨((blk_cell (O7.out.blk (i := 0) rfl) 0).trans rfl), ((blk_cell (O7.out.blk (i := 0) rfl) 1).trans rfl), ((blk_cell (O7.out.blk (i := 0) rfl) 2).trans rfl), ((blk_cell (O7.out.blk (i := 0) rfl) 3).trans rfl), ((blk_cell (O7.out.blk (i := 0) rfl) 4).trans rfl), ((blk_cell (O7.out.blk (i := 0) rfl) 5).trans rfl), ((blk_cell (O7.out.blk (i := 5) rfl) 0).trans rfl), ((blk_cell (O7.out.blk (i := 5) rfl) 1).trans rfl)⟩ (fun hHeld => ?_)
   clear hK_ K_
   refine nP ?_
   refine lP 12 (some 41) (fun K_ hK_ => ?_)
   refine Own.append_flat_step k40 flatF O7.out (i := 4) rfl (O7.out.nreads (i := 6) rfl).2.2 rfl (by rfl) (.tmp 29) (.tmp 40) 54 (.agg #[.int .i64 0, .int .i64 0, .int .i64 0, .string ⟨#[]⟩]) 40 rfl Tryd.underlying54 infoF rfl (by decide) (by decide) rfl rfl (by have := HRL.out; omega) ?_
   intro A5 c5 w8 o_ k_
   have O8 : Aside0 (Own N w8 [cells g #[.pointer (some ⟨gs, 0, none⟩), .pointer (some ⟨gr, 0, none⟩), .int .i64 E, .int .i64 Wn, .int .i64 Rm, .bool Pv] 75, RecvO gr room acked n, SendO gs W La S xs, nrow kP 102 (.slice (some ad) xs.length c1) xs, nrow k40 40 (.slice A5 (R ++ [(fr E acked y)]).length c5) (R ++ [(fr E acked y)]), cells gp #[.int .i64 y.1, .string y.2] 102, nrow k40 40 (.slice B1 1 d1_) [(fr E acked y)]]) := ⟨o_⟩
   have K8 : Aside0 (KeepS N w w8) := ⟨K7.out.trans k_⟩
   clear a0a a0b a0c a0d a0e a0f b0 a5a a5b b5 O7 K7
   obtain ⟨a0a, a0b, a0c, a0d, a0e, a0f, b0⟩ := blk6_ (O8.out.blk (i := 0) rfl)
   obtain ⟨a5a, a5b, b5⟩ := blk2_ (O8.out.blk (i := 5) rfl)
   clear o_ k_
   refine hK_.out _ _ ?_
   clear hK_ K_
   refine nP ?_
   refine pP 13 (some 3) ?_
   refine done_ (by kernel_rfl) ?_
   clear hHeld
   go_wp2
   go_roundw
   case rel =>
    have hs_ := frU_snoc E acked xs x HX.out.1 HX.out.2
    refine ⟨x + 1, A5, c5, by have := HX.out; omega, by have := HX.out; omega, congrArg (Value.int .i64) (by unfold wrap64; have := HX.out; have := HL.out; omega), ?_, ⟨?_⟩, K8⟩
    ·rw [hs_, ← HR.out, ← HY.out]; exact slice_lenF (by simp)
    ·rw [hs_, ← HR.out, ← HY.out]; exact O8.out.take 5
   case measure => have := HX.out; simp [intOf]; omega
  ·have hd : decide (x < (xs.length : Int)) = false := decide_eq_false hlt
   have hRx : R = xs.map (fr E acked) := by rw [HR.out, show x = (xs.length : Int) by omega]; exact frU_all _ _ _
   have HRX := Aside0.mk hRx
   have hRn : R.length = xs.length := by rw [hRx, List.length_map]
   have HRN := Aside0.mk hRn
   clear hlt hx0 hx1 hRx hRn hll
   have O3 : Aside0 (Own N wr [cells g #[.pointer (some ⟨gs, 0, none⟩), .pointer (some ⟨gr, 0, none⟩), .int .i64 E, .int .i64 Wn, .int .i64 Rm, .bool Pv] 75, RecvO gr room acked n, SendO gs W La S xs, nrow kP 102 (.slice A1 xs.length c1) xs, nrow k40 40 (.slice A2 R.length c2) R]) := ⟨OA.out⟩
   have K3 : Aside0 (KeepS N w wr) := ⟨KA.out⟩
   obtain ⟨a0a, a0b, a0c, a0d, a0e, a0f, b0⟩ := blk6_ (O3.out.blk (i := 0) rfl)
   clear OA KA
   by_cases hz : R.length = 0
   ·have hd2 : ((R.length : Int) == 0) = true := by simp [hz]
    have HZ := Aside0.mk hz
    clear hz
    go_wp2_with (first | ((with_reducible refine gate_dst (N := 53) rfl ?_); refine own_lit k40 (N := N) (e := 40) (xs := [(fr0 E acked)]) (inner := [.int .i64 E, .int .i64 0, .int .i64 acked, .string ⟨#[]⟩]) rfl (D := 53) rfl ?hr ?hp (by show 1 ≤ 9223372036854775807; decide) O3.out ?_; (case hr => first | (go_simp; done) | (go_simp; rfl)); (case hp => exact repF _ (fr0 E acked)); intro B1 d1_ w4 o_ k_; have O4 : Aside0 (Own N w4 [cells g #[.pointer (some ⟨gs, 0, none⟩), .pointer (some ⟨gr, 0, none⟩), .int .i64 E, .int .i64 Wn, .int .i64 Rm, .bool Pv] 75, RecvO gr room acked n, SendO gs W La S xs, nrow kP 102 (.slice A1 xs.length c1) xs, nrow k40 40 (.slice A2 R.length c2) R, nrow k40 40 (.slice B1 1 d1_) ([(fr0 E acked)])]) := ⟨o_⟩; have K4 : Aside0 (KeepS N w w4) := ⟨K3.out.trans k_⟩; clear a0a a0b a0c a0d a0e a0f b0 O3 K3; obtain ⟨a0a, a0b, a0c, a0d, a0e, a0f, b0⟩ := blk6_ (O4.out.blk (i := 0) rfl); clear o_ k_) | ((with_reducible refine gate_builtin (b := .append) (xs := #[.tmp 46, .tmp 53]) rfl ?_); at_builtin; refine Own.append_flat k40 flatF O4.out (i := 4) (ys := [(fr0 E acked)]) rfl ((O4.out.nreads (i := 5) rfl).2.2) rfl (.tmp 46) (.tmp 53) 54 (.agg #[.int .i64 0, .int .i64 0, .int .i64 0, .string ⟨#[]⟩]) 40 rfl Tryd.underlying54 infoF rfl (by decide) (by decide) rfl rfl (by have := HRL.out; omega) ?_; intro A5 c5 w5 o_ k_; have O5 : Aside0 (Own N w5 [cells g #[.pointer (some ⟨gs, 0, none⟩), .pointer (some ⟨gr, 0, none⟩), .int .i64 E, .int .i64 Wn, .int .i64 Rm, .bool Pv] 75, RecvO gr room acked n, SendO gs W La S xs, nrow kP 102 (.slice A1 xs.length c1) xs, nrow k40 40 (.slice A5 ((R) ++ ([(fr0 E acked)])).length c5) ((R) ++ ([(fr0 E acked)])), nrow k40 40 (.slice B1 1 d1_) ([(fr0 E acked)])]) := ⟨o_⟩; have K5 : Aside0 (KeepS N w w5) := ⟨K4.out.trans k_⟩; clear a0a a0b a0c a0d a0e a0f b0 O4 K4; obtain ⟨a0a, a0b, a0c, a0d, a0e, a0f, b0⟩ := blk6_ (O5.out.blk (i := 0) rfl); clear o_ k_))
    go_ret
    have hf : frs E acked xs = R ++ [(fr0 E acked)] := by unfold frs; rw [if_pos (by rw [← HRN.out]; exact HZ.out), List.eq_nil_of_length_eq_zero HZ.out]; rfl
    rw [hf]
    exact ⟨A5, c5, congrArg Ending.returned (slice_lenF (n := R.length + 1) (by simp)), own_shutF O5.out, K5.out⟩
   ·have hd2 : ((R.length : Int) == 0) = false := by simp [hz]
    have HZ := Aside0.mk hz
    clear hz
    go_wp2
    go_ret
    have hf : frs E acked xs = R := by unfold frs; rw [if_neg (by rw [← HRN.out]; exact HZ.out)]; exact HRX.out.symm
    rw [hf]
    exact ⟨A2, c2, rfl, own_shutF O3.out, K3.out⟩
end Go.Proofs.YtjmoncfgoaaekaaDoor.J
namespace Go.Proofs.YtjmoncfgoaaekaaDoor.Pure
set_option linter.unusedSimpArgs false
set_option linter.unusedVariables false
open Go Go.RowKit Go.Proofs.YtjmoncfgoaaekaaDoorW.PrintWords Go.Proofs.YtjmoncfgoaaekaaDoorW.PrintLast Go.Proofs.YtjmoncfgoaaekaaDoorW.PrintMore Go.Proofs.YtjmoncfgoaaekaaDoor.Q
theorem greatAll_loop (l : List Upd) (hl : l.length ≤ 9223372036854775807) : ∀ (d k : Nat) (x : Int), 0 ≤ x → x ≤ l.length → (l.length : Int) - x = d → d + 1 ≤ k → ∃ b, chapbookref04_GreatAll.l0 k l x = some b := by
 intro d
 induction d with
 | zero =>
  intro k x h0 h1 hd hk
  obtain ⟨k, rfl⟩ : ∃ m, k = m + 1 := ⟨k - 1, by omega⟩
  simp only [chapbookref04_GreatAll.l0]
  rw [if_neg (by omega)]
  exact ⟨_, rfl⟩
 | succ d ih =>
  intro k x h0 h1 hd hk
  obtain ⟨k, rfl⟩ : ∃ m, k = m + 1 := ⟨k - 1, by omega⟩
  simp only [chapbookref04_GreatAll.l0]
  obtain ⟨b, hb⟩ := ih k (x + 1) (by omega) (by omega) (by omega) (by omega)
  rw [if_pos (by omega), if_pos h0, w64s h0 (by omega) hl, hb]
  unfold chapbookref04_Great.f
  split
  ·rw [Option.bind_some, if_pos rfl]; exact ⟨_, rfl⟩
  ·rw [Option.bind_some]
   split
   ·exact ⟨_, rfl⟩
   ·exact ⟨_, rfl⟩
theorem greatAll_ok (k : Nat) (l : List Upd) (hk : 202 ≤ k) : ∃ b, chapbookref04_GreatAll.f k l = some b ∧ (b = false → l.length ≤ 200) := by
 unfold chapbookref04_GreatAll.f
 by_cases c : (l.length : Int) > 200
 ·rw [if_pos c]; exact ⟨true, rfl, by simp⟩
 ·rw [if_neg c]
  obtain ⟨b, hb⟩ := greatAll_loop l (by omega) l.length k 0 (by omega) (by omega) (by omega) (by omega)
  exact ⟨b, hb, fun _ => by omega⟩
theorem great14_loop (l : List Rnd) (hl : l.length ≤ 40) : ∀ (d k : Nat) (x : Int), 0 ≤ x → x ≤ l.length → (l.length : Int) - x = d → d + 204 ≤ k → ∃ b, chapbookref07_GreatAll.l0 k l x = some b ∧ (b = false → ∀ y : Int, x ≤ y → y < l.length → (rd_T43 l y).f2.length ≤ 20) := by
 intro d
 induction d with
 | zero =>
  intro k x h0 h1 hd hk
  obtain ⟨k, rfl⟩ : ∃ m, k = m + 1 := ⟨k - 1, by omega⟩
  simp only [chapbookref07_GreatAll.l0]
  rw [if_neg (by omega)]
  exact ⟨_, rfl, fun _ y _ _ => by omega⟩
 | succ d ih =>
  intro k x h0 h1 hd hk
  obtain ⟨k, rfl⟩ : ∃ m, k = m + 1 := ⟨k - 1, by omega⟩
  simp only [chapbookref07_GreatAll.l0]
  rw [if_pos (by omega), if_pos h0]
  unfold chapbookref07_Great.f
  by_cases c : ((rd_T43 l x).f2.length : Int) > 20
  ·rw [if_pos c, Option.bind_some, if_pos rfl]; exact ⟨_, rfl, by simp⟩
  rw [if_neg c]
  obtain ⟨g, hg, _⟩ := greatAll_ok k (rd_T43 l x).f2 (by omega)
  rw [hg, Option.bind_some, Option.bind_some]
  by_cases hq : g = true
  ·rw [if_pos hq]; exact ⟨_, rfl, by simp⟩
  ·rw [if_neg hq, w64s (n := l.length) h0 (by omega) (by omega)]
   obtain ⟨b, hb, h2⟩ := ih k (x + 1) (by omega) (by omega) (by omega) (by omega)
   refine ⟨b, hb, fun hf y hy0 hy1 => ?_⟩
   by_cases e : y = x
   ·subst e; omega
   ·exact h2 hf y (by omega) hy1
theorem great14_ok (l : List Rnd) : ∃ b, chapbookref07_GreatAll.f 300 l = some b ∧ (b = false → l.length ≤ 40 ∧ ∀ y : Int, 0 ≤ y → y < l.length → (rd_T43 l y).f2.length ≤ 20) := by
 unfold chapbookref07_GreatAll.f
 by_cases c : (l.length : Int) > 40
 ·rw [if_pos c]; exact ⟨true, rfl, by simp⟩
 ·rw [if_neg c]
  obtain ⟨b, hb, h2⟩ := great14_loop l (by omega) l.length 300 0 (by omega) (by omega) (by omega) (by omega)
  exact ⟨b, hb, fun hf => ⟨by omega, fun y => h2 hf y⟩⟩
end Go.Proofs.YtjmoncfgoaaekaaDoor.Pure
namespace Go.Proofs.YtjmoncfgoaaekaaDoor.J
set_option linter.unusedSimpArgs false
set_option linter.unusedVariables false
open Go Go.RowKit Go.Proofs.YtjmoncfgoaaekaaDoorW.PrintWords Go.Proofs.YtjmoncfgoaaekaaDoorW.PrintLast Go.Proofs.YtjmoncfgoaaekaaDoorW.PrintMore Go.Proofs.YtjmoncfgoaaekaaDoor.Q Go.Proofs.YtjmoncfgoaaekaaDoor.Sep Go.Proofs.YtjmoncfgoaaekaaDoor.Pure
theorem heapU : Kd.Heap k114 := Kd.heap_iso _ (Kd.heap_pair Kd.heap_string (Kd.heap_pair (Kd.heap_int _) (Kd.heap_pair (Kd.heap_int _) Kd.heap_string)))
theorem heapR : Kd.Heap k43 := Kd.heap_iso _ (Kd.heap_pair (Kd.heap_int _) (Kd.heap_pair (Kd.heap_int _) (Kd.heap_slice _ heapU)))
variable {N : Nat → Prop} {w : World} {g : Nat} {C : Int} {L : List Rnd}
theorem New_n (n C : Int) (hn : mn (mx n 1) 64 = C) (h : Own N w []) :
  Calls Tryd.prog 7 #[.int .i64 n] w fun e w' => ∃ g, e = .returned (.pointer (some ⟨g, 0, none⟩)) ∧ Own N w' [ObjC g C []] ∧ KeepS N w w' := by
 rw [← hn]
 exact New n h
theorem All_g (h : Own N w [ObjC g C L]) (hL : L.length ≤ 1000000) (hg : Good C L) :
  Calls Tryd.prog 27 #[.pointer (some ⟨g, 0, none⟩)] w fun e_ w' => ∃ A1 c1, e_ = .returned (.slice A1 L.length c1) ∧ Own N w' [ObjC g C L, nrow k43 43 (.slice A1 L.length c1) L] ∧ KeepS N w w' :=
 All h hL ⟨fun x a b => Nat.le_trans (good_short hg x a b) (by decide)⟩
end Go.Proofs.YtjmoncfgoaaekaaDoor.J
namespace Go.Proofs.YtjmoncfgoaaekaaDoor.J
set_option linter.unusedSimpArgs false
set_option linter.unusedVariables false
open Go Go.RowKit Go.Proofs.YtjmoncfgoaaekaaDoorW.PrintWords Go.Proofs.YtjmoncfgoaaekaaDoorW.PrintLast Go.Proofs.YtjmoncfgoaaekaaDoorW.PrintMore Go.Proofs.YtjmoncfgoaaekaaDoor.Q Go.Proofs.YtjmoncfgoaaekaaDoor.Sep Go.Proofs.YtjmoncfgoaaekaaDoor.Pure
attribute [local go_sem] max2_int min2_int max_two min_two max_three min_three max_four min_four
set_option maxHeartbeats 16000000 in
set_option maxRecDepth 100000 in
theorem one {N : Nat → Prop} {w : World} (n : Int) (h : Own N w []) :
  Calls Tryd.prog 32 #[.int .i64 n] w fun e_ w' => ∃ B1 d1, e_ = .returned (.agg #[.int .i64 1, .int .i64 n, .slice B1 1 d1]) ∧ Own N w' [nrow k114 114 (.slice B1 1 d1) awU] ∧ KeepS N w w' := by
 have O0 : Aside0 (Own N w []) := ⟨h⟩
 have K0 : Aside0 (KeepS N w w) := ⟨KeepS.refl _ _⟩
 clear h
 go_enter Tryd.func32, Tryd.ntmps32
 go_wp2_with (first | ((with_reducible refine gate_dst (N := 2) rfl ?_); refine own_box rfl (D := 2) rfl (cs := #[.int .i64 0, .int .i64 0, .slice none 0 0]) (t := 43) ?hr O0.out ?_; (case hr => first | (go_simp; done) | (go_simp; rfl)); intro g1 w1 o_ k_; have O1 : Aside0 (Own N w1 [cells g1 #[.int .i64 0, .int .i64 0, .slice none 0 0] 43]) := ⟨o_⟩; have K1 : Aside0 (KeepS N w w1) := ⟨K0.out.trans k_⟩; clear O0 K0; have c1_0_0 : w1.cell? ⟨g1, 0, none⟩ = some (.int .i64 0) := (blk_cell (O1.out.blk (i := 0) rfl) 0).trans rfl; have f1_0_0 : w1.frozen? ⟨g1, 0, none⟩ = false := blk_frozen (O1.out.blk (i := 0) rfl) 0; have c1_0_1 : w1.cell? ⟨g1, 1, none⟩ = some (.int .i64 0) := (blk_cell (O1.out.blk (i := 0) rfl) 1).trans rfl; have f1_0_1 : w1.frozen? ⟨g1, 1, none⟩ = false := blk_frozen (O1.out.blk (i := 0) rfl) 1; have c1_0_2 : w1.cell? ⟨g1, 2, none⟩ = some (.slice none 0 0) := (blk_cell (O1.out.blk (i := 0) rfl) 2).trans rfl; have f1_0_2 : w1.frozen? ⟨g1, 2, none⟩ = false := blk_frozen (O1.out.blk (i := 0) rfl) 2; clear o_ k_) | ((with_reducible refine gate_dst (N := 5) rfl ?_); refine own_lit k114 (N := N) (e := 114) (xs := awU) (inner := [.string ⟨#[107]⟩, .int .i64 5, .int .i64 0, .string ⟨#[]⟩]) rfl (D := 5) rfl ?hr ?hp (by decide) O1.out ?_; (case hr => first | (go_simp; done) | (go_simp; rfl)); (case hp => exact awRep _); intro B1 d1 w2 o_ k_; have O2 : Aside0 (Own N w2 [cells g1 #[.int .i64 0, .int .i64 0, .slice none 0 0] 43, nrow k114 114 (.slice B1 1 d1) (awU)]) := ⟨o_⟩; have K2 : Aside0 (KeepS N w w2) := ⟨K1.out.trans k_⟩; clear c1_0_0 f1_0_0 c1_0_1 f1_0_1 c1_0_2 f1_0_2 O1 K1; have c2_0_0 : w2.cell? ⟨g1, 0, none⟩ = some (.int .i64 0) := (blk_cell (O2.out.blk (i := 0) rfl) 0).trans rfl; have f2_0_0 : w2.frozen? ⟨g1, 0, none⟩ = false := blk_frozen (O2.out.blk (i := 0) rfl) 0; have c2_0_1 : w2.cell? ⟨g1, 1, none⟩ = some (.int .i64 0) := (blk_cell (O2.out.blk (i := 0) rfl) 1).trans rfl; have f2_0_1 : w2.frozen? ⟨g1, 1, none⟩ = false := blk_frozen (O2.out.blk (i := 0) rfl) 1; have c2_0_2 : w2.cell? ⟨g1, 2, none⟩ = some (.slice none 0 0) := (blk_cell (O2.out.blk (i := 0) rfl) 2).trans rfl; have f2_0_2 : w2.frozen? ⟨g1, 2, none⟩ = false := blk_frozen (O2.out.blk (i := 0) rfl) 2; clear o_ k_) | ((with_reducible refine gate_store (t := 43) (p := 2) rfl ?_); refine own_store rfl rfl rfl (w1 := (World.setCell (World.setCell (World.setCell w2 ⟨g1, 0, none⟩ (.int .i64 1)) ⟨g1, 1, none⟩ (.int .i64 n)) ⟨g1, 2, none⟩ (.slice B1 1 d1))) (N := N) (l' := [cells g1 #[.int .i64 1, .int .i64 n, .slice B1 1 d1] 43, nrow k114 114 (.slice B1 1 d1) (awU)]) ?hr ?ho ?hk ?_; (case hr => first | (go_simp; done) | (go_simp; rfl)); (case ho => exact (((O2.out.set (i := 0) rfl 0 (.int .i64 1)).set (i := 0) rfl 1 (.int .i64 n)).set (i := 0) rfl 2 (.slice B1 1 d1))); (case hk => exact (((KeepS.setCell (O2.out.far (i := 0) rfl) (.int .i64 1)).trans (KeepS.setCell (O2.out.far (i := 0) rfl) (.int .i64 n))).trans (KeepS.setCell (O2.out.far (i := 0) rfl) (.slice B1 1 d1)))); intro w3 o_ k_; have O3 : Aside0 (Own N w3 [cells g1 #[.int .i64 1, .int .i64 n, .slice B1 1 d1] 43, nrow k114 114 (.slice B1 1 d1) (awU)]) := ⟨o_⟩; have K3 : Aside0 (KeepS N w w3) := ⟨K2.out.trans k_⟩; clear c2_0_0 f2_0_0 c2_0_1 f2_0_1 c2_0_2 f2_0_2 O2 K2; have c3_0_0 : w3.cell? ⟨g1, 0, none⟩ = some (.int .i64 1) := (blk_cell (O3.out.blk (i := 0) rfl) 0).trans rfl; have f3_0_0 : w3.frozen? ⟨g1, 0, none⟩ = false := blk_frozen (O3.out.blk (i := 0) rfl) 0; have c3_0_1 : w3.cell? ⟨g1, 1, none⟩ = some (.int .i64 n) := (blk_cell (O3.out.blk (i := 0) rfl) 1).trans rfl; have f3_0_1 : w3.frozen? ⟨g1, 1, none⟩ = false := blk_frozen (O3.out.blk (i := 0) rfl) 1; have c3_0_2 : w3.cell? ⟨g1, 2, none⟩ = some (.slice B1 1 d1) := (blk_cell (O3.out.blk (i := 0) rfl) 2).trans rfl; have f3_0_2 : w3.frozen? ⟨g1, 2, none⟩ = false := blk_frozen (O3.out.blk (i := 0) rfl) 2; clear o_ k_))
 refine bodyPost_ret (results_cell_row rfl _ _ g1 43 #[.int .i64 1, .int .i64 n, .slice B1 1 d1] (0, 0) _ rfl (O3.out.blk (i := 0) rfl) Tryd.underlying43 rfl (by kernel_rfl)) rfl ?_
 exact ⟨B1, d1, rfl, O3.out.pick1 (a := 1) rfl, K3.out⟩
def aw15 : List Rnd := [⟨1, 1, awU⟩, ⟨1, 2, awU⟩, ⟨1, 3, awU⟩]
def b1_ : ByteArray := bR ⟨1, 1, awU⟩
def b2_ : ByteArray := bR ⟨1, 2, awU⟩
def b3_ : ByteArray := bR ⟨1, 3, awU⟩
def awS (x : Int) : List Rnd := aw15.take x.toNat
theorem aw15_good : Good 1 aw15 := fun r hr => by
 simp only [aw15, List.mem_cons, List.not_mem_nil, or_false] at hr
 rcases hr with rfl | rfl | rfl
 ·exact ⟨by kernel_rfl, by decide⟩
 ·exact ⟨by kernel_rfl, by decide⟩
 ·exact ⟨by kernel_rfl, by decide⟩
theorem awS_good (x : Int) : Good 1 (awS x) := fun r hr => aw15_good r (List.mem_of_mem_take hr)
theorem awS_len (x : Int) : (awS x).length ≤ 1000000 := by
 unfold awS
 rw [List.length_take]
 have : aw15.length = 3 := rfl
 omega
theorem aw15_add (x : Int) (h0 : 0 ≤ x) (h1 : x < 3) : addE 1 (awS x) ⟨1, x + 1, awU⟩ = 0 ∧ awS (x + 1) = awS x ++ [⟨1, x + 1, awU⟩] := by
 have h : x = 0 ∨ x = 1 ∨ x = 2 := by omega
 rcases h with rfl | rfl | rfl
 ·exact ⟨by kernel_rfl, rfl⟩
 ·exact ⟨by kernel_rfl, rfl⟩
 ·exact ⟨by kernel_rfl, rfl⟩
theorem at_Frm {w : World} {A : Option Addr} {n : Nat} {xs : List Frm} (h : k40.C w A n xs) (h1 : 0 < n) : ∃ ad, A = some ad := by
 obtain ⟨ad, c, e, _⟩ := ReadsRow.get_ h (⟨0, 0, 0, ⟨#[]⟩⟩ : Frm) 0 (by omega) (by omega)
 exact ⟨ad, e⟩
def frAt (xs : List Frm) (x : Int) : Frm := xs.getD x.toNat ⟨0, 0, 0, ⟨#[]⟩⟩
theorem at_FrmC {w : World} {ad : Addr} {n : Nat} {xs : List Frm} (h : k40.C w (some ad) n xs) (x : Int) (h0 : 0 ≤ x) (h1 : x < n) : w.cell? (ad.add (x.toNat * 4)) = some (.int .i64 (frAt xs x).f0) ∧ w.cell? ⟨(ad.add (x.toNat * 4)).block, (ad.add (x.toNat * 4)).off + 1, none⟩ = some (.int .i64 (frAt xs x).f1) ∧ w.cell? ⟨(ad.add (x.toNat * 4)).block, (ad.add (x.toNat * 4)).off + 2, none⟩ = some (.int .i64 (frAt xs x).f2) ∧ w.cell? ⟨(ad.add (x.toNat * 4)).block, (ad.add (x.toNat * 4)).off + 3, none⟩ = some (.string (frAt xs x).f3) := by
 obtain ⟨ad2, c, e, hl, hk, hc0⟩ := ReadsRow.get_ h (⟨0, 0, 0, ⟨#[]⟩⟩ : Frm) x h0 h1
 cases e
 have hk' := k40_open hk
 subst hk'
 have hc : ∀ j u, ([.int .i64 (frAt xs x).f0, .int .i64 (frAt xs x).f1, .int .i64 (frAt xs x).f2, .string (frAt xs x).f3] : List Value)[j]? = some u → w.cell? (ad.add (x.toNat * 4 + j)) = some u := hc0
 exact ⟨hc 0 _ rfl, by rw [← add_field _ _ 1 (by omega)]; exact hc 1 _ rfl, by rw [← add_field _ _ 2 (by omega)]; exact hc 2 _ rfl, by rw [← add_field _ _ 3 (by omega)]; exact hc 3 _ rfl⟩
theorem at_FrmC0 {w : World} {ad : Addr} {n : Nat} {xs : List Frm} (h : k40.C w (some ad) n xs) (h1 : 0 < n) : w.cell? ⟨ad.block, ad.off + 1, none⟩ = some (.int .i64 (frAt xs 0).f1) ∧ w.cell? ⟨ad.block, ad.off + 3, none⟩ = some (.string (frAt xs 0).f3) := by
 have q := at_FrmC h 0 (by decide) (by omega)
 have e : ad.add ((0 : Int).toNat * 4) = ad := by cases ad; simp [Addr.add]
 rw [e] at q
 exact ⟨q.2.1, q.2.2.2⟩
section
variable {N : Nat → Prop} {w : World} {gf gl gk : Nat}
theorem aw_pump1 (h : Own N w [cells gf #[.int .i64 0] 78, ObjC gl 1 aw15, LinkO gk 1 2 2 true 2 1125899906842624 0 [] 2 0 0]) (ht : TabN N w) : Calls Tryd.prog 14 #[.pointer (some ⟨gf, 0, none⟩), .pointer (some ⟨gl, 0, none⟩), .pointer (some ⟨gk, 0, none⟩)] w fun e_ w' => e_ = .returned (.int .i64 2) ∧ Own N w' [cells gf #[.int .i64 2] 78, ObjC gl 1 aw15, LinkO gk 1 2 2 true 2 1125899906842624 2 [(1, b1_), (2, b2_)] 2 0 0] ∧ KeepS N w w' :=
 FPump 2 h ht (by decide) aw15_good (by decide) (by decide) (by decide) ⟨by decide, by decide, by decide, .inr (by decide)⟩
theorem aw_hear (h : Own N w [LinkO gk 1 2 2 true 2 1125899906842624 2 [(1, b1_), (2, b2_)] 2 0 0]) : Calls Tryd.prog 16 #[.pointer (some ⟨gk, 0, none⟩), .agg #[.int .i64 1, .int .i64 0, .int .i64 1, .string ⟨#[]⟩]] w fun e_ w' => e_ = .returned (.bool false) ∧ Own N w' [LinkO gk 1 2 2 true 2 1125899906842624 2 [(2, b2_)] 2 0 0] ∧ KeepS N w w' :=
  by have e : ackX 2 1 [(1, b1_), (2, b2_)] = [(2, b2_)] := by simp [ackX, lead]
     have q := LHear_ack 1 0 1 ⟨#[]⟩ h rfl (by decide) rfl
     rw [e] at q
     exact q
theorem aw_pump2 (h : Own N w [cells gf #[.int .i64 2] 78, ObjC gl 1 aw15, LinkO gk 1 2 2 true 2 1125899906842624 2 [(2, b2_)] 2 0 0]) (ht : TabN N w) : Calls Tryd.prog 14 #[.pointer (some ⟨gf, 0, none⟩), .pointer (some ⟨gl, 0, none⟩), .pointer (some ⟨gk, 0, none⟩)] w fun e_ w' => e_ = .returned (.int .i64 1) ∧ Own N w' [cells gf #[.int .i64 3] 78, ObjC gl 1 aw15, LinkO gk 1 2 2 true 2 1125899906842624 3 [(2, b2_), (3, b3_)] 2 0 0] ∧ KeepS N w w' :=
 FPump 1 h ht (by decide) aw15_good (by decide) (by decide) (by decide) ⟨by decide, by decide, by decide, .inr (by decide)⟩
theorem aw_frames (h : Own N w [LinkO gk 1 2 2 true 2 1125899906842624 3 [(2, b2_), (3, b3_)] 2 0 0]) : Calls Tryd.prog 23 #[.pointer (some ⟨gk, 0, none⟩)] w fun e_ w' => ∃ A1 c1, e_ = .returned (.slice A1 2 c1) ∧ Own N w' [LinkO gk 1 2 2 true 2 1125899906842624 3 [(2, b2_), (3, b3_)] 2 0 0, nrow k40 40 (.slice A1 2 c1) [fr 1 0 (2, b2_), fr 1 0 (3, b3_)]] ∧ KeepS N w w' :=
 LFrames h (by decide) (by decide)
theorem aw_new (h : Own N w []) : Calls Tryd.prog 7 #[.int .i64 1] w fun e w' => ∃ g, e = .returned (.pointer (some ⟨g, 0, none⟩)) ∧ Own N w' [ObjC g 1 []] ∧ KeepS N w w' := New 1 h
theorem aw_link (h : Own N w []) : Calls Tryd.prog 8 #[.int .i64 1, .int .i64 2, .int .i64 2, .bool true] w fun e_ w' => ∃ gk, e_ = .returned (.pointer (some ⟨gk, 0, none⟩)) ∧ Own N w' [LinkO gk 1 2 2 true 2 1125899906842624 0 [] 2 0 0] ∧ KeepS N w w' := LNew 1 2 2 true 1 2 2 (by decide) (by decide) (by decide) h
end
theorem aw_bytes : chapbookref07_Bytes.f 60 1 2 awU = some b2_ := rbytesR 20 (o := 1) (n := 2) (l := awU) (by kernel_rfl)
def AwI (N : Nat → Prop) (w : World) (gl gk gf : Nat) (i : Value) (wr : World) : Prop := ∃ x : Int, 0 ≤ x ∧ x ≤ 3 ∧ i = .int .i64 x ∧ Aside0 (Own N wr [ObjC gl 1 (awS x), LinkO gk 1 2 2 true 2 1125899906842624 0 [] 2 0 0, cells gf #[.int .i64 0] 78]) ∧ Aside0 (KeepS N w wr)
set_option maxHeartbeats 16000000 in
set_option maxRecDepth 100000 in
theorem awake (w : World) (HT : Aside0 (Tab w)) :
  Calls Tryd.prog 12 #[] w fun e_ w' => e_ = .returned (.bool true) ∧ Below w.heap.size w w' := by
 obtain ⟨N, hN⟩ : ∃ N : Nat → Prop, N = fun k => k < w.heap.size := ⟨_, rfl⟩
 have HN := Aside0.mk hN
 have HT_0 : Aside0 (TabN N w) := ⟨by rw [hN]; exact World.block_lt_of_cell? w _ HT.out.1, HT.out⟩
 have O0 : Aside0 (Own N w []) := ⟨Own.start_ (fun k hk => by rw [hN] at hk; exact hk)⟩
 have K0 : Aside0 (KeepS N w w) := ⟨KeepS.refl _ _⟩
 have HT00 := HT_0
 clear hN HT
 go_enter Tryd.func12, Tryd.ntmps12
 go_wp2_with (first | ((with_reducible refine gate_callee (f := 7) rfl ?_); refine goesL_ (some 9) rfl rfl Tryd.func7 (by kernel_rfl) rfl #[.int .i64 1] rfl (by (try simp only [List.map_toArray, List.map_cons, List.map_nil]); first | done | rfl) ?_; obtain ⟨N_, on_, nn_, rr_, bb_⟩ := O0.out.frame0; refine (aw_new on_).mono ?_; rintro e_ w1 ⟨gl, rfl, oo_, kk_⟩; obtain ⟨o_, k_⟩ := bb_ _ _ kk_ oo_; refine ⟨_, rfl, ?_⟩; have O1 : Aside0 (Own N w1 [ObjC gl 1 []]) := ⟨o_⟩; have K1 : Aside0 (KeepS N w w1) := ⟨K0.out.trans k_⟩; have HT_1 : Aside0 (TabN N w1) := ⟨TabN.keep HT_0.out k_⟩; clear O0 K0 HT_0; clear o_ k_ oo_ kk_ on_ nn_ rr_ bb_) | ((with_reducible refine gate_callee (f := 8) rfl ?_); refine goesL_ (some 10) rfl rfl Tryd.func8 (by kernel_rfl) rfl #[.int .i64 1, .int .i64 2, .int .i64 2, .bool true] rfl (by (try simp only [List.map_toArray, List.map_cons, List.map_nil]); first | done | rfl) ?_; obtain ⟨N_, on_, nn_, rr_, bb_⟩ := O1.out.frame0; refine (aw_link on_).mono ?_; rintro e_ w2 ⟨gk, rfl, oo_, kk_⟩; obtain ⟨o_, k_⟩ := bb_ _ _ kk_ oo_; refine ⟨_, rfl, ?_⟩; have O2 : Aside0 (Own N w2 [ObjC gl 1 [], LinkO gk 1 2 2 true 2 1125899906842624 0 [] 2 0 0]) := ⟨o_⟩; have K2 : Aside0 (KeepS N w w2) := ⟨K1.out.trans k_⟩; have HT_2 : Aside0 (TabN N w2) := ⟨TabN.keep HT_1.out k_⟩; clear O1 K1 HT_1; clear o_ k_ oo_ kk_ on_ nn_ rr_ bb_) | ((with_reducible refine gate_callee (f := 9) rfl ?_); refine goesL_ (some 11) rfl rfl Tryd.func9 (by kernel_rfl) rfl #[] rfl (by (try simp only [List.map_toArray, List.map_cons, List.map_nil]); first | done | rfl) ?_; obtain ⟨N_, on_, nn_, rr_, bb_⟩ := O2.out.frame0; refine (FNew on_).mono ?_; rintro e_ w3 ⟨gf, rfl, oo_, kk_⟩; obtain ⟨o_, k_⟩ := bb_ _ _ kk_ oo_; refine ⟨_, rfl, ?_⟩; have O3 : Aside0 (Own N w3 [ObjC gl 1 [], LinkO gk 1 2 2 true 2 1125899906842624 0 [] 2 0 0, cells gf #[.int .i64 0] 78]) := ⟨o_⟩; have K3 : Aside0 (KeepS N w w3) := ⟨K2.out.trans k_⟩; have HT_3 : Aside0 (TabN N w3) := ⟨TabN.keep HT_2.out k_⟩; clear O2 K2 HT_2; clear o_ k_ oo_ kk_ on_ nn_ rr_ bb_))
 go_loopw [22] (fun i wr => AwI N w gl gk gf i wr) (fun i _ => (3 - intOf i).toNat)
 case atStart => exact ⟨0, by omega, by omega, rfl, O3, K3⟩
 case round =>
  obtain ⟨x, hx0, hx1, rfl, OA, KA⟩ := hrel
  clear O3 K3 HT_3
  by_cases hlt : x < 3
  ·have hw1 : wrap64 (x + 1) = x + 1 := by unfold wrap64; omega
   have hw2 : IntKind.i64.wrap (x + 1) = x + 1 := by rw [IntKind.wrap_i64]; omega
   have hd : decide (x < 3) = true := decide_eq_true hlt
   have HX := Aside0.mk (And.intro hx0 hlt)
   clear hx0 hx1 hlt
   have O4 : Aside0 (Own N wr [ObjC gl 1 (awS x), LinkO gk 1 2 2 true 2 1125899906842624 0 [] 2 0 0, cells gf #[.int .i64 0] 78]) := ⟨OA.out⟩
   have K4 : Aside0 (KeepS N w wr) := ⟨KA.out⟩
   clear OA KA
   go_wp2_with (first | ((with_reducible refine gate_callee (f := 32) rfl ?_); refine goesL_ (some 28) rfl rfl Tryd.func32 (by kernel_rfl) rfl #[.int .i64 (x + 1)] rfl (by (try simp only [List.map_toArray, List.map_cons, List.map_nil]); first | done | rfl) ?_; obtain ⟨N_, on_, nn_, rr_, bb_⟩ := O4.out.frame0; refine (one (x + 1) on_).mono ?_; rintro e_ w5 ⟨B0, d0, rfl, oo_, kk_⟩; obtain ⟨o_, k_⟩ := bb_ _ _ kk_ oo_; refine ⟨_, rfl, ?_⟩; have O5 : Aside0 (Own N w5 [ObjC gl 1 (awS x), LinkO gk 1 2 2 true 2 1125899906842624 0 [] 2 0 0, cells gf #[.int .i64 0] 78, nrow k114 114 (.slice B0 1 d0) awU]) := ⟨o_⟩; have K5 : Aside0 (KeepS N w w5) := ⟨K4.out.trans k_⟩; clear O4 K4; clear o_ k_ oo_ kk_ on_ nn_ rr_ bb_) | ((with_reducible refine gate_callee (f := 19) rfl ?_); refine goesL_ (some 29) rfl rfl Tryd.func19 (by kernel_rfl) rfl #[.pointer (some ⟨gl, 0, none⟩), .agg #[.int .i64 1, .int .i64 (x + 1), .slice B0 1 d0]] rfl (by (try simp only [List.map_toArray, List.map_cons, List.map_nil]); first | done | rfl) ?_; obtain ⟨N_, on_, nn_, rr_, bb_⟩ := O5.out.frame1 (i := 0) rfl; have hr_ := Kd.N_F (rr_ 3 _ (by decide) rfl); have hc_ := (O5.out.nreads (i := 3) rfl).2.1; refine (Add_y B0 d0 1 (x + 1) awU on_ hr_ hc_ (awS_len x) (by decide) (awS_good x) (aw15_add x HX.out.1 HX.out.2).1).mono ?_; rintro e_ w6 ⟨rfl, oo_, kk_⟩; obtain ⟨o_, k_⟩ := bb_ _ _ _ kk_ oo_; refine ⟨_, rfl, ?_⟩; have O6 : Aside0 (Own N w6 [ObjC gl 1 (awS x ++ [⟨1, x + 1, awU⟩]), LinkO gk 1 2 2 true 2 1125899906842624 0 [] 2 0 0, cells gf #[.int .i64 0] 78, nrow k114 114 (.slice B0 1 d0) awU]) := ⟨o_⟩; have K6 : Aside0 (KeepS N w w6) := ⟨K5.out.trans k_⟩; clear O5 K5; clear o_ k_ oo_ kk_ on_ nn_ rr_ bb_ hr_ hc_))
   go_roundw
   case rel => exact ⟨x + 1, by have := HX.out; omega, by have := HX.out; omega, rfl, ⟨by rw [(aw15_add x HX.out.1 HX.out.2).2]; exact O6.out.take 3⟩, K6⟩
   case measure => have := HX.out; simp [intOf]; omega
  ·have hxe : x = 3 := by omega
   subst hxe
   have hd : decide ((3 : Int) < 3) = false := by decide
   clear hlt hx0 hx1
   have O4 : Aside0 (Own N wr [ObjC gl 1 aw15, LinkO gk 1 2 2 true 2 1125899906842624 0 [] 2 0 0, cells gf #[.int .i64 0] 78]) := ⟨OA.out⟩
   have K4 : Aside0 (KeepS N w wr) := ⟨KA.out⟩
   have HT_4 : Aside0 (TabN N wr) := ⟨HT00.out.keep KA.out⟩
   clear OA KA
   go_wp2_with (first | ((with_reducible refine gate_callee (f := 14) rfl ?_); refine goesL_ (some 34) rfl rfl Tryd.func14 (by kernel_rfl) rfl #[.pointer (some ⟨gf, 0, none⟩), .pointer (some ⟨gl, 0, none⟩), .pointer (some ⟨gk, 0, none⟩)] rfl (by (try simp only [List.map_toArray, List.map_cons, List.map_nil]); first | done | rfl) ?_; obtain ⟨N_, on_, nn_, rr_, bb_⟩ := O4.out.frameL [2, 0, 1] (by decide) (by simp); refine (aw_pump1 on_ (TabN.mono HT_4.out nn_)).mono ?_; rintro e_ w5 ⟨rfl, oo_, kk_⟩; obtain ⟨o_, k_⟩ := bb_ _ [cells gf #[.int .i64 2] 78, ObjC gl 1 aw15, LinkO gk 1 2 2 true 2 1125899906842624 2 [(1, b1_), (2, b2_)] 2 0 0] [] rfl kk_ oo_; refine ⟨_, rfl, ?_⟩; have O5 : Aside0 (Own N w5 [ObjC gl 1 aw15, LinkO gk 1 2 2 true 2 1125899906842624 2 [(1, b1_), (2, b2_)] 2 0 0, cells gf #[.int .i64 2] 78]) := ⟨o_⟩; have K5 : Aside0 (KeepS N w w5) := ⟨K4.out.trans k_⟩; have HT_5 : Aside0 (TabN N w5) := ⟨TabN.keep HT_4.out k_⟩; clear O4 K4 HT_4; clear o_ k_ oo_ kk_ on_ nn_ rr_ bb_) | ((with_reducible refine gate_callee (f := 16) rfl ?_); refine goesL_ (some 37) rfl rfl Tryd.func16 (by kernel_rfl) rfl #[.pointer (some ⟨gk, 0, none⟩), .agg #[.int .i64 1, .int .i64 0, .int .i64 1, .string ⟨#[]⟩]] rfl (by (try simp only [List.map_toArray, List.map_cons, List.map_nil]); first | done | rfl) ?_; obtain ⟨N_, on_, nn_, rr_, bb_⟩ := O5.out.frame1 (i := 1) rfl; refine (aw_hear on_).mono ?_; rintro e_ w6 ⟨rfl, oo_, kk_⟩; obtain ⟨o_, k_⟩ := bb_ _ _ _ kk_ oo_; refine ⟨_, rfl, ?_⟩; have O6 : Aside0 (Own N w6 [ObjC gl 1 aw15, LinkO gk 1 2 2 true 2 1125899906842624 2 [(2, b2_)] 2 0 0, cells gf #[.int .i64 2] 78]) := ⟨o_⟩; have K6 : Aside0 (KeepS N w w6) := ⟨K5.out.trans k_⟩; have HT_6 : Aside0 (TabN N w6) := ⟨TabN.keep HT_5.out k_⟩; clear O5 K5 HT_5; clear o_ k_ oo_ kk_ on_ nn_ rr_ bb_) | ((with_reducible refine gate_callee (f := 14) rfl ?_); refine goesL_ (some 41) rfl rfl Tryd.func14 (by kernel_rfl) rfl #[.pointer (some ⟨gf, 0, none⟩), .pointer (some ⟨gl, 0, none⟩), .pointer (some ⟨gk, 0, none⟩)] rfl (by (try simp only [List.map_toArray, List.map_cons, List.map_nil]); first | done | rfl) ?_; obtain ⟨N_, on_, nn_, rr_, bb_⟩ := O6.out.frameL [2, 0, 1] (by decide) (by simp); refine (aw_pump2 on_ (TabN.mono HT_6.out nn_)).mono ?_; rintro e_ w7 ⟨rfl, oo_, kk_⟩; obtain ⟨o_, k_⟩ := bb_ _ [cells gf #[.int .i64 3] 78, ObjC gl 1 aw15, LinkO gk 1 2 2 true 2 1125899906842624 3 [(2, b2_), (3, b3_)] 2 0 0] [] rfl kk_ oo_; refine ⟨_, rfl, ?_⟩; have O7 : Aside0 (Own N w7 [ObjC gl 1 aw15, LinkO gk 1 2 2 true 2 1125899906842624 3 [(2, b2_), (3, b3_)] 2 0 0, cells gf #[.int .i64 3] 78]) := ⟨o_⟩; have K7 : Aside0 (KeepS N w w7) := ⟨K6.out.trans k_⟩; have HT_7 : Aside0 (TabN N w7) := ⟨TabN.keep HT_6.out k_⟩; clear O6 K6 HT_6; clear o_ k_ oo_ kk_ on_ nn_ rr_ bb_) | ((with_reducible refine gate_callee (f := 21) rfl ?_); refine goesL_ (some 43) rfl rfl Tryd.func21 (by kernel_rfl) rfl #[.pointer (some ⟨gf, 0, none⟩)] rfl (by (try simp only [List.map_toArray, List.map_cons, List.map_nil]); first | done | rfl) ?_; obtain ⟨N_, on_, nn_, rr_, bb_⟩ := O7.out.frame1 (i := 2) rfl; refine (FAt on_).mono ?_; rintro e_ w8 ⟨rfl, oo_, kk_⟩; obtain ⟨o_, k_⟩ := bb_ _ _ _ kk_ oo_; refine ⟨_, rfl, ?_⟩; have O8 : Aside0 (Own N w8 [ObjC gl 1 aw15, LinkO gk 1 2 2 true 2 1125899906842624 3 [(2, b2_), (3, b3_)] 2 0 0, cells gf #[.int .i64 3] 78]) := ⟨o_⟩; have K8 : Aside0 (KeepS N w w8) := ⟨K7.out.trans k_⟩; have HT_8 : Aside0 (TabN N w8) := ⟨TabN.keep HT_7.out k_⟩; clear O7 K7 HT_7; clear o_ k_ oo_ kk_ on_ nn_ rr_ bb_) | ((with_reducible refine gate_callee (f := 18) rfl ?_); refine goesL_ (some 45) rfl rfl Tryd.func18 (by kernel_rfl) rfl #[.pointer (some ⟨gf, 0, none⟩)] rfl (by (try simp only [List.map_toArray, List.map_cons, List.map_nil]); first | done | rfl) ?_; obtain ⟨N_, on_, nn_, rr_, bb_⟩ := O8.out.frame1 (i := 2) rfl; refine (FReset on_).mono ?_; rintro e_ w9 ⟨rfl, oo_, kk_⟩; obtain ⟨o_, k_⟩ := bb_ _ _ _ kk_ oo_; refine ⟨_, rfl, ?_⟩; have O9 : Aside0 (Own N w9 [ObjC gl 1 aw15, LinkO gk 1 2 2 true 2 1125899906842624 3 [(2, b2_), (3, b3_)] 2 0 0, cells gf #[.int .i64 0] 78]) := ⟨o_⟩; have K9 : Aside0 (KeepS N w w9) := ⟨K8.out.trans k_⟩; have HT_9 : Aside0 (TabN N w9) := ⟨TabN.keep HT_8.out k_⟩; clear O8 K8 HT_8; clear o_ k_ oo_ kk_ on_ nn_ rr_ bb_) | ((with_reducible refine gate_callee (f := 23) rfl ?_); refine goesL_ (some 47) rfl rfl Tryd.func23 (by kernel_rfl) rfl #[.pointer (some ⟨gk, 0, none⟩)] rfl (by (try simp only [List.map_toArray, List.map_cons, List.map_nil]); first | done | rfl) ?_; obtain ⟨N_, on_, nn_, rr_, bb_⟩ := O9.out.frame1 (i := 1) rfl; refine (aw_frames on_).mono ?_; rintro e_ w10 ⟨A7, e7, rfl, oo_, kk_⟩; obtain ⟨o_, k_⟩ := bb_ _ _ _ kk_ oo_; refine ⟨_, rfl, ?_⟩; have O10 : Aside0 (Own N w10 [ObjC gl 1 aw15, LinkO gk 1 2 2 true 2 1125899906842624 3 [(2, b2_), (3, b3_)] 2 0 0, cells gf #[.int .i64 0] 78, nrow k40 40 (.slice A7 2 e7) [fr 1 0 (2, b2_), fr 1 0 (3, b3_)]]) := ⟨o_⟩; have K10 : Aside0 (KeepS N w w10) := ⟨K9.out.trans k_⟩; have HT_10 : Aside0 (TabN N w10) := ⟨TabN.keep HT_9.out k_⟩; clear O9 K9 HT_9; clear o_ k_ oo_ kk_ on_ nn_ rr_ bb_))
   obtain ⟨ad, ead⟩ := at_Frm (O10.out.nreads (i := 3) rfl).2.2 (by decide)
   cases ead
   refine start_ (n := 37) (S := fun w' => w'.cell? ⟨ad.block, ad.off + 1, none⟩ = some (.int .i64 2) ∧ w'.cell? ⟨ad.block, ad.off + 3, none⟩ = some (.string b2_)) (ds := []) #[false, false, false, false, false, false, false, false, false, false, false, false, false, false, false, false, false, false, false, false, false, false, false, false, false, false, false, false, false, false, false, false, false, false, false, false, false] (by kernel_rfl) rfl rfl ⟨(at_FrmC0 ((O10.out.drew).nreads (i := 3) rfl).2.2 (by decide)).1, (at_FrmC0 ((O10.out.drew).nreads (i := 3) rfl).2.2 (by decide)).2⟩ (fun hHeld => ?_)
   obtain ⟨w11, hw_⟩ : ∃ W, W = w10.drew := ⟨_, rfl⟩
   have o_ := O10.out.drew
   have k_ : KeepS N w10 w10.drew := KeepS.drew
   rw [← hw_] at o_ k_ hHeld ⊢
   clear hw_
   have O11 : Aside0 (Own N w11 [ObjC gl 1 aw15, LinkO gk 1 2 2 true 2 1125899906842624 3 [(2, b2_), (3, b3_)] 2 0 0, cells gf #[.int .i64 0] 78, nrow k40 40 (.slice (some ad) 2 e7) [fr 1 0 (2, b2_), fr 1 0 (3, b3_)]]) := ⟨o_⟩
   have K11 : Aside0 (KeepS N w w11) := ⟨K10.out.trans k_⟩
   have HT_11 : Aside0 (TabN N w11) := ⟨TabN.keep HT_10.out k_⟩
   clear O10 K10 HT_10
   clear o_ k_
   refine pP 0 (some 48) ?_
   refine pP 1 (some 49) ?_
   refine pP 2 (some 50) ?_
   refine pP 3 (some 51) ?_
   refine pP 4 (some 52) ?_
   refine pP 5 (some 53) ?_
   refine pP 6 (some 54) ?_
   refine pP 7 (some 55) ?_
   refine pP 8 (some 56) ?_
   refine pP 9 (some 57) ?_
   refine pP 10 (some 58) ?_
   refine pP 11 (some 59) ?_
   refine oP 12 (some 60) (fun K_ hK_ => ?_)
   refine goes_ Tryd.func21 (by kernel_rfl) rfl #[.pointer (some ⟨gf, 0, none⟩)] (by rfl) rfl rfl (by (try simp only [List.map_toArray, List.map_cons, List.map_nil]); first | done | rfl) ?_
   obtain ⟨N_, on_, nn_, rr_, bb_⟩ := O11.out.frame1 (i := 2) rfl
   refine (FAt on_).mono ?_
   rintro e_ w12 ⟨rfl, oo_, kk_⟩
   obtain ⟨o_, k_⟩ := bb_ _ _ _ kk_ oo_
   refine ⟨_, rfl, ?_⟩
   have O12 : Aside0 (Own N w12 [ObjC gl 1 aw15, LinkO gk 1 2 2 true 2 1125899906842624 3 [(2, b2_), (3, b3_)] 2 0 0, cells gf #[.int .i64 0] 78, nrow k40 40 (.slice (some ad) 2 e7) [fr 1 0 (2, b2_), fr 1 0 (3, b3_)]]) := ⟨o_⟩
   have K12 : Aside0 (KeepS N w w12) := ⟨K11.out.trans k_⟩
   have HT_12 : Aside0 (TabN N w12) := ⟨TabN.keep HT_11.out k_⟩
   clear O11 K11 HT_11
   clear o_ k_ oo_ kk_ on_ nn_ rr_ bb_
   clear hHeld
   refine hK_.out _ _ ⟨(at_FrmC0 (O12.out.nreads (i := 3) rfl).2.2 (by decide)).1, (at_FrmC0 (O12.out.nreads (i := 3) rfl).2.2 (by decide)).2⟩ (fun hHeld => ?_)
   clear hK_ K_
   refine nP ?_
   refine pP 13 (some 61) ?_
   refine pP 14 (some 62) ?_
   refine pP 15 (some 63) ?_
   refine pP 16 (some 64) ?_
   refine pP 17 (some 65) ?_
   refine pP 18 (some 66) ?_
   refine pP 19 (some 67) ?_
   refine pP 20 (some 68) ?_
   refine pP 21 (some 69) ?_
   refine pP 22 (some 70) ?_
   refine pP 23 (some 71) ?_
   refine tP 24 (some 72) hHeld ?_
   refine pP 25 (some 73) ?_
   refine pP 26 (some 74) ?_
   refine pP 27 (some 75) ?_
   refine pP 28 (some 76) ?_
   refine pP 29 (some 77) ?_
   refine pP 30 (some 78) ?_
   refine tP 31 (some 79) hHeld ?_
   refine oP 32 (some 80) (fun K_ hK_ => ?_)
   refine goes_ Tryd.func32 (by kernel_rfl) rfl #[.int .i64 2] (by rfl) rfl rfl (by (try simp only [List.map_toArray, List.map_cons, List.map_nil]); first | done | rfl) ?_
   obtain ⟨N_, on_, nn_, rr_, bb_⟩ := O12.out.frame0
   refine (one 2 on_).mono ?_
   rintro e_ w13 ⟨B1, d1, rfl, oo_, kk_⟩
   obtain ⟨o_, k_⟩ := bb_ _ _ kk_ oo_
   refine ⟨_, rfl, ?_⟩
   have O13 : Aside0 (Own N w13 [ObjC gl 1 aw15, LinkO gk 1 2 2 true 2 1125899906842624 3 [(2, b2_), (3, b3_)] 2 0 0, cells gf #[.int .i64 0] 78, nrow k40 40 (.slice (some ad) 2 e7) [fr 1 0 (2, b2_), fr 1 0 (3, b3_)], nrow k114 114 (.slice B1 1 d1) awU]) := ⟨o_⟩
   have K13 : Aside0 (KeepS N w w13) := ⟨K12.out.trans k_⟩
   have HT_13 : Aside0 (TabN N w13) := ⟨TabN.keep HT_12.out k_⟩
   clear O12 K12 HT_12
   clear o_ k_ oo_ kk_ on_ nn_ rr_ bb_
   clear hHeld
   refine hK_.out _ _ ⟨(at_FrmC0 (O13.out.nreads (i := 3) rfl).2.2 (by decide)).1, (at_FrmC0 (O13.out.nreads (i := 3) rfl).2.2 (by decide)).2⟩ (fun hHeld => ?_)
   clear hK_ K_
   refine nP ?_
   refine oP 33 (some 81) (fun K_ hK_ => ?_)
   refine goes_ Tryd.func33 (by kernel_rfl) rfl #[.agg #[.int .i64 1, .int .i64 2, .slice B1 1 d1]] (by rfl) rfl rfl (by (try simp only [List.map_toArray, List.map_cons, List.map_nil]); first | done | rfl) ?_
   refine (chapbookref07_Bytes.calls 60 1 2 _ _ awU b2_ _ (O13.out.nreads (i := 4) rfl).2.2 (O13.out.nreads (i := 4) rfl).2.1 aw_bytes).mono ?_
   rintro e_ w14 ⟨rfl, hb_⟩
   refine ⟨_, rfl, ?_⟩
   have o_ := O13.out.below hb_
   have k_ := KeepS.of_below (N := N) hb_
   have O14 : Aside0 (Own N w14 [ObjC gl 1 aw15, LinkO gk 1 2 2 true 2 1125899906842624 3 [(2, b2_), (3, b3_)] 2 0 0, cells gf #[.int .i64 0] 78, nrow k40 40 (.slice (some ad) 2 e7) [fr 1 0 (2, b2_), fr 1 0 (3, b3_)], nrow k114 114 (.slice B1 1 d1) awU]) := ⟨o_⟩
   have K14 : Aside0 (KeepS N w w14) := ⟨K13.out.trans k_⟩
   have HT_14 : Aside0 (TabN N w14) := ⟨TabN.keep HT_13.out k_⟩
   clear O13 K13 HT_13
   clear o_ k_ hb_
   clear hHeld
   refine hK_.out _ _ ⟨(at_FrmC0 (O14.out.nreads (i := 3) rfl).2.2 (by decide)).1, (at_FrmC0 (O14.out.nreads (i := 3) rfl).2.2 (by decide)).2⟩ (fun hHeld => ?_)
   clear hK_ K_
   refine nP ?_
   refine pP 34 (some 82) ?_
   refine pP 35 (some 83) ?_
   refine pP 36 (some 0) ?_
   refine done_ (by kernel_rfl) ?_
   clear hHeld
   go_wp2
   go_ret
   refine ⟨rfl, K14.out.below (Nat.le_refl _) (fun k hk => by rw [HN.out]; exact hk)⟩
end Go.Proofs.YtjmoncfgoaaekaaDoor.J
