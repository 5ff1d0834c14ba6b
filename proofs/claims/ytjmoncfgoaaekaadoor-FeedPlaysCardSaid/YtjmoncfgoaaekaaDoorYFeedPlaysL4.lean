/- What a Link does: Frames, as a turn of a resource: a plain walk through its text. -/
import Derived.Test.YtjmoncfgoaaekaaDoorYFeedPlaysL3
import Derived.Test.YtjmoncfgoaaekaaDoorYFeedPlaysQ0
import Derived.Test.YtjmoncfgoaaekaaDoorYFeedPlaysSepL
namespace Go.Proofs.YtjmoncfgoaaekaaDoor.J
set_option linter.unusedSimpArgs false
set_option linter.unusedVariables false
open Go Go.RowKit Go.Proofs.YtjmoncfgoaaekaaDoorW.PrintWords Go.Proofs.YtjmoncfgoaaekaaDoorW.PrintLast Go.Proofs.YtjmoncfgoaaekaaDoorW.PrintMore Go.Proofs.YtjmoncfgoaaekaaDoor.Q Go.Proofs.YtjmoncfgoaaekaaDoor.Sep
abbrev Frm := S40
theorem infoF : (Tryd.prog.info? 40).map (fun i => (i.zero, i.size, i.bytes)) = some (some (.agg #[.int .i64 0, .int .i64 0, .int .i64 0, .string ⟨#[]⟩]), 4, 40) := by kernel_rfl
theorem flatF : Flat k40 := flat_iso _ (flat_pair flat_scalar (flat_pair flat_scalar (flat_pair flat_scalar flat_scalar)))
theorem repF (w : World) (x : Frm) : Reps (Kd.FK k40 w (fun _ => False)) 4 [x] [.int .i64 x.f0, .int .i64 x.f1, .int .i64 x.f2, .string x.f3] := (Reps.none _ 4).snoc (flatF.FK (k40_mk w x)) rfl
def fr (E ack : Int) (p : Piece) : Frm := ⟨E, p.1, ack, p.2⟩
def fr0 (E ack : Int) : Frm := ⟨E, 0, ack, ⟨#[]⟩⟩
def frs (E ack : Int) (xs : List Piece) : List Frm := if xs.length = 0 then [fr0 E ack] else xs.map (fr E ack)
def frU (E ack : Int) (xs : List Piece) (x : Int) : List Frm := (xs.take x.toNat).map (fr E ack)
theorem frU_all (E ack : Int) (xs : List Piece) : frU E ack xs xs.length = xs.map (fr E ack) := by unfold frU; rw [Int.toNat_natCast, List.take_length]
theorem frU_len (E ack : Int) (xs : List Piece) (x : Int) : (frU E ack xs x).length ≤ xs.length := by unfold frU; rw [List.length_map, List.length_take]; exact Nat.min_le_right _ _
theorem frU_snoc (E ack : Int) (xs : List Piece) (x : Int) (h0 : 0 ≤ x) (h1 : x < xs.length) : frU E ack xs (x + 1) = frU E ack xs x ++ [fr E ack (pAt xs x)] := by
 unfold frU pAt
 rw [show (x + 1).toNat = x.toNat + 1 by omega, List.take_succ_eq_append_getElem (by omega), List.map_append, List.getD_eq_getElem?_getD, List.getElem?_eq_getElem (by omega)]
 rfl
theorem at_P2 {w : World} {A : Option Addr} {n : Nat} {xs : List Piece} (h : kP.C w A n xs) (x : Int) (h0 : 0 ≤ x) (h1 : x < n) : ∃ ad, A = some ad ∧ w.cell? (ad.add (x.toNat * 2)) = some (.int .i64 (pAt xs x).1) ∧ w.cell? ⟨(ad.add (x.toNat * 2)).block, (ad.add (x.toNat * 2)).off + 1, none⟩ = some (.string (pAt xs x).2) := by
 obtain ⟨ad, c, e, hl, hk, hc0⟩ := ReadsRow.get_ h pz x h0 h1
 have hk' := kP_open hk
 subst hk'
 have hc : ∀ j u, ([.int .i64 (pAt xs x).1, .string (pAt xs x).2] : List Value)[j]? = some u → w.cell? (ad.add (x.toNat * 2 + j)) = some u := hc0
 exact ⟨ad, e, hc 0 _ rfl, by rw [← add_field _ _ 1 (by omega)]; exact hc 1 _ rfl⟩
theorem slice_lenF {A : Option Addr} {n m c : Nat} (h : n = m) : Value.slice A n c = .slice A m c := by rw [h]
def FrI (N : Nat → Prop) (w : World) (R : List HP) (E ack : Int) (xs : List Piece) (v i : Value) (wr : World) : Prop := ∃ (x : Int) (A2 : Option Addr) (c2 : Nat), 0 ≤ x ∧ x ≤ (xs.length : Int) ∧ i = .int .i64 x ∧ v = .slice A2 (frU E ack xs x).length c2 ∧ Aside0 (Own N wr (R ++ [nrow k40 40 (.slice A2 (frU E ack xs x).length c2) (frU E ack xs x)])) ∧ Aside0 (KeepS N w wr)
theorem own_shutF {N : Nat → Prop} {w : World} {g gs gr : Nat} {E Wn Rm : Int} {Pv : Bool} {W La S : Int} {xs : List Piece} {room acked n : Int} {P Q : HP} {rest : List HP} (h : Own N w ([cells g (linkC gs gr E Wn Rm Pv) 75, RecvO gr room acked n, SendO gs W La S xs, P, Q] ++ rest)) : Own N w [LinkO g E Wn Rm Pv W La S xs room acked n, Q] := by
 obtain ⟨N1, o1, n1, r1, b1⟩ := h.frameL [0, 1, 2] (by decide) (by simp)
 obtain ⟨o2, _⟩ := b1 w [LinkO g E Wn Rm Pv W La S xs room acked n, emp, emp] [] rfl (KeepS.refl _ _) (((LinkO.shut o1).push_emp emp (fun _ => trivial)).push_emp emp (fun _ => trivial))
 exact o2.pick2 (a := 0) (b := 4) rfl rfl (by decide)
set_option maxHeartbeats 16000000 in
set_option maxRecDepth 100000 in
theorem LFrames {N : Nat → Prop} {w : World} {g : Nat} {E Wn Rm : Int} {Pv : Bool} {W La S : Int} {xs : List Piece} {room acked n : Int} (h : Own N w [LinkO g E Wn Rm Pv W La S xs room acked n]) (hE : E ≠ 0) (hl : xs.length ≤ 16) :
  Calls Tryd.prog 23 #[.pointer (some ⟨g, 0, none⟩)] w fun e_ w' => ∃ A1 c1, e_ = .returned (.slice A1 (frs E acked xs).length c1) ∧ Own N w' [LinkO g E Wn Rm Pv W La S xs room acked n, nrow k40 40 (.slice A1 (frs E acked xs).length c1) (frs E acked xs)] ∧ KeepS N w w' := by
 obtain ⟨gs, gr, h2⟩ := LinkO.open_ h
 have d1 : (E == 0) = false := by simp [hE]
 have HL := Aside0.mk hl
 have HLM : Aside0 (xs.length ≤ 1000000) := ⟨by omega⟩
 have O0 : Aside0 (Own N w [cells g #[.pointer (some ⟨gs, 0, none⟩), .pointer (some ⟨gr, 0, none⟩), .int .i64 E, .int .i64 Wn, .int .i64 Rm, .bool Pv] 75, RecvO gr room acked n, SendO gs W La S xs]) := ⟨h2⟩
 have K0 : Aside0 (KeepS N w w) := ⟨KeepS.refl _ _⟩
 obtain ⟨a0a, a0b, a0c, a0d, a0e, a0f, b0⟩ := blk6_ (O0.out.blk (i := 0) rfl)
 clear h2 h hl hE
 go_enter Tryd.func23, Tryd.ntmps23
 go_wp2_with (first | ((with_reducible refine gate_callee (f := 48) rfl ?_); refine gP (some 17) Tryd.func48 #[.pointer (some ⟨gr, 0, none⟩)] ?_; obtain ⟨N_, on_, nn_, rr_, bb_⟩ := O0.out.frame1 (i := 1) rfl; refine (RecvAck on_).mono ?_; rintro e_ w1 ⟨rfl, oo_, kk_⟩; obtain ⟨o_, k_⟩ := bb_ _ _ _ kk_ oo_; refine ⟨_, rfl, ?_⟩; have O1 : Aside0 (Own N w1 [cells g #[.pointer (some ⟨gs, 0, none⟩), .pointer (some ⟨gr, 0, none⟩), .int .i64 E, .int .i64 Wn, .int .i64 Rm, .bool Pv] 75, RecvO gr room acked n, SendO gs W La S xs]) := ⟨o_⟩; have K1 := Aside0.mk (K0.out.trans k_); clear a0a a0b a0c a0d a0e a0f b0 O0 K0; obtain ⟨a0a, a0b, a0c, a0d, a0e, a0f, b0⟩ := blk6_ (O1.out.blk (i := 0) rfl); clear o_ k_ oo_ kk_ on_ nn_ rr_ bb_) | ((with_reducible refine gate_callee (f := 49) rfl ?_); refine gP (some 23) Tryd.func49 #[.pointer (some ⟨gs, 0, none⟩)] ?_; obtain ⟨N_, on_, nn_, rr_, bb_⟩ := O1.out.frame1 (i := 2) rfl; refine (SPieces on_ HLM.out).mono ?_; rintro e_ w2 ⟨A1, c1, rfl, oo_, kk_⟩; obtain ⟨o_, k_⟩ := bb_ _ _ _ kk_ oo_; refine ⟨_, rfl, ?_⟩; have O2 : Aside0 (Own N w2 [cells g #[.pointer (some ⟨gs, 0, none⟩), .pointer (some ⟨gr, 0, none⟩), .int .i64 E, .int .i64 Wn, .int .i64 Rm, .bool Pv] 75, RecvO gr room acked n, SendO gs W La S xs, nrow kP 102 (.slice A1 xs.length c1) xs]) := ⟨o_⟩; have K2 := Aside0.mk (K1.out.trans k_); clear a0a a0b a0c a0d a0e a0f b0 O1 K1; obtain ⟨a0a, a0b, a0c, a0d, a0e, a0f, b0⟩ := blk6_ (O2.out.blk (i := 0) rfl); clear o_ k_ oo_ kk_ on_ nn_ rr_ bb_))
 clear a0a a0b a0c a0d a0e a0f b0
 go_loopw [3, 25] (fun v i wr => FrI N w [cells g #[.pointer (some ⟨gs, 0, none⟩), .pointer (some ⟨gr, 0, none⟩), .int .i64 E, .int .i64 Wn, .int .i64 Rm, .bool Pv] 75, RecvO gr room acked n, SendO gs W La S xs, nrow kP 102 (.slice A1 xs.length c1) xs] E acked xs v i wr) (fun _ i _ => xs.length - (intOf i).toNat)
 case atStart => exact ⟨0, none, 0, by omega, by omega, rfl, rfl, ⟨O2.out.push_emp (nrow k40 40 (.slice none 0 0) []) (fun w => Kd.N_nil _ _ _ _ _)⟩, K2⟩
 case round =>
  obtain ⟨x, A2, c2, hx0, hx1, rfl, rfl, OA, KA⟩ := hrel
  clear O2 K2
  obtain ⟨R, hR⟩ : ∃ R, R = frU E acked xs x := ⟨_, rfl⟩
  rw [← hR] at OA ⊢
  have HR := Aside0.mk hR
  have HRL : Aside0 (R.length ≤ 16) := ⟨by rw [hR]; have := frU_len E acked xs x; have := HL.out; omega⟩
  clear hR
  have hll := HL.out
  by_cases hlt : x < (xs.length : Int)
  ·obtain ⟨ad, e3, x0, x1⟩ := at_P2 (OA.out.nreads (i := 3) rfl).2.2 x hx0 hlt
   cases e3
   have hs2 : wrap64 (x + 1) = x + 1 := by unfold wrap64; omega
   have hp := eq_true hx0
   have hq := eq_true hlt
   have hd : decide (x < (xs.length : Int)) = true := decide_eq_true hlt
   have HX := Aside0.mk (And.intro hx0 hlt)
   obtain ⟨y, hy⟩ : ∃ y, y = pAt xs x := ⟨_, rfl⟩
   rw [← hy] at x0 x1
   have HY := Aside0.mk hy
   clear hy hx0 hx1 hlt hll
   have O3 : Aside0 (Own N wr [cells g #[.pointer (some ⟨gs, 0, none⟩), .pointer (some ⟨gr, 0, none⟩), .int .i64 E, .int .i64 Wn, .int .i64 Rm, .bool Pv] 75, RecvO gr room acked n, SendO gs W La S xs, nrow kP 102 (.slice (some ad) xs.length c1) xs, nrow k40 40 (.slice A2 R.length c2) R]) := ⟨OA.out⟩
   have K3 : Aside0 (KeepS N w wr) := ⟨KA.out⟩
   obtain ⟨a0a, a0b, a0c, a0d, a0e, a0f, b0⟩ := blk6_ (O3.out.blk (i := 0) rfl)
   clear OA KA
   go_wp2_with (first | ((with_reducible refine gate_dst (N := 6) rfl ?_); refine bP 6 #[.int .i64 0, .string ⟨#[]⟩] 102 O3.out ?_; intro gp w4 o_ k_; have O4 : Aside0 (Own N w4 [cells g #[.pointer (some ⟨gs, 0, none⟩), .pointer (some ⟨gr, 0, none⟩), .int .i64 E, .int .i64 Wn, .int .i64 Rm, .bool Pv] 75, RecvO gr room acked n, SendO gs W La S xs, nrow kP 102 (.slice (some ad) xs.length c1) xs, nrow k40 40 (.slice A2 R.length c2) R, cells gp #[.int .i64 0, .string ⟨#[]⟩] 102]) := ⟨o_⟩; have K4 := Aside0.mk (K3.out.trans k_); clear a0a a0b a0c a0d a0e a0f b0 O3 K3; obtain ⟨a0a, a0b, a0c, a0d, a0e, a0f, b0⟩ := blk6_ (O4.out.blk (i := 0) rfl); obtain ⟨a5a, a5b, b5⟩ := blk2_ (O4.out.blk (i := 5) rfl); clear o_ k_) | ((with_reducible refine gate_store (t := 102) (p := 6) rfl ?_); refine wP (World.setCell (World.setCell w4 ⟨gp, 0, none⟩ (.int .i64 y.1)) ⟨gp, 1, none⟩ (.string y.2)) [cells g #[.pointer (some ⟨gs, 0, none⟩), .pointer (some ⟨gr, 0, none⟩), .int .i64 E, .int .i64 Wn, .int .i64 Rm, .bool Pv] 75, RecvO gr room acked n, SendO gs W La S xs, nrow kP 102 (.slice (some ad) xs.length c1) xs, nrow k40 40 (.slice A2 R.length c2) R, cells gp #[.int .i64 y.1, .string y.2] 102] ((O4.out.set (i := 5) rfl 0 (.int .i64 y.1)).set (i := 5) rfl 1 (.string y.2)) ((KeepS.setCell (O4.out.far (i := 5) rfl) (.int .i64 y.1)).trans (KeepS.setCell (O4.out.far (i := 5) rfl) (.string y.2))) ?_; intro w5 o_ k_; have O5 := Aside0.mk o_; have K5 := Aside0.mk (K4.out.trans k_); clear a0a a0b a0c a0d a0e a0f b0 a5a a5b b5 O4 K4; obtain ⟨a0a, a0b, a0c, a0d, a0e, a0f, b0⟩ := blk6_ (O5.out.blk (i := 0) rfl); obtain ⟨a5a, a5b, b5⟩ := blk2_ (O5.out.blk (i := 5) rfl); clear o_ k_))
   refine sP (n := 14) (S := fun w' => w'.cell? ⟨g, 0, none⟩ = some (.pointer (some ⟨gs, 0, none⟩)) ∧ w'.cell? ⟨g, 1, none⟩ = some (.pointer (some ⟨gr, 0, none⟩)) ∧ w'.cell? ⟨g, 2, none⟩ = some (.int .i64 E) ∧ w'.cell? ⟨g, 3, none⟩ = some (.int .i64 Wn) ∧ w'.cell? ⟨g, 4, none⟩ = some (.int .i64 Rm) ∧ w'.cell? ⟨g, 5, none⟩ = some (.bool Pv) ∧ w'.cell? ⟨gp, 0, none⟩ = some (.int .i64 y.1) ∧ w'.cell? ⟨gp, 1, none⟩ = some (.string y.2)) (ds := [12]) ⟨a0a, a0b, a0c, a0d, a0e, a0f, a5a, a5b⟩ (fun hHeld => ?_)
   obtain ⟨w6, hw_⟩ : ∃ W, W = w5.drew := ⟨_, rfl⟩
   have o_ := O5.out.drew
   have k_ : KeepS N w5 w5.drew := KeepS.drew
   rw [← hw_] at o_ k_ hHeld ⊢
   clear hw_
   have O6 := Aside0.mk o_
   have K6 := Aside0.mk (K5.out.trans k_)
   clear a0a a0b a0c a0d a0e a0f b0 a5a a5b b5 O5 K5
   obtain ⟨a0a, a0b, a0c, a0d, a0e, a0f, b0⟩ := blk6_ (O6.out.blk (i := 0) rfl)
   obtain ⟨a5a, a5b, b5⟩ := blk2_ (O6.out.blk (i := 5) rfl)
   clear o_ k_
   refine pP 0 (some 29) ?_
   refine pP 1 (some 30) ?_
   refine pP 2 (some 31) ?_
   refine pP 3 (some 32) ?_
   refine pP 5 (some 34) ?_
   refine pP 7 (some 36) ?_
   refine pP 8 (some 37) ?_
   refine tP 4 (some 33) hHeld ?_
   refine tP 6 (some 35) hHeld ?_
   refine tP 9 (some 38) hHeld ?_
   refine pP 10 (some 39) ?_
   refine oP 11 (some 40) (fun K_ hK_ => ?_)
   refine own_lit_step k40 (N := N) (e := 40) (xs := [(fr E acked y)]) (inner := [.int .i64 E, .int .i64 y.1, .int .i64 acked, .string y.2]) rfl rfl ?hr (repF _ (fr E acked y)) (by show 1 ≤ 9223372036854775807; decide) O6.out ?_
   (case hr => first | (go_simp; done) | (go_simp; rfl))
   intro B1 d1_ w7 o_ k_
   have O7 : Aside0 (Own N w7 [cells g #[.pointer (some ⟨gs, 0, none⟩), .pointer (some ⟨gr, 0, none⟩), .int .i64 E, .int .i64 Wn, .int .i64 Rm, .bool Pv] 75, RecvO gr room acked n, SendO gs W La S xs, nrow kP 102 (.slice (some ad) xs.length c1) xs, nrow k40 40 (.slice A2 R.length c2) R, cells gp #[.int .i64 y.1, .string y.2] 102, nrow k40 40 (.slice B1 1 d1_) [(fr E acked y)]]) := ⟨o_⟩
   have K7 := Aside0.mk (K6.out.trans k_)
   clear a0a a0b a0c a0d a0e a0f b0 a5a a5b b5 O6 K6
   obtain ⟨a0a, a0b, a0c, a0d, a0e, a0f, b0⟩ := blk6_ (O7.out.blk (i := 0) rfl)
   obtain ⟨a5a, a5b, b5⟩ := blk2_ (O7.out.blk (i := 5) rfl)
   clear o_ k_
   clear hHeld
   refine hK_.out _ _ ⟨a0a, a0b, a0c, a0d, a0e, a0f, a5a, a5b⟩ (fun hHeld => ?_)
   clear hK_ K_
   refine nP ?_
   refine lP 12 (some 41) (fun K_ hK_ => ?_)
   refine Own.append_flat_step k40 flatF O7.out (i := 4) rfl (O7.out.nreads (i := 6) rfl).2.2 rfl (by rfl) (.tmp 29) (.tmp 40) 54 (.agg #[.int .i64 0, .int .i64 0, .int .i64 0, .string ⟨#[]⟩]) 40 rfl Tryd.underlying54 infoF rfl (by decide) (by decide) rfl rfl (by have := HRL.out; omega) ?_
   intro A5 c5 w8 o_ k_
   have O8 : Aside0 (Own N w8 [cells g #[.pointer (some ⟨gs, 0, none⟩), .pointer (some ⟨gr, 0, none⟩), .int .i64 E, .int .i64 Wn, .int .i64 Rm, .bool Pv] 75, RecvO gr room acked n, SendO gs W La S xs, nrow kP 102 (.slice (some ad) xs.length c1) xs, nrow k40 40 (.slice A5 (R ++ [(fr E acked y)]).length c5) (R ++ [(fr E acked y)]), cells gp #[.int .i64 y.1, .string y.2] 102, nrow k40 40 (.slice B1 1 d1_) [(fr E acked y)]]) := ⟨o_⟩
   have K8 := Aside0.mk (K7.out.trans k_)
   clear a0a a0b a0c a0d a0e a0f b0 a5a a5b b5 O7 K7
   obtain ⟨a0a, a0b, a0c, a0d, a0e, a0f, b0⟩ := blk6_ (O8.out.blk (i := 0) rfl)
   obtain ⟨a5a, a5b, b5⟩ := blk2_ (O8.out.blk (i := 5) rfl)
   clear o_ k_
   refine hK_.out _ _ ?_
   clear hK_ K_
   refine nP ?_
   refine pP 13 (some 3) ?_
   refine done_ (by kernel_rfl) ?_
   clear hHeld
   go_wp2
   go_roundw
   case rel =>
    have hs_ := frU_snoc E acked xs x HX.out.1 HX.out.2
    refine ⟨x + 1, A5, c5, by have := HX.out; omega, by have := HX.out; omega, congrArg (Value.int .i64) (by unfold wrap64; have := HX.out; have := HL.out; omega), ?_, ⟨?_⟩, K8⟩
    ·rw [hs_, ← HR.out, ← HY.out]; exact slice_lenF (by simp)
    ·rw [hs_, ← HR.out, ← HY.out]; exact O8.out.take 5
   case measure => have := HX.out; simp [intOf]; omega
  ·have hd : decide (x < (xs.length : Int)) = false := decide_eq_false hlt
   have hRx : R = xs.map (fr E acked) := by rw [HR.out, show x = (xs.length : Int) by omega]; exact frU_all _ _ _
   have HRX := Aside0.mk hRx
   have hRn : R.length = xs.length := by rw [hRx, List.length_map]
   have HRN := Aside0.mk hRn
   clear hlt hx0 hx1 hRx hRn hll
   have O3 : Aside0 (Own N wr [cells g #[.pointer (some ⟨gs, 0, none⟩), .pointer (some ⟨gr, 0, none⟩), .int .i64 E, .int .i64 Wn, .int .i64 Rm, .bool Pv] 75, RecvO gr room acked n, SendO gs W La S xs, nrow kP 102 (.slice A1 xs.length c1) xs, nrow k40 40 (.slice A2 R.length c2) R]) := ⟨OA.out⟩
   have K3 : Aside0 (KeepS N w wr) := ⟨KA.out⟩
   obtain ⟨a0a, a0b, a0c, a0d, a0e, a0f, b0⟩ := blk6_ (O3.out.blk (i := 0) rfl)
   clear OA KA
   by_cases hz : R.length = 0
   ·have hd2 : ((R.length : Int) == 0) = true := by simp [hz]
    have HZ := Aside0.mk hz
    clear hz
    go_wp2_with (first | ((with_reducible refine gate_dst (N := 53) rfl ?_); refine own_lit k40 (N := N) (e := 40) (xs := [(fr0 E acked)]) (inner := [.int .i64 E, .int .i64 0, .int .i64 acked, .string ⟨#[]⟩]) rfl (D := 53) rfl ?hr ?hp (by show 1 ≤ 9223372036854775807; decide) O3.out ?_; (case hr => first | (go_simp; done) | (go_simp; rfl)); (case hp => exact repF _ (fr0 E acked)); intro B1 d1_ w4 o_ k_; have O4 : Aside0 (Own N w4 [cells g #[.pointer (some ⟨gs, 0, none⟩), .pointer (some ⟨gr, 0, none⟩), .int .i64 E, .int .i64 Wn, .int .i64 Rm, .bool Pv] 75, RecvO gr room acked n, SendO gs W La S xs, nrow kP 102 (.slice A1 xs.length c1) xs, nrow k40 40 (.slice A2 R.length c2) R, nrow k40 40 (.slice B1 1 d1_) ([(fr0 E acked)])]) := ⟨o_⟩; have K4 := Aside0.mk (K3.out.trans k_); clear a0a a0b a0c a0d a0e a0f b0 O3 K3; obtain ⟨a0a, a0b, a0c, a0d, a0e, a0f, b0⟩ := blk6_ (O4.out.blk (i := 0) rfl); clear o_ k_) | ((with_reducible refine gate_builtin (b := .append) (xs := #[.tmp 46, .tmp 53]) rfl ?_); at_builtin; refine Own.append_flat k40 flatF O4.out (i := 4) (ys := [(fr0 E acked)]) rfl ((O4.out.nreads (i := 5) rfl).2.2) rfl (.tmp 46) (.tmp 53) 54 (.agg #[.int .i64 0, .int .i64 0, .int .i64 0, .string ⟨#[]⟩]) 40 rfl Tryd.underlying54 infoF rfl (by decide) (by decide) rfl rfl (by have := HRL.out; omega) ?_; intro A5 c5 w5 o_ k_; have O5 : Aside0 (Own N w5 [cells g #[.pointer (some ⟨gs, 0, none⟩), .pointer (some ⟨gr, 0, none⟩), .int .i64 E, .int .i64 Wn, .int .i64 Rm, .bool Pv] 75, RecvO gr room acked n, SendO gs W La S xs, nrow kP 102 (.slice A1 xs.length c1) xs, nrow k40 40 (.slice A5 ((R) ++ ([(fr0 E acked)])).length c5) ((R) ++ ([(fr0 E acked)])), nrow k40 40 (.slice B1 1 d1_) ([(fr0 E acked)])]) := ⟨o_⟩; have K5 := Aside0.mk (K4.out.trans k_); clear a0a a0b a0c a0d a0e a0f b0 O4 K4; obtain ⟨a0a, a0b, a0c, a0d, a0e, a0f, b0⟩ := blk6_ (O5.out.blk (i := 0) rfl); clear o_ k_))
    go_ret
    have hf : frs E acked xs = R ++ [(fr0 E acked)] := by unfold frs; rw [if_pos (by rw [← HRN.out]; exact HZ.out), List.eq_nil_of_length_eq_zero HZ.out]; rfl
    rw [hf]
    exact ⟨A5, c5, congrArg Ending.returned (slice_lenF (n := R.length + 1) (by simp)), own_shutF O5.out, K5.out⟩
   ·have hd2 : ((R.length : Int) == 0) = false := by simp [hz]
    have HZ := Aside0.mk hz
    clear hz
    go_wp2
    go_ret
    have hf : frs E acked xs = R := by unfold frs; rw [if_neg (by rw [← HRN.out]; exact HZ.out)]; exact HRX.out.symm
    rw [hf]
    exact ⟨A2, c2, rfl, own_shutF O3.out, K3.out⟩
end Go.Proofs.YtjmoncfgoaaekaaDoor.J
