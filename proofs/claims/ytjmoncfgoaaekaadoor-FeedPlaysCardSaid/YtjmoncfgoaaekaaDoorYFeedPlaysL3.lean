/- What a Link does: Hear, as a turn of a resource: a plain walk through its text. -/
import Derived.Test.YtjmoncfgoaaekaaDoorYFeedPlaysL2
namespace Go.Proofs.YtjmoncfgoaaekaaDoor.J
set_option linter.unusedSimpArgs false
set_option linter.unusedVariables false
open Go Go.RowKit Go.Proofs.YtjmoncfgoaaekaaDoorW.PrintWords Go.Proofs.YtjmoncfgoaaekaaDoorW.PrintLast Go.Proofs.YtjmoncfgoaaekaaDoorW.PrintMore Go.Proofs.YtjmoncfgoaaekaaDoor.Sep
def ackX (S n : Int) (xs : List Piece) : List Piece := if n > S then xs else xs.drop (lead n xs)
def ackN (S n : Int) (xs : List Piece) : Int := if n > S then 0 else (lead n xs : Nat)
theorem SAck_a {N : Nat → Prop} {w : World} {g : Nat} {W La S : Int} {xs : List Piece} (n : Int) (h : Own N w [SendO g W La S xs]) (hl : xs.length ≤ 1000000) :
  Calls Tryd.prog 40 #[.pointer (some ⟨g, 0, none⟩), .int .i64 n] w fun e_ w' => e_ = .returned (.int .i64 (ackN S n xs)) ∧ Own N w' [SendO g W La S (ackX S n xs)] ∧ KeepS N w w' := by
 unfold ackN ackX
 by_cases hn : n > S
 ·rw [if_pos hn, if_pos hn]; exact SAck_far n h hn
 ·rw [if_neg hn, if_neg hn]; exact SAck_in n h (by omega) hl
def takes (room acked n seq : Int) : Bool := decide (n ≠ room ∧ seq = acked + 1)
def hearA (room acked n seq : Int) : Int := if takes room acked n seq then acked + 1 else acked
def hearN (room acked n seq : Int) : Int := if takes room acked n seq then n + 1 else n
theorem RecvHear_a {N : Nat → Prop} {w : World} {g : Nat} {room acked n : Int} (seq : Int) (data : ByteArray) (h : Own N w [RecvO g room acked n]) (ha : 0 ≤ acked ∧ acked < 1125899906842624) (hn : 0 ≤ n ∧ n ≤ room ∧ room ≤ 16) :
  Calls Tryd.prog 41 #[.pointer (some ⟨g, 0, none⟩), .int .i64 seq, .string data] w fun e_ w' => e_ = .returned (.bool (takes room acked n seq)) ∧ Own N w' [RecvO g room (hearA room acked n seq) (hearN room acked n seq)] ∧ KeepS N w w' := by
 unfold hearA hearN
 by_cases hf : n = room
 ·have e : takes room acked n seq = false := by simp [takes, hf]
  rw [e]
  exact RecvHear_full seq data h hf
 by_cases hs : seq = acked + 1
 ·have e : takes room acked n seq = true := by simp [takes, hf, hs]
  rw [e]
  exact RecvHear_ok seq data h hf hs ha ⟨hn.1, by omega⟩
 ·have e : takes room acked n seq = false := by simp [takes, hs]
  rw [e]
  exact RecvHear_far seq data h hf hs ha
end Go.Proofs.YtjmoncfgoaaekaaDoor.J
namespace Go.Proofs.YtjmoncfgoaaekaaDoor.J
set_option linter.unusedSimpArgs false
set_option linter.unusedVariables false
open Go Go.RowKit Go.Proofs.YtjmoncfgoaaekaaDoorW.PrintWords Go.Proofs.YtjmoncfgoaaekaaDoorW.PrintLast Go.Proofs.YtjmoncfgoaaekaaDoorW.PrintMore Go.Proofs.YtjmoncfgoaaekaaDoor.Sep
set_option maxHeartbeats 16000000 in
set_option maxRecDepth 100000 in
theorem LHear_old {N : Nat → Prop} {w : World} {g : Nat} {E Wn Rm : Int} {Pv : Bool} {W La S : Int} {xs : List Piece} {room acked n : Int} (fe fq fa : Int) (fd : ByteArray) (h : Own N w [LinkO g E Wn Rm Pv W La S xs room acked n]) (hf : fe < E) :
  Calls Tryd.prog 16 #[.pointer (some ⟨g, 0, none⟩), .agg #[.int .i64 fe, .int .i64 fq, .int .i64 fa, .string fd]] w fun e_ w' => e_ = .returned (.bool false) ∧ Own N w' [LinkO g E Wn Rm Pv W La S xs room acked n] ∧ KeepS N w w' := by
 have d1 : decide (fe > E) = false := decide_eq_false (by omega)
 have d2 : decide (E < fe) = false := decide_eq_false (by omega)
 have d3 : decide (fe < E) = true := decide_eq_true hf
 clear hf
 obtain ⟨gs, gr, h2⟩ := LinkO.open_ h
 have O0 : Aside0 (Own N w [cells g #[.pointer (some ⟨gs, 0, none⟩), .pointer (some ⟨gr, 0, none⟩), .int .i64 E, .int .i64 Wn, .int .i64 Rm, .bool Pv] 75, RecvO gr room acked n, SendO gs W La S xs]) := ⟨h2⟩
 have K0 : Aside0 (KeepS N w w) := ⟨KeepS.refl _ _⟩
 obtain ⟨a0a, a0b, a0c, a0d, a0e, a0f, b0⟩ := blk6_ (O0.out.blk (i := 0) rfl)
 clear h2 h
 go_enter Tryd.func16, Tryd.ntmps16
 go_wp2_with (first | ((with_reducible refine gate_dst (N := 3) rfl ?_); refine bP 3 #[.int .i64 fe, .int .i64 fq, .int .i64 fa, .string fd] 40 O0.out ?_; intro gf w1 o_ k_; have O1 : Aside0 (Own N w1 [cells g #[.pointer (some ⟨gs, 0, none⟩), .pointer (some ⟨gr, 0, none⟩), .int .i64 E, .int .i64 Wn, .int .i64 Rm, .bool Pv] 75, RecvO gr room acked n, SendO gs W La S xs, cells gf #[.int .i64 fe, .int .i64 fq, .int .i64 fa, .string fd] 40]) := ⟨o_⟩; have K1 := Aside0.mk (K0.out.trans k_); clear a0a a0b a0c a0d a0e a0f b0 O0 K0; obtain ⟨a0a, a0b, a0c, a0d, a0e, a0f, b0⟩ := blk6_ (O1.out.blk (i := 0) rfl); obtain ⟨a3a, a3b, a3c, a3d, b3⟩ := blk4_ (O1.out.blk (i := 3) rfl); clear o_ k_))
 refine sP (n := 8) (S := fun w' => w'.cell? ⟨g, 0, none⟩ = some (.pointer (some ⟨gs, 0, none⟩)) ∧ w'.cell? ⟨g, 1, none⟩ = some (.pointer (some ⟨gr, 0, none⟩)) ∧ w'.cell? ⟨g, 2, none⟩ = some (.int .i64 E) ∧ w'.cell? ⟨g, 3, none⟩ = some (.int .i64 Wn) ∧ w'.cell? ⟨g, 4, none⟩ = some (.int .i64 Rm) ∧ w'.cell? ⟨g, 5, none⟩ = some (.bool Pv) ∧ w'.cell? ⟨gf, 0, none⟩ = some (.int .i64 fe) ∧ w'.cell? ⟨gf, 1, none⟩ = some (.int .i64 fq) ∧ w'.cell? ⟨gf, 2, none⟩ = some (.int .i64 fa) ∧ w'.cell? ⟨gf, 3, none⟩ = some (.string fd)) (ds := []) ⟨a0a, a0b, a0c, a0d, a0e, a0f, a3a, a3b, a3c, a3d⟩ (fun hHeld => ?_)
 obtain ⟨w2, hw_⟩ : ∃ W, W = w1.drew := ⟨_, rfl⟩
 have o_ := O1.out.drew
 have k_ : KeepS N w1 w1.drew := KeepS.drew
 rw [← hw_] at o_ k_ hHeld ⊢
 clear hw_
 have O2 := Aside0.mk o_
 have K2 := Aside0.mk (K1.out.trans k_)
 clear a0a a0b a0c a0d a0e a0f b0 a3a a3b a3c a3d b3 O1 K1
 obtain ⟨a0a, a0b, a0c, a0d, a0e, a0f, b0⟩ := blk6_ (O2.out.blk (i := 0) rfl)
 obtain ⟨a3a, a3b, a3c, a3d, b3⟩ := blk4_ (O2.out.blk (i := 3) rfl)
 clear o_ k_
 refine pP 0 (some 6) ?_
 refine pP 2 (some 8) ?_
 refine pP 3 (some 9) ?_
 refine pP 4 (some 10) ?_
 refine tP 1 (some 7) hHeld ?_
 refine tP 5 (some 11) hHeld ?_
 refine pP 6 (some 12) ?_
 refine pP 7 (some 5) ?_
 refine done_ (by kernel_rfl) ?_
 clear hHeld
 go_wp2
 refine sP (n := 17) (S := fun w' => w'.cell? ⟨g, 0, none⟩ = some (.pointer (some ⟨gs, 0, none⟩)) ∧ w'.cell? ⟨g, 1, none⟩ = some (.pointer (some ⟨gr, 0, none⟩)) ∧ w'.cell? ⟨g, 2, none⟩ = some (.int .i64 E) ∧ w'.cell? ⟨g, 3, none⟩ = some (.int .i64 Wn) ∧ w'.cell? ⟨g, 4, none⟩ = some (.int .i64 Rm) ∧ w'.cell? ⟨g, 5, none⟩ = some (.bool Pv) ∧ w'.cell? ⟨gf, 0, none⟩ = some (.int .i64 fe) ∧ w'.cell? ⟨gf, 1, none⟩ = some (.int .i64 fq) ∧ w'.cell? ⟨gf, 2, none⟩ = some (.int .i64 fa) ∧ w'.cell? ⟨gf, 3, none⟩ = some (.string fd)) (ds := []) ⟨a0a, a0b, a0c, a0d, a0e, a0f, a3a, a3b, a3c, a3d⟩ (fun hHeld => ?_)
 obtain ⟨w3, hw_⟩ : ∃ W, W = w2.drew := ⟨_, rfl⟩
 have o_ := O2.out.drew
 have k_ : KeepS N w2 w2.drew := KeepS.drew
 rw [← hw_] at o_ k_ hHeld ⊢
 clear hw_
 have O3 := Aside0.mk o_
 have K3 := Aside0.mk (K2.out.trans k_)
 clear a0a a0b a0c a0d a0e a0f b0 a3a a3b a3c a3d b3 O2 K2
 obtain ⟨a0a, a0b, a0c, a0d, a0e, a0f, b0⟩ := blk6_ (O3.out.blk (i := 0) rfl)
 obtain ⟨a3a, a3b, a3c, a3d, b3⟩ := blk4_ (O3.out.blk (i := 3) rfl)
 clear o_ k_
 refine pP 0 (some 13) ?_
 refine pP 2 (some 15) ?_
 refine pP 3 (some 16) ?_
 refine pP 4 (some 17) ?_
 refine tP 1 (some 14) hHeld ?_
 refine tP 5 (some 18) hHeld ?_
 refine pP 6 (some 19) ?_
 refine pP 7 (some 20) ?_
 refine pS 8 (some 21) ?_
 refine pS 9 (some 22) ?_
 refine pS 10 (some 23) ?_
 refine pS 11 (some 24) ?_
 refine pS 12 (some 25) ?_
 refine tS 13 (some 26) hHeld ?_
 refine pS 14 (some 27) ?_
 refine pS 15 (some 28) ?_
 refine pP 16 (some 29) ?_
 refine done_ (by kernel_rfl) ?_
 clear hHeld
 go_wp2
 go_ret
 exact ⟨rfl, LinkO.shut (O3.out.take 3), K3.out⟩
set_option maxHeartbeats 16000000 in
set_option maxRecDepth 100000 in
theorem LHear_ack {N : Nat → Prop} {w : World} {g : Nat} {E Wn Rm : Int} {Pv : Bool} {W La S : Int} {xs : List Piece} {room acked n : Int} (fe fq fa : Int) (fd : ByteArray) (h : Own N w [LinkO g E Wn Rm Pv W La S xs room acked n]) (hf : E = fe) (hl : xs.length ≤ 1000000) (hq : fq = 0) :
  Calls Tryd.prog 16 #[.pointer (some ⟨g, 0, none⟩), .agg #[.int .i64 fe, .int .i64 fq, .int .i64 fa, .string fd]] w fun e_ w' => e_ = .returned (.bool false) ∧ Own N w' [LinkO g E Wn Rm Pv W La S (ackX S fa xs) room acked n] ∧ KeepS N w w' := by
 subst hf
 have HL := Aside0.mk hl
 have d1 : decide (E > E) = false := decide_eq_false (by omega)
 have d2 : decide (E < E) = false := decide_eq_false (by omega)
 subst hq
 have d5 : ((0 : Int) != 0) = false := by decide
 clear hl
 obtain ⟨gs, gr, h2⟩ := LinkO.open_ h
 have O0 : Aside0 (Own N w [cells g #[.pointer (some ⟨gs, 0, none⟩), .pointer (some ⟨gr, 0, none⟩), .int .i64 E, .int .i64 Wn, .int .i64 Rm, .bool Pv] 75, RecvO gr room acked n, SendO gs W La S xs]) := ⟨h2⟩
 have K0 : Aside0 (KeepS N w w) := ⟨KeepS.refl _ _⟩
 obtain ⟨a0a, a0b, a0c, a0d, a0e, a0f, b0⟩ := blk6_ (O0.out.blk (i := 0) rfl)
 clear h2 h
 go_enter Tryd.func16, Tryd.ntmps16
 go_wp2_with (first | ((with_reducible refine gate_dst (N := 3) rfl ?_); refine bP 3 #[.int .i64 E, .int .i64 0, .int .i64 fa, .string fd] 40 O0.out ?_; intro gf w1 o_ k_; have O1 : Aside0 (Own N w1 [cells g #[.pointer (some ⟨gs, 0, none⟩), .pointer (some ⟨gr, 0, none⟩), .int .i64 E, .int .i64 Wn, .int .i64 Rm, .bool Pv] 75, RecvO gr room acked n, SendO gs W La S xs, cells gf #[.int .i64 E, .int .i64 0, .int .i64 fa, .string fd] 40]) := ⟨o_⟩; have K1 := Aside0.mk (K0.out.trans k_); clear a0a a0b a0c a0d a0e a0f b0 O0 K0; obtain ⟨a0a, a0b, a0c, a0d, a0e, a0f, b0⟩ := blk6_ (O1.out.blk (i := 0) rfl); obtain ⟨a3a, a3b, a3c, a3d, b3⟩ := blk4_ (O1.out.blk (i := 3) rfl); clear o_ k_))
 refine sP (n := 8) (S := fun w' => w'.cell? ⟨g, 0, none⟩ = some (.pointer (some ⟨gs, 0, none⟩)) ∧ w'.cell? ⟨g, 1, none⟩ = some (.pointer (some ⟨gr, 0, none⟩)) ∧ w'.cell? ⟨g, 2, none⟩ = some (.int .i64 E) ∧ w'.cell? ⟨g, 3, none⟩ = some (.int .i64 Wn) ∧ w'.cell? ⟨g, 4, none⟩ = some (.int .i64 Rm) ∧ w'.cell? ⟨g, 5, none⟩ = some (.bool Pv) ∧ w'.cell? ⟨gf, 0, none⟩ = some (.int .i64 E) ∧ w'.cell? ⟨gf, 1, none⟩ = some (.int .i64 0) ∧ w'.cell? ⟨gf, 2, none⟩ = some (.int .i64 fa) ∧ w'.cell? ⟨gf, 3, none⟩ = some (.string fd)) (ds := []) ⟨a0a, a0b, a0c, a0d, a0e, a0f, a3a, a3b, a3c, a3d⟩ (fun hHeld => ?_)
 obtain ⟨w2, hw_⟩ : ∃ W, W = w1.drew := ⟨_, rfl⟩
 have o_ := O1.out.drew
 have k_ : KeepS N w1 w1.drew := KeepS.drew
 rw [← hw_] at o_ k_ hHeld ⊢
 clear hw_
 have O2 := Aside0.mk o_
 have K2 := Aside0.mk (K1.out.trans k_)
 clear a0a a0b a0c a0d a0e a0f b0 a3a a3b a3c a3d b3 O1 K1
 obtain ⟨a0a, a0b, a0c, a0d, a0e, a0f, b0⟩ := blk6_ (O2.out.blk (i := 0) rfl)
 obtain ⟨a3a, a3b, a3c, a3d, b3⟩ := blk4_ (O2.out.blk (i := 3) rfl)
 clear o_ k_
 refine pP 0 (some 6) ?_
 refine pP 2 (some 8) ?_
 refine pP 3 (some 9) ?_
 refine pP 4 (some 10) ?_
 refine tP 1 (some 7) hHeld ?_
 refine tP 5 (some 11) hHeld ?_
 refine pP 6 (some 12) ?_
 refine pP 7 (some 5) ?_
 refine done_ (by kernel_rfl) ?_
 clear hHeld
 go_wp2
 refine sP (n := 17) (S := fun w' => w'.cell? ⟨g, 0, none⟩ = some (.pointer (some ⟨gs, 0, none⟩)) ∧ w'.cell? ⟨g, 1, none⟩ = some (.pointer (some ⟨gr, 0, none⟩)) ∧ w'.cell? ⟨g, 2, none⟩ = some (.int .i64 E) ∧ w'.cell? ⟨g, 3, none⟩ = some (.int .i64 Wn) ∧ w'.cell? ⟨g, 4, none⟩ = some (.int .i64 Rm) ∧ w'.cell? ⟨g, 5, none⟩ = some (.bool Pv) ∧ w'.cell? ⟨gf, 0, none⟩ = some (.int .i64 E) ∧ w'.cell? ⟨gf, 1, none⟩ = some (.int .i64 0) ∧ w'.cell? ⟨gf, 2, none⟩ = some (.int .i64 fa) ∧ w'.cell? ⟨gf, 3, none⟩ = some (.string fd)) (ds := []) ⟨a0a, a0b, a0c, a0d, a0e, a0f, a3a, a3b, a3c, a3d⟩ (fun hHeld => ?_)
 obtain ⟨w3, hw_⟩ : ∃ W, W = w2.drew := ⟨_, rfl⟩
 have o_ := O2.out.drew
 have k_ : KeepS N w2 w2.drew := KeepS.drew
 rw [← hw_] at o_ k_ hHeld ⊢
 clear hw_
 have O3 := Aside0.mk o_
 have K3 := Aside0.mk (K2.out.trans k_)
 clear a0a a0b a0c a0d a0e a0f b0 a3a a3b a3c a3d b3 O2 K2
 obtain ⟨a0a, a0b, a0c, a0d, a0e, a0f, b0⟩ := blk6_ (O3.out.blk (i := 0) rfl)
 obtain ⟨a3a, a3b, a3c, a3d, b3⟩ := blk4_ (O3.out.blk (i := 3) rfl)
 clear o_ k_
 refine pP 0 (some 13) ?_
 refine pP 2 (some 15) ?_
 refine pP 3 (some 16) ?_
 refine pP 4 (some 17) ?_
 refine tP 1 (some 14) hHeld ?_
 refine tP 5 (some 18) hHeld ?_
 refine pP 6 (some 19) ?_
 refine pP 7 (some 20) ?_
 refine pP 8 (some 21) ?_
 refine pP 9 (some 22) ?_
 refine pS 10 (some 23) ?_
 refine pS 11 (some 24) ?_
 refine pS 12 (some 25) ?_
 refine tS 13 (some 26) hHeld ?_
 refine pS 14 (some 27) ?_
 refine pP 15 (some 28) ?_
 refine pP 16 (some 29) ?_
 refine done_ (by kernel_rfl) ?_
 clear hHeld
 go_wp2
 refine sP (n := 8) (S := fun w' => w'.cell? ⟨g, 0, none⟩ = some (.pointer (some ⟨gs, 0, none⟩)) ∧ w'.cell? ⟨g, 1, none⟩ = some (.pointer (some ⟨gr, 0, none⟩)) ∧ w'.cell? ⟨g, 2, none⟩ = some (.int .i64 E) ∧ w'.cell? ⟨g, 3, none⟩ = some (.int .i64 Wn) ∧ w'.cell? ⟨g, 4, none⟩ = some (.int .i64 Rm) ∧ w'.cell? ⟨g, 5, none⟩ = some (.bool Pv) ∧ w'.cell? ⟨gf, 0, none⟩ = some (.int .i64 E) ∧ w'.cell? ⟨gf, 1, none⟩ = some (.int .i64 0) ∧ w'.cell? ⟨gf, 2, none⟩ = some (.int .i64 fa) ∧ w'.cell? ⟨gf, 3, none⟩ = some (.string fd)) (ds := []) ⟨a0a, a0b, a0c, a0d, a0e, a0f, a3a, a3b, a3c, a3d⟩ (fun hHeld => ?_)
 obtain ⟨w4, hw_⟩ : ∃ W, W = w3.drew := ⟨_, rfl⟩
 have o_ := O3.out.drew
 have k_ : KeepS N w3 w3.drew := KeepS.drew
 rw [← hw_] at o_ k_ hHeld ⊢
 clear hw_
 have O4 := Aside0.mk o_
 have K4 := Aside0.mk (K3.out.trans k_)
 clear a0a a0b a0c a0d a0e a0f b0 a3a a3b a3c a3d b3 O3 K3
 obtain ⟨a0a, a0b, a0c, a0d, a0e, a0f, b0⟩ := blk6_ (O4.out.blk (i := 0) rfl)
 obtain ⟨a3a, a3b, a3c, a3d, b3⟩ := blk4_ (O4.out.blk (i := 3) rfl)
 clear o_ k_
 refine pP 0 (some 35) ?_
 refine pP 1 (some 36) ?_
 refine pP 2 (some 37) ?_
 refine pP 3 (some 38) ?_
 refine pP 5 (some 40) ?_
 refine tP 4 (some 39) hHeld ?_
 refine tP 6 (some 41) hHeld ?_
 refine oP 7 (some 42) (fun K_ hK_ => ?_)
 refine hP Tryd.func40 #[.pointer (some ⟨gs, 0, none⟩), .int .i64 fa] ?_
 obtain ⟨N_, on_, nn_, rr_, bb_⟩ := O4.out.frame1 (i := 2) rfl
 refine (SAck_a fa on_ HL.out).mono ?_
 rintro e_ w5 ⟨rfl, oo_, kk_⟩
 obtain ⟨o_, k_⟩ := bb_ _ _ _ kk_ oo_
 refine ⟨_, rfl, ?_⟩
 have O5 : Aside0 (Own N w5 [cells g #[.pointer (some ⟨gs, 0, none⟩), .pointer (some ⟨gr, 0, none⟩), .int .i64 E, .int .i64 Wn, .int .i64 Rm, .bool Pv] 75, RecvO gr room acked n, SendO gs W La S (ackX S fa xs), cells gf #[.int .i64 E, .int .i64 0, .int .i64 fa, .string fd] 40]) := ⟨o_⟩
 have K5 := Aside0.mk (K4.out.trans k_)
 clear a0a a0b a0c a0d a0e a0f b0 a3a a3b a3c a3d b3 O4 K4
 obtain ⟨a0a, a0b, a0c, a0d, a0e, a0f, b0⟩ := blk6_ (O5.out.blk (i := 0) rfl)
 obtain ⟨a3a, a3b, a3c, a3d, b3⟩ := blk4_ (O5.out.blk (i := 3) rfl)
 clear o_ k_ oo_ kk_ on_ nn_ rr_ bb_
 clear hHeld
 refine hK_.out _ _ ⟨a0a, a0b, a0c, a0d, a0e, a0f, a3a, a3b, a3c, a3d⟩ (fun hHeld => ?_)
 clear hK_ K_
 refine nP ?_
 refine done_ (by kernel_rfl) ?_
 clear hHeld
 go_wp2
 go_ret
 exact ⟨rfl, LinkO.shut (O5.out.take 3), K5.out⟩
set_option maxHeartbeats 16000000 in
set_option maxRecDepth 100000 in
theorem LHear_data {N : Nat → Prop} {w : World} {g : Nat} {E Wn Rm : Int} {Pv : Bool} {W La S : Int} {xs : List Piece} {room acked n : Int} (fe fq fa : Int) (fd : ByteArray) (h : Own N w [LinkO g E Wn Rm Pv W La S xs room acked n]) (hf : E = fe) (hl : xs.length ≤ 1000000) (hq : fq ≠ 0) (ha : 0 ≤ acked ∧ acked < 1125899906842624) (hn : 0 ≤ n ∧ n ≤ room ∧ room ≤ 16) :
  Calls Tryd.prog 16 #[.pointer (some ⟨g, 0, none⟩), .agg #[.int .i64 fe, .int .i64 fq, .int .i64 fa, .string fd]] w fun e_ w' => e_ = .returned (.bool false) ∧ Own N w' [LinkO g E Wn Rm Pv W La S (ackX S fa xs) room (hearA room acked n fq) (hearN room acked n fq)] ∧ KeepS N w w' := by
 subst hf
 have HL := Aside0.mk hl
 have d1 : decide (E > E) = false := decide_eq_false (by omega)
 have d2 : decide (E < E) = false := decide_eq_false (by omega)
 have d5 : (fq != 0) = true := by simp [hq]
 have HA := Aside0.mk ha
 have HN := Aside0.mk hn
 clear hq ha hn hl
 obtain ⟨gs, gr, h2⟩ := LinkO.open_ h
 have O0 : Aside0 (Own N w [cells g #[.pointer (some ⟨gs, 0, none⟩), .pointer (some ⟨gr, 0, none⟩), .int .i64 E, .int .i64 Wn, .int .i64 Rm, .bool Pv] 75, RecvO gr room acked n, SendO gs W La S xs]) := ⟨h2⟩
 have K0 : Aside0 (KeepS N w w) := ⟨KeepS.refl _ _⟩
 obtain ⟨a0a, a0b, a0c, a0d, a0e, a0f, b0⟩ := blk6_ (O0.out.blk (i := 0) rfl)
 clear h2 h
 go_enter Tryd.func16, Tryd.ntmps16
 go_wp2_with (first | ((with_reducible refine gate_dst (N := 3) rfl ?_); refine bP 3 #[.int .i64 E, .int .i64 fq, .int .i64 fa, .string fd] 40 O0.out ?_; intro gf w1 o_ k_; have O1 : Aside0 (Own N w1 [cells g #[.pointer (some ⟨gs, 0, none⟩), .pointer (some ⟨gr, 0, none⟩), .int .i64 E, .int .i64 Wn, .int .i64 Rm, .bool Pv] 75, RecvO gr room acked n, SendO gs W La S xs, cells gf #[.int .i64 E, .int .i64 fq, .int .i64 fa, .string fd] 40]) := ⟨o_⟩; have K1 := Aside0.mk (K0.out.trans k_); clear a0a a0b a0c a0d a0e a0f b0 O0 K0; obtain ⟨a0a, a0b, a0c, a0d, a0e, a0f, b0⟩ := blk6_ (O1.out.blk (i := 0) rfl); obtain ⟨a3a, a3b, a3c, a3d, b3⟩ := blk4_ (O1.out.blk (i := 3) rfl); clear o_ k_))
 refine sP (n := 8) (S := fun w' => w'.cell? ⟨g, 0, none⟩ = some (.pointer (some ⟨gs, 0, none⟩)) ∧ w'.cell? ⟨g, 1, none⟩ = some (.pointer (some ⟨gr, 0, none⟩)) ∧ w'.cell? ⟨g, 2, none⟩ = some (.int .i64 E) ∧ w'.cell? ⟨g, 3, none⟩ = some (.int .i64 Wn) ∧ w'.cell? ⟨g, 4, none⟩ = some (.int .i64 Rm) ∧ w'.cell? ⟨g, 5, none⟩ = some (.bool Pv) ∧ w'.cell? ⟨gf, 0, none⟩ = some (.int .i64 E) ∧ w'.cell? ⟨gf, 1, none⟩ = some (.int .i64 fq) ∧ w'.cell? ⟨gf, 2, none⟩ = some (.int .i64 fa) ∧ w'.cell? ⟨gf, 3, none⟩ = some (.string fd)) (ds := []) ⟨a0a, a0b, a0c, a0d, a0e, a0f, a3a, a3b, a3c, a3d⟩ (fun hHeld => ?_)
 obtain ⟨w2, hw_⟩ : ∃ W, W = w1.drew := ⟨_, rfl⟩
 have o_ := O1.out.drew
 have k_ : KeepS N w1 w1.drew := KeepS.drew
 rw [← hw_] at o_ k_ hHeld ⊢
 clear hw_
 have O2 := Aside0.mk o_
 have K2 := Aside0.mk (K1.out.trans k_)
 clear a0a a0b a0c a0d a0e a0f b0 a3a a3b a3c a3d b3 O1 K1
 obtain ⟨a0a, a0b, a0c, a0d, a0e, a0f, b0⟩ := blk6_ (O2.out.blk (i := 0) rfl)
 obtain ⟨a3a, a3b, a3c, a3d, b3⟩ := blk4_ (O2.out.blk (i := 3) rfl)
 clear o_ k_
 refine pP 0 (some 6) ?_
 refine pP 2 (some 8) ?_
 refine pP 3 (some 9) ?_
 refine pP 4 (some 10) ?_
 refine tP 1 (some 7) hHeld ?_
 refine tP 5 (some 11) hHeld ?_
 refine pP 6 (some 12) ?_
 refine pP 7 (some 5) ?_
 refine done_ (by kernel_rfl) ?_
 clear hHeld
 go_wp2
 refine sP (n := 17) (S := fun w' => w'.cell? ⟨g, 0, none⟩ = some (.pointer (some ⟨gs, 0, none⟩)) ∧ w'.cell? ⟨g, 1, none⟩ = some (.pointer (some ⟨gr, 0, none⟩)) ∧ w'.cell? ⟨g, 2, none⟩ = some (.int .i64 E) ∧ w'.cell? ⟨g, 3, none⟩ = some (.int .i64 Wn) ∧ w'.cell? ⟨g, 4, none⟩ = some (.int .i64 Rm) ∧ w'.cell? ⟨g, 5, none⟩ = some (.bool Pv) ∧ w'.cell? ⟨gf, 0, none⟩ = some (.int .i64 E) ∧ w'.cell? ⟨gf, 1, none⟩ = some (.int .i64 fq) ∧ w'.cell? ⟨gf, 2, none⟩ = some (.int .i64 fa) ∧ w'.cell? ⟨gf, 3, none⟩ = some (.string fd)) (ds := []) ⟨a0a, a0b, a0c, a0d, a0e, a0f, a3a, a3b, a3c, a3d⟩ (fun hHeld => ?_)
 obtain ⟨w3, hw_⟩ : ∃ W, W = w2.drew := ⟨_, rfl⟩
 have o_ := O2.out.drew
 have k_ : KeepS N w2 w2.drew := KeepS.drew
 rw [← hw_] at o_ k_ hHeld ⊢
 clear hw_
 have O3 := Aside0.mk o_
 have K3 := Aside0.mk (K2.out.trans k_)
 clear a0a a0b a0c a0d a0e a0f b0 a3a a3b a3c a3d b3 O2 K2
 obtain ⟨a0a, a0b, a0c, a0d, a0e, a0f, b0⟩ := blk6_ (O3.out.blk (i := 0) rfl)
 obtain ⟨a3a, a3b, a3c, a3d, b3⟩ := blk4_ (O3.out.blk (i := 3) rfl)
 clear o_ k_
 refine pP 0 (some 13) ?_
 refine pP 2 (some 15) ?_
 refine pP 3 (some 16) ?_
 refine pP 4 (some 17) ?_
 refine tP 1 (some 14) hHeld ?_
 refine tP 5 (some 18) hHeld ?_
 refine pP 6 (some 19) ?_
 refine pP 7 (some 20) ?_
 refine pP 8 (some 21) ?_
 refine pP 9 (some 22) ?_
 refine pS 10 (some 23) ?_
 refine pS 11 (some 24) ?_
 refine pS 12 (some 25) ?_
 refine tS 13 (some 26) hHeld ?_
 refine pS 14 (some 27) ?_
 refine pP 15 (some 28) ?_
 refine pP 16 (some 29) ?_
 refine done_ (by kernel_rfl) ?_
 clear hHeld
 go_wp2
 refine sP (n := 8) (S := fun w' => w'.cell? ⟨g, 0, none⟩ = some (.pointer (some ⟨gs, 0, none⟩)) ∧ w'.cell? ⟨g, 1, none⟩ = some (.pointer (some ⟨gr, 0, none⟩)) ∧ w'.cell? ⟨g, 2, none⟩ = some (.int .i64 E) ∧ w'.cell? ⟨g, 3, none⟩ = some (.int .i64 Wn) ∧ w'.cell? ⟨g, 4, none⟩ = some (.int .i64 Rm) ∧ w'.cell? ⟨g, 5, none⟩ = some (.bool Pv) ∧ w'.cell? ⟨gf, 0, none⟩ = some (.int .i64 E) ∧ w'.cell? ⟨gf, 1, none⟩ = some (.int .i64 fq) ∧ w'.cell? ⟨gf, 2, none⟩ = some (.int .i64 fa) ∧ w'.cell? ⟨gf, 3, none⟩ = some (.string fd)) (ds := []) ⟨a0a, a0b, a0c, a0d, a0e, a0f, a3a, a3b, a3c, a3d⟩ (fun hHeld => ?_)
 obtain ⟨w4, hw_⟩ : ∃ W, W = w3.drew := ⟨_, rfl⟩
 have o_ := O3.out.drew
 have k_ : KeepS N w3 w3.drew := KeepS.drew
 rw [← hw_] at o_ k_ hHeld ⊢
 clear hw_
 have O4 := Aside0.mk o_
 have K4 := Aside0.mk (K3.out.trans k_)
 clear a0a a0b a0c a0d a0e a0f b0 a3a a3b a3c a3d b3 O3 K3
 obtain ⟨a0a, a0b, a0c, a0d, a0e, a0f, b0⟩ := blk6_ (O4.out.blk (i := 0) rfl)
 obtain ⟨a3a, a3b, a3c, a3d, b3⟩ := blk4_ (O4.out.blk (i := 3) rfl)
 clear o_ k_
 refine pP 0 (some 35) ?_
 refine pP 1 (some 36) ?_
 refine pP 2 (some 37) ?_
 refine pP 3 (some 38) ?_
 refine pP 5 (some 40) ?_
 refine tP 4 (some 39) hHeld ?_
 refine tP 6 (some 41) hHeld ?_
 refine oP 7 (some 42) (fun K_ hK_ => ?_)
 refine hP Tryd.func40 #[.pointer (some ⟨gs, 0, none⟩), .int .i64 fa] ?_
 obtain ⟨N_, on_, nn_, rr_, bb_⟩ := O4.out.frame1 (i := 2) rfl
 refine (SAck_a fa on_ HL.out).mono ?_
 rintro e_ w5 ⟨rfl, oo_, kk_⟩
 obtain ⟨o_, k_⟩ := bb_ _ _ _ kk_ oo_
 refine ⟨_, rfl, ?_⟩
 have O5 : Aside0 (Own N w5 [cells g #[.pointer (some ⟨gs, 0, none⟩), .pointer (some ⟨gr, 0, none⟩), .int .i64 E, .int .i64 Wn, .int .i64 Rm, .bool Pv] 75, RecvO gr room acked n, SendO gs W La S (ackX S fa xs), cells gf #[.int .i64 E, .int .i64 fq, .int .i64 fa, .string fd] 40]) := ⟨o_⟩
 have K5 := Aside0.mk (K4.out.trans k_)
 clear a0a a0b a0c a0d a0e a0f b0 a3a a3b a3c a3d b3 O4 K4
 obtain ⟨a0a, a0b, a0c, a0d, a0e, a0f, b0⟩ := blk6_ (O5.out.blk (i := 0) rfl)
 obtain ⟨a3a, a3b, a3c, a3d, b3⟩ := blk4_ (O5.out.blk (i := 3) rfl)
 clear o_ k_ oo_ kk_ on_ nn_ rr_ bb_
 clear hHeld
 refine hK_.out _ _ ⟨a0a, a0b, a0c, a0d, a0e, a0f, a3a, a3b, a3c, a3d⟩ (fun hHeld => ?_)
 clear hK_ K_
 refine nP ?_
 refine done_ (by kernel_rfl) ?_
 clear hHeld
 go_wp2
 refine sP (n := 10) (S := fun w' => w'.cell? ⟨g, 0, none⟩ = some (.pointer (some ⟨gs, 0, none⟩)) ∧ w'.cell? ⟨g, 1, none⟩ = some (.pointer (some ⟨gr, 0, none⟩)) ∧ w'.cell? ⟨g, 2, none⟩ = some (.int .i64 E) ∧ w'.cell? ⟨g, 3, none⟩ = some (.int .i64 Wn) ∧ w'.cell? ⟨g, 4, none⟩ = some (.int .i64 Rm) ∧ w'.cell? ⟨g, 5, none⟩ = some (.bool Pv) ∧ w'.cell? ⟨gf, 0, none⟩ = some (.int .i64 E) ∧ w'.cell? ⟨gf, 1, none⟩ = some (.int .i64 fq) ∧ w'.cell? ⟨gf, 2, none⟩ = some (.int .i64 fa) ∧ w'.cell? ⟨gf, 3, none⟩ = some (.string fd)) (ds := []) ⟨a0a, a0b, a0c, a0d, a0e, a0f, a3a, a3b, a3c, a3d⟩ (fun hHeld => ?_)
 obtain ⟨w6, hw_⟩ : ∃ W, W = w5.drew := ⟨_, rfl⟩
 have o_ := O5.out.drew
 have k_ : KeepS N w5 w5.drew := KeepS.drew
 rw [← hw_] at o_ k_ hHeld ⊢
 clear hw_
 have O6 := Aside0.mk o_
 have K6 := Aside0.mk (K5.out.trans k_)
 clear a0a a0b a0c a0d a0e a0f b0 a3a a3b a3c a3d b3 O5 K5
 obtain ⟨a0a, a0b, a0c, a0d, a0e, a0f, b0⟩ := blk6_ (O6.out.blk (i := 0) rfl)
 obtain ⟨a3a, a3b, a3c, a3d, b3⟩ := blk4_ (O6.out.blk (i := 3) rfl)
 clear o_ k_
 refine pP 0 (some 46) ?_
 refine pP 1 (some 47) ?_
 refine pP 2 (some 48) ?_
 refine pP 3 (some 49) ?_
 refine pP 5 (some 51) ?_
 refine pP 7 (some 53) ?_
 refine tP 4 (some 50) hHeld ?_
 refine tP 6 (some 52) hHeld ?_
 refine tP 8 (some 54) hHeld ?_
 refine oP 9 (some 55) (fun K_ hK_ => ?_)
 refine hP Tryd.func41 #[.pointer (some ⟨gr, 0, none⟩), .int .i64 fq, .string fd] ?_
 obtain ⟨N_, on_, nn_, rr_, bb_⟩ := O6.out.frame1 (i := 1) rfl
 refine (RecvHear_a fq fd on_ HA.out HN.out).mono ?_
 rintro e_ w7 ⟨rfl, oo_, kk_⟩
 obtain ⟨o_, k_⟩ := bb_ _ _ _ kk_ oo_
 refine ⟨_, rfl, ?_⟩
 have O7 : Aside0 (Own N w7 [cells g #[.pointer (some ⟨gs, 0, none⟩), .pointer (some ⟨gr, 0, none⟩), .int .i64 E, .int .i64 Wn, .int .i64 Rm, .bool Pv] 75, RecvO gr room (hearA room acked n fq) (hearN room acked n fq), SendO gs W La S (ackX S fa xs), cells gf #[.int .i64 E, .int .i64 fq, .int .i64 fa, .string fd] 40]) := ⟨o_⟩
 have K7 := Aside0.mk (K6.out.trans k_)
 clear a0a a0b a0c a0d a0e a0f b0 a3a a3b a3c a3d b3 O6 K6
 obtain ⟨a0a, a0b, a0c, a0d, a0e, a0f, b0⟩ := blk6_ (O7.out.blk (i := 0) rfl)
 obtain ⟨a3a, a3b, a3c, a3d, b3⟩ := blk4_ (O7.out.blk (i := 3) rfl)
 clear o_ k_ oo_ kk_ on_ nn_ rr_ bb_
 clear hHeld
 refine hK_.out _ _ ⟨a0a, a0b, a0c, a0d, a0e, a0f, a3a, a3b, a3c, a3d⟩ (fun hHeld => ?_)
 clear hK_ K_
 refine nP ?_
 refine done_ (by kernel_rfl) ?_
 clear hHeld
 go_wp2
 go_ret
 exact ⟨rfl, LinkO.shut (O7.out.take 3), K7.out⟩
end Go.Proofs.YtjmoncfgoaaekaaDoor.J
