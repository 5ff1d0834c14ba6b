/- The law JournalLasts: what is added stays as it is, whatever is done with what was handed in, and with what is told: a plain walk through its text. -/
import Derived.Test.YtfpegjdplggkpaaYJournalLastsJ2R
import Derived.Test.YtfpegjdplggkpaaYJournalLastsJ8
namespace Go.Proofs.Ytfpegjdplggkpaa.J
set_option linter.unusedSimpArgs false
set_option linter.unusedVariables false
open Go Go.RowKit Go.Proofs.YtfpegjdplggkpaaW.PrintWords Go.Proofs.YtfpegjdplggkpaaW.PrintLast Go.Proofs.YtfpegjdplggkpaaW.PrintMore Go.Proofs.Ytfpegjdplggkpaa.Q Go.Proofs.Ytfpegjdplggkpaa.Sep Go.Proofs.Ytfpegjdplggkpaa.Pure
attribute [local go_sem] max2_int min2_int max_two min_two max_three min_three max_four min_four
def chapbooklaw13_JournalLasts.f (l0 : List (List Upd)) : Option Bool := some true
theorem blk3_ {w : World} {g : Nat} {t : TypeId} {v0 v1 v2 : Value} (h : w.heap[g]? = some (.cells #[v0, v1, v2] t (0, 0))) : w.cell? ⟨g, 0, none⟩ = some v0 ∧ w.cell? ⟨g, 1, none⟩ = some v1 ∧ w.cell? ⟨g, 2, none⟩ = some v2 ∧ ∀ i, w.frozen? ⟨g, i, none⟩ = false := ⟨(blk_cell h 0).trans rfl, (blk_cell h 1).trans rfl, (blk_cell h 2).trans rfl, fun i => blk_frozen h i⟩
theorem RNew_l {N : Nat → Prop} {w : World} (h : Own N w []) :
    Calls Try.prog 9 #[.int .i64 1, .int .i64 100] w fun e w' => ∃ g, e = .returned (.pointer (some ⟨g, 0, none⟩)) ∧ Own N w' [Obj3 42 g 1 100 []] ∧ KeepS N w w' := RNew 1 100 h
theorem FromR_n {N : Nat → Prop} {w : World} {g : Nat} {o m : Int} {L : List Rnd} (h : Own N w [Obj3 52 g o m L]) (hL : L.length ≤ 1000000) (hs : Short L) (hn : Num L) :
    Calls Try.prog 18 #[.pointer (some ⟨g, 0, none⟩), .int .i64 0] w fun e_ w' => ∃ A1 c1, e_ = .returned (.slice A1 L.length c1) ∧ Own N w' [Obj3 52 g o m L, row kR Sep.TR (.slice A1 L.length c1) L] ∧ KeepS N w w' := by
  have q := FromR 0 h hL ⟨fun x a b => Nat.le_trans (hs x a b) (by decide)⟩
  rw [from_all 0 (Int.le_refl _) hn] at q
  exact q
theorem adr (g a f : Nat) : (⟨((⟨g, 0, none⟩ : Addr).add a).block, ((⟨g, 0, none⟩ : Addr).add a).off + f, none⟩ : Addr) = ⟨g, a + f, none⟩ := by by_cases h : a = 0 <;> simp [Addr.add, h]
theorem adr0 (g a : Nat) : ((⟨g, 0, none⟩ : Addr).add a) = ⟨g, a + 0, none⟩ := by by_cases h : a = 0 <;> simp [Addr.add, h]
theorem putK {N : Nat → Prop} {w : World} {l : List HP} {i n c : Nat} {A : Option Addr} {xs : List Upd} (s : ByteArray) (h : Own N w l) (hi : l[i]? = some (row kU Sep.TU (.slice A n c) xs)) (j : Int) (h0 : 0 ≤ j) (h1 : j < n) :
    ∃ ad, A = some ad ∧ (∃ z, w.cell? (ad.add (j.toNat * 4)) = some z) ∧ w.frozen? (ad.add (j.toNat * 4)) = false ∧ KeepS N w (w.setCell (ad.add (j.toNat * 4)) (.string s)) ∧ ∃ xs', xs'.length = xs.length ∧ Own N (w.setCell (ad.add (j.toNat * 4)) (.string s)) (l.set i (row kU Sep.TU (.slice A n c) xs')) := by
  obtain ⟨g, rfl, hz, hf, hk, hr⟩ := Own.fput looseU (puts_key s) (by decide) h hi j h0 h1
  refine ⟨⟨g, 0, none⟩, rfl, ?_⟩
  rw [adr0]
  exact ⟨hz, hf, hk, hr⟩
theorem at_W {N : Nat → Prop} {w : World} {l : List HP} {i n c : Nat} {A : Option Addr} {L : List Rnd} (h : Own N w l) (hi : l[i]? = some (row kR Sep.TR (.slice A n c) L)) (p : Int) (p0 : 0 ≤ p) (p1 : p < n) : ∃ (ad : Addr) (A2 : Option Addr) (c2 : Nat), A = some ad ∧ w.cell? (ad.add (p.toNat * 3)) = some (.int .i64 (rd_T32 L p).f0) ∧ w.cell? ⟨(ad.add (p.toNat * 3)).block, (ad.add (p.toNat * 3)).off + 1, none⟩ = some (.int .i64 (rd_T32 L p).f1) ∧ w.cell? ⟨(ad.add (p.toNat * 3)).block, (ad.add (p.toNat * 3)).off + 2, none⟩ = some (.slice A2 (rd_T32 L p).f2.length c2) := by
  obtain ⟨h1, h2, h3⟩ := h.rreads hi
  obtain ⟨ad, c', e, _, hK, hc0⟩ := Kd.C_get h3 z32 p p0 p1
  have hc : ∀ j u, c'[j]? = some u → w.cell? (ad.add (p.toNat * 3 + j)) = some u := hc0
  obtain ⟨A2, c2, rfl, _, _⟩ := k32_open hK
  exact ⟨ad, A2, c2, e, hc 0 _ rfl, by rw [← add_field _ _ 1 (by omega)]; exact hc 1 _ rfl, by rw [← add_field _ _ 2 (by omega)]; exact hc 2 _ rfl⟩
theorem putN {N : Nat → Prop} {w : World} {l : List HP} {i n c m c2 : Nat} {ad : Addr} {A2 : Option Addr} {L : List Rnd} (v : Int) (h : Own N w l) (hi : l[i]? = some (row kR Sep.TR (.slice (some ad) n c) L)) (p j : Int) (p0 : 0 ≤ p) (p1 : p < n) (h0 : 0 ≤ j) (h1 : j < m)
    (hcell : w.cell? ⟨(ad.add (p.toNat * 3)).block, (ad.add (p.toNat * 3)).off + 2, none⟩ = some (.slice A2 m c2)) :
    ∃ a2, A2 = some a2 ∧ (∃ z, w.cell? ⟨(a2.add (j.toNat * 4)).block, (a2.add (j.toNat * 4)).off + 2, none⟩ = some z) ∧ w.frozen? ⟨(a2.add (j.toNat * 4)).block, (a2.add (j.toNat * 4)).off + 2, none⟩ = false ∧ KeepS N w (w.setCell ⟨(a2.add (j.toNat * 4)).block, (a2.add (j.toNat * 4)).off + 2, none⟩ (.int .i64 v)) ∧
      (w.setCell ⟨(a2.add (j.toNat * 4)).block, (a2.add (j.toNat * 4)).off + 2, none⟩ (.int .i64 v)).cell? ⟨(ad.add (p.toNat * 3)).block, (ad.add (p.toNat * 3)).off + 2, none⟩ = some (.slice A2 m c2) ∧
      ∃ L', L'.length = L.length ∧ Own N (w.setCell ⟨(a2.add (j.toNat * 4)).block, (a2.add (j.toNat * 4)).off + 2, none⟩ (.int .i64 v)) (l.set i (row kR Sep.TR (.slice (some ad) n c) L')) := by
  obtain ⟨F, hF⟩ := h.fact hi
  obtain ⟨ga, hga⟩ := R_some (show Kd.R kR Sep.TR w 0 F (.slice (some ad) n c) L from hF) (by omega)
  injection hga with hga
  subst hga
  rw [adr] at hcell ⊢
  obtain ⟨g, rfl, hz, hf, hk, hc, hr⟩ := Own.gput (puts_n v) (by decide) h hi p j p0 p1 h0 h1 rfl hcell
  refine ⟨⟨g, 0, none⟩, rfl, ?_⟩
  rw [adr]
  exact ⟨hz, hf, hk, hc, hr⟩
def cellIs (p : Addr) (v : Value) : HP where
  P := fun F w => F p.block ∧ w.cell? p = some v
  move := fun h _ hk => ⟨h.1, (World.cell?_of_block (hk _ h.1 (World.block_lt_of_cell? _ _ h.2))).trans h.2⟩
  mono := fun h hf => ⟨hf _ h.1, h.2⟩
  bound := fun h => ⟨⟨h.1, World.block_lt_of_cell? _ _ h.2⟩, h.2⟩
theorem mark {N : Nat → Prop} {w : World} {l : List HP} {i n c : Nat} {ad : Addr} {v : Value} {L : List Rnd} (h : Own N w l) (hi : l[i]? = some (row kR Sep.TR (.slice (some ad) n c) L)) (p : Int) (p0 : 0 ≤ p) (p1 : p < n) (hc : w.cell? ⟨(ad.add (p.toNat * 3)).block, (ad.add (p.toNat * 3)).off + 2, none⟩ = some v) :
    Own N w (l.set i (both (row kR Sep.TR (.slice (some ad) n c) L) (cellIs ⟨(ad.add (p.toNat * 3)).block, (ad.add (p.toNat * 3)).off + 2, none⟩ v))) :=
  h.conv hi _ (fun F hp _ => ⟨hp, by
    obtain ⟨ga, hga⟩ := R_some (show Kd.R kR Sep.TR w 0 F (.slice (some ad) n c) L from hp) (by omega)
    injection hga with hga
    subst hga
    obtain ⟨_, _, hF, _⟩ := R_at (show Kd.R kR Sep.TR w 0 F (.slice (some ⟨ga, 0, none⟩) n c) L from hp)
    show F ((⟨ga, 0, none⟩ : Addr).add (p.toNat * 3)).block
    rw [add_block]
    exact hF, hc⟩)
theorem unmark {N : Nat → Prop} {w : World} {l : List HP} {i : Nat} {P X : HP} (h : Own N w l) (hi : l[i]? = some (both P X)) : Own N w (l.set i P) := h.conv hi _ (fun F hp _ => hp.1)
theorem putN2 {N : Nat → Prop} {w : World} {l : List HP} {i n c m c2 : Nat} {ad : Addr} {A2 : Option Addr} {L : List Rnd} (v : Int) (p j : Int) (h : Own N w l) (hi : l[i]? = some (both (row kR Sep.TR (.slice (some ad) n c) L) (cellIs ⟨(ad.add (p.toNat * 3)).block, (ad.add (p.toNat * 3)).off + 2, none⟩ (.slice A2 m c2)))) (p0 : 0 ≤ p) (p1 : p < n) (h0 : 0 ≤ j) (h1 : j < m) :
    ∃ a2, A2 = some a2 ∧ (∃ z, w.cell? ⟨(a2.add (j.toNat * 4)).block, (a2.add (j.toNat * 4)).off + 2, none⟩ = some z) ∧ w.frozen? ⟨(a2.add (j.toNat * 4)).block, (a2.add (j.toNat * 4)).off + 2, none⟩ = false ∧ KeepS N w (w.setCell ⟨(a2.add (j.toNat * 4)).block, (a2.add (j.toNat * 4)).off + 2, none⟩ (.int .i64 v)) ∧
      ∃ L', L'.length = L.length ∧ Own N (w.setCell ⟨(a2.add (j.toNat * 4)).block, (a2.add (j.toNat * 4)).off + 2, none⟩ (.int .i64 v)) (l.set i (both (row kR Sep.TR (.slice (some ad) n c) L') (cellIs ⟨(ad.add (p.toNat * 3)).block, (ad.add (p.toNat * 3)).off + 2, none⟩ (.slice A2 m c2)))) := by
  obtain ⟨F, hF⟩ := h.fact hi
  have hlt : i < l.length := (List.getElem?_eq_some_iff.1 hi).1
  obtain ⟨a2, e, hz, hf, hk, hc, L', hl, ho⟩ := putN v (unmark h hi) (List.getElem?_set_self hlt) p j p0 p1 h0 h1 hF.2.2
  rw [List.set_set] at ho
  have hm := mark ho (List.getElem?_set_self hlt) p p0 p1 hc
  rw [List.set_set] at hm
  exact ⟨a2, e, hz, hf, hk, L', hl, hm⟩
theorem row_max {N : Nat → Prop} {w : World} {l : List HP} {i n c : Nat} {A : Option Addr} {L : List Rnd} (h : Own N w l) (hi : l[i]? = some (row kR Sep.TR (.slice A n c) L)) (p : Int) (p0 : 0 ≤ p) (p1 : p < n) : (rd_T32 L p).f2.length ≤ 9223372036854775807 := by
  obtain ⟨F, hF⟩ := h.fact hi
  have hn := (h.rreads hi).1
  obtain ⟨_, inner, ho, hr⟩ := (show Kd.R kR Sep.TR w 0 F (.slice A n c) L from hF)
  have hpl : p.toNat < L.length := by omega
  obtain ⟨c0, c1, e1, e2, c3, c4, e3, e4, v2, e5, hR⟩ := hr.2 p.toNat _ (List.getElem?_eq_getElem hpl)
  have e6 : rd_T32 L p = L[p.toNat] := by
    unfold rd_T32
    rw [List.getD_eq_getElem?_getD, List.getElem?_eq_getElem hpl]
    rfl
  rw [e6]
  obtain ⟨_, inner2, ho2, _⟩ := (show Kd.R kU Sep.TU w 0 _ v2 L[p.toNat].f2 from hR)
  rcases ho2.2 with ⟨_, h2⟩ | ⟨_, cap, _, _, _, _, h2, h3, _⟩
  · rw [h2]; exact Nat.zero_le _
  · exact Nat.le_trans h2 h3
def LsI (N : Nat → Prop) (w : World) (l0 : List (List Upd)) (gj gm : Nat) (i : Value) (wr : World) : Prop := ∃ (x : Int) (L : List Rnd), 0 ≤ x ∧ x ≤ (l0.length : Int) ∧ i = .int .i64 x ∧ Aside0 ((L.length : Int) ≤ x ∧ L.length ≤ 100 ∧ Short L ∧ Num L) ∧ Aside0 (Own N wr [Obj3 52 gj 1 100 L, Obj3 42 gm 1 100 L]) ∧ Aside0 (KeepS N w wr)
def LsU (N : Nat → Prop) (w : World) (gj gm : Nat) (L : List Rnd) (A : Option Addr) (n c : Nat) (R : List HP) (i : Value) (wr : World) : Prop := ∃ (y : Int) (us : List Upd), 0 ≤ y ∧ y ≤ (n : Int) ∧ i = .int .i64 y ∧ Aside0 (us.length = n) ∧ Aside0 (Own N wr ([Obj3 52 gj 1 100 L, Obj3 42 gm 1 100 L, row kU Sep.TU (.slice A n c) us] ++ R)) ∧ Aside0 (KeepS N w wr)
def LsR (N : Nat → Prop) (w : World) (gj gm : Nat) (L : List Rnd) (A : Option Addr) (c : Nat) (i : Value) (wr : World) : Prop := ∃ (y : Int) (L2 : List Rnd), 0 ≤ y ∧ y ≤ (L.length : Int) ∧ i = .int .i64 y ∧ Aside0 (L2.length = L.length) ∧ Aside0 (Own N wr [Obj3 52 gj 1 100 L, Obj3 42 gm 1 100 L, row kR Sep.TR (.slice A L.length c) L2]) ∧ Aside0 (KeepS N w wr)
def LsQ (N : Nat → Prop) (w : World) (gj gm gq : Nat) (L : List Rnd) (ad : Addr) (c : Nat) (y q0 q1 : Int) (A2 : Option Addr) (m c2 : Nat) (i : Value) (wr : World) : Prop := ∃ (z : Int) (L2 : List Rnd), 0 ≤ z ∧ z ≤ (m : Int) ∧ i = .int .i64 z ∧ Aside0 (L2.length = L.length) ∧ Aside0 (Own N wr [Obj3 52 gj 1 100 L, Obj3 42 gm 1 100 L, both (row kR Sep.TR (.slice (some ad) L.length c) L2) (cellIs ⟨(ad.add (y.toNat * 3)).block, (ad.add (y.toNat * 3)).off + 2, none⟩ (.slice A2 m c2)), cells gq #[.int .i64 q0, .int .i64 q1, .slice A2 m c2] 32]) ∧ Aside0 (KeepS N w wr)
set_option maxHeartbeats 16000000 in
set_option maxRecDepth 100000 in
theorem chapbooklaw13_JournalLasts.calls (A0 : Option Addr) (c0 : Nat) (l0 : List (List Upd)) (r : Bool) (w : World) (hr0 : Kd.C (Kd.slice 50 k50) w A0 l0.length l0) (hc0 : l0.length ≤ c0) (h : chapbooklaw13_JournalLasts.f l0 = some r) :
    Calls Try.prog 5 #[.slice A0 l0.length c0] w fun e_ w' => e_ = .returned (.bool r) ∧ Below w.heap.size w w' := by
  obtain rfl : true = r := Option.some.inj h
  obtain ⟨N, hN⟩ : ∃ N : Nat → Prop, N = fun k => k < w.heap.size := ⟨_, rfl⟩
  have HN := Aside0.mk hN
  have HRL0 : Aside0 (Kd.F (Kd.slice 50 k50) w N A0 l0.length l0) := ⟨by rw [hN]; exact Kd.C_F (Kd.heap_slice _ heapU) hr0⟩
  have HR0 := Aside0.mk hr0
  have HC0 := Aside0.mk hc0
  have O0 : Aside0 (Own N w []) := ⟨Own.start_ (fun k hk => by rw [hN] at hk; exact hk)⟩
  have K0 : Aside0 (KeepS N w w) := ⟨KeepS.refl _ _⟩
  clear hN hr0 hc0
  obtain ⟨b, hgr, hgb⟩ := great13_ok l0
  have HGR := Aside0.mk hgr
  have HGB := Aside0.mk hgb
  clear hgr hgb h
  cases b with
  | true =>
    go_enter Try.func5, Try.ntmps5
    go_wp2_with (first | ((with_reducible refine gate_callee (f := 8) rfl ?_); refine goesL_ (some 15) rfl rfl Try.func8 (by kernel_rfl) rfl #[.int .i64 1, .int .i64 100] rfl (by (try simp only [List.map_toArray, List.map_cons, List.map_nil]); first | done | rfl) ?_; obtain ⟨N_, on_, nn_, rr_, bb_⟩ := O0.out.frame0; refine (New_lit 1 100 100 on_ rfl).mono ?_; rintro e_ w1 ⟨gj, rfl, oo_, kk_⟩; obtain ⟨o_, k_⟩ := bb_ _ _ kk_ oo_; refine ⟨_, rfl, ?_⟩; have O1 : Aside0 (Own N w1 [Obj3 52 gj 1 100 []]) := ⟨o_⟩; have K1 : Aside0 (KeepS N w w1) := ⟨K0.out.trans k_⟩; clear O0 K0; clear o_ k_ oo_ kk_ on_ nn_ rr_ bb_) | ((with_reducible refine gate_callee (f := 9) rfl ?_); refine goesL_ (some 16) rfl rfl Try.func9 (by kernel_rfl) rfl #[.int .i64 1, .int .i64 100] rfl (by (try simp only [List.map_toArray, List.map_cons, List.map_nil]); first | done | rfl) ?_; obtain ⟨N_, on_, nn_, rr_, bb_⟩ := O1.out.frame0; refine (RNew_l on_).mono ?_; rintro e_ w2 ⟨gm, rfl, oo_, kk_⟩; obtain ⟨o_, k_⟩ := bb_ _ _ kk_ oo_; refine ⟨_, rfl, ?_⟩; have O2 : Aside0 (Own N w2 [Obj3 52 gj 1 100 [], Obj3 42 gm 1 100 []]) := ⟨o_⟩; have K2 : Aside0 (KeepS N w w2) := ⟨K1.out.trans k_⟩; clear O1 K1; clear o_ k_ oo_ kk_ on_ nn_ rr_ bb_) | ((with_reducible refine gate_callee (f := 10) rfl ?_); refine goesL_ (some 17) rfl rfl Try.func10 (by kernel_rfl) rfl #[] rfl (by (try simp only [List.map_toArray, List.map_cons, List.map_nil]); first | done | rfl) ?_; refine (awake _).mono ?_; rintro e_ w3 ⟨rfl, hb_⟩; refine ⟨_, rfl, ?_⟩; have o_ := O2.out.below hb_; have k_ := KeepS.of_below (N := N) hb_; have O3 : Aside0 (Own N w3 [Obj3 52 gj 1 100 [], Obj3 42 gm 1 100 []]) := ⟨o_⟩; have K3 : Aside0 (KeepS N w w3) := ⟨K2.out.trans k_⟩; clear O2 K2; clear o_ k_ hb_) | ((with_reducible refine gate_callee (f := 11) rfl ?_); refine gate_guard (by rfl) ?_; refine goesL_ (some 25) rfl rfl Try.func11 (by kernel_rfl) rfl #[.slice A0 l0.length c0] rfl (by (try simp only [List.map_toArray, List.map_cons, List.map_nil]); first | done | rfl) ?_; refine (chapbooklaw13_great.calls 300 _ _ l0 true _ (Kd.C_below HR0.out (K3.out.below (Nat.le_refl _) (fun k hk => by rw [HN.out]; exact hk))) HC0.out HGR.out).mono ?_; rintro e_ w4 ⟨rfl, hb_⟩; refine ⟨_, rfl, ?_⟩; have o_ := O3.out.below hb_; have k_ := KeepS.of_below (N := N) hb_; have O4 : Aside0 (Own N w4 [Obj3 52 gj 1 100 [], Obj3 42 gm 1 100 []]) := ⟨o_⟩; have K4 : Aside0 (KeepS N w w4) := ⟨K3.out.trans k_⟩; clear O3 K3; clear o_ k_ hb_) | ((with_reducible refine gate_callee (f := 10) rfl ?_); refine goesL_ (some 27) rfl rfl Try.func10 (by kernel_rfl) rfl #[] rfl (by (try simp only [List.map_toArray, List.map_cons, List.map_nil]); first | done | rfl) ?_; refine (awake _).mono ?_; rintro e_ w5 ⟨rfl, hb_⟩; refine ⟨_, rfl, ?_⟩; have o_ := O4.out.below hb_; have k_ := KeepS.of_below (N := N) hb_; have O5 : Aside0 (Own N w5 [Obj3 52 gj 1 100 [], Obj3 42 gm 1 100 []]) := ⟨o_⟩; have K5 : Aside0 (KeepS N w w5) := ⟨K4.out.trans k_⟩; clear O4 K4; clear o_ k_ hb_))
    go_ret
    exact ⟨rfl, K5.out.below (Nat.le_refl _) (fun k hk => by rw [HN.out]; exact hk)⟩
  | false =>
    obtain ⟨hl30, hl12⟩ := HGB.out rfl
    have HL30 := Aside0.mk hl30
    have HL12 := Aside0.mk hl12
    clear hl30 hl12 HGB
    go_enter Try.func5, Try.ntmps5
    go_wp2_with (first | ((with_reducible refine gate_callee (f := 8) rfl ?_); refine goesL_ (some 15) rfl rfl Try.func8 (by kernel_rfl) rfl #[.int .i64 1, .int .i64 100] rfl (by (try simp only [List.map_toArray, List.map_cons, List.map_nil]); first | done | rfl) ?_; obtain ⟨N_, on_, nn_, rr_, bb_⟩ := O0.out.frame0; refine (New_lit 1 100 100 on_ rfl).mono ?_; rintro e_ w1 ⟨gj, rfl, oo_, kk_⟩; obtain ⟨o_, k_⟩ := bb_ _ _ kk_ oo_; refine ⟨_, rfl, ?_⟩; have O1 : Aside0 (Own N w1 [Obj3 52 gj 1 100 []]) := ⟨o_⟩; have K1 : Aside0 (KeepS N w w1) := ⟨K0.out.trans k_⟩; clear O0 K0; clear o_ k_ oo_ kk_ on_ nn_ rr_ bb_) | ((with_reducible refine gate_callee (f := 9) rfl ?_); refine goesL_ (some 16) rfl rfl Try.func9 (by kernel_rfl) rfl #[.int .i64 1, .int .i64 100] rfl (by (try simp only [List.map_toArray, List.map_cons, List.map_nil]); first | done | rfl) ?_; obtain ⟨N_, on_, nn_, rr_, bb_⟩ := O1.out.frame0; refine (RNew_l on_).mono ?_; rintro e_ w2 ⟨gm, rfl, oo_, kk_⟩; obtain ⟨o_, k_⟩ := bb_ _ _ kk_ oo_; refine ⟨_, rfl, ?_⟩; have O2 : Aside0 (Own N w2 [Obj3 52 gj 1 100 [], Obj3 42 gm 1 100 []]) := ⟨o_⟩; have K2 : Aside0 (KeepS N w w2) := ⟨K1.out.trans k_⟩; clear O1 K1; clear o_ k_ oo_ kk_ on_ nn_ rr_ bb_) | ((with_reducible refine gate_callee (f := 10) rfl ?_); refine goesL_ (some 17) rfl rfl Try.func10 (by kernel_rfl) rfl #[] rfl (by (try simp only [List.map_toArray, List.map_cons, List.map_nil]); first | done | rfl) ?_; refine (awake _).mono ?_; rintro e_ w3 ⟨rfl, hb_⟩; refine ⟨_, rfl, ?_⟩; have o_ := O2.out.below hb_; have k_ := KeepS.of_below (N := N) hb_; have O3 : Aside0 (Own N w3 [Obj3 52 gj 1 100 [], Obj3 42 gm 1 100 []]) := ⟨o_⟩; have K3 : Aside0 (KeepS N w w3) := ⟨K2.out.trans k_⟩; clear O2 K2; clear o_ k_ hb_) | ((with_reducible refine gate_callee (f := 11) rfl ?_); refine gate_guard (by rfl) ?_; refine goesL_ (some 25) rfl rfl Try.func11 (by kernel_rfl) rfl #[.slice A0 l0.length c0] rfl (by (try simp only [List.map_toArray, List.map_cons, List.map_nil]); first | done | rfl) ?_; refine (chapbooklaw13_great.calls 300 _ _ l0 false _ (Kd.C_below HR0.out (K3.out.below (Nat.le_refl _) (fun k hk => by rw [HN.out]; exact hk))) HC0.out HGR.out).mono ?_; rintro e_ w4 ⟨rfl, hb_⟩; refine ⟨_, rfl, ?_⟩; have o_ := O3.out.below hb_; have k_ := KeepS.of_below (N := N) hb_; have O4 : Aside0 (Own N w4 [Obj3 52 gj 1 100 [], Obj3 42 gm 1 100 []]) := ⟨o_⟩; have K4 : Aside0 (KeepS N w w4) := ⟨K3.out.trans k_⟩; clear O3 K3; clear o_ k_ hb_))
    go_loopw [30] (fun i wr => LsI N w l0 gj gm i wr) (fun i _ => l0.length - (intOf i).toNat)
    case atStart => exact ⟨0, [], by omega, by omega, rfl, ⟨by decide, by decide, short_nil, num_nil⟩, ⟨O4.out.pick2 (a := 0) (b := 1) rfl rfl (by decide)⟩, K4⟩
    case round =>
      skip
      obtain ⟨x, L, hx0, hx1, rfl, HI, OA, KA⟩ := hrel
      have hF2 := keepF HRL0.out KA.out
      have hLx := HL30.out
      have HLL : Aside0 (L.length ≤ 1000000) := ⟨by have := HI.out.1; omega⟩
      by_cases hlt : x < (l0.length : Int)
      · obtain ⟨ad, A3, c3, e3, x0, hl3, hF3⟩ := at_FL hF2 x hx0 hlt
        cases e3
        have HC3 := Aside0.mk hl3
        have HF3 := Aside0.mk hF3
        have hs2 : wrap64 (x + 1) = x + 1 := by unfold wrap64; omega
        have hp := eq_true hx0
        have hq := eq_true hlt
        have hd : decide (x < (l0.length : Int)) = true := decide_eq_true hlt
        have HX := Aside0.mk (And.intro hx0 hlt)
        have HU : Aside0 ((rd_L3 l0 x).length ≤ 1000000) := ⟨Nat.le_trans (HL12.out x hx0 hlt) (by decide)⟩
        clear hF3 hF2 hl3 hLx
        have O5 : Aside0 (Own N wr [Obj3 52 gj 1 100 L, Obj3 42 gm 1 100 L]) := ⟨OA.out⟩
        have K5 : Aside0 (KeepS N w wr) := ⟨KA.out⟩
        have HRI_5 : Aside0 (Kd.F k50 wr N A3 (rd_L3 l0 x).length (rd_L3 l0 x)) := ⟨HF3.out⟩
        clear OA KA HF3
        by_cases he : addE 1 100 L (rd_L3 l0 x) = 0
        · have HE := Aside0.mk he
          have HLM : Aside0 (L.length + 1 ≤ 100) := ⟨by have := addE_lt HE.out (by have := HI.out.2.1; omega : (L.length : Int) ≤ 100); omega⟩
          clear he hlt hx0 hx1
          go_wp2_with (first | ((with_reducible refine gate_dst (N := 34) rfl ?_); refine own_lit k50 (N := N) (e := 50) (xs := []) (inner := []) rfl (D := 34) rfl ?hr (Reps.none _ _) (by simp) O5.out ?_; (case hr => first | (go_simp; done) | (go_simp; rfl)); intro B1 d1 w6 o_ k_; have O6 : Aside0 (Own N w6 [Obj3 52 gj 1 100 L, Obj3 42 gm 1 100 L, nrow k50 50 (.slice B1 0 d1) []]) := ⟨o_⟩; have K6 : Aside0 (KeepS N w w6) := ⟨K5.out.trans k_⟩; have HRI_6 : Aside0 (Kd.F k50 w6 N A3 (rd_L3 l0 x).length (rd_L3 l0 x)) := ⟨keepF HRI_5.out k_⟩; clear O5 K5 HRI_5; clear o_ k_) | ((with_reducible refine gate_builtin (b := .append) (xs := #[.tmp 34, .tmp 35]) rfl ?_); at_builtin; refine Own.append_flat k50 flatU O6.out (i := 2) (ys := (rd_L3 l0 x)) rfl (Kd.F_now HRI_6.out) rfl (.tmp 34) (.tmp 35) 30 (.agg #[.string ⟨#[]⟩, .int .i64 0, .int .i64 0, .string ⟨#[]⟩]) 48 rfl Try.underlying30 info50 rfl (by decide) (by decide) rfl rfl (by have := HU.out; simp only [List.length_nil]; omega) ?_; intro B2 d2 w7 o_ k_; have O7 : Aside0 (Own N w7 [Obj3 52 gj 1 100 L, Obj3 42 gm 1 100 L, nrow k50 50 (.slice B2 ((rd_L3 l0 x)).length d2) ((rd_L3 l0 x))]) := ⟨o_⟩; have K7 : Aside0 (KeepS N w w7) := ⟨K6.out.trans k_⟩; have HRI_7 : Aside0 (Kd.F k50 w7 N A3 (rd_L3 l0 x).length (rd_L3 l0 x)) := ⟨keepF HRI_6.out k_⟩; clear O6 K6 HRI_6; clear o_ k_) | ((with_reducible refine gate_callee (f := 12) rfl ?_); refine goesL_ (some 40) rfl rfl Try.func12 (by kernel_rfl) rfl #[.pointer (some ⟨gj, 0, none⟩), .slice B2 (rd_L3 l0 x).length d2] rfl (by (try simp only [List.map_toArray, List.map_cons, List.map_nil]); first | done | rfl) ?_; obtain ⟨N_, on_, nn_, rr_, bb_⟩ := O7.out.frame1 (i := 0) rfl; have hr_ := Kd.N_F (rr_ 2 _ (by decide) rfl); have hc_ := (O7.out.nreads (i := 2) rfl).2.1; refine (Add_y B2 d2 (rd_L3 l0 x) on_ hr_ hc_ HLL.out HU.out HE.out).mono ?_; rintro e_ w8 ⟨B3, d3, rfl, oo_, kk_⟩; obtain ⟨o_, k_⟩ := bb_ _ _ _ kk_ oo_; refine ⟨_, rfl, ?_⟩; have O8 : Aside0 (Own N w8 [Obj3 52 gj 1 100 (L ++ [(⟨1, (L.length : Int) + 1, (rd_L3 l0 x)⟩ : Rnd)]), Obj3 42 gm 1 100 L, nrow k50 50 (.slice B2 ((rd_L3 l0 x)).length d2) ((rd_L3 l0 x)), nrow k50 50 (.slice B3 (rd_L3 l0 x).length d3) (rd_L3 l0 x)]) := ⟨o_⟩; have K8 : Aside0 (KeepS N w w8) := ⟨K7.out.trans k_⟩; have HRI_8 : Aside0 (Kd.F k50 w8 N A3 (rd_L3 l0 x).length (rd_L3 l0 x)) := ⟨keepF HRI_7.out k_⟩; clear O7 K7 HRI_7; clear o_ k_ oo_ kk_ on_ nn_ rr_ bb_ hr_ hc_) | ((with_reducible refine gate_dst (N := 8) rfl ?_); refine own_box rfl (D := 8) rfl (cs := #[.int .i64 0, .int .i64 0, .slice none 0 0]) (t := 32) ?hr O8.out ?_; (case hr => first | (go_simp; done) | (go_simp; rfl)); intro gb w9 o_ k_; have O9 : Aside0 (Own N w9 [Obj3 52 gj 1 100 (L ++ [(⟨1, (L.length : Int) + 1, (rd_L3 l0 x)⟩ : Rnd)]), Obj3 42 gm 1 100 L, nrow k50 50 (.slice B2 ((rd_L3 l0 x)).length d2) ((rd_L3 l0 x)), nrow k50 50 (.slice B3 (rd_L3 l0 x).length d3) (rd_L3 l0 x), cells gb #[.int .i64 0, .int .i64 0, .slice none 0 0] 32]) := ⟨o_⟩; have K9 : Aside0 (KeepS N w w9) := ⟨K8.out.trans k_⟩; have HRI_9 : Aside0 (Kd.F k50 w9 N A3 (rd_L3 l0 x).length (rd_L3 l0 x)) := ⟨keepF HRI_8.out k_⟩; clear O8 K8 HRI_8; obtain ⟨a4a, a4b, a4c, b4⟩ := blk3_ (O9.out.blk (i := 4) rfl); clear o_ k_) | ((with_reducible refine gate_store (t := 32) (p := 8) rfl ?_); refine own_store rfl rfl rfl (w1 := (World.setCell (World.setCell (World.setCell w9 ⟨gb, 0, none⟩ (.int .i64 1)) ⟨gb, 1, none⟩ (.int .i64 ((L.length : Int) + 1))) ⟨gb, 2, none⟩ (.slice B3 (rd_L3 l0 x).length d3))) (N := N) (l' := [Obj3 52 gj 1 100 (L ++ [(⟨1, (L.length : Int) + 1, (rd_L3 l0 x)⟩ : Rnd)]), Obj3 42 gm 1 100 L, nrow k50 50 (.slice B2 ((rd_L3 l0 x)).length d2) ((rd_L3 l0 x)), nrow k50 50 (.slice B3 (rd_L3 l0 x).length d3) (rd_L3 l0 x), cells gb #[.int .i64 1, .int .i64 ((L.length : Int) + 1), .slice B3 (rd_L3 l0 x).length d3] 32]) ?hr ?ho ?hk ?_; (case hr => first | (go_simp; done) | (go_simp; rfl)); (case ho => exact (((O9.out.set (i := 4) rfl 0 (.int .i64 1)).set (i := 4) rfl 1 (.int .i64 ((L.length : Int) + 1))).set (i := 4) rfl 2 (.slice B3 (rd_L3 l0 x).length d3))); (case hk => exact (((KeepS.setCell (O9.out.far (i := 4) rfl) (.int .i64 1)).trans (KeepS.setCell (O9.out.far (i := 4) rfl) (.int .i64 ((L.length : Int) + 1)))).trans (KeepS.setCell (O9.out.far (i := 4) rfl) (.slice B3 (rd_L3 l0 x).length d3)))); intro w10 o_ k_; have O10 : Aside0 (Own N w10 [Obj3 52 gj 1 100 (L ++ [(⟨1, (L.length : Int) + 1, (rd_L3 l0 x)⟩ : Rnd)]), Obj3 42 gm 1 100 L, nrow k50 50 (.slice B2 ((rd_L3 l0 x)).length d2) ((rd_L3 l0 x)), nrow k50 50 (.slice B3 (rd_L3 l0 x).length d3) (rd_L3 l0 x), cells gb #[.int .i64 1, .int .i64 ((L.length : Int) + 1), .slice B3 (rd_L3 l0 x).length d3] 32]) := ⟨o_⟩; have K10 : Aside0 (KeepS N w w10) := ⟨K9.out.trans k_⟩; have HRI_10 : Aside0 (Kd.F k50 w10 N A3 (rd_L3 l0 x).length (rd_L3 l0 x)) := ⟨keepF HRI_9.out k_⟩; clear a4a a4b a4c b4 O9 K9 HRI_9; obtain ⟨a4a, a4b, a4c, b4⟩ := blk3_ (O10.out.blk (i := 4) rfl); clear o_ k_) | ((with_reducible refine gate_callee (f := 13) rfl ?_); refine goesL_ (some 45) rfl rfl Try.func13 (by kernel_rfl) rfl #[.pointer (some ⟨gm, 0, none⟩), .slice A3 (rd_L3 l0 x).length c3] rfl (by (try simp only [List.map_toArray, List.map_cons, List.map_nil]); first | done | rfl) ?_; obtain ⟨N_, on_, nn_, rr_, bb_⟩ := O10.out.frame1 (i := 1) rfl; have hr_ := Kd.F_mono HRI_10.out nn_; refine (RAdd_y A3 c3 (rd_L3 l0 x) on_ hr_ HC3.out HLL.out HU.out (by have := HI.out.2.1; omega : (L.length : Int) ≤ 100) HE.out).mono ?_; rintro e_ w11 ⟨B4, d4, B5, d5, rfl, hcc_, oo_, kk_⟩; obtain ⟨o_, k_⟩ := bb_ _ _ _ kk_ oo_; refine ⟨_, rfl, ?_⟩; have O11 : Aside0 (Own N w11 [Obj3 52 gj 1 100 (L ++ [(⟨1, (L.length : Int) + 1, (rd_L3 l0 x)⟩ : Rnd)]), cells gm #[.int .i64 1, .int .i64 100, .slice B5 (L ++ [(⟨1, (L.length : Int) + 1, (rd_L3 l0 x)⟩ : Rnd)]).length d5] 42, nrow k50 50 (.slice B2 ((rd_L3 l0 x)).length d2) ((rd_L3 l0 x)), nrow k50 50 (.slice B3 (rd_L3 l0 x).length d3) (rd_L3 l0 x), cells gb #[.int .i64 1, .int .i64 ((L.length : Int) + 1), .slice B3 (rd_L3 l0 x).length d3] 32, both (nrow k32 32 (.slice B5 (L ++ [(⟨1, (L.length : Int) + 1, (rd_L3 l0 x)⟩ : Rnd)]).length d5) (L ++ [(⟨1, (L.length : Int) + 1, (rd_L3 l0 x)⟩ : Rnd)])) (rd k50 B4 (rd_L3 l0 x).length (rd_L3 l0 x))]) := ⟨o_⟩; have K11 : Aside0 (KeepS N w w11) := ⟨K10.out.trans k_⟩; have HRI_11 : Aside0 (Kd.F k50 w11 N A3 (rd_L3 l0 x).length (rd_L3 l0 x)) := ⟨keepF HRI_10.out k_⟩; clear a4a a4b a4c b4 O10 K10 HRI_10; obtain ⟨a4a, a4b, a4c, b4⟩ := blk3_ (O11.out.blk (i := 4) rfl); clear hcc_; clear o_ k_ oo_ kk_ on_ nn_ rr_ bb_ hr_))
          have HLG : Aside0 (((L ++ [(⟨1, (L.length : Int) + 1, (rd_L3 l0 x)⟩ : Rnd)])).length ≤ 1000000 ∧ Short (L ++ [(⟨1, (L.length : Int) + 1, (rd_L3 l0 x)⟩ : Rnd)]) ∧ Num (L ++ [(⟨1, (L.length : Int) + 1, (rd_L3 l0 x)⟩ : Rnd)]) ∧ ((L ++ [(⟨1, (L.length : Int) + 1, (rd_L3 l0 x)⟩ : Rnd)])).length ≤ 100 ∧ (((L ++ [(⟨1, (L.length : Int) + 1, (rd_L3 l0 x)⟩ : Rnd)])).length : Int) ≤ x + 1) := ⟨by have := HLM.out; simp; omega, addS HI.out.2.2.1 HE.out, num_snoc _ _ HI.out.2.2.2, by have := HLM.out; simp; omega, by have := HI.out.1; simp; omega⟩
          obtain ⟨LL, hLL⟩ : ∃ LL, LL = (L ++ [(⟨1, (L.length : Int) + 1, (rd_L3 l0 x)⟩ : Rnd)]) := ⟨_, rfl⟩
          have HW : Aside0 (Own N w11 [Obj3 52 gj 1 100 LL, Obj3 42 gm 1 100 LL, row kU Sep.TU (.slice B2 (rd_L3 l0 x).length d2) (rd_L3 l0 x), row kU Sep.TU (.slice B3 (rd_L3 l0 x).length d3) (rd_L3 l0 x), cells gb #[.int .i64 1, .int .i64 ((L.length : Int) + 1), .slice B3 (rd_L3 l0 x).length d3] 32]) := ⟨by rw [hLL]; exact ((((((Obj3.shut2 (i := 1) (j := 5) O11.out rfl rfl (by decide)).conv (i := 1) rfl (Obj3 42 gm 1 100 (L ++ [(⟨1, (L.length : Int) + 1, (rd_L3 l0 x)⟩ : Rnd)])) (fun F hp _ => hp.1)).pickL [0, 1, 2, 3, 4] (by decide) (by simp)).nrow_row (d := kU) looseU (i := 2) rfl).nrow_row (d := kU) looseU (i := 3) rfl))⟩
          have HLG2 : Aside0 (LL.length ≤ 1000000 ∧ Short LL ∧ Num LL ∧ LL.length ≤ 100 ∧ (LL.length : Int) ≤ x + 1) := ⟨by rw [hLL]; exact HLG.out⟩
          clear a4a a4b a4c b4
          clear HLG hLL O11
          go_loopw [48] (fun i wr => LsU N w gj gm LL B2 (rd_L3 l0 x).length d2 [row kU Sep.TU (.slice B3 (rd_L3 l0 x).length d3) (rd_L3 l0 x), cells gb #[.int .i64 1, .int .i64 ((L.length : Int) + 1), .slice B3 (rd_L3 l0 x).length d3] 32] i wr) (fun i _ => (rd_L3 l0 x).length - (intOf i).toNat)
          case atStart => exact ⟨0, _, by omega, by omega, rfl, ⟨rfl⟩, HW, K11⟩
          case round =>
            obtain ⟨y, us, hy0, hy1, rfl, HJ, OB, KB⟩ := hrel
            have hux := HU.out
            by_cases hly : y < ((rd_L3 l0 x).length : Int)
            · obtain ⟨ad, e4, ⟨zv, hz⟩, hf, hk, us2, hu2, ho⟩ := putK (⟨#[111, 116, 104, 101, 114]⟩ : ByteArray) OB.out (i := 2) rfl y hy0 hly
              cases e4
              have hs3 : wrap64 (y + 1) = y + 1 := by unfold wrap64; omega
              have hp2 := eq_true hy0
              have hq2 := eq_true hly
              have hd2 : decide (y < ((rd_L3 l0 x).length : Int)) = true := decide_eq_true hly
              have HY := Aside0.mk (And.intro hy0 hly)
              have HO4 := Aside0.mk ho
              have HK4 := Aside0.mk hk
              have HU2 : Aside0 (us2.length = (rd_L3 l0 x).length) := ⟨hu2.trans HJ.out⟩
              clear ho hk hu2 hux hy0 hy1 hly
              have O12 : Aside0 (Own N wr [Obj3 52 gj 1 100 LL, Obj3 42 gm 1 100 LL, row kU Sep.TU (.slice (some ad) (rd_L3 l0 x).length d2) us, row kU Sep.TU (.slice B3 (rd_L3 l0 x).length d3) (rd_L3 l0 x), cells gb #[.int .i64 1, .int .i64 ((L.length : Int) + 1), .slice B3 (rd_L3 l0 x).length d3] 32]) := ⟨OB.out⟩
              have K12 : Aside0 (KeepS N w wr) := ⟨KB.out⟩
              obtain ⟨a4a, a4b, a4c, b4⟩ := blk3_ (O12.out.blk (i := 4) rfl)
              clear OB KB
              go_wp2_with (first | ((with_reducible refine gate_store (t := 9) (p := 54) rfl ?_); refine own_store rfl rfl rfl (w1 := wr.setCell (ad.add (y.toNat * 4)) (.string (⟨#[111, 116, 104, 101, 114]⟩ : ByteArray))) (N := N) (l' := [Obj3 52 gj 1 100 LL, Obj3 42 gm 1 100 LL, row kU Sep.TU (.slice (some ad) (rd_L3 l0 x).length d2) us2, row kU Sep.TU (.slice B3 (rd_L3 l0 x).length d3) (rd_L3 l0 x), cells gb #[.int .i64 1, .int .i64 ((L.length : Int) + 1), .slice B3 (rd_L3 l0 x).length d3] 32]) ?hr HO4.out HK4.out ?_; (case hr => first | (go_simp; done) | (go_simp; rfl)); intro w13 o_ k_; have O13 : Aside0 (Own N w13 [Obj3 52 gj 1 100 LL, Obj3 42 gm 1 100 LL, row kU Sep.TU (.slice (some ad) (rd_L3 l0 x).length d2) us2, row kU Sep.TU (.slice B3 (rd_L3 l0 x).length d3) (rd_L3 l0 x), cells gb #[.int .i64 1, .int .i64 ((L.length : Int) + 1), .slice B3 (rd_L3 l0 x).length d3] 32]) := ⟨o_⟩; have K13 : Aside0 (KeepS N w w13) := ⟨K12.out.trans k_⟩; clear a4a a4b a4c b4 O12 K12; obtain ⟨a4a, a4b, a4c, b4⟩ := blk3_ (O13.out.blk (i := 4) rfl); clear o_ k_))
              go_roundw
              case rel => exact ⟨y + 1, us2, by have := HY.out; omega, by have := HY.out; omega, int_eq (by unfold wrap64; have := HY.out; have := HU.out; omega), HU2, O13, K13⟩
              case measure => have := HY.out; simp [intOf]; omega
            · have hd2 : decide (y < ((rd_L3 l0 x).length : Int)) = false := decide_eq_false hly
              clear hly hy0 hy1 hux
              have O12 : Aside0 (Own N wr [Obj3 52 gj 1 100 LL, Obj3 42 gm 1 100 LL, row kU Sep.TU (.slice B2 (rd_L3 l0 x).length d2) us, row kU Sep.TU (.slice B3 (rd_L3 l0 x).length d3) (rd_L3 l0 x), cells gb #[.int .i64 1, .int .i64 ((L.length : Int) + 1), .slice B3 (rd_L3 l0 x).length d3] 32]) := ⟨OB.out⟩
              have K12 : Aside0 (KeepS N w wr) := ⟨KB.out⟩
              obtain ⟨a4a, a4b, a4c, b4⟩ := blk3_ (O12.out.blk (i := 4) rfl)
              clear OB KB
              clear HJ
              go_wp2
              have HW2 : Aside0 (Own N wr [Obj3 52 gj 1 100 LL, Obj3 42 gm 1 100 LL, row kU Sep.TU (.slice B3 (rd_L3 l0 x).length d3) (rd_L3 l0 x), cells gb #[.int .i64 1, .int .i64 ((L.length : Int) + 1), .slice B3 (rd_L3 l0 x).length d3] 32]) := ⟨O12.out.pickL [0, 1, 3, 4] (by decide) (by simp)⟩
              clear a4a a4b a4c b4 O12
              go_loopw [59] (fun i wr => LsU N w gj gm LL B3 (rd_L3 l0 x).length d3 [cells gb #[.int .i64 1, .int .i64 ((L.length : Int) + 1), .slice B3 (rd_L3 l0 x).length d3] 32] i wr) (fun i _ => (rd_L3 l0 x).length - (intOf i).toNat)
              case atStart => exact ⟨0, _, by omega, by omega, rfl, ⟨rfl⟩, HW2, K12⟩
              case round =>
                obtain ⟨y, us, hy0, hy1, rfl, HJ, OB, KB⟩ := hrel
                have hux := HU.out
                by_cases hly : y < ((rd_L3 l0 x).length : Int)
                · obtain ⟨ad, e4, ⟨zv, hz⟩, hf, hk, us2, hu2, ho⟩ := putK (⟨#[101, 108, 115, 101]⟩ : ByteArray) OB.out (i := 2) rfl y hy0 hly
                  cases e4
                  have hs3 : wrap64 (y + 1) = y + 1 := by unfold wrap64; omega
                  have hp2 := eq_true hy0
                  have hq2 := eq_true hly
                  have hd2 : decide (y < ((rd_L3 l0 x).length : Int)) = true := decide_eq_true hly
                  have HY := Aside0.mk (And.intro hy0 hly)
                  have HO4 := Aside0.mk ho
                  have HK4 := Aside0.mk hk
                  have HU2 : Aside0 (us2.length = (rd_L3 l0 x).length) := ⟨hu2.trans HJ.out⟩
                  clear ho hk hu2 hux hy0 hy1 hly
                  have O13 : Aside0 (Own N wr [Obj3 52 gj 1 100 LL, Obj3 42 gm 1 100 LL, row kU Sep.TU (.slice (some ad) (rd_L3 l0 x).length d3) us, cells gb #[.int .i64 1, .int .i64 ((L.length : Int) + 1), .slice (some ad) (rd_L3 l0 x).length d3] 32]) := ⟨OB.out⟩
                  have K13 : Aside0 (KeepS N w wr) := ⟨KB.out⟩
                  obtain ⟨a3a, a3b, a3c, b3⟩ := blk3_ (O13.out.blk (i := 3) rfl)
                  clear OB KB
                  go_wp2_with (first | ((with_reducible refine gate_store (t := 9) (p := 66) rfl ?_); refine own_store rfl rfl rfl (w1 := wr.setCell (ad.add (y.toNat * 4)) (.string (⟨#[101, 108, 115, 101]⟩ : ByteArray))) (N := N) (l' := [Obj3 52 gj 1 100 LL, Obj3 42 gm 1 100 LL, row kU Sep.TU (.slice (some ad) (rd_L3 l0 x).length d3) us2, cells gb #[.int .i64 1, .int .i64 ((L.length : Int) + 1), .slice (some ad) (rd_L3 l0 x).length d3] 32]) ?hr HO4.out HK4.out ?_; (case hr => first | (go_simp; done) | (go_simp; rfl)); intro w14 o_ k_; have O14 : Aside0 (Own N w14 [Obj3 52 gj 1 100 LL, Obj3 42 gm 1 100 LL, row kU Sep.TU (.slice (some ad) (rd_L3 l0 x).length d3) us2, cells gb #[.int .i64 1, .int .i64 ((L.length : Int) + 1), .slice (some ad) (rd_L3 l0 x).length d3] 32]) := ⟨o_⟩; have K14 : Aside0 (KeepS N w w14) := ⟨K13.out.trans k_⟩; clear a3a a3b a3c b3 O13 K13; obtain ⟨a3a, a3b, a3c, b3⟩ := blk3_ (O14.out.blk (i := 3) rfl); clear o_ k_))
                  go_roundw
                  case rel => exact ⟨y + 1, us2, by have := HY.out; omega, by have := HY.out; omega, int_eq (by unfold wrap64; have := HY.out; have := HU.out; omega), HU2, O14, K14⟩
                  case measure => have := HY.out; simp [intOf]; omega
                · have hd2 : decide (y < ((rd_L3 l0 x).length : Int)) = false := decide_eq_false hly
                  clear hly hy0 hy1 hux
                  have O13 : Aside0 (Own N wr [Obj3 52 gj 1 100 LL, Obj3 42 gm 1 100 LL, row kU Sep.TU (.slice B3 (rd_L3 l0 x).length d3) us, cells gb #[.int .i64 1, .int .i64 ((L.length : Int) + 1), .slice B3 (rd_L3 l0 x).length d3] 32]) := ⟨OB.out⟩
                  have K13 : Aside0 (KeepS N w wr) := ⟨KB.out⟩
                  obtain ⟨a3a, a3b, a3c, b3⟩ := blk3_ (O13.out.blk (i := 3) rfl)
                  clear OB KB
                  clear HJ
                  go_wp2_with (first | ((with_reducible refine gate_callee (f := 18) rfl ?_); refine goesL_ (some 69) rfl rfl Try.func18 (by kernel_rfl) rfl #[.pointer (some ⟨gj, 0, none⟩), .int .i64 0] rfl (by (try simp only [List.map_toArray, List.map_cons, List.map_nil]); first | done | rfl) ?_; obtain ⟨N_, on_, nn_, rr_, bb_⟩ := O13.out.frame1 (i := 0) rfl; refine (FromR_n on_ HLG2.out.1 HLG2.out.2.1 HLG2.out.2.2.1).mono ?_; rintro e_ w14 ⟨B6, d6, rfl, oo_, kk_⟩; obtain ⟨o_, k_⟩ := bb_ _ _ _ kk_ oo_; refine ⟨_, rfl, ?_⟩; have O14 : Aside0 (Own N w14 [Obj3 52 gj 1 100 LL, Obj3 42 gm 1 100 LL, row kU Sep.TU (.slice B3 (rd_L3 l0 x).length d3) us, cells gb #[.int .i64 1, .int .i64 ((L.length : Int) + 1), .slice B3 (rd_L3 l0 x).length d3] 32, row kR Sep.TR (.slice B6 LL.length d6) LL]) := ⟨o_⟩; have K14 : Aside0 (KeepS N w w14) := ⟨K13.out.trans k_⟩; clear a3a a3b a3c b3 O13 K13; obtain ⟨a3a, a3b, a3c, b3⟩ := blk3_ (O14.out.blk (i := 3) rfl); clear o_ k_ oo_ kk_ on_ nn_ rr_ bb_))
                  go_loopw [71] (fun i wr => LsR N w gj gm LL B6 d6 i wr) (fun i _ => LL.length - (intOf i).toNat)
                  case atStart => exact ⟨0, LL, by omega, by omega, rfl, ⟨rfl⟩, ⟨O14.out.pick3 (a := 0) (b := 1) (c := 4) rfl rfl rfl (by decide) (by decide) (by decide)⟩, K14⟩
                  case round =>
                    clear a3a a3b a3c b3
                    obtain ⟨y, L2, hy0, hy1, rfl, HJ, OB, KB⟩ := hrel
                    have hll := HLG2.out.1
                    by_cases hly : y < (LL.length : Int)
                    · obtain ⟨ad, A7, c7, e7, q0, q1, q2⟩ := at_W OB.out (i := 2) rfl y hy0 hly
                      cases e7
                      have hs3 : wrap64 (y + 1) = y + 1 := by unfold wrap64; omega
                      have hp2 := eq_true hy0
                      have hq2 := eq_true hly
                      have hd2 : decide (y < (LL.length : Int)) = true := decide_eq_true hly
                      have HY := Aside0.mk (And.intro hy0 hly)
                      have HQC := Aside0.mk q2
                      obtain ⟨m7, hm7⟩ : ∃ m, m = (rd_T32 L2 y).f2.length := ⟨_, rfl⟩
                      have HM7 := Aside0.mk hm7
                      rw [← hm7] at q2
                      have HQC2 : Aside0 (wr.cell? ⟨(ad.add (y.toNat * 3)).block, (ad.add (y.toNat * 3)).off + 2, none⟩ = some (.slice A7 m7 c7)) := ⟨by rw [hm7]; exact HQC.out⟩
                      have HMB : Aside0 (m7 ≤ 9223372036854775807) := ⟨by have q_ := row_max OB.out (i := 2) rfl y hy0 hly; rw [hm7]; exact q_⟩
                      clear HQC hm7 hll hy0 hy1 hly
                      have O15 : Aside0 (Own N wr [Obj3 52 gj 1 100 LL, Obj3 42 gm 1 100 LL, both (row kR Sep.TR (.slice (some ad) LL.length d6) L2) (cellIs ⟨(ad.add (y.toNat * 3)).block, (ad.add (y.toNat * 3)).off + 2, none⟩ (.slice A7 m7 c7))]) := ⟨mark OB.out (i := 2) rfl y HY.out.1 HY.out.2 HQC2.out⟩
                      have K15 : Aside0 (KeepS N w wr) := ⟨KB.out⟩
                      clear OB KB
                      go_wp2_with (first | ((with_reducible refine gate_dst (N := 13) rfl ?_); refine own_box rfl (D := 13) rfl (cs := #[.int .i64 0, .int .i64 0, .slice none 0 0]) (t := 32) ?hr O15.out ?_; (case hr => first | (go_simp; done) | (go_simp; rfl)); intro gq w16 o_ k_; have O16 : Aside0 (Own N w16 [Obj3 52 gj 1 100 LL, Obj3 42 gm 1 100 LL, both (row kR Sep.TR (.slice (some ad) LL.length d6) L2) (cellIs ⟨(ad.add (y.toNat * 3)).block, (ad.add (y.toNat * 3)).off + 2, none⟩ (.slice A7 m7 c7)), cells gq #[.int .i64 0, .int .i64 0, .slice none 0 0] 32]) := ⟨o_⟩; have K16 : Aside0 (KeepS N w w16) := ⟨K15.out.trans k_⟩; clear O15 K15; obtain ⟨a3a, a3b, a3c, b3⟩ := blk3_ (O16.out.blk (i := 3) rfl); clear o_ k_) | ((with_reducible refine gate_store (t := 32) (p := 13) rfl ?_); refine own_store rfl rfl rfl (w1 := (World.setCell (World.setCell (World.setCell w16 ⟨gq, 0, none⟩ (.int .i64 (rd_T32 L2 y).f0)) ⟨gq, 1, none⟩ (.int .i64 (rd_T32 L2 y).f1)) ⟨gq, 2, none⟩ (.slice A7 m7 c7))) (N := N) (l' := [Obj3 52 gj 1 100 LL, Obj3 42 gm 1 100 LL, both (row kR Sep.TR (.slice (some ad) LL.length d6) L2) (cellIs ⟨(ad.add (y.toNat * 3)).block, (ad.add (y.toNat * 3)).off + 2, none⟩ (.slice A7 m7 c7)), cells gq #[.int .i64 (rd_T32 L2 y).f0, .int .i64 (rd_T32 L2 y).f1, .slice A7 m7 c7] 32]) ?hr ?ho ?hk ?_; (case hr => first | (go_simp; done) | (go_simp; rfl)); (case ho => exact (((O16.out.set (i := 3) rfl 0 (.int .i64 (rd_T32 L2 y).f0)).set (i := 3) rfl 1 (.int .i64 (rd_T32 L2 y).f1)).set (i := 3) rfl 2 (.slice A7 m7 c7))); (case hk => exact (((KeepS.setCell (O16.out.far (i := 3) rfl) (.int .i64 (rd_T32 L2 y).f0)).trans (KeepS.setCell (O16.out.far (i := 3) rfl) (.int .i64 (rd_T32 L2 y).f1))).trans (KeepS.setCell (O16.out.far (i := 3) rfl) (.slice A7 m7 c7)))); intro w17 o_ k_; have O17 : Aside0 (Own N w17 [Obj3 52 gj 1 100 LL, Obj3 42 gm 1 100 LL, both (row kR Sep.TR (.slice (some ad) LL.length d6) L2) (cellIs ⟨(ad.add (y.toNat * 3)).block, (ad.add (y.toNat * 3)).off + 2, none⟩ (.slice A7 m7 c7)), cells gq #[.int .i64 (rd_T32 L2 y).f0, .int .i64 (rd_T32 L2 y).f1, .slice A7 m7 c7] 32]) := ⟨o_⟩; have K17 : Aside0 (KeepS N w w17) := ⟨K16.out.trans k_⟩; clear a3a a3b a3c b3 O16 K16; obtain ⟨a3a, a3b, a3c, b3⟩ := blk3_ (O17.out.blk (i := 3) rfl); clear o_ k_))
                      go_loopw [78] (fun i wr => LsQ N w gj gm gq LL ad d6 y (rd_T32 L2 y).f0 (rd_T32 L2 y).f1 A7 m7 c7 i wr) (fun i _ => m7 - (intOf i).toNat)
                      case atStart => exact ⟨0, L2, by omega, by omega, rfl, HJ, O17, K17⟩
                      case round =>
                        clear a3a a3b a3c b3
                        obtain ⟨u, L3, hu0, hu1, rfl, HJ3, OC, KC⟩ := hrel
                        have hmb := HMB.out
                        by_cases hlu : u < (m7 : Int)
                        · obtain ⟨a2, e8, ⟨zv, hz⟩, hf, hk, L4, hl4, ho⟩ := putN2 99 y u OC.out (i := 2) rfl HY.out.1 HY.out.2 hu0 hlu
                          cases e8
                          have hs4 : wrap64 (u + 1) = u + 1 := by unfold wrap64; omega
                          have hp3 := eq_true hu0
                          have hq3 := eq_true hlu
                          have hd3 : decide (u < (m7 : Int)) = true := decide_eq_true hlu
                          have HUU := Aside0.mk (And.intro hu0 hlu)
                          have HO8 := Aside0.mk ho
                          have HK8 := Aside0.mk hk
                          have HL8 : Aside0 (L4.length = LL.length) := ⟨hl4.trans HJ3.out⟩
                          clear ho hk hl4 hmb hu0 hu1 hlu
                          have O18 : Aside0 (Own N wr [Obj3 52 gj 1 100 LL, Obj3 42 gm 1 100 LL, both (row kR Sep.TR (.slice (some ad) LL.length d6) L3) (cellIs ⟨(ad.add (y.toNat * 3)).block, (ad.add (y.toNat * 3)).off + 2, none⟩ (.slice (some a2) m7 c7)), cells gq #[.int .i64 (rd_T32 L2 y).f0, .int .i64 (rd_T32 L2 y).f1, .slice (some a2) m7 c7] 32]) := ⟨OC.out⟩
                          have K18 : Aside0 (KeepS N w wr) := ⟨KC.out⟩
                          obtain ⟨a3a, a3b, a3c, b3⟩ := blk3_ (O18.out.blk (i := 3) rfl)
                          clear OC KC
                          go_wp2_with (first | ((with_reducible refine gate_store (t := 2) (p := 85) rfl ?_); refine own_store rfl rfl rfl (w1 := wr.setCell ⟨(a2.add (u.toNat * 4)).block, (a2.add (u.toNat * 4)).off + 2, none⟩ (.int .i64 99)) (N := N) (l' := [Obj3 52 gj 1 100 LL, Obj3 42 gm 1 100 LL, both (row kR Sep.TR (.slice (some ad) LL.length d6) L4) (cellIs ⟨(ad.add (y.toNat * 3)).block, (ad.add (y.toNat * 3)).off + 2, none⟩ (.slice (some a2) m7 c7)), cells gq #[.int .i64 (rd_T32 L2 y).f0, .int .i64 (rd_T32 L2 y).f1, .slice (some a2) m7 c7] 32]) ?hr HO8.out HK8.out ?_; (case hr => first | (go_simp; done) | (go_simp; rfl)); refine fun w19 o_ k_ => ?_; have O19 : Aside0 (Own N w19 [Obj3 52 gj 1 100 LL, Obj3 42 gm 1 100 LL, both (row kR Sep.TR (.slice (some ad) LL.length d6) L4) (cellIs ⟨(ad.add (y.toNat * 3)).block, (ad.add (y.toNat * 3)).off + 2, none⟩ (.slice (some a2) m7 c7)), cells gq #[.int .i64 (rd_T32 L2 y).f0, .int .i64 (rd_T32 L2 y).f1, .slice (some a2) m7 c7] 32]) := ⟨o_⟩; have K19 : Aside0 (KeepS N w w19) := ⟨K18.out.trans k_⟩; clear a3a a3b a3c b3 O18 K18; obtain ⟨a3a, a3b, a3c, b3⟩ := blk3_ (O19.out.blk (i := 3) rfl); clear o_ k_))
                          go_roundw
                          case rel => exact ⟨u + 1, L4, by have := HUU.out; omega, by have := HUU.out; omega, int_eq (by unfold wrap64; have := HUU.out; have := HMB.out; omega), HL8, O19, K19⟩
                          case measure => have := HUU.out; simp [intOf]; omega
                        · have hd3 : decide (u < (m7 : Int)) = false := decide_eq_false hlu
                          clear hlu hu0 hu1 hmb
                          have O18 : Aside0 (Own N wr [Obj3 52 gj 1 100 LL, Obj3 42 gm 1 100 LL, both (row kR Sep.TR (.slice (some ad) LL.length d6) L3) (cellIs ⟨(ad.add (y.toNat * 3)).block, (ad.add (y.toNat * 3)).off + 2, none⟩ (.slice A7 m7 c7)), cells gq #[.int .i64 (rd_T32 L2 y).f0, .int .i64 (rd_T32 L2 y).f1, .slice A7 m7 c7] 32]) := ⟨OC.out⟩
                          have K18 : Aside0 (KeepS N w wr) := ⟨KC.out⟩
                          clear OC KC
                          go_wp2
                          go_roundw
                          case rel => exact ⟨y + 1, L3, by have := HY.out; omega, by have := HY.out; omega, int_eq (by unfold wrap64; have := HY.out; have := HLG2.out.1; omega), HJ3, ⟨(unmark O18.out (i := 2) rfl).take 3⟩, K18⟩
                          case measure => have := HY.out; simp [intOf]; omega
                    · have hd2 : decide (y < (LL.length : Int)) = false := decide_eq_false hly
                      clear hly hy0 hy1 hll
                      have O15 : Aside0 (Own N wr [Obj3 52 gj 1 100 LL, Obj3 42 gm 1 100 LL, row kR Sep.TR (.slice B6 LL.length d6) L2]) := ⟨OB.out⟩
                      have K15 : Aside0 (KeepS N w wr) := ⟨KB.out⟩
                      clear OB KB
                      go_wp2
                      go_roundw
                      case rel => exact ⟨x + 1, LL, by have := HX.out; omega, by have := HX.out; omega, int_eq (by unfold wrap64; have := HX.out; have := HL30.out; omega), ⟨HLG2.out.2.2.2.2, HLG2.out.2.2.2.1, HLG2.out.2.1, HLG2.out.2.2.1⟩, ⟨O15.out.pick2 (a := 0) (b := 1) rfl rfl (by decide)⟩, K15⟩
                      case measure => have := HX.out; simp [intOf]; omega
        · have HE := Aside0.mk he
          obtain ⟨E, hE⟩ : ∃ E, E = addE 1 100 L (rd_L3 l0 x) := ⟨_, rfl⟩
          have HE2 := Aside0.mk hE.symm
          have HE3 : Aside0 (E ≠ 0) := ⟨by rw [hE]; exact he⟩
          clear hE
          clear he hlt hx0 hx1
          go_wp2_with (first | ((with_reducible refine gate_dst (N := 34) rfl ?_); refine own_lit k50 (N := N) (e := 50) (xs := []) (inner := []) rfl (D := 34) rfl ?hr (Reps.none _ _) (by simp) O5.out ?_; (case hr => first | (go_simp; done) | (go_simp; rfl)); intro B1 d1 w6 o_ k_; have O6 : Aside0 (Own N w6 [Obj3 52 gj 1 100 L, Obj3 42 gm 1 100 L, nrow k50 50 (.slice B1 0 d1) []]) := ⟨o_⟩; have K6 : Aside0 (KeepS N w w6) := ⟨K5.out.trans k_⟩; have HRI_6 : Aside0 (Kd.F k50 w6 N A3 (rd_L3 l0 x).length (rd_L3 l0 x)) := ⟨keepF HRI_5.out k_⟩; clear O5 K5 HRI_5; clear o_ k_) | ((with_reducible refine gate_builtin (b := .append) (xs := #[.tmp 34, .tmp 35]) rfl ?_); at_builtin; refine Own.append_flat k50 flatU O6.out (i := 2) (ys := (rd_L3 l0 x)) rfl (Kd.F_now HRI_6.out) rfl (.tmp 34) (.tmp 35) 30 (.agg #[.string ⟨#[]⟩, .int .i64 0, .int .i64 0, .string ⟨#[]⟩]) 48 rfl Try.underlying30 info50 rfl (by decide) (by decide) rfl rfl (by have := HU.out; simp only [List.length_nil]; omega) ?_; intro B2 d2 w7 o_ k_; have O7 : Aside0 (Own N w7 [Obj3 52 gj 1 100 L, Obj3 42 gm 1 100 L, nrow k50 50 (.slice B2 ((rd_L3 l0 x)).length d2) ((rd_L3 l0 x))]) := ⟨o_⟩; have K7 : Aside0 (KeepS N w w7) := ⟨K6.out.trans k_⟩; have HRI_7 : Aside0 (Kd.F k50 w7 N A3 (rd_L3 l0 x).length (rd_L3 l0 x)) := ⟨keepF HRI_6.out k_⟩; clear O6 K6 HRI_6; clear o_ k_) | ((with_reducible refine gate_callee (f := 12) rfl ?_); refine goesL_ (some 40) rfl rfl Try.func12 (by kernel_rfl) rfl #[.pointer (some ⟨gj, 0, none⟩), .slice B2 (rd_L3 l0 x).length d2] rfl (by (try simp only [List.map_toArray, List.map_cons, List.map_nil]); first | done | rfl) ?_; obtain ⟨N_, on_, nn_, rr_, bb_⟩ := O7.out.frame1 (i := 0) rfl; have hr_ := Kd.N_F (rr_ 2 _ (by decide) rfl); have hc_ := (O7.out.nreads (i := 2) rfl).2.1; refine (Add_n B2 d2 (rd_L3 l0 x) on_ hr_ hc_ HLL.out HU.out E HE2.out HE3.out).mono ?_; rintro e_ w8 ⟨B3, d3, rfl, oo_, kk_⟩; obtain ⟨o_, k_⟩ := bb_ _ _ _ kk_ oo_; refine ⟨_, rfl, ?_⟩; have O8 : Aside0 (Own N w8 [Obj3 52 gj 1 100 L, Obj3 42 gm 1 100 L, nrow k50 50 (.slice B2 ((rd_L3 l0 x)).length d2) ((rd_L3 l0 x)), nrow k50 50 (.slice B3 0 d3) ([] : List Upd)]) := ⟨o_⟩; have K8 : Aside0 (KeepS N w w8) := ⟨K7.out.trans k_⟩; have HRI_8 : Aside0 (Kd.F k50 w8 N A3 (rd_L3 l0 x).length (rd_L3 l0 x)) := ⟨keepF HRI_7.out k_⟩; clear O7 K7 HRI_7; clear o_ k_ oo_ kk_ on_ nn_ rr_ bb_ hr_ hc_) | ((with_reducible refine gate_dst (N := 8) rfl ?_); refine own_box rfl (D := 8) rfl (cs := #[.int .i64 0, .int .i64 0, .slice none 0 0]) (t := 32) ?hr O8.out ?_; (case hr => first | (go_simp; done) | (go_simp; rfl)); intro gb w9 o_ k_; have O9 : Aside0 (Own N w9 [Obj3 52 gj 1 100 L, Obj3 42 gm 1 100 L, nrow k50 50 (.slice B2 ((rd_L3 l0 x)).length d2) ((rd_L3 l0 x)), nrow k50 50 (.slice B3 0 d3) ([] : List Upd), cells gb #[.int .i64 0, .int .i64 0, .slice none 0 0] 32]) := ⟨o_⟩; have K9 : Aside0 (KeepS N w w9) := ⟨K8.out.trans k_⟩; have HRI_9 : Aside0 (Kd.F k50 w9 N A3 (rd_L3 l0 x).length (rd_L3 l0 x)) := ⟨keepF HRI_8.out k_⟩; clear O8 K8 HRI_8; obtain ⟨a4a, a4b, a4c, b4⟩ := blk3_ (O9.out.blk (i := 4) rfl); clear o_ k_) | ((with_reducible refine gate_store (t := 32) (p := 8) rfl ?_); refine own_store rfl rfl rfl (w1 := (World.setCell (World.setCell (World.setCell w9 ⟨gb, 0, none⟩ (.int .i64 0)) ⟨gb, 1, none⟩ (.int .i64 0)) ⟨gb, 2, none⟩ (.slice B3 0 d3))) (N := N) (l' := [Obj3 52 gj 1 100 L, Obj3 42 gm 1 100 L, nrow k50 50 (.slice B2 ((rd_L3 l0 x)).length d2) ((rd_L3 l0 x)), nrow k50 50 (.slice B3 0 d3) ([] : List Upd), cells gb #[.int .i64 0, .int .i64 0, .slice B3 0 d3] 32]) ?hr ?ho ?hk ?_; (case hr => first | (go_simp; done) | (go_simp; rfl)); (case ho => exact (((O9.out.set (i := 4) rfl 0 (.int .i64 0)).set (i := 4) rfl 1 (.int .i64 0)).set (i := 4) rfl 2 (.slice B3 0 d3))); (case hk => exact (((KeepS.setCell (O9.out.far (i := 4) rfl) (.int .i64 0)).trans (KeepS.setCell (O9.out.far (i := 4) rfl) (.int .i64 0))).trans (KeepS.setCell (O9.out.far (i := 4) rfl) (.slice B3 0 d3)))); intro w10 o_ k_; have O10 : Aside0 (Own N w10 [Obj3 52 gj 1 100 L, Obj3 42 gm 1 100 L, nrow k50 50 (.slice B2 ((rd_L3 l0 x)).length d2) ((rd_L3 l0 x)), nrow k50 50 (.slice B3 0 d3) ([] : List Upd), cells gb #[.int .i64 0, .int .i64 0, .slice B3 0 d3] 32]) := ⟨o_⟩; have K10 : Aside0 (KeepS N w w10) := ⟨K9.out.trans k_⟩; have HRI_10 : Aside0 (Kd.F k50 w10 N A3 (rd_L3 l0 x).length (rd_L3 l0 x)) := ⟨keepF HRI_9.out k_⟩; clear a4a a4b a4c b4 O9 K9 HRI_9; obtain ⟨a4a, a4b, a4c, b4⟩ := blk3_ (O10.out.blk (i := 4) rfl); clear o_ k_) | ((with_reducible refine gate_callee (f := 13) rfl ?_); refine goesL_ (some 45) rfl rfl Try.func13 (by kernel_rfl) rfl #[.pointer (some ⟨gm, 0, none⟩), .slice A3 (rd_L3 l0 x).length c3] rfl (by (try simp only [List.map_toArray, List.map_cons, List.map_nil]); first | done | rfl) ?_; obtain ⟨N_, on_, nn_, rr_, bb_⟩ := O10.out.frame1 (i := 1) rfl; have hr_ := Kd.F_mono HRI_10.out nn_; refine (RAdd_n A3 c3 (rd_L3 l0 x) on_ hr_ HC3.out HLL.out HU.out (by have := HI.out.2.1; omega : (L.length : Int) ≤ 100) E HE2.out HE3.out).mono ?_; rintro e_ w11 ⟨B4, d4, B5, d5, rfl, hcc_, oo_, kk_⟩; obtain ⟨o_, k_⟩ := bb_ _ _ _ kk_ oo_; refine ⟨_, rfl, ?_⟩; have O11 : Aside0 (Own N w11 [Obj3 52 gj 1 100 L, cells gm #[.int .i64 1, .int .i64 100, .slice B5 L.length d5] 42, nrow k50 50 (.slice B2 ((rd_L3 l0 x)).length d2) ((rd_L3 l0 x)), nrow k50 50 (.slice B3 0 d3) ([] : List Upd), cells gb #[.int .i64 0, .int .i64 0, .slice B3 0 d3] 32, both (nrow k32 32 (.slice B5 L.length d5) L) (rd k50 B4 0 ([] : List Upd))]) := ⟨o_⟩; have K11 : Aside0 (KeepS N w w11) := ⟨K10.out.trans k_⟩; have HRI_11 : Aside0 (Kd.F k50 w11 N A3 (rd_L3 l0 x).length (rd_L3 l0 x)) := ⟨keepF HRI_10.out k_⟩; clear a4a a4b a4c b4 O10 K10 HRI_10; obtain ⟨a4a, a4b, a4c, b4⟩ := blk3_ (O11.out.blk (i := 4) rfl); clear hcc_; clear o_ k_ oo_ kk_ on_ nn_ rr_ bb_ hr_))
          have HLG : Aside0 ((L).length ≤ 1000000 ∧ Short L ∧ Num L ∧ (L).length ≤ 100 ∧ ((L).length : Int) ≤ x + 1) := ⟨HLL.out, HI.out.2.2.1, HI.out.2.2.2, HI.out.2.1, by have := HI.out.1; omega⟩
          obtain ⟨LL, hLL⟩ : ∃ LL, LL = L := ⟨_, rfl⟩
          have HW : Aside0 (Own N w11 [Obj3 52 gj 1 100 LL, Obj3 42 gm 1 100 LL, row kU Sep.TU (.slice B2 (rd_L3 l0 x).length d2) (rd_L3 l0 x), row kU Sep.TU (.slice B3 0 d3) ([] : List Upd), cells gb #[.int .i64 0, .int .i64 0, .slice B3 0 d3] 32]) := ⟨by rw [hLL]; exact ((((((Obj3.shut2 (i := 1) (j := 5) O11.out rfl rfl (by decide)).conv (i := 1) rfl (Obj3 42 gm 1 100 L) (fun F hp _ => hp.1)).pickL [0, 1, 2, 3, 4] (by decide) (by simp)).nrow_row (d := kU) looseU (i := 2) rfl).nrow_row (d := kU) looseU (i := 3) rfl))⟩
          have HLG2 : Aside0 (LL.length ≤ 1000000 ∧ Short LL ∧ Num LL ∧ LL.length ≤ 100 ∧ (LL.length : Int) ≤ x + 1) := ⟨by rw [hLL]; exact HLG.out⟩
          clear a4a a4b a4c b4
          clear HLG hLL O11
          go_loopw [48] (fun i wr => LsU N w gj gm LL B2 (rd_L3 l0 x).length d2 [row kU Sep.TU (.slice B3 0 d3) ([] : List Upd), cells gb #[.int .i64 0, .int .i64 0, .slice B3 0 d3] 32] i wr) (fun i _ => (rd_L3 l0 x).length - (intOf i).toNat)
          case atStart => exact ⟨0, _, by omega, by omega, rfl, ⟨rfl⟩, HW, K11⟩
          case round =>
            obtain ⟨y, us, hy0, hy1, rfl, HJ, OB, KB⟩ := hrel
            have hux := HU.out
            by_cases hly : y < ((rd_L3 l0 x).length : Int)
            · obtain ⟨ad, e4, ⟨zv, hz⟩, hf, hk, us2, hu2, ho⟩ := putK (⟨#[111, 116, 104, 101, 114]⟩ : ByteArray) OB.out (i := 2) rfl y hy0 hly
              cases e4
              have hs3 : wrap64 (y + 1) = y + 1 := by unfold wrap64; omega
              have hp2 := eq_true hy0
              have hq2 := eq_true hly
              have hd2 : decide (y < ((rd_L3 l0 x).length : Int)) = true := decide_eq_true hly
              have HY := Aside0.mk (And.intro hy0 hly)
              have HO4 := Aside0.mk ho
              have HK4 := Aside0.mk hk
              have HU2 : Aside0 (us2.length = (rd_L3 l0 x).length) := ⟨hu2.trans HJ.out⟩
              clear ho hk hu2 hux hy0 hy1 hly
              have O12 : Aside0 (Own N wr [Obj3 52 gj 1 100 LL, Obj3 42 gm 1 100 LL, row kU Sep.TU (.slice (some ad) (rd_L3 l0 x).length d2) us, row kU Sep.TU (.slice B3 0 d3) ([] : List Upd), cells gb #[.int .i64 0, .int .i64 0, .slice B3 0 d3] 32]) := ⟨OB.out⟩
              have K12 : Aside0 (KeepS N w wr) := ⟨KB.out⟩
              obtain ⟨a4a, a4b, a4c, b4⟩ := blk3_ (O12.out.blk (i := 4) rfl)
              clear OB KB
              go_wp2_with (first | ((with_reducible refine gate_store (t := 9) (p := 54) rfl ?_); refine own_store rfl rfl rfl (w1 := wr.setCell (ad.add (y.toNat * 4)) (.string (⟨#[111, 116, 104, 101, 114]⟩ : ByteArray))) (N := N) (l' := [Obj3 52 gj 1 100 LL, Obj3 42 gm 1 100 LL, row kU Sep.TU (.slice (some ad) (rd_L3 l0 x).length d2) us2, row kU Sep.TU (.slice B3 0 d3) ([] : List Upd), cells gb #[.int .i64 0, .int .i64 0, .slice B3 0 d3] 32]) ?hr HO4.out HK4.out ?_; (case hr => first | (go_simp; done) | (go_simp; rfl)); intro w13 o_ k_; have O13 : Aside0 (Own N w13 [Obj3 52 gj 1 100 LL, Obj3 42 gm 1 100 LL, row kU Sep.TU (.slice (some ad) (rd_L3 l0 x).length d2) us2, row kU Sep.TU (.slice B3 0 d3) ([] : List Upd), cells gb #[.int .i64 0, .int .i64 0, .slice B3 0 d3] 32]) := ⟨o_⟩; have K13 : Aside0 (KeepS N w w13) := ⟨K12.out.trans k_⟩; clear a4a a4b a4c b4 O12 K12; obtain ⟨a4a, a4b, a4c, b4⟩ := blk3_ (O13.out.blk (i := 4) rfl); clear o_ k_))
              go_roundw
              case rel => exact ⟨y + 1, us2, by have := HY.out; omega, by have := HY.out; omega, int_eq (by unfold wrap64; have := HY.out; have := HU.out; omega), HU2, O13, K13⟩
              case measure => have := HY.out; simp [intOf]; omega
            · have hd2 : decide (y < ((rd_L3 l0 x).length : Int)) = false := decide_eq_false hly
              clear hly hy0 hy1 hux
              have O12 : Aside0 (Own N wr [Obj3 52 gj 1 100 LL, Obj3 42 gm 1 100 LL, row kU Sep.TU (.slice B2 (rd_L3 l0 x).length d2) us, row kU Sep.TU (.slice B3 0 d3) ([] : List Upd), cells gb #[.int .i64 0, .int .i64 0, .slice B3 0 d3] 32]) := ⟨OB.out⟩
              have K12 : Aside0 (KeepS N w wr) := ⟨KB.out⟩
              obtain ⟨a4a, a4b, a4c, b4⟩ := blk3_ (O12.out.blk (i := 4) rfl)
              clear OB KB
              clear HJ
              go_wp2
              have HW2 : Aside0 (Own N wr [Obj3 52 gj 1 100 LL, Obj3 42 gm 1 100 LL, row kU Sep.TU (.slice B3 0 d3) ([] : List Upd), cells gb #[.int .i64 0, .int .i64 0, .slice B3 0 d3] 32]) := ⟨O12.out.pickL [0, 1, 3, 4] (by decide) (by simp)⟩
              clear a4a a4b a4c b4 O12
              go_loopw [59] (fun i wr => LsU N w gj gm LL B3 0 d3 [cells gb #[.int .i64 0, .int .i64 0, .slice B3 0 d3] 32] i wr) (fun i _ => 0 - (intOf i).toNat)
              case atStart => exact ⟨0, _, by omega, by omega, rfl, ⟨rfl⟩, HW2, K12⟩
              case round =>
                obtain ⟨y, us, hy0, hy1, rfl, HJ, OB, KB⟩ := hrel
                have hux := HU.out
                by_cases hly : y < (0 : Int)
                · obtain ⟨ad, e4, ⟨zv, hz⟩, hf, hk, us2, hu2, ho⟩ := putK (⟨#[101, 108, 115, 101]⟩ : ByteArray) OB.out (i := 2) rfl y hy0 hly
                  cases e4
                  have hs3 : wrap64 (y + 1) = y + 1 := by unfold wrap64; omega
                  have hp2 := eq_true hy0
                  have hq2 := eq_true hly
                  have hd2 : decide (y < (0 : Int)) = true := decide_eq_true hly
                  have HY := Aside0.mk (And.intro hy0 hly)
                  have HO4 := Aside0.mk ho
                  have HK4 := Aside0.mk hk
                  have HU2 : Aside0 (us2.length = 0) := ⟨hu2.trans HJ.out⟩
                  clear ho hk hu2 hux hy0 hy1 hly
                  have O13 : Aside0 (Own N wr [Obj3 52 gj 1 100 LL, Obj3 42 gm 1 100 LL, row kU Sep.TU (.slice (some ad) 0 d3) us, cells gb #[.int .i64 0, .int .i64 0, .slice (some ad) 0 d3] 32]) := ⟨OB.out⟩
                  have K13 : Aside0 (KeepS N w wr) := ⟨KB.out⟩
                  obtain ⟨a3a, a3b, a3c, b3⟩ := blk3_ (O13.out.blk (i := 3) rfl)
                  clear OB KB
                  go_wp2_with (first | ((with_reducible refine gate_store (t := 9) (p := 66) rfl ?_); refine own_store rfl rfl rfl (w1 := wr.setCell (ad.add (y.toNat * 4)) (.string (⟨#[101, 108, 115, 101]⟩ : ByteArray))) (N := N) (l' := [Obj3 52 gj 1 100 LL, Obj3 42 gm 1 100 LL, row kU Sep.TU (.slice (some ad) 0 d3) us2, cells gb #[.int .i64 0, .int .i64 0, .slice (some ad) 0 d3] 32]) ?hr HO4.out HK4.out ?_; (case hr => first | (go_simp; done) | (go_simp; rfl)); intro w14 o_ k_; have O14 : Aside0 (Own N w14 [Obj3 52 gj 1 100 LL, Obj3 42 gm 1 100 LL, row kU Sep.TU (.slice (some ad) 0 d3) us2, cells gb #[.int .i64 0, .int .i64 0, .slice (some ad) 0 d3] 32]) := ⟨o_⟩; have K14 : Aside0 (KeepS N w w14) := ⟨K13.out.trans k_⟩; clear a3a a3b a3c b3 O13 K13; obtain ⟨a3a, a3b, a3c, b3⟩ := blk3_ (O14.out.blk (i := 3) rfl); clear o_ k_))
                  go_roundw
                  case rel => exact ⟨y + 1, us2, by have := HY.out; omega, by have := HY.out; omega, int_eq (by unfold wrap64; have := HY.out; have := HU.out; omega), HU2, O14, K14⟩
                  case measure => have := HY.out; simp [intOf]; omega
                · have hd2 : decide (y < (0 : Int)) = false := decide_eq_false hly
                  clear hly hy0 hy1 hux
                  have O13 : Aside0 (Own N wr [Obj3 52 gj 1 100 LL, Obj3 42 gm 1 100 LL, row kU Sep.TU (.slice B3 0 d3) us, cells gb #[.int .i64 0, .int .i64 0, .slice B3 0 d3] 32]) := ⟨OB.out⟩
                  have K13 : Aside0 (KeepS N w wr) := ⟨KB.out⟩
                  obtain ⟨a3a, a3b, a3c, b3⟩ := blk3_ (O13.out.blk (i := 3) rfl)
                  clear OB KB
                  clear HJ
                  go_wp2_with (first | ((with_reducible refine gate_callee (f := 18) rfl ?_); refine goesL_ (some 69) rfl rfl Try.func18 (by kernel_rfl) rfl #[.pointer (some ⟨gj, 0, none⟩), .int .i64 0] rfl (by (try simp only [List.map_toArray, List.map_cons, List.map_nil]); first | done | rfl) ?_; obtain ⟨N_, on_, nn_, rr_, bb_⟩ := O13.out.frame1 (i := 0) rfl; refine (FromR_n on_ HLG2.out.1 HLG2.out.2.1 HLG2.out.2.2.1).mono ?_; rintro e_ w14 ⟨B6, d6, rfl, oo_, kk_⟩; obtain ⟨o_, k_⟩ := bb_ _ _ _ kk_ oo_; refine ⟨_, rfl, ?_⟩; have O14 : Aside0 (Own N w14 [Obj3 52 gj 1 100 LL, Obj3 42 gm 1 100 LL, row kU Sep.TU (.slice B3 0 d3) us, cells gb #[.int .i64 0, .int .i64 0, .slice B3 0 d3] 32, row kR Sep.TR (.slice B6 LL.length d6) LL]) := ⟨o_⟩; have K14 : Aside0 (KeepS N w w14) := ⟨K13.out.trans k_⟩; clear a3a a3b a3c b3 O13 K13; obtain ⟨a3a, a3b, a3c, b3⟩ := blk3_ (O14.out.blk (i := 3) rfl); clear o_ k_ oo_ kk_ on_ nn_ rr_ bb_))
                  go_loopw [71] (fun i wr => LsR N w gj gm LL B6 d6 i wr) (fun i _ => LL.length - (intOf i).toNat)
                  case atStart => exact ⟨0, LL, by omega, by omega, rfl, ⟨rfl⟩, ⟨O14.out.pick3 (a := 0) (b := 1) (c := 4) rfl rfl rfl (by decide) (by decide) (by decide)⟩, K14⟩
                  case round =>
                    clear a3a a3b a3c b3
                    obtain ⟨y, L2, hy0, hy1, rfl, HJ, OB, KB⟩ := hrel
                    have hll := HLG2.out.1
                    by_cases hly : y < (LL.length : Int)
                    · obtain ⟨ad, A7, c7, e7, q0, q1, q2⟩ := at_W OB.out (i := 2) rfl y hy0 hly
                      cases e7
                      have hs3 : wrap64 (y + 1) = y + 1 := by unfold wrap64; omega
                      have hp2 := eq_true hy0
                      have hq2 := eq_true hly
                      have hd2 : decide (y < (LL.length : Int)) = true := decide_eq_true hly
                      have HY := Aside0.mk (And.intro hy0 hly)
                      have HQC := Aside0.mk q2
                      obtain ⟨m7, hm7⟩ : ∃ m, m = (rd_T32 L2 y).f2.length := ⟨_, rfl⟩
                      have HM7 := Aside0.mk hm7
                      rw [← hm7] at q2
                      have HQC2 : Aside0 (wr.cell? ⟨(ad.add (y.toNat * 3)).block, (ad.add (y.toNat * 3)).off + 2, none⟩ = some (.slice A7 m7 c7)) := ⟨by rw [hm7]; exact HQC.out⟩
                      have HMB : Aside0 (m7 ≤ 9223372036854775807) := ⟨by have q_ := row_max OB.out (i := 2) rfl y hy0 hly; rw [hm7]; exact q_⟩
                      clear HQC hm7 hll hy0 hy1 hly
                      have O15 : Aside0 (Own N wr [Obj3 52 gj 1 100 LL, Obj3 42 gm 1 100 LL, both (row kR Sep.TR (.slice (some ad) LL.length d6) L2) (cellIs ⟨(ad.add (y.toNat * 3)).block, (ad.add (y.toNat * 3)).off + 2, none⟩ (.slice A7 m7 c7))]) := ⟨mark OB.out (i := 2) rfl y HY.out.1 HY.out.2 HQC2.out⟩
                      have K15 : Aside0 (KeepS N w wr) := ⟨KB.out⟩
                      clear OB KB
                      go_wp2_with (first | ((with_reducible refine gate_dst (N := 13) rfl ?_); refine own_box rfl (D := 13) rfl (cs := #[.int .i64 0, .int .i64 0, .slice none 0 0]) (t := 32) ?hr O15.out ?_; (case hr => first | (go_simp; done) | (go_simp; rfl)); intro gq w16 o_ k_; have O16 : Aside0 (Own N w16 [Obj3 52 gj 1 100 LL, Obj3 42 gm 1 100 LL, both (row kR Sep.TR (.slice (some ad) LL.length d6) L2) (cellIs ⟨(ad.add (y.toNat * 3)).block, (ad.add (y.toNat * 3)).off + 2, none⟩ (.slice A7 m7 c7)), cells gq #[.int .i64 0, .int .i64 0, .slice none 0 0] 32]) := ⟨o_⟩; have K16 : Aside0 (KeepS N w w16) := ⟨K15.out.trans k_⟩; clear O15 K15; obtain ⟨a3a, a3b, a3c, b3⟩ := blk3_ (O16.out.blk (i := 3) rfl); clear o_ k_) | ((with_reducible refine gate_store (t := 32) (p := 13) rfl ?_); refine own_store rfl rfl rfl (w1 := (World.setCell (World.setCell (World.setCell w16 ⟨gq, 0, none⟩ (.int .i64 (rd_T32 L2 y).f0)) ⟨gq, 1, none⟩ (.int .i64 (rd_T32 L2 y).f1)) ⟨gq, 2, none⟩ (.slice A7 m7 c7))) (N := N) (l' := [Obj3 52 gj 1 100 LL, Obj3 42 gm 1 100 LL, both (row kR Sep.TR (.slice (some ad) LL.length d6) L2) (cellIs ⟨(ad.add (y.toNat * 3)).block, (ad.add (y.toNat * 3)).off + 2, none⟩ (.slice A7 m7 c7)), cells gq #[.int .i64 (rd_T32 L2 y).f0, .int .i64 (rd_T32 L2 y).f1, .slice A7 m7 c7] 32]) ?hr ?ho ?hk ?_; (case hr => first | (go_simp; done) | (go_simp; rfl)); (case ho => exact (((O16.out.set (i := 3) rfl 0 (.int .i64 (rd_T32 L2 y).f0)).set (i := 3) rfl 1 (.int .i64 (rd_T32 L2 y).f1)).set (i := 3) rfl 2 (.slice A7 m7 c7))); (case hk => exact (((KeepS.setCell (O16.out.far (i := 3) rfl) (.int .i64 (rd_T32 L2 y).f0)).trans (KeepS.setCell (O16.out.far (i := 3) rfl) (.int .i64 (rd_T32 L2 y).f1))).trans (KeepS.setCell (O16.out.far (i := 3) rfl) (.slice A7 m7 c7)))); intro w17 o_ k_; have O17 : Aside0 (Own N w17 [Obj3 52 gj 1 100 LL, Obj3 42 gm 1 100 LL, both (row kR Sep.TR (.slice (some ad) LL.length d6) L2) (cellIs ⟨(ad.add (y.toNat * 3)).block, (ad.add (y.toNat * 3)).off + 2, none⟩ (.slice A7 m7 c7)), cells gq #[.int .i64 (rd_T32 L2 y).f0, .int .i64 (rd_T32 L2 y).f1, .slice A7 m7 c7] 32]) := ⟨o_⟩; have K17 : Aside0 (KeepS N w w17) := ⟨K16.out.trans k_⟩; clear a3a a3b a3c b3 O16 K16; obtain ⟨a3a, a3b, a3c, b3⟩ := blk3_ (O17.out.blk (i := 3) rfl); clear o_ k_))
                      go_loopw [78] (fun i wr => LsQ N w gj gm gq LL ad d6 y (rd_T32 L2 y).f0 (rd_T32 L2 y).f1 A7 m7 c7 i wr) (fun i _ => m7 - (intOf i).toNat)
                      case atStart => exact ⟨0, L2, by omega, by omega, rfl, HJ, O17, K17⟩
                      case round =>
                        clear a3a a3b a3c b3
                        obtain ⟨u, L3, hu0, hu1, rfl, HJ3, OC, KC⟩ := hrel
                        have hmb := HMB.out
                        by_cases hlu : u < (m7 : Int)
                        · obtain ⟨a2, e8, ⟨zv, hz⟩, hf, hk, L4, hl4, ho⟩ := putN2 99 y u OC.out (i := 2) rfl HY.out.1 HY.out.2 hu0 hlu
                          cases e8
                          have hs4 : wrap64 (u + 1) = u + 1 := by unfold wrap64; omega
                          have hp3 := eq_true hu0
                          have hq3 := eq_true hlu
                          have hd3 : decide (u < (m7 : Int)) = true := decide_eq_true hlu
                          have HUU := Aside0.mk (And.intro hu0 hlu)
                          have HO8 := Aside0.mk ho
                          have HK8 := Aside0.mk hk
                          have HL8 : Aside0 (L4.length = LL.length) := ⟨hl4.trans HJ3.out⟩
                          clear ho hk hl4 hmb hu0 hu1 hlu
                          have O18 : Aside0 (Own N wr [Obj3 52 gj 1 100 LL, Obj3 42 gm 1 100 LL, both (row kR Sep.TR (.slice (some ad) LL.length d6) L3) (cellIs ⟨(ad.add (y.toNat * 3)).block, (ad.add (y.toNat * 3)).off + 2, none⟩ (.slice (some a2) m7 c7)), cells gq #[.int .i64 (rd_T32 L2 y).f0, .int .i64 (rd_T32 L2 y).f1, .slice (some a2) m7 c7] 32]) := ⟨OC.out⟩
                          have K18 : Aside0 (KeepS N w wr) := ⟨KC.out⟩
                          obtain ⟨a3a, a3b, a3c, b3⟩ := blk3_ (O18.out.blk (i := 3) rfl)
                          clear OC KC
                          go_wp2_with (first | ((with_reducible refine gate_store (t := 2) (p := 85) rfl ?_); refine own_store rfl rfl rfl (w1 := wr.setCell ⟨(a2.add (u.toNat * 4)).block, (a2.add (u.toNat * 4)).off + 2, none⟩ (.int .i64 99)) (N := N) (l' := [Obj3 52 gj 1 100 LL, Obj3 42 gm 1 100 LL, both (row kR Sep.TR (.slice (some ad) LL.length d6) L4) (cellIs ⟨(ad.add (y.toNat * 3)).block, (ad.add (y.toNat * 3)).off + 2, none⟩ (.slice (some a2) m7 c7)), cells gq #[.int .i64 (rd_T32 L2 y).f0, .int .i64 (rd_T32 L2 y).f1, .slice (some a2) m7 c7] 32]) ?hr HO8.out HK8.out ?_; (case hr => first | (go_simp; done) | (go_simp; rfl)); refine fun w19 o_ k_ => ?_; have O19 : Aside0 (Own N w19 [Obj3 52 gj 1 100 LL, Obj3 42 gm 1 100 LL, both (row kR Sep.TR (.slice (some ad) LL.length d6) L4) (cellIs ⟨(ad.add (y.toNat * 3)).block, (ad.add (y.toNat * 3)).off + 2, none⟩ (.slice (some a2) m7 c7)), cells gq #[.int .i64 (rd_T32 L2 y).f0, .int .i64 (rd_T32 L2 y).f1, .slice (some a2) m7 c7] 32]) := ⟨o_⟩; have K19 : Aside0 (KeepS N w w19) := ⟨K18.out.trans k_⟩; clear a3a a3b a3c b3 O18 K18; obtain ⟨a3a, a3b, a3c, b3⟩ := blk3_ (O19.out.blk (i := 3) rfl); clear o_ k_))
                          go_roundw
                          case rel => exact ⟨u + 1, L4, by have := HUU.out; omega, by have := HUU.out; omega, int_eq (by unfold wrap64; have := HUU.out; have := HMB.out; omega), HL8, O19, K19⟩
                          case measure => have := HUU.out; simp [intOf]; omega
                        · have hd3 : decide (u < (m7 : Int)) = false := decide_eq_false hlu
                          clear hlu hu0 hu1 hmb
                          have O18 : Aside0 (Own N wr [Obj3 52 gj 1 100 LL, Obj3 42 gm 1 100 LL, both (row kR Sep.TR (.slice (some ad) LL.length d6) L3) (cellIs ⟨(ad.add (y.toNat * 3)).block, (ad.add (y.toNat * 3)).off + 2, none⟩ (.slice A7 m7 c7)), cells gq #[.int .i64 (rd_T32 L2 y).f0, .int .i64 (rd_T32 L2 y).f1, .slice A7 m7 c7] 32]) := ⟨OC.out⟩
                          have K18 : Aside0 (KeepS N w wr) := ⟨KC.out⟩
                          clear OC KC
                          go_wp2
                          go_roundw
                          case rel => exact ⟨y + 1, L3, by have := HY.out; omega, by have := HY.out; omega, int_eq (by unfold wrap64; have := HY.out; have := HLG2.out.1; omega), HJ3, ⟨(unmark O18.out (i := 2) rfl).take 3⟩, K18⟩
                          case measure => have := HY.out; simp [intOf]; omega
                    · have hd2 : decide (y < (LL.length : Int)) = false := decide_eq_false hly
                      clear hly hy0 hy1 hll
                      have O15 : Aside0 (Own N wr [Obj3 52 gj 1 100 LL, Obj3 42 gm 1 100 LL, row kR Sep.TR (.slice B6 LL.length d6) L2]) := ⟨OB.out⟩
                      have K15 : Aside0 (KeepS N w wr) := ⟨KB.out⟩
                      clear OB KB
                      go_wp2
                      go_roundw
                      case rel => exact ⟨x + 1, LL, by have := HX.out; omega, by have := HX.out; omega, int_eq (by unfold wrap64; have := HX.out; have := HL30.out; omega), ⟨HLG2.out.2.2.2.2, HLG2.out.2.2.2.1, HLG2.out.2.1, HLG2.out.2.2.1⟩, ⟨O15.out.pick2 (a := 0) (b := 1) rfl rfl (by decide)⟩, K15⟩
                      case measure => have := HX.out; simp [intOf]; omega
      · have hxe : x = (l0.length : Int) := by omega
        subst hxe
        have hd : decide ((l0.length : Int) < (l0.length : Int)) = false := decide_eq_false (Int.lt_irrefl _)
        clear hlt hx0 hx1 hF2 hLx
        obtain ⟨wo, hwo⟩ : ∃ wo : World, wo = wr := ⟨_, rfl⟩
        subst hwo
        obtain ⟨Am, cm, h2⟩ := Obj3.open_ OA.out (i := 1) rfl
        have HCM : Aside0 (L.length ≤ cm) := ⟨(h2.nreads (i := 2) rfl).2.1⟩
        obtain ⟨N1, h3, hn1, hF, hback⟩ := h2.hide (i := 2) rfl
        have hFm : Kd.F k32 wo N1 Am L.length L := Kd.N_F hF
        have HN1 := Aside0.mk hn1
        have HS := Aside0.mk HI.out.2.2.1
        have HNU := Aside0.mk HI.out.2.2.2
        have O7 : Aside0 (Own N1 wo [Obj3 52 gj 1 100 L, cells gm #[.int .i64 1, .int .i64 100, .slice Am L.length cm] 42, emp]) := ⟨h3⟩
        have K7 : Aside0 (KeepS N1 wo wo) := ⟨KeepS.refl _ _⟩
        have HRM_7 : Aside0 (Kd.F k32 wo N1 Am L.length L) := ⟨hFm⟩
        have c7_1_0 : wo.cell? ⟨gm, 0, none⟩ = some (.int .i64 1) := (blk_cell (O7.out.blk (i := 1) rfl) 0).trans rfl
        have f7_1_0 : wo.frozen? ⟨gm, 0, none⟩ = false := blk_frozen (O7.out.blk (i := 1) rfl) 0
        have c7_1_1 : wo.cell? ⟨gm, 1, none⟩ = some (.int .i64 100) := (blk_cell (O7.out.blk (i := 1) rfl) 1).trans rfl
        have f7_1_1 : wo.frozen? ⟨gm, 1, none⟩ = false := blk_frozen (O7.out.blk (i := 1) rfl) 1
        have c7_1_2 : wo.cell? ⟨gm, 2, none⟩ = some (.slice Am L.length cm) := (blk_cell (O7.out.blk (i := 1) rfl) 2).trans rfl
        have f7_1_2 : wo.frozen? ⟨gm, 2, none⟩ = false := blk_frozen (O7.out.blk (i := 1) rfl) 2
        clear OA h2 h3 hn1 hF hback hFm
        go_wp2
        refine start_ (n := 8) (S := fun w' => w'.cell? ⟨gm, 0, none⟩ = some (.int .i64 1) ∧ w'.cell? ⟨gm, 1, none⟩ = some (.int .i64 100) ∧ w'.cell? ⟨gm, 2, none⟩ = some (.slice Am L.length cm)) (ds := []) #[false, false, false, false, false, false, false, false] (by kernel_rfl) rfl rfl ⟨((blk_cell (O7.out.blk (i := 1) rfl) 0).trans rfl), ((blk_cell (O7.out.blk (i := 1) rfl) 1).trans rfl), ((blk_cell (O7.out.blk (i := 1) rfl) 2).trans rfl)⟩ (fun hHeld => ?_)
        obtain ⟨w8, hw_⟩ : ∃ W, W = wo.drew := ⟨_, rfl⟩
        have o_ := O7.out.drew
        have k_ : KeepS N1 wo wo.drew := KeepS.drew
        rw [← hw_] at o_ k_ hHeld ⊢
        clear hw_
        have O8 : Aside0 (Own N1 w8 [Obj3 52 gj 1 100 L, cells gm #[.int .i64 1, .int .i64 100, .slice Am L.length cm] 42, emp]) := ⟨o_⟩
        have K8 : Aside0 (KeepS N1 wo w8) := ⟨K7.out.trans k_⟩
        have HRM_8 : Aside0 (Kd.F k32 w8 N1 Am L.length L) := ⟨keepF HRM_7.out k_⟩
        clear c7_1_0 f7_1_0 c7_1_1 f7_1_1 c7_1_2 f7_1_2 O7 K7 HRM_7
        have c8_1_0 : w8.cell? ⟨gm, 0, none⟩ = some (.int .i64 1) := (blk_cell (O8.out.blk (i := 1) rfl) 0).trans rfl
        have f8_1_0 : w8.frozen? ⟨gm, 0, none⟩ = false := blk_frozen (O8.out.blk (i := 1) rfl) 0
        have c8_1_1 : w8.cell? ⟨gm, 1, none⟩ = some (.int .i64 100) := (blk_cell (O8.out.blk (i := 1) rfl) 1).trans rfl
        have f8_1_1 : w8.frozen? ⟨gm, 1, none⟩ = false := blk_frozen (O8.out.blk (i := 1) rfl) 1
        have c8_1_2 : w8.cell? ⟨gm, 2, none⟩ = some (.slice Am L.length cm) := (blk_cell (O8.out.blk (i := 1) rfl) 2).trans rfl
        have f8_1_2 : w8.frozen? ⟨gm, 2, none⟩ = false := blk_frozen (O8.out.blk (i := 1) rfl) 2
        clear o_ k_
        refine pure_ (i := 0) (N := some 89) (v := ?_) (a' := ?_) #[true, false, false, false, false, false, false, false] rfl rfl (by kernel_rfl) (fun _ _ _ h => h) (Or.inl ⟨by rfl, ?_⟩) ?_ ?_
        rotate_left
        · intro w'
          go_simp
          with_reducible rfl
        rotate_left
        · simp only [Act.put, List.setIfInBounds_toArray, List.set_cons_zero, List.set_cons_succ, i64_w, i32_w]
          rfl
        refine pure_ (i := 2) (N := some 91) (v := ?_) (a' := ?_) #[true, false, true, false, false, false, false, false] rfl rfl (by kernel_rfl) (fun _ _ _ h => h) (Or.inl ⟨by rfl, ?_⟩) ?_ ?_
        rotate_left
        · intro w'
          go_simp
          with_reducible rfl
        rotate_left
        · simp only [Act.put, List.setIfInBounds_toArray, List.set_cons_zero, List.set_cons_succ, i64_w, i32_w]
          rfl
        refine pure_ (i := 3) (N := some 92) (v := ?_) (a' := ?_) #[true, false, true, true, false, false, false, false] rfl rfl (by kernel_rfl) (fun _ _ _ h => h) (Or.inl ⟨by rfl, ?_⟩) ?_ ?_
        rotate_left
        · intro w'
          go_simp
          with_reducible rfl
        rotate_left
        · simp only [Act.put, List.setIfInBounds_toArray, List.set_cons_zero, List.set_cons_succ, i64_w, i32_w]
          rfl
        refine pure_ (i := 4) (N := some 93) (v := ?_) (a' := ?_) #[true, false, true, true, true, false, false, false] rfl rfl (by kernel_rfl) (fun _ _ _ h => h) (Or.inl ⟨by rfl, ?_⟩) ?_ ?_
        rotate_left
        · intro w'
          go_simp
          with_reducible rfl
        rotate_left
        · simp only [Act.put, List.setIfInBounds_toArray, List.set_cons_zero, List.set_cons_succ, i64_w, i32_w]
          rfl
        refine take_ (i := 5) (N := some 94) (v := ?_) (a' := ?_) #[true, false, true, true, true, true, false, false] rfl rfl (by kernel_rfl) (fun _ _ _ h => h) (Or.inl ⟨by rfl, ?_⟩) hHeld ?_ ?_
        rotate_left
        · rintro w' ⟨s0, s1, s2⟩
          go_simp
          with_reducible rfl
        rotate_left
        · simp only [Act.put, List.setIfInBounds_toArray, List.set_cons_zero, List.set_cons_succ, i64_w, i32_w]
          rfl
        refine one_ (i := 1) (N := some 90) #[true, true, true, true, true, true, false, false] rfl rfl (by kernel_rfl) (by decide) (fun K_ hK_ => ?_)
        refine goes_ Try.func18 (by kernel_rfl) rfl #[.pointer (some ⟨gj, 0, none⟩), .int .i64 0] (by rfl) rfl rfl (by (try simp only [List.map_toArray, List.map_cons, List.map_nil]); first | done | rfl) ?_
        obtain ⟨N_, on_, nn_, rr_, bb_⟩ := O8.out.frame1 (i := 0) rfl
        refine (From_n 0 L L.length (from_all 0 (by decide) HNU.out) rfl on_ HLL.out HS.out).mono ?_
        rintro e_ w9 ⟨B2, d2, rfl, oo_, kk_⟩
        obtain ⟨o_, k_⟩ := bb_ _ _ _ kk_ oo_
        refine ⟨_, rfl, ?_⟩
        have O9 : Aside0 (Own N1 w9 [Obj3 52 gj 1 100 L, cells gm #[.int .i64 1, .int .i64 100, .slice Am L.length cm] 42, emp, nrow k32 32 (.slice B2 L.length d2) L]) := ⟨o_⟩
        have K9 : Aside0 (KeepS N1 wo w9) := ⟨K8.out.trans k_⟩
        have HRM_9 : Aside0 (Kd.F k32 w9 N1 Am L.length L) := ⟨keepF HRM_8.out k_⟩
        clear c8_1_0 f8_1_0 c8_1_1 f8_1_1 c8_1_2 f8_1_2 O8 K8 HRM_8
        have c9_1_0 : w9.cell? ⟨gm, 0, none⟩ = some (.int .i64 1) := (blk_cell (O9.out.blk (i := 1) rfl) 0).trans rfl
        have f9_1_0 : w9.frozen? ⟨gm, 0, none⟩ = false := blk_frozen (O9.out.blk (i := 1) rfl) 0
        have c9_1_1 : w9.cell? ⟨gm, 1, none⟩ = some (.int .i64 100) := (blk_cell (O9.out.blk (i := 1) rfl) 1).trans rfl
        have f9_1_1 : w9.frozen? ⟨gm, 1, none⟩ = false := blk_frozen (O9.out.blk (i := 1) rfl) 1
        have c9_1_2 : w9.cell? ⟨gm, 2, none⟩ = some (.slice Am L.length cm) := (blk_cell (O9.out.blk (i := 1) rfl) 2).trans rfl
        have f9_1_2 : w9.frozen? ⟨gm, 2, none⟩ = false := blk_frozen (O9.out.blk (i := 1) rfl) 2
        clear o_ k_ oo_ kk_ on_ nn_ rr_ bb_
        clear hHeld
        refine hK_.out _ _ ⟨((blk_cell (O9.out.blk (i := 1) rfl) 0).trans rfl), ((blk_cell (O9.out.blk (i := 1) rfl) 1).trans rfl), ((blk_cell (O9.out.blk (i := 1) rfl) 2).trans rfl)⟩ (fun hHeld => ?_)
        clear hK_ K_
        refine norm_ (a' := ?_) ?_ ?_
        rotate_left
        · simp only [Act.put, List.setIfInBounds_toArray, List.set_cons_zero, List.set_cons_succ, i64_w, i32_w]
          rfl
        refine one_ (i := 6) (N := some 95) #[true, true, true, true, true, true, true, false] rfl rfl (by kernel_rfl) (by decide) (fun K_ hK_ => ?_)
        refine goes_ Try.func17 (by kernel_rfl) rfl #[.slice B2 L.length d2, .slice Am L.length cm] (by rfl) rfl rfl (by (try simp only [List.map_toArray, List.map_cons, List.map_nil]); first | done | rfl) ?_
        refine (chapbookref07_SameAll.calls 200 _ _ L _ _ L true _ (O9.out.nreads (i := 3) rfl).2.2 (O9.out.nreads (i := 3) rfl).2.1 (Kd.F_now HRM_9.out) HCM.out (psameAll 8 200 L (by have := HLL.out; omega) HS.out (by decide) (by have := HI.out.1; have := HL30.out; omega))).mono ?_
        rintro e_ w10 ⟨rfl, hb_⟩
        refine ⟨_, rfl, ?_⟩
        have o_ := O9.out.below hb_
        have k_ := KeepS.of_below (N := N1) hb_
        have O10 : Aside0 (Own N1 w10 [Obj3 52 gj 1 100 L, cells gm #[.int .i64 1, .int .i64 100, .slice Am L.length cm] 42, emp, nrow k32 32 (.slice B2 L.length d2) L]) := ⟨o_⟩
        have K10 : Aside0 (KeepS N1 wo w10) := ⟨K9.out.trans k_⟩
        have HRM_10 : Aside0 (Kd.F k32 w10 N1 Am L.length L) := ⟨keepF HRM_9.out k_⟩
        clear c9_1_0 f9_1_0 c9_1_1 f9_1_1 c9_1_2 f9_1_2 O9 K9 HRM_9
        have c10_1_0 : w10.cell? ⟨gm, 0, none⟩ = some (.int .i64 1) := (blk_cell (O10.out.blk (i := 1) rfl) 0).trans rfl
        have f10_1_0 : w10.frozen? ⟨gm, 0, none⟩ = false := blk_frozen (O10.out.blk (i := 1) rfl) 0
        have c10_1_1 : w10.cell? ⟨gm, 1, none⟩ = some (.int .i64 100) := (blk_cell (O10.out.blk (i := 1) rfl) 1).trans rfl
        have f10_1_1 : w10.frozen? ⟨gm, 1, none⟩ = false := blk_frozen (O10.out.blk (i := 1) rfl) 1
        have c10_1_2 : w10.cell? ⟨gm, 2, none⟩ = some (.slice Am L.length cm) := (blk_cell (O10.out.blk (i := 1) rfl) 2).trans rfl
        have f10_1_2 : w10.frozen? ⟨gm, 2, none⟩ = false := blk_frozen (O10.out.blk (i := 1) rfl) 2
        clear o_ k_ hb_
        clear hHeld
        refine hK_.out _ _ ⟨((blk_cell (O10.out.blk (i := 1) rfl) 0).trans rfl), ((blk_cell (O10.out.blk (i := 1) rfl) 1).trans rfl), ((blk_cell (O10.out.blk (i := 1) rfl) 2).trans rfl)⟩ (fun hHeld => ?_)
        clear hK_ K_
        refine norm_ (a' := ?_) ?_ ?_
        rotate_left
        · simp only [Act.put, List.setIfInBounds_toArray, List.set_cons_zero, List.set_cons_succ, i64_w, i32_w]
          rfl
        refine pure_ (i := 7) (N := some 2) (v := ?_) (a' := ?_) #[true, true, true, true, true, true, true, true] rfl rfl (by kernel_rfl) (fun _ _ _ h => h) (Or.inl ⟨by rfl, ?_⟩) ?_ ?_
        rotate_left
        · intro w'
          go_simp
          with_reducible rfl
        rotate_left
        · simp only [Act.put, List.setIfInBounds_toArray, List.set_cons_zero, List.set_cons_succ, i64_w, i32_w]
          rfl
        refine done_ (by kernel_rfl) ?_
        clear hHeld
        go_wp2
        go_ret
        exact ⟨rfl, (KA.out.trans (K10.out.mono HN1.out)).below (Nat.le_refl _) (fun k hk => by rw [HN.out]; exact hk)⟩
end Go.Proofs.Ytfpegjdplggkpaa.J
