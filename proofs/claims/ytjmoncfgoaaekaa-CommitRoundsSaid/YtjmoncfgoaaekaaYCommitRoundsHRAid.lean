/- Aid for the law CommitRounds: stores into owned rows, Last of the document over foreign rows. -/
import Derived.Test.YtjmoncfgoaaekaaYCommitRoundsC6
import Derived.Test.YtjmoncfgoaaekaaYCommitRoundsC8
import Derived.Test.YtjmoncfgoaaekaaYCommitRoundsC3R
namespace Go.Proofs.Ytjmoncfgoaaekaa.J
set_option linter.unusedSimpArgs false
set_option linter.unusedVariables false
open Go Go.RowKit Go.Proofs.YtjmoncfgoaaekaaW.PrintWords Go.Proofs.YtjmoncfgoaaekaaW.PrintLast Go.Proofs.YtjmoncfgoaaekaaW.PrintMore Go.Proofs.Ytjmoncfgoaaekaa.Q Go.Proofs.Ytjmoncfgoaaekaa.Sep Go.Proofs.Ytjmoncfgoaaekaa.Pure
attribute [local go_sem] max2_int min2_int max_two min_two max_three min_three max_four min_four
theorem adr (g a f : Nat) : (⟨((⟨g, 0, none⟩ : Addr).add a).block, ((⟨g, 0, none⟩ : Addr).add a).off + f, none⟩ : Addr) = ⟨g, a + f, none⟩ := by by_cases h : a = 0 <;> simp [Addr.add, h]
theorem adr0 (g a : Nat) : ((⟨g, 0, none⟩ : Addr).add a) = ⟨g, a + 0, none⟩ := by by_cases h : a = 0 <;> simp [Addr.add, h]
theorem putK {N : Nat → Prop} {w : World} {l : List HP} {i n c : Nat} {A : Option Addr} {xs : List Upd} (s : ByteArray) (h : Own N w l) (hi : l[i]? = some (row kU Sep.TU (.slice A n c) xs)) (j : Int) (h0 : 0 ≤ j) (h1 : j < n) :
    ∃ ad, A = some ad ∧ (∃ z, w.cell? (ad.add (j.toNat * 4)) = some z) ∧ w.frozen? (ad.add (j.toNat * 4)) = false ∧ KeepS N w (w.setCell (ad.add (j.toNat * 4)) (.string s)) ∧ ∃ xs', xs'.length = xs.length ∧ Own N (w.setCell (ad.add (j.toNat * 4)) (.string s)) (l.set i (row kU Sep.TU (.slice A n c) xs')) := by
  obtain ⟨g, rfl, hz, hf, hk, hr⟩ := Own.fput looseU (puts_key s) (by decide) h hi j h0 h1
  refine ⟨⟨g, 0, none⟩, rfl, ?_⟩
  rw [adr0]
  exact ⟨hz, hf, hk, hr⟩
theorem at_W {N : Nat → Prop} {w : World} {l : List HP} {i n c : Nat} {A : Option Addr} {L : List Rnd} (h : Own N w l) (hi : l[i]? = some (row kR Sep.TR (.slice A n c) L)) (p : Int) (p0 : 0 ≤ p) (p1 : p < n) : ∃ (ad : Addr) (A2 : Option Addr) (c2 : Nat), A = some ad ∧ w.cell? (ad.add (p.toNat * 3)) = some (.int .i64 (rd_T31 L p).f0) ∧ w.cell? ⟨(ad.add (p.toNat * 3)).block, (ad.add (p.toNat * 3)).off + 1, none⟩ = some (.int .i64 (rd_T31 L p).f1) ∧ w.cell? ⟨(ad.add (p.toNat * 3)).block, (ad.add (p.toNat * 3)).off + 2, none⟩ = some (.slice A2 (rd_T31 L p).f2.length c2) := by
  obtain ⟨h1, h2, h3⟩ := h.rreads hi
  obtain ⟨ad, c', e, _, hK, hc0⟩ := Kd.C_get h3 z31 p p0 p1
  have hc : ∀ j u, c'[j]? = some u → w.cell? (ad.add (p.toNat * 3 + j)) = some u := hc0
  obtain ⟨A2, c2, rfl, _, _⟩ := k31_open hK
  exact ⟨ad, A2, c2, e, hc 0 _ rfl, by rw [← add_field _ _ 1 (by omega)]; exact hc 1 _ rfl, by rw [← add_field _ _ 2 (by omega)]; exact hc 2 _ rfl⟩
theorem putN {N : Nat → Prop} {w : World} {l : List HP} {i n c m c2 : Nat} {ad : Addr} {A2 : Option Addr} {L : List Rnd} (v : ByteArray) (h : Own N w l) (hi : l[i]? = some (row kR Sep.TR (.slice (some ad) n c) L)) (p j : Int) (p0 : 0 ≤ p) (p1 : p < n) (h0 : 0 ≤ j) (h1 : j < m)
    (hcell : w.cell? ⟨(ad.add (p.toNat * 3)).block, (ad.add (p.toNat * 3)).off + 2, none⟩ = some (.slice A2 m c2)) :
    ∃ a2, A2 = some a2 ∧ (∃ z, w.cell? (a2.add (j.toNat * 4)) = some z) ∧ w.frozen? (a2.add (j.toNat * 4)) = false ∧ KeepS N w (w.setCell (a2.add (j.toNat * 4)) (.string v)) ∧
      (w.setCell (a2.add (j.toNat * 4)) (.string v)).cell? ⟨(ad.add (p.toNat * 3)).block, (ad.add (p.toNat * 3)).off + 2, none⟩ = some (.slice A2 m c2) ∧
      ∃ L', L'.length = L.length ∧ Own N (w.setCell (a2.add (j.toNat * 4)) (.string v)) (l.set i (row kR Sep.TR (.slice (some ad) n c) L')) := by
  obtain ⟨F, hF⟩ := h.fact hi
  obtain ⟨ga, hga⟩ := R_some (show Kd.R kR Sep.TR w 0 F (.slice (some ad) n c) L from hF) (by omega)
  injection hga with hga
  subst hga
  rw [adr] at hcell ⊢
  obtain ⟨g, rfl, hz, hf, hk, hc, hr⟩ := Own.gput (puts_key v) (by decide) h hi p j p0 p1 h0 h1 rfl hcell
  refine ⟨⟨g, 0, none⟩, rfl, ?_⟩
  rw [adr0]
  exact ⟨hz, hf, hk, hc, hr⟩
def cellIs (p : Addr) (v : Value) : HP where
  P := fun F w => F p.block ∧ w.cell? p = some v
  move := fun h _ hk => ⟨h.1, (World.cell?_of_block (hk _ h.1 (World.block_lt_of_cell? _ _ h.2))).trans h.2⟩
  mono := fun h hf => ⟨hf _ h.1, h.2⟩
  bound := fun h => ⟨⟨h.1, World.block_lt_of_cell? _ _ h.2⟩, h.2⟩
theorem mark {N : Nat → Prop} {w : World} {l : List HP} {i n c : Nat} {ad : Addr} {v : Value} {L : List Rnd} (h : Own N w l) (hi : l[i]? = some (row kR Sep.TR (.slice (some ad) n c) L)) (p : Int) (p0 : 0 ≤ p) (p1 : p < n) (hc : w.cell? ⟨(ad.add (p.toNat * 3)).block, (ad.add (p.toNat * 3)).off + 2, none⟩ = some v) :
    Own N w (l.set i (both (row kR Sep.TR (.slice (some ad) n c) L) (cellIs ⟨(ad.add (p.toNat * 3)).block, (ad.add (p.toNat * 3)).off + 2, none⟩ v))) :=
  h.conv hi _ (fun F hp _ => ⟨hp, by
    obtain ⟨ga, hga⟩ := R_some (show Kd.R kR Sep.TR w 0 F (.slice (some ad) n c) L from hp) (by omega)
    injection hga with hga
    subst hga
    obtain ⟨_, _, hF, _⟩ := R_at (show Kd.R kR Sep.TR w 0 F (.slice (some ⟨ga, 0, none⟩) n c) L from hp)
    show F ((⟨ga, 0, none⟩ : Addr).add (p.toNat * 3)).block
    rw [add_block]
    exact hF, hc⟩)
theorem unmark {N : Nat → Prop} {w : World} {l : List HP} {i : Nat} {P X : HP} (h : Own N w l) (hi : l[i]? = some (both P X)) : Own N w (l.set i P) := h.conv hi _ (fun F hp _ => hp.1)
theorem putN2 {N : Nat → Prop} {w : World} {l : List HP} {i n c m c2 : Nat} {ad : Addr} {A2 : Option Addr} {L : List Rnd} (v : ByteArray) (p j : Int) (h : Own N w l) (hi : l[i]? = some (both (row kR Sep.TR (.slice (some ad) n c) L) (cellIs ⟨(ad.add (p.toNat * 3)).block, (ad.add (p.toNat * 3)).off + 2, none⟩ (.slice A2 m c2)))) (p0 : 0 ≤ p) (p1 : p < n) (h0 : 0 ≤ j) (h1 : j < m) :
    ∃ a2, A2 = some a2 ∧ (∃ z, w.cell? (a2.add (j.toNat * 4)) = some z) ∧ w.frozen? (a2.add (j.toNat * 4)) = false ∧ KeepS N w (w.setCell (a2.add (j.toNat * 4)) (.string v)) ∧
      ∃ L', L'.length = L.length ∧ Own N (w.setCell (a2.add (j.toNat * 4)) (.string v)) (l.set i (both (row kR Sep.TR (.slice (some ad) n c) L') (cellIs ⟨(ad.add (p.toNat * 3)).block, (ad.add (p.toNat * 3)).off + 2, none⟩ (.slice A2 m c2)))) := by
  obtain ⟨F, hF⟩ := h.fact hi
  have hlt : i < l.length := (List.getElem?_eq_some_iff.1 hi).1
  obtain ⟨a2, e, hz, hf, hk, hc, L', hl, ho⟩ := putN v (unmark h hi) (List.getElem?_set_self hlt) p j p0 p1 h0 h1 hF.2.2
  rw [List.set_set] at ho
  have hm := mark ho (List.getElem?_set_self hlt) p p0 p1 hc
  rw [List.set_set] at hm
  exact ⟨a2, e, hz, hf, hk, L', hl, hm⟩
theorem row_max {N : Nat → Prop} {w : World} {l : List HP} {i n c : Nat} {A : Option Addr} {L : List Rnd} (h : Own N w l) (hi : l[i]? = some (row kR Sep.TR (.slice A n c) L)) (p : Int) (p0 : 0 ≤ p) (p1 : p < n) : (rd_T31 L p).f2.length ≤ 9223372036854775807 := by
  obtain ⟨F, hF⟩ := h.fact hi
  have hn := (h.rreads hi).1
  obtain ⟨_, inner, ho, hr⟩ := (show Kd.R kR Sep.TR w 0 F (.slice A n c) L from hF)
  have hpl : p.toNat < L.length := by omega
  obtain ⟨c0, c1, e1, e2, c3, c4, e3, e4, v2, e5, hR⟩ := hr.2 p.toNat _ (List.getElem?_eq_getElem hpl)
  have e6 : rd_T31 L p = L[p.toNat] := by
    unfold rd_T31
    rw [List.getD_eq_getElem?_getD, List.getElem?_eq_getElem hpl]
    rfl
  rw [e6]
  obtain ⟨_, inner2, ho2, _⟩ := (show Kd.R kU Sep.TU w 0 _ v2 L[p.toNat].f2 from hR)
  rcases ho2.2 with ⟨_, h2⟩ | ⟨_, cap, _, _, _, _, h2, h3, _⟩
  · rw [h2]; exact Nat.zero_le _
  · exact Nat.le_trans h2 h3
set_option maxHeartbeats 16000000 in
set_option maxRecDepth 100000 in
theorem RLastF {N : Nat → Prop} {w : World} {g : Nat} {C : Int} {L : List Rnd} {A0 : Option Addr} {c0 : Nat} (o : Int) (h : Own N w [cells g #[.int .i64 C, .slice A0 L.length c0] 37]) (hF : Kd.F k31 w N A0 L.length L) (hL : L.length ≤ 1000000) :
    Calls Try.prog 21 #[.pointer (some ⟨g, 0, none⟩), .int .i64 o] w fun e_ w' => e_ = .returned (.int .i64 (lastOf o L)) ∧ Own N w' [cells g #[.int .i64 C, .slice A0 L.length c0] 37] ∧ KeepS N w w' := by
  have HRL0 : Aside0 (Kd.F k31 w N A0 L.length L) := ⟨hF⟩
  have HL := Aside0.mk hL
  have O0 : Aside0 (Own N w [cells g #[.int .i64 C, .slice A0 L.length c0] 37, emp]) := ⟨h.push_emp emp (fun _ => trivial)⟩
  have K0 : Aside0 (KeepS N w w) := ⟨KeepS.refl _ _⟩
  have c0_0_0 : w.cell? ⟨g, 0, none⟩ = some (.int .i64 C) := (blk_cell (O0.out.blk (i := 0) rfl) 0).trans rfl
  have f0_0_0 : w.frozen? ⟨g, 0, none⟩ = false := blk_frozen (O0.out.blk (i := 0) rfl) 0
  have c0_0_1 : w.cell? ⟨g, 1, none⟩ = some (.slice A0 L.length c0) := (blk_cell (O0.out.blk (i := 0) rfl) 1).trans rfl
  have f0_0_1 : w.frozen? ⟨g, 1, none⟩ = false := blk_frozen (O0.out.blk (i := 0) rfl) 1
  clear h hF
  go_enter Try.func21, Try.ntmps21
  go_wp2
  go_loopw [5, 6] (fun v i wr => RLastI N w g C L o A0 c0 v i wr) (fun _ i _ => L.length - (intOf i).toNat)
  case atStart => exact ⟨0, by omega, by omega, rfl, rfl, O0, K0⟩
  case round =>
    clear c0_0_0 f0_0_0 c0_0_1 f0_0_1 hL
    obtain ⟨x, hx0, hx1, rfl, rfl, OA, KA⟩ := hrel
    have hF2 := keepF HRL0.out KA.out
    by_cases hlt : x < (L.length : Int)
    · obtain ⟨ad, A3, c3, e3, x0, x1, x2, hl3, hF3⟩ := at_F hF2 x hx0 hlt
      cases e3
      have hLx := HL.out
      have hs2 : wrap64 (x + 1) = x + 1 := by unfold wrap64; omega
      have hs3 : IntKind.i64.wrap (x + 1) = x + 1 := by rw [IntKind.wrap_i64]; omega
      have hp := eq_true hx0
      have hq := eq_true hlt
      have hd : decide (x < (L.length : Int)) = true := decide_eq_true hlt
      have HX := Aside0.mk (And.intro hx0 hlt)
      clear hF3 hF2 hl3 hLx
      have O1 : Aside0 (Own N wr [cells g #[.int .i64 C, .slice (some ad) L.length c0] 37, emp]) := ⟨OA.out⟩
      have K1 : Aside0 (KeepS N w wr) := ⟨KA.out⟩
      have c1_0_0 : wr.cell? ⟨g, 0, none⟩ = some (.int .i64 C) := (blk_cell (O1.out.blk (i := 0) rfl) 0).trans rfl
      have f1_0_0 : wr.frozen? ⟨g, 0, none⟩ = false := blk_frozen (O1.out.blk (i := 0) rfl) 0
      have c1_0_1 : wr.cell? ⟨g, 1, none⟩ = some (.slice (some ad) L.length c0) := (blk_cell (O1.out.blk (i := 0) rfl) 1).trans rfl
      have f1_0_1 : wr.frozen? ⟨g, 1, none⟩ = false := blk_frozen (O1.out.blk (i := 0) rfl) 1
      clear OA KA
      have HS : Aside0 (upTo L (x + 1) = upTo L x ++ [(rd_T31 L x)]) := ⟨upTo_snoc L x hx0 hlt⟩
      by_cases he : (rd_T31 L x).f0 = o
      · have hee : ((rd_T31 L x).f0 == o) = true := beq_iff_eq.2 he
        have HV : Aside0 (lastOf o (upTo L (x + 1)) = (rd_T31 L x).f1) := ⟨by rw [HS.out, lastOf_snoc, if_pos he]⟩
        clear he hlt
        go_wp2
        go_roundw
        case rel => exact ⟨x + 1, by have := HX.out; omega, by have := HX.out; omega, int_eq (by first | rfl | (unfold wrap64; have := HX.out; have := HL.out; omega)), int_eq HV.out.symm, O1, K1⟩
        case measure => have := HX.out; simp [intOf]; omega
      · have hee : ((rd_T31 L x).f0 == o) = false := beq_eq_false_iff_ne.2 he
        have HV : Aside0 (lastOf o (upTo L (x + 1)) = lastOf o (upTo L x)) := ⟨by rw [HS.out, lastOf_snoc, if_neg he]⟩
        clear he hlt
        go_wp2
        go_roundw
        case rel => exact ⟨x + 1, by have := HX.out; omega, by have := HX.out; omega, int_eq (by first | rfl | (unfold wrap64; have := HX.out; have := HL.out; omega)), int_eq HV.out.symm, O1, K1⟩
        case measure => have := HX.out; simp [intOf]; omega
    · have hxe : x = (L.length : Int) := by omega
      subst hxe
      have hd : decide ((L.length : Int) < (L.length : Int)) = false := decide_eq_false (Int.lt_irrefl _)
      have HT : Aside0 (upTo L (L.length : Int) = L) := ⟨upTo_all L⟩
      clear hlt hx0 hx1 hF2
      have O2 : Aside0 (Own N wr [cells g #[.int .i64 C, .slice A0 L.length c0] 37, emp]) := ⟨OA.out⟩
      have K2 : Aside0 (KeepS N w wr) := ⟨KA.out⟩
      have c2_0_0 : wr.cell? ⟨g, 0, none⟩ = some (.int .i64 C) := (blk_cell (O2.out.blk (i := 0) rfl) 0).trans rfl
      have f2_0_0 : wr.frozen? ⟨g, 0, none⟩ = false := blk_frozen (O2.out.blk (i := 0) rfl) 0
      have c2_0_1 : wr.cell? ⟨g, 1, none⟩ = some (.slice A0 L.length c0) := (blk_cell (O2.out.blk (i := 0) rfl) 1).trans rfl
      have f2_0_1 : wr.frozen? ⟨g, 1, none⟩ = false := blk_frozen (O2.out.blk (i := 0) rfl) 1
      clear OA KA
      go_wp2
      go_ret
      exact ⟨by rw [HT.out]; rfl, O2.out.take 1, K2.out⟩
theorem lastOf_out {C : Int} {L : List Rnd} (h : Good C L) {o : Int} (ho : o < 1 ∨ o > C) : lastOf o L = 0 := by
  have key : ∀ (M : List Rnd) (a : Int), (∀ r ∈ M, r.f0 ≠ o) → M.foldl (fun a r => if r.f0 = o then r.f1 else a) a = a := by
    intro M
    induction M with
    | nil => intro a _; rfl
    | cons r M ih => intro a hm; rw [List.foldl_cons, if_neg (hm r (by simp))]; exact ih a (fun q hq => hm q (by simp [hq]))
  exact key L 0 (fun r hr e => by have h1 := (may_1 (h r hr).1).1; have h2 := (h r hr).2; omega)
theorem Last_n {N : Nat → Prop} {w : World} {g : Nat} {C : Int} {L : List Rnd} (o : Int) (h : Own N w [ObjC g C L]) (hC : 1 ≤ C ∧ C ≤ 64) (hg : Good C L) :
    Calls Try.prog 20 #[.pointer (some ⟨g, 0, none⟩), .int .i64 o] w fun e_ w' => e_ = .returned (.int .i64 (lastOf o L)) ∧ Own N w' [ObjC g C L] ∧ KeepS N w w' := by
  by_cases h1 : o < 1
  · rw [lastOf_out hg (.inl h1)]; exact Last_low o h h1
  by_cases h2 : o > C
  · rw [lastOf_out hg (.inr h2)]; exact Last_high o h h2 hC.1
  · exact Last_in o h (by omega) (by omega) hC.2
theorem skipped_ {P : Program} {oi : Oper} {N : Option Tmp} {a : Act} {w : World} {K : Act → World → Prop} {Q : Exit → Act → World → Prop} {ops : Array Oper} (hw : Region.wanted oi (yielded ops a.tmps) = false) (h : K (a.put N undef) w) : if Region.wanted oi (yielded ops a.tmps) = true then Oper.wp P oi a w K Q else K (a.put N undef) w := by
  rw [hw]; exact h
end Go.Proofs.Ytjmoncfgoaaekaa.J
