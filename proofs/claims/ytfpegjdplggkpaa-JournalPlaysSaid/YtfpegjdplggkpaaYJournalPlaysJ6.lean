/- What the laws of package journal ask of its calls: numbers without gaps, and the calls' answers in the cases that they part. -/
import Derived.Test.YtfpegjdplggkpaaYJournalPlaysJ5
import Derived.Test.YtfpegjdplggkpaaYJournalPlaysQ6
namespace Go.Proofs.Ytfpegjdplggkpaa.J
set_option linter.unusedSimpArgs false
set_option linter.unusedVariables false
open Go Go.RowKit Go.Proofs.YtfpegjdplggkpaaW.PrintWords Go.Proofs.YtfpegjdplggkpaaW.PrintLast Go.Proofs.YtfpegjdplggkpaaW.PrintMore Go.Proofs.Ytfpegjdplggkpaa.Q Go.Proofs.Ytfpegjdplggkpaa.Sep Go.Proofs.Ytfpegjdplggkpaa.Pure
variable {N : Nat → Prop} {w : World} {g : Nat} {o m : Int} {L : List Rnd}
theorem Add_y (B : Option Addr) (c : Nat) (ups : List Upd) (h : Own N w [Obj3 52 g o m L]) (hr : Kd.F k50 w N B ups.length ups) (hc : ups.length ≤ c) (hL : L.length ≤ 1000000) (hu : ups.length ≤ 1000000) (he : addE o m L ups = 0) :
    Calls Try.prog 12 #[.pointer (some ⟨g, 0, none⟩), .slice B ups.length c] w fun e_ w' => ∃ A1 c1, e_ = .returned (.tuple #[.agg #[.int .i64 o, .int .i64 (L.length + 1), .slice A1 ups.length c1], .int .i64 0]) ∧
      Own N w' [Obj3 52 g o m (L ++ [⟨o, L.length + 1, ups⟩]), nrow k50 50 (.slice A1 ups.length c1) ups] ∧ KeepS N w w' := by
  have h1 := Add B c ups h hr hc hL hu
  have e2 : addR o m L ups = ⟨o, L.length + 1, ups⟩ := by unfold addR; rw [if_pos he]
  have e3 : addL o m L ups = L ++ [⟨o, L.length + 1, ups⟩] := by unfold addL; rw [if_pos he]
  rw [he, e2, e3] at h1
  exact h1
theorem Add_n (B : Option Addr) (c : Nat) (ups : List Upd) (h : Own N w [Obj3 52 g o m L]) (hr : Kd.F k50 w N B ups.length ups) (hc : ups.length ≤ c) (hL : L.length ≤ 1000000) (hu : ups.length ≤ 1000000) (E : Int) (he : addE o m L ups = E) (hE : E ≠ 0) :
    Calls Try.prog 12 #[.pointer (some ⟨g, 0, none⟩), .slice B ups.length c] w fun e_ w' => ∃ A1 c1, e_ = .returned (.tuple #[.agg #[.int .i64 0, .int .i64 0, .slice A1 0 c1], .int .i64 E]) ∧
      Own N w' [Obj3 52 g o m L, nrow k50 50 (.slice A1 0 c1) []] ∧ KeepS N w w' := by
  have h1 := Add B c ups h hr hc hL hu
  subst he
  have e2 : addR o m L ups = z32 := by unfold addR; rw [if_neg hE]
  have e3 : addL o m L ups = L := by unfold addL; rw [if_neg hE]
  rw [e2, e3] at h1
  exact h1
theorem addE_lt {ups : List Upd} (h : addE o m L ups = 0) (hm : (L.length : Int) ≤ m) : (L.length : Int) + 1 ≤ m := by
  have h2 : ¬ (L.length : Int) = m := fun e => by
    unfold addE at h
    rw [if_pos e] at h
    exact absurd h (by decide)
  omega
theorem Len_n (n : Int) (hn : (L.length : Int) = n) (h : Own N w [Obj3 52 g o m L]) :
    Calls Try.prog 15 #[.pointer (some ⟨g, 0, none⟩)] w fun e w' => e = .returned (.int .i64 n) ∧ Own N w' [Obj3 52 g o m L] ∧ KeepS N w w' := by
  rw [← hn]
  exact Len h
theorem New_lit {N : Nat → Prop} {w : World} (o m m2 : Int) (h : Own N w []) (hm : mn (mx m 1) 1099511627776 = m2) :
    Calls Try.prog 8 #[.int .i64 o, .int .i64 m] w fun e w' => ∃ g, e = .returned (.pointer (some ⟨g, 0, none⟩)) ∧ Own N w' [Obj3 52 g o m2 []] ∧ KeepS N w w' := by
  rw [← hm]
  exact New o m h
theorem addS {L : List Rnd} {o m : Int} {ups : List Upd} (h : Short L) (he : addE o m L ups = 0) : Short (L ++ [⟨o, L.length + 1, ups⟩]) := by
  have h2 := addL_short (o := o) (m := m) (ups := ups) h
  unfold addL at h2
  rw [if_pos he] at h2
  exact h2
theorem at_FB {w : World} {ok : Nat → Prop} {A : Option Addr} {n : Nat} {xs : List Rnd} (h : Kd.F k32 w ok A n xs) (i : Int) (h0 : 0 ≤ i) (h1 : i < n) : ∃ ad A2 c2, A = some ad ∧ ok (ad.add (i.toNat * 3)).block ∧ w.cell? (ad.add (i.toNat * 3)) = some (.int .i64 (rd_T32 xs i).f0) ∧ w.cell? ⟨(ad.add (i.toNat * 3)).block, (ad.add (i.toNat * 3)).off + 1, none⟩ = some (.int .i64 (rd_T32 xs i).f1) ∧ w.cell? ⟨(ad.add (i.toNat * 3)).block, (ad.add (i.toNat * 3)).off + 2, none⟩ = some (.slice A2 (rd_T32 xs i).f2.length c2) ∧ (rd_T32 xs i).f2.length ≤ c2 ∧ Kd.F k50 w ok A2 (rd_T32 xs i).f2.length (rd_T32 xs i).f2 := by
  obtain ⟨ad, A2, c2, e, r⟩ := at_F h i h0 h1
  obtain ⟨ad', c', e', _, _, _, hb⟩ := Kd.F_get h z32 i h0 h1
  rw [e] at e'
  injection e' with e'
  subst e'
  exact ⟨ad, A2, c2, e, by rw [add_block]; exact hb (by decide), r⟩
theorem keepCell {N : Nat → Prop} {w w' : World} {a : Addr} {v : Value} (hk : KeepS N w w') (h : w.cell? a = some v) (hb : N a.block) : w'.cell? a = some v :=
  (World.cell?_of_block (w := w) (hk.block a.block (World.block_lt_of_cell? w _ h) hb)).trans h
theorem heapU : Kd.Heap k50 := Kd.heap_iso _ (Kd.heap_pair Kd.heap_string (Kd.heap_pair (Kd.heap_int _) (Kd.heap_pair (Kd.heap_int _) Kd.heap_string)))
theorem at_FL {w : World} {ok : Nat → Prop} {A : Option Addr} {n : Nat} {xs : List (List Upd)} (h : Kd.F (Kd.slice 50 k50) w ok A n xs) (i : Int) (h0 : 0 ≤ i) (h1 : i < n) : ∃ ad A0 c0, A = some ad ∧ w.cell? (ad.add i.toNat) = some (.slice A0 (rd_L3 xs i).length c0) ∧ (rd_L3 xs i).length ≤ c0 ∧ Kd.F k50 w ok A0 (rd_L3 xs i).length (rd_L3 xs i) := by
  obtain ⟨ad, c, e, _, hK, hc0, _⟩ := Kd.F_get h ([] : List Upd) i h0 h1
  have hc : ∀ j u, c[j]? = some u → w.cell? (ad.add (i.toNat * 1 + j)) = some u := hc0
  obtain ⟨A0, c0, rfl, l0, g0⟩ := Kd.FK_now hK
  refine ⟨ad, A0, c0, e, by have hq := hc 0 _ rfl; rwa [Nat.mul_one, Nat.add_zero] at hq, l0, fun W' hW => ?_⟩
  obtain ⟨A3, c3, e3, _, g3⟩ := hK W' hW
  simp only [List.cons.injEq, Value.slice.injEq, and_true] at e3
  rw [e3.1]
  exact g3
end Go.Proofs.Ytfpegjdplggkpaa.J
