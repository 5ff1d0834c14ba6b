/- What the laws of package journal ask of its calls: numbers without gaps, and the calls' answers in the cases that they part. -/
import Derived.Test.YtfpegjdplggkpaaYJournalTwoJ5
import Derived.Test.YtfpegjdplggkpaaYJournalTwoQ6
namespace Go.Proofs.Ytfpegjdplggkpaa.J
set_option linter.unusedSimpArgs false
set_option linter.unusedVariables false
open Go Go.RowKit Go.Proofs.YtfpegjdplggkpaaW.PrintWords Go.Proofs.YtfpegjdplggkpaaW.PrintLast Go.Proofs.YtfpegjdplggkpaaW.PrintMore Go.Proofs.Ytfpegjdplggkpaa.Q Go.Proofs.Ytfpegjdplggkpaa.Sep Go.Proofs.Ytfpegjdplggkpaa.Pure
variable {N : Nat → Prop} {w : World} {g : Nat} {o m : Int} {L : List Rnd}
theorem Add_y (B : Option Addr) (c : Nat) (ups : List Upd) (h : Own N w [Obj3 52 g o m L]) (hr : Kd.F k50 w N B ups.length ups) (hc : ups.length ≤ c) (hL : L.length ≤ 1000000) (hu : ups.length ≤ 1000000) (he : addE o m L ups = 0) :
    Calls Try.prog 12 #[.pointer (some ⟨g, 0, none⟩), .slice B ups.length c] w fun e_ w' => ∃ A1 c1, e_ = .returned (.tuple #[.agg #[.int .i64 o, .int .i64 (L.length + 1), .slice A1 ups.length c1], .int .i64 0]) ∧
      Own N w' [Obj3 52 g o m (L ++ [⟨o, L.length + 1, ups⟩]), nrow k50 50 (.slice A1 ups.length c1) ups] ∧ KeepS N w w' := by
  have h1 := Add B c ups h hr hc hL hu
  have e2 : addR o m L ups = ⟨o, L.length + 1, ups⟩ := by unfold addR; rw [if_pos he]
  have e3 : addL o m L ups = L ++ [⟨o, L.length + 1, ups⟩] := by unfold addL; rw [if_pos he]
  rw [he, e2, e3] at h1
  exact h1
theorem Add_n (B : Option Addr) (c : Nat) (ups : List Upd) (h : Own N w [Obj3 52 g o m L]) (hr : Kd.F k50 w N B ups.length ups) (hc : ups.length ≤ c) (hL : L.length ≤ 1000000) (hu : ups.length ≤ 1000000) (E : Int) (he : addE o m L ups = E) (hE : E ≠ 0) :
    Calls Try.prog 12 #[.pointer (some ⟨g, 0, none⟩), .slice B ups.length c] w fun e_ w' => ∃ A1 c1, e_ = .returned (.tuple #[.agg #[.int .i64 0, .int .i64 0, .slice A1 0 c1], .int .i64 E]) ∧
      Own N w' [Obj3 52 g o m L, nrow k50 50 (.slice A1 0 c1) []] ∧ KeepS N w w' := by
  have h1 := Add B c ups h hr hc hL hu
  subst he
  have e2 : addR o m L ups = z32 := by unfold addR; rw [if_neg hE]
  have e3 : addL o m L ups = L := by unfold addL; rw [if_neg hE]
  rw [e2, e3] at h1
  exact h1
theorem Add_yn (n : Int) (hn : (L.length : Int) = n) (B : Option Addr) (c : Nat) (ups : List Upd) (h : Own N w [Obj3 52 g o m L]) (hr : Kd.F k50 w N B ups.length ups) (hc : ups.length ≤ c) (hL : L.length ≤ 1000000) (hu : ups.length ≤ 1000000) (he : addE o m L ups = 0) :
    Calls Try.prog 12 #[.pointer (some ⟨g, 0, none⟩), .slice B ups.length c] w fun e_ w' => ∃ A1 c1, e_ = .returned (.tuple #[.agg #[.int .i64 o, .int .i64 (n + 1), .slice A1 ups.length c1], .int .i64 0]) ∧
      Own N w' [Obj3 52 g o m (L ++ [⟨o, n + 1, ups⟩]), nrow k50 50 (.slice A1 ups.length c1) ups] ∧ KeepS N w w' := by
  subst hn
  exact Add_y B c ups h hr hc hL hu he
theorem addE_two {La Lb : List Rnd} (m : Int) (ups : List Upd) (h : La.length = Lb.length) : addE 7 m Lb ups = addE 1 m La ups := by
  unfold addE mayR
  rw [h]
  have e : ((7 : Int) < 1 ∨ (7 : Int) > 64 ∨ ((Lb.length : Int) + 1) < 1 ∨ ((Lb.length : Int) + 1) > 1099511627776 ∨ (ups.length : Int) < 1 ∨ (ups.length : Int) > 8) ↔ ((1 : Int) < 1 ∨ (1 : Int) > 64 ∨ ((Lb.length : Int) + 1) < 1 ∨ ((Lb.length : Int) + 1) > 1099511627776 ∨ (ups.length : Int) < 1 ∨ (ups.length : Int) > 8) := by omega
  by_cases c : ((7 : Int) < 1 ∨ (7 : Int) > 64 ∨ ((Lb.length : Int) + 1) < 1 ∨ ((Lb.length : Int) + 1) > 1099511627776 ∨ (ups.length : Int) < 1 ∨ (ups.length : Int) > 8)
  · rw [if_pos c, if_pos (e.1 c)]
  · rw [if_neg c, if_neg (fun x => c (e.2 x))]
theorem Len_n (n : Int) (hn : (L.length : Int) = n) (h : Own N w [Obj3 52 g o m L]) :
    Calls Try.prog 15 #[.pointer (some ⟨g, 0, none⟩)] w fun e w' => e = .returned (.int .i64 n) ∧ Own N w' [Obj3 52 g o m L] ∧ KeepS N w w' := by
  rw [← hn]
  exact Len h
theorem New_lit {N : Nat → Prop} {w : World} (o m m2 : Int) (h : Own N w []) (hm : mn (mx m 1) 1099511627776 = m2) :
    Calls Try.prog 8 #[.int .i64 o, .int .i64 m] w fun e w' => ∃ g, e = .returned (.pointer (some ⟨g, 0, none⟩)) ∧ Own N w' [Obj3 52 g o m2 []] ∧ KeepS N w w' := by
  rw [← hm]
  exact New o m h
theorem heapU : Kd.Heap k50 := Kd.heap_iso _ (Kd.heap_pair Kd.heap_string (Kd.heap_pair (Kd.heap_int _) (Kd.heap_pair (Kd.heap_int _) Kd.heap_string)))
theorem at_FL {w : World} {ok : Nat → Prop} {A : Option Addr} {n : Nat} {xs : List (List Upd)} (h : Kd.F (Kd.slice 50 k50) w ok A n xs) (i : Int) (h0 : 0 ≤ i) (h1 : i < n) : ∃ ad A0 c0, A = some ad ∧ w.cell? (ad.add i.toNat) = some (.slice A0 (rd_L3 xs i).length c0) ∧ (rd_L3 xs i).length ≤ c0 ∧ Kd.F k50 w ok A0 (rd_L3 xs i).length (rd_L3 xs i) := by
  obtain ⟨ad, c, e, _, hK, hc0, _⟩ := Kd.F_get h ([] : List Upd) i h0 h1
  have hc : ∀ j u, c[j]? = some u → w.cell? (ad.add (i.toNat * 1 + j)) = some u := hc0
  obtain ⟨A0, c0, rfl, l0, g0⟩ := Kd.FK_now hK
  refine ⟨ad, A0, c0, e, by have hq := hc 0 _ rfl; rwa [Nat.mul_one, Nat.add_zero] at hq, l0, fun W' hW => ?_⟩
  obtain ⟨A3, c3, e3, _, g3⟩ := hK W' hW
  simp only [List.cons.injEq, Value.slice.injEq, and_true] at e3
  rw [e3.1]
  exact g3
end Go.Proofs.Ytfpegjdplggkpaa.J
