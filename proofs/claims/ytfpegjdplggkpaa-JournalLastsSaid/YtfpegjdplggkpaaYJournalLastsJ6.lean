/- What the laws of package journal ask of its calls: numbers without gaps, and the calls' answers in the cases that they part. -/
import Derived.Test.YtfpegjdplggkpaaYJournalLastsJ5
import Derived.Test.YtfpegjdplggkpaaYJournalLastsQ6
namespace Go.Proofs.Ytfpegjdplggkpaa.J
set_option linter.unusedSimpArgs false
set_option linter.unusedVariables false
open Go Go.RowKit Go.Proofs.YtfpegjdplggkpaaW.PrintWords Go.Proofs.YtfpegjdplggkpaaW.PrintLast Go.Proofs.YtfpegjdplggkpaaW.PrintMore Go.Proofs.Ytfpegjdplggkpaa.Q Go.Proofs.Ytfpegjdplggkpaa.Sep Go.Proofs.Ytfpegjdplggkpaa.Pure
def Num (L : List Rnd) : Prop := ∀ x : Int, 0 ≤ x → x < L.length → (rd_T32 L x).f1 = x + 1
theorem num_nil : Num [] := fun x h0 h1 => by simp at h1; omega
theorem num_snoc {L : List Rnd} (o : Int) (ups : List Upd) (h : Num L) : Num (L ++ [⟨o, L.length + 1, ups⟩]) := fun x h0 h1 => by
  rw [rd_snoc _ _ x h0 h1]
  rw [List.length_append, List.length_singleton] at h1
  split
  · exact h x h0 (by assumption)
  · show (L.length : Int) + 1 = x + 1
    omega
theorem mem_rd {L : List Rnd} {r : Rnd} (h : r ∈ L) : ∃ x : Int, 0 ≤ x ∧ x < L.length ∧ rd_T32 L x = r := by
  obtain ⟨i, hi, rfl⟩ := List.mem_iff_getElem.1 h
  refine ⟨i, by omega, by omega, ?_⟩
  unfold rd_T32
  rw [List.getD_eq_getElem?_getD, Int.toNat_natCast, List.getElem?_eq_getElem hi]
  rfl
theorem from_all {L : List Rnd} (n : Int) (hn : n ≤ 0) (h : Num L) : fromL n L = L := by
  unfold fromL
  rw [List.filter_eq_self]
  intro r hr
  obtain ⟨x, h0, h1, rfl⟩ := mem_rd hr
  rw [h x h0 h1]
  simp
  omega
variable {N : Nat → Prop} {w : World} {g : Nat} {o m : Int} {L : List Rnd}
theorem Add_y (B : Option Addr) (c : Nat) (ups : List Upd) (h : Own N w [Obj3 52 g o m L]) (hr : Kd.F k50 w N B ups.length ups) (hc : ups.length ≤ c) (hL : L.length ≤ 1000000) (hu : ups.length ≤ 1000000) (he : addE o m L ups = 0) :
    Calls Try.prog 12 #[.pointer (some ⟨g, 0, none⟩), .slice B ups.length c] w fun e_ w' => ∃ A1 c1, e_ = .returned (.tuple #[.agg #[.int .i64 o, .int .i64 (L.length + 1), .slice A1 ups.length c1], .int .i64 0]) ∧
      Own N w' [Obj3 52 g o m (L ++ [⟨o, L.length + 1, ups⟩]), nrow k50 50 (.slice A1 ups.length c1) ups] ∧ KeepS N w w' := by
  have h1 := Add B c ups h hr hc hL hu
  have e2 : addR o m L ups = ⟨o, L.length + 1, ups⟩ := by unfold addR; rw [if_pos he]
  have e3 : addL o m L ups = L ++ [⟨o, L.length + 1, ups⟩] := by unfold addL; rw [if_pos he]
  rw [he, e2, e3] at h1
  exact h1
theorem Add_n (B : Option Addr) (c : Nat) (ups : List Upd) (h : Own N w [Obj3 52 g o m L]) (hr : Kd.F k50 w N B ups.length ups) (hc : ups.length ≤ c) (hL : L.length ≤ 1000000) (hu : ups.length ≤ 1000000) (E : Int) (he : addE o m L ups = E) (hE : E ≠ 0) :
    Calls Try.prog 12 #[.pointer (some ⟨g, 0, none⟩), .slice B ups.length c] w fun e_ w' => ∃ A1 c1, e_ = .returned (.tuple #[.agg #[.int .i64 0, .int .i64 0, .slice A1 0 c1], .int .i64 E]) ∧
      Own N w' [Obj3 52 g o m L, nrow k50 50 (.slice A1 0 c1) []] ∧ KeepS N w w' := by
  have h1 := Add B c ups h hr hc hL hu
  subst he
  have e2 : addR o m L ups = z32 := by unfold addR; rw [if_neg hE]
  have e3 : addL o m L ups = L := by unfold addL; rw [if_neg hE]
  rw [e2, e3] at h1
  exact h1
theorem addE_lt {ups : List Upd} (h : addE o m L ups = 0) (hm : (L.length : Int) ≤ m) : (L.length : Int) + 1 ≤ m := by
  have h2 : ¬ (L.length : Int) = m := fun e => by
    unfold addE at h
    rw [if_pos e] at h
    exact absurd h (by decide)
  omega
theorem From_n (n : Int) (L' : List Rnd) (k : Nat) (hL' : fromL n L = L') (hk : L'.length = k) (h : Own N w [Obj3 52 g o m L]) (hL : L.length ≤ 1000000) (hs : Short L) :
    Calls Try.prog 18 #[.pointer (some ⟨g, 0, none⟩), .int .i64 n] w fun e_ w' => ∃ A1 c1, e_ = .returned (.slice A1 k c1) ∧ Own N w' [Obj3 52 g o m L, nrow k32 32 (.slice A1 k c1) L'] ∧ KeepS N w w' := by
  subst hL'
  subst hk
  exact From n h hL ⟨fun x a b => Nat.le_trans (hs x a b) (by decide)⟩
theorem New_lit {N : Nat → Prop} {w : World} (o m m2 : Int) (h : Own N w []) (hm : mn (mx m 1) 1099511627776 = m2) :
    Calls Try.prog 8 #[.int .i64 o, .int .i64 m] w fun e w' => ∃ g, e = .returned (.pointer (some ⟨g, 0, none⟩)) ∧ Own N w' [Obj3 52 g o m2 []] ∧ KeepS N w w' := by
  rw [← hm]
  exact New o m h
theorem addS {L : List Rnd} {o m : Int} {ups : List Upd} (h : Short L) (he : addE o m L ups = 0) : Short (L ++ [⟨o, L.length + 1, ups⟩]) := by
  have h2 := addL_short (o := o) (m := m) (ups := ups) h
  unfold addL at h2
  rw [if_pos he] at h2
  exact h2
theorem heapU : Kd.Heap k50 := Kd.heap_iso _ (Kd.heap_pair Kd.heap_string (Kd.heap_pair (Kd.heap_int _) (Kd.heap_pair (Kd.heap_int _) Kd.heap_string)))
theorem at_FL {w : World} {ok : Nat → Prop} {A : Option Addr} {n : Nat} {xs : List (List Upd)} (h : Kd.F (Kd.slice 50 k50) w ok A n xs) (i : Int) (h0 : 0 ≤ i) (h1 : i < n) : ∃ ad A0 c0, A = some ad ∧ w.cell? (ad.add i.toNat) = some (.slice A0 (rd_L3 xs i).length c0) ∧ (rd_L3 xs i).length ≤ c0 ∧ Kd.F k50 w ok A0 (rd_L3 xs i).length (rd_L3 xs i) := by
  obtain ⟨ad, c, e, _, hK, hc0, _⟩ := Kd.F_get h ([] : List Upd) i h0 h1
  have hc : ∀ j u, c[j]? = some u → w.cell? (ad.add (i.toNat * 1 + j)) = some u := hc0
  obtain ⟨A0, c0, rfl, l0, g0⟩ := Kd.FK_now hK
  refine ⟨ad, A0, c0, e, by have hq := hc 0 _ rfl; rwa [Nat.mul_one, Nat.add_zero] at hq, l0, fun W' hW => ?_⟩
  obtain ⟨A3, c3, e3, _, g3⟩ := hK W' hW
  simp only [List.cons.injEq, Value.slice.injEq, and_true] at e3
  rw [e3.1]
  exact g3
end Go.Proofs.Ytfpegjdplggkpaa.J
