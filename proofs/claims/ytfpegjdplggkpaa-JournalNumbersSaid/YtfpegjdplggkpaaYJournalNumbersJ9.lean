/- What the document's Journal tells behind a number: a plain walk through From of package chapbookref13. -/
import Derived.Test.YtfpegjdplggkpaaYJournalNumbersJ6
import Derived.Test.YtfpegjdplggkpaaYJournalNumbersJ8
namespace Go.Proofs.Ytfpegjdplggkpaa.J
set_option linter.unusedSimpArgs false
set_option linter.unusedVariables false
open Go Go.RowKit Go.Proofs.YtfpegjdplggkpaaW.PrintWords Go.Proofs.YtfpegjdplggkpaaW.PrintLast Go.Proofs.YtfpegjdplggkpaaW.PrintMore Go.Proofs.Ytfpegjdplggkpaa.Q Go.Proofs.Ytfpegjdplggkpaa.Sep Go.Proofs.Ytfpegjdplggkpaa.Pure
attribute [local go_sem] max2_int min2_int max_two min_two max_three min_three max_four min_four
def CutOf (L : List Rnd) (n : Nat) (Am A1 : Option Addr) : Prop := ∀ (N' : Nat → Prop) (w : World), Kd.F k32 w N' Am L.length L → Kd.F k32 w N' A1 (L.drop n).length (L.drop n)
theorem cut_nil {L : List Rnd} {n : Nat} {Am : Option Addr} (h : L.length ≤ n) : CutOf L n Am none := fun N' w _ => by
  rw [List.drop_of_length_le h]
  exact Kd.F_nil _ _ _
theorem cut_at {L : List Rnd} {n c : Nat} {Am : Option Addr} (h : n ≤ L.length) (hc : L.length ≤ c) : CutOf L n Am (if c = n then Am else Am.map (·.add (n * 3))) := fun N' w hF => Kd.F_cut hF h hc
theorem from_drop {L : List Rnd} (h : Num L) (n : Int) : fromL n L = L.drop n.toNat := by
  have key : ∀ (d : Nat) (x : Int), 0 ≤ x → x ≤ L.length → (L.length : Int) - x = d → (L.drop x.toNat).filter (fun r => decide (r.f1 > n)) = L.drop (max x.toNat n.toNat) := by
    intro d
    induction d with
    | zero =>
      intro x h0 h1 hd
      rw [List.drop_of_length_le (by omega), List.drop_of_length_le (by omega)]
      rfl
    | succ d ih =>
      intro x h0 h1 hd
      have hl : x.toNat < L.length := by omega
      have hx := h x h0 (by omega)
      unfold rd_T32 at hx
      rw [List.getD_eq_getElem?_getD, List.getElem?_eq_getElem hl] at hx
      have ih2 := ih (x + 1) (by omega) (by omega) (by omega)
      rw [show (x + 1).toNat = x.toNat + 1 by omega] at ih2
      rw [List.drop_eq_getElem_cons hl, List.filter_cons]
      by_cases c : n ≤ x
      · rw [if_pos (by simp only [Option.getD_some] at hx; rw [hx]; simp; omega), ih2, show max x.toNat n.toNat = x.toNat by omega, show max (x.toNat + 1) n.toNat = x.toNat + 1 by omega, ← List.drop_eq_getElem_cons hl]
      · rw [if_neg (by simp only [Option.getD_some] at hx; rw [hx]; simp; omega), ih2]
        congr 1
        omega
  have := key L.length 0 (by omega) (by omega) (by omega)
  simpa [fromL] using this
theorem short_drop {L : List Rnd} (n : Nat) (h : Short L) : Short (L.drop n) := fun x h0 h1 => by
  rw [List.length_drop] at h1
  have := h (x + n) (by omega) (by omega)
  unfold rd_T32 at this ⊢
  rw [List.getD_eq_getElem?_getD, List.getElem?_drop, ← List.getD_eq_getElem?_getD, show n + x.toNat = (x + n).toNat by omega]
  exact this
set_option maxHeartbeats 8000000 in
set_option maxRecDepth 100000 in
theorem RFrom_negbig {N : Nat → Prop} {w : World} {g : Nat} {o m : Int} {L : List Rnd} {A0 : Option Addr} {c0 : Nat} (n : Int) (h : Own N w [cells g #[.int .i64 o, .int .i64 m, .slice A0 L.length c0] 42]) (hc : L.length ≤ c0) (hL : L.length ≤ 1000000) (h1 : n < 0) (h2 : (L.length : Int) ≤ 0) :
    Calls Try.prog 19 #[.pointer (some ⟨g, 0, none⟩), .int .i64 n] w fun e_ w' => ∃ A1 c1, e_ = .returned (.slice A1 (L.drop n.toNat).length c1) ∧ (L.drop n.toNat).length ≤ c1 ∧ CutOf L n.toNat A0 A1 ∧ Own N w' [cells g #[.int .i64 o, .int .i64 m, .slice A0 L.length c0] 42] ∧ KeepS N w w' := by
  have HC := Aside0.mk hc
  have H2 := Aside0.mk (And.intro h1 h2)
  have O0 : Aside0 (Own N w [cells g #[.int .i64 o, .int .i64 m, .slice A0 L.length c0] 42]) := ⟨h⟩
  have K0 : Aside0 (KeepS N w w) := ⟨KeepS.refl _ _⟩
  have c0_0_0 : w.cell? ⟨g, 0, none⟩ = some (.int .i64 o) := (blk_cell (O0.out.blk (i := 0) rfl) 0).trans rfl
  have f0_0_0 : w.frozen? ⟨g, 0, none⟩ = false := blk_frozen (O0.out.blk (i := 0) rfl) 0
  have c0_0_1 : w.cell? ⟨g, 1, none⟩ = some (.int .i64 m) := (blk_cell (O0.out.blk (i := 0) rfl) 1).trans rfl
  have f0_0_1 : w.frozen? ⟨g, 1, none⟩ = false := blk_frozen (O0.out.blk (i := 0) rfl) 1
  have c0_0_2 : w.cell? ⟨g, 2, none⟩ = some (.slice A0 L.length c0) := (blk_cell (O0.out.blk (i := 0) rfl) 2).trans rfl
  have f0_0_2 : w.frozen? ⟨g, 2, none⟩ = false := blk_frozen (O0.out.blk (i := 0) rfl) 2
  have d1 : decide (n < 0) = true := decide_eq_true (by omega)
  have d2 : decide (0 ≥ (L.length : Int)) = true := decide_eq_true (by omega)
  have d3 : decide ((L.length : Int) ≤ 0) = true := d2
  have d4 : decide (L = []) = true := decide_eq_true (by exact List.eq_nil_of_length_eq_zero (by omega)); clear h hc hL h1 h2
  go_enter Try.func19, Try.ntmps19
  go_wp2
  go_ret
  have en : n.toNat = 0 := by have := H2.out; omega
  have el : (L.drop n.toNat).length = 0 := by rw [List.length_drop]; have := H2.out; omega
  exact ⟨none, 0, by rw [el]; first | done | rfl, by rw [el]; exact Nat.le_refl _, cut_nil (by have := H2.out; omega), O0.out, K0.out⟩
set_option maxHeartbeats 8000000 in
set_option maxRecDepth 100000 in
theorem RFrom_negin {N : Nat → Prop} {w : World} {g : Nat} {o m : Int} {L : List Rnd} {A0 : Option Addr} {c0 : Nat} (n : Int) (h : Own N w [cells g #[.int .i64 o, .int .i64 m, .slice A0 L.length c0] 42]) (hc : L.length ≤ c0) (hL : L.length ≤ 1000000) (h1 : n < 0) (h2 : 0 < (L.length : Int)) :
    Calls Try.prog 19 #[.pointer (some ⟨g, 0, none⟩), .int .i64 n] w fun e_ w' => ∃ A1 c1, e_ = .returned (.slice A1 (L.drop n.toNat).length c1) ∧ (L.drop n.toNat).length ≤ c1 ∧ CutOf L n.toNat A0 A1 ∧ Own N w' [cells g #[.int .i64 o, .int .i64 m, .slice A0 L.length c0] 42] ∧ KeepS N w w' := by
  have HC := Aside0.mk hc
  have H2 := Aside0.mk (And.intro h1 h2)
  have O0 : Aside0 (Own N w [cells g #[.int .i64 o, .int .i64 m, .slice A0 L.length c0] 42]) := ⟨h⟩
  have K0 : Aside0 (KeepS N w w) := ⟨KeepS.refl _ _⟩
  have c0_0_0 : w.cell? ⟨g, 0, none⟩ = some (.int .i64 o) := (blk_cell (O0.out.blk (i := 0) rfl) 0).trans rfl
  have f0_0_0 : w.frozen? ⟨g, 0, none⟩ = false := blk_frozen (O0.out.blk (i := 0) rfl) 0
  have c0_0_1 : w.cell? ⟨g, 1, none⟩ = some (.int .i64 m) := (blk_cell (O0.out.blk (i := 0) rfl) 1).trans rfl
  have f0_0_1 : w.frozen? ⟨g, 1, none⟩ = false := blk_frozen (O0.out.blk (i := 0) rfl) 1
  have c0_0_2 : w.cell? ⟨g, 2, none⟩ = some (.slice A0 L.length c0) := (blk_cell (O0.out.blk (i := 0) rfl) 2).trans rfl
  have f0_0_2 : w.frozen? ⟨g, 2, none⟩ = false := blk_frozen (O0.out.blk (i := 0) rfl) 2
  have d1 : decide (n < 0) = true := decide_eq_true (by omega)
  have d2 : decide (0 ≥ (L.length : Int)) = false := decide_eq_false (by omega)
  have d3 : decide ((L.length : Int) ≤ 0) = false := d2
  obtain ⟨i0, hi0, hzz⟩ := Option.map_eq_some_iff.1 infoR
  have hcut := cut_from 40 32 .i64 Try.underlying40 hi0 3 (by simp only [Prod.mk.injEq] at hzz; exact hzz.2.1) A0 L.length c0 0 (by omega) (by omega)
  clear hi0 hzz
  obtain ⟨A1, hA1⟩ : ∃ A1, A1 = if c0 = n.toNat then A0 else A0.map (·.add (n.toNat * 3)) := ⟨_, rfl⟩
  have HA1 : Aside0 (CutOf L n.toNat A0 A1) := ⟨by rw [hA1]; exact cut_at (by omega) hc⟩
  have en_ : n.toNat = 0 := by omega
  have hcut2 : ∀ W : World, (Instr.slice 40 (.slice A0 L.length c0) (some (.int .i64 0)) none none).run Try.prog W = .ok (.slice A1 L.length c0) W := fun W => by rw [hA1, hcut W, en_]; rfl
  clear hcut hA1 en_
  have d4 : decide (L = []) = false := decide_eq_false (by rintro rfl; simp at h2); clear h hc hL h1 h2
  go_enter Try.func19, Try.ntmps19
  go_wp2
  go_ret
  have en : n.toNat = 0 := by have := H2.out; omega
  have el : (L.drop n.toNat).length = L.length - n.toNat := List.length_drop
  exact ⟨A1, c0 - n.toNat, by rw [el, en]; first | done | rfl | simp, by rw [el]; have := HC.out; omega, HA1.out, O0.out, K0.out⟩
set_option maxHeartbeats 8000000 in
set_option maxRecDepth 100000 in
theorem RFrom_posbig {N : Nat → Prop} {w : World} {g : Nat} {o m : Int} {L : List Rnd} {A0 : Option Addr} {c0 : Nat} (n : Int) (h : Own N w [cells g #[.int .i64 o, .int .i64 m, .slice A0 L.length c0] 42]) (hc : L.length ≤ c0) (hL : L.length ≤ 1000000) (h1 : 0 ≤ n) (h2 : (L.length : Int) ≤ n) :
    Calls Try.prog 19 #[.pointer (some ⟨g, 0, none⟩), .int .i64 n] w fun e_ w' => ∃ A1 c1, e_ = .returned (.slice A1 (L.drop n.toNat).length c1) ∧ (L.drop n.toNat).length ≤ c1 ∧ CutOf L n.toNat A0 A1 ∧ Own N w' [cells g #[.int .i64 o, .int .i64 m, .slice A0 L.length c0] 42] ∧ KeepS N w w' := by
  have HC := Aside0.mk hc
  have H2 := Aside0.mk (And.intro h1 h2)
  have O0 : Aside0 (Own N w [cells g #[.int .i64 o, .int .i64 m, .slice A0 L.length c0] 42]) := ⟨h⟩
  have K0 : Aside0 (KeepS N w w) := ⟨KeepS.refl _ _⟩
  have c0_0_0 : w.cell? ⟨g, 0, none⟩ = some (.int .i64 o) := (blk_cell (O0.out.blk (i := 0) rfl) 0).trans rfl
  have f0_0_0 : w.frozen? ⟨g, 0, none⟩ = false := blk_frozen (O0.out.blk (i := 0) rfl) 0
  have c0_0_1 : w.cell? ⟨g, 1, none⟩ = some (.int .i64 m) := (blk_cell (O0.out.blk (i := 0) rfl) 1).trans rfl
  have f0_0_1 : w.frozen? ⟨g, 1, none⟩ = false := blk_frozen (O0.out.blk (i := 0) rfl) 1
  have c0_0_2 : w.cell? ⟨g, 2, none⟩ = some (.slice A0 L.length c0) := (blk_cell (O0.out.blk (i := 0) rfl) 2).trans rfl
  have f0_0_2 : w.frozen? ⟨g, 2, none⟩ = false := blk_frozen (O0.out.blk (i := 0) rfl) 2
  have d1 : decide (n < 0) = false := decide_eq_false (by omega)
  have d2 : decide (n ≥ (L.length : Int)) = true := decide_eq_true (by omega)
  have d3 : decide ((L.length : Int) ≤ n) = true := d2
  skip; clear h hc hL h1 h2
  go_enter Try.func19, Try.ntmps19
  go_wp2
  go_ret
  have en : n.toNat = n.toNat := by have := H2.out; omega
  have el : (L.drop n.toNat).length = 0 := by rw [List.length_drop]; have := H2.out; omega
  exact ⟨none, 0, by rw [el]; first | done | rfl, by rw [el]; exact Nat.le_refl _, cut_nil (by have := H2.out; omega), O0.out, K0.out⟩
set_option maxHeartbeats 8000000 in
set_option maxRecDepth 100000 in
theorem RFrom_posin {N : Nat → Prop} {w : World} {g : Nat} {o m : Int} {L : List Rnd} {A0 : Option Addr} {c0 : Nat} (n : Int) (h : Own N w [cells g #[.int .i64 o, .int .i64 m, .slice A0 L.length c0] 42]) (hc : L.length ≤ c0) (hL : L.length ≤ 1000000) (h1 : 0 ≤ n) (h2 : n < (L.length : Int)) :
    Calls Try.prog 19 #[.pointer (some ⟨g, 0, none⟩), .int .i64 n] w fun e_ w' => ∃ A1 c1, e_ = .returned (.slice A1 (L.drop n.toNat).length c1) ∧ (L.drop n.toNat).length ≤ c1 ∧ CutOf L n.toNat A0 A1 ∧ Own N w' [cells g #[.int .i64 o, .int .i64 m, .slice A0 L.length c0] 42] ∧ KeepS N w w' := by
  have HC := Aside0.mk hc
  have H2 := Aside0.mk (And.intro h1 h2)
  have O0 : Aside0 (Own N w [cells g #[.int .i64 o, .int .i64 m, .slice A0 L.length c0] 42]) := ⟨h⟩
  have K0 : Aside0 (KeepS N w w) := ⟨KeepS.refl _ _⟩
  have c0_0_0 : w.cell? ⟨g, 0, none⟩ = some (.int .i64 o) := (blk_cell (O0.out.blk (i := 0) rfl) 0).trans rfl
  have f0_0_0 : w.frozen? ⟨g, 0, none⟩ = false := blk_frozen (O0.out.blk (i := 0) rfl) 0
  have c0_0_1 : w.cell? ⟨g, 1, none⟩ = some (.int .i64 m) := (blk_cell (O0.out.blk (i := 0) rfl) 1).trans rfl
  have f0_0_1 : w.frozen? ⟨g, 1, none⟩ = false := blk_frozen (O0.out.blk (i := 0) rfl) 1
  have c0_0_2 : w.cell? ⟨g, 2, none⟩ = some (.slice A0 L.length c0) := (blk_cell (O0.out.blk (i := 0) rfl) 2).trans rfl
  have f0_0_2 : w.frozen? ⟨g, 2, none⟩ = false := blk_frozen (O0.out.blk (i := 0) rfl) 2
  have d1 : decide (n < 0) = false := decide_eq_false (by omega)
  have d2 : decide (n ≥ (L.length : Int)) = false := decide_eq_false (by omega)
  have d3 : decide ((L.length : Int) ≤ n) = false := d2
  obtain ⟨i0, hi0, hzz⟩ := Option.map_eq_some_iff.1 infoR
  have hcut := cut_from 40 32 .i64 Try.underlying40 hi0 3 (by simp only [Prod.mk.injEq] at hzz; exact hzz.2.1) A0 L.length c0 n (by omega) (by omega)
  clear hi0 hzz
  obtain ⟨A1, hA1⟩ : ∃ A1, A1 = if c0 = n.toNat then A0 else A0.map (·.add (n.toNat * 3)) := ⟨_, rfl⟩
  have HA1 : Aside0 (CutOf L n.toNat A0 A1) := ⟨by rw [hA1]; exact cut_at (by omega) hc⟩
  have en_ : n.toNat = n.toNat := by omega
  have hcut2 : ∀ W : World, (Instr.slice 40 (.slice A0 L.length c0) (some (.int .i64 n)) none none).run Try.prog W = .ok (.slice A1 (L.length - n.toNat) (c0 - n.toNat)) W := fun W => by rw [hA1, hcut W]
  clear hcut hA1 en_
  skip; clear h hc hL h1 h2
  go_enter Try.func19, Try.ntmps19
  go_wp2
  go_ret
  have en : n.toNat = n.toNat := by have := H2.out; omega
  have el : (L.drop n.toNat).length = L.length - n.toNat := List.length_drop
  exact ⟨A1, c0 - n.toNat, by rw [el, en]; first | done | rfl | simp, by rw [el]; have := HC.out; omega, HA1.out, O0.out, K0.out⟩
theorem RFrom {N : Nat → Prop} {w : World} {g : Nat} {o m : Int} {L : List Rnd} {A0 : Option Addr} {c0 : Nat} (n : Int) (h : Own N w [cells g #[.int .i64 o, .int .i64 m, .slice A0 L.length c0] 42]) (hc : L.length ≤ c0) (hL : L.length ≤ 1000000) :
    Calls Try.prog 19 #[.pointer (some ⟨g, 0, none⟩), .int .i64 n] w fun e_ w' => ∃ A1 c1, e_ = .returned (.slice A1 (L.drop n.toNat).length c1) ∧ (L.drop n.toNat).length ≤ c1 ∧ CutOf L n.toNat A0 A1 ∧ Own N w' [cells g #[.int .i64 o, .int .i64 m, .slice A0 L.length c0] 42] ∧ KeepS N w w' := by
  by_cases h1 : n < 0
  · by_cases h2 : (L.length : Int) ≤ 0
    · exact RFrom_negbig n h hc hL h1 h2
    · exact RFrom_negin n h hc hL h1 (by omega)
  · by_cases h2 : (L.length : Int) ≤ n
    · exact RFrom_posbig n h hc hL (by omega) h2
    · exact RFrom_posin n h hc hL (by omega) (by omega)
end Go.Proofs.Ytfpegjdplggkpaa.J
