/- Journal.Add in one word: what it answers, and what there is behind it. -/
import Derived.Test.YtfpegjdplggkpaaYJournalLastsJ2
import Derived.Test.YtfpegjdplggkpaaYJournalLastsG13
namespace Go.Proofs.Ytfpegjdplggkpaa.J
set_option linter.unusedSimpArgs false
set_option linter.unusedVariables false
open Go Go.RowKit Go.Proofs.YtfpegjdplggkpaaW.PrintWords Go.Proofs.YtfpegjdplggkpaaW.PrintLast Go.Proofs.YtfpegjdplggkpaaW.PrintMore Go.Proofs.Ytfpegjdplggkpaa.Q Go.Proofs.Ytfpegjdplggkpaa.Sep Go.Proofs.Ytfpegjdplggkpaa.Pure
def addE (o m : Int) (L : List Rnd) (ups : List Upd) : Int := if (L.length : Int) = m then 8 else mayR o (L.length + 1) ups
def addR (o m : Int) (L : List Rnd) (ups : List Upd) : Rnd := if addE o m L ups = 0 then ⟨o, L.length + 1, ups⟩ else z32
def addL (o m : Int) (L : List Rnd) (ups : List Upd) : List Rnd := if addE o m L ups = 0 then L ++ [⟨o, L.length + 1, ups⟩] else L
def Short (L : List Rnd) : Prop := ∀ x : Int, 0 ≤ x → x < L.length → (rd_T32 L x).f2.length ≤ 8
theorem mayR_len {o n : Int} {l : List Upd} (h : mayR o n l = 0) : l.length ≤ 8 := by
  unfold mayR at h
  split at h
  · cases h
  · omega
theorem rd_snoc (L : List Rnd) (r : Rnd) (x : Int) (h0 : 0 ≤ x) (h1 : x < (L ++ [r]).length) : rd_T32 (L ++ [r]) x = if x < L.length then rd_T32 L x else r := by
  rw [List.length_append, List.length_singleton] at h1
  unfold rd_T32
  rw [List.getD_eq_getElem?_getD, List.getD_eq_getElem?_getD]
  split
  · rw [List.getElem?_append_left (by omega)]
  · rw [List.getElem?_append_right (by omega), show x.toNat - L.length = 0 by omega]
    rfl
theorem short_nil : Short [] := fun x h0 h1 => by simp at h1; omega
theorem addL_short {o m : Int} {L : List Rnd} {ups : List Upd} (h : Short L) : Short (addL o m L ups) := by
  unfold addL
  split
  · rename_i he
    intro x h0 h1
    rw [rd_snoc _ _ x h0 h1]
    split
    · exact h x h0 (by assumption)
    · unfold addE at he
      split at he
      · cases he
      · exact mayR_len he
  · exact h
theorem Add {N : Nat → Prop} {w : World} {g : Nat} {o m : Int} {L : List Rnd} (B : Option Addr) (c : Nat) (ups : List Upd) (h : Own N w [Obj3 52 g o m L]) (hr : Kd.F k50 w N B ups.length ups) (hc : ups.length ≤ c) (hL : L.length ≤ 1000000) (hu : ups.length ≤ 1000000) :
    Calls Try.prog 12 #[.pointer (some ⟨g, 0, none⟩), .slice B ups.length c] w fun e_ w' => ∃ A1 c1, e_ = .returned (.tuple #[.agg #[.int .i64 (addR o m L ups).f0, .int .i64 (addR o m L ups).f1, .slice A1 (addR o m L ups).f2.length c1], .int .i64 (addE o m L ups)]) ∧
      Own N w' [Obj3 52 g o m (addL o m L ups), nrow k50 50 (.slice A1 (addR o m L ups).f2.length c1) (addR o m L ups).f2] ∧ KeepS N w w' := by
  by_cases h1 : (L.length : Int) = m
  · have e : addE o m L ups = 8 := by unfold addE; rw [if_pos h1]
    have e2 : addR o m L ups = z32 := by unfold addR; rw [e]; rfl
    have e3 : addL o m L ups = L := by unfold addL; rw [e]; rfl
    rw [e, e2, e3]
    exact Add_full B c ups h hr hc hL hu (beq_iff_eq.2 h1)
  have e0 : addE o m L ups = mayR o (L.length + 1) ups := by unfold addE; rw [if_neg h1]
  by_cases h2 : mayR o (L.length + 1) ups = 0
  · have e2 : addR o m L ups = ⟨o, L.length + 1, ups⟩ := by unfold addR; rw [e0, if_pos h2]
    have e3 : addL o m L ups = L ++ [⟨o, L.length + 1, ups⟩] := by unfold addL; rw [e0, if_pos h2]
    rw [e0, e2, e3, h2]
    exact Add_ok B c ups h hr hc hL hu (beq_eq_false_iff_ne.2 h1) 20 (by rw [pmay 0, h2])
  · have e2 : addR o m L ups = z32 := by unfold addR; rw [e0, if_neg h2]
    have e3 : addL o m L ups = L := by unfold addL; rw [e0, if_neg h2]
    rw [e0, e2, e3]
    exact Add_no B c ups h hr hc hL hu (beq_eq_false_iff_ne.2 h1) 20 _ (pmay 0 _ _ _) (by rw [bne_iff_ne]; exact h2)
end Go.Proofs.Ytfpegjdplggkpaa.J
