/- The plain law PackStops; what 'great' of layer 3 comes to. -/
import Derived.Test.YtfbdfnclkchofaaDoorYPackBackRd
import Derived.Test.YtfbdfnclkchofaaDoorYPackBackAwake03
import Derived.Test.YtfbdfnclkchofaaDoorYPackBackQ3
import Derived.Test.YtfbdfnclkchofaaDoorYPackBackQ5
namespace Go.Proofs.YtfbdfnclkchofaaDoor.Pure
set_option linter.unusedSimpArgs false
set_option linter.unusedVariables false
open Go Go.RowKit Go.Proofs.YtfbdfnclkchofaaDoorW.PrintWords Go.Proofs.YtfbdfnclkchofaaDoorW.PrintLast Go.Proofs.YtfbdfnclkchofaaDoorW.PrintMore Go.Proofs.YtfbdfnclkchofaaDoor.Q
abbrev Fld := S46
def G46 (x : Fld) : Prop := ((Lit.int .i64 x.f0).wf = true) ∧ ((Lit.int .i64 x.f1).wf = true) ∧ (x.f2.size ≤ 140737488351232)
theorem rd46 (l : List Fld) (i : Nat) (h : i < l.length) : rd_T46 l (i : Int) = l[i] := by simp [rd_T46, List.getD_eq_getElem?_getD, h]
def big (l : List Fld) : Bool := l.any fun z => decide ((z.f2.size : Int) > 200)
theorem drop_at {α : Type} (l : List α) (i : Nat) (h : i < l.length) : l.drop i = l[i] :: l.drop (i + 1) := List.drop_eq_getElem_cons h
theorem great_walk (l : List Fld) (hn : l.length ≤ 140737488351232) (d : Nat) : ∀ (k i : Nat), i + d = l.length → d < k → chapbooklaw03_great.l0 k l (l.length : Int) (i : Int) = some (big (l.drop i)) := by
  induction d with
  | zero =>
    intro k i hi hk
    obtain ⟨k, rfl⟩ : ∃ m, k = m + 1 := ⟨k - 1, by omega⟩
    simp only [chapbooklaw03_great.l0]
    rw [if_neg (by omega), List.drop_of_length_le (by omega)]
    rfl
  | succ d ih =>
    intro k i hi hk
    obtain ⟨k, rfl⟩ : ∃ m, k = m + 1 := ⟨k - 1, by omega⟩
    have hlt : i < l.length := by omega
    simp only [chapbooklaw03_great.l0]
    rw [if_pos (by omega), if_pos (by omega), if_pos (by omega), rd46 l i hlt, drop_at l i hlt]
    unfold big
    rw [List.any_cons]
    by_cases h : ((l[i].f2.size : Nat) : Int) > 200
    · rw [if_pos h, decide_eq_true h]; rfl
    · rw [if_neg h, decide_eq_false h, w64 (n := (i : Int) + 1) (by omega) (by omega)]
      have := ih k (i + 1) (by omega) (by omega)
      rw [show ((i : Int) + 1) = ((i + 1 : Nat) : Int) by omega, this]
      simp [big]
theorem great03 (s : ByteArray) (l : List Fld) (hn : l.length ≤ 140737488351232) : ∃ b, (∀ k, 300 ≤ k → chapbooklaw03_great.f k s l = some b) ∧ (b = false → s.size ≤ 500 ∧ l.length ≤ 200 ∧ big l = false) := by
  by_cases h1 : (s.size : Int) > 500
  · refine ⟨true, fun k hk => ?_, by simp⟩
    obtain ⟨k, rfl⟩ : ∃ m, k = m + 1 := ⟨k - 1, by omega⟩
    unfold chapbooklaw03_great.f
    rw [if_pos h1]
    simp only [chapbooklaw03_great.j0]
    rw [if_pos trivial]
  by_cases h2 : (l.length : Int) > 200
  · refine ⟨true, fun k hk => ?_, by simp⟩
    obtain ⟨k, rfl⟩ : ∃ m, k = m + 1 := ⟨k - 1, by omega⟩
    unfold chapbooklaw03_great.f
    rw [if_neg h1, decide_eq_true h2]
    simp only [chapbooklaw03_great.j0]
    rw [if_pos trivial]
  · refine ⟨big l, fun k hk => ?_, fun h => ⟨by omega, by omega, h⟩⟩
    obtain ⟨k, rfl⟩ : ∃ m, k = m + 1 := ⟨k - 1, by omega⟩
    unfold chapbooklaw03_great.f
    rw [if_neg h1, decide_eq_false h2]
    simp only [chapbooklaw03_great.j0]
    rw [if_neg (by decide)]
    exact great_walk l hn l.length k 0 (by omega) (by omega)
end Go.Proofs.YtfbdfnclkchofaaDoor.Pure
