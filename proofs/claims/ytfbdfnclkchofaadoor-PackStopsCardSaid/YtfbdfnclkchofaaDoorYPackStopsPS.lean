/- The plain law PackStops; what 'great' of layer 3 comes to. -/
import Derived.Test.YtfbdfnclkchofaaDoorYPackStopsRd
import Derived.Test.YtfbdfnclkchofaaDoorYPackStopsAwake03
import Derived.Test.YtfbdfnclkchofaaDoorYPackStopsQ3
import Derived.Test.YtfbdfnclkchofaaDoorYPackStopsQ5
namespace Go.Proofs.YtfbdfnclkchofaaDoor.Pure
set_option linter.unusedSimpArgs false
set_option linter.unusedVariables false
open Go Go.RowKit Go.Proofs.YtfbdfnclkchofaaDoorW.PrintWords Go.Proofs.YtfbdfnclkchofaaDoorW.PrintLast Go.Proofs.YtfbdfnclkchofaaDoorW.PrintMore Go.Proofs.YtfbdfnclkchofaaDoor.Q
abbrev Fld := S46
def G46 (x : Fld) : Prop := ((Lit.int .i64 x.f0).wf = true) ∧ ((Lit.int .i64 x.f1).wf = true) ∧ (x.f2.size ≤ 140737488351232)
theorem rd46 (l : List Fld) (i : Nat) (h : i < l.length) : rd_T46 l (i : Int) = l[i] := by simp [rd_T46, List.getD_eq_getElem?_getD, h]
def big (l : List Fld) : Bool := l.any fun z => decide ((z.f2.size : Int) > 200)
theorem drop_at {α : Type} (l : List α) (i : Nat) (h : i < l.length) : l.drop i = l[i] :: l.drop (i + 1) := List.drop_eq_getElem_cons h
theorem great_walk (l : List Fld) (hn : l.length ≤ 140737488351232) (d : Nat) : ∀ (k i : Nat), i + d = l.length → d < k → chapbooklaw03_great.l0 k l (l.length : Int) (i : Int) = some (big (l.drop i)) := by
  induction d with
  | zero =>
    intro k i hi hk
    obtain ⟨k, rfl⟩ : ∃ m, k = m + 1 := ⟨k - 1, by omega⟩
    simp only [chapbooklaw03_great.l0]
    rw [if_neg (by omega), List.drop_of_length_le (by omega)]
    rfl
  | succ d ih =>
    intro k i hi hk
    obtain ⟨k, rfl⟩ : ∃ m, k = m + 1 := ⟨k - 1, by omega⟩
    have hlt : i < l.length := by omega
    simp only [chapbooklaw03_great.l0]
    rw [if_pos (by omega), if_pos (by omega), if_pos (by omega), rd46 l i hlt, drop_at l i hlt]
    unfold big
    rw [List.any_cons]
    by_cases h : ((l[i].f2.size : Nat) : Int) > 200
    · rw [if_pos h, decide_eq_true h]; rfl
    · rw [if_neg h, decide_eq_false h, w64 (n := (i : Int) + 1) (by omega) (by omega)]
      have := ih k (i + 1) (by omega) (by omega)
      rw [show ((i : Int) + 1) = ((i + 1 : Nat) : Int) by omega, this]
      simp [big]
theorem great03 (s : ByteArray) (l : List Fld) (hn : l.length ≤ 140737488351232) : ∃ b, (∀ k, 300 ≤ k → chapbooklaw03_great.f k s l = some b) ∧ (b = false → s.size ≤ 500 ∧ l.length ≤ 200 ∧ big l = false) := by
  by_cases h1 : (s.size : Int) > 500
  · refine ⟨true, fun k hk => ?_, by simp⟩
    obtain ⟨k, rfl⟩ : ∃ m, k = m + 1 := ⟨k - 1, by omega⟩
    unfold chapbooklaw03_great.f
    rw [if_pos h1]
    simp only [chapbooklaw03_great.j0]
    rw [if_pos trivial]
  by_cases h2 : (l.length : Int) > 200
  · refine ⟨true, fun k hk => ?_, by simp⟩
    obtain ⟨k, rfl⟩ : ∃ m, k = m + 1 := ⟨k - 1, by omega⟩
    unfold chapbooklaw03_great.f
    rw [if_neg h1, decide_eq_true h2]
    simp only [chapbooklaw03_great.j0]
    rw [if_pos trivial]
  · refine ⟨big l, fun k hk => ?_, fun h => ⟨by omega, by omega, h⟩⟩
    obtain ⟨k, rfl⟩ : ∃ m, k = m + 1 := ⟨k - 1, by omega⟩
    unfold chapbooklaw03_great.f
    rw [if_neg h1, decide_eq_false h2]
    simp only [chapbooklaw03_great.j0]
    rw [if_neg (by decide)]
    exact great_walk l hn l.length k 0 (by omega) (by omega)
theorem stop_walk (l : List Fld) (hn : l.length ≤ 200) (b : ByteArray) (hs : b.size ≤ 140737488351232) (e : Int) (he : e ≠ 0) (d : Nat) : ∀ (k i : Nat), i + d = l.length → d + 20 < k → chapbooklaw03_PackStops.l0 k e l (l.length : Int) (i : Int) b 0 e = some true := by
  induction d with
  | zero =>
    intro k i hi hk
    obtain ⟨k, rfl⟩ : ∃ m, k = m + 1 := ⟨k - 1, by omega⟩
    simp only [chapbooklaw03_PackStops.l0]
    rw [if_neg (by omega)]
    simp [pack_Reader_Err.f]
  | succ d ih =>
    intro k i hi hk
    obtain ⟨k, rfl⟩ : ∃ m, k = m + 1 := ⟨k - 1, by omega⟩
    have hlt : i < l.length := by omega
    simp only [chapbooklaw03_PackStops.l0]
    obtain ⟨k, rfl⟩ : ∃ m, k = m + 14 := ⟨k - 14, by omega⟩
    rw [if_pos (by omega), if_pos (by omega), if_pos (by omega), rd46 l i hlt]
    unfold pack_Reader_Fail.f
    rw [if_neg he, Option.bind_some]
    simp only
    rw [pnum k b 0 e _ hs, Option.bind_some, numR_fail b _ he]
    simp only
    rw [if_pos trivial, psgn k b 0 e hs, Option.bind_some, sgnR_fail b he]
    simp only
    rw [if_pos trivial, ptxt k b 0 e _ hs (by omega) (by omega), Option.bind_some, txtR_fail b _ he]
    simp only
    rw [if_pos (by rw [ByteArray.toList_eq])]
    simp only [pack_Reader_Err.f, Option.bind_some]
    rw [if_pos trivial, pend, Option.bind_some]
    have h := ih (k + 14) (i + 1) (by omega) (by omega)
    simp only [endR, if_neg he]
    rw [if_pos trivial, w64 (n := (i : Int) + 1) (by omega) (by omega), show ((i : Int) + 1) = ((i + 1 : Nat) : Int) by omega, h]
theorem PackStops (x0 : ByteArray) (g0 : x0.size ≤ 140737488351232) (x1 : List Fld) (g1 : (x1.length * 32 ≤ 140737488351232 ∧ x1.length ≤ maxLen ∧ ∀ z ∈ x1, G46 z)) (x2 : Int) (g2 : (Lit.int .i64 x2).wf = true) : ∃ k, chapbooklaw03_PackStops.f k x0 x1 x2 = some true := by
  obtain ⟨g, hg, hb⟩ := great03 x0 x1 (by omega)
  refine ⟨500, ?_⟩
  unfold chapbooklaw03_PackStops.f
  rw [show pack_Read.f x0 = some (x0, 0, 0) from rfl, Option.bind_some, show chapbooklaw03_awake.f = some true from rfl, Option.bind_some, if_pos rfl, hg 500 (by omega), Option.bind_some]
  have aw : ∀ q, q = true → chapbooklaw03_PackStops.j0 500 x1 x2 q x0 0 0 = some true := by
    intro q hq
    simp only [chapbooklaw03_PackStops.j0]
    rw [if_pos hq]
    rfl
  by_cases h : g = true
  · rw [if_pos h]; exact aw true rfl
  · rw [if_neg h]
    by_cases h2 : x2 = 0
    · exact aw _ (by simp [h2])
    · obtain ⟨a1, a2, _⟩ := hb (by simpa using h)
      simp only [chapbooklaw03_PackStops.j0]
      rw [if_neg (by simp [h2])]
      unfold pack_Reader_Fail.f
      rw [if_pos rfl, Option.bind_some]
      exact stop_walk x1 a2 x0 g0 x2 h2 x1.length 499 0 (by omega) (by omega)
end Go.Proofs.YtfbdfnclkchofaaDoor.Pure
