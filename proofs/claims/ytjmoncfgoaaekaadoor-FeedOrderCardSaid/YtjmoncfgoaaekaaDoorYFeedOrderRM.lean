/- Lists of rounds are the same as themselves; the texts on rounds in one. -/
import Derived.Test.YtjmoncfgoaaekaaDoorYFeedOrderRM0
import Derived.Test.YtjmoncfgoaaekaaDoorYFeedOrderQ7
import Derived.Test.YtjmoncfgoaaekaaDoorYFeedOrderQ8
namespace Go.Proofs.YtjmoncfgoaaekaaDoor.Pure
set_option linter.unusedSimpArgs false
set_option linter.unusedVariables false
open Go Go.RowKit Go.Proofs.YtjmoncfgoaaekaaDoorW.PrintWords Go.Proofs.YtjmoncfgoaaekaaDoorW.PrintLast Go.Proofs.YtjmoncfgoaaekaaDoorW.PrintMore Go.Proofs.YtjmoncfgoaaekaaDoor.Q
theorem same_loop (a b a' b' : Int) (l : List Upd) (hl : l.length ≤ 9223372036854775807) : ∀ (d k : Nat) (x : Int), 0 ≤ x → x ≤ l.length → (l.length : Int) - x = d → d + 1 ≤ k → chapbookref07_Same.l0 k x a b l a' b' l = some true := by
 intro d
 induction d with
 | zero =>
  intro k x h0 h1 hd hk
  obtain ⟨k, rfl⟩ : ∃ m, k = m + 1 := ⟨k - 1, by omega⟩
  simp only [chapbookref07_Same.l0]
  rw [if_neg (by omega)]
 | succ d ih =>
  intro k x h0 h1 hd hk
  obtain ⟨k, rfl⟩ : ∃ m, k = m + 1 := ⟨k - 1, by omega⟩
  simp only [chapbookref07_Same.l0]
  rw [if_pos (by omega), if_pos h0, if_pos (by omega), if_neg (by simp), w64s h0 (by omega) hl]
  exact ih k (x + 1) (by omega) (by omega) (by omega) (by omega)
theorem psame (k : Nat) (a b : Int) (l : List Upd) (hl : l.length ≤ 9223372036854775807) (hk : l.length + 2 ≤ k) : chapbookref07_Same.f k a b l a b l = some true := by
 unfold chapbookref07_Same.f
 rw [if_pos rfl, if_pos rfl]
 obtain ⟨k, rfl⟩ : ∃ m, k = m + 1 := ⟨k - 1, by omega⟩
 simp only [chapbookref07_Same.j0]
 rw [if_neg (by simp)]
 exact same_loop a b a b l hl l.length k 0 (by omega) (by omega) (by omega) (by omega)
end Go.Proofs.YtjmoncfgoaaekaaDoor.Pure
namespace Go.Proofs.YtjmoncfgoaaekaaDoor.Pure
set_option linter.unusedSimpArgs false
set_option linter.unusedVariables false
open Go Go.RowKit Go.Proofs.YtjmoncfgoaaekaaDoorW.PrintWords Go.Proofs.YtjmoncfgoaaekaaDoorW.PrintLast Go.Proofs.YtjmoncfgoaaekaaDoorW.PrintMore Go.Proofs.YtjmoncfgoaaekaaDoor.Q
abbrev Rnd := S43
theorem sameAll_loop (m : Nat) (L : List Rnd) (hl : L.length ≤ 9223372036854775807) (hm : ∀ x : Int, 0 ≤ x → x < L.length → (rd_T43 L x).f2.length ≤ m) (hmm : m ≤ 9223372036854775807) : ∀ (d k : Nat) (x : Int), 0 ≤ x → x ≤ L.length → (L.length : Int) - x = d → d + m + 4 ≤ k → chapbookref07_SameAll.l0 k L L x = some true := by
 intro d
 induction d with
 | zero =>
  intro k x h0 h1 hd hk
  obtain ⟨k, rfl⟩ : ∃ m, k = m + 1 := ⟨k - 1, by omega⟩
  simp only [chapbookref07_SameAll.l0]
  rw [if_neg (by omega)]
 | succ d ih =>
  intro k x h0 h1 hd hk
  obtain ⟨k, rfl⟩ : ∃ m, k = m + 1 := ⟨k - 1, by omega⟩
  simp only [chapbookref07_SameAll.l0]
  have h2 := hm x h0 (by omega)
  rw [if_pos (by omega), if_pos h0, if_pos (by omega), psame k _ _ _ (by omega) (by omega), Option.bind_some, if_pos rfl, w64s h0 (by omega) hl]
  exact ih k (x + 1) (by omega) (by omega) (by omega) (by omega)
theorem psameAll (m k : Nat) (L : List Rnd) (hl : L.length ≤ 9223372036854775807) (hm : ∀ x : Int, 0 ≤ x → x < L.length → (rd_T43 L x).f2.length ≤ m) (hmm : m ≤ 9223372036854775807) (hk : L.length + m + 4 ≤ k) : chapbookref07_SameAll.f k L L = some true := by
 unfold chapbookref07_SameAll.f
 rw [if_pos rfl]
 exact sameAll_loop m L hl hm hmm L.length k 0 (by omega) (by omega) (by omega) (by omega)
end Go.Proofs.YtjmoncfgoaaekaaDoor.Pure
