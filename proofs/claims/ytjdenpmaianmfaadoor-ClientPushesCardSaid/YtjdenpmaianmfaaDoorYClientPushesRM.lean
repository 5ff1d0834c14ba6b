/- Lists of rounds are the same as themselves; the texts on rounds in one. -/
import Derived.Test.YtjdenpmaianmfaaDoorYClientPushesRM0
import Derived.Test.YtjdenpmaianmfaaDoorYClientPushesQ6
import Derived.Test.YtjdenpmaianmfaaDoorYClientPushesQ7
namespace Go.Proofs.YtjdenpmaianmfaaDoor.Pure
set_option linter.unusedSimpArgs false
set_option linter.unusedVariables false
open Go Go.RowKit Go.Proofs.YtjdenpmaianmfaaDoorW.PrintWords Go.Proofs.YtjdenpmaianmfaaDoorW.PrintLast Go.Proofs.YtjdenpmaianmfaaDoorW.PrintMore Go.Proofs.YtjdenpmaianmfaaDoor.Q
theorem same_loop (a b a' b' : Int) (l : List Upd) (hl : l.length ≤ 9223372036854775807) : ∀ (d k : Nat) (x : Int), 0 ≤ x → x ≤ l.length → (l.length : Int) - x = d → d + 1 ≤ k → chapbookref07_Same.l0 k x a b l a' b' l = some true := by
 intro d
 induction d with
 | zero =>
  intro k x h0 h1 hd hk
  obtain ⟨k, rfl⟩ : ∃ m, k = m + 1 := ⟨k - 1, by omega⟩
  simp only [chapbookref07_Same.l0]
  rw [if_neg (by omega)]
 | succ d ih =>
  intro k x h0 h1 hd hk
  obtain ⟨k, rfl⟩ : ∃ m, k = m + 1 := ⟨k - 1, by omega⟩
  simp only [chapbookref07_Same.l0]
  rw [if_pos (by omega), if_pos h0, if_pos (by omega), if_neg (by simp), w64s h0 (by omega) hl]
  exact ih k (x + 1) (by omega) (by omega) (by omega) (by omega)
theorem psame (k : Nat) (a b : Int) (l : List Upd) (hl : l.length ≤ 9223372036854775807) (hk : l.length + 2 ≤ k) : chapbookref07_Same.f k a b l a b l = some true := by
 unfold chapbookref07_Same.f
 rw [if_pos rfl, if_pos rfl]
 obtain ⟨k, rfl⟩ : ∃ m, k = m + 1 := ⟨k - 1, by omega⟩
 simp only [chapbookref07_Same.j0]
 rw [if_neg (by simp)]
 exact same_loop a b a b l hl l.length k 0 (by omega) (by omega) (by omega) (by omega)
abbrev Rnd := S35
end Go.Proofs.YtjdenpmaianmfaaDoor.Pure
