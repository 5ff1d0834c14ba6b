/- Lists of rounds are the same as themselves; the texts on rounds in one. -/
import Derived.Test.YtjdenpmaianmfaaDoorY6RM0
import Derived.Test.YtjdenpmaianmfaaDoorY6Q7
namespace Go.Proofs.YtjdenpmaianmfaaDoor.Pure
set_option linter.unusedSimpArgs false
set_option linter.unusedVariables false
open Go RowKit YtjdenpmaianmfaaDoorW.PrintWords YtjdenpmaianmfaaDoorW.PrintLast YtjdenpmaianmfaaDoorW.PrintMore Q
theorem rmay_loop (o n : Int) (l : List Upd) (hl : l.length ≤ 9223372036854775807) : ∀ (d k : Nat) (x : Int), 0 ≤ x → x ≤ l.length → (l.length : Int) - x = d → d + 8 ≤ k → chapbookref07_May.l0 k l.length x o n l = some (firstErr (l.drop x.toNat)) := by
 intro d
 induction d with
 | zero =>
  intro k x h0 h1 hd hk
  obtain ⟨k, rfl⟩ : ∃ m, k = m + 1 := ⟨k - 1, by omega⟩
  simp only [chapbookref07_May.l0]
  rw [if_neg (by omega), List.drop_of_length_le (by omega)]
  rfl
 | succ d ih =>
  intro k x h0 h1 hd hk
  obtain ⟨k, rfl⟩ : ∃ m, k = m + 1 := ⟨k - 1, by omega⟩
  simp only [chapbookref07_May.l0]
  rw [if_pos (by omega), if_pos h0, if_pos (by omega), rdU l x h0 (by omega)]
  obtain ⟨k, rfl⟩ : ∃ m, k = m + 6 := ⟨k - 6, by omega⟩
  rw [rmay_ok k, Option.bind_some]
  unfold firstErr mayU
  split
  ·rw [w64s h0 (by omega) hl]
   exact ih (k + 6) (x + 1) (by omega) (by omega) (by omega) (by omega)
  ·rfl
theorem rmayR (j : Nat) (o n : Int) (l : List Upd) : chapbookref07_May.f (j + 20) o n l = some (mayR o n l) := by
 have no : ∀ q : Bool, q = true → chapbookref07_May.j0 (j + 20) l.length q o n l = some 1 := fun q hq => by simp only [chapbookref07_May.j0]; rw [if_pos hq]
 unfold chapbookref07_May.f mayR
 by_cases c1 : o < 1
 ·rw [if_pos c1, no true rfl, if_pos (by omega)]
 rw [if_neg c1]
 by_cases c2 : o > 64
 ·rw [if_pos c2, no true rfl, if_pos (by omega)]
 rw [if_neg c2]
 by_cases c3 : n < 1
 ·rw [if_pos c3, no true rfl, if_pos (by omega)]
 rw [if_neg c3]
 by_cases c4 : n > 1099511627776
 ·rw [if_pos c4, no true rfl, if_pos (by omega)]
 rw [if_neg c4]
 by_cases c5 : (l.length : Int) < 1
 ·rw [if_pos c5, no true rfl, if_pos (by omega)]
 rw [if_neg c5]
 by_cases c6 : (l.length : Int) > 8
 ·rw [decide_eq_true c6, no true rfl, if_pos (by omega)]
 rw [decide_eq_false c6, if_neg (by omega)]
 simp only [chapbookref07_May.j0]
 rw [if_neg (by decide)]
 exact rmay_loop o n l (by omega) l.length (j + 19) 0 (by omega) (by omega) (by omega) (by omega)
theorem same_loop (a b a' b' : Int) (l : List Upd) (hl : l.length ≤ 9223372036854775807) : ∀ (d k : Nat) (x : Int), 0 ≤ x → x ≤ l.length → (l.length : Int) - x = d → d + 1 ≤ k → chapbookref07_Same.l0 k x a b l a' b' l = some true := by
 intro d
 induction d with
 | zero =>
  intro k x h0 h1 hd hk
  obtain ⟨k, rfl⟩ : ∃ m, k = m + 1 := ⟨k - 1, by omega⟩
  simp only [chapbookref07_Same.l0]
  rw [if_neg (by omega)]
 | succ d ih =>
  intro k x h0 h1 hd hk
  obtain ⟨k, rfl⟩ : ∃ m, k = m + 1 := ⟨k - 1, by omega⟩
  simp only [chapbookref07_Same.l0]
  rw [if_pos (by omega), if_pos h0, if_pos (by omega), if_neg (by simp), w64s h0 (by omega) hl]
  exact ih k (x + 1) (by omega) (by omega) (by omega) (by omega)
theorem psame (k : Nat) (a b : Int) (l : List Upd) (hl : l.length ≤ 9223372036854775807) (hk : l.length + 2 ≤ k) : chapbookref07_Same.f k a b l a b l = some true := by
 unfold chapbookref07_Same.f
 rw [if_pos rfl, if_pos rfl]
 obtain ⟨k, rfl⟩ : ∃ m, k = m + 1 := ⟨k - 1, by omega⟩
 simp only [chapbookref07_Same.j0]
 rw [if_neg (by simp)]
 exact same_loop a b a b l hl l.length k 0 (by omega) (by omega) (by omega) (by omega)
abbrev Rnd := S35
theorem sameAll_loop (m : Nat) (L : List Rnd) (hl : L.length ≤ 9223372036854775807) (hm : ∀ x : Int, 0 ≤ x → x < L.length → (rd_T35 L x).f2.length ≤ m) (hmm : m ≤ 9223372036854775807) : ∀ (d k : Nat) (x : Int), 0 ≤ x → x ≤ L.length → (L.length : Int) - x = d → d + m + 4 ≤ k → chapbookref07_SameAll.l0 k L L x = some true := by
 intro d
 induction d with
 | zero =>
  intro k x h0 h1 hd hk
  obtain ⟨k, rfl⟩ : ∃ m, k = m + 1 := ⟨k - 1, by omega⟩
  simp only [chapbookref07_SameAll.l0]
  rw [if_neg (by omega)]
 | succ d ih =>
  intro k x h0 h1 hd hk
  obtain ⟨k, rfl⟩ : ∃ m, k = m + 1 := ⟨k - 1, by omega⟩
  simp only [chapbookref07_SameAll.l0]
  have h2 := hm x h0 (by omega)
  rw [if_pos (by omega), if_pos h0, if_pos (by omega), psame k _ _ _ (by omega) (by omega), Option.bind_some, if_pos rfl, w64s h0 (by omega) hl]
  exact ih k (x + 1) (by omega) (by omega) (by omega) (by omega)
theorem psameAll (m k : Nat) (L : List Rnd) (hl : L.length ≤ 9223372036854775807) (hm : ∀ x : Int, 0 ≤ x → x < L.length → (rd_T35 L x).f2.length ≤ m) (hmm : m ≤ 9223372036854775807) (hk : L.length + m + 4 ≤ k) : chapbookref07_SameAll.f k L L = some true := by
 unfold chapbookref07_SameAll.f
 rw [if_pos rfl]
 exact sameAll_loop m L hl hm hmm L.length k 0 (by omega) (by omega) (by omega) (by omega)
end Go.Proofs.YtjdenpmaianmfaaDoor.Pure
