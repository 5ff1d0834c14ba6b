/- May a round be: what the program answers, plainly. -/
import Derived.Test.YtjdenpmaianmfaaDoorY6May
import Derived.Test.YtjdenpmaianmfaaDoorY6Q4
namespace Go.Proofs.YtjdenpmaianmfaaDoor.Pure
set_option linter.unusedSimpArgs false
set_option linter.unusedVariables false
open Go RowKit YtjdenpmaianmfaaDoorW.PrintWords YtjdenpmaianmfaaDoorW.PrintLast YtjdenpmaianmfaaDoorW.PrintMore Q
abbrev Upd := S32
def mayU (u : Upd) : Int := may u.f0 u.f1 u.f2 u.f3
def firstErr : List Upd → Int
 | [] => 0
 | u :: r => if mayU u = 0 then firstErr r else mayU u
def mayR (o n : Int) (l : List Upd) : Int := if o < 1 ∨ o > 64 ∨ n < 1 ∨ n > 1099511627776 ∨ (l.length : Int) < 1 ∨ (l.length : Int) > 8 then 1 else firstErr l
theorem rdU (l : List Upd) (x : Int) (h0 : 0 ≤ x) (h1 : x < l.length) : l.drop x.toNat = rd_T32 l x :: l.drop (x + 1).toNat := by
 have hl : x.toNat < l.length := by omega
 rw [List.drop_eq_getElem_cons hl]
 unfold rd_T32
 rw [List.getD_eq_getElem?_getD, List.getElem?_eq_getElem hl, show (x + 1).toNat = x.toNat + 1 by omega]
 rfl
theorem w64s {x : Int} {n : Nat} (h0 : 0 ≤ x) (h1 : x < n) (hn : n ≤ 9223372036854775807) : wrap64 (x + 1) = x + 1 := by unfold wrap64; omega
theorem pmay_loop (l : List Upd) (hl : l.length ≤ 9223372036854775807) : ∀ (d k : Nat) (x : Int), 0 ≤ x → x ≤ l.length → (l.length : Int) - x = d → d + 6 ≤ k → round_May.l0 k l l.length x = some (firstErr (l.drop x.toNat)) := by
 intro d
 induction d with
 | zero =>
  intro k x h0 h1 hd hk
  obtain ⟨k, rfl⟩ : ∃ m, k = m + 1 := ⟨k - 1, by omega⟩
  simp only [round_May.l0]
  rw [if_neg (by omega), List.drop_of_length_le (by omega)]
  rfl
 | succ d ih =>
  intro k x h0 h1 hd hk
  obtain ⟨k, rfl⟩ : ∃ m, k = m + 1 := ⟨k - 1, by omega⟩
  simp only [round_May.l0]
  rw [if_pos (by omega), if_pos h0, if_pos (by omega), rdU l x h0 (by omega)]
  obtain ⟨k, rfl⟩ : ∃ m, k = m + 4 := ⟨k - 4, by omega⟩
  rw [may_ok k, Option.bind_some]
  unfold firstErr mayU
  split
  ·rw [w64s h0 (by omega) hl]
   exact ih (k + 4) (x + 1) (by omega) (by omega) (by omega) (by omega)
  ·rfl
theorem in_ok (a b c : Int) : round_in.f a b c = some (decide (a ≥ b ∧ a ≤ c)) := by
 unfold round_in.f
 by_cases h : a ≥ b
 ·rw [if_pos h]; simp [h]
 ·rw [if_neg h]; simp [h]
theorem pmay (j : Nat) (o n : Int) (l : List Upd) : round_May.f (j + 20) o n l = some (mayR o n l) := by
 have no : ∀ q : Bool, q = true → round_May.j0 (j + 20) q o n l = some 1 := fun q hq => by simp only [round_May.j0]; rw [if_pos hq]
 unfold round_May.f mayR
 rw [in_ok, Option.bind_some]
 by_cases c1 : o ≥ 1 ∧ o ≤ 64
 case neg => rw [if_neg (by simp only [decide_eq_true_eq]; exact c1), no true rfl, if_pos (by omega)]
 rw [if_pos (decide_eq_true c1), in_ok, Option.bind_some]
 by_cases c2 : n ≥ 1 ∧ n ≤ 1099511627776
 case neg => rw [if_neg (by simp only [decide_eq_true_eq]; exact c2), no true rfl, if_pos (by omega)]
 rw [if_pos (decide_eq_true c2), in_ok, Option.bind_some]
 by_cases c3 : (l.length : Int) ≥ 1 ∧ (l.length : Int) ≤ 8
 case neg => rw [decide_eq_false c3, Bool.not_false, no true rfl, if_pos (by omega)]
 rw [decide_eq_true c3, if_neg (by omega)]
 simp only [round_May.j0]
 rw [if_neg (by decide)]
 exact pmay_loop l (by omega) l.length (j + 19) 0 (by omega) (by omega) (by omega) (by omega)
end Go.Proofs.YtjdenpmaianmfaaDoor.Pure
