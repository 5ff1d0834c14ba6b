/- What is more than is played in the laws of package commit: plainly. -/
import Derived.Test.YtjmoncfgoaaekaaYCommitOrderRM
import Derived.Test.YtjmoncfgoaaekaaYCommitOrderQ6
namespace Go.Proofs.Ytjmoncfgoaaekaa.Pure
set_option linter.unusedSimpArgs false
set_option linter.unusedVariables false
open Go Go.RowKit Go.Proofs.YtjmoncfgoaaekaaW.PrintWords Go.Proofs.YtjmoncfgoaaekaaW.PrintLast Go.Proofs.YtjmoncfgoaaekaaW.PrintMore Go.Proofs.Ytjmoncfgoaaekaa.Q
theorem greatAll_loop (l : List Upd) (hl : l.length ≤ 9223372036854775807) : ∀ (d k : Nat) (x : Int), 0 ≤ x → x ≤ l.length → (l.length : Int) - x = d → d + 1 ≤ k → ∃ b, chapbookref04_GreatAll.l0 k l x = some b := by
  intro d
  induction d with
  | zero =>
    intro k x h0 h1 hd hk
    obtain ⟨k, rfl⟩ : ∃ m, k = m + 1 := ⟨k - 1, by omega⟩
    simp only [chapbookref04_GreatAll.l0]
    rw [if_neg (by omega)]
    exact ⟨_, rfl⟩
  | succ d ih =>
    intro k x h0 h1 hd hk
    obtain ⟨k, rfl⟩ : ∃ m, k = m + 1 := ⟨k - 1, by omega⟩
    simp only [chapbookref04_GreatAll.l0]
    obtain ⟨b, hb⟩ := ih k (x + 1) (by omega) (by omega) (by omega) (by omega)
    rw [if_pos (by omega), if_pos h0, w64s h0 (by omega) hl, hb]
    unfold chapbookref04_Great.f
    split
    · rw [Option.bind_some, if_pos rfl]; exact ⟨_, rfl⟩
    · rw [Option.bind_some]
      split
      · exact ⟨_, rfl⟩
      · exact ⟨_, rfl⟩
theorem greatAll_ok (k : Nat) (l : List Upd) (hk : 202 ≤ k) : ∃ b, chapbookref04_GreatAll.f k l = some b ∧ (b = false → l.length ≤ 200) := by
  unfold chapbookref04_GreatAll.f
  by_cases c : (l.length : Int) > 200
  · rw [if_pos c]; exact ⟨true, rfl, by simp⟩
  · rw [if_neg c]
    obtain ⟨b, hb⟩ := greatAll_loop l (by omega) l.length k 0 (by omega) (by omega) (by omega) (by omega)
    exact ⟨b, hb, fun _ => by omega⟩
theorem great14_loop (l : List Rnd) (hl : l.length ≤ 40) : ∀ (d k : Nat) (x : Int), 0 ≤ x → x ≤ l.length → (l.length : Int) - x = d → d + 204 ≤ k → ∃ b, chapbookref07_GreatAll.l0 k l x = some b ∧ (b = false → ∀ y : Int, x ≤ y → y < l.length → (rd_T31 l y).f2.length ≤ 20) := by
  intro d
  induction d with
  | zero =>
    intro k x h0 h1 hd hk
    obtain ⟨k, rfl⟩ : ∃ m, k = m + 1 := ⟨k - 1, by omega⟩
    simp only [chapbookref07_GreatAll.l0]
    rw [if_neg (by omega)]
    exact ⟨_, rfl, fun _ y _ _ => by omega⟩
  | succ d ih =>
    intro k x h0 h1 hd hk
    obtain ⟨k, rfl⟩ : ∃ m, k = m + 1 := ⟨k - 1, by omega⟩
    simp only [chapbookref07_GreatAll.l0]
    rw [if_pos (by omega), if_pos h0]
    unfold chapbookref07_Great.f
    by_cases c : ((rd_T31 l x).f2.length : Int) > 20
    · rw [if_pos c, Option.bind_some, if_pos rfl]; exact ⟨_, rfl, by simp⟩
    rw [if_neg c]
    obtain ⟨g, hg, _⟩ := greatAll_ok k (rd_T31 l x).f2 (by omega)
    rw [hg, Option.bind_some, Option.bind_some]
    by_cases hq : g = true
    · rw [if_pos hq]; exact ⟨_, rfl, by simp⟩
    · rw [if_neg hq, w64s (n := l.length) h0 (by omega) (by omega)]
      obtain ⟨b, hb, h2⟩ := ih k (x + 1) (by omega) (by omega) (by omega) (by omega)
      refine ⟨b, hb, fun hf y hy0 hy1 => ?_⟩
      by_cases e : y = x
      · subst e; omega
      · exact h2 hf y (by omega) hy1
theorem great14_ok (l : List Rnd) : ∃ b, chapbookref07_GreatAll.f 300 l = some b ∧ (b = false → l.length ≤ 40 ∧ ∀ y : Int, 0 ≤ y → y < l.length → (rd_T31 l y).f2.length ≤ 20) := by
  unfold chapbookref07_GreatAll.f
  by_cases c : (l.length : Int) > 40
  · rw [if_pos c]; exact ⟨true, rfl, by simp⟩
  · rw [if_neg c]
    obtain ⟨b, hb, h2⟩ := great14_loop l (by omega) l.length 300 0 (by omega) (by omega) (by omega) (by omega)
    exact ⟨b, hb, fun hf => ⟨by omega, fun y => h2 hf y⟩⟩
end Go.Proofs.Ytjmoncfgoaaekaa.Pure
