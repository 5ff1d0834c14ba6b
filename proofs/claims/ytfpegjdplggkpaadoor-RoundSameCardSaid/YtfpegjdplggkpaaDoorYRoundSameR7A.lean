/- What Put, Get, Same and Bytes of rounds come to, for the program and for the document: plainly. -/
import Derived.Test.YtfpegjdplggkpaaDoorYRoundSameRM0
import Derived.Test.YtfpegjdplggkpaaDoorYRoundSameQ7
import Derived.Test.YtfpegjdplggkpaaDoorYRoundSameEv
import Derived.Test.YtfpegjdplggkpaaDoorYRoundSameUA
import Derived.Test.YtfpegjdplggkpaaDoorYRoundSamePre1
import Derived.Test.YtfpegjdplggkpaaDoorYRoundSamePre0
import Derived.Test.YtfpegjdplggkpaaDoorYRoundSameQ12
import Derived.Test.YtfpegjdplggkpaaDoorYRoundSameQ14
import Derived.Test.YtfpegjdplggkpaaDoorYRoundSameQ13
import Derived.Test.YtfpegjdplggkpaaDoorYRoundSameQ15
import Derived.Test.YtfpegjdplggkpaaDoorYRoundSameQ5
import Derived.Test.YtfpegjdplggkpaaDoorYRoundSameQ4
import Derived.Test.YtfpegjdplggkpaaDoorYRoundSameQ6
import Derived.Test.YtfpegjdplggkpaaDoorYRoundSameQ2
import Derived.Test.YtfpegjdplggkpaaDoorYRoundSameQ16
import Derived.Test.YtfpegjdplggkpaaDoorYRoundSameSt0
import Derived.Test.YtfpegjdplggkpaaDoorYRoundSameStr
import Derived.Test.YtfpegjdplggkpaaDoorYRoundSameRPut
import Derived.Test.YtfpegjdplggkpaaDoorYRoundSameQ11
import Derived.Test.YtfpegjdplggkpaaDoorYRoundSameQ8
import Derived.Test.YtfpegjdplggkpaaDoorYRoundSameQ9
namespace Go.Proofs.YtfpegjdplggkpaaDoor.Pure
set_option linter.unusedSimpArgs false
set_option linter.unusedVariables false
open Go Go.RowKit Go.Proofs.YtfpegjdplggkpaaDoorW.PrintWords Go.Proofs.YtfpegjdplggkpaaDoorW.PrintLast Go.Proofs.YtfpegjdplggkpaaDoorW.PrintMore Go.Proofs.YtfpegjdplggkpaaDoor.Q
theorem same_loop (a b a' b' : Int) (l : List Upd) (hl : l.length ≤ 9223372036854775807) : ∀ (d k : Nat) (x : Int), 0 ≤ x → x ≤ l.length → (l.length : Int) - x = d → d + 1 ≤ k → chapbookref07_Same.l0 k x a b l a' b' l = some true := by
  intro d
  induction d with
  | zero =>
    intro k x h0 h1 hd hk
    obtain ⟨k, rfl⟩ : ∃ m, k = m + 1 := ⟨k - 1, by omega⟩
    simp only [chapbookref07_Same.l0]
    rw [if_neg (by omega)]
  | succ d ih =>
    intro k x h0 h1 hd hk
    obtain ⟨k, rfl⟩ : ∃ m, k = m + 1 := ⟨k - 1, by omega⟩
    simp only [chapbookref07_Same.l0]
    rw [if_pos (by omega), if_pos h0, if_pos (by omega), if_neg (by simp), w64s h0 (by omega) hl]
    exact ih k (x + 1) (by omega) (by omega) (by omega) (by omega)
theorem psame (k : Nat) (a b : Int) (l : List Upd) (hl : l.length ≤ 9223372036854775807) (hk : l.length + 2 ≤ k) : chapbookref07_Same.f k a b l a b l = some true := by
  unfold chapbookref07_Same.f
  rw [if_pos rfl, if_pos rfl]
  obtain ⟨k, rfl⟩ : ∃ m, k = m + 1 := ⟨k - 1, by omega⟩
  simp only [chapbookref07_Same.j0]
  rw [if_neg (by simp)]
  exact same_loop a b a b l hl l.length k 0 (by omega) (by omega) (by omega) (by omega)
end Go.Proofs.YtfpegjdplggkpaaDoor.Pure
namespace Go.Proofs.YtfpegjdplggkpaaDoor.Q
set_option linter.unusedSimpArgs false
set_option linter.unusedVariables false
open Go Go.RowKit Go.Proofs.YtfpegjdplggkpaaDoorW.PrintWords Go.Proofs.YtfpegjdplggkpaaDoorW.PrintLast Go.Proofs.YtfpegjdplggkpaaDoorW.PrintMore Go.Proofs.YtfpegjdplggkpaaDoor.Sep Go.Proofs.YtfpegjdplggkpaaDoor.J Go.Proofs.YtfpegjdplggkpaaDoor.Pure
attribute [local go_sem] max2_int min2_int max_two min_two max_three min_three max_four min_four
abbrev HD (g : Nat) (a b c : Int) : HP := cells g #[.int .i64 a, .int .i64 b, .int .i64 c] 3
end Go.Proofs.YtfpegjdplggkpaaDoor.Q
namespace Go.Proofs.YtfpegjdplggkpaaDoor.Pure
set_option linter.unusedSimpArgs false
set_option linter.unusedVariables false
open Go Go.RowKit Go.Proofs.YtfpegjdplggkpaaDoorW.PrintWords Go.Proofs.YtfpegjdplggkpaaDoorW.PrintLast Go.Proofs.YtfpegjdplggkpaaDoorW.PrintMore Go.Proofs.YtfpegjdplggkpaaDoor.Q
theorem upd_ext (a b : Upd) : (!((a.f0.toList) == (b.f0.toList)) || (!(a.f1 == b.f1) || (!(a.f2 == b.f2) || (!((a.f3.toList) == (b.f3.toList)))))) = true ↔ a ≠ b := by
  have tl : ∀ x y : ByteArray, x.toList = y.toList ↔ x = y := fun x y => ⟨fun h => by apply ByteArray.ext; apply Array.ext'; rw [← ByteArray.toList_eq, ← ByteArray.toList_eq]; exact h, fun h => by rw [h]⟩
  rcases a with ⟨a0, a1, a2, a3⟩
  rcases b with ⟨b0, b1, b2, b3⟩
  simp only [Bool.or_eq_true, Bool.not_eq_true', beq_eq_false_iff_ne, ne_eq, tl, S47.mk.injEq]
  constructor
  · rintro (h | h | h | h) ⟨r1, r2, r3, r4⟩
    · exact h r1
    · exact h r2
    · exact h r3
    · exact h r4
  · intro h
    by_cases h0 : a0 = b0
    · by_cases h1 : a1 = b1
      · by_cases h2 : a2 = b2
        · exact .inr (.inr (.inr (fun h3 => h ⟨h0, h1, h2, h3⟩)))
        · exact .inr (.inr (.inl h2))
      · exact .inr (.inl h1)
    · exact .inl h0
theorem sameG_loop (a b a' b' : Int) (l l' : List Upd) (hll : l.length = l'.length) (hl : l.length ≤ 9223372036854775807) : ∀ (d k : Nat) (x : Int), 0 ≤ x → x ≤ l.length → (l.length : Int) - x = d → d + 1 ≤ k → ∃ q, chapbookref07_Same.l0 k x a b l a' b' l' = some q ∧ (q = true ↔ l.drop x.toNat = l'.drop x.toNat) := by
  intro d
  induction d with
  | zero =>
    intro k x h0 h1 hd hk
    obtain ⟨k, rfl⟩ : ∃ m, k = m + 1 := ⟨k - 1, by omega⟩
    simp only [chapbookref07_Same.l0]
    rw [if_neg (by omega), List.drop_of_length_le (by omega), List.drop_of_length_le (by omega)]
    exact ⟨true, rfl, by simp⟩
  | succ d ih =>
    intro k x h0 h1 hd hk
    obtain ⟨k, rfl⟩ : ∃ m, k = m + 1 := ⟨k - 1, by omega⟩
    simp only [chapbookref07_Same.l0]
    rw [if_pos (by omega), if_pos h0, if_pos (by omega), rdU l x h0 (by omega), rdU l' x h0 (by omega), w64s (n := l.length) h0 (by omega) hl]
    by_cases hq : rd_T47 l x = rd_T47 l' x
    · rw [if_neg (fun h => (upd_ext _ _).1 h hq)]
      obtain ⟨q, h2, h3⟩ := ih k (x + 1) (by omega) (by omega) (by omega) (by omega)
      refine ⟨q, h2, h3.trans ?_⟩
      rw [hq]
      simp
    · rw [if_pos ((upd_ext _ _).2 hq)]
      exact ⟨false, rfl, by simp [hq]⟩
theorem psameG (k : Nat) (a b a' b' : Int) (l l' : List Upd) (hl : l.length ≤ 9223372036854775807) (hk : l.length + 2 ≤ k) : ∃ q, chapbookref07_Same.f k a b l a' b' l' = some q ∧ (q = true ↔ a = a' ∧ b = b' ∧ l = l') := by
  obtain ⟨k, rfl⟩ : ∃ m, k = m + 1 := ⟨k - 1, by omega⟩
  have no : chapbookref07_Same.j0 (k + 1) true a b l a' b' l' = some false := by simp only [chapbookref07_Same.j0]; rw [if_pos trivial]
  unfold chapbookref07_Same.f
  by_cases h1 : a = a'
  case neg => rw [if_neg h1, no]; exact ⟨false, rfl, by simp [h1]⟩
  rw [if_pos h1]
  by_cases h2 : b = b'
  case neg => rw [if_neg h2, no]; exact ⟨false, rfl, by simp [h2]⟩
  rw [if_pos h2]
  by_cases h3 : (l.length : Int) = l'.length
  case neg =>
    rw [bne_iff_ne.2 h3, no]
    refine ⟨false, rfl, ?_⟩
    simp only [Bool.false_eq_true, false_iff, not_and]
    rintro _ _ rfl
    exact h3 rfl
  rw [bne_eq_false_iff_eq.2 h3]
  simp only [chapbookref07_Same.j0]
  rw [if_neg (by decide)]
  obtain ⟨q, h4, h5⟩ := sameG_loop a b a' b' l l' (by omega) hl l.length k 0 (by omega) (by omega) (by omega) (by omega)
  exact ⟨q, h4, h5.trans (by simp [h1, h2])⟩
theorem equal_loop (l l' : List Upd) (hll : l.length = l'.length) (hl : l.length ≤ 9223372036854775807) : ∀ (d k : Nat) (x : Int), 0 ≤ x → x ≤ l.length → (l.length : Int) - x = d → d + 1 ≤ k → ∃ q, api_Update_41.l0 k l l' l.length x = some q ∧ (q = true ↔ l.drop x.toNat = l'.drop x.toNat) := by
  intro d
  induction d with
  | zero =>
    intro k x h0 h1 hd hk
    obtain ⟨k, rfl⟩ : ∃ m, k = m + 1 := ⟨k - 1, by omega⟩
    simp only [api_Update_41.l0]
    rw [if_neg (by omega), List.drop_of_length_le (by omega), List.drop_of_length_le (by omega)]
    exact ⟨true, rfl, by simp⟩
  | succ d ih =>
    intro k x h0 h1 hd hk
    obtain ⟨k, rfl⟩ : ∃ m, k = m + 1 := ⟨k - 1, by omega⟩
    simp only [api_Update_41.l0]
    rw [if_pos (by omega), if_pos h0, if_pos (by omega), if_pos (by omega), rdU l x h0 (by omega), rdU l' x h0 (by omega), w64s (n := l.length) h0 (by omega) hl]
    by_cases hq : rd_T47 l x = rd_T47 l' x
    · rw [if_neg (fun h => (upd_ext _ _).1 h hq)]
      obtain ⟨q, h2, h3⟩ := ih k (x + 1) (by omega) (by omega) (by omega) (by omega)
      refine ⟨q, h2, h3.trans ?_⟩
      rw [hq]
      simp
    · rw [if_pos ((upd_ext _ _).2 hq)]
      exact ⟨false, rfl, by simp [hq]⟩
theorem psameR (k : Nat) (a b a' b' : Int) (l l' : List Upd) (hl : l.length ≤ 9223372036854775807) (hk : l.length + 2 ≤ k) : ∃ q, round_Same.f k a b l a' b' l' = some q ∧ (q = true ↔ a = a' ∧ b = b' ∧ l = l') := by
  unfold round_Same.f
  by_cases h1 : a = a'
  case neg => rw [if_neg h1]; exact ⟨false, rfl, by simp [h1]⟩
  rw [if_pos h1]
  by_cases h2 : b = b'
  case neg => rw [if_neg h2]; exact ⟨false, rfl, by simp [h2]⟩
  rw [if_pos h2]
  unfold api_Update_41.f
  by_cases h3 : (l.length : Int) = l'.length
  case neg =>
    rw [if_neg h3, Option.bind_some]
    refine ⟨false, rfl, ?_⟩
    simp only [Bool.false_eq_true, false_iff, not_and]
    rintro _ _ rfl
    exact h3 rfl
  rw [if_pos h3]
  obtain ⟨q, h4, h5⟩ := equal_loop l l' (by omega) hl l.length k 0 (by omega) (by omega) (by omega) (by omega)
  rw [h4, Option.bind_some]
  exact ⟨q, rfl, h5.trans (by simp [h1, h2])⟩
theorem great1 (k : ByteArray) (c n : Int) (s : ByteArray) : ∃ b, chapbookref04_Great.f k c n s = some b := by
  unfold chapbookref04_Great.f
  split
  · exact ⟨_, rfl⟩
  · exact ⟨_, rfl⟩
theorem greatA_loop (l : List Upd) (hl : l.length ≤ 9223372036854775807) : ∀ (d k : Nat) (x : Int), 0 ≤ x → x ≤ l.length → (l.length : Int) - x = d → d + 1 ≤ k → ∃ b, chapbookref04_GreatAll.l0 k l x = some b := by
  intro d
  induction d with
  | zero =>
    intro k x h0 h1 hd hk
    obtain ⟨k, rfl⟩ : ∃ m, k = m + 1 := ⟨k - 1, by omega⟩
    simp only [chapbookref04_GreatAll.l0]
    rw [if_neg (by omega)]
    exact ⟨_, rfl⟩
  | succ d ih =>
    intro k x h0 h1 hd hk
    obtain ⟨k, rfl⟩ : ∃ m, k = m + 1 := ⟨k - 1, by omega⟩
    simp only [chapbookref04_GreatAll.l0]
    obtain ⟨b, hb⟩ := ih k (x + 1) (by omega) (by omega) (by omega) (by omega)
    rw [if_pos (by omega), if_pos h0, w64s (n := l.length) h0 (by omega) hl, hb]
    obtain ⟨g, hg⟩ := great1 (rd_T47 l x).f0 (rd_T47 l x).f1 (rd_T47 l x).f2 (rd_T47 l x).f3
    rw [hg, Option.bind_some]
    split
    · exact ⟨_, rfl⟩
    · exact ⟨_, rfl⟩
theorem greatA_ok (k : Nat) (l : List Upd) (hk : 202 ≤ k) : ∃ b, chapbookref04_GreatAll.f k l = some b ∧ (b = false → l.length ≤ 200) := by
  unfold chapbookref04_GreatAll.f
  by_cases c : (l.length : Int) > 200
  · rw [if_pos c]; exact ⟨true, rfl, by simp⟩
  · rw [if_neg c]
    obtain ⟨b, hb⟩ := greatA_loop l (by omega) l.length k 0 (by omega) (by omega) (by omega) (by omega)
    exact ⟨b, hb, fun _ => by omega⟩
theorem greatR_ok (k : Nat) (o n : Int) (l : List Upd) (hk : 202 ≤ k) : ∃ b, chapbookref07_Great.f k o n l = some b ∧ (b = false → l.length ≤ 20) := by
  unfold chapbookref07_Great.f
  by_cases c : (l.length : Int) > 20
  · rw [if_pos c]; exact ⟨true, rfl, by simp⟩
  · rw [if_neg c]
    obtain ⟨b, hb, _⟩ := greatA_ok k l hk
    rw [hb, Option.bind_some]
    exact ⟨b, rfl, fun _ => by omega⟩
theorem awake300 : chapbooklaw07_awake.f 300 = some true := by kernel_rfl
theorem awake299 : chapbooklaw07_awake.f 299 = some true := by kernel_rfl
end Go.Proofs.YtfpegjdplggkpaaDoor.Pure
