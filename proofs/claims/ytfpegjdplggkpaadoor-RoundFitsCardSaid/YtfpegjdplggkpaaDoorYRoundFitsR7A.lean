/- What Put, Get, Same and Bytes of rounds come to, for the program and for the document: plainly. -/
import Derived.Test.YtfpegjdplggkpaaDoorYRoundFitsRM0
import Derived.Test.YtfpegjdplggkpaaDoorYRoundFitsQ11
import Derived.Test.YtfpegjdplggkpaaDoorYRoundFitsEv
import Derived.Test.YtfpegjdplggkpaaDoorYRoundFitsUA
import Derived.Test.YtfpegjdplggkpaaDoorYRoundFitsPre1
import Derived.Test.YtfpegjdplggkpaaDoorYRoundFitsPre2
import Derived.Test.YtfpegjdplggkpaaDoorYRoundFitsQ5
import Derived.Test.YtfpegjdplggkpaaDoorYRoundFitsQ15
import Derived.Test.YtfpegjdplggkpaaDoorYRoundFitsQ4
import Derived.Test.YtfpegjdplggkpaaDoorYRoundFitsQ6
import Derived.Test.YtfpegjdplggkpaaDoorYRoundFitsQ2
import Derived.Test.YtfpegjdplggkpaaDoorYRoundFitsQ16
import Derived.Test.YtfpegjdplggkpaaDoorYRoundFitsSt0
import Derived.Test.YtfpegjdplggkpaaDoorYRoundFitsStr
import Derived.Test.YtfpegjdplggkpaaDoorYRoundFitsRPut
import Derived.Test.YtfpegjdplggkpaaDoorYRoundFitsQ7
import Derived.Test.YtfpegjdplggkpaaDoorYRoundFitsUR
import Derived.Test.YtfpegjdplggkpaaDoorYRoundFitsQ8
import Derived.Test.YtfpegjdplggkpaaDoorYRoundFitsQ13
import Derived.Test.YtfpegjdplggkpaaDoorYRoundFitsQ9
namespace Go.Proofs.YtfpegjdplggkpaaDoor.Pure
set_option linter.unusedSimpArgs false
set_option linter.unusedVariables false
open Go Go.RowKit Go.Proofs.YtfpegjdplggkpaaDoorW.PrintWords Go.Proofs.YtfpegjdplggkpaaDoorW.PrintLast Go.Proofs.YtfpegjdplggkpaaDoorW.PrintMore Go.Proofs.YtfpegjdplggkpaaDoor.Q
theorem rmay_loop (o n : Int) (l : List Upd) (hl : l.length ≤ 9223372036854775807) : ∀ (d k : Nat) (x : Int), 0 ≤ x → x ≤ l.length → (l.length : Int) - x = d → d + 8 ≤ k → chapbookref07_May.l0 k l.length x o n l = some (firstErr (l.drop x.toNat)) := by
  intro d
  induction d with
  | zero =>
    intro k x h0 h1 hd hk
    obtain ⟨k, rfl⟩ : ∃ m, k = m + 1 := ⟨k - 1, by omega⟩
    simp only [chapbookref07_May.l0]
    rw [if_neg (by omega), List.drop_of_length_le (by omega)]
    rfl
  | succ d ih =>
    intro k x h0 h1 hd hk
    obtain ⟨k, rfl⟩ : ∃ m, k = m + 1 := ⟨k - 1, by omega⟩
    simp only [chapbookref07_May.l0]
    rw [if_pos (by omega), if_pos h0, if_pos (by omega), rdU l x h0 (by omega)]
    obtain ⟨k, rfl⟩ : ∃ m, k = m + 6 := ⟨k - 6, by omega⟩
    rw [rmay_ok k, Option.bind_some]
    unfold firstErr mayU
    split
    · rw [w64s h0 (by omega) hl]
      exact ih (k + 6) (x + 1) (by omega) (by omega) (by omega) (by omega)
    · rfl
theorem rmayR (j : Nat) (o n : Int) (l : List Upd) : chapbookref07_May.f (j + 20) o n l = some (mayR o n l) := by
  have no : ∀ q : Bool, q = true → chapbookref07_May.j0 (j + 20) l.length q o n l = some 1 := fun q hq => by simp only [chapbookref07_May.j0]; rw [if_pos hq]
  unfold chapbookref07_May.f mayR
  by_cases c1 : o < 1
  · rw [if_pos c1, no true rfl, if_pos (by omega)]
  rw [if_neg c1]
  by_cases c2 : o > 64
  · rw [if_pos c2, no true rfl, if_pos (by omega)]
  rw [if_neg c2]
  by_cases c3 : n < 1
  · rw [if_pos c3, no true rfl, if_pos (by omega)]
  rw [if_neg c3]
  by_cases c4 : n > 1099511627776
  · rw [if_pos c4, no true rfl, if_pos (by omega)]
  rw [if_neg c4]
  by_cases c5 : (l.length : Int) < 1
  · rw [if_pos c5, no true rfl, if_pos (by omega)]
  rw [if_neg c5]
  by_cases c6 : (l.length : Int) > 8
  · rw [decide_eq_true c6, no true rfl, if_pos (by omega)]
  rw [decide_eq_false c6, if_neg (by omega)]
  simp only [chapbookref07_May.j0]
  rw [if_neg (by decide)]
  exact rmay_loop o n l (by omega) l.length (j + 19) 0 (by omega) (by omega) (by omega) (by omega)
end Go.Proofs.YtfpegjdplggkpaaDoor.Pure
namespace Go.Proofs.YtfpegjdplggkpaaDoor.Q
set_option linter.unusedSimpArgs false
set_option linter.unusedVariables false
open Go Go.RowKit Go.Proofs.YtfpegjdplggkpaaDoorW.PrintWords Go.Proofs.YtfpegjdplggkpaaDoorW.PrintLast Go.Proofs.YtfpegjdplggkpaaDoorW.PrintMore Go.Proofs.YtfpegjdplggkpaaDoor.Sep Go.Proofs.YtfpegjdplggkpaaDoor.J Go.Proofs.YtfpegjdplggkpaaDoor.Pure
attribute [local go_sem] max2_int min2_int max_two min_two max_three min_three max_four min_four
abbrev HD (g : Nat) (a b c : Int) : HP := cells g #[.int .i64 a, .int .i64 b, .int .i64 c] 3
end Go.Proofs.YtfpegjdplggkpaaDoor.Q
namespace Go.Proofs.YtfpegjdplggkpaaDoor.Pure
set_option linter.unusedSimpArgs false
set_option linter.unusedVariables false
open Go Go.RowKit Go.Proofs.YtfpegjdplggkpaaDoorW.PrintWords Go.Proofs.YtfpegjdplggkpaaDoorW.PrintLast Go.Proofs.YtfpegjdplggkpaaDoorW.PrintMore Go.Proofs.YtfpegjdplggkpaaDoor.Q
def bytesR (o n : Int) (l : List Upd) : ByteArray := headB o n l.length ++ catB l
def putR (o n : Int) (l : List Upd) : ByteArray × Int := if mayR o n l = 0 then (bytesR o n l, 0) else (nil', mayR o n l)
theorem pputR (o n : Int) (l : List Upd) : round_Put.f o n l = some (putR o n l) := by
  unfold round_Put.f putR
  rw [pmay 0, Option.bind_some]
  by_cases h : mayR o n l = 0
  · obtain ⟨h1, h2, h3, h4, h5, h6, h7⟩ := mayR_zero h
    rw [if_pos h, if_pos h, headW_ok (by omega) (by omega) (by omega) (by omega) (by omega) (by omega), addsW_ok _ _ h7]
    rfl
  · rw [if_neg h, if_neg h]
theorem rbytes_loop (o n : Int) (l : List Upd) (hl : l.length ≤ 20) (hm : ∀ z ∈ l, mayU z = 0) : ∀ (d k : Nat) (x : Int) (acc : ByteArray), 0 ≤ x → x ≤ l.length → (l.length : Int) - x = d → d + 15 ≤ k → acc.size + 80 * d ≤ 1000000 → chapbookref07_Bytes.l0 k acc x o n l = some (acc ++ catB (l.drop x.toNat)) := by
  intro d
  induction d with
  | zero =>
    intro k x acc h0 h1 hd hk ha
    obtain ⟨k, rfl⟩ : ∃ m, k = m + 1 := ⟨k - 1, by omega⟩
    simp only [chapbookref07_Bytes.l0]
    rw [if_neg (by omega), List.drop_of_length_le (by omega)]
    show _ = some (acc ++ nil')
    rw [app_nil]
  | succ d ih =>
    intro k x acc h0 h1 hd hk ha
    obtain ⟨k, rfl⟩ : ∃ m, k = m + 1 := ⟨k - 1, by omega⟩
    simp only [chapbookref07_Bytes.l0]
    obtain ⟨k, rfl⟩ : ∃ m, k = m + 13 := ⟨k - 13, by omega⟩
    have hx := hm _ (rd_memP x h0 (by omega))
    have hz := bytesU_max hx
    rw [if_pos (by omega), if_pos h0, rbytes k hx, Option.bind_some, if_pos (by omega), w64s (n := l.length) h0 (by omega) (by omega), ih (k + 13) (x + 1) _ (by omega) (by omega) (by omega) (by omega) (by rw [ByteArray.size_append]; omega), rdU l x h0 (by omega)]
    show some (_ ++ _ ++ _) = some (_ ++ (_ ++ _))
    rw [ByteArray.append_assoc]
theorem rbytesR (k : Nat) {o n : Int} {l : List Upd} (h : mayR o n l = 0) : chapbookref07_Bytes.f (k + 40) o n l = some (bytesR o n l) := by
  obtain ⟨h1, h2, h3, h4, h5, h6, h7⟩ := mayR_zero h
  unfold chapbookref07_Bytes.f
  have e1 := Wr.enc_size o
  have e2 := Wr.enc_size n
  have e3 := Wr.enc_size (l.length : Int)
  rw [rnumber (k + 28) o (by omega) (by omega), Option.bind_some, rnumber (k + 28) n (by omega) (by omega), Option.bind_some, rnumber (k + 28) l.length (by omega) (by omega), Option.bind_some]
  simp only
  rw [if_pos (by omega), if_pos (by rw [ByteArray.size_append]; omega), rbytes_loop o n l (by omega) h7 l.length (k + 40) 0 _ (by omega) (by omega) (by omega) (by omega) (by rw [ByteArray.size_append, ByteArray.size_append]; omega)]
  rfl
theorem great1 (k : ByteArray) (c n : Int) (s : ByteArray) : ∃ b, chapbookref04_Great.f k c n s = some b := by
  unfold chapbookref04_Great.f
  split
  · exact ⟨_, rfl⟩
  · exact ⟨_, rfl⟩
theorem greatA_loop (l : List Upd) (hl : l.length ≤ 9223372036854775807) : ∀ (d k : Nat) (x : Int), 0 ≤ x → x ≤ l.length → (l.length : Int) - x = d → d + 1 ≤ k → ∃ b, chapbookref04_GreatAll.l0 k l x = some b := by
  intro d
  induction d with
  | zero =>
    intro k x h0 h1 hd hk
    obtain ⟨k, rfl⟩ : ∃ m, k = m + 1 := ⟨k - 1, by omega⟩
    simp only [chapbookref04_GreatAll.l0]
    rw [if_neg (by omega)]
    exact ⟨_, rfl⟩
  | succ d ih =>
    intro k x h0 h1 hd hk
    obtain ⟨k, rfl⟩ : ∃ m, k = m + 1 := ⟨k - 1, by omega⟩
    simp only [chapbookref04_GreatAll.l0]
    obtain ⟨b, hb⟩ := ih k (x + 1) (by omega) (by omega) (by omega) (by omega)
    rw [if_pos (by omega), if_pos h0, w64s (n := l.length) h0 (by omega) hl, hb]
    obtain ⟨g, hg⟩ := great1 (rd_T47 l x).f0 (rd_T47 l x).f1 (rd_T47 l x).f2 (rd_T47 l x).f3
    rw [hg, Option.bind_some]
    split
    · exact ⟨_, rfl⟩
    · exact ⟨_, rfl⟩
theorem greatA_ok (k : Nat) (l : List Upd) (hk : 202 ≤ k) : ∃ b, chapbookref04_GreatAll.f k l = some b ∧ (b = false → l.length ≤ 200) := by
  unfold chapbookref04_GreatAll.f
  by_cases c : (l.length : Int) > 200
  · rw [if_pos c]; exact ⟨true, rfl, by simp⟩
  · rw [if_neg c]
    obtain ⟨b, hb⟩ := greatA_loop l (by omega) l.length k 0 (by omega) (by omega) (by omega) (by omega)
    exact ⟨b, hb, fun _ => by omega⟩
theorem awake300 : chapbooklaw07_awake.f 300 = some true := by kernel_rfl
theorem awake299 : chapbooklaw07_awake.f 299 = some true := by kernel_rfl
end Go.Proofs.YtfpegjdplggkpaaDoor.Pure
