/- The plain law RoundGets. -/
import Derived.Test.YtfpegjdplggkpaaDoorYRoundGetsR7A
import Derived.Test.YtfpegjdplggkpaaDoorYRoundGetsStr2
import Derived.Test.YtfpegjdplggkpaaDoorYRoundGetsUA
import Derived.Test.YtfpegjdplggkpaaDoorYRoundGetsRU
import Derived.Test.YtfpegjdplggkpaaDoorYRoundGetsQ17
namespace Go.Proofs.YtfpegjdplggkpaaDoor.Pure
set_option linter.unusedSimpArgs false
set_option linter.unusedVariables false
open Go Go.RowKit Go.Proofs.YtfpegjdplggkpaaDoorW.PrintWords Go.Proofs.YtfpegjdplggkpaaDoorW.PrintLast Go.Proofs.YtfpegjdplggkpaaDoorW.PrintMore Go.Proofs.YtfpegjdplggkpaaDoor.Q
theorem upsR_ok {b : ByteArray} {n : Nat} {p : Int} (he : (readU b p 0).2.2.2.2.2 = 0) : upsR b (n + 1) p = (updR b p :: (upsR b n (readU b p 0).2.2.2.2.1).1, (upsR b n (readU b p 0).2.2.2.2.1).2) := by
 show (if _ then _ else _) = _
 rw [if_pos he]
theorem upsR_bad {b : ByteArray} {n : Nat} {p : Int} (he : (readU b p 0).2.2.2.2.2 ≠ 0) : upsR b (n + 1) p = ([], (readU b p 0).2.2.2.2.1, (readU b p 0).2.2.2.2.2) := by
 show (if _ then _ else _) = _
 rw [if_neg he]
theorem upsR_len (b : ByteArray) : ∀ (n : Nat) (p : Int), (upsR b n p).1.length ≤ n
 | 0, p => Nat.zero_le _
 | n + 1, p => by
  by_cases he : (readU b p 0).2.2.2.2.2 = 0
  ·rw [upsR_ok he]
   have := upsR_len b n (readU b p 0).2.2.2.2.1
   simp only [List.length_cons]
   omega
  ·rw [upsR_bad he]
   exact Nat.zero_le _
theorem getR_len (b : ByteArray) : (getR b).2.2.1.length ≤ 8 := by
 unfold getR
 split
 ·exact Nat.zero_le _
 unfold getR1
 split
 ·exact Nat.zero_le _
 unfold getR2
 split
 ·exact Nat.zero_le _
 have p1 := head_place b 0 64 (by omega) (by omega)
 have p2 := head_place b (headR b 0 64).2.1 1099511627776 p1.1 p1.2.1
 have p3 := head_place b (headR b (headR b 0 64).2.1 1099511627776).2.1 8 p2.1 p2.2.1
 rw [cap8] at p3
 have hu := upsR_len b (headR b (headR b (headR b 0 64).2.1 1099511627776).2.1 8).1.toNat (headR b (headR b (headR b 0 64).2.1 1099511627776).2.1 8).2.1
 unfold getR3
 split
 ·exact Nat.zero_le _
 split
 ·exact Nat.zero_le _
 ·simp only
  omega
end Go.Proofs.YtfpegjdplggkpaaDoor.Pure
namespace Go.Proofs.YtfpegjdplggkpaaDoor.Pure
set_option linter.unusedSimpArgs false
set_option linter.unusedVariables false
open Go Go.RowKit Go.Proofs.YtfpegjdplggkpaaDoorW.PrintWords Go.Proofs.YtfpegjdplggkpaaDoorW.PrintLast Go.Proofs.YtfpegjdplggkpaaDoorW.PrintMore Go.Proofs.YtfpegjdplggkpaaDoor.Q
theorem RoundGets (x0 : ByteArray) (g0 : x0.size ≤ 140737488351232) : ∃ k, chapbooklaw07_RoundGets.f k x0 = some true := by
 refine ⟨300, ?_⟩
 unfold chapbooklaw07_RoundGets.f
 rw [awake300, Option.bind_some, if_pos rfl]
 simp only [chapbooklaw07_RoundGets.j0]
 by_cases h : (x0.size : Int) > 800
 ·rw [if_pos (decide_eq_true h), awake299]; rfl
 ·rw [if_neg (by simpa using h), pgetR 259 x0 g0, Option.bind_some, rgetR _ x0 g0, Option.bind_some]
  have hl := getR_len x0
  rw [psame 299 _ _ _ (by omega) (by omega), Option.bind_some, if_pos rfl]
  simp
end Go.Proofs.YtfpegjdplggkpaaDoor.Pure
