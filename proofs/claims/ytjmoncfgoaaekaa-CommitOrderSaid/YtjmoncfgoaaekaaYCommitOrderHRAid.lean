/- Aid for the law CommitRounds: stores into owned rows, Last of the document over foreign rows. -/
import Derived.Test.YtjmoncfgoaaekaaYCommitOrderC6
import Derived.Test.YtjmoncfgoaaekaaYCommitOrderC8
import Derived.Test.YtjmoncfgoaaekaaYCommitOrderC3R
namespace Go.Proofs.Ytjmoncfgoaaekaa.J
set_option linter.unusedSimpArgs false
set_option linter.unusedVariables false
open Go Go.RowKit Go.Proofs.YtjmoncfgoaaekaaW.PrintWords Go.Proofs.YtjmoncfgoaaekaaW.PrintLast Go.Proofs.YtjmoncfgoaaekaaW.PrintMore Go.Proofs.Ytjmoncfgoaaekaa.Q Go.Proofs.Ytjmoncfgoaaekaa.Sep Go.Proofs.Ytjmoncfgoaaekaa.Pure
attribute [local go_sem] max2_int min2_int max_two min_two max_three min_three max_four min_four
theorem lastOf_out {C : Int} {L : List Rnd} (h : Good C L) {o : Int} (ho : o < 1 ∨ o > C) : lastOf o L = 0 := by
  have key : ∀ (M : List Rnd) (a : Int), (∀ r ∈ M, r.f0 ≠ o) → M.foldl (fun a r => if r.f0 = o then r.f1 else a) a = a := by
    intro M
    induction M with
    | nil => intro a _; rfl
    | cons r M ih => intro a hm; rw [List.foldl_cons, if_neg (hm r (by simp))]; exact ih a (fun q hq => hm q (by simp [hq]))
  exact key L 0 (fun r hr e => by have h1 := (may_1 (h r hr).1).1; have h2 := (h r hr).2; omega)
theorem Last_n {N : Nat → Prop} {w : World} {g : Nat} {C : Int} {L : List Rnd} (o : Int) (h : Own N w [ObjC g C L]) (hC : 1 ≤ C ∧ C ≤ 64) (hg : Good C L) :
    Calls Try.prog 20 #[.pointer (some ⟨g, 0, none⟩), .int .i64 o] w fun e_ w' => e_ = .returned (.int .i64 (lastOf o L)) ∧ Own N w' [ObjC g C L] ∧ KeepS N w w' := by
  by_cases h1 : o < 1
  · rw [lastOf_out hg (.inl h1)]; exact Last_low o h h1
  by_cases h2 : o > C
  · rw [lastOf_out hg (.inr h2)]; exact Last_high o h h2 hC.1
  · exact Last_in o h (by omega) (by omega) hC.2
end Go.Proofs.Ytjmoncfgoaaekaa.J
