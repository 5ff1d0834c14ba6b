/- Small plain lemmas that this seat's walks want: orders of texts, empty texts. -/
import Derived.Test.YtjdenpmaianmfaaDoorYModelReadsQ0
import Derived.WalkLawsBesides
import Derived.Test.YtjdenpmaianmfaaDoorYModelReadsWLast
namespace Go.Proofs.YtjdenpmaianmfaaDoor.Q
set_option linter.unusedVariables false
open Go Go.RowKit
theorem isEmpty_bne (l : List UInt8) : l.isEmpty = !(l != []) := by cases l <;> rfl
theorem beq_nil (l : List UInt8) : (l == []) = l.isEmpty := by cases l <;> rfl
section
open Go.Proofs.YtjdenpmaianmfaaDoorW.PrintWords Go.Proofs.YtjdenpmaianmfaaDoorW.PrintLast
variable {P : Program} {ops : Array Oper} {Q : Exit → Act → World → Prop} {md : Region.Mode} {S : World → Prop} {ds : List Nat} {oi : Oper} {v : Value} {fuel : Nat} {l l' : Array Bool} {a a' : Act} {w : World}
end
end Go.Proofs.YtjdenpmaianmfaaDoor.Q
