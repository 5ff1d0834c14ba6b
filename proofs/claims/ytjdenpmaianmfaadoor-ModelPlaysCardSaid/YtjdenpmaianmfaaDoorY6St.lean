/- Stores into a row that an element of one's own row leads to: rounds and updates. -/
import Derived.Test.YtjdenpmaianmfaaDoorY6St0
import Derived.Test.YtjdenpmaianmfaaDoorY6Q0
namespace Go.Proofs.YtjdenpmaianmfaaDoor.Sep
set_option linter.unusedSimpArgs false
set_option linter.unusedVariables false
open Go RowKit YtjdenpmaianmfaaDoorW.PrintWords YtjdenpmaianmfaaDoorW.PrintLast YtjdenpmaianmfaaDoorW.PrintMore Q
section
abbrev kU := k32
abbrev kR := k35
abbrev TU : TypeId := 32
abbrev TR : TypeId := 35
variable {N : Nat → Prop} {w w' : World} {l : List HP} {i : Nat} {v u : Value} {A A2 : Option Addr} {n m c c2 f g base : Nat} {L : List S35} {ok : Nat → Prop} {cs : Array Value}
theorem rowElem (r : S35) (h : Own N w l) (hi : l[i]? = some (row kU TU (.slice A n c) r.f2)) : Own N w (l.set i (elem kR r [r.f0, r.f1, .slice A n c])) :=
 h.conv hi _ (fun F hp _ => ⟨[.int .i64 r.f0], [.int .i64 r.f1, .slice A n c], rfl, rfl, [.int .i64 r.f1], [.slice A n c], rfl, rfl, _, rfl, hp⟩)
end
end Go.Proofs.YtjdenpmaianmfaaDoor.Sep
