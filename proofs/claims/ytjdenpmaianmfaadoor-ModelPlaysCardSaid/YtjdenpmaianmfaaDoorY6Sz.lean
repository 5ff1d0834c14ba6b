/- Short words for a walk that keeps resources. -/
import Derived.Test.YtjdenpmaianmfaaDoorY6Ev
namespace Go.Proofs.YtjdenpmaianmfaaDoor.Sep
set_option linter.unusedVariables false
open Go RowKit YtjdenpmaianmfaaDoorW.PrintWords
section
variable {N : Nat → Prop} {w w0 w1 : World} {l : List HP}
theorem ob_ (K : Aside0 (KeepS N w w0)) (O : Aside0 (Own N w0 l)) (hb : Below w0.heap.size w0 w1) : Aside0 (Own N w1 l) ∧ Aside0 (KeepS N w w1) := ⟨⟨O.out.below hb⟩, ⟨K.out.trans (KeepS.of_below hb)⟩⟩
theorem kw_ (K : Aside0 (KeepS N w w1)) (H : Aside0 (N = fun k => k < w.heap.size)) : Below w.heap.size w w1 := K.out.below (Nat.le_refl _) (fun k hk => by rw [H.out]; exact hk)
theorem st_ (w : World) : ∃ N : Nat → Prop, Aside0 (N = fun k => k < w.heap.size) ∧ Aside0 (Own N w []) ∧ Aside0 (KeepS N w w) := ⟨_, ⟨rfl⟩, ⟨Own.start_ (fun k hk => hk)⟩, ⟨KeepS.refl _ _⟩⟩
theorem drw_ (O : Aside0 (Own N w0 l)) (K : Aside0 (KeepS N w w0)) : ∃ W : World, W = w0.drew ∧ KeepS N w0 W ∧ Aside0 (Own N W l) ∧ Aside0 (KeepS N w W) := ⟨_, rfl, KeepS.drew, ⟨O.out.drew⟩, ⟨K.out.trans KeepS.drew⟩⟩
end
end Go.Proofs.YtjdenpmaianmfaaDoor.Sep
