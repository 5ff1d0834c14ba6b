/- How arguments that read as data are opened: cells that read as data of a type are a value of the type's kind (whole numbers, bools, texts, structs, arrays, slices of these, at any depth), with the bounds that the reading gives. -/
import Derived.Test.YtfpegjdplggkpaaDoorYRoundGetsWWords
import Derived.ProofKit
import Derived.OpenShut
import Derived.SizedLaws
import Derived.Lib.SmallJoins
namespace Go.Proofs.YtfpegjdplggkpaaDoor.Opn
open Go Go.RowKit Go.Proofs.YtfpegjdplggkpaaDoorW.PrintWords Go.ChangeShapes Go.WideShapes Go.ChangeAt
def Opens {α : Type} (P : Program) (t : TypeId) (d : Kd α) (G : α → Prop) : Prop :=
 ∀ {H : Type} (enc : TypeId × Value → H) (w : World) (spare : Nat → Bool) (held : Bool) (fuel : Nat) (cs : List Value) (y : DataW H × List MemPlace),
  DataW.trod enc P w 0 spare held fuel t cs = some y → (∀ n ∈ y.1.weights P t, n ≤ reachBytes) → ∃ x, d.K w x cs ∧ G x
section
variable {α β : Type} {P : Program} {t e : TypeId} {d : Kd α} {G : α → Prop}
theorem opens_string (hu : P.underlying t = some .string) : Opens P t Kd.string (fun s => s.size ≤ 140737488351232) := by
 intro H enc w spare held fuel cs y h hw
 obtain ⟨s, rfl, rfl, _⟩ := DataW.trod_string hu h
 refine ⟨s, rfl, ?_⟩
 have := hw s.data.toList.length (by simp [DataW.weights])
 have e : reachBytes = 140737488351232 := by decide
 rw [e] at this
 simpa using this
theorem arg_open {H : Type} {enc : TypeId × Value → H} {W : World} {spare : Nat → Bool} {held : Bool} {v : Value} {dat : DataW H} {ps : List MemPlace} {ts : List TypeId} {ds : List (DataW H)} {j : Nat} (ho : Opens P t d G)
  (h : DataW.Trod enc P W 0 spare held t v dat ps) (hsz : (DataW.weightsEach P ts ds).all (· ≤ reachBytes) = true) (ht : ts[j]? = some t) (hd : ds[j]? = some dat) : ∃ x, d.K W x v.cells.toList ∧ G x := by
 obtain ⟨fuel, hf⟩ := h
 exact ho enc W spare held fuel _ _ hf (fun n hn => by simpa using List.all_eq_true.1 hsz n (DataW.weights_mem_each ht hd n hn))
theorem string_of {t : TypeId} {r : Reach} {base : Nat} {W : World} {v : Value} {x : ByteArray} (hu : P.underlying t = some .string) (hv : Value.okWide P W r base t v) (h : Kd.string.K W x v.cells.toList) : v = .string x := by
 have h' : v.cells.toList = [.string x] := h
 simp only [Value.okWide, hu, Cell.okWide, Cell.ok] at hv
 cases v <;> simp_all [Value.cells]
end
end Go.Proofs.YtfpegjdplggkpaaDoor.Opn
