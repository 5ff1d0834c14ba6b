/- The listed variable of this seat's rows ('bits' of package prefix) under the row's own condition: a start that meets it, and the table's cells out of it. -/
import Derived.Test.YtjdenpmaianmfaaDoorRows
import Derived.Test.YtjdenpmaianmfaaDoorTie
import Derived.Test.YtjdenpmaianmfaaDoorY6Spell
import Derived.ProofKit
import Derived.LaidMore
import Derived.Stop.Joined
import Derived.Lib.LaidTab
namespace Go.Proofs.YtjdenpmaianmfaaDoor
open Go RowKit
abbrev laid1 : List (String × DataW Unit) := [("chapbook/prefix.bits", Rows.laid_chapbook_prefix_bits)]
theorem ownKnobs : ownKnob Tryd.prog.godebug = none := by kernel_rfl
theorem gBits : Tryd.prog.globalNamed "chapbook/prefix.bits" = some 0 := by kernel_rfl
theorem tBits : (Tryd.prog.globals[0]?).map (·.type) = some 188 := by kernel_rfl
theorem door_met (os : Os) (args : Array Value) : laidMetH Tryd.prog laid1 ((World.doorLaid Tryd.prog 14 os).forCall (fun _ _ => 0) ⟨#[], args, []⟩).memory :=
 laidMetH_of_parts3 (fuel := 8) (laidMet_of_run' 8 (by kernel_rfl) (by kernel_rfl)) (by kernel_rfl) (by kernel_rfl)
theorem tab_of_laid {W : World} (h : laidMetH Tryd.prog laid1 W) : Q.Tab W := by
 rw [MakeChecks.laidMetH_plain _ _ _ (by kernel_rfl)] at h
 have ht : Lib.TabIs Tryd.prog W "chapbook/prefix.bits" .u64 [6, 14, 30, 62] :=
  Lib.tabIs_of_head (rest := []) gBits tBits Tryd.underlying188 Tryd.underlying60 (by kernel_rfl) (by kernel_rfl) h
 exact ⟨ht.cell gBits 0 (by decide), ht.cell gBits 1 (by decide), ht.cell gBits 2 (by decide), ht.cell gBits 3 (by decide)⟩
end Go.Proofs.YtjdenpmaianmfaaDoor
