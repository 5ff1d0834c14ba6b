/- Keys that rise: what the document's Keys gathers, in plain Lean: rows of texts in order, an insertion, how many keys have a value. -/
import Derived.Test.YtjdenpmaianmfaaDoorYClientWaitsRp1
import Derived.Test.YtjdenpmaianmfaaDoorYClientWaitsUA
import Derived.Test.YtjdenpmaianmfaaDoorYClientWaitsQ10
namespace Go.Proofs.YtjdenpmaianmfaaDoor.Pure
set_option linter.unusedSimpArgs false
set_option linter.unusedVariables false
open Go Go.RowKit Go.Proofs.YtjdenpmaianmfaaDoorW.PrintWords Go.Proofs.YtjdenpmaianmfaaDoorW.PrintLast Go.Proofs.YtjdenpmaianmfaaDoorW.PrintMore Go.Proofs.YtjdenpmaianmfaaDoor.Q Go.Proofs.YtjdenpmaianmfaaDoor.J
abbrev mayV (u : S32) : Int := may u.f0 u.f1 u.f2 u.f3
def getV (key : ByteArray) (v : Val) (l : List S32) : Val := l.foldl (fun v u => if u.f0 = key ∧ mayV u = 0 then app v u.f1 u.f2 u.f3 else v) v
theorem doL_get (key : ByteArray) : ∀ (l : List S32) (M : ByteArray → Val), doL M l key = getV key (M key) l
 | [], M => rfl
 | u :: l, M => by
  show doL (doU M u.f0 u.f1 u.f2 u.f3) l key = getV key (if u.f0 = key ∧ mayV u = 0 then app (M key) u.f1 u.f2 u.f3 else M key) l
  rw [doL_get key l]
  congr 1
  unfold doU
  by_cases hm : may u.f0 u.f1 u.f2 u.f3 = 0
  ·rw [if_pos hm]
   unfold upd
   by_cases hk : u.f0 = key
   ·subst hk
    rw [if_pos rfl, if_pos ⟨rfl, hm⟩]
   ·rw [if_neg (fun e => hk e.symm), if_neg (fun e => hk e.1)]
  ·rw [if_neg hm, if_neg (fun e => hm e.2)]
theorem w64s17 {x : Int} {n : Nat} (h0 : 0 ≤ x) (h1 : x < n) (hn : n ≤ 4000000000) : wrap64 (x + 1) = x + 1 := by unfold wrap64; omega
end Go.Proofs.YtjdenpmaianmfaaDoor.Pure
namespace Go.Proofs.YtjdenpmaianmfaaDoor.J
set_option linter.unusedSimpArgs false
set_option linter.unusedVariables false
open Go Go.RowKit Go.Proofs.YtjdenpmaianmfaaDoorW.PrintWords Go.Proofs.YtjdenpmaianmfaaDoor.Q Go.Proofs.YtjdenpmaianmfaaDoor.Sep Go.Proofs.YtjdenpmaianmfaaDoor.Pure
noncomputable def cntK (M : ByteArray → Val) : Nat := open Classical in if h : ∃ ks : List ByteArray, ks.Nodup ∧ ∀ key, key ∈ ks ↔ (M key).1 ≠ 0 then h.choose.length else 0
theorem cntK_is {M : ByteArray → Val} {ks : List ByteArray} (h1 : ks.Nodup) (h2 : ∀ key, key ∈ ks ↔ (M key).1 ≠ 0) : cntK M = ks.length := by
 have h : ∃ ks : List ByteArray, ks.Nodup ∧ ∀ key, key ∈ ks ↔ (M key).1 ≠ 0 := ⟨ks, h1, h2⟩
 unfold cntK
 rw [dif_pos h]
 obtain ⟨g1, g2⟩ := h.choose_spec
 have hp : List.Perm h.choose ks := (List.perm_ext_iff_of_nodup g1 h1).2 (fun key => by rw [g2, h2])
 exact hp.length_eq
end Go.Proofs.YtjdenpmaianmfaaDoor.J
