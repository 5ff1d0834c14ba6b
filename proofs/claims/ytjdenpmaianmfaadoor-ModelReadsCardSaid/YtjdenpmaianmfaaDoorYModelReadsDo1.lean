/- The document's Client and its Journal as one resource; its turns, and the program's, each in all cases at once. -/
import Derived.Test.YtjdenpmaianmfaaDoorYModelReadsRp1
import Derived.Test.YtjdenpmaianmfaaDoorYModelReadsEv
import Derived.Test.YtjdenpmaianmfaaDoorYModelReadsSt0
import Derived.Laws.IdiomCopy
import Derived.ArgAppend
import Derived.Test.YtjdenpmaianmfaaDoorYModelReadsSt
import Derived.Test.YtjdenpmaianmfaaDoorYModelReadsQ4
import Derived.Test.YtjdenpmaianmfaaDoorYModelReadsSq
import Derived.Test.YtjdenpmaianmfaaDoorYModelReadsJ0
import Derived.Test.YtjdenpmaianmfaaDoorYModelReadsRM
import Derived.Test.YtjdenpmaianmfaaDoorYModelReadsRPut
import Derived.Test.YtjdenpmaianmfaaDoorYModelReadsUA
import Derived.Test.YtjdenpmaianmfaaDoorYModelReadsPre0
import Derived.Test.YtjdenpmaianmfaaDoorYModelReadsQ8
import Derived.Test.YtjdenpmaianmfaaDoorYModelReadsQ9
import Derived.Test.YtjdenpmaianmfaaDoorYModelReadsQ10
import Derived.Test.YtjdenpmaianmfaaDoorProg
import Derived.Test.YtjdenpmaianmfaaDoorYModelReadsKy0
import Derived.Test.YtjdenpmaianmfaaDoorYModelReadsSz
import Derived.Test.YtjdenpmaianmfaaDoorYModelReadsSepL
namespace Go.Proofs.YtjdenpmaianmfaaDoor.J
set_option linter.unusedSimpArgs false
set_option linter.unusedVariables false
open Go Go.RowKit Go.Proofs.YtjdenpmaianmfaaDoorW.PrintWords Go.Proofs.YtjdenpmaianmfaaDoorW.PrintLast Go.Proofs.YtjdenpmaianmfaaDoorW.PrintMore Go.Proofs.YtjdenpmaianmfaaDoor.Q Go.Proofs.YtjdenpmaianmfaaDoor.Sep
theorem copyC (o n : Int) (ups : List S32) (hu : ups.length ≤ 1000000) : round_Copy.f o n ups = some (o, n, ups) := by
 unfold round_Copy.f api_Update.f
 rw [if_pos (by omega)]
 rfl
def CellN (N : Nat → Prop) (w : World) (g : Nat) (cs : Array Value) (t : TypeId) : Prop := N g ∧ w.heap[g]? = some (.cells cs t (0, 0))
theorem CellN.keep {N : Nat → Prop} {w w' : World} {g : Nat} {cs : Array Value} {t : TypeId} (h : CellN N w g cs t) (k : KeepS N w w') : CellN N w' g cs t := ⟨h.1, (k.block g (blk_lt h.2) h.1).trans h.2⟩
theorem CellN.mono {N N' : Nat → Prop} {w : World} {g : Nat} {cs : Array Value} {t : TypeId} (h : CellN N w g cs t) (hn : ∀ k, N k → N' k) : CellN N' w g cs t := ⟨hn _ h.1, h.2⟩
def Lead (N : Nat → Prop) (w : World) (rows : List (List Value)) (xs : List S35) : Prop := rows.length = xs.length ∧ ∀ (j : Nat) (x : S35) (c : List Value), xs[j]? = some x → rows[j]? = some c → Kd.FK k35 w N x c
theorem Lead.none (N : Nat → Prop) (w : World) : Lead N w [] [] := ⟨rfl, fun j x c h => by simp at h⟩
theorem Lead.keep {N : Nat → Prop} {w w' : World} {rows : List (List Value)} {xs : List S35} (h : Lead N w rows xs) (hk : KeepS N w w') : Lead N w' rows xs := ⟨h.1, fun j x c a b => keepFK (h.2 j x c a b) hk⟩
theorem Lead.mono {N N' : Nat → Prop} {w : World} {rows : List (List Value)} {xs : List S35} (h : Lead N w rows xs) (hn : ∀ k, N k → N' k) : Lead N' w rows xs := ⟨h.1, fun j x c a b => Kd.FK_mono (h.2 j x c a b) hn⟩
theorem Lead.append {N : Nat → Prop} {w : World} {r1 r2 : List (List Value)} {x1 x2 : List S35} (h : Lead N w r1 x1) (k : Lead N w r2 x2) : Lead N w (r1 ++ r2) (x1 ++ x2) := by
 refine ⟨by simp [h.1, k.1], fun j y d a b => ?_⟩
 rcases Nat.lt_or_ge j x1.length with hj | hj
 ·rw [List.getElem?_append_left hj] at a
  rw [List.getElem?_append_left (by rw [h.1]; exact hj)] at b
  exact h.2 j y d a b
 ·rw [List.getElem?_append_right hj] at a
  rw [List.getElem?_append_right (by rw [h.1]; exact hj), h.1] at b
  exact k.2 _ y d a b
theorem rawOf {N : Nat → Prop} {w : World} {A : Option Addr} {n : Nat} {L : List S35} (h : Kd.F k35 w N A n L) : ∃ rows : List (List Value), rows.length = L.length ∧ Kd.C (Kd.raw 3) w A n rows ∧ Lead N w rows L := by
 obtain ⟨news, h1, h2, h3⟩ := Kd.reads_raw (Kd.F_rows h) (fun x c hk => ⟨k35.K_len (Kd.FK_now hk), k35.K_one (Kd.FK_now hk)⟩)
 exact ⟨news, h1, h2, h1, h3⟩
theorem flatRaw : Flat (Kd.raw 3) := fun h => h
theorem lead_C {N N2 : Nat → Prop} {w : World} {l : List HP} {i n c : Nat} {A : Option Addr} {rows : List (List Value)} {X : List S35} (h : Own N w l) (hi : l[i]? = some (nrow (Kd.raw 3) 35 (.slice A n c) rows)) (hl : Lead N2 w rows X) : n = X.length ∧ n ≤ c ∧ Kd.C k35 w A X.length X := by
 obtain ⟨h1, h2, h3⟩ := h.nreads hi
 refine ⟨h1.trans hl.1, h2, rfl, (by have := h3.2.1; rw [h1, hl.1] at this; exact this), fun hp => ?_⟩
 obtain ⟨ad, he, hc⟩ := h3.2.2 (by rw [h1, hl.1]; exact hp)
 refine ⟨ad, he, fun j x hx => ?_⟩
 have hj : j < rows.length := by rw [hl.1]; exact (List.getElem?_eq_some_iff.1 hx).1
 obtain ⟨c', hcl, hK, hcc⟩ := hc j _ (List.getElem?_eq_getElem hj)
 have hk := Kd.FK_now (hl.2 j x _ hx (List.getElem?_eq_getElem hj))
 refine ⟨c', hcl, ?_, hcc⟩
 rw [show c' = rows[j] from hK.1]
 exact hk
theorem slice_len17 {A : Option Addr} {n m c : Nat} (h : n = m) : Value.slice A n c = .slice A m c := by rw [h]
def upR (L : List S35) (x : Int) : List S35 := L.take x.toNat
theorem upR_step (L : List S35) (x : Int) (h0 : 0 ≤ x) (h1 : x < L.length) : upR L (x + 1) = upR L x ++ [rd_T35 L x] := take_snoc17 L z35 x h0 h1
theorem upR_all (L : List S35) : upR L L.length = L := by unfold upR; rw [Int.toNat_natCast, List.take_length]
theorem upR_len (L : List S35) (x : Int) : (upR L x).length ≤ L.length := by unfold upR; rw [List.length_take]; exact Nat.min_le_right _ _
set_option maxHeartbeats 16000000
set_option maxRecDepth 100000
attribute [local go_sem] max2_int min2_int max_two min_two max_three min_three max_four min_four
end Go.Proofs.YtjdenpmaianmfaaDoor.J
namespace Go.Proofs.YtjdenpmaianmfaaDoor.J
set_option maxHeartbeats 16000000
set_option maxRecDepth 100000
set_option linter.unusedSimpArgs false
set_option linter.unusedVariables false
open Go Go.RowKit Go.Proofs.YtjdenpmaianmfaaDoorW.PrintWords Go.Proofs.YtjdenpmaianmfaaDoorW.PrintLast Go.Proofs.YtjdenpmaianmfaaDoorW.PrintMore Go.Proofs.YtjdenpmaianmfaaDoor.Q Go.Proofs.YtjdenpmaianmfaaDoor.Sep
attribute [local go_sem] max2_int min2_int max_two min_two max_three min_three max_four min_four
end Go.Proofs.YtjdenpmaianmfaaDoor.J
namespace Go.Proofs.YtjdenpmaianmfaaDoor.J
set_option linter.unusedSimpArgs false
set_option linter.unusedVariables false
open Go Go.RowKit Go.Proofs.YtjdenpmaianmfaaDoorW.PrintWords Go.Proofs.YtjdenpmaianmfaaDoorW.PrintLast Go.Proofs.YtjdenpmaianmfaaDoorW.PrintMore Go.Proofs.YtjdenpmaianmfaaDoor.Q Go.Proofs.YtjdenpmaianmfaaDoor.Sep Go.Proofs.YtjdenpmaianmfaaDoor.Pure
def addE (o m : Int) (L : List Rnd) (ups : List Upd) : Int := if (L.length : Int) = m then 8 else mayR o (L.length + 1) ups
end Go.Proofs.YtjdenpmaianmfaaDoor.J
namespace Go.Proofs.YtjdenpmaianmfaaDoor.Pure
set_option linter.unusedSimpArgs false
set_option linter.unusedVariables false
open Go Go.RowKit Go.Proofs.YtjdenpmaianmfaaDoorW.PrintWords Go.Proofs.YtjdenpmaianmfaaDoorW.PrintLast Go.Proofs.YtjdenpmaianmfaaDoorW.PrintMore Go.Proofs.YtjdenpmaianmfaaDoor.Q
def bytesR (o n : Int) (l : List Upd) : ByteArray := headB o n l.length ++ catB l
def putR (o n : Int) (l : List Upd) : ByteArray × Int := if mayR o n l = 0 then (bytesR o n l, 0) else (nil', mayR o n l)
theorem pputR (o n : Int) (l : List Upd) : round_Put.f o n l = some (putR o n l) := by
 unfold round_Put.f putR
 rw [pmay 0, Option.bind_some]
 by_cases h : mayR o n l = 0
 ·obtain ⟨h1, h2, h3, h4, h5, h6, h7⟩ := mayR_zero h
  rw [if_pos h, if_pos h, headW_ok (by omega) (by omega) (by omega) (by omega) (by omega) (by omega), addsW_ok _ _ h7]
  rfl
 ·rw [if_neg h, if_neg h]
def fitsB (l : List Upd) (m : Int) : Bool := decide (mayR 64 1099511627776 l = 0 ∧ 64 ≤ m ∧ m ≤ 1400 ∧ ((bytesR 64 1099511627776 l).size : Int) ≤ m - 40)
theorem in_ok7 (n a b : Int) : round_in.f n a b = some (decide (n ≥ a ∧ n ≤ b)) := by
 unfold round_in.f
 by_cases h1 : n ≥ a <;> by_cases h2 : n ≤ b <;> simp [h1, h2]
theorem pfits (l : List Upd) (m : Int) : round_Fits.f l m = some (fitsB l m) := by
 unfold fitsB
 unfold round_Fits.f
 rw [pputR, Option.bind_some]
 unfold putR
 by_cases hm : mayR 64 1099511627776 l = 0
 ·rw [if_pos hm]
  simp only
  rw [if_pos trivial, in_ok7, Option.bind_some]
  by_cases hx : m ≥ 64 ∧ m ≤ 1400
  ·rw [if_pos (decide_eq_true hx), show wrap64 (m - 40) = m - 40 by unfold wrap64; omega]
   simp [hm, hx.1, hx.2]
  ·rw [if_neg (by simpa using hx)]
   have : ¬ (64 ≤ m ∧ m ≤ 1400 ∧ ((bytesR 64 1099511627776 l).size : Int) ≤ m - 40) := fun q => hx ⟨q.1, q.2.1⟩
   simp [this]
 ·rw [if_neg hm]
  simp only
  rw [if_neg hm]
  simp [hm]
end Go.Proofs.YtjdenpmaianmfaaDoor.Pure
namespace Go.Proofs.YtjdenpmaianmfaaDoor.J
open Go Go.RowKit Go.Proofs.YtjdenpmaianmfaaDoorW.PrintWords Go.Proofs.YtjdenpmaianmfaaDoorW.PrintLast Go.Proofs.YtjdenpmaianmfaaDoorW.PrintMore Go.Proofs.YtjdenpmaianmfaaDoor.Q Go.Proofs.YtjdenpmaianmfaaDoor.Sep Go.Proofs.YtjdenpmaianmfaaDoor.Pure
def TabN (N : Nat → Prop) (w : World) : Prop := N 0 ∧ Tab w
theorem TabN.keep {N : Nat → Prop} {w w' : World} (h : TabN N w) (hk : KeepS N w w') : TabN N w' := by
 have one : ∀ {j : Nat} {v : Value}, w.cell? ⟨0, j, none⟩ = some v → w'.cell? ⟨0, j, none⟩ = some v := fun {j v} hc =>
  (World.cell?_of_block (w := w) (hk.block _ (World.block_lt_of_cell? w _ hc) h.1)).trans hc
 exact ⟨h.1, one h.2.1, one h.2.2.1, one h.2.2.2.1, one h.2.2.2.2⟩
theorem TabN.mono {N N' : Nat → Prop} {w : World} (h : TabN N w) (hn : ∀ k, N k → N' k) : TabN N' w := ⟨hn _ h.1, h.2⟩
set_option maxHeartbeats 16000000
set_option maxRecDepth 100000
set_option linter.unusedSimpArgs false
set_option linter.unusedVariables false
theorem infoU7 : (Tryd.prog.info? 32).map (fun i => (i.zero, i.size, i.bytes)) = some (some (.agg #[.string ⟨#[]⟩, .int .i64 0, .int .i64 0, .string ⟨#[]⟩]), 4, 48) := by kernel_rfl
section
variable {α : Type} {e : Nat} {N : Nat → Prop} {W : World} {l : List HP} {i j : Nat} {v : Value} {xs : List α} {cs : List Value}
end
abbrev kR7 := k35
abbrev kU7 := k32
abbrev tR7 : TypeId := 35
abbrev tU7 : TypeId := 32
abbrev Rnd7 := S35
abbrev Upd7 := S32
section
variable {N : Nat → Prop} {w : World} {g : Nat} {jp : Value} {o mtu push : Int} {K P : List Rnd7} {U : List Upd7} {r : List HP}
end
end Go.Proofs.YtjdenpmaianmfaaDoor.J
namespace Go.Proofs.YtjdenpmaianmfaaDoor.J
set_option maxHeartbeats 16000000
set_option maxRecDepth 100000
set_option linter.unusedSimpArgs false
set_option linter.unusedVariables false
open Go Go.RowKit Go.Proofs.YtjdenpmaianmfaaDoorW.PrintWords Go.Proofs.YtjdenpmaianmfaaDoorW.PrintLast Go.Proofs.YtjdenpmaianmfaaDoorW.PrintMore Go.Proofs.YtjdenpmaianmfaaDoor.Q Go.Proofs.YtjdenpmaianmfaaDoor.Sep Go.Proofs.YtjdenpmaianmfaaDoor.Pure
abbrev rw3 (o n : Int) (v : Value) : List Value := [.int .i64 o, .int .i64 n, v]
theorem repW (W : World) (o n : Int) (A : Option Addr) (m c : Nat) : Reps (Kd.FK (Kd.raw 3) W (fun _ => False)) 3 [rw3 o n (.slice A m c)] [.int .i64 o, .int .i64 n, .slice A m c] := by
 refine (Reps.none _ 3).snoc (p := rw3 o n (.slice A m c)) (c := rw3 o n (.slice A m c)) (flatRaw.FK (w := W) ⟨rfl, rfl, fun u hu => ?_⟩) rfl
 simp only [rw3, List.mem_cons, List.not_mem_nil, or_false] at hu
 rcases hu with rfl | rfl | rfl <;> rfl
theorem repU1 (W : World) (u : Upd7) : Reps (Kd.FK k32 W (fun _ => False)) 4 [u] [.string u.f0, .int .i64 u.f1, .int .i64 u.f2, .string u.f3] := (Reps.none _ 4).snoc (flatU.FK (k32_mk W u)) rfl
section
variable {N : Nat → Prop} {w : World} {g : Nat} {jp : Value} {o mtu push : Int} {K P : List Rnd7} {U : List Upd7}
abbrev bnd (L : List Rnd7) : Prop := ∀ x : Int, 0 ≤ x → x < L.length → (rd_T35 L x).f2.length ≤ 1000000
end
end Go.Proofs.YtjdenpmaianmfaaDoor.J
namespace Go.Proofs.YtjdenpmaianmfaaDoor.J
set_option maxHeartbeats 16000000
set_option maxRecDepth 100000
set_option linter.unusedSimpArgs false
set_option linter.unusedVariables false
open Go Go.RowKit Go.Proofs.YtjdenpmaianmfaaDoorW.PrintWords Go.Proofs.YtjdenpmaianmfaaDoorW.PrintLast Go.Proofs.YtjdenpmaianmfaaDoorW.PrintMore Go.Proofs.YtjdenpmaianmfaaDoor.Q Go.Proofs.YtjdenpmaianmfaaDoor.Sep
attribute [local go_sem] max2_int min2_int max_two min_two max_three min_three max_four min_four
end Go.Proofs.YtjdenpmaianmfaaDoor.J
namespace Go.Proofs.YtjdenpmaianmfaaDoor.J
set_option linter.unusedSimpArgs false
set_option linter.unusedVariables false
open Go Go.RowKit Go.Proofs.YtjdenpmaianmfaaDoorW.PrintWords Go.Proofs.YtjdenpmaianmfaaDoorW.PrintLast Go.Proofs.YtjdenpmaianmfaaDoorW.PrintMore Go.Proofs.YtjdenpmaianmfaaDoor.Q Go.Proofs.YtjdenpmaianmfaaDoor.Sep Go.Proofs.YtjdenpmaianmfaaDoor.Pure
abbrev pt (g : Nat) : Value := .pointer (some ⟨g, 0, none⟩)
section
variable {N : Nat → Prop} {w w' : World} {gj gd : Nat} {jo jm o mtu push : Int} {rJ rK rP : List (List Value)} {U : List Upd7} {r : List HP}
end
theorem fk_of {N : Nat → Prop} {w : World} {r : Rnd7} {A : Option Addr} {c : Nat} (hl : r.f2.length ≤ c) (hF : Kd.F kU7 w N A r.f2.length r.f2) : Kd.FK kR7 w N r [.int .i64 r.f0, .int .i64 r.f1, .slice A r.f2.length c] := fun W' hW => k35_mk W' r hl (hF W' hW)
theorem Lead.one {N : Nat → Prop} {w : World} {r : Rnd7} {A : Option Addr} {c : Nat} (hl : r.f2.length ≤ c) (hF : Kd.F kU7 w N A r.f2.length r.f2) : Lead N w [rw3 r.f0 r.f1 (.slice A r.f2.length c)] [r] := by
 refine ⟨rfl, fun j x c' hx hc => ?_⟩
 cases j with
 | zero => simp only [List.getElem?_cons_zero, Option.some.injEq] at hx hc; subst hx hc; exact fk_of hl hF
 | succ j => simp at hx
def updE (U : List Upd7) (key : ByteArray) (c n : Int) (s : ByteArray) (mtu : Int) : Int := if may key c n s ≠ 0 then may key c n s else if fitsB [(⟨key, c, n, s⟩ : Upd7)] mtu = false then 3 else if fitsB (U ++ [(⟨key, c, n, s⟩ : Upd7)]) mtu = false then 7 else 0
def updU (U : List Upd7) (key : ByteArray) (c n : Int) (s : ByteArray) (mtu : Int) : List Upd7 := if updE U key c n s mtu = 0 then U ++ [(⟨key, c, n, s⟩ : Upd7)] else U
theorem updU_no {U : List Upd7} {key : ByteArray} {c n : Int} {s : ByteArray} {mtu : Int} (h : updE U key c n s mtu ≠ 0) : updU U key c n s mtu = U := if_neg h
theorem upd_len (U : List Upd7) (key : ByteArray) (c n : Int) (s : ByteArray) (mtu : Int) : (updU U key c n s mtu).length ≤ U.length + 1 := by unfold updU; split <;> simp
theorem upd_cases (U : List Upd7) (key : ByteArray) (c n : Int) (s : ByteArray) (mtu : Int) :
  (may key c n s ≠ 0 ∧ updE U key c n s mtu = may key c n s ∧ updU U key c n s mtu = U) ∨ (may key c n s = 0 ∧ fitsB [(⟨key, c, n, s⟩ : Upd7)] mtu = false ∧ updE U key c n s mtu = 3 ∧ updU U key c n s mtu = U) ∨
  (may key c n s = 0 ∧ fitsB [(⟨key, c, n, s⟩ : Upd7)] mtu = true ∧ fitsB (U ++ [(⟨key, c, n, s⟩ : Upd7)]) mtu = false ∧ updE U key c n s mtu = 7 ∧ updU U key c n s mtu = U) ∨
  (may key c n s = 0 ∧ fitsB [(⟨key, c, n, s⟩ : Upd7)] mtu = true ∧ fitsB (U ++ [(⟨key, c, n, s⟩ : Upd7)]) mtu = true ∧ updE U key c n s mtu = 0 ∧ updU U key c n s mtu = U ++ [(⟨key, c, n, s⟩ : Upd7)]) := by
 by_cases h1 : may key c n s = 0
 ·by_cases h2 : fitsB [(⟨key, c, n, s⟩ : Upd7)] mtu = false
  ·have e : updE U key c n s mtu = 3 := by unfold updE; rw [if_neg (fun h => h h1), if_pos h2]
   exact .inr (.inl ⟨h1, h2, e, updU_no (by rw [e]; decide)⟩)
  ·by_cases h3 : fitsB (U ++ [(⟨key, c, n, s⟩ : Upd7)]) mtu = false
   ·have e : updE U key c n s mtu = 7 := by unfold updE; rw [if_neg (fun h => h h1), if_neg h2, if_pos h3]
    exact .inr (.inr (.inl ⟨h1, by simpa using h2, h3, e, updU_no (by rw [e]; decide)⟩))
   ·have e : updE U key c n s mtu = 0 := by unfold updE; rw [if_neg (fun h => h h1), if_neg h2, if_neg h3]
    exact .inr (.inr (.inr ⟨h1, by simpa using h2, by simpa using h3, e, if_pos e⟩))
 ·have e : updE U key c n s mtu = may key c n s := by unfold updE; rw [if_pos h1]
  exact .inl ⟨h1, e, updU_no (by rw [e]; exact h1)⟩
def pushE (jo jm push : Int) (L P : List Rnd7) (U : List Upd7) : Int := if U.length = 0 then 11 else if (P.length : Int) ≥ push then 7 else addE jo jm L U
def pushR (jo jm push : Int) (L P : List Rnd7) (U : List Upd7) : Rnd7 := if pushE jo jm push L P U = 0 then ⟨jo, L.length + 1, U⟩ else z35
section
variable {N : Nat → Prop} {w : World} {g gj gd gp : Nat} {jp : Value} {jo jm o mtu push : Int} {rJ rK rP : List (List Value)} {L K P : List Rnd7} {U : List Upd7}
end
end Go.Proofs.YtjdenpmaianmfaaDoor.J
