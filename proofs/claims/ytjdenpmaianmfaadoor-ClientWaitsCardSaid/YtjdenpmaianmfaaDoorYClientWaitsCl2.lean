/- A Client as a resource: its block, what it knows, what is pending, what is open; append behind a row that may begin inside its block. -/
import Derived.Test.YtjdenpmaianmfaaDoorYClientWaitsEv
import Derived.Test.YtjdenpmaianmfaaDoorYClientWaitsSt0
import Derived.Laws.IdiomCopy
import Derived.ArgAppend
import Derived.Test.YtjdenpmaianmfaaDoorYClientWaitsRp1
import Derived.Test.YtjdenpmaianmfaaDoorYClientWaitsSt
import Derived.Test.YtjdenpmaianmfaaDoorYClientWaitsQ4
import Derived.Test.YtjdenpmaianmfaaDoorYClientWaitsSq
import Derived.Test.YtjdenpmaianmfaaDoorProg
namespace Go.Proofs.YtjdenpmaianmfaaDoor.Sep
set_option linter.unusedSimpArgs false
set_option linter.unusedVariables false
open Go Go.RowKit Go.Proofs.YtjdenpmaianmfaaDoorW.PrintWords Go.Proofs.YtjdenpmaianmfaaDoorW.PrintLast Go.Proofs.YtjdenpmaianmfaaDoorW.PrintMore
def qrow {α : Type} (d : Kd α) (e : Nat) (v : Value) (xs : List α) : HP where
 P := fun F w => d.Q e w 0 F v xs
 move := fun h _ hk => Kd.Q_step h hk
 mono := fun h hf => Kd.Q_mono h hf
 bound := fun h => Kd.Q_mono (Kd.Q_bound h) (fun k hk => ⟨hk.1, hk.2.2.1⟩)
section
variable {α : Type} {d : Kd α} {e : Nat} {N : Nat → Prop} {w w' W : World} {l : List HP} {i : Nat} {v : Value} {A : Option Addr} {n c : Nat} {xs : List α}
theorem Own.qslice (h : Own N w l) (hi : l[i]? = some (qrow d e v xs)) : ∃ A c, v = .slice A xs.length c ∧ xs.length ≤ c := by
 obtain ⟨F, hf⟩ := h.fact hi
 exact Kd.Q_slice hf
theorem Own.qreads (h : Own N w l) (hi : l[i]? = some (qrow d e (.slice A n c) xs)) : n = xs.length ∧ n ≤ c ∧ Kd.C d w A n xs := by
 obtain ⟨F, hf⟩ := h.fact hi
 obtain ⟨h1, h2, h3⟩ := Kd.Q_reads' hf
 subst h1
 exact ⟨rfl, h2, h3⟩
theorem Own.row_qrow (h : Own N w l) (hi : l[i]? = some (row d e v xs)) : Own N w (l.set i (qrow d e v xs)) := h.conv hi _ (fun F hp _ => Kd.Q_of_R hp)
theorem Own.qnil (h : Own N w l) (d : Kd α) (e : Nat) : Own N w (l ++ [qrow d e (.slice none 0 0) []]) := h.push_emp _ (fun w => Kd.Q_nil d e w 0 _)
end
end Go.Proofs.YtjdenpmaianmfaaDoor.Sep
namespace Go.Proofs.YtjdenpmaianmfaaDoor.Sep
set_option linter.unusedSimpArgs false
set_option linter.unusedVariables false
open Go Go.RowKit Go.Proofs.YtjdenpmaianmfaaDoorW.PrintWords Go.Proofs.YtjdenpmaianmfaaDoorW.PrintLast Go.Proofs.YtjdenpmaianmfaaDoorW.PrintMore
section
variable {w : World} {base n size g o : Nat} {e : TypeId} {v : Value} {xs vs : List Value} {cur : Array Value}
end
section
variable {α : Type} {d : Kd α} {e : Nat} {N : Nat → Prop} {w w' W : World} {l : List HP} {i : Nat} {v : Value} {A : Option Addr} {n c : Nat} {xs : List α}
theorem Own.qdrop (h : Own N w l) (hi : l[i]? = some (qrow d e (.slice A n c) xs)) (k : Nat) (hk : k ≤ xs.length) : Own N w (l.set i (qrow d e (.slice (if c = k then A else A.map (·.add (k * d.sz))) (n - k) (c - k)) (xs.drop k))) :=
 h.conv hi _ (fun F hp _ => Kd.Q_drop hp hk)
end
end Go.Proofs.YtjdenpmaianmfaaDoor.Sep
namespace Go.Proofs.YtjdenpmaianmfaaDoor.J
set_option linter.unusedSimpArgs false
set_option linter.unusedVariables false
open Go Go.RowKit Go.Proofs.YtjdenpmaianmfaaDoorW.PrintWords Go.Proofs.YtjdenpmaianmfaaDoorW.PrintLast Go.Proofs.YtjdenpmaianmfaaDoorW.PrintMore Go.Proofs.YtjdenpmaianmfaaDoor.Q Go.Proofs.YtjdenpmaianmfaaDoor.Sep
theorem copyC (o n : Int) (ups : List S32) (hu : ups.length ≤ 1000000) : round_Copy.f o n ups = some (o, n, ups) := by
 unfold round_Copy.f api_Update.f
 rw [if_pos (by omega)]
 rfl
def CellN (N : Nat → Prop) (w : World) (g : Nat) (cs : Array Value) (t : TypeId) : Prop := N g ∧ w.heap[g]? = some (.cells cs t (0, 0))
theorem CellN.keep {N : Nat → Prop} {w w' : World} {g : Nat} {cs : Array Value} {t : TypeId} (h : CellN N w g cs t) (k : KeepS N w w') : CellN N w' g cs t := ⟨h.1, (k.block g (blk_lt h.2) h.1).trans h.2⟩
theorem CellN.mono {N N' : Nat → Prop} {w : World} {g : Nat} {cs : Array Value} {t : TypeId} (h : CellN N w g cs t) (hn : ∀ k, N k → N' k) : CellN N' w g cs t := ⟨hn _ h.1, h.2⟩
def Lead (N : Nat → Prop) (w : World) (rows : List (List Value)) (xs : List S35) : Prop := rows.length = xs.length ∧ ∀ (j : Nat) (x : S35) (c : List Value), xs[j]? = some x → rows[j]? = some c → Kd.FK k35 w N x c
theorem Lead.none (N : Nat → Prop) (w : World) : Lead N w [] [] := ⟨rfl, fun j x c h => by simp at h⟩
theorem Lead.keep {N : Nat → Prop} {w w' : World} {rows : List (List Value)} {xs : List S35} (h : Lead N w rows xs) (hk : KeepS N w w') : Lead N w' rows xs := ⟨h.1, fun j x c a b => keepFK (h.2 j x c a b) hk⟩
theorem Lead.mono {N N' : Nat → Prop} {w : World} {rows : List (List Value)} {xs : List S35} (h : Lead N w rows xs) (hn : ∀ k, N k → N' k) : Lead N' w rows xs := ⟨h.1, fun j x c a b => Kd.FK_mono (h.2 j x c a b) hn⟩
theorem Lead.append {N : Nat → Prop} {w : World} {r1 r2 : List (List Value)} {x1 x2 : List S35} (h : Lead N w r1 x1) (k : Lead N w r2 x2) : Lead N w (r1 ++ r2) (x1 ++ x2) := by
 refine ⟨by simp [h.1, k.1], fun j y d a b => ?_⟩
 rcases Nat.lt_or_ge j x1.length with hj | hj
 ·rw [List.getElem?_append_left hj] at a
  rw [List.getElem?_append_left (by rw [h.1]; exact hj)] at b
  exact h.2 j y d a b
 ·rw [List.getElem?_append_right hj] at a
  rw [List.getElem?_append_right (by rw [h.1]; exact hj), h.1] at b
  exact k.2 _ y d a b
theorem rawOf {N : Nat → Prop} {w : World} {A : Option Addr} {n : Nat} {L : List S35} (h : Kd.F k35 w N A n L) : ∃ rows : List (List Value), rows.length = L.length ∧ Kd.C (Kd.raw 3) w A n rows ∧ Lead N w rows L := by
 obtain ⟨news, h1, h2, h3⟩ := Kd.reads_raw (Kd.F_rows h) (fun x c hk => ⟨k35.K_len (Kd.FK_now hk), k35.K_one (Kd.FK_now hk)⟩)
 exact ⟨news, h1, h2, h1, h3⟩
theorem flatRaw : Flat (Kd.raw 3) := fun h => h
theorem lead_C {N N2 : Nat → Prop} {w : World} {l : List HP} {i n c : Nat} {A : Option Addr} {rows : List (List Value)} {X : List S35} (h : Own N w l) (hi : l[i]? = some (nrow (Kd.raw 3) 35 (.slice A n c) rows)) (hl : Lead N2 w rows X) : n = X.length ∧ n ≤ c ∧ Kd.C k35 w A X.length X := by
 obtain ⟨h1, h2, h3⟩ := h.nreads hi
 refine ⟨h1.trans hl.1, h2, rfl, (by have := h3.2.1; rw [h1, hl.1] at this; exact this), fun hp => ?_⟩
 obtain ⟨ad, he, hc⟩ := h3.2.2 (by rw [h1, hl.1]; exact hp)
 refine ⟨ad, he, fun j x hx => ?_⟩
 have hj : j < rows.length := by rw [hl.1]; exact (List.getElem?_eq_some_iff.1 hx).1
 obtain ⟨c', hcl, hK, hcc⟩ := hc j _ (List.getElem?_eq_getElem hj)
 have hk := Kd.FK_now (hl.2 j x _ hx (List.getElem?_eq_getElem hj))
 refine ⟨c', hcl, ?_, hcc⟩
 rw [show c' = rows[j] from hK.1]
 exact hk
theorem slice_len17 {A : Option Addr} {n m c : Nat} (h : n = m) : Value.slice A n c = .slice A m c := by rw [h]
def upR (L : List S35) (x : Int) : List S35 := L.take x.toNat
theorem upR_step (L : List S35) (x : Int) (h0 : 0 ≤ x) (h1 : x < L.length) : upR L (x + 1) = upR L x ++ [rd_T35 L x] := take_snoc17 L z35 x h0 h1
theorem upR_all (L : List S35) : upR L L.length = L := by unfold upR; rw [Int.toNat_natCast, List.take_length]
theorem upR_len (L : List S35) (x : Int) : (upR L x).length ≤ L.length := by unfold upR; rw [List.length_take]; exact Nat.min_le_right _ _
abbrev cliC (jp : Value) (o mtu push : Int) (vk vp vo : Value) : Array Value := #[jp, .int .i64 o, .int .i64 mtu, .int .i64 push, vk, vp, vo]
set_option maxHeartbeats 16000000
set_option maxRecDepth 100000
theorem infoU7 : (Tryd.prog.info? 32).map (fun i => (i.zero, i.size, i.bytes)) = some (some (.agg #[.string ⟨#[]⟩, .int .i64 0, .int .i64 0, .string ⟨#[]⟩]), 4, 48) := by kernel_rfl
def CpI (N : Nat → Prop) (w : World) (L : List S35) (v i : Value) (wr : World) : Prop := ∃ (x : Int) (A2 : Option Addr) (c2 : Nat), 0 ≤ x ∧ x ≤ (L.length : Int) ∧ i = .int .i64 x ∧ v = .slice A2 (upR L x).length c2 ∧ Aside0 (Own N wr [row k35 35 (.slice A2 (upR L x).length c2) (upR L x)]) ∧ Aside0 (KeepS N w wr)
theorem Copies {N : Nat → Prop} {w : World} (A0 : Option Addr) (c0 : Nat) (L : List S35) (h : Own N w []) (hF : Kd.F k35 w N A0 L.length L) (hL : L.length ≤ 1000000) (HU : Aside0 (∀ x : Int, 0 ≤ x → x < L.length → (rd_T35 L x).f2.length ≤ 1000000)) :
  Calls Tryd.prog 62 #[.slice A0 L.length c0] w fun e_ w' => ∃ A1 c1, e_ = .returned (.slice A1 L.length c1) ∧ Own N w' [row k35 35 (.slice A1 L.length c1) L] ∧ KeepS N w w' := by
 have HRL0 := Aside0.mk hF
 have HL := Aside0.mk hL
 have O0 : Aside0 (Own N w [row k35 35 (.slice none 0 0) []]) := ⟨h.push_emp (row k35 35 (.slice none 0 0) []) (fun w => Kd.R_nil _ _ _ _ _)⟩
 have K0 : Aside0 (KeepS N w w) := ⟨KeepS.refl _ _⟩
 clear h hF hL
 go_enter Tryd.func62, Tryd.ntmps62
 go_wp2
 go_loopw [3, 8] (fun v i wr => CpI N w L v i wr) (fun _ i _ => L.length - (intOf i).toNat)
 case atStart => exact ⟨0, none, 0, by omega, by omega, rfl, rfl, O0, K0⟩
 case round =>
  obtain ⟨x, A2, c2, hx0, hx1, rfl, rfl, OA, KA⟩ := hrel
  have hF2 := keepF HRL0.out KA.out
  have hl := HL.out
  by_cases hlt : x < (L.length : Int)
  ·obtain ⟨ad, A3, c3, e3, x0, x1, x2, hl3, hF3⟩ := at_F hF2 x hx0 hlt
   cases e3
   have HC3 := Aside0.mk hl3
   have HF3 := Aside0.mk hF3
   have hs2 : wrap64 (x + 1) = x + 1 := by unfold wrap64; omega
   have hp := eq_true hx0
   have hq := eq_true hlt
   have hd : decide (x < (L.length : Int)) = true := decide_eq_true hlt
   have HX := Aside0.mk (And.intro hx0 hlt)
   have HS : Aside0 (upR L (x + 1) = (upR L x) ++ [(rd_T35 L x)]) := ⟨upR_step L x hx0 hlt⟩
   have HFL : Aside0 ((upR L x).length ≤ 1000000) := ⟨Nat.le_trans (upR_len L x) hl⟩
   have HCP : Aside0 ((rd_T35 L x).f2.length ≤ 1000000) := ⟨HU.out x hx0 hlt⟩
   clear hF3 hF2 hl3 hl hx0 hx1 hlt
   have O1 : Aside0 (Own N wr [row k35 35 (.slice A2 (upR L x).length c2) (upR L x)]) := ⟨OA.out⟩
   have K1 : Aside0 (KeepS N w wr) := ⟨KA.out⟩
   have HRI_1 : Aside0 (Kd.F k32 wr N A3 (rd_T35 L x).f2.length (rd_T35 L x).f2) := ⟨HF3.out⟩
   clear OA KA HF3
   go_wp2_with (first | ((with_reducible refine gD 5 rfl ?_); refine bP 5 #[.int .i64 0, .int .i64 0, .slice none 0 0] 35 O1.out ?_; intro gr w2 o_ k_; obtain ⟨O2, K2⟩ := ok_ K1 o_ k_; have HRI_2 := Aside0.mk (keepF HRI_1.out k_); clear O1 K1 HRI_1 o_ k_; have a1 := k3_ O2 1) | ((with_reducible refine gT 35 5 rfl ?_); refine wS 1 0 [.int .i64 (rd_T35 L x).f0, .int .i64 (rd_T35 L x).f1, .slice A3 (rd_T35 L x).f2.length c3] O2 ?_; intro w3 o_ k_; obtain ⟨O3, K3⟩ := ok_ K2 o_ k_; have HRI_3 := Aside0.mk (keepF HRI_2.out k_); clear a1 O2 K2 HRI_2 o_ k_; have a1 := k3_ O3 1) | ((with_reducible refine gC 72 rfl ?_); refine gP (some 14) Tryd.func72 #[.agg #[.int .i64 (rd_T35 L x).f0, .int .i64 (rd_T35 L x).f1, .slice A3 (rd_T35 L x).f2.length c3]] ?_; refine (round_Copy.calls (rd_T35 L x).f0 (rd_T35 L x).f1 _ _ (rd_T35 L x).f2 (rd_T35 L x).f0 (rd_T35 L x).f1 (rd_T35 L x).f2 _ (Kd.F_now HRI_3.out) HC3.out (copyC _ _ _ HCP.out)).mono ?_; rintro e_ w4 ⟨v_, rfl, hR_, hb_⟩; obtain ⟨A4, c4, e__⟩ := Kd.R_slice hR_; subst e__; refine ⟨_, rfl, ?_⟩; have o_ := O3.out.pushW hb_ (Nat.le_refl _) hR_; have k_ := KeepS.of_below (N := N) hb_; obtain ⟨O4, K4⟩ := ok_ K3 o_ k_; have HRI_4 := Aside0.mk (keepF HRI_3.out k_); clear a1 O3 K3 HRI_3 o_ k_ hb_ hR_; have a1 := k3_ O4 1; have O5 : Aside0 (Own N w4 [row k35 35 (.slice A2 (upR L x).length c2) (upR L x), cells gr #[.int .i64 (rd_T35 L x).f0, .int .i64 (rd_T35 L x).f1, .slice A3 (rd_T35 L x).f2.length c3] 35, elem k35 (rd_T35 L x) [.int .i64 (rd_T35 L x).f0, .int .i64 (rd_T35 L x).f1, .slice A4 (rd_T35 L x).f2.length c4]]) := ⟨rowElem (rd_T35 L x) (i := 2) O4.out rfl⟩; clear O4) | ((with_reducible refine gate_builtin (b := .append) (xs := #[.tmp 12, .tmp 15]) rfl ?_); at_builtin; refine Own.appendR k35 O5.out (i := 0) (j := 2) rfl rfl (by decide) rfl (.tmp 12) (.tmp 15) 40 ((.agg #[.int .i64 0, .int .i64 0, .slice none 0 0])) 40 rfl Tryd.underlying40 infoR rfl (by decide) (by decide) rfl rfl (by have := HFL.out; omega) ?_; intro A5 c5 w6 o_ k_; obtain ⟨O6, K6⟩ := ok_ K4 o_ k_; have HRI_6 := Aside0.mk (keepF HRI_4.out k_); clear a1 O5 K4 HRI_4 o_ k_; have a1 := k3_ O6 1))
   go_roundw
   case rel => exact ⟨x + 1, A5, c5, by have := HX.out; omega, by have := HX.out; omega, int_eq17 (by unfold wrap64; have := HX.out; have := HL.out; omega), slice_len17 (by rw [HS.out, List.length_append]; rfl), ⟨by rw [HS.out]; simp only [List.length_append, List.length_singleton]; exact O6.out.take 1⟩, K6⟩
   case measure => have := HX.out; simp [intOf]; omega
  ·have hxe : x = (L.length : Int) := by omega
   subst hxe
   have hd : decide ((L.length : Int) < (L.length : Int)) = false := decide_eq_false (Int.lt_irrefl _)
   rw [upR_all] at OA
   clear hlt hx0 hx1 hF2 hl
   go_wp2
   go_ret
   exact ⟨A2, c2, by first | rfl | (rw [upR_all]; done) | simp [upR_all], OA.out, KA.out⟩
theorem CKnown {N : Nat → Prop} {w : World} {g : Nat} {jp : Value} {o mtu push : Int} {A4 A5 A6 : Option Addr} {c4 c5 c6 : Nat} {K P : List S35} {U : List S32} (h : Own N w []) (hg : CellN N w g #[jp, .int .i64 o, .int .i64 mtu, .int .i64 push, .slice A4 K.length c4, .slice A5 P.length c5, .slice A6 U.length c6] 111) (hF : Kd.F k35 w N A4 K.length K) (hL : K.length ≤ 1000000) (HUB : Aside0 (∀ x : Int, 0 ≤ x → x < K.length → (rd_T35 K x).f2.length ≤ 1000000)) :
  Calls Tryd.prog 20 #[.pointer (some ⟨g, 0, none⟩)] w fun e_ w' => ∃ A1 c1, e_ = .returned (.slice A1 K.length c1) ∧ Own N w' [row k35 35 (.slice A1 K.length c1) K] ∧ KeepS N w w' := by
 have HCG_0 := Aside0.mk hg
 have HX_0 : Aside0 (Kd.F k35 w N A4 K.length K) := ⟨hF⟩
 have O0 : Aside0 (Own N w []) := ⟨h⟩
 have K0 : Aside0 (KeepS N w w) := ⟨KeepS.refl _ _⟩
 obtain ⟨pa, pb, pc, pd, pe, pf, pg, pz⟩ := blk7_ (HCG_0.out.2)
 clear h hg hF
 go_enter Tryd.func20, Tryd.ntmps20
 have HL := Aside0.mk hL
 clear hL
 go_wp2_with (first | ((with_reducible refine gC 62 rfl ?_); refine gP (some 7) Tryd.func62 #[.slice A4 K.length c4] ?_; obtain ⟨N_, on_, nn_, rr_, bb_⟩ := O0.out.frame0; refine (Copies A4 c4 K on_ (Kd.F_mono HX_0.out nn_) HL.out HUB).mono ?_; rintro e_ w1 ⟨A1, c1, rfl, oo_, kk_⟩; obtain ⟨o_, k_⟩ := bb_ _ _ kk_ oo_; refine ⟨_, rfl, ?_⟩; obtain ⟨O1, K1⟩ := ok_ K0 o_ k_; have HCG_1 := Aside0.mk (CellN.keep HCG_0.out k_); have HX_1 := Aside0.mk (keepF HX_0.out k_); clear pa pb pc pd pe pf pg pz O0 K0 HCG_0 HX_0; obtain ⟨pa, pb, pc, pd, pe, pf, pg, pz⟩ := blk7_ (HCG_1.out.2); clear o_ k_ oo_ kk_ on_ nn_ rr_ bb_))
 go_ret
 exact ⟨A1, c1, rfl, O1.out, K1.out⟩
theorem CPending {N : Nat → Prop} {w : World} {g : Nat} {jp : Value} {o mtu push : Int} {A4 A5 A6 : Option Addr} {c4 c5 c6 : Nat} {K P : List S35} {U : List S32} (h : Own N w []) (hg : CellN N w g #[jp, .int .i64 o, .int .i64 mtu, .int .i64 push, .slice A4 K.length c4, .slice A5 P.length c5, .slice A6 U.length c6] 111) (hF : Kd.F k35 w N A5 P.length P) (hL : P.length ≤ 1000000) (HUB : Aside0 (∀ x : Int, 0 ≤ x → x < P.length → (rd_T35 P x).f2.length ≤ 1000000)) :
  Calls Tryd.prog 21 #[.pointer (some ⟨g, 0, none⟩)] w fun e_ w' => ∃ A1 c1, e_ = .returned (.slice A1 P.length c1) ∧ Own N w' [row k35 35 (.slice A1 P.length c1) P] ∧ KeepS N w w' := by
 have HCG_0 := Aside0.mk hg
 have HX_0 : Aside0 (Kd.F k35 w N A5 P.length P) := ⟨hF⟩
 have O0 : Aside0 (Own N w []) := ⟨h⟩
 have K0 : Aside0 (KeepS N w w) := ⟨KeepS.refl _ _⟩
 obtain ⟨pa, pb, pc, pd, pe, pf, pg, pz⟩ := blk7_ (HCG_0.out.2)
 clear h hg hF
 go_enter Tryd.func21, Tryd.ntmps21
 have HL := Aside0.mk hL
 clear hL
 go_wp2_with (first | ((with_reducible refine gC 62 rfl ?_); refine gP (some 7) Tryd.func62 #[.slice A5 P.length c5] ?_; obtain ⟨N_, on_, nn_, rr_, bb_⟩ := O0.out.frame0; refine (Copies A5 c5 P on_ (Kd.F_mono HX_0.out nn_) HL.out HUB).mono ?_; rintro e_ w1 ⟨A1, c1, rfl, oo_, kk_⟩; obtain ⟨o_, k_⟩ := bb_ _ _ kk_ oo_; refine ⟨_, rfl, ?_⟩; obtain ⟨O1, K1⟩ := ok_ K0 o_ k_; have HCG_1 := Aside0.mk (CellN.keep HCG_0.out k_); have HX_1 := Aside0.mk (keepF HX_0.out k_); clear pa pb pc pd pe pf pg pz O0 K0 HCG_0 HX_0; obtain ⟨pa, pb, pc, pd, pe, pf, pg, pz⟩ := blk7_ (HCG_1.out.2); clear o_ k_ oo_ kk_ on_ nn_ rr_ bb_))
 go_ret
 exact ⟨A1, c1, rfl, O1.out, K1.out⟩
theorem COpen {N : Nat → Prop} {w : World} {g : Nat} {jp : Value} {o mtu push : Int} {A4 A5 A6 : Option Addr} {c4 c5 c6 : Nat} {K P : List S35} {U : List S32} (h : Own N w []) (hg : CellN N w g #[jp, .int .i64 o, .int .i64 mtu, .int .i64 push, .slice A4 K.length c4, .slice A5 P.length c5, .slice A6 U.length c6] 111) (hF : Kd.F k32 w N A6 U.length U) (hL : U.length ≤ 1000000) :
  Calls Tryd.prog 23 #[.pointer (some ⟨g, 0, none⟩)] w fun e_ w' => ∃ A1 c1, e_ = .returned (.slice A1 U.length c1) ∧ Own N w' [nrow k32 32 (.slice A1 U.length c1) U] ∧ KeepS N w w' := by
 have HCG_0 := Aside0.mk hg
 have HX_0 : Aside0 (Kd.F k32 w N A6 U.length U) := ⟨hF⟩
 have O0 : Aside0 (Own N w []) := ⟨h⟩
 have K0 : Aside0 (KeepS N w w) := ⟨KeepS.refl _ _⟩
 obtain ⟨pa, pb, pc, pd, pe, pf, pg, pz⟩ := blk7_ (HCG_0.out.2)
 clear h hg hF
 go_enter Tryd.func23, Tryd.ntmps23
 have HL := Aside0.mk hL
 clear hL
 go_wp2_with (first | ((with_reducible refine gD 3 rfl ?_); refine own_lit k32 (N := N) (e := 32) (xs := []) (inner := []) rfl (D := 3) rfl gs_ (Reps.none _ _) (by simp) O0.out ?_; intro A0 c0 w1 o_ k_; obtain ⟨O1, K1⟩ := ok_ K0 o_ k_; have HCG_1 := Aside0.mk (CellN.keep HCG_0.out k_); have HX_1 := Aside0.mk (keepF HX_0.out k_); clear pa pb pc pd pe pf pg pz O0 K0 HCG_0 HX_0; obtain ⟨pa, pb, pc, pd, pe, pf, pg, pz⟩ := blk7_ (HCG_1.out.2); clear o_ k_) | ((with_reducible refine gate_builtin (b := .append) (xs := #[.tmp 3, .tmp 7]) rfl ?_); at_builtin; refine Own.append_flat k32 flatU O1.out (i := 0) (ys := U) rfl (Kd.F_now HX_1.out) rfl (.tmp 3) (.tmp 7) 33 ((.agg #[.string ⟨#[]⟩, .int .i64 0, .int .i64 0, .string ⟨#[]⟩])) 48 rfl Tryd.underlying33 infoU7 rfl (by decide) (by decide) rfl rfl (by have := HL.out; simp only [List.length_nil]; omega) ?_; intro A1 c1 w2 o_ k_; obtain ⟨O2, K2⟩ := ok_ K1 o_ k_; have HCG_2 := Aside0.mk (CellN.keep HCG_1.out k_); have HX_2 := Aside0.mk (keepF HX_1.out k_); clear pa pb pc pd pe pf pg pz O1 K1 HCG_1 HX_1; obtain ⟨pa, pb, pc, pd, pe, pf, pg, pz⟩ := blk7_ (HCG_2.out.2); clear o_ k_))
 go_ret
 exact ⟨A1, c1, rfl, O2.out, K2.out⟩
theorem CConf {N : Nat → Prop} {w : World} {g : Nat} {jp : Value} {o mtu push : Int} {A4 A5 A6 : Option Addr} {c4 c5 c6 : Nat} {K P : List S35} {U : List S32} (h : Own N w []) (hg : CellN N w g #[jp, .int .i64 o, .int .i64 mtu, .int .i64 push, .slice A4 K.length c4, .slice A5 P.length c5, .slice A6 U.length c6] 111) :
  Calls Tryd.prog 24 #[.pointer (some ⟨g, 0, none⟩)] w fun e_ w' => e_ = .returned (.bool (decide (P.length = 0) && decide (U.length = 0))) ∧ Own N w' [] ∧ KeepS N w w' := by
 have HCG_0 := Aside0.mk hg
 have O0 : Aside0 (Own N w []) := ⟨h⟩
 have K0 : Aside0 (KeepS N w w) := ⟨KeepS.refl _ _⟩
 obtain ⟨pa, pb, pc, pd, pe, pf, pg, pz⟩ := blk7_ (HCG_0.out.2)
 clear h hg 
 go_enter Tryd.func24, Tryd.ntmps24
 by_cases hp : P.length = 0
 ·have d1 : ((P.length : Int) == 0) = true := by simp [hp]
  by_cases hu : U.length = 0
  ·have d2 : ((U.length : Int) == 0) = true := by simp [hu]
   go_wp2
   go_ret
   exact ⟨by rw [decide_eq_true hp, decide_eq_true hu]; rfl, O0.out, K0.out⟩
  ·have d2 : ((U.length : Int) == 0) = false := beq_eq_false_iff_ne.mpr (by omega)
   go_wp2
   go_ret
   exact ⟨by rw [decide_eq_true hp, decide_eq_false hu]; rfl, O0.out, K0.out⟩
 ·have d1 : ((P.length : Int) == 0) = false := beq_eq_false_iff_ne.mpr (by omega)
  go_wp2
  go_ret
  exact ⟨by rw [decide_eq_false hp]; rfl, O0.out, K0.out⟩
theorem CSeen {N : Nat → Prop} {w : World} {g : Nat} {jp : Value} {o mtu push : Int} {A4 A5 A6 : Option Addr} {c4 c5 c6 : Nat} {K P : List S35} {U : List S32} (h : Own N w []) (hg : CellN N w g #[jp, .int .i64 o, .int .i64 mtu, .int .i64 push, .slice A4 K.length c4, .slice A5 P.length c5, .slice A6 U.length c6] 111) (hK : Kd.F k35 w N A4 K.length K) (hP : Kd.F k35 w N A5 P.length P) (hL : K.length + P.length ≤ 1000000) :
  Calls Tryd.prog 64 #[.pointer (some ⟨g, 0, none⟩)] w fun e_ w' => ∃ A1 c1 rows, e_ = .returned (.slice A1 (K ++ P).length c1) ∧ Own N w' [nrow (Kd.raw 3) 35 (.slice A1 (K ++ P).length c1) rows] ∧ Lead N w' rows (K ++ P) ∧ KeepS N w w' := by
 have HCG_0 := Aside0.mk hg
 have HK_0 : Aside0 (Kd.F k35 w N A4 K.length K) := ⟨hK⟩
 have HP_0 : Aside0 (Kd.F k35 w N A5 P.length P) := ⟨hP⟩
 have O0 : Aside0 (Own N w []) := ⟨h⟩
 have K0 : Aside0 (KeepS N w w) := ⟨KeepS.refl _ _⟩
 obtain ⟨pa, pb, pc, pd, pe, pf, pg, pz⟩ := blk7_ (HCG_0.out.2)
 clear h hg hK hP
 go_enter Tryd.func64, Tryd.ntmps64
 have HL := Aside0.mk hL
 clear hL
 go_wp2
 refine sP (n := 12) (S := c7_ g (jp) (.int .i64 o) (.int .i64 mtu) (.int .i64 push) (.slice A4 K.length c4) (.slice A5 P.length c5) (.slice A6 U.length c6)) (ds := [10]) ⟨pa, pb, pc, pd, pe, pf, pg⟩ (fun hHeld => ?_)
 obtain ⟨w1, hw_⟩ : ∃ W, W = w.drew := ⟨_, rfl⟩
 have o_ := O0.out.drew
 have k_ : KeepS N w w.drew := KeepS.drew
 rw [← hw_] at o_ k_ hHeld ⊢
 clear hw_
 obtain ⟨O1, K1⟩ := ok_ K0 o_ k_
 have HCG_1 := Aside0.mk (CellN.keep HCG_0.out k_)
 have HK_1 := Aside0.mk (keepF HK_0.out k_)
 have HP_1 := Aside0.mk (keepF HP_0.out k_)
 clear pa pb pc pd pe pf pg pz O0 K0 HCG_0 HK_0 HP_0
 obtain ⟨pa, pb, pc, pd, pe, pf, pg, pz⟩ := blk7_ (HCG_1.out.2)
 clear o_ k_
 refine pP 1 (some 4) ?_
 refine pP 2 (some 5) ?_
 refine pP 3 (some 6) ?_
 refine pP 6 (some 9) ?_
 refine pP 7 (some 10) ?_
 refine pP 8 (some 11) ?_
 refine tP 4 (some 7) hHeld ?_
 refine tP 9 (some 12) hHeld ?_
 refine oP 0 (some 3) (fun K_ hK_ => ?_)
 refine own_lit_step (Kd.raw 3) (N := N) (e := 35) (xs := []) (inner := []) rfl rfl gs_ (Reps.none _ _) (by decide) O1.out ?_
 intro A7 c7 w2 o_ k_
 obtain ⟨O2, K2⟩ := ok_ K1 o_ k_
 have HCG_2 := Aside0.mk (CellN.keep HCG_1.out k_)
 have HK_2 := Aside0.mk (keepF HK_1.out k_)
 have HP_2 := Aside0.mk (keepF HP_1.out k_)
 clear pa pb pc pd pe pf pg pz O1 K1 HCG_1 HK_1 HP_1
 obtain ⟨pa, pb, pc, pd, pe, pf, pg, pz⟩ := blk7_ (HCG_2.out.2)
 clear o_ k_
 clear hHeld
 refine hK_.out _ _ ⟨pa, pb, pc, pd, pe, pf, pg⟩ (fun hHeld => ?_)
 clear hK_ K_
 refine nP ?_
 refine oP 5 (some 8) (fun K_ hK_ => ?_)
 obtain ⟨rK, lrK, qrK, LrK⟩ := rawOf HK_2.out
 have HLDrK_2 : Aside0 (Lead N w2 rK K) := ⟨LrK⟩
 have HNrK := Aside0.mk lrK
 clear lrK LrK
 refine Own.append_flat_step (Kd.raw 3) flatRaw O2.out (i := 0) rfl qrK rfl (by rfl) (.tmp 3) (.tmp 7) 40 (.agg #[.int .i64 0, .int .i64 0, .slice none 0 0]) 40 rfl Tryd.underlying40 infoR rfl (by decide) (by decide) rfl rfl (by have := HL.out; (try simp only [List.length_nil, List.length_append]); omega) ?_
 intro A8 c8 w3 o_ k_
 obtain ⟨O3, K3⟩ := ok_ K2 o_ k_
 have HCG_3 := Aside0.mk (CellN.keep HCG_2.out k_)
 have HK_3 := Aside0.mk (keepF HK_2.out k_)
 have HP_3 := Aside0.mk (keepF HP_2.out k_)
 have HLDrK_3 := Aside0.mk (Lead.keep HLDrK_2.out k_)
 clear pa pb pc pd pe pf pg pz O2 K2 HCG_2 HK_2 HP_2 HLDrK_2
 obtain ⟨pa, pb, pc, pd, pe, pf, pg, pz⟩ := blk7_ (HCG_3.out.2)
 clear o_ k_ qrK
 clear hHeld
 refine hK_.out _ _ ⟨pa, pb, pc, pd, pe, pf, pg⟩ (fun hHeld => ?_)
 clear hK_ K_
 refine nP ?_
 refine lP 10 (some 13) (fun K_ hK_ => ?_)
 obtain ⟨rP, lrP, qrP, LrP⟩ := rawOf HP_3.out
 have HLDrP_3 : Aside0 (Lead N w3 rP P) := ⟨LrP⟩
 have HNrP := Aside0.mk lrP
 clear lrP LrP
 refine Own.append_flat_step (Kd.raw 3) flatRaw O3.out (i := 0) rfl qrP rfl (by rfl) (.tmp 8) (.tmp 12) 40 (.agg #[.int .i64 0, .int .i64 0, .slice none 0 0]) 40 rfl Tryd.underlying40 infoR rfl (by decide) (by decide) rfl rfl (by have := HL.out; have := HNrK.out; (try simp only [List.length_nil, List.length_append]); omega) ?_
 intro A9 c9 w4 o_ k_
 obtain ⟨O4, K4⟩ := ok_ K3 o_ k_
 have HCG_4 := Aside0.mk (CellN.keep HCG_3.out k_)
 have HK_4 := Aside0.mk (keepF HK_3.out k_)
 have HP_4 := Aside0.mk (keepF HP_3.out k_)
 have HLDrK_4 := Aside0.mk (Lead.keep HLDrK_3.out k_)
 have HLDrP_4 := Aside0.mk (Lead.keep HLDrP_3.out k_)
 clear pa pb pc pd pe pf pg pz O3 K3 HCG_3 HK_3 HP_3 HLDrK_3 HLDrP_3
 obtain ⟨pa, pb, pc, pd, pe, pf, pg, pz⟩ := blk7_ (HCG_4.out.2)
 clear o_ k_ qrP
 refine hK_.out _ _ ?_
 clear hK_ K_
 refine nP ?_
 refine pP 11 (some 2) ?_
 refine done_ (by kernel_rfl) ?_
 clear hHeld
 go_wp2
 go_ret
 have hl_ : (([] ++ rK) ++ rP).length = (K ++ P).length := by rw [List.nil_append, List.length_append, List.length_append, HNrK.out, HNrP.out]
 exact ⟨A9, c9, ([] ++ rK) ++ rP, by first | (show Ending.returned (Value.slice A9 (([] ++ rK) ++ rP).length c9) = _; rw [hl_]) | (show Ending.returned (Value.slice A9 (rK.length + rP.length) c9) = _; rw [HNrK.out, HNrP.out, ← List.length_append]), by rw [← hl_]; exact O4.out, (by have h_ := HLDrK_4.out.append HLDrP_4.out; exact h_), K4.out⟩
theorem CRead (key : ByteArray) (hs : key.size ≤ maxLen) {N : Nat → Prop} {w : World} {g : Nat} {jp : Value} {o mtu push : Int} {A4 A5 A6 : Option Addr} {c4 c5 c6 : Nat} {K P : List S35} {U : List S32} (h : Own N w []) (hg : CellN N w g #[jp, .int .i64 o, .int .i64 mtu, .int .i64 push, .slice A4 K.length c4, .slice A5 P.length c5, .slice A6 U.length c6] 111) (hK : Kd.F k35 w N A4 K.length K) (hP : Kd.F k35 w N A5 P.length P) (hU : Kd.F k32 w N A6 U.length U) (hL : K.length + P.length ≤ 1000000) (hb : (flatR (K ++ P)).length + U.length < 1000000) :
  Calls Tryd.prog 25 #[.pointer (some ⟨g, 0, none⟩), .string key] w fun e_ w' => e_ = .returned (valV (stateOf U (K ++ P) key)) ∧ Own N w' [] ∧ KeepS N w w' := by
 have HCG_0 := Aside0.mk hg
 have HK_0 : Aside0 (Kd.F k35 w N A4 K.length K) := ⟨hK⟩
 have HP_0 : Aside0 (Kd.F k35 w N A5 P.length P) := ⟨hP⟩
 have HU_0 : Aside0 (Kd.F k32 w N A6 U.length U) := ⟨hU⟩
 have O0 : Aside0 (Own N w []) := ⟨h⟩
 have K0 : Aside0 (KeepS N w w) := ⟨KeepS.refl _ _⟩
 obtain ⟨pa, pb, pc, pd, pe, pf, pg, pz⟩ := blk7_ (HCG_0.out.2)
 clear h hg hK hP hU
 go_enter Tryd.func25, Tryd.ntmps25
 have HL := Aside0.mk hL
 have HB := Aside0.mk hb
 clear hL hb
 have HS := Aside0.mk hs
 clear hs
 go_wp2_with (first | ((with_reducible refine gD 4 rfl ?_); refine bP 4 #[.int .i64 0, .int .i64 0, .string ⟨#[]⟩] 49 O0.out ?_; intro gv w1 o_ k_; obtain ⟨O1, K1⟩ := ok_ K0 o_ k_; have HCG_1 := Aside0.mk (CellN.keep HCG_0.out k_); have HK_1 := Aside0.mk (keepF HK_0.out k_); have HP_1 := Aside0.mk (keepF HP_0.out k_); have HU_1 := Aside0.mk (keepF HU_0.out k_); clear pa pb pc pd pe pf pg pz O0 K0 HCG_0 HK_0 HP_0 HU_0; have a0 := k3_ O1 0; obtain ⟨pa, pb, pc, pd, pe, pf, pg, pz⟩ := blk7_ (HCG_1.out.2); clear o_ k_))
 refine sP (n := 9) (S := d7_ g (jp) (.int .i64 o) (.int .i64 mtu) (.int .i64 push) (.slice A4 K.length c4) (.slice A5 P.length c5) (.slice A6 U.length c6) (c3_ gv (.int .i64 0) (.int .i64 0) (.string ⟨#[]⟩))) (ds := [8]) ⟨pa, pb, pc, pd, pe, pf, pg, a0.1, a0.2.1, a0.2.2.1⟩ (fun hHeld => ?_)
 obtain ⟨w2, hw_⟩ : ∃ W, W = w1.drew := ⟨_, rfl⟩
 have o_ := O1.out.drew
 have k_ : KeepS N w1 w1.drew := KeepS.drew
 rw [← hw_] at o_ k_ hHeld ⊢
 clear hw_
 obtain ⟨O2, K2⟩ := ok_ K1 o_ k_
 have HCG_2 := Aside0.mk (CellN.keep HCG_1.out k_)
 have HK_2 := Aside0.mk (keepF HK_1.out k_)
 have HP_2 := Aside0.mk (keepF HP_1.out k_)
 have HU_2 := Aside0.mk (keepF HU_1.out k_)
 clear a0 pa pb pc pd pe pf pg pz O1 K1 HCG_1 HK_1 HP_1 HU_1
 have a0 := k3_ O2 0
 obtain ⟨pa, pb, pc, pd, pe, pf, pg, pz⟩ := blk7_ (HCG_2.out.2)
 clear o_ k_
 refine pP 0 (some 5) ?_
 refine pP 1 (some 6) ?_
 refine pP 2 (some 7) ?_
 refine pP 3 (some 8) ?_
 refine pP 5 (some 10) ?_
 refine tP 4 (some 9) hHeld ?_
 refine oP 6 (some 11) (fun K_ hK_ => ?_)
 refine hP Tryd.func64 #[.pointer (some ⟨g, 0, none⟩)] ?_
 obtain ⟨N_, on_, nn_, rr_, bb_⟩ := O2.out.frame0
 refine (CSeen (w := w2) on_ (HCG_2.out.mono nn_) (Kd.F_mono HK_2.out nn_) (Kd.F_mono HP_2.out nn_) HL.out).mono ?_
 rintro e_ w3 ⟨A1, c1, rows, rfl, oo_, ll_, kk_⟩
 obtain ⟨o_, k_⟩ := bb_ _ _ kk_ oo_
 refine ⟨_, rfl, ?_⟩
 obtain ⟨O3, K3⟩ := ok_ K2 o_ k_
 have HCG_3 := Aside0.mk (CellN.keep HCG_2.out k_)
 have HK_3 := Aside0.mk (keepF HK_2.out k_)
 have HP_3 := Aside0.mk (keepF HP_2.out k_)
 have HU_3 := Aside0.mk (keepF HU_2.out k_)
 clear a0 pa pb pc pd pe pf pg pz O2 K2 HCG_2 HK_2 HP_2 HU_2
 have a0 := k3_ O3 0
 obtain ⟨pa, pb, pc, pd, pe, pf, pg, pz⟩ := blk7_ (HCG_3.out.2)
 have HSC := Aside0.mk (lead_C (i := 1) o_ rfl ll_)
 clear o_ k_ oo_ kk_ on_ nn_ rr_ bb_ ll_
 clear hHeld
 refine hK_.out _ _ ⟨pa, pb, pc, pd, pe, pf, pg, a0.1, a0.2.1, a0.2.2.1⟩ (fun hHeld => ?_)
 clear hK_ K_
 refine nP ?_
 refine oP 7 (some 12) (fun K_ hK_ => ?_)
 refine hP Tryd.func63 #[.string key, .slice A6 U.length c6, .slice A1 (K ++ P).length c1] ?_
 refine (RpRead key HS.out A6 c6 U A1 c1 (K ++ P) (Kd.F_now HU_3.out) HSC.out.2.2 HB.out).mono ?_
 rintro e_ w4 ⟨rfl, hb_⟩
 refine ⟨_, rfl, ?_⟩
 have o_ := O3.out.below hb_
 have k_ := KeepS.of_below (N := N) hb_
 obtain ⟨O4, K4⟩ := ok_ K3 o_ k_
 have HCG_4 := Aside0.mk (CellN.keep HCG_3.out k_)
 have HK_4 := Aside0.mk (keepF HK_3.out k_)
 have HP_4 := Aside0.mk (keepF HP_3.out k_)
 have HU_4 := Aside0.mk (keepF HU_3.out k_)
 clear a0 pa pb pc pd pe pf pg pz O3 K3 HCG_3 HK_3 HP_3 HU_3
 have a0 := k3_ O4 0
 obtain ⟨pa, pb, pc, pd, pe, pf, pg, pz⟩ := blk7_ (HCG_4.out.2)
 clear o_ k_ hb_
 clear hHeld
 refine hK_.out _ _ ⟨pa, pb, pc, pd, pe, pf, pg, a0.1, a0.2.1, a0.2.2.1⟩ (fun hHeld => ?_)
 clear hK_ K_
 refine nP ?_
 refine lP 8 none (fun K_ hK_ => ?_)
 refine xS 0 0 [.int .i64 (stateOf U (K ++ P) key).1, .int .i64 (stateOf U (K ++ P) key).2.1, .string (stateOf U (K ++ P) key).2.2] O4 ?_
 intro w5 o_ k_
 obtain ⟨O5, K5⟩ := ok_ K4 o_ k_
 have HCG_5 := Aside0.mk (CellN.keep HCG_4.out k_)
 have HK_5 := Aside0.mk (keepF HK_4.out k_)
 have HP_5 := Aside0.mk (keepF HP_4.out k_)
 have HU_5 := Aside0.mk (keepF HU_4.out k_)
 clear a0 pa pb pc pd pe pf pg pz O4 K4 HCG_4 HK_4 HP_4 HU_4
 have a0 := k3_ O5 0
 obtain ⟨pa, pb, pc, pd, pe, pf, pg, pz⟩ := blk7_ (HCG_5.out.2)
 clear o_ k_
 refine hK_.out _ _ ?_
 clear hK_ K_
 refine done_ (by kernel_rfl) ?_
 clear hHeld
 go_wp2
 refine bodyPost_ret (results_cell_row rfl _ _ gv 49 #[.int .i64 (stateOf U (K ++ P) key).1, .int .i64 (stateOf U (K ++ P) key).2.1, .string (stateOf U (K ++ P) key).2.2] (0, 0) _ rfl (O5.out.blk (i := 0) rfl) Tryd.underlying49 rfl (by kernel_rfl)) rfl ?_
 exact ⟨rfl, O5.out.take 0, K5.out⟩
theorem CLen {N : Nat → Prop} {w : World} {g : Nat} {jp : Value} {o mtu push : Int} {A4 A5 A6 : Option Addr} {c4 c5 c6 : Nat} {K P : List S35} {U : List S32} (h : Own N w []) (hg : CellN N w g #[jp, .int .i64 o, .int .i64 mtu, .int .i64 push, .slice A4 K.length c4, .slice A5 P.length c5, .slice A6 U.length c6] 111) (hK : Kd.F k35 w N A4 K.length K) (hP : Kd.F k35 w N A5 P.length P) (hU : Kd.F k32 w N A6 U.length U) (hL : K.length + P.length ≤ 1000000) (hb : (flatR (K ++ P)).length + U.length < 1000000) :
  Calls Tryd.prog 27 #[.pointer (some ⟨g, 0, none⟩)] w fun e_ w' => ∃ ks : List ByteArray, ks.Nodup ∧ (∀ key, key ∈ ks ↔ (stateOf U (K ++ P) key).1 ≠ 0) ∧ e_ = .returned (.int .i64 ks.length) ∧ Own N w' [] ∧ KeepS N w w' := by
 have HCG_0 := Aside0.mk hg
 have HK_0 : Aside0 (Kd.F k35 w N A4 K.length K) := ⟨hK⟩
 have HP_0 : Aside0 (Kd.F k35 w N A5 P.length P) := ⟨hP⟩
 have HU_0 : Aside0 (Kd.F k32 w N A6 U.length U) := ⟨hU⟩
 have O0 : Aside0 (Own N w []) := ⟨h⟩
 have K0 : Aside0 (KeepS N w w) := ⟨KeepS.refl _ _⟩
 obtain ⟨pa, pb, pc, pd, pe, pf, pg, pz⟩ := blk7_ (HCG_0.out.2)
 clear h hg hK hP hU
 go_enter Tryd.func27, Tryd.ntmps27
 have HL := Aside0.mk hL
 have HB := Aside0.mk hb
 clear hL hb
 go_wp2
 refine sP (n := 8) (S := c7_ g (jp) (.int .i64 o) (.int .i64 mtu) (.int .i64 push) (.slice A4 K.length c4) (.slice A5 P.length c5) (.slice A6 U.length c6)) (ds := []) ⟨pa, pb, pc, pd, pe, pf, pg⟩ (fun hHeld => ?_)
 obtain ⟨w1, hw_⟩ : ∃ W, W = w.drew := ⟨_, rfl⟩
 have o_ := O0.out.drew
 have k_ : KeepS N w w.drew := KeepS.drew
 rw [← hw_] at o_ k_ hHeld ⊢
 clear hw_
 obtain ⟨O1, K1⟩ := ok_ K0 o_ k_
 have HCG_1 := Aside0.mk (CellN.keep HCG_0.out k_)
 have HK_1 := Aside0.mk (keepF HK_0.out k_)
 have HP_1 := Aside0.mk (keepF HP_0.out k_)
 have HU_1 := Aside0.mk (keepF HU_0.out k_)
 clear pa pb pc pd pe pf pg pz O0 K0 HCG_0 HK_0 HP_0 HU_0
 obtain ⟨pa, pb, pc, pd, pe, pf, pg, pz⟩ := blk7_ (HCG_1.out.2)
 clear o_ k_
 refine pP 0 (some 3) ?_
 refine pP 1 (some 4) ?_
 refine pP 2 (some 5) ?_
 refine pP 4 (some 7) ?_
 refine tP 3 (some 6) hHeld ?_
 refine oP 5 (some 8) (fun K_ hK_ => ?_)
 refine hP Tryd.func64 #[.pointer (some ⟨g, 0, none⟩)] ?_
 obtain ⟨N_, on_, nn_, rr_, bb_⟩ := O1.out.frame0
 refine (CSeen (w := w1) on_ (HCG_1.out.mono nn_) (Kd.F_mono HK_1.out nn_) (Kd.F_mono HP_1.out nn_) HL.out).mono ?_
 rintro e_ w2 ⟨A1, c1, rows, rfl, oo_, ll_, kk_⟩
 obtain ⟨o_, k_⟩ := bb_ _ _ kk_ oo_
 refine ⟨_, rfl, ?_⟩
 obtain ⟨O2, K2⟩ := ok_ K1 o_ k_
 have HCG_2 := Aside0.mk (CellN.keep HCG_1.out k_)
 have HK_2 := Aside0.mk (keepF HK_1.out k_)
 have HP_2 := Aside0.mk (keepF HP_1.out k_)
 have HU_2 := Aside0.mk (keepF HU_1.out k_)
 clear pa pb pc pd pe pf pg pz O1 K1 HCG_1 HK_1 HP_1 HU_1
 obtain ⟨pa, pb, pc, pd, pe, pf, pg, pz⟩ := blk7_ (HCG_2.out.2)
 have HSC := Aside0.mk (lead_C (i := 0) o_ rfl ll_)
 clear o_ k_ oo_ kk_ on_ nn_ rr_ bb_ ll_
 clear hHeld
 refine hK_.out _ _ ⟨pa, pb, pc, pd, pe, pf, pg⟩ (fun hHeld => ?_)
 clear hK_ K_
 refine nP ?_
 refine oP 6 (some 9) (fun K_ hK_ => ?_)
 refine hP Tryd.func66 #[.slice A6 U.length c6, .slice A1 (K ++ P).length c1] ?_
 refine (RpLen A6 c6 U A1 c1 (K ++ P) (Kd.F_now HU_2.out) HSC.out.2.2 HB.out).mono ?_
 rintro e_ w3 ⟨ks, k1, k2, rfl, hb_⟩
 refine ⟨_, rfl, ?_⟩
 have o_ := O2.out.below hb_
 have k_ := KeepS.of_below (N := N) hb_
 obtain ⟨O3, K3⟩ := ok_ K2 o_ k_
 have HCG_3 := Aside0.mk (CellN.keep HCG_2.out k_)
 have HK_3 := Aside0.mk (keepF HK_2.out k_)
 have HP_3 := Aside0.mk (keepF HP_2.out k_)
 have HU_3 := Aside0.mk (keepF HU_2.out k_)
 clear pa pb pc pd pe pf pg pz O2 K2 HCG_2 HK_2 HP_2 HU_2
 obtain ⟨pa, pb, pc, pd, pe, pf, pg, pz⟩ := blk7_ (HCG_3.out.2)
 clear o_ k_ hb_
 clear hHeld
 refine hK_.out _ _ ⟨pa, pb, pc, pd, pe, pf, pg⟩ (fun hHeld => ?_)
 clear hK_ K_
 refine nP ?_
 refine pP 7 (some 2) ?_
 refine done_ (by kernel_rfl) ?_
 clear hHeld
 go_wp2
 go_ret
 exact ⟨ks, k1, k2, rfl, O3.out.take 0, K3.out⟩
section
variable {α : Type} {e : Nat} {N : Nat → Prop} {W : World} {l : List HP} {i j : Nat} {v : Value} {xs : List α} {cs : List Value}
theorem appendQ_step (d : Kd α) {p : α} {P : Program} {ops : Array Oper} {o : Oper} {a : Act} {Q : Exit → Act → World → Prop} {Kc : Act → World → Prop} (h : Own N W l) (hi : l[i]? = some (qrow d e v xs)) (hj : l[j]? = some (elem d p cs)) (hij : i ≠ j) {N' : Option Tmp} (hN : o.dst = N') (hw : Region.wanted o (yielded ops a.tmps) = true) (s x : Operand) (t : TypeId) (z : Value) (bytes : Nat)
  (ho : o.op = .call { callee := .builtin .append, args := #[s, x], argTypes := #[t, t] })
  (ht : P.underlying t = some (.slice e)) (hinfo : (P.info? e).map (fun i => (i.zero, i.size, i.bytes)) = some (some z, d.sz, bytes)) (hz : z.cells.size = d.sz) (hs0 : 0 < d.sz) (hb0 : 0 < bytes)
  (hs : a.eval s = v) (hx : a.eval x = .slice (some ⟨W.heap.size, 0, none⟩) 1 1) (hl : (xs.length + 1) * bytes ≤ 140737488355328)
  (hc : ∀ A1 c1 w1, Own N w1 ((l.set i (qrow d e (.slice A1 (xs.length + 1) c1) (xs ++ [p]))).set j emp) → KeepS N W w1 → Kc (a.put N' (.slice A1 (xs.length + 1) c1)) w1) :
  if Region.wanted o (yielded ops a.tmps) = true then Oper.wp P o a (W.alloc (.cells cs.toArray e)) Kc Q else Kc (a.put N' undef) (W.alloc (.cells cs.toArray e)) := by
 subst hN
 obtain ⟨hN, Fs, h1, h2, h3⟩ := h
 have hi0 : d.Q e W 0 (Fs i) v xs := h1 i _ hi
 have hj0 : d.M W 0 (Fs j) p cs := h1 j _ hj
 refine Kd.Q_append_step d (w0 := W) 0 hw s x t e z bytes ho ht hinfo hz hs0 hb0 v xs p cs (fun k => Fs i k ∨ Fs j k ∨ W.heap.size ≤ k) (Fs j) hs hx hj0 ?_ (fun k hk => .inr (.inr hk)) (Kd.Q_mono hi0 (fun k hk => .inl hk)) (Below.refl _ _) (Nat.zero_le _) hl ?_
 ·exact fun k hk => ⟨.inr (.inl hk), fun he => hij (h3 _ _ k (hi0.1 k he.symm) hk)⟩
 ·intro v1 w1 hn _ hg hat
  obtain ⟨A1, c1, rfl, _⟩ := Kd.Q_slice hn
  rw [List.length_append, List.length_singleton] at hn ⊢
  refine hc A1 c1 w1 (merge hN h1 h2 h3 (List.getElem?_eq_some_iff.1 hi).1 (List.getElem?_eq_some_iff.1 hj).1 hij hg.size ?_ _ hn) (KeepS.grown hg (fun k hk hn => (h2 i k (hi0.1 k hk)).1 hn))
  exact fun k hk hno => hg.block k hk (fun he => hno (.inl (hi0.1 k he.symm)))
end
abbrev kR7 := k35
abbrev kU7 := k32
abbrev tR7 : TypeId := 35
abbrev tU7 : TypeId := 32
abbrev tC7 : TypeId := 111
abbrev Rnd7 := S35
abbrev Upd7 := S32
def CliO (g : Nat) (jp : Value) (o mtu push : Int) (K P : List Rnd7) (U : List Upd7) : HP :=
 ex fun vk : Value => ex fun vp : Value => ex fun vo : Value => star (star (star (cells g (cliC jp o mtu push vk vp vo) tC7) (qrow kR7 tR7 vk K)) (qrow kR7 tR7 vp P)) (nrow kU7 tU7 vo U)
section
variable {N : Nat → Prop} {w : World} {g : Nat} {jp : Value} {o mtu push : Int} {K P : List Rnd7} {U : List Upd7} {r : List HP}
theorem CliO.open_ (h : Own N w (CliO g jp o mtu push K P U :: r)) : ∃ A4 c4 A5 c5 A6 c6, (K.length ≤ c4 ∧ P.length ≤ c5 ∧ U.length ≤ c6) ∧
  Own N w (cells g (cliC jp o mtu push (.slice A4 K.length c4) (.slice A5 P.length c5) (.slice A6 U.length c6)) tC7 :: r ++ [nrow kU7 tU7 (.slice A6 U.length c6) U] ++ [qrow kR7 tR7 (.slice A5 P.length c5) P] ++ [qrow kR7 tR7 (.slice A4 K.length c4) K]) := by
 obtain ⟨vk, h1⟩ := h.of_ex (i := 0) rfl
 obtain ⟨vp, h2⟩ := h1.of_ex (i := 0) rfl
 obtain ⟨vo, h3⟩ := h2.of_ex (i := 0) rfl
 have h4 := h3.split (i := 0) rfl
 have h5 := h4.split (i := 0) rfl
 have h6 := h5.split (i := 0) rfl
 have h7 : Own N w (cells g (cliC jp o mtu push vk vp vo) tC7 :: r ++ [nrow kU7 tU7 vo U] ++ [qrow kR7 tR7 vp P] ++ [qrow kR7 tR7 vk K]) := h6
 have hn : (cells g (cliC jp o mtu push vk vp vo) tC7 :: r).length = r.length + 1 := rfl
 have i1 : (cells g (cliC jp o mtu push vk vp vo) tC7 :: r ++ [nrow kU7 tU7 vo U] ++ [qrow kR7 tR7 vp P] ++ [qrow kR7 tR7 vk K])[r.length + 1]? = some (nrow kU7 tU7 vo U) := by simp [List.getElem?_append]
 have i2 : (cells g (cliC jp o mtu push vk vp vo) tC7 :: r ++ [nrow kU7 tU7 vo U] ++ [qrow kR7 tR7 vp P] ++ [qrow kR7 tR7 vk K])[r.length + 2]? = some (qrow kR7 tR7 vp P) := by simp [List.getElem?_append]
 have i3 : (cells g (cliC jp o mtu push vk vp vo) tC7 :: r ++ [nrow kU7 tU7 vo U] ++ [qrow kR7 tR7 vp P] ++ [qrow kR7 tR7 vk K])[r.length + 3]? = some (qrow kR7 tR7 vk K) := by simp [List.getElem?_append]
 obtain ⟨A6, c6, rfl⟩ := h7.nslice i1
 obtain ⟨A5, c5, rfl, l5⟩ := h7.qslice i2
 obtain ⟨A4, c4, rfl, l4⟩ := h7.qslice i3
 exact ⟨A4, c4, A5, c5, A6, c6, ⟨l4, l5, (h7.nreads i1).2.1⟩, h7⟩
theorem CliO.shut {vk vp vo : Value} (h : Own N w (cells g (cliC jp o mtu push vk vp vo) tC7 :: qrow kR7 tR7 vk K :: qrow kR7 tR7 vp P :: nrow kU7 tU7 vo U :: r)) : Own N w (CliO g jp o mtu push K P U :: emp :: emp :: emp :: r) := by
 have h1 := h.join (i := 0) (j := 1) rfl rfl (by decide)
 have h2 := h1.join (i := 0) (j := 2) rfl rfl (by decide)
 have h3 := h2.join (i := 0) (j := 3) rfl rfl (by decide)
 exact h3.conv (i := 0) rfl (CliO g jp o mtu push K P U) (fun F hp _ => ⟨vk, vp, vo, hp⟩)
end
end Go.Proofs.YtjdenpmaianmfaaDoor.J
