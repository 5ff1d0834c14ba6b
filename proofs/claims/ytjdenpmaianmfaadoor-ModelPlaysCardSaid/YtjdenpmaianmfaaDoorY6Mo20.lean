/- What the laws of the Model share. -/
import Derived.Test.YtjdenpmaianmfaaDoorY6Mo16
namespace Go.Proofs.YtjdenpmaianmfaaDoor.J
set_option maxHeartbeats 16000000
set_option maxRecDepth 100000
set_option linter.unusedSimpArgs false
set_option linter.unusedVariables false
open Go RowKit YtjdenpmaianmfaaDoorW.PrintWords YtjdenpmaianmfaaDoorW.PrintLast YtjdenpmaianmfaaDoorW.PrintMore Q YtjdenpmaianmfaaDoor.Sep YtjdenpmaianmfaaDoor.Pure
def cfMay (cf : MCf) : Bool := decide ((1 ≤ cf.cl ∧ cf.cl ≤ 64) ∧ (1 ≤ cf.win ∧ cf.win ≤ 16) ∧ (1 ≤ cf.push ∧ cf.push ≤ 16) ∧ (1 ≤ cf.pull ∧ cf.pull ≤ 16) ∧ (64 ≤ cf.mtu ∧ cf.mtu ≤ 1400) ∧ (1 ≤ cf.last ∧ cf.last ≤ 1099511627776))
theorem in_q (n a b : Int) : sequencer_in.f n a b = some (decide (n ≥ a ∧ n ≤ b)) := by
 unfold sequencer_in.f
 by_cases h1 : n ≥ a <;> by_cases h2 : n ≤ b <;> simp [h1, h2]
theorem may_q (cf : MCf) : sequencer_May.f cf.cl cf.win cf.push cf.pull cf.mtu cf.last = some (if cfMay cf = true then 0 else 1) := by
 unfold sequencer_May.f cfMay
 simp only [in_q, Option.bind_some, decide_eq_true_eq, ge_iff_le]
 by_cases h1 : 1 ≤ cf.cl ∧ cf.cl ≤ 64
 case neg => rw [if_neg h1, if_neg (fun h => h1 h.1)]
 rw [if_pos h1]
 by_cases h2 : 1 ≤ cf.win ∧ cf.win ≤ 16
 case neg => rw [if_neg h2, if_neg (fun h => h2 h.2.1)]
 rw [if_pos h2]
 by_cases h3 : 1 ≤ cf.push ∧ cf.push ≤ 16
 case neg => rw [if_neg h3, if_neg (fun h => h3 h.2.2.1)]
 rw [if_pos h3]
 by_cases h4 : 1 ≤ cf.pull ∧ cf.pull ≤ 16
 case neg => rw [if_neg h4, if_neg (fun h => h4 h.2.2.2.1)]
 rw [if_pos h4]
 by_cases h5 : 64 ≤ cf.mtu ∧ cf.mtu ≤ 1400
 case neg => rw [if_neg h5, if_neg (fun h => h5 h.2.2.2.2.1)]
 rw [if_pos h5]
 by_cases h6 : 1 ≤ cf.last ∧ cf.last ≤ 1099511627776
 case neg => rw [if_neg h6, if_neg (fun h => h6 h.2.2.2.2.2)]
 rw [if_pos h6, if_pos ⟨h1, h2, h3, h4, h5, h6⟩]
def c0M : MCl := ⟨1, [], 0, 0, []⟩
def clsZ (x : Int) : List MCl := List.replicate x.toNat c0M
theorem clsZ_succ (x : Int) (h : 0 ≤ x) : clsZ (x + 1) = clsZ x ++ [c0M] := by
 unfold clsZ
 rw [show (x + 1).toNat = x.toNat + 1 by omega, List.replicate_succ']
theorem clsZ_len (x : Int) : (clsZ x).length = x.toNat := by unfold clsZ; rw [List.length_replicate]
abbrev qsZ (gs : List Nat) : List (Nat × RawR) := gs.map fun g => (g, [])
theorem clsZ_at {x n : Int} {y : MCl} (h : clAt (clsZ x) n = some y) : y = c0M := by
 obtain ⟨_, hx⟩ := clAt_some h
 exact List.eq_of_mem_replicate (List.mem_of_getElem? hx)
theorem MInv.zero {cf : MCf} (h : CfOk cf) : MInv cf 0 [] (clsZ cf.cl) := by
 refine ⟨by rw [clsZ_len]; have := h.cl.1; omega, Nat.le_refl _, fun r hr => by simp at hr, fun r hr => by simp at hr, fun k r hr => by simp at hr, fun n y hy => ?_⟩
 rw [clsZ_at hy]
 exact ⟨⟨by decide, by decide⟩, Nat.le_refl _, Nat.le_refl _, fun r hr => by simp [c0M] at hr, fun k r hr => by simp [c0M] at hr, List.prefix_rfl, Nat.le_refl _, by show ((0 : Nat) : Int) ≤ _; have := h.pull; omega⟩
theorem rep1P (W : World) (g : Nat) : Reps (Kd.FK (Kd.raw 1) W (fun _ => False)) 1 [[pt g]] [pt g] := (Reps.none _ _).snoc (fun _ _ => ⟨rfl, rfl, fun u hu => by rw [List.mem_singleton] at hu; rw [hu]; rfl⟩) rfl
theorem flat1 : Flat (Kd.raw 1) := fun h => h
theorem ptrs_len (gs : List Nat) : (ptrs (qsZ gs)).length = gs.length := by simp
theorem ptrs_more (gs : List Nat) (g : Nat) : ptrs (qsZ gs) ++ [[pt g]] = ptrs (qsZ (gs ++ [g])) := by simp
section
variable {N : Nat → Prop} {w : World} {P0 P1 P2 : HP} {gs : List Nat} {x : Int} {g : Nat}
theorem cl_more (hx : 0 ≤ x) (hg : gs.length = x.toNat) (h : Own N w [P0, P1, P2, bigs (clsI (qsZ gs) (clsZ x)), cells g #[.int .i64 1, .slice none 0 0, .int .i64 0, .int .i64 0, .slice none 0 0] 127]) : Own N w [P0, P1, P2, bigs (clsI (qsZ (gs ++ [g])) (clsZ (x + 1)))] := by
 have h1 := h.push_emp (nrow (Kd.raw 3) tR7 (.slice none 0 0) []) (fun w => Kd.N_nil _ _ _ _ _)
 have h2 := h1.push_emp (nrow kU7 tU7 (.slice none 0 0) []) (fun w => Kd.N_nil _ _ _ _ _)
 have h3 := h2.join (i := 4) (j := 5) rfl rfl (by decide)
 have h4 := h3.join (i := 4) (j := 6) rfl rfl (by decide)
 have h5 := h4.conv (i := 4) rfl (ClI g c0M []) (fun F hp _ => ⟨.slice none 0 0, .slice none 0 0, hp⟩)
 have h6 := h5.join (i := 3) (j := 4) rfl rfl (by decide)
 have e : clsI (qsZ (gs ++ [g])) (clsZ (x + 1)) = clsI (qsZ gs) (clsZ x) ++ [ClI g c0M []] := by
  unfold clsI qsZ
  rw [clsZ_succ x hx, List.map_append, List.zipWith_append (by rw [List.length_map, clsZ_len, hg])]
  rfl
 exact (h6.conv (i := 3) rfl (bigs (clsI (qsZ (gs ++ [g])) (clsZ (x + 1)))) (fun F hp _ => by
  rw [e]
  exact bigs_snoc (star_swap hp))).take 4
theorem mod_new {gm : Nat} {cf : MCf} {vC : Value} (hg : gs.length = (clsZ x).length) (h : Own N w [P0, cells gm #[cf.cl, cf.win, cf.push, cf.pull, cf.mtu, cf.last, .slice none 0 0, vC] 123, nrow (Kd.raw 1) tMP vC (ptrs (qsZ gs)), bigs (clsI (qsZ gs) (clsZ x))]) : Own N w [ModO gm cf [] (clsZ x)] := by
 have h1 := h.push_emp (nrow (Kd.raw 3) tR7 (.slice none 0 0) []) (fun w => Kd.N_nil _ _ _ _ _)
 have h2 := h1.push_emp (poolI [] [] (qsZ gs) (clsZ x)) (fun w p hp => by
  rcases List.mem_cons.1 hp with e | e
  ·subst e
   exact Lead.none _ _
  ·obtain ⟨i, hi, rfl⟩ := List.mem_iff_getElem.1 e
   rw [List.getElem_zipWith]
   have h3 : (clsZ x)[i]'(by rw [List.length_zipWith] at hi; omega) = c0M := List.eq_of_mem_replicate (List.getElem_mem _)
   rw [h3]
   show Lead _ _ ((qsZ gs)[i]'(by rw [List.length_zipWith] at hi; omega)).2 []
   rw [show ((qsZ gs)[i]'(by rw [List.length_zipWith] at hi; omega)).2 = [] by simp]
   exact Lead.none _ _)
 exact ModO.shut (by simp [hg]) (h2.pickL [1, 5, 3, 2, 4] (by decide) (by simp))
end
def NwI (N : Nat → Prop) (w : World) (gm : Nat) (cf : MCf) (R : HP) (i : Value) (wr : World) : Prop := ∃ (x : Int) (gs : List Nat) (AC : Option Addr) (cC : Nat), 0 ≤ x ∧ x ≤ cf.cl ∧ i = .int .i64 x ∧ gs.length = x.toNat ∧ Aside0 (Own N wr [R, cells gm #[cf.cl, cf.win, cf.push, cf.pull, cf.mtu, cf.last, .slice none 0 0, .slice AC gs.length cC] 123, nrow (Kd.raw 1) tMP (.slice AC gs.length cC) (ptrs (qsZ gs)), bigs (clsI (qsZ gs) (clsZ x))]) ∧ Aside0 (KeepS N w wr)
theorem infoP : (Tryd.prog.info? tMP).map (fun i => (i.zero, i.size, i.bytes)) = some (some (.pointer none), 1, 8) := by kernel_rfl
theorem MNew_no {N : Nat → Prop} {w : World} (cf : MCf) (h : Own N w []) (hm : ¬ cfMay cf = true) :
  Calls Tryd.prog 43 #[.agg #[cf.cl, cf.win, cf.push, cf.pull, cf.mtu, cf.last]] w fun e_ w' => e_ = .returned (.tuple #[.pointer none, .int .i64 1]) ∧ Own N w' [] ∧ KeepS N w w' := by
 have HMY : Aside0 (sequencer_May.f cf.cl cf.win cf.push cf.pull cf.mtu cf.last = some 1) := ⟨by rw [may_q, if_neg hm]⟩
 have O0 : Aside0 (Own N w []) := ⟨h⟩
 have K0 : Aside0 (KeepS N w w) := ⟨KeepS.refl _ _⟩
 clear h hm
 go_enter Tryd.func43, Tryd.ntmps43
 go_wp2_with (first | ((with_reducible refine gD 1 rfl ?_); refine bP 1 #[cf.cl, cf.win, cf.push, cf.pull, cf.mtu, cf.last] 68 O0.out ?_; intro gc w1 o_ k_; obtain ⟨O1, K1⟩ := ok_ K0 o_ k_; clear O0 K0 o_ k_; have a0 := k6_ O1 0) | ((with_reducible refine gC 83 rfl ?_); refine gP (some 7) Tryd.func83 #[.agg #[cf.cl, cf.win, cf.push, cf.pull, cf.mtu, cf.last]] ?_; refine (sequencer_May.calls cf.cl cf.win cf.push cf.pull cf.mtu cf.last 1 _ HMY.out).mono ?_; rintro e_ w2 ⟨rfl, hb_⟩; refine ⟨_, rfl, ?_⟩; obtain ⟨O2, K2⟩ := ob_ K1 O1 hb_; clear a0 O1 K1 hb_; have a0 := k6_ O2 0))
 go_ret2
 exact ⟨rfl, O2.out.take 0, K2.out⟩
theorem MNew_ok {N : Nat → Prop} {w : World} (cf : MCf) (h : Own N w []) (hm : cfMay cf = true) :
  Calls Tryd.prog 43 #[.agg #[cf.cl, cf.win, cf.push, cf.pull, cf.mtu, cf.last]] w fun e_ w' => ∃ gm, e_ = .returned (.tuple #[pt gm, .int .i64 0]) ∧ Own N w' [ModO gm cf [] (clsZ cf.cl)] ∧ KeepS N w w' := by
 have HMY : Aside0 (sequencer_May.f cf.cl cf.win cf.push cf.pull cf.mtu cf.last = some 0) := ⟨by rw [may_q, if_pos hm]⟩
 have HCF : Aside0 (1 ≤ cf.cl ∧ cf.cl ≤ 64) := ⟨(of_decide_eq_true hm).1⟩
 have O0 : Aside0 (Own N w []) := ⟨h⟩
 have K0 : Aside0 (KeepS N w w) := ⟨KeepS.refl _ _⟩
 clear h hm
 go_enter Tryd.func43, Tryd.ntmps43
 go_wp2_with (first | ((with_reducible refine gD 1 rfl ?_); refine bP 1 #[cf.cl, cf.win, cf.push, cf.pull, cf.mtu, cf.last] 68 O0.out ?_; intro gc w1 o_ k_; obtain ⟨O1, K1⟩ := ok_ K0 o_ k_; clear O0 K0 o_ k_; have a0 := k6_ O1 0) | ((with_reducible refine gC 83 rfl ?_); refine gP (some 7) Tryd.func83 #[.agg #[cf.cl, cf.win, cf.push, cf.pull, cf.mtu, cf.last]] ?_; refine (sequencer_May.calls cf.cl cf.win cf.push cf.pull cf.mtu cf.last 0 _ HMY.out).mono ?_; rintro e_ w2 ⟨rfl, hb_⟩; refine ⟨_, rfl, ?_⟩; obtain ⟨O2, K2⟩ := ob_ K1 O1 hb_; clear a0 O1 K1 hb_; have a0 := k6_ O2 0) | ((with_reducible refine gD 13 rfl ?_); refine bP 13 #[cf.cl, cf.win, cf.push, cf.pull, cf.mtu, cf.last, .slice none 0 0, .slice none 0 0] 123 O2.out ?_; intro gm w3 o_ k_; obtain ⟨O3, K3⟩ := ok_ K2 o_ k_; clear a0 O2 K2 o_ k_; have a0 := k6_ O3 0; have a1 := k8_ O3 1))
 clear a0 a1
 go_loopw [16] (fun i wr => NwI N w gm cf (cells gc #[cf.cl, cf.win, cf.push, cf.pull, cf.mtu, cf.last] 68) i wr) (fun i _ => cf.cl.toNat - (intOf i).toNat)
 case atStart => exact ⟨0, [], none, 0, by omega, by have := HCF.out; omega, rfl, rfl, ⟨((O3.out.push_emp (nrow (Kd.raw 1) tMP (.slice none 0 0) []) (fun w => Kd.N_nil _ _ _ _ _)).push_emp (bigs (clsI (qsZ []) (clsZ 0))) (fun w => trivial))⟩, K3⟩
 case round =>
  clear O3 K3
  obtain ⟨x, gs, AC, cC, hx0, hx1, rfl, hgs, OA, KA⟩ := hrel
  by_cases hlt : x < cf.cl
  ·have hd := decide_eq_true hlt
   have hs2 : wrap64 (x + 1) = x + 1 := by unfold wrap64; have := HCF.out; omega
   have HX := Am (show 0 ≤ x ∧ x < cf.cl from ⟨hx0, hlt⟩)
   have HG := Am hgs
   have HGL : Aside0 (gs.length ≤ 64) := ⟨by rw [hgs]; have := HCF.out; omega⟩
   clear hx0 hx1 hlt hgs
   have O4 : Aside0 (Own N wr [cells gc #[cf.cl, cf.win, cf.push, cf.pull, cf.mtu, cf.last] 68, cells gm #[cf.cl, cf.win, cf.push, cf.pull, cf.mtu, cf.last, .slice none 0 0, .slice AC gs.length cC] 123, nrow (Kd.raw 1) tMP (.slice AC gs.length cC) (ptrs (qsZ gs)), bigs (clsI (qsZ gs) (clsZ x))]) := ⟨OA.out⟩
   have K4 : Aside0 (KeepS N w wr) := ⟨KA.out⟩
   have a1 := k8_ O4 1
   have a0 := k6_ O4 0
   clear OA KA
   go_wp2_with (first | ((with_reducible refine gD 24 rfl ?_); refine bP 24 #[.int .i64 1, .slice none 0 0, .int .i64 0, .int .i64 0, .slice none 0 0] 127 O4.out ?_; intro gx w5 o_ k_; obtain ⟨O5, K5⟩ := ok_ K4 o_ k_; clear a1 a0 O4 K4 o_ k_; have a1 := k8_ O5 1; have a0 := k6_ O5 0; have a4 := k5_ O5 4) | ((with_reducible refine gD 25 rfl ?_); refine own_lit (Kd.raw 1) (N := N) (e := tMP) (xs := [[pt gx]]) (inner := [pt gx]) rfl (D := 25) rfl gs_ ?hp (by show 1 ≤ 9223372036854775807; decide) O5.out ?_; (case hp => exact rep1P _ _); intro B1 b1 w6 o_ k_; obtain ⟨O6, K6⟩ := ok_ K5 o_ k_; clear a1 a0 a4 O5 K5 o_ k_; have a1 := k8_ O6 1; have a0 := k6_ O6 0; have a4 := k5_ O6 4) | ((with_reducible refine gate_builtin (b := .append) (xs := #[.tmp 22, .tmp 25]) rfl ?_); at_builtin; refine Own.append_flat (Kd.raw 1) flat1 O6.out (i := 2) (ys := [[pt gx]]) rfl ((O6.out.nreads (i := 5) rfl).2.2) rfl (.tmp 22) (.tmp 25) 121 ((.pointer none)) 8 rfl Tryd.underlying121 infoP rfl (by decide) (by decide) rfl rfl (by have := HGL.out; rw [ptrs_len]; omega) ?_; rw [ptrs_more, ptrs_len]; intro B2 b2 w7 o_ k_; obtain ⟨O7, K7⟩ := ok_ K6 o_ k_; clear a1 a0 a4 O6 K6 o_ k_; have a1 := k8_ O7 1; have a0 := k6_ O7 0; have a4 := k5_ O7 4) | ((with_reducible refine gT 121 28 rfl ?_); refine wS 1 7 [.slice B2 (gs ++ [gx]).length b2] O7 ?_; intro w8 o_ k_; obtain ⟨O8, K8⟩ := ok_ K7 o_ k_; clear a1 a0 a4 O7 K7 o_ k_; have a1 := k8_ O8 1; have a0 := k6_ O8 0; have a4 := k5_ O8 4))
   go_roundw
   case rel => exact ⟨x + 1, gs ++ [gx], B2, b2, by have := HX.out; omega, by have := HX.out; omega, int_eq17 (by unfold wrap64; have := HX.out; have := HCF.out; omega), by rw [List.length_append, List.length_singleton, HG.out]; have := HX.out; omega, ⟨cl_more HX.out.1 HG.out (O8.out.take 5)⟩, K8⟩
   case measure => have := HX.out; have := HCF.out; simp [intOf]; omega
  ·have hxe : x = cf.cl := by omega
   have hd : decide (x < cf.cl) = false := decide_eq_false hlt
   clear hlt hx0 hx1
   go_wp2
   go_ret2
   exact ⟨gm, rfl, by rw [← hxe]; exact mod_new (by rw [clsZ_len]; exact hgs) OA.out, KA.out⟩
end Go.Proofs.YtjdenpmaianmfaaDoor.J
namespace Go.Proofs.YtjdenpmaianmfaaDoor.J
set_option maxHeartbeats 16000000
set_option maxRecDepth 100000
set_option linter.unusedSimpArgs false
set_option linter.unusedVariables false
open Go RowKit YtjdenpmaianmfaaDoorW.PrintWords YtjdenpmaianmfaaDoorW.PrintLast YtjdenpmaianmfaaDoorW.PrintMore Q YtjdenpmaianmfaaDoor.Sep YtjdenpmaianmfaaDoor.Pure
abbrev kS21 := k88
abbrev Step21 := S88
theorem heapS21 : Kd.Heap kS21 := Kd.heap_iso _ (Kd.heap_pair (Kd.heap_iso _ (Kd.heap_pair (Kd.heap_int _) (Kd.heap_pair (Kd.heap_int _) (Kd.heap_pair heapU7 (Kd.heap_pair Kd.heap_string (Kd.heap_pair (Kd.heap_int _) (Kd.heap_pair (Kd.heap_int _) (Kd.heap_int _)))))))) (Kd.heap_pair (Kd.heap_int _) (Kd.heap_int _)))
theorem k12_ {N : Nat → Prop} {w : World} {l : List HP} {t : TypeId} {g : Nat} {v0 v1 v2 v3 v4 v5 v6 v7 v8 v9 v10 v11 : Value} (h : Aside0 (Own N w l)) (i : Nat) (hi : l[i]? = some (cells g #[v0, v1, v2, v3, v4, v5, v6, v7, v8, v9, v10, v11] t) := by rfl) : w.cell? ⟨g, 0, none⟩ = some v0 ∧ w.cell? ⟨g, 1, none⟩ = some v1 ∧ w.cell? ⟨g, 2, none⟩ = some v2 ∧ w.cell? ⟨g, 3, none⟩ = some v3 ∧ w.cell? ⟨g, 4, none⟩ = some v4 ∧ w.cell? ⟨g, 5, none⟩ = some v5 ∧ w.cell? ⟨g, 6, none⟩ = some v6 ∧ w.cell? ⟨g, 7, none⟩ = some v7 ∧ w.cell? ⟨g, 8, none⟩ = some v8 ∧ w.cell? ⟨g, 9, none⟩ = some v9 ∧ w.cell? ⟨g, 10, none⟩ = some v10 ∧ w.cell? ⟨g, 11, none⟩ = some v11 ∧ ∀ i, w.frozen? ⟨g, i, none⟩ = false := ⟨(blk_cell (h.out.blk hi) 0).trans rfl, (blk_cell (h.out.blk hi) 1).trans rfl, (blk_cell (h.out.blk hi) 2).trans rfl, (blk_cell (h.out.blk hi) 3).trans rfl, (blk_cell (h.out.blk hi) 4).trans rfl, (blk_cell (h.out.blk hi) 5).trans rfl, (blk_cell (h.out.blk hi) 6).trans rfl, (blk_cell (h.out.blk hi) 7).trans rfl, (blk_cell (h.out.blk hi) 8).trans rfl, (blk_cell (h.out.blk hi) 9).trans rfl, (blk_cell (h.out.blk hi) 10).trans rfl, (blk_cell (h.out.blk hi) 11).trans rfl, fun i => blk_frozen (h.out.blk hi) i⟩
def keys50 (l : List Step21) : Prop := ∀ y : Int, 0 ≤ y → y < l.length → (rd_T88 l y).f0.f3.size ≤ 50
def gS (s : Step21) : Bool := (if (s.f0.f2.f0.size : Int) > 100 then true else decide ((s.f0.f2.f3.size : Int) > 1200)) || decide ((s.f0.f3.size : Int) > 50)
def greatB (cf : MCf) (l : List Step21) : Bool := decide ((l.length : Int) > 60) || decide (cf.cl > 4) || l.any gS
theorem gS_cases (s : Step21) : (chapbookref04_Great.f s.f0.f2.f0 s.f0.f2.f1 s.f0.f2.f2 s.f0.f2.f3 = some true ∧ gS s = true) ∨ (chapbookref04_Great.f s.f0.f2.f0 s.f0.f2.f1 s.f0.f2.f2 s.f0.f2.f3 = some false ∧ decide ((s.f0.f3.size : Int) > 50) = gS s) := by
 unfold chapbookref04_Great.f gS
 split
 ·exact .inl ⟨rfl, rfl⟩
 ·cases h : decide ((s.f0.f2.f3.size : Int) > 1200)
  ·exact .inr ⟨rfl, by simp⟩
  ·exact .inl ⟨rfl, by simp⟩
theorem great21b (cf : MCf) (l : List Step21) (h : greatB cf l = false) : l.length ≤ 60 ∧ cf.cl ≤ 4 ∧ keys50 l := by
 simp only [greatB, Bool.or_eq_false_iff, decide_eq_false_iff_not] at h
 refine ⟨by omega, by omega, fun y h0 h1 => ?_⟩
 have hm : rd_T88 l y ∈ l := by
  show l.getD y.toNat _ ∈ l
  rw [List.getD_eq_getElem?_getD, List.getElem?_eq_getElem (show y.toNat < l.length by omega)]
  exact List.getElem_mem _
 have := List.any_eq_false.mp h.2 _ hm
 simp only [gS, Bool.or_eq_true, not_or, decide_eq_true_eq] at this
 have := this.2
 omega
theorem great_drop (l : List Step21) (x : Int) (h0 : 0 ≤ x) (h1 : x < l.length) : (l.drop x.toNat).any gS = (gS (rd_T88 l x) || (l.drop (x + 1).toNat).any gS) := by
 rw [List.drop_eq_getElem_cons (show x.toNat < l.length by omega), List.any_cons, show (x + 1).toNat = x.toNat + 1 by omega]
 congr 1
 show _ = gS (l.getD x.toNat _)
 rw [List.getD_eq_getElem?_getD, List.getElem?_eq_getElem (show x.toNat < l.length by omega)]
 rfl
def GrI (N : Nat → Prop) (w : World) (l : List Step21) (b : Bool) (R : HP) (i : Value) (wr : World) : Prop := ∃ x : Int, 0 ≤ x ∧ x ≤ l.length ∧ i = .int .i64 x ∧ Aside0 ((l.drop x.toNat).any gS = b) ∧ Aside0 (Own N wr [R]) ∧ Aside0 (KeepS N w wr)
theorem Great21 {w : World} (cf : MCf) (A0 : Option Addr) (c0 : Nat) (l0 : List Step21) (b : Bool) (hb : greatB cf l0 = b) (hr0 : Kd.C kS21 w A0 l0.length l0) :
  Calls Tryd.prog 36 #[.agg #[cf.cl, cf.win, cf.push, cf.pull, cf.mtu, cf.last], .slice A0 l0.length c0] w fun e w' => e = .returned (.bool b) ∧ Below w.heap.size w w' := by
 obtain ⟨N, hN⟩ : ∃ N : Nat → Prop, N = fun k => k < w.heap.size := ⟨_, rfl⟩
 have HN := Am hN
 have HSF : Aside0 (Kd.F kS21 w N A0 l0.length l0) := ⟨by rw [hN]; exact Kd.C_F heapS21 hr0⟩
 have HF : (decide ((l0.length : Int) > 60) = true ∧ decide (60 < (l0.length : Int)) = true ∧ decide (60 < l0.length) = true ∧ b = true) ∨ (decide ((l0.length : Int) > 60) = false ∧ decide (60 < (l0.length : Int)) = false ∧ decide (60 < l0.length) = false ∧ decide (cf.cl > 4) = true ∧ decide (4 < cf.cl) = true ∧ b = true) ∨ (decide ((l0.length : Int) > 60) = false ∧ decide (60 < (l0.length : Int)) = false ∧ decide (60 < l0.length) = false ∧ decide (cf.cl > 4) = false ∧ decide (4 < cf.cl) = false ∧ Aside0 (l0.length ≤ 60) ∧ Aside0 (l0.any gS = b)) := by
  unfold greatB at hb
  by_cases h6 : (l0.length : Int) > 60
  ·exact .inl ⟨decide_eq_true h6, decide_eq_true h6, decide_eq_true (by omega), by rw [← hb, decide_eq_true h6]; rfl⟩
  ·by_cases h4 : cf.cl > 4
   ·exact .inr (.inl ⟨decide_eq_false h6, decide_eq_false h6, decide_eq_false (by omega), decide_eq_true h4, decide_eq_true h4, by rw [← hb, decide_eq_true h4]; simp⟩)
   ·exact .inr (.inr ⟨decide_eq_false h6, decide_eq_false h6, decide_eq_false (by omega), decide_eq_false h4, decide_eq_false h4, ⟨by omega⟩, ⟨by rw [← hb, decide_eq_false h6, decide_eq_false h4]; rfl⟩⟩)
 have O0 : Aside0 (Own N w []) := ⟨Own.start_ (fun k hk => by rw [hN] at hk; exact hk)⟩
 have K0 : Aside0 (KeepS N w w) := ⟨KeepS.refl _ _⟩
 clear hN hr0 hb
 rcases HF with ⟨d1, d2, d3, rfl⟩ | ⟨d1, d2, d3, d4, d5, rfl⟩ | ⟨d1, d2, d3, d4, d5, HL60, HAN⟩
 all_goals go_enter Tryd.func36, Tryd.ntmps36
 all_goals go_wp2_with (first | ((with_reducible refine gD 2 rfl ?_); refine bP 2 #[cf.cl, cf.win, cf.push, cf.pull, cf.mtu, cf.last] 68 O0.out ?_; intro gc w1 o_ k_; obtain ⟨O1, K1⟩ := ok_ K0 o_ k_; clear O0 K0 o_ k_; have a0 := k6_ O1 0))
 ·go_ret
  exact ⟨rfl, kw_ K1 HN⟩
 ·go_ret
  exact ⟨rfl, kw_ K1 HN⟩
 clear a0
 go_loopw [17] (fun i wr => GrI N w l0 b (cells gc #[cf.cl, cf.win, cf.push, cf.pull, cf.mtu, cf.last] 68) i wr) (fun i _ => l0.length - (intOf i).toNat)
 case atStart => exact ⟨0, by omega, by omega, rfl, ⟨HAN.out⟩, O1, K1⟩
 case round =>
  clear O1 K1 HAN
  obtain ⟨x, hx0, hx1, rfl, HA, OA, KA⟩ := hrel
  by_cases hlt : x < (l0.length : Int)
  ·have hd := decide_eq_true hlt
   obtain ⟨ad, e7, y0, y1, y2, y3, y4, y5, y6, y7, y8, y9, y10, y11⟩ := at_T88 (Kd.F_now (keepF HSF.out KA.out)) x hx0 hlt
   cases e7
   have hs2 : wrap64 (x + 1) = x + 1 := by unfold wrap64; have := HL60.out; omega
   have hp := eq_true hx0
   have hq := eq_true hlt
   have HX : Aside0 (0 ≤ x ∧ x < l0.length ∧ x ≤ 59) := ⟨hx0, hlt, by have := HL60.out; omega⟩
   have HB := HA.out
   rw [great_drop l0 x hx0 hlt] at HB
   obtain ⟨s, hs⟩ : ∃ s, rd_T88 l0 x = s := ⟨_, rfl⟩
   rw [hs] at y0 y1 y2 y3 y4 y5 y6 y7 y8 y9 y10 y11 HB
   have HC : (Aside0 (chapbookref04_Great.f s.f0.f2.f0 s.f0.f2.f1 s.f0.f2.f2 s.f0.f2.f3 = some true) ∧ b = true) ∨ (Aside0 (chapbookref04_Great.f s.f0.f2.f0 s.f0.f2.f1 s.f0.f2.f2 s.f0.f2.f3 = some false) ∧ decide ((s.f0.f3.size : Int) > 50) = true ∧ decide (50 < (s.f0.f3.size : Int)) = true ∧ b = true) ∨ (Aside0 (chapbookref04_Great.f s.f0.f2.f0 s.f0.f2.f1 s.f0.f2.f2 s.f0.f2.f3 = some false) ∧ decide ((s.f0.f3.size : Int) > 50) = false ∧ decide (50 < (s.f0.f3.size : Int)) = false ∧ Aside0 ((l0.drop (x + 1).toNat).any gS = b)) := by
    rcases gS_cases s with ⟨h1, h2⟩ | ⟨h1, h2⟩
    ·exact .inl ⟨⟨h1⟩, by rw [← HB, h2]; rfl⟩
    ·cases h3 : gS s <;> rw [h3] at h2 HB
     ·exact .inr (.inr ⟨⟨h1⟩, h2, h2, ⟨HB⟩⟩)
     ·exact .inr (.inl ⟨⟨h1⟩, h2, h2, HB.symm⟩)
   clear hx0 hx1 hlt hs HB HA
   rcases HC with ⟨HU, rfl⟩ | ⟨HU, d6, d7, rfl⟩ | ⟨HU, d6, d7, HA⟩
   all_goals have O2 : Aside0 (Own N wr [cells gc #[cf.cl, cf.win, cf.push, cf.pull, cf.mtu, cf.last] 68]) := ⟨OA.out⟩
   all_goals have K2 : Aside0 (KeepS N w wr) := ⟨KA.out⟩
   all_goals have a0 := k6_ O2 0
   all_goals clear OA KA
   all_goals go_wp2_with (first | ((with_reducible refine gD 6 rfl ?_); refine bP 6 #[.int .i64 0, .int .i64 0, .string ⟨#[]⟩, .int .i64 0, .int .i64 0, .string ⟨#[]⟩, .string ⟨#[]⟩, .int .i64 0, .int .i64 0, .int .u32 0, .int .i64 0, .int .i64 0] 88 O2.out ?_; intro gs w3 o_ k_; obtain ⟨O3, K3⟩ := ok_ K2 o_ k_; clear a0 O2 K2; have a0 := k6_ O3 0; have a1 := k12_ O3 1; clear o_ k_) | ((with_reducible refine gT 88 6 rfl ?_); refine wS 1 0 [s.f0.f0, s.f0.f1, s.f0.f2.f0, s.f0.f2.f1, s.f0.f2.f2, s.f0.f2.f3, s.f0.f3, s.f0.f4, s.f0.f5, .int .u32 s.f0.f6, s.f1, s.f2] O3 ?_; intro w4 o_ k_; obtain ⟨O4, K4⟩ := ok_ K3 o_ k_; clear a0 a1 O3 K3; have a0 := k6_ O4 0; have a1 := k12_ O4 1; clear o_ k_) | ((with_reducible refine gC 57 rfl ?_); refine gP (some 24) Tryd.func57 #[.agg #[s.f0.f2.f0, s.f0.f2.f1, s.f0.f2.f2, s.f0.f2.f3]] ?_; refine (chapbookref04_Great.calls s.f0.f2.f0 s.f0.f2.f1 s.f0.f2.f2 s.f0.f2.f3 _ _ HU.out).mono ?_; rintro e_ w5 ⟨rfl, hb_⟩; refine ⟨_, rfl, ?_⟩; have o_ := O4.out.below hb_; have k_ := KeepS.of_below (N := N) hb_; obtain ⟨O5, K5⟩ := ok_ K4 o_ k_; clear a0 a1 O4 K4; have a0 := k6_ O5 0; have a1 := k12_ O5 1; clear o_ k_ hb_))
   ·go_ret
    exact ⟨rfl, kw_ K5 HN⟩
   ·go_ret
    exact ⟨rfl, kw_ K5 HN⟩
   go_roundw
   case rel => exact ⟨x + 1, by have := HX.out; omega, by have := HX.out; omega, int_eq17 (by unfold wrap64; have := HX.out; omega), HA, ⟨O5.out.take 1⟩, K5⟩
   case measure => have := HX.out; simp [intOf]; omega
  ·have hxe : x = l0.length := by omega
   subst hxe
   have hd : decide ((l0.length : Int) < (l0.length : Int)) = false := decide_eq_false (Int.lt_irrefl _)
   clear hlt hx0 hx1
   have hbb : b = false := by rw [← HA.out, Int.toNat_natCast, List.drop_length]; rfl
   subst hbb
   go_wp2
   go_ret
   exact ⟨rfl, KA.out.below (Nat.le_refl _) (fun k hk => by rw [HN.out]; exact hk)⟩
theorem CfOk.mk_ {cf : MCf} (h : cfMay cf = true) (h4 : cf.cl ≤ 4) : CfOk cf := by
 obtain ⟨a, b, c, d, e, f⟩ := of_decide_eq_true h
 exact ⟨⟨a.1, h4⟩, c.1, d.1, f⟩
theorem rmay21 (cf : MCf) : chapbookref16_May.f cf.cl cf.win cf.push cf.pull cf.mtu cf.last = some (cfMay cf) := by
 unfold chapbookref16_May.f cfMay
 simp only [ge_iff_le]
 by_cases h1 : 1 ≤ cf.cl; case neg => simp [h1]
 by_cases h2 : cf.cl ≤ 64; case neg => simp [h1, h2]
 by_cases h3 : 1 ≤ cf.win; case neg => simp [h1, h2, h3]
 by_cases h4 : cf.win ≤ 16; case neg => simp [h1, h2, h3, h4]
 by_cases h5 : 1 ≤ cf.push; case neg => simp [h1, h2, h3, h4, h5]
 by_cases h6 : cf.push ≤ 16; case neg => simp [h1, h2, h3, h4, h5, h6]
 by_cases h7 : 1 ≤ cf.pull; case neg => simp [h1, h2, h3, h4, h5, h6, h7]
 by_cases h8 : cf.pull ≤ 16; case neg => simp [h1, h2, h3, h4, h5, h6, h7, h8]
 by_cases h9 : 64 ≤ cf.mtu; case neg => simp [h1, h2, h3, h4, h5, h6, h7, h8, h9]
 by_cases h10 : cf.mtu ≤ 1400; case neg => simp [h1, h2, h3, h4, h5, h6, h7, h8, h9, h10]
 by_cases h11 : 1 ≤ cf.last; case neg => simp [h1, h2, h3, h4, h5, h6, h7, h8, h9, h10, h11]
 simp [h1, h2, h3, h4, h5, h6, h7, h8, h9, h10, h11]
theorem field_RE (e k n : Int) (s : ByteArray) (y : Bool) (m : Int) (W : World) : (Instr.field 79 (.agg #[e, k, n, s, y, m]) 0).run Tryd.prog W = .ok (.int .i64 e) W := by kernel_rfl
def cfA : MCf := ⟨2, 2, 1, 1, 100, 9⟩
def cf0 : MCf := ⟨0, 0, 0, 0, 0, 0⟩
theorem cfA_ok : CfOk cfA := ⟨by decide, by decide, by decide, by decide⟩
def awU : Upd7 := ⟨⟨#[107]⟩, 1, 5, ⟨#[]⟩⟩
def awR : Rnd7 := ⟨1, 1, [awU]⟩
def awC0 : List MCl := [c0M, c0M]
def awC1 : List MCl := [⟨1, [], 0, 0, [awU]⟩, c0M]
def awC2 : List MCl := [⟨1, [awR], 0, 0, []⟩, c0M]
def awC3 : List MCl := [⟨1, [awR], 0, 0, []⟩, ⟨1, [], 0, 1, []⟩]
def awC4 : List MCl := [⟨1, [awR], 0, 0, []⟩, ⟨1, [], 1, 0, []⟩]
def awA (kd n : Int) : ActM := ⟨kd, n, ⟨⟨#[]⟩, 0, 0, ⟨#[]⟩⟩, ⟨#[]⟩, 0, 0, 0⟩
def awA1 : ActM := ⟨1, 1, awU, ⟨#[]⟩, 0, 0, 0⟩
def awA6 : ActM := ⟨2, 2, ⟨⟨#[]⟩, 0, 0, ⟨#[]⟩⟩, ⟨#[107]⟩, 0, 0, 0⟩
theorem awE1 : updE [] ⟨#[107]⟩ 1 5 ⟨#[]⟩ 100 = 0 := by kernel_rfl
theorem aw1 : doS cfA [] awC0 awA1 = (rep0 0, awC1) := by
 show (rep0 (updE [] ⟨#[107]⟩ 1 5 ⟨#[]⟩ 100), [({ c0M with U := updU [] ⟨#[107]⟩ 1 5 ⟨#[]⟩ 100 } : MCl), c0M]) = _
 rw [show updU [] ⟨#[107]⟩ 1 5 ⟨#[]⟩ 100 = [awU] from if_pos awE1, awE1]
 rfl
theorem aw2 : doS cfA [] awC1 (awA 3 1) = (repN 1, awC2) := by kernel_rfl
theorem aw3 : nextR 1 [] awC2 = some awR := by kernel_rfl
theorem aw3b : nextR 1 [awR] awC2 = none := by kernel_rfl
theorem aw4 : comeS 2 cfA [awR] awC2 = (true, awC3) := by kernel_rfl
theorem aw4b : comeS 2 cfA [awR] awC3 = (false, awC3) := by kernel_rfl
theorem aw5 : doS cfA [awR] awC3 (awA 4 2) = (repN 1, awC4) := by kernel_rfl
theorem awV : stateOf [] [awR] ⟨#[107]⟩ = (1, 5, none') := by
 show doL zeroM ([awU] ++ []) ⟨#[107]⟩ = _
 rw [doL_get]
 kernel_rfl
theorem awN : cntK (stateOf [] [awR]) = 1 := by
 refine cntK_is (ks := [(⟨#[107]⟩ : ByteArray)]) (by simp) (fun key => ?_)
 show _ ↔ (doL zeroM [awU] key).1 ≠ 0
 have e : doL zeroM [awU] = doU zeroM ⟨#[107]⟩ 1 5 ⟨#[]⟩ := rfl
 rw [e]
 unfold doU
 rw [if_pos (by kernel_rfl), List.mem_singleton]
 unfold J.upd
 constructor
 ·intro h
  rw [if_pos h]
  decide
 ·intro h
  by_cases hk : key = ⟨#[107]⟩
  ·exact hk
  ·rw [if_neg hk] at h
   exact (h rfl).elim
theorem aw6 : doS cfA [awR] awC4 awA6 = (⟨0, (1, 5, none'), false, 1⟩, awC4) := by
 have e : doS cfA [awR] awC4 awA6 = (⟨0, stateOf [] [awR] ⟨#[107]⟩, false, cntK (stateOf [] [awR])⟩, awC4) := rfl
 rw [e, awV, awN]
 rfl
theorem aw7 : doS cfA [awR] awC4 (awA 7 1) = (rep0 5, awC4) := by kernel_rfl
theorem awI0 : MInv cfA 0 [] awC0 := MInv.zero cfA_ok
theorem awI1 : MInv cfA 1 [] awC1 := by have h := awI0.act (by decide) awA1; rw [aw1] at h; exact h
theorem awI2 : MInv cfA 2 [] awC2 := by have h := awI1.act (by decide) (awA 3 1); rw [aw2] at h; exact h
theorem awL3 : cmtL 1 [] awC2 = [awR] := by unfold cmtL; rw [aw3]; rfl
theorem awL3b : cmtL 1 [awR] awC2 = [awR] := by unfold cmtL; rw [aw3b]; rfl
theorem awI3 : MInv cfA 3 [awR] awC2 := by have h := awI2.commit 1; rw [awL3] at h; exact h
theorem awI4 : MInv cfA 4 [awR] awC3 := by have h := awI3.come 2; rw [aw4] at h; exact h
theorem awI5 : MInv cfA 5 [awR] awC4 := by have h := awI4.act (by decide) (awA 4 2); rw [aw5] at h; exact h
section
variable {N : Nat → Prop} {w : World} {gm x : Nat} {cf : MCf} {L : List Rnd7} {cls : List MCl}
theorem MDo_e (a : ActM) (r : RepT) (c2 : List MCl) (hd : doS cf L cls a = (r, c2)) (h : Own N w [ModO gm cf L cls]) (ht : TabN N w) (hi : MInv cf x L cls) (hc : CfOk cf) (hx : x ≤ 400) (hk : a.f3.size ≤ 50) :
  Calls Tryd.prog 42 #[pt gm, actMV a] w fun e_ w' => e_ = .returned (repM r) ∧ Own N w' [ModO gm cf L c2] ∧ KeepS N w w' := by
 have q := MDo a h ht hi hc hx hk
 rw [hd] at q
 exact q
theorem ax_new (h : Own N w []) : Calls Tryd.prog 43 #[.agg #[.int .i64 2, .int .i64 2, .int .i64 1, .int .i64 1, .int .i64 100, .int .i64 9]] w fun e_ w' => ∃ gm, e_ = .returned (.tuple #[pt gm, .int .i64 0]) ∧ Own N w' [ModO gm cfA [] awC0] ∧ KeepS N w w' := MNew_ok cfA h (by decide)
theorem ax_new0 (h : Own N w []) : Calls Tryd.prog 43 #[.agg #[.int .i64 0, .int .i64 0, .int .i64 0, .int .i64 0, .int .i64 0, .int .i64 0]] w fun e_ w' => e_ = .returned (.tuple #[.pointer none, .int .i64 1]) ∧ Own N w' [] ∧ KeepS N w w' := MNew_no cf0 h (by decide)
theorem ax_c1 (h : Own N w [ModO gm cfA [] awC2]) : Calls Tryd.prog 44 #[pt gm, .int .i64 1] w fun e_ w' => e_ = .returned (.bool true) ∧ Own N w' [ModO gm cfA [awR] awC2] ∧ KeepS N w w' := by
 have q := MCommit_i 1 h awI2 cfA_ok (by decide)
 rw [aw3, awL3] at q
 exact q
theorem ax_c2 (h : Own N w [ModO gm cfA [awR] awC2]) : Calls Tryd.prog 44 #[pt gm, .int .i64 1] w fun e_ w' => e_ = .returned (.bool false) ∧ Own N w' [ModO gm cfA [awR] awC2] ∧ KeepS N w w' := by
 have q := MCommit_i 1 h awI3 cfA_ok (by decide)
 rw [aw3b, awL3b] at q
 exact q
theorem ax_m1 (h : Own N w [ModO gm cfA [awR] awC2]) : Calls Tryd.prog 45 #[pt gm, .int .i64 2] w fun e_ w' => e_ = .returned (.bool true) ∧ Own N w' [ModO gm cfA [awR] awC3] ∧ KeepS N w w' := by
 have q := MCome_i 2 h awI3 cfA_ok (by decide)
 rw [aw4] at q
 exact q
theorem ax_m2 (h : Own N w [ModO gm cfA [awR] awC3]) : Calls Tryd.prog 45 #[pt gm, .int .i64 2] w fun e_ w' => e_ = .returned (.bool false) ∧ Own N w' [ModO gm cfA [awR] awC3] ∧ KeepS N w w' := by
 have q := MCome_i 2 h awI4 cfA_ok (by decide)
 rw [aw4b] at q
 exact q
theorem ax_log (h : Own N w [ModO gm cfA [awR] awC4]) : Calls Tryd.prog 39 #[pt gm] w fun e_ w' => ∃ A1 c1, e_ = .returned (.slice A1 1 c1) ∧ Own N w' [ModO gm cfA [awR] awC4, nrow kR7 tR7 (.slice A1 1 c1) [awR]] ∧ KeepS N w w' := MLog_i h awI5 (by decide)
theorem ax_k2 (h : Own N w [ModO gm cfA [awR] awC4]) : Calls Tryd.prog 41 #[pt gm, .int .i64 2] w fun e_ w' => ∃ A1 c1, e_ = .returned (.slice A1 1 c1) ∧ Own N w' [ModO gm cfA [awR] awC4, nrow kR7 tR7 (.slice A1 1 c1) [awR]] ∧ KeepS N w w' := MKnown_i 2 (y := ⟨1, [], 1, 0, []⟩) h awI5 cfA_ok (by decide) rfl
theorem ax_k1 (h : Own N w [ModO gm cfA [awR] awC4]) : Calls Tryd.prog 41 #[pt gm, .int .i64 1] w fun e_ w' => ∃ A1 c1, e_ = .returned (.slice A1 0 c1) ∧ Own N w' [ModO gm cfA [awR] awC4, nrow kR7 tR7 (.slice A1 0 c1) []] ∧ KeepS N w w' := MKnown_i 1 (y := ⟨1, [awR], 0, 0, []⟩) h awI5 cfA_ok (by decide) rfl
theorem ax_look (h : Own N w [ModO gm cfA [awR] awC4]) : Calls Tryd.prog 40 #[pt gm, .int .i64 1] w fun e_ w' => e_ = .returned (.agg #[.int .i64 1, .int .i64 0, .int .i64 1, .int .i64 0, .int .i64 0, .int .i64 0]) ∧ Own N w' [ModO gm cfA [awR] awC4] ∧ KeepS N w w' := MLook_i 1 (y := ⟨1, [awR], 0, 0, []⟩) h awI5 cfA_ok (by decide) rfl
theorem ax_tick (h : Own N w [ModO gm cfA [awR] awC4]) (ht : TabN N w) : Calls Tryd.prog 42 #[pt gm, .agg #[.int .i64 7, .int .i64 1, .string ⟨#[]⟩, .int .i64 0, .int .i64 0, .string ⟨#[]⟩, .string ⟨#[]⟩, .int .i64 0, .int .i64 0, .int .u32 0]] w fun e_ w' => e_ = .returned (.agg #[.int .i64 5, .int .i64 0, .int .i64 0, .string ⟨#[]⟩, false, .int .i64 0]) ∧ Own N w' [ModO gm cfA [awR] awC4] ∧ KeepS N w w' := MDo_e (awA 7 1) (rep0 5) awC4 aw7 h ht awI5 cfA_ok (by decide) (by decide)
end
theorem awake21 (w : World) (HT : Aside0 (Tab w)) :
  Calls Tryd.prog 35 #[] w fun e_ w' => e_ = .returned (.bool true) ∧ Below w.heap.size w w' := by
 obtain ⟨N, hN⟩ : ∃ N : Nat → Prop, N = fun k => k < w.heap.size := ⟨_, rfl⟩
 have HN := Am hN
 have HT_0 : Aside0 (TabN N w) := ⟨by rw [hN]; exact World.block_lt_of_cell? w _ HT.out.1, HT.out⟩
 have O0 : Aside0 (Own N w []) := ⟨Own.start_ (fun k hk => by rw [hN] at hk; exact hk)⟩
 have K0 : Aside0 (KeepS N w w) := ⟨KeepS.refl _ _⟩
 have hfr := field_RE 5 0 0 ⟨#[]⟩ false 0
 clear hN HT
 go_enter Tryd.func35, Tryd.ntmps35
 go_wp2_with (first | ((with_reducible refine gC 75 rfl ?_); refine gP (some 13) Tryd.func75 #[] ?_; refine (chapbooklaw21_config.calls 2 2 1 1 100 9 _ rfl).mono ?_; rintro e_ w1 ⟨rfl, hb_⟩; refine ⟨_, rfl, ?_⟩; have o_ := O0.out.below hb_; have k_ := KeepS.of_below (N := N) hb_; obtain ⟨O1, K1⟩ := ok_ K0 o_ k_; have HT_1 := Am (TabN.keep HT_0.out k_); clear O0 K0 HT_0 o_ k_ hb_) | ((with_reducible refine gC 43 rfl ?_); refine gP (some 14) Tryd.func43 #[.agg #[.int .i64 2, .int .i64 2, .int .i64 1, .int .i64 1, .int .i64 100, .int .i64 9]] ?_; obtain ⟨N_, on_, nn_, rr_, bb_⟩ := O1.out.frame0; refine (ax_new on_).mono ?_; rintro e_ w2 ⟨gm, rfl, oo_, kk_⟩; obtain ⟨o_, k_⟩ := bb_ _ _ kk_ oo_; refine ⟨_, rfl, ?_⟩; obtain ⟨O2, K2⟩ := ok_ K1 o_ k_; have HT_2 := Am (TabN.keep HT_1.out k_); clear O1 K1 HT_1 o_ k_ oo_ kk_ on_ nn_ rr_ bb_) | ((with_reducible refine gC 43 rfl ?_); refine gP (some 19) Tryd.func43 #[.agg #[.int .i64 0, .int .i64 0, .int .i64 0, .int .i64 0, .int .i64 0, .int .i64 0]] ?_; obtain ⟨N_, on_, nn_, rr_, bb_⟩ := O2.out.frame0; refine (ax_new0 on_).mono ?_; rintro e_ w3 ⟨rfl, oo_, kk_⟩; obtain ⟨o_, k_⟩ := bb_ _ _ kk_ oo_; refine ⟨_, rfl, ?_⟩; obtain ⟨O3, K3⟩ := ok_ K2 o_ k_; have HT_3 := Am (TabN.keep HT_2.out k_); clear O2 K2 HT_2 o_ k_ oo_ kk_ on_ nn_ rr_ bb_) | ((with_reducible refine gC 42 rfl ?_); refine gP (some 35) Tryd.func42 #[pt gm, .agg #[.int .i64 1, .int .i64 1, .string ⟨#[107]⟩, .int .i64 1, .int .i64 5, .string ⟨#[]⟩, .string ⟨#[]⟩, .int .i64 0, .int .i64 0, .int .u32 0]] ?_; obtain ⟨N_, on_, nn_, rr_, bb_⟩ := O3.out.frameL [0] (by decide) (by simp); refine (MDo_e awA1 (rep0 0) awC1 aw1 on_ (TabN.mono HT_3.out nn_) awI0 cfA_ok (by decide) (by decide)).mono ?_; rintro e_ w4 ⟨rfl, oo_, kk_⟩; obtain ⟨o_, k_⟩ := bb_ _ [ModO gm cfA [] awC1] [] rfl kk_ oo_; refine ⟨_, rfl, ?_⟩; obtain ⟨O4, K4⟩ := ok_ K3 o_ k_; have HT_4 := Am (TabN.keep HT_3.out k_); clear O3 K3 HT_3 o_ k_ oo_ kk_ on_ nn_ rr_ bb_) | ((with_reducible refine gC 42 rfl ?_); refine gP (some 38) Tryd.func42 #[pt gm, .agg #[.int .i64 3, .int .i64 1, .string ⟨#[]⟩, .int .i64 0, .int .i64 0, .string ⟨#[]⟩, .string ⟨#[]⟩, .int .i64 0, .int .i64 0, .int .u32 0]] ?_; obtain ⟨N_, on_, nn_, rr_, bb_⟩ := O4.out.frameL [0] (by decide) (by simp); refine (MDo_e (awA 3 1) (repN 1) awC2 aw2 on_ (TabN.mono HT_4.out nn_) awI1 cfA_ok (by decide) (by decide)).mono ?_; rintro e_ w5 ⟨rfl, oo_, kk_⟩; obtain ⟨o_, k_⟩ := bb_ _ [ModO gm cfA [] awC2] [] rfl kk_ oo_; refine ⟨_, rfl, ?_⟩; obtain ⟨O5, K5⟩ := ok_ K4 o_ k_; have HT_5 := Am (TabN.keep HT_4.out k_); clear O4 K4 HT_4 o_ k_ oo_ kk_ on_ nn_ rr_ bb_) | ((with_reducible refine gD 5 rfl ?_); refine bP 5 #[.int .i64 0, .int .i64 0, .int .i64 0, .string ⟨#[]⟩, false, .int .i64 0] 79 O5.out ?_; intro g5 w6 o_ k_; obtain ⟨O6, K6⟩ := ok_ K5 o_ k_; have HT_6 := Am (TabN.keep HT_5.out k_); clear O5 K5 HT_5 o_ k_; have a1 := k6_ O6 1) | ((with_reducible refine gT 79 5 rfl ?_); refine wS 1 0 [.int .i64 0, .int .i64 0, .int .i64 0, .string ⟨#[]⟩, false, .int .i64 1] O6 ?_; intro w7 o_ k_; obtain ⟨O7, K7⟩ := ok_ K6 o_ k_; have HT_7 := Am (TabN.keep HT_6.out k_); clear a1 O6 K6 HT_6 o_ k_; have a1 := k6_ O7 1) | ((with_reducible refine gC 44 rfl ?_); refine gP (some 40) Tryd.func44 #[pt gm, .int .i64 1] ?_; obtain ⟨N_, on_, nn_, rr_, bb_⟩ := O7.out.frameL [0] (by decide) (by simp); refine (ax_c1 on_).mono ?_; rintro e_ w8 ⟨rfl, oo_, kk_⟩; obtain ⟨o_, k_⟩ := bb_ _ [ModO gm cfA [awR] awC2] [] rfl kk_ oo_; refine ⟨_, rfl, ?_⟩; obtain ⟨O8, K8⟩ := ok_ K7 o_ k_; have HT_8 := Am (TabN.keep HT_7.out k_); clear a1 O7 K7 HT_7 o_ k_ oo_ kk_ on_ nn_ rr_ bb_; have a1 := k6_ O8 1) | ((with_reducible refine gC 44 rfl ?_); refine gP (some 42) Tryd.func44 #[pt gm, .int .i64 1] ?_; obtain ⟨N_, on_, nn_, rr_, bb_⟩ := O8.out.frameL [0] (by decide) (by simp); refine (ax_c2 on_).mono ?_; rintro e_ w9 ⟨rfl, oo_, kk_⟩; obtain ⟨o_, k_⟩ := bb_ _ [ModO gm cfA [awR] awC2] [] rfl kk_ oo_; refine ⟨_, rfl, ?_⟩; obtain ⟨O9, K9⟩ := ok_ K8 o_ k_; have HT_9 := Am (TabN.keep HT_8.out k_); clear a1 O8 K8 HT_8 o_ k_ oo_ kk_ on_ nn_ rr_ bb_; have a1 := k6_ O9 1) | ((with_reducible refine gC 45 rfl ?_); refine gP (some 44) Tryd.func45 #[pt gm, .int .i64 2] ?_; obtain ⟨N_, on_, nn_, rr_, bb_⟩ := O9.out.frameL [0] (by decide) (by simp); refine (ax_m1 on_).mono ?_; rintro e_ w10 ⟨rfl, oo_, kk_⟩; obtain ⟨o_, k_⟩ := bb_ _ [ModO gm cfA [awR] awC3] [] rfl kk_ oo_; refine ⟨_, rfl, ?_⟩; obtain ⟨O10, K10⟩ := ok_ K9 o_ k_; have HT_10 := Am (TabN.keep HT_9.out k_); clear a1 O9 K9 HT_9 o_ k_ oo_ kk_ on_ nn_ rr_ bb_; have a1 := k6_ O10 1) | ((with_reducible refine gC 45 rfl ?_); refine gP (some 46) Tryd.func45 #[pt gm, .int .i64 2] ?_; obtain ⟨N_, on_, nn_, rr_, bb_⟩ := O10.out.frameL [0] (by decide) (by simp); refine (ax_m2 on_).mono ?_; rintro e_ w11 ⟨rfl, oo_, kk_⟩; obtain ⟨o_, k_⟩ := bb_ _ [ModO gm cfA [awR] awC3] [] rfl kk_ oo_; refine ⟨_, rfl, ?_⟩; obtain ⟨O11, K11⟩ := ok_ K10 o_ k_; have HT_11 := Am (TabN.keep HT_10.out k_); clear a1 O10 K10 HT_10 o_ k_ oo_ kk_ on_ nn_ rr_ bb_; have a1 := k6_ O11 1) | ((with_reducible refine gC 42 rfl ?_); refine gP (some 49) Tryd.func42 #[pt gm, .agg #[.int .i64 4, .int .i64 2, .string ⟨#[]⟩, .int .i64 0, .int .i64 0, .string ⟨#[]⟩, .string ⟨#[]⟩, .int .i64 0, .int .i64 0, .int .u32 0]] ?_; obtain ⟨N_, on_, nn_, rr_, bb_⟩ := O11.out.frameL [0] (by decide) (by simp); refine (MDo_e (awA 4 2) (repN 1) awC4 aw5 on_ (TabN.mono HT_11.out nn_) awI4 cfA_ok (by decide) (by decide)).mono ?_; rintro e_ w12 ⟨rfl, oo_, kk_⟩; obtain ⟨o_, k_⟩ := bb_ _ [ModO gm cfA [awR] awC4] [] rfl kk_ oo_; refine ⟨_, rfl, ?_⟩; obtain ⟨O12, K12⟩ := ok_ K11 o_ k_; have HT_12 := Am (TabN.keep HT_11.out k_); clear a1 O11 K11 HT_11 o_ k_ oo_ kk_ on_ nn_ rr_ bb_; have a1 := k6_ O12 1) | ((with_reducible refine gD 10 rfl ?_); refine bP 10 #[.int .i64 0, .int .i64 0, .int .i64 0, .string ⟨#[]⟩, false, .int .i64 0] 79 O12.out ?_; intro g10 w13 o_ k_; obtain ⟨O13, K13⟩ := ok_ K12 o_ k_; have HT_13 := Am (TabN.keep HT_12.out k_); clear a1 O12 K12 HT_12 o_ k_; have a1 := k6_ O13 1; have a2 := k6_ O13 2) | ((with_reducible refine gT 79 10 rfl ?_); refine wS 2 0 [.int .i64 0, .int .i64 0, .int .i64 0, .string ⟨#[]⟩, false, .int .i64 1] O13 ?_; intro w14 o_ k_; obtain ⟨O14, K14⟩ := ok_ K13 o_ k_; have HT_14 := Am (TabN.keep HT_13.out k_); clear a1 a2 O13 K13 HT_13 o_ k_; have a1 := k6_ O14 1; have a2 := k6_ O14 2) | ((with_reducible refine gC 42 rfl ?_); refine gP (some 52) Tryd.func42 #[pt gm, .agg #[.int .i64 2, .int .i64 2, .string ⟨#[]⟩, .int .i64 0, .int .i64 0, .string ⟨#[]⟩, .string ⟨#[107]⟩, .int .i64 0, .int .i64 0, .int .u32 0]] ?_; obtain ⟨N_, on_, nn_, rr_, bb_⟩ := O14.out.frameL [0] (by decide) (by simp); refine (MDo_e awA6 ⟨0, (1, 5, none'), false, 1⟩ awC4 aw6 on_ (TabN.mono HT_14.out nn_) awI5 cfA_ok (by decide) (by decide)).mono ?_; rintro e_ w15 ⟨rfl, oo_, kk_⟩; obtain ⟨o_, k_⟩ := bb_ _ [ModO gm cfA [awR] awC4] [] rfl kk_ oo_; refine ⟨_, rfl, ?_⟩; obtain ⟨O15, K15⟩ := ok_ K14 o_ k_; have HT_15 := Am (TabN.keep HT_14.out k_); clear a1 a2 O14 K14 HT_14 o_ k_ oo_ kk_ on_ nn_ rr_ bb_; have a1 := k6_ O15 1; have a2 := k6_ O15 2) | ((with_reducible refine gD 11 rfl ?_); refine bP 11 #[.int .i64 0, .int .i64 0, .int .i64 0, .string ⟨#[]⟩, false, .int .i64 0] 79 O15.out ?_; intro g11 w16 o_ k_; obtain ⟨O16, K16⟩ := ok_ K15 o_ k_; have HT_16 := Am (TabN.keep HT_15.out k_); clear a1 a2 O15 K15 HT_15 o_ k_; have a1 := k6_ O16 1; have a2 := k6_ O16 2; have a3 := k6_ O16 3) | ((with_reducible refine gT 79 11 rfl ?_); refine wS 3 0 [.int .i64 0, .int .i64 1, .int .i64 5, .string ⟨#[]⟩, false, .int .i64 1] O16 ?_; intro w17 o_ k_; obtain ⟨O17, K17⟩ := ok_ K16 o_ k_; have HT_17 := Am (TabN.keep HT_16.out k_); clear a1 a2 a3 O16 K16 HT_16 o_ k_; have a1 := k6_ O17 1; have a2 := k6_ O17 2; have a3 := k6_ O17 3) | ((with_reducible refine gC 39 rfl ?_); refine gate_guard (by rfl) ?_; refine gP (some 88) Tryd.func39 #[pt gm] ?_; obtain ⟨N_, on_, nn_, rr_, bb_⟩ := O17.out.frameL [0] (by decide) (by simp); refine (ax_log on_).mono ?_; rintro e_ w18 ⟨B1, d1_, rfl, oo_, kk_⟩; obtain ⟨o_, k_⟩ := bb_ _ [ModO gm cfA [awR] awC4] [nrow kR7 tR7 (.slice B1 1 d1_) [awR]] rfl kk_ oo_; refine ⟨_, rfl, ?_⟩; obtain ⟨O18, K18⟩ := ok_ K17 o_ k_; have HT_18 := Am (TabN.keep HT_17.out k_); clear a1 a2 a3 O17 K17 HT_17 o_ k_ oo_ kk_ on_ nn_ rr_ bb_; have a1 := k6_ O18 1; have a2 := k6_ O18 2; have a3 := k6_ O18 3) | ((with_reducible refine gC 41 rfl ?_); refine gate_guard (by rfl) ?_; refine gP (some 94) Tryd.func41 #[pt gm, .int .i64 2] ?_; obtain ⟨N_, on_, nn_, rr_, bb_⟩ := O18.out.frameL [0] (by decide) (by simp); refine (ax_k2 on_).mono ?_; rintro e_ w19 ⟨B2, d2_, rfl, oo_, kk_⟩; obtain ⟨o_, k_⟩ := bb_ _ [ModO gm cfA [awR] awC4] [nrow kR7 tR7 (.slice B2 1 d2_) [awR]] rfl kk_ oo_; refine ⟨_, rfl, ?_⟩; obtain ⟨O19, K19⟩ := ok_ K18 o_ k_; have HT_19 := Am (TabN.keep HT_18.out k_); clear a1 a2 a3 O18 K18 HT_18 o_ k_ oo_ kk_ on_ nn_ rr_ bb_; have a1 := k6_ O19 1; have a2 := k6_ O19 2; have a3 := k6_ O19 3) | ((with_reducible refine gC 41 rfl ?_); refine gate_guard (by rfl) ?_; refine gP (some 100) Tryd.func41 #[pt gm, .int .i64 1] ?_; obtain ⟨N_, on_, nn_, rr_, bb_⟩ := O19.out.frameL [0] (by decide) (by simp); refine (ax_k1 on_).mono ?_; rintro e_ w20 ⟨B3, d3_, rfl, oo_, kk_⟩; obtain ⟨o_, k_⟩ := bb_ _ [ModO gm cfA [awR] awC4] [nrow kR7 tR7 (.slice B3 0 d3_) []] rfl kk_ oo_; refine ⟨_, rfl, ?_⟩; obtain ⟨O20, K20⟩ := ok_ K19 o_ k_; have HT_20 := Am (TabN.keep HT_19.out k_); clear a1 a2 a3 O19 K19 HT_19 o_ k_ oo_ kk_ on_ nn_ rr_ bb_; have a1 := k6_ O20 1; have a2 := k6_ O20 2; have a3 := k6_ O20 3) | ((with_reducible refine gC 40 rfl ?_); refine gate_guard (by rfl) ?_; refine gP (some 106) Tryd.func40 #[pt gm, .int .i64 1] ?_; obtain ⟨N_, on_, nn_, rr_, bb_⟩ := O20.out.frameL [0] (by decide) (by simp); refine (ax_look on_).mono ?_; rintro e_ w21 ⟨rfl, oo_, kk_⟩; obtain ⟨o_, k_⟩ := bb_ _ [ModO gm cfA [awR] awC4] [] rfl kk_ oo_; refine ⟨_, rfl, ?_⟩; obtain ⟨O21, K21⟩ := ok_ K20 o_ k_; have HT_21 := Am (TabN.keep HT_20.out k_); clear a1 a2 a3 O20 K20 HT_20 o_ k_ oo_ kk_ on_ nn_ rr_ bb_; have a1 := k6_ O21 1; have a2 := k6_ O21 2; have a3 := k6_ O21 3) | ((with_reducible refine gC 42 rfl ?_); refine gate_guard (by rfl) ?_; refine gP (some 113) Tryd.func42 #[pt gm, .agg #[.int .i64 7, .int .i64 1, .string ⟨#[]⟩, .int .i64 0, .int .i64 0, .string ⟨#[]⟩, .string ⟨#[]⟩, .int .i64 0, .int .i64 0, .int .u32 0]] ?_; obtain ⟨N_, on_, nn_, rr_, bb_⟩ := O21.out.frameL [0] (by decide) (by simp); refine (ax_tick on_ (TabN.mono HT_21.out nn_)).mono ?_; rintro e_ w22 ⟨rfl, oo_, kk_⟩; obtain ⟨o_, k_⟩ := bb_ _ [ModO gm cfA [awR] awC4] [] rfl kk_ oo_; refine ⟨_, rfl, ?_⟩; obtain ⟨O22, K22⟩ := ok_ K21 o_ k_; have HT_22 := Am (TabN.keep HT_21.out k_); clear a1 a2 a3 O21 K21 HT_21 o_ k_ oo_ kk_ on_ nn_ rr_ bb_; have a1 := k6_ O22 1; have a2 := k6_ O22 2; have a3 := k6_ O22 3))
 go_ret
 exact ⟨rfl, kw_ K22 HN⟩
end Go.Proofs.YtjdenpmaianmfaaDoor.J
namespace Go.Proofs.YtjdenpmaianmfaaDoor.J
set_option linter.unusedSimpArgs false
set_option linter.unusedVariables false
open Go RowKit YtjdenpmaianmfaaDoorW.PrintWords YtjdenpmaianmfaaDoorW.PrintLast YtjdenpmaianmfaaDoorW.PrintMore Q YtjdenpmaianmfaaDoor.Sep YtjdenpmaianmfaaDoor.Pure
section
variable {N : Nat → Prop} {w : World} {gm x : Nat} {cf : MCf} {L : List Rnd7} {cls : List MCl} {l : List HP} {i j n c d : Nat} {A B : Option Addr} {X : List Rnd7}
theorem MDo_l (a : ActM) (e vk vn : Int) (vs : ByteArray) (b : Bool) (m : Int) (c2 : List MCl) (hd : doS cf L cls a = (⟨e, (vk, vn, vs), b, m⟩, c2)) (h : Own N w [ModO gm cf L cls]) (ht : TabN N w) (hi : MInv cf x L cls) (hc : CfOk cf) (hx : x ≤ 400) (hk : a.f3.size ≤ 50) :
  Calls Tryd.prog 42 #[pt gm, actMV a] w fun e_ w' => e_ = .returned (.agg #[e, vk, vn, vs, b, m]) ∧ Own N w' [ModO gm cf L c2] ∧ KeepS N w w' := MDo_e a _ c2 hd h ht hi hc hx hk
theorem MLook_v (V : Value) (n : Int) {y : MCl} (hV : lookV n L y = V) (h : Own N w [ModO gm cf L cls]) (hi : MInv cf x L cls) (hc : CfOk cf) (hx : x ≤ 400) (hy : clAt cls n = some y) :
  Calls Tryd.prog 40 #[pt gm, n] w fun e_ w' => e_ = .returned V ∧ Own N w' [ModO gm cf L cls] ∧ KeepS N w w' := by
 subst hV
 exact MLook_i n h hi hc hx hy
end
def CntI (N : Nat → Prop) (w : World) (og : Int) (K : List Rnd7) (R : List HP) (v i : Value) (wr : World) : Prop := ∃ x : Int, 0 ≤ x ∧ x ≤ (K.length : Int) ∧ i = .int .i64 x ∧ v = .int .i64 ((ownR og (upR K x)).length : Int) ∧ Aside0 (Own N wr R) ∧ Aside0 (KeepS N w wr)
end Go.Proofs.YtjdenpmaianmfaaDoor.J
