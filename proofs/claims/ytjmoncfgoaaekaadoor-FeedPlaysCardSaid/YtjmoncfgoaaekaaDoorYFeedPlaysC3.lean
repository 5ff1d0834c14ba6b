/- What the given program's Log does: Add in one word; All, At; a round of the laws: a plain walk through their text. -/
import Derived.Test.YtjmoncfgoaaekaaDoorYFeedPlaysEv
import Derived.Test.YtjmoncfgoaaekaaDoorYFeedPlaysRM
import Derived.Test.YtjmoncfgoaaekaaDoorYFeedPlaysQ5
namespace Go.Proofs.YtjmoncfgoaaekaaDoor.J
set_option linter.unusedSimpArgs false
set_option linter.unusedVariables false
open Go Go.RowKit Go.Proofs.YtjmoncfgoaaekaaDoorW.PrintWords Go.Proofs.YtjmoncfgoaaekaaDoorW.PrintLast Go.Proofs.YtjmoncfgoaaekaaDoorW.PrintMore Go.Proofs.YtjmoncfgoaaekaaDoor.Q Go.Proofs.YtjmoncfgoaaekaaDoor.Sep Go.Proofs.YtjmoncfgoaaekaaDoor.Pure
theorem infoR : (Tryd.prog.info? 43).map (fun i => (i.zero, i.size, i.bytes)) = some (some (.agg #[.int .i64 0, .int .i64 0, .slice none 0 0]), 3, 40) := by kernel_rfl
theorem flatU : Flat k114 := flat_iso _ (flat_pair flat_scalar (flat_pair flat_scalar (flat_pair flat_scalar flat_scalar)))
theorem slice_len {A : Option Addr} {n m c : Nat} (h : n = m) : Value.slice A n c = .slice A m c := by rw [h]
theorem int_eq {a b : Int} (h : a = b) : Value.int .i64 a = .int .i64 b := by rw [h]
theorem at_F {w : World} {ok : Nat → Prop} {A : Option Addr} {n : Nat} {xs : List Rnd} (h : Kd.F k43 w ok A n xs) (i : Int) (h0 : 0 ≤ i) (h1 : i < n) : ∃ ad A2 c2, A = some ad ∧ w.cell? (ad.add (i.toNat * 3)) = some (.int .i64 (rd_T43 xs i).f0) ∧ w.cell? ⟨(ad.add (i.toNat * 3)).block, (ad.add (i.toNat * 3)).off + 1, none⟩ = some (.int .i64 (rd_T43 xs i).f1) ∧ w.cell? ⟨(ad.add (i.toNat * 3)).block, (ad.add (i.toNat * 3)).off + 2, none⟩ = some (.slice A2 (rd_T43 xs i).f2.length c2) ∧ (rd_T43 xs i).f2.length ≤ c2 ∧ Kd.F k114 w ok A2 (rd_T43 xs i).f2.length (rd_T43 xs i).f2 := by
 obtain ⟨ad, c, e, _, hK, hc0, _⟩ := Kd.F_get h z43 i h0 h1
 have hc : ∀ j u, c[j]? = some u → w.cell? (ad.add (i.toNat * 3 + j)) = some u := hc0
 obtain ⟨A2, c2, rfl, l2, g2⟩ := k43_open (Kd.FK_now hK)
 refine ⟨ad, A2, c2, e, hc 0 _ rfl, by rw [← add_field _ _ 1 (by omega)]; exact hc 1 _ rfl, by rw [← add_field _ _ 2 (by omega)]; exact hc 2 _ rfl, l2, fun W' hW => ?_⟩
 obtain ⟨A3, c3, e3, _, g3⟩ := k43_open (hK W' hW)
 simp only [List.cons.injEq, Value.slice.injEq, and_true, true_and] at e3
 rw [e3.1]
 exact g3
def ObjG (f : Value → Array Value) (t g : Nat) (L : List Rnd) : HP := ex fun v : Value => star (cells g (f v) t) (nrow k43 43 v L)
theorem ObjG.open_ {N : Nat → Prop} {w : World} {l : List HP} {i : Nat} {f : Value → Array Value} {t g : Nat} {L : List Rnd} (h : Own N w l) (hi : l[i]? = some (ObjG f t g L)) :
  ∃ A c, Own N w ((l.set i (cells g (f (.slice A L.length c)) t)) ++ [nrow k43 43 (.slice A L.length c) L]) := by
 obtain ⟨v, hv⟩ := h.of_ex hi
 have hlt : i < l.length := (List.getElem?_eq_some_iff.1 hi).1
 have h2 := hv.split (i := i) (List.getElem?_set_self hlt)
 rw [List.set_set] at h2
 obtain ⟨A, c, rfl⟩ := h2.nslice (i := l.length) (by
  rw [List.getElem?_append_right (by simp), List.length_set, Nat.sub_self]; rfl)
 exact ⟨A, c, h2⟩
theorem ObjG.shut {N : Nat → Prop} {w : World} {l : List HP} {i j : Nat} {f : Value → Array Value} {t g : Nat} {v : Value} {L : List Rnd} (h : Own N w l) (hi : l[i]? = some (cells g (f v) t)) (hj : l[j]? = some (nrow k43 43 v L)) (hij : i ≠ j) :
  Own N w ((l.set i (ObjG f t g L)).set j emp) := by
 have h2 := h.join hi hj hij
 have hlt : i < l.length := (List.getElem?_eq_some_iff.1 hi).1
 have h3 := h2.to_ex (f := fun v : Value => star (cells g (f v) t) (nrow k43 43 v L)) v (i := i) (by
  rw [List.getElem?_set_ne (fun e => hij e.symm), List.getElem?_set_self hlt])
 rw [List.set_comm _ _ hij, List.set_set, List.set_comm _ _ hij.symm] at h3
 exact h3
theorem roundOf {N : Nat → Prop} {w : World} {l : List HP} {i : Nat} {A : Option Addr} {n c : Nat} (r : Rnd) (h : Own N w l) (hi : l[i]? = some (nrow k114 114 (.slice A n c) r.f2)) :
  Own N w (l.set i (elt k43 r [.int .i64 r.f0, .int .i64 r.f1, .slice A n c])) :=
 h.conv hi _ (fun F hp _ => fun W' hW => by
  obtain ⟨h1, h2, h3⟩ := Kd.N_reads' (Kd.N_step hp hW)
  rw [h1] at h2 ⊢
  exact k43_mk W' r h2 h3)
def lastOf (o : Int) (L : List Rnd) : Int := L.foldl (fun a r => if r.f0 = o then r.f1 else a) 0
theorem lastOf_snoc (o : Int) (L : List Rnd) (r : Rnd) : lastOf o (L ++ [r]) = if r.f0 = o then r.f1 else lastOf o L := by
 unfold lastOf
 rw [List.foldl_append]
 rfl
def addE (C : Int) (L : List Rnd) (r : Rnd) : Int := if mayR r.f0 r.f1 r.f2 ≠ 0 then mayR r.f0 r.f1 r.f2 else if r.f0 > C then 11 else if r.f1 < lastOf r.f0 L + 1 then 12 else if r.f1 > lastOf r.f0 L + 1 then 10 else 0
def addL (C : Int) (L : List Rnd) (r : Rnd) : List Rnd := if addE C L r = 0 then L ++ [r] else L
def Good (C : Int) (L : List Rnd) : Prop := ∀ r ∈ L, mayR r.f0 r.f1 r.f2 = 0 ∧ r.f0 ≤ C
theorem good_nil (C : Int) : Good C [] := fun r h => by simp at h
theorem may_1 {o n : Int} {l : List Upd} (h : mayR o n l = 0) : 1 ≤ o ∧ o ≤ 64 ∧ 1 ≤ n ∧ n ≤ 1099511627776 ∧ l.length ≤ 8 := by
 unfold mayR at h
 split at h
 ·cases h
 ·omega
theorem addE_0 {C : Int} {L : List Rnd} {r : Rnd} (h : addE C L r = 0) : mayR r.f0 r.f1 r.f2 = 0 ∧ r.f0 ≤ C ∧ r.f1 = lastOf r.f0 L + 1 := by
 unfold addE at h
 split at h
 ·rename_i h2; exact absurd h h2
 split at h
 ·cases h
 split at h
 ·cases h
 split at h
 ·cases h
 rename_i a b c d
 exact ⟨Classical.not_not.1 a, by omega, by omega⟩
theorem good_snoc {C : Int} {L : List Rnd} {r : Rnd} (h : Good C L) (he : addE C L r = 0) : Good C (L ++ [r]) := fun q hq => by
 rcases List.mem_append.1 hq with hq | hq
 ·exact h q hq
 ·rw [List.mem_singleton.1 hq]
  exact ⟨(addE_0 he).1, (addE_0 he).2.1⟩
theorem lastOf_range {C : Int} {L : List Rnd} (o : Int) (h : Good C L) : 0 ≤ lastOf o L ∧ lastOf o L ≤ 1099511627776 := by
 unfold lastOf
 have : ∀ (L : List Rnd) (a : Int), 0 ≤ a → a ≤ 1099511627776 → (∀ r ∈ L, mayR r.f0 r.f1 r.f2 = 0 ∧ r.f0 ≤ C) → 0 ≤ L.foldl (fun a r => if r.f0 = o then r.f1 else a) a ∧ L.foldl (fun a r => if r.f0 = o then r.f1 else a) a ≤ 1099511627776 := by
  intro L
  induction L with
  | nil => exact fun a h0 h1 _ => ⟨h0, h1⟩
  | cons r L ih =>
   intro a h0 h1 hg
   have hr := may_1 (hg r List.mem_cons_self).1
   rw [List.foldl_cons]
   have h2 : 0 ≤ (if r.f0 = o then r.f1 else a) ∧ (if r.f0 = o then r.f1 else a) ≤ 1099511627776 := by split <;> omega
   exact ih _ h2.1 h2.2 (fun q hq => hg q (List.mem_cons_of_mem _ hq))
 exact this L 0 (by decide) (by decide) h
theorem mem_rd {L : List Rnd} {x : Int} (h0 : 0 ≤ x) (h1 : x < L.length) : rd_T43 L x ∈ L := by
 unfold rd_T43
 have hl : x.toNat < L.length := by omega
 rw [List.getD_eq_getElem?_getD, List.getElem?_eq_getElem hl]
 exact List.getElem_mem hl
theorem good_short {C : Int} {L : List Rnd} (h : Good C L) (x : Int) (h0 : 0 ≤ x) (h1 : x < L.length) : (rd_T43 L x).f2.length ≤ 8 := (may_1 (h _ (mem_rd h0 h1)).1).2.2.2.2
theorem take_snoc {α : Type} (L : List α) (d : α) (x : Int) (h0 : 0 ≤ x) (h1 : x < L.length) : L.take (x + 1).toNat = L.take x.toNat ++ [L.getD x.toNat d] := by
 have e : (x + 1).toNat = x.toNat + 1 := by omega
 have hl : x.toNat < L.length := by omega
 rw [e, List.take_succ_eq_append_getElem hl, List.getD_eq_getElem?_getD, List.getElem?_eq_getElem hl]
 rfl
def logC (C : Int) (L : List Rnd) (v : Value) : Array Value := (.int .i64 C :: v :: (List.range 65).map fun (o : Nat) => Value.int .i64 (lastOf (o : Int) L)).toArray
abbrev ObjC (g : Nat) (C : Int) (L : List Rnd) : HP := ObjG (logC C L) 69 g L
abbrev ObjM (g : Nat) (C : Int) (L : List Rnd) : HP := ObjG (fun v => #[.int .i64 C, v]) 80 g L
theorem logC_0 (C : Int) (L : List Rnd) (v : Value) : (logC C L v)[0]? = some (.int .i64 C) := by unfold logC; rw [List.getElem?_toArray, List.getElem?_cons_zero]
theorem logC_1 (C : Int) (L : List Rnd) (v : Value) : (logC C L v)[1]? = some v := by unfold logC; rw [List.getElem?_toArray, List.getElem?_cons_succ, List.getElem?_cons_zero]
theorem logC_set1 (C : Int) (L : List Rnd) (v u : Value) (i : Nat) : ((logC C L v).setIfInBounds (2 + i) u)[1]? = some v := by rw [Array.getElem?_setIfInBounds_ne (by omega)]; exact logC_1 _ _ _
theorem logC_get (C : Int) (L : List Rnd) (v : Value) (o : Int) (h0 : 0 ≤ o) (h1 : o ≤ 64) : (logC C L v)[2 + o.toNat]? = some (.int .i64 (lastOf o L)) := by
 unfold logC
 rw [List.getElem?_toArray, Nat.add_comm, List.getElem?_cons_succ, List.getElem?_cons_succ, List.getElem?_map, List.getElem?_range (by omega), Option.map_some, show ((o.toNat : Nat) : Int) = o by omega]
theorem logC_add {C : Int} {L : List Rnd} {r : Rnd} (v v' : Value) (h0 : 1 ≤ r.f0) (h1 : r.f0 ≤ 64) : ((logC C L v).setIfInBounds (2 + r.f0.toNat) (.int .i64 r.f1)).setIfInBounds 1 v' = logC C (L ++ [r]) v' := by
 apply Array.ext'
 unfold logC
 apply List.ext_getElem?
 intro i
 simp only [Array.toList_setIfInBounds, List.getElem?_set]
 match i with
 | 0 => simp
 | 1 => simp
 | i + 2 =>
  rw [if_neg (by omega)]
  simp only [List.getElem?_cons_succ, List.getElem?_map, List.length_cons, List.length_map, List.length_range]
  by_cases hi : i < 65
  ·rw [List.getElem?_range hi, Option.map_some, Option.map_some, lastOf_snoc]
   by_cases e : r.f0 = (i : Int)
   ·rw [if_pos (by omega), if_pos (by omega), if_pos e]
   ·rw [if_neg (by omega), if_neg e]
  ·rw [if_neg (by omega), List.getElem?_eq_none (by simp; omega)]
   rfl
theorem logC_size (C : Int) (L : List Rnd) (v : Value) : (logC C L v).size = 67 := by unfold logC; simp
set_option maxRecDepth 100000 in
theorem zeroLog (w : World) : Sem.run Tryd.prog (zeroValue 69) w = .ok (.agg (logC 0 [] (.slice none 0 0))) w := by kernel_rfl
theorem logC_ne (C : Int) (L : List Rnd) (v : Value) : (logC C L v = #[]) = False := by
 refine eq_false (fun h => ?_)
 have := logC_size C L v
 rw [h] at this
 exact absurd this (by decide)
theorem logC_set0 (C C' : Int) (L : List Rnd) (v : Value) : (logC C L v).setIfInBounds 0 (.int .i64 C') = logC C' L v := by
 unfold logC
 rw [List.setIfInBounds_toArray, List.set_cons_zero]
theorem blkL_ {w : World} {g : Nat} {t : TypeId} {C : Int} {L : List Rnd} {v : Value} (h : w.heap[g]? = some (.cells (logC C L v) t (0, 0))) : w.cell? ⟨g, 0, none⟩ = some (.int .i64 C) ∧ w.cell? ⟨g, 1, none⟩ = some v ∧ ∀ i, w.frozen? ⟨g, i, none⟩ = false := ⟨(blk_cell h 0).trans (logC_0 _ _ _), (blk_cell h 1).trans (logC_1 _ _ _), fun i => blk_frozen h i⟩
theorem blkLo_ {w : World} {g : Nat} {t : TypeId} {C : Int} {L : List Rnd} {v : Value} {o : Int} (h : w.heap[g]? = some (.cells (logC C L v) t (0, 0))) (h0 : 0 ≤ o) (h1 : o ≤ 64) : w.cell? ⟨g, 2 + o.toNat, none⟩ = some (.int .i64 (lastOf o L)) := (blk_cell h _).trans (logC_get _ _ _ _ h0 h1)
end Go.Proofs.YtjmoncfgoaaekaaDoor.J
namespace Go.Proofs.YtjmoncfgoaaekaaDoor.J
set_option linter.unusedSimpArgs false
set_option linter.unusedVariables false
open Go Go.RowKit Go.Proofs.YtjmoncfgoaaekaaDoorW.PrintWords Go.Proofs.YtjmoncfgoaaekaaDoorW.PrintLast Go.Proofs.YtjmoncfgoaaekaaDoorW.PrintMore Go.Proofs.YtjmoncfgoaaekaaDoor.Q Go.Proofs.YtjmoncfgoaaekaaDoor.Sep Go.Proofs.YtjmoncfgoaaekaaDoor.Pure
attribute [local go_sem] max2_int min2_int max_two min_two max_three min_three max_four min_four
attribute [local go_sem] zeroLog logC_ne logC_set0
set_option maxHeartbeats 16000000 in
set_option maxRecDepth 100000 in
theorem New {N : Nat → Prop} {w : World} (n : Int) (h : Own N w []) :
  Calls Tryd.prog 7 #[.int .i64 n] w fun e w' => ∃ g, e = .returned (.pointer (some ⟨g, 0, none⟩)) ∧ Own N w' [ObjC g (mn (mx n 1) 64) []] ∧ KeepS N w w' := by
 have O0 : Aside0 (Own N w []) := ⟨h⟩
 have K0 : Aside0 (KeepS N w w) := ⟨KeepS.refl _ _⟩
 go_enter Tryd.func7, Tryd.ntmps7
 go_wp2_with (first | ((with_reducible refine gate_dst (N := 7) rfl ?_); refine own_box rfl (D := 7) rfl (cs := logC (mn (mx n 1) 64) [] (.slice none 0 0)) (t := 69) ?hr O0.out ?_; (case hr => first | (go_simp; done) | (go_simp; rfl) | (go_simp; refine congrArg (fun x => w.alloc (.cells (logC x [] (.slice none 0 0)) 69)) ?_; unfold mn mx; (repeat' split) <;> omega)); intro g1 w1 o_ k_; have O1 : Aside0 (Own N w1 [cells g1 (logC (mn (mx n 1) 64) [] (.slice none 0 0)) 69]) := ⟨o_⟩; have K1 := Aside0.mk (K0.out.trans k_); clear O0 K0; obtain ⟨l0a, l0b, l0f⟩ := blkL_ (O1.out.blk (i := 0) rfl); clear o_ k_))
 all_goals go_ret
 all_goals refine ⟨_, rfl, ?_, K1.out⟩
 all_goals exact (ObjG.shut (f := logC (mn (mx n 1) 64) []) (i := 0) (j := 1) (L := []) (O1.out.push_emp (nrow k43 43 (.slice none 0 0) []) (fun w => Kd.N_nil _ _ _ _ _)) rfl rfl (by decide)).take 1
end Go.Proofs.YtjmoncfgoaaekaaDoor.J
namespace Go.Proofs.YtjmoncfgoaaekaaDoor.J
set_option linter.unusedSimpArgs false
set_option linter.unusedVariables false
open Go Go.RowKit Go.Proofs.YtjmoncfgoaaekaaDoorW.PrintWords Go.Proofs.YtjmoncfgoaaekaaDoorW.PrintLast Go.Proofs.YtjmoncfgoaaekaaDoorW.PrintMore Go.Proofs.YtjmoncfgoaaekaaDoor.Q Go.Proofs.YtjmoncfgoaaekaaDoor.Sep Go.Proofs.YtjmoncfgoaaekaaDoor.Pure
attribute [local go_sem] max2_int min2_int max_two min_two max_three min_three max_four min_four
theorem copy_ok (o n : Int) (ups : List Upd) (hu : ups.length ≤ 1000000) : round_Copy.f o n ups = some (o, n, ups) := by
 unfold round_Copy.f api_Update.f
 rw [if_pos (by omega)]
 rfl
set_option maxHeartbeats 16000000 in
set_option maxRecDepth 100000 in
theorem Add_may {N : Nat → Prop} {w : World} {g : Nat} {C : Int} {L : List Rnd} (B : Option Addr) (c : Nat) (o n : Int) (ups : List Upd) (h : Own N w [ObjC g C L]) (hr : Kd.F k114 w N B ups.length ups) (hc : ups.length ≤ c) (hL : L.length ≤ 1000000) (hu : ups.length ≤ 1000000) (k : Nat) (e : Int) (he : round_May.f k o n ups = some e) (hz : (e != 0) = true) :
  Calls Tryd.prog 19 #[.pointer (some ⟨g, 0, none⟩), .agg #[.int .i64 o, .int .i64 n, .slice B ups.length c]] w fun e_ w' => e_ = .returned (.int .i64 e) ∧ Own N w' [ObjC g C L] ∧ KeepS N w w' := by
 have HR_0 : Aside0 (Kd.F k114 w N B ups.length ups) := ⟨hr⟩
 have HC := Aside0.mk hc
 have HE := Aside0.mk he
 have HL := Aside0.mk hL
 obtain ⟨A0, c0, h2⟩ := ObjG.open_ h (i := 0) rfl
 have O0 : Aside0 (Own N w [cells g (logC C L (.slice A0 L.length c0)) 69, nrow k43 43 (.slice A0 L.length c0) L]) := ⟨h2⟩
 have K0 : Aside0 (KeepS N w w) := ⟨KeepS.refl _ _⟩
 obtain ⟨l0a, l0b, l0f⟩ := blkL_ (O0.out.blk (i := 0) rfl)
 clear h2 hr hc hL he
 have H0 := Aside0.mk h
 clear h
 clear hu
 go_enter Tryd.func19, Tryd.ntmps19
 go_wp2_with (first | ((with_reducible refine gate_dst (N := 3) rfl ?_); refine bP 3 #[.int .i64 o, .int .i64 n, .slice B ups.length c] 43 O0.out ?_; intro gb w1 o_ k_; have O1 : Aside0 (Own N w1 [cells g (logC C L (.slice A0 L.length c0)) 69, nrow k43 43 (.slice A0 L.length c0) L, cells gb #[.int .i64 o, .int .i64 n, .slice B ups.length c] 43]) := ⟨o_⟩; have K1 := Aside0.mk (K0.out.trans k_); have HR_1 := Aside0.mk (keepF HR_0.out k_); clear l0a l0b l0f O0 K0 HR_0; obtain ⟨a2a, a2b, a2c, b2⟩ := blk3_ (O1.out.blk (i := 2) rfl); obtain ⟨l0a, l0b, l0f⟩ := blkL_ (O1.out.blk (i := 0) rfl); clear o_ k_) | ((with_reducible refine gate_callee (f := 44) rfl ?_); refine gP (some 8) Tryd.func44 #[.agg #[.int .i64 o, .int .i64 n, .slice B ups.length c]] ?_; refine (round_May.calls k _ _ _ _ ups e _ (Kd.F_now HR_1.out) HC.out HE.out).mono ?_; rintro e_ w2 ⟨rfl, hb_⟩; refine ⟨_, rfl, ?_⟩; have o_ := O1.out.below hb_; have k_ := KeepS.of_below (N := N) hb_; have O2 := Aside0.mk o_; have K2 := Aside0.mk (K1.out.trans k_); have HR_2 := Aside0.mk (keepF HR_1.out k_); clear a2a a2b a2c b2 l0a l0b l0f O1 K1 HR_1; obtain ⟨a2a, a2b, a2c, b2⟩ := blk3_ (O2.out.blk (i := 2) rfl); obtain ⟨l0a, l0b, l0f⟩ := blkL_ (O2.out.blk (i := 0) rfl); clear o_ k_ hb_))
 go_ret
 exact ⟨rfl, (ObjG.shut (i := 0) (j := 1) O2.out rfl rfl (by decide)).take 1, K2.out⟩
set_option maxHeartbeats 16000000 in
set_option maxRecDepth 100000 in
theorem Add_none {N : Nat → Prop} {w : World} {g : Nat} {C : Int} {L : List Rnd} (B : Option Addr) (c : Nat) (o n : Int) (ups : List Upd) (h : Own N w [ObjC g C L]) (hr : Kd.F k114 w N B ups.length ups) (hc : ups.length ≤ c) (hL : L.length ≤ 1000000) (hu : ups.length ≤ 1000000) (k : Nat) (hb : mayR o n ups = 0) (he : round_May.f k o n ups = some 0) (hg : Good C L) (ho : o > C) :
  Calls Tryd.prog 19 #[.pointer (some ⟨g, 0, none⟩), .agg #[.int .i64 o, .int .i64 n, .slice B ups.length c]] w fun e_ w' => e_ = .returned (.int .i64 11) ∧ Own N w' [ObjC g C L] ∧ KeepS N w w' := by
 have HR_0 : Aside0 (Kd.F k114 w N B ups.length ups) := ⟨hr⟩
 have HC := Aside0.mk hc
 have HE := Aside0.mk he
 have HL := Aside0.mk hL
 have hm := may_1 (hb)
 have HM := Aside0.mk hm
 have d4 : (0 ≤ o) = True := eq_true (by omega)
 have d5 : (o < 65) = True := eq_true (by omega)
 have hlr := lastOf_range o hg
 have HLR := Aside0.mk hlr
 have hz : ((0 : Int) != 0) = false := by decide
 obtain ⟨q, hq⟩ : ∃ q, q = lastOf o L + 1 := ⟨_, rfl⟩
 have hs1 : IntKind.i64.wrap (lastOf o L + 1) = q := by rw [IntKind.wrap_i64]; omega
 have hs2 : wrap64 (lastOf o L + 1) = q := by unfold wrap64; omega
 have d6 : decide (o > C) = true := decide_eq_true (by omega)
 have d7 : decide (C < o) = true := d6
 obtain ⟨A0, c0, h2⟩ := ObjG.open_ h (i := 0) rfl
 have O0 : Aside0 (Own N w [cells g (logC C L (.slice A0 L.length c0)) 69, nrow k43 43 (.slice A0 L.length c0) L]) := ⟨h2⟩
 have K0 : Aside0 (KeepS N w w) := ⟨KeepS.refl _ _⟩
 obtain ⟨l0a, l0b, l0f⟩ := blkL_ (O0.out.blk (i := 0) rfl)
 have l0o := blkLo_ (o := o) (O0.out.blk (i := 0) rfl) (by have := HM.out; omega) (by have := HM.out; omega)
 clear h2 hr hc hL he hb hm hlr hg hq ho
 have H0 := Aside0.mk h
 clear h
 clear hu
 go_enter Tryd.func19, Tryd.ntmps19
 go_wp2_with (first | ((with_reducible refine gate_dst (N := 3) rfl ?_); refine bP 3 #[.int .i64 o, .int .i64 n, .slice B ups.length c] 43 O0.out ?_; intro gb w1 o_ k_; have O1 : Aside0 (Own N w1 [cells g (logC C L (.slice A0 L.length c0)) 69, nrow k43 43 (.slice A0 L.length c0) L, cells gb #[.int .i64 o, .int .i64 n, .slice B ups.length c] 43]) := ⟨o_⟩; have K1 := Aside0.mk (K0.out.trans k_); have HR_1 := Aside0.mk (keepF HR_0.out k_); clear l0a l0b l0f l0o O0 K0 HR_0; obtain ⟨a2a, a2b, a2c, b2⟩ := blk3_ (O1.out.blk (i := 2) rfl); obtain ⟨l0a, l0b, l0f⟩ := blkL_ (O1.out.blk (i := 0) rfl); have l0o := blkLo_ (o := o) (O1.out.blk (i := 0) rfl) (by have := HM.out; omega) (by have := HM.out; omega); clear o_ k_) | ((with_reducible refine gate_callee (f := 44) rfl ?_); refine gP (some 8) Tryd.func44 #[.agg #[.int .i64 o, .int .i64 n, .slice B ups.length c]] ?_; refine (round_May.calls k _ _ _ _ ups 0 _ (Kd.F_now HR_1.out) HC.out HE.out).mono ?_; rintro e_ w2 ⟨rfl, hb_⟩; refine ⟨_, rfl, ?_⟩; have o_ := O1.out.below hb_; have k_ := KeepS.of_below (N := N) hb_; have O2 := Aside0.mk o_; have K2 := Aside0.mk (K1.out.trans k_); have HR_2 := Aside0.mk (keepF HR_1.out k_); clear a2a a2b a2c b2 l0a l0b l0f l0o O1 K1 HR_1; obtain ⟨a2a, a2b, a2c, b2⟩ := blk3_ (O2.out.blk (i := 2) rfl); obtain ⟨l0a, l0b, l0f⟩ := blkL_ (O2.out.blk (i := 0) rfl); have l0o := blkLo_ (o := o) (O2.out.blk (i := 0) rfl) (by have := HM.out; omega) (by have := HM.out; omega); clear o_ k_ hb_))
 refine sP (n := 9) (S := fun w' => w'.cell? ⟨gb, 0, none⟩ = some (.int .i64 o) ∧ w'.cell? ⟨gb, 1, none⟩ = some (.int .i64 n) ∧ w'.cell? ⟨gb, 2, none⟩ = some (.slice B ups.length c) ∧ w'.cell? ⟨g, 2 + o.toNat, none⟩ = some (.int .i64 (lastOf o L))) (ds := []) ⟨a2a, a2b, a2c, ((blk_cell (O2.out.blk (i := 0) rfl) _).trans (logC_get _ _ _ _ (by have := HM.out; omega) (by have := HM.out; omega)))⟩ (fun hHeld => ?_)
 obtain ⟨w3, hw_⟩ : ∃ W, W = w2.drew := ⟨_, rfl⟩
 have o_ := O2.out.drew
 have k_ : KeepS N w2 w2.drew := KeepS.drew
 rw [← hw_] at o_ k_ hHeld ⊢
 clear hw_
 have O3 := Aside0.mk o_
 have K3 := Aside0.mk (K2.out.trans k_)
 have HR_3 := Aside0.mk (keepF HR_2.out k_)
 clear a2a a2b a2c b2 l0a l0b l0f l0o O2 K2 HR_2
 obtain ⟨a2a, a2b, a2c, b2⟩ := blk3_ (O3.out.blk (i := 2) rfl)
 obtain ⟨l0a, l0b, l0f⟩ := blkL_ (O3.out.blk (i := 0) rfl)
 have l0o := blkLo_ (o := o) (O3.out.blk (i := 0) rfl) (by have := HM.out; omega) (by have := HM.out; omega)
 clear o_ k_
 refine pP 0 (some 12) ?_
 refine pP 1 (some 13) ?_
 refine pP 3 (some 15) ?_
 refine pP 4 (some 16) ?_
 refine tP 2 (some 14) hHeld ?_
 refine pP 5 (some 17) ?_
 refine tP 6 (some 18) hHeld ?_
 refine pP 7 (some 19) ?_
 refine pP 8 (some 6) ?_
 refine done_ (by kernel_rfl) ?_
 clear hHeld
 go_wp2
 refine sP (n := 8) (S := fun w' => w'.cell? ⟨gb, 0, none⟩ = some (.int .i64 o) ∧ w'.cell? ⟨gb, 1, none⟩ = some (.int .i64 n) ∧ w'.cell? ⟨gb, 2, none⟩ = some (.slice B ups.length c) ∧ w'.cell? ⟨g, 0, none⟩ = some (.int .i64 C) ∧ w'.cell? ⟨g, 1, none⟩ = some (.slice A0 L.length c0)) (ds := []) ⟨a2a, a2b, a2c, ((blk_cell (O3.out.blk (i := 0) rfl) 0).trans (logC_0 _ _ _)), ((blk_cell (O3.out.blk (i := 0) rfl) 1).trans (logC_1 _ _ _))⟩ (fun hHeld => ?_)
 obtain ⟨w4, hw_⟩ : ∃ W, W = w3.drew := ⟨_, rfl⟩
 have o_ := O3.out.drew
 have k_ : KeepS N w3 w3.drew := KeepS.drew
 rw [← hw_] at o_ k_ hHeld ⊢
 clear hw_
 have O4 := Aside0.mk o_
 have K4 := Aside0.mk (K3.out.trans k_)
 have HR_4 := Aside0.mk (keepF HR_3.out k_)
 clear a2a a2b a2c b2 l0a l0b l0f l0o O3 K3 HR_3
 obtain ⟨a2a, a2b, a2c, b2⟩ := blk3_ (O4.out.blk (i := 2) rfl)
 obtain ⟨l0a, l0b, l0f⟩ := blkL_ (O4.out.blk (i := 0) rfl)
 have l0o := blkLo_ (o := o) (O4.out.blk (i := 0) rfl) (by have := HM.out; omega) (by have := HM.out; omega)
 clear o_ k_
 refine pP 0 (some 21) ?_
 refine pP 2 (some 23) ?_
 refine pP 3 (some 24) ?_
 refine pP 4 (some 25) ?_
 refine tP 1 (some 22) hHeld ?_
 refine tP 5 (some 26) hHeld ?_
 refine pP 6 (some 27) ?_
 refine pP 7 (some 20) ?_
 refine done_ (by kernel_rfl) ?_
 clear hHeld
 go_wp2
 go_ret
 exact ⟨rfl, (ObjG.shut (i := 0) (j := 1) O4.out rfl rfl (by decide)).take 1, K4.out⟩
set_option maxHeartbeats 16000000 in
set_option maxRecDepth 100000 in
theorem Add_twice {N : Nat → Prop} {w : World} {g : Nat} {C : Int} {L : List Rnd} (B : Option Addr) (c : Nat) (o n : Int) (ups : List Upd) (h : Own N w [ObjC g C L]) (hr : Kd.F k114 w N B ups.length ups) (hc : ups.length ≤ c) (hL : L.length ≤ 1000000) (hu : ups.length ≤ 1000000) (k : Nat) (hb : mayR o n ups = 0) (he : round_May.f k o n ups = some 0) (hg : Good C L) (ho : o ≤ C) (ho2 : n < lastOf o L + 1) :
  Calls Tryd.prog 19 #[.pointer (some ⟨g, 0, none⟩), .agg #[.int .i64 o, .int .i64 n, .slice B ups.length c]] w fun e_ w' => e_ = .returned (.int .i64 12) ∧ Own N w' [ObjC g C L] ∧ KeepS N w w' := by
 have HR_0 : Aside0 (Kd.F k114 w N B ups.length ups) := ⟨hr⟩
 have HC := Aside0.mk hc
 have HE := Aside0.mk he
 have HL := Aside0.mk hL
 have hm := may_1 (hb)
 have HM := Aside0.mk hm
 have d4 : (0 ≤ o) = True := eq_true (by omega)
 have d5 : (o < 65) = True := eq_true (by omega)
 have hlr := lastOf_range o hg
 have HLR := Aside0.mk hlr
 have hz : ((0 : Int) != 0) = false := by decide
 obtain ⟨q, hq⟩ : ∃ q, q = lastOf o L + 1 := ⟨_, rfl⟩
 have hs1 : IntKind.i64.wrap (lastOf o L + 1) = q := by rw [IntKind.wrap_i64]; omega
 have hs2 : wrap64 (lastOf o L + 1) = q := by unfold wrap64; omega
 have d6 : decide (o > C) = false := decide_eq_false (by omega)
 have d7 : decide (C < o) = false := d6
 have d8 : decide (n < q) = true := decide_eq_true (by omega)
 obtain ⟨A0, c0, h2⟩ := ObjG.open_ h (i := 0) rfl
 have O0 : Aside0 (Own N w [cells g (logC C L (.slice A0 L.length c0)) 69, nrow k43 43 (.slice A0 L.length c0) L]) := ⟨h2⟩
 have K0 : Aside0 (KeepS N w w) := ⟨KeepS.refl _ _⟩
 obtain ⟨l0a, l0b, l0f⟩ := blkL_ (O0.out.blk (i := 0) rfl)
 have l0o := blkLo_ (o := o) (O0.out.blk (i := 0) rfl) (by have := HM.out; omega) (by have := HM.out; omega)
 clear h2 hr hc hL he hb hm hlr hg hq ho ho2
 have H0 := Aside0.mk h
 clear h
 clear hu
 go_enter Tryd.func19, Tryd.ntmps19
 go_wp2_with (first | ((with_reducible refine gate_dst (N := 3) rfl ?_); refine bP 3 #[.int .i64 o, .int .i64 n, .slice B ups.length c] 43 O0.out ?_; intro gb w1 o_ k_; have O1 : Aside0 (Own N w1 [cells g (logC C L (.slice A0 L.length c0)) 69, nrow k43 43 (.slice A0 L.length c0) L, cells gb #[.int .i64 o, .int .i64 n, .slice B ups.length c] 43]) := ⟨o_⟩; have K1 := Aside0.mk (K0.out.trans k_); have HR_1 := Aside0.mk (keepF HR_0.out k_); clear l0a l0b l0f l0o O0 K0 HR_0; obtain ⟨a2a, a2b, a2c, b2⟩ := blk3_ (O1.out.blk (i := 2) rfl); obtain ⟨l0a, l0b, l0f⟩ := blkL_ (O1.out.blk (i := 0) rfl); have l0o := blkLo_ (o := o) (O1.out.blk (i := 0) rfl) (by have := HM.out; omega) (by have := HM.out; omega); clear o_ k_) | ((with_reducible refine gate_callee (f := 44) rfl ?_); refine gP (some 8) Tryd.func44 #[.agg #[.int .i64 o, .int .i64 n, .slice B ups.length c]] ?_; refine (round_May.calls k _ _ _ _ ups 0 _ (Kd.F_now HR_1.out) HC.out HE.out).mono ?_; rintro e_ w2 ⟨rfl, hb_⟩; refine ⟨_, rfl, ?_⟩; have o_ := O1.out.below hb_; have k_ := KeepS.of_below (N := N) hb_; have O2 := Aside0.mk o_; have K2 := Aside0.mk (K1.out.trans k_); have HR_2 := Aside0.mk (keepF HR_1.out k_); clear a2a a2b a2c b2 l0a l0b l0f l0o O1 K1 HR_1; obtain ⟨a2a, a2b, a2c, b2⟩ := blk3_ (O2.out.blk (i := 2) rfl); obtain ⟨l0a, l0b, l0f⟩ := blkL_ (O2.out.blk (i := 0) rfl); have l0o := blkLo_ (o := o) (O2.out.blk (i := 0) rfl) (by have := HM.out; omega) (by have := HM.out; omega); clear o_ k_ hb_))
 refine sP (n := 9) (S := fun w' => w'.cell? ⟨gb, 0, none⟩ = some (.int .i64 o) ∧ w'.cell? ⟨gb, 1, none⟩ = some (.int .i64 n) ∧ w'.cell? ⟨gb, 2, none⟩ = some (.slice B ups.length c) ∧ w'.cell? ⟨g, 2 + o.toNat, none⟩ = some (.int .i64 (lastOf o L))) (ds := []) ⟨a2a, a2b, a2c, ((blk_cell (O2.out.blk (i := 0) rfl) _).trans (logC_get _ _ _ _ (by have := HM.out; omega) (by have := HM.out; omega)))⟩ (fun hHeld => ?_)
 obtain ⟨w3, hw_⟩ : ∃ W, W = w2.drew := ⟨_, rfl⟩
 have o_ := O2.out.drew
 have k_ : KeepS N w2 w2.drew := KeepS.drew
 rw [← hw_] at o_ k_ hHeld ⊢
 clear hw_
 have O3 := Aside0.mk o_
 have K3 := Aside0.mk (K2.out.trans k_)
 have HR_3 := Aside0.mk (keepF HR_2.out k_)
 clear a2a a2b a2c b2 l0a l0b l0f l0o O2 K2 HR_2
 obtain ⟨a2a, a2b, a2c, b2⟩ := blk3_ (O3.out.blk (i := 2) rfl)
 obtain ⟨l0a, l0b, l0f⟩ := blkL_ (O3.out.blk (i := 0) rfl)
 have l0o := blkLo_ (o := o) (O3.out.blk (i := 0) rfl) (by have := HM.out; omega) (by have := HM.out; omega)
 clear o_ k_
 refine pP 0 (some 12) ?_
 refine pP 1 (some 13) ?_
 refine pP 3 (some 15) ?_
 refine pP 4 (some 16) ?_
 refine tP 2 (some 14) hHeld ?_
 refine pP 5 (some 17) ?_
 refine tP 6 (some 18) hHeld ?_
 refine pP 7 (some 19) ?_
 refine pP 8 (some 6) ?_
 refine done_ (by kernel_rfl) ?_
 clear hHeld
 go_wp2
 refine sP (n := 8) (S := fun w' => w'.cell? ⟨gb, 0, none⟩ = some (.int .i64 o) ∧ w'.cell? ⟨gb, 1, none⟩ = some (.int .i64 n) ∧ w'.cell? ⟨gb, 2, none⟩ = some (.slice B ups.length c) ∧ w'.cell? ⟨g, 0, none⟩ = some (.int .i64 C) ∧ w'.cell? ⟨g, 1, none⟩ = some (.slice A0 L.length c0)) (ds := []) ⟨a2a, a2b, a2c, ((blk_cell (O3.out.blk (i := 0) rfl) 0).trans (logC_0 _ _ _)), ((blk_cell (O3.out.blk (i := 0) rfl) 1).trans (logC_1 _ _ _))⟩ (fun hHeld => ?_)
 obtain ⟨w4, hw_⟩ : ∃ W, W = w3.drew := ⟨_, rfl⟩
 have o_ := O3.out.drew
 have k_ : KeepS N w3 w3.drew := KeepS.drew
 rw [← hw_] at o_ k_ hHeld ⊢
 clear hw_
 have O4 := Aside0.mk o_
 have K4 := Aside0.mk (K3.out.trans k_)
 have HR_4 := Aside0.mk (keepF HR_3.out k_)
 clear a2a a2b a2c b2 l0a l0b l0f l0o O3 K3 HR_3
 obtain ⟨a2a, a2b, a2c, b2⟩ := blk3_ (O4.out.blk (i := 2) rfl)
 obtain ⟨l0a, l0b, l0f⟩ := blkL_ (O4.out.blk (i := 0) rfl)
 have l0o := blkLo_ (o := o) (O4.out.blk (i := 0) rfl) (by have := HM.out; omega) (by have := HM.out; omega)
 clear o_ k_
 refine pP 0 (some 21) ?_
 refine pP 2 (some 23) ?_
 refine pP 3 (some 24) ?_
 refine pP 4 (some 25) ?_
 refine tP 1 (some 22) hHeld ?_
 refine tP 5 (some 26) hHeld ?_
 refine pP 6 (some 27) ?_
 refine pP 7 (some 20) ?_
 refine done_ (by kernel_rfl) ?_
 clear hHeld
 go_wp2
 go_ret
 exact ⟨rfl, (ObjG.shut (i := 0) (j := 1) O4.out rfl rfl (by decide)).take 1, K4.out⟩
set_option maxHeartbeats 16000000 in
set_option maxRecDepth 100000 in
theorem Add_order {N : Nat → Prop} {w : World} {g : Nat} {C : Int} {L : List Rnd} (B : Option Addr) (c : Nat) (o n : Int) (ups : List Upd) (h : Own N w [ObjC g C L]) (hr : Kd.F k114 w N B ups.length ups) (hc : ups.length ≤ c) (hL : L.length ≤ 1000000) (hu : ups.length ≤ 1000000) (k : Nat) (hb : mayR o n ups = 0) (he : round_May.f k o n ups = some 0) (hg : Good C L) (ho : o ≤ C) (ho2 : n > lastOf o L + 1) :
  Calls Tryd.prog 19 #[.pointer (some ⟨g, 0, none⟩), .agg #[.int .i64 o, .int .i64 n, .slice B ups.length c]] w fun e_ w' => e_ = .returned (.int .i64 10) ∧ Own N w' [ObjC g C L] ∧ KeepS N w w' := by
 have HR_0 : Aside0 (Kd.F k114 w N B ups.length ups) := ⟨hr⟩
 have HC := Aside0.mk hc
 have HE := Aside0.mk he
 have HL := Aside0.mk hL
 have hm := may_1 (hb)
 have HM := Aside0.mk hm
 have d4 : (0 ≤ o) = True := eq_true (by omega)
 have d5 : (o < 65) = True := eq_true (by omega)
 have hlr := lastOf_range o hg
 have HLR := Aside0.mk hlr
 have hz : ((0 : Int) != 0) = false := by decide
 obtain ⟨q, hq⟩ : ∃ q, q = lastOf o L + 1 := ⟨_, rfl⟩
 have hs1 : IntKind.i64.wrap (lastOf o L + 1) = q := by rw [IntKind.wrap_i64]; omega
 have hs2 : wrap64 (lastOf o L + 1) = q := by unfold wrap64; omega
 have d6 : decide (o > C) = false := decide_eq_false (by omega)
 have d7 : decide (C < o) = false := d6
 have d8 : decide (n < q) = false := decide_eq_false (by omega)
 have d9 : decide (n > q) = true := decide_eq_true (by omega)
 have d10 : decide (q < n) = true := d9
 obtain ⟨A0, c0, h2⟩ := ObjG.open_ h (i := 0) rfl
 have O0 : Aside0 (Own N w [cells g (logC C L (.slice A0 L.length c0)) 69, nrow k43 43 (.slice A0 L.length c0) L]) := ⟨h2⟩
 have K0 : Aside0 (KeepS N w w) := ⟨KeepS.refl _ _⟩
 obtain ⟨l0a, l0b, l0f⟩ := blkL_ (O0.out.blk (i := 0) rfl)
 have l0o := blkLo_ (o := o) (O0.out.blk (i := 0) rfl) (by have := HM.out; omega) (by have := HM.out; omega)
 clear h2 hr hc hL he hb hm hlr hg hq ho ho2
 have H0 := Aside0.mk h
 clear h
 clear hu
 go_enter Tryd.func19, Tryd.ntmps19
 go_wp2_with (first | ((with_reducible refine gate_dst (N := 3) rfl ?_); refine bP 3 #[.int .i64 o, .int .i64 n, .slice B ups.length c] 43 O0.out ?_; intro gb w1 o_ k_; have O1 : Aside0 (Own N w1 [cells g (logC C L (.slice A0 L.length c0)) 69, nrow k43 43 (.slice A0 L.length c0) L, cells gb #[.int .i64 o, .int .i64 n, .slice B ups.length c] 43]) := ⟨o_⟩; have K1 := Aside0.mk (K0.out.trans k_); have HR_1 := Aside0.mk (keepF HR_0.out k_); clear l0a l0b l0f l0o O0 K0 HR_0; obtain ⟨a2a, a2b, a2c, b2⟩ := blk3_ (O1.out.blk (i := 2) rfl); obtain ⟨l0a, l0b, l0f⟩ := blkL_ (O1.out.blk (i := 0) rfl); have l0o := blkLo_ (o := o) (O1.out.blk (i := 0) rfl) (by have := HM.out; omega) (by have := HM.out; omega); clear o_ k_) | ((with_reducible refine gate_callee (f := 44) rfl ?_); refine gP (some 8) Tryd.func44 #[.agg #[.int .i64 o, .int .i64 n, .slice B ups.length c]] ?_; refine (round_May.calls k _ _ _ _ ups 0 _ (Kd.F_now HR_1.out) HC.out HE.out).mono ?_; rintro e_ w2 ⟨rfl, hb_⟩; refine ⟨_, rfl, ?_⟩; have o_ := O1.out.below hb_; have k_ := KeepS.of_below (N := N) hb_; have O2 := Aside0.mk o_; have K2 := Aside0.mk (K1.out.trans k_); have HR_2 := Aside0.mk (keepF HR_1.out k_); clear a2a a2b a2c b2 l0a l0b l0f l0o O1 K1 HR_1; obtain ⟨a2a, a2b, a2c, b2⟩ := blk3_ (O2.out.blk (i := 2) rfl); obtain ⟨l0a, l0b, l0f⟩ := blkL_ (O2.out.blk (i := 0) rfl); have l0o := blkLo_ (o := o) (O2.out.blk (i := 0) rfl) (by have := HM.out; omega) (by have := HM.out; omega); clear o_ k_ hb_))
 refine sP (n := 9) (S := fun w' => w'.cell? ⟨gb, 0, none⟩ = some (.int .i64 o) ∧ w'.cell? ⟨gb, 1, none⟩ = some (.int .i64 n) ∧ w'.cell? ⟨gb, 2, none⟩ = some (.slice B ups.length c) ∧ w'.cell? ⟨g, 2 + o.toNat, none⟩ = some (.int .i64 (lastOf o L))) (ds := []) ⟨a2a, a2b, a2c, ((blk_cell (O2.out.blk (i := 0) rfl) _).trans (logC_get _ _ _ _ (by have := HM.out; omega) (by have := HM.out; omega)))⟩ (fun hHeld => ?_)
 obtain ⟨w3, hw_⟩ : ∃ W, W = w2.drew := ⟨_, rfl⟩
 have o_ := O2.out.drew
 have k_ : KeepS N w2 w2.drew := KeepS.drew
 rw [← hw_] at o_ k_ hHeld ⊢
 clear hw_
 have O3 := Aside0.mk o_
 have K3 := Aside0.mk (K2.out.trans k_)
 have HR_3 := Aside0.mk (keepF HR_2.out k_)
 clear a2a a2b a2c b2 l0a l0b l0f l0o O2 K2 HR_2
 obtain ⟨a2a, a2b, a2c, b2⟩ := blk3_ (O3.out.blk (i := 2) rfl)
 obtain ⟨l0a, l0b, l0f⟩ := blkL_ (O3.out.blk (i := 0) rfl)
 have l0o := blkLo_ (o := o) (O3.out.blk (i := 0) rfl) (by have := HM.out; omega) (by have := HM.out; omega)
 clear o_ k_
 refine pP 0 (some 12) ?_
 refine pP 1 (some 13) ?_
 refine pP 3 (some 15) ?_
 refine pP 4 (some 16) ?_
 refine tP 2 (some 14) hHeld ?_
 refine pP 5 (some 17) ?_
 refine tP 6 (some 18) hHeld ?_
 refine pP 7 (some 19) ?_
 refine pP 8 (some 6) ?_
 refine done_ (by kernel_rfl) ?_
 clear hHeld
 go_wp2
 refine sP (n := 8) (S := fun w' => w'.cell? ⟨gb, 0, none⟩ = some (.int .i64 o) ∧ w'.cell? ⟨gb, 1, none⟩ = some (.int .i64 n) ∧ w'.cell? ⟨gb, 2, none⟩ = some (.slice B ups.length c) ∧ w'.cell? ⟨g, 0, none⟩ = some (.int .i64 C) ∧ w'.cell? ⟨g, 1, none⟩ = some (.slice A0 L.length c0)) (ds := []) ⟨a2a, a2b, a2c, ((blk_cell (O3.out.blk (i := 0) rfl) 0).trans (logC_0 _ _ _)), ((blk_cell (O3.out.blk (i := 0) rfl) 1).trans (logC_1 _ _ _))⟩ (fun hHeld => ?_)
 obtain ⟨w4, hw_⟩ : ∃ W, W = w3.drew := ⟨_, rfl⟩
 have o_ := O3.out.drew
 have k_ : KeepS N w3 w3.drew := KeepS.drew
 rw [← hw_] at o_ k_ hHeld ⊢
 clear hw_
 have O4 := Aside0.mk o_
 have K4 := Aside0.mk (K3.out.trans k_)
 have HR_4 := Aside0.mk (keepF HR_3.out k_)
 clear a2a a2b a2c b2 l0a l0b l0f l0o O3 K3 HR_3
 obtain ⟨a2a, a2b, a2c, b2⟩ := blk3_ (O4.out.blk (i := 2) rfl)
 obtain ⟨l0a, l0b, l0f⟩ := blkL_ (O4.out.blk (i := 0) rfl)
 have l0o := blkLo_ (o := o) (O4.out.blk (i := 0) rfl) (by have := HM.out; omega) (by have := HM.out; omega)
 clear o_ k_
 refine pP 0 (some 21) ?_
 refine pP 2 (some 23) ?_
 refine pP 3 (some 24) ?_
 refine pP 4 (some 25) ?_
 refine tP 1 (some 22) hHeld ?_
 refine tP 5 (some 26) hHeld ?_
 refine pP 6 (some 27) ?_
 refine pP 7 (some 20) ?_
 refine done_ (by kernel_rfl) ?_
 clear hHeld
 go_wp2
 go_ret
 exact ⟨rfl, (ObjG.shut (i := 0) (j := 1) O4.out rfl rfl (by decide)).take 1, K4.out⟩
set_option maxHeartbeats 16000000 in
set_option maxRecDepth 100000 in
theorem Add_ok {N : Nat → Prop} {w : World} {g : Nat} {C : Int} {L : List Rnd} (B : Option Addr) (c : Nat) (o n : Int) (ups : List Upd) (h : Own N w [ObjC g C L]) (hr : Kd.F k114 w N B ups.length ups) (hc : ups.length ≤ c) (hL : L.length ≤ 1000000) (hu : ups.length ≤ 1000000) (k : Nat) (hb : mayR o n ups = 0) (he : round_May.f k o n ups = some 0) (hg : Good C L) (ho : o ≤ C) (ho2 : n = lastOf o L + 1) :
  Calls Tryd.prog 19 #[.pointer (some ⟨g, 0, none⟩), .agg #[.int .i64 o, .int .i64 n, .slice B ups.length c]] w fun e_ w' => e_ = .returned (.int .i64 0) ∧ Own N w' [ObjC g C (L ++ [(⟨o, n, ups⟩ : Rnd)])] ∧ KeepS N w w' := by
 have HR_0 : Aside0 (Kd.F k114 w N B ups.length ups) := ⟨hr⟩
 have HC := Aside0.mk hc
 have HE := Aside0.mk he
 have HL := Aside0.mk hL
 have hm := may_1 (hb)
 have HM := Aside0.mk hm
 have d4 : (0 ≤ o) = True := eq_true (by omega)
 have d5 : (o < 65) = True := eq_true (by omega)
 have hlr := lastOf_range o hg
 have HLR := Aside0.mk hlr
 have hz : ((0 : Int) != 0) = false := by decide
 have hs1 : IntKind.i64.wrap (lastOf o L + 1) = n := by rw [IntKind.wrap_i64]; omega
 have hs2 : wrap64 (lastOf o L + 1) = n := by unfold wrap64; omega
 have d6 : decide (o > C) = false := decide_eq_false (by omega)
 have d7 : decide (C < o) = false := d6
 have d8 : decide (n < n) = false := decide_eq_false (by omega)
 have d9 : decide (n > n) = false := decide_eq_false (by omega)
 have d10 : decide (n < n) = false := d9
 have HQ := Aside0.mk ho2
 obtain ⟨A0, c0, h2⟩ := ObjG.open_ h (i := 0) rfl
 have O0 : Aside0 (Own N w [cells g (logC C L (.slice A0 L.length c0)) 69, nrow k43 43 (.slice A0 L.length c0) L]) := ⟨h2⟩
 have K0 : Aside0 (KeepS N w w) := ⟨KeepS.refl _ _⟩
 obtain ⟨l0a, l0b, l0f⟩ := blkL_ (O0.out.blk (i := 0) rfl)
 have l0o := blkLo_ (o := o) (O0.out.blk (i := 0) rfl) (by have := HM.out; omega) (by have := HM.out; omega)
 clear h2 hr hc hL he hb hm hlr hg ho ho2
 have H0 := Aside0.mk h
 clear h
 have HCP : Aside0 (round_Copy.f o n ups = some (o, n, ups)) := ⟨copy_ok _ _ _ hu⟩
 clear hu
 go_enter Tryd.func19, Tryd.ntmps19
 go_wp2_with (first | ((with_reducible refine gate_dst (N := 3) rfl ?_); refine bP 3 #[.int .i64 o, .int .i64 n, .slice B ups.length c] 43 O0.out ?_; intro gb w1 o_ k_; have O1 : Aside0 (Own N w1 [cells g (logC C L (.slice A0 L.length c0)) 69, nrow k43 43 (.slice A0 L.length c0) L, cells gb #[.int .i64 o, .int .i64 n, .slice B ups.length c] 43]) := ⟨o_⟩; have K1 := Aside0.mk (K0.out.trans k_); have HR_1 := Aside0.mk (keepF HR_0.out k_); clear l0a l0b l0f l0o O0 K0 HR_0; obtain ⟨a2a, a2b, a2c, b2⟩ := blk3_ (O1.out.blk (i := 2) rfl); obtain ⟨l0a, l0b, l0f⟩ := blkL_ (O1.out.blk (i := 0) rfl); have l0o := blkLo_ (o := o) (O1.out.blk (i := 0) rfl) (by have := HM.out; omega) (by have := HM.out; omega); clear o_ k_) | ((with_reducible refine gate_callee (f := 44) rfl ?_); refine gP (some 8) Tryd.func44 #[.agg #[.int .i64 o, .int .i64 n, .slice B ups.length c]] ?_; refine (round_May.calls k _ _ _ _ ups 0 _ (Kd.F_now HR_1.out) HC.out HE.out).mono ?_; rintro e_ w2 ⟨rfl, hb_⟩; refine ⟨_, rfl, ?_⟩; have o_ := O1.out.below hb_; have k_ := KeepS.of_below (N := N) hb_; have O2 := Aside0.mk o_; have K2 := Aside0.mk (K1.out.trans k_); have HR_2 := Aside0.mk (keepF HR_1.out k_); clear a2a a2b a2c b2 l0a l0b l0f l0o O1 K1 HR_1; obtain ⟨a2a, a2b, a2c, b2⟩ := blk3_ (O2.out.blk (i := 2) rfl); obtain ⟨l0a, l0b, l0f⟩ := blkL_ (O2.out.blk (i := 0) rfl); have l0o := blkLo_ (o := o) (O2.out.blk (i := 0) rfl) (by have := HM.out; omega) (by have := HM.out; omega); clear o_ k_ hb_))
 refine sP (n := 9) (S := fun w' => w'.cell? ⟨gb, 0, none⟩ = some (.int .i64 o) ∧ w'.cell? ⟨gb, 1, none⟩ = some (.int .i64 n) ∧ w'.cell? ⟨gb, 2, none⟩ = some (.slice B ups.length c) ∧ w'.cell? ⟨g, 2 + o.toNat, none⟩ = some (.int .i64 (lastOf o L))) (ds := []) ⟨a2a, a2b, a2c, ((blk_cell (O2.out.blk (i := 0) rfl) _).trans (logC_get _ _ _ _ (by have := HM.out; omega) (by have := HM.out; omega)))⟩ (fun hHeld => ?_)
 obtain ⟨w3, hw_⟩ : ∃ W, W = w2.drew := ⟨_, rfl⟩
 have o_ := O2.out.drew
 have k_ : KeepS N w2 w2.drew := KeepS.drew
 rw [← hw_] at o_ k_ hHeld ⊢
 clear hw_
 have O3 := Aside0.mk o_
 have K3 := Aside0.mk (K2.out.trans k_)
 have HR_3 := Aside0.mk (keepF HR_2.out k_)
 clear a2a a2b a2c b2 l0a l0b l0f l0o O2 K2 HR_2
 obtain ⟨a2a, a2b, a2c, b2⟩ := blk3_ (O3.out.blk (i := 2) rfl)
 obtain ⟨l0a, l0b, l0f⟩ := blkL_ (O3.out.blk (i := 0) rfl)
 have l0o := blkLo_ (o := o) (O3.out.blk (i := 0) rfl) (by have := HM.out; omega) (by have := HM.out; omega)
 clear o_ k_
 refine pP 0 (some 12) ?_
 refine pP 1 (some 13) ?_
 refine pP 3 (some 15) ?_
 refine pP 4 (some 16) ?_
 refine tP 2 (some 14) hHeld ?_
 refine pP 5 (some 17) ?_
 refine tP 6 (some 18) hHeld ?_
 refine pP 7 (some 19) ?_
 refine pP 8 (some 6) ?_
 refine done_ (by kernel_rfl) ?_
 clear hHeld
 go_wp2
 refine sP (n := 8) (S := fun w' => w'.cell? ⟨gb, 0, none⟩ = some (.int .i64 o) ∧ w'.cell? ⟨gb, 1, none⟩ = some (.int .i64 n) ∧ w'.cell? ⟨gb, 2, none⟩ = some (.slice B ups.length c) ∧ w'.cell? ⟨g, 0, none⟩ = some (.int .i64 C) ∧ w'.cell? ⟨g, 1, none⟩ = some (.slice A0 L.length c0)) (ds := []) ⟨a2a, a2b, a2c, ((blk_cell (O3.out.blk (i := 0) rfl) 0).trans (logC_0 _ _ _)), ((blk_cell (O3.out.blk (i := 0) rfl) 1).trans (logC_1 _ _ _))⟩ (fun hHeld => ?_)
 obtain ⟨w4, hw_⟩ : ∃ W, W = w3.drew := ⟨_, rfl⟩
 have o_ := O3.out.drew
 have k_ : KeepS N w3 w3.drew := KeepS.drew
 rw [← hw_] at o_ k_ hHeld ⊢
 clear hw_
 have O4 := Aside0.mk o_
 have K4 := Aside0.mk (K3.out.trans k_)
 have HR_4 := Aside0.mk (keepF HR_3.out k_)
 clear a2a a2b a2c b2 l0a l0b l0f l0o O3 K3 HR_3
 obtain ⟨a2a, a2b, a2c, b2⟩ := blk3_ (O4.out.blk (i := 2) rfl)
 obtain ⟨l0a, l0b, l0f⟩ := blkL_ (O4.out.blk (i := 0) rfl)
 have l0o := blkLo_ (o := o) (O4.out.blk (i := 0) rfl) (by have := HM.out; omega) (by have := HM.out; omega)
 clear o_ k_
 refine pP 0 (some 21) ?_
 refine pP 2 (some 23) ?_
 refine pP 3 (some 24) ?_
 refine pP 4 (some 25) ?_
 refine tP 1 (some 22) hHeld ?_
 refine tP 5 (some 26) hHeld ?_
 refine pP 6 (some 27) ?_
 refine pP 7 (some 20) ?_
 refine done_ (by kernel_rfl) ?_
 clear hHeld
 go_wp2
 refine sP (n := 12) (S := fun w' => w'.cell? ⟨gb, 0, none⟩ = some (.int .i64 o) ∧ w'.cell? ⟨gb, 1, none⟩ = some (.int .i64 n) ∧ w'.cell? ⟨gb, 2, none⟩ = some (.slice B ups.length c) ∧ w'.cell? ⟨g, 2 + o.toNat, none⟩ = some (.int .i64 (lastOf o L))) (ds := [11]) ⟨a2a, a2b, a2c, ((blk_cell (O4.out.blk (i := 0) rfl) _).trans (logC_get _ _ _ _ (by have := HM.out; omega) (by have := HM.out; omega)))⟩ (fun hHeld => ?_)
 obtain ⟨w5, hw_⟩ : ∃ W, W = w4.drew := ⟨_, rfl⟩
 have o_ := O4.out.drew
 have k_ : KeepS N w4 w4.drew := KeepS.drew
 rw [← hw_] at o_ k_ hHeld ⊢
 clear hw_
 have O5 := Aside0.mk o_
 have K5 := Aside0.mk (K4.out.trans k_)
 have HR_5 := Aside0.mk (keepF HR_4.out k_)
 clear a2a a2b a2c b2 l0a l0b l0f l0o O4 K4 HR_4
 obtain ⟨a2a, a2b, a2c, b2⟩ := blk3_ (O5.out.blk (i := 2) rfl)
 obtain ⟨l0a, l0b, l0f⟩ := blkL_ (O5.out.blk (i := 0) rfl)
 have l0o := blkLo_ (o := o) (O5.out.blk (i := 0) rfl) (by have := HM.out; omega) (by have := HM.out; omega)
 clear o_ k_
 refine pP 0 (some 38) ?_
 refine pP 1 (some 39) ?_
 refine pP 3 (some 41) ?_
 refine pP 4 (some 42) ?_
 refine pP 8 (some 46) ?_
 refine pP 9 (some 47) ?_
 refine tP 2 (some 40) hHeld ?_
 refine pP 5 (some 43) ?_
 refine tP 6 (some 44) hHeld ?_
 refine pP 7 (some 45) ?_
 refine pP 10 (some 48) ?_
 refine lP 11 none (fun K_ hK_ => ?_)
 refine own_store_step rfl rfl (w1 := (World.setCell w5 ⟨g, 2 + o.toNat, none⟩ (.int .i64 n))) (N := N) (l' := [cells g ((logC C L (.slice A0 L.length c0)).setIfInBounds (2 + o.toNat) (.int .i64 n)) 69, nrow k43 43 (.slice A0 L.length c0) L, cells gb #[.int .i64 o, .int .i64 n, .slice B ups.length c] 43]) ?hr ?ho ?hk ?_
 (case hr => first | (go_simp; done) | (go_simp; rfl))
 (case ho => exact (O5.out.set (i := 0) rfl (2 + o.toNat) (.int .i64 n)))
 (case hk => exact (KeepS.setCell (O5.out.far (i := 0) rfl) (.int .i64 n)))
 intro w6 o_ k_
 have O6 : Aside0 (Own N w6 [cells g ((logC C L (.slice A0 L.length c0)).setIfInBounds (2 + o.toNat) (.int .i64 n)) 69, nrow k43 43 (.slice A0 L.length c0) L, cells gb #[.int .i64 o, .int .i64 n, .slice B ups.length c] 43]) := ⟨o_⟩
 have K6 := Aside0.mk (K5.out.trans k_)
 have HR_6 := Aside0.mk (keepF HR_5.out k_)
 clear a2a a2b a2c b2 l0a l0b l0f l0o O5 K5 HR_5
 obtain ⟨a2a, a2b, a2c, b2⟩ := blk3_ (O6.out.blk (i := 2) rfl)
 clear o_ k_
 refine hK_.out _ _ ?_
 clear hK_ K_
 refine done_ (by kernel_rfl) ?_
 clear hHeld
 go_wp2
 refine sP (n := 12) (S := fun w' => w'.cell? ⟨g, 1, none⟩ = some (.slice A0 L.length c0) ∧ w'.cell? ⟨gb, 0, none⟩ = some (.int .i64 o) ∧ w'.cell? ⟨gb, 1, none⟩ = some (.int .i64 n) ∧ w'.cell? ⟨gb, 2, none⟩ = some (.slice B ups.length c)) (ds := [8, 11]) ⟨((blk_cell (O6.out.blk (i := 0) rfl) 1).trans (logC_set1 _ _ _ _ _)), a2a, a2b, a2c⟩ (fun hHeld => ?_)
 obtain ⟨w7, hw_⟩ : ∃ W, W = w6.drew := ⟨_, rfl⟩
 have o_ := O6.out.drew
 have k_ : KeepS N w6 w6.drew := KeepS.drew
 rw [← hw_] at o_ k_ hHeld ⊢
 clear hw_
 have O7 := Aside0.mk o_
 have K7 := Aside0.mk (K6.out.trans k_)
 have HR_7 := Aside0.mk (keepF HR_6.out k_)
 clear a2a a2b a2c b2 O6 K6 HR_6
 obtain ⟨a2a, a2b, a2c, b2⟩ := blk3_ (O7.out.blk (i := 2) rfl)
 clear o_ k_
 refine pP 0 (some 49) ?_
 refine pP 1 (some 50) ?_
 refine pP 2 (some 51) ?_
 refine pP 3 (some 52) ?_
 refine tP 4 (some 53) hHeld ?_
 refine tP 5 (some 54) hHeld ?_
 refine oP 6 (some 55) (fun K_ hK_ => ?_)
 refine hP Tryd.func45 #[.agg #[.int .i64 o, .int .i64 n, .slice B ups.length c]] ?_
 refine (round_Copy.calls o n _ _ ups o n ups _ (Kd.F_now HR_7.out) HC.out HCP.out).mono ?_
 rintro e_ w8 ⟨v_, rfl, hR_, hb_⟩
 obtain ⟨A1, c1, e__⟩ := Kd.R_slice hR_
 subst e__
 refine ⟨_, rfl, ?_⟩
 have o_ := O7.out.pushR hb_ (Nat.le_refl _) hR_
 have k_ := KeepS.of_below (N := N) hb_
 have o2_ := roundOf ((⟨o, n, ups⟩ : Rnd)) (i := 3) o_ rfl
 have O8 : Aside0 (Own N w8 [cells g ((logC C L (.slice A0 L.length c0)).setIfInBounds (2 + o.toNat) (.int .i64 n)) 69, nrow k43 43 (.slice A0 L.length c0) L, cells gb #[.int .i64 o, .int .i64 n, .slice B ups.length c] 43, elt k43 ((⟨o, n, ups⟩ : Rnd)) [.int .i64 ((⟨o, n, ups⟩ : Rnd)).f0, .int .i64 ((⟨o, n, ups⟩ : Rnd)).f1, .slice A1 (ups).length c1]]) := ⟨o2_⟩
 have K8 := Aside0.mk (K7.out.trans k_)
 have HR_8 := Aside0.mk (keepF HR_7.out k_)
 clear a2a a2b a2c b2 O7 K7 HR_7
 obtain ⟨a2a, a2b, a2c, b2⟩ := blk3_ (O8.out.blk (i := 2) rfl)
 clear o_ k_ hb_ hR_ o2_
 clear hHeld
 refine hK_.out _ _ ⟨((blk_cell (O8.out.blk (i := 0) rfl) 1).trans (logC_set1 _ _ _ _ _)), a2a, a2b, a2c⟩ (fun hHeld => ?_)
 clear hK_ K_
 refine nP ?_
 refine oP 7 (some 56) (fun K_ hK_ => ?_)
 refine value_ rfl rfl (w1 := (World.alloc w8 (.cells [.int .i64 ((⟨o, n, ups⟩ : Rnd)).f0, .int .i64 ((⟨o, n, ups⟩ : Rnd)).f1, .slice A1 ups.length c1].toArray 43))) (v := .slice (some ⟨w8.heap.size, 0, none⟩) 1 1) ?hr ?_
 (case hr => first | (go_simp; done) | (go_simp; rfl))
 clear hHeld
 refine hK_.out _ _ ⟨(pw_cell_below ((Below.refl _ _).alloc (Nat.le_refl _) _) ((blk_cell (O8.out.blk (i := 0) rfl) 1).trans (logC_set1 _ _ _ _ _))), (pw_cell_below ((Below.refl _ _).alloc (Nat.le_refl _) _) a2a), (pw_cell_below ((Below.refl _ _).alloc (Nat.le_refl _) _) a2b), (pw_cell_below ((Below.refl _ _).alloc (Nat.le_refl _) _) a2c)⟩ (fun hHeld => ?_)
 clear hK_ K_
 refine nP ?_
 refine lP 8 (some 57) (fun K_ hK_ => ?_)
 refine Own.append_step k43 O8.out (i := 1) (j := 3) rfl rfl (by decide) rfl rfl (.tmp 53) (.tmp 56) 57 (.agg #[.int .i64 0, .int .i64 0, .slice none 0 0]) 40 rfl Tryd.underlying57 infoR rfl (by decide) (by decide) rfl rfl (by have := HL.out; omega) ?_
 intro A2 c2 w9 o_ k_
 have O9 : Aside0 (Own N w9 [cells g ((logC C L (.slice A0 L.length c0)).setIfInBounds (2 + o.toNat) (.int .i64 n)) 69, nrow k43 43 (.slice A2 (L.length + 1) c2) (L ++ [(⟨o, n, ups⟩ : Rnd)]), cells gb #[.int .i64 o, .int .i64 n, .slice B ups.length c] 43, emp]) := ⟨o_⟩
 have K9 := Aside0.mk (K8.out.trans k_)
 have HR_9 := Aside0.mk (keepF HR_8.out k_)
 clear a2a a2b a2c b2 O8 K8 HR_8
 obtain ⟨a2a, a2b, a2c, b2⟩ := blk3_ (O9.out.blk (i := 2) rfl)
 clear o_ k_
 refine hK_.out _ _ ?_
 clear hK_ K_
 refine nP ?_
 refine pP 9 (some 58) ?_
 refine pP 10 (some 59) ?_
 refine lP 11 none (fun K_ hK_ => ?_)
 have q1_ : w9.cell? ⟨g, 1, none⟩ = some (.slice A0 L.length c0) := (blk_cell (O9.out.blk (i := 0) rfl) 1).trans (logC_set1 _ _ _ _ _)
 have q2_ : w9.frozen? ⟨g, 1, none⟩ = false := blk_frozen (O9.out.blk (i := 0) rfl) 1
 refine own_store_step rfl rfl (w1 := (World.setCell w9 ⟨g, 1, none⟩ (.slice A2 (L.length + 1) c2))) (N := N) (l' := [cells g (((logC C L (.slice A0 L.length c0)).setIfInBounds (2 + o.toNat) (.int .i64 n)).setIfInBounds 1 (.slice A2 (L.length + 1) c2)) 69, nrow k43 43 (.slice A2 (L.length + 1) c2) (L ++ [(⟨o, n, ups⟩ : Rnd)]), cells gb #[.int .i64 o, .int .i64 n, .slice B ups.length c] 43, emp]) ?hr ?ho ?hk ?_
 (case hr => first | (go_simp; done) | (go_simp; rfl))
 (case ho => exact (O9.out.set (i := 0) rfl 1 (.slice A2 (L.length + 1) c2)))
 (case hk => exact (KeepS.setCell (O9.out.far (i := 0) rfl) (.slice A2 (L.length + 1) c2)))
 intro w10 o_ k_
 have O10 : Aside0 (Own N w10 [cells g (((logC C L (.slice A0 L.length c0)).setIfInBounds (2 + o.toNat) (.int .i64 n)).setIfInBounds 1 (.slice A2 (L.length + 1) c2)) 69, nrow k43 43 (.slice A2 (L.length + 1) c2) (L ++ [(⟨o, n, ups⟩ : Rnd)]), cells gb #[.int .i64 o, .int .i64 n, .slice B ups.length c] 43, emp]) := ⟨o_⟩
 have K10 := Aside0.mk (K9.out.trans k_)
 have HR_10 := Aside0.mk (keepF HR_9.out k_)
 clear a2a a2b a2c b2 O9 K9 HR_9
 obtain ⟨a2a, a2b, a2c, b2⟩ := blk3_ (O10.out.blk (i := 2) rfl)
 clear o_ k_ q1_ q2_
 refine hK_.out _ _ ?_
 clear hK_ K_
 refine done_ (by kernel_rfl) ?_
 clear hHeld
 go_wp2
 go_ret
 have o9 := O10.out
 rw [show ((logC C L (.slice A0 L.length c0)).setIfInBounds (2 + o.toNat) (.int .i64 n)).setIfInBounds 1 (.slice A2 (L.length + 1) c2) = logC C (L ++ [(⟨o, n, ups⟩ : Rnd)]) (.slice A2 (L.length + 1) c2) from logC_add (r := (⟨o, n, ups⟩ : Rnd)) _ _ HM.out.1 HM.out.2.1] at o9
 exact ⟨rfl, (ObjG.shut (f := logC C (L ++ [(⟨o, n, ups⟩ : Rnd)])) (i := 0) (j := 1) o9 rfl rfl (by decide)).take 1, K10.out⟩
end Go.Proofs.YtjmoncfgoaaekaaDoor.J
namespace Go.Proofs.YtjmoncfgoaaekaaDoor.J
set_option linter.unusedSimpArgs false
set_option linter.unusedVariables false
open Go Go.RowKit Go.Proofs.YtjmoncfgoaaekaaDoorW.PrintWords Go.Proofs.YtjmoncfgoaaekaaDoorW.PrintLast Go.Proofs.YtjmoncfgoaaekaaDoorW.PrintMore Go.Proofs.YtjmoncfgoaaekaaDoor.Q Go.Proofs.YtjmoncfgoaaekaaDoor.Sep Go.Proofs.YtjmoncfgoaaekaaDoor.Pure
attribute [local go_sem] max2_int min2_int max_two min_two max_three min_three max_four min_four
theorem Add_y {N : Nat → Prop} {w : World} {g : Nat} {C : Int} {L : List Rnd} (B : Option Addr) (c : Nat) (o n : Int) (ups : List Upd) (h : Own N w [ObjC g C L]) (hr : Kd.F k114 w N B ups.length ups) (hc : ups.length ≤ c) (hL : L.length ≤ 1000000) (hu : ups.length ≤ 1000000) (hg : Good C L) (he : addE C L ⟨o, n, ups⟩ = 0) :
  Calls Tryd.prog 19 #[.pointer (some ⟨g, 0, none⟩), .agg #[.int .i64 o, .int .i64 n, .slice B ups.length c]] w fun e_ w' => e_ = .returned (.int .i64 0) ∧ Own N w' [ObjC g C (L ++ [⟨o, n, ups⟩])] ∧ KeepS N w w' :=
 let q := addE_0 he
 Add_ok B c o n ups h hr hc hL hu 20 q.1 (by rw [pmay 0, q.1]) hg q.2.1 q.2.2
theorem Add_n {N : Nat → Prop} {w : World} {g : Nat} {C : Int} {L : List Rnd} (B : Option Addr) (c : Nat) (o n : Int) (ups : List Upd) (h : Own N w [ObjC g C L]) (hr : Kd.F k114 w N B ups.length ups) (hc : ups.length ≤ c) (hL : L.length ≤ 1000000) (hu : ups.length ≤ 1000000) (hg : Good C L) (E : Int) (he : addE C L ⟨o, n, ups⟩ = E) (hE : E ≠ 0) :
  Calls Tryd.prog 19 #[.pointer (some ⟨g, 0, none⟩), .agg #[.int .i64 o, .int .i64 n, .slice B ups.length c]] w fun e_ w' => e_ = .returned (.int .i64 E) ∧ Own N w' [ObjC g C L] ∧ KeepS N w w' := by
 subst he
 by_cases h1 : mayR o n ups = 0
 ·have hp : round_May.f 20 o n ups = some 0 := by rw [pmay 0, h1]
  unfold addE at hE ⊢
  simp only [h1, ne_eq, not_true, if_false] at hE ⊢
  by_cases h2 : o > C
  ·rw [if_pos h2]; exact Add_none B c o n ups h hr hc hL hu 20 h1 hp hg h2
  rw [if_neg h2] at hE ⊢
  by_cases h3 : n < lastOf o L + 1
  ·rw [if_pos h3]; exact Add_twice B c o n ups h hr hc hL hu 20 h1 hp hg (by omega) h3
  rw [if_neg h3] at hE ⊢
  by_cases h4 : n > lastOf o L + 1
  ·rw [if_pos h4]; exact Add_order B c o n ups h hr hc hL hu 20 h1 hp hg (by omega) h4
  rw [if_neg h4] at hE
  exact absurd rfl hE
 ·have e : addE C L ⟨o, n, ups⟩ = mayR o n ups := by unfold addE; rw [if_pos h1]
  rw [e]
  exact Add_may B c o n ups h hr hc hL hu 20 _ (pmay 0 _ _ _) (by rw [bne_iff_ne]; exact h1)
theorem addE_neg {C : Int} {L : List Rnd} {r : Rnd} (h : addE C L r ≠ 0) : addL C L r = L := by unfold addL; rw [if_neg h]
theorem addE_pos {C : Int} {L : List Rnd} {r : Rnd} (h : addE C L r = 0) : addL C L r = L ++ [r] := by unfold addL; rw [if_pos h]
def upTo (L : List Rnd) (x : Int) : List Rnd := L.take x.toNat
theorem upTo_all (L : List Rnd) : upTo L L.length = L := by unfold upTo; rw [Int.toNat_natCast, List.take_length]
theorem upTo_len (L : List Rnd) (x : Int) : (upTo L x).length ≤ L.length := by unfold upTo; rw [List.length_take]; exact Nat.min_le_right _ _
theorem upTo_snoc (L : List Rnd) (x : Int) (h0 : 0 ≤ x) (h1 : x < L.length) : upTo L (x + 1) = upTo L x ++ [rd_T43 L x] := take_snoc L _ x h0 h1
def AllI (N : Nat → Prop) (w : World) (g : Nat) (C : Int) (L : List Rnd) (A0 : Option Addr) (c0 : Nat) (v i : Value) (wr : World) : Prop := ∃ (x : Int) (A2 : Option Addr) (c2 : Nat), 0 ≤ x ∧ x ≤ (L.length : Int) ∧ i = .int .i64 x ∧ v = .slice A2 (upTo L x).length c2 ∧ Aside0 (Own N wr [cells g (logC C L (.slice A0 L.length c0)) 69, emp, nrow k43 43 (.slice A2 (upTo L x).length c2) (upTo L x)]) ∧ Aside0 (KeepS N w wr)
set_option maxHeartbeats 16000000 in
set_option maxRecDepth 100000 in
theorem All {N : Nat → Prop} {w : World} {g : Nat} {C : Int} {L : List Rnd} (h : Own N w [ObjC g C L]) (hL : L.length ≤ 1000000) (HU : Aside0 (∀ x : Int, 0 ≤ x → x < L.length → (rd_T43 L x).f2.length ≤ 1000000)) :
  Calls Tryd.prog 27 #[.pointer (some ⟨g, 0, none⟩)] w fun e_ w' => ∃ A1 c1, e_ = .returned (.slice A1 L.length c1) ∧ Own N w' [ObjC g C L, nrow k43 43 (.slice A1 L.length c1) L] ∧ KeepS N w w' := by
 obtain ⟨A0, c0, h2⟩ := ObjG.open_ h (i := 0) rfl
 obtain ⟨N1, h3, hn1, hF, hback⟩ := h2.hide (i := 1) rfl
 have HRL0 : Aside0 (Kd.F k43 w N1 A0 L.length L) := ⟨Kd.N_F hF⟩
 have HBACK := Aside0.mk hback
 have HL := Aside0.mk hL
 have O0 : Aside0 (Own N1 w [cells g (logC C L (.slice A0 L.length c0)) 69, emp, nrow k43 43 (.slice none 0 0) []]) := ⟨h3.push_emp (nrow k43 43 (.slice none 0 0) []) (fun w => Kd.N_nil _ _ _ _ _)⟩
 have K0 : Aside0 (KeepS N1 w w) := ⟨KeepS.refl _ _⟩
 obtain ⟨l0a, l0b, l0f⟩ := blkL_ (O0.out.blk (i := 0) rfl)
 clear h h2 h3 hn1 hF hback
 go_enter Tryd.func27, Tryd.ntmps27
 go_wp2
 go_loopw [3, 11] (fun v i wr => AllI N1 w g C L A0 c0 v i wr) (fun _ i _ => L.length - (intOf i).toNat)
 case atStart => exact ⟨0, none, 0, by omega, by omega, rfl, rfl, O0, K0⟩
 case round =>
  clear l0a l0b l0f hL
  obtain ⟨x, A2, c2, hx0, hx1, rfl, rfl, OA, KA⟩ := hrel
  have hF2 := keepF HRL0.out KA.out
  by_cases hlt : x < (L.length : Int)
  ·obtain ⟨ad, A3, c3, e3, x0, x1, x2, hl3, hF3⟩ := at_F hF2 x hx0 hlt
   cases e3
   have HC3 := Aside0.mk hl3
   have hLx := HL.out
   have hs2 : wrap64 (x + 1) = x + 1 := by unfold wrap64; omega
   have hp := eq_true hx0
   have hq := eq_true hlt
   have hd : decide (x < (L.length : Int)) = true := decide_eq_true hlt
   have HX := Aside0.mk (And.intro hx0 hlt)
   have HF3 := Aside0.mk hF3
   clear hF3 hF2 hl3 hLx
   have O1 : Aside0 (Own N1 wr [cells g (logC C L (.slice (some ad) L.length c0)) 69, emp, nrow k43 43 (.slice A2 (upTo L x).length c2) (upTo L x)]) := ⟨OA.out⟩
   have K1 : Aside0 (KeepS N1 w wr) := ⟨KA.out⟩
   have HRI_1 : Aside0 (Kd.F k114 wr N1 A3 (rd_T43 L x).f2.length (rd_T43 L x).f2) := ⟨HF3.out⟩
   obtain ⟨l0a, l0b, l0f⟩ := blkL_ (O1.out.blk (i := 0) rfl)
   clear OA KA HF3
   have HS : Aside0 (upTo L (x + 1) = (upTo L x) ++ [(rd_T43 L x)]) := ⟨upTo_snoc L x hx0 hlt⟩
   have HFL : Aside0 ((upTo L x).length ≤ 1000000) := ⟨Nat.le_trans (upTo_len _ _) HL.out⟩
   have HCP : Aside0 ((rd_T43 L x).f2.length ≤ 1000000) := ⟨HU.out x hx0 hlt⟩
   go_wp2_with (first | ((with_reducible refine gate_dst (N := 5) rfl ?_); refine bP 5 #[.int .i64 0, .int .i64 0, .slice none 0 0] 43 O1.out ?_; intro g2 w2 o_ k_; have O2 : Aside0 (Own N1 w2 [cells g (logC C L (.slice (some ad) L.length c0)) 69, emp, nrow k43 43 (.slice A2 (upTo L x).length c2) (upTo L x), cells g2 #[.int .i64 0, .int .i64 0, .slice none 0 0] 43]) := ⟨o_⟩; have K2 := Aside0.mk (K1.out.trans k_); have HRI_2 := Aside0.mk (keepF HRI_1.out k_); clear l0a l0b l0f O1 K1 HRI_1; obtain ⟨a3a, a3b, a3c, b3⟩ := blk3_ (O2.out.blk (i := 3) rfl); obtain ⟨l0a, l0b, l0f⟩ := blkL_ (O2.out.blk (i := 0) rfl); clear o_ k_) | ((with_reducible refine gate_store (t := 43) (p := 5) rfl ?_); refine wP (World.setCell (World.setCell (World.setCell w2 ⟨g2, 0, none⟩ (.int .i64 (rd_T43 L x).f0)) ⟨g2, 1, none⟩ (.int .i64 (rd_T43 L x).f1)) ⟨g2, 2, none⟩ (.slice A3 (rd_T43 L x).f2.length c3)) [cells g (logC C L (.slice (some ad) L.length c0)) 69, emp, nrow k43 43 (.slice A2 (upTo L x).length c2) (upTo L x), cells g2 #[.int .i64 (rd_T43 L x).f0, .int .i64 (rd_T43 L x).f1, .slice A3 (rd_T43 L x).f2.length c3] 43] (((O2.out.set (i := 3) rfl 0 (.int .i64 (rd_T43 L x).f0)).set (i := 3) rfl 1 (.int .i64 (rd_T43 L x).f1)).set (i := 3) rfl 2 (.slice A3 (rd_T43 L x).f2.length c3)) (((KeepS.setCell (O2.out.far (i := 3) rfl) (.int .i64 (rd_T43 L x).f0)).trans (KeepS.setCell (O2.out.far (i := 3) rfl) (.int .i64 (rd_T43 L x).f1))).trans (KeepS.setCell (O2.out.far (i := 3) rfl) (.slice A3 (rd_T43 L x).f2.length c3))) ?_; intro w3 o_ k_; have O3 := Aside0.mk o_; have K3 := Aside0.mk (K2.out.trans k_); have HRI_3 := Aside0.mk (keepF HRI_2.out k_); clear a3a a3b a3c b3 l0a l0b l0f O2 K2 HRI_2; obtain ⟨a3a, a3b, a3c, b3⟩ := blk3_ (O3.out.blk (i := 3) rfl); obtain ⟨l0a, l0b, l0f⟩ := blkL_ (O3.out.blk (i := 0) rfl); clear o_ k_) | ((with_reducible refine gate_callee (f := 45) rfl ?_); refine gP (some 17) Tryd.func45 #[.agg #[.int .i64 (rd_T43 L x).f0, .int .i64 (rd_T43 L x).f1, .slice A3 (rd_T43 L x).f2.length c3]] ?_; refine (round_Copy.calls (rd_T43 L x).f0 (rd_T43 L x).f1 _ _ (rd_T43 L x).f2 (rd_T43 L x).f0 (rd_T43 L x).f1 (rd_T43 L x).f2 _ (Kd.F_now HRI_3.out) HC3.out (copy_ok _ _ _ HCP.out)).mono ?_; rintro e_ w4 ⟨v_, rfl, hR_, hb_⟩; obtain ⟨A4, c4, e__⟩ := Kd.R_slice hR_; subst e__; refine ⟨_, rfl, ?_⟩; have o_ := O3.out.pushR hb_ (Nat.le_refl _) hR_; have k_ := KeepS.of_below (N := N1) hb_; have O4 : Aside0 (Own N1 w4 [cells g (logC C L (.slice (some ad) L.length c0)) 69, emp, nrow k43 43 (.slice A2 (upTo L x).length c2) (upTo L x), cells g2 #[.int .i64 (rd_T43 L x).f0, .int .i64 (rd_T43 L x).f1, .slice A3 (rd_T43 L x).f2.length c3] 43, nrow k114 114 (.slice A4 ((rd_T43 L x).f2).length c4) ((rd_T43 L x).f2)]) := ⟨o_⟩; have K4 := Aside0.mk (K3.out.trans k_); have HRI_4 := Aside0.mk (keepF HRI_3.out k_); clear a3a a3b a3c b3 l0a l0b l0f O3 K3 HRI_3; obtain ⟨a3a, a3b, a3c, b3⟩ := blk3_ (O4.out.blk (i := 3) rfl); obtain ⟨l0a, l0b, l0f⟩ := blkL_ (O4.out.blk (i := 0) rfl); clear o_ k_ hb_ hR_; have O5 : Aside0 (Own N1 w4 [cells g (logC C L (.slice (some ad) L.length c0)) 69, emp, nrow k43 43 (.slice A2 (upTo L x).length c2) (upTo L x), cells g2 #[.int .i64 (rd_T43 L x).f0, .int .i64 (rd_T43 L x).f1, .slice A3 (rd_T43 L x).f2.length c3] 43, elt k43 (rd_T43 L x) [.int .i64 (rd_T43 L x).f0, .int .i64 (rd_T43 L x).f1, .slice A4 (rd_T43 L x).f2.length c4]]) := ⟨roundOf (rd_T43 L x) (i := 4) O4.out rfl⟩; clear O4) | ((with_reducible refine gate_builtin (b := .append) (xs := #[.tmp 15, .tmp 18]) rfl ?_); at_builtin; refine Own.append k43 O5.out (i := 2) (j := 4) rfl rfl (by decide) rfl (.tmp 15) (.tmp 18) 57 (.agg #[.int .i64 0, .int .i64 0, .slice none 0 0]) 40 rfl Tryd.underlying57 infoR rfl (by decide) (by decide) rfl rfl (by have := HFL.out; omega) ?_; intro A5 c5 w6 o_ k_; have O6 : Aside0 (Own N1 w6 [cells g (logC C L (.slice (some ad) L.length c0)) 69, emp, nrow k43 43 (.slice A5 (((upTo L x)).length + 1) c5) (((upTo L x)) ++ [(rd_T43 L x)]), cells g2 #[.int .i64 (rd_T43 L x).f0, .int .i64 (rd_T43 L x).f1, .slice A3 (rd_T43 L x).f2.length c3] 43, emp]) := ⟨o_⟩; have K6 := Aside0.mk (K4.out.trans k_); have HRI_6 := Aside0.mk (keepF HRI_4.out k_); clear a3a a3b a3c b3 l0a l0b l0f O5 K4 HRI_4; obtain ⟨a3a, a3b, a3c, b3⟩ := blk3_ (O6.out.blk (i := 3) rfl); obtain ⟨l0a, l0b, l0f⟩ := blkL_ (O6.out.blk (i := 0) rfl); clear o_ k_))
   go_roundw
   case rel => exact ⟨x + 1, A5, c5, by have := HX.out; omega, by have := HX.out; omega, int_eq (by unfold wrap64; have := HX.out; have := HL.out; omega), slice_len (by rw [HS.out]; simp), ⟨by rw [HS.out]; simp only [List.length_append, List.length_singleton]; exact O6.out.take 3⟩, K6⟩
   case measure => have := HX.out; simp [intOf]; omega
  ·have hxe : x = (L.length : Int) := by omega
   subst hxe
   have hd : decide ((L.length : Int) < (L.length : Int)) = false := decide_eq_false (Int.lt_irrefl _)
   have HT : Aside0 (upTo L (L.length : Int) = L) := ⟨upTo_all L⟩
   clear hlt hx0 hx1 hF2
   go_wp2
   go_ret
   obtain ⟨hb, hk⟩ := HBACK.out _ _ (by simp) KA.out OA.out
   refine ⟨A2, c2, by first | rfl | (rw [HT.out]; done) | (simp only [HT.out]; done) | simp [HT.out], ?_, hk⟩
   rw [HT.out] at hb
   exact (ObjG.shut (f := logC C L) (i := 0) (j := 1) hb rfl rfl (by decide)).pick2 (a := 0) (b := 2) rfl rfl (by decide)
set_option maxHeartbeats 16000000 in
set_option maxRecDepth 100000 in
theorem At_high {N : Nat → Prop} {w : World} {g : Nat} {C : Int} {L : List Rnd} (x : Int) (h : Own N w [ObjC g C L]) (hL : L.length ≤ 1000000) (hx0 : 0 ≤ x) (hx : (L.length : Int) ≤ x) :
  Calls Tryd.prog 36 #[.pointer (some ⟨g, 0, none⟩), .int .i64 x] w fun e_ w' => e_ = .returned (.tuple #[.agg #[.int .i64 0, .int .i64 0, .slice none 0 0], .bool false]) ∧ Own N w' [ObjC g C L] ∧ KeepS N w w' := by
 obtain ⟨A0, c0, h2⟩ := ObjG.open_ h (i := 0) rfl
 have O0 : Aside0 (Own N w [cells g (logC C L (.slice A0 L.length c0)) 69, nrow k43 43 (.slice A0 L.length c0) L]) := ⟨h2⟩
 have K0 : Aside0 (KeepS N w w) := ⟨KeepS.refl _ _⟩
 obtain ⟨l0a, l0b, l0f⟩ := blkL_ (O0.out.blk (i := 0) rfl)
 have hd : decide (x < 0) = false := decide_eq_false (by omega)
 have hd2 : decide (x ≥ (L.length : Int)) = true := decide_eq_true hx
 have hd3 : decide ((L.length : Int) ≤ x) = true := decide_eq_true hx
 clear h h2 hx hL hx0
 go_enter Tryd.func36, Tryd.ntmps36
 go_wp2_with (first | ((with_reducible refine gate_dst (N := 4) rfl ?_); refine bP 4 #[.int .i64 0, .int .i64 0, .slice none 0 0] 43 O0.out ?_; intro g1 w1 o_ k_; have O1 : Aside0 (Own N w1 [cells g (logC C L (.slice A0 L.length c0)) 69, nrow k43 43 (.slice A0 L.length c0) L, cells g1 #[.int .i64 0, .int .i64 0, .slice none 0 0] 43]) := ⟨o_⟩; have K1 := Aside0.mk (K0.out.trans k_); clear l0a l0b l0f O0 K0; obtain ⟨a2a, a2b, a2c, b2⟩ := blk3_ (O1.out.blk (i := 2) rfl); obtain ⟨l0a, l0b, l0f⟩ := blkL_ (O1.out.blk (i := 0) rfl); clear o_ k_) | ((with_reducible refine gate_store (t := 43) (p := 4) rfl ?_); refine wP (World.setCell (World.setCell (World.setCell w1 ⟨g1, 0, none⟩ (.int .i64 0)) ⟨g1, 1, none⟩ (.int .i64 0)) ⟨g1, 2, none⟩ (.slice none 0 0)) [cells g (logC C L (.slice A0 L.length c0)) 69, nrow k43 43 (.slice A0 L.length c0) L, cells g1 #[.int .i64 0, .int .i64 0, .slice none 0 0] 43] (((O1.out.set (i := 2) rfl 0 (.int .i64 0)).set (i := 2) rfl 1 (.int .i64 0)).set (i := 2) rfl 2 (.slice none 0 0)) (((KeepS.setCell (O1.out.far (i := 2) rfl) (.int .i64 0)).trans (KeepS.setCell (O1.out.far (i := 2) rfl) (.int .i64 0))).trans (KeepS.setCell (O1.out.far (i := 2) rfl) (.slice none 0 0))) ?_; intro w2 o_ k_; have O2 := Aside0.mk o_; have K2 := Aside0.mk (K1.out.trans k_); clear a2a a2b a2c b2 l0a l0b l0f O1 K1; obtain ⟨a2a, a2b, a2c, b2⟩ := blk3_ (O2.out.blk (i := 2) rfl); obtain ⟨l0a, l0b, l0f⟩ := blkL_ (O2.out.blk (i := 0) rfl); clear o_ k_))
 refine bodyPost_ret (results_ct rfl _ _ g1 43 #[.int .i64 0, .int .i64 0, .slice none 0 0] (0, 0) _ rfl (O2.out.blk (i := 2) rfl) Tryd.underlying43 rfl (by kernel_rfl)) rfl ?_
 exact ⟨rfl, (ObjG.shut (i := 0) (j := 1) O2.out rfl rfl (by decide)).take 1, K2.out⟩
set_option maxHeartbeats 16000000 in
set_option maxRecDepth 100000 in
theorem At_yes {N : Nat → Prop} {w : World} {g : Nat} {C : Int} {L : List Rnd} (x : Int) (h : Own N w [ObjC g C L]) (hL : L.length ≤ 1000000) (HU : Aside0 (∀ x : Int, 0 ≤ x → x < L.length → (rd_T43 L x).f2.length ≤ 1000000)) (hx0 : 0 ≤ x) (hx : x < L.length) :
  Calls Tryd.prog 36 #[.pointer (some ⟨g, 0, none⟩), .int .i64 x] w fun e_ w' => ∃ A1 c1, e_ = .returned (.tuple #[.agg #[.int .i64 (rd_T43 L x).f0, .int .i64 (rd_T43 L x).f1, .slice A1 (rd_T43 L x).f2.length c1], .bool true]) ∧ Own N w' [ObjC g C L, nrow k114 114 (.slice A1 (rd_T43 L x).f2.length c1) (rd_T43 L x).f2] ∧ KeepS N w w' := by
 obtain ⟨A0, c0, h2⟩ := ObjG.open_ h (i := 0) rfl
 obtain ⟨N1, h3, hn1, hF, hback⟩ := h2.hide (i := 1) rfl
 have hF2 : Kd.F k43 w N1 A0 L.length L := Kd.N_F hF
 have HBACK := Aside0.mk hback
 have HCP : Aside0 ((rd_T43 L x).f2.length ≤ 1000000) := ⟨HU.out x hx0 hx⟩
 obtain ⟨ad, A3, c3, e3, x0, x1, x2, hl3, hF3⟩ := at_F hF2 x hx0 hx
 cases e3
 have HC3 := Aside0.mk hl3
 have HF3 := Aside0.mk hF3
 have O0 : Aside0 (Own N1 w [cells g (logC C L (.slice (some ad) L.length c0)) 69, emp]) := ⟨h3⟩
 have K0 : Aside0 (KeepS N1 w w) := ⟨KeepS.refl _ _⟩
 obtain ⟨l0a, l0b, l0f⟩ := blkL_ (O0.out.blk (i := 0) rfl)
 have HRI_0 : Aside0 (Kd.F k114 w N1 A3 (rd_T43 L x).f2.length (rd_T43 L x).f2) := HF3
 have hd : decide (x < 0) = false := decide_eq_false (by omega)
 have hd2 : decide (x ≥ (L.length : Int)) = false := decide_eq_false (by omega)
 have hd3 : decide ((L.length : Int) ≤ x) = false := decide_eq_false (by omega)
 have hd4 : decide (x < (L.length : Int)) = true := decide_eq_true hx
 have hp := eq_true hx0
 have hq := eq_true hx
 have X0 := Aside0.mk (And.intro x0 (And.intro x1 x2))
 clear h h2 h3 hn1 hF hF2 hF3 HF3 hback hl3 hL hx hx0 x0 x1 x2
 go_enter Tryd.func36, Tryd.ntmps36
 go_wp2_with (first | ((with_reducible refine gate_dst (N := 4) rfl ?_); refine own_boxB rfl (D := 4) rfl (cs := #[.int .i64 0, .int .i64 0, .slice none 0 0]) (t := 43) ?hr O0.out ?_; (case hr => first | (go_simp; done) | (go_simp; rfl)); intro g1 w1 o_ k_ hb_; have O1 : Aside0 (Own N1 w1 [cells g (logC C L (.slice (some ad) L.length c0)) 69, emp, cells g1 #[.int .i64 0, .int .i64 0, .slice none 0 0] 43]) := ⟨o_⟩; have K1 := Aside0.mk (K0.out.trans k_); have HRI_1 := Aside0.mk (keepF HRI_0.out k_); clear l0a l0b l0f O0 K0 HRI_0; obtain ⟨a2a, a2b, a2c, b2⟩ := blk3_ (O1.out.blk (i := 2) rfl); obtain ⟨l0a, l0b, l0f⟩ := blkL_ (O1.out.blk (i := 0) rfl); have hkk_ := hb_; clear o_ k_ hb_; have y0 := pw_cell_below hkk_ X0.out.1; have y1 := pw_cell_below hkk_ X0.out.2.1; have y2 := pw_cell_below hkk_ X0.out.2.2; clear hkk_) | ((with_reducible refine gate_callee (f := 45) rfl ?_); refine gP (some 25) Tryd.func45 #[.agg #[.int .i64 (rd_T43 L x).f0, .int .i64 (rd_T43 L x).f1, .slice A3 (rd_T43 L x).f2.length c3]] ?_; refine (round_Copy.calls (rd_T43 L x).f0 (rd_T43 L x).f1 _ _ (rd_T43 L x).f2 (rd_T43 L x).f0 (rd_T43 L x).f1 (rd_T43 L x).f2 _ (Kd.F_now HRI_1.out) HC3.out (copy_ok _ _ _ HCP.out)).mono ?_; rintro e_ w2 ⟨v_, rfl, hR_, hb_⟩; obtain ⟨A4, c4, e__⟩ := Kd.R_slice hR_; subst e__; refine ⟨_, rfl, ?_⟩; have o_ := O1.out.pushR hb_ (Nat.le_refl _) hR_; have k_ := KeepS.of_below (N := N1) hb_; have O2 : Aside0 (Own N1 w2 [cells g (logC C L (.slice (some ad) L.length c0)) 69, emp, cells g1 #[.int .i64 0, .int .i64 0, .slice none 0 0] 43, nrow k114 114 (.slice A4 ((rd_T43 L x).f2).length c4) ((rd_T43 L x).f2)]) := ⟨o_⟩; have K2 := Aside0.mk (K1.out.trans k_); have HRI_2 := Aside0.mk (keepF HRI_1.out k_); clear a2a a2b a2c b2 l0a l0b l0f O1 K1 HRI_1; obtain ⟨a2a, a2b, a2c, b2⟩ := blk3_ (O2.out.blk (i := 2) rfl); obtain ⟨l0a, l0b, l0f⟩ := blkL_ (O2.out.blk (i := 0) rfl); clear o_ k_ hb_ hR_) | ((with_reducible refine gate_store (t := 43) (p := 4) rfl ?_); refine wP (World.setCell (World.setCell (World.setCell w2 ⟨g1, 0, none⟩ (.int .i64 (rd_T43 L x).f0)) ⟨g1, 1, none⟩ (.int .i64 (rd_T43 L x).f1)) ⟨g1, 2, none⟩ (.slice A4 (rd_T43 L x).f2.length c4)) [cells g (logC C L (.slice (some ad) L.length c0)) 69, emp, cells g1 #[.int .i64 (rd_T43 L x).f0, .int .i64 (rd_T43 L x).f1, .slice A4 (rd_T43 L x).f2.length c4] 43, nrow k114 114 (.slice A4 ((rd_T43 L x).f2).length c4) ((rd_T43 L x).f2)] (((O2.out.set (i := 2) rfl 0 (.int .i64 (rd_T43 L x).f0)).set (i := 2) rfl 1 (.int .i64 (rd_T43 L x).f1)).set (i := 2) rfl 2 (.slice A4 (rd_T43 L x).f2.length c4)) (((KeepS.setCell (O2.out.far (i := 2) rfl) (.int .i64 (rd_T43 L x).f0)).trans (KeepS.setCell (O2.out.far (i := 2) rfl) (.int .i64 (rd_T43 L x).f1))).trans (KeepS.setCell (O2.out.far (i := 2) rfl) (.slice A4 (rd_T43 L x).f2.length c4))) ?_; intro w3 o_ k_; have O3 := Aside0.mk o_; have K3 := Aside0.mk (K2.out.trans k_); have HRI_3 := Aside0.mk (keepF HRI_2.out k_); clear a2a a2b a2c b2 l0a l0b l0f O2 K2 HRI_2; obtain ⟨a2a, a2b, a2c, b2⟩ := blk3_ (O3.out.blk (i := 2) rfl); obtain ⟨l0a, l0b, l0f⟩ := blkL_ (O3.out.blk (i := 0) rfl); clear o_ k_))
 refine bodyPost_ret (results_ct rfl _ _ g1 43 #[.int .i64 (rd_T43 L x).f0, .int .i64 (rd_T43 L x).f1, .slice A4 (rd_T43 L x).f2.length c4] (0, 0) _ rfl (O3.out.blk (i := 2) rfl) Tryd.underlying43 rfl (by kernel_rfl)) rfl ?_
 obtain ⟨hb, hk⟩ := HBACK.out _ _ (by simp) K3.out O3.out
 exact ⟨A4, c4, rfl, (ObjG.shut (f := logC C L) (i := 0) (j := 1) hb rfl rfl (by decide)).pick2 (a := 0) (b := 3) rfl rfl (by decide), hk⟩
def awU : List Upd := [⟨⟨#[107]⟩, 5, 0, ⟨#[]⟩⟩]
theorem awRep (w : World) : Reps (Kd.FK k114 w (fun _ => False)) 4 awU [.string ⟨#[107]⟩, .int .i64 5, .int .i64 0, .string ⟨#[]⟩] :=
 (Reps.none _ 4).snoc (flatU.FK (k114_mk w ⟨⟨#[107]⟩, 5, 0, ⟨#[]⟩⟩)) rfl
end Go.Proofs.YtjmoncfgoaaekaaDoor.J
