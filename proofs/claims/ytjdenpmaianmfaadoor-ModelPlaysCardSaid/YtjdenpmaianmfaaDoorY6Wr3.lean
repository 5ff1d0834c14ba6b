/- What a Writer's fields are, plainly, and what update.Write puts: a walk through update.Write, under the condition that the table 'bits' of package prefix is laid. -/
import Derived.Test.YtjdenpmaianmfaaDoorY6Spell
import Derived.Lib.FrozenHead
import Derived.Lib.UnsafeStr
import Derived.Test.YtjdenpmaianmfaaDoorY6Pre0
namespace Go.Proofs.YtjdenpmaianmfaaDoor.Wr
set_option linter.unusedSimpArgs false
set_option linter.unusedVariables false
open Go RowKit YtjdenpmaianmfaaDoorW.PrintWords YtjdenpmaianmfaaDoorW.PrintLast YtjdenpmaianmfaaDoorW.PrintMore Q
attribute [local go_sem] max2_int min2_int max_two min_two max_three min_three max_four min_four
theorem run_put {P : Program} (w : World) (base : Nat) (t u ty e : TypeId) (i : TypeInfo) (ht : P.underlying t = some (.slice e)) (hu : P.underlying u = some .string) (hi : P.info? e = some i) (hz : i.zero = some (.int .u8 0))
  (hsize : i.size = 1) (hby : i.bytes = 1) (v : Value) (n : Nat) (xs : List Value) (hown : w.ownsRowF base e 1 v n xs) (s : ByteArray)
  (h63 : n + s.size ≤ maxLen) (hbytes : n + s.size ≤ 140737488355328) (hbase : base ≤ w.heap.size) :
  ∃ v' w', (Builtin.append_ #[t, u] ty #[v, s]).run P w = .ok v' w' ∧ w'.ownsRowF base e 1 v' (n + s.size) (xs ++ Lib.strCells s) ∧ w.grownBy w' v.ownBlock ∧
   (v'.ownBlock = v.ownBlock ∨ ∃ k, v'.ownBlock = some k ∧ w.heap.size ≤ k) := by
 rcases hown.2 with ⟨rfl, rfl⟩ | ⟨g, cap, cur, fz, rfl, hbg, hg, hfz, hnc, hcm, hcs, htake⟩
 ·obtain ⟨v', w', h1, h2, h3, _⟩ := Lib.run_append_own_string (P := P) w w.heap.size t u ty e i ht hu hi hz hsize hby (.slice none 0 0) 0 xs ⟨hown.1, .inl ⟨rfl, rfl⟩⟩ s h63 hbytes (Nat.le_refl _)
  refine ⟨v', w', h1, ⟨h2.1, ?_⟩, h3, ?_⟩
  ·rcases h2.2 with h | ⟨g, cap, cur, hv, hb, hg, rest⟩
   ·exact .inl h
   ·exact .inr ⟨g, cap, cur, (0, 0), hv, Nat.le_trans hbase hb, hg, Nat.zero_le _, rest⟩
  ·rcases h2.2 with ⟨rfl, _⟩ | ⟨g, cap, cur, rfl, hb, _⟩
   ·exact .inl rfl
   ·exact .inr ⟨g, rfl, hb⟩
 ·have hsmall : n + s.size ≤ 9223372036854775807 := by simp only [maxLen] at h63; omega
  have hxl : xs.length = n := by simpa using hown.1
  have hlen : (xs ++ Lib.strCells s).length = (n + s.size) * 1 := by rw [List.length_append, hxl, Lib.strCells_length, Nat.mul_one]
  by_cases hroom : n + s.size ≤ cap
  ·have hcs' : cur.size = cap := by simpa using hcs
   have hr := Lib.run_append_room_stringF (P := P) w t u ty e i ht hu hi hsize g n cap cur fz hg (by simpa using hfz) s hroom (by omega)
   refine ⟨_, _, hr, ⟨hlen, .inr ⟨g, cap, _, fz, rfl, hbg, setRow_heap w g cur _ e _ hg, by omega, hroom, hcm, ?_, ?_⟩⟩, ⟨rfl, rfl, rfl, by simp, fun k _ hk => setRow_other w g k _ (fun e => hk (by simp [Value.ownBlock, e]))⟩, .inl rfl⟩
   ·simp only [List.size_toArray, List.length_append, List.length_take, List.length_drop, Array.length_toList, Lib.strCells_length]
    omega
   ·have ht' : cur.toList.take n = xs := by simpa using htake
    rw [ht', ← hlen]
    exact List.take_left
  ·have holds : ∀ j u, xs[j]? = some u → w.cell? ((⟨g, 0, none⟩ : Addr).add j) = some u := hown.cells (g := g) rfl
   have hr := Lib.run_append_grow_string (P := P) w t u ty e i (.int .u8 0) ht hu hi hz ⟨g, 0, none⟩ n cap xs (by rw [hsize]; simpa using hxl) holds s (by omega) (by omega) (by rw [hby]; exact growslice_fits (by omega) (by omega))
   have hge := grownCap_ge w (n + s.size) cap e
   have hcm2 : grownCap w (n + s.size) cap e ≤ maxLen := grownCap_le_maxLen w (n + s.size) cap e h63
   refine ⟨_, _, hr, ⟨hlen, .inr ⟨w.heap.size, _, _, (0, 0), rfl, hbase, heap_alloc_new w.drew _, Nat.zero_le _, hge, hcm2, ?_, ?_⟩⟩, ⟨rfl, rfl, rfl, by simp, fun k hk _ => Lib.alloc_old w.drew _ k hk⟩, .inr ⟨_, rfl, Nat.le_refl _⟩⟩
   ·have hz1 : (Value.int IntKind.u8 0).cells.size = 1 := rfl
    simp only [Array.size_append, List.size_toArray, size_zeroCells, hz1, hxl, Lib.strCells_length]
    omega
   ·simp only [Array.toList_append, List.append_assoc]
    rw [← List.append_assoc, ← hlen]
    exact List.take_left
theorem wp_put {P : Program} (w : World) {ops : Array Oper} {rest : List Oper} {o : Oper} {a : Act} {Q : Exit → Act → World → Prop} (hgd : o.guard = none) (sl x : Operand) (t u : TypeId)
  (ho : o.op = .call { callee := .builtin .append, args := #[sl, x], argTypes := #[t, u] })
  (base : Nat) (e : TypeId) (i : TypeInfo) (ht : P.underlying t = some (.slice e)) (hu : P.underlying u = some .string) (hi : P.info? e = some i) (hz : i.zero = some (.int .u8 0))
  (hsize : i.size = 1) (hby : i.bytes = 1)
  (v : Value) (n : Nat) (xs : List Value) (hs : a.eval sl = v) (hown : w.ownsRowF base e 1 v n xs) (s : ByteArray) (hx : a.eval x = .string s)
  (h63 : n + s.size ≤ maxLen) (hbytes : n + s.size ≤ 140737488355328) (hbase : base ≤ w.heap.size)
  (h : ∀ v' w', w'.ownsRowF base e 1 v' (n + s.size) (xs ++ Lib.strCells s) → w.grownBy w' v.ownBlock → (v'.ownBlock = v.ownBlock ∨ ∃ k, v'.ownBlock = some k ∧ w.heap.size ≤ k) → wpList P ops Q rest (a.put o.dst v') w') : wpList P ops Q (o :: rest) a w := by
 refine wpList_plain hgd fun K hK => ?_
 obtain ⟨v', w', hr, h2, h3, h4⟩ := run_put (P := P) w base t u o.type e i ht hu hi hz hsize hby v n xs hown s h63 hbytes hbase
 unfold Oper.wp execOp
 simp only [ho, resolve, invoke, builtin, Sem.run_bind, Sem.run_pure, Result.andThen_ok, List.map_toArray, List.map_cons, List.map_nil, hs, hx, hr]
 exact hK _ _ (h v' w' h2 h3 h4)
structure At (B b : Nat) (p : Value) (wrong : Bool) (v : Value) (bs : List Value) (w : World) : Prop where
 ge : B ≤ b
 blk : w.heap[b]? = some (.cells #[p, v, wrong] 158 (0, 0))
 own : w.ownsRowF B 5 1 v bs.length bs
 ptr : p = .pointer none ∨ p = .pointer (some ⟨b, 0, none⟩)
theorem At.lt {B b : Nat} {p v : Value} {wrong : Bool} {bs : List Value} {w : World} (h : At B b p wrong v bs w) : b < w.heap.size := blk_lt h.blk
theorem own_ne {w : World} {B : Nat} {v : Value} {n : Nat} {xs : List Value} {b : Nat} {cs : Array Value} {fr : Nat × Nat} {T : TypeId} (hown : w.ownsRowF B 5 1 v n xs) (hb : w.heap[b]? = some (.cells cs T fr)) (hT : T ≠ 5) : v.ownBlock ≠ some b := by
 rcases hown.2 with ⟨rfl, _⟩ | ⟨g, cap, cur, fz, rfl, _, hg, _⟩
 ·simp [Value.ownBlock]
 ·intro h
  simp only [Value.ownBlock, Option.some.injEq] at h
  subst h
  rw [hg] at hb
  simp only [Option.some.injEq, Obj.cells.injEq] at hb
  exact hT hb.2.1.symm
theorem At.ne {B b : Nat} {p v : Value} {wrong : Bool} {bs : List Value} {w : World} (h : At B b p wrong v bs w) : v.ownBlock ≠ some b := own_ne h.own h.blk (by decide)
theorem At.kept {B b : Nat} {p v : Value} {wrong : Bool} {bs : List Value} {w w' : World} (h : At B b p wrong v bs w) (hb : w'.heap[b]? = w.heap[b]?) (hr : ∀ k, v.ownBlock = some k → w'.heap[k]? = w.heap[k]?) : At B b p wrong v bs w' := by
 refine ⟨h.ge, hb.trans h.blk, ⟨h.own.1, ?_⟩, h.ptr⟩
 rcases h.own.2 with h0 | ⟨g, cap, cur, fz, rfl, hbg, hg, rest⟩
 ·exact .inl h0
 ·exact .inr ⟨g, cap, cur, fz, rfl, hbg, (hr g rfl).trans hg, rest⟩
theorem sizeB : (Tryd.prog.info? 156).map (·.size) = some 2 := by kernel_rfl
theorem liesB : liesAt Tryd.prog Tryd.prog.depth 158 (3 / Tryd.prog.cellsOf 158) 0 156 1 = true := by kernel_rfl
theorem infoB : (Tryd.prog.info? 5).map (fun i => (i.zero, i.size, i.bytes)) = some (some (.int .u8 0), 1, 1) := by kernel_rfl
set_option maxHeartbeats 1000000 in
set_option maxRecDepth 100000 in
theorem copyCheck_used (b : Nat) (w : World) (h0 : w.cell? ⟨b, 0, none⟩ = some (.pointer (some ⟨b, 0, none⟩))) :
  Calls Tryd.prog 128 #[.pointer (some ⟨b, 0, none⟩)] w fun e w' => e = .returned (.tuple #[]) ∧ w' = w := by
 obtain ⟨j, hj, _⟩ := Option.map_eq_some_iff.1 sizeB
 go_enter Tryd.func128, Tryd.ntmps128
 go_wp2
 rw [Lib.run_neq_ptr_same w _ Tryd.underlying153 hj]
 go_wp2
 go_end0
 exact ⟨rfl, rfl⟩
set_option maxHeartbeats 1000000 in
set_option maxRecDepth 100000 in
theorem copyCheck_fresh (b : Nat) (w : World) (h0 : w.cell? ⟨b, 0, none⟩ = some (.pointer none)) (hsh : w.shape? b = some (158, 3)) (hfz : w.frozen? ⟨b, 0, none⟩ = false) :
  Calls Tryd.prog 128 #[.pointer (some ⟨b, 0, none⟩)] w fun e w' => e = .returned (.tuple #[]) ∧ w' = w.setCell ⟨b, 0, none⟩ (.pointer (some ⟨b, 0, none⟩)) := by
 obtain ⟨j, hj, hjs⟩ := Option.map_eq_some_iff.1 sizeB
 go_enter Tryd.func128, Tryd.ntmps128
 go_wp2
 rw [Lib.run_to_unsafe w ⟨b, 0, none⟩ Tryd.underlying153 Tryd.underlying189 hj (by rw [hjs]; decide) hsh (Nat.zero_lt_succ 2)]
 simp only [Result.andThen]
 rw [Oper.upon_value]
 go_wp2
 rw [run_callFunc_extern Tryd.func129 (by kernel_rfl) (by kernel_rfl) (by kernel_rfl) (e := Extern.AbiNoEscape.same) (by kernel_rfl)]
 rw [Lib.run_noEscape]
 simp only [Result.andThen]
 rw [Oper.upon_value]
 go_wp2
 rw [Lib.run_from_unsafe w ⟨b, 0, none⟩ Tryd.underlying189 Tryd.underlying153 hj hsh liesB]
 simp only [Result.andThen]
 rw [Oper.upon_value]
 go_wp2
 go_end0
 exact ⟨rfl, rfl⟩
theorem copyCheck {B b : Nat} {p v : Value} {wrong : Bool} {bs : List Value} {w : World} (h : At B b p wrong v bs w) :
  Calls Tryd.prog 128 #[.pointer (some ⟨b, 0, none⟩)] w fun e w' => e = .returned (.tuple #[]) ∧ At B b (.pointer (some ⟨b, 0, none⟩)) wrong v bs w' ∧ Below B w w' ∧ KeepBut w w' b none := by
 rcases h.ptr with rfl | rfl
 ·refine (copyCheck_fresh b w ((Lib.cell_of_heap h.blk 0).trans rfl) (by simp [World.shape?, h.blk]) (Lib.frozen_of_heap h.blk 0)).mono ?_
  rintro e w' ⟨rfl, rfl⟩
  have hne := h.ne
  refine ⟨rfl, ⟨h.ge, by simp [World.setCell, Array.getElem?_modify, h.blk], ?_, .inr rfl⟩, (Below.refl B w).setCell (p := ⟨b, 0, none⟩) h.ge _, (KeepBut.refl w b none).set_ 0 _⟩
  exact (h.own.kept (row := some b) ⟨rfl, rfl, rfl, by simp [World.setCell], fun k _ hk => Below.heap_setCell _ _ _ _ (fun e => hk (by simp [e]))⟩ (Or.inr hne))
 ·refine (copyCheck_used b w ((Lib.cell_of_heap h.blk 0).trans rfl)).mono ?_
  rintro e w' ⟨rfl, rfl⟩
  exact ⟨rfl, h, Below.refl B _, KeepBut.refl _ _ _⟩
set_option maxHeartbeats 2000000 in
set_option maxRecDepth 100000 in
theorem WriteString {B b : Nat} {p v : Value} {wrong : Bool} {bs : List Value} {w : World} (s : ByteArray) (h : At B b p wrong v bs w) (hlen : bs.length + s.size ≤ 140737488355328) (hBw : B ≤ w.heap.size) :
  Calls Tryd.prog 122 #[.pointer (some ⟨b, 0, none⟩), s] w fun e w' => e = .returned (.tuple #[s.size, .nilIface]) ∧
   ∃ v', At B b (.pointer (some ⟨b, 0, none⟩)) wrong v' (bs ++ Lib.strCells s) w' ∧ Below B w w' ∧ KeepBut w w' b v.ownBlock ∧ (v'.ownBlock = v.ownBlock ∨ ∃ k, v'.ownBlock = some k ∧ w.heap.size ≤ k) := by
 obtain ⟨i0, hi, hz0, hz1, hz2⟩ := info_parts infoB
 have H := Am h
 clear h
 go_enter Tryd.func122, Tryd.ntmps122
 go_wp2_with (go_at_call 128; refine (copyCheck H.out).mono ?_)
 rintro e w1 ⟨rfl, h1, hb1, hk1⟩
 have c1 : w1.cell? ⟨b, 1, none⟩ = some v := by rw [Lib.cell_of_heap h1.blk]; rfl
 go_wp2_with (at_builtin; refine wp_put _ rfl _ _ 154 9 rfl B 5 i0 Tryd.underlying154 Tryd.underlying9 hi hz0 hz1 hz2 _ _ _ rfl h1.own s rfl ?c3 ?c4 ?c5 ?_)
 case c3 => unfold maxLen; omega
 case c4 => omega
 case c5 => have := hb1.size; omega
 intro v' w2 hown' hgrow hrow
 have hlt := h1.lt
 have hb2 : w2.heap[b]? = some (.cells #[.pointer (some ⟨b, 0, none⟩), v, wrong] 158 (0, 0)) := by
  rw [hgrow.block b hlt (fun e => h1.ne e.symm)]
  exact h1.blk
 have f1 : w2.frozen? ⟨b, 1, none⟩ = false := Lib.frozen_of_heap hb2 1
 have d1 : w2.cell? ⟨b, 1, none⟩ = some v := by rw [Lib.cell_of_heap hb2]; rfl
 obtain ⟨ao, n', cap, hv'⟩ : ∃ ao n' cap, v' = .slice ao n' cap := by
  rcases hown'.2 with ⟨hv, _⟩ | ⟨g, cap, cur, fz, hv, _⟩
  ·exact ⟨_, _, _, hv⟩
  ·exact ⟨_, _, _, hv⟩
 subst hv'
 go_wp2
 go_ret2
 refine ⟨rfl, _, ⟨(H.out).ge, by simp [World.setCell, Array.getElem?_modify, hb2]; rfl, ?_, .inr rfl⟩, ?_, ?_, ?_⟩
 ·have hown2 : w2.ownsRowF B 5 1 (.slice ao n' cap) (bs ++ Lib.strCells s).length (bs ++ Lib.strCells s) := by simpa [Lib.strCells_length] using hown'
  exact hown2.kept (row := some b) ⟨rfl, rfl, rfl, by simp [World.setCell], fun k _ hk => Below.heap_setCell _ _ _ _ (fun e => hk (by simp [e]))⟩ (Or.inr (own_ne hown2 hb2 (by decide)))
 ·exact (hb1.grown hgrow (by have := hb1.size; omega) (fun k hk => (h1.own.lt k hk).1)).setCell (p := ⟨b, 1, none⟩) (H.out).ge _
 ·exact KeepBut.set_ ⟨Nat.le_trans hk1.1 hgrow.size, fun i hi hne hr => (hgrow.block i (Nat.lt_of_lt_of_le hi hk1.1) hr).trans (hk1.2 i hi hne (by simp))⟩ 1 _
 ·rcases hrow with h | ⟨k, h, hk⟩
  ·exact .inl h
  ·exact .inr ⟨k, h, Nat.le_trans hk1.1 hk⟩
theorem drew_keep (w : World) (b : Nat) (row : Option Nat) : KeepBut w w.drew b row := ⟨Nat.le_refl _, fun _ _ _ _ => rfl⟩
theorem froze_heap (w : World) (g n k : Nat) (hk : k ≠ g) : (w.freeze ⟨g, 0, none⟩ n).heap[k]? = w.heap[k]? := by
 unfold World.freeze
 split
 ·rfl
 ·simp only [Array.getElem?_modify]
  rw [if_neg (fun e => hk e.symm)]
theorem froze_size (w : World) (a : Addr) (n : Nat) : (w.freeze a n).heap.size = w.heap.size := by
 unfold World.freeze
 split <;> simp
theorem At.froze {B b g cap : Nat} {p : Value} {wrong : Bool} {bs : List Value} {w : World} (h : At B b p wrong (.slice (some ⟨g, 0, none⟩) bs.length cap) bs w) :
  At B b p wrong (.slice (some ⟨g, 0, none⟩) bs.length cap) bs (w.freeze ⟨g, 0, none⟩ bs.length) := by
 have hgb : g ≠ b := fun e => h.ne (by simp [Value.ownBlock, e])
 refine ⟨h.ge, (froze_heap w g _ b (fun e => hgb e.symm)).trans h.blk, ⟨h.own.1, ?_⟩, h.ptr⟩
 rcases h.own.2 with ⟨hv, _⟩ | ⟨g', cap', cur, fz, hv, hbg, hg, hfz, rest⟩
 ·cases hv
 ·injection hv with ha _ hcap
  injection ha with ha
  injection ha with hgg _ _
  subst hgg
  subst hcap
  obtain ⟨lo, hi⟩ := fz
  unfold World.freeze
  split
  ·exact .inr ⟨g, _, cur, (lo, hi), rfl, hbg, hg, hfz, rest⟩
  ·refine .inr ⟨g, _, cur, (if lo == hi then (0, 0 + bs.length) else (min lo 0, max hi (0 + bs.length))), rfl, hbg, ?_, ?_, rest⟩
   ·simp [Array.getElem?_modify, hg]
   ·simp only at hfz
    split <;> simp <;> omega
set_option maxHeartbeats 2000000 in
set_option maxRecDepth 100000 in
theorem String_bytes {B b : Nat} {p v : Value} {wrong : Bool} {l : List UInt8} {w : World} (h : At B b p wrong v (Lib.byteCells l) w) (h0 : l ≠ []) :
  Calls Tryd.prog 114 #[.pointer (some ⟨b, 0, none⟩)] w fun e w' => e = .returned (.string ⟨l.toArray⟩) ∧ At B b p wrong v (Lib.byteCells l) w' ∧ Below B w w' ∧ KeepBut w w' b v.ownBlock := by
 have hl0 : l.length ≠ 0 := by simpa using h0
 have hown := h.own
 rw [Lib.byteCells_length] at hown
 obtain ⟨g, cap, cur, fz, rfl, hbg, hg, hfz, hnc, hcm, hcs, htake⟩ : ∃ g cap cur fz, v = .slice (some ⟨g, 0, none⟩) l.length cap ∧ B ≤ g ∧ w.heap[g]? = some (.cells cur 5 fz) ∧ fz.2 ≤ l.length * 1 ∧ l.length ≤ cap ∧ cap ≤ maxLen ∧ cur.size = cap * 1 ∧ cur.toList.take (l.length * 1) = Lib.byteCells l := by
  rcases hown.2 with ⟨_, hz⟩ | ⟨g, cap, cur, fz, hv, r⟩
  ·exact absurd hz hl0
  ·exact ⟨g, cap, cur, fz, hv, r⟩
 have c1 : w.drew.cell? ⟨b, 1, none⟩ = some (.slice (some ⟨g, 0, none⟩) l.length cap) := by
  have : w.drew.heap[b]? = _ := h.blk
  rw [Lib.cell_of_heap this]; rfl
 have hSD : (Builtin.unsafeSliceData_ #[154] 186 #[.slice (some ⟨g, 0, none⟩) l.length cap]).run Tryd.prog w.drew = .ok (.pointer (some ⟨g, 0, none⟩)) w.drew :=
  Lib.run_unsafeSliceData_row _ _ _ _ _ _ (by omega)
 have hUS : (Builtin.unsafeString_ #[186, 3] 9 #[.pointer (some ⟨g, 0, none⟩), l.length]).run Tryd.prog w.drew = .ok (.string ⟨l.toArray⟩) (w.drew.freeze ⟨g, 0, none⟩ l.length) := by
  refine Lib.run_unsafeString_row w.drew 186 3 9 5 Tryd.underlying186 (by kernel_rfl) g cur.size (by have hg' : w.drew.heap[g]? = some (.cells cur 5 fz) := hg; simp [World.shape?, hg']) l h0 (by omega) (by unfold maxLen at hcm; omega) ?_
  intro j x hx
  exact hown.cells (g := g) rfl j (.int .u8 x.toNat) (by simp [Lib.byteCells, hx])
 have hkeep : At B b p wrong (.slice (some ⟨g, 0, none⟩) l.length cap) (Lib.byteCells l) (w.drew.freeze ⟨g, 0, none⟩ l.length) := by
  have hA : At B b p wrong (.slice (some ⟨g, 0, none⟩) (Lib.byteCells l).length cap) (Lib.byteCells l) w.drew := by rw [Lib.byteCells_length]; exact ⟨h.ge, h.blk, h.own, h.ptr⟩
  have hF := hA.froze
  rw [Lib.byteCells_length] at hF
  exact hF
 have hk2 : KeepBut w (w.drew.freeze ⟨g, 0, none⟩ l.length) b (some g) := ⟨by rw [froze_size]; exact Nat.le_refl _, fun i hi _ hr => froze_heap w.drew g _ i (fun e => hr (by rw [e]))⟩
 go_enter Tryd.func114, Tryd.ntmps114
 go_wp2
 go_region
 all_goals (go_wp2; go_ret; exact ⟨rfl, hkeep, Lib.below_freeze (Below.drew (Below.refl B w)) (p := ⟨g, 0, none⟩) hbg _, hk2⟩)
theorem unsafeString_none (W : World) (q : Option Addr) : (Builtin.unsafeString_ #[186, 3] 9 #[.pointer q, .int .i64 0]).run Tryd.prog W = .ok (.string .empty) W :=
 Lib.run_unsafeString_none W _ _ _ q
theorem alloc_keep (w : World) (o : Obj) (b : Nat) (row : Option Nat) : KeepBut w (w.alloc o) b row := KeepBut.of_below ((Below.refl w.heap.size w).alloc (Nat.le_refl _) o) b row
theorem At.kept_below {B b : Nat} {p v : Value} {wrong : Bool} {bs : List Value} {w w' : World} (h : At B b p wrong v bs w) (hb : Below w.heap.size w w') : At B b p wrong v bs w' :=
 h.kept (hb.block b h.lt) (fun k hk => hb.block k (h.own.lt k hk).2)
set_option maxHeartbeats 2000000 in
set_option maxRecDepth 100000 in
theorem String_none {B b : Nat} {p v : Value} {wrong : Bool} {w : World} (h : At B b p wrong v [] w) (hBw : B ≤ w.heap.size) :
  Calls Tryd.prog 114 #[.pointer (some ⟨b, 0, none⟩)] w fun e w' => e = .returned (.string ⟨#[]⟩) ∧ At B b p wrong v [] w' ∧ Below B w w' ∧ KeepBut w w' b v.ownBlock := by
 have hUS := unsafeString_none
 rcases h.own.2 with ⟨hv, _⟩ | ⟨g, cap, cur, fz, hv, hbg, hg, _, _, _, _, _⟩
 ·subst hv
  have c1 : w.drew.cell? ⟨b, 1, none⟩ = some (.slice none 0 0) := by
   have : w.drew.heap[b]? = _ := h.blk
   rw [Lib.cell_of_heap this]; rfl
  have hSD : (Builtin.unsafeSliceData_ #[154] 186 #[.slice none 0 0]).run Tryd.prog w.drew = .ok (.pointer none) w.drew := rfl
  have hA : At B b p wrong (.slice none 0 0) [] w.drew := ⟨h.ge, h.blk, h.own, h.ptr⟩
  have hk := drew_keep w b (Value.slice none 0 0).ownBlock
  clear h
  go_enter Tryd.func114, Tryd.ntmps114
  go_wp2
  go_region
  all_goals (go_wp2; go_ret; exact ⟨rfl, hA, Below.drew (Below.refl B w), hk⟩)
 ·subst hv
  by_cases hc0 : cap = 0
  ·subst hc0
   have hlt := h.lt
   have c1 : w.drew.cell? ⟨b, 1, none⟩ = some (.slice (some ⟨g, 0, none⟩) 0 0) := by
    have : w.drew.heap[b]? = _ := h.blk
    rw [Lib.cell_of_heap this]; rfl
   have hSD : (Builtin.unsafeSliceData_ #[154] 186 #[.slice (some ⟨g, 0, none⟩) 0 0]).run Tryd.prog w.drew = .ok (.pointer (some ⟨w.drew.heap.size, 0, none⟩)) (w.drew.alloc (.view ⟨g, 0, none⟩ 5)) :=
    Lib.run_unsafeSliceData_zero w.drew _ _ 5 Tryd.underlying186 ⟨g, 0, none⟩ 0 (5, cur.size) (by have hg' : w.drew.heap[g]? = some (.cells cur 5 fz) := hg; simp [World.shape?, hg'])
   have c2 : (w.drew.alloc (.view ⟨g, 0, none⟩ 5)).cell? ⟨b, 1, none⟩ = some (.slice (some ⟨g, 0, none⟩) 0 0) := by
    have : (w.drew.alloc (.view ⟨g, 0, none⟩ 5)).heap[b]? = _ := (Lib.alloc_old w.drew _ b hlt).trans h.blk
    rw [Lib.cell_of_heap this]; rfl
   have c3 : (w.alloc (.view ⟨g, 0, none⟩ 5)).drew.cell? ⟨b, 1, none⟩ = some (.slice (some ⟨g, 0, none⟩) 0 0) := c2
   have c0 : w.cell? ⟨b, 1, none⟩ = some (.slice (some ⟨g, 0, none⟩) 0 0) := c1
   have hA : At B b p wrong (.slice (some ⟨g, 0, none⟩) 0 0) [] (w.drew.alloc (.view ⟨g, 0, none⟩ 5)) := (At.mk h.ge h.blk h.own h.ptr : At B b p wrong _ [] w.drew).kept_below ((Below.refl _ _).alloc (Nat.le_refl _) _)
   have hk := (drew_keep w b (some g)).trans (alloc_keep w.drew (.view ⟨g, 0, none⟩ 5) b (some g)) (.inl rfl)
   have hbl := (Below.drew (Below.refl B w)).alloc hBw (.view ⟨g, 0, none⟩ 5)
   clear h
   go_enter Tryd.func114, Tryd.ntmps114
   go_wp2
   go_region
   all_goals (go_wp2; go_ret; exact ⟨rfl, hA, hbl, hk⟩)
  ·have c1 : w.drew.cell? ⟨b, 1, none⟩ = some (.slice (some ⟨g, 0, none⟩) 0 cap) := by
    have : w.drew.heap[b]? = _ := h.blk
    rw [Lib.cell_of_heap this]; rfl
   have hSD : (Builtin.unsafeSliceData_ #[154] 186 #[.slice (some ⟨g, 0, none⟩) 0 cap]).run Tryd.prog w.drew = .ok (.pointer (some ⟨g, 0, none⟩)) w.drew :=
    Lib.run_unsafeSliceData_row _ _ _ _ _ _ hc0
   clear hc0
   have hA : At B b p wrong (.slice (some ⟨g, 0, none⟩) 0 cap) [] w.drew := ⟨h.ge, h.blk, h.own, h.ptr⟩
   have hk := drew_keep w b (some g)
   clear h
   go_enter Tryd.func114, Tryd.ntmps114
   go_wp2
   go_region
   all_goals (go_wp2; go_ret; exact ⟨rfl, hA, Below.drew (Below.refl B w), hk⟩)
theorem String_ {B b : Nat} {p v : Value} {wrong : Bool} {s : ByteArray} {w : World} (h : At B b p wrong v (Lib.strCells s) w) (hBw : B ≤ w.heap.size) :
  Calls Tryd.prog 114 #[.pointer (some ⟨b, 0, none⟩)] w fun e w' => e = .returned (.string s) ∧ At B b p wrong v (Lib.strCells s) w' ∧ Below B w w' ∧ KeepBut w w' b v.ownBlock := by
 obtain ⟨⟨l⟩⟩ := s
 cases l with
 | nil => exact String_none h hBw
 | cons x r => exact String_bytes (l := x :: r) h (by simp)
def Is (B b : Nat) (row : Option Nat) (wrong : Bool) (s : ByteArray) (w : World) : Prop := ∃ p v, v.ownBlock = row ∧ At B b p wrong v (Lib.strCells s) w
def Turned (B b : Nat) (row : Option Nat) (wrong : Bool) (s : ByteArray) (w w' : World) : Prop :=
 ∃ row', Is B b row' wrong s w' ∧ Below B w w' ∧ KeepBut w w' b row ∧ (row' = row ∨ ∃ k, row' = some k ∧ w.heap.size ≤ k)
theorem strCells_append (a b : ByteArray) : Lib.strCells (a ++ b) = Lib.strCells a ++ Lib.strCells b := by
 simp [Lib.strCells, ByteArray.data_append]
theorem Is.lt {B b : Nat} {row : Option Nat} {wrong : Bool} {s : ByteArray} {w : World} (h : Is B b row wrong s w) : b < w.heap.size := by
 obtain ⟨p, v, rfl, h⟩ := h
 exact h.lt
theorem Is.ge {B b : Nat} {row : Option Nat} {wrong : Bool} {s : ByteArray} {w : World} (h : Is B b row wrong s w) : B ≤ b := by
 obtain ⟨p, v, rfl, h⟩ := h
 exact h.ge
theorem Is.row_ge {B b : Nat} {row : Option Nat} {wrong : Bool} {s : ByteArray} {w : World} (h : Is B b row wrong s w) {k : Nat} (hk : row = some k) : B ≤ k ∧ k < w.heap.size := by
 obtain ⟨p, v, rfl, h⟩ := h
 exact h.own.lt k hk
theorem Is.kept {B b : Nat} {row : Option Nat} {wrong : Bool} {s : ByteArray} {w w' : World} (h : Is B b row wrong s w) (hb : w'.heap[b]? = w.heap[b]?) (hr : ∀ k, row = some k → w'.heap[k]? = w.heap[k]?) : Is B b row wrong s w' := by
 obtain ⟨p, v, rfl, h⟩ := h
 exact ⟨p, v, rfl, h.kept hb hr⟩
theorem Is.below {B b : Nat} {row : Option Nat} {wrong : Bool} {s : ByteArray} {w w' : World} (h : Is B b row wrong s w) (hb : Below w.heap.size w w') : Is B b row wrong s w' :=
 h.kept (hb.block b h.lt) (fun k hk => hb.block k (h.row_ge hk).2)
theorem Turned.trans {B b : Nat} {row row1 row2 : Option Nat} {wrong : Bool} {s : ByteArray} {w w1 w2 : World} (hb : Below B w w1) (hk : KeepBut w w1 b row) (hr : row1 = row ∨ ∃ k, row1 = some k ∧ w.heap.size ≤ k)
  (i2 : Is B b row2 wrong s w2) (hb2 : Below B w1 w2) (hk2 : KeepBut w1 w2 b row1) (hr2 : row2 = row1 ∨ ∃ k, row2 = some k ∧ w1.heap.size ≤ k) : Turned B b row wrong s w w2 := by
 refine ⟨row2, i2, hb.trans hb2, hk.trans hk2 hr, ?_⟩
 rcases hr2 with rfl | ⟨k, rfl, h⟩
 ·exact hr
 ·exact .inr ⟨k, rfl, Nat.le_trans hk.1 h⟩
end Go.Proofs.YtjdenpmaianmfaaDoor.Wr
namespace Go.Proofs.YtjdenpmaianmfaaDoor.Q
open RowKit YtjdenpmaianmfaaDoorW.PrintWords YtjdenpmaianmfaaDoorW.PrintLast YtjdenpmaianmfaaDoorW.PrintMore
attribute [local go_sem] max2_int min2_int max_two min_two max_three min_three max_four min_four
set_option maxHeartbeats 16000000
set_option maxRecDepth 100000
set_option linter.unusedVariables false
set_option linter.unusedSimpArgs false
def prefix_Size.f (a0 : Int) : Option (Int) := if a0 ≥ 4611686018427387904 then (some 0) else ((prefix_spelling.f a0).bind fun t101 => (if 0 ≤ t101 then (some (shl .i64 1 t101)) else (none)))
theorem prefix_Size.calls (a0 : Int) (r : Int) (w : World) (HT : Aside0 (Tab w)) (h : prefix_Size.f a0 = some r) :
  Calls Tryd.prog 126 #[.int .u64 a0] w fun e w' => e = .returned (.int .i64 r) ∧ Drawn0 w w' := by
 have H : (if a0 ≥ 4611686018427387904 then (some 0) else ((prefix_spelling.f a0).bind fun t101 => (if 0 ≤ t101 then (some (shl .i64 1 t101)) else (none)))) = some r := h
 clear h
 by_cases c2 : a0 ≥ 4611686018427387904
 ·rw [if_pos c2] at H
  have c2b0 : decide (4611686018427387904 ≤ a0) = true := decide_eq_true c2
  clear c2
  obtain rfl := Option.some.inj H
  go_enter Tryd.func126, Tryd.ntmps126
  go_wp2
  go_ret
  exact ⟨es_, by repeat (first | exact Drawn0.refl _ | apply Drawn0.step)⟩
 ·rw [if_neg c2] at H
  have c2b0 : decide (4611686018427387904 ≤ a0) = false := decide_eq_false c2
  clear c2
  replace H := Option.bind_eq_some_iff.mp H
  obtain ⟨t101, A30, H⟩ := H
  replace H : (if 0 ≤ t101 then (some (shl .i64 1 t101)) else (none)) = some r := H
  have A3 := Am A30
  clear A30
  by_cases c4 : 0 ≤ t101
  ·rw [if_pos c4] at H
   have c4b0 := eq_true c4
   have c4b1 := decide_eq_true c4
   clear c4
   obtain ⟨ji5, hji5⟩ : ∃ j_ : Int, (shl .i64 1 t101) = j_ := ⟨_, rfl⟩
   replace H : (some ji5) = some r := by first | (rw [hji5] at H; exact H) | (simp only [hji5] at H ⊢; exact H)
   (try rw [hji5] at A3)
   have hji5_ : (IntKind.i64.wrap (1 * 2 ^ min t101.toNat 64)) = ji5 := hji5
   have hji5z : t101 ≤ 64 → (IntKind.i64.wrap (1 * 2 ^ t101.toNat)) = ji5 := shl_small hji5
   have hji5u : (IntKind.i64.wrap (2 ^ min t101.toNat 64)) = ji5 := by have h_ := hji5_; rw [Int.one_mul] at h_; exact h_
   have hji5v : t101 ≤ 64 → (IntKind.i64.wrap (2 ^ t101.toNat)) = ji5 := fun hle_ => by have h_ := hji5z hle_; rw [Int.one_mul] at h_; exact h_
   have hji5y : (wrap64 (1 * 2 ^ min t101.toNat 64)) = ji5 := (i64_w _).symm.trans hji5_
   have hji5x : t101 ≤ 64 → (wrap64 (1 * 2 ^ t101.toNat)) = ji5 := fun h_ => (i64_w _).symm.trans (hji5z h_)
   obtain rfl := Option.some.inj H
   go_enter Tryd.func126, Tryd.ntmps126
   go_wp2_with (first | ((with_reducible refine gC 127 rfl ?_); refine goesL_ (some 6) rfl rfl Tryd.func127 (by kernel_rfl) rfl #[.int .u64 a0] rfl am_ ?_; (with_reducible refine (prefix_spelling.calls a0 t101 _ (Am (by repeat (first | exact HT.out | apply Tab.drewN | apply Tab.drew))) A3.out).mono ?_); rintro e w' ⟨rfl, ⟨nd, rfl⟩⟩; refine ⟨_, rfl, ?_⟩))
   go_ret
   exact ⟨by first | rfl | (simp; done) | (simp only [← hji5] <;> (first | rfl | simp)) | (simp [*]; done), by repeat (first | exact Drawn0.refl _ | apply Drawn0.step)⟩
  ·rw [if_neg c4] at H
   exact absurd H (by simp)
def prefix_Put.l0 : Nat → Int → Int → List Int → Int → Int → Option (ByteArray × Int)
 | 0, _, _, _, _, _ => none
 | k + 1, x0, x4, x5, x23, x24 => if x24 < x23 then (if 0 ≤ (wrap64 (8 * (wrap64 ((wrap64 (x4 - 1)) - x24)))) then (if 0 ≤ x24 then (if x24 < (x5.length : Int) then (prefix_Put.l0 k x0 x4 (x5.set (x24 : Int).toNat ((shr .u64 x0 (wrap64 (8 * (wrap64 ((wrap64 (x4 - 1)) - x24))))) % 256)) x23 (wrap64 (x24 + 1))) else (none)) else (none)) else (none)) else (some (strOfNums x5, 0))
def prefix_Put.f (k : Nat) (a0 : Int) : Option (ByteArray × Int) := (prefix_Size.f a0).bind fun t102 => (if t102 = 0 then (some ((⟨#[]⟩ : ByteArray), 1)) else ((prefix_spelling.f a0).bind fun t103 => (if 0 ≤ (wrap64 ((wrap64 (8 * t102)) - 2)) then (if 0 ≤ t102 then (if (t102 : Int).toNat ≤ 281474976710656 then ((some (List.replicate (t102 : Int).toNat 0 : List Int)).bind fun y104 => (prefix_Put.l0 k (Go.bits .or .u64 a0 (shl .u64 (IntKind.u64.wrap (t103)) (wrap64 ((wrap64 (8 * t102)) - 2)))) t102 y104 (y104.length : Int) 0)) else (none)) else (none)) else (none))))
theorem prefix_Put.calls (k : Nat) (a0 : Int) (r1 : ByteArray) (r2 : Int) (w : World) (HT : Aside0 (Tab w)) (h : prefix_Put.f k a0 = some (r1, r2)) :
  Calls Tryd.prog 121 #[.int .u64 a0] w fun e w' => e = .returned (.tuple #[r1, r2]) ∧ Below w.heap.size w w' := by
 have HB := Am (Below.refl w.heap.size w)
 have H : ((prefix_Size.f a0).bind fun t102 => (if t102 = 0 then (some ((⟨#[]⟩ : ByteArray), 1)) else ((prefix_spelling.f a0).bind fun t103 => (if 0 ≤ (wrap64 ((wrap64 (8 * t102)) - 2)) then (if 0 ≤ t102 then (if (t102 : Int).toNat ≤ 281474976710656 then ((some (List.replicate (t102 : Int).toNat 0 : List Int)).bind fun y104 => (prefix_Put.l0 k (Go.bits .or .u64 a0 (shl .u64 (IntKind.u64.wrap (t103)) (wrap64 ((wrap64 (8 * t102)) - 2)))) t102 y104 (y104.length : Int) 0)) else (none)) else (none)) else (none))))) = some (r1, r2) := h
 clear h
 replace H := Option.bind_eq_some_iff.mp H
 obtain ⟨t102, A20, H⟩ := H
 replace H : (if t102 = 0 then (some ((⟨#[]⟩ : ByteArray), 1)) else ((prefix_spelling.f a0).bind fun t103 => (if 0 ≤ (wrap64 ((wrap64 (8 * t102)) - 2)) then (if 0 ≤ t102 then (if (t102 : Int).toNat ≤ 281474976710656 then ((some (List.replicate (t102 : Int).toNat 0 : List Int)).bind fun y104 => (prefix_Put.l0 k (Go.bits .or .u64 a0 (shl .u64 (IntKind.u64.wrap (t103)) (wrap64 ((wrap64 (8 * t102)) - 2)))) t102 y104 (y104.length : Int) 0)) else (none)) else (none)) else (none)))) = some (r1, r2) := H
 have A2 := Am A20
 clear A20
 by_cases c3 : t102 = 0
 ·rw [if_pos c3] at H
  have c3b0 : (t102 == 0) = true := beq_iff_eq.mpr c3
  have c3b1 : (t102 != 0) = false := bne_eq_false_iff_eq.mpr c3
  clear c3
  simp only [Option.some.injEq, Prod.mk.injEq] at H
  obtain ⟨rfl, rfl⟩ := H
  go_enter Tryd.func121, Tryd.ntmps121
  go_wp2_with (first | ((with_reducible refine gC 126 rfl ?_); refine goesL_ (some 8) rfl rfl Tryd.func126 (by kernel_rfl) rfl #[.int .u64 a0] rfl am_ ?_; (with_reducible refine (prefix_Size.calls a0 t102 _ (Am (Tab.below HT.out (by repeat (first | (with_reducible first | exact HB.out | apply below_alloc | apply pw_below_drewN | apply below_drew1) | refine below_set ?_ (Aside0.out (by assumption)) | exact HB.out)))) A2.out).mono ?_); rintro e w' ⟨rfl, ⟨nd, rfl⟩⟩; refine ⟨_, rfl, ?_⟩))
  go_ret2
  exact ⟨ew_, bl_ HB⟩
 ·rw [if_neg c3] at H
  have c3b0 : (t102 == 0) = false := beq_eq_false_iff_ne.mpr c3
  have c3b1 : (t102 != 0) = true := bne_iff_ne.mpr c3
  replace H := Option.bind_eq_some_iff.mp H
  obtain ⟨t103, A40, H⟩ := H
  replace H : (if 0 ≤ (wrap64 ((wrap64 (8 * t102)) - 2)) then (if 0 ≤ t102 then (if (t102 : Int).toNat ≤ 281474976710656 then ((some (List.replicate (t102 : Int).toNat 0 : List Int)).bind fun y104 => (prefix_Put.l0 k (Go.bits .or .u64 a0 (shl .u64 (IntKind.u64.wrap (t103)) (wrap64 ((wrap64 (8 * t102)) - 2)))) t102 y104 (y104.length : Int) 0)) else (none)) else (none)) else (none)) = some (r1, r2) := H
  have A4 := Am A40
  clear A40
  obtain ⟨ji5, hji5⟩ : ∃ j_ : Int, (wrap64 ((wrap64 (8 * t102)) - 2)) = j_ := ⟨_, rfl⟩
  replace H : (if 0 ≤ (ji5) then (if 0 ≤ t102 then (if (t102 : Int).toNat ≤ 281474976710656 then ((some (List.replicate (t102 : Int).toNat 0 : List Int)).bind fun y104 => (prefix_Put.l0 k (Go.bits .or .u64 a0 (shl .u64 (IntKind.u64.wrap (t103)) (ji5))) t102 y104 (y104.length : Int) 0)) else (none)) else (none)) else (none)) = some (r1, r2) := by first | (rw [hji5] at H; exact H) | (simp only [hji5] at H ⊢; exact H)
  (try rw [hji5] at A2)
  (try rw [hji5] at A4)
  have hji5w : (IntKind.i64.wrap ((wrap64 (8 * t102)) - 2)) = ji5 := (i64_w _).trans hji5
  by_cases c6 : 0 ≤ (ji5)
  ·rw [if_pos c6] at H
   have c6b0 := eq_true c6
   have c6b1 := decide_eq_true c6
   clear c6
   obtain ⟨ji7, hji7⟩ : ∃ j_ : Int, (shl .u64 (IntKind.u64.wrap (t103)) (ji5)) = j_ := ⟨_, rfl⟩
   replace H : (if 0 ≤ t102 then (if (t102 : Int).toNat ≤ 281474976710656 then ((some (List.replicate (t102 : Int).toNat 0 : List Int)).bind fun y104 => (prefix_Put.l0 k (Go.bits .or .u64 a0 (ji7)) t102 y104 (y104.length : Int) 0)) else (none)) else (none)) = some (r1, r2) := by first | (rw [hji7] at H; exact H) | (simp only [hji7] at H ⊢; exact H)
   (try rw [hji7] at A2)
   (try rw [hji7] at A4)
   have hji7_ : (IntKind.u64.wrap ((IntKind.u64.wrap (t103)) * 2 ^ min (ji5).toNat 64)) = ji7 := hji7
   have hji7z : (ji5) ≤ 64 → (IntKind.u64.wrap ((IntKind.u64.wrap (t103)) * 2 ^ (ji5).toNat)) = ji7 := shl_small hji7
   by_cases c8 : 0 ≤ t102
   ·rw [if_pos c8] at H
    have c8b0 := eq_true c8
    have c8b1 := decide_eq_true c8
    clear c8
    by_cases c9 : (t102 : Int).toNat ≤ 281474976710656
    ·rw [if_pos c9] at H
     have c9b0 := eq_true c9
     have c9b1 := decide_eq_true c9
     clear c9
     obtain ⟨y104, hy104⟩ : ∃ y_ : List Int, y_ = (List.replicate (t102 : Int).toNat 0) := ⟨_, rfl⟩
     replace H : (prefix_Put.l0 k (Go.bits .or .u64 a0 (ji7)) t102 y104 (y104.length : Int) 0) = some (r1, r2) := rp_ H hy104
     have Ny104 := Am hy104
     clear hy104
     have H' := Am H
     clear H
     go_enter Tryd.func121, Tryd.ntmps121
     go_wp2_with (first | ((with_reducible refine gC 126 rfl ?_); refine goesL_ (some 8) rfl rfl Tryd.func126 (by kernel_rfl) rfl #[.int .u64 a0] rfl am_ ?_; (with_reducible refine (prefix_Size.calls a0 t102 _ (Am (Tab.below HT.out (by repeat (first | (with_reducible first | exact HB.out | apply below_alloc | apply pw_below_drewN | apply below_drew1) | refine below_set ?_ (Aside0.out (by assumption)) | exact HB.out)))) A2.out).mono ?_); rintro e w' ⟨rfl, ⟨nd, rfl⟩⟩; refine ⟨_, rfl, ?_⟩) | ((with_reducible refine gC 127 rfl ?_); refine goesL_ (some 13) rfl rfl Tryd.func127 (by kernel_rfl) rfl #[.int .u64 a0] rfl am_ ?_; (with_reducible refine (prefix_spelling.calls a0 t103 _ (Am (Tab.below HT.out (by repeat (first | (with_reducible first | exact HB.out | apply below_alloc | apply pw_below_drewN | apply below_drew1) | refine below_set ?_ (Aside0.out (by assumption)) | exact HB.out)))) A4.out).mono ?_); rintro e w' ⟨rfl, ⟨nd, rfl⟩⟩; refine ⟨_, rfl, ?_⟩) | ((with_reducible refine gD 21 rfl ?_); refine Kd.R_make (Kd.int .u8) _ 5 rfl (N := 21) rfl 154 _ _ rfl t102 rfl rfl Tryd.underlying154 (.int .u8 0) 1 info5 rfl (by decide) (by omega) 0 (ok := fun _ => True) (okp := fun _ => True) rfl (fun _ hk => hk) trivial (od_) (Nat.le_trans (Nat.mul_le_mul_right _ (od_ : t102.toNat ≤ 281474976710656)) (by omega)) (Below.refl _ _) (Nat.le_refl _) ?_; intro v105 w10 ho11 hb hg_ hnew_; clear hg_ hnew_; (first | rw [← Ny104.out] at ho11 | (simp only [Int.reduceToNat] at ho11; rw [← Ny104.out] at ho11)); have HO106 := Am (Kd.R_lower ho11 (below_size (bl_ HB))); replace HB := Am (below_step (bl_ HB) hb); clear hb ho11; obtain ⟨Ao12, co12, eo12⟩ := Kd.R_slice HO106.out; subst eo12))
     go_loopg [24] k (fun kq v24 w' => ∃ (x5_1 : List Int) (x24_1 : Int), v24 = .int .i64 x24_1 ∧ Aside0 (prefix_Put.l0 kq (Go.bits .or .u64 a0 (ji7)) t102 x5_1 (y104.length : Int) x24_1 = some (r1, r2)) ∧ Aside0 (kq ≤ k) ∧ Aside0 (Kd.R (Kd.int .u8) 5 w' w.heap.size (fun _ => True) (.slice Ao12 y104.length co12) x5_1) ∧ Aside0 (Below w.heap.size w w'))
     case atStart => exact ⟨(y104), (0), er_, H', ⟨Nat.le_refl _⟩, ⟨rk_ HO106⟩, ⟨bl_ HB⟩⟩
     case round =>
      clear H'
      try clear c1
      try clear p2
      try clear c3
      try clear c3b0
      try clear c3b1
      try clear c6
      try clear c6b0
      try clear c6b1
      try clear p6
      try clear c8
      try clear c8b0
      try clear c8b1
      try clear c9
      try clear c9b0
      try clear c9b1
      try clear c12
      obtain ⟨x5_1, x24_1, rfl, HA, HK1, HO_5, HB⟩ := hrel
      have hl5_1 := (Kd.R_reads' HO_5.out).1
      rw [hl5_1] at HO_5
      (try simp only [hl5_1])
      cases gk with
      | zero => exact absurd HA.out (by simp [prefix_Put.l0])
      | succ k1 =>
       have H := HA.out
       clear HA
       simp only [prefix_Put.l0] at H
       by_cases c13 : x24_1 < (y104.length : Int)
       ·rw [if_pos c13] at H
        have c13b0 := decide_eq_true c13
        (try rw [hl5_1] at c13b0)
        clear c13
        obtain ⟨ji14, hji14⟩ : ∃ j_ : Int, (wrap64 (8 * (wrap64 ((wrap64 (t102 - 1)) - x24_1)))) = j_ := ⟨_, rfl⟩
        replace H : (if 0 ≤ (ji14) then (if 0 ≤ x24_1 then (if x24_1 < (x5_1.length : Int) then (prefix_Put.l0 k1 (Go.bits .or .u64 a0 (ji7)) t102 (x5_1.set (x24_1 : Int).toNat ((shr .u64 (Go.bits .or .u64 a0 (ji7)) (ji14)) % 256)) (y104.length : Int) (wrap64 (x24_1 + 1))) else (none)) else (none)) else (none)) = some (r1, r2) := by first | (rw [hji14] at H; exact H) | (simp only [hji14] at H ⊢; exact H)
        have hji14w : (IntKind.i64.wrap (8 * (wrap64 ((wrap64 (t102 - 1)) - x24_1)))) = ji14 := (i64_w _).trans hji14
        by_cases c15 : 0 ≤ (ji14)
        ·rw [if_pos c15] at H
         have c15b0 := eq_true c15
         have c15b1 := decide_eq_true c15
         clear c15
         obtain ⟨ji16, hji16⟩ : ∃ j_ : Int, (shr .u64 (Go.bits .or .u64 a0 (ji7)) (ji14)) = j_ := ⟨_, rfl⟩
         replace H : (if 0 ≤ x24_1 then (if x24_1 < (x5_1.length : Int) then (prefix_Put.l0 k1 (Go.bits .or .u64 a0 (ji7)) t102 (x5_1.set (x24_1 : Int).toNat ((ji16) % 256)) (y104.length : Int) (wrap64 (x24_1 + 1))) else (none)) else (none)) = some (r1, r2) := by first | (rw [hji16] at H; exact H) | (simp only [hji16] at H ⊢; exact H)
         have hji16_ : ((Go.bits .or .u64 a0 (ji7)) / 2 ^ min (ji14).toNat 64) = ji16 := hji16
         have hji16z : (ji14) ≤ 64 → ((Go.bits .or .u64 a0 (ji7)) / 2 ^ (ji14).toNat) = ji16 := shr_small hji16
         by_cases c17 : 0 ≤ x24_1
         ·rw [if_pos c17] at H
          have c17b0 := decide_eq_true c17
          clear c17
          by_cases c18 : x24_1 < (x5_1.length : Int)
          ·rw [if_pos c18] at H
           have c18b0 := decide_eq_true c18
           (try rw [hl5_1] at c18b0)
           clear c18
           obtain ⟨y107, hy107⟩ : ∃ y_ : List Int, y_ = (x5_1.set (x24_1 : Int).toNat ((ji16) % 256)) := ⟨_, rfl⟩
           replace H : (prefix_Put.l0 k1 (Go.bits .or .u64 a0 (ji7)) t102 y107 (y104.length : Int) (wrap64 (x24_1 + 1))) = some (r1, r2) := rp_ H hy107
           have Ny107 := Am hy107
           clear hy107
           have H' := Am H
           clear H
           have p19 : 0 ≤ (x24_1 : Int) := od_
           have q19 : (x24_1 : Int) < ((x5_1.length : Int) : Int) := od_
           obtain ⟨go19, co19, eo19, gb19, gl19, cl19, HG19⟩ := Kd.R_form HO_5.out (by omega)
           (first | cases eo19 | (injection eo19 with ea_ en_ ec_; (first | subst ea_ | (injection ea_ with ea_; subst ea_)); subst ec_; clear en_))
           have GB19 := Am gb19
           have GG19 := Am HG19
           clear gb19 gl19 HG19
           obtain ⟨hx19_0, hf19_0⟩ := Kd.R_celln 0 HO_5.out (x24_1 : Int) p19 q19
           replace p19 := eq_true p19
           replace q19 := eq_true q19
           have HP20 := Kd.R_putg HO_5.out (x24_1 : Int) ((ji16) % 256)
           go_wp2_with (first | ((with_reducible refine gT 5 37 rfl ?_); refine store_event (t := 5) (p := 37) (v := ?vo_w21) (w1 := (wr.setCell ⟨go19, (x24_1 : Int).toNat, none⟩ (.int .u8 ((ji16) % 256)))) ?hg ?ho ?hn gs_ ?_; (case ho => rfl); (case hg => rfl); (case hn => rfl); intro w21 hw; have hg : wr.grownBy w21 (some go19) := (by rw [hw]; exact HP20.2); have hp_ : Kd.R (Kd.int .u8) 5 w21 w.heap.size (fun _ => True) (.slice (some ⟨go19, 0, none⟩) x5_1.length co12) y107 := (by rw [hw, Ny107.out]; exact HP20.1); clear HP20; replace HO_5 := Am (hp_); replace HB := Am ((by rw [hw]; exact below_set (HB.out) GB19.out : Below w.heap.size w w21)); clear hg hw hp_))
           (try simp only [← hl5_1])
           go_roundg k1
           case measure => have := HK1.out; omega
           case rel => exact ⟨(y107), (wrap64 (x24_1 + 1)), er_, H', ⟨by have := HK1.out; omega⟩, ⟨by (try simp only [hl5_1]); (with_reducible repeat (first | apply Kd.R_alloc | apply Kd.R_drewN | apply Kd.R_drew)); exact HO_5.out⟩, ⟨bl_ HB⟩⟩
          ·rw [if_neg c18] at H
           exact absurd H (by simp)
         ·rw [if_neg c17] at H
          exact absurd H (by simp)
        ·rw [if_neg c15] at H
         exact absurd H (by simp)
       ·rw [if_neg c13] at H
        have c13b0 : decide (x24_1 < (y104.length : Int)) = false := decide_eq_false c13
        (try rw [hl5_1] at c13b0)
        clear c13
        simp only [Option.some.injEq, Prod.mk.injEq] at H
        obtain ⟨rfl, rfl⟩ := H
        have hcv22 := own_string (P := Tryd.prog) Tryd.underlying154 Tryd.underlying5 Tryd.underlying9 (Kd.own_of_R HO_5.out)
        go_wp2
        go_ret2
        exact ⟨by first | rfl | (simp [errW_none, errW_some] <;> rfl) | (simp only [← hji5, ← hji7]; first | rfl | (simp [errW_none, errW_some] <;> rfl)) | (simp [*, errW_none, errW_some] <;> rfl), bl_ HB⟩
    ·rw [if_neg c9] at H
     exact absurd H (by simp)
   ·rw [if_neg c8] at H
    exact absurd H (by simp)
  ·rw [if_neg c6] at H
   exact absurd H (by simp)
def prefix_Zig.f (a0 : Int) : Option (Int × Bool) := if a0 < (-2305843009213693952) then (some (0, false)) else (if a0 ≥ 2305843009213693952 then (some (0, false)) else (some (Go.bits .xor .u64 (IntKind.u64.wrap (wrap64 (a0 * 2))) (IntKind.u64.wrap (a0 / 9223372036854775808)), true)))
theorem prefix_Zig.calls (a0 : Int) (r1 : Int) (r2 : Bool) (w : World) (h : prefix_Zig.f a0 = some (r1, r2)) :
  Calls Tryd.prog 123 #[a0] w fun e w' => e = .returned (.tuple #[.int .u64 r1, r2]) ∧ Drawn0 w w' := by
 have H : (if a0 < (-2305843009213693952) then (some (0, false)) else (if a0 ≥ 2305843009213693952 then (some (0, false)) else (some (Go.bits .xor .u64 (IntKind.u64.wrap (wrap64 (a0 * 2))) (IntKind.u64.wrap (a0 / 9223372036854775808)), true)))) = some (r1, r2) := h
 clear h
 by_cases c2 : a0 < (-2305843009213693952)
 ·rw [if_pos c2] at H
  have c2b0 := decide_eq_true c2
  clear c2
  simp only [Option.some.injEq, Prod.mk.injEq] at H
  obtain ⟨rfl, rfl⟩ := H
  go_enter Tryd.func123, Tryd.ntmps123
  go_wp2
  go_ret2
  exact ⟨es_, by repeat (first | exact Drawn0.refl _ | apply Drawn0.step)⟩
 ·rw [if_neg c2] at H
  have c2b0 := decide_eq_false c2
  clear c2
  by_cases c3 : a0 ≥ 2305843009213693952
  ·rw [if_pos c3] at H
   have c3b0 : decide (2305843009213693952 ≤ a0) = true := decide_eq_true c3
   clear c3
   simp only [Option.some.injEq, Prod.mk.injEq] at H
   obtain ⟨rfl, rfl⟩ := H
   go_enter Tryd.func123, Tryd.ntmps123
   go_wp2
   go_ret2
   exact ⟨es_, by repeat (first | exact Drawn0.refl _ | apply Drawn0.step)⟩
  ·rw [if_neg c3] at H
   have c3b0 : decide (2305843009213693952 ≤ a0) = false := decide_eq_false c3
   clear c3
   simp only [Option.some.injEq, Prod.mk.injEq] at H
   obtain ⟨rfl, rfl⟩ := H
   go_enter Tryd.func123, Tryd.ntmps123
   go_wp2
   go_ret2
   exact ⟨es_, by repeat (first | exact Drawn0.refl _ | apply Drawn0.step)⟩
end Go.Proofs.YtjdenpmaianmfaaDoor.Q
namespace Go.Proofs.YtjdenpmaianmfaaDoor.Wr
set_option linter.unusedSimpArgs false
set_option linter.unusedVariables false
open Go RowKit YtjdenpmaianmfaaDoorW.PrintWords YtjdenpmaianmfaaDoorW.PrintLast YtjdenpmaianmfaaDoorW.PrintMore Q
attribute [local go_sem] max2_int min2_int max_two min_two max_three min_three max_four min_four
theorem Is.cells {B b : Nat} {row : Option Nat} {wrong : Bool} {s : ByteArray} {w : World} (h : Is B b row wrong s w) : w.cell? ⟨b, 2, none⟩ = some (.bool wrong) ∧ w.frozen? ⟨b, 2, none⟩ = false := by
 obtain ⟨p, v, _, h⟩ := h
 exact ⟨(Lib.cell_of_heap h.blk 2).trans rfl, Lib.frozen_of_heap h.blk 2⟩
theorem Is.mark {B b : Nat} {row : Option Nat} {wrong : Bool} {s : ByteArray} {w : World} (h : Is B b row wrong s w) (q : Bool) : Is B b row q s (w.setCell ⟨b, 2, none⟩ (.bool q)) := by
 obtain ⟨p, v, rfl, h⟩ := h
 refine ⟨p, v, rfl, h.ge, by simp [World.setCell, Array.getElem?_modify, h.blk], ?_, h.ptr⟩
 exact h.own.kept (row := some b) ⟨rfl, rfl, rfl, by simp [World.setCell], fun k _ hk => Below.heap_setCell _ _ _ _ (fun e => hk (by simp [e]))⟩ (Or.inr h.ne)
set_option maxHeartbeats 2000000 in
set_option maxRecDepth 100000 in
theorem put {B b : Nat} {row : Option Nat} {wrong : Bool} {s : ByteArray} {w : World} (k : Nat) (n : Int) (ok : Bool) (r1 : ByteArray) (r2 : Int) (h : Is B b row wrong s w) (hBw : B ≤ w.heap.size) (HT : Aside0 (Tab w))
  (hp : prefix_Put.f k n = some (r1, r2)) (hlen : s.size + r1.size ≤ 140737488355328) :
  Calls Tryd.prog 111 #[.pointer (some ⟨b, 0, none⟩), .int .u64 n, ok] w fun e w' => e = .returned (.tuple #[]) ∧ Turned B b row (wrong || !ok || (r2 != 0)) (s ++ r1) w w' := by
 have H := Am h
 have HP := Am hp
 have HL := Am hlen
 have HB := Am hBw
 clear h hp hlen hBw
 obtain ⟨q2, hq2⟩ : ∃ q2, q2 = (r2 != 0) := ⟨_, rfl⟩
 have fin : ∀ (W W2 : World) (q : Bool), Below w.heap.size w W → q = (wrong || !ok || q2) → (∃ v', At B b (.pointer (some ⟨b, 0, none⟩)) q v' (Lib.strCells s ++ Lib.strCells r1) W2 ∧ Below B (W.setCell ⟨b, 2, none⟩ (.bool q)) W2 ∧ KeepBut (W.setCell ⟨b, 2, none⟩ (.bool q)) W2 b row ∧ (v'.ownBlock = row ∨ ∃ k, v'.ownBlock = some k ∧ (W.setCell ⟨b, 2, none⟩ (.bool q)).heap.size ≤ k)) →
   Turned B b row (wrong || !ok || q2) (s ++ r1) w W2 := by
  rintro W W2 q hb rfl ⟨v', hA, hb2, hk2, hr⟩
  have hB := HB.out
  have hk1 : KeepBut w (W.setCell ⟨b, 2, none⟩ (.bool (wrong || !ok || q2))) b row := (KeepBut.of_below hb b row).set_ 2 _
  refine ⟨v'.ownBlock, ⟨_, v', rfl, by rw [strCells_append]; exact hA⟩, ((hb.mono hB).setCell (p := ⟨b, 2, none⟩) H.out.ge _).trans hb2, hk1.trans hk2 (.inl rfl), ?_⟩
  rcases hr with h | ⟨k, h, hk⟩
  ·exact .inl h
  ·exact .inr ⟨k, h, Nat.le_trans hk1.1 hk⟩
 rw [← hq2]
 have hq3 := hq2.symm
 have hq4 : (r2 == 0) = !q2 := by rw [hq2]; simp [bne]
 clear hq2
 have ws : ∀ (W : World) (q : Bool), Below w.heap.size w W → Calls Tryd.prog 122 #[.pointer (some ⟨b, 0, none⟩), r1] (W.setCell ⟨b, 2, none⟩ (.bool q)) fun e w' => e = .returned (.tuple #[r1.size, .nilIface]) ∧ (∃ v', At B b (.pointer (some ⟨b, 0, none⟩)) q v' (Lib.strCells s ++ Lib.strCells r1) w' ∧ Below B (W.setCell ⟨b, 2, none⟩ (.bool q)) w' ∧ KeepBut (W.setCell ⟨b, 2, none⟩ (.bool q)) w' b row ∧ (v'.ownBlock = row ∨ ∃ k, v'.ownBlock = some k ∧ (W.setCell ⟨b, 2, none⟩ (.bool q)).heap.size ≤ k)) := by
  intro W q hb
  obtain ⟨p, v, hv, hA⟩ := (H.out.below hb).mark q
  subst hv
  exact WriteString r1 hA (by rw [Lib.strCells_length]; exact HL.out) (by have := hb.size; have := HB.out; simp [World.setCell]; omega)
 cases wrong <;> cases ok <;> cases q2
 all_goals
  go_enter Tryd.func111, Tryd.ntmps111
  go_wp2_with (go_at_call 121; refine (prefix_Put.calls k n r1 r2 _ HT HP.out).mono ?_)
  rintro e w1 ⟨rfl, hb1⟩
  obtain ⟨hc2, hf2⟩ := (H.out.below hb1).cells
  have HB1 := Am hb1
  clear hb1
  go_wp2_with (go_at_call 122; refine (ws _ _ HB1.out).mono ?_)
  rintro e w2 ⟨rfl, hA⟩
  go_wp2
  go_end0
  exact ⟨rfl, fin _ _ _ HB1.out rfl hA⟩
set_option maxHeartbeats 2000000 in
set_option maxRecDepth 100000 in
theorem Number {B b : Nat} {row : Option Nat} {wrong : Bool} {s : ByteArray} {w : World} (k : Nat) (n : Int) (r1 : ByteArray) (r2 : Int) (h : Is B b row wrong s w) (hBw : B ≤ w.heap.size) (HT : Aside0 (Tab w))
  (hp : prefix_Put.f k (IntKind.u64.wrap n) = some (r1, r2)) (hlen : s.size + r1.size ≤ 140737488355328) :
  Calls Tryd.prog 104 #[.pointer (some ⟨b, 0, none⟩), n] w fun e w' => e = .returned (.tuple #[]) ∧ Turned B b row (wrong || !decide (0 ≤ n) || (r2 != 0)) (s ++ r1) w w' := by
 have H := Am h
 have HP := Am hp
 have HL := Am hlen
 have HB := Am hBw
 clear h hp hlen hBw
 obtain ⟨ok, hok⟩ : ∃ q, q = decide (0 ≤ n) := ⟨_, rfl⟩
 have pt := fun w' (H' : Is B b row wrong s w') => put k (IntKind.u64.wrap n) ok r1 r2 H'
 rw [← hok]
 have hok2 := hok.symm
 have hok3 : decide (n ≥ 0) = ok := hok2
 clear hok
 go_enter Tryd.func104, Tryd.ntmps104
 go_wp2_with (go_at_call 111; refine (put k _ _ r1 r2 H.out HB.out HT HP.out HL.out).mono ?_)
 rintro e w1 ⟨rfl, hT⟩
 go_wp2
 go_end0
 exact ⟨rfl, hT⟩
set_option maxHeartbeats 2000000 in
set_option maxRecDepth 100000 in
theorem Signed {B b : Nat} {row : Option Nat} {wrong : Bool} {s : ByteArray} {w : World} (k : Nat) (n x : Int) (ok : Bool) (r1 : ByteArray) (r2 : Int) (h : Is B b row wrong s w) (hBw : B ≤ w.heap.size) (HT : Aside0 (Tab w))
  (hz : prefix_Zig.f n = some (x, ok)) (hp : prefix_Put.f k x = some (r1, r2)) (hlen : s.size + r1.size ≤ 140737488355328) :
  Calls Tryd.prog 113 #[.pointer (some ⟨b, 0, none⟩), n] w fun e w' => e = .returned (.tuple #[]) ∧ Turned B b row (wrong || !ok || (r2 != 0)) (s ++ r1) w w' := by
 have H := Am h
 have HZ := Am hz
 have HP := Am hp
 have HL := Am hlen
 have HB := Am hBw
 clear h hp hlen hBw hz
 go_enter Tryd.func113, Tryd.ntmps113
 go_wp2_with (go_at_call 123; refine (prefix_Zig.calls n x ok _ HZ.out).mono ?_)
 rintro e w1 ⟨rfl, hd⟩
 have HD := Am hd.below
 clear hd
 go_wp2_with (go_at_call 111; refine (put k _ _ r1 r2 (H.out.below HD.out) (Nat.le_trans HB.out HD.out.size) (Am (HT.out.below HD.out)) HP.out HL.out).mono ?_)
 rintro e w2 ⟨rfl, hT⟩
 go_wp2
 go_end0
 obtain ⟨row2, i2, hb2, hk2, hr2⟩ := hT
 exact ⟨rfl, Turned.trans (HD.out.mono HB.out) (KeepBut.of_below HD.out b row) (.inl rfl) i2 hb2 hk2 hr2⟩
set_option maxHeartbeats 2000000 in
set_option maxRecDepth 100000 in
theorem Text {B b : Nat} {row : Option Nat} {wrong : Bool} {s : ByteArray} {w : World} (k : Nat) (x : ByteArray) (r1 : ByteArray) (r2 : Int) (h : Is B b row wrong s w) (hBw : B ≤ w.heap.size) (HT : Aside0 (Tab w))
  (hp : prefix_Put.f k (IntKind.u64.wrap (x.size : Int)) = some (r1, r2)) (hlen : s.size + r1.size + x.size ≤ 140737488355328) :
  Calls Tryd.prog 112 #[.pointer (some ⟨b, 0, none⟩), x] w fun e w' => e = .returned (.tuple #[]) ∧ Turned B b row (wrong || (r2 != 0)) (s ++ r1 ++ x) w w' := by
 have H := Am h
 have HP := Am hp
 have HL := Am hlen
 have HB := Am hBw
 clear h hp hlen hBw
 go_enter Tryd.func112, Tryd.ntmps112
 go_wp2_with (go_at_call 104; refine (Number k _ r1 r2 H.out HB.out HT HP.out (by have := HL.out; omega)).mono ?_)
 rintro e w1 ⟨rfl, hT⟩
 have hm : (wrong || !decide (0 ≤ (x.size : Int)) || (r2 != 0)) = (wrong || (r2 != 0)) := by rw [decide_eq_true (by omega : 0 ≤ (x.size : Int))]; simp
 rw [hm] at hT
 obtain ⟨row1, i1, hb1, hk1, hr1⟩ := hT
 obtain ⟨p, v, hv, hA⟩ := i1
 have HX := Am (And.intro hA (And.intro hb1 (And.intro hk1 hr1)))
 clear hb1 hk1 hr1 hA hm
 go_wp2_with (go_at_call 122; refine (WriteString x HX.out.1 (by rw [Lib.strCells_length, ByteArray.size_append]; exact HL.out) (Nat.le_trans HB.out HX.out.2.2.1.1)).mono ?_)
 rintro e w2 ⟨rfl, v', hA2, hb2, hk2, hr2⟩
 go_wp2
 go_end0
 subst hv
 exact ⟨rfl, Turned.trans HX.out.2.1 HX.out.2.2.1 HX.out.2.2.2 ⟨_, v', rfl, by rw [strCells_append]; exact hA2⟩ hb2 hk2 hr2⟩
set_option maxHeartbeats 2000000 in
set_option maxRecDepth 100000 in
theorem Bytes {B b : Nat} {row : Option Nat} {wrong : Bool} {s : ByteArray} {w : World} (h : Is B b row wrong s w) (hBw : B ≤ w.heap.size) :
  Calls Tryd.prog 106 #[.pointer (some ⟨b, 0, none⟩)] w fun e w' => e = .returned (.tuple #[.string (if wrong then ⟨#[]⟩ else s), .int .i64 (if wrong then 1 else 0)]) ∧ Is B b row wrong s w' ∧ Below B w w' ∧ KeepBut w w' b row := by
 have H := Am h
 have HB := Am hBw
 obtain ⟨hc2, hf2⟩ := h.cells
 clear h hBw
 cases wrong
 ·obtain ⟨p, v, hv, hA⟩ := H.out
  have HA := Am hA
  clear hA
  go_enter Tryd.func106, Tryd.ntmps106
  go_wp2_with (go_at_call 114; refine (String_ HA.out HB.out).mono ?_)
  rintro e w1 ⟨rfl, hA1, hb1, hk1⟩
  go_wp2
  go_ret2
  subst hv
  exact ⟨rfl, ⟨_, _, rfl, hA1⟩, hb1, hk1⟩
 ·go_enter Tryd.func106, Tryd.ntmps106
  go_wp2
  go_ret2
  exact ⟨rfl, H.out, Below.refl _ _, KeepBut.refl _ _ _⟩
end Go.Proofs.YtjdenpmaianmfaaDoor.Wr
namespace Go.Proofs.YtjdenpmaianmfaaDoor.Pure
set_option linter.unusedSimpArgs false
open Go RowKit YtjdenpmaianmfaaDoorW.PrintWords YtjdenpmaianmfaaDoorW.PrintLast YtjdenpmaianmfaaDoorW.PrintMore Q
theorem zig_ok (n : Int) (h0 : -2305843009213693952 ≤ n) (h1 : n < 2305843009213693952) : prefix_Zig.f n = some (if n < 0 then -2 * n - 1 else 2 * n, true) := by
 unfold prefix_Zig.f
 rw [if_neg (by omega), if_neg (by omega)]
 have e1 : wrap64 (n * 2) = n * 2 := w64 (by omega) (by omega)
 rw [e1]
 by_cases hn : n < 0
 ·have e2 : IntKind.u64.wrap (n / 9223372036854775808) = 18446744073709551615 := by rw [u64w]; omega
  have e3 : IntKind.u64.wrap (n * 2) = n * 2 + 18446744073709551616 := by rw [u64w]; omega
  rw [e2, e3, xor_ones _ (by omega) (by omega), if_pos hn]
  congr 2; omega
 ·have e2 : IntKind.u64.wrap (n / 9223372036854775808) = 0 := by rw [u64w]; omega
  have e3 : IntKind.u64.wrap (n * 2) = n * 2 := by rw [u64w]; omega
  rw [e2, e3, xor_zero _ (by omega) (by omega), if_neg hn]
  congr 2; omega
theorem zig_no (n : Int) (h : n < -2305843009213693952 ∨ 2305843009213693952 ≤ n) : prefix_Zig.f n = some (0, false) := by
 unfold prefix_Zig.f
 rcases h with h | h
 ·rw [if_pos h]
 ·rw [if_neg (by omega), if_pos (by omega)]
theorem spelling_ok (n : Int) (h0 : 0 ≤ n) (h1 : n < 4611686018427387904) : prefix_spelling.f n = some (if n < 64 then 0 else if n < 16384 then 1 else if n < 1073741824 then 2 else 3) := by
 unfold prefix_spelling.f; rw [if_neg (by omega)]; repeat' split
 all_goals first | rfl | omega
theorem size_ok (n : Int) (h0 : 0 ≤ n) (h1 : n < 4611686018427387904) : prefix_Size.f n = some (szL n) := by
 unfold prefix_Size.f szL
 rw [if_neg (by omega), spelling_ok n h0 h1]
 simp only [Option.bind_some]
 repeat' split
 all_goals first | rfl | omega
theorem size_no (n : Int) (h : 4611686018427387904 ≤ n) : prefix_Size.f n = some 0 := by unfold prefix_Size.f; rw [if_pos (by omega)]
theorem put_step (k : Nat) (x t i L : Int) (l : List Int) (h0 : 0 ≤ i) (h1 : i < L) (h2 : L = t) (h3 : t ≤ 8) (h4 : (l.length : Int) = L) :
  prefix_Put.l0 (k + 1) x t l L i = prefix_Put.l0 k x t (l.set i.toNat (x / 2 ^ (8 * (t - 1 - i)).toNat % 256)) L (i + 1) := by
 have e : wrap64 (8 * (wrap64 ((wrap64 (t - 1)) - i))) = 8 * (t - 1 - i) := by rw [w64 (n := t - 1) (by omega) (by omega), w64 (n := t - 1 - i) (by omega) (by omega), w64 (by omega) (by omega)]
 simp only [prefix_Put.l0]
 rw [if_pos h1, e, if_pos (by omega), if_pos h0, if_pos (by omega), w64 (n := i + 1) (by omega) (by omega)]
 unfold shr
 rw [Nat.min_eq_left (by show _ ≤ 64; omega)]
theorem put_end (k : Nat) (x t L : Int) (l : List Int) : prefix_Put.l0 (k + 1) x t l L L = some (strOfNums l, 0) := by
 simp only [prefix_Put.l0]; rw [if_neg (by omega)]
theorem put_fill (x t : Int) (ht : t ≤ 8) : ∀ (n k : Nat) (l : List Int) (i : Int), 0 ≤ i → i + n = t → (l.length : Int) = t → prefix_Put.l0 (k + n + 1) x t l t i = some (strOfNums (fillL x t n l i), 0)
 | 0, k, l, i, _, h1, _ => by
  have : i = t := by omega
  subst this
  exact put_end k x i i l
 | n + 1, k, l, i, h0, h1, h2 => by
  show prefix_Put.l0 ((k + n + 1) + 1) x t l t i = _
  rw [put_step (k + n + 1) x t i t l h0 (by omega) rfl ht h2]
  exact put_fill x t ht n k _ (i + 1) (by omega) (by omega) (by rw [List.length_set]; exact h2)
theorem put_ok (k : Nat) (n : Int) (h0 : 0 ≤ n) (h1 : n < 4611686018427387904) : prefix_Put.f (k + 10) n = some (strOfNums (encL n), 0) := by
 unfold prefix_Put.f
 rw [size_ok n h0 h1, spelling_ok n h0 h1]
 simp only [Option.bind_some]
 unfold szL encL
 by_cases a1 : n < 64
 ·simp only [if_pos a1]
  rw [if_neg (by decide), sh1, if_pos (by decide), if_pos (by decide), if_pos (by decide)]
  rw [show shl .u64 (IntKind.u64.wrap 0) 6 = 0 from by decide, or64 64 n 0 (by decide) (by decide) (by decide) h0 (by omega) (by omega)]
  refine (put_fill (n + 0) 1 (by decide) 1 (k + 8) [0] 0 (by decide) (by decide) rfl).trans ?_
  rw [show fillL (n + 0) 1 1 [0] 0 = [n] from by simp [fillL]; omega]
 simp only [if_neg a1]
 by_cases a2 : n < 16384
 ·simp only [if_pos a2]
  rw [if_neg (by decide), sh2, if_pos (by decide), if_pos (by decide), if_pos (by decide)]
  rw [show shl .u64 (IntKind.u64.wrap 1) 14 = 16384 from by decide, or64 14 n 16384 (by decide) (by decide) (by decide) h0 (by omega) (by omega)]
  refine (put_fill (n + 16384) 2 (by decide) 2 (k + 7) [0, 0] 0 (by decide) (by decide) rfl).trans ?_
  rw [show fillL (n + 16384) 2 2 [0, 0] 0 = [n / 256 + 64, n % 256] from by simp [fillL]; omega]
 simp only [if_neg a2]
 by_cases a3 : n < 1073741824
 ·simp only [if_pos a3]
  rw [if_neg (by decide), sh4, if_pos (by decide), if_pos (by decide), if_pos (by decide)]
  rw [show shl .u64 (IntKind.u64.wrap 2) 30 = 2147483648 from by decide, or64 30 n 2147483648 (by decide) (by decide) (by decide) h0 (by omega) (by omega)]
  refine (put_fill (n + 2147483648) 4 (by decide) 4 (k + 5) [0, 0, 0, 0] 0 (by decide) (by decide) rfl).trans ?_
  rw [show fillL (n + 2147483648) 4 4 [0, 0, 0, 0] 0 = [n / 16777216 + 128, n / 65536 % 256, n / 256 % 256, n % 256] from by simp [fillL]; omega]
 ·simp only [if_neg a3]
  rw [if_neg (by decide), sh8, if_pos (by decide), if_pos (by decide), if_pos (by decide)]
  rw [show shl .u64 (IntKind.u64.wrap 3) 62 = 13835058055282163712 from by decide, or64 62 n 13835058055282163712 (by decide) (by decide) (by decide) h0 (by omega) (by omega)]
  refine (put_fill (n + 13835058055282163712) 8 (by decide) 8 (k + 1) [0, 0, 0, 0, 0, 0, 0, 0] 0 (by decide) (by decide) rfl).trans ?_
  rw [show fillL (n + 13835058055282163712) 8 8 [0, 0, 0, 0, 0, 0, 0, 0] 0 = [n / 72057594037927936 + 192, n / 281474976710656 % 256, n / 1099511627776 % 256, n / 4294967296 % 256, n / 16777216 % 256, n / 65536 % 256, n / 256 % 256, n % 256] from by simp [fillL]; omega]
theorem put_no (k : Nat) (n : Int) (h : 4611686018427387904 ≤ n) : prefix_Put.f k n = some (⟨#[]⟩, 1) := by
 unfold prefix_Put.f; rw [size_no n h]; simp
end Go.Proofs.YtjdenpmaianmfaaDoor.Pure
namespace Go.Proofs.YtjdenpmaianmfaaDoor.Wr
set_option linter.unusedSimpArgs false
set_option linter.unusedVariables false
open Go RowKit YtjdenpmaianmfaaDoorW.PrintWords YtjdenpmaianmfaaDoorW.PrintLast YtjdenpmaianmfaaDoorW.PrintMore Q
attribute [local go_sem] max2_int min2_int max_two min_two max_three min_three max_four min_four
def numP (n : Int) : ByteArray × Bool := if 0 ≤ n ∧ n < 4611686018427387904 then (strOfNums (Pure.encL n), false) else (⟨#[]⟩, true)
def sgnP (n : Int) : ByteArray × Bool := if -2305843009213693952 ≤ n ∧ n < 2305843009213693952 then (strOfNums (Pure.encL (if n < 0 then -2 * n - 1 else 2 * n)), false) else (strOfNums (Pure.encL 0), true)
def txtP (s : ByteArray) : ByteArray := strOfNums (Pure.encL s.size) ++ s
abbrev Wst := ByteArray × Bool
def addN (x : Wst) (n : Int) : Wst := (x.1 ++ (numP n).1, x.2 || (numP n).2)
def addS (x : Wst) (n : Int) : Wst := (x.1 ++ (sgnP n).1, x.2 || (sgnP n).2)
def addT (x : Wst) (s : ByteArray) : Wst := (x.1 ++ txtP s, x.2)
theorem enc_size (n : Int) : (strOfNums (Pure.encL n)).size ≤ 8 := by
 have := Pure.encL_le n
 simp [strOfNums, ByteArray.size]
 exact this
theorem numP_size (n : Int) : (numP n).1.size ≤ 8 := by
 unfold numP
 split
 ·exact enc_size n
 ·exact Nat.zero_le _
theorem sgnP_size (n : Int) : (sgnP n).1.size ≤ 8 := by
 unfold sgnP
 split <;> exact enc_size _
theorem i64_bd {n : Int} (h : (Lit.int .i64 n).wf = true) : -9223372036854775808 ≤ n ∧ n ≤ 9223372036854775807 := bounds_i64 h
theorem num_put (n : Int) (h : (Lit.int .i64 n).wf = true) : ∃ r2, prefix_Put.f 10 (IntKind.u64.wrap n) = some ((numP n).1, r2) ∧ (!decide (0 ≤ n) || (r2 != 0)) = (numP n).2 := by
 obtain ⟨h0, h1⟩ := i64_bd h
 by_cases hn : 0 ≤ n
 ·have hw : IntKind.u64.wrap n = n := Pure.u64in n hn (by omega)
  rw [hw]
  by_cases hl : n < 4611686018427387904
  ·refine ⟨0, ?_, ?_⟩
   ·rw [Pure.put_ok 0 n hn hl]; unfold numP; rw [if_pos ⟨hn, hl⟩]
   ·unfold numP; rw [if_pos ⟨hn, hl⟩]; simp [hn]
  ·refine ⟨1, ?_, ?_⟩
   ·rw [Pure.put_no 10 n (by omega)]; unfold numP; rw [if_neg (fun h => hl h.2)]
   ·unfold numP; rw [if_neg (fun h => hl h.2)]; simp [hn]
 ·have hw : IntKind.u64.wrap n = n + 18446744073709551616 := by rw [Pure.u64w]; omega
  rw [hw]
  refine ⟨1, ?_, ?_⟩
  ·rw [Pure.put_no 10 _ (by omega)]; unfold numP; rw [if_neg (fun h => hn h.1)]
  ·unfold numP; rw [if_neg (fun h => hn h.1)]; simp [hn]
def Has (B b : Nat) (row : Option Nat) (x : Wst) (w : World) : Prop := Is B b row x.2 x.1 w
def Went (B b : Nat) (row : Option Nat) (x : Wst) (w w' : World) : Prop := Turned B b row x.2 x.1 w w'
theorem Number_ {B b : Nat} {row : Option Nat} {x : Wst} {w : World} (n : Int) (hn : (Lit.int .i64 n).wf = true) (h : Has B b row x w) (hBw : B ≤ w.heap.size) (HT : Aside0 (Tab w)) (hlen : x.1.size ≤ 140737488355000) :
  Calls Tryd.prog 104 #[.pointer (some ⟨b, 0, none⟩), n] w fun e w' => e = .returned (.tuple #[]) ∧ Went B b row (addN x n) w w' := by
 obtain ⟨r2, h1, h2⟩ := num_put n hn
 have hs := numP_size n
 refine (Number 10 n _ r2 h hBw HT h1 (by omega)).mono fun e w' ⟨he, ht⟩ => ⟨he, ?_⟩
 unfold Went addN
 rw [← h2, ← Bool.or_assoc]
 exact ht
theorem Signed_ {B b : Nat} {row : Option Nat} {x : Wst} {w : World} (n : Int) (hn : (Lit.int .i64 n).wf = true) (h : Has B b row x w) (hBw : B ≤ w.heap.size) (HT : Aside0 (Tab w)) (hlen : x.1.size ≤ 140737488355000) :
  Calls Tryd.prog 113 #[.pointer (some ⟨b, 0, none⟩), n] w fun e w' => e = .returned (.tuple #[]) ∧ Went B b row (addS x n) w w' := by
 obtain ⟨h0, h1⟩ := i64_bd hn
 have hs := sgnP_size n
 by_cases hz : -2305843009213693952 ≤ n ∧ n < 2305843009213693952
 ·have e : sgnP n = (strOfNums (Pure.encL (if n < 0 then -2 * n - 1 else 2 * n)), false) := by unfold sgnP; rw [if_pos hz]
  have e2 : prefix_Put.f (0 + 10) (if n < 0 then -2 * n - 1 else 2 * n) = some (strOfNums (Pure.encL (if n < 0 then -2 * n - 1 else 2 * n)), 0) := Pure.put_ok 0 _ (by split <;> omega) (by split <;> omega)
  refine (Signed (0 + 10) n _ true _ 0 h hBw HT (Pure.zig_ok n hz.1 hz.2) e2 (by rw [e] at hs; simp only at hs; omega)).mono fun e w' ⟨he, ht⟩ => ⟨he, ?_⟩
  unfold Went addS
  rw [‹sgnP n = _›]
  simpa using ht
 ·have e : sgnP n = (strOfNums (Pure.encL 0), true) := by unfold sgnP; rw [if_neg hz]
  have e2 : prefix_Put.f (0 + 10) 0 = some (strOfNums (Pure.encL 0), 0) := Pure.put_ok 0 _ (by omega) (by omega)
  refine (Signed (0 + 10) n 0 false _ 0 h hBw HT (Pure.zig_no n (by omega)) e2 (by rw [e] at hs; simp only at hs; omega)).mono fun e w' ⟨he, ht⟩ => ⟨he, ?_⟩
  unfold Went addS
  rw [‹sgnP n = _›]
  simpa using ht
theorem Text_ {B b : Nat} {row : Option Nat} {x : Wst} {w : World} (s : ByteArray) (h : Has B b row x w) (hBw : B ≤ w.heap.size) (HT : Aside0 (Tab w)) (hlen : x.1.size + s.size ≤ 140737488355000) :
  Calls Tryd.prog 112 #[.pointer (some ⟨b, 0, none⟩), s] w fun e w' => e = .returned (.tuple #[]) ∧ Went B b row (addT x s) w w' := by
 have hw : IntKind.u64.wrap (s.size : Int) = s.size := Pure.u64in _ (by omega) (by omega)
 have e2 : prefix_Put.f (0 + 10) (IntKind.u64.wrap (s.size : Int)) = some (strOfNums (Pure.encL s.size), 0) := by rw [hw]; exact Pure.put_ok 0 _ (by omega) (by omega)
 have hs := enc_size s.size
 refine (Text (0 + 10) s _ 0 h hBw HT e2 (by omega)).mono fun e w' ⟨he, ht⟩ => ⟨he, ?_⟩
 unfold Went addT txtP
 rw [← ByteArray.append_assoc]
 simpa using ht
def told (x : Wst) : ByteArray × Int := (if x.2 then ⟨#[]⟩ else x.1, if x.2 then 1 else 0)
theorem Bytes_ {B b : Nat} {row : Option Nat} {x : Wst} {w : World} (h : Has B b row x w) (hBw : B ≤ w.heap.size) :
  Calls Tryd.prog 106 #[.pointer (some ⟨b, 0, none⟩)] w fun e w' => e = .returned (.tuple #[.string (told x).1, .int .i64 (told x).2]) ∧ Has B b row x w' ∧ Below B w w' ∧ KeepBut w w' b row := Bytes h hBw
def addU (x : Wst) (k : ByteArray) (c n : Int) (s : ByteArray) : Wst :=
 if c = 1 ∨ c = 3 then addS (addT (addN x c) k) n else if c = 2 ∨ c = 4 then addT (addT (addN x c) k) s else addT (addN x c) k
theorem tab_of {B : Nat} {w W : World} (ht : 0 < B) (HT : Aside0 (Tab w)) (hb : Below B w W) : Aside0 (Tab W) :=
 ⟨⟨(hb.cell (p := ⟨0, 0, none⟩) ht).trans HT.out.1, (hb.cell (p := ⟨0, 1, none⟩) ht).trans HT.out.2.1, (hb.cell (p := ⟨0, 2, none⟩) ht).trans HT.out.2.2.1, (hb.cell (p := ⟨0, 3, none⟩) ht).trans HT.out.2.2.2⟩⟩
theorem tab_lt {w : World} (h : Tab w) : 0 < w.heap.size := World.block_lt_of_cell? w _ h.1
structure Mid (B b : Nat) (row r : Option Nat) (y : Wst) (w W : World) : Prop where
 has : Has B b r y W
 below : Below B w W
 keep : KeepBut w W b row
 row : r = row ∨ ∃ k, r = some k ∧ w.heap.size ≤ k
theorem Mid.next {B b : Nat} {row r : Option Nat} {y z : Wst} {w W W' : World} (h : Mid B b row r y w W) (t : Went B b r z W W') : ∃ r', Mid B b row r' z w W' := by
 obtain ⟨row2, i2, hb2, hk2, hr2⟩ := t
 obtain ⟨row', a, b, c, d⟩ := Turned.trans h.below h.keep h.row i2 hb2 hk2 hr2
 exact ⟨row', a, b, c, d⟩
theorem Mid.went {B b : Nat} {row r : Option Nat} {y : Wst} {w W : World} (h : Mid B b row r y w W) : Went B b row y w W := ⟨r, h.has, h.below, h.keep, h.row⟩
theorem Mid.start {B b : Nat} {row : Option Nat} {y : Wst} {w : World} (h : Has B b row y w) : Mid B b row row y w w := ⟨h, Below.refl _ _, KeepBut.refl _ _ _, .inl rfl⟩
theorem Mid.blk {B b : Nat} {row r : Option Nat} {y : Wst} {w W : World} (h : Mid B b row r y w W) {g : Nat} {o : Obj} (hg : w.heap[g]? = some o) (hb : g ≠ b) (hr : some g ≠ row) : W.heap[g]? = some o := h.keep.blk hg hb hr
theorem Mid.size {B b : Nat} {row r : Option Nat} {y : Wst} {w W : World} (h : Mid B b row r y w W) (hB : B ≤ w.heap.size) : B ≤ W.heap.size := Nat.le_trans hB h.below.size
theorem Went.from_ {B b : Nat} {row : Option Nat} {z : Wst} {w0 w w' : World} (hB : B ≤ w0.heap.size) (hb : Below w0.heap.size w0 w) (h : Went B b row z w w') : Went B b row z w0 w' := by
 obtain ⟨row2, i2, hb2, hk2, hr2⟩ := h
 exact Turned.trans (hb.mono hB) (KeepBut.of_below hb b row) (.inl rfl) i2 hb2 hk2 hr2
set_option maxHeartbeats 2000000 in
set_option maxRecDepth 100000 in
theorem Write {B b : Nat} {row : Option Nat} {x : Wst} {w : World} (k : ByteArray) (c n : Int) (s : ByteArray) (hc : (Lit.int .i64 c).wf = true) (hn : (Lit.int .i64 n).wf = true) (h : Has B b row x w) (hBw : B ≤ w.heap.size) (ht : 0 < B) (HT : Aside0 (Tab w)) (hlen : x.1.size + k.size + s.size ≤ 140737488354900) :
  Calls Tryd.prog 105 #[.pointer (some ⟨b, 0, none⟩), .agg #[k, c, n, s]] w fun e w' => e = .returned (.tuple #[]) ∧ Went B b row (addU x k c n s) w w' := by
 have H := Am h
 have HL := Am hlen
 have HB := Am hBw
 have hlt := h.lt
 have hrl : ∀ q, row = some q → q < w.heap.size := fun q hq => (h.row_ge hq).2
 clear h hlen hBw
 obtain ⟨W0, hW0⟩ : ∃ W, W = w.alloc (.cells #[k, c, n, s] 32) := ⟨_, rfl⟩
 have HA := Am hW0
 have hbl0 : Below w.heap.size w W0 := by rw [hW0]; exact (Below.refl _ _).alloc (Nat.le_refl _) _
 have hbk0 : W0.heap[w.heap.size]? = some (.cells #[k, c, n, s] 32 (0, 0)) := by rw [hW0]; exact heap_alloc_new w _
 have hB0 : B ≤ W0.heap.size := Nat.le_trans HB.out hbl0.size
 have M0 := Am (Mid.start (Is.below H.out hbl0))
 have hT0 := tab_of ht HT (hbl0.mono HB.out)
 have s1 := numP_size c
 have blk : ∀ {r y W}, Mid B b row r y W0 W → W.heap[w.heap.size]? = some (.cells #[k, c, n, s] 32 (0, 0)) := fun m => m.blk hbk0 (by omega) (by intro e; have := hrl _ e.symm; omega)
 have N0 := Am hbk0
 have l1 : (addN x c).1.size ≤ x.1.size + 8 := by unfold addN; simp only [ByteArray.size_append]; omega
 have s2 := enc_size k.size
 have l2 : (addT (addN x c) k).1.size ≤ x.1.size + 16 + k.size := by unfold addT txtP; simp only [ByteArray.size_append]; omega
 have LL := Am (And.intro l1 l2)
 clear s1 s2 l1 l2
 have fin : ∀ W z, Went B b row z W0 W → Went B b row z w W := fun W z h => h.from_ HB.out hbl0
 have FIN := Am fin
 have BLK := Am @blk
 have HB0 := Am hB0
 clear hbk0 hbl0 hlt hrl fin blk hB0 hW0
 by_cases c1 : c = 1
 ·subst c1
  have E := Am (show addU x k 1 n s = addS (addT (addN x 1) k) n by unfold addU; simp)
  go_enter Tryd.func105, Tryd.ntmps105
  go_wp2_with (go_at_call 104; rw [← HA.out]; refine (Number_ 1 hc M0.out.has HB0.out hT0 (by have := HL.out; omega)).mono ?_)
  rintro e W1 ⟨rfl, t1⟩
  obtain ⟨r1, m1⟩ := M0.out.next t1
  have q10 : W1.cell? ⟨w.heap.size, 0, none⟩ = some (.string k) := (blk_cell (BLK.out m1) 0).trans rfl
  have q11 : W1.cell? ⟨w.heap.size, 1, none⟩ = some (.int .i64 1) := (blk_cell (BLK.out m1) 1).trans rfl
  have q12 : W1.cell? ⟨w.heap.size, 2, none⟩ = some (.int .i64 n) := (blk_cell (BLK.out m1) 2).trans rfl
  have q13 : W1.cell? ⟨w.heap.size, 3, none⟩ = some (.string s) := (blk_cell (BLK.out m1) 3).trans rfl
  have M1 := Am m1
  clear t1 m1
  go_wp2_with (go_at_call 112; refine (Text_ k M1.out.has (M1.out.size HB0.out) (tab_of ht hT0 M1.out.below) (by have := HL.out; have := LL.out; omega)).mono ?_)
  rintro e W2 ⟨rfl, t2⟩
  obtain ⟨r2, m2⟩ := M1.out.next t2
  have q20 : W2.cell? ⟨w.heap.size, 0, none⟩ = some (.string k) := (blk_cell (BLK.out m2) 0).trans rfl
  have q21 : W2.cell? ⟨w.heap.size, 1, none⟩ = some (.int .i64 1) := (blk_cell (BLK.out m2) 1).trans rfl
  have q22 : W2.cell? ⟨w.heap.size, 2, none⟩ = some (.int .i64 n) := (blk_cell (BLK.out m2) 2).trans rfl
  have q23 : W2.cell? ⟨w.heap.size, 3, none⟩ = some (.string s) := (blk_cell (BLK.out m2) 3).trans rfl
  have M2 := Am m2
  clear t2 m2
  go_wp2_with (go_at_call 113; refine (Signed_ n hn M2.out.has (M2.out.size HB0.out) (tab_of ht hT0 M2.out.below) (by have := HL.out; have := LL.out; omega)).mono ?_)
  rintro e W3 ⟨rfl, t3⟩
  obtain ⟨r3, m3⟩ := M2.out.next t3
  have M3 := Am m3
  clear t3 m3
  go_wp2
  go_end0
  exact ⟨rfl, FIN.out _ _ (by rw [E.out]; exact M3.out.went)⟩
 by_cases c3 : c = 3
 ·subst c3
  have E := Am (show addU x k 3 n s = addS (addT (addN x 3) k) n by unfold addU; simp)
  go_enter Tryd.func105, Tryd.ntmps105
  go_wp2_with (go_at_call 104; rw [← HA.out]; refine (Number_ 3 hc M0.out.has HB0.out hT0 (by have := HL.out; omega)).mono ?_)
  rintro e W1 ⟨rfl, t1⟩
  obtain ⟨r1, m1⟩ := M0.out.next t1
  have q10 : W1.cell? ⟨w.heap.size, 0, none⟩ = some (.string k) := (blk_cell (BLK.out m1) 0).trans rfl
  have q11 : W1.cell? ⟨w.heap.size, 1, none⟩ = some (.int .i64 3) := (blk_cell (BLK.out m1) 1).trans rfl
  have q12 : W1.cell? ⟨w.heap.size, 2, none⟩ = some (.int .i64 n) := (blk_cell (BLK.out m1) 2).trans rfl
  have q13 : W1.cell? ⟨w.heap.size, 3, none⟩ = some (.string s) := (blk_cell (BLK.out m1) 3).trans rfl
  have M1 := Am m1
  clear t1 m1
  go_wp2_with (go_at_call 112; refine (Text_ k M1.out.has (M1.out.size HB0.out) (tab_of ht hT0 M1.out.below) (by have := HL.out; have := LL.out; omega)).mono ?_)
  rintro e W2 ⟨rfl, t2⟩
  obtain ⟨r2, m2⟩ := M1.out.next t2
  have q20 : W2.cell? ⟨w.heap.size, 0, none⟩ = some (.string k) := (blk_cell (BLK.out m2) 0).trans rfl
  have q21 : W2.cell? ⟨w.heap.size, 1, none⟩ = some (.int .i64 3) := (blk_cell (BLK.out m2) 1).trans rfl
  have q22 : W2.cell? ⟨w.heap.size, 2, none⟩ = some (.int .i64 n) := (blk_cell (BLK.out m2) 2).trans rfl
  have q23 : W2.cell? ⟨w.heap.size, 3, none⟩ = some (.string s) := (blk_cell (BLK.out m2) 3).trans rfl
  have M2 := Am m2
  clear t2 m2
  go_wp2_with (go_at_call 113; refine (Signed_ n hn M2.out.has (M2.out.size HB0.out) (tab_of ht hT0 M2.out.below) (by have := HL.out; have := LL.out; omega)).mono ?_)
  rintro e W3 ⟨rfl, t3⟩
  obtain ⟨r3, m3⟩ := M2.out.next t3
  have M3 := Am m3
  clear t3 m3
  go_wp2
  go_end0
  exact ⟨rfl, FIN.out _ _ (by rw [E.out]; exact M3.out.went)⟩
 by_cases c2 : c = 2
 ·subst c2
  have E := Am (show addU x k 2 n s = addT (addT (addN x 2) k) s by unfold addU; simp)
  go_enter Tryd.func105, Tryd.ntmps105
  go_wp2_with (go_at_call 104; rw [← HA.out]; refine (Number_ 2 hc M0.out.has HB0.out hT0 (by have := HL.out; omega)).mono ?_)
  rintro e W1 ⟨rfl, t1⟩
  obtain ⟨r1, m1⟩ := M0.out.next t1
  have q10 : W1.cell? ⟨w.heap.size, 0, none⟩ = some (.string k) := (blk_cell (BLK.out m1) 0).trans rfl
  have q11 : W1.cell? ⟨w.heap.size, 1, none⟩ = some (.int .i64 2) := (blk_cell (BLK.out m1) 1).trans rfl
  have q12 : W1.cell? ⟨w.heap.size, 2, none⟩ = some (.int .i64 n) := (blk_cell (BLK.out m1) 2).trans rfl
  have q13 : W1.cell? ⟨w.heap.size, 3, none⟩ = some (.string s) := (blk_cell (BLK.out m1) 3).trans rfl
  have M1 := Am m1
  clear t1 m1
  go_wp2_with (go_at_call 112; refine (Text_ k M1.out.has (M1.out.size HB0.out) (tab_of ht hT0 M1.out.below) (by have := HL.out; have := LL.out; omega)).mono ?_)
  rintro e W2 ⟨rfl, t2⟩
  obtain ⟨r2, m2⟩ := M1.out.next t2
  have q20 : W2.cell? ⟨w.heap.size, 0, none⟩ = some (.string k) := (blk_cell (BLK.out m2) 0).trans rfl
  have q21 : W2.cell? ⟨w.heap.size, 1, none⟩ = some (.int .i64 2) := (blk_cell (BLK.out m2) 1).trans rfl
  have q22 : W2.cell? ⟨w.heap.size, 2, none⟩ = some (.int .i64 n) := (blk_cell (BLK.out m2) 2).trans rfl
  have q23 : W2.cell? ⟨w.heap.size, 3, none⟩ = some (.string s) := (blk_cell (BLK.out m2) 3).trans rfl
  have M2 := Am m2
  clear t2 m2
  go_wp2_with (go_at_call 112; refine (Text_ s M2.out.has (M2.out.size HB0.out) (tab_of ht hT0 M2.out.below) (by have := HL.out; have := LL.out; omega)).mono ?_)
  rintro e W3 ⟨rfl, t3⟩
  obtain ⟨r3, m3⟩ := M2.out.next t3
  have M3 := Am m3
  clear t3 m3
  go_wp2
  go_end0
  exact ⟨rfl, FIN.out _ _ (by rw [E.out]; exact M3.out.went)⟩
 by_cases c4 : c = 4
 ·subst c4
  have E := Am (show addU x k 4 n s = addT (addT (addN x 4) k) s by unfold addU; simp)
  go_enter Tryd.func105, Tryd.ntmps105
  go_wp2_with (go_at_call 104; rw [← HA.out]; refine (Number_ 4 hc M0.out.has HB0.out hT0 (by have := HL.out; omega)).mono ?_)
  rintro e W1 ⟨rfl, t1⟩
  obtain ⟨r1, m1⟩ := M0.out.next t1
  have q10 : W1.cell? ⟨w.heap.size, 0, none⟩ = some (.string k) := (blk_cell (BLK.out m1) 0).trans rfl
  have q11 : W1.cell? ⟨w.heap.size, 1, none⟩ = some (.int .i64 4) := (blk_cell (BLK.out m1) 1).trans rfl
  have q12 : W1.cell? ⟨w.heap.size, 2, none⟩ = some (.int .i64 n) := (blk_cell (BLK.out m1) 2).trans rfl
  have q13 : W1.cell? ⟨w.heap.size, 3, none⟩ = some (.string s) := (blk_cell (BLK.out m1) 3).trans rfl
  have M1 := Am m1
  clear t1 m1
  go_wp2_with (go_at_call 112; refine (Text_ k M1.out.has (M1.out.size HB0.out) (tab_of ht hT0 M1.out.below) (by have := HL.out; have := LL.out; omega)).mono ?_)
  rintro e W2 ⟨rfl, t2⟩
  obtain ⟨r2, m2⟩ := M1.out.next t2
  have q20 : W2.cell? ⟨w.heap.size, 0, none⟩ = some (.string k) := (blk_cell (BLK.out m2) 0).trans rfl
  have q21 : W2.cell? ⟨w.heap.size, 1, none⟩ = some (.int .i64 4) := (blk_cell (BLK.out m2) 1).trans rfl
  have q22 : W2.cell? ⟨w.heap.size, 2, none⟩ = some (.int .i64 n) := (blk_cell (BLK.out m2) 2).trans rfl
  have q23 : W2.cell? ⟨w.heap.size, 3, none⟩ = some (.string s) := (blk_cell (BLK.out m2) 3).trans rfl
  have M2 := Am m2
  clear t2 m2
  go_wp2_with (go_at_call 112; refine (Text_ s M2.out.has (M2.out.size HB0.out) (tab_of ht hT0 M2.out.below) (by have := HL.out; have := LL.out; omega)).mono ?_)
  rintro e W3 ⟨rfl, t3⟩
  obtain ⟨r3, m3⟩ := M2.out.next t3
  have M3 := Am m3
  clear t3 m3
  go_wp2
  go_end0
  exact ⟨rfl, FIN.out _ _ (by rw [E.out]; exact M3.out.went)⟩
 ·have E := Am (show addU x k c n s = addT (addN x c) k by unfold addU; simp [c1, c2, c3, c4])
  have d1 : (c == 1) = false := beq_eq_false_iff_ne.mpr c1
  have d2 : (c == 2) = false := beq_eq_false_iff_ne.mpr c2
  have d3 : (c == 3) = false := beq_eq_false_iff_ne.mpr c3
  have d4 : (c == 4) = false := beq_eq_false_iff_ne.mpr c4
  clear c1 c2 c3 c4
  go_enter Tryd.func105, Tryd.ntmps105
  go_wp2_with (go_at_call 104; rw [← HA.out]; refine (Number_ c hc M0.out.has HB0.out hT0 (by have := HL.out; omega)).mono ?_)
  rintro e W1 ⟨rfl, t1⟩
  obtain ⟨r1, m1⟩ := M0.out.next t1
  have q10 : W1.cell? ⟨w.heap.size, 0, none⟩ = some (.string k) := (blk_cell (BLK.out m1) 0).trans rfl
  have q11 : W1.cell? ⟨w.heap.size, 1, none⟩ = some (.int .i64 c) := (blk_cell (BLK.out m1) 1).trans rfl
  have q12 : W1.cell? ⟨w.heap.size, 2, none⟩ = some (.int .i64 n) := (blk_cell (BLK.out m1) 2).trans rfl
  have q13 : W1.cell? ⟨w.heap.size, 3, none⟩ = some (.string s) := (blk_cell (BLK.out m1) 3).trans rfl
  have M1 := Am m1
  clear t1 m1
  go_wp2_with (go_at_call 112; refine (Text_ k M1.out.has (M1.out.size HB0.out) (tab_of ht hT0 M1.out.below) (by have := HL.out; have := LL.out; omega)).mono ?_)
  rintro e W2 ⟨rfl, t2⟩
  obtain ⟨r2, m2⟩ := M1.out.next t2
  have q20 : W2.cell? ⟨w.heap.size, 0, none⟩ = some (.string k) := (blk_cell (BLK.out m2) 0).trans rfl
  have q21 : W2.cell? ⟨w.heap.size, 1, none⟩ = some (.int .i64 c) := (blk_cell (BLK.out m2) 1).trans rfl
  have q22 : W2.cell? ⟨w.heap.size, 2, none⟩ = some (.int .i64 n) := (blk_cell (BLK.out m2) 2).trans rfl
  have q23 : W2.cell? ⟨w.heap.size, 3, none⟩ = some (.string s) := (blk_cell (BLK.out m2) 3).trans rfl
  have M2 := Am m2
  clear t2 m2
  go_wp2
  go_end0
  exact ⟨rfl, FIN.out _ _ (by rw [E.out]; exact M2.out.went)⟩
end Go.Proofs.YtjdenpmaianmfaaDoor.Wr
