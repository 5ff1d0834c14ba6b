/- What the given program's pack.Writer does: its fields are a strings.Builder and a mark; each of its methods adds bytes behind those that stand there, or marks that one could not be put. A plain walk through the library's strings.Builder and the program's own methods, under the condition that the table 'bits' of package prefix is laid where a number is put. -/
import Derived.Test.YtjdenpmaianmfaaDoorYModelStepsSpell
import Derived.Lib.FrozenHead
import Derived.Lib.UnsafeStr
import Derived.WalkKit
namespace Go.Proofs.YtjdenpmaianmfaaDoor.Wr
set_option linter.unusedSimpArgs false
set_option linter.unusedVariables false
open Go Go.RowKit Go.Proofs.YtjdenpmaianmfaaDoorW.PrintWords Go.Proofs.YtjdenpmaianmfaaDoorW.PrintLast Go.Proofs.YtjdenpmaianmfaaDoorW.PrintMore Go.Proofs.YtjdenpmaianmfaaDoor.Q
attribute [local go_sem] max2_int min2_int max_two min_two max_three min_three max_four min_four
theorem run_put {P : Program} (w : World) (base : Nat) (t u ty e : TypeId) (i : TypeInfo) (ht : P.underlying t = some (.slice e)) (hu : P.underlying u = some .string) (hi : P.info? e = some i) (hz : i.zero = some (.int .u8 0))
  (hsize : i.size = 1) (hby : i.bytes = 1) (v : Value) (n : Nat) (xs : List Value) (hown : w.ownsRowF base e 1 v n xs) (s : ByteArray)
  (h63 : n + s.size ≤ maxLen) (hbytes : n + s.size ≤ 140737488355328) (hbase : base ≤ w.heap.size) :
  ∃ v' w', (Builtin.append_ #[t, u] ty #[v, .string s]).run P w = .ok v' w' ∧ w'.ownsRowF base e 1 v' (n + s.size) (xs ++ Lib.strCells s) ∧ w.grownBy w' v.ownBlock ∧
   (v'.ownBlock = v.ownBlock ∨ ∃ k, v'.ownBlock = some k ∧ w.heap.size ≤ k) := by
 rcases hown.2 with ⟨rfl, rfl⟩ | ⟨g, cap, cur, fz, rfl, hbg, hg, hfz, hnc, hcm, hcs, htake⟩
 ·obtain ⟨v', w', h1, h2, h3, _⟩ := Lib.run_append_own_string (P := P) w w.heap.size t u ty e i ht hu hi hz hsize hby (.slice none 0 0) 0 xs ⟨hown.1, .inl ⟨rfl, rfl⟩⟩ s h63 hbytes (Nat.le_refl _)
  refine ⟨v', w', h1, ⟨h2.1, ?_⟩, h3, ?_⟩
  ·rcases h2.2 with h | ⟨g, cap, cur, hv, hb, hg, rest⟩
   ·exact .inl h
   ·exact .inr ⟨g, cap, cur, (0, 0), hv, Nat.le_trans hbase hb, hg, Nat.zero_le _, rest⟩
  ·rcases h2.2 with ⟨rfl, _⟩ | ⟨g, cap, cur, rfl, hb, _⟩
   ·exact .inl rfl
   ·exact .inr ⟨g, rfl, hb⟩
 ·have hsmall : n + s.size ≤ 9223372036854775807 := by simp only [maxLen] at h63; omega
  have hxl : xs.length = n := by simpa using hown.1
  have hlen : (xs ++ Lib.strCells s).length = (n + s.size) * 1 := by rw [List.length_append, hxl, Lib.strCells_length, Nat.mul_one]
  by_cases hroom : n + s.size ≤ cap
  ·have hcs' : cur.size = cap := by simpa using hcs
   have hr := Lib.run_append_room_stringF (P := P) w t u ty e i ht hu hi hsize g n cap cur fz hg (by simpa using hfz) s hroom (by omega)
   refine ⟨_, _, hr, ⟨hlen, .inr ⟨g, cap, _, fz, rfl, hbg, setRow_heap w g cur _ e _ hg, by omega, hroom, hcm, ?_, ?_⟩⟩, ⟨rfl, rfl, rfl, by simp, fun k _ hk => setRow_other w g k _ (fun e => hk (by simp [Value.ownBlock, e]))⟩, .inl rfl⟩
   ·simp only [List.size_toArray, List.length_append, List.length_take, List.length_drop, Array.length_toList, Lib.strCells_length]
    omega
   ·have ht' : cur.toList.take n = xs := by simpa using htake
    rw [ht', ← hlen]
    exact List.take_left
  ·have holds : ∀ j u, xs[j]? = some u → w.cell? ((⟨g, 0, none⟩ : Addr).add j) = some u := hown.cells (g := g) rfl
   have hr := Lib.run_append_grow_string (P := P) w t u ty e i (.int .u8 0) ht hu hi hz ⟨g, 0, none⟩ n cap xs (by rw [hsize]; simpa using hxl) holds s (by omega) (by omega) (by rw [hby]; exact growslice_fits (by omega) (by omega))
   have hge := grownCap_ge w (n + s.size) cap e
   have hcm2 : grownCap w (n + s.size) cap e ≤ maxLen := grownCap_le_maxLen w (n + s.size) cap e h63
   refine ⟨_, _, hr, ⟨hlen, .inr ⟨w.heap.size, _, _, (0, 0), rfl, hbase, heap_alloc_new w.drew _, Nat.zero_le _, hge, hcm2, ?_, ?_⟩⟩, ⟨rfl, rfl, rfl, by simp, fun k hk _ => Lib.alloc_old w.drew _ k hk⟩, .inr ⟨_, rfl, Nat.le_refl _⟩⟩
   ·have hz1 : (Value.int IntKind.u8 0).cells.size = 1 := rfl
    simp only [Array.size_append, List.size_toArray, size_zeroCells, hz1, hxl, Lib.strCells_length]
    omega
   ·simp only [Array.toList_append, List.append_assoc]
    rw [← List.append_assoc, ← hlen]
    exact List.take_left
theorem wp_put {P : Program} (w : World) {ops : Array Oper} {rest : List Oper} {o : Oper} {a : Act} {Q : Exit → Act → World → Prop} (hgd : o.guard = none) (sl x : Operand) (t u : TypeId)
  (ho : o.op = .call { callee := .builtin .append, args := #[sl, x], argTypes := #[t, u] })
  (base : Nat) (e : TypeId) (i : TypeInfo) (ht : P.underlying t = some (.slice e)) (hu : P.underlying u = some .string) (hi : P.info? e = some i) (hz : i.zero = some (.int .u8 0))
  (hsize : i.size = 1) (hby : i.bytes = 1)
  (v : Value) (n : Nat) (xs : List Value) (hs : a.eval sl = v) (hown : w.ownsRowF base e 1 v n xs) (s : ByteArray) (hx : a.eval x = .string s)
  (h63 : n + s.size ≤ maxLen) (hbytes : n + s.size ≤ 140737488355328) (hbase : base ≤ w.heap.size)
  (h : ∀ v' w', w'.ownsRowF base e 1 v' (n + s.size) (xs ++ Lib.strCells s) → w.grownBy w' v.ownBlock → (v'.ownBlock = v.ownBlock ∨ ∃ k, v'.ownBlock = some k ∧ w.heap.size ≤ k) → wpList P ops Q rest (a.put o.dst v') w') : wpList P ops Q (o :: rest) a w := by
 refine wpList_plain hgd fun K hK => ?_
 obtain ⟨v', w', hr, h2, h3, h4⟩ := run_put (P := P) w base t u o.type e i ht hu hi hz hsize hby v n xs hown s h63 hbytes hbase
 unfold Oper.wp execOp
 simp only [ho, resolve, invoke, builtin, Sem.run_bind, Sem.run_pure, Result.andThen_ok, List.map_toArray, List.map_cons, List.map_nil, hs, hx, hr]
 exact hK _ _ (h v' w' h2 h3 h4)
structure At (B b : Nat) (p : Value) (wrong : Bool) (v : Value) (bs : List Value) (w : World) : Prop where
 ge : B ≤ b
 blk : w.heap[b]? = some (.cells #[p, v, .bool wrong] 158 (0, 0))
 own : w.ownsRowF B 5 1 v bs.length bs
 ptr : p = .pointer none ∨ p = .pointer (some ⟨b, 0, none⟩)
theorem At.lt {B b : Nat} {p v : Value} {wrong : Bool} {bs : List Value} {w : World} (h : At B b p wrong v bs w) : b < w.heap.size := blk_lt h.blk
theorem own_ne {w : World} {B : Nat} {v : Value} {n : Nat} {xs : List Value} {b : Nat} {cs : Array Value} {fr : Nat × Nat} {T : TypeId} (hown : w.ownsRowF B 5 1 v n xs) (hb : w.heap[b]? = some (.cells cs T fr)) (hT : T ≠ 5) : v.ownBlock ≠ some b := by
 rcases hown.2 with ⟨rfl, _⟩ | ⟨g, cap, cur, fz, rfl, _, hg, _⟩
 ·simp [Value.ownBlock]
 ·intro h
  simp only [Value.ownBlock, Option.some.injEq] at h
  subst h
  rw [hg] at hb
  simp only [Option.some.injEq, Obj.cells.injEq] at hb
  exact hT hb.2.1.symm
theorem At.ne {B b : Nat} {p v : Value} {wrong : Bool} {bs : List Value} {w : World} (h : At B b p wrong v bs w) : v.ownBlock ≠ some b := own_ne h.own h.blk (by decide)
theorem At.kept {B b : Nat} {p v : Value} {wrong : Bool} {bs : List Value} {w w' : World} (h : At B b p wrong v bs w) (hb : w'.heap[b]? = w.heap[b]?) (hr : ∀ k, v.ownBlock = some k → w'.heap[k]? = w.heap[k]?) : At B b p wrong v bs w' := by
 refine ⟨h.ge, hb.trans h.blk, ⟨h.own.1, ?_⟩, h.ptr⟩
 rcases h.own.2 with h0 | ⟨g, cap, cur, fz, rfl, hbg, hg, rest⟩
 ·exact .inl h0
 ·exact .inr ⟨g, cap, cur, fz, rfl, hbg, (hr g rfl).trans hg, rest⟩
theorem sizeB : (Tryd.prog.info? 156).map (·.size) = some 2 := by kernel_rfl
theorem liesB : liesAt Tryd.prog Tryd.prog.depth 158 (3 / Tryd.prog.cellsOf 158) 0 156 1 = true := by kernel_rfl
theorem infoB : (Tryd.prog.info? 5).map (fun i => (i.zero, i.size, i.bytes)) = some (some (.int .u8 0), 1, 1) := by kernel_rfl
set_option maxHeartbeats 1000000 in
set_option maxRecDepth 100000 in
theorem copyCheck_used (b : Nat) (w : World) (h0 : w.cell? ⟨b, 0, none⟩ = some (.pointer (some ⟨b, 0, none⟩))) :
  Calls Tryd.prog 128 #[.pointer (some ⟨b, 0, none⟩)] w fun e w' => e = .returned (.tuple #[]) ∧ w' = w := by
 obtain ⟨j, hj, _⟩ := Option.map_eq_some_iff.1 sizeB
 go_enter Tryd.func128, Tryd.ntmps128
 go_wp2
 rw [Lib.run_neq_ptr_same w _ Tryd.underlying153 hj]
 go_wp2
 go_end0
 exact ⟨rfl, rfl⟩
set_option maxHeartbeats 1000000 in
set_option maxRecDepth 100000 in
theorem copyCheck_fresh (b : Nat) (w : World) (h0 : w.cell? ⟨b, 0, none⟩ = some (.pointer none)) (hsh : w.shape? b = some (158, 3)) (hfz : w.frozen? ⟨b, 0, none⟩ = false) :
  Calls Tryd.prog 128 #[.pointer (some ⟨b, 0, none⟩)] w fun e w' => e = .returned (.tuple #[]) ∧ w' = w.setCell ⟨b, 0, none⟩ (.pointer (some ⟨b, 0, none⟩)) := by
 obtain ⟨j, hj, hjs⟩ := Option.map_eq_some_iff.1 sizeB
 go_enter Tryd.func128, Tryd.ntmps128
 go_wp2
 rw [Lib.run_to_unsafe w ⟨b, 0, none⟩ Tryd.underlying153 Tryd.underlying189 hj (by rw [hjs]; decide) hsh (Nat.zero_lt_succ 2)]
 simp only [Result.andThen]
 rw [Oper.upon_value]
 go_wp2
 rw [run_callFunc_extern Tryd.func129 (by kernel_rfl) (by kernel_rfl) (by kernel_rfl) (e := Extern.AbiNoEscape.same) (by kernel_rfl)]
 rw [Lib.run_noEscape]
 simp only [Result.andThen]
 rw [Oper.upon_value]
 go_wp2
 rw [Lib.run_from_unsafe w ⟨b, 0, none⟩ Tryd.underlying189 Tryd.underlying153 hj hsh liesB]
 simp only [Result.andThen]
 rw [Oper.upon_value]
 go_wp2
 go_end0
 exact ⟨rfl, rfl⟩
theorem copyCheck {B b : Nat} {p v : Value} {wrong : Bool} {bs : List Value} {w : World} (h : At B b p wrong v bs w) :
  Calls Tryd.prog 128 #[.pointer (some ⟨b, 0, none⟩)] w fun e w' => e = .returned (.tuple #[]) ∧ At B b (.pointer (some ⟨b, 0, none⟩)) wrong v bs w' ∧ Below B w w' ∧ KeepBut w w' b none := by
 rcases h.ptr with rfl | rfl
 ·refine (copyCheck_fresh b w ((Lib.cell_of_heap h.blk 0).trans rfl) (by simp [World.shape?, h.blk]) (Lib.frozen_of_heap h.blk 0)).mono ?_
  rintro e w' ⟨rfl, rfl⟩
  have hne := h.ne
  refine ⟨rfl, ⟨h.ge, by simp [World.setCell, Array.getElem?_modify, h.blk], ?_, .inr rfl⟩, (Below.refl B w).setCell (p := ⟨b, 0, none⟩) h.ge _, (KeepBut.refl w b none).set_ 0 _⟩
  exact (h.own.kept (row := some b) ⟨rfl, rfl, rfl, by simp [World.setCell], fun k _ hk => Below.heap_setCell _ _ _ _ (fun e => hk (by simp [e]))⟩ (Or.inr hne))
 ·refine (copyCheck_used b w ((Lib.cell_of_heap h.blk 0).trans rfl)).mono ?_
  rintro e w' ⟨rfl, rfl⟩
  exact ⟨rfl, h, Below.refl B _, KeepBut.refl _ _ _⟩
set_option maxHeartbeats 2000000 in
set_option maxRecDepth 100000 in
theorem WriteString {B b : Nat} {p v : Value} {wrong : Bool} {bs : List Value} {w : World} (s : ByteArray) (h : At B b p wrong v bs w) (hlen : bs.length + s.size ≤ 140737488355328) (hBw : B ≤ w.heap.size) :
  Calls Tryd.prog 122 #[.pointer (some ⟨b, 0, none⟩), .string s] w fun e w' => e = .returned (.tuple #[.int .i64 s.size, .nilIface]) ∧
   ∃ v', At B b (.pointer (some ⟨b, 0, none⟩)) wrong v' (bs ++ Lib.strCells s) w' ∧ Below B w w' ∧ KeepBut w w' b v.ownBlock ∧ (v'.ownBlock = v.ownBlock ∨ ∃ k, v'.ownBlock = some k ∧ w.heap.size ≤ k) := by
 obtain ⟨i0, hi, hz0, hz1, hz2⟩ := info_parts infoB
 have H := Aside0.mk h
 clear h
 go_enter Tryd.func122, Tryd.ntmps122
 go_wp2_with (go_at_call 128; refine (copyCheck H.out).mono ?_)
 rintro e w1 ⟨rfl, h1, hb1, hk1⟩
 have c1 : w1.cell? ⟨b, 1, none⟩ = some v := by rw [Lib.cell_of_heap h1.blk]; rfl
 go_wp2_with (at_builtin; refine wp_put _ rfl _ _ 154 9 rfl B 5 i0 Tryd.underlying154 Tryd.underlying9 hi hz0 hz1 hz2 _ _ _ rfl h1.own s rfl ?c3 ?c4 ?c5 ?_)
 case c3 => unfold maxLen; omega
 case c4 => omega
 case c5 => have := hb1.size; omega
 intro v' w2 hown' hgrow hrow
 have hlt := h1.lt
 have hb2 : w2.heap[b]? = some (.cells #[.pointer (some ⟨b, 0, none⟩), v, .bool wrong] 158 (0, 0)) := by
  rw [hgrow.block b hlt (fun e => h1.ne e.symm)]
  exact h1.blk
 have f1 : w2.frozen? ⟨b, 1, none⟩ = false := Lib.frozen_of_heap hb2 1
 have d1 : w2.cell? ⟨b, 1, none⟩ = some v := by rw [Lib.cell_of_heap hb2]; rfl
 obtain ⟨ao, n', cap, hv'⟩ : ∃ ao n' cap, v' = .slice ao n' cap := by
  rcases hown'.2 with ⟨hv, _⟩ | ⟨g, cap, cur, fz, hv, _⟩
  ·exact ⟨_, _, _, hv⟩
  ·exact ⟨_, _, _, hv⟩
 subst hv'
 go_wp2
 go_ret2
 refine ⟨rfl, _, ⟨(H.out).ge, by simp [World.setCell, Array.getElem?_modify, hb2]; rfl, ?_, .inr rfl⟩, ?_, ?_, ?_⟩
 ·have hown2 : w2.ownsRowF B 5 1 (.slice ao n' cap) (bs ++ Lib.strCells s).length (bs ++ Lib.strCells s) := by simpa [Lib.strCells_length] using hown'
  exact hown2.kept (row := some b) ⟨rfl, rfl, rfl, by simp [World.setCell], fun k _ hk => Below.heap_setCell _ _ _ _ (fun e => hk (by simp [e]))⟩ (Or.inr (own_ne hown2 hb2 (by decide)))
 ·exact (hb1.grown hgrow (by have := hb1.size; omega) (fun k hk => (h1.own.lt k hk).1)).setCell (p := ⟨b, 1, none⟩) (H.out).ge _
 ·exact KeepBut.set_ ⟨Nat.le_trans hk1.1 hgrow.size, fun i hi hne hr => (hgrow.block i (Nat.lt_of_lt_of_le hi hk1.1) hr).trans (hk1.2 i hi hne (by simp))⟩ 1 _
 ·rcases hrow with h | ⟨k, h, hk⟩
  ·exact .inl h
  ·exact .inr ⟨k, h, Nat.le_trans hk1.1 hk⟩
theorem drew_keep (w : World) (b : Nat) (row : Option Nat) : KeepBut w w.drew b row := ⟨Nat.le_refl _, fun _ _ _ _ => rfl⟩
theorem froze_heap (w : World) (g n k : Nat) (hk : k ≠ g) : (w.freeze ⟨g, 0, none⟩ n).heap[k]? = w.heap[k]? := by
 unfold World.freeze
 split
 ·rfl
 ·simp only [Array.getElem?_modify]
  rw [if_neg (fun e => hk e.symm)]
theorem froze_size (w : World) (a : Addr) (n : Nat) : (w.freeze a n).heap.size = w.heap.size := by
 unfold World.freeze
 split <;> simp
theorem At.froze {B b g cap : Nat} {p : Value} {wrong : Bool} {bs : List Value} {w : World} (h : At B b p wrong (.slice (some ⟨g, 0, none⟩) bs.length cap) bs w) :
  At B b p wrong (.slice (some ⟨g, 0, none⟩) bs.length cap) bs (w.freeze ⟨g, 0, none⟩ bs.length) := by
 have hgb : g ≠ b := fun e => h.ne (by simp [Value.ownBlock, e])
 refine ⟨h.ge, (froze_heap w g _ b (fun e => hgb e.symm)).trans h.blk, ⟨h.own.1, ?_⟩, h.ptr⟩
 rcases h.own.2 with ⟨hv, _⟩ | ⟨g', cap', cur, fz, hv, hbg, hg, hfz, rest⟩
 ·cases hv
 ·injection hv with ha _ hcap
  injection ha with ha
  injection ha with hgg _ _
  subst hgg
  subst hcap
  obtain ⟨lo, hi⟩ := fz
  unfold World.freeze
  split
  ·exact .inr ⟨g, _, cur, (lo, hi), rfl, hbg, hg, hfz, rest⟩
  ·refine .inr ⟨g, _, cur, (if lo == hi then (0, 0 + bs.length) else (min lo 0, max hi (0 + bs.length))), rfl, hbg, ?_, ?_, rest⟩
   ·simp [Array.getElem?_modify, hg]
   ·simp only at hfz
    split <;> simp <;> omega
set_option maxHeartbeats 2000000 in
set_option maxRecDepth 100000 in
theorem String_bytes {B b : Nat} {p v : Value} {wrong : Bool} {l : List UInt8} {w : World} (h : At B b p wrong v (Lib.byteCells l) w) (h0 : l ≠ []) :
  Calls Tryd.prog 114 #[.pointer (some ⟨b, 0, none⟩)] w fun e w' => e = .returned (.string ⟨l.toArray⟩) ∧ At B b p wrong v (Lib.byteCells l) w' ∧ Below B w w' ∧ KeepBut w w' b v.ownBlock := by
 have hl0 : l.length ≠ 0 := by simpa using h0
 have hown := h.own
 rw [Lib.byteCells_length] at hown
 obtain ⟨g, cap, cur, fz, rfl, hbg, hg, hfz, hnc, hcm, hcs, htake⟩ : ∃ g cap cur fz, v = .slice (some ⟨g, 0, none⟩) l.length cap ∧ B ≤ g ∧ w.heap[g]? = some (.cells cur 5 fz) ∧ fz.2 ≤ l.length * 1 ∧ l.length ≤ cap ∧ cap ≤ maxLen ∧ cur.size = cap * 1 ∧ cur.toList.take (l.length * 1) = Lib.byteCells l := by
  rcases hown.2 with ⟨_, hz⟩ | ⟨g, cap, cur, fz, hv, r⟩
  ·exact absurd hz hl0
  ·exact ⟨g, cap, cur, fz, hv, r⟩
 have c1 : w.drew.cell? ⟨b, 1, none⟩ = some (.slice (some ⟨g, 0, none⟩) l.length cap) := by
  have : w.drew.heap[b]? = _ := h.blk
  rw [Lib.cell_of_heap this]; rfl
 have hSD : (Builtin.unsafeSliceData_ #[154] 186 #[.slice (some ⟨g, 0, none⟩) l.length cap]).run Tryd.prog w.drew = .ok (.pointer (some ⟨g, 0, none⟩)) w.drew :=
  Lib.run_unsafeSliceData_row _ _ _ _ _ _ (by omega)
 have hUS : (Builtin.unsafeString_ #[186, 3] 9 #[.pointer (some ⟨g, 0, none⟩), .int .i64 l.length]).run Tryd.prog w.drew = .ok (.string ⟨l.toArray⟩) (w.drew.freeze ⟨g, 0, none⟩ l.length) := by
  refine Lib.run_unsafeString_row w.drew 186 3 9 5 Tryd.underlying186 (by kernel_rfl) g cur.size (by have hg' : w.drew.heap[g]? = some (.cells cur 5 fz) := hg; simp [World.shape?, hg']) l h0 (by omega) (by unfold maxLen at hcm; omega) ?_
  intro j x hx
  exact hown.cells (g := g) rfl j (.int .u8 x.toNat) (by simp [Lib.byteCells, hx])
 have hkeep : At B b p wrong (.slice (some ⟨g, 0, none⟩) l.length cap) (Lib.byteCells l) (w.drew.freeze ⟨g, 0, none⟩ l.length) := by
  have hA : At B b p wrong (.slice (some ⟨g, 0, none⟩) (Lib.byteCells l).length cap) (Lib.byteCells l) w.drew := by rw [Lib.byteCells_length]; exact ⟨h.ge, h.blk, h.own, h.ptr⟩
  have hF := hA.froze
  rw [Lib.byteCells_length] at hF
  exact hF
 have hk2 : KeepBut w (w.drew.freeze ⟨g, 0, none⟩ l.length) b (some g) := ⟨by rw [froze_size]; exact Nat.le_refl _, fun i hi _ hr => froze_heap w.drew g _ i (fun e => hr (by rw [e]))⟩
 go_enter Tryd.func114, Tryd.ntmps114
 go_wp2
 go_region
 all_goals (go_wp2; go_ret; exact ⟨rfl, hkeep, Lib.below_freeze (Below.drew (Below.refl B w)) (p := ⟨g, 0, none⟩) hbg _, hk2⟩)
theorem unsafeString_none (W : World) (q : Option Addr) : (Builtin.unsafeString_ #[186, 3] 9 #[.pointer q, .int .i64 0]).run Tryd.prog W = .ok (.string .empty) W :=
 Lib.run_unsafeString_none W _ _ _ q
theorem alloc_keep (w : World) (o : Obj) (b : Nat) (row : Option Nat) : KeepBut w (w.alloc o) b row := KeepBut.of_below ((Below.refl w.heap.size w).alloc (Nat.le_refl _) o) b row
theorem At.kept_below {B b : Nat} {p v : Value} {wrong : Bool} {bs : List Value} {w w' : World} (h : At B b p wrong v bs w) (hb : Below w.heap.size w w') : At B b p wrong v bs w' :=
 h.kept (hb.block b h.lt) (fun k hk => hb.block k (h.own.lt k hk).2)
set_option maxHeartbeats 2000000 in
set_option maxRecDepth 100000 in
theorem String_none {B b : Nat} {p v : Value} {wrong : Bool} {w : World} (h : At B b p wrong v [] w) (hBw : B ≤ w.heap.size) :
  Calls Tryd.prog 114 #[.pointer (some ⟨b, 0, none⟩)] w fun e w' => e = .returned (.string ⟨#[]⟩) ∧ At B b p wrong v [] w' ∧ Below B w w' ∧ KeepBut w w' b v.ownBlock := by
 have hUS := unsafeString_none
 rcases h.own.2 with ⟨hv, _⟩ | ⟨g, cap, cur, fz, hv, hbg, hg, _, _, _, _, _⟩
 ·subst hv
  have c1 : w.drew.cell? ⟨b, 1, none⟩ = some (.slice none 0 0) := by
   have : w.drew.heap[b]? = _ := h.blk
   rw [Lib.cell_of_heap this]; rfl
  have hSD : (Builtin.unsafeSliceData_ #[154] 186 #[.slice none 0 0]).run Tryd.prog w.drew = .ok (.pointer none) w.drew := rfl
  have hA : At B b p wrong (.slice none 0 0) [] w.drew := ⟨h.ge, h.blk, h.own, h.ptr⟩
  have hk := drew_keep w b (Value.slice none 0 0).ownBlock
  clear h
  go_enter Tryd.func114, Tryd.ntmps114
  go_wp2
  go_region
  all_goals (go_wp2; go_ret; exact ⟨rfl, hA, Below.drew (Below.refl B w), hk⟩)
 ·subst hv
  by_cases hc0 : cap = 0
  ·subst hc0
   have hlt := h.lt
   have c1 : w.drew.cell? ⟨b, 1, none⟩ = some (.slice (some ⟨g, 0, none⟩) 0 0) := by
    have : w.drew.heap[b]? = _ := h.blk
    rw [Lib.cell_of_heap this]; rfl
   have hSD : (Builtin.unsafeSliceData_ #[154] 186 #[.slice (some ⟨g, 0, none⟩) 0 0]).run Tryd.prog w.drew = .ok (.pointer (some ⟨w.drew.heap.size, 0, none⟩)) (w.drew.alloc (.view ⟨g, 0, none⟩ 5)) :=
    Lib.run_unsafeSliceData_zero w.drew _ _ 5 Tryd.underlying186 ⟨g, 0, none⟩ 0 (5, cur.size) (by have hg' : w.drew.heap[g]? = some (.cells cur 5 fz) := hg; simp [World.shape?, hg'])
   have c2 : (w.drew.alloc (.view ⟨g, 0, none⟩ 5)).cell? ⟨b, 1, none⟩ = some (.slice (some ⟨g, 0, none⟩) 0 0) := by
    have : (w.drew.alloc (.view ⟨g, 0, none⟩ 5)).heap[b]? = _ := (Lib.alloc_old w.drew _ b hlt).trans h.blk
    rw [Lib.cell_of_heap this]; rfl
   have c3 : (w.alloc (.view ⟨g, 0, none⟩ 5)).drew.cell? ⟨b, 1, none⟩ = some (.slice (some ⟨g, 0, none⟩) 0 0) := c2
   have c0 : w.cell? ⟨b, 1, none⟩ = some (.slice (some ⟨g, 0, none⟩) 0 0) := c1
   have hA : At B b p wrong (.slice (some ⟨g, 0, none⟩) 0 0) [] (w.drew.alloc (.view ⟨g, 0, none⟩ 5)) := (At.mk h.ge h.blk h.own h.ptr : At B b p wrong _ [] w.drew).kept_below ((Below.refl _ _).alloc (Nat.le_refl _) _)
   have hk := (drew_keep w b (some g)).trans (alloc_keep w.drew (.view ⟨g, 0, none⟩ 5) b (some g)) (.inl rfl)
   have hbl := (Below.drew (Below.refl B w)).alloc hBw (.view ⟨g, 0, none⟩ 5)
   clear h
   go_enter Tryd.func114, Tryd.ntmps114
   go_wp2
   go_region
   all_goals (go_wp2; go_ret; exact ⟨rfl, hA, hbl, hk⟩)
  ·have c1 : w.drew.cell? ⟨b, 1, none⟩ = some (.slice (some ⟨g, 0, none⟩) 0 cap) := by
    have : w.drew.heap[b]? = _ := h.blk
    rw [Lib.cell_of_heap this]; rfl
   have hSD : (Builtin.unsafeSliceData_ #[154] 186 #[.slice (some ⟨g, 0, none⟩) 0 cap]).run Tryd.prog w.drew = .ok (.pointer (some ⟨g, 0, none⟩)) w.drew :=
    Lib.run_unsafeSliceData_row _ _ _ _ _ _ hc0
   clear hc0
   have hA : At B b p wrong (.slice (some ⟨g, 0, none⟩) 0 cap) [] w.drew := ⟨h.ge, h.blk, h.own, h.ptr⟩
   have hk := drew_keep w b (some g)
   clear h
   go_enter Tryd.func114, Tryd.ntmps114
   go_wp2
   go_region
   all_goals (go_wp2; go_ret; exact ⟨rfl, hA, Below.drew (Below.refl B w), hk⟩)
theorem String_ {B b : Nat} {p v : Value} {wrong : Bool} {s : ByteArray} {w : World} (h : At B b p wrong v (Lib.strCells s) w) (hBw : B ≤ w.heap.size) :
  Calls Tryd.prog 114 #[.pointer (some ⟨b, 0, none⟩)] w fun e w' => e = .returned (.string s) ∧ At B b p wrong v (Lib.strCells s) w' ∧ Below B w w' ∧ KeepBut w w' b v.ownBlock := by
 obtain ⟨⟨l⟩⟩ := s
 cases l with
 | nil => exact String_none h hBw
 | cons x r => exact String_bytes (l := x :: r) h (by simp)
def Is (B b : Nat) (row : Option Nat) (wrong : Bool) (s : ByteArray) (w : World) : Prop := ∃ p v, v.ownBlock = row ∧ At B b p wrong v (Lib.strCells s) w
def Turned (B b : Nat) (row : Option Nat) (wrong : Bool) (s : ByteArray) (w w' : World) : Prop :=
 ∃ row', Is B b row' wrong s w' ∧ Below B w w' ∧ KeepBut w w' b row ∧ (row' = row ∨ ∃ k, row' = some k ∧ w.heap.size ≤ k)
theorem strCells_append (a b : ByteArray) : Lib.strCells (a ++ b) = Lib.strCells a ++ Lib.strCells b := by
 simp [Lib.strCells, ByteArray.data_append]
theorem Is.lt {B b : Nat} {row : Option Nat} {wrong : Bool} {s : ByteArray} {w : World} (h : Is B b row wrong s w) : b < w.heap.size := by
 obtain ⟨p, v, rfl, h⟩ := h
 exact h.lt
theorem Is.ge {B b : Nat} {row : Option Nat} {wrong : Bool} {s : ByteArray} {w : World} (h : Is B b row wrong s w) : B ≤ b := by
 obtain ⟨p, v, rfl, h⟩ := h
 exact h.ge
theorem Is.row_ge {B b : Nat} {row : Option Nat} {wrong : Bool} {s : ByteArray} {w : World} (h : Is B b row wrong s w) {k : Nat} (hk : row = some k) : B ≤ k ∧ k < w.heap.size := by
 obtain ⟨p, v, rfl, h⟩ := h
 exact h.own.lt k hk
theorem Is.kept {B b : Nat} {row : Option Nat} {wrong : Bool} {s : ByteArray} {w w' : World} (h : Is B b row wrong s w) (hb : w'.heap[b]? = w.heap[b]?) (hr : ∀ k, row = some k → w'.heap[k]? = w.heap[k]?) : Is B b row wrong s w' := by
 obtain ⟨p, v, rfl, h⟩ := h
 exact ⟨p, v, rfl, h.kept hb hr⟩
theorem Is.below {B b : Nat} {row : Option Nat} {wrong : Bool} {s : ByteArray} {w w' : World} (h : Is B b row wrong s w) (hb : Below w.heap.size w w') : Is B b row wrong s w' :=
 h.kept (hb.block b h.lt) (fun k hk => hb.block k (h.row_ge hk).2)
theorem Turned.trans {B b : Nat} {row row1 row2 : Option Nat} {wrong : Bool} {s : ByteArray} {w w1 w2 : World} (hb : Below B w w1) (hk : KeepBut w w1 b row) (hr : row1 = row ∨ ∃ k, row1 = some k ∧ w.heap.size ≤ k)
  (i2 : Is B b row2 wrong s w2) (hb2 : Below B w1 w2) (hk2 : KeepBut w1 w2 b row1) (hr2 : row2 = row1 ∨ ∃ k, row2 = some k ∧ w1.heap.size ≤ k) : Turned B b row wrong s w w2 := by
 refine ⟨row2, i2, hb.trans hb2, hk.trans hk2 hr, ?_⟩
 rcases hr2 with rfl | ⟨k, rfl, h⟩
 ·exact hr
 ·exact .inr ⟨k, rfl, Nat.le_trans hk.1 h⟩
end Go.Proofs.YtjdenpmaianmfaaDoor.Wr
