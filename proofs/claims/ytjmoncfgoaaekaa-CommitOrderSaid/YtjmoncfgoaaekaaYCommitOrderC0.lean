/- A Log of package commit as a resource: its block (clients, rounds, each origin's last number) and its rounds' row; the document's Log likewise. -/
import Derived.Test.YtjmoncfgoaaekaaYCommitOrderEv
import Derived.Test.YtjmoncfgoaaekaaYCommitOrderRM
namespace Go.Proofs.Ytjmoncfgoaaekaa.J
set_option linter.unusedSimpArgs false
set_option linter.unusedVariables false
open Go Go.RowKit Go.Proofs.YtjmoncfgoaaekaaW.PrintWords Go.Proofs.YtjmoncfgoaaekaaW.PrintLast Go.Proofs.YtjmoncfgoaaekaaW.PrintMore Go.Proofs.Ytjmoncfgoaaekaa.Q Go.Proofs.Ytjmoncfgoaaekaa.Sep Go.Proofs.Ytjmoncfgoaaekaa.Pure
theorem infoR : (Try.prog.info? 31).map (fun i => (i.zero, i.size, i.bytes)) = some (some (.agg #[.int .i64 0, .int .i64 0, .slice none 0 0]), 3, 40) := by kernel_rfl
theorem flatU : Flat k47 := flat_iso _ (flat_pair flat_scalar (flat_pair flat_scalar (flat_pair flat_scalar flat_scalar)))
theorem slice_len {A : Option Addr} {n m c : Nat} (h : n = m) : Value.slice A n c = .slice A m c := by rw [h]
theorem int_eq {a b : Int} (h : a = b) : Value.int .i64 a = .int .i64 b := by rw [h]
theorem at_F {w : World} {ok : Nat → Prop} {A : Option Addr} {n : Nat} {xs : List Rnd} (h : Kd.F k31 w ok A n xs) (i : Int) (h0 : 0 ≤ i) (h1 : i < n) : ∃ ad A2 c2, A = some ad ∧ w.cell? (ad.add (i.toNat * 3)) = some (.int .i64 (rd_T31 xs i).f0) ∧ w.cell? ⟨(ad.add (i.toNat * 3)).block, (ad.add (i.toNat * 3)).off + 1, none⟩ = some (.int .i64 (rd_T31 xs i).f1) ∧ w.cell? ⟨(ad.add (i.toNat * 3)).block, (ad.add (i.toNat * 3)).off + 2, none⟩ = some (.slice A2 (rd_T31 xs i).f2.length c2) ∧ (rd_T31 xs i).f2.length ≤ c2 ∧ Kd.F k47 w ok A2 (rd_T31 xs i).f2.length (rd_T31 xs i).f2 := by
  obtain ⟨ad, c, e, _, hK, hc0, _⟩ := Kd.F_get h z31 i h0 h1
  have hc : ∀ j u, c[j]? = some u → w.cell? (ad.add (i.toNat * 3 + j)) = some u := hc0
  obtain ⟨A2, c2, rfl, l2, g2⟩ := k31_open (Kd.FK_now hK)
  refine ⟨ad, A2, c2, e, hc 0 _ rfl, by rw [← add_field _ _ 1 (by omega)]; exact hc 1 _ rfl, by rw [← add_field _ _ 2 (by omega)]; exact hc 2 _ rfl, l2, fun W' hW => ?_⟩
  obtain ⟨A3, c3, e3, _, g3⟩ := k31_open (hK W' hW)
  simp only [List.cons.injEq, Value.slice.injEq, and_true, true_and] at e3
  rw [e3.1]
  exact g3
def ObjG (f : Value → Array Value) (t g : Nat) (L : List Rnd) : HP := ex fun v : Value => star (cells g (f v) t) (nrow k31 31 v L)
theorem ObjG.open_ {N : Nat → Prop} {w : World} {l : List HP} {i : Nat} {f : Value → Array Value} {t g : Nat} {L : List Rnd} (h : Own N w l) (hi : l[i]? = some (ObjG f t g L)) :
    ∃ A c, Own N w ((l.set i (cells g (f (.slice A L.length c)) t)) ++ [nrow k31 31 (.slice A L.length c) L]) := by
  obtain ⟨v, hv⟩ := h.of_ex hi
  have hlt : i < l.length := (List.getElem?_eq_some_iff.1 hi).1
  have h2 := hv.split (i := i) (List.getElem?_set_self hlt)
  rw [List.set_set] at h2
  obtain ⟨A, c, rfl⟩ := h2.nslice (i := l.length) (by
    rw [List.getElem?_append_right (by simp), List.length_set, Nat.sub_self]; rfl)
  exact ⟨A, c, h2⟩
theorem ObjG.shut {N : Nat → Prop} {w : World} {l : List HP} {i j : Nat} {f : Value → Array Value} {t g : Nat} {v : Value} {L : List Rnd} (h : Own N w l) (hi : l[i]? = some (cells g (f v) t)) (hj : l[j]? = some (nrow k31 31 v L)) (hij : i ≠ j) :
    Own N w ((l.set i (ObjG f t g L)).set j emp) := by
  have h2 := h.join hi hj hij
  have hlt : i < l.length := (List.getElem?_eq_some_iff.1 hi).1
  have h3 := h2.to_ex (f := fun v : Value => star (cells g (f v) t) (nrow k31 31 v L)) v (i := i) (by
    rw [List.getElem?_set_ne (fun e => hij e.symm), List.getElem?_set_self hlt])
  rw [List.set_comm _ _ hij, List.set_set, List.set_comm _ _ hij.symm] at h3
  exact h3
theorem roundOf {N : Nat → Prop} {w : World} {l : List HP} {i : Nat} {A : Option Addr} {n c : Nat} (r : Rnd) (h : Own N w l) (hi : l[i]? = some (nrow k47 47 (.slice A n c) r.f2)) :
    Own N w (l.set i (elt k31 r [.int .i64 r.f0, .int .i64 r.f1, .slice A n c])) :=
  h.conv hi _ (fun F hp _ => fun W' hW => by
    obtain ⟨h1, h2, h3⟩ := Kd.N_reads' (Kd.N_step hp hW)
    rw [h1] at h2 ⊢
    exact k31_mk W' r h2 h3)
def lastOf (o : Int) (L : List Rnd) : Int := L.foldl (fun a r => if r.f0 = o then r.f1 else a) 0
theorem lastOf_snoc (o : Int) (L : List Rnd) (r : Rnd) : lastOf o (L ++ [r]) = if r.f0 = o then r.f1 else lastOf o L := by
  unfold lastOf
  rw [List.foldl_append]
  rfl
def addE (C : Int) (L : List Rnd) (r : Rnd) : Int := if mayR r.f0 r.f1 r.f2 ≠ 0 then mayR r.f0 r.f1 r.f2 else if r.f0 > C then 11 else if r.f1 < lastOf r.f0 L + 1 then 12 else if r.f1 > lastOf r.f0 L + 1 then 10 else 0
def Good (C : Int) (L : List Rnd) : Prop := ∀ r ∈ L, mayR r.f0 r.f1 r.f2 = 0 ∧ r.f0 ≤ C
theorem good_nil (C : Int) : Good C [] := fun r h => by simp at h
theorem may_1 {o n : Int} {l : List Upd} (h : mayR o n l = 0) : 1 ≤ o ∧ o ≤ 64 ∧ 1 ≤ n ∧ n ≤ 1099511627776 ∧ l.length ≤ 8 := by
  unfold mayR at h
  split at h
  · cases h
  · omega
theorem addE_0 {C : Int} {L : List Rnd} {r : Rnd} (h : addE C L r = 0) : mayR r.f0 r.f1 r.f2 = 0 ∧ r.f0 ≤ C ∧ r.f1 = lastOf r.f0 L + 1 := by
  unfold addE at h
  split at h
  · rename_i h2; exact absurd h h2
  split at h
  · cases h
  split at h
  · cases h
  split at h
  · cases h
  rename_i a b c d
  exact ⟨Classical.not_not.1 a, by omega, by omega⟩
theorem good_snoc {C : Int} {L : List Rnd} {r : Rnd} (h : Good C L) (he : addE C L r = 0) : Good C (L ++ [r]) := fun q hq => by
  rcases List.mem_append.1 hq with hq | hq
  · exact h q hq
  · rw [List.mem_singleton.1 hq]
    exact ⟨(addE_0 he).1, (addE_0 he).2.1⟩
theorem lastOf_range {C : Int} {L : List Rnd} (o : Int) (h : Good C L) : 0 ≤ lastOf o L ∧ lastOf o L ≤ 1099511627776 := by
  unfold lastOf
  have : ∀ (L : List Rnd) (a : Int), 0 ≤ a → a ≤ 1099511627776 → (∀ r ∈ L, mayR r.f0 r.f1 r.f2 = 0 ∧ r.f0 ≤ C) → 0 ≤ L.foldl (fun a r => if r.f0 = o then r.f1 else a) a ∧ L.foldl (fun a r => if r.f0 = o then r.f1 else a) a ≤ 1099511627776 := by
    intro L
    induction L with
    | nil => exact fun a h0 h1 _ => ⟨h0, h1⟩
    | cons r L ih =>
      intro a h0 h1 hg
      have hr := may_1 (hg r List.mem_cons_self).1
      rw [List.foldl_cons]
      have h2 : 0 ≤ (if r.f0 = o then r.f1 else a) ∧ (if r.f0 = o then r.f1 else a) ≤ 1099511627776 := by split <;> omega
      exact ih _ h2.1 h2.2 (fun q hq => hg q (List.mem_cons_of_mem _ hq))
  exact this L 0 (by decide) (by decide) h
theorem mem_rd {L : List Rnd} {x : Int} (h0 : 0 ≤ x) (h1 : x < L.length) : rd_T31 L x ∈ L := by
  unfold rd_T31
  have hl : x.toNat < L.length := by omega
  rw [List.getD_eq_getElem?_getD, List.getElem?_eq_getElem hl]
  exact List.getElem_mem hl
theorem good_short {C : Int} {L : List Rnd} (h : Good C L) (x : Int) (h0 : 0 ≤ x) (h1 : x < L.length) : (rd_T31 L x).f2.length ≤ 8 := (may_1 (h _ (mem_rd h0 h1)).1).2.2.2.2
theorem take_snoc {α : Type} (L : List α) (d : α) (x : Int) (h0 : 0 ≤ x) (h1 : x < L.length) : L.take (x + 1).toNat = L.take x.toNat ++ [L.getD x.toNat d] := by
  have e : (x + 1).toNat = x.toNat + 1 := by omega
  have hl : x.toNat < L.length := by omega
  rw [e, List.take_succ_eq_append_getElem hl, List.getD_eq_getElem?_getD, List.getElem?_eq_getElem hl]
  rfl
def logC (C : Int) (L : List Rnd) (v : Value) : Array Value := (.int .i64 C :: v :: (List.range 65).map fun (o : Nat) => Value.int .i64 (lastOf (o : Int) L)).toArray
abbrev ObjC (g : Nat) (C : Int) (L : List Rnd) : HP := ObjG (logC C L) 53 g L
theorem logC_0 (C : Int) (L : List Rnd) (v : Value) : (logC C L v)[0]? = some (.int .i64 C) := by unfold logC; rw [List.getElem?_toArray, List.getElem?_cons_zero]
theorem logC_1 (C : Int) (L : List Rnd) (v : Value) : (logC C L v)[1]? = some v := by unfold logC; rw [List.getElem?_toArray, List.getElem?_cons_succ, List.getElem?_cons_zero]
theorem logC_set1 (C : Int) (L : List Rnd) (v u : Value) (i : Nat) : ((logC C L v).setIfInBounds (2 + i) u)[1]? = some v := by rw [Array.getElem?_setIfInBounds_ne (by omega)]; exact logC_1 _ _ _
theorem logC_get (C : Int) (L : List Rnd) (v : Value) (o : Int) (h0 : 0 ≤ o) (h1 : o ≤ 64) : (logC C L v)[2 + o.toNat]? = some (.int .i64 (lastOf o L)) := by
  unfold logC
  rw [List.getElem?_toArray, Nat.add_comm, List.getElem?_cons_succ, List.getElem?_cons_succ, List.getElem?_map, List.getElem?_range (by omega), Option.map_some, show ((o.toNat : Nat) : Int) = o by omega]
theorem logC_add {C : Int} {L : List Rnd} {r : Rnd} (v v' : Value) (h0 : 1 ≤ r.f0) (h1 : r.f0 ≤ 64) : ((logC C L v).setIfInBounds (2 + r.f0.toNat) (.int .i64 r.f1)).setIfInBounds 1 v' = logC C (L ++ [r]) v' := by
  apply Array.ext'
  unfold logC
  apply List.ext_getElem?
  intro i
  simp only [Array.toList_setIfInBounds, List.getElem?_set]
  match i with
  | 0 => simp
  | 1 => simp
  | i + 2 =>
    rw [if_neg (by omega)]
    simp only [List.getElem?_cons_succ, List.getElem?_map, List.length_cons, List.length_map, List.length_range]
    by_cases hi : i < 65
    · rw [List.getElem?_range hi, Option.map_some, Option.map_some, lastOf_snoc]
      by_cases e : r.f0 = (i : Int)
      · rw [if_pos (by omega), if_pos (by omega), if_pos e]
      · rw [if_neg (by omega), if_neg e]
    · rw [if_neg (by omega), List.getElem?_eq_none (by simp; omega)]
      rfl
theorem logC_size (C : Int) (L : List Rnd) (v : Value) : (logC C L v).size = 67 := by unfold logC; simp
theorem zeroLog (w : World) : Sem.run Try.prog (zeroValue 53) w = .ok (.agg (logC 0 [] (.slice none 0 0))) w := by rfl
theorem logC_ne (C : Int) (L : List Rnd) (v : Value) : (logC C L v = #[]) = False := by
  refine eq_false (fun h => ?_)
  have := logC_size C L v
  rw [h] at this
  exact absurd this (by decide)
theorem logC_set0 (C C' : Int) (L : List Rnd) (v : Value) : (logC C L v).setIfInBounds 0 (.int .i64 C') = logC C' L v := by
  unfold logC
  rw [List.setIfInBounds_toArray, List.set_cons_zero]
end Go.Proofs.Ytjmoncfgoaaekaa.J
