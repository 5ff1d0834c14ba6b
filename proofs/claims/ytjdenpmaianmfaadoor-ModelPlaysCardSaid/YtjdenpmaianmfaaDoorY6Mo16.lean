/- What is kept from step to step of the Model, in plain Lean; an act, of any kind. -/
import Derived.Test.YtjdenpmaianmfaaDoorY6Ky2
import Derived.Test.YtjdenpmaianmfaaDoorY6Q11
namespace Go.Proofs.YtjdenpmaianmfaaDoor.J
set_option maxHeartbeats 16000000
set_option maxRecDepth 100000
set_option linter.unusedSimpArgs false
set_option linter.unusedVariables false
open Go RowKit YtjdenpmaianmfaaDoorW.PrintWords YtjdenpmaianmfaaDoorW.PrintLast YtjdenpmaianmfaaDoorW.PrintMore Q YtjdenpmaianmfaaDoor.Sep YtjdenpmaianmfaaDoor.Pure
theorem blk8_ {w : World} {g : Nat} {t : TypeId} {v0 v1 v2 v3 v4 v5 v6 v7 : Value} (h : w.heap[g]? = some (.cells #[v0, v1, v2, v3, v4, v5, v6, v7] t (0, 0))) : w.cell? ⟨g, 0, none⟩ = some v0 ∧ w.cell? ⟨g, 1, none⟩ = some v1 ∧ w.cell? ⟨g, 2, none⟩ = some v2 ∧ w.cell? ⟨g, 3, none⟩ = some v3 ∧ w.cell? ⟨g, 4, none⟩ = some v4 ∧ w.cell? ⟨g, 5, none⟩ = some v5 ∧ w.cell? ⟨g, 6, none⟩ = some v6 ∧ w.cell? ⟨g, 7, none⟩ = some v7 ∧ ∀ i, w.frozen? ⟨g, i, none⟩ = false := ⟨(blk_cell h 0).trans rfl, (blk_cell h 1).trans rfl, (blk_cell h 2).trans rfl, (blk_cell h 3).trans rfl, (blk_cell h 4).trans rfl, (blk_cell h 5).trans rfl, (blk_cell h 6).trans rfl, (blk_cell h 7).trans rfl, fun i => blk_frozen h i⟩
section
variable {N : Nat → Prop} {w : World} {g gj gd gp : Nat} {jp : Value} {jo jm o mtu push : Int} {rJ rK rP : List (List Value)} {L K P : List Rnd7} {U : List Upd7}
end
end Go.Proofs.YtjdenpmaianmfaaDoor.J
namespace Go.Proofs.YtjdenpmaianmfaaDoor.J
set_option linter.unusedSimpArgs false
set_option linter.unusedVariables false
open Go RowKit YtjdenpmaianmfaaDoorW.PrintWords YtjdenpmaianmfaaDoorW.PrintLast YtjdenpmaianmfaaDoorW.PrintMore Q YtjdenpmaianmfaaDoor.Sep YtjdenpmaianmfaaDoor.Pure
theorem rd_mem {L : List Rnd7} {x : Int} (h0 : 0 ≤ x) (h1 : x < L.length) : rd_T35 L x ∈ L := by
 have hl : x.toNat < L.length := by omega
 show L.getD x.toNat _ ∈ L
 rw [List.getD_eq_getElem?_getD, List.getElem?_eq_getElem hl]
 exact List.getElem_mem hl
def Few (m : Nat) (L : List Rnd7) : Prop := ∀ r ∈ L, r.f2.length ≤ m
theorem Few.bnd {m : Nat} {L : List Rnd7} (h : Few m L) (hm : m ≤ 1000000) : Aside0 (bnd L) := ⟨fun x h0 h1 => Nat.le_trans (h _ (rd_mem h0 h1)) hm⟩
theorem Few.app {m : Nat} {L M : List Rnd7} (h : Few m L) (k : Few m M) : Few m (L ++ M) := fun r hr => (List.mem_append.1 hr).elim (h r) (k r)
theorem Few.one {m : Nat} {r : Rnd7} (h : r.f2.length ≤ m) : Few m [r] := fun q hq => by rw [List.mem_singleton] at hq; subst hq; exact h
theorem Few.drop {m : Nat} {L : List Rnd7} (h : Few m L) (k : Nat) : Few m (L.drop k) := fun r hr => h r (List.mem_of_mem_drop hr)
theorem Few.mono {m n : Nat} {L : List Rnd7} (h : Few m L) (k : m ≤ n) : Few n L := fun r hr => Nat.le_trans (h r hr) k
theorem Few.flat {m : Nat} : ∀ {L : List Rnd7}, Few m L → (flatR L).length ≤ m * L.length
 | [], _ => by simp [flatR]
 | r :: L, h => by
  have ih := Few.flat (L := L) (fun q hq => h q (List.mem_cons_of_mem _ hq))
  have h1 := h r List.mem_cons_self
  have e : flatR (r :: L) = r.f2 ++ flatR L := by unfold flatR; rw [List.flatMap_cons]
  rw [e, List.length_append, List.length_cons, Nat.mul_succ]
  omega
def ownR (o : Int) (K : List Rnd7) : List Rnd7 := K.filter fun r => decide (r.f0 = o)
theorem ownR_yes {o : Int} {K : List Rnd7} {r : Rnd7} (h : r.f0 = o) : ownR o (K ++ [r]) = ownR o K ++ [r] := by
 unfold ownR
 rw [List.filter_append, List.filter_cons, if_pos (decide_eq_true h)]
 rfl
theorem ownR_no {o : Int} {K : List Rnd7} {r : Rnd7} (h : r.f0 ≠ o) : ownR o (K ++ [r]) = ownR o K := by
 unfold ownR
 rw [List.filter_append, List.filter_cons, if_neg (by simpa using h)]
 simp
theorem ownR_len (o : Int) (K : List Rnd7) : (ownR o K).length ≤ K.length := List.length_filter_le _ _
section
variable {N : Nat → Prop} {w : World} {g gj gd gp : Nat} {jm o mtu push x : Int} {rJ rK rP : List (List Value)} {L K P : List Rnd7} {U : List Upd7}
end
end Go.Proofs.YtjdenpmaianmfaaDoor.J
namespace Go.Proofs.YtjdenpmaianmfaaDoor.J
set_option linter.unusedSimpArgs false
set_option linter.unusedVariables false
open Go RowKit YtjdenpmaianmfaaDoorW.PrintWords YtjdenpmaianmfaaDoorW.PrintLast YtjdenpmaianmfaaDoorW.PrintMore Q YtjdenpmaianmfaaDoor.Sep YtjdenpmaianmfaaDoor.Pure
def cellIs (p : Addr) (v : Value) : HP where
 P := fun F w => F p.block ∧ w.cell? p = some v
 move := fun h _ hk => ⟨h.1, (World.cell?_of_block (hk _ h.1 (World.block_lt_of_cell? _ _ h.2))).trans h.2⟩
 mono := fun h hf => ⟨hf _ h.1, h.2⟩
 bound := fun h => ⟨⟨h.1, World.block_lt_of_cell? _ _ h.2⟩, h.2⟩
theorem mark {N : Nat → Prop} {w : World} {l : List HP} {i n c : Nat} {ad : Addr} {v : Value} {L : List Rnd} (h : Own N w l) (hi : l[i]? = some (row kR Sep.TR (.slice (some ad) n c) L)) (p : Int) (p0 : 0 ≤ p) (p1 : p < n) (hc : w.cell? ⟨(ad.add (p.toNat * 3)).block, (ad.add (p.toNat * 3)).off + 2, none⟩ = some v) :
  Own N w (l.set i (both (row kR Sep.TR (.slice (some ad) n c) L) (cellIs ⟨(ad.add (p.toNat * 3)).block, (ad.add (p.toNat * 3)).off + 2, none⟩ v))) :=
 h.conv hi _ (fun F hp _ => ⟨hp, by
  obtain ⟨ga, hga⟩ := R_some (show Kd.R kR Sep.TR w 0 F (.slice (some ad) n c) L from hp) (by omega)
  injection hga with hga
  subst hga
  obtain ⟨_, _, hF, _⟩ := R_at (show Kd.R kR Sep.TR w 0 F (.slice (some ⟨ga, 0, none⟩) n c) L from hp)
  show F ((⟨ga, 0, none⟩ : Addr).add (p.toNat * 3)).block
  rw [add_block]
  exact hF, hc⟩)
def leadR (rows : List (List Value)) (xs : List Rnd7) : HP where
 P := fun F w => Lead F w rows xs
 move := fun h _ hk => ⟨h.1, fun j x c a b => Kd.FK_step (h.2 j x c a b) hk⟩
 mono := fun h hf => h.mono hf
 bound := fun h => ⟨h.1, fun j x c a b => Kd.FK_bound (h.2 j x c a b)⟩
theorem apart {N : Nat → Prop} {w : World} {l : List HP} {i : Nat} {v : Value} {K : List Rnd7} (h : Own N w l) (hi : l[i]? = some (nrow kR7 tR7 v K)) : ∃ rows : List (List Value), rows.length = K.length ∧ Own N w (l.set i (nrow (Kd.raw 3) tR7 v rows) ++ [leadR rows K]) := by
 have q := h.conv hi (ex fun rows => star (nrow (Kd.raw 3) tR7 v rows) (leadR rows K)) (fun F hp hF => by
  obtain ⟨h0, rows, hl, hR, hf⟩ := (show Kd.N kR7 tR7 w 0 F v K from hp)
  refine ⟨rows, fun k => some k = v.ownBlock, fun k => F k ∧ some k ≠ v.ownBlock, ?_, ⟨hl, hf⟩, fun k a b => b.2 a, fun k a => h0 k a.symm, fun k a => a.1⟩
  exact Kd.R_N hR)
 have hlt : i < l.length := (List.getElem?_eq_some_iff.1 hi).1
 obtain ⟨rows, q2⟩ := q.of_ex (List.getElem?_set_self hlt)
 rw [List.set_set] at q2
 have q3 := q2.split (List.getElem?_set_self hlt)
 rw [List.set_set] at q3
 have hi2 : (l.set i (nrow (Kd.raw 3) tR7 v rows) ++ [leadR rows K])[l.length]? = some (leadR rows K) := by
  rw [List.getElem?_append_right (by simp), List.length_set, Nat.sub_self]
  rfl
 obtain ⟨F, hF⟩ := q3.fact hi2
 exact ⟨rows, hF.1, q3⟩
def bigs : List HP → HP
 | [] => emp
 | x :: xs => star x (bigs xs)
theorem bigs_out : ∀ {xs : List HP} {i : Nat} {x : HP} {F : Nat → Prop} {w : World}, xs[i]? = some x → (bigs xs).P F w → (star x (bigs (xs.set i emp))).P F w
 | [], i, x, F, w, h, _ => by simp at h
 | y :: xs, 0, x, F, w, h, hp => by
  have e : y = x := by simpa using h
  subst e
  obtain ⟨F1, F2, h1, h2, hd, g1, g2⟩ := hp
  exact ⟨F1, F2, h1, ⟨fun _ => False, F2, trivial, h2, fun _ a _ => a, fun _ a => a.elim, fun _ a => a⟩, hd, g1, g2⟩
 | y :: xs, i + 1, x, F, w, h, hp => by
  have h' : xs[i]? = some x := by simpa using h
  obtain ⟨F1, F2, h1, h2, hd, g1, g2⟩ := hp
  obtain ⟨G1, G2, k1, k2, kd, q1, q2⟩ := bigs_out h' h2
  exact ⟨G1, fun k => F1 k ∨ G2 k, k1, ⟨F1, G2, h1, k2, fun k a b => hd k a (q2 k b), fun k a => .inl a, fun k a => .inr a⟩, fun k a b => b.elim (fun b => hd k b (q1 k a)) (fun b => kd k a b), fun k a => g2 k (q1 k a), fun k a => a.elim (g1 k) (fun a => g2 k (q2 k a))⟩
theorem bigs_in : ∀ {xs : List HP} {i : Nat} {x : HP} {F : Nat → Prop} {w : World}, i < xs.length → (star x (bigs (xs.set i emp))).P F w → (bigs (xs.set i x)).P F w
 | [], i, x, F, w, h, _ => by simp at h
 | y :: xs, 0, x, F, w, h, hp => by
  obtain ⟨F1, F2, h1, h2, hd, g1, g2⟩ := hp
  obtain ⟨G1, G2, k1, k2, kd, q1, q2⟩ := (show (star emp (bigs xs)).P F2 w from h2)
  exact ⟨F1, G2, h1, k2, fun k a b => hd k a (q2 k b), g1, fun k a => g2 k (q2 k a)⟩
 | y :: xs, i + 1, x, F, w, h, hp => by
  obtain ⟨F1, F2, h1, h2, hd, g1, g2⟩ := hp
  obtain ⟨G1, G2, k1, k2, kd, q1, q2⟩ := (show (star y (bigs (xs.set i emp))).P F2 w from h2)
  have hi : i < xs.length := by simpa using h
  refine ⟨G1, fun k => F1 k ∨ G2 k, k1, bigs_in hi ⟨F1, G2, h1, k2, fun k a b => hd k a (q2 k b), fun k a => .inl a, fun k a => .inr a⟩, fun k a b => b.elim (fun b => hd k b (q1 k a)) (fun b => kd k a b), fun k a => g2 k (q1 k a), fun k a => a.elim (g1 k) (fun a => g2 k (q2 k a))⟩
theorem bigs_snoc : ∀ {xs : List HP} {x : HP} {F : Nat → Prop} {w : World}, (star x (bigs xs)).P F w → (bigs (xs ++ [x])).P F w
 | [], x, F, w, hp => hp
 | y :: xs, x, F, w, hp => by
  obtain ⟨F1, F2, h1, h2, hd, g1, g2⟩ := hp
  obtain ⟨G1, G2, k1, k2, kd, q1, q2⟩ := (show (star y (bigs xs)).P F2 w from h2)
  exact ⟨G1, fun k => F1 k ∨ G2 k, k1, bigs_snoc ⟨F1, G2, h1, k2, fun k a b => hd k a (q2 k b), fun k a => .inl a, fun k a => .inr a⟩, fun k a b => b.elim (fun b => hd k b (q1 k a)) (fun b => kd k a b), fun k a => g2 k (q1 k a), fun k a => a.elim (g1 k) (fun a => g2 k (q2 k a))⟩
def pool (ps : List (List (List Value) × List Rnd7)) : HP where
 P := fun F w => ∀ p ∈ ps, Lead F w p.1 p.2
 move := fun h _ hk p hp => ⟨(h p hp).1, fun j x c a b => Kd.FK_step ((h p hp).2 j x c a b) hk⟩
 mono := fun h hf p hp => (h p hp).mono hf
 bound := fun h p hp => ⟨(h p hp).1, fun j x c a b => Kd.FK_bound ((h p hp).2 j x c a b)⟩
theorem pool_get {ps : List (List (List Value) × List Rnd7)} {p : List (List Value) × List Rnd7} {F : Nat → Prop} {w : World} (h : (pool ps).P F w) (hp : p ∈ ps) : Lead F w p.1 p.2 := h p hp
theorem pool_push {ps : List (List (List Value) × List Rnd7)} {i : Nat} {rJ : List (List Value)} {J : List Rnd7} {F : Nat → Prop} {w : World} {A : Option Addr} {c : Nat} {r : Rnd7} (hi : ps[i]? = some (rJ, J)) (h : (star (pool ps) (nrow kU7 tU7 (.slice A r.f2.length c) r.f2)).P F w) (hc : r.f2.length ≤ c) : (pool (ps.set i (rJ ++ [rw3 r.f0 r.f1 (.slice A r.f2.length c)], J ++ [r]))).P F w := by
 obtain ⟨F1, F2, h1, h2, hd, g1, g2⟩ := h
 intro p hp
 rcases List.mem_or_eq_of_mem_set hp with hp | hp
 ·exact (h1 p hp).mono g1
 ·subst hp
  have q := h1 _ (List.mem_of_getElem? hi)
  exact (q.mono g1).append (Lead.one hc (Kd.F_mono (Kd.N_F h2) g2))
theorem lead_at {N : Nat → Prop} {w : World} {rows : List (List Value)} {xs : List Rnd7} {i : Nat} {c : List Value} {r : Rnd7} (h : Lead N w rows xs) (hr : rows[i]? = some c) (hx : xs[i]? = some r) : Lead N w [c] [r] := by
 refine ⟨rfl, fun j x d a b => ?_⟩
 cases j with
 | zero =>
  have e1 : r = x := by simpa using a
  have e2 : c = d := by simpa using b
  subst e1 e2
  exact h.2 i _ _ hx hr
 | succ j => simp at a
abbrev tMM : TypeId := 123
abbrev tMC : TypeId := 127
abbrev tMP : TypeId := 124
structure MCf where
 cl : Int
 win : Int
 push : Int
 pull : Int
 mtu : Int
 last : Int
structure MCl where
 e : Int
 J : List Rnd7
 k : Nat
 c : Nat
 U : List Upd7
abbrev RawR := List (List Value)
abbrev modC (cf : MCf) (vL vC : Value) : Array Value := #[cf.cl, cf.win, cf.push, cf.pull, cf.mtu, cf.last, vL, vC]
abbrev mclC (x : MCl) (vJ vU : Value) : Array Value := #[x.e, vJ, x.k, x.c, vU]
def ClI (g : Nat) (x : MCl) (rJ : RawR) : HP := ex fun vJ : Value => ex fun vU : Value => star (star (cells g (mclC x vJ vU) tMC) (nrow (Kd.raw 3) tR7 vJ rJ)) (nrow kU7 tU7 vU x.U)
abbrev clsI (qs : List (Nat × RawR)) (cls : List MCl) : List HP := List.zipWith (fun q x => ClI q.1 x q.2) qs cls
abbrev ptrs (qs : List (Nat × RawR)) : RawR := qs.map fun q => [pt q.1]
abbrev poolI (rL : RawR) (L : List Rnd7) (qs : List (Nat × RawR)) (cls : List MCl) : HP := pool ((rL, L) :: List.zipWith (fun q x => (q.2, x.J)) qs cls)
def ModO (gm : Nat) (cf : MCf) (L : List Rnd7) (cls : List MCl) : HP :=
 ex fun vL : Value => ex fun vC : Value => ex fun rL : RawR => ex fun qs : { qs : List (Nat × RawR) // qs.length = cls.length } =>
  star (star (star (star (cells gm (modC cf vL vC) tMM) (nrow (Kd.raw 3) tR7 vL rL)) (nrow (Kd.raw 1) tMP vC (ptrs qs.1))) (bigs (clsI qs.1 cls))) (poolI rL L qs.1 cls)
section
variable {N : Nat → Prop} {w : World} {gm : Nat} {cf : MCf} {L : List Rnd7} {cls : List MCl}
theorem ModO.open_ (h : Own N w [ModO gm cf L cls]) : ∃ (AL : Option Addr) (cL : Nat) (AC : Option Addr) (cC : Nat) (rL : RawR) (qs : List (Nat × RawR)), qs.length = cls.length ∧ rL.length = L.length ∧
  Own N w [cells gm (modC cf (.slice AL L.length cL) (.slice AC cls.length cC)) tMM, poolI rL L qs cls, bigs (clsI qs cls), nrow (Kd.raw 1) tMP (.slice AC cls.length cC) (ptrs qs), nrow (Kd.raw 3) tR7 (.slice AL L.length cL) rL] := by
 obtain ⟨vL, h1⟩ := h.of_ex (i := 0) rfl
 obtain ⟨vC, h2⟩ := h1.of_ex (i := 0) rfl
 obtain ⟨rL, h3⟩ := h2.of_ex (i := 0) rfl
 obtain ⟨⟨qs, hq⟩, h4⟩ := h3.of_ex (i := 0) rfl
 have h5 := h4.split (i := 0) rfl
 have h6 := h5.split (i := 0) rfl
 have h7 := h6.split (i := 0) rfl
 have h8 := h7.split (i := 0) rfl
 have hz : Own N w [cells gm (modC cf vL vC) tMM, poolI rL L qs cls, bigs (clsI qs cls), nrow (Kd.raw 1) tMP vC (ptrs qs), nrow (Kd.raw 3) tR7 vL rL] := h8
 obtain ⟨F, hF⟩ := hz.fact (i := 1) rfl
 have hl : rL.length = L.length := (hF (rL, L) List.mem_cons_self).1
 obtain ⟨AC, cC, rfl⟩ := hz.nslice (i := 3) rfl
 obtain ⟨AL, cL, rfl⟩ := hz.nslice (i := 4) rfl
 rw [hl, show (ptrs qs).length = cls.length by simp [hq]] at hz
 exact ⟨AL, cL, AC, cC, rL, qs, hq, hl, hz⟩
theorem ModO.shut {vL vC : Value} {rL : RawR} {qs : List (Nat × RawR)} (hq : qs.length = cls.length) (h : Own N w [cells gm (modC cf vL vC) tMM, poolI rL L qs cls, bigs (clsI qs cls), nrow (Kd.raw 1) tMP vC (ptrs qs), nrow (Kd.raw 3) tR7 vL rL]) : Own N w [ModO gm cf L cls] := by
 have h1 := h.join (i := 0) (j := 4) rfl rfl (by decide)
 have h2 := h1.join (i := 0) (j := 3) rfl rfl (by decide)
 have h3 := h2.join (i := 0) (j := 2) rfl rfl (by decide)
 have h4 := h3.join (i := 0) (j := 1) rfl rfl (by decide)
 exact (h4.conv (i := 0) rfl (ModO gm cf L cls) (fun F hp _ => ⟨vL, vC, rL, ⟨qs, hq⟩, hp⟩)).take 1
theorem clsI_get {qs : List (Nat × RawR)} {cls : List MCl} {i : Nat} {q : Nat × RawR} {x : MCl} (hq : qs[i]? = some q) (hx : cls[i]? = some x) : (clsI qs cls)[i]? = some (ClI q.1 x q.2) := by
 unfold clsI
 rw [List.getElem?_zipWith, hq, hx]
end
end Go.Proofs.YtjdenpmaianmfaaDoor.J
namespace Go.Proofs.YtjdenpmaianmfaaDoor.J
set_option linter.unusedSimpArgs false
set_option linter.unusedVariables false
open Go RowKit YtjdenpmaianmfaaDoorW.PrintWords YtjdenpmaianmfaaDoorW.PrintLast YtjdenpmaianmfaaDoorW.PrintMore Q YtjdenpmaianmfaaDoor.Sep YtjdenpmaianmfaaDoor.Pure
theorem star_swap {a b : HP} {F : Nat → Prop} {w : World} (h : (star a b).P F w) : (star b a).P F w := by
 obtain ⟨F1, F2, h1, h2, hd, g1, g2⟩ := h
 exact ⟨F2, F1, h2, h1, fun k x y => hd k y x, g2, g1⟩
theorem clsI_set {qs : List (Nat × RawR)} {cls : List MCl} (i : Nat) (q : Nat × RawR) (x : MCl) : (clsI qs cls).set i (ClI q.1 x q.2) = clsI (qs.set i q) (cls.set i x) := by
 apply List.ext_getElem?
 intro j
 unfold clsI
 by_cases h : i = j
 ·subst h
  rcases Nat.lt_or_ge i qs.length with h1 | h1
  ·rcases Nat.lt_or_ge i cls.length with h2 | h2
   ·rw [List.getElem?_set_self (by rw [List.length_zipWith]; omega), List.getElem?_zipWith, List.getElem?_set_self h1, List.getElem?_set_self h2]
   ·rw [List.getElem?_eq_none (by rw [List.length_set, List.length_zipWith]; omega), List.getElem?_eq_none (by rw [List.length_zipWith, List.length_set, List.length_set]; omega)]
  ·rw [List.getElem?_eq_none (by rw [List.length_set, List.length_zipWith]; omega), List.getElem?_eq_none (by rw [List.length_zipWith, List.length_set, List.length_set]; omega)]
 ·rw [List.getElem?_set_ne h, List.getElem?_zipWith, List.getElem?_zipWith, List.getElem?_set_ne h, List.getElem?_set_ne h]
theorem ptrs_set {qs : List (Nat × RawR)} {i : Nat} {q : Nat × RawR} (r : RawR) (hq : qs[i]? = some q) : ptrs (qs.set i (q.1, r)) = ptrs qs := by
 unfold ptrs
 rw [List.map_set]
 apply List.ext_getElem?
 intro j
 by_cases h : i = j
 ·subst h
  have h1 := (List.getElem?_eq_some_iff.1 hq).1
  rw [List.getElem?_set_self (by rw [List.length_map]; exact h1), List.getElem?_map, hq]
  rfl
 ·rw [List.getElem?_set_ne h]
section
variable {N : Nat → Prop} {w : World} {P0 P1 P3 P4 : HP} {qs : List (Nat × RawR)} {cls : List MCl} {i : Nat} {q : Nat × RawR} {x : MCl}
theorem cl_out (hq : qs[i]? = some q) (hx : cls[i]? = some x) (h : Own N w [P0, P1, bigs (clsI qs cls), P3, P4]) : ∃ (AJ : Option Addr) (cJ : Nat) (AU : Option Addr) (cU : Nat),
  Own N w [P0, P1, bigs ((clsI qs cls).set i emp), P3, P4, cells q.1 (mclC x (.slice AJ q.2.length cJ) (.slice AU x.U.length cU)) tMC, nrow kU7 tU7 (.slice AU x.U.length cU) x.U, nrow (Kd.raw 3) tR7 (.slice AJ q.2.length cJ) q.2] := by
 have h1 := h.conv (i := 2) rfl (star (bigs ((clsI qs cls).set i emp)) (ClI q.1 x q.2)) (fun F hp _ => star_swap (bigs_out (clsI_get hq hx) hp))
 have h2 := h1.split (i := 2) rfl
 obtain ⟨vJ, h3⟩ := h2.of_ex (i := 5) rfl
 obtain ⟨vU, h4⟩ := h3.of_ex (i := 5) rfl
 have h5 := h4.split (i := 5) rfl
 have h6 := h5.split (i := 5) rfl
 have hz : Own N w [P0, P1, bigs ((clsI qs cls).set i emp), P3, P4, cells q.1 (mclC x vJ vU) tMC, nrow kU7 tU7 vU x.U, nrow (Kd.raw 3) tR7 vJ q.2] := h6
 obtain ⟨AU, cU, rfl⟩ := hz.nslice (i := 6) rfl
 obtain ⟨AJ, cJ, rfl⟩ := hz.nslice (i := 7) rfl
 exact ⟨AJ, cJ, AU, cU, hz⟩
theorem cl_in {vJ vU : Value} {rJ : RawR} {x' : MCl} (hq : qs[i]? = some q) (hx : cls[i]? = some x) (h : Own N w [P0, P1, bigs ((clsI qs cls).set i emp), P3, P4, cells q.1 (mclC x' vJ vU) tMC, nrow kU7 tU7 vU x'.U, nrow (Kd.raw 3) tR7 vJ rJ]) : Own N w [P0, P1, bigs (clsI (qs.set i (q.1, rJ)) (cls.set i x')), P3, P4] := by
 have h1 := h.join (i := 5) (j := 7) rfl rfl (by decide)
 have h2 := h1.join (i := 5) (j := 6) rfl rfl (by decide)
 have h3 := h2.conv (i := 5) rfl (ClI q.1 x' rJ) (fun F hp _ => ⟨vJ, vU, hp⟩)
 have h4 := h3.join (i := 2) (j := 5) rfl rfl (by decide)
 have hi : i < (clsI qs cls).length := by
  have a := (List.getElem?_eq_some_iff.1 hq).1
  have b := (List.getElem?_eq_some_iff.1 hx).1
  unfold clsI
  rw [List.length_zipWith]
  omega
 have h5 := h4.conv (i := 2) rfl (bigs (clsI (qs.set i (q.1, rJ)) (cls.set i x'))) (fun F hp _ => by
  rw [← clsI_set i (q.1, rJ) x']
  exact bigs_in hi (star_swap hp))
 exact h5.take 5
end
end Go.Proofs.YtjdenpmaianmfaaDoor.J
namespace Go.Proofs.YtjdenpmaianmfaaDoor.J
set_option linter.unusedSimpArgs false
set_option linter.unusedVariables false
open Go RowKit YtjdenpmaianmfaaDoorW.PrintWords YtjdenpmaianmfaaDoorW.PrintLast YtjdenpmaianmfaaDoorW.PrintMore Q YtjdenpmaianmfaaDoor.Sep YtjdenpmaianmfaaDoor.Pure
theorem leadF {N : Nat → Prop} {w : World} {A : Option Addr} {n c : Nat} {rows : RawR} {X : List Rnd7} (h : (nrow (Kd.raw 3) tR7 (.slice A n c) rows).P N w) (hl : Lead N w rows X) (hn : n = rows.length) : Kd.F kR7 w N A X.length X := by
 intro W' hW
 have h3 : Kd.C (Kd.raw 3) W' A n rows := Kd.N_F h W' hW
 refine ⟨rfl, (by have := h3.2.1; rw [hn, hl.1] at this; exact this), fun hp => ?_⟩
 obtain ⟨ad, he, hc⟩ := h3.2.2 (by rw [hn, hl.1]; exact hp)
 refine ⟨ad, he, fun j x hx => ?_⟩
 have hj : j < rows.length := by rw [hl.1]; exact (List.getElem?_eq_some_iff.1 hx).1
 obtain ⟨c', hcl, hK, hcc⟩ := hc j _ (List.getElem?_eq_getElem hj)
 have hk := hl.2 j x _ hx (List.getElem?_eq_getElem hj) W' hW
 refine ⟨c', hcl, ?_, hcc⟩
 rw [show c' = rows[j] from hK.1]
 exact hk
set_option maxHeartbeats 16000000
set_option maxRecDepth 100000
def OfI (N : Nat → Prop) (w : World) (og : Int) (L : List Rnd7) (v i : Value) (wr : World) : Prop := ∃ (x : Int), 0 ≤ x ∧ x ≤ (L.length : Int) ∧ i = .int .i64 x ∧ v = .int .i64 ((ownR og (upR L x)).length : Int) ∧ Aside0 (Own N wr []) ∧ Aside0 (KeepS N w wr)
theorem of_yes {og : Int} {L : List Rnd7} {x : Int} (h0 : 0 ≤ x) (h1 : x < L.length) (h : (rd_T35 L x).f0 = og) : ((ownR og (upR L (x + 1))).length : Int) = ((ownR og (upR L x)).length : Int) + 1 := by
 rw [upR_step L x h0 h1, ownR_yes h, List.length_append]
 rfl
theorem of_no {og : Int} {L : List Rnd7} {x : Int} (h0 : 0 ≤ x) (h1 : x < L.length) (h : (rd_T35 L x).f0 ≠ og) : ((ownR og (upR L (x + 1))).length : Int) = ((ownR og (upR L x)).length : Int) := by
 rw [upR_step L x h0 h1, ownR_no h]
theorem MOf {N : Nat → Prop} {w : World} (og : Int) (A0 : Option Addr) (c0 : Nat) (L : List Rnd7) (h : Own N w []) (hF : Kd.F k35 w N A0 L.length L) (hL : L.length ≤ 1000000) :
  Calls Tryd.prog 84 #[og, .slice A0 L.length c0] w fun e_ w' => e_ = .returned (.int .i64 ((ownR og L).length : Int)) ∧ Own N w' [] ∧ KeepS N w w' := by
 have HRL0 := Am hF
 have HL := Am hL
 have O0 : Aside0 (Own N w []) := ⟨h⟩
 have K0 : Aside0 (KeepS N w w) := ⟨KeepS.refl _ _⟩
 clear h hF hL
 go_enter Tryd.func84, Tryd.ntmps84
 go_wp2
 go_loopw [5, 10] (fun v i wr => OfI N w og L v i wr) (fun _ i _ => L.length - (intOf i).toNat)
 case atStart => exact ⟨0, by omega, by omega, rfl, rfl, O0, K0⟩
 case round =>
  obtain ⟨x, hx0, hx1, rfl, rfl, OA, KA⟩ := hrel
  have hF2 := keepF HRL0.out KA.out
  have hl := HL.out
  by_cases hlt : x < (L.length : Int)
  ·obtain ⟨ad, A3, c3, e3, x0, x1, x2, hl3, hF3⟩ := at_F hF2 x hx0 hlt
   cases e3
   have hs2 : wrap64 (x + 1) = x + 1 := by unfold wrap64; omega
   have hp := eq_true hx0
   have hq := eq_true hlt
   have hd := decide_eq_true hlt
   have HX := Am (And.intro hx0 hlt)
   have hc_ : (ownR og (upR L x)).length ≤ L.length := Nat.le_trans (ownR_len _ _) (upR_len L x)
   obtain ⟨m, hm⟩ : ∃ m : Nat, (ownR og (upR L x)).length = m := ⟨_, rfl⟩
   rw [hm] at hc_ ⊢
   have hs3 : wrap64 ((m : Int) + 1) = (m : Int) + 1 := by unfold wrap64; omega
   have HM := Am hm
   have HMB := Am hc_
   by_cases ho : (rd_T35 L x).f0 = og
   ·have do_ : ((rd_T35 L x).f0 == og) = true := beq_iff_eq.mpr ho
    have HE : Aside0 (((ownR og (upR L (x + 1))).length : Int) = (m : Int) + 1) := ⟨by rw [of_yes HX.out.1 HX.out.2 ho, hm]⟩
    clear hF3 hF2 hl3 hl hx0 hx1 hlt hc_ hm ho
    have O1 : Aside0 (Own N wr []) := ⟨OA.out⟩
    have K1 : Aside0 (KeepS N w wr) := ⟨KA.out⟩
    clear OA KA
    go_wp2_with (first | ((with_reducible refine gD 7 rfl ?_); refine bP 7 #[.int .i64 0, .int .i64 0, .slice none 0 0] 35 O1.out ?_; intro gr w2 o_ k_; obtain ⟨O2, K2⟩ := ok_ K1 o_ k_; clear O1 K1 o_ k_; have a0 := k3_ O2 0) | ((with_reducible refine gT 35 7 rfl ?_); refine wS 0 0 [.int .i64 (rd_T35 L x).f0, .int .i64 (rd_T35 L x).f1, .slice A3 (rd_T35 L x).f2.length c3] O2 ?_; intro w3 o_ k_; obtain ⟨O3, K3⟩ := ok_ K2 o_ k_; clear a0 O2 K2 o_ k_; have a0 := k3_ O3 0))
    go_roundw
    case rel => exact ⟨x + 1, by have := HX.out; omega, by have := HX.out; omega, int_eq17 (by unfold wrap64; have := HX.out; have := HL.out; omega), int_eq17 (by rw [HE.out]; first | rfl | (unfold wrap64; have := HL.out; have := HMB.out; omega)), ⟨O3.out.take 0⟩, K3⟩
    case measure => have := HX.out; simp [intOf]; omega
   ·have do_ : ((rd_T35 L x).f0 == og) = false := beq_eq_false_iff_ne.mpr ho
    have HE : Aside0 (((ownR og (upR L (x + 1))).length : Int) = (m : Int)) := ⟨by rw [of_no HX.out.1 HX.out.2 ho, hm]⟩
    clear hF3 hF2 hl3 hl hx0 hx1 hlt hc_ hm ho
    have O1 : Aside0 (Own N wr []) := ⟨OA.out⟩
    have K1 : Aside0 (KeepS N w wr) := ⟨KA.out⟩
    clear OA KA
    go_wp2_with (first | ((with_reducible refine gD 7 rfl ?_); refine bP 7 #[.int .i64 0, .int .i64 0, .slice none 0 0] 35 O1.out ?_; intro gr w2 o_ k_; obtain ⟨O2, K2⟩ := ok_ K1 o_ k_; clear O1 K1 o_ k_; have a0 := k3_ O2 0) | ((with_reducible refine gT 35 7 rfl ?_); refine wS 0 0 [.int .i64 (rd_T35 L x).f0, .int .i64 (rd_T35 L x).f1, .slice A3 (rd_T35 L x).f2.length c3] O2 ?_; intro w3 o_ k_; obtain ⟨O3, K3⟩ := ok_ K2 o_ k_; clear a0 O2 K2 o_ k_; have a0 := k3_ O3 0))
    go_roundw
    case rel => exact ⟨x + 1, by have := HX.out; omega, by have := HX.out; omega, int_eq17 (by unfold wrap64; have := HX.out; have := HL.out; omega), int_eq17 (by rw [HE.out]), ⟨O3.out.take 0⟩, K3⟩
    case measure => have := HX.out; simp [intOf]; omega
  ·have hxe : x = (L.length : Int) := by omega
   subst hxe
   have hd : decide ((L.length : Int) < (L.length : Int)) = false := decide_eq_false (Int.lt_irrefl _)
   rw [upR_all]
   clear hlt hx0 hx1 hF2 hl
   go_wp2
   go_ret
   exact ⟨rfl, OA.out, KA.out⟩
def McI (N : Nat → Prop) (w : World) (L : List S35) (v i : Value) (wr : World) : Prop := ∃ (x : Int) (A2 : Option Addr) (c2 : Nat), 0 ≤ x ∧ x ≤ (L.length : Int) ∧ i = .int .i64 x ∧ v = .slice A2 (upR L x).length c2 ∧ Aside0 (Own N wr [row k35 35 (.slice A2 (upR L x).length c2) (upR L x)]) ∧ Aside0 (KeepS N w wr)
theorem MCopies {N : Nat → Prop} {w : World} (A0 : Option Addr) (c0 : Nat) (L : List S35) (h : Own N w []) (hF : Kd.F k35 w N A0 L.length L) (hL : L.length ≤ 1000000) (HU : Aside0 (∀ x : Int, 0 ≤ x → x < L.length → (rd_T35 L x).f2.length ≤ 1000000)) :
  Calls Tryd.prog 76 #[.slice A0 L.length c0] w fun e_ w' => ∃ A1 c1, e_ = .returned (.slice A1 L.length c1) ∧ Own N w' [row k35 35 (.slice A1 L.length c1) L] ∧ KeepS N w w' := by
 have HRL0 := Am hF
 have HL := Am hL
 have O0 : Aside0 (Own N w [row k35 35 (.slice none 0 0) []]) := ⟨h.push_emp (row k35 35 (.slice none 0 0) []) (fun w => Kd.R_nil _ _ _ _ _)⟩
 have K0 : Aside0 (KeepS N w w) := ⟨KeepS.refl _ _⟩
 clear h hF hL
 go_enter Tryd.func76, Tryd.ntmps76
 go_wp2
 go_loopw [3, 8] (fun v i wr => McI N w L v i wr) (fun _ i _ => L.length - (intOf i).toNat)
 case atStart => exact ⟨0, none, 0, by omega, by omega, rfl, rfl, O0, K0⟩
 case round =>
  obtain ⟨x, A2, c2, hx0, hx1, rfl, rfl, OA, KA⟩ := hrel
  have hF2 := keepF HRL0.out KA.out
  have hl := HL.out
  by_cases hlt : x < (L.length : Int)
  ·obtain ⟨ad, A3, c3, e3, x0, x1, x2, hl3, hF3⟩ := at_F hF2 x hx0 hlt
   cases e3
   have HC3 := Am hl3
   have HF3 := Am hF3
   have hs2 : wrap64 (x + 1) = x + 1 := by unfold wrap64; omega
   have hp := eq_true hx0
   have hq := eq_true hlt
   have hd := decide_eq_true hlt
   have HX := Am (And.intro hx0 hlt)
   have HS : Aside0 (upR L (x + 1) = (upR L x) ++ [(rd_T35 L x)]) := ⟨upR_step L x hx0 hlt⟩
   have HFL : Aside0 ((upR L x).length ≤ 1000000) := ⟨Nat.le_trans (upR_len L x) hl⟩
   have HCP : Aside0 ((rd_T35 L x).f2.length ≤ 1000000) := ⟨HU.out x hx0 hlt⟩
   clear hF3 hF2 hl3 hl hx0 hx1 hlt
   have O1 : Aside0 (Own N wr [row k35 35 (.slice A2 (upR L x).length c2) (upR L x)]) := ⟨OA.out⟩
   have K1 : Aside0 (KeepS N w wr) := ⟨KA.out⟩
   have HRI_1 : Aside0 (Kd.F k32 wr N A3 (rd_T35 L x).f2.length (rd_T35 L x).f2) := ⟨HF3.out⟩
   clear OA KA HF3
   go_wp2_with (first | ((with_reducible refine gD 5 rfl ?_); refine bP 5 #[.int .i64 0, .int .i64 0, .slice none 0 0] 35 O1.out ?_; intro gr w2 o_ k_; obtain ⟨O2, K2⟩ := ok_ K1 o_ k_; have HRI_2 := Am (keepF HRI_1.out k_); clear O1 K1 HRI_1 o_ k_; have a1 := k3_ O2 1) | ((with_reducible refine gT 35 5 rfl ?_); refine wS 1 0 [.int .i64 (rd_T35 L x).f0, .int .i64 (rd_T35 L x).f1, .slice A3 (rd_T35 L x).f2.length c3] O2 ?_; intro w3 o_ k_; obtain ⟨O3, K3⟩ := ok_ K2 o_ k_; have HRI_3 := Am (keepF HRI_2.out k_); clear a1 O2 K2 HRI_2 o_ k_; have a1 := k3_ O3 1) | ((with_reducible refine gC 72 rfl ?_); refine gP (some 14) Tryd.func72 #[.agg #[.int .i64 (rd_T35 L x).f0, .int .i64 (rd_T35 L x).f1, .slice A3 (rd_T35 L x).f2.length c3]] ?_; refine (round_Copy.calls (rd_T35 L x).f0 (rd_T35 L x).f1 _ _ (rd_T35 L x).f2 (rd_T35 L x).f0 (rd_T35 L x).f1 (rd_T35 L x).f2 _ (Kd.F_now HRI_3.out) HC3.out (copyC _ _ _ HCP.out)).mono ?_; rintro e_ w4 ⟨v_, rfl, hR_, hb_⟩; obtain ⟨A4, c4, e__⟩ := Kd.R_slice hR_; subst e__; refine ⟨_, rfl, ?_⟩; have o_ := O3.out.pushW hb_ (Nat.le_refl _) hR_; have k_ := KeepS.of_below (N := N) hb_; obtain ⟨O4, K4⟩ := ok_ K3 o_ k_; have HRI_4 := Am (keepF HRI_3.out k_); clear a1 O3 K3 HRI_3 o_ k_ hb_ hR_; have a1 := k3_ O4 1; have O5 : Aside0 (Own N w4 [row k35 35 (.slice A2 (upR L x).length c2) (upR L x), cells gr #[.int .i64 (rd_T35 L x).f0, .int .i64 (rd_T35 L x).f1, .slice A3 (rd_T35 L x).f2.length c3] 35, elem k35 (rd_T35 L x) [.int .i64 (rd_T35 L x).f0, .int .i64 (rd_T35 L x).f1, .slice A4 (rd_T35 L x).f2.length c4]]) := ⟨rowElem (rd_T35 L x) (i := 2) O4.out rfl⟩; clear O4) | ((with_reducible refine gate_builtin (b := .append) (xs := #[.tmp 12, .tmp 15]) rfl ?_); at_builtin; refine Own.appendR k35 O5.out (i := 0) (j := 2) rfl rfl (by decide) rfl (.tmp 12) (.tmp 15) 40 ((.agg #[.int .i64 0, .int .i64 0, .slice none 0 0])) 40 rfl Tryd.underlying40 infoR rfl (by decide) (by decide) rfl rfl (by have := HFL.out; omega) ?_; intro A5 c5 w6 o_ k_; obtain ⟨O6, K6⟩ := ok_ K4 o_ k_; have HRI_6 := Am (keepF HRI_4.out k_); clear a1 O5 K4 HRI_4 o_ k_; have a1 := k3_ O6 1))
   go_roundw
   case rel => exact ⟨x + 1, A5, c5, by have := HX.out; omega, by have := HX.out; omega, int_eq17 (by unfold wrap64; have := HX.out; have := HL.out; omega), slice_len17 (by rw [HS.out, List.length_append]; rfl), ⟨by rw [HS.out]; simp only [List.length_append, List.length_singleton]; exact O6.out.take 1⟩, K6⟩
   case measure => have := HX.out; simp [intOf]; omega
  ·have hxe : x = (L.length : Int) := by omega
   subst hxe
   have hd : decide ((L.length : Int) < (L.length : Int)) = false := decide_eq_false (Int.lt_irrefl _)
   rw [upR_all] at OA
   clear hlt hx0 hx1 hF2 hl
   go_wp2
   go_ret
   exact ⟨A2, c2, by first | rfl | (rw [upR_all]; done) | simp [upR_all], OA.out, KA.out⟩
theorem ptr_at {w : World} {A : Option Addr} {n : Nat} {qs : List (Nat × RawR)} {q : Nat × RawR} (h : Kd.C (Kd.raw 1) w A n (ptrs qs)) (i : Int) (h0 : 0 ≤ i) (h1 : i < n) (hq : qs[i.toNat]? = some q) : ∃ ad, A = some ad ∧ w.cell? (ad.add i.toNat) = some (pt q.1) := by
 obtain ⟨ad, e, hc⟩ := h.2.2 (by omega)
 obtain ⟨c, hl, hK, hcc⟩ := hc i.toNat [pt q.1] (by unfold ptrs; rw [List.getElem?_map, hq]; rfl)
 have ec : c = [pt q.1] := hK.1
 refine ⟨ad, e, ?_⟩
 have h2 : w.cell? (ad.add (i.toNat * 1 + 0)) = some (pt q.1) := hcc 0 (pt q.1) (by rw [ec]; rfl)
 rwa [Nat.mul_one, Nat.add_zero] at h2
theorem MClient_lo {N : Nat → Prop} {w : World} {gm nc cL cC : Nat} {cf : MCf} {AL AC : Option Addr} {L : List Rnd7} {qs : List (Nat × RawR)} (n : Int) (h : Own N w []) (hm : CellN N w gm #[cf.cl, cf.win, cf.push, cf.pull, cf.mtu, cf.last, .slice AL L.length cL, .slice AC nc cC] 123) (hp : Kd.F (Kd.raw 1) w N AC nc (ptrs qs)) (hn : n < 1) :
  Calls Tryd.prog 77 #[pt gm, n] w fun e_ w' => e_ = .returned (.pointer none) ∧ Own N w' [] ∧ KeepS N w w' := by
 have d1 : decide (n < 1) = true := decide_eq_true hn
 have HM_0 : Aside0 (CellN N w gm #[cf.cl, cf.win, cf.push, cf.pull, cf.mtu, cf.last, .slice AL L.length cL, .slice AC nc cC] 123) := ⟨hm⟩
 have HP_0 : Aside0 (Kd.F (Kd.raw 1) w N AC nc (ptrs qs)) := ⟨hp⟩
 have O0 : Aside0 (Own N w []) := ⟨h⟩
 have K0 : Aside0 (KeepS N w w) := ⟨KeepS.refl _ _⟩
 have mA := blk8_ (HM_0.out.2)
 clear h hm hp hn
 go_enter Tryd.func77, Tryd.ntmps77
 go_wp2
 go_ret
 exact ⟨rfl, O0.out, K0.out⟩
theorem MClient_hi {N : Nat → Prop} {w : World} {gm nc cL cC : Nat} {cf : MCf} {AL AC : Option Addr} {L : List Rnd7} {qs : List (Nat × RawR)} (n : Int) (h : Own N w []) (hm : CellN N w gm #[cf.cl, cf.win, cf.push, cf.pull, cf.mtu, cf.last, .slice AL L.length cL, .slice AC nc cC] 123) (hp : Kd.F (Kd.raw 1) w N AC nc (ptrs qs)) (hn : n > nc) (h1 : 1 ≤ n) :
  Calls Tryd.prog 77 #[pt gm, n] w fun e_ w' => e_ = .returned (.pointer none) ∧ Own N w' [] ∧ KeepS N w w' := by
 have d1 : decide (n < 1) = false := decide_eq_false (by omega)
 have d2 : decide (n > (nc : Int)) = true := decide_eq_true hn
 have d3 : decide ((nc : Int) < n) = true := d2
 have HM_0 : Aside0 (CellN N w gm #[cf.cl, cf.win, cf.push, cf.pull, cf.mtu, cf.last, .slice AL L.length cL, .slice AC nc cC] 123) := ⟨hm⟩
 have HP_0 : Aside0 (Kd.F (Kd.raw 1) w N AC nc (ptrs qs)) := ⟨hp⟩
 have O0 : Aside0 (Own N w []) := ⟨h⟩
 have K0 : Aside0 (KeepS N w w) := ⟨KeepS.refl _ _⟩
 have mA := blk8_ (HM_0.out.2)
 clear h hm hp hn
 go_enter Tryd.func77, Tryd.ntmps77
 go_wp2
 go_ret
 exact ⟨rfl, O0.out, K0.out⟩
theorem MClient_ok {N : Nat → Prop} {w : World} {gm nc cL cC : Nat} {cf : MCf} {AL AC : Option Addr} {L : List Rnd7} {qs : List (Nat × RawR)} (n : Int) (h : Own N w []) (hm : CellN N w gm #[cf.cl, cf.win, cf.push, cf.pull, cf.mtu, cf.last, .slice AL L.length cL, .slice AC nc cC] 123) (hp : Kd.F (Kd.raw 1) w N AC nc (ptrs qs)) (hn : 1 ≤ n ∧ n ≤ nc) (hb : nc ≤ 64) {q : Nat × RawR} (hq : qs[n.toNat - 1]? = some q) :
  Calls Tryd.prog 77 #[pt gm, n] w fun e_ w' => e_ = .returned (pt q.1) ∧ Own N w' [] ∧ KeepS N w w' := by
 have d1 : decide (n < 1) = false := decide_eq_false (by omega)
 have d2 : decide (n > (nc : Int)) = false := decide_eq_false (by omega)
 have d3 : decide ((nc : Int) < n) = false := d2
 obtain ⟨m, hm_⟩ : ∃ m, n - 1 = m := ⟨_, rfl⟩
 have hw : wrap64 (n - 1) = m := by rw [← hm_]; unfold wrap64; omega
 have hp_ := eq_true (show (0 : Int) ≤ m by omega)
 have hq2 := eq_true (show m < (nc : Int) by omega)
 obtain ⟨ap, eP, z0⟩ := ptr_at (Kd.F_now hp) m (by omega) (by omega) (by rw [← hm_, show (n - 1).toNat = n.toNat - 1 by omega]; exact hq)
 cases eP
 have HM_0 : Aside0 (CellN N w gm #[cf.cl, cf.win, cf.push, cf.pull, cf.mtu, cf.last, .slice AL L.length cL, .slice (some ap) nc cC] 123) := ⟨hm⟩
 have HP_0 : Aside0 (Kd.F (Kd.raw 1) w N (some ap) nc (ptrs qs)) := ⟨hp⟩
 have O0 : Aside0 (Own N w []) := ⟨h⟩
 have K0 : Aside0 (KeepS N w w) := ⟨KeepS.refl _ _⟩
 have mA := blk8_ (HM_0.out.2)
 clear h hm hp hn hq hm_
 go_enter Tryd.func77, Tryd.ntmps77
 go_wp2
 go_ret
 exact ⟨rfl, O0.out, K0.out⟩
theorem MClient_no {N : Nat → Prop} {w : World} {gm nc cL cC : Nat} {cf : MCf} {AL AC : Option Addr} {L : List Rnd7} {qs : List (Nat × RawR)} (n : Int) (h : Own N w []) (hm : CellN N w gm #[cf.cl, cf.win, cf.push, cf.pull, cf.mtu, cf.last, .slice AL L.length cL, .slice AC nc cC] 123) (hp : Kd.F (Kd.raw 1) w N AC nc (ptrs qs)) (hn : ¬ (1 ≤ n ∧ n ≤ nc)) :
  Calls Tryd.prog 77 #[pt gm, n] w fun e_ w' => e_ = .returned (.pointer none) ∧ Own N w' [] ∧ KeepS N w w' := by
 by_cases h1 : n < 1
 ·exact MClient_lo n h hm hp h1
 ·exact MClient_hi n h hm hp (by omega) (by omega)
def ownN (n : Int) (L : List Rnd7) (x : MCl) : Nat := (ownR n (L.take x.k)).length
def pndR (n : Int) (L : List Rnd7) (x : MCl) : List Rnd7 := x.J.drop (ownN n L x)
def seenR (n : Int) (L : List Rnd7) (x : MCl) : List Rnd7 := L.take x.k ++ pndR n L x
def cutA (A : Option Addr) (c m : Nat) : Option Addr := if c = m then A else A.map (·.add (m * 3))
theorem cutF {N : Nat → Prop} {w : World} {A : Option Addr} {c m : Nat} {X : List Rnd7} (h : Kd.F kR7 w N A X.length X) (hm : m ≤ X.length) (hc : X.length ≤ c) : Kd.F kR7 w N (cutA A c m) (X.drop m).length (X.drop m) := Kd.F_cut h hm hc
section
variable {N F : Nat → Prop} {w w' : World} {gm : Nat} {cf : MCf} {L : List Rnd7} {cls : List MCl} {a b : HP}
theorem star_l (h : (star a b).P F w) : a.P F w := by
 obtain ⟨F1, F2, h1, h2, hd, g1, g2⟩ := h
 exact a.mono h1 g1
theorem star_r (h : (star a b).P F w) : b.P F w := by
 obtain ⟨F1, F2, h1, h2, hd, g1, g2⟩ := h
 exact b.mono h2 g2
theorem nrow_cap {α : Type} {d : Kd α} {e : Nat} {v : Value} {xs : List α} (h : (nrow d e v xs).P F w) : ∃ A c, v = .slice A xs.length c ∧ xs.length ≤ c := by
 obtain ⟨A, c, rfl⟩ := Kd.N_slice h
 exact ⟨A, c, rfl, (Kd.N_reads' h).2.1⟩
theorem pool_mem {rL : RawR} {qs : List (Nat × RawR)} {i : Nat} {q : Nat × RawR} {x : MCl} (hq : qs[i]? = some q) (hx : cls[i]? = some x) : (q.2, x.J) ∈ (rL, L) :: List.zipWith (fun (q : Nat × RawR) (x : MCl) => (q.2, x.J)) qs cls := by
 refine List.mem_cons_of_mem _ (List.mem_of_getElem? (i := i) ?_)
 rw [List.getElem?_zipWith, hq, hx]
theorem ModO.view0 (h : (ModO gm cf L cls).P F w) : ∃ (AL : Option Addr) (cL : Nat) (AC : Option Addr) (cC : Nat) (qs : List (Nat × RawR)), qs.length = cls.length ∧ L.length ≤ cL ∧
  CellN F w gm (modC cf (.slice AL L.length cL) (.slice AC cls.length cC)) tMM ∧ Kd.F (Kd.raw 1) w F AC cls.length (ptrs qs) ∧ Kd.F kR7 w F AL L.length L ∧ (bigs (clsI qs cls)).P F w ∧ (∃ rL, (poolI rL L qs cls).P F w) := by
 obtain ⟨vL, vC, rL, ⟨qs, hq⟩, h0⟩ := h
 have h1 := star_l h0
 have hp : (poolI rL L qs cls).P F w := star_r h0
 have h2 := star_l h1
 have hb : (bigs (clsI qs cls)).P F w := star_r h1
 have h3 := star_l h2
 have hc : (nrow (Kd.raw 1) tMP vC (ptrs qs)).P F w := star_r h2
 have hm : (cells gm (modC cf vL vC) tMM).P F w := star_l h3
 have hl : (nrow (Kd.raw 3) tR7 vL rL).P F w := star_r h3
 obtain ⟨AL, cL, rfl, e1⟩ := nrow_cap hl
 obtain ⟨AC, cC, rfl, e2⟩ := nrow_cap hc
 have hll := (hp (rL, L) List.mem_cons_self).1
 have e3 : (ptrs qs).length = cls.length := by simp [hq]
 have hF := leadF hl (hp (rL, L) List.mem_cons_self) rfl
 have hC := Kd.N_F hc
 dsimp only at hll
 rw [hll] at hm e1
 rw [e3] at hm hC
 exact ⟨AL, cL, AC, cC, qs, hq, e1, hm, hC, hF, hb, rL, hp⟩
theorem ClI.view {g : Nat} {x : MCl} {rJ : RawR} (h : (ClI g x rJ).P F w) (hl : Lead F w rJ x.J) : ∃ (AJ : Option Addr) (cJ : Nat) (AU : Option Addr) (cU : Nat), x.J.length ≤ cJ ∧ x.U.length ≤ cU ∧
  CellN F w g (mclC x (.slice AJ x.J.length cJ) (.slice AU x.U.length cU)) tMC ∧ Kd.F kR7 w F AJ x.J.length x.J ∧ Kd.F kU7 w F AU x.U.length x.U := by
 obtain ⟨vJ, vU, h0⟩ := h
 have h1 := star_l h0
 have hu : (nrow kU7 tU7 vU x.U).P F w := star_r h0
 have hm : (cells g (mclC x vJ vU) tMC).P F w := star_l h1
 have hj : (nrow (Kd.raw 3) tR7 vJ rJ).P F w := star_r h1
 obtain ⟨AJ, cJ, rfl, e1⟩ := nrow_cap hj
 obtain ⟨AU, cU, rfl, e2⟩ := nrow_cap hu
 have hF := leadF hj hl rfl
 rw [hl.1] at hm e1
 exact ⟨AJ, cJ, AU, cU, e1, e2, hm, hF, Kd.N_F hu⟩
theorem ModO.view {i : Nat} {x : MCl} (h : (ModO gm cf L cls).P F w) (hx : cls[i]? = some x) : ∃ (AL : Option Addr) (cL : Nat) (AC : Option Addr) (cC : Nat) (qs : List (Nat × RawR)) (q : Nat × RawR) (AJ : Option Addr) (cJ : Nat) (AU : Option Addr) (cU : Nat), qs[i]? = some q ∧ L.length ≤ cL ∧ x.J.length ≤ cJ ∧ x.U.length ≤ cU ∧
  CellN F w gm (modC cf (.slice AL L.length cL) (.slice AC cls.length cC)) tMM ∧ Kd.F (Kd.raw 1) w F AC cls.length (ptrs qs) ∧ Kd.F kR7 w F AL L.length L ∧ CellN F w q.1 (mclC x (.slice AJ x.J.length cJ) (.slice AU x.U.length cU)) tMC ∧ Kd.F kR7 w F AJ x.J.length x.J ∧ Kd.F kU7 w F AU x.U.length x.U := by
 obtain ⟨AL, cL, AC, cC, qs, hq, e1, hm, hC, hF, hb, rL, hp⟩ := ModO.view0 h
 obtain ⟨q, hqi⟩ : ∃ q, qs[i]? = some q := ⟨_, List.getElem?_eq_getElem (by rw [hq]; exact (List.getElem?_eq_some_iff.1 hx).1)⟩
 obtain ⟨AJ, cJ, AU, cU, e2, e3, hx1, hJ, hU⟩ := ClI.view (star_l (bigs_out (clsI_get hqi hx) hb)) (hp (q.2, x.J) (pool_mem hqi hx))
 exact ⟨AL, cL, AC, cC, qs, q, AJ, cJ, AU, cU, hqi, e1, e2, e3, hm, hC, hF, hx1, hJ, hU⟩
abbrev modR (gm : Nat) (cf : MCf) (L : List Rnd7) (cls : List MCl) (i : Nat) (x : MCl) (qs : List (Nat × RawR)) (q : Nat × RawR) (rL : RawR) (vL vC vJ vU : Value) : List HP :=
 [cells gm (modC cf vL vC) tMM, poolI rL L qs cls, bigs ((clsI qs cls).set i emp), nrow (Kd.raw 1) tMP vC (ptrs qs), nrow (Kd.raw 3) tR7 vL rL, cells q.1 (mclC x vJ vU) tMC, nrow kU7 tU7 vU x.U, nrow (Kd.raw 3) tR7 vJ q.2]
theorem ModO.at {i : Nat} {x : MCl} (h : Own N w [ModO gm cf L cls]) (hx : cls[i]? = some x) : ∃ (AL : Option Addr) (cL : Nat) (AC : Option Addr) (cC : Nat) (rL : RawR) (qs : List (Nat × RawR)) (q : Nat × RawR) (AJ : Option Addr) (cJ : Nat) (AU : Option Addr) (cU : Nat), (qs.length = cls.length ∧ rL.length = L.length ∧ q.2.length = x.J.length) ∧ qs[i]? = some q ∧
  Own N w (modR gm cf L cls i x qs q rL (.slice AL L.length cL) (.slice AC cls.length cC) (.slice AJ x.J.length cJ) (.slice AU x.U.length cU)) := by
 obtain ⟨AL, cL, AC, cC, rL, qs, hq, hl, h1⟩ := ModO.open_ h
 obtain ⟨q, hqi⟩ : ∃ q, qs[i]? = some q := ⟨_, List.getElem?_eq_getElem (by rw [hq]; exact (List.getElem?_eq_some_iff.1 hx).1)⟩
 obtain ⟨F, hp⟩ := h1.fact (i := 1) rfl
 have hqJ : q.2.length = x.J.length := (hp (q.2, x.J) (pool_mem hqi hx)).1
 obtain ⟨AJ, cJ, AU, cU, h2⟩ := cl_out hqi hx h1
 rw [hqJ] at h2
 exact ⟨AL, cL, AC, cC, rL, qs, q, AJ, cJ, AU, cU, ⟨hq, hl, hqJ⟩, hqi, h2⟩
theorem zip_set (qs : List (Nat × RawR)) (cls : List MCl) (i : Nat) (q : Nat × RawR) (x : MCl) : List.zipWith (fun (q : Nat × RawR) (x : MCl) => (q.2, x.J)) (qs.set i q) (cls.set i x) = (List.zipWith (fun (q : Nat × RawR) (x : MCl) => (q.2, x.J)) qs cls).set i (q.2, x.J) := by
 apply List.ext_getElem?
 intro j
 by_cases h : i = j
 ·subst h
  rcases Nat.lt_or_ge i qs.length with h1 | h1
  ·rcases Nat.lt_or_ge i cls.length with h2 | h2
   ·rw [List.getElem?_set_self (by rw [List.length_zipWith]; omega), List.getElem?_zipWith, List.getElem?_set_self h1, List.getElem?_set_self h2]
   ·rw [List.getElem?_eq_none (by rw [List.length_zipWith, List.length_set, List.length_set]; omega), List.getElem?_eq_none (by rw [List.length_set, List.length_zipWith]; omega)]
  ·rw [List.getElem?_eq_none (by rw [List.length_zipWith, List.length_set, List.length_set]; omega), List.getElem?_eq_none (by rw [List.length_set, List.length_zipWith]; omega)]
 ·rw [List.getElem?_set_ne h, List.getElem?_zipWith, List.getElem?_zipWith, List.getElem?_set_ne h, List.getElem?_set_ne h]
theorem ModO.backU {i : Nat} {x x' : MCl} {qs : List (Nat × RawR)} {q : Nat × RawR} {rL : RawR} {vL vC vJ vU : Value} (hx : cls[i]? = some x) (hq : qs.length = cls.length) (hqi : qs[i]? = some q) (hJ : x'.J = x.J)
  (h : Own N w [cells gm (modC cf vL vC) tMM, poolI rL L qs cls, bigs ((clsI qs cls).set i emp), nrow (Kd.raw 1) tMP vC (ptrs qs), nrow (Kd.raw 3) tR7 vL rL, cells q.1 (mclC x' vJ vU) tMC, nrow kU7 tU7 vU x'.U, nrow (Kd.raw 3) tR7 vJ q.2]) : Own N w [ModO gm cf L (cls.set i x')] := by
 have h1 := cl_in (x' := x') hqi hx h
 have hs : qs.set i (q.1, q.2) = qs := set_same hqi
 have hz : (rL, L) :: List.zipWith (fun (q : Nat × RawR) (x : MCl) => (q.2, x.J)) qs cls = (rL, L) :: List.zipWith (fun (q : Nat × RawR) (x : MCl) => (q.2, x.J)) qs (cls.set i x') := by
  have e := zip_set qs cls i q x'
  rw [show qs.set i q = qs from hs] at e
  rw [e, set_same]
  rw [List.getElem?_zipWith, hqi, hx, hJ]
 have h2 : Own N w [cells gm (modC cf vL vC) tMM, poolI rL L qs (cls.set i x'), bigs (clsI qs (cls.set i x')), nrow (Kd.raw 1) tMP vC (ptrs qs), nrow (Kd.raw 3) tR7 vL rL] := by
  unfold poolI at h1 ⊢
  rw [← hz]
  rw [hs] at h1
  exact h1
 exact ModO.shut (by rw [hq, List.length_set]) h2
theorem ModO.backP {i : Nat} {x x' : MCl} {qs : List (Nat × RawR)} {q : Nat × RawR} {rL : RawR} {vL vC vJ : Value} {AU : Option Addr} {cU : Nat} {n m : Int} (hx : cls[i]? = some x) (hq : qs.length = cls.length) (hqi : qs[i]? = some q) (hJ : x'.J = x.J ++ [⟨n, m, x.U⟩]) (hU : x'.U = []) (hc : x.U.length ≤ cU)
  (h : Own N w [cells gm (modC cf vL vC) tMM, poolI rL L qs cls, bigs ((clsI qs cls).set i emp), nrow (Kd.raw 1) tMP vC (ptrs qs), nrow (Kd.raw 3) tR7 vL rL, cells q.1 (mclC x' vJ (.slice none 0 0)) tMC, nrow kU7 tU7 (.slice AU x.U.length cU) x.U, nrow (Kd.raw 3) tR7 vJ (q.2 ++ [rw3 n m (.slice AU x.U.length cU)])]) : Own N w [ModO gm cf L (cls.set i x')] := by
 have h0 := h.join (i := 1) (j := 6) rfl rfl (by decide)
 have hz0 : ((rL, L) :: List.zipWith (fun (q : Nat × RawR) (x : MCl) => (q.2, x.J)) qs cls)[i + 1]? = some (q.2, x.J) := by
  rw [List.getElem?_cons_succ, List.getElem?_zipWith, hqi, hx]
 have h1 := h0.conv (i := 1) rfl (pool (((rL, L) :: List.zipWith (fun (q : Nat × RawR) (x : MCl) => (q.2, x.J)) qs cls).set (i + 1) (q.2 ++ [rw3 n m (.slice AU x.U.length cU)], x.J ++ [⟨n, m, x.U⟩]))) (fun F hp _ => pool_push (r := ⟨n, m, x.U⟩) hz0 hp hc)
 have h2 := (h1.push_emp (nrow kU7 tU7 (.slice none 0 0) x'.U) (fun w => by rw [hU]; exact Kd.N_nil _ _ _ _ _)).pickL [0, 1, 2, 3, 4, 5, 8, 7] (by decide) (by simp)
 have h3 := cl_in (x' := x') hqi hx h2
 have hz : ((rL, L) :: List.zipWith (fun (q : Nat × RawR) (x : MCl) => (q.2, x.J)) qs cls).set (i + 1) (q.2 ++ [rw3 n m (.slice AU x.U.length cU)], x.J ++ [⟨n, m, x.U⟩]) = (rL, L) :: List.zipWith (fun (q : Nat × RawR) (x : MCl) => (q.2, x.J)) (qs.set i (q.1, q.2 ++ [rw3 n m (.slice AU x.U.length cU)])) (cls.set i x') := by
  rw [List.set_cons_succ, zip_set, hJ]
 have h4 : Own N w [cells gm (modC cf vL vC) tMM, poolI rL L (qs.set i (q.1, q.2 ++ [rw3 n m (.slice AU x.U.length cU)])) (cls.set i x'), bigs (clsI (qs.set i (q.1, q.2 ++ [rw3 n m (.slice AU x.U.length cU)])) (cls.set i x')), nrow (Kd.raw 1) tMP vC (ptrs (qs.set i (q.1, q.2 ++ [rw3 n m (.slice AU x.U.length cU)]))), nrow (Kd.raw 3) tR7 vL rL] := by
  rw [ptrs_set _ hqi]
  unfold poolI
  rw [← hz]
  exact h3
 exact ModO.shut (by rw [List.length_set, List.length_set, hq]) h4
theorem ModO.backC {i k : Nat} {x : MCl} {qs : List (Nat × RawR)} {q : Nat × RawR} {rL : RawR} {vL vC vJ vU : Value} {c : List Value} {r : Rnd7} (hx : cls[i]? = some x) (hq : qs.length = cls.length) (hqi : qs[i]? = some q) (hc : q.2[k]? = some c) (hr : x.J[k]? = some r)
  (h : Own N w [cells gm (modC cf vL vC) tMM, poolI rL L qs cls, bigs ((clsI qs cls).set i emp), nrow (Kd.raw 1) tMP vC (ptrs qs), nrow (Kd.raw 3) tR7 vL (rL ++ [c]), cells q.1 (mclC x vJ vU) tMC, nrow kU7 tU7 vU x.U, nrow (Kd.raw 3) tR7 vJ q.2]) : Own N w [ModO gm cf (L ++ [r]) cls] := by
 have h1 := h.conv (i := 1) rfl (poolI (rL ++ [c]) (L ++ [r]) qs cls) (fun F hp _ => by
  intro p hm
  rcases List.mem_cons.1 hm with e | e
  ·subst e
   have hp0 := (show (poolI rL L qs cls).P F w from hp)
   exact (hp0 (rL, L) List.mem_cons_self).append (lead_at (hp0 (q.2, x.J) (pool_mem hqi hx)) hc hr)
  ·exact hp p (List.mem_cons_of_mem _ e))
 have h2 := cl_in (x' := x) hqi hx h1
 have hs : qs.set i (q.1, q.2) = qs := set_same hqi
 rw [hs, set_same hx] at h2
 exact ModO.shut hq h2
end
end Go.Proofs.YtjdenpmaianmfaaDoor.J
namespace Go.Proofs.YtjdenpmaianmfaaDoor.J
set_option maxHeartbeats 16000000
set_option maxRecDepth 100000
set_option linter.unusedSimpArgs false
set_option linter.unusedVariables false
open Go RowKit YtjdenpmaianmfaaDoorW.PrintWords YtjdenpmaianmfaaDoorW.PrintLast YtjdenpmaianmfaaDoorW.PrintMore Q YtjdenpmaianmfaaDoor.Sep YtjdenpmaianmfaaDoor.Pure
theorem MOf_n {N : Nat → Prop} {w : World} (og : Int) (A0 : Option Addr) (c0 n v : Nat) (X : List Rnd7) (hn : X.length = n) (hv : (ownR og X).length = v) (h : Own N w []) (hF : Kd.F kR7 w N A0 X.length X) (hL : X.length ≤ 1000000) :
  Calls Tryd.prog 84 #[og, .slice A0 n c0] w fun e_ w' => e_ = .returned (.int .i64 (v : Int)) ∧ Own N w' [] ∧ KeepS N w w' := by
 subst hn hv
 exact MOf og A0 c0 X h hF hL
theorem take_F {N : Nat → Prop} {w : World} {A : Option Addr} {k : Nat} {X : List Rnd7} (h : Kd.F kR7 w N A X.length X) (hk : k ≤ X.length) : Kd.F kR7 w N A (X.take k).length (X.take k) := Kd.F_take h hk
theorem MPend {N : Nat → Prop} {w : World} {gm nc cL cC : Nat} {cf : MCf} {AL AC : Option Addr} {L : List Rnd7} {qs : List (Nat × RawR)} {q : Nat × RawR} {x : MCl} {AJ AU : Option Addr} {cJ cU : Nat} (n : Int) (h : Own N w []) (hm : CellN N w gm #[cf.cl, cf.win, cf.push, cf.pull, cf.mtu, cf.last, .slice AL L.length cL, .slice AC nc cC] 123) (hp : Kd.F (Kd.raw 1) w N AC nc (ptrs qs)) (hx : CellN N w q.1 #[x.e, .slice AJ x.J.length cJ, x.k, x.c, .slice AU x.U.length cU] 127) (hl : Kd.F kR7 w N AL L.length L) (hn : 1 ≤ n ∧ n ≤ nc) (hb : nc ≤ 64) (hq : qs[n.toNat - 1]? = some q) (hk : x.k ≤ L.length) (hL : L.length ≤ 1000000) (hcL : L.length ≤ cL) (ho : ownN n L x ≤ x.J.length) (hc : x.J.length ≤ cJ) :
  Calls Tryd.prog 78 #[pt gm, n] w fun e_ w' => e_ = .returned (.slice (cutA AJ cJ (ownN n L x)) (x.J.length - ownN n L x) (cJ - ownN n L x)) ∧ Own N w' [] ∧ KeepS N w w' := by
 obtain ⟨m, hm_⟩ : ∃ m, n - 1 = m := ⟨_, rfl⟩
 have hw : wrap64 (n - 1) = m := by rw [← hm_]; unfold wrap64; omega
 have hp_ := eq_true (show (0 : Int) ≤ m by omega)
 have hq2 := eq_true (show m < (nc : Int) by omega)
 obtain ⟨ap, eP, z0⟩ := ptr_at (Kd.F_now hp) m (by omega) (by omega) (by rw [← hm_, show (n - 1).toNat = n.toNat - 1 by omega]; exact hq)
 cases eP
 have HPA := Am (show m.toNat < (ptrs qs).length ∧ (ptrs qs)[m.toNat]? = some [pt q.1] from by rw [← hm_, show (n - 1).toNat = n.toNat - 1 by omega]; exact ⟨by unfold ptrs; rw [List.length_map]; exact (List.getElem?_eq_some_iff.1 hq).1, by unfold ptrs; rw [List.getElem?_map, hq]; rfl⟩)
 have HTK : Aside0 ((L.take x.k).length = x.k) := ⟨by rw [List.length_take]; omega⟩
 have HK := Am hk
 have HLL := Am hL
 obtain ⟨v, hv⟩ : ∃ v : Nat, ownN n L x = v := ⟨_, rfl⟩
 have HV : Aside0 ((ownR n (L.take x.k)).length = v) := ⟨hv⟩
 rw [hv] at ho ⊢
 have hk1 := eq_true (show (x.k : Int) ≤ (cL : Int) by omega)
 have hv1 := eq_true (show (v : Int) ≤ (x.J.length : Int) by omega)
 have hv2 := eq_true (show (v : Int) ≤ (cJ : Int) by omega)
 have HM_0 : Aside0 (CellN N w gm #[cf.cl, cf.win, cf.push, cf.pull, cf.mtu, cf.last, .slice AL L.length cL, .slice (some ap) nc cC] 123) := ⟨hm⟩
 have HP_0 : Aside0 (Kd.F (Kd.raw 1) w N (some ap) nc (ptrs qs)) := ⟨hp⟩
 have HX_0 : Aside0 (CellN N w q.1 #[x.e, .slice AJ x.J.length cJ, x.k, x.c, .slice AU x.U.length cU] 127) := ⟨hx⟩
 have HL_0 : Aside0 (Kd.F kR7 w N AL L.length L) := ⟨hl⟩
 have O0 : Aside0 (Own N w []) := ⟨h⟩
 have K0 : Aside0 (KeepS N w w) := ⟨KeepS.refl _ _⟩
 have mA := blk8_ (HM_0.out.2)
 have xA := blk5_ (HX_0.out.2)
 clear h hm hp hx hl hn hq hm_ hk hL ho hc hv hcL
 go_enter Tryd.func78, Tryd.ntmps78
 go_wp2
 refine sP (n := 17) (S := fun w' => w'.cell? ⟨gm, 0, none⟩ = some (.int .i64 cf.cl) ∧ w'.cell? ⟨gm, 1, none⟩ = some (.int .i64 cf.win) ∧ w'.cell? ⟨gm, 2, none⟩ = some (.int .i64 cf.push) ∧ w'.cell? ⟨gm, 3, none⟩ = some (.int .i64 cf.pull) ∧ w'.cell? ⟨gm, 4, none⟩ = some (.int .i64 cf.mtu) ∧ w'.cell? ⟨gm, 5, none⟩ = some (.int .i64 cf.last) ∧ w'.cell? ⟨gm, 6, none⟩ = some (.slice AL L.length cL) ∧ w'.cell? ⟨gm, 7, none⟩ = some (.slice (some ap) nc cC) ∧ w'.cell? ⟨q.1, 0, none⟩ = some (.int .i64 x.e) ∧ w'.cell? ⟨q.1, 1, none⟩ = some (.slice AJ x.J.length cJ) ∧ w'.cell? ⟨q.1, 2, none⟩ = some (.int .i64 x.k) ∧ w'.cell? ⟨q.1, 3, none⟩ = some (.int .i64 x.c) ∧ w'.cell? ⟨q.1, 4, none⟩ = some (.slice AU x.U.length cU)) (ds := []) ⟨mA.1, mA.2.1, mA.2.2.1, mA.2.2.2.1, mA.2.2.2.2.1, mA.2.2.2.2.2.1, mA.2.2.2.2.2.2.1, mA.2.2.2.2.2.2.2.1, xA.1, xA.2.1, xA.2.2.1, xA.2.2.2.1, xA.2.2.2.2.1⟩ (fun hHeld => ?_)
 obtain ⟨w1, hw_, k_, O1, K1⟩ := drw_ O0 K0
 rw [← hw_] at hHeld ⊢
 have HM_1 := Am (CellN.keep HM_0.out k_)
 have HP_1 := Am (keepF HP_0.out k_)
 have HX_1 := Am (CellN.keep HX_0.out k_)
 have HL_1 := Am (keepF HL_0.out k_)
 clear mA xA O0 K0 HM_0 HP_0 HX_0 HL_0
 have mA := blk8_ (HM_1.out.2)
 have xA := blk5_ (HX_1.out.2)
 clear k_ hw_
 refine pP 0 (some 14) ?_
 refine pP 1 (some 15) ?_
 refine pP 2 (some 16) ?_
 refine pP 4 (some 18) ?_
 refine pP 5 (some 19) ?_
 refine pP 6 (some 20) ?_
 refine pP 7 (some 21) ?_
 refine pP 9 (some 23) ?_
 refine pP 10 (some 24) ?_
 refine pP 11 (some 25) ?_
 refine tP 3 (some 17) hHeld ?_
 refine tP 8 (some 22) hHeld ?_
 refine tP 12 (some 26) hHeld ?_
 refine pP 13 (some 27) ?_
 refine oP 14 (some 28) (fun K_ hK_ => ?_)
 refine hP Tryd.func84 #[n, .slice AL x.k cL] ?_
 obtain ⟨N_, on_, nn_, rr_, bb_⟩ := O1.out.frame0
 refine (MOf_n n AL cL x.k v (L.take x.k) HTK.out HV.out on_ (Kd.F_mono (take_F HL_1.out HK.out) nn_) (by rw [HTK.out]; exact Nat.le_trans HK.out HLL.out)).mono ?_
 rintro e_ w2 ⟨rfl, oo_, kk_⟩
 obtain ⟨o_, k_⟩ := bb_ _ _ kk_ oo_
 refine ⟨_, rfl, ?_⟩
 obtain ⟨O2, K2⟩ := ok_ K1 o_ k_
 have HM_2 := Am (CellN.keep HM_1.out k_)
 have HP_2 := Am (keepF HP_1.out k_)
 have HX_2 := Am (CellN.keep HX_1.out k_)
 have HL_2 := Am (keepF HL_1.out k_)
 clear mA xA O1 K1 HM_1 HP_1 HX_1 HL_1
 have mA := blk8_ (HM_2.out.2)
 have xA := blk5_ (HX_2.out.2)
 clear o_ k_ oo_ kk_ on_ nn_ rr_ bb_ hHeld
 refine hK_.out _ _ ⟨mA.1, mA.2.1, mA.2.2.1, mA.2.2.2.1, mA.2.2.2.2.1, mA.2.2.2.2.2.1, mA.2.2.2.2.2.2.1, mA.2.2.2.2.2.2.2.1, xA.1, xA.2.1, xA.2.2.1, xA.2.2.2.1, xA.2.2.2.2.1⟩ (fun hHeld => ?_)
 clear hK_ K_
 refine nP ?_
 refine pP 15 (some 29) ?_
 refine pP 16 (some 4) ?_
 refine dN ?_
 clear hHeld
 go_wp2
 all_goals go_ret
 all_goals refine ⟨?_, O2.out, K2.out⟩
 all_goals unfold cutA
 all_goals first | (rw [if_pos rfl]; rfl) | (rw [if_neg (by assumption)]; rfl)
theorem MCopies_n {N : Nat → Prop} {w : World} (A0 : Option Addr) (c0 n : Nat) (X : List Rnd7) (hn : X.length = n) (h : Own N w []) (hF : Kd.F kR7 w N A0 X.length X) (hL : X.length ≤ 1000000) (HB : Few 1000000 X) :
  Calls Tryd.prog 76 #[.slice A0 n c0] w fun e_ w' => ∃ A1 c1, e_ = .returned (.slice A1 n c1) ∧ Own N w' [row kR7 tR7 (.slice A1 n c1) X] ∧ KeepS N w w' := by
 subst hn
 exact MCopies A0 c0 X h hF hL (HB.bnd (Nat.le_refl _))
theorem Few.take {m : Nat} {L : List Rnd7} (h : Few m L) (k : Nat) : Few m (L.take k) := fun r hr => h r (List.mem_of_mem_take hr)
abbrev lookV (n : Int) (L : List Rnd7) (x : MCl) : Value := .agg #[x.e, x.k, ((x.J.length - ownN n L x : Nat) : Int), x.U.length, x.c, .int .i64 0]
theorem MLook_no {N : Nat → Prop} {w : World} {gm nc cL cC : Nat} {cf : MCf} {AL AC : Option Addr} {L : List Rnd7} {qs : List (Nat × RawR)} (n : Int) (h : Own N w []) (hm : CellN N w gm #[cf.cl, cf.win, cf.push, cf.pull, cf.mtu, cf.last, .slice AL L.length cL, .slice AC nc cC] 123) (hp : Kd.F (Kd.raw 1) w N AC nc (ptrs qs)) (hn : ¬ (1 ≤ n ∧ n ≤ nc)) :
  Calls Tryd.prog 40 #[pt gm, n] w fun e_ w' => e_ = .returned (.agg #[.int .i64 0, .int .i64 0, .int .i64 0, .int .i64 0, .int .i64 0, .int .i64 0]) ∧ Own N w' [] ∧ KeepS N w w' := by
 have HM_0 : Aside0 (CellN N w gm #[cf.cl, cf.win, cf.push, cf.pull, cf.mtu, cf.last, .slice AL L.length cL, .slice AC nc cC] 123) := ⟨hm⟩
 have HP_0 : Aside0 (Kd.F (Kd.raw 1) w N AC nc (ptrs qs)) := ⟨hp⟩
 have O0 : Aside0 (Own N w []) := ⟨h⟩
 have K0 : Aside0 (KeepS N w w) := ⟨KeepS.refl _ _⟩
 have mA := blk8_ (HM_0.out.2)
 clear h hm hp
 have HN := Am hn
 clear hn
 go_enter Tryd.func40, Tryd.ntmps40
 go_wp2_with (first | ((with_reducible refine gD 4 rfl ?_); refine bP 4 #[.int .i64 0, .int .i64 0, .int .i64 0, .int .i64 0, .int .i64 0, .int .i64 0] 75 O0.out ?_; intro gl w1 o_ k_; obtain ⟨O1, K1⟩ := ok_ K0 o_ k_; have HM_1 := Am (CellN.keep HM_0.out k_); have HP_1 := Am (keepF HP_0.out k_); clear mA O0 K0 HM_0 HP_0; have a0 := k6_ O1 0; have mA := blk8_ (HM_1.out.2); clear o_ k_) | ((with_reducible refine gC 77 rfl ?_); refine gP (some 8) Tryd.func77 #[pt gm, n] ?_; obtain ⟨N_, on_, nn_, rr_, bb_⟩ := O1.out.frame0; refine (MClient_no n on_ (CellN.mono HM_1.out nn_) (Kd.F_mono HP_1.out nn_) HN.out).mono ?_; rintro e_ w2 ⟨rfl, oo_, kk_⟩; obtain ⟨o_, k_⟩ := bb_ _ _ kk_ oo_; refine ⟨_, rfl, ?_⟩; obtain ⟨O2, K2⟩ := ok_ K1 o_ k_; have HM_2 := Am (CellN.keep HM_1.out k_); have HP_2 := Am (keepF HP_1.out k_); clear a0 mA O1 K1 HM_1 HP_1; have a0 := k6_ O2 0; have mA := blk8_ (HM_2.out.2); clear o_ k_ oo_ kk_ on_ nn_ rr_ bb_) | ((with_reducible refine gT 75 4 rfl ?_); refine wS 0 0 [.int .i64 0, .int .i64 0, .int .i64 0, .int .i64 0, .int .i64 0, .int .i64 0] O2 ?_; intro w3 o_ k_; obtain ⟨O3, K3⟩ := ok_ K2 o_ k_; have HM_3 := Am (CellN.keep HM_2.out k_); have HP_3 := Am (keepF HP_2.out k_); clear a0 mA O2 K2 HM_2 HP_2; have a0 := k6_ O3 0; have mA := blk8_ (HM_3.out.2); clear o_ k_))
 refine bodyPost_ret (results_cell_row rfl _ _ gl 75 #[.int .i64 0, .int .i64 0, .int .i64 0, .int .i64 0, .int .i64 0, .int .i64 0] (0, 0) _ rfl (O3.out.blk (i := 0) rfl) Tryd.underlying75 rfl (by kernel_rfl)) rfl ?_
 exact ⟨rfl, O3.out.take 0, K3.out⟩
theorem MLook_ok {N : Nat → Prop} {w : World} {gm nc cL cC : Nat} {cf : MCf} {AL AC : Option Addr} {L : List Rnd7} {qs : List (Nat × RawR)} {q : Nat × RawR} {x : MCl} {AJ AU : Option Addr} {cJ cU : Nat} (n : Int) (h : Own N w []) (hm : CellN N w gm #[cf.cl, cf.win, cf.push, cf.pull, cf.mtu, cf.last, .slice AL L.length cL, .slice AC nc cC] 123) (hp : Kd.F (Kd.raw 1) w N AC nc (ptrs qs)) (hx : CellN N w q.1 #[x.e, .slice AJ x.J.length cJ, x.k, x.c, .slice AU x.U.length cU] 127) (hl : Kd.F kR7 w N AL L.length L) (hn : 1 ≤ n ∧ n ≤ nc) (hb : nc ≤ 64) (hq : qs[n.toNat - 1]? = some q) (hk : x.k ≤ L.length) (hL : L.length ≤ 1000000) (hcL : L.length ≤ cL) (ho : ownN n L x ≤ x.J.length) (hc : x.J.length ≤ cJ) :
  Calls Tryd.prog 40 #[pt gm, n] w fun e_ w' => e_ = .returned (lookV n L x) ∧ Own N w' [] ∧ KeepS N w w' := by
 have HM_0 : Aside0 (CellN N w gm #[cf.cl, cf.win, cf.push, cf.pull, cf.mtu, cf.last, .slice AL L.length cL, .slice AC nc cC] 123) := ⟨hm⟩
 have HP_0 : Aside0 (Kd.F (Kd.raw 1) w N AC nc (ptrs qs)) := ⟨hp⟩
 have HX_0 : Aside0 (CellN N w q.1 #[x.e, .slice AJ x.J.length cJ, x.k, x.c, .slice AU x.U.length cU] 127) := ⟨hx⟩
 have HL_0 : Aside0 (Kd.F kR7 w N AL L.length L) := ⟨hl⟩
 have O0 : Aside0 (Own N w []) := ⟨h⟩
 have K0 : Aside0 (KeepS N w w) := ⟨KeepS.refl _ _⟩
 have mA := blk8_ (HM_0.out.2)
 have xA := blk5_ (HX_0.out.2)
 clear h hm hp hx hl
 have HN := Am hn
 have HB := Am hb
 have HQ := Am hq
 have HKL := Am hk
 have HLL := Am hL
 have HCL := Am hcL
 have HOW := Am ho
 have HCJ := Am hc
 clear hn hb hq hk hL hcL ho hc
 go_enter Tryd.func40, Tryd.ntmps40
 go_wp2_with (first | ((with_reducible refine gD 4 rfl ?_); refine bP 4 #[.int .i64 0, .int .i64 0, .int .i64 0, .int .i64 0, .int .i64 0, .int .i64 0] 75 O0.out ?_; intro gl w1 o_ k_; obtain ⟨O1, K1⟩ := ok_ K0 o_ k_; have HM_1 := Am (CellN.keep HM_0.out k_); have HP_1 := Am (keepF HP_0.out k_); have HX_1 := Am (CellN.keep HX_0.out k_); have HL_1 := Am (keepF HL_0.out k_); clear mA xA O0 K0 HM_0 HP_0 HX_0 HL_0; have a0 := k6_ O1 0; have mA := blk8_ (HM_1.out.2); have xA := blk5_ (HX_1.out.2); clear o_ k_) | ((with_reducible refine gC 77 rfl ?_); refine gP (some 8) Tryd.func77 #[pt gm, n] ?_; obtain ⟨N_, on_, nn_, rr_, bb_⟩ := O1.out.frame0; refine (MClient_ok n on_ (CellN.mono HM_1.out nn_) (Kd.F_mono HP_1.out nn_) HN.out HB.out HQ.out).mono ?_; rintro e_ w2 ⟨rfl, oo_, kk_⟩; obtain ⟨o_, k_⟩ := bb_ _ _ kk_ oo_; refine ⟨_, rfl, ?_⟩; obtain ⟨O2, K2⟩ := ok_ K1 o_ k_; have HM_2 := Am (CellN.keep HM_1.out k_); have HP_2 := Am (keepF HP_1.out k_); have HX_2 := Am (CellN.keep HX_1.out k_); have HL_2 := Am (keepF HL_1.out k_); clear a0 mA xA O1 K1 HM_1 HP_1 HX_1 HL_1; have a0 := k6_ O2 0; have mA := blk8_ (HM_2.out.2); have xA := blk5_ (HX_2.out.2); clear o_ k_ oo_ kk_ on_ nn_ rr_ bb_))
 refine sP (n := 23) (S := fun w' => w'.cell? ⟨q.1, 0, none⟩ = some (.int .i64 x.e) ∧ w'.cell? ⟨q.1, 1, none⟩ = some (.slice AJ x.J.length cJ) ∧ w'.cell? ⟨q.1, 2, none⟩ = some (.int .i64 x.k) ∧ w'.cell? ⟨q.1, 3, none⟩ = some (.int .i64 x.c) ∧ w'.cell? ⟨q.1, 4, none⟩ = some (.slice AU x.U.length cU)) (ds := []) ⟨xA.1, xA.2.1, xA.2.2.1, xA.2.2.2.1, xA.2.2.2.2.1⟩ (fun hHeld => ?_)
 obtain ⟨w3, hw_, k_, O3, K3⟩ := drw_ O2 K2
 rw [← hw_] at hHeld ⊢
 have HM_3 := Am (CellN.keep HM_2.out k_)
 have HP_3 := Am (keepF HP_2.out k_)
 have HX_3 := Am (CellN.keep HX_2.out k_)
 have HL_3 := Am (keepF HL_2.out k_)
 clear a0 mA xA O2 K2 HM_2 HP_2 HX_2 HL_2
 have a0 := k6_ O3 0
 have mA := blk8_ (HM_3.out.2)
 have xA := blk5_ (HX_3.out.2)
 clear k_ hw_
 refine pP 0 (some 12) ?_
 refine pP 1 (some 13) ?_
 refine pP 2 (some 14) ?_
 refine pP 4 (some 16) ?_
 refine pP 5 (some 17) ?_
 refine pP 6 (some 18) ?_
 refine pP 8 (some 20) ?_
 refine pP 9 (some 21) ?_
 refine pP 12 (some 24) ?_
 refine pP 13 (some 25) ?_
 refine pP 14 (some 26) ?_
 refine pP 17 (some 29) ?_
 refine pP 18 (some 30) ?_
 refine pP 19 (some 31) ?_
 refine tP 3 (some 15) hHeld ?_
 refine tP 7 (some 19) hHeld ?_
 refine tP 15 (some 27) hHeld ?_
 refine pP 16 (some 28) ?_
 refine tP 20 (some 32) hHeld ?_
 refine oP 10 (some 22) (fun K_ hK_ => ?_)
 refine hP Tryd.func78 #[pt gm, n] ?_
 obtain ⟨N_, on_, nn_, rr_, bb_⟩ := O3.out.frame0
 refine (MPend n on_ (CellN.mono HM_3.out nn_) (Kd.F_mono HP_3.out nn_) (CellN.mono HX_3.out nn_) (Kd.F_mono HL_3.out nn_) HN.out HB.out HQ.out HKL.out HLL.out HCL.out HOW.out HCJ.out).mono ?_
 rintro e_ w4 ⟨rfl, oo_, kk_⟩
 obtain ⟨o_, k_⟩ := bb_ _ _ kk_ oo_
 refine ⟨_, rfl, ?_⟩
 obtain ⟨O4, K4⟩ := ok_ K3 o_ k_
 have HM_4 := Am (CellN.keep HM_3.out k_)
 have HP_4 := Am (keepF HP_3.out k_)
 have HX_4 := Am (CellN.keep HX_3.out k_)
 have HL_4 := Am (keepF HL_3.out k_)
 clear a0 mA xA O3 K3 HM_3 HP_3 HX_3 HL_3
 have a0 := k6_ O4 0
 have mA := blk8_ (HM_4.out.2)
 have xA := blk5_ (HX_4.out.2)
 clear o_ k_ oo_ kk_ on_ nn_ rr_ bb_ hHeld
 refine hK_.out _ _ ⟨xA.1, xA.2.1, xA.2.2.1, xA.2.2.2.1, xA.2.2.2.2.1⟩ (fun hHeld => ?_)
 clear hK_ K_
 refine nP ?_
 refine pP 11 (some 23) ?_
 refine pP 21 (some 33) ?_
 refine oP 22 none (fun K_ hK_ => ?_)
 refine xS 0 0 [x.e, x.k, ((x.J.length - ownN n L x : Nat) : Int), x.U.length, x.c, .int .i64 0] O4 ?_
 intro w5 o_ k_
 obtain ⟨O5, K5⟩ := ok_ K4 o_ k_
 have HM_5 := Am (CellN.keep HM_4.out k_)
 have HP_5 := Am (keepF HP_4.out k_)
 have HX_5 := Am (CellN.keep HX_4.out k_)
 have HL_5 := Am (keepF HL_4.out k_)
 clear a0 mA xA O4 K4 HM_4 HP_4 HX_4 HL_4
 have a0 := k6_ O5 0
 have mA := blk8_ (HM_5.out.2)
 have xA := blk5_ (HX_5.out.2)
 clear o_ k_ hHeld
 refine hK_.out _ _ ⟨xA.1, xA.2.1, xA.2.2.1, xA.2.2.2.1, xA.2.2.2.2.1⟩ (fun hHeld => ?_)
 clear hK_ K_
 refine dN ?_
 clear hHeld
 go_wp2
 refine bodyPost_ret (results_cell_row rfl _ _ gl 75 #[x.e, x.k, ((x.J.length - ownN n L x : Nat) : Int), x.U.length, x.c, .int .i64 0] (0, 0) _ rfl (O5.out.blk (i := 0) rfl) Tryd.underlying75 rfl (by kernel_rfl)) rfl ?_
 exact ⟨rfl, O5.out.take 0, K5.out⟩
theorem MLog {N : Nat → Prop} {w : World} {gm nc cL cC : Nat} {cf : MCf} {AL AC : Option Addr} {L : List Rnd7} {qs : List (Nat × RawR)} (h : Own N w []) (hm : CellN N w gm #[cf.cl, cf.win, cf.push, cf.pull, cf.mtu, cf.last, .slice AL L.length cL, .slice AC nc cC] 123) (hl : Kd.F kR7 w N AL L.length L) (hL : L.length ≤ 1000000) (hB : Few 1000000 L) :
  Calls Tryd.prog 39 #[pt gm] w fun e_ w' => ∃ A1 c1, e_ = .returned (.slice A1 L.length c1) ∧ Own N w' [row kR7 tR7 (.slice A1 L.length c1) L] ∧ KeepS N w w' := by
 have HM_0 : Aside0 (CellN N w gm #[cf.cl, cf.win, cf.push, cf.pull, cf.mtu, cf.last, .slice AL L.length cL, .slice AC nc cC] 123) := ⟨hm⟩
 have HL_0 : Aside0 (Kd.F kR7 w N AL L.length L) := ⟨hl⟩
 have HLL := Am hL
 have HFW := Am hB
 clear hL hB
 have O0 : Aside0 (Own N w []) := ⟨h⟩
 have K0 : Aside0 (KeepS N w w) := ⟨KeepS.refl _ _⟩
 have mA := blk8_ (HM_0.out.2)
 clear h hm hl
 go_enter Tryd.func39, Tryd.ntmps39
 go_wp2_with (first | ((with_reducible refine gC 76 rfl ?_); refine gP (some 7) Tryd.func76 #[.slice AL L.length cL] ?_; obtain ⟨N_, on_, nn_, rr_, bb_⟩ := O0.out.frame0; refine (MCopies_n AL cL _ L rfl on_ (Kd.F_mono HL_0.out nn_) HLL.out HFW.out).mono ?_; rintro e_ w1 ⟨A1, c1, rfl, oo_, kk_⟩; obtain ⟨o_, k_⟩ := bb_ _ _ kk_ oo_; refine ⟨_, rfl, ?_⟩; obtain ⟨O1, K1⟩ := ok_ K0 o_ k_; have HM_1 := Am (CellN.keep HM_0.out k_); have HL_1 := Am (keepF HL_0.out k_); clear mA O0 K0 HM_0 HL_0; have mA := blk8_ (HM_1.out.2); clear o_ k_ oo_ kk_ on_ nn_ rr_ bb_))
 go_ret
 exact ⟨A1, c1, rfl, O1.out, K1.out⟩
theorem MKnown_no {N : Nat → Prop} {w : World} {gm nc cL cC : Nat} {cf : MCf} {AL AC : Option Addr} {L : List Rnd7} {qs : List (Nat × RawR)} (n : Int) (h : Own N w []) (hm : CellN N w gm #[cf.cl, cf.win, cf.push, cf.pull, cf.mtu, cf.last, .slice AL L.length cL, .slice AC nc cC] 123) (hp : Kd.F (Kd.raw 1) w N AC nc (ptrs qs)) (hn : ¬ (1 ≤ n ∧ n ≤ nc)) :
  Calls Tryd.prog 41 #[pt gm, n] w fun e_ w' => e_ = .returned (.slice none 0 0) ∧ Own N w' [] ∧ KeepS N w w' := by
 have HM_0 : Aside0 (CellN N w gm #[cf.cl, cf.win, cf.push, cf.pull, cf.mtu, cf.last, .slice AL L.length cL, .slice AC nc cC] 123) := ⟨hm⟩
 have HP_0 : Aside0 (Kd.F (Kd.raw 1) w N AC nc (ptrs qs)) := ⟨hp⟩
 have O0 : Aside0 (Own N w []) := ⟨h⟩
 have K0 : Aside0 (KeepS N w w) := ⟨KeepS.refl _ _⟩
 have mA := blk8_ (HM_0.out.2)
 clear h hm hp
 have HN := Am hn
 clear hn
 go_enter Tryd.func41, Tryd.ntmps41
 go_wp2_with (first | ((with_reducible refine gC 77 rfl ?_); refine gP (some 8) Tryd.func77 #[pt gm, n] ?_; obtain ⟨N_, on_, nn_, rr_, bb_⟩ := O0.out.frame0; refine (MClient_no n on_ (CellN.mono HM_0.out nn_) (Kd.F_mono HP_0.out nn_) HN.out).mono ?_; rintro e_ w1 ⟨rfl, oo_, kk_⟩; obtain ⟨o_, k_⟩ := bb_ _ _ kk_ oo_; refine ⟨_, rfl, ?_⟩; obtain ⟨O1, K1⟩ := ok_ K0 o_ k_; have HM_1 := Am (CellN.keep HM_0.out k_); have HP_1 := Am (keepF HP_0.out k_); clear mA O0 K0 HM_0 HP_0; have mA := blk8_ (HM_1.out.2); clear o_ k_ oo_ kk_ on_ nn_ rr_ bb_))
 go_ret
 exact ⟨rfl, O1.out, K1.out⟩
theorem MKnown_ok {N : Nat → Prop} {w : World} {gm nc cL cC : Nat} {cf : MCf} {AL AC : Option Addr} {L : List Rnd7} {qs : List (Nat × RawR)} {q : Nat × RawR} {x : MCl} {AJ AU : Option Addr} {cJ cU : Nat} (n : Int) (h : Own N w []) (hm : CellN N w gm #[cf.cl, cf.win, cf.push, cf.pull, cf.mtu, cf.last, .slice AL L.length cL, .slice AC nc cC] 123) (hp : Kd.F (Kd.raw 1) w N AC nc (ptrs qs)) (hx : CellN N w q.1 #[x.e, .slice AJ x.J.length cJ, x.k, x.c, .slice AU x.U.length cU] 127) (hl : Kd.F kR7 w N AL L.length L) (hn : 1 ≤ n ∧ n ≤ nc) (hb : nc ≤ 64) (hq : qs[n.toNat - 1]? = some q) (hk : x.k ≤ L.length) (hL : L.length ≤ 1000000) (hcL : L.length ≤ cL) (hB : Few 1000000 L) :
  Calls Tryd.prog 41 #[pt gm, n] w fun e_ w' => ∃ A1 c1, e_ = .returned (.slice A1 x.k c1) ∧ Own N w' [row kR7 tR7 (.slice A1 x.k c1) (L.take x.k)] ∧ KeepS N w w' := by
 have HM_0 : Aside0 (CellN N w gm #[cf.cl, cf.win, cf.push, cf.pull, cf.mtu, cf.last, .slice AL L.length cL, .slice AC nc cC] 123) := ⟨hm⟩
 have HP_0 : Aside0 (Kd.F (Kd.raw 1) w N AC nc (ptrs qs)) := ⟨hp⟩
 have HX_0 : Aside0 (CellN N w q.1 #[x.e, .slice AJ x.J.length cJ, x.k, x.c, .slice AU x.U.length cU] 127) := ⟨hx⟩
 have HL_0 : Aside0 (Kd.F kR7 w N AL L.length L) := ⟨hl⟩
 have HTK : Aside0 ((L.take x.k).length = x.k) := ⟨by rw [List.length_take]; omega⟩
 have HFW : Aside0 (Few 1000000 (L.take x.k)) := ⟨hB.take _⟩
 have hk1 := eq_true (show (x.k : Int) ≤ (cL : Int) by omega)
 have HTL : Aside0 ((L.take x.k).length ≤ 1000000) := ⟨by rw [List.length_take]; omega⟩
 have O0 : Aside0 (Own N w []) := ⟨h⟩
 have K0 : Aside0 (KeepS N w w) := ⟨KeepS.refl _ _⟩
 have mA := blk8_ (HM_0.out.2)
 have xA := blk5_ (HX_0.out.2)
 clear h hm hp hx hl
 have HN := Am hn
 have HB := Am hb
 have HQ := Am hq
 have HKL := Am hk
 clear hn hb hq hk hL hcL hB
 go_enter Tryd.func41, Tryd.ntmps41
 go_wp2_with (first | ((with_reducible refine gC 77 rfl ?_); refine gP (some 8) Tryd.func77 #[pt gm, n] ?_; obtain ⟨N_, on_, nn_, rr_, bb_⟩ := O0.out.frame0; refine (MClient_ok n on_ (CellN.mono HM_0.out nn_) (Kd.F_mono HP_0.out nn_) HN.out HB.out HQ.out).mono ?_; rintro e_ w1 ⟨rfl, oo_, kk_⟩; obtain ⟨o_, k_⟩ := bb_ _ _ kk_ oo_; refine ⟨_, rfl, ?_⟩; obtain ⟨O1, K1⟩ := ok_ K0 o_ k_; have HM_1 := Am (CellN.keep HM_0.out k_); have HP_1 := Am (keepF HP_0.out k_); have HX_1 := Am (CellN.keep HX_0.out k_); have HL_1 := Am (keepF HL_0.out k_); clear mA xA O0 K0 HM_0 HP_0 HX_0 HL_0; have mA := blk8_ (HM_1.out.2); have xA := blk5_ (HX_1.out.2); clear o_ k_ oo_ kk_ on_ nn_ rr_ bb_))
 refine sP (n := 11) (S := fun w' => w'.cell? ⟨gm, 0, none⟩ = some (.int .i64 cf.cl) ∧ w'.cell? ⟨gm, 1, none⟩ = some (.int .i64 cf.win) ∧ w'.cell? ⟨gm, 2, none⟩ = some (.int .i64 cf.push) ∧ w'.cell? ⟨gm, 3, none⟩ = some (.int .i64 cf.pull) ∧ w'.cell? ⟨gm, 4, none⟩ = some (.int .i64 cf.mtu) ∧ w'.cell? ⟨gm, 5, none⟩ = some (.int .i64 cf.last) ∧ w'.cell? ⟨gm, 6, none⟩ = some (.slice AL L.length cL) ∧ w'.cell? ⟨gm, 7, none⟩ = some (.slice AC nc cC) ∧ w'.cell? ⟨q.1, 0, none⟩ = some (.int .i64 x.e) ∧ w'.cell? ⟨q.1, 1, none⟩ = some (.slice AJ x.J.length cJ) ∧ w'.cell? ⟨q.1, 2, none⟩ = some (.int .i64 x.k) ∧ w'.cell? ⟨q.1, 3, none⟩ = some (.int .i64 x.c) ∧ w'.cell? ⟨q.1, 4, none⟩ = some (.slice AU x.U.length cU)) (ds := []) ⟨mA.1, mA.2.1, mA.2.2.1, mA.2.2.2.1, mA.2.2.2.2.1, mA.2.2.2.2.2.1, mA.2.2.2.2.2.2.1, mA.2.2.2.2.2.2.2.1, xA.1, xA.2.1, xA.2.2.1, xA.2.2.2.1, xA.2.2.2.2.1⟩ (fun hHeld => ?_)
 obtain ⟨w2, hw_, k_, O2, K2⟩ := drw_ O1 K1
 rw [← hw_] at hHeld ⊢
 have HM_2 := Am (CellN.keep HM_1.out k_)
 have HP_2 := Am (keepF HP_1.out k_)
 have HX_2 := Am (CellN.keep HX_1.out k_)
 have HL_2 := Am (keepF HL_1.out k_)
 clear mA xA O1 K1 HM_1 HP_1 HX_1 HL_1
 have mA := blk8_ (HM_2.out.2)
 have xA := blk5_ (HX_2.out.2)
 clear k_ hw_
 refine pP 0 (some 11) ?_
 refine pP 1 (some 12) ?_
 refine pP 2 (some 13) ?_
 refine pP 4 (some 15) ?_
 refine pP 5 (some 16) ?_
 refine pP 6 (some 17) ?_
 refine tP 3 (some 14) hHeld ?_
 refine tP 7 (some 18) hHeld ?_
 refine pP 8 (some 19) ?_
 refine oP 9 (some 20) (fun K_ hK_ => ?_)
 refine hP Tryd.func76 #[.slice AL x.k cL] ?_
 obtain ⟨N_, on_, nn_, rr_, bb_⟩ := O2.out.frame0
 refine (MCopies_n AL cL x.k (L.take x.k) HTK.out on_ (Kd.F_mono (take_F HL_2.out HKL.out) nn_) HTL.out HFW.out).mono ?_
 rintro e_ w3 ⟨A1, c1, rfl, oo_, kk_⟩
 obtain ⟨o_, k_⟩ := bb_ _ _ kk_ oo_
 refine ⟨_, rfl, ?_⟩
 obtain ⟨O3, K3⟩ := ok_ K2 o_ k_
 have HM_3 := Am (CellN.keep HM_2.out k_)
 have HP_3 := Am (keepF HP_2.out k_)
 have HX_3 := Am (CellN.keep HX_2.out k_)
 have HL_3 := Am (keepF HL_2.out k_)
 clear mA xA O2 K2 HM_2 HP_2 HX_2 HL_2
 have mA := blk8_ (HM_3.out.2)
 have xA := blk5_ (HX_3.out.2)
 clear o_ k_ oo_ kk_ on_ nn_ rr_ bb_ hHeld
 refine hK_.out _ _ ⟨mA.1, mA.2.1, mA.2.2.1, mA.2.2.2.1, mA.2.2.2.2.1, mA.2.2.2.2.2.1, mA.2.2.2.2.2.2.1, mA.2.2.2.2.2.2.2.1, xA.1, xA.2.1, xA.2.2.1, xA.2.2.2.1, xA.2.2.2.2.1⟩ (fun hHeld => ?_)
 clear hK_ K_
 refine nP ?_
 refine pP 10 (some 4) ?_
 refine dN ?_
 clear hHeld
 go_wp2
 go_ret
 exact ⟨A1, c1, rfl, O3.out, K3.out⟩
theorem oneR (m : Nat) : ∀ u ∈ (Builtin.zeroCells (Value.agg #[.int .i64 0, .int .i64 0, .slice none 0 0]).cells m).toList, u.oneCell' = true := by
 intro u hu
 have h := Kd.reps_zeros (R := fun (_ : Unit) c => ∀ u ∈ c, u.oneCell' = true) (z := Value.agg #[.int .i64 0, .int .i64 0, .slice none 0 0]) (size := 3) (z0 := ()) rfl (by decide) (by decide) m
 exact Kd.reps_one h (by decide) (fun _ _ hp => hp) u hu
section
variable {P : Program} {ops : Array Oper} {rest : List Oper} {o : Oper} {a : Act} {Q : Exit → Act → World → Prop} {N : Nat → Prop} {W : World}
theorem own_zeros (d : Kd (List Value)) (h : Own N W []) (hgd : o.guard = none) (s x : Operand) (t tn e : TypeId) (z : Value) (bytes : Nat) {k kn : IntKind}
  (ho : o.op = .call { callee := .builtin .append, args := #[s, x], argTypes := #[t, tn] }) (ht : P.underlying t = some (.slice e)) (htn : P.underlying tn = some (.int kn))
  (hinfo : (P.info? e).map (fun i => (i.zero, i.size, i.bytes)) = some (some z, d.sz, bytes)) (hz : z.cells.size = d.sz) (hs0 : 0 < d.sz) (hb0 : 0 < bytes) (h1 : ∀ m : Nat, ∀ u ∈ (Builtin.zeroCells z.cells m).toList, u.oneCell' = true)
  (n : Nat) (h0 : 0 < n) (hs : a.eval s = .slice none 0 0) (hx : a.eval x = .int k (n : Int)) (hl : n * bytes ≤ 140737488355328) (hn : n ≤ 1000000)
  (hc : ∀ A c w1, n ≤ c → Own N w1 [nrow d e (.slice A 0 c) []] → KeepS N W w1 → wpList P ops Q rest (a.put o.dst (.slice A n c)) w1) : wpList P ops Q (o :: rest) a W := by
 obtain ⟨i0, hi, hzz⟩ := Option.map_eq_some_iff.1 hinfo
 simp only [Prod.mk.injEq] at hzz
 obtain ⟨hz0, hz1, hz2⟩ := hzz
 obtain ⟨v1, w1, hr, how, hg, _⟩ := run_append_zeros (P := P) W W.heap.size t tn o.type e i0 z d.sz bytes ht htn hi hz0 hz1 hz2 hz hs0 hb0 (.slice none 0 0) 0 [] (World.ownsRow_nil W W.heap.size e d.sz) k n (h1 n) (by rw [Nat.zero_add]; exact hl) (Nat.le_refl _)
 rw [Nat.zero_add] at how
 rcases how.2 with ⟨_, e0⟩ | ⟨g, cap, cur, rfl, hgb, hgh, hnc, hcm, hcs, _⟩
 ·omega
 have hbl : ∀ k, k < W.heap.size → w1.heap[k]? = W.heap[k]? := fun k hk => hg.block k hk (by simp [Value.ownBlock])
 have hN : (nrow d e (.slice (some ⟨g, 0, none⟩) 0 cap) []).P (fun k => k = g) w1 := Kd.R_N ⟨(by intro k hk; have e : g = k := (by simpa [Value.ownBlock] using hk); exact e.symm), [], ⟨(by simp), .inr ⟨g, cap, cur, rfl, Nat.zero_le _, hgh, Nat.zero_le _, hcm, hcs, by simp⟩⟩, Reps.none _ _⟩
 refine wpList_plain hgd fun K hK => ?_
 unfold Oper.wp execOp
 simp only [ho, resolve, invoke, builtin, Sem.run_bind, Sem.run_pure, Result.andThen_ok, List.map_toArray, List.map_cons, List.map_nil, hs, hx, hr]
 exact hK _ _ (hc _ _ _ hnc (h.push _ hg.size hbl hN (fun k hk => hk ▸ hgb)) (KeepS.grown hg (fun k hk => by simp [Value.ownBlock] at hk)))
end
theorem GrowN {N : Nat → Prop} {w : World} (n : Nat) (h : Own N w []) (hn : n ≤ 1000000) :
  Calls Tryd.prog 107 #[.slice none 0 0, n] w fun e_ w' => ∃ A c, e_ = .returned (.slice A 0 c) ∧ Own N w' [nrow (Kd.raw 3) tR7 (.slice A 0 c) []] ∧ KeepS N w w' := by
 have O0 : Aside0 (Own N w []) := ⟨h⟩
 have K0 : Aside0 (KeepS N w w) := ⟨KeepS.refl _ _⟩
 clear h 
 have HNN := Am hn
 by_cases h0 : n = 0
 ·subst h0
  clear hn
  go_enter Tryd.func107, Tryd.ntmps107
  go_wp2
  go_ret
  exact ⟨none, 0, rfl, O0.out.push_emp _ (fun w => Kd.N_nil _ _ _ _ _), K0.out⟩
 ·have hs2 : wrap64 (n : Int) = n := by unfold wrap64; omega
  have d1 : decide ((n : Int) < 0) = false := decide_eq_false (by omega)
  have d2 : decide ((n : Int) > 0) = true := decide_eq_true (by omega)
  have d3 : decide ((0 : Int) < (n : Int)) = true := d2
  have d4 : (0 < n) = True := eq_true (by omega)
  have d5 : (n = 0) = False := eq_false (by omega)
  have HZ : Aside0 (0 < n) := ⟨by omega⟩
  have HW := Am hs2
  clear h0 hn
  go_enter Tryd.func107, Tryd.ntmps107
  go_wp2_with (first | ((with_reducible refine gate_builtin (b := .append) (xs := #[.tmp 20, .tmp 21]) rfl ?_); at_builtin; refine own_zeros (Kd.raw 3) O0.out rfl (.tmp 20) (.tmp 21) 40 3 tR7 (.agg #[.int .i64 0, .int .i64 0, .slice none 0 0]) 40 rfl Tryd.underlying40 Tryd.underlying3 infoR rfl (by decide) (by decide) oneR n HZ.out rfl (int_eq17 HW.out) (by have := HNN.out; omega) HNN.out ?_; intro A c w1 hcn o_ k_; obtain ⟨O1, K1⟩ := ok_ K0 o_ k_; clear O0 K0 o_ k_))
  go_ret
  exact ⟨A, c, rfl, O1.out, K1.out⟩
def catK (K P : List Rnd7) (x : Int) : List Rnd7 := if x ≤ 0 then [] else if x ≤ 1 then K else K ++ P
theorem catK_two (K P : List Rnd7) : catK K P 2 = K ++ P := by unfold catK; rw [if_neg (by decide), if_neg (by decide)]
theorem catK_len (K P : List Rnd7) (x : Int) : (catK K P x).length ≤ K.length + P.length := by
 unfold catK
 split
 ·exact Nat.zero_le _
 ·split
  ·exact Nat.le_add_right _ _
  ·rw [List.length_append]
   exact Nat.le_refl _
theorem cat_at {M : Nat → Prop} {w : World} {A0 AK AP : Option Addr} {cK cP : Nat} {K P : List Rnd7} (hR : Kd.C (Kd.raw 1) w A0 2 [[.slice AK K.length cK], [.slice AP P.length cP]]) (hK : Kd.F kR7 w M AK K.length K) (hP : Kd.F kR7 w M AP P.length P) (x : Int) (h0 : 0 ≤ x) (h1 : x < (2 : Nat)) :
  ∃ (ad : Addr) (B : Option Addr) (b : Nat) (X : List Rnd7), A0 = some ad ∧ w.cell? (ad.add x.toNat) = some (.slice B X.length b) ∧ Kd.F kR7 w M B X.length X ∧ catK K P (x + 1) = catK K P x ++ X := by
 obtain ⟨ad, e, hc⟩ := hR.2.2 (by decide)
 by_cases hx : x = 0
 ·subst hx
  obtain ⟨c, hl, hk, hcc⟩ := hc 0 _ rfl
  have ec : c = [.slice AK K.length cK] := hk.1
  have h2 : w.cell? (ad.add (0 * 1 + 0)) = some (.slice AK K.length cK) := hcc 0 _ (by rw [ec]; rfl)
  exact ⟨ad, AK, cK, K, e, h2, hK, rfl⟩
 ·have hx : x = 1 := by omega
  subst hx
  obtain ⟨c, hl, hk, hcc⟩ := hc 1 _ rfl
  have ec : c = [.slice AP P.length cP] := hk.1
  have h2 : w.cell? (ad.add (1 * 1 + 0)) = some (.slice AP P.length cP) := hcc 0 _ (by rw [ec]; rfl)
  exact ⟨ad, AP, cP, P, e, h2, hP, rfl⟩
def CcI (N : Nat → Prop) (w : World) (K P : List Rnd7) (v i : Value) (wr : World) : Prop := ∃ x : Int, 0 ≤ x ∧ x ≤ 2 ∧ i = .int .i64 x ∧ v = .int .i64 ((catK K P x).length : Int) ∧ Aside0 (Own N wr []) ∧ Aside0 (KeepS N w wr)
def CdI (M N : Nat → Prop) (w : World) (K P : List Rnd7) (v i : Value) (wr : World) : Prop := ∃ (x : Int) (A2 : Option Addr) (c2 : Nat) (rows : RawR), 0 ≤ x ∧ x ≤ 2 ∧ i = .int .i64 x ∧ v = .slice A2 rows.length c2 ∧ Aside0 (Own N wr [nrow (Kd.raw 3) tR7 (.slice A2 rows.length c2) rows]) ∧ Aside0 (Lead M wr rows (catK K P x)) ∧ Aside0 (KeepS N w wr)
theorem ConcatN {M N : Nat → Prop} {w : World} {A0 AK AP : Option Addr} {cK cP c0 : Nat} {K P : List Rnd7} (h : Own N w []) (hR : Kd.F (Kd.raw 1) w N A0 2 [[.slice AK K.length cK], [.slice AP P.length cP]]) (hM : ∀ k, M k → N k) (hK : Kd.F kR7 w M AK K.length K) (hP : Kd.F kR7 w M AP P.length P) (hL : K.length + P.length ≤ 1000000) :
  Calls Tryd.prog 98 #[.slice A0 2 c0] w fun e_ w' => ∃ A1 c1 rows, e_ = .returned (.slice A1 (K ++ P).length c1) ∧ Own N w' [nrow (Kd.raw 3) tR7 (.slice A1 (K ++ P).length c1) rows] ∧ Lead M w' rows (K ++ P) ∧ KeepS N w w' := by
 have HRR := Am hR
 have HKK := Am hK
 have HPP := Am hP
 have HMN := Am hM
 have HL := Am hL
 have O0 : Aside0 (Own N w []) := ⟨h⟩
 have K0 : Aside0 (KeepS N w w) := ⟨KeepS.refl _ _⟩
 clear h hR hK hP hM hL
 go_enter Tryd.func98, Tryd.ntmps98
 go_wp2
 go_loopw [3, 11] (fun v i wr => CcI N w K P v i wr) (fun _ i _ => 2 - (intOf i).toNat)
 case atStart => exact ⟨0, by omega, by omega, rfl, rfl, O0, K0⟩
 case round =>
  obtain ⟨x, hx0, hx1, rfl, rfl, OA, KA⟩ := hrel
  by_cases hlt : x < 2
  ·obtain ⟨ad, B, b, X, eA, z0, hF, hcat⟩ := cat_at (Kd.F_now (keepF HRR.out KA.out)) (keepF HKK.out (KA.out.mono HMN.out)) (keepF HPP.out (KA.out.mono HMN.out)) x hx0 hlt
   cases eA
   have HF := Am hF
   have HCT := Am hcat
   have hs2 : wrap64 (x + 1) = x + 1 := by unfold wrap64; omega
   have hp := eq_true hx0
   have hq := eq_true hlt
   have hd := decide_eq_true hlt
   have hq2 := eq_true (show x < (2 : Nat) from hlt)
   have HX := Am (And.intro hx0 hlt)
   have HCL := Am (Nat.le_trans (catK_len K P (x + 1)) HL.out)
   have hsz : (catK K P (x + 1)).length = (catK K P x).length + X.length := by rw [hcat, List.length_append]
   obtain ⟨n1, hn1⟩ : ∃ n : Nat, (catK K P x).length = n := ⟨_, rfl⟩
   have hcl := HCL.out
   rw [hsz] at hcl
   rw [hn1] at hsz hcl ⊢
   have hs3 : wrap64 ((n1 : Int) + (X.length : Int)) = (n1 : Int) + (X.length : Int) := by unfold wrap64; omega
   have hd3 : decide ((n1 : Int) + (X.length : Int) < 0) = false := decide_eq_false (by omega)
   have HSZ := Am hsz
   clear hcat hF hx0 hx1 hlt hsz hcl hn1
   go_wp2
   go_roundw
   case rel => exact ⟨x + 1, by have := HX.out; omega, by have := HX.out; omega, int_eq17 (by unfold wrap64; have := HX.out; omega), int_eq17 (by rw [HSZ.out]; first | (unfold wrap64; have := HCL.out; have := HSZ.out; omega) | (rw [Int.natCast_add])), OA, KA⟩
   case measure => have := HX.out; simp [intOf]; omega
  ·have hxe : x = 2 := by omega
   subst hxe
   have hd : decide ((2 : Int) < 2) = false := decide_eq_false (Int.lt_irrefl _)
   clear hx0 hx1 hlt
   rw [catK_two]
   have hLL : (K ++ P).length ≤ 1000000 := by rw [List.length_append]; exact HL.out
   have HLL := Am hLL
   obtain ⟨nS, hnS⟩ : ∃ n, (K ++ P).length = n := ⟨_, rfl⟩
   rw [hnS] at hLL ⊢
   have HNS := Am hLL
   have HNE := Am hnS
   clear hLL hnS
   have O1 : Aside0 (Own N wr []) := ⟨OA.out⟩
   have K1 : Aside0 (KeepS N w wr) := ⟨KA.out⟩
   clear OA KA
   go_wp2_with (first | ((with_reducible refine gC 107 rfl ?_); refine gP (some 24) Tryd.func107 #[.slice none 0 0, nS] ?_; obtain ⟨N_, on_, nn_, rr_, bb_⟩ := O1.out.frame0; refine (GrowN nS on_ HNS.out).mono ?_; rintro e_ w2 ⟨A2, c2, rfl, oo_, kk_⟩; obtain ⟨o_, k_⟩ := bb_ _ _ kk_ oo_; refine ⟨_, rfl, ?_⟩; obtain ⟨O2, K2⟩ := ok_ K1 o_ k_; clear O1 K1 o_ k_ oo_ kk_ on_ nn_ rr_ bb_))
   go_loopw [6, 27] (fun v i wr => CdI M N w K P v i wr) (fun _ i _ => 2 - (intOf i).toNat)
   case atStart => exact ⟨0, A2, c2, [], by omega, by omega, rfl, rfl, O2, ⟨Lead.none _ _⟩, K2⟩
   case round =>
    clear O2 K2
    obtain ⟨x, A3, c3, rows, hx0, hx1, rfl, rfl, OA, LA, KA⟩ := hrel
    by_cases hlt : x < 2
    ·obtain ⟨ad, B, b, X, eA, z0, hF, hcat⟩ := cat_at (Kd.F_now (keepF HRR.out KA.out)) (keepF HKK.out (KA.out.mono HMN.out)) (keepF HPP.out (KA.out.mono HMN.out)) x hx0 hlt
     cases eA
     have HF := Am hF
     have HCT := Am hcat
     have hs2 : wrap64 (x + 1) = x + 1 := by unfold wrap64; omega
     have hp := eq_true hx0
     have hq := eq_true hlt
     have hd := decide_eq_true hlt
     have hq2 := eq_true (show x < (2 : Nat) from hlt)
     have HX := Am (And.intro hx0 hlt)
     have HCL := Am (Nat.le_trans (catK_len K P (x + 1)) HL.out)
     have HRL : Aside0 (rows.length = (catK K P x).length) := ⟨LA.out.1⟩
     obtain ⟨rX, lrX, qrX, LrX⟩ := rawOf hF
     have HXL := Am lrX
     have HQX := Am qrX
     have HLX := Am LrX
     clear hcat hF hx0 hx1 hlt lrX qrX LrX HF
     have O3 : Aside0 (Own N wr [nrow (Kd.raw 3) tR7 (.slice A3 rows.length c3) rows]) := ⟨OA.out⟩
     have K3 : Aside0 (KeepS N w wr) := ⟨KA.out⟩
     have HLD_3 : Aside0 (Lead M wr rows (catK K P x)) := ⟨LA.out⟩
     have HLE_3 : Aside0 (Lead M wr rX X) := ⟨HLX.out⟩
     clear OA LA KA HLX
     go_wp2_with (first | ((with_reducible refine gate_builtin (b := .append) (xs := #[.tmp 31, .tmp 32]) rfl ?_); at_builtin; refine Own.append_flat (Kd.raw 3) flatRaw O3.out (i := 0) (ys := rX) rfl (HQX.out) rfl (.tmp 31) (.tmp 32) 40 ((.agg #[.int .i64 0, .int .i64 0, .slice none 0 0])) 40 rfl Tryd.underlying40 infoR rfl (by decide) (by decide) rfl rfl (by have := HRL.out; have := HCT.out; have h3 := HCL.out; rw [HCT.out, List.length_append] at h3; omega) ?_; intro A4 c4 w4 o_ k_; obtain ⟨O4, K4⟩ := ok_ K3 o_ k_; have HLD_4 := Am (Lead.keep HLD_3.out (k_.mono HMN.out)); have HLE_4 := Am (Lead.keep HLE_3.out (k_.mono HMN.out)); clear O3 K3 HLD_3 HLE_3 o_ k_))
     go_roundw
     case rel => exact ⟨x + 1, A4, c4, rows ++ rX, by have := HX.out; omega, by have := HX.out; omega, int_eq17 (by unfold wrap64; have := HX.out; omega), (by first | rfl | exact slice_len17 List.length_append.symm), O4, ⟨by rw [HCT.out]; exact HLD_4.out.append HLE_4.out⟩, K4⟩
     case measure => have := HX.out; simp [intOf]; omega
    ·have hxe : x = 2 := by omega
     subst hxe
     have hd : decide ((2 : Int) < 2) = false := decide_eq_false (Int.lt_irrefl _)
     clear hx0 hx1 hlt
     rw [catK_two] at LA
     go_wp2
     go_ret
     exact ⟨A3, c3, rows, by show Ending.returned (.slice A3 rows.length c3) = _; rw [LA.out.1], by rw [← LA.out.1]; exact OA.out, LA.out, KA.out⟩
theorem ptr_F {N : Nat → Prop} {w : World} {ad : Addr} {n j : Nat} {qs : List (Nat × RawR)} {q : Nat × RawR} (h : Kd.F (Kd.raw 1) w N (some ad) n (ptrs qs)) (hj : j < n) (hq : qs[j]? = some q) : w.cell? (ad.add j) = some (pt q.1) := by
 obtain ⟨ad', e, hc⟩ := ptr_at (Kd.F_now h) (j : Int) (by omega) (by omega) (by rw [Int.toNat_natCast]; exact hq)
 cases e
 rwa [Int.toNat_natCast] at hc
theorem rep2L (W : World) (a b : Value) (ha : a.oneCell' = true) (hb : b.oneCell' = true) : Reps (Kd.FK (Kd.raw 1) W (fun _ => False)) 1 [[a], [b]] [a, b] := by
 have h1 : Kd.FK (Kd.raw 1) W (fun _ => False) [a] [a] := fun _ _ => ⟨rfl, rfl, fun u hu => by rw [List.mem_singleton] at hu; rw [hu]; exact ha⟩
 have h2 : Kd.FK (Kd.raw 1) W (fun _ => False) [b] [b] := fun _ _ => ⟨rfl, rfl, fun u hu => by rw [List.mem_singleton] at hu; rw [hu]; exact hb⟩
 exact ((Reps.none _ _).snoc h1 rfl).snoc h2 rfl
theorem ConcatV {M N : Nat → Prop} {w : World} {A0 AK AP : Option Addr} {cK cP c0 nK nP : Nat} {K P : List Rnd7} (X : List Rnd7) (eX : K ++ P = X) (eK : K.length = nK) (eP : P.length = nP) (h : Own N w []) (hR : Kd.F (Kd.raw 1) w N A0 2 [[.slice AK nK cK], [.slice AP nP cP]]) (hM : ∀ k, M k → N k) (hK : Kd.F kR7 w M AK K.length K) (hP : Kd.F kR7 w M AP P.length P) (hL : K.length + P.length ≤ 1000000) :
  Calls Tryd.prog 98 #[.slice A0 2 c0] w fun e_ w' => ∃ A1 c1 rows, e_ = .returned (.slice A1 X.length c1) ∧ Own N w' [nrow (Kd.raw 3) tR7 (.slice A1 X.length c1) rows] ∧ Lead M w' rows X ∧ KeepS N w w' := by
 subst eK eP eX
 exact ConcatN h hR hM hK hP hL
theorem MSeen {N : Nat → Prop} {w : World} {gm nc cL cC : Nat} {cf : MCf} {AL AC : Option Addr} {L : List Rnd7} {qs : List (Nat × RawR)} {q : Nat × RawR} {x : MCl} {AJ AU : Option Addr} {cJ cU : Nat} {M : Nat → Prop} (n : Int) (h : Own N w []) (hm : CellN N w gm #[cf.cl, cf.win, cf.push, cf.pull, cf.mtu, cf.last, .slice AL L.length cL, .slice AC nc cC] 123) (hp : Kd.F (Kd.raw 1) w N AC nc (ptrs qs)) (hx : CellN N w q.1 #[x.e, .slice AJ x.J.length cJ, x.k, x.c, .slice AU x.U.length cU] 127) (hM : ∀ k, M k → N k) (hlm : Kd.F kR7 w M AL L.length L) (hjm : Kd.F kR7 w M AJ x.J.length x.J) (hn : 1 ≤ n ∧ n ≤ nc) (hb : nc ≤ 64) (hq : qs[n.toNat - 1]? = some q) (hk : x.k ≤ L.length) (hL : L.length ≤ 1000000) (hcL : L.length ≤ cL) (ho : ownN n L x ≤ x.J.length) (hc : x.J.length ≤ cJ) (hLJ : L.length + x.J.length ≤ 1000000) :
  Calls Tryd.prog 80 #[pt gm, n] w fun e_ w' => ∃ A1 c1 rows, e_ = .returned (.slice A1 (seenR n L x).length c1) ∧ Own N w' [nrow (Kd.raw 3) tR7 (.slice A1 (seenR n L x).length c1) rows] ∧ Lead M w' rows (seenR n L x) ∧ KeepS N w w' := by
 have HMN := Am hM
 have HLM := Am hlm
 have HJM := Am hjm
 have hl := Kd.F_mono hlm hM
 obtain ⟨m, hm_⟩ : ∃ m, n - 1 = m := ⟨_, rfl⟩
 have hw : wrap64 (n - 1) = m := by rw [← hm_]; unfold wrap64; omega
 have hp_ := eq_true (show (0 : Int) ≤ m by omega)
 have hq2 := eq_true (show m < (nc : Int) by omega)
 have hmq : qs[m.toNat]? = some q := by rw [← hm_, show (n - 1).toNat = n.toNat - 1 by omega]; exact hq
 obtain ⟨ap, eP, z0⟩ := ptr_at (Kd.F_now hp) m (by omega) (by omega) hmq
 cases eP
 have HPT : Aside0 (m.toNat < nc ∧ qs[m.toNat]? = some q) := ⟨⟨by omega, hmq⟩⟩
 clear hmq z0
 have HTK : Aside0 ((L.take x.k).length = x.k) := ⟨by rw [List.length_take]; omega⟩
 have HDK : Aside0 ((pndR n L x).length = x.J.length - ownN n L x) := ⟨by unfold pndR; rw [List.length_drop]⟩
 have hk1 := eq_true (show (x.k : Int) ≤ (cL : Int) by omega)
 have HLJ := Am hLJ
 have HTL : Aside0 ((L.take x.k).length + (pndR n L x).length ≤ 1000000) := ⟨by rw [HTK.out, HDK.out]; omega⟩
 have HM_0 : Aside0 (CellN N w gm #[cf.cl, cf.win, cf.push, cf.pull, cf.mtu, cf.last, .slice AL L.length cL, .slice (some ap) nc cC] 123) := ⟨hm⟩
 have HP_0 : Aside0 (Kd.F (Kd.raw 1) w N (some ap) nc (ptrs qs)) := ⟨hp⟩
 have HX_0 : Aside0 (CellN N w q.1 #[x.e, .slice AJ x.J.length cJ, x.k, x.c, .slice AU x.U.length cU] 127) := ⟨hx⟩
 have HL_0 : Aside0 (Kd.F kR7 w N AL L.length L) := ⟨hl⟩
 have HN := Am hn
 have HB := Am hb
 have HQ := Am hq
 have HKL := Am hk
 have HLL := Am hL
 have HCL := Am hcL
 have HOW := Am ho
 have HCJ := Am hc
 have O0 : Aside0 (Own N w []) := ⟨h⟩
 have K0 : Aside0 (KeepS N w w) := ⟨KeepS.refl _ _⟩
 have mA := blk8_ (HM_0.out.2)
 have xA := blk5_ (HX_0.out.2)
 clear h hm hp hx hl hlm hjm hM hn hb hq hm_ hk hL hcL ho hc hLJ
 go_enter Tryd.func80, Tryd.ntmps80
 go_wp2
 refine sP (n := 22) (S := fun w' => w'.cell? ⟨gm, 0, none⟩ = some (.int .i64 cf.cl) ∧ w'.cell? ⟨gm, 1, none⟩ = some (.int .i64 cf.win) ∧ w'.cell? ⟨gm, 2, none⟩ = some (.int .i64 cf.push) ∧ w'.cell? ⟨gm, 3, none⟩ = some (.int .i64 cf.pull) ∧ w'.cell? ⟨gm, 4, none⟩ = some (.int .i64 cf.mtu) ∧ w'.cell? ⟨gm, 5, none⟩ = some (.int .i64 cf.last) ∧ w'.cell? ⟨gm, 6, none⟩ = some (.slice AL L.length cL) ∧ w'.cell? ⟨gm, 7, none⟩ = some (.slice (some ap) nc cC) ∧ w'.cell? ⟨q.1, 0, none⟩ = some (.int .i64 x.e) ∧ w'.cell? ⟨q.1, 1, none⟩ = some (.slice AJ x.J.length cJ) ∧ w'.cell? ⟨q.1, 2, none⟩ = some (.int .i64 x.k) ∧ w'.cell? ⟨q.1, 3, none⟩ = some (.int .i64 x.c) ∧ w'.cell? ⟨q.1, 4, none⟩ = some (.slice AU x.U.length cU) ∧ w'.cell? (ap.add m.toNat) = some (pt q.1)) (ds := []) ⟨mA.1, mA.2.1, mA.2.2.1, mA.2.2.2.1, mA.2.2.2.2.1, mA.2.2.2.2.2.1, mA.2.2.2.2.2.2.1, mA.2.2.2.2.2.2.2.1, xA.1, xA.2.1, xA.2.2.1, xA.2.2.2.1, xA.2.2.2.2.1, (ptr_F HP_0.out HPT.out.1 HPT.out.2)⟩ (fun hHeld => ?_)
 obtain ⟨w1, hw_, k_, O1, K1⟩ := drw_ O0 K0
 rw [← hw_] at hHeld ⊢
 have HM_1 := Am (CellN.keep HM_0.out k_)
 have HP_1 := Am (keepF HP_0.out k_)
 have HX_1 := Am (CellN.keep HX_0.out k_)
 have HL_1 := Am (keepF HL_0.out k_)
 clear mA xA O0 K0 HM_0 HP_0 HX_0 HL_0
 have mA := blk8_ (HM_1.out.2)
 have xA := blk5_ (HX_1.out.2)
 clear k_ hw_
 refine pP 0 (some 5) ?_
 refine pP 1 (some 6) ?_
 refine pP 2 (some 7) ?_
 refine pP 4 (some 9) ?_
 refine pP 5 (some 10) ?_
 refine pP 6 (some 11) ?_
 refine pP 8 (some 13) ?_
 refine pP 9 (some 14) ?_
 refine pP 16 (some 21) ?_
 refine pP 17 (some 22) ?_
 refine tP 3 (some 8) hHeld ?_
 refine tP 7 (some 12) hHeld ?_
 refine pP 10 (some 15) ?_
 refine tP 11 (some 16) hHeld ?_
 refine pP 12 (some 17) ?_
 refine pP 13 (some 18) ?_
 refine tP 14 (some 19) hHeld ?_
 refine pP 15 (some 20) ?_
 refine oP 18 (some 23) (fun K_ hK_ => ?_)
 refine hP Tryd.func78 #[pt gm, n] ?_
 obtain ⟨N_, on_, nn_, rr_, bb_⟩ := O1.out.frame0
 refine (MPend n on_ (CellN.mono HM_1.out nn_) (Kd.F_mono HP_1.out nn_) (CellN.mono HX_1.out nn_) (Kd.F_mono HL_1.out nn_) HN.out HB.out HQ.out HKL.out HLL.out HCL.out HOW.out HCJ.out).mono ?_
 rintro e_ w2 ⟨rfl, oo_, kk_⟩
 obtain ⟨o_, k_⟩ := bb_ _ _ kk_ oo_
 refine ⟨_, rfl, ?_⟩
 obtain ⟨O2, K2⟩ := ok_ K1 o_ k_
 have HM_2 := Am (CellN.keep HM_1.out k_)
 have HP_2 := Am (keepF HP_1.out k_)
 have HX_2 := Am (CellN.keep HX_1.out k_)
 have HL_2 := Am (keepF HL_1.out k_)
 clear mA xA O1 K1 HM_1 HP_1 HX_1 HL_1
 have mA := blk8_ (HM_2.out.2)
 have xA := blk5_ (HX_2.out.2)
 clear o_ k_ oo_ kk_ on_ nn_ rr_ bb_ hHeld
 refine hK_.out _ _ ⟨mA.1, mA.2.1, mA.2.2.1, mA.2.2.2.1, mA.2.2.2.2.1, mA.2.2.2.2.2.1, mA.2.2.2.2.2.2.1, mA.2.2.2.2.2.2.2.1, xA.1, xA.2.1, xA.2.2.1, xA.2.2.2.1, xA.2.2.2.2.1, (ptr_F HP_2.out HPT.out.1 HPT.out.2)⟩ (fun hHeld => ?_)
 clear hK_ K_
 refine nP ?_
 refine oP 19 (some 24) (fun K_ hK_ => ?_)
 refine own_lit_step (Kd.raw 1) (N := N) (e := 40) (xs := [[.slice AL x.k cL], [.slice (cutA AJ cJ (ownN n L x)) (x.J.length - ownN n L x) (cJ - ownN n L x)]]) (inner := [.slice AL x.k cL, .slice (cutA AJ cJ (ownN n L x)) (x.J.length - ownN n L x) (cJ - ownN n L x)]) rfl rfl gs_ (rep2L _ _ _ rfl rfl) (by simp) O2.out ?_
 intro A7 c7 w3 o_ k_
 obtain ⟨O3, K3⟩ := ok_ K2 o_ k_
 have HM_3 := Am (CellN.keep HM_2.out k_)
 have HP_3 := Am (keepF HP_2.out k_)
 have HX_3 := Am (CellN.keep HX_2.out k_)
 have HL_3 := Am (keepF HL_2.out k_)
 clear mA xA O2 K2 HM_2 HP_2 HX_2 HL_2
 have mA := blk8_ (HM_3.out.2)
 have xA := blk5_ (HX_3.out.2)
 clear o_ k_ hHeld
 refine hK_.out _ _ ⟨mA.1, mA.2.1, mA.2.2.1, mA.2.2.2.1, mA.2.2.2.2.1, mA.2.2.2.2.2.1, mA.2.2.2.2.2.2.1, mA.2.2.2.2.2.2.2.1, xA.1, xA.2.1, xA.2.2.1, xA.2.2.2.1, xA.2.2.2.2.1, (ptr_F HP_3.out HPT.out.1 HPT.out.2)⟩ (fun hHeld => ?_)
 clear hK_ K_
 refine nP ?_
 refine oP 20 (some 25) (fun K_ hK_ => ?_)
 refine hP Tryd.func98 #[.slice A7 2 c7] ?_
 obtain ⟨N_, on_, nn_, rr_, bb_⟩ := O3.out.frame0
 refine (ConcatV (K := L.take x.k) (P := pndR n L x) (seenR n L x) rfl HTK.out HDK.out on_ (Kd.N_F (rr_ 0 _ rfl)) (fun k hk => nn_ k (HMN.out k hk)) (take_F (keepF HLM.out (K3.out.mono HMN.out)) HKL.out) (cutF (keepF HJM.out (K3.out.mono HMN.out)) HOW.out HCJ.out) HTL.out).mono ?_
 rintro e_ w4 ⟨A1, c1, rows, rfl, oo_, ll_, kk_⟩
 obtain ⟨o_, k_⟩ := bb_ _ _ kk_ oo_
 refine ⟨_, rfl, ?_⟩
 have HLD_3 := Am ll_
 obtain ⟨O4, K4⟩ := ok_ K3 o_ k_
 have HM_4 := Am (CellN.keep HM_3.out k_)
 have HP_4 := Am (keepF HP_3.out k_)
 have HX_4 := Am (CellN.keep HX_3.out k_)
 have HL_4 := Am (keepF HL_3.out k_)
 clear mA xA O3 K3 HM_3 HP_3 HX_3 HL_3
 have mA := blk8_ (HM_4.out.2)
 have xA := blk5_ (HX_4.out.2)
 have HLD_4 : Aside0 (Lead M w4 rows (seenR n L x)) := ⟨ll_⟩
 clear o_ k_ oo_ kk_ on_ nn_ rr_ bb_ ll_ HLD_3 hHeld
 refine hK_.out _ _ ⟨mA.1, mA.2.1, mA.2.2.1, mA.2.2.2.1, mA.2.2.2.2.1, mA.2.2.2.2.2.1, mA.2.2.2.2.2.2.1, mA.2.2.2.2.2.2.2.1, xA.1, xA.2.1, xA.2.2.1, xA.2.2.2.1, xA.2.2.2.2.1, (ptr_F HP_4.out HPT.out.1 HPT.out.2)⟩ (fun hHeld => ?_)
 clear hK_ K_
 refine nP ?_
 refine pP 21 (some 4) ?_
 refine dN ?_
 clear hHeld
 go_wp2
 go_ret
 exact ⟨A1, c1, rows, rfl, O4.out.pick1 (a := 1) rfl, HLD_4.out, K4.out⟩
end Go.Proofs.YtjdenpmaianmfaaDoor.J
namespace Go.Proofs.YtjdenpmaianmfaaDoor.J
set_option maxHeartbeats 16000000
set_option maxRecDepth 100000
set_option linter.unusedSimpArgs false
set_option linter.unusedVariables false
open Go RowKit YtjdenpmaianmfaaDoorW.PrintWords YtjdenpmaianmfaaDoorW.PrintLast YtjdenpmaianmfaaDoorW.PrintMore Q YtjdenpmaianmfaaDoor.Sep YtjdenpmaianmfaaDoor.Pure
theorem cloneC (ups : List Upd7) (hu : ups.length ≤ 1000000) : api_Update.f ups = some ups := by
 unfold api_Update.f
 rw [if_pos (by omega)]
theorem MUpd {N : Nat → Prop} {w : World} {gm g : Nat} {cf : MCf} {vL vC vJ : Value} {x : MCl} {AU : Option Addr} {cU : Nat} (key : ByteArray) (c n : Int) (s : ByteArray) (h : Own N w [cells g #[x.e, vJ, x.k, x.c, .slice AU x.U.length cU] 127, nrow kU7 tU7 (.slice AU x.U.length cU) x.U]) (hmm : CellN N w gm #[cf.cl, cf.win, cf.push, cf.pull, cf.mtu, cf.last, vL, vC] 123) (ht : TabN N w) (hL : x.U.length ≤ 1000000) :
  Calls Tryd.prog 79 #[pt gm, pt g, .agg #[key, c, n, s]] w fun e_ w' => ∃ A1 c1, e_ = .returned (.int .i64 (updE x.U key c n s cf.mtu)) ∧ Own N w' [cells g #[x.e, vJ, x.k, x.c, .slice A1 (updU x.U key c n s cf.mtu).length c1] 127, nrow kU7 tU7 (.slice A1 (updU x.U key c n s cf.mtu).length c1) (updU x.U key c n s cf.mtu)] ∧ KeepS N w w' := by
 obtain ⟨X, hX⟩ : ∃ X : Int × List Upd7, (updE x.U key c n s cf.mtu, updU x.U key c n s cf.mtu) = X := ⟨_, rfl⟩
 have HC : ((may key c n s != 0) = true ∧ Aside0 (X = (may key c n s, x.U))) ∨ ((may key c n s != 0) = false ∧ Aside0 (X = bif fitsB [(⟨key, c, n, s⟩ : Upd7)] cf.mtu then (bif fitsB (x.U ++ [(⟨key, c, n, s⟩ : Upd7)]) cf.mtu then (0, x.U ++ [(⟨key, c, n, s⟩ : Upd7)]) else (7, x.U)) else (3, x.U))) := by
  subst hX
  rcases upd_cases x.U key c n s cf.mtu with ⟨h1, e1, e2⟩ | ⟨h1, h2, e1, e2⟩ | ⟨h1, h2, h3, e1, e2⟩ | ⟨h1, h2, h3, e1, e2⟩ <;> rw [e1, e2]
  ·exact .inl ⟨bne_iff_ne.mpr h1, ⟨rfl⟩⟩
  ·exact .inr ⟨bne_eq_false_iff_eq.mpr h1, ⟨by rw [h2]; rfl⟩⟩
  ·exact .inr ⟨bne_eq_false_iff_eq.mpr h1, ⟨by rw [h2, h3]; rfl⟩⟩
  ·exact .inr ⟨bne_eq_false_iff_eq.mpr h1, ⟨by rw [h2, h3]; rfl⟩⟩
 have e1 : updE x.U key c n s cf.mtu = X.1 := by rw [← hX]
 have e2 : updU x.U key c n s cf.mtu = X.2 := by rw [← hX]
 rw [e1, e2]
 clear e1 e2 hX
 have HT_0 := Am ht
 have HM_0 := Am hmm
 have HL := Am hL
 have O0 : Aside0 (Own N w [cells g #[x.e, vJ, x.k, x.c, .slice AU x.U.length cU] 127, nrow kU7 tU7 (.slice AU x.U.length cU) x.U]) := ⟨h⟩
 have K0 : Aside0 (KeepS N w w) := ⟨KeepS.refl _ _⟩
 have a0 := k5_ O0 0
 have mA := blk8_ (HM_0.out.2)
 clear h ht hL hmm
 rcases HC with ⟨d1, HDX⟩ | ⟨d1, HDX⟩
 all_goals go_enter Tryd.func79, Tryd.ntmps79
 all_goals go_wp2_with (first | ((with_reducible refine gD 5 rfl ?_); refine bP 5 #[key, c, n, s] 32 O0.out ?_; intro ga w1 o_ k_; obtain ⟨O1, K1⟩ := ok_ K0 o_ k_; have HT_1 := Am (TabN.keep HT_0.out k_); have HM_1 := Am (CellN.keep HM_0.out k_); clear a0 mA O0 K0 HT_0 HM_0; have a0 := k5_ O1 0; have a2 := k4_ O1 2; have mA := blk8_ (HM_1.out.2); clear o_ k_) | ((with_reducible refine gC 69 rfl ?_); refine gP (some 10) Tryd.func69 #[.agg #[key, c, n, s]] ?_; refine (value_May.calls 4 key c n s (may key c n s) _ (may_ok 0 key c n s)).mono ?_; rintro e_ w2 ⟨rfl, hb_⟩; refine ⟨_, rfl, ?_⟩; have o_ := O1.out.below hb_; have k_ := KeepS.of_below (N := N) hb_; obtain ⟨O2, K2⟩ := ok_ K1 o_ k_; have HT_2 := Am (TabN.keep HT_1.out k_); have HM_2 := Am (CellN.keep HM_1.out k_); clear a0 a2 mA O1 K1 HT_1 HM_1; have a0 := k5_ O2 0; have a2 := k4_ O2 2; have mA := blk8_ (HM_2.out.2); clear o_ k_ hb_))
 ·go_ret
  obtain ⟨rfl⟩ := HDX
  exact ⟨AU, cU, rfl, O2.out.pickL [0, 1] (by decide) (by simp), K2.out⟩
 obtain ⟨f1, hf1⟩ : ∃ f, fitsB [(⟨key, c, n, s⟩ : Upd7)] cf.mtu = f := ⟨_, rfl⟩
 obtain ⟨V, hV⟩ : ∃ V, x.U ++ [(⟨key, c, n, s⟩ : Upd7)] = V := ⟨_, rfl⟩
 obtain ⟨f2, hf2⟩ : ∃ f, fitsB V cf.mtu = f := ⟨_, rfl⟩
 rw [hV, hf1, hf2] at HDX
 have HF1 := Am hf1
 have HV := Am hV
 have HF2 := Am hf2
 clear hf1 hV hf2
 refine sP (n := 9) (S := fun w' => w'.cell? ⟨gm, 4, none⟩ = some (.int .i64 cf.mtu) ∧ w'.cell? ⟨ga, 0, none⟩ = some (.string key) ∧ w'.cell? ⟨ga, 1, none⟩ = some (.int .i64 c) ∧ w'.cell? ⟨ga, 2, none⟩ = some (.int .i64 n) ∧ w'.cell? ⟨ga, 3, none⟩ = some (.string s)) (ds := []) ⟨mA.2.2.2.2.1, a2.1, a2.2.1, a2.2.2.1, a2.2.2.2.1⟩ (fun hHeld => ?_)
 obtain ⟨w3, hw_, k_, O3, K3⟩ := drw_ O2 K2
 rw [← hw_] at hHeld ⊢
 have HT_3 := Am (TabN.keep HT_2.out k_)
 have HM_3 := Am (CellN.keep HM_2.out k_)
 clear a0 a2 mA O2 K2 HT_2 HM_2
 have a0 := k5_ O3 0
 have a2 := k4_ O3 2
 have mA := blk8_ (HM_3.out.2)
 clear k_ hw_
 refine pP 2 (some 16) ?_
 refine pP 3 (some 17) ?_
 refine pP 4 (some 18) ?_
 refine pP 5 (some 19) ?_
 refine tP 0 (some 14) hHeld ?_
 refine tP 6 (some 20) hHeld ?_
 refine oP 1 (some 15) (fun K_ hK_ => ?_)
 refine own_lit_step kU7 (N := N) (e := 32) (xs := [(⟨key, c, n, s⟩ : Upd7)]) (inner := [key, c, n, s]) rfl rfl gs_ (repU1 _ (⟨key, c, n, s⟩ : Upd7)) (by show 1 ≤ 9223372036854775807; decide) O3.out ?_
 intro B1 d1_ w4 o_ k_
 obtain ⟨O4, K4⟩ := ok_ K3 o_ k_
 have HT_4 := Am (TabN.keep HT_3.out k_)
 have HM_4 := Am (CellN.keep HM_3.out k_)
 clear a0 a2 mA O3 K3 HT_3 HM_3
 have a0 := k5_ O4 0
 have a2 := k4_ O4 2
 have mA := blk8_ (HM_4.out.2)
 clear o_ k_ hHeld
 refine hK_.out _ _ ⟨mA.2.2.2.2.1, a2.1, a2.2.1, a2.2.2.1, a2.2.2.2.1⟩ (fun hHeld => ?_)
 clear hK_ K_
 refine nP ?_
 refine oP 7 (some 21) (fun K_ hK_ => ?_)
 refine hP Tryd.func70 #[.slice B1 1 d1_, cf.mtu] ?_
 refine (round_Fits.calls _ _ [(⟨key, c, n, s⟩ : Upd7)] cf.mtu f1 _ ⟨HT_4.out.2⟩ (O4.out.nreads (i := 3) rfl).2.2 (O4.out.nreads (i := 3) rfl).2.1 (by rw [pfits, HF1.out])).mono ?_
 rintro e_ w5 ⟨rfl, hb_⟩
 refine ⟨_, rfl, ?_⟩
 have o_ := O4.out.below hb_
 have k_ := KeepS.of_below (N := N) hb_
 obtain ⟨O5, K5⟩ := ok_ K4 o_ k_
 have HT_5 := Am (TabN.keep HT_4.out k_)
 have HM_5 := Am (CellN.keep HM_4.out k_)
 clear a0 a2 mA O4 K4 HT_4 HM_4
 have a0 := k5_ O5 0
 have a2 := k4_ O5 2
 have mA := blk8_ (HM_5.out.2)
 clear o_ k_ hb_ hHeld
 refine hK_.out _ _ ⟨mA.2.2.2.2.1, a2.1, a2.2.1, a2.2.2.1, a2.2.2.2.1⟩ (fun hHeld => ?_)
 clear hK_ K_
 refine nP ?_
 refine pP 8 (some 22) ?_
 refine dN ?_
 clear hHeld
 cases f1
 ·skip
  go_wp2
  go_ret
  obtain ⟨rfl⟩ := HDX
  exact ⟨AU, cU, rfl, O5.out.pickL [0, 1] (by decide) (by simp), K5.out⟩
 ·go_wp2
  refine sP (n := 9) (S := fun w' => w'.cell? ⟨g, 4, none⟩ = some (.slice AU x.U.length cU) ∧ w'.cell? ⟨ga, 0, none⟩ = some (.string key) ∧ w'.cell? ⟨ga, 1, none⟩ = some (.int .i64 c) ∧ w'.cell? ⟨ga, 2, none⟩ = some (.int .i64 n) ∧ w'.cell? ⟨ga, 3, none⟩ = some (.string s)) (ds := []) ⟨a0.2.2.2.2.1, a2.1, a2.2.1, a2.2.2.1, a2.2.2.2.1⟩ (fun hHeld => ?_)
  obtain ⟨w6, hw_, k_, O6, K6⟩ := drw_ O5 K5
  rw [← hw_] at hHeld ⊢
  have HT_6 := Am (TabN.keep HT_5.out k_)
  have HM_6 := Am (CellN.keep HM_5.out k_)
  clear a0 a2 mA O5 K5 HT_5 HM_5
  have a0 := k5_ O6 0
  have a2 := k4_ O6 2
  have mA := blk8_ (HM_6.out.2)
  clear k_ hw_
  refine pP 0 (some 23) ?_
  refine pP 1 (some 24) ?_
  refine pP 2 (some 25) ?_
  refine tP 3 (some 26) hHeld ?_
  refine tP 5 (some 28) hHeld ?_
  refine join_ (σ := Option Addr × Nat × Option Addr × Nat) 2 #[true, true, true, true, true, true, true, false, false] (fun ⟨C2, e2, D1, h1_⟩ => [(27, .slice C2 x.U.length e2), (29, .slice D1 1 h1_)]) (fun ⟨C2, e2, D1, h1_⟩ w' => Own N w' [cells g #[x.e, vJ, x.k, x.c, .slice AU x.U.length cU] 127, nrow kU7 tU7 (.slice AU x.U.length cU) x.U, cells ga #[key, c, n, s] 32, nrow kU7 tU7 (.slice B1 1 d1_) [(⟨key, c, n, s⟩ : Upd7)], nrow kU7 tU7 (.slice C2 x.U.length e2) x.U, nrow kU7 tU7 (.slice D1 1 h1_) [(⟨key, c, n, s⟩ : Upd7)]] ∧ KeepS N w6 w') ?hcont ?hways
  case hways =>
   intro hc_
   have K7 : Aside0 (KeepS N w6 w6) := ⟨KeepS.refl _ _⟩
   have O7 : Aside0 (Own N w6 [cells g #[x.e, vJ, x.k, x.c, .slice AU x.U.length cU] 127, nrow kU7 tU7 (.slice AU x.U.length cU) x.U, cells ga #[key, c, n, s] 32, nrow kU7 tU7 (.slice B1 1 d1_) [(⟨key, c, n, s⟩ : Upd7)]]) := O6
   refine tW_ 4 6 (some 27) (some 29) (fun K_ hK_ => ?_) (fun K_ hK_ => ?_)
   ·skip
    refine hP Tryd.func97 #[.slice AU x.U.length cU] ?_
    refine (api_Update.calls AU cU x.U x.U _ (O7.out.nreads (i := 1) rfl).2.2 (O7.out.nreads (i := 1) rfl).2.1 (cloneC _ HL.out)).mono ?_
    rintro e_ w8 ⟨v_, rfl, hR_, hb_⟩
    obtain ⟨C2, e2, e__⟩ := Kd.R_slice hR_
    subst e__
    refine ⟨_, rfl, ?_⟩
    have o_ := O7.out.pushR hb_ (Nat.le_refl _) hR_
    have k_ := KeepS.of_below (N := N) hb_
    obtain ⟨O8, K8⟩ := ok_ K7 o_ k_
    have HT_8 := Am (TabN.keep HT_6.out k_)
    have HM_8 := Am (CellN.keep HM_6.out k_)
    clear a0 a2 mA O7 K7 HT_6 HM_6
    have a0 := k5_ O8 0
    have a2 := k4_ O8 2
    have mA := blk8_ (HM_8.out.2)
    clear o_ k_ hb_ hR_ hHeld
    refine hK_.out _ _ ⟨a0.2.2.2.2.1, a2.1, a2.2.1, a2.2.2.1, a2.2.2.2.1⟩ (fun hHeld => ?_)
    clear hK_ K_
    refine nR_ ?_
    refine oP 6 (some 29) (fun K_ hK_ => ?_)
    refine own_lit_step kU7 (N := N) (e := 32) (xs := [(⟨key, c, n, s⟩ : Upd7)]) (inner := [key, c, n, s]) rfl rfl gs_ (repU1 _ (⟨key, c, n, s⟩ : Upd7)) (by show 1 ≤ 9223372036854775807; decide) O8.out ?_
    intro D1 h1_ w9 o_ k_
    obtain ⟨O9, K9⟩ := ok_ K8 o_ k_
    have HT_9 := Am (TabN.keep HT_8.out k_)
    have HM_9 := Am (CellN.keep HM_8.out k_)
    clear a0 a2 mA O8 K8 HT_8 HM_8
    have a0 := k5_ O9 0
    have a2 := k4_ O9 2
    have mA := blk8_ (HM_9.out.2)
    clear o_ k_ hHeld
    refine hK_.out _ _ ⟨a0.2.2.2.2.1, a2.1, a2.2.1, a2.2.2.1, a2.2.2.2.1⟩ (fun hHeld => ?_)
    clear hK_ K_
    refine nR_ ?_
    refine norm_ (a' := _) ?_ (hc_ ⟨C2, e2, D1, h1_⟩ _ ⟨?_, K9.out⟩)
    ·simp only [putAll, Act.put, List.setIfInBounds_toArray, List.set_cons_zero, List.set_cons_succ]
     try rfl
    ·exact O9.out.pickL [0, 1, 2, 3, 4, 5] (by decide) (by simp)
   ·skip
    refine own_lit_step kU7 (N := N) (e := 32) (xs := [(⟨key, c, n, s⟩ : Upd7)]) (inner := [key, c, n, s]) rfl rfl gs_ (repU1 _ (⟨key, c, n, s⟩ : Upd7)) (by show 1 ≤ 9223372036854775807; decide) O7.out ?_
    intro D1 h1_ w8 o_ k_
    obtain ⟨O8, K8⟩ := ok_ K7 o_ k_
    have HT_8 := Am (TabN.keep HT_6.out k_)
    have HM_8 := Am (CellN.keep HM_6.out k_)
    clear a0 a2 mA O7 K7 HT_6 HM_6
    have a0 := k5_ O8 0
    have a2 := k4_ O8 2
    have mA := blk8_ (HM_8.out.2)
    clear o_ k_ hHeld
    refine hK_.out _ _ ⟨a0.2.2.2.2.1, a2.1, a2.2.1, a2.2.2.1, a2.2.2.2.1⟩ (fun hHeld => ?_)
    clear hK_ K_
    refine nR_ ?_
    refine oP 4 (some 27) (fun K_ hK_ => ?_)
    refine hP Tryd.func97 #[.slice AU x.U.length cU] ?_
    refine (api_Update.calls AU cU x.U x.U _ (O8.out.nreads (i := 1) rfl).2.2 (O8.out.nreads (i := 1) rfl).2.1 (cloneC _ HL.out)).mono ?_
    rintro e_ w9 ⟨v_, rfl, hR_, hb_⟩
    obtain ⟨C2, e2, e__⟩ := Kd.R_slice hR_
    subst e__
    refine ⟨_, rfl, ?_⟩
    have o_ := O8.out.pushR hb_ (Nat.le_refl _) hR_
    have k_ := KeepS.of_below (N := N) hb_
    obtain ⟨O9, K9⟩ := ok_ K8 o_ k_
    have HT_9 := Am (TabN.keep HT_8.out k_)
    have HM_9 := Am (CellN.keep HM_8.out k_)
    clear a0 a2 mA O8 K8 HT_8 HM_8
    have a0 := k5_ O9 0
    have a2 := k4_ O9 2
    have mA := blk8_ (HM_9.out.2)
    clear o_ k_ hb_ hR_ hHeld
    refine hK_.out _ _ ⟨a0.2.2.2.2.1, a2.1, a2.2.1, a2.2.2.1, a2.2.2.2.1⟩ (fun hHeld => ?_)
    clear hK_ K_
    refine nR_ ?_
    refine norm_ (a' := _) ?_ (hc_ ⟨C2, e2, D1, h1_⟩ _ ⟨?_, K9.out⟩)
    ·simp only [putAll, Act.put, List.setIfInBounds_toArray, List.set_cons_zero, List.set_cons_succ]
     try rfl
    ·exact O9.out.pickL [0, 1, 2, 3, 5, 4] (by decide) (by simp)
  case hcont =>
   clear hHeld
   rintro ⟨C2, e2, D1, h1_⟩ w7 ⟨o_, k_⟩
   obtain ⟨O7, K7⟩ := ok_ K6 o_ k_
   have HT_7 := Am (TabN.keep HT_6.out k_)
   have HM_7 := Am (CellN.keep HM_6.out k_)
   clear a0 a2 mA O6 K6 HT_6 HM_6
   have a0 := k5_ O7 0
   have a2 := k4_ O7 2
   have mA := blk8_ (HM_7.out.2)
   clear o_ k_
   refine nA_ ?_
   have hHeld : w7.cell? ⟨g, 4, none⟩ = some (.slice AU x.U.length cU) ∧ w7.cell? ⟨ga, 0, none⟩ = some (.string key) ∧ w7.cell? ⟨ga, 1, none⟩ = some (.int .i64 c) ∧ w7.cell? ⟨ga, 2, none⟩ = some (.int .i64 n) ∧ w7.cell? ⟨ga, 3, none⟩ = some (.string s) := ⟨a0.2.2.2.2.1, a2.1, a2.2.1, a2.2.2.1, a2.2.2.2.1⟩
   refine oP 7 (some 30) (fun K_ hK_ => ?_)
   refine Own.append_flat_step kU7 flatU O7.out (i := 4) (ys := [(⟨key, c, n, s⟩ : Upd7)]) rfl (O7.out.nreads (i := 5) rfl).2.2 rfl (by rfl) (.tmp 27) (.tmp 29) 33 (.agg #[.string ⟨#[]⟩, .int .i64 0, .int .i64 0, .string ⟨#[]⟩]) 48 rfl Tryd.underlying33 infoU7 rfl (by decide) (by decide) rfl rfl (by have := HL.out; omega) ?_
   rw [HV.out]
   intro C3 e3 w8 o_ k_
   obtain ⟨O8, K8⟩ := ok_ K7 o_ k_
   have HT_8 := Am (TabN.keep HT_7.out k_)
   have HM_8 := Am (CellN.keep HM_7.out k_)
   clear a0 a2 mA O7 K7 HT_7 HM_7
   have a0 := k5_ O8 0
   have a2 := k4_ O8 2
   have mA := blk8_ (HM_8.out.2)
   clear o_ k_ hHeld
   refine hK_.out _ _ ⟨a0.2.2.2.2.1, a2.1, a2.2.1, a2.2.2.1, a2.2.2.2.1⟩ (fun hHeld => ?_)
   clear hK_ K_
   refine nP ?_
   refine pP 8 (some 8) ?_
   refine dN ?_
   clear hHeld
   cases f2
   ·skip
    go_wp2_with (first | ((with_reducible refine gC 70 rfl ?_); refine gP (some 37) Tryd.func70 #[.slice C3 V.length e3, cf.mtu] ?_; refine (round_Fits.calls _ _ V cf.mtu false _ ⟨HT_8.out.2⟩ (O8.out.nreads (i := 4) rfl).2.2 (O8.out.nreads (i := 4) rfl).2.1 (by rw [pfits, HF2.out])).mono ?_; rintro e_ w9 ⟨rfl, hb_⟩; refine ⟨_, rfl, ?_⟩; have o_ := O8.out.below hb_; have k_ := KeepS.of_below (N := N) hb_; obtain ⟨O9, K9⟩ := ok_ K8 o_ k_; have HT_9 := Am (TabN.keep HT_8.out k_); have HM_9 := Am (CellN.keep HM_8.out k_); clear a0 a2 mA O8 K8 HT_8 HM_8; have a0 := k5_ O9 0; have a2 := k4_ O9 2; have mA := blk8_ (HM_9.out.2); clear o_ k_ hb_))
    go_ret
    obtain ⟨rfl⟩ := HDX
    exact ⟨AU, cU, rfl, O9.out.pickL [0, 1] (by decide) (by simp), K9.out⟩
   ·skip
    go_wp2_with (first | ((with_reducible refine gC 70 rfl ?_); refine gP (some 37) Tryd.func70 #[.slice C3 V.length e3, cf.mtu] ?_; refine (round_Fits.calls _ _ V cf.mtu true _ ⟨HT_8.out.2⟩ (O8.out.nreads (i := 4) rfl).2.2 (O8.out.nreads (i := 4) rfl).2.1 (by rw [pfits, HF2.out])).mono ?_; rintro e_ w9 ⟨rfl, hb_⟩; refine ⟨_, rfl, ?_⟩; have o_ := O8.out.below hb_; have k_ := KeepS.of_below (N := N) hb_; obtain ⟨O9, K9⟩ := ok_ K8 o_ k_; have HT_9 := Am (TabN.keep HT_8.out k_); have HM_9 := Am (CellN.keep HM_8.out k_); clear a0 a2 mA O8 K8 HT_8 HM_8; have a0 := k5_ O9 0; have a2 := k4_ O9 2; have mA := blk8_ (HM_9.out.2); clear o_ k_ hb_) | ((with_reducible refine gT 33 42 rfl ?_); refine wS 0 4 [.slice C3 V.length e3] O9 ?_; intro w10 o_ k_; obtain ⟨O10, K10⟩ := ok_ K9 o_ k_; have HT_10 := Am (TabN.keep HT_9.out k_); have HM_10 := Am (CellN.keep HM_9.out k_); clear a0 a2 mA O9 K9 HT_9 HM_9; have a0 := k5_ O10 0; have a2 := k4_ O10 2; have mA := blk8_ (HM_10.out.2); clear o_ k_))
    go_ret
    obtain ⟨rfl⟩ := HDX
    exact ⟨C3, e3, rfl, O10.out.pickL [0, 4] (by decide) (by simp), K10.out⟩
abbrev repV (e : Int) (n : Int) : Value := .agg #[e, .int .i64 0, .int .i64 0, .string ⟨#[]⟩, false, n]
def mpushE (n : Int) (L : List Rnd7) (x : MCl) (cf : MCf) : Int := if x.U.length = 0 then 11 else if ((x.J.length - ownN n L x : Nat) : Int) ≥ cf.push then 7 else if (x.J.length : Int) ≥ cf.last then 8 else 0
theorem mpush_cases (n : Int) (L : List Rnd7) (x : MCl) (cf : MCf) : (x.U.length = 0 ∧ mpushE n L x cf = 11) ∨ (x.U.length ≠ 0 ∧ ((x.J.length - ownN n L x : Nat) : Int) ≥ cf.push ∧ mpushE n L x cf = 7) ∨ (x.U.length ≠ 0 ∧ ¬ ((x.J.length - ownN n L x : Nat) : Int) ≥ cf.push ∧ (x.J.length : Int) ≥ cf.last ∧ mpushE n L x cf = 8) ∨ (x.U.length ≠ 0 ∧ ¬ ((x.J.length - ownN n L x : Nat) : Int) ≥ cf.push ∧ ¬ (x.J.length : Int) ≥ cf.last ∧ mpushE n L x cf = 0) := by
 unfold mpushE
 by_cases h1 : x.U.length = 0
 ·exact .inl ⟨h1, if_pos h1⟩
 ·by_cases h2 : ((x.J.length - ownN n L x : Nat) : Int) ≥ cf.push
  ·exact .inr (.inl ⟨h1, h2, by rw [if_neg h1, if_pos h2]⟩)
  ·by_cases h3 : (x.J.length : Int) ≥ cf.last
   ·exact .inr (.inr (.inl ⟨h1, h2, h3, by rw [if_neg h1, if_neg h2, if_pos h3]⟩))
   ·exact .inr (.inr (.inr ⟨h1, h2, h3, by rw [if_neg h1, if_neg h2, if_neg h3]⟩))
theorem MPush {N : Nat → Prop} {w : World} {gm nc cL cC : Nat} {cf : MCf} {AL AC : Option Addr} {L : List Rnd7} {qs : List (Nat × RawR)} {q : Nat × RawR} {x : MCl} {AJ AU : Option Addr} {cJ cU : Nat} {rJ : RawR} {Q : Ending → World → Prop} (n : Int) (h : Own N w [cells q.1 #[x.e, .slice AJ x.J.length cJ, x.k, x.c, .slice AU x.U.length cU] 127, nrow kU7 tU7 (.slice AU x.U.length cU) x.U, nrow (Kd.raw 3) tR7 (.slice AJ x.J.length cJ) rJ]) (hm : CellN N w gm #[cf.cl, cf.win, cf.push, cf.pull, cf.mtu, cf.last, .slice AL L.length cL, .slice AC nc cC] 123) (hp : Kd.F (Kd.raw 1) w N AC nc (ptrs qs)) (hl : Kd.F kR7 w N AL L.length L) (hn : 1 ≤ n ∧ n ≤ nc) (hb : nc ≤ 64) (hq : qs[n.toNat - 1]? = some q) (hk : x.k ≤ L.length) (hL : L.length ≤ 1000000) (hcL : L.length ≤ cL) (ho : ownN n L x ≤ x.J.length) (hc : x.J.length ≤ cJ) (hLJ : x.J.length ≤ 1000000) (hrJ : rJ.length = x.J.length) (q1 : mpushE n L x cf ≠ 0 → ∀ w', Own N w' [cells q.1 #[x.e, .slice AJ x.J.length cJ, x.k, x.c, .slice AU x.U.length cU] 127, nrow kU7 tU7 (.slice AU x.U.length cU) x.U, nrow (Kd.raw 3) tR7 (.slice AJ x.J.length cJ) rJ] → KeepS N w w' → Q (.returned (repV (mpushE n L x cf) 0)) w')
  (q2 : mpushE n L x cf = 0 → ∀ w' B2 b2, Own N w' [cells q.1 #[x.e, .slice B2 (x.J.length + 1) b2, x.k, x.c, .slice none 0 0] 127, nrow kU7 tU7 (.slice AU x.U.length cU) x.U, nrow (Kd.raw 3) tR7 (.slice B2 (x.J.length + 1) b2) (rJ ++ [rw3 n ((x.J.length : Int) + 1) (.slice AU x.U.length cU)])] → KeepS N w w' → Q (.returned (repV 0 ((x.J.length + 1 : Nat) : Int))) w') :
  Calls Tryd.prog 81 #[pt gm, n, pt q.1] w fun e_ w' => Q e_ w' ∧ True := by
 have HM_0 : Aside0 (CellN N w gm #[cf.cl, cf.win, cf.push, cf.pull, cf.mtu, cf.last, .slice AL L.length cL, .slice AC nc cC] 123) := ⟨hm⟩
 have HP_0 : Aside0 (Kd.F (Kd.raw 1) w N AC nc (ptrs qs)) := ⟨hp⟩
 have HL_0 : Aside0 (Kd.F kR7 w N AL L.length L) := ⟨hl⟩
 have HC : (((x.U.length : Int) == 0) = true ∧ Aside0 (mpushE n L x cf = 11)) ∨ (((x.U.length : Int) == 0) = false ∧ Aside0 (((decide (((x.J.length - ownN n L x : Nat) : Int) ≥ cf.push) = true ∧ decide (cf.push ≤ ((x.J.length - ownN n L x : Nat) : Int)) = true) ∧ Aside0 (mpushE n L x cf = 7)) ∨ ((decide (((x.J.length - ownN n L x : Nat) : Int) ≥ cf.push) = false ∧ decide (cf.push ≤ ((x.J.length - ownN n L x : Nat) : Int)) = false) ∧ Aside0 (((decide ((x.J.length : Int) ≥ cf.last) = true ∧ decide (cf.last ≤ (x.J.length : Int)) = true) ∧ Aside0 (mpushE n L x cf = 8)) ∨ ((decide ((x.J.length : Int) ≥ cf.last) = false ∧ decide (cf.last ≤ (x.J.length : Int)) = false) ∧ Aside0 (mpushE n L x cf = 0)))))) := by
  have eu : ∀ b, decide (x.U.length = 0) = b → ((x.U.length : Int) == 0) = b := fun b h => by rw [← h]; by_cases q : x.U.length = 0 <;> simp [q]
  rcases mpush_cases n L x cf with ⟨h1, e⟩ | ⟨h1, h2, e⟩ | ⟨h1, h2, h3, e⟩ | ⟨h1, h2, h3, e⟩
  ·exact .inl ⟨eu _ (decide_eq_true h1), ⟨e⟩⟩
  ·exact .inr ⟨eu _ (decide_eq_false h1), ⟨.inl ⟨⟨decide_eq_true h2, decide_eq_true h2⟩, ⟨e⟩⟩⟩⟩
  ·exact .inr ⟨eu _ (decide_eq_false h1), ⟨.inr ⟨⟨decide_eq_false h2, decide_eq_false h2⟩, ⟨.inl ⟨⟨decide_eq_true h3, decide_eq_true h3⟩, ⟨e⟩⟩⟩⟩⟩⟩
  ·exact .inr ⟨eu _ (decide_eq_false h1), ⟨.inr ⟨⟨decide_eq_false h2, decide_eq_false h2⟩, ⟨.inr ⟨⟨decide_eq_false h3, decide_eq_false h3⟩, ⟨e⟩⟩⟩⟩⟩⟩
 have HQ1 := Am q1
 have HQ2 := Am q2
 have HLJ := Am hLJ
 have HRJ := Am hrJ
 have hrl : (rJ ++ [rw3 n ((x.J.length : Int) + 1) (.slice AU x.U.length cU)]).length = x.J.length + 1 := by rw [List.length_append, hrJ]; rfl
 obtain ⟨rJ2, hr2⟩ : ∃ r, rJ ++ [rw3 n ((x.J.length : Int) + 1) (.slice AU x.U.length cU)] = r := ⟨_, rfl⟩
 rw [hr2] at hrl
 have HR2 := Am hr2
 have HRL2 := Am hrl
 clear hr2 hrl
 have HN := Am hn
 have HB := Am hb
 have HQ := Am hq
 have HKL := Am hk
 have HLL := Am hL
 have HCL := Am hcL
 have HOW := Am ho
 have HCJ := Am hc
 have O0 : Aside0 (Own N w [cells q.1 #[x.e, .slice AJ x.J.length cJ, x.k, x.c, .slice AU x.U.length cU] 127, nrow kU7 tU7 (.slice AU x.U.length cU) x.U, nrow (Kd.raw 3) tR7 (.slice AJ x.J.length cJ) rJ]) := ⟨h⟩
 have K0 : Aside0 (KeepS N w w) := ⟨KeepS.refl _ _⟩
 have a0 := k5_ O0 0
 have mA := blk8_ (HM_0.out.2)
 clear h hm hp hl hn hb hq hk hL hcL ho hc hLJ hrJ q1 q2
 rcases HC with ⟨dA, HDX⟩ | ⟨d1, ⟨HC⟩⟩
 all_goals go_enter Tryd.func81, Tryd.ntmps81
 all_goals go_wp2_with (first | ((with_reducible refine gD 6 rfl ?_); refine bP 6 #[.int .i64 0, .int .i64 0, .int .i64 0, .string ⟨#[]⟩, false, .int .i64 0] 79 O0.out ?_; intro gr w1 o_ k_; obtain ⟨O1, K1⟩ := ok_ K0 o_ k_; have HM_1 := Am (CellN.keep HM_0.out k_); have HP_1 := Am (keepF HP_0.out k_); have HL_1 := Am (keepF HL_0.out k_); clear a0 mA O0 K0 HM_0 HP_0 HL_0; have a0 := k5_ O1 0; have a3 := k6_ O1 3; have mA := blk8_ (HM_1.out.2); clear o_ k_) | (have q_ := dA; clear q_; (with_reducible refine gT 79 6 rfl ?_); refine wS 3 0 [.int .i64 11, .int .i64 0, .int .i64 0, .string ⟨#[]⟩, false, .int .i64 0] O1 ?_; intro w2 o_ k_; obtain ⟨O2, K2⟩ := ok_ K1 o_ k_; have HM_2 := Am (CellN.keep HM_1.out k_); have HP_2 := Am (keepF HP_1.out k_); have HL_2 := Am (keepF HL_1.out k_); clear a0 a3 mA O1 K1 HM_1 HP_1 HL_1; have a0 := k5_ O2 0; have a3 := k6_ O2 3; have mA := blk8_ (HM_2.out.2); clear o_ k_))
 ·refine bodyPost_ret (results_cell_row rfl _ _ gr 79 _ (0, 0) _ rfl (O2.out.blk (i := 3) rfl) Tryd.underlying79 rfl (by kernel_rfl)) rfl ?_
  exact ⟨by have q := HQ1.out (by rw [HDX.out]; decide) _ (O2.out.pickL [0, 1, 2] (by decide) (by simp)) K2.out; rw [HDX.out] at q; exact q, trivial⟩
 refine sP (n := 11) (S := fun w' => w'.cell? ⟨gm, 2, none⟩ = some (.int .i64 cf.push)) (ds := []) mA.2.2.1 (fun hHeld => ?_)
 obtain ⟨w2, hw_, k_, O2, K2⟩ := drw_ O1 K1
 rw [← hw_] at hHeld ⊢
 have HM_2 := Am (CellN.keep HM_1.out k_)
 have HP_2 := Am (keepF HP_1.out k_)
 have HL_2 := Am (keepF HL_1.out k_)
 clear a0 a3 mA O1 K1 HM_1 HP_1 HL_1
 have a0 := k5_ O2 0
 have a3 := k6_ O2 3
 have mA := blk8_ (HM_2.out.2)
 clear k_ hw_
 refine pP 0 (some 16) ?_
 refine pP 1 (some 17) ?_
 refine pP 4 (some 20) ?_
 refine pP 5 (some 21) ?_
 refine pP 6 (some 22) ?_
 refine pP 7 (some 23) ?_
 refine tP 8 (some 24) hHeld ?_
 refine oP 2 (some 18) (fun K_ hK_ => ?_)
 refine hP Tryd.func78 #[pt gm, n] ?_
 obtain ⟨N_, on_, nn_, rr_, bb_⟩ := O2.out.frame0
 refine (MPend n on_ (CellN.mono HM_2.out nn_) (Kd.F_mono HP_2.out nn_) (rr_ 0 _ rfl) (Kd.F_mono HL_2.out nn_) HN.out HB.out HQ.out HKL.out HLL.out HCL.out HOW.out HCJ.out).mono ?_
 rintro e_ w3 ⟨rfl, oo_, kk_⟩
 obtain ⟨o_, k_⟩ := bb_ _ _ kk_ oo_
 refine ⟨_, rfl, ?_⟩
 obtain ⟨O3, K3⟩ := ok_ K2 o_ k_
 have HM_3 := Am (CellN.keep HM_2.out k_)
 have HP_3 := Am (keepF HP_2.out k_)
 have HL_3 := Am (keepF HL_2.out k_)
 clear a0 a3 mA O2 K2 HM_2 HP_2 HL_2
 have a0 := k5_ O3 0
 have a3 := k6_ O3 3
 have mA := blk8_ (HM_3.out.2)
 clear o_ k_ oo_ kk_ on_ nn_ rr_ bb_ hHeld
 refine hK_.out _ _ mA.2.2.1 (fun hHeld => ?_)
 clear hK_ K_
 refine nP ?_
 refine pP 3 (some 19) ?_
 refine pP 9 (some 25) ?_
 refine pP 10 (some 15) ?_
 refine dN ?_
 clear hHeld
 rcases HC with ⟨⟨d2, d3⟩, HDX⟩ | ⟨⟨d2, d3⟩, ⟨HC⟩⟩
 ·skip
  first | rw [d3] | rw [d2]
  go_wp2_with (first | ((with_reducible refine gT 79 6 rfl ?_); refine wS 3 0 [.int .i64 7, .int .i64 0, .int .i64 0, .string ⟨#[]⟩, false, .int .i64 0] O3 ?_; intro w4 o_ k_; obtain ⟨O4, K4⟩ := ok_ K3 o_ k_; have HM_4 := Am (CellN.keep HM_3.out k_); have HP_4 := Am (keepF HP_3.out k_); have HL_4 := Am (keepF HL_3.out k_); clear a0 a3 mA O3 K3 HM_3 HP_3 HL_3; have a0 := k5_ O4 0; have a3 := k6_ O4 3; have mA := blk8_ (HM_4.out.2); clear o_ k_))
  refine bodyPost_ret (results_cell_row rfl _ _ gr 79 _ (0, 0) _ rfl (O4.out.blk (i := 3) rfl) Tryd.underlying79 rfl (by kernel_rfl)) rfl ?_
  exact ⟨by have q := HQ1.out (by rw [HDX.out]; decide) _ (O4.out.pickL [0, 1, 2] (by decide) (by simp)) K4.out; rw [HDX.out] at q; exact q, trivial⟩
 first | rw [d3] | rw [d2]
 go_wp2
 refine sP (n := 12) (S := fun w' => w'.cell? ⟨q.1, 1, none⟩ = some (.slice AJ x.J.length cJ) ∧ w'.cell? ⟨gm, 5, none⟩ = some (.int .i64 cf.last)) (ds := []) ⟨a0.2.1, mA.2.2.2.2.2.1⟩ (fun hHeld => ?_)
 obtain ⟨w4, hw_, k_, O4, K4⟩ := drw_ O3 K3
 rw [← hw_] at hHeld ⊢
 have HM_4 := Am (CellN.keep HM_3.out k_)
 have HP_4 := Am (keepF HP_3.out k_)
 have HL_4 := Am (keepF HL_3.out k_)
 clear a0 a3 mA O3 K3 HM_3 HP_3 HL_3
 have a0 := k5_ O4 0
 have a3 := k6_ O4 3
 have mA := blk8_ (HM_4.out.2)
 clear k_ hw_
 refine pP 0 (some 28) ?_
 refine pP 1 (some 29) ?_
 refine pP 2 (some 30) ?_
 refine pP 5 (some 33) ?_
 refine pP 6 (some 34) ?_
 refine pP 7 (some 35) ?_
 refine pP 8 (some 36) ?_
 refine tP 3 (some 31) hHeld ?_
 refine pP 4 (some 32) ?_
 refine tP 9 (some 37) hHeld ?_
 refine pP 10 (some 38) ?_
 refine pP 11 (some 27) ?_
 refine dN ?_
 clear hHeld
 rcases HC with ⟨⟨d4, d5⟩, HDX⟩ | ⟨⟨d4, d5⟩, HDX⟩
 ·skip
  first | rw [d5] | rw [d4]
  go_wp2_with (first | ((with_reducible refine gT 79 6 rfl ?_); refine wS 3 0 [.int .i64 8, .int .i64 0, .int .i64 0, .string ⟨#[]⟩, false, .int .i64 0] O4 ?_; intro w5 o_ k_; obtain ⟨O5, K5⟩ := ok_ K4 o_ k_; have HM_5 := Am (CellN.keep HM_4.out k_); have HP_5 := Am (keepF HP_4.out k_); have HL_5 := Am (keepF HL_4.out k_); clear a0 a3 mA O4 K4 HM_4 HP_4 HL_4; have a0 := k5_ O5 0; have a3 := k6_ O5 3; have mA := blk8_ (HM_5.out.2); clear o_ k_))
  refine bodyPost_ret (results_cell_row rfl _ _ gr 79 _ (0, 0) _ rfl (O5.out.blk (i := 3) rfl) Tryd.underlying79 rfl (by kernel_rfl)) rfl ?_
  exact ⟨by have q := HQ1.out (by rw [HDX.out]; decide) _ (O5.out.pickL [0, 1, 2] (by decide) (by simp)) K5.out; rw [HDX.out] at q; exact q, trivial⟩
 have hs2 : wrap64 ((x.J.length : Int) + 1) = (x.J.length : Int) + 1 := by have := HLJ.out; unfold wrap64; omega
 first | rw [d5] | rw [d4]
 go_wp2
 refine sP (n := 22) (S := fun w' => w'.cell? ⟨q.1, 1, none⟩ = some (.slice AJ x.J.length cJ) ∧ w'.cell? ⟨q.1, 4, none⟩ = some (.slice AU x.U.length cU)) (ds := [21]) ⟨a0.2.1, a0.2.2.2.2.1⟩ (fun hHeld => ?_)
 obtain ⟨w5, hw_, k_, O5, K5⟩ := drw_ O4 K4
 rw [← hw_] at hHeld ⊢
 have HM_5 := Am (CellN.keep HM_4.out k_)
 have HP_5 := Am (keepF HP_4.out k_)
 have HL_5 := Am (keepF HL_4.out k_)
 clear a0 a3 mA O4 K4 HM_4 HP_4 HL_4
 have a0 := k5_ O5 0
 have a3 := k6_ O5 3
 have mA := blk8_ (HM_5.out.2)
 clear k_ hw_
 refine pP 0 (some 40) ?_
 refine pP 1 (some 41) ?_
 refine pP 2 (some 42) ?_
 refine pP 3 (some 43) ?_
 refine pP 5 (some 45) ?_
 refine pP 6 (some 46) ?_
 refine pP 7 (some 47) ?_
 refine pP 8 (some 48) ?_
 refine pP 12 (some 52) ?_
 refine pP 13 (some 53) ?_
 refine pP 14 (some 54) ?_
 refine tP 4 (some 44) hHeld ?_
 refine tP 9 (some 49) hHeld ?_
 refine pP 10 (some 50) ?_
 refine pP 11 (some 51) ?_
 refine tP 15 (some 55) hHeld ?_
 refine pP 16 (some 56) ?_
 refine oP 17 (some 57) (fun K_ hK_ => ?_)
 refine own_lit_step (Kd.raw 3) (N := N) (e := tR7) (xs := [rw3 n ((x.J.length : Int) + 1) (.slice AU x.U.length cU)]) (inner := [n, .int .i64 ((x.J.length : Int) + 1), .slice AU x.U.length cU]) rfl rfl gs_ (repW _ _ _ _ _ _) (by show 1 ≤ 9223372036854775807; decide) O5.out ?_
 intro B1 b1 w6 o_ k_
 obtain ⟨O6, K6⟩ := ok_ K5 o_ k_
 have HM_6 := Am (CellN.keep HM_5.out k_)
 have HP_6 := Am (keepF HP_5.out k_)
 have HL_6 := Am (keepF HL_5.out k_)
 clear a0 a3 mA O5 K5 HM_5 HP_5 HL_5
 have a0 := k5_ O6 0
 have a3 := k6_ O6 3
 have mA := blk8_ (HM_6.out.2)
 clear o_ k_ hHeld
 refine hK_.out _ _ ⟨a0.2.1, a0.2.2.2.2.1⟩ (fun hHeld => ?_)
 clear hK_ K_
 refine nP ?_
 refine oP 18 (some 58) (fun K_ hK_ => ?_)
 refine Own.append_flat_step (Kd.raw 3) flatRaw O6.out (i := 2) (ys := [rw3 n ((x.J.length : Int) + 1) (.slice AU x.U.length cU)]) rfl (O6.out.nreads (i := 4) rfl).2.2 rfl (by rfl) (.tmp 44) (.tmp 57) 40 (.agg #[.int .i64 0, .int .i64 0, .slice none 0 0]) 40 rfl Tryd.underlying40 infoR rfl (by decide) (by decide) rfl rfl (by have := HLJ.out; have := HRJ.out; omega) ?_
 rw [HR2.out, HRL2.out]
 intro B2 b2 w7 o_ k_
 obtain ⟨O7, K7⟩ := ok_ K6 o_ k_
 have HM_7 := Am (CellN.keep HM_6.out k_)
 have HP_7 := Am (keepF HP_6.out k_)
 have HL_7 := Am (keepF HL_6.out k_)
 clear a0 a3 mA O6 K6 HM_6 HP_6 HL_6
 have a0 := k5_ O7 0
 have a3 := k6_ O7 3
 have mA := blk8_ (HM_7.out.2)
 clear o_ k_ hHeld
 refine hK_.out _ _ ⟨a0.2.1, a0.2.2.2.2.1⟩ (fun hHeld => ?_)
 clear hK_ K_
 refine nP ?_
 refine pP 19 (some 59) ?_
 refine pP 20 (some 60) ?_
 refine lP 21 none (fun K_ hK_ => ?_)
 refine xS 0 1 [.slice B2 (x.J.length + 1) b2] O7 ?_
 intro w8 o_ k_
 obtain ⟨O8, K8⟩ := ok_ K7 o_ k_
 have HM_8 := Am (CellN.keep HM_7.out k_)
 have HP_8 := Am (keepF HP_7.out k_)
 have HL_8 := Am (keepF HL_7.out k_)
 clear a0 a3 mA O7 K7 HM_7 HP_7 HL_7
 have a0 := k5_ O8 0
 have a3 := k6_ O8 3
 have mA := blk8_ (HM_8.out.2)
 clear o_ k_
 refine hK_.out _ _ ?_
 clear hK_ K_
 refine dN ?_
 clear hHeld
 go_wp2_with (first | ((with_reducible refine gT 33 63 rfl ?_); refine wS 0 4 [.slice none 0 0] O8 ?_; intro w9 o_ k_; obtain ⟨O9, K9⟩ := ok_ K8 o_ k_; have HM_9 := Am (CellN.keep HM_8.out k_); have HP_9 := Am (keepF HP_8.out k_); have HL_9 := Am (keepF HL_8.out k_); clear a0 a3 mA O8 K8 HM_8 HP_8 HL_8; have a0 := k5_ O9 0; have a3 := k6_ O9 3; have mA := blk8_ (HM_9.out.2); clear o_ k_) | ((with_reducible refine gT 79 6 rfl ?_); refine wS 3 0 [.int .i64 0, .int .i64 0, .int .i64 0, .string ⟨#[]⟩, false, ((x.J.length + 1 : Nat) : Int)] O9 ?_; intro w10 o_ k_; obtain ⟨O10, K10⟩ := ok_ K9 o_ k_; have HM_10 := Am (CellN.keep HM_9.out k_); have HP_10 := Am (keepF HP_9.out k_); have HL_10 := Am (keepF HL_9.out k_); clear a0 a3 mA O9 K9 HM_9 HP_9 HL_9; have a0 := k5_ O10 0; have a3 := k6_ O10 3; have mA := blk8_ (HM_10.out.2); clear o_ k_))
 refine bodyPost_ret (results_cell_row rfl _ _ gr 79 _ (0, 0) _ rfl (O10.out.blk (i := 3) rfl) Tryd.underlying79 rfl (by kernel_rfl)) rfl ?_
 exact ⟨HQ2.out HDX.out _ B2 b2 (by rw [HR2.out]; exact O10.out.pickL [0, 1, 2] (by decide) (by simp)) K10.out, trivial⟩
theorem MReset_no {N : Nat → Prop} {w : World} {gm : Nat} {cf : MCf} {vL vC vU : Value} {AJ : Option Addr} {nJ cJ : Nat} {q : Nat × RawR} {x : MCl} (h : Own N w [cells q.1 #[x.e, .slice AJ nJ cJ, x.k, x.c, vU] 127]) (hmm : CellN N w gm #[cf.cl, cf.win, cf.push, cf.pull, cf.mtu, cf.last, vL, vC] 123) (hlo : 0 ≤ x.e ∧ x.e ≤ 1099511627776) (h1 : x.e ≥ cf.last) :
  Calls Tryd.prog 82 #[pt gm, pt q.1] w fun e_ w' => e_ = .returned (.int .i64 8) ∧ Own N w' [cells q.1 #[x.e, .slice AJ nJ cJ, x.k, x.c, vU] 127] ∧ KeepS N w w' := by
 have d1 : decide (x.e ≥ cf.last) = true := decide_eq_true h1
 have d2 : decide (cf.last ≤ x.e) = true := d1
 have HM_0 := Am hmm
 have O0 : Aside0 (Own N w [cells q.1 #[x.e, .slice AJ nJ cJ, x.k, x.c, vU] 127]) := ⟨h⟩
 have K0 : Aside0 (KeepS N w w) := ⟨KeepS.refl _ _⟩
 have a0 := k5_ O0 0
 have mA := blk8_ (HM_0.out.2)
 clear h hmm h1 hlo
 go_enter Tryd.func82, Tryd.ntmps82
 go_wp2
 refine sP (n := 10) (S := fun w' => w'.cell? ⟨q.1, 0, none⟩ = some (.int .i64 x.e) ∧ w'.cell? ⟨gm, 5, none⟩ = some (.int .i64 cf.last)) (ds := []) ⟨a0.1, mA.2.2.2.2.2.1⟩ (fun hHeld => ?_)
 obtain ⟨w1, hw_, k_, O1, K1⟩ := drw_ O0 K0
 rw [← hw_] at hHeld ⊢
 have HM_1 := Am (CellN.keep HM_0.out k_)
 clear a0 mA O0 K0 HM_0
 have a0 := k5_ O1 0
 have mA := blk8_ (HM_1.out.2)
 clear k_ hw_
 refine pP 0 (some 5) ?_
 refine pP 1 (some 6) ?_
 refine pP 2 (some 7) ?_
 refine pP 4 (some 9) ?_
 refine pP 5 (some 10) ?_
 refine pP 6 (some 11) ?_
 refine pP 7 (some 12) ?_
 refine tP 3 (some 8) hHeld ?_
 refine tP 8 (some 13) hHeld ?_
 refine pP 9 (some 14) ?_
 refine dN ?_
 clear hHeld
 go_wp2
 go_ret
 exact ⟨rfl, O1.out, K1.out⟩
theorem MReset_ok {N : Nat → Prop} {w : World} {gm : Nat} {cf : MCf} {vL vC vU : Value} {AJ : Option Addr} {nJ cJ : Nat} {q : Nat × RawR} {x : MCl} (h : Own N w [cells q.1 #[x.e, .slice AJ nJ cJ, x.k, x.c, vU] 127]) (hmm : CellN N w gm #[cf.cl, cf.win, cf.push, cf.pull, cf.mtu, cf.last, vL, vC] 123) (hlo : 0 ≤ x.e ∧ x.e ≤ 1099511627776) (h1 : ¬ x.e ≥ cf.last) :
  Calls Tryd.prog 82 #[pt gm, pt q.1] w fun e_ w' => e_ = .returned (.int .i64 0) ∧ Own N w' [cells q.1 #[.int .i64 (x.e + 1), .slice AJ nJ cJ, .int .i64 0, .int .i64 0, .slice none 0 0] 127] ∧ KeepS N w w' := by
 have d1 : decide (x.e ≥ cf.last) = false := decide_eq_false h1
 have d2 : decide (cf.last ≤ x.e) = false := d1
 have hs2 : wrap64 (x.e + 1) = x.e + 1 := by unfold wrap64; omega
 have HM_0 := Am hmm
 have O0 : Aside0 (Own N w [cells q.1 #[x.e, .slice AJ nJ cJ, x.k, x.c, vU] 127]) := ⟨h⟩
 have K0 : Aside0 (KeepS N w w) := ⟨KeepS.refl _ _⟩
 have a0 := k5_ O0 0
 have mA := blk8_ (HM_0.out.2)
 clear h hmm h1 hlo
 go_enter Tryd.func82, Tryd.ntmps82
 go_wp2
 refine sP (n := 10) (S := fun w' => w'.cell? ⟨q.1, 0, none⟩ = some (.int .i64 x.e) ∧ w'.cell? ⟨gm, 5, none⟩ = some (.int .i64 cf.last)) (ds := []) ⟨a0.1, mA.2.2.2.2.2.1⟩ (fun hHeld => ?_)
 obtain ⟨w1, hw_, k_, O1, K1⟩ := drw_ O0 K0
 rw [← hw_] at hHeld ⊢
 have HM_1 := Am (CellN.keep HM_0.out k_)
 clear a0 mA O0 K0 HM_0
 have a0 := k5_ O1 0
 have mA := blk8_ (HM_1.out.2)
 clear k_ hw_
 refine pP 0 (some 5) ?_
 refine pP 1 (some 6) ?_
 refine pP 2 (some 7) ?_
 refine pP 4 (some 9) ?_
 refine pP 5 (some 10) ?_
 refine pP 6 (some 11) ?_
 refine pP 7 (some 12) ?_
 refine tP 3 (some 8) hHeld ?_
 refine tP 8 (some 13) hHeld ?_
 refine pP 9 (some 14) ?_
 refine dN ?_
 clear hHeld
 go_wp2
 refine sP (n := 13) (S := fun w' => w'.cell? ⟨q.1, 0, none⟩ = some (.int .i64 x.e) ∧ w'.cell? ⟨q.1, 1, none⟩ = some (.slice AJ nJ cJ) ∧ w'.cell? ⟨q.1, 2, none⟩ = some (.int .i64 x.k) ∧ w'.cell? ⟨q.1, 3, none⟩ = some (.int .i64 x.c) ∧ w'.cell? ⟨q.1, 4, none⟩ = some (vU)) (ds := [12]) (p5_ a0) (fun hHeld => ?_)
 obtain ⟨w2, hw_, k_, O2, K2⟩ := drw_ O1 K1
 rw [← hw_] at hHeld ⊢
 have HM_2 := Am (CellN.keep HM_1.out k_)
 clear a0 mA O1 K1 HM_1
 have a0 := k5_ O2 0
 have mA := blk8_ (HM_2.out.2)
 clear k_ hw_
 refine pP 0 (some 15) ?_
 refine pP 1 (some 16) ?_
 refine pP 2 (some 17) ?_
 refine pP 3 (some 18) ?_
 refine pP 6 (some 21) ?_
 refine pP 7 (some 22) ?_
 refine pP 8 (some 23) ?_
 refine tP 4 (some 19) hHeld ?_
 refine pP 5 (some 20) ?_
 refine tP 9 (some 24) hHeld ?_
 refine pP 10 (some 25) ?_
 refine pP 11 (some 26) ?_
 refine lP 12 none (fun K_ hK_ => ?_)
 refine xS 0 0 [.int .i64 (x.e + 1), .slice AJ nJ cJ, .int .i64 0, .int .i64 0, .slice none 0 0] O2 ?_
 intro w3 o_ k_
 obtain ⟨O3, K3⟩ := ok_ K2 o_ k_
 have HM_3 := Am (CellN.keep HM_2.out k_)
 clear a0 mA O2 K2 HM_2
 have a0 := k5_ O3 0
 have mA := blk8_ (HM_3.out.2)
 clear o_ k_
 refine hK_.out _ _ ?_
 clear hK_ K_
 refine dN ?_
 clear hHeld
 go_wp2
 go_ret
 exact ⟨rfl, O3.out, K3.out⟩
def clAt (cls : List MCl) (n : Int) : Option MCl := if 1 ≤ n then cls[n.toNat - 1]? else none
theorem clAt_some {cls : List MCl} {n : Int} {x : MCl} (h : clAt cls n = some x) : (1 ≤ n ∧ n ≤ cls.length) ∧ cls[n.toNat - 1]? = some x := by
 unfold clAt at h
 split at h
 ·have := (List.getElem?_eq_some_iff.1 h).1
  exact ⟨⟨by assumption, by omega⟩, h⟩
 ·cases h
theorem clAt_none {cls : List MCl} {n : Int} (h : clAt cls n = none) : ¬ (1 ≤ n ∧ n ≤ cls.length) := by
 unfold clAt at h
 split at h
 ·have := List.getElem?_eq_none_iff.1 h
  omega
 ·omega
theorem clAt_mk {cls : List MCl} {n : Int} {x : MCl} (h : 1 ≤ n) (hx : cls[n.toNat - 1]? = some x) : clAt cls n = some x := by
 unfold clAt
 rw [if_pos h, hx]
theorem clAt_in {cls : List MCl} {n : Int} (h : 1 ≤ n ∧ n ≤ cls.length) : ∃ x, clAt cls n = some x := by
 refine ⟨cls[n.toNat - 1]'(by omega), ?_⟩
 exact clAt_mk h.1 (List.getElem?_eq_getElem (by omega))
def nextR (n : Int) (L : List Rnd7) (cls : List MCl) : Option Rnd7 := (clAt cls n).bind fun x => x.J[(ownR n L).length]?
def cmtL (n : Int) (L : List Rnd7) (cls : List MCl) : List Rnd7 := L ++ (nextR n L cls).toList
theorem Lead.nth {N : Nat → Prop} {w : World} {rows : RawR} {xs : List Rnd7} {d : Nat} {r : Rnd7} (h : Lead N w rows xs) (hx : xs[d]? = some r) : ∃ A c, rows[d]? = some (rw3 r.f0 r.f1 (.slice A r.f2.length c)) ∧ r.f2.length ≤ c := by
 have hr : d < rows.length := by rw [h.1]; exact (List.getElem?_eq_some_iff.1 hx).1
 have hc := List.getElem?_eq_getElem hr
 have hk := h.2 d _ _ hx hc
 obtain ⟨A, c, e, hl, _⟩ := k35_open (Kd.FK_now hk)
 exact ⟨A, c, by rw [hc, e], hl⟩
theorem raw_ad {w : World} {A : Option Addr} {n d : Nat} {rows : RawR} {c : List Value} (h : Kd.C (Kd.raw 3) w A n rows) (hd : rows[d]? = some c) : ∃ ad, A = some ad := by
 have hl := (List.getElem?_eq_some_iff.1 hd).1
 obtain ⟨ad, e, _⟩ := h.2.2 (by have := h.1; omega)
 exact ⟨ad, e⟩
theorem raw3c {w : World} {ad : Addr} {n d : Nat} {rows : RawR} {a b : Int} {v : Value} (h : Kd.C (Kd.raw 3) w (some ad) n rows) (hd : rows[d]? = some (rw3 a b v)) : w.cell? (ad.add (d * 3)) = some (.int .i64 a) ∧ w.cell? ⟨(ad.add (d * 3)).block, (ad.add (d * 3)).off + 1, none⟩ = some (.int .i64 b) ∧ w.cell? ⟨(ad.add (d * 3)).block, (ad.add (d * 3)).off + 2, none⟩ = some v := by
 have hl := (List.getElem?_eq_some_iff.1 hd).1
 obtain ⟨ad', e, hc⟩ := h.2.2 (by have := h.1; omega)
 cases e
 obtain ⟨c, hcl, hK, hcc⟩ := hc d _ hd
 have ec : c = rw3 a b v := hK.1
 subst ec
 have q : ∀ j u, (rw3 a b v)[j]? = some u → w.cell? (ad.add (d * 3 + j)) = some u := hcc
 exact ⟨q 0 _ rfl, by rw [← add_field _ _ 1 (by omega)]; exact q 1 _ rfl, by rw [← add_field _ _ 2 (by omega)]; exact q 2 _ rfl⟩
theorem MCommit_no {N : Nat → Prop} {w : World} {gm nc cL cC : Nat} {cf : MCf} {AL AC : Option Addr} {L : List Rnd7} {qs : List (Nat × RawR)} (n : Int) (h : Own N w []) (hm : CellN N w gm #[cf.cl, cf.win, cf.push, cf.pull, cf.mtu, cf.last, .slice AL L.length cL, .slice AC nc cC] 123) (hp : Kd.F (Kd.raw 1) w N AC nc (ptrs qs)) (hn : ¬ (1 ≤ n ∧ n ≤ nc)) :
  Calls Tryd.prog 44 #[pt gm, n] w fun e_ w' => e_ = .returned (.bool false) ∧ Own N w' [] ∧ KeepS N w w' := by
 have HM_0 : Aside0 (CellN N w gm #[cf.cl, cf.win, cf.push, cf.pull, cf.mtu, cf.last, .slice AL L.length cL, .slice AC nc cC] 123) := ⟨hm⟩
 have HP_0 : Aside0 (Kd.F (Kd.raw 1) w N AC nc (ptrs qs)) := ⟨hp⟩
 have O0 : Aside0 (Own N w []) := ⟨h⟩
 have K0 : Aside0 (KeepS N w w) := ⟨KeepS.refl _ _⟩
 have mA := blk8_ (HM_0.out.2)
 clear h hm hp
 have HN := Am hn
 clear hn
 go_enter Tryd.func44, Tryd.ntmps44
 go_wp2_with (first | ((with_reducible refine gC 77 rfl ?_); refine gP (some 9) Tryd.func77 #[pt gm, n] ?_; obtain ⟨N_, on_, nn_, rr_, bb_⟩ := O0.out.frame0; refine (MClient_no n on_ (CellN.mono HM_0.out nn_) (Kd.F_mono HP_0.out nn_) HN.out).mono ?_; rintro e_ w1 ⟨rfl, oo_, kk_⟩; obtain ⟨o_, k_⟩ := bb_ _ _ kk_ oo_; refine ⟨_, rfl, ?_⟩; obtain ⟨O1, K1⟩ := ok_ K0 o_ k_; have HM_1 := Am (CellN.keep HM_0.out k_); have HP_1 := Am (keepF HP_0.out k_); clear mA O0 K0 HM_0 HP_0; have mA := blk8_ (HM_1.out.2); clear o_ k_ oo_ kk_ on_ nn_ rr_ bb_))
 go_ret
 exact ⟨rfl, O1.out, K1.out⟩
theorem MCommit_done {N : Nat → Prop} {w : World} {gm nc cL cC : Nat} {cf : MCf} {AL AC : Option Addr} {L : List Rnd7} {qs : List (Nat × RawR)} {q : Nat × RawR} {x : MCl} {AJ AU : Option Addr} {cJ cU : Nat} (n : Int) (h : Own N w []) (hm : CellN N w gm #[cf.cl, cf.win, cf.push, cf.pull, cf.mtu, cf.last, .slice AL L.length cL, .slice AC nc cC] 123) (hp : Kd.F (Kd.raw 1) w N AC nc (ptrs qs)) (hx : CellN N w q.1 #[x.e, .slice AJ x.J.length cJ, x.k, x.c, .slice AU x.U.length cU] 127) (hl : Kd.F kR7 w N AL L.length L) (hn : 1 ≤ n ∧ n ≤ nc) (hb : nc ≤ 64) (hq : qs[n.toNat - 1]? = some q) (hL : L.length ≤ 1000000) (hd : x.J.length ≤ (ownR n L).length) :
  Calls Tryd.prog 44 #[pt gm, n] w fun e_ w' => e_ = .returned (.bool false) ∧ Own N w' [] ∧ KeepS N w w' := by
 have HM_0 : Aside0 (CellN N w gm #[cf.cl, cf.win, cf.push, cf.pull, cf.mtu, cf.last, .slice AL L.length cL, .slice AC nc cC] 123) := ⟨hm⟩
 have HP_0 : Aside0 (Kd.F (Kd.raw 1) w N AC nc (ptrs qs)) := ⟨hp⟩
 have HX_0 : Aside0 (CellN N w q.1 #[x.e, .slice AJ x.J.length cJ, x.k, x.c, .slice AU x.U.length cU] 127) := ⟨hx⟩
 have HL_0 : Aside0 (Kd.F kR7 w N AL L.length L) := ⟨hl⟩
 have HN := Am hn
 have HB := Am hb
 have HQ := Am hq
 have HLL := Am hL
 obtain ⟨v, hv⟩ : ∃ v : Nat, (ownR n L).length = v := ⟨_, rfl⟩
 rw [hv] at hd
 have HV := Am hv
 have d1 : decide ((v : Int) ≥ (x.J.length : Int)) = true := decide_eq_true (by omega)
 have d2 : decide ((x.J.length : Int) ≤ (v : Int)) = true := d1
 have d3 := eq_true (show x.J.length ≤ v from hd)
 clear hn hb hq hL hd hv
 have O0 : Aside0 (Own N w []) := ⟨h⟩
 have K0 : Aside0 (KeepS N w w) := ⟨KeepS.refl _ _⟩
 have mA := blk8_ (HM_0.out.2)
 have xA := blk5_ (HX_0.out.2)
 clear h hm hp hx hl
 go_enter Tryd.func44, Tryd.ntmps44
 go_wp2_with (first | ((with_reducible refine gC 77 rfl ?_); refine gP (some 9) Tryd.func77 #[pt gm, n] ?_; obtain ⟨N_, on_, nn_, rr_, bb_⟩ := O0.out.frame0; refine (MClient_ok n on_ (CellN.mono HM_0.out nn_) (Kd.F_mono HP_0.out nn_) HN.out HB.out HQ.out).mono ?_; rintro e_ w1 ⟨rfl, oo_, kk_⟩; obtain ⟨o_, k_⟩ := bb_ _ _ kk_ oo_; refine ⟨_, rfl, ?_⟩; obtain ⟨O1, K1⟩ := ok_ K0 o_ k_; have HM_1 := Am (CellN.keep HM_0.out k_); have HP_1 := Am (keepF HP_0.out k_); have HX_1 := Am (CellN.keep HX_0.out k_); have HL_1 := Am (keepF HL_0.out k_); clear mA xA O0 K0 HM_0 HP_0 HX_0 HL_0; have mA := blk8_ (HM_1.out.2); have xA := blk5_ (HX_1.out.2); clear o_ k_ oo_ kk_ on_ nn_ rr_ bb_) | ((with_reducible refine gC 84 rfl ?_); refine gP (some 17) Tryd.func84 #[n, .slice AL L.length cL] ?_; obtain ⟨N_, on_, nn_, rr_, bb_⟩ := O1.out.frame0; refine (MOf_n n AL cL L.length v L rfl HV.out on_ (Kd.F_mono HL_1.out nn_) HLL.out).mono ?_; rintro e_ w2 ⟨rfl, oo_, kk_⟩; obtain ⟨o_, k_⟩ := bb_ _ _ kk_ oo_; refine ⟨_, rfl, ?_⟩; obtain ⟨O2, K2⟩ := ok_ K1 o_ k_; have HM_2 := Am (CellN.keep HM_1.out k_); have HP_2 := Am (keepF HP_1.out k_); have HX_2 := Am (CellN.keep HX_1.out k_); have HL_2 := Am (keepF HL_1.out k_); clear mA xA O1 K1 HM_1 HP_1 HX_1 HL_1; have mA := blk8_ (HM_2.out.2); have xA := blk5_ (HX_2.out.2); clear o_ k_ oo_ kk_ on_ nn_ rr_ bb_))
 go_ret
 exact ⟨rfl, O2.out, K2.out⟩
theorem MCommit_ok {N : Nat → Prop} {w : World} {gm : Nat} {cf : MCf} {L : List Rnd7} {cls : List MCl} {x : MCl} {d : Nat} {r : Rnd7} (n : Int) (h : Own N w [ModO gm cf L cls]) (hn : 1 ≤ n ∧ n ≤ cls.length) (hb : cls.length ≤ 64) (hL : L.length ≤ 1000000) (hx : cls[n.toNat - 1]? = some x) (hd : (ownR n L).length = d) (hr : x.J[d]? = some r) :
  Calls Tryd.prog 44 #[pt gm, n] w fun e_ w' => e_ = .returned (.bool true) ∧ Own N w' [ModO gm cf (L ++ [r]) cls] ∧ KeepS N w w' := by
 obtain ⟨AL, cL, AC, cC, rL, qs, q, AJ, cJ, AU, cU, ⟨hq, hrl, hqj⟩, hqi, h2⟩ := ModO.at h hx
 obtain ⟨Fp, hpl⟩ := h2.fact (i := 1) rfl
 obtain ⟨B, b, hrw, _⟩ := (hpl (q.2, x.J) (pool_mem hqi hx)).nth hr
 obtain ⟨ad, eJ⟩ := raw_ad (h2.nreads (i := 7) rfl).2.2 hrw
 subst eJ
 have HRW : Aside0 (q.2[d]? = some (rw3 r.f0 r.f1 (.slice B r.f2.length b))) := ⟨hrw⟩
 have HN := Am hn
 have HB := Am hb
 have HQI := Am hqi
 have HLL := Am hL
 have HV := Am hd
 have HRL := Am hrl
 have hdl := (List.getElem?_eq_some_iff.1 hr).1
 have HDL := Am hdl
 have HXX := Am hx
 have HRR := Am hr
 have HQL := Am hq
 have d1 : decide ((d : Int) ≥ (x.J.length : Int)) = false := decide_eq_false (by omega)
 have d2 : decide ((x.J.length : Int) ≤ (d : Int)) = false := d1
 have d3 := eq_false (show ¬ x.J.length ≤ d by omega)
 have hp0 := eq_true (show (0 : Int) ≤ (d : Int) by omega)
 have hp1 := eq_true (show (d : Int) < (x.J.length : Int) by omega)
 have hp2 := eq_true (show d < x.J.length from hdl)
 have hrl2 : (rL ++ [rw3 r.f0 r.f1 (.slice B r.f2.length b)]).length = L.length + 1 := by rw [List.length_append, hrl]; rfl
 obtain ⟨rL2, hr2⟩ : ∃ r2, rL ++ [rw3 r.f0 r.f1 (.slice B r.f2.length b)] = r2 := ⟨_, rfl⟩
 rw [hr2] at hrl2
 have HR2 := Am hr2
 have HRL2 := Am hrl2
 have O0 : Aside0 (Own N w [cells gm #[cf.cl, cf.win, cf.push, cf.pull, cf.mtu, cf.last, .slice AL L.length cL, .slice AC cls.length cC] 123, poolI rL L qs cls, bigs ((clsI qs cls).set (n.toNat - 1) emp), nrow (Kd.raw 1) tMP (.slice AC cls.length cC) (ptrs qs), nrow (Kd.raw 3) tR7 (.slice AL L.length cL) rL, cells q.1 #[x.e, .slice (some ad) x.J.length cJ, x.k, x.c, .slice AU x.U.length cU] 127, nrow kU7 tU7 (.slice AU x.U.length cU) x.U, nrow (Kd.raw 3) tR7 (.slice (some ad) x.J.length cJ) q.2]) := ⟨h2⟩
 have K0 : Aside0 (KeepS N w w) := ⟨KeepS.refl _ _⟩
 have a0 := k8_ O0 0
 have a5 := k5_ O0 5
 clear h h2 hx hr hd hn hb hL hq hrl hqj hqi hpl hrw hdl hr2 hrl2
 go_enter Tryd.func44, Tryd.ntmps44
 go_wp2_with (first | ((with_reducible refine gC 77 rfl ?_); refine gP (some 9) Tryd.func77 #[pt gm, n] ?_; obtain ⟨N_, on_, nn_, rr_, bb_⟩ := O0.out.frame0; refine (MClient_ok (L := L) n on_ (rr_ 0 _ rfl) (Kd.N_F (rr_ 3 _ rfl)) HN.out HB.out HQI.out).mono ?_; rintro e_ w1 ⟨rfl, oo_, kk_⟩; obtain ⟨o_, k_⟩ := bb_ _ _ kk_ oo_; refine ⟨_, rfl, ?_⟩; obtain ⟨O1, K1⟩ := ok_ K0 o_ k_; clear a0 a5 O0 K0 o_ k_ oo_ kk_ on_ nn_ rr_ bb_; have a0 := k8_ O1 0; have a5 := k5_ O1 5) | ((with_reducible refine gC 84 rfl ?_); refine gP (some 17) Tryd.func84 #[n, .slice AL L.length cL] ?_; obtain ⟨N_, on_, nn_, rr_, bb_⟩ := O1.out.frame0; refine (MOf_n n AL cL L.length d L rfl HV.out on_ (leadF (rr_ 4 _ rfl) (pool_get (rr_ 1 _ rfl) List.mem_cons_self) HRL.out.symm) HLL.out).mono ?_; rintro e_ w2 ⟨rfl, oo_, kk_⟩; obtain ⟨o_, k_⟩ := bb_ _ _ kk_ oo_; refine ⟨_, rfl, ?_⟩; obtain ⟨O2, K2⟩ := ok_ K1 o_ k_; clear a0 a5 O1 K1 o_ k_ oo_ kk_ on_ nn_ rr_ bb_; have a0 := k8_ O2 0; have a5 := k5_ O2 5))
 refine sP (n := 17) (S := fun w' => w'.cell? ⟨gm, 0, none⟩ = some (.int .i64 cf.cl) ∧ w'.cell? ⟨gm, 1, none⟩ = some (.int .i64 cf.win) ∧ w'.cell? ⟨gm, 2, none⟩ = some (.int .i64 cf.push) ∧ w'.cell? ⟨gm, 3, none⟩ = some (.int .i64 cf.pull) ∧ w'.cell? ⟨gm, 4, none⟩ = some (.int .i64 cf.mtu) ∧ w'.cell? ⟨gm, 5, none⟩ = some (.int .i64 cf.last) ∧ w'.cell? ⟨gm, 6, none⟩ = some (.slice AL L.length cL) ∧ w'.cell? ⟨gm, 7, none⟩ = some (.slice AC cls.length cC) ∧ w'.cell? ⟨q.1, 0, none⟩ = some (.int .i64 x.e) ∧ w'.cell? ⟨q.1, 1, none⟩ = some (.slice (some ad) x.J.length cJ) ∧ w'.cell? ⟨q.1, 2, none⟩ = some (.int .i64 x.k) ∧ w'.cell? ⟨q.1, 3, none⟩ = some (.int .i64 x.c) ∧ w'.cell? ⟨q.1, 4, none⟩ = some (.slice AU x.U.length cU) ∧ w'.cell? (ad.add (d * 3)) = some (.int .i64 r.f0) ∧ w'.cell? ⟨(ad.add (d * 3)).block, (ad.add (d * 3)).off + 1, none⟩ = some (.int .i64 r.f1) ∧ w'.cell? ⟨(ad.add (d * 3)).block, (ad.add (d * 3)).off + 2, none⟩ = some (.slice B r.f2.length b)) (ds := [16]) ⟨a0.1, a0.2.1, a0.2.2.1, a0.2.2.2.1, a0.2.2.2.2.1, a0.2.2.2.2.2.1, a0.2.2.2.2.2.2.1, a0.2.2.2.2.2.2.2.1, a5.1, a5.2.1, a5.2.2.1, a5.2.2.2.1, a5.2.2.2.2.1, (raw3c (O2.out.nreads (i := 7) rfl).2.2 HRW.out).1, (raw3c (O2.out.nreads (i := 7) rfl).2.2 HRW.out).2.1, (raw3c (O2.out.nreads (i := 7) rfl).2.2 HRW.out).2.2⟩ (fun hHeld => ?_)
 obtain ⟨w3, hw_⟩ : ∃ W, W = w2.drew := ⟨_, rfl⟩
 have o_ := O2.out.drew
 have k_ : KeepS N w2 w2.drew := KeepS.drew
 rw [← hw_] at o_ k_ hHeld ⊢
 clear hw_
 obtain ⟨O3, K3⟩ := ok_ K2 o_ k_
 clear a0 a5 O2 K2 o_ k_
 have a0 := k8_ O3 0
 have a5 := k5_ O3 5
 refine pP 0 (some 25) ?_
 refine pP 1 (some 26) ?_
 refine pP 2 (some 27) ?_
 refine pP 3 (some 28) ?_
 refine pP 5 (some 30) ?_
 refine pP 6 (some 31) ?_
 refine pP 7 (some 32) ?_
 refine pP 9 (some 34) ?_
 refine tP 4 (some 29) hHeld ?_
 refine tP 8 (some 33) hHeld ?_
 refine pP 10 (some 35) ?_
 refine tP 11 (some 36) hHeld ?_
 refine oP 12 (some 37) (fun K_ hK_ => ?_)
 refine own_lit_step (Kd.raw 3) (N := N) (e := tR7) (xs := [rw3 r.f0 r.f1 (.slice B r.f2.length b)]) (inner := [r.f0, r.f1, .slice B r.f2.length b]) rfl rfl gs_ (repW _ _ _ _ _ _) (by show 1 ≤ 9223372036854775807; decide) O3.out ?_
 intro B1 b1 w4 o_ k_
 obtain ⟨O4, K4⟩ := ok_ K3 o_ k_
 clear a0 a5 O3 K3 o_ k_
 have a0 := k8_ O4 0
 have a5 := k5_ O4 5
 clear hHeld
 refine hK_.out _ _ ⟨a0.1, a0.2.1, a0.2.2.1, a0.2.2.2.1, a0.2.2.2.2.1, a0.2.2.2.2.2.1, a0.2.2.2.2.2.2.1, a0.2.2.2.2.2.2.2.1, a5.1, a5.2.1, a5.2.2.1, a5.2.2.2.1, a5.2.2.2.2.1, (raw3c (O4.out.nreads (i := 7) rfl).2.2 HRW.out).1, (raw3c (O4.out.nreads (i := 7) rfl).2.2 HRW.out).2.1, (raw3c (O4.out.nreads (i := 7) rfl).2.2 HRW.out).2.2⟩ (fun hHeld => ?_)
 clear hK_ K_
 refine nP ?_
 refine oP 13 (some 38) (fun K_ hK_ => ?_)
 refine Own.append_flat_step (Kd.raw 3) flatRaw O4.out (i := 4) (ys := [rw3 r.f0 r.f1 (.slice B r.f2.length b)]) rfl (O4.out.nreads (i := 8) rfl).2.2 rfl (by rfl) (.tmp 29) (.tmp 37) 40 (.agg #[.int .i64 0, .int .i64 0, .slice none 0 0]) 40 rfl Tryd.underlying40 infoR rfl (by decide) (by decide) rfl rfl (by have := HLL.out; have := HRL.out; omega) ?_
 rw [HR2.out, HRL2.out]
 intro B2 b2 w5 o_ k_
 obtain ⟨O5, K5⟩ := ok_ K4 o_ k_
 clear a0 a5 O4 K4 o_ k_
 have a0 := k8_ O5 0
 have a5 := k5_ O5 5
 clear hHeld
 refine hK_.out _ _ ⟨a0.1, a0.2.1, a0.2.2.1, a0.2.2.2.1, a0.2.2.2.2.1, a0.2.2.2.2.2.1, a0.2.2.2.2.2.2.1, a0.2.2.2.2.2.2.2.1, a5.1, a5.2.1, a5.2.2.1, a5.2.2.2.1, a5.2.2.2.2.1, (raw3c (O5.out.nreads (i := 7) rfl).2.2 HRW.out).1, (raw3c (O5.out.nreads (i := 7) rfl).2.2 HRW.out).2.1, (raw3c (O5.out.nreads (i := 7) rfl).2.2 HRW.out).2.2⟩ (fun hHeld => ?_)
 clear hK_ K_
 refine nP ?_
 refine pP 14 (some 39) ?_
 refine pP 15 (some 40) ?_
 refine lP 16 none (fun K_ hK_ => ?_)
 refine xS 0 6 [.slice B2 (L.length + 1) b2] O5 ?_
 intro w6 o_ k_
 obtain ⟨O6, K6⟩ := ok_ K5 o_ k_
 clear a0 a5 O5 K5 o_ k_
 have a0 := k8_ O6 0
 have a5 := k5_ O6 5
 refine hK_.out _ _ ?_
 clear hK_ K_
 refine dN ?_
 clear hHeld
 go_wp2
 go_ret
 have hz := O6.out.pickL [0, 1, 2, 3, 4, 5, 6, 7] (by decide) (by simp)
 rw [← HR2.out] at hz
 exact ⟨rfl, ModO.backC HXX.out HQL.out HQI.out HRW.out HRR.out hz, K6.out⟩
theorem MCommit {N : Nat → Prop} {w : World} {gm : Nat} {cf : MCf} {L : List Rnd7} {cls : List MCl} (n : Int) (h : Own N w [ModO gm cf L cls]) (hb : cls.length ≤ 64) (hL : L.length ≤ 1000000) :
  Calls Tryd.prog 44 #[pt gm, n] w fun e_ w' => e_ = .returned (.bool (nextR n L cls).isSome) ∧ Own N w' [ModO gm cf (cmtL n L cls) cls] ∧ KeepS N w w' := by
 unfold cmtL nextR
 cases hc : clAt cls n with
 | none =>
  simp only [Option.bind_none, Option.isSome_none, Option.toList_none, List.append_nil]
  obtain ⟨N_, on_, nn_, rr_, bb_⟩ := h.frame0
  obtain ⟨AL, cL, AC, cC, qs, hq, e1, hm, hp, hl, _, _⟩ := ModO.view0 (rr_ 0 _ rfl)
  exact (MCommit_no n on_ hm hp (clAt_none hc)).mono fun e_ w' ⟨a, b, c⟩ => ⟨a, (bb_ w' [] c b).1, (bb_ w' [] c b).2⟩
 | some x =>
  obtain ⟨hn, hx⟩ := clAt_some hc
  simp only [Option.bind_some]
  cases hr : x.J[(ownR n L).length]? with
  | none =>
   simp only [Option.isSome_none, Option.toList_none, List.append_nil]
   obtain ⟨N_, on_, nn_, rr_, bb_⟩ := h.frame0
   obtain ⟨AL, cL, AC, cC, qs, q, AJ, cJ, AU, cU, hqi, e1, e2, e3, hm, hp, hl, hx1, hj, hu⟩ := ModO.view (rr_ 0 _ rfl) hx
   exact (MCommit_done n on_ hm hp hx1 hl hn hb hqi hL (List.getElem?_eq_none_iff.1 hr)).mono fun e_ w' ⟨a, b, c⟩ => ⟨a, (bb_ w' [] c b).1, (bb_ w' [] c b).2⟩
  | some r => exact MCommit_ok n h hn hb hL hx rfl hr
def comesB (cf : MCf) (L : List Rnd7) (x : MCl) : Bool := decide ((x.c : Int) < cf.pull ∧ x.k + x.c < L.length)
def comeS (n : Int) (cf : MCf) (L : List Rnd7) (cls : List MCl) : Bool × List MCl := match clAt cls n with
 | none => (false, cls)
 | some x => if comesB cf L x then (true, cls.set (n.toNat - 1) { x with c := x.c + 1 }) else (false, cls)
theorem MCome_no {N : Nat → Prop} {w : World} {gm nc cL cC : Nat} {cf : MCf} {AL AC : Option Addr} {L : List Rnd7} {qs : List (Nat × RawR)} (n : Int) (h : Own N w []) (hm : CellN N w gm #[cf.cl, cf.win, cf.push, cf.pull, cf.mtu, cf.last, .slice AL L.length cL, .slice AC nc cC] 123) (hp : Kd.F (Kd.raw 1) w N AC nc (ptrs qs)) (hn : ¬ (1 ≤ n ∧ n ≤ nc)) :
  Calls Tryd.prog 45 #[pt gm, n] w fun e_ w' => e_ = .returned (.bool false) ∧ Own N w' [] ∧ KeepS N w w' := by
 have HM_0 : Aside0 (CellN N w gm #[cf.cl, cf.win, cf.push, cf.pull, cf.mtu, cf.last, .slice AL L.length cL, .slice AC nc cC] 123) := ⟨hm⟩
 have HP_0 : Aside0 (Kd.F (Kd.raw 1) w N AC nc (ptrs qs)) := ⟨hp⟩
 have O0 : Aside0 (Own N w []) := ⟨h⟩
 have K0 : Aside0 (KeepS N w w) := ⟨KeepS.refl _ _⟩
 have mA := blk8_ (HM_0.out.2)
 clear h hm hp
 have HN := Am hn
 clear hn
 go_enter Tryd.func45, Tryd.ntmps45
 go_wp2_with (first | ((with_reducible refine gC 77 rfl ?_); refine gP (some 8) Tryd.func77 #[pt gm, n] ?_; obtain ⟨N_, on_, nn_, rr_, bb_⟩ := O0.out.frame0; refine (MClient_no n on_ (CellN.mono HM_0.out nn_) (Kd.F_mono HP_0.out nn_) HN.out).mono ?_; rintro e_ w1 ⟨rfl, oo_, kk_⟩; obtain ⟨o_, k_⟩ := bb_ _ _ kk_ oo_; refine ⟨_, rfl, ?_⟩; obtain ⟨O1, K1⟩ := ok_ K0 o_ k_; have HM_1 := Am (CellN.keep HM_0.out k_); have HP_1 := Am (keepF HP_0.out k_); clear mA O0 K0 HM_0 HP_0; have mA := blk8_ (HM_1.out.2); clear o_ k_ oo_ kk_ on_ nn_ rr_ bb_))
 refine sP (n := 31) (S := fun w' => w'.cell? ⟨gm, 3, none⟩ = some (.int .i64 cf.pull)) (ds := []) mA.2.2.2.1 (fun hHeld => ?_)
 obtain ⟨w2, hw_, k_, O2, K2⟩ := drw_ O1 K1
 rw [← hw_] at hHeld ⊢
 have HM_2 := Am (CellN.keep HM_1.out k_)
 have HP_2 := Am (keepF HP_1.out k_)
 clear mA O1 K1 HM_1 HP_1
 have mA := blk8_ (HM_2.out.2)
 clear k_ hw_
 refine pP 0 (some 9) ?_
 refine pP 1 (some 10) ?_
 refine pP 2 (some 11) ?_
 refine pS 3 (some 12) ?_
 refine pS 4 (some 13) ?_
 refine pS 5 (some 14) ?_
 refine pS 7 (some 16) ?_
 refine pS 8 (some 17) ?_
 refine pS 9 (some 18) ?_
 refine pS 10 (some 19) ?_
 refine tS 6 (some 15) hHeld ?_
 refine tS 11 (some 20) hHeld ?_
 refine pS 12 (some 21) ?_
 refine pP 13 (some 22) ?_
 refine pP 14 (some 23) ?_
 refine pS 15 (some 24) ?_
 refine pS 16 (some 25) ?_
 refine pS 17 (some 26) ?_
 refine pS 19 (some 28) ?_
 refine pS 20 (some 29) ?_
 refine pS 21 (some 30) ?_
 refine pS 24 (some 33) ?_
 refine pS 25 (some 34) ?_
 refine pS 26 (some 35) ?_
 refine tS 18 (some 27) hHeld ?_
 refine tS 22 (some 31) hHeld ?_
 refine pS 23 (some 32) ?_
 refine tS 27 (some 36) hHeld ?_
 refine pS 28 (some 37) ?_
 refine pS 29 (some 38) ?_
 refine pP 30 (some 39) ?_
 refine dN ?_
 clear hHeld
 go_wp2
 go_ret
 exact ⟨rfl, O2.out, K2.out⟩
theorem MCome_full {N : Nat → Prop} {w : World} {gm nc cL cC : Nat} {cf : MCf} {AL AC : Option Addr} {L : List Rnd7} {qs : List (Nat × RawR)} {q : Nat × RawR} {x : MCl} {AJ AU : Option Addr} {cJ cU : Nat} (n : Int) (h : Own N w []) (hm : CellN N w gm #[cf.cl, cf.win, cf.push, cf.pull, cf.mtu, cf.last, .slice AL L.length cL, .slice AC nc cC] 123) (hp : Kd.F (Kd.raw 1) w N AC nc (ptrs qs)) (hx : CellN N w q.1 #[x.e, .slice AJ x.J.length cJ, x.k, x.c, .slice AU x.U.length cU] 127) (hn : 1 ≤ n ∧ n ≤ nc) (hb : nc ≤ 64) (hq : qs[n.toNat - 1]? = some q) (h1 : cf.pull ≤ (x.c : Int)) :
  Calls Tryd.prog 45 #[pt gm, n] w fun e_ w' => e_ = .returned (.bool false) ∧ Own N w' [] ∧ KeepS N w w' := by
 have HM_0 : Aside0 (CellN N w gm #[cf.cl, cf.win, cf.push, cf.pull, cf.mtu, cf.last, .slice AL L.length cL, .slice AC nc cC] 123) := ⟨hm⟩
 have HP_0 : Aside0 (Kd.F (Kd.raw 1) w N AC nc (ptrs qs)) := ⟨hp⟩
 have HX_0 : Aside0 (CellN N w q.1 #[x.e, .slice AJ x.J.length cJ, x.k, x.c, .slice AU x.U.length cU] 127) := ⟨hx⟩
 have HN := Am hn
 have HB := Am hb
 have HQ := Am hq
 have d1 : decide ((x.c : Int) ≥ cf.pull) = true := decide_eq_true (by omega)
 have d2 : decide (cf.pull ≤ (x.c : Int)) = true := d1
 clear hn hb hq h1
 have O0 : Aside0 (Own N w []) := ⟨h⟩
 have K0 : Aside0 (KeepS N w w) := ⟨KeepS.refl _ _⟩
 have mA := blk8_ (HM_0.out.2)
 have xA := blk5_ (HX_0.out.2)
 clear h hm hp hx
 go_enter Tryd.func45, Tryd.ntmps45
 go_wp2_with (first | ((with_reducible refine gC 77 rfl ?_); refine gP (some 8) Tryd.func77 #[pt gm, n] ?_; obtain ⟨N_, on_, nn_, rr_, bb_⟩ := O0.out.frame0; refine (MClient_ok n on_ (CellN.mono HM_0.out nn_) (Kd.F_mono HP_0.out nn_) HN.out HB.out HQ.out).mono ?_; rintro e_ w1 ⟨rfl, oo_, kk_⟩; obtain ⟨o_, k_⟩ := bb_ _ _ kk_ oo_; refine ⟨_, rfl, ?_⟩; obtain ⟨O1, K1⟩ := ok_ K0 o_ k_; have HM_1 := Am (CellN.keep HM_0.out k_); have HP_1 := Am (keepF HP_0.out k_); have HX_1 := Am (CellN.keep HX_0.out k_); clear mA xA O0 K0 HM_0 HP_0 HX_0; have mA := blk8_ (HM_1.out.2); have xA := blk5_ (HX_1.out.2); clear o_ k_ oo_ kk_ on_ nn_ rr_ bb_))
 refine sP (n := 31) (S := fun w' => w'.cell? ⟨gm, 3, none⟩ = some (.int .i64 cf.pull) ∧ w'.cell? ⟨q.1, 3, none⟩ = some (.int .i64 x.c)) (ds := []) ⟨mA.2.2.2.1, xA.2.2.2.1⟩ (fun hHeld => ?_)
 obtain ⟨w2, hw_, k_, O2, K2⟩ := drw_ O1 K1
 rw [← hw_] at hHeld ⊢
 have HM_2 := Am (CellN.keep HM_1.out k_)
 have HP_2 := Am (keepF HP_1.out k_)
 have HX_2 := Am (CellN.keep HX_1.out k_)
 clear mA xA O1 K1 HM_1 HP_1 HX_1
 have mA := blk8_ (HM_2.out.2)
 have xA := blk5_ (HX_2.out.2)
 clear k_ hw_
 refine pP 0 (some 9) ?_
 refine pP 1 (some 10) ?_
 refine pP 2 (some 11) ?_
 refine pP 3 (some 12) ?_
 refine pP 4 (some 13) ?_
 refine pP 5 (some 14) ?_
 refine pP 7 (some 16) ?_
 refine pP 8 (some 17) ?_
 refine pP 9 (some 18) ?_
 refine pP 10 (some 19) ?_
 refine tP 6 (some 15) hHeld ?_
 refine tP 11 (some 20) hHeld ?_
 refine pP 12 (some 21) ?_
 refine pP 13 (some 22) ?_
 refine pP 14 (some 23) ?_
 refine pS 15 (some 24) ?_
 refine pS 16 (some 25) ?_
 refine pS 17 (some 26) ?_
 refine pS 19 (some 28) ?_
 refine pS 20 (some 29) ?_
 refine pS 21 (some 30) ?_
 refine pS 24 (some 33) ?_
 refine pS 25 (some 34) ?_
 refine pS 26 (some 35) ?_
 refine tS 18 (some 27) hHeld ?_
 refine tS 22 (some 31) hHeld ?_
 refine pS 23 (some 32) ?_
 refine tS 27 (some 36) hHeld ?_
 refine pS 28 (some 37) ?_
 refine pS 29 (some 38) ?_
 refine pP 30 (some 39) ?_
 refine dN ?_
 clear hHeld
 go_wp2
 go_ret
 exact ⟨rfl, O2.out, K2.out⟩
theorem MCome_end {N : Nat → Prop} {w : World} {gm nc cL cC : Nat} {cf : MCf} {AL AC : Option Addr} {L : List Rnd7} {qs : List (Nat × RawR)} {q : Nat × RawR} {x : MCl} {AJ AU : Option Addr} {cJ cU : Nat} (n : Int) (h : Own N w []) (hm : CellN N w gm #[cf.cl, cf.win, cf.push, cf.pull, cf.mtu, cf.last, .slice AL L.length cL, .slice AC nc cC] 123) (hp : Kd.F (Kd.raw 1) w N AC nc (ptrs qs)) (hx : CellN N w q.1 #[x.e, .slice AJ x.J.length cJ, x.k, x.c, .slice AU x.U.length cU] 127) (hn : 1 ≤ n ∧ n ≤ nc) (hb : nc ≤ 64) (hq : qs[n.toNat - 1]? = some q) (h1 : (x.c : Int) < cf.pull) (h2 : L.length ≤ x.k + x.c) (hs : x.k + x.c ≤ 1000000) :
  Calls Tryd.prog 45 #[pt gm, n] w fun e_ w' => e_ = .returned (.bool false) ∧ Own N w' [] ∧ KeepS N w w' := by
 have HM_0 : Aside0 (CellN N w gm #[cf.cl, cf.win, cf.push, cf.pull, cf.mtu, cf.last, .slice AL L.length cL, .slice AC nc cC] 123) := ⟨hm⟩
 have HP_0 : Aside0 (Kd.F (Kd.raw 1) w N AC nc (ptrs qs)) := ⟨hp⟩
 have HX_0 : Aside0 (CellN N w q.1 #[x.e, .slice AJ x.J.length cJ, x.k, x.c, .slice AU x.U.length cU] 127) := ⟨hx⟩
 have HN := Am hn
 have HB := Am hb
 have HQ := Am hq
 have d1 : decide ((x.c : Int) ≥ cf.pull) = false := decide_eq_false (by omega)
 have d2 : decide (cf.pull ≤ (x.c : Int)) = false := d1
 have hs2 : wrap64 ((x.k : Int) + (x.c : Int)) = (x.k : Int) + (x.c : Int) := by unfold wrap64; omega
 have d3 : decide ((x.k : Int) + (x.c : Int) ≥ (L.length : Int)) = true := decide_eq_true (by omega)
 have d4 : decide ((L.length : Int) ≤ (x.k : Int) + (x.c : Int)) = true := d3
 clear hn hb hq h1 h2 hs
 have O0 : Aside0 (Own N w []) := ⟨h⟩
 have K0 : Aside0 (KeepS N w w) := ⟨KeepS.refl _ _⟩
 have mA := blk8_ (HM_0.out.2)
 have xA := blk5_ (HX_0.out.2)
 clear h hm hp hx
 go_enter Tryd.func45, Tryd.ntmps45
 go_wp2_with (first | ((with_reducible refine gC 77 rfl ?_); refine gP (some 8) Tryd.func77 #[pt gm, n] ?_; obtain ⟨N_, on_, nn_, rr_, bb_⟩ := O0.out.frame0; refine (MClient_ok n on_ (CellN.mono HM_0.out nn_) (Kd.F_mono HP_0.out nn_) HN.out HB.out HQ.out).mono ?_; rintro e_ w1 ⟨rfl, oo_, kk_⟩; obtain ⟨o_, k_⟩ := bb_ _ _ kk_ oo_; refine ⟨_, rfl, ?_⟩; obtain ⟨O1, K1⟩ := ok_ K0 o_ k_; have HM_1 := Am (CellN.keep HM_0.out k_); have HP_1 := Am (keepF HP_0.out k_); have HX_1 := Am (CellN.keep HX_0.out k_); clear mA xA O0 K0 HM_0 HP_0 HX_0; have mA := blk8_ (HM_1.out.2); have xA := blk5_ (HX_1.out.2); clear o_ k_ oo_ kk_ on_ nn_ rr_ bb_))
 refine sP (n := 31) (S := fun w' => w'.cell? ⟨gm, 3, none⟩ = some (.int .i64 cf.pull) ∧ w'.cell? ⟨q.1, 3, none⟩ = some (.int .i64 x.c) ∧ w'.cell? ⟨gm, 6, none⟩ = some (.slice AL L.length cL) ∧ w'.cell? ⟨q.1, 2, none⟩ = some (.int .i64 x.k)) (ds := []) ⟨mA.2.2.2.1, xA.2.2.2.1, mA.2.2.2.2.2.2.1, xA.2.2.1⟩ (fun hHeld => ?_)
 obtain ⟨w2, hw_, k_, O2, K2⟩ := drw_ O1 K1
 rw [← hw_] at hHeld ⊢
 have HM_2 := Am (CellN.keep HM_1.out k_)
 have HP_2 := Am (keepF HP_1.out k_)
 have HX_2 := Am (CellN.keep HX_1.out k_)
 clear mA xA O1 K1 HM_1 HP_1 HX_1
 have mA := blk8_ (HM_2.out.2)
 have xA := blk5_ (HX_2.out.2)
 clear k_ hw_
 refine pP 0 (some 9) ?_
 refine pP 1 (some 10) ?_
 refine pP 2 (some 11) ?_
 refine pP 3 (some 12) ?_
 refine pP 4 (some 13) ?_
 refine pP 5 (some 14) ?_
 refine pP 7 (some 16) ?_
 refine pP 8 (some 17) ?_
 refine pP 9 (some 18) ?_
 refine pP 10 (some 19) ?_
 refine tP 6 (some 15) hHeld ?_
 refine tP 11 (some 20) hHeld ?_
 refine pP 12 (some 21) ?_
 refine pP 13 (some 22) ?_
 refine pP 14 (some 23) ?_
 refine pP 15 (some 24) ?_
 refine pP 16 (some 25) ?_
 refine pP 17 (some 26) ?_
 refine pP 19 (some 28) ?_
 refine pP 20 (some 29) ?_
 refine pP 21 (some 30) ?_
 refine pP 24 (some 33) ?_
 refine pP 25 (some 34) ?_
 refine pP 26 (some 35) ?_
 refine tP 18 (some 27) hHeld ?_
 refine tP 22 (some 31) hHeld ?_
 refine pP 23 (some 32) ?_
 refine tP 27 (some 36) hHeld ?_
 refine pP 28 (some 37) ?_
 refine pP 29 (some 38) ?_
 refine pP 30 (some 39) ?_
 refine dN ?_
 clear hHeld
 go_wp2
 go_ret
 exact ⟨rfl, O2.out, K2.out⟩
theorem MCome_ok {N : Nat → Prop} {w : World} {gm : Nat} {cf : MCf} {L : List Rnd7} {cls : List MCl} {x : MCl} (n : Int) (h : Own N w [ModO gm cf L cls]) (hn : 1 ≤ n ∧ n ≤ cls.length) (hb : cls.length ≤ 64) (hL : L.length ≤ 1000000) (hx : cls[n.toNat - 1]? = some x) (h1 : (x.c : Int) < cf.pull) (h2' : x.k + x.c < L.length) :
  Calls Tryd.prog 45 #[pt gm, n] w fun e_ w' => e_ = .returned (.bool true) ∧ Own N w' [ModO gm cf L (cls.set (n.toNat - 1) { x with c := x.c + 1 })] ∧ KeepS N w w' := by
 have d1 : decide ((x.c : Int) ≥ cf.pull) = false := decide_eq_false (by omega)
 have d2 : decide (cf.pull ≤ (x.c : Int)) = false := d1
 have hs2 : wrap64 ((x.k : Int) + (x.c : Int)) = (x.k : Int) + (x.c : Int) := by unfold wrap64; omega
 have d3 : decide ((x.k : Int) + (x.c : Int) ≥ (L.length : Int)) = false := decide_eq_false (by omega)
 have d4 : decide ((L.length : Int) ≤ (x.k : Int) + (x.c : Int)) = false := d3
 have hs3 : wrap64 ((x.c : Int) + 1) = (x.c : Int) + 1 := by unfold wrap64; omega
 obtain ⟨AL, cL, AC, cC, rL, qs, q, AJ, cJ, AU, cU, ⟨hq, hrl, hqj⟩, hqi, h2⟩ := ModO.at h hx
 have HN := Am hn
 have HB := Am hb
 have HQI := Am hqi
 have HXX := Am hx
 have HQL := Am hq
 have O0 : Aside0 (Own N w [cells gm #[cf.cl, cf.win, cf.push, cf.pull, cf.mtu, cf.last, .slice AL L.length cL, .slice AC cls.length cC] 123, poolI rL L qs cls, bigs ((clsI qs cls).set (n.toNat - 1) emp), nrow (Kd.raw 1) tMP (.slice AC cls.length cC) (ptrs qs), nrow (Kd.raw 3) tR7 (.slice AL L.length cL) rL, cells q.1 #[x.e, .slice AJ x.J.length cJ, x.k, x.c, .slice AU x.U.length cU] 127, nrow kU7 tU7 (.slice AU x.U.length cU) x.U, nrow (Kd.raw 3) tR7 (.slice AJ x.J.length cJ) q.2]) := ⟨h2⟩
 have K0 : Aside0 (KeepS N w w) := ⟨KeepS.refl _ _⟩
 have a0 := k8_ O0 0
 have a5 := k5_ O0 5
 clear h h2 hx hn hb hq hrl hqj hqi h1 h2' hL
 go_enter Tryd.func45, Tryd.ntmps45
 go_wp2_with (first | ((with_reducible refine gC 77 rfl ?_); refine gP (some 8) Tryd.func77 #[pt gm, n] ?_; obtain ⟨N_, on_, nn_, rr_, bb_⟩ := O0.out.frame0; refine (MClient_ok (L := L) n on_ (rr_ 0 _ rfl) (Kd.N_F (rr_ 3 _ rfl)) HN.out HB.out HQI.out).mono ?_; rintro e_ w1 ⟨rfl, oo_, kk_⟩; obtain ⟨o_, k_⟩ := bb_ _ _ kk_ oo_; refine ⟨_, rfl, ?_⟩; obtain ⟨O1, K1⟩ := ok_ K0 o_ k_; clear a0 a5 O0 K0 o_ k_ oo_ kk_ on_ nn_ rr_ bb_; have a0 := k8_ O1 0; have a5 := k5_ O1 5))
 refine sP (n := 31) (S := fun w' => w'.cell? ⟨gm, 3, none⟩ = some (.int .i64 cf.pull) ∧ w'.cell? ⟨gm, 6, none⟩ = some (.slice AL L.length cL) ∧ w'.cell? ⟨q.1, 2, none⟩ = some (.int .i64 x.k) ∧ w'.cell? ⟨q.1, 3, none⟩ = some (.int .i64 x.c)) (ds := []) ⟨a0.2.2.2.1, a0.2.2.2.2.2.2.1, a5.2.2.1, a5.2.2.2.1⟩ (fun hHeld => ?_)
 obtain ⟨w2, hw_⟩ : ∃ W, W = w1.drew := ⟨_, rfl⟩
 have o_ := O1.out.drew
 have k_ : KeepS N w1 w1.drew := KeepS.drew
 rw [← hw_] at o_ k_ hHeld ⊢
 clear hw_
 obtain ⟨O2, K2⟩ := ok_ K1 o_ k_
 clear a0 a5 O1 K1 o_ k_
 have a0 := k8_ O2 0
 have a5 := k5_ O2 5
 refine pP 0 (some 9) ?_
 refine pP 1 (some 10) ?_
 refine pP 2 (some 11) ?_
 refine pP 3 (some 12) ?_
 refine pP 4 (some 13) ?_
 refine pP 5 (some 14) ?_
 refine pP 7 (some 16) ?_
 refine pP 8 (some 17) ?_
 refine pP 9 (some 18) ?_
 refine pP 10 (some 19) ?_
 refine tP 6 (some 15) hHeld ?_
 refine tP 11 (some 20) hHeld ?_
 refine pP 12 (some 21) ?_
 refine pP 13 (some 22) ?_
 refine pP 14 (some 23) ?_
 refine pP 15 (some 24) ?_
 refine pP 16 (some 25) ?_
 refine pP 17 (some 26) ?_
 refine pP 19 (some 28) ?_
 refine pP 20 (some 29) ?_
 refine pP 21 (some 30) ?_
 refine pP 24 (some 33) ?_
 refine pP 25 (some 34) ?_
 refine pP 26 (some 35) ?_
 refine tP 18 (some 27) hHeld ?_
 refine tP 22 (some 31) hHeld ?_
 refine pP 23 (some 32) ?_
 refine tP 27 (some 36) hHeld ?_
 refine pP 28 (some 37) ?_
 refine pP 29 (some 38) ?_
 refine pP 30 (some 39) ?_
 refine dN ?_
 clear hHeld
 go_wp2_with (first | ((with_reducible refine gT 3 46 rfl ?_); refine wS 5 3 [.int .i64 ((x.c : Int) + 1)] O2 ?_; intro w3 o_ k_; obtain ⟨O3, K3⟩ := ok_ K2 o_ k_; clear a0 a5 O2 K2 o_ k_; have a0 := k8_ O3 0; have a5 := k5_ O3 5))
 go_ret
 exact ⟨rfl, ModO.backU (x' := { x with c := x.c + 1 }) HXX.out HQL.out HQI.out rfl O3.out, K3.out⟩
theorem MCome {N : Nat → Prop} {w : World} {gm : Nat} {cf : MCf} {L : List Rnd7} {cls : List MCl} (n : Int) (h : Own N w [ModO gm cf L cls]) (hb : cls.length ≤ 64) (hL : L.length ≤ 1000000) (hk : ∀ x, clAt cls n = some x → x.k + x.c ≤ 1000000) :
  Calls Tryd.prog 45 #[pt gm, n] w fun e_ w' => e_ = .returned (.bool (comeS n cf L cls).1) ∧ Own N w' [ModO gm cf L (comeS n cf L cls).2] ∧ KeepS N w w' := by
 unfold comeS
 cases hc : clAt cls n with
 | none =>
  obtain ⟨N_, on_, nn_, rr_, bb_⟩ := h.frame0
  obtain ⟨AL, cL, AC, cC, qs, hq, e1, hm, hp, hl, _, _⟩ := ModO.view0 (rr_ 0 _ rfl)
  exact (MCome_no n on_ hm hp (clAt_none hc)).mono fun e_ w' ⟨a, b, c⟩ => ⟨a, (bb_ w' [] c b).1, (bb_ w' [] c b).2⟩
 | some x =>
  obtain ⟨hn, hx⟩ := clAt_some hc
  have hkx := hk x hc
  simp only
  unfold comesB
  by_cases h1 : (x.c : Int) < cf.pull
  ·by_cases h2 : x.k + x.c < L.length
   ·rw [if_pos (decide_eq_true ⟨h1, h2⟩)]
    exact MCome_ok n h hn hb hL hx h1 h2
   ·rw [if_neg (by simp [h2])]
    obtain ⟨N_, on_, nn_, rr_, bb_⟩ := h.frame0
    obtain ⟨AL, cL, AC, cC, qs, q, AJ, cJ, AU, cU, hqi, e1, e2, e3, hm, hp, hl, hx1, hj, hu⟩ := ModO.view (rr_ 0 _ rfl) hx
    exact (MCome_end n on_ hm hp hx1 hn hb hqi h1 (by omega) hkx).mono fun e_ w' ⟨a, b, c⟩ => ⟨a, (bb_ w' [] c b).1, (bb_ w' [] c b).2⟩
  ·rw [if_neg (by simp [h1])]
   obtain ⟨N_, on_, nn_, rr_, bb_⟩ := h.frame0
   obtain ⟨AL, cL, AC, cC, qs, q, AJ, cJ, AU, cU, hqi, e1, e2, e3, hm, hp, hl, hx1, hj, hu⟩ := ModO.view (rr_ 0 _ rfl) hx
   exact (MCome_full n on_ hm hp hx1 hn hb hqi (by omega)).mono fun e_ w' ⟨a, b, c⟩ => ⟨a, (bb_ w' [] c b).1, (bb_ w' [] c b).2⟩
theorem k10_ {N : Nat → Prop} {w : World} {l : List HP} {t : TypeId} {g : Nat} {v0 v1 v2 v3 v4 v5 v6 v7 v8 v9 : Value} (h : Aside0 (Own N w l)) (i : Nat) (hi : l[i]? = some (cells g #[v0, v1, v2, v3, v4, v5, v6, v7, v8, v9] t) := by rfl) : w.cell? ⟨g, 0, none⟩ = some v0 ∧ w.cell? ⟨g, 1, none⟩ = some v1 ∧ w.cell? ⟨g, 2, none⟩ = some v2 ∧ w.cell? ⟨g, 3, none⟩ = some v3 ∧ w.cell? ⟨g, 4, none⟩ = some v4 ∧ w.cell? ⟨g, 5, none⟩ = some v5 ∧ w.cell? ⟨g, 6, none⟩ = some v6 ∧ w.cell? ⟨g, 7, none⟩ = some v7 ∧ w.cell? ⟨g, 8, none⟩ = some v8 ∧ w.cell? ⟨g, 9, none⟩ = some v9 ∧ ∀ i, w.frozen? ⟨g, i, none⟩ = false := ⟨(blk_cell (h.out.blk hi) 0).trans rfl, (blk_cell (h.out.blk hi) 1).trans rfl, (blk_cell (h.out.blk hi) 2).trans rfl, (blk_cell (h.out.blk hi) 3).trans rfl, (blk_cell (h.out.blk hi) 4).trans rfl, (blk_cell (h.out.blk hi) 5).trans rfl, (blk_cell (h.out.blk hi) 6).trans rfl, (blk_cell (h.out.blk hi) 7).trans rfl, (blk_cell (h.out.blk hi) 8).trans rfl, (blk_cell (h.out.blk hi) 9).trans rfl, fun i => blk_frozen (h.out.blk hi) i⟩
abbrev ActM := S83
abbrev actMV (a : ActM) : Value := .agg #[a.f0, a.f1, a.f2.f0, a.f2.f1, a.f2.f2, a.f2.f3, a.f3, a.f4, a.f5, .int .u32 a.f6]
structure RepT where
 e : Int
 v : Val
 y : Bool
 n : Int
abbrev repM (r : RepT) : Value := .agg #[r.e, .int .i64 r.v.1, .int .i64 r.v.2.1, .string r.v.2.2, r.y, r.n]
def rep0 (e : Int) : RepT := ⟨e, (0, 0, none'), false, 0⟩
def repN (n : Int) : RepT := ⟨0, (0, 0, none'), false, n⟩
theorem MDo_lo {N : Nat → Prop} {w : World} {gm : Nat} (kd : Int) (n : Int) (key : ByteArray) (uc un : Int) (us rk : ByteArray) (an ab am : Int) (h : Own N w []) (hk : kd < 1) :
  Calls Tryd.prog 42 #[pt gm, .agg #[kd, n, key, uc, un, us, rk, an, ab, .int .u32 am]] w fun e_ w' => e_ = .returned (.agg #[.int .i64 5, .int .i64 0, .int .i64 0, .string ⟨#[]⟩, false, .int .i64 0]) ∧ Own N w' [] ∧ KeepS N w w' := by
 have d1 : decide (kd < 1) = true := decide_eq_true (by omega)
 have O0 : Aside0 (Own N w []) := ⟨h⟩
 have K0 : Aside0 (KeepS N w w) := ⟨KeepS.refl _ _⟩
 clear h hk
 go_enter Tryd.func42, Tryd.ntmps42
 go_wp2_with (first | ((with_reducible refine gD 3 rfl ?_); refine bP 3 #[kd, n, key, uc, un, us, rk, an, ab, .int .u32 am] 83 O0.out ?_; intro ga w1 o_ k_; obtain ⟨O1, K1⟩ := ok_ K0 o_ k_; clear O0 K0; have a0 := k10_ O1 0; clear o_ k_) | ((with_reducible refine gD 4 rfl ?_); refine bP 4 #[.int .i64 0, .int .i64 0, .int .i64 0, .string ⟨#[]⟩, false, .int .i64 0] 79 O1.out ?_; intro gr w2 o_ k_; obtain ⟨O2, K2⟩ := ok_ K1 o_ k_; clear a0 O1 K1; have a0 := k10_ O2 0; have a1 := k6_ O2 1; clear o_ k_) | ((with_reducible refine gT 79 4 rfl ?_); refine wS 1 0 [.int .i64 5, .int .i64 0, .int .i64 0, .string ⟨#[]⟩, false, .int .i64 0] O2 ?_; intro w3 o_ k_; obtain ⟨O3, K3⟩ := ok_ K2 o_ k_; clear a0 a1 O2 K2; have a0 := k10_ O3 0; have a1 := k6_ O3 1; clear o_ k_))
 refine bodyPost_ret (results_cell_row rfl _ _ gr 79 #[.int .i64 5, .int .i64 0, .int .i64 0, .string ⟨#[]⟩, false, .int .i64 0] (0, 0) _ rfl (O3.out.blk (i := 1) rfl) Tryd.underlying79 rfl (by kernel_rfl)) rfl ?_
 exact ⟨rfl, O3.out.take 0, K3.out⟩
theorem MDo_hi {N : Nat → Prop} {w : World} {gm : Nat} (kd : Int) (n : Int) (key : ByteArray) (uc un : Int) (us rk : ByteArray) (an ab am : Int) (h : Own N w []) (hk : 1 ≤ kd ∧ kd > 6) :
  Calls Tryd.prog 42 #[pt gm, .agg #[kd, n, key, uc, un, us, rk, an, ab, .int .u32 am]] w fun e_ w' => e_ = .returned (.agg #[.int .i64 5, .int .i64 0, .int .i64 0, .string ⟨#[]⟩, false, .int .i64 0]) ∧ Own N w' [] ∧ KeepS N w w' := by
 have d1 : decide (kd < 1) = false := decide_eq_false (by omega)
 have d2 : decide (kd > 6) = true := decide_eq_true (by omega)
 have d3 : decide (6 < kd) = true := d2
 have O0 : Aside0 (Own N w []) := ⟨h⟩
 have K0 : Aside0 (KeepS N w w) := ⟨KeepS.refl _ _⟩
 clear h hk
 go_enter Tryd.func42, Tryd.ntmps42
 go_wp2_with (first | ((with_reducible refine gD 3 rfl ?_); refine bP 3 #[kd, n, key, uc, un, us, rk, an, ab, .int .u32 am] 83 O0.out ?_; intro ga w1 o_ k_; obtain ⟨O1, K1⟩ := ok_ K0 o_ k_; clear O0 K0; have a0 := k10_ O1 0; clear o_ k_) | ((with_reducible refine gD 4 rfl ?_); refine bP 4 #[.int .i64 0, .int .i64 0, .int .i64 0, .string ⟨#[]⟩, false, .int .i64 0] 79 O1.out ?_; intro gr w2 o_ k_; obtain ⟨O2, K2⟩ := ok_ K1 o_ k_; clear a0 O1 K1; have a0 := k10_ O2 0; have a1 := k6_ O2 1; clear o_ k_) | ((with_reducible refine gT 79 4 rfl ?_); refine wS 1 0 [.int .i64 5, .int .i64 0, .int .i64 0, .string ⟨#[]⟩, false, .int .i64 0] O2 ?_; intro w3 o_ k_; obtain ⟨O3, K3⟩ := ok_ K2 o_ k_; clear a0 a1 O2 K2; have a0 := k10_ O3 0; have a1 := k6_ O3 1; clear o_ k_))
 refine bodyPost_ret (results_cell_row rfl _ _ gr 79 #[.int .i64 5, .int .i64 0, .int .i64 0, .string ⟨#[]⟩, false, .int .i64 0] (0, 0) _ rfl (O3.out.blk (i := 1) rfl) Tryd.underlying79 rfl (by kernel_rfl)) rfl ?_
 exact ⟨rfl, O3.out.take 0, K3.out⟩
theorem MDo_none {N : Nat → Prop} {w : World} {gm nc cL cC : Nat} {cf : MCf} {AL AC : Option Addr} {L : List Rnd7} {qs : List (Nat × RawR)} (kd : Int) (n : Int) (key : ByteArray) (uc un : Int) (us rk : ByteArray) (an ab am : Int) (h : Own N w []) (hm : CellN N w gm #[cf.cl, cf.win, cf.push, cf.pull, cf.mtu, cf.last, .slice AL L.length cL, .slice AC nc cC] 123) (hp : Kd.F (Kd.raw 1) w N AC nc (ptrs qs)) (hk : 1 ≤ kd ∧ kd ≤ 6) (hn : ¬ (1 ≤ n ∧ n ≤ nc)) :
  Calls Tryd.prog 42 #[pt gm, .agg #[kd, n, key, uc, un, us, rk, an, ab, .int .u32 am]] w fun e_ w' => e_ = .returned (.agg #[.int .i64 11, .int .i64 0, .int .i64 0, .string ⟨#[]⟩, false, .int .i64 0]) ∧ Own N w' [] ∧ KeepS N w w' := by
 have HM_0 : Aside0 (CellN N w gm #[cf.cl, cf.win, cf.push, cf.pull, cf.mtu, cf.last, .slice AL L.length cL, .slice AC nc cC] 123) := ⟨hm⟩
 have HP_0 : Aside0 (Kd.F (Kd.raw 1) w N AC nc (ptrs qs)) := ⟨hp⟩
 have O0 : Aside0 (Own N w []) := ⟨h⟩
 have K0 : Aside0 (KeepS N w w) := ⟨KeepS.refl _ _⟩
 have mA := blk8_ (HM_0.out.2)
 clear h hm hp
 have HN := Am hn
 have d1 : decide (kd < 1) = false := decide_eq_false (by omega)
 have d2 : decide (kd > 6) = false := decide_eq_false (by omega)
 have d3 : decide (6 < kd) = false := d2
 clear hn hk
 go_enter Tryd.func42, Tryd.ntmps42
 go_wp2_with (first | ((with_reducible refine gD 3 rfl ?_); refine bP 3 #[kd, n, key, uc, un, us, rk, an, ab, .int .u32 am] 83 O0.out ?_; intro ga w1 o_ k_; obtain ⟨O1, K1⟩ := ok_ K0 o_ k_; have HM_1 := Am (CellN.keep HM_0.out k_); have HP_1 := Am (keepF HP_0.out k_); clear mA O0 K0 HM_0 HP_0; have a0 := k10_ O1 0; have mA := blk8_ (HM_1.out.2); clear o_ k_) | ((with_reducible refine gD 4 rfl ?_); refine bP 4 #[.int .i64 0, .int .i64 0, .int .i64 0, .string ⟨#[]⟩, false, .int .i64 0] 79 O1.out ?_; intro gr w2 o_ k_; obtain ⟨O2, K2⟩ := ok_ K1 o_ k_; have HM_2 := Am (CellN.keep HM_1.out k_); have HP_2 := Am (keepF HP_1.out k_); clear a0 mA O1 K1 HM_1 HP_1; have a0 := k10_ O2 0; have a1 := k6_ O2 1; have mA := blk8_ (HM_2.out.2); clear o_ k_) | ((with_reducible refine gC 77 rfl ?_); refine gP (some 20) Tryd.func77 #[pt gm, n] ?_; obtain ⟨N_, on_, nn_, rr_, bb_⟩ := O2.out.frame0; refine (MClient_no n on_ (CellN.mono HM_2.out nn_) (Kd.F_mono HP_2.out nn_) HN.out).mono ?_; rintro e_ w3 ⟨rfl, oo_, kk_⟩; obtain ⟨o_, k_⟩ := bb_ _ _ kk_ oo_; refine ⟨_, rfl, ?_⟩; obtain ⟨O3, K3⟩ := ok_ K2 o_ k_; have HM_3 := Am (CellN.keep HM_2.out k_); have HP_3 := Am (keepF HP_2.out k_); clear a0 a1 mA O2 K2 HM_2 HP_2; have a0 := k10_ O3 0; have a1 := k6_ O3 1; have mA := blk8_ (HM_3.out.2); clear o_ k_ oo_ kk_ on_ nn_ rr_ bb_) | ((with_reducible refine gT 79 4 rfl ?_); refine wS 1 0 [.int .i64 11, .int .i64 0, .int .i64 0, .string ⟨#[]⟩, false, .int .i64 0] O3 ?_; intro w4 o_ k_; obtain ⟨O4, K4⟩ := ok_ K3 o_ k_; have HM_4 := Am (CellN.keep HM_3.out k_); have HP_4 := Am (keepF HP_3.out k_); clear a0 a1 mA O3 K3 HM_3 HP_3; have a0 := k10_ O4 0; have a1 := k6_ O4 1; have mA := blk8_ (HM_4.out.2); clear o_ k_))
 refine bodyPost_ret (results_cell_row rfl _ _ gr 79 #[.int .i64 11, .int .i64 0, .int .i64 0, .string ⟨#[]⟩, false, .int .i64 0] (0, 0) _ rfl (O4.out.blk (i := 1) rfl) Tryd.underlying79 rfl (by kernel_rfl)) rfl ?_
 exact ⟨rfl, O4.out.take 0, K4.out⟩
theorem RpRead_e (V : Val) (key : ByteArray) {U : List Upd7} {X : List Rnd7} (hV : stateOf U X key = V) (hs : key.size ≤ maxLen) {w : World} (A0 : Option Addr) (c0 : Nat) (A1 : Option Addr) (c1 : Nat) (ho : Kd.C kU7 w A0 U.length U) (hr : Kd.C kR7 w A1 X.length X) (hb : (flatR X).length + U.length < 1000000) :
  Calls Tryd.prog 63 #[key, .slice A0 U.length c0, .slice A1 X.length c1] w fun e_ w' => e_ = .returned (valV V) ∧ Below w.heap.size w w' := by
 subst hV
 exact RpRead key hs A0 c0 U A1 c1 X ho hr hb
theorem RpLen_e (n : Int) {U : List Upd7} {X : List Rnd7} (hn : (cntK (stateOf U X) : Int) = n) {w : World} (A0 : Option Addr) (c0 : Nat) (A1 : Option Addr) (c1 : Nat) (ho : Kd.C kU7 w A0 U.length U) (hr : Kd.C kR7 w A1 X.length X) (hb : (flatR X).length + U.length < 1000000) :
  Calls Tryd.prog 66 #[.slice A0 U.length c0, .slice A1 X.length c1] w fun e_ w' => e_ = .returned (.int .i64 n) ∧ Below w.heap.size w w' := by
 subst hn
 refine (RpLen A0 c0 U A1 c1 X ho hr hb).mono ?_
 rintro e_ w' ⟨ks, k1, k2, e1, hb⟩
 exact ⟨by rw [cntK_is k1 k2]; exact e1, hb⟩
theorem MSeen_S {S : List Rnd7} {N : Nat → Prop} {w : World} {gm nc cL cC : Nat} {cf : MCf} {AL AC : Option Addr} {L : List Rnd7} {qs : List (Nat × RawR)} {q : Nat × RawR} {x : MCl} {AJ AU : Option Addr} {cJ cU : Nat} {M : Nat → Prop} (n : Int) (hS : seenR n L x = S) (h : Own N w []) (hm : CellN N w gm #[cf.cl, cf.win, cf.push, cf.pull, cf.mtu, cf.last, .slice AL L.length cL, .slice AC nc cC] 123) (hp : Kd.F (Kd.raw 1) w N AC nc (ptrs qs)) (hx : CellN N w q.1 #[x.e, .slice AJ x.J.length cJ, x.k, x.c, .slice AU x.U.length cU] 127) (hM : ∀ k, M k → N k) (hlm : Kd.F kR7 w M AL L.length L) (hjm : Kd.F kR7 w M AJ x.J.length x.J) (hn : 1 ≤ n ∧ n ≤ nc) (hb : nc ≤ 64) (hq : qs[n.toNat - 1]? = some q) (hk : x.k ≤ L.length) (hL : L.length ≤ 1000000) (hcL : L.length ≤ cL) (ho : ownN n L x ≤ x.J.length) (hc : x.J.length ≤ cJ) (hLJ : L.length + x.J.length ≤ 1000000) :
  Calls Tryd.prog 80 #[pt gm, n] w fun e_ w' => ∃ A1 c1 rows, e_ = .returned (.slice A1 S.length c1) ∧ Own N w' [nrow (Kd.raw 3) tR7 (.slice A1 S.length c1) rows] ∧ Lead M w' rows S ∧ KeepS N w w' := by
 subst hS
 exact MSeen n h hm hp hx hM hlm hjm hn hb hq hk hL hcL ho hc hLJ
theorem MDo_2 {N : Nat → Prop} {w : World} {gm nc cL cC : Nat} {cf : MCf} {AL AC : Option Addr} {L : List Rnd7} {qs : List (Nat × RawR)} {q : Nat × RawR} {x : MCl} {AJ AU : Option Addr} {cJ cU : Nat} (n : Int) (key : ByteArray) (uc un : Int) (us rk : ByteArray) (an ab am : Int) (h : Own N w []) (hm : CellN N w gm #[cf.cl, cf.win, cf.push, cf.pull, cf.mtu, cf.last, .slice AL L.length cL, .slice AC nc cC] 123) (hp : Kd.F (Kd.raw 1) w N AC nc (ptrs qs)) (hx : CellN N w q.1 #[x.e, .slice AJ x.J.length cJ, x.k, x.c, .slice AU x.U.length cU] 127) (hl : Kd.F kR7 w N AL L.length L) (hj : Kd.F kR7 w N AJ x.J.length x.J) (hu : Kd.F kU7 w N AU x.U.length x.U) (hn : 1 ≤ n ∧ n ≤ nc) (hb : nc ≤ 64) (hq : qs[n.toNat - 1]? = some q) (hk : x.k ≤ L.length) (hL : L.length ≤ 1000000) (hcL : L.length ≤ cL) (ho : ownN n L x ≤ x.J.length) (hc : x.J.length ≤ cJ) (hLJ : L.length + x.J.length ≤ 1000000) (hrk : rk.size ≤ maxLen) (hbb : (flatR (seenR n L x)).length + x.U.length < 1000000) :
  Calls Tryd.prog 42 #[pt gm, .agg #[.int .i64 2, n, key, uc, un, us, rk, an, ab, .int .u32 am]] w fun e_ w' => e_ = .returned (repM ⟨0, stateOf x.U (seenR n L x) rk, false, cntK (stateOf x.U (seenR n L x))⟩) ∧ Own N w' [] ∧ KeepS N w w' := by
 have HM_0 : Aside0 (CellN N w gm #[cf.cl, cf.win, cf.push, cf.pull, cf.mtu, cf.last, .slice AL L.length cL, .slice AC nc cC] 123) := ⟨hm⟩
 have HP_0 : Aside0 (Kd.F (Kd.raw 1) w N AC nc (ptrs qs)) := ⟨hp⟩
 have HX_0 : Aside0 (CellN N w q.1 #[x.e, .slice AJ x.J.length cJ, x.k, x.c, .slice AU x.U.length cU] 127) := ⟨hx⟩
 have HL_0 : Aside0 (Kd.F kR7 w N AL L.length L) := ⟨hl⟩
 have HJ_0 : Aside0 (Kd.F kR7 w N AJ x.J.length x.J) := ⟨hj⟩
 have HU_0 : Aside0 (Kd.F kU7 w N AU x.U.length x.U) := ⟨hu⟩
 obtain ⟨S, hS⟩ : ∃ S, seenR n L x = S := ⟨_, rfl⟩
 rw [hS] at hbb ⊢
 obtain ⟨V, hV⟩ : ∃ V, stateOf x.U S rk = V := ⟨_, rfl⟩
 rw [hV]
 obtain ⟨m, hm_⟩ : ∃ m : Int, (cntK (stateOf x.U S) : Int) = m := ⟨_, rfl⟩
 rw [hm_]
 have HN := Am hn
 have HB := Am hb
 have HQ := Am hq
 have HKL := Am hk
 have HLL := Am hL
 have HCL := Am hcL
 have HOW := Am ho
 have HCJ := Am hc
 have HS := Am hS
 have HLJ := Am hLJ
 have HRK := Am hrk
 have HBB := Am hbb
 have HV := Am hV
 have HMM := Am hm_
 clear hn hb hq hk hL hcL ho hc hS hLJ hrk hbb hV hm_
 have O0 : Aside0 (Own N w []) := ⟨h⟩
 have K0 : Aside0 (KeepS N w w) := ⟨KeepS.refl _ _⟩
 have mA := blk8_ (HM_0.out.2)
 have xA := blk5_ (HX_0.out.2)
 clear h hm hp hx hl hj hu
 go_enter Tryd.func42, Tryd.ntmps42
 go_wp2_with (first | ((with_reducible refine gD 3 rfl ?_); refine bP 3 #[.int .i64 2, n, key, uc, un, us, rk, an, ab, .int .u32 am] 83 O0.out ?_; intro ga w1 o_ k_; obtain ⟨O1, K1⟩ := ok_ K0 o_ k_; have HM_1 := Am (CellN.keep HM_0.out k_); have HP_1 := Am (keepF HP_0.out k_); have HX_1 := Am (CellN.keep HX_0.out k_); have HL_1 := Am (keepF HL_0.out k_); have HJ_1 := Am (keepF HJ_0.out k_); have HU_1 := Am (keepF HU_0.out k_); clear mA xA O0 K0 HM_0 HP_0 HX_0 HL_0 HJ_0 HU_0; have a0 := k10_ O1 0; have mA := blk8_ (HM_1.out.2); have xA := blk5_ (HX_1.out.2); clear o_ k_) | ((with_reducible refine gD 4 rfl ?_); refine bP 4 #[.int .i64 0, .int .i64 0, .int .i64 0, .string ⟨#[]⟩, false, .int .i64 0] 79 O1.out ?_; intro gr w2 o_ k_; obtain ⟨O2, K2⟩ := ok_ K1 o_ k_; have HM_2 := Am (CellN.keep HM_1.out k_); have HP_2 := Am (keepF HP_1.out k_); have HX_2 := Am (CellN.keep HX_1.out k_); have HL_2 := Am (keepF HL_1.out k_); have HJ_2 := Am (keepF HJ_1.out k_); have HU_2 := Am (keepF HU_1.out k_); clear a0 mA xA O1 K1 HM_1 HP_1 HX_1 HL_1 HJ_1 HU_1; have a0 := k10_ O2 0; have a1 := k6_ O2 1; have mA := blk8_ (HM_2.out.2); have xA := blk5_ (HX_2.out.2); clear o_ k_) | ((with_reducible refine gC 77 rfl ?_); refine gP (some 20) Tryd.func77 #[pt gm, n] ?_; obtain ⟨N_, on_, nn_, rr_, bb_⟩ := O2.out.frame0; refine (MClient_ok n on_ (CellN.mono HM_2.out nn_) (Kd.F_mono HP_2.out nn_) HN.out HB.out HQ.out).mono ?_; rintro e_ w3 ⟨rfl, oo_, kk_⟩; obtain ⟨o_, k_⟩ := bb_ _ _ kk_ oo_; refine ⟨_, rfl, ?_⟩; obtain ⟨O3, K3⟩ := ok_ K2 o_ k_; have HM_3 := Am (CellN.keep HM_2.out k_); have HP_3 := Am (keepF HP_2.out k_); have HX_3 := Am (CellN.keep HX_2.out k_); have HL_3 := Am (keepF HL_2.out k_); have HJ_3 := Am (keepF HJ_2.out k_); have HU_3 := Am (keepF HU_2.out k_); clear a0 a1 mA xA O2 K2 HM_2 HP_2 HX_2 HL_2 HJ_2 HU_2; have a0 := k10_ O3 0; have a1 := k6_ O3 1; have mA := blk8_ (HM_3.out.2); have xA := blk5_ (HX_3.out.2); clear o_ k_ oo_ kk_ on_ nn_ rr_ bb_) | ((with_reducible refine gC 80 rfl ?_); refine gP (some 39) Tryd.func80 #[pt gm, n] ?_; obtain ⟨N_, on_, nn_, rr_, bb_⟩ := O3.out.frame0; refine (MSeen_S n HS.out on_ (CellN.mono HM_3.out nn_) (Kd.F_mono HP_3.out nn_) (CellN.mono HX_3.out nn_) nn_ HL_3.out HJ_3.out HN.out HB.out HQ.out HKL.out HLL.out HCL.out HOW.out HCJ.out HLJ.out).mono ?_; rintro e_ w4 ⟨A1, c1, rows, rfl, oo_, ll_, kk_⟩; obtain ⟨o_, k_⟩ := bb_ _ _ kk_ oo_; refine ⟨_, rfl, ?_⟩; obtain ⟨O4, K4⟩ := ok_ K3 o_ k_; have HM_4 := Am (CellN.keep HM_3.out k_); have HP_4 := Am (keepF HP_3.out k_); have HX_4 := Am (CellN.keep HX_3.out k_); have HL_4 := Am (keepF HL_3.out k_); have HJ_4 := Am (keepF HJ_3.out k_); have HU_4 := Am (keepF HU_3.out k_); clear a0 a1 mA xA O3 K3 HM_3 HP_3 HX_3 HL_3 HJ_3 HU_3; have a0 := k10_ O4 0; have a1 := k6_ O4 1; have mA := blk8_ (HM_4.out.2); have xA := blk5_ (HX_4.out.2); have HLD_4 : Aside0 (Lead N w4 rows S) := ⟨ll_⟩; clear o_ k_ oo_ kk_ on_ nn_ rr_ bb_ ll_))
 refine sP (n := 16) (S := fun w' => w'.cell? ⟨q.1, 0, none⟩ = some (.int .i64 x.e) ∧ w'.cell? ⟨q.1, 1, none⟩ = some (.slice AJ x.J.length cJ) ∧ w'.cell? ⟨q.1, 2, none⟩ = some (.int .i64 x.k) ∧ w'.cell? ⟨q.1, 3, none⟩ = some (.int .i64 x.c) ∧ w'.cell? ⟨q.1, 4, none⟩ = some (.slice AU x.U.length cU) ∧ w'.cell? ⟨ga, 0, none⟩ = some (.int .i64 2) ∧ w'.cell? ⟨ga, 1, none⟩ = some (.int .i64 n) ∧ w'.cell? ⟨ga, 2, none⟩ = some (.string key) ∧ w'.cell? ⟨ga, 3, none⟩ = some (.int .i64 uc) ∧ w'.cell? ⟨ga, 4, none⟩ = some (.int .i64 un) ∧ w'.cell? ⟨ga, 5, none⟩ = some (.string us) ∧ w'.cell? ⟨ga, 6, none⟩ = some (.string rk) ∧ w'.cell? ⟨ga, 7, none⟩ = some (.int .i64 an) ∧ w'.cell? ⟨ga, 8, none⟩ = some (.int .i64 ab) ∧ w'.cell? ⟨ga, 9, none⟩ = some (.int .u32 am)) (ds := [15]) ⟨xA.1, xA.2.1, xA.2.2.1, xA.2.2.2.1, xA.2.2.2.2.1, a0.1, a0.2.1, a0.2.2.1, a0.2.2.2.1, a0.2.2.2.2.1, a0.2.2.2.2.2.1, a0.2.2.2.2.2.2.1, a0.2.2.2.2.2.2.2.1, a0.2.2.2.2.2.2.2.2.1, a0.2.2.2.2.2.2.2.2.2.1⟩ (fun hHeld => ?_)
 obtain ⟨w5, hw_, k_, O5, K5⟩ := drw_ O4 K4
 rw [← hw_] at hHeld ⊢
 have HM_5 := Am (CellN.keep HM_4.out k_)
 have HP_5 := Am (keepF HP_4.out k_)
 have HX_5 := Am (CellN.keep HX_4.out k_)
 have HL_5 := Am (keepF HL_4.out k_)
 have HJ_5 := Am (keepF HJ_4.out k_)
 have HU_5 := Am (keepF HU_4.out k_)
 have HLD_5 := Am (Lead.keep HLD_4.out k_)
 clear a0 a1 mA xA O4 K4 HM_4 HP_4 HX_4 HL_4 HJ_4 HU_4 HLD_4
 have a0 := k10_ O5 0
 have a1 := k6_ O5 1
 have mA := blk8_ (HM_5.out.2)
 have xA := blk5_ (HX_5.out.2)
 clear k_ hw_
 refine pP 0 (some 40) ?_
 refine pP 2 (some 42) ?_
 refine pP 3 (some 43) ?_
 refine pP 4 (some 44) ?_
 refine pP 6 (some 46) ?_
 refine pP 8 (some 48) ?_
 refine pP 9 (some 49) ?_
 refine pP 10 (some 50) ?_
 refine pP 12 (some 52) ?_
 refine tP 1 (some 41) hHeld ?_
 refine tP 5 (some 45) hHeld ?_
 refine tP 11 (some 51) hHeld ?_
 refine oP 7 (some 47) (fun K_ hK_ => ?_)
 refine hP Tryd.func63 #[rk, .slice AU x.U.length cU, .slice A1 S.length c1] ?_
 refine (RpRead_e V rk HV.out HRK.out AU cU A1 c1 (Kd.F_now HU_5.out) (lead_C (i := 2) O5.out rfl HLD_5.out).2.2 HBB.out).mono ?_
 rintro e_ w6 ⟨rfl, hb_⟩
 refine ⟨_, rfl, ?_⟩
 have o_ := O5.out.below hb_
 have k_ := KeepS.of_below (N := N) hb_
 obtain ⟨O6, K6⟩ := ok_ K5 o_ k_
 have HM_6 := Am (CellN.keep HM_5.out k_)
 have HP_6 := Am (keepF HP_5.out k_)
 have HX_6 := Am (CellN.keep HX_5.out k_)
 have HL_6 := Am (keepF HL_5.out k_)
 have HJ_6 := Am (keepF HJ_5.out k_)
 have HU_6 := Am (keepF HU_5.out k_)
 have HLD_6 := Am (Lead.keep HLD_5.out k_)
 clear a0 a1 mA xA O5 K5 HM_5 HP_5 HX_5 HL_5 HJ_5 HU_5 HLD_5
 have a0 := k10_ O6 0
 have a1 := k6_ O6 1
 have mA := blk8_ (HM_6.out.2)
 have xA := blk5_ (HX_6.out.2)
 clear o_ k_ hb_ hHeld
 refine hK_.out _ _ ⟨xA.1, xA.2.1, xA.2.2.1, xA.2.2.2.1, xA.2.2.2.2.1, a0.1, a0.2.1, a0.2.2.1, a0.2.2.2.1, a0.2.2.2.2.1, a0.2.2.2.2.2.1, a0.2.2.2.2.2.2.1, a0.2.2.2.2.2.2.2.1, a0.2.2.2.2.2.2.2.2.1, a0.2.2.2.2.2.2.2.2.2.1⟩ (fun hHeld => ?_)
 clear hK_ K_
 refine nP ?_
 refine oP 13 (some 53) (fun K_ hK_ => ?_)
 refine hP Tryd.func66 #[.slice AU x.U.length cU, .slice A1 S.length c1] ?_
 refine (RpLen_e m HMM.out AU cU A1 c1 (Kd.F_now HU_6.out) (lead_C (i := 2) O6.out rfl HLD_6.out).2.2 HBB.out).mono ?_
 rintro e_ w7 ⟨rfl, hb_⟩
 refine ⟨_, rfl, ?_⟩
 have o_ := O6.out.below hb_
 have k_ := KeepS.of_below (N := N) hb_
 obtain ⟨O7, K7⟩ := ok_ K6 o_ k_
 have HM_7 := Am (CellN.keep HM_6.out k_)
 have HP_7 := Am (keepF HP_6.out k_)
 have HX_7 := Am (CellN.keep HX_6.out k_)
 have HL_7 := Am (keepF HL_6.out k_)
 have HJ_7 := Am (keepF HJ_6.out k_)
 have HU_7 := Am (keepF HU_6.out k_)
 have HLD_7 := Am (Lead.keep HLD_6.out k_)
 clear a0 a1 mA xA O6 K6 HM_6 HP_6 HX_6 HL_6 HJ_6 HU_6 HLD_6
 have a0 := k10_ O7 0
 have a1 := k6_ O7 1
 have mA := blk8_ (HM_7.out.2)
 have xA := blk5_ (HX_7.out.2)
 clear o_ k_ hb_ hHeld
 refine hK_.out _ _ ⟨xA.1, xA.2.1, xA.2.2.1, xA.2.2.2.1, xA.2.2.2.2.1, a0.1, a0.2.1, a0.2.2.1, a0.2.2.2.1, a0.2.2.2.2.1, a0.2.2.2.2.2.1, a0.2.2.2.2.2.2.1, a0.2.2.2.2.2.2.2.1, a0.2.2.2.2.2.2.2.2.1, a0.2.2.2.2.2.2.2.2.2.1⟩ (fun hHeld => ?_)
 clear hK_ K_
 refine nP ?_
 refine pP 14 (some 54) ?_
 refine lP 15 none (fun K_ hK_ => ?_)
 refine xS 1 0 [.int .i64 0, .int .i64 V.1, .int .i64 V.2.1, .string V.2.2, false, m] O7 ?_
 intro w8 o_ k_
 obtain ⟨O8, K8⟩ := ok_ K7 o_ k_
 have HM_8 := Am (CellN.keep HM_7.out k_)
 have HP_8 := Am (keepF HP_7.out k_)
 have HX_8 := Am (CellN.keep HX_7.out k_)
 have HL_8 := Am (keepF HL_7.out k_)
 have HJ_8 := Am (keepF HJ_7.out k_)
 have HU_8 := Am (keepF HU_7.out k_)
 have HLD_8 := Am (Lead.keep HLD_7.out k_)
 clear a0 a1 mA xA O7 K7 HM_7 HP_7 HX_7 HL_7 HJ_7 HU_7 HLD_7
 have a0 := k10_ O8 0
 have a1 := k6_ O8 1
 have mA := blk8_ (HM_8.out.2)
 have xA := blk5_ (HX_8.out.2)
 clear o_ k_
 refine hK_.out _ _ ?_
 clear hK_ K_
 refine dN ?_
 clear hHeld
 go_wp2
 refine bodyPost_ret (results_cell_row rfl _ _ gr 79 #[.int .i64 0, .int .i64 V.1, .int .i64 V.2.1, .string V.2.2, false, m] (0, 0) _ rfl (O8.out.blk (i := 1) rfl) Tryd.underlying79 rfl (by kernel_rfl)) rfl ?_
 exact ⟨rfl, O8.out.take 0, K8.out⟩
theorem MDo_5 {N : Nat → Prop} {w : World} {gm nc cL cC : Nat} {cf : MCf} {AL AC : Option Addr} {L : List Rnd7} {qs : List (Nat × RawR)} {q : Nat × RawR} {x : MCl} {AJ AU : Option Addr} {cJ cU : Nat} (n : Int) (key : ByteArray) (uc un : Int) (us rk : ByteArray) (an ab am : Int) (h : Own N w []) (hm : CellN N w gm #[cf.cl, cf.win, cf.push, cf.pull, cf.mtu, cf.last, .slice AL L.length cL, .slice AC nc cC] 123) (hp : Kd.F (Kd.raw 1) w N AC nc (ptrs qs)) (hx : CellN N w q.1 #[x.e, .slice AJ x.J.length cJ, x.k, x.c, .slice AU x.U.length cU] 127) (hl : Kd.F kR7 w N AL L.length L) (hn : 1 ≤ n ∧ n ≤ nc) (hb : nc ≤ 64) (hq : qs[n.toNat - 1]? = some q) (hk : x.k ≤ L.length) (hL : L.length ≤ 1000000) (hcL : L.length ≤ cL) (ho : ownN n L x ≤ x.J.length) (hc : x.J.length ≤ cJ) :
  Calls Tryd.prog 42 #[pt gm, .agg #[.int .i64 5, n, key, uc, un, us, rk, an, ab, .int .u32 am]] w fun e_ w' => e_ = .returned (repM ⟨0, (0, 0, none'), decide (x.J.length - ownN n L x = 0) && decide (x.U.length = 0), 0⟩) ∧ Own N w' [] ∧ KeepS N w w' := by
 have HM_0 : Aside0 (CellN N w gm #[cf.cl, cf.win, cf.push, cf.pull, cf.mtu, cf.last, .slice AL L.length cL, .slice AC nc cC] 123) := ⟨hm⟩
 have HP_0 : Aside0 (Kd.F (Kd.raw 1) w N AC nc (ptrs qs)) := ⟨hp⟩
 have HX_0 : Aside0 (CellN N w q.1 #[x.e, .slice AJ x.J.length cJ, x.k, x.c, .slice AU x.U.length cU] 127) := ⟨hx⟩
 have HL_0 : Aside0 (Kd.F kR7 w N AL L.length L) := ⟨hl⟩
 obtain ⟨Y, hY⟩ : ∃ Y, (decide (x.J.length - ownN n L x = 0) && decide (x.U.length = 0)) = Y := ⟨_, rfl⟩
 have HF : ((((x.J.length - ownN n L x : Nat) : Int) == 0) = true ∧ ((x.U.length : Int) == 0) = true ∧ Y = true) ∨ ((((x.J.length - ownN n L x : Nat) : Int) == 0) = true ∧ ((x.U.length : Int) == 0) = false ∧ Y = false) ∨ ((((x.J.length - ownN n L x : Nat) : Int) == 0) = false ∧ Y = false) := by
  rw [← hY]
  by_cases h1 : x.J.length - ownN n L x = 0
  ·by_cases h2 : x.U.length = 0
   ·exact .inl ⟨by rw [h1]; rfl, by rw [h2]; rfl, by simp [h1, h2]⟩
   ·exact .inr (.inl ⟨by rw [h1]; rfl, beq_eq_false_iff_ne.mpr (by omega), by simp [h2]⟩)
  ·exact .inr (.inr ⟨beq_eq_false_iff_ne.mpr (by omega), by simp [h1]⟩)
 rw [hY]
 clear hY
 have HN := Am hn
 have HB := Am hb
 have HQ := Am hq
 have HKL := Am hk
 have HLL := Am hL
 have HCL := Am hcL
 have HOW := Am ho
 have HCJ := Am hc
 clear hn hb hq hk hL hcL ho hc
 have O0 : Aside0 (Own N w []) := ⟨h⟩
 have K0 : Aside0 (KeepS N w w) := ⟨KeepS.refl _ _⟩
 have mA := blk8_ (HM_0.out.2)
 have xA := blk5_ (HX_0.out.2)
 clear h hm hp hx hl
 rcases HF with ⟨dC, d2, rfl⟩ | ⟨dD, d2, rfl⟩ | ⟨dD, rfl⟩
 all_goals go_enter Tryd.func42, Tryd.ntmps42
 all_goals go_wp2_with (first | ((with_reducible refine gD 3 rfl ?_); refine bP 3 #[.int .i64 5, n, key, uc, un, us, rk, an, ab, .int .u32 am] 83 O0.out ?_; intro ga w1 o_ k_; obtain ⟨O1, K1⟩ := ok_ K0 o_ k_; have HM_1 := Am (CellN.keep HM_0.out k_); have HP_1 := Am (keepF HP_0.out k_); have HX_1 := Am (CellN.keep HX_0.out k_); have HL_1 := Am (keepF HL_0.out k_); clear mA xA O0 K0 HM_0 HP_0 HX_0 HL_0; have a0 := k10_ O1 0; have mA := blk8_ (HM_1.out.2); have xA := blk5_ (HX_1.out.2); clear o_ k_) | ((with_reducible refine gD 4 rfl ?_); refine bP 4 #[.int .i64 0, .int .i64 0, .int .i64 0, .string ⟨#[]⟩, false, .int .i64 0] 79 O1.out ?_; intro gr w2 o_ k_; obtain ⟨O2, K2⟩ := ok_ K1 o_ k_; have HM_2 := Am (CellN.keep HM_1.out k_); have HP_2 := Am (keepF HP_1.out k_); have HX_2 := Am (CellN.keep HX_1.out k_); have HL_2 := Am (keepF HL_1.out k_); clear a0 mA xA O1 K1 HM_1 HP_1 HX_1 HL_1; have a0 := k10_ O2 0; have a1 := k6_ O2 1; have mA := blk8_ (HM_2.out.2); have xA := blk5_ (HX_2.out.2); clear o_ k_) | ((with_reducible refine gC 77 rfl ?_); refine gP (some 20) Tryd.func77 #[pt gm, n] ?_; obtain ⟨N_, on_, nn_, rr_, bb_⟩ := O2.out.frame0; refine (MClient_ok n on_ (CellN.mono HM_2.out nn_) (Kd.F_mono HP_2.out nn_) HN.out HB.out HQ.out).mono ?_; rintro e_ w3 ⟨rfl, oo_, kk_⟩; obtain ⟨o_, k_⟩ := bb_ _ _ kk_ oo_; refine ⟨_, rfl, ?_⟩; obtain ⟨O3, K3⟩ := ok_ K2 o_ k_; have HM_3 := Am (CellN.keep HM_2.out k_); have HP_3 := Am (keepF HP_2.out k_); have HX_3 := Am (CellN.keep HX_2.out k_); have HL_3 := Am (keepF HL_2.out k_); clear a0 a1 mA xA O2 K2 HM_2 HP_2 HX_2 HL_2; have a0 := k10_ O3 0; have a1 := k6_ O3 1; have mA := blk8_ (HM_3.out.2); have xA := blk5_ (HX_3.out.2); clear o_ k_ oo_ kk_ on_ nn_ rr_ bb_) | ((with_reducible refine gC 78 rfl ?_); refine gP (some 87) Tryd.func78 #[pt gm, n] ?_; obtain ⟨N_, on_, nn_, rr_, bb_⟩ := O3.out.frame0; refine (MPend n on_ (CellN.mono HM_3.out nn_) (Kd.F_mono HP_3.out nn_) (CellN.mono HX_3.out nn_) (Kd.F_mono HL_3.out nn_) HN.out HB.out HQ.out HKL.out HLL.out HCL.out HOW.out HCJ.out).mono ?_; rintro e_ w4 ⟨rfl, oo_, kk_⟩; obtain ⟨o_, k_⟩ := bb_ _ _ kk_ oo_; refine ⟨_, rfl, ?_⟩; obtain ⟨O4, K4⟩ := ok_ K3 o_ k_; have HM_4 := Am (CellN.keep HM_3.out k_); have HP_4 := Am (keepF HP_3.out k_); have HX_4 := Am (CellN.keep HX_3.out k_); have HL_4 := Am (keepF HL_3.out k_); clear a0 a1 mA xA O3 K3 HM_3 HP_3 HX_3 HL_3; have a0 := k10_ O4 0; have a1 := k6_ O4 1; have mA := blk8_ (HM_4.out.2); have xA := blk5_ (HX_4.out.2); clear o_ k_ oo_ kk_ on_ nn_ rr_ bb_) | (have q_ := dC; clear q_; (with_reducible refine gT 79 4 rfl ?_); refine wS 1 0 [.int .i64 0, .int .i64 0, .int .i64 0, .string ⟨#[]⟩, true, .int .i64 0] O4 ?_; intro w5 o_ k_; obtain ⟨O5, K5⟩ := ok_ K4 o_ k_; have HM_5 := Am (CellN.keep HM_4.out k_); have HP_5 := Am (keepF HP_4.out k_); have HX_5 := Am (CellN.keep HX_4.out k_); have HL_5 := Am (keepF HL_4.out k_); clear a0 a1 mA xA O4 K4 HM_4 HP_4 HX_4 HL_4; have a0 := k10_ O5 0; have a1 := k6_ O5 1; have mA := blk8_ (HM_5.out.2); have xA := blk5_ (HX_5.out.2); clear o_ k_) | (have q_ := dD; clear q_; (with_reducible refine gT 79 4 rfl ?_); refine wS 1 0 [.int .i64 0, .int .i64 0, .int .i64 0, .string ⟨#[]⟩, false, .int .i64 0] O4 ?_; intro w5 o_ k_; obtain ⟨O5, K5⟩ := ok_ K4 o_ k_; have HM_5 := Am (CellN.keep HM_4.out k_); have HP_5 := Am (keepF HP_4.out k_); have HX_5 := Am (CellN.keep HX_4.out k_); have HL_5 := Am (keepF HL_4.out k_); clear a0 a1 mA xA O4 K4 HM_4 HP_4 HX_4 HL_4; have a0 := k10_ O5 0; have a1 := k6_ O5 1; have mA := blk8_ (HM_5.out.2); have xA := blk5_ (HX_5.out.2); clear o_ k_))
 all_goals refine bodyPost_ret (results_cell_row rfl _ _ gr 79 _ (0, 0) _ rfl (O5.out.blk (i := 1) rfl) Tryd.underlying79 rfl (by kernel_rfl)) rfl ?_
 all_goals exact ⟨rfl, O5.out.take 0, K5.out⟩
theorem MUpd_e (E : Int) (U2 : List Upd7) {N : Nat → Prop} {w : World} {gm g : Nat} {cf : MCf} {vL vC vJ : Value} {x : MCl} {AU : Option Addr} {cU : Nat} (key : ByteArray) (c n : Int) (s : ByteArray) (hE : updE x.U key c n s cf.mtu = E) (hU : updU x.U key c n s cf.mtu = U2) (h : Own N w [cells g #[x.e, vJ, x.k, x.c, .slice AU x.U.length cU] 127, nrow kU7 tU7 (.slice AU x.U.length cU) x.U]) (hmm : CellN N w gm #[cf.cl, cf.win, cf.push, cf.pull, cf.mtu, cf.last, vL, vC] 123) (ht : TabN N w) (hL : x.U.length ≤ 1000000) :
  Calls Tryd.prog 79 #[pt gm, pt g, .agg #[key, c, n, s]] w fun e_ w' => ∃ A1 c1, e_ = .returned (.int .i64 E) ∧ Own N w' [cells g #[x.e, vJ, x.k, x.c, .slice A1 U2.length c1] 127, nrow kU7 tU7 (.slice A1 U2.length c1) U2] ∧ KeepS N w w' := by
 subst hE hU
 exact MUpd key c n s h hmm ht hL
theorem MDo_1 {N : Nat → Prop} {w : World} {gm : Nat} {cf : MCf} {L : List Rnd7} {cls : List MCl} {x : MCl} (n : Int) (key : ByteArray) (uc un : Int) (us rk : ByteArray) (an ab am : Int) (h : Own N w [ModO gm cf L cls]) (hn : 1 ≤ n ∧ n ≤ cls.length) (hb : cls.length ≤ 64) (hx : cls[n.toNat - 1]? = some x) (ht : TabN N w) (hLU : x.U.length ≤ 1000000) :
  Calls Tryd.prog 42 #[pt gm, .agg #[.int .i64 1, n, key, uc, un, us, rk, an, ab, .int .u32 am]] w fun e_ w' => e_ = .returned (repM (rep0 (updE x.U key uc un us cf.mtu))) ∧ Own N w' [ModO gm cf L (cls.set (n.toNat - 1) { x with U := updU x.U key uc un us cf.mtu })] ∧ KeepS N w w' := by
 obtain ⟨U2, hU2⟩ : ∃ U2, updU x.U key uc un us cf.mtu = U2 := ⟨_, rfl⟩
 obtain ⟨E, hE⟩ : ∃ E, updE x.U key uc un us cf.mtu = E := ⟨_, rfl⟩
 rw [hU2, hE]
 have HU2 := Am hU2
 have HE := Am hE
 have HLU := Am hLU
 have HT_0 := Am ht
 obtain ⟨AL, cL, AC, cC, rL, qs, q, AJ, cJ, AU, cU, ⟨hq, hrl, hqj⟩, hqi, h2⟩ := ModO.at h hx
 have HN := Am hn
 have HB := Am hb
 have HQI := Am hqi
 have HXX := Am hx
 have HQL := Am hq
 have HRL := Am hrl
 have HQJ := Am hqj
 have O0 : Aside0 (Own N w [cells gm #[cf.cl, cf.win, cf.push, cf.pull, cf.mtu, cf.last, .slice AL L.length cL, .slice AC cls.length cC] 123, poolI rL L qs cls, bigs ((clsI qs cls).set (n.toNat - 1) emp), nrow (Kd.raw 1) tMP (.slice AC cls.length cC) (ptrs qs), nrow (Kd.raw 3) tR7 (.slice AL L.length cL) rL, cells q.1 #[x.e, .slice AJ x.J.length cJ, x.k, x.c, .slice AU x.U.length cU] 127, nrow kU7 tU7 (.slice AU x.U.length cU) x.U, nrow (Kd.raw 3) tR7 (.slice AJ x.J.length cJ) q.2]) := ⟨h2⟩
 have K0 : Aside0 (KeepS N w w) := ⟨KeepS.refl _ _⟩
 have a0 := k8_ O0 0
 have a5 := k5_ O0 5
 clear h h2 hx hn hb hq hrl hqj hqi hU2 hE hLU ht
 go_enter Tryd.func42, Tryd.ntmps42
 go_wp2_with (first | ((with_reducible refine gD 3 rfl ?_); refine bP 3 #[.int .i64 1, n, key, uc, un, us, rk, an, ab, .int .u32 am] 83 O0.out ?_; intro ga w1 o_ k_; obtain ⟨O1, K1⟩ := ok_ K0 o_ k_; have HT_1 := Am (TabN.keep HT_0.out k_); clear a0 a5 O0 K0 HT_0; have a0 := k8_ O1 0; have a5 := k5_ O1 5; have a8 := k10_ O1 8; clear o_ k_) | ((with_reducible refine gD 4 rfl ?_); refine bP 4 #[.int .i64 0, .int .i64 0, .int .i64 0, .string ⟨#[]⟩, false, .int .i64 0] 79 O1.out ?_; intro gr w2 o_ k_; obtain ⟨O2, K2⟩ := ok_ K1 o_ k_; have HT_2 := Am (TabN.keep HT_1.out k_); clear a0 a5 a8 O1 K1 HT_1; have a0 := k8_ O2 0; have a5 := k5_ O2 5; have a8 := k10_ O2 8; have a9 := k6_ O2 9; clear o_ k_) | ((with_reducible refine gC 77 rfl ?_); refine gP (some 20) Tryd.func77 #[pt gm, n] ?_; obtain ⟨N_, on_, nn_, rr_, bb_⟩ := O2.out.frame0; refine (MClient_ok (L := L) n on_ (rr_ 0 _ rfl) (Kd.N_F (rr_ 3 _ rfl)) HN.out HB.out HQI.out).mono ?_; rintro e_ w3 ⟨rfl, oo_, kk_⟩; obtain ⟨o_, k_⟩ := bb_ _ _ kk_ oo_; refine ⟨_, rfl, ?_⟩; obtain ⟨O3, K3⟩ := ok_ K2 o_ k_; have HT_3 := Am (TabN.keep HT_2.out k_); clear a0 a5 a8 a9 O2 K2 HT_2; have a0 := k8_ O3 0; have a5 := k5_ O3 5; have a8 := k10_ O3 8; have a9 := k6_ O3 9; clear o_ k_ oo_ kk_ on_ nn_ rr_ bb_) | ((with_reducible refine gC 79 rfl ?_); refine gP (some 32) Tryd.func79 #[pt gm, pt q.1, .agg #[key, uc, un, us]] ?_; obtain ⟨N_, on_, nn_, rr_, bb_⟩ := O3.out.frameL [5, 6] (by decide) (by simp); refine (MUpd_e E U2 key uc un us HE.out HU2.out on_ (rr_ 0 _ (by decide) rfl) (TabN.mono HT_3.out nn_) HLU.out).mono ?_; rintro e_ w4 ⟨A1, c1_, rfl, oo_, kk_⟩; obtain ⟨o_, k_⟩ := bb_ _ [cells q.1 #[x.e, .slice AJ x.J.length cJ, x.k, x.c, .slice A1 U2.length c1_] 127, nrow kU7 tU7 (.slice A1 U2.length c1_) U2] [] rfl kk_ oo_; refine ⟨_, rfl, ?_⟩; obtain ⟨O4, K4⟩ := ok_ K3 o_ k_; have HT_4 := Am (TabN.keep HT_3.out k_); clear a0 a5 a8 a9 O3 K3 HT_3; have a0 := k8_ O4 0; have a5 := k5_ O4 5; have a8 := k10_ O4 8; have a9 := k6_ O4 9; clear o_ k_ oo_ kk_ on_ nn_ rr_ bb_) | ((with_reducible refine gT 79 4 rfl ?_); refine wS 9 0 [E, .int .i64 0, .int .i64 0, .string ⟨#[]⟩, false, .int .i64 0] O4 ?_; intro w5 o_ k_; obtain ⟨O5, K5⟩ := ok_ K4 o_ k_; have HT_5 := Am (TabN.keep HT_4.out k_); clear a0 a5 a8 a9 O4 K4 HT_4; have a0 := k8_ O5 0; have a5 := k5_ O5 5; have a8 := k10_ O5 8; have a9 := k6_ O5 9; clear o_ k_))
 refine bodyPost_ret (results_cell_row rfl _ _ gr 79 #[E, .int .i64 0, .int .i64 0, .string ⟨#[]⟩, false, .int .i64 0] (0, 0) _ rfl (O5.out.blk (i := 9) rfl) Tryd.underlying79 rfl (by kernel_rfl)) rfl ?_
 exact ⟨rfl, ModO.backU (x' := { x with U := U2 }) HXX.out HQL.out HQI.out rfl (O5.out.pickL [0, 1, 2, 3, 4, 5, 6, 7] (by decide) (by simp)), K5.out⟩
theorem MPush_err (E : Int) {N : Nat → Prop} {w : World} {gm nc cL cC : Nat} {cf : MCf} {AL AC : Option Addr} {L : List Rnd7} {qs : List (Nat × RawR)} {q : Nat × RawR} {x : MCl} {AJ AU : Option Addr} {cJ cU : Nat} {rJ : RawR} (n : Int) (h : Own N w [cells q.1 #[x.e, .slice AJ x.J.length cJ, x.k, x.c, .slice AU x.U.length cU] 127, nrow kU7 tU7 (.slice AU x.U.length cU) x.U, nrow (Kd.raw 3) tR7 (.slice AJ x.J.length cJ) rJ]) (hm : CellN N w gm #[cf.cl, cf.win, cf.push, cf.pull, cf.mtu, cf.last, .slice AL L.length cL, .slice AC nc cC] 123) (hp : Kd.F (Kd.raw 1) w N AC nc (ptrs qs)) (hl : Kd.F kR7 w N AL L.length L) (hn : 1 ≤ n ∧ n ≤ nc) (hb : nc ≤ 64) (hq : qs[n.toNat - 1]? = some q) (hk : x.k ≤ L.length) (hL : L.length ≤ 1000000) (hcL : L.length ≤ cL) (ho : ownN n L x ≤ x.J.length) (hc : x.J.length ≤ cJ) (hLJ : x.J.length ≤ 1000000) (hrJ : rJ.length = x.J.length) (hE : mpushE n L x cf = E) (h0 : E ≠ 0) :
  Calls Tryd.prog 81 #[pt gm, n, pt q.1] w fun e_ w' => e_ = .returned (repV E 0) ∧ Own N w' [cells q.1 #[x.e, .slice AJ x.J.length cJ, x.k, x.c, .slice AU x.U.length cU] 127, nrow kU7 tU7 (.slice AU x.U.length cU) x.U, nrow (Kd.raw 3) tR7 (.slice AJ x.J.length cJ) rJ] ∧ KeepS N w w' := by
 subst hE
 exact (MPush n h hm hp hl hn hb hq hk hL hcL ho hc hLJ hrJ (Q := fun e_ w' => e_ = .returned (repV (mpushE n L x cf) 0) ∧ Own N w' [cells q.1 #[x.e, .slice AJ x.J.length cJ, x.k, x.c, .slice AU x.U.length cU] 127, nrow kU7 tU7 (.slice AU x.U.length cU) x.U, nrow (Kd.raw 3) tR7 (.slice AJ x.J.length cJ) rJ] ∧ KeepS N w w') (fun _ w' o k => ⟨rfl, o, k⟩) (fun q => absurd q h0)).mono fun _ _ q => q.1
theorem MPush_yes {N : Nat → Prop} {w : World} {gm nc cL cC : Nat} {cf : MCf} {AL AC : Option Addr} {L : List Rnd7} {qs : List (Nat × RawR)} {q : Nat × RawR} {x : MCl} {AJ AU : Option Addr} {cJ cU : Nat} {rJ : RawR} (n : Int) (h : Own N w [cells q.1 #[x.e, .slice AJ x.J.length cJ, x.k, x.c, .slice AU x.U.length cU] 127, nrow kU7 tU7 (.slice AU x.U.length cU) x.U, nrow (Kd.raw 3) tR7 (.slice AJ x.J.length cJ) rJ]) (hm : CellN N w gm #[cf.cl, cf.win, cf.push, cf.pull, cf.mtu, cf.last, .slice AL L.length cL, .slice AC nc cC] 123) (hp : Kd.F (Kd.raw 1) w N AC nc (ptrs qs)) (hl : Kd.F kR7 w N AL L.length L) (hn : 1 ≤ n ∧ n ≤ nc) (hb : nc ≤ 64) (hq : qs[n.toNat - 1]? = some q) (hk : x.k ≤ L.length) (hL : L.length ≤ 1000000) (hcL : L.length ≤ cL) (ho : ownN n L x ≤ x.J.length) (hc : x.J.length ≤ cJ) (hLJ : x.J.length ≤ 1000000) (hrJ : rJ.length = x.J.length) (h0 : mpushE n L x cf = 0) :
  Calls Tryd.prog 81 #[pt gm, n, pt q.1] w fun e_ w' => ∃ B2 b2, e_ = .returned (repV 0 ((x.J.length + 1 : Nat) : Int)) ∧ Own N w' [cells q.1 #[x.e, .slice B2 (x.J.length + 1) b2, x.k, x.c, .slice none 0 0] 127, nrow kU7 tU7 (.slice AU x.U.length cU) x.U, nrow (Kd.raw 3) tR7 (.slice B2 (x.J.length + 1) b2) (rJ ++ [rw3 n ((x.J.length : Int) + 1) (.slice AU x.U.length cU)])] ∧ KeepS N w w' := by
 exact (MPush n h hm hp hl hn hb hq hk hL hcL ho hc hLJ hrJ (Q := fun e_ w' => ∃ B2 b2, e_ = .returned (repV 0 ((x.J.length + 1 : Nat) : Int)) ∧ Own N w' [cells q.1 #[x.e, .slice B2 (x.J.length + 1) b2, x.k, x.c, .slice none 0 0] 127, nrow kU7 tU7 (.slice AU x.U.length cU) x.U, nrow (Kd.raw 3) tR7 (.slice B2 (x.J.length + 1) b2) (rJ ++ [rw3 n ((x.J.length : Int) + 1) (.slice AU x.U.length cU)])] ∧ KeepS N w w') (fun q => absurd h0 q) (fun _ w' B2 b2 o k => ⟨B2, b2, rfl, o, k⟩)).mono fun _ _ q => q.1
theorem MDo_3n {N : Nat → Prop} {w : World} {gm : Nat} {cf : MCf} {L : List Rnd7} {cls : List MCl} {x : MCl} (n : Int) (key : ByteArray) (uc un : Int) (us rk : ByteArray) (an ab am : Int) (h : Own N w [ModO gm cf L cls]) (hn : 1 ≤ n ∧ n ≤ cls.length) (hb : cls.length ≤ 64) (hx : cls[n.toNat - 1]? = some x) (hk : x.k ≤ L.length) (hL : L.length ≤ 1000000) (ho : ownN n L x ≤ x.J.length) (hLJ : x.J.length ≤ 1000000) (h0 : mpushE n L x cf ≠ 0) :
  Calls Tryd.prog 42 #[pt gm, .agg #[.int .i64 3, n, key, uc, un, us, rk, an, ab, .int .u32 am]] w fun e_ w' => e_ = .returned (repM (rep0 (mpushE n L x cf))) ∧ Own N w' [ModO gm cf L cls] ∧ KeepS N w w' := by
 obtain ⟨E, hE⟩ : ∃ E, mpushE n L x cf = E := ⟨_, rfl⟩
 rw [hE] at h0 ⊢
 have HE := Am hE
 have H0 := Am h0
 have HKL := Am hk
 have HLL := Am hL
 have HOW := Am ho
 have HLJ := Am hLJ
 obtain ⟨AL, cL, AC, cC, rL, qs, q, AJ, cJ, AU, cU, ⟨hq, hrl, hqj⟩, hqi, h2⟩ := ModO.at h hx
 have HN := Am hn
 have HB := Am hb
 have HQI := Am hqi
 have HXX := Am hx
 have HQL := Am hq
 have HRL := Am hrl
 have HQJ := Am hqj
 have HCC := Am (show L.length ≤ cL ∧ x.J.length ≤ cJ ∧ x.U.length ≤ cU from ⟨(h2.nreads (i := 4) rfl).2.1, (h2.nreads (i := 7) rfl).2.1, (h2.nreads (i := 6) rfl).2.1⟩)
 have O0 : Aside0 (Own N w [cells gm #[cf.cl, cf.win, cf.push, cf.pull, cf.mtu, cf.last, .slice AL L.length cL, .slice AC cls.length cC] 123, poolI rL L qs cls, bigs ((clsI qs cls).set (n.toNat - 1) emp), nrow (Kd.raw 1) tMP (.slice AC cls.length cC) (ptrs qs), nrow (Kd.raw 3) tR7 (.slice AL L.length cL) rL, cells q.1 #[x.e, .slice AJ x.J.length cJ, x.k, x.c, .slice AU x.U.length cU] 127, nrow kU7 tU7 (.slice AU x.U.length cU) x.U, nrow (Kd.raw 3) tR7 (.slice AJ x.J.length cJ) q.2]) := ⟨h2⟩
 have K0 : Aside0 (KeepS N w w) := ⟨KeepS.refl _ _⟩
 have a0 := k8_ O0 0
 have a5 := k5_ O0 5
 clear h h2 hx hn hb hq hrl hqj hqi h0 hk hL ho hLJ hE
 go_enter Tryd.func42, Tryd.ntmps42
 go_wp2_with (first | ((with_reducible refine gD 3 rfl ?_); refine bP 3 #[.int .i64 3, n, key, uc, un, us, rk, an, ab, .int .u32 am] 83 O0.out ?_; intro ga w1 o_ k_; obtain ⟨O1, K1⟩ := ok_ K0 o_ k_; clear a0 a5 O0 K0; have a0 := k8_ O1 0; have a5 := k5_ O1 5; have a8 := k10_ O1 8; clear o_ k_) | ((with_reducible refine gD 4 rfl ?_); refine bP 4 #[.int .i64 0, .int .i64 0, .int .i64 0, .string ⟨#[]⟩, false, .int .i64 0] 79 O1.out ?_; intro gr w2 o_ k_; obtain ⟨O2, K2⟩ := ok_ K1 o_ k_; clear a0 a5 a8 O1 K1; have a0 := k8_ O2 0; have a5 := k5_ O2 5; have a8 := k10_ O2 8; have a9 := k6_ O2 9; clear o_ k_) | ((with_reducible refine gC 77 rfl ?_); refine gP (some 20) Tryd.func77 #[pt gm, n] ?_; obtain ⟨N_, on_, nn_, rr_, bb_⟩ := O2.out.frame0; refine (MClient_ok (L := L) n on_ (rr_ 0 _ rfl) (Kd.N_F (rr_ 3 _ rfl)) HN.out HB.out HQI.out).mono ?_; rintro e_ w3 ⟨rfl, oo_, kk_⟩; obtain ⟨o_, k_⟩ := bb_ _ _ kk_ oo_; refine ⟨_, rfl, ?_⟩; obtain ⟨O3, K3⟩ := ok_ K2 o_ k_; clear a0 a5 a8 a9 O2 K2; have a0 := k8_ O3 0; have a5 := k5_ O3 5; have a8 := k10_ O3 8; have a9 := k6_ O3 9; clear o_ k_ oo_ kk_ on_ nn_ rr_ bb_) | ((with_reducible refine gC 81 rfl ?_); refine gP (some 61) Tryd.func81 #[pt gm, n, pt q.1] ?_; obtain ⟨N_, on_, nn_, rr_, bb_⟩ := O3.out.frameL [5, 6, 7] (by decide) (by simp); refine (MPush_err E n on_ (rr_ 0 _ (by decide) rfl) (Kd.N_F (rr_ 3 _ (by decide) rfl)) (leadF (rr_ 4 _ (by decide) rfl) (pool_get (rr_ 1 _ (by decide) rfl) List.mem_cons_self) HRL.out.symm) HN.out HB.out HQI.out HKL.out HLL.out HCC.out.1 HOW.out HCC.out.2.1 HLJ.out HQJ.out HE.out H0.out).mono ?_; rintro e_ w4 ⟨rfl, oo_, kk_⟩; obtain ⟨o_, k_⟩ := bb_ _ [cells q.1 #[x.e, .slice AJ x.J.length cJ, x.k, x.c, .slice AU x.U.length cU] 127, nrow kU7 tU7 (.slice AU x.U.length cU) x.U, nrow (Kd.raw 3) tR7 (.slice AJ x.J.length cJ) q.2] [] rfl kk_ oo_; refine ⟨_, rfl, ?_⟩; obtain ⟨O4, K4⟩ := ok_ K3 o_ k_; clear a0 a5 a8 a9 O3 K3; have a0 := k8_ O4 0; have a5 := k5_ O4 5; have a8 := k10_ O4 8; have a9 := k6_ O4 9; clear o_ k_ oo_ kk_ on_ nn_ rr_ bb_) | ((with_reducible refine gT 79 4 rfl ?_); refine wS 9 0 [E, .int .i64 0, .int .i64 0, .string ⟨#[]⟩, false, .int .i64 0] O4 ?_; intro w5 o_ k_; obtain ⟨O5, K5⟩ := ok_ K4 o_ k_; clear a0 a5 a8 a9 O4 K4; have a0 := k8_ O5 0; have a5 := k5_ O5 5; have a8 := k10_ O5 8; have a9 := k6_ O5 9; clear o_ k_))
 refine bodyPost_ret (results_cell_row rfl _ _ gr 79 #[E, .int .i64 0, .int .i64 0, .string ⟨#[]⟩, false, .int .i64 0] (0, 0) _ rfl (O5.out.blk (i := 9) rfl) Tryd.underlying79 rfl (by kernel_rfl)) rfl ?_
 exact ⟨rfl, by have hz := ModO.backU (x' := x) HXX.out HQL.out HQI.out rfl (O5.out.pickL [0, 1, 2, 3, 4, 5, 6, 7] (by decide) (by simp)); rw [set_same HXX.out] at hz; exact hz, K5.out⟩
theorem MDo_3y {N : Nat → Prop} {w : World} {gm : Nat} {cf : MCf} {L : List Rnd7} {cls : List MCl} {x : MCl} (n : Int) (key : ByteArray) (uc un : Int) (us rk : ByteArray) (an ab am : Int) (h : Own N w [ModO gm cf L cls]) (hn : 1 ≤ n ∧ n ≤ cls.length) (hb : cls.length ≤ 64) (hx : cls[n.toNat - 1]? = some x) (hk : x.k ≤ L.length) (hL : L.length ≤ 1000000) (ho : ownN n L x ≤ x.J.length) (hLJ : x.J.length ≤ 1000000) (h0 : mpushE n L x cf = 0) :
  Calls Tryd.prog 42 #[pt gm, .agg #[.int .i64 3, n, key, uc, un, us, rk, an, ab, .int .u32 am]] w fun e_ w' => e_ = .returned (repM (repN ((x.J.length + 1 : Nat) : Int))) ∧ Own N w' [ModO gm cf L (cls.set (n.toNat - 1) { x with J := x.J ++ [⟨n, (x.J.length : Int) + 1, x.U⟩], U := [] })] ∧ KeepS N w w' := by
 have H0 := Am h0
 have HKL := Am hk
 have HLL := Am hL
 have HOW := Am ho
 have HLJ := Am hLJ
 obtain ⟨AL, cL, AC, cC, rL, qs, q, AJ, cJ, AU, cU, ⟨hq, hrl, hqj⟩, hqi, h2⟩ := ModO.at h hx
 have HN := Am hn
 have HB := Am hb
 have HQI := Am hqi
 have HXX := Am hx
 have HQL := Am hq
 have HRL := Am hrl
 have HQJ := Am hqj
 have HCC := Am (show L.length ≤ cL ∧ x.J.length ≤ cJ ∧ x.U.length ≤ cU from ⟨(h2.nreads (i := 4) rfl).2.1, (h2.nreads (i := 7) rfl).2.1, (h2.nreads (i := 6) rfl).2.1⟩)
 have O0 : Aside0 (Own N w [cells gm #[cf.cl, cf.win, cf.push, cf.pull, cf.mtu, cf.last, .slice AL L.length cL, .slice AC cls.length cC] 123, poolI rL L qs cls, bigs ((clsI qs cls).set (n.toNat - 1) emp), nrow (Kd.raw 1) tMP (.slice AC cls.length cC) (ptrs qs), nrow (Kd.raw 3) tR7 (.slice AL L.length cL) rL, cells q.1 #[x.e, .slice AJ x.J.length cJ, x.k, x.c, .slice AU x.U.length cU] 127, nrow kU7 tU7 (.slice AU x.U.length cU) x.U, nrow (Kd.raw 3) tR7 (.slice AJ x.J.length cJ) q.2]) := ⟨h2⟩
 have K0 : Aside0 (KeepS N w w) := ⟨KeepS.refl _ _⟩
 have a0 := k8_ O0 0
 have a5 := k5_ O0 5
 clear h h2 hx hn hb hq hrl hqj hqi h0 hk hL ho hLJ
 go_enter Tryd.func42, Tryd.ntmps42
 go_wp2_with (first | ((with_reducible refine gD 3 rfl ?_); refine bP 3 #[.int .i64 3, n, key, uc, un, us, rk, an, ab, .int .u32 am] 83 O0.out ?_; intro ga w1 o_ k_; obtain ⟨O1, K1⟩ := ok_ K0 o_ k_; clear a0 a5 O0 K0; have a0 := k8_ O1 0; have a5 := k5_ O1 5; have a8 := k10_ O1 8; clear o_ k_) | ((with_reducible refine gD 4 rfl ?_); refine bP 4 #[.int .i64 0, .int .i64 0, .int .i64 0, .string ⟨#[]⟩, false, .int .i64 0] 79 O1.out ?_; intro gr w2 o_ k_; obtain ⟨O2, K2⟩ := ok_ K1 o_ k_; clear a0 a5 a8 O1 K1; have a0 := k8_ O2 0; have a5 := k5_ O2 5; have a8 := k10_ O2 8; have a9 := k6_ O2 9; clear o_ k_) | ((with_reducible refine gC 77 rfl ?_); refine gP (some 20) Tryd.func77 #[pt gm, n] ?_; obtain ⟨N_, on_, nn_, rr_, bb_⟩ := O2.out.frame0; refine (MClient_ok (L := L) n on_ (rr_ 0 _ rfl) (Kd.N_F (rr_ 3 _ rfl)) HN.out HB.out HQI.out).mono ?_; rintro e_ w3 ⟨rfl, oo_, kk_⟩; obtain ⟨o_, k_⟩ := bb_ _ _ kk_ oo_; refine ⟨_, rfl, ?_⟩; obtain ⟨O3, K3⟩ := ok_ K2 o_ k_; clear a0 a5 a8 a9 O2 K2; have a0 := k8_ O3 0; have a5 := k5_ O3 5; have a8 := k10_ O3 8; have a9 := k6_ O3 9; clear o_ k_ oo_ kk_ on_ nn_ rr_ bb_) | ((with_reducible refine gC 81 rfl ?_); refine gP (some 61) Tryd.func81 #[pt gm, n, pt q.1] ?_; obtain ⟨N_, on_, nn_, rr_, bb_⟩ := O3.out.frameL [5, 6, 7] (by decide) (by simp); refine (MPush_yes n on_ (rr_ 0 _ (by decide) rfl) (Kd.N_F (rr_ 3 _ (by decide) rfl)) (leadF (rr_ 4 _ (by decide) rfl) (pool_get (rr_ 1 _ (by decide) rfl) List.mem_cons_self) HRL.out.symm) HN.out HB.out HQI.out HKL.out HLL.out HCC.out.1 HOW.out HCC.out.2.1 HLJ.out HQJ.out H0.out).mono ?_; rintro e_ w4 ⟨B2, b2, rfl, oo_, kk_⟩; obtain ⟨o_, k_⟩ := bb_ _ [cells q.1 #[x.e, .slice B2 (x.J.length + 1) b2, x.k, x.c, .slice none 0 0] 127, nrow kU7 tU7 (.slice AU x.U.length cU) x.U, nrow (Kd.raw 3) tR7 (.slice B2 (x.J.length + 1) b2) (q.2 ++ [rw3 n ((x.J.length : Int) + 1) (.slice AU x.U.length cU)])] [] rfl kk_ oo_; refine ⟨_, rfl, ?_⟩; obtain ⟨O4, K4⟩ := ok_ K3 o_ k_; clear a0 a5 a8 a9 O3 K3; have a0 := k8_ O4 0; have a5 := k5_ O4 5; have a8 := k10_ O4 8; have a9 := k6_ O4 9; clear o_ k_ oo_ kk_ on_ nn_ rr_ bb_) | ((with_reducible refine gT 79 4 rfl ?_); refine wS 9 0 [.int .i64 0, .int .i64 0, .int .i64 0, .string ⟨#[]⟩, false, ((x.J.length + 1 : Nat) : Int)] O4 ?_; intro w5 o_ k_; obtain ⟨O5, K5⟩ := ok_ K4 o_ k_; clear a0 a5 a8 a9 O4 K4; have a0 := k8_ O5 0; have a5 := k5_ O5 5; have a8 := k10_ O5 8; have a9 := k6_ O5 9; clear o_ k_))
 refine bodyPost_ret (results_cell_row rfl _ _ gr 79 #[.int .i64 0, .int .i64 0, .int .i64 0, .string ⟨#[]⟩, false, ((x.J.length + 1 : Nat) : Int)] (0, 0) _ rfl (O5.out.blk (i := 9) rfl) Tryd.underlying79 rfl (by kernel_rfl)) rfl ?_
 exact ⟨rfl, ModO.backP (n := n) (m := (x.J.length : Int) + 1) (x' := { x with J := x.J ++ [⟨n, (x.J.length : Int) + 1, x.U⟩], U := [] }) HXX.out HQL.out HQI.out rfl rfl HCC.out.2.2 (O5.out.pickL [0, 1, 2, 3, 4, 5, 6, 7] (by decide) (by simp)), K5.out⟩
theorem MDo_4 {N : Nat → Prop} {w : World} {gm : Nat} {cf : MCf} {L : List Rnd7} {cls : List MCl} {x : MCl} (n : Int) (key : ByteArray) (uc un : Int) (us rk : ByteArray) (an ab am : Int) (h : Own N w [ModO gm cf L cls]) (hn : 1 ≤ n ∧ n ≤ cls.length) (hb : cls.length ≤ 64) (hx : cls[n.toNat - 1]? = some x) (hkc : x.k + x.c ≤ 1000000) :
  Calls Tryd.prog 42 #[pt gm, .agg #[.int .i64 4, n, key, uc, un, us, rk, an, ab, .int .u32 am]] w fun e_ w' => e_ = .returned (repM (repN x.c)) ∧ Own N w' [ModO gm cf L (cls.set (n.toNat - 1) { x with k := x.k + x.c, c := 0 })] ∧ KeepS N w w' := by
 have hs2 : wrap64 ((x.k : Int) + (x.c : Int)) = ((x.k + x.c : Nat) : Int) := by unfold wrap64; omega
 obtain ⟨AL, cL, AC, cC, rL, qs, q, AJ, cJ, AU, cU, ⟨hq, hrl, hqj⟩, hqi, h2⟩ := ModO.at h hx
 have HN := Am hn
 have HB := Am hb
 have HQI := Am hqi
 have HXX := Am hx
 have HQL := Am hq
 have HRL := Am hrl
 have HQJ := Am hqj
 have O0 : Aside0 (Own N w [cells gm #[cf.cl, cf.win, cf.push, cf.pull, cf.mtu, cf.last, .slice AL L.length cL, .slice AC cls.length cC] 123, poolI rL L qs cls, bigs ((clsI qs cls).set (n.toNat - 1) emp), nrow (Kd.raw 1) tMP (.slice AC cls.length cC) (ptrs qs), nrow (Kd.raw 3) tR7 (.slice AL L.length cL) rL, cells q.1 #[x.e, .slice AJ x.J.length cJ, x.k, x.c, .slice AU x.U.length cU] 127, nrow kU7 tU7 (.slice AU x.U.length cU) x.U, nrow (Kd.raw 3) tR7 (.slice AJ x.J.length cJ) q.2]) := ⟨h2⟩
 have K0 : Aside0 (KeepS N w w) := ⟨KeepS.refl _ _⟩
 have a0 := k8_ O0 0
 have a5 := k5_ O0 5
 clear h h2 hx hn hb hq hrl hqj hqi hkc
 go_enter Tryd.func42, Tryd.ntmps42
 go_wp2_with (first | ((with_reducible refine gD 3 rfl ?_); refine bP 3 #[.int .i64 4, n, key, uc, un, us, rk, an, ab, .int .u32 am] 83 O0.out ?_; intro ga w1 o_ k_; obtain ⟨O1, K1⟩ := ok_ K0 o_ k_; clear a0 a5 O0 K0; have a0 := k8_ O1 0; have a5 := k5_ O1 5; have a8 := k10_ O1 8; clear o_ k_) | ((with_reducible refine gD 4 rfl ?_); refine bP 4 #[.int .i64 0, .int .i64 0, .int .i64 0, .string ⟨#[]⟩, false, .int .i64 0] 79 O1.out ?_; intro gr w2 o_ k_; obtain ⟨O2, K2⟩ := ok_ K1 o_ k_; clear a0 a5 a8 O1 K1; have a0 := k8_ O2 0; have a5 := k5_ O2 5; have a8 := k10_ O2 8; have a9 := k6_ O2 9; clear o_ k_) | ((with_reducible refine gC 77 rfl ?_); refine gP (some 20) Tryd.func77 #[pt gm, n] ?_; obtain ⟨N_, on_, nn_, rr_, bb_⟩ := O2.out.frame0; refine (MClient_ok (L := L) n on_ (rr_ 0 _ rfl) (Kd.N_F (rr_ 3 _ rfl)) HN.out HB.out HQI.out).mono ?_; rintro e_ w3 ⟨rfl, oo_, kk_⟩; obtain ⟨o_, k_⟩ := bb_ _ _ kk_ oo_; refine ⟨_, rfl, ?_⟩; obtain ⟨O3, K3⟩ := ok_ K2 o_ k_; clear a0 a5 a8 a9 O2 K2; have a0 := k8_ O3 0; have a5 := k5_ O3 5; have a8 := k10_ O3 8; have a9 := k6_ O3 9; clear o_ k_ oo_ kk_ on_ nn_ rr_ bb_) | ((with_reducible refine gT 3 77 rfl ?_); refine wS 5 2 [((x.k + x.c : Nat) : Int)] O3 ?_; intro w4 o_ k_; obtain ⟨O4, K4⟩ := ok_ K3 o_ k_; clear a0 a5 a8 a9 O3 K3; have a0 := k8_ O4 0; have a5 := k5_ O4 5; have a8 := k10_ O4 8; have a9 := k6_ O4 9; clear o_ k_) | ((with_reducible refine gT 3 79 rfl ?_); refine wS 5 3 [.int .i64 0] O4 ?_; intro w5 o_ k_; obtain ⟨O5, K5⟩ := ok_ K4 o_ k_; clear a0 a5 a8 a9 O4 K4; have a0 := k8_ O5 0; have a5 := k5_ O5 5; have a8 := k10_ O5 8; have a9 := k6_ O5 9; clear o_ k_) | ((with_reducible refine gT 79 4 rfl ?_); refine wS 9 0 [.int .i64 0, .int .i64 0, .int .i64 0, .string ⟨#[]⟩, false, x.c] O5 ?_; intro w6 o_ k_; obtain ⟨O6, K6⟩ := ok_ K5 o_ k_; clear a0 a5 a8 a9 O5 K5; have a0 := k8_ O6 0; have a5 := k5_ O6 5; have a8 := k10_ O6 8; have a9 := k6_ O6 9; clear o_ k_))
 refine bodyPost_ret (results_cell_row rfl _ _ gr 79 #[.int .i64 0, .int .i64 0, .int .i64 0, .string ⟨#[]⟩, false, x.c] (0, 0) _ rfl (O6.out.blk (i := 9) rfl) Tryd.underlying79 rfl (by kernel_rfl)) rfl ?_
 exact ⟨rfl, ModO.backU (x' := { x with k := x.k + x.c, c := 0 }) HXX.out HQL.out HQI.out rfl (O6.out.pickL [0, 1, 2, 3, 4, 5, 6, 7] (by decide) (by simp)), K6.out⟩
theorem MDo_6n {N : Nat → Prop} {w : World} {gm : Nat} {cf : MCf} {L : List Rnd7} {cls : List MCl} {x : MCl} (n : Int) (key : ByteArray) (uc un : Int) (us rk : ByteArray) (an ab am : Int) (h : Own N w [ModO gm cf L cls]) (hn : 1 ≤ n ∧ n ≤ cls.length) (hb : cls.length ≤ 64) (hx : cls[n.toNat - 1]? = some x) (hlo : 0 ≤ x.e ∧ x.e ≤ 1099511627776) (h1 : x.e ≥ cf.last) :
  Calls Tryd.prog 42 #[pt gm, .agg #[.int .i64 6, n, key, uc, un, us, rk, an, ab, .int .u32 am]] w fun e_ w' => e_ = .returned (repM (rep0 8)) ∧ Own N w' [ModO gm cf L cls] ∧ KeepS N w w' := by
 have HLO := Am hlo
 have H1 := Am h1
 obtain ⟨AL, cL, AC, cC, rL, qs, q, AJ, cJ, AU, cU, ⟨hq, hrl, hqj⟩, hqi, h2⟩ := ModO.at h hx
 have HN := Am hn
 have HB := Am hb
 have HQI := Am hqi
 have HXX := Am hx
 have HQL := Am hq
 have HRL := Am hrl
 have HQJ := Am hqj
 have O0 : Aside0 (Own N w [cells gm #[cf.cl, cf.win, cf.push, cf.pull, cf.mtu, cf.last, .slice AL L.length cL, .slice AC cls.length cC] 123, poolI rL L qs cls, bigs ((clsI qs cls).set (n.toNat - 1) emp), nrow (Kd.raw 1) tMP (.slice AC cls.length cC) (ptrs qs), nrow (Kd.raw 3) tR7 (.slice AL L.length cL) rL, cells q.1 #[x.e, .slice AJ x.J.length cJ, x.k, x.c, .slice AU x.U.length cU] 127, nrow kU7 tU7 (.slice AU x.U.length cU) x.U, nrow (Kd.raw 3) tR7 (.slice AJ x.J.length cJ) q.2]) := ⟨h2⟩
 have K0 : Aside0 (KeepS N w w) := ⟨KeepS.refl _ _⟩
 have a0 := k8_ O0 0
 have a5 := k5_ O0 5
 clear h h2 hx hn hb hq hrl hqj hqi hlo h1
 go_enter Tryd.func42, Tryd.ntmps42
 go_wp2_with (first | ((with_reducible refine gD 3 rfl ?_); refine bP 3 #[.int .i64 6, n, key, uc, un, us, rk, an, ab, .int .u32 am] 83 O0.out ?_; intro ga w1 o_ k_; obtain ⟨O1, K1⟩ := ok_ K0 o_ k_; clear a0 a5 O0 K0; have a0 := k8_ O1 0; have a5 := k5_ O1 5; have a8 := k10_ O1 8; clear o_ k_) | ((with_reducible refine gD 4 rfl ?_); refine bP 4 #[.int .i64 0, .int .i64 0, .int .i64 0, .string ⟨#[]⟩, false, .int .i64 0] 79 O1.out ?_; intro gr w2 o_ k_; obtain ⟨O2, K2⟩ := ok_ K1 o_ k_; clear a0 a5 a8 O1 K1; have a0 := k8_ O2 0; have a5 := k5_ O2 5; have a8 := k10_ O2 8; have a9 := k6_ O2 9; clear o_ k_) | ((with_reducible refine gC 77 rfl ?_); refine gP (some 20) Tryd.func77 #[pt gm, n] ?_; obtain ⟨N_, on_, nn_, rr_, bb_⟩ := O2.out.frame0; refine (MClient_ok (L := L) n on_ (rr_ 0 _ rfl) (Kd.N_F (rr_ 3 _ rfl)) HN.out HB.out HQI.out).mono ?_; rintro e_ w3 ⟨rfl, oo_, kk_⟩; obtain ⟨o_, k_⟩ := bb_ _ _ kk_ oo_; refine ⟨_, rfl, ?_⟩; obtain ⟨O3, K3⟩ := ok_ K2 o_ k_; clear a0 a5 a8 a9 O2 K2; have a0 := k8_ O3 0; have a5 := k5_ O3 5; have a8 := k10_ O3 8; have a9 := k6_ O3 9; clear o_ k_ oo_ kk_ on_ nn_ rr_ bb_) | ((with_reducible refine gC 82 rfl ?_); refine gP (some 101) Tryd.func82 #[pt gm, pt q.1] ?_; obtain ⟨N_, on_, nn_, rr_, bb_⟩ := O3.out.frameL [5] (by decide) (by simp); refine (MReset_no on_ (rr_ 0 _ (by decide) rfl) HLO.out H1.out).mono ?_; rintro e_ w4 ⟨rfl, oo_, kk_⟩; obtain ⟨o_, k_⟩ := bb_ _ [cells q.1 #[x.e, .slice AJ x.J.length cJ, x.k, x.c, .slice AU x.U.length cU] 127] [] rfl kk_ oo_; refine ⟨_, rfl, ?_⟩; obtain ⟨O4, K4⟩ := ok_ K3 o_ k_; clear a0 a5 a8 a9 O3 K3; have a0 := k8_ O4 0; have a5 := k5_ O4 5; have a8 := k10_ O4 8; have a9 := k6_ O4 9; clear o_ k_ oo_ kk_ on_ nn_ rr_ bb_) | ((with_reducible refine gT 79 4 rfl ?_); refine wS 9 0 [.int .i64 8, .int .i64 0, .int .i64 0, .string ⟨#[]⟩, false, .int .i64 0] O4 ?_; intro w5 o_ k_; obtain ⟨O5, K5⟩ := ok_ K4 o_ k_; clear a0 a5 a8 a9 O4 K4; have a0 := k8_ O5 0; have a5 := k5_ O5 5; have a8 := k10_ O5 8; have a9 := k6_ O5 9; clear o_ k_))
 refine bodyPost_ret (results_cell_row rfl _ _ gr 79 #[.int .i64 8, .int .i64 0, .int .i64 0, .string ⟨#[]⟩, false, .int .i64 0] (0, 0) _ rfl (O5.out.blk (i := 9) rfl) Tryd.underlying79 rfl (by kernel_rfl)) rfl ?_
 exact ⟨rfl, by have hz := ModO.backU (x' := x) HXX.out HQL.out HQI.out rfl (O5.out.pickL [0, 1, 2, 3, 4, 5, 6, 7] (by decide) (by simp)); rw [set_same HXX.out] at hz; exact hz, K5.out⟩
theorem MDo_6y {N : Nat → Prop} {w : World} {gm : Nat} {cf : MCf} {L : List Rnd7} {cls : List MCl} {x : MCl} (n : Int) (key : ByteArray) (uc un : Int) (us rk : ByteArray) (an ab am : Int) (h : Own N w [ModO gm cf L cls]) (hn : 1 ≤ n ∧ n ≤ cls.length) (hb : cls.length ≤ 64) (hx : cls[n.toNat - 1]? = some x) (hlo : 0 ≤ x.e ∧ x.e ≤ 1099511627776) (h1 : ¬ x.e ≥ cf.last) :
  Calls Tryd.prog 42 #[pt gm, .agg #[.int .i64 6, n, key, uc, un, us, rk, an, ab, .int .u32 am]] w fun e_ w' => e_ = .returned (repM (rep0 0)) ∧ Own N w' [ModO gm cf L (cls.set (n.toNat - 1) ⟨x.e + 1, x.J, 0, 0, []⟩)] ∧ KeepS N w w' := by
 have HLO := Am hlo
 have H1 := Am h1
 obtain ⟨AL, cL, AC, cC, rL, qs, q, AJ, cJ, AU, cU, ⟨hq, hrl, hqj⟩, hqi, h2⟩ := ModO.at h hx
 have HN := Am hn
 have HB := Am hb
 have HQI := Am hqi
 have HXX := Am hx
 have HQL := Am hq
 have HRL := Am hrl
 have HQJ := Am hqj
 have O0 : Aside0 (Own N w [cells gm #[cf.cl, cf.win, cf.push, cf.pull, cf.mtu, cf.last, .slice AL L.length cL, .slice AC cls.length cC] 123, poolI rL L qs cls, bigs ((clsI qs cls).set (n.toNat - 1) emp), nrow (Kd.raw 1) tMP (.slice AC cls.length cC) (ptrs qs), nrow (Kd.raw 3) tR7 (.slice AL L.length cL) rL, cells q.1 #[x.e, .slice AJ x.J.length cJ, x.k, x.c, .slice AU x.U.length cU] 127, nrow kU7 tU7 (.slice AU x.U.length cU) x.U, nrow (Kd.raw 3) tR7 (.slice AJ x.J.length cJ) q.2]) := ⟨h2⟩
 have K0 : Aside0 (KeepS N w w) := ⟨KeepS.refl _ _⟩
 have a0 := k8_ O0 0
 have a5 := k5_ O0 5
 clear h h2 hx hn hb hq hrl hqj hqi hlo h1
 go_enter Tryd.func42, Tryd.ntmps42
 go_wp2_with (first | ((with_reducible refine gD 3 rfl ?_); refine bP 3 #[.int .i64 6, n, key, uc, un, us, rk, an, ab, .int .u32 am] 83 O0.out ?_; intro ga w1 o_ k_; obtain ⟨O1, K1⟩ := ok_ K0 o_ k_; clear a0 a5 O0 K0; have a0 := k8_ O1 0; have a5 := k5_ O1 5; have a8 := k10_ O1 8; clear o_ k_) | ((with_reducible refine gD 4 rfl ?_); refine bP 4 #[.int .i64 0, .int .i64 0, .int .i64 0, .string ⟨#[]⟩, false, .int .i64 0] 79 O1.out ?_; intro gr w2 o_ k_; obtain ⟨O2, K2⟩ := ok_ K1 o_ k_; clear a0 a5 a8 O1 K1; have a0 := k8_ O2 0; have a5 := k5_ O2 5; have a8 := k10_ O2 8; have a9 := k6_ O2 9; clear o_ k_) | ((with_reducible refine gC 77 rfl ?_); refine gP (some 20) Tryd.func77 #[pt gm, n] ?_; obtain ⟨N_, on_, nn_, rr_, bb_⟩ := O2.out.frame0; refine (MClient_ok (L := L) n on_ (rr_ 0 _ rfl) (Kd.N_F (rr_ 3 _ rfl)) HN.out HB.out HQI.out).mono ?_; rintro e_ w3 ⟨rfl, oo_, kk_⟩; obtain ⟨o_, k_⟩ := bb_ _ _ kk_ oo_; refine ⟨_, rfl, ?_⟩; obtain ⟨O3, K3⟩ := ok_ K2 o_ k_; clear a0 a5 a8 a9 O2 K2; have a0 := k8_ O3 0; have a5 := k5_ O3 5; have a8 := k10_ O3 8; have a9 := k6_ O3 9; clear o_ k_ oo_ kk_ on_ nn_ rr_ bb_) | ((with_reducible refine gC 82 rfl ?_); refine gP (some 101) Tryd.func82 #[pt gm, pt q.1] ?_; obtain ⟨N_, on_, nn_, rr_, bb_⟩ := O3.out.frameL [5] (by decide) (by simp); refine (MReset_ok on_ (rr_ 0 _ (by decide) rfl) HLO.out H1.out).mono ?_; rintro e_ w4 ⟨rfl, oo_, kk_⟩; obtain ⟨o_, k_⟩ := bb_ _ [cells q.1 #[.int .i64 (x.e + 1), .slice AJ x.J.length cJ, .int .i64 0, .int .i64 0, .slice none 0 0] 127] [] rfl kk_ oo_; refine ⟨_, rfl, ?_⟩; obtain ⟨O4, K4⟩ := ok_ K3 o_ k_; clear a0 a5 a8 a9 O3 K3; have a0 := k8_ O4 0; have a5 := k5_ O4 5; have a8 := k10_ O4 8; have a9 := k6_ O4 9; clear o_ k_ oo_ kk_ on_ nn_ rr_ bb_) | ((with_reducible refine gT 79 4 rfl ?_); refine wS 9 0 [.int .i64 0, .int .i64 0, .int .i64 0, .string ⟨#[]⟩, false, .int .i64 0] O4 ?_; intro w5 o_ k_; obtain ⟨O5, K5⟩ := ok_ K4 o_ k_; clear a0 a5 a8 a9 O4 K4; have a0 := k8_ O5 0; have a5 := k5_ O5 5; have a8 := k10_ O5 8; have a9 := k6_ O5 9; clear o_ k_))
 refine bodyPost_ret (results_cell_row rfl _ _ gr 79 #[.int .i64 0, .int .i64 0, .int .i64 0, .string ⟨#[]⟩, false, .int .i64 0] (0, 0) _ rfl (O5.out.blk (i := 9) rfl) Tryd.underlying79 rfl (by kernel_rfl)) rfl ?_
 exact ⟨rfl, ModO.backU (x' := ⟨x.e + 1, x.J, 0, 0, []⟩) HXX.out HQL.out HQI.out rfl ((O5.out.push_emp (nrow kU7 tU7 (.slice none 0 0) []) (fun w => Kd.N_nil _ _ _ _ _)).pickL [0, 1, 2, 3, 4, 5, 10, 7] (by decide) (by simp)), K5.out⟩
theorem clAt_set {cls : List MCl} {n : Int} {x : MCl} (y : MCl) (h : clAt cls n = some x) (m : Int) : clAt (cls.set (n.toNat - 1) y) m = if m = n then some y else clAt cls m := by
 obtain ⟨⟨h1, h2⟩, hx⟩ := clAt_some h
 unfold clAt
 by_cases hm : 1 ≤ m
 ·rw [if_pos hm, if_pos hm, List.getElem?_set]
  by_cases e : m = n
  ·subst e
   rw [if_pos rfl, if_pos rfl, if_pos (by omega)]
  ·rw [if_neg e, if_neg (by omega)]
 ·rw [if_neg hm, if_neg hm, if_neg (by omega)]
theorem clAt_len {cls : List MCl} {n : Int} {x : MCl} (h : clAt cls n = some x) : 1 ≤ n ∧ n ≤ cls.length := (clAt_some h).1
structure ClOk (cf : MCf) (L : List Rnd7) (x : Nat) (n : Int) (y : MCl) : Prop where
 e : 1 ≤ y.e ∧ y.e ≤ 1 + x
 j : y.J.length ≤ x
 u : y.U.length ≤ x
 f : Few x y.J
 a : ∀ (k : Nat) (r : Rnd7), y.J[k]? = some r → r.f0 = n ∧ r.f1 = (k : Int) + 1
 p : ownR n L <+: y.J
 k : y.k + y.c ≤ L.length
 c : (y.c : Int) ≤ cf.pull
structure MInv (cf : MCf) (x : Nat) (L : List Rnd7) (cls : List MCl) : Prop where
 n : (cls.length : Int) = cf.cl
 l : L.length ≤ x
 f : Few x L
 o : ∀ r ∈ L, 1 ≤ r.f0 ∧ r.f0 ≤ cls.length
 m : ∀ (k : Nat) (r : Rnd7), L[k]? = some r → r.f1 = ((ownR r.f0 (L.take k)).length : Int) + 1
 c : ∀ (n : Int) (y : MCl), clAt cls n = some y → ClOk cf L x n y
structure CfOk (cf : MCf) : Prop where
 cl : 1 ≤ cf.cl ∧ cf.cl ≤ 4
 push : 1 ≤ cf.push
 pull : 1 ≤ cf.pull
 last : 1 ≤ cf.last ∧ cf.last ≤ 1099511627776
theorem ClOk.mono {cf : MCf} {L : List Rnd7} {x z : Nat} {n : Int} {y : MCl} (h : ClOk cf L x n y) (hz : x ≤ z) : ClOk cf L z n y :=
 ⟨⟨h.e.1, by have := h.e.2; omega⟩, Nat.le_trans h.j hz, Nat.le_trans h.u hz, h.f.mono hz, h.a, h.p, h.k, h.c⟩
theorem MInv.mono {cf : MCf} {x z : Nat} {L : List Rnd7} {cls : List MCl} (h : MInv cf x L cls) (hz : x ≤ z) : MInv cf z L cls := ⟨h.n, Nat.le_trans h.l hz, h.f.mono hz, h.o, h.m, fun n y hy => (h.c n y hy).mono hz⟩
theorem ownR_app (n : Int) (K M : List Rnd7) : ownR n (K ++ M) = ownR n K ++ ownR n M := by unfold ownR; rw [List.filter_append]
theorem ownR_pre (n : Int) (L : List Rnd7) (k : Nat) : ownR n (L.take k) <+: ownR n L := by
 refine ⟨ownR n (L.drop k), ?_⟩
 rw [← ownR_app, List.take_append_drop]
theorem ClOk.own {cf : MCf} {L : List Rnd7} {x : Nat} {n : Int} {y : MCl} (h : ClOk cf L x n y) : ownN n L y ≤ y.J.length := Nat.le_trans (ownR_pre n L y.k).length_le h.p.length_le
theorem ClOk.seen {cf : MCf} {L : List Rnd7} {x : Nat} {n : Int} {y : MCl} (h : ClOk cf L x n y) (hL : L.length ≤ x) (hF : Few x L) (hx : x ≤ 400) : (flatR (seenR n L y)).length + y.U.length < 1000000 := by
 have h1 : Few x (seenR n L y) := (hF.take _).app (h.f.drop _)
 have h2 := h1.flat
 have h3 : (seenR n L y).length ≤ 800 := by
  unfold seenR pndR
  rw [List.length_append, List.length_take, List.length_drop]
  have := h.j
  omega
 have h4 := h.u
 have h5 : x * (seenR n L y).length ≤ 400 * 800 := Nat.mul_le_mul hx h3
 omega
theorem MInv.set {cf : MCf} {x z : Nat} {L : List Rnd7} {cls : List MCl} {n : Int} {y y' : MCl} (h : MInv cf x L cls) (hz : x ≤ z) (hy : clAt cls n = some y) (hy' : ClOk cf L z n y') : MInv cf z L (cls.set (n.toNat - 1) y') := by
 refine ⟨by rw [List.length_set]; exact h.n, Nat.le_trans h.l hz, h.f.mono hz, by rw [List.length_set]; exact h.o, h.m, fun m v hv => ?_⟩
 rw [clAt_set y' hy] at hv
 split at hv
 ·rename_i e
  subst e
  cases hv
  exact hy'
 ·exact (h.c m v hv).mono hz
theorem MInv.commit {cf : MCf} {x : Nat} {L : List Rnd7} {cls : List MCl} (h : MInv cf x L cls) (n : Int) : MInv cf (x + 1) (cmtL n L cls) cls := by
 unfold cmtL
 cases hr : nextR n L cls with
 | none => rw [Option.toList_none, List.append_nil]; exact h.mono (Nat.le_succ x)
 | some r =>
  rw [Option.toList_some]
  unfold nextR at hr
  obtain ⟨y, hy, hj⟩ := Option.bind_eq_some_iff.1 hr
  have hc := h.c n y hy
  obtain ⟨e0, e1⟩ := hc.a _ _ hj
  have hrJ : r ∈ y.J := List.mem_of_getElem? hj
  refine ⟨h.n, by rw [List.length_append, List.length_singleton]; have := h.l; omega, (h.f.mono (Nat.le_succ x)).app (Few.one (Nat.le_trans (hc.f r hrJ) (Nat.le_succ x))), fun q hq => ?_, fun k q hq => ?_, fun m v hv => ?_⟩
  ·rcases List.mem_append.1 hq with hq | hq
   ·exact h.o q hq
   ·rw [List.mem_singleton] at hq
    subst hq
    rw [e0]
    exact clAt_len hy
  ·rcases Nat.lt_or_ge k L.length with hk | hk
   ·rw [List.getElem?_append_left hk] at hq
    rw [List.take_append_of_le_length (Nat.le_of_lt hk)]
    exact h.m k q hq
   ·have hk2 : k = L.length := by
     have := (List.getElem?_eq_some_iff.1 hq).1
     rw [List.length_append, List.length_singleton] at this
     omega
    subst hk2
    rw [List.getElem?_append_right (Nat.le_refl _), Nat.sub_self] at hq
    have : r = q := by simpa using hq
    subst this
    rw [List.take_left, e0, e1]
  ·have hv0 := (h.c m v hv).mono (Nat.le_succ x)
   refine ⟨hv0.e, hv0.j, hv0.u, hv0.f, hv0.a, ?_, by rw [List.length_append]; have := hv0.k; omega, hv0.c⟩
   by_cases em : m = n
   ·subst em
    rw [hy] at hv
    cases hv
    rw [ownR_yes e0]
    obtain ⟨T, hT⟩ := hc.p
    have hl : (ownR m L).length < y.J.length := (List.getElem?_eq_some_iff.1 hj).1
    rw [← hT, List.getElem?_append_right (Nat.le_refl _), Nat.sub_self] at hj
    cases T with
    | nil => simp at hj
    | cons t T =>
     have : t = r := by simpa using hj
     subst this
     exact ⟨T, by rw [List.append_assoc]; exact hT⟩
   ·rw [ownR_no (by rw [e0]; exact fun e => em e.symm)]
    exact hv0.p
theorem MInv.come {cf : MCf} {x : Nat} {L : List Rnd7} {cls : List MCl} (h : MInv cf x L cls) (n : Int) : MInv cf (x + 1) L (comeS n cf L cls).2 := by
 unfold comeS
 cases hc : clAt cls n with
 | none => exact h.mono (Nat.le_succ x)
 | some y =>
  simp only
  split
  ·rename_i hb
   have hb := of_decide_eq_true hb
   have hy := (h.c n y hc).mono (Nat.le_succ x)
   exact h.set (Nat.le_succ x) hc ⟨hy.e, hy.j, hy.u, hy.f, hy.a, hy.p, by show y.k + (y.c + 1) ≤ _; omega, by show ((y.c + 1 : Nat) : Int) ≤ _; omega⟩
  ·exact h.mono (Nat.le_succ x)
noncomputable def doX (cf : MCf) (L : List Rnd7) (n : Int) (x : MCl) (a : ActM) : RepT × MCl :=
 if a.f0 = 1 then (rep0 (updE x.U a.f2.f0 a.f2.f1 a.f2.f2 a.f2.f3 cf.mtu), { x with U := updU x.U a.f2.f0 a.f2.f1 a.f2.f2 a.f2.f3 cf.mtu })
 else if a.f0 = 2 then (⟨0, stateOf x.U (seenR n L x) a.f3, false, cntK (stateOf x.U (seenR n L x))⟩, x)
 else if a.f0 = 3 then (if mpushE n L x cf = 0 then (repN ((x.J.length + 1 : Nat) : Int), { x with J := x.J ++ [⟨n, (x.J.length : Int) + 1, x.U⟩], U := [] }) else (rep0 (mpushE n L x cf), x))
 else if a.f0 = 4 then (repN x.c, { x with k := x.k + x.c, c := 0 })
 else if a.f0 = 5 then (⟨0, (0, 0, none'), decide (x.J.length - ownN n L x = 0) && decide (x.U.length = 0), 0⟩, x)
 else if x.e ≥ cf.last then (rep0 8, x) else (rep0 0, ⟨x.e + 1, x.J, 0, 0, []⟩)
noncomputable def doS (cf : MCf) (L : List Rnd7) (cls : List MCl) (a : ActM) : RepT × List MCl :=
 if a.f0 < 1 ∨ a.f0 > 6 then (rep0 5, cls) else match clAt cls a.f1 with
 | none => (rep0 11, cls)
 | some x => ((doX cf L a.f1 x a).1, cls.set (a.f1.toNat - 1) (doX cf L a.f1 x a).2)
theorem doX_ok {cf : MCf} {L : List Rnd7} {x : Nat} {n : Int} {y : MCl} (h : ClOk cf L x n y) (hp : 1 ≤ cf.pull) (a : ActM) : ClOk cf L (x + 1) n (doX cf L n y a).2 := by
 have hy := h.mono (Nat.le_succ x)
 unfold doX
 split
 ·exact ⟨hy.e, hy.j, by have := upd_len y.U a.f2.f0 a.f2.f1 a.f2.f2 a.f2.f3 cf.mtu; have := h.u; show (updU _ _ _ _ _ _).length ≤ _; omega, hy.f, hy.a, hy.p, hy.k, hy.c⟩
 split
 ·exact hy
 split
 ·split
  ·refine ⟨hy.e, by show (y.J ++ _).length ≤ _; rw [List.length_append, List.length_singleton]; have := h.j; omega, Nat.zero_le _, hy.f.app (Few.one hy.u), fun k r hr => ?_, ?_, hy.k, hy.c⟩
   ·rcases Nat.lt_or_ge k y.J.length with hk | hk
    ·rw [List.getElem?_append_left hk] at hr
     exact hy.a k r hr
    ·have hk2 : k = y.J.length := by
      have := (List.getElem?_eq_some_iff.1 hr).1
      rw [List.length_append, List.length_singleton] at this
      omega
     subst hk2
     rw [List.getElem?_append_right (Nat.le_refl _), Nat.sub_self] at hr
     have : (⟨n, (y.J.length : Int) + 1, y.U⟩ : Rnd7) = r := by simpa using hr
     subst this
     exact ⟨rfl, rfl⟩
   ·exact hy.p.trans (List.prefix_append _ _)
  ·exact hy
 split
 ·exact ⟨hy.e, hy.j, hy.u, hy.f, hy.a, hy.p, by show y.k + y.c + 0 ≤ _; exact hy.k, by show ((0 : Nat) : Int) ≤ _; omega⟩
 split
 ·exact hy
 split
 ·exact hy
 ·exact ⟨⟨by show 1 ≤ y.e + 1; have := h.e.1; omega, by show y.e + 1 ≤ _; have := h.e.2; omega⟩, hy.j, Nat.zero_le _, hy.f, hy.a, hy.p, Nat.zero_le _, by show ((0 : Nat) : Int) ≤ _; omega⟩
theorem MInv.act {cf : MCf} {x : Nat} {L : List Rnd7} {cls : List MCl} (h : MInv cf x L cls) (hp : 1 ≤ cf.pull) (a : ActM) : MInv cf (x + 1) L (doS cf L cls a).2 := by
 unfold doS
 split
 ·exact h.mono (Nat.le_succ x)
 ·cases hc : clAt cls a.f1 with
  | none => exact h.mono (Nat.le_succ x)
  | some y => exact h.set (Nat.le_succ x) hc (doX_ok (h.c _ _ hc) hp a)
theorem MInv.len {cf : MCf} {x : Nat} {L : List Rnd7} {cls : List MCl} (h : MInv cf x L cls) (hc : CfOk cf) : cls.length ≤ 64 := by
 have := h.n
 have := hc.cl.2
 omega
section
variable {N : Nat → Prop} {w : World} {gm x : Nat} {cf : MCf} {L : List Rnd7} {cls : List MCl}
theorem MDo (a : ActM) (h : Own N w [ModO gm cf L cls]) (ht : TabN N w) (hi : MInv cf x L cls) (hc : CfOk cf) (hx : x ≤ 400) (hk : a.f3.size ≤ 50) :
  Calls Tryd.prog 42 #[pt gm, actMV a] w fun e_ w' => e_ = .returned (repM (doS cf L cls a).1) ∧ Own N w' [ModO gm cf L (doS cf L cls a).2] ∧ KeepS N w w' := by
 obtain ⟨kd, n, ⟨key, uc, un, us⟩, rk, an, ab, am⟩ := a
 have h64 := hi.len hc
 have hl := hi.l
 have hrk : rk.size ≤ maxLen := Nat.le_trans hk (by decide)
 unfold doS
 simp only
 by_cases hlo : kd < 1
 ·rw [if_pos (.inl hlo)]
  obtain ⟨N_, on_, nn_, rr_, bb_⟩ := h.frame0
  exact (MDo_lo kd n key uc un us rk an ab am on_ hlo).mono fun e_ w' ⟨a, b, c⟩ => ⟨a, (bb_ w' [] c b).1, (bb_ w' [] c b).2⟩
 by_cases hhi : kd > 6
 ·rw [if_pos (.inr hhi)]
  obtain ⟨N_, on_, nn_, rr_, bb_⟩ := h.frame0
  exact (MDo_hi kd n key uc un us rk an ab am on_ ⟨by omega, hhi⟩).mono fun e_ w' ⟨a, b, c⟩ => ⟨a, (bb_ w' [] c b).1, (bb_ w' [] c b).2⟩
 rw [if_neg (by omega)]
 cases hcl : clAt cls n with
 | none =>
  obtain ⟨N_, on_, nn_, rr_, bb_⟩ := h.frame0
  obtain ⟨AL, cL, AC, cC, qs, hq, e1, hm, hp, hl, _, _⟩ := ModO.view0 (rr_ 0 _ rfl)
  exact (MDo_none kd n key uc un us rk an ab am on_ hm hp ⟨by omega, by omega⟩ (clAt_none hcl)).mono fun e_ w' ⟨a, b, c⟩ => ⟨a, (bb_ w' [] c b).1, (bb_ w' [] c b).2⟩
 | some y =>
  obtain ⟨hn, hxx⟩ := clAt_some hcl
  have hy := hi.c n y hcl
  have hj := hy.j
  have hu := hy.u
  have hky := hy.k
  have hown := hy.own
  have hkL : y.k ≤ L.length := by omega
  have hsame : cls.set (n.toNat - 1) y = cls := set_same hxx
  simp only
  unfold doX
  simp only
  by_cases k1 : kd = 1
  ·subst k1
   rw [if_pos rfl]
   exact MDo_1 n key uc un us rk an ab am h hn h64 hxx ht (by omega)
  rw [if_neg k1]
  by_cases k2 : kd = 2
  ·subst k2
   rw [if_pos rfl, hsame]
   obtain ⟨N_, on_, nn_, rr_, bb_⟩ := h.frame0
   obtain ⟨AL, cL, AC, cC, qs, q, AJ, cJ, AU, cU, hqi, e1, e2, e3, hm, hp, hl2, hx1, hj2, hu2⟩ := ModO.view (rr_ 0 _ rfl) hxx
   exact (MDo_2 n key uc un us rk an ab am on_ hm hp hx1 hl2 hj2 hu2 hn h64 hqi hkL (by omega) e1 hown e2 (by omega) hrk (hy.seen hi.l hi.f hx)).mono fun e_ w' ⟨a, b, c⟩ => ⟨a, (bb_ w' [] c b).1, (bb_ w' [] c b).2⟩
  rw [if_neg k2]
  by_cases k3 : kd = 3
  ·subst k3
   rw [if_pos rfl]
   by_cases h0 : mpushE n L y cf = 0
   ·rw [if_pos h0]
    exact MDo_3y n key uc un us rk an ab am h hn h64 hxx hkL (by omega) hown (by omega) h0
   ·rw [if_neg h0]
    simp only
    rw [hsame]
    exact MDo_3n n key uc un us rk an ab am h hn h64 hxx hkL (by omega) hown (by omega) h0
  rw [if_neg k3]
  by_cases k4 : kd = 4
  ·subst k4
   rw [if_pos rfl]
   exact MDo_4 n key uc un us rk an ab am h hn h64 hxx (by omega)
  rw [if_neg k4]
  by_cases k5 : kd = 5
  ·subst k5
   rw [if_pos rfl, hsame]
   obtain ⟨N_, on_, nn_, rr_, bb_⟩ := h.frame0
   obtain ⟨AL, cL, AC, cC, qs, q, AJ, cJ, AU, cU, hqi, e1, e2, e3, hm, hp, hl2, hx1, hj2, hu2⟩ := ModO.view (rr_ 0 _ rfl) hxx
   exact (MDo_5 n key uc un us rk an ab am on_ hm hp hx1 hl2 hn h64 hqi hkL (by omega) e1 hown e2).mono fun e_ w' ⟨a, b, c⟩ => ⟨a, (bb_ w' [] c b).1, (bb_ w' [] c b).2⟩
  rw [if_neg k5]
  have k6 : kd = 6 := by omega
  subst k6
  have he := hy.e
  by_cases h1 : y.e ≥ cf.last
  ·rw [if_pos h1]
   simp only
   rw [hsame]
   exact MDo_6n n key uc un us rk an ab am h hn h64 hxx ⟨by omega, by omega⟩ h1
  ·rw [if_neg h1]
   exact MDo_6y n key uc un us rk an ab am h hn h64 hxx ⟨by omega, by omega⟩ h1
theorem MCome_i (n : Int) (h : Own N w [ModO gm cf L cls]) (hi : MInv cf x L cls) (hc : CfOk cf) (hx : x ≤ 400) :
  Calls Tryd.prog 45 #[pt gm, n] w fun e_ w' => e_ = .returned (.bool (comeS n cf L cls).1) ∧ Own N w' [ModO gm cf L (comeS n cf L cls).2] ∧ KeepS N w w' :=
 MCome n h (hi.len hc) (by have := hi.l; omega) (fun y hy => by have := (hi.c n y hy).k; have := hi.l; omega)
theorem MCommit_i (n : Int) (h : Own N w [ModO gm cf L cls]) (hi : MInv cf x L cls) (hc : CfOk cf) (hx : x ≤ 400) :
  Calls Tryd.prog 44 #[pt gm, n] w fun e_ w' => e_ = .returned (.bool (nextR n L cls).isSome) ∧ Own N w' [ModO gm cf (cmtL n L cls) cls] ∧ KeepS N w w' :=
 MCommit n h (hi.len hc) (by have := hi.l; omega)
theorem MLook_i (n : Int) {y : MCl} (h : Own N w [ModO gm cf L cls]) (hi : MInv cf x L cls) (hc : CfOk cf) (hx : x ≤ 400) (hy : clAt cls n = some y) :
  Calls Tryd.prog 40 #[pt gm, n] w fun e_ w' => e_ = .returned (lookV n L y) ∧ Own N w' [ModO gm cf L cls] ∧ KeepS N w w' := by
 obtain ⟨hn, hxx⟩ := clAt_some hy
 have h64 := hi.len hc
 have hl := hi.l
 have hk := hi.c n y hy
 obtain ⟨N_, on_, nn_, rr_, bb_⟩ := h.frame0
 obtain ⟨AL, cL, AC, cC, qs, q, AJ, cJ, AU, cU, hqi, e1, e2, e3, hm, hp, hl2, hx1, hj2, hu2⟩ := ModO.view (rr_ 0 _ rfl) hxx
 exact (MLook_ok n on_ hm hp hx1 hl2 hn h64 hqi (by have := hk.k; omega) (by omega) e1 hk.own e2).mono fun e_ w' ⟨a, b, c⟩ => ⟨a, (bb_ w' [] c b).1, (bb_ w' [] c b).2⟩
theorem MLook_0 (n : Int) (h : Own N w [ModO gm cf L cls]) (hn : ¬ (1 ≤ n ∧ n ≤ cls.length)) :
  Calls Tryd.prog 40 #[pt gm, n] w fun e_ w' => e_ = .returned (.agg #[.int .i64 0, .int .i64 0, .int .i64 0, .int .i64 0, .int .i64 0, .int .i64 0]) ∧ Own N w' [ModO gm cf L cls] ∧ KeepS N w w' := by
 obtain ⟨N_, on_, nn_, rr_, bb_⟩ := h.frame0
 obtain ⟨AL, cL, AC, cC, qs, hq, e1, hm, hp, hl, _, _⟩ := ModO.view0 (rr_ 0 _ rfl)
 exact (MLook_no n on_ hm hp hn).mono fun e_ w' ⟨a, b, c⟩ => ⟨a, (bb_ w' [] c b).1, (bb_ w' [] c b).2⟩
theorem MKnown_0 (n : Int) (h : Own N w [ModO gm cf L cls]) (hn : ¬ (1 ≤ n ∧ n ≤ cls.length)) :
  Calls Tryd.prog 41 #[pt gm, n] w fun e_ w' => e_ = .returned (.slice none 0 0) ∧ Own N w' [ModO gm cf L cls] ∧ KeepS N w w' := by
 obtain ⟨N_, on_, nn_, rr_, bb_⟩ := h.frame0
 obtain ⟨AL, cL, AC, cC, qs, hq, e1, hm, hp, hl, _, _⟩ := ModO.view0 (rr_ 0 _ rfl)
 exact (MKnown_no n on_ hm hp hn).mono fun e_ w' ⟨a, b, c⟩ => ⟨a, (bb_ w' [] c b).1, (bb_ w' [] c b).2⟩
theorem MLog_i (h : Own N w [ModO gm cf L cls]) (hi : MInv cf x L cls) (hx : x ≤ 400) :
  Calls Tryd.prog 39 #[pt gm] w fun e_ w' => ∃ A1 c1, e_ = .returned (.slice A1 L.length c1) ∧ Own N w' [ModO gm cf L cls, nrow kR7 tR7 (.slice A1 L.length c1) L] ∧ KeepS N w w' := by
 have hl := hi.l
 obtain ⟨N_, on_, nn_, rr_, bb_⟩ := h.frame0
 obtain ⟨AL, cL, AC, cC, qs, hq, e1, hm, hp, hl2, _, _⟩ := ModO.view0 (rr_ 0 _ rfl)
 refine (MLog (qs := qs) on_ hm hl2 (by omega) (hi.f.mono (by omega))).mono ?_
 rintro e_ w' ⟨A1, c1, a, b, c⟩
 obtain ⟨o_, k_⟩ := bb_ w' _ c (b.conv (i := 0) rfl (nrow kR7 tR7 (.slice A1 L.length c1) L) (fun F hp _ => Kd.R_N hp))
 exact ⟨A1, c1, a, o_, k_⟩
theorem MKnown_i (n : Int) {y : MCl} (h : Own N w [ModO gm cf L cls]) (hi : MInv cf x L cls) (hc : CfOk cf) (hx : x ≤ 400) (hy : clAt cls n = some y) :
  Calls Tryd.prog 41 #[pt gm, n] w fun e_ w' => ∃ A1 c1, e_ = .returned (.slice A1 y.k c1) ∧ Own N w' [ModO gm cf L cls, nrow kR7 tR7 (.slice A1 y.k c1) (L.take y.k)] ∧ KeepS N w w' := by
 obtain ⟨hn, hxx⟩ := clAt_some hy
 have h64 := hi.len hc
 have hl := hi.l
 have hk := hi.c n y hy
 obtain ⟨N_, on_, nn_, rr_, bb_⟩ := h.frame0
 obtain ⟨AL, cL, AC, cC, qs, q, AJ, cJ, AU, cU, hqi, e1, e2, e3, hm, hp, hl2, hx1, hj2, hu2⟩ := ModO.view (rr_ 0 _ rfl) hxx
 refine (MKnown_ok n on_ hm hp hx1 hl2 hn h64 hqi (by have := hk.k; omega) (by omega) e1 (hi.f.mono (by omega))).mono ?_
 rintro e_ w' ⟨A1, c1, a, b, c⟩
 obtain ⟨o_, k_⟩ := bb_ w' _ c (b.conv (i := 0) rfl (nrow kR7 tR7 (.slice A1 y.k c1) (L.take y.k)) (fun F hp _ => Kd.R_N hp))
 exact ⟨A1, c1, a, o_, k_⟩
end
end Go.Proofs.YtjdenpmaianmfaaDoor.J
