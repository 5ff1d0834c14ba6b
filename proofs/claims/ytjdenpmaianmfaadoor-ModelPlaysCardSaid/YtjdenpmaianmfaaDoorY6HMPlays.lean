/- The law ModelPlays: in every order of acts, commits and comings each reply, and how all stands, is what the document says. -/
import Derived.Test.YtjdenpmaianmfaaDoorY6Mo20
namespace Go.Proofs.YtjdenpmaianmfaaDoor.J
set_option linter.unusedSimpArgs false
set_option linter.unusedVariables false
open Go RowKit YtjdenpmaianmfaaDoorW.PrintWords YtjdenpmaianmfaaDoorW.PrintLast YtjdenpmaianmfaaDoorW.PrintMore Q YtjdenpmaianmfaaDoor.Sep YtjdenpmaianmfaaDoor.Pure
abbrev tDM : TypeId := 94
abbrev tDCl : TypeId := 134
theorem loose_raw (sz : Nat) : Loose (Kd.raw sz) := fun h => h
theorem adrD (g a f : Nat) : (⟨((⟨g, 0, none⟩ : Addr).add a).block, ((⟨g, 0, none⟩ : Addr).add a).off + f, none⟩ : Addr) = ⟨g, a + f, none⟩ := by by_cases h : a = 0 <;> simp [Addr.add, h]
theorem adrD0 (g a : Nat) : ((⟨g, 0, none⟩ : Addr).add a) = ⟨g, a + 0, none⟩ := by by_cases h : a = 0 <;> simp [Addr.add, h]
theorem raw_putE {sz e base g n c f i : Nat} {ok : Nat → Prop} {w : World} {rows : RawR} {r : List Value} {u : Value} (hf : f < sz) (hu : u.oneCell' = true) (h : (Kd.raw sz).R e w base ok (.slice (some ⟨g, 0, none⟩) n c) rows) (hi : rows[i]? = some r) : (Kd.raw sz).R e (w.setCell ⟨g, i * sz + f, none⟩ u) base ok (.slice (some ⟨g, 0, none⟩) n c) (rows.set i (r.set f u)) := by
 obtain ⟨_, hn, _, _, _, _⟩ := R_at h
 subst hn
 obtain ⟨h0, inner, ho, hr⟩ := h
 refine ⟨h0, inner.set (i * sz + f) u, by rw [List.length_set]; exact (ho.stored (i * sz + f) u).1, by rw [List.length_set, List.length_set]; exact hr.1, fun j x hj => ?_⟩
 by_cases hji : j = i
 ·subst hji
  rw [List.getElem?_set_self (List.getElem?_eq_some_iff.1 hi).1] at hj
  cases hj
  obtain ⟨e1, e2, e3⟩ := hr.2 j r hi
  show ((inner.set (j * sz + f) u).drop (j * sz)).take sz = r.set f u ∧ (((inner.set (j * sz + f) u).drop (j * sz)).take sz).length = sz ∧ ∀ v ∈ ((inner.set (j * sz + f) u).drop (j * sz)).take sz, v.oneCell' = true
  rw [chunk_same]
  have e1' : (inner.drop (j * sz)).take sz = r := e1
  rw [e1']
  refine ⟨rfl, ?_, fun v hv => ?_⟩
  ·rw [List.length_set, ← e1]
   exact e2
  ·rcases List.mem_or_eq_of_mem_set hv with hv | hv
   ·exact e3 v (by rw [e1]; exact hv)
   ·subst hv
    exact hu
 ·rw [List.getElem?_set_ne (fun q => hji q.symm)] at hj
  show ((inner.set (i * sz + f) u).drop (j * sz)).take sz = x ∧ (((inner.set (i * sz + f) u).drop (j * sz)).take sz).length = sz ∧ ∀ v ∈ ((inner.set (i * sz + f) u).drop (j * sz)).take sz, v.oneCell' = true
  rw [chunk_other _ _ _ _ _ _ hf hji]
  exact hr.2 j x hj
section
variable {N : Nat → Prop} {w : World} {l : List HP} {k e n c i : Nat} {ad : Addr} {rows : RawR} {v0 v1 v2 v3 v4 : Value}
theorem Own.rawput (f : Nat) {r : List Value} {u : Value} (h : Own N w l) (hk : l[k]? = some (nrow (Kd.raw 5) e (.slice (some ad) n c) rows)) (hi : rows[i]? = some r) (hf : f < 5) (hu : u.oneCell' = true) (p : Addr) (hp : p = ⟨(ad.add (i * 5)).block, (ad.add (i * 5)).off + f, none⟩) :
  Own N (w.setCell p u) (l.set k (nrow (Kd.raw 5) e (.slice (some ad) n c) (rows.set i (r.set f u)))) ∧ KeepS N w (w.setCell p u) := by
 have hr := h.nrow_row (loose_raw 5) hk
 have hlt : k < l.length := (List.getElem?_eq_some_iff.1 hk).1
 have hk2 : (l.set k (row (Kd.raw 5) e (.slice (some ad) n c) rows))[k]? = some (row (Kd.raw 5) e (.slice (some ad) n c) rows) := List.getElem?_set_self hlt
 obtain ⟨F0, hF0⟩ := hr.fact hk2
 have hn0 : 0 < n := by
  have h3 := (Kd.R_reads' hF0).1
  have h4 := (List.getElem?_eq_some_iff.1 hi).1
  omega
 obtain ⟨g, eg⟩ := R_some hF0 hn0
 injection eg with eg
 subst eg
 rw [adrD] at hp
 subst hp
 have h2 : Own N (w.setCell ⟨g, i * 5 + f, none⟩ u) ((l.set k (row (Kd.raw 5) e (.slice (some ⟨g, 0, none⟩) n c) rows)).set k (nrow (Kd.raw 5) e (.slice (some ⟨g, 0, none⟩) n c) (rows.set i (r.set f u)))) := by
  refine hr.upd hk2 _ (fun F hp hF => ?_)
  obtain ⟨_, _, hg2, _⟩ := R_at hp
  exact ⟨by simp [World.setCell], fun k _ hk => Below.heap_setCell _ _ _ _ (fun e => hk (by rw [show k = g from e]; exact hg2)), F, Kd.R_N (raw_putE hf hu hp hi), fun k hk => .inl hk⟩
 rw [List.set_set] at h2
 refine ⟨h2, KeepS.setCell ?_ u⟩
 obtain ⟨hN, Fs, q1, q2, q3⟩ := hr
 obtain ⟨_, _, hg2, _⟩ := R_at (q1 k _ hk2)
 exact (q2 k g hg2).1
theorem D_cells (h : Own N w l) (hk : l[k]? = some (nrow (Kd.raw 5) e (.slice (some ad) n c) rows)) (hi : rows[i]? = some [v0, v1, v2, v3, v4]) :
  (w.cell? (ad.add (i * 5)) = some v0 ∧ w.cell? ⟨(ad.add (i * 5)).block, (ad.add (i * 5)).off + 1, none⟩ = some v1 ∧ w.cell? ⟨(ad.add (i * 5)).block, (ad.add (i * 5)).off + 2, none⟩ = some v2 ∧ w.cell? ⟨(ad.add (i * 5)).block, (ad.add (i * 5)).off + 3, none⟩ = some v3 ∧ w.cell? ⟨(ad.add (i * 5)).block, (ad.add (i * 5)).off + 4, none⟩ = some v4) ∧
  w.frozen? (ad.add (i * 5)) = false ∧ w.frozen? ⟨(ad.add (i * 5)).block, (ad.add (i * 5)).off + 1, none⟩ = false ∧ w.frozen? ⟨(ad.add (i * 5)).block, (ad.add (i * 5)).off + 2, none⟩ = false ∧ w.frozen? ⟨(ad.add (i * 5)).block, (ad.add (i * 5)).off + 3, none⟩ = false ∧ w.frozen? ⟨(ad.add (i * 5)).block, (ad.add (i * 5)).off + 4, none⟩ = false := by
 obtain ⟨hn, hnc, hC⟩ := h.nreads hk
 have hr := h.nrow_row (loose_raw 5) hk
 have hlt : k < l.length := (List.getElem?_eq_some_iff.1 hk).1
 obtain ⟨F0, hF0⟩ := hr.fact (List.getElem?_set_self hlt)
 have hil := (List.getElem?_eq_some_iff.1 hi).1
 obtain ⟨g, eg⟩ := R_some hF0 (by omega)
 injection eg with eg
 obtain ⟨ad', e1, hc⟩ := hC.2.2 (by omega)
 injection e1 with e1
 subst e1
 obtain ⟨cs, hcl, hK, hcc⟩ := hc i _ hi
 have ec : cs = [v0, v1, v2, v3, v4] := hK.1
 subst ec
 have q : ∀ j u, [v0, v1, v2, v3, v4][j]? = some u → w.cell? (ad.add (i * 5 + j)) = some u := hcc
 refine ⟨⟨q 0 _ rfl, by rw [← add_field _ _ 1 (by omega)]; exact q 1 _ rfl, by rw [← add_field _ _ 2 (by omega)]; exact q 2 _ rfl, by rw [← add_field _ _ 3 (by omega)]; exact q 3 _ rfl, by rw [← add_field _ _ 4 (by omega)]; exact q 4 _ rfl⟩, ?_⟩
 subst eg
 obtain ⟨_, _, _, cells, hh, _⟩ := R_at hF0
 simp only [adrD]
 rw [adrD0]
 exact ⟨blk_frozen hh _, blk_frozen hh _, blk_frozen hh _, blk_frozen hh _, blk_frozen hh _⟩
end
abbrev DcT := Value × Value × RawR
abbrev rowD (d : DcT) (x : MCl) : List Value := [x.e, d.1, x.k, x.c, d.2.1]
abbrev rowsD (ds : List DcT) (cls : List MCl) : RawR := List.zipWith rowD ds cls
abbrev dclI (ds : List DcT) (cls : List MCl) : List HP := List.zipWith (fun d x => star (nrow (Kd.raw 3) tR7 d.1 d.2.2) (nrow kU7 tU7 d.2.1 x.U)) ds cls
abbrev poolD (rL : RawR) (L : List Rnd7) (ds : List DcT) (cls : List MCl) : HP := pool ((rL, L) :: List.zipWith (fun (d : DcT) (x : MCl) => (d.2.2, x.J)) ds cls)
def DocM (gd : Nat) (cf : MCf) (L : List Rnd7) (cls : List MCl) : HP :=
 ex fun vL : Value => ex fun vA : Value => ex fun rL : RawR => ex fun ds : { ds : List DcT // ds.length = cls.length } =>
  star (star (star (star (cells gd (modC cf vL vA) tDM) (nrow (Kd.raw 3) tR7 vL rL)) (nrow (Kd.raw 5) tDCl vA (rowsD ds.1 cls))) (bigs (dclI ds.1 cls))) (poolD rL L ds.1 cls)
theorem zw_get {α β γ : Type} (f : α → β → γ) {xs : List α} {ys : List β} {i : Nat} {a : α} {b : β} (ha : xs[i]? = some a) (hb : ys[i]? = some b) : (List.zipWith f xs ys)[i]? = some (f a b) := by rw [List.getElem?_zipWith, ha, hb]
theorem zw_set {α β γ : Type} (f : α → β → γ) (xs : List α) (ys : List β) (i : Nat) (a : α) (b : β) : List.zipWith f (xs.set i a) (ys.set i b) = (List.zipWith f xs ys).set i (f a b) := by
 apply List.ext_getElem?
 intro j
 by_cases h : i = j
 ·subst h
  rcases Nat.lt_or_ge i xs.length with h1 | h1
  ·rcases Nat.lt_or_ge i ys.length with h2 | h2
   ·rw [List.getElem?_set_self (by rw [List.length_zipWith]; omega), List.getElem?_zipWith, List.getElem?_set_self h1, List.getElem?_set_self h2]
   ·rw [List.getElem?_eq_none (by rw [List.length_zipWith, List.length_set, List.length_set]; omega), List.getElem?_eq_none (by rw [List.length_set, List.length_zipWith]; omega)]
  ·rw [List.getElem?_eq_none (by rw [List.length_zipWith, List.length_set, List.length_set]; omega), List.getElem?_eq_none (by rw [List.length_set, List.length_zipWith]; omega)]
 ·rw [List.getElem?_set_ne h, List.getElem?_zipWith, List.getElem?_zipWith, List.getElem?_set_ne h, List.getElem?_set_ne h]
section
variable {N F : Nat → Prop} {w w' : World} {gd : Nat} {cf : MCf} {L : List Rnd7} {cls : List MCl}
theorem DocM.open_ (h : Own N w [DocM gd cf L cls]) : ∃ (AL : Option Addr) (cL : Nat) (AA : Option Addr) (cA : Nat) (rL : RawR) (ds : List DcT), ds.length = cls.length ∧ rL.length = L.length ∧
  Own N w [cells gd (modC cf (.slice AL L.length cL) (.slice AA cls.length cA)) tDM, poolD rL L ds cls, bigs (dclI ds cls), nrow (Kd.raw 5) tDCl (.slice AA cls.length cA) (rowsD ds cls), nrow (Kd.raw 3) tR7 (.slice AL L.length cL) rL] := by
 obtain ⟨vL, h1⟩ := h.of_ex (i := 0) rfl
 obtain ⟨vA, h2⟩ := h1.of_ex (i := 0) rfl
 obtain ⟨rL, h3⟩ := h2.of_ex (i := 0) rfl
 obtain ⟨⟨ds, hq⟩, h4⟩ := h3.of_ex (i := 0) rfl
 have h5 := h4.split (i := 0) rfl
 have h6 := h5.split (i := 0) rfl
 have h7 := h6.split (i := 0) rfl
 have h8 := h7.split (i := 0) rfl
 have hz : Own N w [cells gd (modC cf vL vA) tDM, poolD rL L ds cls, bigs (dclI ds cls), nrow (Kd.raw 5) tDCl vA (rowsD ds cls), nrow (Kd.raw 3) tR7 vL rL] := h8
 obtain ⟨F, hF⟩ := hz.fact (i := 1) rfl
 have hl : rL.length = L.length := (hF (rL, L) List.mem_cons_self).1
 obtain ⟨AA, cA, rfl⟩ := hz.nslice (i := 3) rfl
 obtain ⟨AL, cL, rfl⟩ := hz.nslice (i := 4) rfl
 rw [hl, show (rowsD ds cls).length = cls.length by rw [List.length_zipWith, hq, Nat.min_self]] at hz
 exact ⟨AL, cL, AA, cA, rL, ds, hq, hl, hz⟩
theorem DocM.shut {vL vA : Value} {rL : RawR} {ds : List DcT} (hq : ds.length = cls.length) (h : Own N w [cells gd (modC cf vL vA) tDM, poolD rL L ds cls, bigs (dclI ds cls), nrow (Kd.raw 5) tDCl vA (rowsD ds cls), nrow (Kd.raw 3) tR7 vL rL]) : Own N w [DocM gd cf L cls] := by
 have h1 := h.join (i := 0) (j := 4) rfl rfl (by decide)
 have h2 := h1.join (i := 0) (j := 3) rfl rfl (by decide)
 have h3 := h2.join (i := 0) (j := 2) rfl rfl (by decide)
 have h4 := h3.join (i := 0) (j := 1) rfl rfl (by decide)
 exact (h4.conv (i := 0) rfl (DocM gd cf L cls) (fun F hp _ => ⟨vL, vA, rL, ⟨ds, hq⟩, hp⟩)).take 1
theorem poolD_mem {rL : RawR} {ds : List DcT} {i : Nat} {d : DcT} {x : MCl} (hd : ds[i]? = some d) (hx : cls[i]? = some x) : (d.2.2, x.J) ∈ (rL, L) :: List.zipWith (fun (d : DcT) (x : MCl) => (d.2.2, x.J)) ds cls :=
 List.mem_cons_of_mem _ (List.mem_of_getElem? (i := i) (zw_get (fun (d : DcT) (x : MCl) => (d.2.2, x.J)) hd hx))
theorem DocM.at {i : Nat} {x : MCl} (h : Own N w [DocM gd cf L cls]) (hx : cls[i]? = some x) : ∃ (AL : Option Addr) (cL : Nat) (aa : Addr) (cA : Nat) (rL : RawR) (ds : List DcT) (rJ : RawR) (AJ : Option Addr) (cJ : Nat) (AU : Option Addr) (cU : Nat), (ds.length = cls.length ∧ rL.length = L.length ∧ rJ.length = x.J.length) ∧ ds[i]? = some (.slice AJ x.J.length cJ, .slice AU x.U.length cU, rJ) ∧
  Own N w [cells gd (modC cf (.slice AL L.length cL) (.slice (some aa) cls.length cA)) tDM, poolD rL L ds cls, bigs ((dclI ds cls).set i emp), nrow (Kd.raw 5) tDCl (.slice (some aa) cls.length cA) (rowsD ds cls), nrow (Kd.raw 3) tR7 (.slice AL L.length cL) rL, nrow kU7 tU7 (.slice AU x.U.length cU) x.U, nrow (Kd.raw 3) tR7 (.slice AJ x.J.length cJ) rJ] := by
 obtain ⟨AL, cL, AA, cA, rL, ds, hq, hl, h1⟩ := DocM.open_ h
 obtain ⟨⟨vJ, vU, rJ⟩, hdi⟩ : ∃ d, ds[i]? = some d := ⟨_, List.getElem?_eq_getElem (by rw [hq]; exact (List.getElem?_eq_some_iff.1 hx).1)⟩
 obtain ⟨F, hp⟩ := h1.fact (i := 1) rfl
 have hqJ : rJ.length = x.J.length := (hp (rJ, x.J) (poolD_mem hdi hx)).1
 have hg := zw_get (fun (d : DcT) (x : MCl) => star (nrow (Kd.raw 3) tR7 d.1 d.2.2) (nrow kU7 tU7 d.2.1 x.U)) hdi hx
 have h2 := h1.conv (i := 2) rfl (star (bigs ((dclI ds cls).set i emp)) (star (nrow (Kd.raw 3) tR7 vJ rJ) (nrow kU7 tU7 vU x.U))) (fun F hp _ => star_swap (bigs_out hg hp))
 have h3 := h2.split (i := 2) rfl
 have h4 := h3.split (i := 5) rfl
 have hz : Own N w [cells gd (modC cf (.slice AL L.length cL) (.slice AA cls.length cA)) tDM, poolD rL L ds cls, bigs ((dclI ds cls).set i emp), nrow (Kd.raw 5) tDCl (.slice AA cls.length cA) (rowsD ds cls), nrow (Kd.raw 3) tR7 (.slice AL L.length cL) rL, nrow (Kd.raw 3) tR7 vJ rJ, nrow kU7 tU7 vU x.U] := h4
 have hil := (List.getElem?_eq_some_iff.1 hx).1
 obtain ⟨aa, e1, _⟩ := (hz.nreads (i := 3) rfl).2.2.2.2 (by omega)
 subst e1
 obtain ⟨AJ, cJ, rfl⟩ := hz.nslice (i := 5) rfl
 obtain ⟨AU, cU, rfl⟩ := hz.nslice (i := 6) rfl
 rw [hqJ] at hz hdi
 exact ⟨AL, cL, aa, cA, rL, ds, rJ, AJ, cJ, AU, cU, ⟨hq, hl, hqJ⟩, hdi, hz.pickL [0, 1, 2, 3, 4, 6, 5] (by decide) (by simp)⟩
theorem DocM.back {i : Nat} {x x' : MCl} {ds : List DcT} {d d' : DcT} {rL rL' : RawR} {L' : List Rnd7} {vL vA : Value} {pl : HP} (hx : cls[i]? = some x) (hq : ds.length = cls.length) (hd : ds[i]? = some d) (hp : ∀ F w, pl.P F w → (poolD rL' L' (ds.set i d') (cls.set i x')).P F w)
  (h : Own N w [cells gd (modC cf vL vA) tDM, pl, bigs ((dclI ds cls).set i emp), nrow (Kd.raw 5) tDCl vA ((rowsD ds cls).set i (rowD d' x')), nrow (Kd.raw 3) tR7 vL rL', nrow kU7 tU7 d'.2.1 x'.U, nrow (Kd.raw 3) tR7 d'.1 d'.2.2]) : Own N w [DocM gd cf L' (cls.set i x')] := by
 have h1 := h.join (i := 6) (j := 5) rfl rfl (by decide)
 have h2 := h1.join (i := 2) (j := 6) rfl rfl (by decide)
 have hi : i < (dclI ds cls).length := by
  have a := (List.getElem?_eq_some_iff.1 hd).1
  have b := (List.getElem?_eq_some_iff.1 hx).1
  rw [List.length_zipWith]
  omega
 have h3 := h2.conv (i := 2) rfl (bigs (dclI (ds.set i d') (cls.set i x'))) (fun F hp _ => by
  rw [show dclI (ds.set i d') (cls.set i x') = (dclI ds cls).set i (star (nrow (Kd.raw 3) tR7 d'.1 d'.2.2) (nrow kU7 tU7 d'.2.1 x'.U)) from zw_set _ _ _ _ _ _]
  exact bigs_in hi (star_swap hp))
 have h4 := h3.conv (i := 1) rfl (poolD rL' L' (ds.set i d') (cls.set i x')) (fun F hq _ => hp F _ hq)
 have h5 := h4.conv (i := 3) rfl (nrow (Kd.raw 5) tDCl vA (rowsD (ds.set i d') (cls.set i x'))) (fun F hp _ => by
  rw [show rowsD (ds.set i d') (cls.set i x') = (rowsD ds cls).set i (rowD d' x') from zw_set _ _ _ _ _ _]
  exact hp)
 exact DocM.shut (by rw [List.length_set, List.length_set, hq]) (h5.take 5)
theorem pool_same {i : Nat} {x x' : MCl} {ds : List DcT} {d d' : DcT} {rL : RawR} (hx : cls[i]? = some x) (hd : ds[i]? = some d) (hJ : x'.J = x.J) (hr : d'.2.2 = d.2.2) (F : Nat → Prop) (w : World) (h : (poolD rL L ds cls).P F w) : (poolD rL L (ds.set i d') (cls.set i x')).P F w := by
 have e : List.zipWith (fun (d : DcT) (x : MCl) => (d.2.2, x.J)) (ds.set i d') (cls.set i x') = List.zipWith (fun (d : DcT) (x : MCl) => (d.2.2, x.J)) ds cls := by
  rw [zw_set, hJ, hr, set_same (zw_get (fun (d : DcT) (x : MCl) => (d.2.2, x.J)) hd hx)]
 intro p hp
 rw [e] at hp
 exact h p hp
theorem DocM.view {i : Nat} {x : MCl} (h : (DocM gd cf L cls).P F w) (hx : cls[i]? = some x) : ∃ (AL : Option Addr) (cL : Nat) (aa : Addr) (cA : Nat) (ds : List DcT) (AJ : Option Addr) (cJ : Nat) (AU : Option Addr) (cU : Nat) (rJ : RawR), (L.length ≤ cL ∧ x.J.length ≤ cJ ∧ x.U.length ≤ cU) ∧ (rowsD ds cls)[i]? = some (rowD (.slice AJ x.J.length cJ, .slice AU x.U.length cU, rJ) x) ∧
  CellN F w gd (modC cf (.slice AL L.length cL) (.slice (some aa) cls.length cA)) tDM ∧ Kd.F (Kd.raw 5) w F (some aa) cls.length (rowsD ds cls) ∧ Kd.F kR7 w F AL L.length L ∧ Kd.F kR7 w F AJ x.J.length x.J ∧ Kd.F kU7 w F AU x.U.length x.U := by
 obtain ⟨vL, vA, rL, ⟨ds, hq⟩, h0⟩ := h
 have h1 := star_l h0
 have hp : (poolD rL L ds cls).P F w := star_r h0
 have h2 := star_l h1
 have hb : (bigs (dclI ds cls)).P F w := star_r h1
 have h3 := star_l h2
 have hc : (nrow (Kd.raw 5) tDCl vA (rowsD ds cls)).P F w := star_r h2
 have hm : (cells gd (modC cf vL vA) tDM).P F w := star_l h3
 have hl : (nrow (Kd.raw 3) tR7 vL rL).P F w := star_r h3
 obtain ⟨AL, cL, rfl, e1⟩ := nrow_cap hl
 obtain ⟨AA, cA, rfl, e2⟩ := nrow_cap hc
 have hll := (hp (rL, L) List.mem_cons_self).1
 have e3 : (rowsD ds cls).length = cls.length := by rw [List.length_zipWith, hq, Nat.min_self]
 have hF := leadF hl (hp (rL, L) List.mem_cons_self) rfl
 have hC := Kd.N_F hc
 dsimp only at hll
 rw [hll] at hm e1
 rw [e3] at hm hC
 obtain ⟨⟨vJ, vU, rJ⟩, hdi⟩ : ∃ d, ds[i]? = some d := ⟨_, List.getElem?_eq_getElem (by rw [hq]; exact (List.getElem?_eq_some_iff.1 hx).1)⟩
 have hg := zw_get (fun (d : DcT) (x : MCl) => star (nrow (Kd.raw 3) tR7 d.1 d.2.2) (nrow kU7 tU7 d.2.1 x.U)) hdi hx
 have hcl := star_l (bigs_out hg hb)
 have hj : (nrow (Kd.raw 3) tR7 vJ rJ).P F w := star_l hcl
 have hu : (nrow kU7 tU7 vU x.U).P F w := star_r hcl
 obtain ⟨AJ, cJ, rfl, e4⟩ := nrow_cap hj
 obtain ⟨AU, cU, rfl, e5⟩ := nrow_cap hu
 have hlJ := hp (rJ, x.J) (poolD_mem hdi hx)
 have hFJ := leadF hj hlJ rfl
 have hqJ : rJ.length = x.J.length := hlJ.1
 rw [hqJ] at e4 hdi
 have hil := (List.getElem?_eq_some_iff.1 hx).1
 obtain ⟨aa, e6, _⟩ := (Kd.F_now hC).2.2 (by omega)
 subst e6
 exact ⟨AL, cL, aa, cA, ds, AJ, cJ, AU, cU, rJ, ⟨e1, e4, e5⟩, zw_get rowD hdi hx, hm, hC, hF, hFJ, Kd.N_F hu⟩
theorem DocM.view0 (h : (DocM gd cf L cls).P F w) : ∃ (AL : Option Addr) (cL : Nat) (AA : Option Addr) (cA : Nat), L.length ≤ cL ∧ CellN F w gd (modC cf (.slice AL L.length cL) (.slice AA cls.length cA)) tDM ∧ Kd.F kR7 w F AL L.length L := by
 obtain ⟨vL, vA, rL, ⟨ds, hq⟩, h0⟩ := h
 have h1 := star_l h0
 have hp : (poolD rL L ds cls).P F w := star_r h0
 have h2 := star_l h1
 have h3 := star_l h2
 have hc : (nrow (Kd.raw 5) tDCl vA (rowsD ds cls)).P F w := star_r h2
 have hm : (cells gd (modC cf vL vA) tDM).P F w := star_l h3
 have hl : (nrow (Kd.raw 3) tR7 vL rL).P F w := star_r h3
 obtain ⟨AL, cL, rfl, e1⟩ := nrow_cap hl
 obtain ⟨AA, cA, rfl, e2⟩ := nrow_cap hc
 have hll := (hp (rL, L) List.mem_cons_self).1
 have e3 : (rowsD ds cls).length = cls.length := by rw [List.length_zipWith, hq, Nat.min_self]
 have hF := leadF hl (hp (rL, L) List.mem_cons_self) rfl
 dsimp only at hll
 rw [hll] at hm e1
 rw [e3] at hm
 exact ⟨AL, cL, AA, cA, e1, hm, hF⟩
end
end Go.Proofs.YtjdenpmaianmfaaDoor.J
namespace Go.Proofs.YtjdenpmaianmfaaDoor.J
set_option maxHeartbeats 16000000
set_option maxRecDepth 100000
set_option linter.unusedSimpArgs false
set_option linter.unusedVariables false
open Go RowKit YtjdenpmaianmfaaDoorW.PrintWords YtjdenpmaianmfaaDoorW.PrintLast YtjdenpmaianmfaaDoorW.PrintMore Q YtjdenpmaianmfaaDoor.Sep YtjdenpmaianmfaaDoor.Pure
theorem rawF5 {N : Nat → Prop} {w : World} {ad : Addr} {n i : Nat} {rows : RawR} {v0 v1 v2 v3 v4 : Value} (h : Kd.F (Kd.raw 5) w N (some ad) n rows) (hi : rows[i]? = some [v0, v1, v2, v3, v4]) : w.cell? (ad.add (i * 5)) = some v0 ∧ w.cell? ⟨(ad.add (i * 5)).block, (ad.add (i * 5)).off + 1, none⟩ = some v1 ∧ w.cell? ⟨(ad.add (i * 5)).block, (ad.add (i * 5)).off + 2, none⟩ = some v2 ∧ w.cell? ⟨(ad.add (i * 5)).block, (ad.add (i * 5)).off + 3, none⟩ = some v3 ∧ w.cell? ⟨(ad.add (i * 5)).block, (ad.add (i * 5)).off + 4, none⟩ = some v4 := by
 have hC := Kd.F_now h
 have hil := (List.getElem?_eq_some_iff.1 hi).1
 obtain ⟨ad', e1, hc⟩ := hC.2.2 (by have := hC.1; omega)
 injection e1 with e1
 subst e1
 obtain ⟨cs, hcl, hK, hcc⟩ := hc i _ hi
 have ec : cs = [v0, v1, v2, v3, v4] := hK.1
 subst ec
 have q : ∀ j u, [v0, v1, v2, v3, v4][j]? = some u → w.cell? (ad.add (i * 5 + j)) = some u := hcc
 exact ⟨q 0 _ rfl, by rw [← add_field _ _ 1 (by omega)]; exact q 1 _ rfl, by rw [← add_field _ _ 2 (by omega)]; exact q 2 _ rfl, by rw [← add_field _ _ 3 (by omega)]; exact q 3 _ rfl, by rw [← add_field _ _ 4 (by omega)]; exact q 4 _ rfl⟩
def knU (n : Int) (L : List Rnd7) (num y : Int) : Bool := (upR L y).any fun r => decide (r.f0 = n) && decide (r.f1 = num)
theorem knU_step (n : Int) (L : List Rnd7) (num z : Int) (h0 : 0 ≤ z) (h1 : z < L.length) : knU n L num (z + 1) = (knU n L num z || (decide ((rd_T35 L z).f0 = n) && decide ((rd_T35 L z).f1 = num))) := by
 unfold knU
 rw [upR_step L z h0 h1, List.any_append]
 simp
theorem kn_law {n : Int} {L : List Rnd7} (hm : ∀ (k : Nat) (r : Rnd7), L[k]? = some r → r.f1 = ((ownR r.f0 (L.take k)).length : Int) + 1) (i k : Nat) : ((L.take k).any fun r => decide (r.f0 = n) && decide (r.f1 = (i : Int) + 1)) = decide (i < (ownR n (L.take k)).length) := by
 induction k with
 | zero => simp [ownR]
 | succ k ih =>
  rcases Nat.lt_or_ge k L.length with hk | hk
  ·have e : L.take (k + 1) = L.take k ++ [L[k]] := (List.take_append_getElem hk).symm
   rw [e, List.any_append, ih]
   have h1 := hm k _ (List.getElem?_eq_getElem hk)
   by_cases hn : L[k].f0 = n
   ·rw [ownR_yes hn, List.length_append, List.length_singleton]
    rw [hn] at h1
    simp only [List.any_cons, List.any_nil, Bool.or_false, hn, decide_true, Bool.true_and, h1]
    rw [← Bool.decide_or]
    exact decide_eq_decide.mpr (by omega)
   ·rw [ownR_no hn]
    simp [hn]
  ·rw [List.take_of_length_le (by omega), ← List.take_of_length_le hk]
   exact ih
def pndU (n : Int) (L : List Rnd7) (x : MCl) (y : Int) : List Rnd7 := (upR x.J y).drop (ownN n L x)
theorem pndU_zero (n : Int) (L : List Rnd7) (x : MCl) : pndU n L x 0 = [] := by simp [pndU, upR]
theorem pndU_all (n : Int) (L : List Rnd7) (x : MCl) : pndU n L x x.J.length = pndR n L x := by
 unfold pndU pndR
 rw [upR_all]
theorem pndU_len (n : Int) (L : List Rnd7) (x : MCl) (y : Int) : (pndU n L x y).length ≤ x.J.length := by
 unfold pndU
 rw [List.length_drop]
 have := upR_len x.J y
 omega
theorem upR_len2 (J : List Rnd7) (y : Int) (h : y ≤ J.length) : (upR J y).length = y.toNat := by
 unfold upR
 rw [List.length_take]
 omega
theorem pndU_yes {n : Int} {L : List Rnd7} {x : MCl} {y : Int} (h0 : 0 ≤ y) (h1 : y < x.J.length) (h : y.toNat < ownN n L x) : pndU n L x (y + 1) = pndU n L x y := by
 unfold pndU
 rw [List.drop_eq_nil_of_le (by rw [upR_len2 _ _ (by omega)]; omega), List.drop_eq_nil_of_le (by rw [upR_len2 _ _ (by omega)]; omega)]
theorem pndU_no {n : Int} {L : List Rnd7} {x : MCl} {y : Int} (h0 : 0 ≤ y) (h1 : y < x.J.length) (h : ¬ y.toNat < ownN n L x) : pndU n L x (y + 1) = pndU n L x y ++ [rd_T35 x.J y] := by
 unfold pndU
 rw [upR_step x.J y h0 h1, List.drop_append_of_le_length (by rw [upR_len2 _ _ (by omega)]; omega)]
theorem kn_own {n : Int} {L : List Rnd7} {x : MCl} {y : Int} (hm : ∀ (k : Nat) (r : Rnd7), L[k]? = some r → r.f1 = ((ownR r.f0 (L.take k)).length : Int) + 1) (ha : ∀ (k : Nat) (r : Rnd7), x.J[k]? = some r → r.f1 = (k : Int) + 1) (h0 : 0 ≤ y) (h1 : y < x.J.length) : knU n L (rd_T35 x.J y).f1 x.k = decide (y.toNat < ownN n L x) := by
 have e : x.J[y.toNat]? = some (rd_T35 x.J y) := by
  have : y.toNat < x.J.length := by omega
  rw [List.getElem?_eq_getElem this]
  show _ = some (x.J.getD y.toNat _)
  rw [List.getD_eq_getElem?_getD, List.getElem?_eq_getElem this]
  rfl
 have e1 := ha _ _ e
 unfold knU ownN upR
 rw [e1, Int.toNat_natCast]
 exact kn_law hm _ _
def PnM (M N : Nat → Prop) (w : World) (n : Int) (L : List Rnd7) (x : MCl) (R : HP) (v i : Value) (wr : World) : Prop := ∃ (y : Int) (A2 : Option Addr) (c2 : Nat) (rows : RawR), 0 ≤ y ∧ y ≤ (x.J.length : Int) ∧ i = .int .i64 y ∧ v = .slice A2 rows.length c2 ∧ Aside0 (Own N wr [R, nrow (Kd.raw 3) tR7 (.slice A2 rows.length c2) rows]) ∧ Aside0 (Lead M wr rows (pndU n L x y)) ∧ Aside0 (KeepS N w wr)
def PkM (M N : Nat → Prop) (w : World) (n num : Int) (L P : List Rnd7) (k : Nat) (rows : RawR) (R : List HP) (v i : Value) (wr : World) : Prop := ∃ z : Int, 0 ≤ z ∧ z ≤ (k : Int) ∧ i = .int .i64 z ∧ v = .bool (knU n L num z) ∧ Aside0 (Own N wr R) ∧ Aside0 (Lead M wr rows P) ∧ Aside0 (KeepS N w wr)
theorem DPendM {M N : Nat → Prop} {w : World} {gd cL cA : Nat} {cf : MCf} {AL : Option Addr} {aa : Addr} {L : List Rnd7} {cls : List MCl} {rc : RawR} {x : MCl} {AJ AU : Option Addr} {cJ cU : Nat} (n : Int) (h : Own N w []) (hm : CellN N w gd #[cf.cl, cf.win, cf.push, cf.pull, cf.mtu, cf.last, .slice AL L.length cL, .slice (some aa) cls.length cA] tDM) (hC : Kd.F (Kd.raw 5) w N (some aa) cls.length rc) (hrc : rc[n.toNat - 1]? = some [.int .i64 x.e, .slice AJ x.J.length cJ, .int .i64 x.k, .int .i64 x.c, .slice AU x.U.length cU]) (hM : ∀ k, M k → N k) (hl : Kd.F kR7 w N AL L.length L) (hj : Kd.F kR7 w M AJ x.J.length x.J) (hn : 1 ≤ n ∧ n ≤ cls.length) (hc4 : cls.length ≤ 64) (hmm : ∀ (k : Nat) (r : Rnd7), L[k]? = some r → r.f1 = ((ownR r.f0 (L.take k)).length : Int) + 1) (haa : ∀ (k : Nat) (r : Rnd7), x.J[k]? = some r → r.f1 = (k : Int) + 1) (hk : x.k ≤ L.length) (hJ : x.J.length ≤ 100000) (hL : L.length ≤ 100000) :
  Calls Tryd.prog 85 #[pt gd, n] w fun e_ w' => ∃ A1 c1 rows, e_ = .returned (.slice A1 (pndR n L x).length c1) ∧ Own N w' [nrow (Kd.raw 3) tR7 (.slice A1 (pndR n L x).length c1) rows] ∧ Lead M w' rows (pndR n L x) ∧ KeepS N w w' := by
 obtain ⟨m, hm_⟩ : ∃ m, n - 1 = m := ⟨_, rfl⟩
 have hw : wrap64 (n - 1) = m := by rw [← hm_]; unfold wrap64; omega
 have hp_ := eq_true (show (0 : Int) ≤ m by omega)
 have hq2 := eq_true (show m < (cls.length : Int) by omega)
 have hrm : rc[m.toNat]? = some [.int .i64 x.e, .slice AJ x.J.length cJ, .int .i64 x.k, .int .i64 x.c, .slice AU x.U.length cU] := by rw [← hm_, show (n - 1).toNat = n.toNat - 1 by omega]; exact hrc
 have HRM := Am hrm
 obtain ⟨z0, z1, z2, z3, z4⟩ := rawF5 hC hrm
 have HMN := Am hM
 have HMM := Am hmm
 have HAA := Am haa
 have HKL := Am hk
 have HJL := Am hJ
 have HCL := Am hL
 have HM_0 : Aside0 (CellN N w gd #[cf.cl, cf.win, cf.push, cf.pull, cf.mtu, cf.last, .slice AL L.length cL, .slice (some aa) cls.length cA] tDM) := ⟨hm⟩
 have HL_0 : Aside0 (Kd.F kR7 w N AL L.length L) := ⟨hl⟩
 have HJ_0 : Aside0 (Kd.F kR7 w M AJ x.J.length x.J) := ⟨hj⟩
 have HM0 := HM_0
 have HL0 := HL_0
 have HJ0 := HJ_0
 have O0 : Aside0 (Own N w []) := ⟨h⟩
 have K0 : Aside0 (KeepS N w w) := ⟨KeepS.refl _ _⟩
 have mA := blk8_ (HM_0.out.2)
 clear h hm hC hrc hrm hl hj hmm haa hk hJ hL hn hm_
 go_enter Tryd.func85, Tryd.ntmps85
 go_wp2_with (first | ((with_reducible refine gD 5 rfl ?_); refine bP 5 #[.int .i64 0, .slice none 0 0, .int .i64 0, .int .i64 0, .slice none 0 0] tDCl O0.out ?_; intro gx w1 o_ k_; obtain ⟨O1, K1⟩ := ok_ K0 o_ k_; have HM_1 := Am (CellN.keep HM_0.out k_); have HL_1 := Am (keepF HL_0.out k_); have HJ_1 := Am (keepF HJ_0.out (k_.mono HMN.out)); clear mA O0 K0 HM_0 HL_0 HJ_0; have a0 := k5_ O1 0; have mA := blk8_ (HM_1.out.2); clear o_ k_) | ((with_reducible refine gT tDCl 5 rfl ?_); refine wS 0 0 [x.e, .slice AJ x.J.length cJ, x.k, x.c, .slice AU x.U.length cU] O1 ?_; intro w2 o_ k_; obtain ⟨O2, K2⟩ := ok_ K1 o_ k_; have HM_2 := Am (CellN.keep HM_1.out k_); have HL_2 := Am (keepF HL_1.out k_); have HJ_2 := Am (keepF HJ_1.out (k_.mono HMN.out)); clear a0 mA O1 K1 HM_1 HL_1 HJ_1; have a0 := k5_ O2 0; have mA := blk8_ (HM_2.out.2); clear o_ k_) | ((with_reducible refine gD 18 rfl ?_); refine own_lit (Kd.raw 3) (N := N) (e := tR7) (xs := []) (inner := []) rfl (D := 18) rfl gs_ (Reps.none _ _) (by simp) O2.out ?_; intro B0 b0 w3 o_ k_; obtain ⟨O3, K3⟩ := ok_ K2 o_ k_; have HM_3 := Am (CellN.keep HM_2.out k_); have HL_3 := Am (keepF HL_2.out k_); have HJ_3 := Am (keepF HJ_2.out (k_.mono HMN.out)); clear a0 mA O2 K2 HM_2 HL_2 HJ_2; have a0 := k5_ O3 0; have mA := blk8_ (HM_3.out.2); clear o_ k_))
 clear a0 mA z0 z1 z2 z3 z4
 go_loopw [6, 7] (fun v i wr => PnM M N w n L x (cells gx #[x.e, .slice AJ x.J.length cJ, x.k, x.c, .slice AU x.U.length cU] tDCl) v i wr) (fun _ i _ => x.J.length - (intOf i).toNat)
 case atStart => exact ⟨0, B0, b0, [], by omega, by omega, rfl, rfl, O3, ⟨by rw [pndU_zero]; exact Lead.none _ _⟩, K3⟩
 case round =>
  clear O3 K3 HM_3 HL_3 HJ_3
  obtain ⟨y, A2, c2, rows, hy0, hy1, rfl, rfl, OA, LA, KA⟩ := hrel
  by_cases hlt : y < (x.J.length : Int)
  ·obtain ⟨aj, Bj, bj_, eJ, y0_, y1_, y2_, hbj, hFj⟩ := at_F (keepF HJ0.out (KA.out.mono HMN.out)) y hy0 hlt
   cases eJ
   clear y0_ y1_ y2_
   have HBJ := Am hbj
   clear hbj hFj
   have hs2 : wrap64 (y + 1) = y + 1 := by unfold wrap64; have := HJL.out; omega
   have hp := eq_true hy0
   have hq := eq_true hlt
   have hd := decide_eq_true hlt
   have HY := Am (And.intro hy0 hlt)
   have HKN := Am (kn_own (n := n) HMM.out HAA.out hy0 hlt)
   clear hy0 hy1 hlt
   have O4 : Aside0 (Own N wr [cells gx #[x.e, .slice (some aj) x.J.length cJ, x.k, x.c, .slice AU x.U.length cU] tDCl, nrow (Kd.raw 3) tR7 (.slice A2 rows.length c2) rows]) := ⟨OA.out⟩
   have K4 : Aside0 (KeepS N w wr) := ⟨KA.out⟩
   have HM_4 : Aside0 (CellN N wr gd #[cf.cl, cf.win, cf.push, cf.pull, cf.mtu, cf.last, .slice AL L.length cL, .slice (some aa) cls.length cA] tDM) := ⟨HM0.out.keep KA.out⟩
   have HL_4 : Aside0 (Kd.F kR7 wr N AL L.length L) := ⟨keepF HL0.out KA.out⟩
   have HJ_4 : Aside0 (Kd.F kR7 wr M (some aj) x.J.length x.J) := ⟨keepF HJ0.out (KA.out.mono HMN.out)⟩
   have HLD_4 : Aside0 (Lead M wr rows (pndU n L x y)) := ⟨LA.out⟩
   have a0 := k5_ O4 0
   have mA := blk8_ (HM_4.out.2)
   clear OA LA KA
   go_wp2
   clear a0 mA
   go_loopw [8, 9] (fun v i wr => PkM M N w n (rd_T35 x.J y).f1 L (pndU n L x y) x.k rows [cells gx #[x.e, .slice (some aj) x.J.length cJ, x.k, x.c, .slice AU x.U.length cU] tDCl, nrow (Kd.raw 3) tR7 (.slice A2 rows.length c2) rows] v i wr) (fun _ i _ => x.k - (intOf i).toNat)
   case atStart => exact ⟨0, by omega, by omega, rfl, rfl, O4, HLD_4, K4⟩
   case round =>
    clear O4 K4 HM_4 HL_4 HJ_4 HLD_4
    obtain ⟨z, hz0, hz1, rfl, rfl, OB, LB, KB⟩ := hrel
    by_cases hlz : z < (x.k : Int)
    ·obtain ⟨al, Bl, bl_, eL, s0, s1, s2, hbl, hFl⟩ := at_F (keepF HL0.out KB.out) z hz0 (by have := HKL.out; omega)
     cases eL
     clear s2 hbl hFl
     obtain ⟨aj2, Bj, bj_, eJ, t0, t1, t2, hbj, hFj⟩ := at_F (keepF HJ0.out (KB.out.mono HMN.out)) y HY.out.1 HY.out.2
     cases eJ
     clear t0 t2 hbj hFj
     have ht2 : wrap64 (z + 1) = z + 1 := by unfold wrap64; have := HKL.out; have := HCL.out; omega
     have hp3 := eq_true hz0
     have hq3 := eq_true (show z < (L.length : Int) by have := HKL.out; omega)
     have hdz := decide_eq_true hlz
     have HZ := Am (And.intro hz0 hlz)
     have HKS := Am (knU_step n L (rd_T35 x.J y).f1 z hz0 (by have := HKL.out; omega))
     clear hz0 hz1 hlz
     obtain ⟨kb, hkb⟩ : ∃ kb, knU n L (rd_T35 x.J y).f1 z = kb := ⟨_, rfl⟩
     rw [hkb] at HKS ⊢
     clear hkb
     have O5 : Aside0 (Own N wr [cells gx #[x.e, .slice (some aj) x.J.length cJ, x.k, x.c, .slice AU x.U.length cU] tDCl, nrow (Kd.raw 3) tR7 (.slice A2 rows.length c2) rows]) := ⟨OB.out⟩
     have K5 : Aside0 (KeepS N w wr) := ⟨KB.out⟩
     have HM_5 : Aside0 (CellN N wr gd #[cf.cl, cf.win, cf.push, cf.pull, cf.mtu, cf.last, .slice (some al) L.length cL, .slice (some aa) cls.length cA] tDM) := ⟨HM0.out.keep KB.out⟩
     have HLD_5 : Aside0 (Lead M wr rows (pndU n L x y)) := ⟨LB.out⟩
     have a0 := k5_ O5 0
     have mA := blk8_ (HM_5.out.2)
     clear OB LB KB
     by_cases hf0 : (rd_T35 L z).f0 = n
     ·by_cases hf1 : (rd_T35 L z).f1 = (rd_T35 x.J y).f1
      ·skip
       have df0 : ((rd_T35 L z).f0 == n) = true := beq_iff_eq.mpr hf0
       have df1 : ((rd_T35 L z).f1 == (rd_T35 x.J y).f1) = true := beq_iff_eq.mpr hf1
       have HKV : Aside0 (knU n L (rd_T35 x.J y).f1 (z + 1) = true) := ⟨by rw [HKS.out]; simp [hf0, hf1]⟩
       clear hf0 HKS hf1
       go_wp2
       refine sP (n := 27) (S := fun w' => w'.cell? ⟨gd, 6, none⟩ = some (.slice (some al) L.length cL) ∧ w'.cell? ⟨gx, 1, none⟩ = some (.slice (some aj) x.J.length cJ) ∧ w'.cell? (al.add (z.toNat * 3)) = some (.int .i64 (rd_T35 L z).f0) ∧ w'.cell? ⟨(al.add (z.toNat * 3)).block, (al.add (z.toNat * 3)).off + 1, none⟩ = some (.int .i64 (rd_T35 L z).f1) ∧ w'.cell? ⟨(aj.add (y.toNat * 3)).block, (aj.add (y.toNat * 3)).off + 1, none⟩ = some (.int .i64 (rd_T35 x.J y).f1)) (ds := []) ⟨mA.2.2.2.2.2.2.1, a0.2.1, s0, s1, t1⟩ (fun hHeld => ?_)
       obtain ⟨w6, hw_, k_, O6, K6⟩ := drw_ O5 K5
       rw [← hw_] at hHeld ⊢
       have HM_6 := Am (CellN.keep HM_5.out k_)
       have HLD_6 := Am (Lead.keep HLD_5.out (k_.mono HMN.out))
       clear a0 mA O5 K5 HM_5 HLD_5
       have a0 := k5_ O6 0
       have mA := blk8_ (HM_6.out.2)
       clear k_ hw_
       refine pP 0 (some 32) ?_
       refine pP 1 (some 33) ?_
       refine pP 2 (some 34) ?_
       refine pP 4 (some 36) ?_
       refine pP 8 (some 40) ?_
       refine tP 3 (some 35) hHeld ?_
       refine pP 5 (some 37) ?_
       refine pP 6 (some 38) ?_
       refine tP 7 (some 39) hHeld ?_
       refine pP 9 (some 41) ?_
       refine pP 10 (some 42) ?_
       refine pP 11 (some 43) ?_
       refine pP 12 (some 44) ?_
       refine pP 13 (some 45) ?_
       refine pP 15 (some 47) ?_
       refine pP 19 (some 51) ?_
       refine pP 21 (some 53) ?_
       refine tP 14 (some 46) hHeld ?_
       refine pP 16 (some 48) ?_
       refine pP 17 (some 49) ?_
       refine tP 18 (some 50) hHeld ?_
       refine tP 20 (some 52) hHeld ?_
       refine pP 22 (some 54) ?_
       refine pP 23 (some 55) ?_
       refine tP 24 (some 56) hHeld ?_
       refine pP 25 (some 57) ?_
       refine pP 26 (some 58) ?_
       refine dN ?_
       clear hHeld
       go_wp2
       go_roundw
       case rel => exact ⟨z + 1, by have := HZ.out; omega, by have := HZ.out; omega, int_eq17 (by unfold wrap64; have := HZ.out; have := HKL.out; have := HCL.out; omega), (by rw [HKV.out]), O6, HLD_6, K6⟩
       case measure => have := HZ.out; simp [intOf]; omega
      ·skip
       have df0 : ((rd_T35 L z).f0 == n) = true := beq_iff_eq.mpr hf0
       have df1 : ((rd_T35 L z).f1 == (rd_T35 x.J y).f1) = false := beq_eq_false_iff_ne.mpr hf1
       have HKV : Aside0 (knU n L (rd_T35 x.J y).f1 (z + 1) = kb) := ⟨by rw [HKS.out]; simp [hf0, hf1]⟩
       clear hf0 HKS hf1
       go_wp2
       refine sP (n := 27) (S := fun w' => w'.cell? ⟨gd, 6, none⟩ = some (.slice (some al) L.length cL) ∧ w'.cell? ⟨gx, 1, none⟩ = some (.slice (some aj) x.J.length cJ) ∧ w'.cell? (al.add (z.toNat * 3)) = some (.int .i64 (rd_T35 L z).f0) ∧ w'.cell? ⟨(al.add (z.toNat * 3)).block, (al.add (z.toNat * 3)).off + 1, none⟩ = some (.int .i64 (rd_T35 L z).f1) ∧ w'.cell? ⟨(aj.add (y.toNat * 3)).block, (aj.add (y.toNat * 3)).off + 1, none⟩ = some (.int .i64 (rd_T35 x.J y).f1)) (ds := []) ⟨mA.2.2.2.2.2.2.1, a0.2.1, s0, s1, t1⟩ (fun hHeld => ?_)
       obtain ⟨w6, hw_, k_, O6, K6⟩ := drw_ O5 K5
       rw [← hw_] at hHeld ⊢
       have HM_6 := Am (CellN.keep HM_5.out k_)
       have HLD_6 := Am (Lead.keep HLD_5.out (k_.mono HMN.out))
       clear a0 mA O5 K5 HM_5 HLD_5
       have a0 := k5_ O6 0
       have mA := blk8_ (HM_6.out.2)
       clear k_ hw_
       refine pP 0 (some 32) ?_
       refine pP 1 (some 33) ?_
       refine pP 2 (some 34) ?_
       refine pP 4 (some 36) ?_
       refine pP 8 (some 40) ?_
       refine tP 3 (some 35) hHeld ?_
       refine pP 5 (some 37) ?_
       refine pP 6 (some 38) ?_
       refine tP 7 (some 39) hHeld ?_
       refine pP 9 (some 41) ?_
       refine pP 10 (some 42) ?_
       refine pP 11 (some 43) ?_
       refine pP 12 (some 44) ?_
       refine pP 13 (some 45) ?_
       refine pP 15 (some 47) ?_
       refine pP 19 (some 51) ?_
       refine pP 21 (some 53) ?_
       refine tP 14 (some 46) hHeld ?_
       refine pP 16 (some 48) ?_
       refine pP 17 (some 49) ?_
       refine tP 18 (some 50) hHeld ?_
       refine tP 20 (some 52) hHeld ?_
       refine pP 22 (some 54) ?_
       refine pP 23 (some 55) ?_
       refine tP 24 (some 56) hHeld ?_
       refine pP 25 (some 57) ?_
       refine pP 26 (some 58) ?_
       refine dN ?_
       clear hHeld
       go_wp2
       go_roundw
       case rel => exact ⟨z + 1, by have := HZ.out; omega, by have := HZ.out; omega, int_eq17 (by unfold wrap64; have := HZ.out; have := HKL.out; have := HCL.out; omega), (by rw [HKV.out]), O6, HLD_6, K6⟩
       case measure => have := HZ.out; simp [intOf]; omega
     ·skip
      have df0 : ((rd_T35 L z).f0 == n) = false := beq_eq_false_iff_ne.mpr hf0
      have HKV : Aside0 (knU n L (rd_T35 x.J y).f1 (z + 1) = kb) := ⟨by rw [HKS.out]; simp [hf0]⟩
      clear hf0 HKS
      go_wp2
      refine sP (n := 27) (S := fun w' => w'.cell? ⟨gd, 6, none⟩ = some (.slice (some al) L.length cL) ∧ w'.cell? ⟨gx, 1, none⟩ = some (.slice (some aj) x.J.length cJ) ∧ w'.cell? (al.add (z.toNat * 3)) = some (.int .i64 (rd_T35 L z).f0) ∧ w'.cell? ⟨(al.add (z.toNat * 3)).block, (al.add (z.toNat * 3)).off + 1, none⟩ = some (.int .i64 (rd_T35 L z).f1) ∧ w'.cell? ⟨(aj.add (y.toNat * 3)).block, (aj.add (y.toNat * 3)).off + 1, none⟩ = some (.int .i64 (rd_T35 x.J y).f1)) (ds := []) ⟨mA.2.2.2.2.2.2.1, a0.2.1, s0, s1, t1⟩ (fun hHeld => ?_)
      obtain ⟨w6, hw_, k_, O6, K6⟩ := drw_ O5 K5
      rw [← hw_] at hHeld ⊢
      have HM_6 := Am (CellN.keep HM_5.out k_)
      have HLD_6 := Am (Lead.keep HLD_5.out (k_.mono HMN.out))
      clear a0 mA O5 K5 HM_5 HLD_5
      have a0 := k5_ O6 0
      have mA := blk8_ (HM_6.out.2)
      clear k_ hw_
      refine pP 0 (some 32) ?_
      refine pP 1 (some 33) ?_
      refine pP 2 (some 34) ?_
      refine pP 4 (some 36) ?_
      refine pP 8 (some 40) ?_
      refine tP 3 (some 35) hHeld ?_
      refine pP 5 (some 37) ?_
      refine pP 6 (some 38) ?_
      refine tP 7 (some 39) hHeld ?_
      refine pP 9 (some 41) ?_
      refine pP 10 (some 42) ?_
      refine pS 11 (some 43) ?_
      refine pS 12 (some 44) ?_
      refine pS 13 (some 45) ?_
      refine pS 15 (some 47) ?_
      refine pS 19 (some 51) ?_
      refine pS 21 (some 53) ?_
      refine tS 14 (some 46) hHeld ?_
      refine pS 16 (some 48) ?_
      refine pS 17 (some 49) ?_
      refine tS 18 (some 50) hHeld ?_
      refine tS 20 (some 52) hHeld ?_
      refine pS 22 (some 54) ?_
      refine pS 23 (some 55) ?_
      refine tS 24 (some 56) hHeld ?_
      refine pS 25 (some 57) ?_
      refine pP 26 (some 58) ?_
      refine dN ?_
      clear hHeld
      go_wp2
      go_roundw
      case rel => exact ⟨z + 1, by have := HZ.out; omega, by have := HZ.out; omega, int_eq17 (by unfold wrap64; have := HZ.out; have := HKL.out; have := HCL.out; omega), (by rw [HKV.out]), O6, HLD_6, K6⟩
      case measure => have := HZ.out; simp [intOf]; omega
    ·have hze : z = (x.k : Int) := by omega
     subst hze
     have hdz : decide ((x.k : Int) < (x.k : Int)) = false := decide_eq_false (Int.lt_irrefl _)
     rw [HKN.out]
     clear hlz hz0 hz1
     by_cases hkn : y.toNat < ownN n L x
     ·have hdk := decide_eq_true hkn
      have HQ := Am hkn
      rw [hdk]
      clear hkn hdk HKN
      have O5 : Aside0 (Own N wr [cells gx #[x.e, .slice (some aj) x.J.length cJ, x.k, x.c, .slice AU x.U.length cU] tDCl, nrow (Kd.raw 3) tR7 (.slice A2 rows.length c2) rows]) := ⟨OB.out⟩
      have K5 : Aside0 (KeepS N w wr) := ⟨KB.out⟩
      have HLD_5 : Aside0 (Lead M wr rows (pndU n L x y)) := ⟨LB.out⟩
      have a0 := k5_ O5 0
      clear OB LB KB
      go_wp2
      go_roundw
      case rel => exact ⟨y + 1, A2, c2, rows, by have := HY.out; omega, by have := HY.out; omega, int_eq17 (by unfold wrap64; have := HY.out; have := HJL.out; omega), rfl, O5, ⟨by rw [pndU_yes HY.out.1 HY.out.2 HQ.out]; exact HLD_5.out⟩, K5⟩
      case measure => have := HY.out; simp [intOf]; omega
     ·have hdk := decide_eq_false hkn
      have HQ := Am hkn
      rw [hdk]
      clear hkn hdk HKN
      obtain ⟨aj2, Bj, bj_, eJ, t0, t1, t2, hbj, hFj⟩ := at_F (keepF HJ0.out (KB.out.mono HMN.out)) y HY.out.1 HY.out.2
      cases eJ
      have HBL := Am hbj
      have HFJ := Am hFj
      clear hbj hFj
      have HRWL : Aside0 (rows.length ≤ x.J.length) := ⟨by rw [LB.out.1]; exact pndU_len _ _ _ _⟩
      have O5 : Aside0 (Own N wr [cells gx #[x.e, .slice (some aj) x.J.length cJ, x.k, x.c, .slice AU x.U.length cU] tDCl, nrow (Kd.raw 3) tR7 (.slice A2 rows.length c2) rows]) := ⟨OB.out⟩
      have K5 : Aside0 (KeepS N w wr) := ⟨KB.out⟩
      have HLD_5 : Aside0 (Lead M wr rows (pndU n L x y)) := ⟨LB.out⟩
      have HFE_5 : Aside0 (Kd.F kU7 wr M Bj (rd_T35 x.J y).f2.length (rd_T35 x.J y).f2) := ⟨HFJ.out⟩
      have a0 := k5_ O5 0
      clear OB LB KB
      go_wp2_with (first | ((with_reducible refine gD 67 rfl ?_); refine own_lit (Kd.raw 3) (N := N) (e := tR7) (xs := [rw3 (rd_T35 x.J y).f0 (rd_T35 x.J y).f1 (.slice Bj (rd_T35 x.J y).f2.length bj_)]) (inner := [.int .i64 (rd_T35 x.J y).f0, .int .i64 (rd_T35 x.J y).f1, .slice Bj (rd_T35 x.J y).f2.length bj_]) rfl (D := 67) rfl gs_ ?hp (by show 1 ≤ 9223372036854775807; decide) O5.out ?_; (case hp => exact repW _ _ _ _ _ _); intro B1 b1 w6 o_ k_; obtain ⟨O6, K6⟩ := ok_ K5 o_ k_; have HLD_6 := Am (Lead.keep HLD_5.out (k_.mono HMN.out)); have HFE_6 := Am (keepF HFE_5.out (k_.mono HMN.out)); clear a0 O5 K5 HLD_5 HFE_5 o_ k_; have a0 := k5_ O6 0) | ((with_reducible refine gate_builtin (b := .append) (xs := #[.tmp 61, .tmp 67]) rfl ?_); at_builtin; refine Own.append_flat (Kd.raw 3) flatRaw O6.out (i := 1) (ys := [rw3 (rd_T35 x.J y).f0 (rd_T35 x.J y).f1 (.slice Bj (rd_T35 x.J y).f2.length bj_)]) rfl ((O6.out.nreads (i := 2) rfl).2.2) rfl (.tmp 61) (.tmp 67) 40 ((.agg #[.int .i64 0, .int .i64 0, .slice none 0 0])) 40 rfl Tryd.underlying40 infoR rfl (by decide) (by decide) rfl rfl (by have := HRWL.out; have := HJL.out; first | omega | (simp only [List.length_append, List.length_singleton]; omega)) ?_; intro A4 c4 w7 o_ k_; obtain ⟨O7, K7⟩ := ok_ K6 o_ k_; have HLD_7 := Am (Lead.keep HLD_6.out (k_.mono HMN.out)); have HFE_7 := Am (keepF HFE_6.out (k_.mono HMN.out)); clear a0 O6 K6 HLD_6 HFE_6 o_ k_; have a0 := k5_ O7 0))
      go_roundw
      case rel => exact ⟨y + 1, A4, c4, rows ++ [rw3 (rd_T35 x.J y).f0 (rd_T35 x.J y).f1 (.slice Bj (rd_T35 x.J y).f2.length bj_)], by have := HY.out; omega, by have := HY.out; omega, int_eq17 (by unfold wrap64; have := HY.out; have := HJL.out; omega), slice_len17 (by rw [List.length_append]; rfl), ⟨O7.out.take 2⟩, ⟨by rw [pndU_no HY.out.1 HY.out.2 HQ.out]; exact HLD_7.out.append (Lead.one HBL.out HFE_7.out)⟩, K7⟩
      case measure => have := HY.out; simp [intOf]; omega
  ·have hye : y = (x.J.length : Int) := by omega
   subst hye
   have hd : decide ((x.J.length : Int) < (x.J.length : Int)) = false := decide_eq_false (Int.lt_irrefl _)
   rw [pndU_all] at LA
   clear hlt hy0 hy1
   have O4 : Aside0 (Own N wr [cells gx #[x.e, .slice AJ x.J.length cJ, x.k, x.c, .slice AU x.U.length cU] tDCl, nrow (Kd.raw 3) tR7 (.slice A2 rows.length c2) rows]) := ⟨OA.out⟩
   have K4 : Aside0 (KeepS N w wr) := ⟨KA.out⟩
   have HLD_4 : Aside0 (Lead M wr rows (pndR n L x)) := ⟨LA.out⟩
   have a0 := k5_ O4 0
   clear OA KA LA
   go_wp2
   go_ret
   exact ⟨A2, c2, rows, by show Ending.returned (.slice A2 rows.length c2) = _; rw [HLD_4.out.1], by rw [← HLD_4.out.1]; exact O4.out.pick1 (a := 1) rfl, HLD_4.out, K4.out⟩
section
variable {N : Nat → Prop} {w : World} {l : List HP} {k e n c i : Nat} {ad : Addr} {rows : RawR} {v0 v1 v2 v3 v4 : Value}
theorem Own.rawset (f : Nat) {r : List Value} {u : Value} (h : Own N w l) (hk : l[k]? = some (nrow (Kd.raw 5) e (.slice (some ad) n c) (rows.set i r))) (hi : i < rows.length) (hf : f < 5) (hu : u.oneCell' = true) :
  Own N (w.setCell ⟨(ad.add (i * 5)).block, (ad.add (i * 5)).off + f, none⟩ u) (l.set k (nrow (Kd.raw 5) e (.slice (some ad) n c) (rows.set i (r.set f u)))) ∧ KeepS N w (w.setCell ⟨(ad.add (i * 5)).block, (ad.add (i * 5)).off + f, none⟩ u) := by
 have q := Own.rawput f h hk (List.getElem?_set_self hi) hf hu _ rfl
 rwa [List.set_set] at q
theorem Own.rawset0 {r : List Value} {u : Value} (h : Own N w l) (hk : l[k]? = some (nrow (Kd.raw 5) e (.slice (some ad) n c) (rows.set i r))) (hi : i < rows.length) (hu : u.oneCell' = true) :
  Own N (w.setCell (ad.add (i * 5)) u) (l.set k (nrow (Kd.raw 5) e (.slice (some ad) n c) (rows.set i (r.set 0 u)))) ∧ KeepS N w (w.setCell (ad.add (i * 5)) u) := by
 have q := Own.rawset 0 h hk hi (by decide) hu
 have hlt : k < l.length := (List.getElem?_eq_some_iff.1 hk).1
 obtain ⟨F0, hF0⟩ := (h.nrow_row (loose_raw 5) hk).fact (List.getElem?_set_self hlt)
 have h3 := (Kd.R_reads' hF0).1
 rw [List.length_set] at h3
 obtain ⟨g, eg⟩ := R_some hF0 (by omega)
 injection eg with eg
 have e0 : (⟨(ad.add (i * 5)).block, (ad.add (i * 5)).off + 0, none⟩ : Addr) = ad.add (i * 5) := by rw [eg, adrD, adrD0]
 rwa [e0] at q
theorem D_set (h : Own N w l) (hk : l[k]? = some (nrow (Kd.raw 5) e (.slice (some ad) n c) (rows.set i [v0, v1, v2, v3, v4]))) (hi : i < rows.length) :
  (w.cell? (ad.add (i * 5)) = some v0 ∧ w.cell? ⟨(ad.add (i * 5)).block, (ad.add (i * 5)).off + 1, none⟩ = some v1 ∧ w.cell? ⟨(ad.add (i * 5)).block, (ad.add (i * 5)).off + 2, none⟩ = some v2 ∧ w.cell? ⟨(ad.add (i * 5)).block, (ad.add (i * 5)).off + 3, none⟩ = some v3 ∧ w.cell? ⟨(ad.add (i * 5)).block, (ad.add (i * 5)).off + 4, none⟩ = some v4) ∧
  w.frozen? (ad.add (i * 5)) = false ∧ w.frozen? ⟨(ad.add (i * 5)).block, (ad.add (i * 5)).off + 1, none⟩ = false ∧ w.frozen? ⟨(ad.add (i * 5)).block, (ad.add (i * 5)).off + 2, none⟩ = false ∧ w.frozen? ⟨(ad.add (i * 5)).block, (ad.add (i * 5)).off + 3, none⟩ = false ∧ w.frozen? ⟨(ad.add (i * 5)).block, (ad.add (i * 5)).off + 4, none⟩ = false := D_cells h hk (List.getElem?_set_self hi)
end
section
variable {N F : Nat → Prop} {w w' : World} {gd : Nat} {cf : MCf} {L : List Rnd7} {cls : List MCl}
theorem DocM.at2 {i : Nat} {x : MCl} (h : Own N w [DocM gd cf L cls]) (hx : cls[i]? = some x) : ∃ (AL : Option Addr) (cL : Nat) (aa : Addr) (cA : Nat) (rL : RawR) (ds : List DcT) (rJ : RawR) (AJ : Option Addr) (cJ : Nat) (AU : Option Addr) (cU : Nat) (rc : RawR), rc = rowsD ds cls ∧ i < rc.length ∧ (ds.length = cls.length ∧ rL.length = L.length ∧ rJ.length = x.J.length) ∧ ds[i]? = some (.slice AJ x.J.length cJ, .slice AU x.U.length cU, rJ) ∧
  Own N w [cells gd #[cf.cl, cf.win, cf.push, cf.pull, cf.mtu, cf.last, .slice AL L.length cL, .slice (some aa) cls.length cA] tDM, poolD rL L ds cls, bigs ((dclI ds cls).set i emp), nrow (Kd.raw 5) tDCl (.slice (some aa) cls.length cA) (rc.set i [x.e, .slice AJ x.J.length cJ, x.k, x.c, .slice AU x.U.length cU]), nrow (Kd.raw 3) tR7 (.slice AL L.length cL) rL, nrow kU7 tU7 (.slice AU x.U.length cU) x.U, nrow (Kd.raw 3) tR7 (.slice AJ x.J.length cJ) rJ] := by
 obtain ⟨AL, cL, aa, cA, rL, ds, rJ, AJ, cJ, AU, cU, hh, hdi, h2⟩ := DocM.at h hx
 have hr := zw_get rowD hdi hx
 refine ⟨AL, cL, aa, cA, rL, ds, rJ, AJ, cJ, AU, cU, rowsD ds cls, rfl, (List.getElem?_eq_some_iff.1 hr).1, hh, hdi, ?_⟩
 rw [set_same hr]
 exact h2
theorem DocM.backU {i : Nat} {x x' : MCl} {ds : List DcT} {rc rL rJ : RawR} {vL vA vJ vU vU' : Value} (hx : cls[i]? = some x) (hq : ds.length = cls.length) (hd : ds[i]? = some (vJ, vU, rJ)) (he : rc = rowsD ds cls) (hJ : x'.J = x.J)
  (h : Own N w [cells gd (modC cf vL vA) tDM, poolD rL L ds cls, bigs ((dclI ds cls).set i emp), nrow (Kd.raw 5) tDCl vA (rc.set i [x'.e, vJ, x'.k, x'.c, vU']), nrow (Kd.raw 3) tR7 vL rL, nrow kU7 tU7 vU' x'.U, nrow (Kd.raw 3) tR7 vJ rJ]) : Own N w [DocM gd cf L (cls.set i x')] := by
 subst he
 exact DocM.back (rL := rL) (d' := (vJ, vU', rJ)) hx hq hd (pool_same hx hd hJ rfl) h
end
theorem DPendP (p : Nat) {N : Nat → Prop} {w : World} {gd cL cA : Nat} {cf : MCf} {AL : Option Addr} {aa : Addr} {L : List Rnd7} {cls : List MCl} {rc : RawR} {x : MCl} {AJ AU : Option Addr} {cJ cU : Nat} (n : Int) (hp : (pndR n L x).length = p) (h : Own N w []) (hm : CellN N w gd #[cf.cl, cf.win, cf.push, cf.pull, cf.mtu, cf.last, .slice AL L.length cL, .slice (some aa) cls.length cA] tDM) (hC : Kd.F (Kd.raw 5) w N (some aa) cls.length rc) (hrc : rc[n.toNat - 1]? = some [.int .i64 x.e, .slice AJ x.J.length cJ, .int .i64 x.k, .int .i64 x.c, .slice AU x.U.length cU]) (hl : Kd.F kR7 w N AL L.length L) (hj : Kd.F kR7 w N AJ x.J.length x.J) (hn : 1 ≤ n ∧ n ≤ cls.length) (hc4 : cls.length ≤ 64) (hmm : ∀ (k : Nat) (r : Rnd7), L[k]? = some r → r.f1 = ((ownR r.f0 (L.take k)).length : Int) + 1) (haa : ∀ (k : Nat) (r : Rnd7), x.J[k]? = some r → r.f1 = (k : Int) + 1) (hk : x.k ≤ L.length) (hJ : x.J.length ≤ 100000) (hL : L.length ≤ 100000) :
  Calls Tryd.prog 85 #[pt gd, n] w fun e_ w' => ∃ A1 c1 rows, e_ = .returned (.slice A1 p c1) ∧ Own N w' [nrow (Kd.raw 3) tR7 (.slice A1 p c1) rows] ∧ Lead N w' rows (pndR n L x) ∧ KeepS N w w' := by
 subst hp
 exact DPendM n h hm hC hrc (fun _ h => h) hl hj hn hc4 hmm haa hk hJ hL
section
variable {P : Program} {ops : Array Oper} {rest : List Oper} {o : Oper} {a : Act} {Q : Exit → Act → World → Prop} {Kc : Act → World → Prop} {N : Nat → Prop} {W : World} {l : List HP} {e n c i : Nat} {ad : Addr} {rows : RawR}
theorem wR (k : Nat) (f : Nat) (u : Value) {r : List Value} {t : TypeId} {p : Tmp} {v : Operand} (h : Aside0 (Own N W l)) (hil : Aside0 (i < rows.length)) (kk : ∀ w', Own N w' (l.set k (nrow (Kd.raw 5) e (.slice (some ad) n c) (rows.set i (r.set f u)))) → KeepS N W w' → wpList P ops Q rest a w') (hk : l[k]? = some (nrow (Kd.raw 5) e (.slice (some ad) n c) (rows.set i r)) := by rfl) (ho : o.op = .store t (.tmp p) v := by rfl) (hN : o.dst = none := by rfl) (hgd : o.guard = none := by rfl) (hu : u.oneCell' = true := by rfl) (hf : f < 5 := by decide) (hrun : (execOp a.eval o).run P W = .ok .skip (W.setCell ⟨(ad.add (i * 5)).block, (ad.add (i * 5)).off + f, none⟩ u) := by first | (go_simp; done) | (go_simp; rfl)) : wpList P ops Q (o :: rest) a W := own_store hgd ho hN hrun (Own.rawset f h.out hk hil.out hf hu).1 (Own.rawset f h.out hk hil.out hf hu).2 kk
theorem wR0 (k : Nat) (u : Value) {r : List Value} {t : TypeId} {p : Tmp} {v : Operand} (h : Aside0 (Own N W l)) (hil : Aside0 (i < rows.length)) (kk : ∀ w', Own N w' (l.set k (nrow (Kd.raw 5) e (.slice (some ad) n c) (rows.set i (r.set 0 u)))) → KeepS N W w' → wpList P ops Q rest a w') (hk : l[k]? = some (nrow (Kd.raw 5) e (.slice (some ad) n c) (rows.set i r)) := by rfl) (ho : o.op = .store t (.tmp p) v := by rfl) (hN : o.dst = none := by rfl) (hgd : o.guard = none := by rfl) (hu : u.oneCell' = true := by rfl) (hrun : (execOp a.eval o).run P W = .ok .skip (W.setCell (ad.add (i * 5)) u) := by first | (go_simp; done) | (go_simp; rfl)) : wpList P ops Q (o :: rest) a W := own_store hgd ho hN hrun (Own.rawset0 h.out hk hil.out hu).1 (Own.rawset0 h.out hk hil.out hu).2 kk
theorem xR (k : Nat) (f : Nat) (u : Value) {r : List Value} (h : Aside0 (Own N W l)) (hil : Aside0 (i < rows.length)) (kk : ∀ w', Own N w' (l.set k (nrow (Kd.raw 5) e (.slice (some ad) n c) (rows.set i (r.set f u)))) → KeepS N W w' → Kc a w') (hk : l[k]? = some (nrow (Kd.raw 5) e (.slice (some ad) n c) (rows.set i r)) := by rfl) (hN : o.dst = none := by rfl) (hw : Region.wanted o (yielded ops a.tmps) = true := by rfl) (hu : u.oneCell' = true := by rfl) (hf : f < 5 := by decide) (hrun : (execOp a.eval o).run P W = .ok .skip (W.setCell ⟨(ad.add (i * 5)).block, (ad.add (i * 5)).off + f, none⟩ u) := by first | (go_simp; done) | (go_simp; rfl)) : if Region.wanted o (yielded ops a.tmps) = true then Oper.wp P o a W Kc Q else Kc (a.put none undef) W := own_store_step hw hN hrun (Own.rawset f h.out hk hil.out hf hu).1 (Own.rawset f h.out hk hil.out hf hu).2 kk
end
theorem DLook {N : Nat → Prop} {w : World} {gd cL cA : Nat} {cf : MCf} {AL : Option Addr} {aa : Addr} {L : List Rnd7} {cls : List MCl} {rc : RawR} {x : MCl} {AJ AU : Option Addr} {cJ cU : Nat} (n : Int) (h : Own N w []) (hm : CellN N w gd #[cf.cl, cf.win, cf.push, cf.pull, cf.mtu, cf.last, .slice AL L.length cL, .slice (some aa) cls.length cA] tDM) (hC : Kd.F (Kd.raw 5) w N (some aa) cls.length rc) (hrc : rc[n.toNat - 1]? = some [.int .i64 x.e, .slice AJ x.J.length cJ, .int .i64 x.k, .int .i64 x.c, .slice AU x.U.length cU]) (hl : Kd.F kR7 w N AL L.length L) (hj : Kd.F kR7 w N AJ x.J.length x.J) (hn : 1 ≤ n ∧ n ≤ cls.length) (hc4 : cls.length ≤ 64) (hmm : ∀ (k : Nat) (r : Rnd7), L[k]? = some r → r.f1 = ((ownR r.f0 (L.take k)).length : Int) + 1) (haa : ∀ (k : Nat) (r : Rnd7), x.J[k]? = some r → r.f1 = (k : Int) + 1) (hk : x.k ≤ L.length) (hJ : x.J.length ≤ 100000) (hL : L.length ≤ 100000) :
  Calls Tryd.prog 50 #[pt gd, n] w fun e_ w' => e_ = .returned (lookV n L x) ∧ Own N w' [] ∧ KeepS N w w' := by
 obtain ⟨m, hm_⟩ : ∃ m, n - 1 = m := ⟨_, rfl⟩
 have hw : wrap64 (n - 1) = m := by rw [← hm_]; unfold wrap64; omega
 have hp_ := eq_true (show (0 : Int) ≤ m by omega)
 have hq2 := eq_true (show m < (cls.length : Int) by omega)
 have hrm : rc[m.toNat]? = some [.int .i64 x.e, .slice AJ x.J.length cJ, .int .i64 x.k, .int .i64 x.c, .slice AU x.U.length cU] := by rw [← hm_, show (n - 1).toNat = n.toNat - 1 by omega]; exact hrc
 have HRM := Am hrm
 obtain ⟨p, hp⟩ : ∃ p, (pndR n L x).length = p := ⟨_, rfl⟩
 have HPP := Am hp
 have HN := Am hn
 have HB := Am hc4
 have HMM := Am hmm
 have HAA := Am haa
 have HKL := Am hk
 have HJL := Am hJ
 have HLL := Am hL
 have HRC := Am hrc
 have HM_0 : Aside0 (CellN N w gd #[cf.cl, cf.win, cf.push, cf.pull, cf.mtu, cf.last, .slice AL L.length cL, .slice (some aa) cls.length cA] tDM) := ⟨hm⟩
 have HC_0 : Aside0 (Kd.F (Kd.raw 5) w N (some aa) cls.length rc) := ⟨hC⟩
 have HL_0 : Aside0 (Kd.F kR7 w N AL L.length L) := ⟨hl⟩
 have HJ_0 : Aside0 (Kd.F kR7 w N AJ x.J.length x.J) := ⟨hj⟩
 have O0 : Aside0 (Own N w []) := ⟨h⟩
 have K0 : Aside0 (KeepS N w w) := ⟨KeepS.refl _ _⟩
 have mA := blk8_ (HM_0.out.2)
 obtain ⟨z0, z1, z2, z3, z4⟩ := rawF5 HC_0.out HRM.out
 clear h hm hC hl hj hn hc4 hmm haa hk hJ hL hrc hrm hm_ hp
 go_enter Tryd.func50, Tryd.ntmps50
 go_wp2_with (first | ((with_reducible refine gD 4 rfl ?_); refine bP 4 #[.int .i64 0, .int .i64 0, .int .i64 0, .int .i64 0, .int .i64 0, .int .i64 0] 75 O0.out ?_; intro gl w1 o_ k_; obtain ⟨O1, K1⟩ := ok_ K0 o_ k_; have HM_1 := Am (CellN.keep HM_0.out k_); have HC_1 := Am (keepF HC_0.out k_); have HL_1 := Am (keepF HL_0.out k_); have HJ_1 := Am (keepF HJ_0.out k_); clear mA z0 z1 z2 z3 z4 O0 K0 HM_0 HC_0 HL_0 HJ_0; have a0 := k6_ O1 0; have mA := blk8_ (HM_1.out.2); obtain ⟨z0, z1, z2, z3, z4⟩ := rawF5 HC_1.out HRM.out; clear o_ k_) | ((with_reducible refine gD 5 rfl ?_); refine bP 5 #[.int .i64 0, .slice none 0 0, .int .i64 0, .int .i64 0, .slice none 0 0] tDCl O1.out ?_; intro gx w2 o_ k_; obtain ⟨O2, K2⟩ := ok_ K1 o_ k_; have HM_2 := Am (CellN.keep HM_1.out k_); have HC_2 := Am (keepF HC_1.out k_); have HL_2 := Am (keepF HL_1.out k_); have HJ_2 := Am (keepF HJ_1.out k_); clear a0 mA z0 z1 z2 z3 z4 O1 K1 HM_1 HC_1 HL_1 HJ_1; have a0 := k6_ O2 0; have a1 := k5_ O2 1; have mA := blk8_ (HM_2.out.2); obtain ⟨z0, z1, z2, z3, z4⟩ := rawF5 HC_2.out HRM.out; clear o_ k_) | ((with_reducible refine gT tDCl 5 rfl ?_); refine wS 1 0 [x.e, .slice AJ x.J.length cJ, x.k, x.c, .slice AU x.U.length cU] O2 ?_; intro w3 o_ k_; obtain ⟨O3, K3⟩ := ok_ K2 o_ k_; have HM_3 := Am (CellN.keep HM_2.out k_); have HC_3 := Am (keepF HC_2.out k_); have HL_3 := Am (keepF HL_2.out k_); have HJ_3 := Am (keepF HJ_2.out k_); clear a0 a1 mA z0 z1 z2 z3 z4 O2 K2 HM_2 HC_2 HL_2 HJ_2; have a0 := k6_ O3 0; have a1 := k5_ O3 1; have mA := blk8_ (HM_3.out.2); obtain ⟨z0, z1, z2, z3, z4⟩ := rawF5 HC_3.out HRM.out; clear o_ k_))
 refine sP (n := 15) (S := c5_ gx (.int .i64 x.e) (.slice AJ x.J.length cJ) (.int .i64 x.k) (.int .i64 x.c) (.slice AU x.U.length cU)) (ds := []) (p5_ a1) (fun hHeld => ?_)
 obtain ⟨w4, hw_, k_, O4, K4⟩ := drw_ O3 K3
 rw [← hw_] at hHeld ⊢
 have HM_4 := Am (CellN.keep HM_3.out k_)
 have HC_4 := Am (keepF HC_3.out k_)
 have HL_4 := Am (keepF HL_3.out k_)
 have HJ_4 := Am (keepF HJ_3.out k_)
 clear a0 a1 mA z0 z1 z2 z3 z4 O3 K3 HM_3 HC_3 HL_3 HJ_3
 have a0 := k6_ O4 0
 have a1 := k5_ O4 1
 have mA := blk8_ (HM_4.out.2)
 obtain ⟨z0, z1, z2, z3, z4⟩ := rawF5 HC_4.out HRM.out
 clear k_ hw_
 refine pP 0 (some 14) ?_
 refine pP 2 (some 16) ?_
 refine pP 4 (some 18) ?_
 refine pP 5 (some 19) ?_
 refine pP 8 (some 22) ?_
 refine pP 11 (some 25) ?_
 refine tP 1 (some 15) hHeld ?_
 refine tP 3 (some 17) hHeld ?_
 refine tP 9 (some 23) hHeld ?_
 refine pP 10 (some 24) ?_
 refine tP 12 (some 26) hHeld ?_
 refine oP 6 (some 20) (fun K_ hK_ => ?_)
 refine hP Tryd.func85 #[pt gd, n] ?_
 obtain ⟨N_, on_, nn_, rr_, bb_⟩ := O4.out.frame0
 refine (DPendP p n HPP.out on_ (CellN.mono HM_4.out nn_) (Kd.F_mono HC_4.out nn_) HRC.out (Kd.F_mono HL_4.out nn_) (Kd.F_mono HJ_4.out nn_) HN.out HB.out HMM.out HAA.out HKL.out HJL.out HLL.out).mono ?_
 rintro e_ w5 ⟨A9, c9, r9, rfl, oo_, _, kk_⟩
 obtain ⟨o_, k_⟩ := bb_ _ _ kk_ oo_
 refine ⟨_, rfl, ?_⟩
 obtain ⟨O5, K5⟩ := ok_ K4 o_ k_
 have HM_5 := Am (CellN.keep HM_4.out k_)
 have HC_5 := Am (keepF HC_4.out k_)
 have HL_5 := Am (keepF HL_4.out k_)
 have HJ_5 := Am (keepF HJ_4.out k_)
 clear a0 a1 mA z0 z1 z2 z3 z4 O4 K4 HM_4 HC_4 HL_4 HJ_4
 have a0 := k6_ O5 0
 have a1 := k5_ O5 1
 have mA := blk8_ (HM_5.out.2)
 obtain ⟨z0, z1, z2, z3, z4⟩ := rawF5 HC_5.out HRM.out
 clear o_ k_ oo_ kk_ on_ nn_ rr_ bb_ hHeld
 refine hK_.out _ _ (p5_ a1) (fun hHeld => ?_)
 clear hK_ K_
 refine nP ?_
 refine pP 7 (some 21) ?_
 refine pP 13 (some 27) ?_
 refine oP 14 none (fun K_ hK_ => ?_)
 refine xS 0 0 [x.e, x.k, (p : Int), x.U.length, x.c, .int .i64 0] O5 ?_
 intro w6 o_ k_
 obtain ⟨O6, K6⟩ := ok_ K5 o_ k_
 have HM_6 := Am (CellN.keep HM_5.out k_)
 have HC_6 := Am (keepF HC_5.out k_)
 have HL_6 := Am (keepF HL_5.out k_)
 have HJ_6 := Am (keepF HJ_5.out k_)
 clear a0 a1 mA z0 z1 z2 z3 z4 O5 K5 HM_5 HC_5 HL_5 HJ_5
 have a0 := k6_ O6 0
 have a1 := k5_ O6 1
 have mA := blk8_ (HM_6.out.2)
 obtain ⟨z0, z1, z2, z3, z4⟩ := rawF5 HC_6.out HRM.out
 clear o_ k_ hHeld
 refine hK_.out _ _ (p5_ a1) (fun hHeld => ?_)
 clear hK_ K_
 refine dN ?_
 clear hHeld
 go_wp2
 refine bodyPost_ret (results_cell_row rfl _ _ gl 75 #[x.e, x.k, (p : Int), x.U.length, x.c, .int .i64 0] (0, 0) _ rfl (O6.out.blk (i := 0) rfl) Tryd.underlying75 rfl (by kernel_rfl)) rfl ?_
 exact ⟨by rw [← HPP.out]; unfold lookV pndR; rw [List.length_drop], O6.out.take 0, K6.out⟩
theorem DLook_i {x : Nat} {N : Nat → Prop} {w : World} {gd : Nat} {cf : MCf} {L : List Rnd7} {cls : List MCl} (n : Int) {y : MCl} (h : Own N w [DocM gd cf L cls]) (hi : MInv cf x L cls) (hc : CfOk cf) (hx4 : x ≤ 400) (hy : clAt cls n = some y) :
  Calls Tryd.prog 50 #[pt gd, n] w fun e_ w' => e_ = .returned (lookV n L y) ∧ Own N w' [DocM gd cf L cls] ∧ KeepS N w w' := by
 obtain ⟨hn, hx⟩ := clAt_some hy
 have h64 := hi.len hc
 have hl4 := hi.l
 have hk := hi.c n y hy
 obtain ⟨N_, on_, nn_, rr_, bb_⟩ := h.frame0
 obtain ⟨AL, cL, aa, cA, ds, AJ, cJ, AU, cU, rJ, ⟨e1, e2, e3⟩, hrc, hm, hC, hl, hj, hu⟩ := DocM.view (rr_ 0 _ rfl) hx
 exact (DLook n on_ hm hC hrc hl hj hn h64 hi.m (fun k r hr => (hk.a k r hr).2) (by have := hk.k; omega) (by have := hk.j; omega) (by omega)).mono fun e_ w' ⟨a, b, c⟩ => ⟨a, (bb_ w' [] c b).1, (bb_ w' [] c b).2⟩
theorem DCome_lo {N : Nat → Prop} {w : World} {gd cL cA : Nat} {cf : MCf} {AL : Option Addr} {aa : Option Addr} {L : List Rnd7} {cls : List MCl} (n : Int) (h : Own N w []) (hm : CellN N w gd #[cf.cl, cf.win, cf.push, cf.pull, cf.mtu, cf.last, .slice AL L.length cL, .slice aa cls.length cA] tDM) (hn : n < 1) :
  Calls Tryd.prog 48 #[pt gd, n] w fun e_ w' => e_ = .returned (.bool false) ∧ Own N w' [] ∧ KeepS N w w' := by
 have g1 : decide (n < 1) = true := decide_eq_true hn
 have HM_0 : Aside0 (CellN N w gd #[cf.cl, cf.win, cf.push, cf.pull, cf.mtu, cf.last, .slice AL L.length cL, .slice aa cls.length cA] tDM) := ⟨hm⟩
 have O0 : Aside0 (Own N w []) := ⟨h⟩
 have K0 : Aside0 (KeepS N w w) := ⟨KeepS.refl _ _⟩
 have mA := blk8_ (HM_0.out.2)
 clear h hm hn
 go_enter Tryd.func48, Tryd.ntmps48
 go_wp2
 go_ret
 exact ⟨rfl, O0.out, K0.out⟩
theorem DCome_hi {N : Nat → Prop} {w : World} {gd cL cA : Nat} {cf : MCf} {AL : Option Addr} {aa : Option Addr} {L : List Rnd7} {cls : List MCl} (n : Int) (h : Own N w []) (hm : CellN N w gd #[cf.cl, cf.win, cf.push, cf.pull, cf.mtu, cf.last, .slice AL L.length cL, .slice aa cls.length cA] tDM) (hn : n > cls.length) (h1 : 1 ≤ n) :
  Calls Tryd.prog 48 #[pt gd, n] w fun e_ w' => e_ = .returned (.bool false) ∧ Own N w' [] ∧ KeepS N w w' := by
 have g1 : decide (n < 1) = false := decide_eq_false (by omega)
 have g2 : decide (n > (cls.length : Int)) = true := decide_eq_true hn
 have g3 : decide ((cls.length : Int) < n) = true := g2
 have HM_0 : Aside0 (CellN N w gd #[cf.cl, cf.win, cf.push, cf.pull, cf.mtu, cf.last, .slice AL L.length cL, .slice aa cls.length cA] tDM) := ⟨hm⟩
 have O0 : Aside0 (Own N w []) := ⟨h⟩
 have K0 : Aside0 (KeepS N w w) := ⟨KeepS.refl _ _⟩
 have mA := blk8_ (HM_0.out.2)
 clear h hm hn h1
 go_enter Tryd.func48, Tryd.ntmps48
 go_wp2
 go_ret
 exact ⟨rfl, O0.out, K0.out⟩
theorem DCome_full {N : Nat → Prop} {w : World} {gd cL cA : Nat} {cf : MCf} {AL : Option Addr} {aa : Addr} {L : List Rnd7} {cls : List MCl} {rc : RawR} {x : MCl} {AJ AU : Option Addr} {cJ cU : Nat} (n : Int) (h : Own N w []) (hm : CellN N w gd #[cf.cl, cf.win, cf.push, cf.pull, cf.mtu, cf.last, .slice AL L.length cL, .slice (some aa) cls.length cA] tDM) (hC : Kd.F (Kd.raw 5) w N (some aa) cls.length rc) (hrc : rc[n.toNat - 1]? = some [.int .i64 x.e, .slice AJ x.J.length cJ, .int .i64 x.k, .int .i64 x.c, .slice AU x.U.length cU]) (hn : 1 ≤ n ∧ n ≤ cls.length) (hc4 : cls.length ≤ 64) (h1 : cf.pull ≤ (x.c : Int)) :
  Calls Tryd.prog 48 #[pt gd, n] w fun e_ w' => e_ = .returned (.bool false) ∧ Own N w' [] ∧ KeepS N w w' := by
 obtain ⟨m, hm_⟩ : ∃ m, n - 1 = m := ⟨_, rfl⟩
 have hw : wrap64 (n - 1) = m := by rw [← hm_]; unfold wrap64; omega
 have hp_ := eq_true (show (0 : Int) ≤ m by omega)
 have hq2 := eq_true (show m < (cls.length : Int) by omega)
 have g1 : decide (n < 1) = false := decide_eq_false (by omega)
 have g2 : decide (n > (cls.length : Int)) = false := decide_eq_false (by omega)
 have g3 : decide ((cls.length : Int) < n) = false := g2
 have hrm : rc[m.toNat]? = some [.int .i64 x.e, .slice AJ x.J.length cJ, .int .i64 x.k, .int .i64 x.c, .slice AU x.U.length cU] := by rw [← hm_, show (n - 1).toNat = n.toNat - 1 by omega]; exact hrc
 have HRM := Am hrm
 have d1 : decide ((x.c : Int) ≥ cf.pull) = true := decide_eq_true (by omega)
 have d2 : decide (cf.pull ≤ (x.c : Int)) = true := d1
 have HM_0 : Aside0 (CellN N w gd #[cf.cl, cf.win, cf.push, cf.pull, cf.mtu, cf.last, .slice AL L.length cL, .slice (some aa) cls.length cA] tDM) := ⟨hm⟩
 have HC_0 : Aside0 (Kd.F (Kd.raw 5) w N (some aa) cls.length rc) := ⟨hC⟩
 have O0 : Aside0 (Own N w []) := ⟨h⟩
 have K0 : Aside0 (KeepS N w w) := ⟨KeepS.refl _ _⟩
 have mA := blk8_ (HM_0.out.2)
 obtain ⟨z0, z1, z2, z3, z4⟩ := rawF5 HC_0.out HRM.out
 clear h hm hC hn hc4 hrc hrm hm_ h1
 go_enter Tryd.func48, Tryd.ntmps48
 go_wp2
 refine sP (n := 27) (S := fun w' => w'.cell? ⟨gd, 3, none⟩ = some (.int .i64 cf.pull) ∧ w'.cell? ⟨(aa.add (m.toNat * 5)).block, (aa.add (m.toNat * 5)).off + 3, none⟩ = some (.int .i64 x.c)) (ds := []) ⟨mA.2.2.2.1, z3⟩ (fun hHeld => ?_)
 obtain ⟨w1, hw_, k_, O1, K1⟩ := drw_ O0 K0
 rw [← hw_] at hHeld ⊢
 have HM_1 := Am (CellN.keep HM_0.out k_)
 have HC_1 := Am (keepF HC_0.out k_)
 clear mA z0 z1 z2 z3 z4 O0 K0 HM_0 HC_0
 have mA := blk8_ (HM_1.out.2)
 obtain ⟨z0, z1, z2, z3, z4⟩ := rawF5 HC_1.out HRM.out
 clear k_ hw_
 refine pP 0 (some 24) ?_
 refine pP 1 (some 25) ?_
 refine pP 2 (some 26) ?_
 refine pP 4 (some 28) ?_
 refine pP 5 (some 29) ?_
 refine pP 6 (some 30) ?_
 refine pP 7 (some 31) ?_
 refine tP 3 (some 27) hHeld ?_
 refine tP 8 (some 32) hHeld ?_
 refine pP 9 (some 33) ?_
 refine pP 10 (some 34) ?_
 refine pS 11 (some 35) ?_
 refine pS 12 (some 36) ?_
 refine pS 13 (some 37) ?_
 refine pS 15 (some 39) ?_
 refine pS 16 (some 40) ?_
 refine pS 17 (some 41) ?_
 refine pS 20 (some 44) ?_
 refine pS 21 (some 45) ?_
 refine pS 22 (some 46) ?_
 refine tS 14 (some 38) hHeld ?_
 refine tS 18 (some 42) hHeld ?_
 refine pS 19 (some 43) ?_
 refine tS 23 (some 47) hHeld ?_
 refine pS 24 (some 48) ?_
 refine pS 25 (some 49) ?_
 refine pP 26 (some 50) ?_
 refine dN ?_
 clear hHeld
 go_wp2
 go_ret
 exact ⟨rfl, O1.out, K1.out⟩
theorem DCome_end {N : Nat → Prop} {w : World} {gd cL cA : Nat} {cf : MCf} {AL : Option Addr} {aa : Addr} {L : List Rnd7} {cls : List MCl} {rc : RawR} {x : MCl} {AJ AU : Option Addr} {cJ cU : Nat} (n : Int) (h : Own N w []) (hm : CellN N w gd #[cf.cl, cf.win, cf.push, cf.pull, cf.mtu, cf.last, .slice AL L.length cL, .slice (some aa) cls.length cA] tDM) (hC : Kd.F (Kd.raw 5) w N (some aa) cls.length rc) (hrc : rc[n.toNat - 1]? = some [.int .i64 x.e, .slice AJ x.J.length cJ, .int .i64 x.k, .int .i64 x.c, .slice AU x.U.length cU]) (hn : 1 ≤ n ∧ n ≤ cls.length) (hc4 : cls.length ≤ 64) (h1 : (x.c : Int) < cf.pull) (h2 : L.length ≤ x.k + x.c) (hs : x.k + x.c ≤ 1000000) :
  Calls Tryd.prog 48 #[pt gd, n] w fun e_ w' => e_ = .returned (.bool false) ∧ Own N w' [] ∧ KeepS N w w' := by
 obtain ⟨m, hm_⟩ : ∃ m, n - 1 = m := ⟨_, rfl⟩
 have hw : wrap64 (n - 1) = m := by rw [← hm_]; unfold wrap64; omega
 have hp_ := eq_true (show (0 : Int) ≤ m by omega)
 have hq2 := eq_true (show m < (cls.length : Int) by omega)
 have g1 : decide (n < 1) = false := decide_eq_false (by omega)
 have g2 : decide (n > (cls.length : Int)) = false := decide_eq_false (by omega)
 have g3 : decide ((cls.length : Int) < n) = false := g2
 have hrm : rc[m.toNat]? = some [.int .i64 x.e, .slice AJ x.J.length cJ, .int .i64 x.k, .int .i64 x.c, .slice AU x.U.length cU] := by rw [← hm_, show (n - 1).toNat = n.toNat - 1 by omega]; exact hrc
 have HRM := Am hrm
 have d1 : decide ((x.c : Int) ≥ cf.pull) = false := decide_eq_false (by omega)
 have d2 : decide (cf.pull ≤ (x.c : Int)) = false := d1
 have hs2 : wrap64 ((x.k : Int) + (x.c : Int)) = (x.k : Int) + (x.c : Int) := by unfold wrap64; omega
 have d3 : decide ((x.k : Int) + (x.c : Int) ≥ (L.length : Int)) = true := decide_eq_true (by omega)
 have d4 : decide ((L.length : Int) ≤ (x.k : Int) + (x.c : Int)) = true := d3
 have HM_0 : Aside0 (CellN N w gd #[cf.cl, cf.win, cf.push, cf.pull, cf.mtu, cf.last, .slice AL L.length cL, .slice (some aa) cls.length cA] tDM) := ⟨hm⟩
 have HC_0 : Aside0 (Kd.F (Kd.raw 5) w N (some aa) cls.length rc) := ⟨hC⟩
 have O0 : Aside0 (Own N w []) := ⟨h⟩
 have K0 : Aside0 (KeepS N w w) := ⟨KeepS.refl _ _⟩
 have mA := blk8_ (HM_0.out.2)
 obtain ⟨z0, z1, z2, z3, z4⟩ := rawF5 HC_0.out HRM.out
 clear h hm hC hn hc4 hrc hrm hm_ h1 h2 hs
 go_enter Tryd.func48, Tryd.ntmps48
 go_wp2
 refine sP (n := 27) (S := fun w' => w'.cell? ⟨gd, 3, none⟩ = some (.int .i64 cf.pull) ∧ w'.cell? ⟨(aa.add (m.toNat * 5)).block, (aa.add (m.toNat * 5)).off + 3, none⟩ = some (.int .i64 x.c) ∧ w'.cell? ⟨gd, 6, none⟩ = some (.slice AL L.length cL) ∧ w'.cell? ⟨(aa.add (m.toNat * 5)).block, (aa.add (m.toNat * 5)).off + 2, none⟩ = some (.int .i64 x.k)) (ds := []) ⟨mA.2.2.2.1, z3, mA.2.2.2.2.2.2.1, z2⟩ (fun hHeld => ?_)
 obtain ⟨w1, hw_, k_, O1, K1⟩ := drw_ O0 K0
 rw [← hw_] at hHeld ⊢
 have HM_1 := Am (CellN.keep HM_0.out k_)
 have HC_1 := Am (keepF HC_0.out k_)
 clear mA z0 z1 z2 z3 z4 O0 K0 HM_0 HC_0
 have mA := blk8_ (HM_1.out.2)
 obtain ⟨z0, z1, z2, z3, z4⟩ := rawF5 HC_1.out HRM.out
 clear k_ hw_
 refine pP 0 (some 24) ?_
 refine pP 1 (some 25) ?_
 refine pP 2 (some 26) ?_
 refine pP 4 (some 28) ?_
 refine pP 5 (some 29) ?_
 refine pP 6 (some 30) ?_
 refine pP 7 (some 31) ?_
 refine tP 3 (some 27) hHeld ?_
 refine tP 8 (some 32) hHeld ?_
 refine pP 9 (some 33) ?_
 refine pP 10 (some 34) ?_
 refine pP 11 (some 35) ?_
 refine pP 12 (some 36) ?_
 refine pP 13 (some 37) ?_
 refine pP 15 (some 39) ?_
 refine pP 16 (some 40) ?_
 refine pP 17 (some 41) ?_
 refine pP 20 (some 44) ?_
 refine pP 21 (some 45) ?_
 refine pP 22 (some 46) ?_
 refine tP 14 (some 38) hHeld ?_
 refine tP 18 (some 42) hHeld ?_
 refine pP 19 (some 43) ?_
 refine tP 23 (some 47) hHeld ?_
 refine pP 24 (some 48) ?_
 refine pP 25 (some 49) ?_
 refine pP 26 (some 50) ?_
 refine dN ?_
 clear hHeld
 go_wp2
 go_ret
 exact ⟨rfl, O1.out, K1.out⟩
theorem DCome_ok {N : Nat → Prop} {w : World} {gd : Nat} {cf : MCf} {L : List Rnd7} {cls : List MCl} {x : MCl} (n m : Int) (hm_ : n - 1 = m) (h : Own N w [DocM gd cf L cls]) (hn : 1 ≤ n ∧ n ≤ cls.length) (hc4 : cls.length ≤ 64) (hL : L.length ≤ 1000000) (hx : cls[m.toNat]? = some x) (h1 : (x.c : Int) < cf.pull) (h2' : x.k + x.c < L.length) :
  Calls Tryd.prog 48 #[pt gd, n] w fun e_ w' => e_ = .returned (.bool true) ∧ Own N w' [DocM gd cf L (cls.set m.toNat { x with c := x.c + 1 })] ∧ KeepS N w w' := by
 have hs2 : wrap64 ((x.k : Int) + (x.c : Int)) = (x.k : Int) + (x.c : Int) := by unfold wrap64; omega
 have d1 : decide ((x.c : Int) ≥ cf.pull) = false := decide_eq_false (by omega)
 have d2 : decide (cf.pull ≤ (x.c : Int)) = false := d1
 have d3 : decide ((x.k : Int) + (x.c : Int) ≥ (L.length : Int)) = false := decide_eq_false (by omega)
 have d4 : decide ((L.length : Int) ≤ (x.k : Int) + (x.c : Int)) = false := d3
 have hs3 : wrap64 ((x.c : Int) + 1) = (x.c : Int) + 1 := by unfold wrap64; omega
 have hw : wrap64 (n - 1) = m := by rw [← hm_]; unfold wrap64; omega
 have hp_ := eq_true (show (0 : Int) ≤ m by omega)
 have hq2 := eq_true (show m < (cls.length : Int) by omega)
 have g1 : decide (n < 1) = false := decide_eq_false (by omega)
 have g2 : decide (n > (cls.length : Int)) = false := decide_eq_false (by omega)
 have g3 : decide ((cls.length : Int) < n) = false := g2
 obtain ⟨AL, cL, aa, cA, rL, ds, rJ, AJ, cJ, AU, cU, rc, erc, hil, ⟨hq, hrl, hqj⟩, hdi, h2⟩ := DocM.at2 h hx
 have HRI := Am hil
 have HDI := Am hdi
 have HXX := Am hx
 have HQL := Am hq
 have HRL := Am hrl
 have HQJ := Am hqj
 have HERC := Am erc
 have O0 : Aside0 (Own N w [cells gd #[cf.cl, cf.win, cf.push, cf.pull, cf.mtu, cf.last, .slice AL L.length cL, .slice (some aa) cls.length cA] tDM, poolD rL L ds cls, bigs ((dclI ds cls).set m.toNat emp), nrow (Kd.raw 5) tDCl (.slice (some aa) cls.length cA) (rc.set m.toNat [x.e, .slice AJ x.J.length cJ, x.k, x.c, .slice AU x.U.length cU]), nrow (Kd.raw 3) tR7 (.slice AL L.length cL) rL, nrow kU7 tU7 (.slice AU x.U.length cU) x.U, nrow (Kd.raw 3) tR7 (.slice AJ x.J.length cJ) rJ]) := ⟨h2⟩
 have K0 : Aside0 (KeepS N w w) := ⟨KeepS.refl _ _⟩
 have a0 := k8_ O0 0
 have e5 := D_set (k := 3) O0.out rfl HRI.out
 clear h h2 hx hil hq hrl hqj hdi erc hn hc4 hL h1 h2' hm_
 go_enter Tryd.func48, Tryd.ntmps48
 go_wp2
 refine sP (n := 27) (S := fun w' => w'.cell? ⟨gd, 3, none⟩ = some (.int .i64 cf.pull) ∧ w'.cell? ⟨gd, 6, none⟩ = some (.slice AL L.length cL) ∧ w'.cell? ⟨(aa.add (m.toNat * 5)).block, (aa.add (m.toNat * 5)).off + 2, none⟩ = some (.int .i64 x.k) ∧ w'.cell? ⟨(aa.add (m.toNat * 5)).block, (aa.add (m.toNat * 5)).off + 3, none⟩ = some (.int .i64 x.c)) (ds := []) ⟨a0.2.2.2.1, a0.2.2.2.2.2.2.1, e5.1.2.2.1, e5.1.2.2.2.1⟩ (fun hHeld => ?_)
 obtain ⟨w1, hw_, k_, O1, K1⟩ := drw_ O0 K0
 rw [← hw_] at hHeld ⊢
 clear a0 e5 O0 K0
 have a0 := k8_ O1 0
 have e5 := D_set (k := 3) O1.out rfl HRI.out
 clear k_ hw_
 refine pP 0 (some 24) ?_
 refine pP 1 (some 25) ?_
 refine pP 2 (some 26) ?_
 refine pP 4 (some 28) ?_
 refine pP 5 (some 29) ?_
 refine pP 6 (some 30) ?_
 refine pP 7 (some 31) ?_
 refine tP 3 (some 27) hHeld ?_
 refine tP 8 (some 32) hHeld ?_
 refine pP 9 (some 33) ?_
 refine pP 10 (some 34) ?_
 refine pP 11 (some 35) ?_
 refine pP 12 (some 36) ?_
 refine pP 13 (some 37) ?_
 refine pP 15 (some 39) ?_
 refine pP 16 (some 40) ?_
 refine pP 17 (some 41) ?_
 refine pP 20 (some 44) ?_
 refine pP 21 (some 45) ?_
 refine pP 22 (some 46) ?_
 refine tP 14 (some 38) hHeld ?_
 refine tP 18 (some 42) hHeld ?_
 refine pP 19 (some 43) ?_
 refine tP 23 (some 47) hHeld ?_
 refine pP 24 (some 48) ?_
 refine pP 25 (some 49) ?_
 refine pP 26 (some 50) ?_
 refine dN ?_
 clear hHeld
 go_wp2_with (first | ((with_reducible refine gT 3 58 rfl ?_); refine wR 3 3 (.int .i64 ((x.c : Int) + 1)) O1 HRI ?_; intro w2 o_ k_; obtain ⟨O2, K2⟩ := ok_ K1 o_ k_; clear a0 e5 O1 K1; have a0 := k8_ O2 0; have e5 := D_set (k := 3) O2.out rfl HRI.out; clear o_ k_))
 go_ret
 exact ⟨rfl, DocM.backU (x' := { x with c := x.c + 1 }) HXX.out HQL.out HDI.out HERC.out rfl O2.out, K2.out⟩
theorem DCome_i {z : Nat} {N : Nat → Prop} {w : World} {gd : Nat} {cf : MCf} {L : List Rnd7} {cls : List MCl} (n : Int) (h : Own N w [DocM gd cf L cls]) (hi : MInv cf z L cls) (hc : CfOk cf) (hx4 : z ≤ 400) :
  Calls Tryd.prog 48 #[pt gd, n] w fun e_ w' => e_ = .returned (.bool (comeS n cf L cls).1) ∧ Own N w' [DocM gd cf L (comeS n cf L cls).2] ∧ KeepS N w w' := by
 have hb := hi.len hc
 have hl4 := hi.l
 unfold comeS
 cases hcl : clAt cls n with
 | none =>
  have hno := clAt_none hcl
  by_cases hlo : n < 1
  ·simp only
   obtain ⟨N_, on_, nn_, rr_, bb_⟩ := h.frame0
   obtain ⟨AL, cL, AA, cA, e1, hm, hl⟩ := DocM.view0 (rr_ 0 _ rfl)
   exact (DCome_lo n on_ hm hlo).mono fun e_ w' ⟨a, b, c⟩ => ⟨a, (bb_ w' [] c b).1, (bb_ w' [] c b).2⟩
  ·simp only
   obtain ⟨N_, on_, nn_, rr_, bb_⟩ := h.frame0
   obtain ⟨AL, cL, AA, cA, e1, hm, hl⟩ := DocM.view0 (rr_ 0 _ rfl)
   exact (DCome_hi n on_ hm (by omega) (by omega)).mono fun e_ w' ⟨a, b, c⟩ => ⟨a, (bb_ w' [] c b).1, (bb_ w' [] c b).2⟩
 | some x =>
  obtain ⟨hn, hx⟩ := clAt_some hcl
  have hkx := (hi.c n x hcl).k
  simp only
  unfold comesB
  by_cases h1 : (x.c : Int) < cf.pull
  ·by_cases h2 : x.k + x.c < L.length
   ·rw [if_pos (decide_eq_true ⟨h1, h2⟩)]
    have q := DCome_ok n (n - 1) rfl h hn hb (by omega) (by rw [show (n - 1).toNat = n.toNat - 1 by omega]; exact hx) h1 h2
    rwa [show (n - 1).toNat = n.toNat - 1 by omega] at q
   ·rw [if_neg (by simp [h2])]
    obtain ⟨N_, on_, nn_, rr_, bb_⟩ := h.frame0
    obtain ⟨AL, cL, aa, cA, ds, AJ, cJ, AU, cU, rJ, ⟨e1, e2, e3⟩, hrc, hm, hC, hl, hj, hu⟩ := DocM.view (rr_ 0 _ rfl) hx
    exact (DCome_end n on_ hm hC hrc hn hb h1 (by omega) (by omega)).mono fun e_ w' ⟨a, b, c⟩ => ⟨a, (bb_ w' [] c b).1, (bb_ w' [] c b).2⟩
  ·rw [if_neg (by simp [h1])]
   obtain ⟨N_, on_, nn_, rr_, bb_⟩ := h.frame0
   obtain ⟨AL, cL, aa, cA, ds, AJ, cJ, AU, cU, rJ, ⟨e1, e2, e3⟩, hrc, hm, hC, hl, hj, hu⟩ := DocM.view (rr_ 0 _ rfl) hx
   exact (DCome_full n on_ hm hC hrc hn hb (by omega)).mono fun e_ w' ⟨a, b, c⟩ => ⟨a, (bb_ w' [] c b).1, (bb_ w' [] c b).2⟩
end Go.Proofs.YtjdenpmaianmfaaDoor.J
namespace Go.Proofs.YtjdenpmaianmfaaDoor.J
set_option maxHeartbeats 16000000
set_option maxRecDepth 100000
set_option linter.unusedSimpArgs false
set_option linter.unusedVariables false
open Go RowKit YtjdenpmaianmfaaDoorW.PrintWords YtjdenpmaianmfaaDoorW.PrintLast YtjdenpmaianmfaaDoorW.PrintMore Q YtjdenpmaianmfaaDoor.Sep YtjdenpmaianmfaaDoor.Pure
theorem rd_get (J : List Rnd7) (y : Int) (h0 : 0 ≤ y) (h1 : y < J.length) : J[y.toNat]? = some (rd_T35 J y) := by
 have : y.toNat < J.length := by omega
 rw [List.getElem?_eq_getElem this]
 show _ = some (J.getD y.toNat _)
 rw [List.getD_eq_getElem?_getD, List.getElem?_eq_getElem this]
 rfl
section
variable {N : Nat → Prop} {w : World} {gd : Nat} {cf : MCf} {L : List Rnd7} {cls : List MCl}
theorem DocM.backC {i k : Nat} {x : MCl} {ds : List DcT} {rc rL rJ : RawR} {vL vA vJ vU : Value} {c : List Value} {r : Rnd7} (hx : cls[i]? = some x) (hq : ds.length = cls.length) (hd : ds[i]? = some (vJ, vU, rJ)) (he : rc = rowsD ds cls) (hc : rJ[k]? = some c) (hr : x.J[k]? = some r)
  (h : Own N w [cells gd (modC cf vL vA) tDM, poolD rL L ds cls, bigs ((dclI ds cls).set i emp), nrow (Kd.raw 5) tDCl vA (rc.set i [x.e, vJ, x.k, x.c, vU]), nrow (Kd.raw 3) tR7 vL (rL ++ [c]), nrow kU7 tU7 vU x.U, nrow (Kd.raw 3) tR7 vJ rJ]) : Own N w [DocM gd cf (L ++ [r]) cls] := by
 subst he
 have q := DocM.back (cls := cls) (pl := poolD rL L ds cls) (rL := rL) (rL' := rL ++ [c]) (L' := L ++ [r]) (d' := (vJ, vU, rJ)) (x' := x) hx hq hd (fun F w hp => by
  rw [set_same hd, set_same hx]
  intro p hm
  rcases List.mem_cons.1 hm with e | e
  ·subst e
   exact (hp (rL, L) List.mem_cons_self).append (lead_at (hp (rJ, x.J) (poolD_mem hd hx)) hc hr)
  ·exact hp p (List.mem_cons_of_mem _ e)) h
 rwa [set_same hx] at q
end
theorem DCommit_lo {N : Nat → Prop} {w : World} {gd cL cA : Nat} {cf : MCf} {AL : Option Addr} {aa : Option Addr} {L : List Rnd7} {cls : List MCl} (n : Int) (h : Own N w []) (hm : CellN N w gd #[cf.cl, cf.win, cf.push, cf.pull, cf.mtu, cf.last, .slice AL L.length cL, .slice aa cls.length cA] tDM) (hn : n < 1) :
  Calls Tryd.prog 47 #[pt gd, n] w fun e_ w' => e_ = .returned (.bool false) ∧ Own N w' [] ∧ KeepS N w w' := by
 have g1 : decide (n < 1) = true := decide_eq_true hn
 have HM_0 : Aside0 (CellN N w gd #[cf.cl, cf.win, cf.push, cf.pull, cf.mtu, cf.last, .slice AL L.length cL, .slice aa cls.length cA] tDM) := ⟨hm⟩
 have O0 : Aside0 (Own N w []) := ⟨h⟩
 have K0 : Aside0 (KeepS N w w) := ⟨KeepS.refl _ _⟩
 have mA := blk8_ (HM_0.out.2)
 clear h hm hn
 go_enter Tryd.func47, Tryd.ntmps47
 go_wp2
 go_ret
 exact ⟨rfl, O0.out, K0.out⟩
theorem DCommit_hi {N : Nat → Prop} {w : World} {gd cL cA : Nat} {cf : MCf} {AL : Option Addr} {aa : Option Addr} {L : List Rnd7} {cls : List MCl} (n : Int) (h : Own N w []) (hm : CellN N w gd #[cf.cl, cf.win, cf.push, cf.pull, cf.mtu, cf.last, .slice AL L.length cL, .slice aa cls.length cA] tDM) (hn : n > cls.length) (h1 : 1 ≤ n) :
  Calls Tryd.prog 47 #[pt gd, n] w fun e_ w' => e_ = .returned (.bool false) ∧ Own N w' [] ∧ KeepS N w w' := by
 have g1 : decide (n < 1) = false := decide_eq_false (by omega)
 have g2 : decide (n > (cls.length : Int)) = true := decide_eq_true hn
 have g3 : decide ((cls.length : Int) < n) = true := g2
 have HM_0 : Aside0 (CellN N w gd #[cf.cl, cf.win, cf.push, cf.pull, cf.mtu, cf.last, .slice AL L.length cL, .slice aa cls.length cA] tDM) := ⟨hm⟩
 have O0 : Aside0 (Own N w []) := ⟨h⟩
 have K0 : Aside0 (KeepS N w w) := ⟨KeepS.refl _ _⟩
 have mA := blk8_ (HM_0.out.2)
 clear h hm hn h1
 go_enter Tryd.func47, Tryd.ntmps47
 go_wp2
 go_ret
 exact ⟨rfl, O0.out, K0.out⟩
theorem DCommit_in {N : Nat → Prop} {w : World} {gd : Nat} {cf : MCf} {L : List Rnd7} {cls : List MCl} {x : MCl} (n m : Int) (hm_ : n - 1 = m) (h : Own N w [DocM gd cf L cls]) (hn : 1 ≤ n ∧ n ≤ cls.length) (hc4 : cls.length ≤ 64) (hL : L.length ≤ 1000) (hJ : x.J.length ≤ 1000) (hx : cls[m.toNat]? = some x) :
  Calls Tryd.prog 47 #[pt gd, n] w fun e_ w' => e_ = .returned (.bool (x.J[(ownR n L).length]?).isSome) ∧ Own N w' [DocM gd cf (L ++ (x.J[(ownR n L).length]?).toList) cls] ∧ KeepS N w w' := by
 have HLL := Am hL
 have HJJ := Am hJ
 have hw : wrap64 (n - 1) = m := by rw [← hm_]; unfold wrap64; omega
 have hp_ := eq_true (show (0 : Int) ≤ m by omega)
 have hq2 := eq_true (show m < (cls.length : Int) by omega)
 have g1 : decide (n < 1) = false := decide_eq_false (by omega)
 have g2 : decide (n > (cls.length : Int)) = false := decide_eq_false (by omega)
 have g3 : decide ((cls.length : Int) < n) = false := g2
 obtain ⟨AL, cL, aa, cA, rL, ds, rJ, AJ, cJ, AU, cU, rc, erc, hil, ⟨hq, hrl, hqj⟩, hdi, h2⟩ := DocM.at2 h hx
 have HRI := Am hil
 have HDI := Am hdi
 have HXX := Am hx
 have HQL := Am hq
 have HRL := Am hrl
 have HQJ := Am hqj
 have HERC := Am erc
 have O0 : Aside0 (Own N w [cells gd #[cf.cl, cf.win, cf.push, cf.pull, cf.mtu, cf.last, .slice AL L.length cL, .slice (some aa) cls.length cA] tDM, poolD rL L ds cls, bigs ((dclI ds cls).set m.toNat emp), nrow (Kd.raw 5) tDCl (.slice (some aa) cls.length cA) (rc.set m.toNat [x.e, .slice AJ x.J.length cJ, x.k, x.c, .slice AU x.U.length cU]), nrow (Kd.raw 3) tR7 (.slice AL L.length cL) rL, nrow kU7 tU7 (.slice AU x.U.length cU) x.U, nrow (Kd.raw 3) tR7 (.slice AJ x.J.length cJ) rJ]) := ⟨h2⟩
 have K0 : Aside0 (KeepS N w w) := ⟨KeepS.refl _ _⟩
 have a0 := k8_ O0 0
 have e5 := D_set (k := 3) O0.out rfl HRI.out
 clear h h2 hx hil hq hrl hqj hdi erc hn hc4 hL hJ hm_
 go_enter Tryd.func47, Tryd.ntmps47
 go_wp2
 clear a0 e5 
 go_loopw [5, 6] (fun v i wr => CntI N w n L [cells gd #[cf.cl, cf.win, cf.push, cf.pull, cf.mtu, cf.last, .slice AL L.length cL, .slice (some aa) cls.length cA] tDM, poolD rL L ds cls, bigs ((dclI ds cls).set m.toNat emp), nrow (Kd.raw 5) tDCl (.slice (some aa) cls.length cA) (rc.set m.toNat [x.e, .slice AJ x.J.length cJ, x.k, x.c, .slice AU x.U.length cU]), nrow (Kd.raw 3) tR7 (.slice AL L.length cL) rL, nrow kU7 tU7 (.slice AU x.U.length cU) x.U, nrow (Kd.raw 3) tR7 (.slice AJ x.J.length cJ) rJ] v i wr) (fun _ i _ => L.length - (intOf i).toNat)
 case atStart => exact ⟨0, by omega, by omega, rfl, rfl, O0, K0⟩
 case round =>
  clear O0 K0
  obtain ⟨y, hy0, hy1, rfl, rfl, OA, KA⟩ := hrel
  obtain ⟨Fp, hpl⟩ := OA.out.fact (i := 1) rfl
  by_cases hlt : y < (L.length : Int)
  ·obtain ⟨B, b, hrw, _⟩ := (hpl (rL, L) List.mem_cons_self).nth (rd_get L y hy0 hlt)
   obtain ⟨al, eL⟩ := raw_ad (OA.out.nreads (i := 4) rfl).2.2 hrw
   subst eL
   obtain ⟨s0, s1, s2⟩ := raw3c (OA.out.nreads (i := 4) rfl).2.2 hrw
   clear s1 s2 hpl hrw
   have hs2 : wrap64 (y + 1) = y + 1 := by unfold wrap64; have := HLL.out; omega
   have hp := eq_true hy0
   have hq_ := eq_true hlt
   have hd := decide_eq_true hlt
   have HY := Am (And.intro hy0 hlt)
   have hc_ : (ownR n (upR L y)).length ≤ L.length := Nat.le_trans (ownR_len _ _) (upR_len L y)
   obtain ⟨v, hv⟩ : ∃ v : Nat, (ownR n (upR L y)).length = v := ⟨_, rfl⟩
   rw [hv] at hc_ ⊢
   have hs3 : wrap64 ((v : Int) + 1) = (v : Int) + 1 := by unfold wrap64; have := HLL.out; omega
   have HV_ := Am hv
   have HVB_ := Am hc_
   by_cases ho : (rd_T35 L y).f0 = n
   ·have do_ : ((rd_T35 L y).f0 == n) = true := beq_iff_eq.mpr ho
    have HE : Aside0 (((ownR n (upR L (y + 1))).length : Int) = (v : Int) + 1) := ⟨by rw [of_yes HY.out.1 HY.out.2 ho, hv]⟩
    clear hy0 hy1 hlt hc_ hv ho
    have O1 : Aside0 (Own N wr [cells gd #[cf.cl, cf.win, cf.push, cf.pull, cf.mtu, cf.last, .slice (some al) L.length cL, .slice (some aa) cls.length cA] tDM, poolD rL L ds cls, bigs ((dclI ds cls).set m.toNat emp), nrow (Kd.raw 5) tDCl (.slice (some aa) cls.length cA) (rc.set m.toNat [x.e, .slice AJ x.J.length cJ, x.k, x.c, .slice AU x.U.length cU]), nrow (Kd.raw 3) tR7 (.slice (some al) L.length cL) rL, nrow kU7 tU7 (.slice AU x.U.length cU) x.U, nrow (Kd.raw 3) tR7 (.slice AJ x.J.length cJ) rJ]) := ⟨OA.out⟩
    have K1 : Aside0 (KeepS N w wr) := ⟨KA.out⟩
    have a0 := k8_ O1 0
    have e5 := D_set (k := 3) O1.out rfl HRI.out
    clear OA KA
    go_wp2
    go_roundw
    case rel => exact ⟨y + 1, by have := HY.out; omega, by have := HY.out; omega, int_eq17 (by unfold wrap64; have := HY.out; have := HLL.out; omega), int_eq17 (by rw [HE.out]; first | rfl | (unfold wrap64; have := HLL.out; have := HVB_.out; omega)), ⟨O1.out⟩, K1⟩
    case measure => have := HY.out; simp [intOf]; omega
   ·have do_ : ((rd_T35 L y).f0 == n) = false := beq_eq_false_iff_ne.mpr ho
    have HE : Aside0 (((ownR n (upR L (y + 1))).length : Int) = (v : Int)) := ⟨by rw [of_no HY.out.1 HY.out.2 ho, hv]⟩
    clear hy0 hy1 hlt hc_ hv ho
    have O1 : Aside0 (Own N wr [cells gd #[cf.cl, cf.win, cf.push, cf.pull, cf.mtu, cf.last, .slice (some al) L.length cL, .slice (some aa) cls.length cA] tDM, poolD rL L ds cls, bigs ((dclI ds cls).set m.toNat emp), nrow (Kd.raw 5) tDCl (.slice (some aa) cls.length cA) (rc.set m.toNat [x.e, .slice AJ x.J.length cJ, x.k, x.c, .slice AU x.U.length cU]), nrow (Kd.raw 3) tR7 (.slice (some al) L.length cL) rL, nrow kU7 tU7 (.slice AU x.U.length cU) x.U, nrow (Kd.raw 3) tR7 (.slice AJ x.J.length cJ) rJ]) := ⟨OA.out⟩
    have K1 : Aside0 (KeepS N w wr) := ⟨KA.out⟩
    have a0 := k8_ O1 0
    have e5 := D_set (k := 3) O1.out rfl HRI.out
    clear OA KA
    go_wp2
    go_roundw
    case rel => exact ⟨y + 1, by have := HY.out; omega, by have := HY.out; omega, int_eq17 (by unfold wrap64; have := HY.out; have := HLL.out; omega), int_eq17 (by rw [HE.out]), ⟨O1.out⟩, K1⟩
    case measure => have := HY.out; simp [intOf]; omega
  ·have hye : y = (L.length : Int) := by omega
   subst hye
   have hd : decide ((L.length : Int) < (L.length : Int)) = false := decide_eq_false (Int.lt_irrefl _)
   rw [upR_all]
   clear hlt hy0 hy1
   obtain ⟨d, hd_⟩ : ∃ d : Nat, (ownR n L).length = d := ⟨_, rfl⟩
   rw [hd_]
   by_cases hdn : x.J.length ≤ d
   ·have d1 : decide ((d : Int) ≥ (x.J.length : Int)) = true := decide_eq_true (by omega)
    have d2 : decide ((x.J.length : Int) ≤ (d : Int)) = true := d1
    have d3 := eq_true hdn
    have HNO : Aside0 (x.J[(ownR n L).length]? = none) := ⟨by rw [hd_]; exact List.getElem?_eq_none_iff.2 hdn⟩
    clear hpl hdn hd_
    have O1 : Aside0 (Own N wr [cells gd #[cf.cl, cf.win, cf.push, cf.pull, cf.mtu, cf.last, .slice AL L.length cL, .slice (some aa) cls.length cA] tDM, poolD rL L ds cls, bigs ((dclI ds cls).set m.toNat emp), nrow (Kd.raw 5) tDCl (.slice (some aa) cls.length cA) (rc.set m.toNat [x.e, .slice AJ x.J.length cJ, x.k, x.c, .slice AU x.U.length cU]), nrow (Kd.raw 3) tR7 (.slice AL L.length cL) rL, nrow kU7 tU7 (.slice AU x.U.length cU) x.U, nrow (Kd.raw 3) tR7 (.slice AJ x.J.length cJ) rJ]) := ⟨OA.out⟩
    have K1 : Aside0 (KeepS N w wr) := ⟨KA.out⟩
    have a0 := k8_ O1 0
    have e5 := D_set (k := 3) O1.out rfl HRI.out
    clear OA KA
    go_wp2
    go_ret
    refine ⟨by rw [HNO.out]; rfl, ?_, K1.out⟩
    have q := DocM.backU (x' := x) HXX.out HQL.out HDI.out HERC.out rfl O1.out
    rw [set_same HXX.out] at q
    rw [HNO.out, Option.toList_none, List.append_nil]
    exact q
   ·obtain ⟨r, hr⟩ : ∃ r, x.J[d]? = some r := ⟨_, List.getElem?_eq_getElem (by omega)⟩
    obtain ⟨B, b, hrw, _⟩ := (hpl (rJ, x.J) (poolD_mem HDI.out HXX.out)).nth hr
    obtain ⟨ad, eJ⟩ := raw_ad (OA.out.nreads (i := 6) rfl).2.2 hrw
    subst eJ
    have HRW : Aside0 (rJ[d]? = some (rw3 r.f0 r.f1 (.slice B r.f2.length b))) := ⟨hrw⟩
    have HRR := Am hr
    have hdl : d < x.J.length := by omega
    have d1 : decide ((d : Int) ≥ (x.J.length : Int)) = false := decide_eq_false (by omega)
    have d2 : decide ((x.J.length : Int) ≤ (d : Int)) = false := d1
    have d3 := eq_false (show ¬ x.J.length ≤ d by omega)
    have hp0 := eq_true (show (0 : Int) ≤ (d : Int) by omega)
    have hp1 := eq_true (show (d : Int) < (x.J.length : Int) by omega)
    have hp2 := eq_true hdl
    have HSO : Aside0 (x.J[(ownR n L).length]? = some r) := ⟨by rw [hd_]; exact hr⟩
    have hLr : rL.length ≤ 1000 := by have := HRL.out; have := HLL.out; omega
    have HLR := Am hLr
    have e_ : L.length = rL.length := HRL.out.symm
    clear hpl hdn hrw hr hLr hdl hd_
    rw [e_] at OA ⊢
    have O1 : Aside0 (Own N wr [cells gd #[cf.cl, cf.win, cf.push, cf.pull, cf.mtu, cf.last, .slice AL rL.length cL, .slice (some aa) cls.length cA] tDM, poolD rL L ds cls, bigs ((dclI ds cls).set m.toNat emp), nrow (Kd.raw 5) tDCl (.slice (some aa) cls.length cA) (rc.set m.toNat [x.e, .slice (some ad) x.J.length cJ, x.k, x.c, .slice AU x.U.length cU]), nrow (Kd.raw 3) tR7 (.slice AL rL.length cL) rL, nrow kU7 tU7 (.slice AU x.U.length cU) x.U, nrow (Kd.raw 3) tR7 (.slice (some ad) x.J.length cJ) rJ]) := ⟨OA.out⟩
    have K1 : Aside0 (KeepS N w wr) := ⟨KA.out⟩
    have a0 := k8_ O1 0
    have e5 := D_set (k := 3) O1.out rfl HRI.out
    clear OA KA
    go_wp2
    refine sP (n := 24) (S := fun w' => w'.cell? ⟨gd, 0, none⟩ = some (.int .i64 cf.cl) ∧ w'.cell? ⟨gd, 1, none⟩ = some (.int .i64 cf.win) ∧ w'.cell? ⟨gd, 2, none⟩ = some (.int .i64 cf.push) ∧ w'.cell? ⟨gd, 3, none⟩ = some (.int .i64 cf.pull) ∧ w'.cell? ⟨gd, 4, none⟩ = some (.int .i64 cf.mtu) ∧ w'.cell? ⟨gd, 5, none⟩ = some (.int .i64 cf.last) ∧ w'.cell? ⟨gd, 6, none⟩ = some (.slice AL rL.length cL) ∧ w'.cell? ⟨gd, 7, none⟩ = some (.slice (some aa) cls.length cA) ∧ w'.cell? (aa.add (m.toNat * 5)) = some (.int .i64 x.e) ∧ w'.cell? ⟨(aa.add (m.toNat * 5)).block, (aa.add (m.toNat * 5)).off + 1, none⟩ = some (.slice (some ad) x.J.length cJ) ∧ w'.cell? ⟨(aa.add (m.toNat * 5)).block, (aa.add (m.toNat * 5)).off + 2, none⟩ = some (.int .i64 x.k) ∧ w'.cell? ⟨(aa.add (m.toNat * 5)).block, (aa.add (m.toNat * 5)).off + 3, none⟩ = some (.int .i64 x.c) ∧ w'.cell? ⟨(aa.add (m.toNat * 5)).block, (aa.add (m.toNat * 5)).off + 4, none⟩ = some (.slice AU x.U.length cU) ∧ w'.cell? (ad.add (d * 3)) = some (.int .i64 r.f0) ∧ w'.cell? ⟨(ad.add (d * 3)).block, (ad.add (d * 3)).off + 1, none⟩ = some (.int .i64 r.f1) ∧ w'.cell? ⟨(ad.add (d * 3)).block, (ad.add (d * 3)).off + 2, none⟩ = some (.slice B r.f2.length b)) (ds := [23]) ⟨a0.1, a0.2.1, a0.2.2.1, a0.2.2.2.1, a0.2.2.2.2.1, a0.2.2.2.2.2.1, a0.2.2.2.2.2.2.1, a0.2.2.2.2.2.2.2.1, e5.1.1, e5.1.2.1, e5.1.2.2.1, e5.1.2.2.2.1, e5.1.2.2.2.2, (raw3c (O1.out.nreads (i := 6) rfl).2.2 HRW.out).1, (raw3c (O1.out.nreads (i := 6) rfl).2.2 HRW.out).2.1, (raw3c (O1.out.nreads (i := 6) rfl).2.2 HRW.out).2.2⟩ (fun hHeld => ?_)
    obtain ⟨w2, hw_, k_, O2, K2⟩ := drw_ O1 K1
    rw [← hw_] at hHeld ⊢
    clear a0 e5 O1 K1
    have a0 := k8_ O2 0
    have e5 := D_set (k := 3) O2.out rfl HRI.out
    clear k_ hw_
    refine pP 0 (some 51) ?_
    refine pP 2 (some 53) ?_
    refine pP 3 (some 54) ?_
    refine pP 4 (some 55) ?_
    refine pP 7 (some 58) ?_
    refine pP 8 (some 59) ?_
    refine pP 9 (some 60) ?_
    refine pP 11 (some 62) ?_
    refine pP 12 (some 63) ?_
    refine pP 16 (some 67) ?_
    refine tP 5 (some 56) hHeld ?_
    refine tP 10 (some 61) hHeld ?_
    refine pP 13 (some 64) ?_
    refine pP 14 (some 65) ?_
    refine tP 15 (some 66) hHeld ?_
    refine pP 17 (some 68) ?_
    refine tP 18 (some 69) hHeld ?_
    refine join_ (σ := Option Addr × Nat × Option Addr × Nat × Option Addr × Nat) 4 #[true, true, true, true, true, true, true, true, true, true, true, true, true, true, true, true, true, true, true, true, false, false, false, false] (fun ⟨C2, e2, C3, e3, D1, h1_⟩ => [(52, .slice C2 0 e2), (57, .slice C3 rL.length e3), (70, .slice D1 1 h1_)]) (fun ⟨C2, e2, C3, e3, D1, h1_⟩ w' => Own N w' [cells gd #[cf.cl, cf.win, cf.push, cf.pull, cf.mtu, cf.last, .slice AL rL.length cL, .slice (some aa) cls.length cA] tDM, poolD rL L ds cls, bigs ((dclI ds cls).set m.toNat emp), nrow (Kd.raw 5) tDCl (.slice (some aa) cls.length cA) (rc.set m.toNat [x.e, .slice (some ad) x.J.length cJ, x.k, x.c, .slice AU x.U.length cU]), nrow (Kd.raw 3) tR7 (.slice AL rL.length cL) rL, nrow kU7 tU7 (.slice AU x.U.length cU) x.U, nrow (Kd.raw 3) tR7 (.slice (some ad) x.J.length cJ) rJ, nrow (Kd.raw 3) 35 (.slice C3 rL.length e3) rL, nrow (Kd.raw 3) 35 (.slice D1 1 h1_) [rw3 r.f0 r.f1 (.slice B r.f2.length b)]] ∧ KeepS N w2 w') ?hcont ?hways
    case hways =>
     intro hc_
     have K3 : Aside0 (KeepS N w2 w2) := ⟨KeepS.refl _ _⟩
     have O3 : Aside0 (Own N w2 [cells gd #[cf.cl, cf.win, cf.push, cf.pull, cf.mtu, cf.last, .slice AL rL.length cL, .slice (some aa) cls.length cA] tDM, poolD rL L ds cls, bigs ((dclI ds cls).set m.toNat emp), nrow (Kd.raw 5) tDCl (.slice (some aa) cls.length cA) (rc.set m.toNat [x.e, .slice (some ad) x.J.length cJ, x.k, x.c, .slice AU x.U.length cU]), nrow (Kd.raw 3) tR7 (.slice AL rL.length cL) rL, nrow kU7 tU7 (.slice AU x.U.length cU) x.U, nrow (Kd.raw 3) tR7 (.slice (some ad) x.J.length cJ) rJ]) := O2
     refine tW_ 1 19 (some 52) (some 70) (fun K_ hK_ => ?_) (fun K_ hK_ => ?_)
     ·skip
      refine own_lit_step (Kd.raw 3) (N := N) (e := 35) (xs := []) (inner := []) rfl rfl gs_ (Reps.none _ _) (by decide) O3.out ?_
      intro C2 e2 w4 o_ k_
      obtain ⟨O4, K4⟩ := ok_ K3 o_ k_
      clear a0 e5 O3 K3
      have a0 := k8_ O4 0
      have e5 := D_set (k := 3) O4.out rfl HRI.out
      clear o_ k_ hHeld
      refine hK_.out _ _ ⟨a0.1, a0.2.1, a0.2.2.1, a0.2.2.2.1, a0.2.2.2.2.1, a0.2.2.2.2.2.1, a0.2.2.2.2.2.2.1, a0.2.2.2.2.2.2.2.1, e5.1.1, e5.1.2.1, e5.1.2.2.1, e5.1.2.2.2.1, e5.1.2.2.2.2, (raw3c (O4.out.nreads (i := 6) rfl).2.2 HRW.out).1, (raw3c (O4.out.nreads (i := 6) rfl).2.2 HRW.out).2.1, (raw3c (O4.out.nreads (i := 6) rfl).2.2 HRW.out).2.2⟩ (fun hHeld => ?_)
      clear hK_ K_
      refine nR_ ?_
      refine tW_ 6 19 (some 57) (some 70) (fun K_ hK_ => ?_) (fun K_ hK_ => ?_)
      ·skip
       refine Own.append_flat_step (Kd.raw 3) flatRaw O4.out (i := 7) rfl (O4.out.nreads (i := 4) rfl).2.2 rfl (by rfl) (.tmp 52) (.tmp 56) 40 (.agg #[.int .i64 0, .int .i64 0, .slice none 0 0]) 40 rfl Tryd.underlying40 infoR rfl (by decide) (by decide) rfl rfl (by have := HLR.out; simp only [List.length_nil]; omega) ?_
       intro C3 e3 w5 o_ k_
       obtain ⟨O5, K5⟩ := ok_ K4 o_ k_
       clear a0 e5 O4 K4
       have a0 := k8_ O5 0
       have e5 := D_set (k := 3) O5.out rfl HRI.out
       clear o_ k_ hHeld
       refine hK_.out _ _ ⟨a0.1, a0.2.1, a0.2.2.1, a0.2.2.2.1, a0.2.2.2.2.1, a0.2.2.2.2.2.1, a0.2.2.2.2.2.2.1, a0.2.2.2.2.2.2.2.1, e5.1.1, e5.1.2.1, e5.1.2.2.1, e5.1.2.2.2.1, e5.1.2.2.2.2, (raw3c (O5.out.nreads (i := 6) rfl).2.2 HRW.out).1, (raw3c (O5.out.nreads (i := 6) rfl).2.2 HRW.out).2.1, (raw3c (O5.out.nreads (i := 6) rfl).2.2 HRW.out).2.2⟩ (fun hHeld => ?_)
       clear hK_ K_
       refine nR_ ?_
       refine oP 19 (some 70) (fun K_ hK_ => ?_)
       refine own_lit_step (Kd.raw 3) (N := N) (e := 35) (xs := [rw3 r.f0 r.f1 (.slice B r.f2.length b)]) (inner := [r.f0, r.f1, .slice B r.f2.length b]) rfl rfl gs_ (repW _ _ _ _ _ _) (by show 1 ≤ 9223372036854775807; decide) O5.out ?_
       intro D1 h1_ w6 o_ k_
       obtain ⟨O6, K6⟩ := ok_ K5 o_ k_
       clear a0 e5 O5 K5
       have a0 := k8_ O6 0
       have e5 := D_set (k := 3) O6.out rfl HRI.out
       clear o_ k_ hHeld
       refine hK_.out _ _ ⟨a0.1, a0.2.1, a0.2.2.1, a0.2.2.2.1, a0.2.2.2.2.1, a0.2.2.2.2.2.1, a0.2.2.2.2.2.2.1, a0.2.2.2.2.2.2.2.1, e5.1.1, e5.1.2.1, e5.1.2.2.1, e5.1.2.2.2.1, e5.1.2.2.2.2, (raw3c (O6.out.nreads (i := 6) rfl).2.2 HRW.out).1, (raw3c (O6.out.nreads (i := 6) rfl).2.2 HRW.out).2.1, (raw3c (O6.out.nreads (i := 6) rfl).2.2 HRW.out).2.2⟩ (fun hHeld => ?_)
       clear hK_ K_
       refine nR_ ?_
       refine norm_ (a' := _) ?_ (hc_ ⟨C2, e2, C3, e3, D1, h1_⟩ _ ⟨?_, K6.out⟩)
       ·simp only [putAll, Act.put, List.setIfInBounds_toArray, List.set_cons_zero, List.set_cons_succ]
        try rfl
       ·exact O6.out.pickL [0, 1, 2, 3, 4, 5, 6, 7, 8] (by decide) (by simp)
      ·skip
       refine own_lit_step (Kd.raw 3) (N := N) (e := 35) (xs := [rw3 r.f0 r.f1 (.slice B r.f2.length b)]) (inner := [r.f0, r.f1, .slice B r.f2.length b]) rfl rfl gs_ (repW _ _ _ _ _ _) (by show 1 ≤ 9223372036854775807; decide) O4.out ?_
       intro D1 h1_ w5 o_ k_
       obtain ⟨O5, K5⟩ := ok_ K4 o_ k_
       clear a0 e5 O4 K4
       have a0 := k8_ O5 0
       have e5 := D_set (k := 3) O5.out rfl HRI.out
       clear o_ k_ hHeld
       refine hK_.out _ _ ⟨a0.1, a0.2.1, a0.2.2.1, a0.2.2.2.1, a0.2.2.2.2.1, a0.2.2.2.2.2.1, a0.2.2.2.2.2.2.1, a0.2.2.2.2.2.2.2.1, e5.1.1, e5.1.2.1, e5.1.2.2.1, e5.1.2.2.2.1, e5.1.2.2.2.2, (raw3c (O5.out.nreads (i := 6) rfl).2.2 HRW.out).1, (raw3c (O5.out.nreads (i := 6) rfl).2.2 HRW.out).2.1, (raw3c (O5.out.nreads (i := 6) rfl).2.2 HRW.out).2.2⟩ (fun hHeld => ?_)
       clear hK_ K_
       refine nR_ ?_
       refine oP 6 (some 57) (fun K_ hK_ => ?_)
       refine Own.append_flat_step (Kd.raw 3) flatRaw O5.out (i := 7) rfl (O5.out.nreads (i := 4) rfl).2.2 rfl (by rfl) (.tmp 52) (.tmp 56) 40 (.agg #[.int .i64 0, .int .i64 0, .slice none 0 0]) 40 rfl Tryd.underlying40 infoR rfl (by decide) (by decide) rfl rfl (by have := HLR.out; simp only [List.length_nil]; omega) ?_
       intro C3 e3 w6 o_ k_
       obtain ⟨O6, K6⟩ := ok_ K5 o_ k_
       clear a0 e5 O5 K5
       have a0 := k8_ O6 0
       have e5 := D_set (k := 3) O6.out rfl HRI.out
       clear o_ k_ hHeld
       refine hK_.out _ _ ⟨a0.1, a0.2.1, a0.2.2.1, a0.2.2.2.1, a0.2.2.2.2.1, a0.2.2.2.2.2.1, a0.2.2.2.2.2.2.1, a0.2.2.2.2.2.2.2.1, e5.1.1, e5.1.2.1, e5.1.2.2.1, e5.1.2.2.2.1, e5.1.2.2.2.2, (raw3c (O6.out.nreads (i := 6) rfl).2.2 HRW.out).1, (raw3c (O6.out.nreads (i := 6) rfl).2.2 HRW.out).2.1, (raw3c (O6.out.nreads (i := 6) rfl).2.2 HRW.out).2.2⟩ (fun hHeld => ?_)
       clear hK_ K_
       refine nR_ ?_
       refine norm_ (a' := _) ?_ (hc_ ⟨C2, e2, C3, e3, D1, h1_⟩ _ ⟨?_, K6.out⟩)
       ·simp only [putAll, Act.put, List.setIfInBounds_toArray, List.set_cons_zero, List.set_cons_succ]
        try rfl
       ·exact O6.out.pickL [0, 1, 2, 3, 4, 5, 6, 7, 8] (by decide) (by simp)
     ·skip
      refine own_lit_step (Kd.raw 3) (N := N) (e := 35) (xs := [rw3 r.f0 r.f1 (.slice B r.f2.length b)]) (inner := [r.f0, r.f1, .slice B r.f2.length b]) rfl rfl gs_ (repW _ _ _ _ _ _) (by show 1 ≤ 9223372036854775807; decide) O3.out ?_
      intro D1 h1_ w4 o_ k_
      obtain ⟨O4, K4⟩ := ok_ K3 o_ k_
      clear a0 e5 O3 K3
      have a0 := k8_ O4 0
      have e5 := D_set (k := 3) O4.out rfl HRI.out
      clear o_ k_ hHeld
      refine hK_.out _ _ ⟨a0.1, a0.2.1, a0.2.2.1, a0.2.2.2.1, a0.2.2.2.2.1, a0.2.2.2.2.2.1, a0.2.2.2.2.2.2.1, a0.2.2.2.2.2.2.2.1, e5.1.1, e5.1.2.1, e5.1.2.2.1, e5.1.2.2.2.1, e5.1.2.2.2.2, (raw3c (O4.out.nreads (i := 6) rfl).2.2 HRW.out).1, (raw3c (O4.out.nreads (i := 6) rfl).2.2 HRW.out).2.1, (raw3c (O4.out.nreads (i := 6) rfl).2.2 HRW.out).2.2⟩ (fun hHeld => ?_)
      clear hK_ K_
      refine nR_ ?_
      refine oP 1 (some 52) (fun K_ hK_ => ?_)
      refine own_lit_step (Kd.raw 3) (N := N) (e := 35) (xs := []) (inner := []) rfl rfl gs_ (Reps.none _ _) (by decide) O4.out ?_
      intro C2 e2 w5 o_ k_
      obtain ⟨O5, K5⟩ := ok_ K4 o_ k_
      clear a0 e5 O4 K4
      have a0 := k8_ O5 0
      have e5 := D_set (k := 3) O5.out rfl HRI.out
      clear o_ k_ hHeld
      refine hK_.out _ _ ⟨a0.1, a0.2.1, a0.2.2.1, a0.2.2.2.1, a0.2.2.2.2.1, a0.2.2.2.2.2.1, a0.2.2.2.2.2.2.1, a0.2.2.2.2.2.2.2.1, e5.1.1, e5.1.2.1, e5.1.2.2.1, e5.1.2.2.2.1, e5.1.2.2.2.2, (raw3c (O5.out.nreads (i := 6) rfl).2.2 HRW.out).1, (raw3c (O5.out.nreads (i := 6) rfl).2.2 HRW.out).2.1, (raw3c (O5.out.nreads (i := 6) rfl).2.2 HRW.out).2.2⟩ (fun hHeld => ?_)
      clear hK_ K_
      refine nR_ ?_
      refine oP 6 (some 57) (fun K_ hK_ => ?_)
      refine Own.append_flat_step (Kd.raw 3) flatRaw O5.out (i := 8) rfl (O5.out.nreads (i := 4) rfl).2.2 rfl (by rfl) (.tmp 52) (.tmp 56) 40 (.agg #[.int .i64 0, .int .i64 0, .slice none 0 0]) 40 rfl Tryd.underlying40 infoR rfl (by decide) (by decide) rfl rfl (by have := HLR.out; simp only [List.length_nil]; omega) ?_
      intro C3 e3 w6 o_ k_
      obtain ⟨O6, K6⟩ := ok_ K5 o_ k_
      clear a0 e5 O5 K5
      have a0 := k8_ O6 0
      have e5 := D_set (k := 3) O6.out rfl HRI.out
      clear o_ k_ hHeld
      refine hK_.out _ _ ⟨a0.1, a0.2.1, a0.2.2.1, a0.2.2.2.1, a0.2.2.2.2.1, a0.2.2.2.2.2.1, a0.2.2.2.2.2.2.1, a0.2.2.2.2.2.2.2.1, e5.1.1, e5.1.2.1, e5.1.2.2.1, e5.1.2.2.2.1, e5.1.2.2.2.2, (raw3c (O6.out.nreads (i := 6) rfl).2.2 HRW.out).1, (raw3c (O6.out.nreads (i := 6) rfl).2.2 HRW.out).2.1, (raw3c (O6.out.nreads (i := 6) rfl).2.2 HRW.out).2.2⟩ (fun hHeld => ?_)
      clear hK_ K_
      refine nR_ ?_
      refine norm_ (a' := _) ?_ (hc_ ⟨C2, e2, C3, e3, D1, h1_⟩ _ ⟨?_, K6.out⟩)
      ·simp only [putAll, Act.put, List.setIfInBounds_toArray, List.set_cons_zero, List.set_cons_succ]
       try rfl
      ·exact O6.out.pickL [0, 1, 2, 3, 4, 5, 6, 8, 7] (by decide) (by simp)
    case hcont =>
     clear hHeld
     rintro ⟨C2, e2, C3, e3, D1, h1_⟩ w3 ⟨o_, k_⟩
     obtain ⟨O3, K3⟩ := ok_ K2 o_ k_
     clear a0 e5 O2 K2
     have a0 := k8_ O3 0
     have e5 := D_set (k := 3) O3.out rfl HRI.out
     clear o_ k_
     refine nA_ ?_
     have hHeld : w3.cell? ⟨gd, 0, none⟩ = some (.int .i64 cf.cl) ∧ w3.cell? ⟨gd, 1, none⟩ = some (.int .i64 cf.win) ∧ w3.cell? ⟨gd, 2, none⟩ = some (.int .i64 cf.push) ∧ w3.cell? ⟨gd, 3, none⟩ = some (.int .i64 cf.pull) ∧ w3.cell? ⟨gd, 4, none⟩ = some (.int .i64 cf.mtu) ∧ w3.cell? ⟨gd, 5, none⟩ = some (.int .i64 cf.last) ∧ w3.cell? ⟨gd, 6, none⟩ = some (.slice AL rL.length cL) ∧ w3.cell? ⟨gd, 7, none⟩ = some (.slice (some aa) cls.length cA) ∧ w3.cell? (aa.add (m.toNat * 5)) = some (.int .i64 x.e) ∧ w3.cell? ⟨(aa.add (m.toNat * 5)).block, (aa.add (m.toNat * 5)).off + 1, none⟩ = some (.slice (some ad) x.J.length cJ) ∧ w3.cell? ⟨(aa.add (m.toNat * 5)).block, (aa.add (m.toNat * 5)).off + 2, none⟩ = some (.int .i64 x.k) ∧ w3.cell? ⟨(aa.add (m.toNat * 5)).block, (aa.add (m.toNat * 5)).off + 3, none⟩ = some (.int .i64 x.c) ∧ w3.cell? ⟨(aa.add (m.toNat * 5)).block, (aa.add (m.toNat * 5)).off + 4, none⟩ = some (.slice AU x.U.length cU) ∧ w3.cell? (ad.add (d * 3)) = some (.int .i64 r.f0) ∧ w3.cell? ⟨(ad.add (d * 3)).block, (ad.add (d * 3)).off + 1, none⟩ = some (.int .i64 r.f1) ∧ w3.cell? ⟨(ad.add (d * 3)).block, (ad.add (d * 3)).off + 2, none⟩ = some (.slice B r.f2.length b) := ⟨a0.1, a0.2.1, a0.2.2.1, a0.2.2.2.1, a0.2.2.2.2.1, a0.2.2.2.2.2.1, a0.2.2.2.2.2.2.1, a0.2.2.2.2.2.2.2.1, e5.1.1, e5.1.2.1, e5.1.2.2.1, e5.1.2.2.2.1, e5.1.2.2.2.2, (raw3c (O3.out.nreads (i := 6) rfl).2.2 HRW.out).1, (raw3c (O3.out.nreads (i := 6) rfl).2.2 HRW.out).2.1, (raw3c (O3.out.nreads (i := 6) rfl).2.2 HRW.out).2.2⟩
     refine oP 20 (some 71) (fun K_ hK_ => ?_)
     refine Own.append_flat_step (Kd.raw 3) flatRaw O3.out (i := 7) rfl (O3.out.nreads (i := 8) rfl).2.2 rfl (by rfl) (.tmp 57) (.tmp 70) 40 (.agg #[.int .i64 0, .int .i64 0, .slice none 0 0]) 40 rfl Tryd.underlying40 infoR rfl (by decide) (by decide) rfl rfl (by have := HLR.out; omega) ?_
     intro C4 e4 w4 o_ k_
     obtain ⟨O4, K4⟩ := ok_ K3 o_ k_
     clear a0 e5 O3 K3
     have a0 := k8_ O4 0
     have e5 := D_set (k := 3) O4.out rfl HRI.out
     clear o_ k_ hHeld
     refine hK_.out _ _ ⟨a0.1, a0.2.1, a0.2.2.1, a0.2.2.2.1, a0.2.2.2.2.1, a0.2.2.2.2.2.1, a0.2.2.2.2.2.2.1, a0.2.2.2.2.2.2.2.1, e5.1.1, e5.1.2.1, e5.1.2.2.1, e5.1.2.2.2.1, e5.1.2.2.2.2, (raw3c (O4.out.nreads (i := 6) rfl).2.2 HRW.out).1, (raw3c (O4.out.nreads (i := 6) rfl).2.2 HRW.out).2.1, (raw3c (O4.out.nreads (i := 6) rfl).2.2 HRW.out).2.2⟩ (fun hHeld => ?_)
     clear hK_ K_
     refine nP ?_
     refine pP 21 (some 72) ?_
     refine pP 22 (some 73) ?_
     refine lP 23 none (fun K_ hK_ => ?_)
     refine xS 0 6 [.slice C4 (rL ++ [rw3 r.f0 r.f1 (.slice B r.f2.length b)]).length e4] O4 ?_
     intro w5 o_ k_
     obtain ⟨O5, K5⟩ := ok_ K4 o_ k_
     clear a0 e5 O4 K4
     have a0 := k8_ O5 0
     have e5 := D_set (k := 3) O5.out rfl HRI.out
     clear o_ k_
     refine hK_.out _ _ ?_
     clear hK_ K_
     refine dN ?_
     clear hHeld
     go_wp2
     go_ret
     have hz := O5.out.pickL [0, 1, 2, 3, 7, 5, 6] (by decide) (by simp)
     exact ⟨by rw [HSO.out]; rfl, by rw [HSO.out]; exact DocM.backC HXX.out HQL.out HDI.out HERC.out HRW.out HRR.out hz, K5.out⟩
theorem DCommit_i {z : Nat} {N : Nat → Prop} {w : World} {gd : Nat} {cf : MCf} {L : List Rnd7} {cls : List MCl} (n : Int) (h : Own N w [DocM gd cf L cls]) (hi : MInv cf z L cls) (hc : CfOk cf) (hx4 : z ≤ 400) :
  Calls Tryd.prog 47 #[pt gd, n] w fun e_ w' => e_ = .returned (.bool (nextR n L cls).isSome) ∧ Own N w' [DocM gd cf (cmtL n L cls) cls] ∧ KeepS N w w' := by
 have hb := hi.len hc
 have hl4 := hi.l
 unfold cmtL nextR
 cases hcl : clAt cls n with
 | none =>
  have hno := clAt_none hcl
  simp only [Option.bind_none, Option.isSome_none, Option.toList_none, List.append_nil]
  by_cases hlo : n < 1
  ·skip
   obtain ⟨N_, on_, nn_, rr_, bb_⟩ := h.frame0
   obtain ⟨AL, cL, AA, cA, e1, hm, hl⟩ := DocM.view0 (rr_ 0 _ rfl)
   exact (DCommit_lo n on_ hm hlo).mono fun e_ w' ⟨a, b, c⟩ => ⟨a, (bb_ w' [] c b).1, (bb_ w' [] c b).2⟩
  ·skip
   obtain ⟨N_, on_, nn_, rr_, bb_⟩ := h.frame0
   obtain ⟨AL, cL, AA, cA, e1, hm, hl⟩ := DocM.view0 (rr_ 0 _ rfl)
   exact (DCommit_hi n on_ hm (by omega) (by omega)).mono fun e_ w' ⟨a, b, c⟩ => ⟨a, (bb_ w' [] c b).1, (bb_ w' [] c b).2⟩
 | some x =>
  obtain ⟨hn, hx⟩ := clAt_some hcl
  have hjx := (hi.c n x hcl).j
  simp only [Option.bind_some]
  exact DCommit_in n (n - 1) rfl h hn hb (by omega) (by omega) (by rw [show (n - 1).toNat = n.toNat - 1 by omega]; exact hx)
end Go.Proofs.YtjdenpmaianmfaaDoor.J
namespace Go.Proofs.YtjdenpmaianmfaaDoor.J
set_option maxHeartbeats 16000000
set_option maxRecDepth 100000
set_option linter.unusedSimpArgs false
set_option linter.unusedVariables false
open Go RowKit YtjdenpmaianmfaaDoorW.PrintWords YtjdenpmaianmfaaDoorW.PrintLast YtjdenpmaianmfaaDoorW.PrintMore Q YtjdenpmaianmfaaDoor.Sep YtjdenpmaianmfaaDoor.Pure
abbrev z5D : List Value := [.int .i64 1, .slice none 0 0, .int .i64 0, .int .i64 0, .slice none 0 0]
def rowsZ (x : Int) : RawR := List.replicate x.toNat z5D
theorem rowsZ_succ (x : Int) (h : 0 ≤ x) : rowsZ (x + 1) = rowsZ x ++ [z5D] := by
 unfold rowsZ
 rw [show (x + 1).toNat = x.toNat + 1 by omega, List.replicate_succ']
theorem rowsZ_len (x : Int) : (rowsZ x).length = x.toNat := by unfold rowsZ; rw [List.length_replicate]
theorem flat5 : Flat (Kd.raw 5) := fun h => h
theorem rep5 (W : World) : Reps (Kd.FK (Kd.raw 5) W (fun _ => False)) 5 [z5D] z5D := by
 refine (Reps.none _ 5).snoc (p := z5D) (c := z5D) (flat5.FK (w := W) ⟨rfl, rfl, fun u hu => ?_⟩) rfl
 simp only [z5D, List.mem_cons, List.not_mem_nil, or_false] at hu
 rcases hu with rfl | rfl | rfl | rfl | rfl <;> rfl
theorem infoD : (Tryd.prog.info? tDCl).map (fun i => (i.zero, i.size, i.bytes)) = some (some (.agg #[.int .i64 0, .slice none 0 0, .int .i64 0, .int .i64 0, .slice none 0 0]), 5, 72) := by kernel_rfl
theorem bigs_none {w : World} : ∀ {xs : List HP}, (∀ X ∈ xs, X.P (fun _ => False) w) → (bigs xs).P (fun _ => False) w
 | [], _ => trivial
 | X :: xs, h => ⟨fun _ => False, fun _ => False, h X List.mem_cons_self, bigs_none (fun Y hY => h Y (List.mem_cons_of_mem _ hY)), fun _ a _ => a, fun _ a => a, fun _ a => a⟩
theorem zw_rep {α β γ : Type} (f : α → β → γ) (a : α) (b : β) (n : Nat) : List.zipWith f (List.replicate n a) (List.replicate n b) = List.replicate n (f a b) := by
 induction n with
 | zero => rfl
 | succ n ih => rw [List.replicate_succ, List.replicate_succ, List.replicate_succ, List.zipWith_cons_cons, ih]
theorem doc_new {N : Nat → Prop} {w : World} {gd : Nat} {cf : MCf} {vA : Value} {x : Int} {P0 : HP} (h : Own N w [P0, cells gd (modC cf (.slice none 0 0) vA) tDM, nrow (Kd.raw 5) tDCl vA (rowsZ x)]) : Own N w [DocM gd cf [] (clsZ x)] := by
 let d0 : DcT := (.slice none 0 0, .slice none 0 0, [])
 have hq : (List.replicate x.toNat d0).length = (clsZ x).length := by rw [List.length_replicate, clsZ_len]
 have e1 : rowsD (List.replicate x.toNat d0) (clsZ x) = rowsZ x := zw_rep rowD d0 c0M x.toNat
 have h1 := ((h.push_emp (poolD [] [] (List.replicate x.toNat d0) (clsZ x)) (fun w => by
  intro p hp
  rcases List.mem_cons.1 hp with e | e
  ·subst e
   exact Lead.none _ _
  ·have e2 : List.zipWith (fun (d : DcT) (x : MCl) => (d.2.2, x.J)) (List.replicate x.toNat d0) (clsZ x) = List.replicate x.toNat ([], []) := zw_rep _ d0 c0M x.toNat
   rw [e2] at e
   rw [List.eq_of_mem_replicate e]
   exact Lead.none _ _)).push_emp (bigs (dclI (List.replicate x.toNat d0) (clsZ x))) (fun w => by
  apply bigs_none
  intro X hX
  have e2 : dclI (List.replicate x.toNat d0) (clsZ x) = List.replicate x.toNat (star (nrow (Kd.raw 3) tR7 (.slice none 0 0) []) (nrow kU7 tU7 (.slice none 0 0) [])) := zw_rep _ d0 c0M x.toNat
  rw [e2] at hX
  rw [List.eq_of_mem_replicate hX]
  exact ⟨fun _ => False, fun _ => False, Kd.N_nil _ _ _ _ _, Kd.N_nil _ _ _ _ _, fun _ a _ => a, fun _ a => a, fun _ a => a⟩)).push_emp (nrow (Kd.raw 3) tR7 (.slice none 0 0) []) (fun w => Kd.N_nil _ _ _ _ _)
 have h2 := h1.pickL [1, 3, 4, 2, 5] (by decide) (by simp)
 rw [← e1] at h2
 exact DocM.shut hq h2
def DnI (N : Nat → Prop) (w : World) (gd : Nat) (cf : MCf) (R : HP) (i : Value) (wr : World) : Prop := ∃ (x : Int) (AA : Option Addr) (cA : Nat), 0 ≤ x ∧ x ≤ cf.cl ∧ i = .int .i64 x ∧ Aside0 (Own N wr [R, cells gd #[cf.cl, cf.win, cf.push, cf.pull, cf.mtu, cf.last, .slice none 0 0, .slice AA (rowsZ x).length cA] tDM, nrow (Kd.raw 5) tDCl (.slice AA (rowsZ x).length cA) (rowsZ x)]) ∧ Aside0 (KeepS N w wr)
theorem DNew {N : Nat → Prop} {w : World} (cf : MCf) (h : Own N w []) (hc : 1 ≤ cf.cl ∧ cf.cl ≤ 64) :
  Calls Tryd.prog 46 #[.agg #[cf.cl, cf.win, cf.push, cf.pull, cf.mtu, cf.last]] w fun e_ w' => ∃ gd, e_ = .returned (pt gd) ∧ Own N w' [DocM gd cf [] (clsZ cf.cl)] ∧ KeepS N w w' := by
 have HCF := Am hc
 have O0 : Aside0 (Own N w []) := ⟨h⟩
 have K0 : Aside0 (KeepS N w w) := ⟨KeepS.refl _ _⟩
 clear h hc
 go_enter Tryd.func46, Tryd.ntmps46
 go_wp2_with (first | ((with_reducible refine gD 1 rfl ?_); refine bP 1 #[cf.cl, cf.win, cf.push, cf.pull, cf.mtu, cf.last] 68 O0.out ?_; intro gc w1 o_ k_; obtain ⟨O1, K1⟩ := ok_ K0 o_ k_; clear O0 K0 o_ k_; have a0 := k6_ O1 0) | ((with_reducible refine gD 7 rfl ?_); refine bP 7 #[cf.cl, cf.win, cf.push, cf.pull, cf.mtu, cf.last, .slice none 0 0, .slice none 0 0] tDM O1.out ?_; intro gd w2 o_ k_; obtain ⟨O2, K2⟩ := ok_ K1 o_ k_; clear a0 O1 K1 o_ k_; have a0 := k6_ O2 0; have a1 := k8_ O2 1))
 clear a0 a1
 go_loopw [4] (fun i wr => DnI N w gd cf (cells gc #[cf.cl, cf.win, cf.push, cf.pull, cf.mtu, cf.last] 68) i wr) (fun i _ => cf.cl.toNat - (intOf i).toNat)
 case atStart => exact ⟨0, none, 0, by omega, by have := HCF.out; omega, rfl, ⟨O2.out.push_emp (nrow (Kd.raw 5) tDCl (.slice none 0 0) []) (fun w => Kd.N_nil _ _ _ _ _)⟩, K2⟩
 case round =>
  clear O2 K2
  obtain ⟨x, AA, cA, hx0, hx1, rfl, OA, KA⟩ := hrel
  by_cases hlt : x < cf.cl
  ·have hd := decide_eq_true hlt
   have hs2 : wrap64 (x + 1) = x + 1 := by unfold wrap64; have := HCF.out; omega
   have HX := Am (show 0 ≤ x ∧ x < cf.cl from ⟨hx0, hlt⟩)
   have HGL : Aside0 ((rowsZ x).length ≤ 64) := ⟨by rw [rowsZ_len]; have := HCF.out; omega⟩
   clear hx0 hx1 hlt
   have O3 : Aside0 (Own N wr [cells gc #[cf.cl, cf.win, cf.push, cf.pull, cf.mtu, cf.last] 68, cells gd #[cf.cl, cf.win, cf.push, cf.pull, cf.mtu, cf.last, .slice none 0 0, .slice AA (rowsZ x).length cA] tDM, nrow (Kd.raw 5) tDCl (.slice AA (rowsZ x).length cA) (rowsZ x)]) := ⟨OA.out⟩
   have K3 : Aside0 (KeepS N w wr) := ⟨KA.out⟩
   have a1 := k8_ O3 1
   have a0 := k6_ O3 0
   clear OA KA
   go_wp2_with (first | ((with_reducible refine gD 20 rfl ?_); refine own_lit (Kd.raw 5) (N := N) (e := tDCl) (xs := [z5D]) (inner := [.int .i64 1, .slice none 0 0, .int .i64 0, .int .i64 0, .slice none 0 0]) rfl (D := 20) rfl gs_ ?hp (by show 1 ≤ 9223372036854775807; decide) O3.out ?_; (case hp => exact rep5 _); intro B1 b1 w4 o_ k_; obtain ⟨O4, K4⟩ := ok_ K3 o_ k_; clear a1 a0 O3 K3 o_ k_; have a1 := k8_ O4 1; have a0 := k6_ O4 0) | ((with_reducible refine gate_builtin (b := .append) (xs := #[.tmp 18, .tmp 20]) rfl ?_); at_builtin; refine Own.append_flat (Kd.raw 5) flat5 O4.out (i := 2) (ys := [z5D]) rfl ((O4.out.nreads (i := 3) rfl).2.2) rfl (.tmp 18) (.tmp 20) 92 ((.agg #[.int .i64 0, .slice none 0 0, .int .i64 0, .int .i64 0, .slice none 0 0])) 72 rfl Tryd.underlying92 infoD rfl (by decide) (by decide) rfl rfl (by have := HGL.out; first | omega | (simp only [List.length_append, List.length_singleton]; omega)) ?_; intro B2 b2 w5 o_ k_; obtain ⟨O5, K5⟩ := ok_ K4 o_ k_; clear a1 a0 O4 K4 o_ k_; have a1 := k8_ O5 1; have a0 := k6_ O5 0) | ((with_reducible refine gT 92 23 rfl ?_); refine wS 1 7 [.slice B2 ((rowsZ x) ++ ([z5D])).length b2] O5 ?_; intro w6 o_ k_; obtain ⟨O6, K6⟩ := ok_ K5 o_ k_; clear a1 a0 O5 K5 o_ k_; have a1 := k8_ O6 1; have a0 := k6_ O6 0))
   go_roundw
   case rel => exact ⟨x + 1, B2, b2, by have := HX.out; omega, by have := HX.out; omega, int_eq17 (by unfold wrap64; have := HX.out; have := HCF.out; omega), ⟨by rw [rowsZ_succ x HX.out.1]; exact O6.out.take 3⟩, K6⟩
   case measure => have := HX.out; have := HCF.out; simp [intOf]; omega
  ·have hxe : x = cf.cl := by omega
   have hd : decide (x < cf.cl) = false := decide_eq_false hlt
   clear hlt hx0 hx1
   have O3 : Aside0 (Own N wr [cells gc #[cf.cl, cf.win, cf.push, cf.pull, cf.mtu, cf.last] 68, cells gd #[cf.cl, cf.win, cf.push, cf.pull, cf.mtu, cf.last, .slice none 0 0, .slice AA (rowsZ x).length cA] tDM, nrow (Kd.raw 5) tDCl (.slice AA (rowsZ x).length cA) (rowsZ x)]) := ⟨OA.out⟩
   have K3 : Aside0 (KeepS N w wr) := ⟨KA.out⟩
   have a1 := k8_ O3 1
   have a0 := k6_ O3 0
   clear OA KA
   go_wp2
   go_ret
   exact ⟨gd, rfl, by rw [← hxe]; exact doc_new O3.out, K3.out⟩
section
variable {N : Nat → Prop} {w : World} {gd : Nat} {cf : MCf} {L : List Rnd7} {cls : List MCl}
theorem DocM.backP {i : Nat} {x x' : MCl} {ds : List DcT} {rc rL rJ : RawR} {vL vA vJ vJ' vU : Value} {AU : Option Addr} {cU : Nat} {n k : Int} (hx : cls[i]? = some x) (hq : ds.length = cls.length) (hd : ds[i]? = some (vJ, vU, rJ)) (he : rc = rowsD ds cls) (hJ : x'.J = x.J ++ [⟨n, k, x.U⟩]) (hU : x'.U = []) (hc : x.U.length ≤ cU)
  (h : Own N w [cells gd (modC cf vL vA) tDM, poolD rL L ds cls, bigs ((dclI ds cls).set i emp), nrow (Kd.raw 5) tDCl vA (rc.set i [x'.e, vJ', x'.k, x'.c, .slice none 0 0]), nrow (Kd.raw 3) tR7 vL rL, nrow kU7 tU7 (.slice AU x.U.length cU) x.U, nrow (Kd.raw 3) tR7 vJ' (rJ ++ [rw3 n k (.slice AU x.U.length cU)])]) : Own N w [DocM gd cf L (cls.set i x')] := by
 subst he
 have h0 := h.join (i := 1) (j := 5) rfl rfl (by decide)
 have hz0 : ((rL, L) :: List.zipWith (fun (d : DcT) (x : MCl) => (d.2.2, x.J)) ds cls)[i + 1]? = some (rJ, x.J) := by
  rw [List.getElem?_cons_succ]
  exact zw_get (fun (d : DcT) (x : MCl) => (d.2.2, x.J)) hd hx
 have h1 := h0.conv (i := 1) rfl (pool (((rL, L) :: List.zipWith (fun (d : DcT) (x : MCl) => (d.2.2, x.J)) ds cls).set (i + 1) (rJ ++ [rw3 n k (.slice AU x.U.length cU)], x.J ++ [⟨n, k, x.U⟩]))) (fun F hp _ => pool_push (r := ⟨n, k, x.U⟩) hz0 hp hc)
 have h2 := (h1.push_emp (nrow kU7 tU7 (.slice none 0 0) x'.U) (fun w => by rw [hU]; exact Kd.N_nil _ _ _ _ _)).pickL [0, 1, 2, 3, 4, 7, 6] (by decide) (by simp)
 exact DocM.back (rL := rL) (rL' := rL) (L' := L) (d' := (vJ', .slice none 0 0, rJ ++ [rw3 n k (.slice AU x.U.length cU)])) (x' := x') hx hq hd (fun F w hp => by
  have e : List.zipWith (fun (d : DcT) (x : MCl) => (d.2.2, x.J)) (ds.set i (vJ', .slice none 0 0, rJ ++ [rw3 n k (.slice AU x.U.length cU)])) (cls.set i x') = (List.zipWith (fun (d : DcT) (x : MCl) => (d.2.2, x.J)) ds cls).set i (rJ ++ [rw3 n k (.slice AU x.U.length cU)], x.J ++ [⟨n, k, x.U⟩]) := by rw [zw_set, hJ]
  show (pool ((rL, L) :: List.zipWith (fun (d : DcT) (x : MCl) => (d.2.2, x.J)) (ds.set i (vJ', .slice none 0 0, rJ ++ [rw3 n k (.slice AU x.U.length cU)])) (cls.set i x'))).P F w
  rw [e, ← List.set_cons_succ]
  exact hp) h2
end
theorem doX_kinds {cf : MCf} {L : List Rnd7} {x : MCl} {n kd uc un an ab am : Int} {key us rk : ByteArray} {X : RepT × MCl} {p : Nat} (hX : doX cf L n x ⟨kd, n, ⟨key, uc, un, us⟩, rk, an, ab, am⟩ = X) (hp : x.J.length - ownN n L x = p) (h : 1 ≤ kd ∧ kd ≤ 6) (h2 : kd ≠ 2) (h4 : wrap64 ((x.k : Int) + (x.c : Int)) = (x.k : Int) + (x.c : Int)) :
  (kd = 3 ∧ ((x.U.length : Int) == 0) = true ∧ Aside0 (X = (rep0 11, x))) ∨
  (kd = 3 ∧ ((x.U.length : Int) == 0) = false ∧ (decide ((p : Int) ≥ cf.push) = true ∧ decide (cf.push ≤ (p : Int)) = true) ∧ Aside0 (X = (rep0 7, x))) ∨
  (kd = 5 ∧ ((p : Int) == 0) = true ∧ ((x.U.length : Int) == 0) = true ∧ Aside0 (X = (⟨0, (0, 0, none'), true, 0⟩, x))) ∨
  (kd = 5 ∧ ((p : Int) == 0) = true ∧ ((x.U.length : Int) == 0) = false ∧ Aside0 (X = (⟨0, (0, 0, none'), false, 0⟩, x))) ∨
  (kd = 5 ∧ ((p : Int) == 0) = false ∧ Aside0 (X = (⟨0, (0, 0, none'), false, 0⟩, x))) ∨
  (kd = 1 ∧ (may key uc un us != 0) = true ∧ Aside0 (X = (rep0 (may key uc un us), x))) ∨
  (kd = 4 ∧ wrap64 ((x.k : Int) + (x.c : Int)) = (x.k : Int) + (x.c : Int) ∧ Aside0 (X = (repN x.c, { x with k := x.k + x.c, c := 0 }))) ∨
  (kd = 1 ∧ (may key uc un us != 0) = false ∧ Aside0 (X = bif fitsB [(⟨key, uc, un, us⟩ : Upd7)] cf.mtu then (bif fitsB (x.U ++ [(⟨key, uc, un, us⟩ : Upd7)]) cf.mtu then (rep0 0, { x with U := x.U ++ [(⟨key, uc, un, us⟩ : Upd7)] }) else (rep0 7, x)) else (rep0 3, x))) ∨
  (kd = 3 ∧ ((x.U.length : Int) == 0) = false ∧ (decide ((p : Int) ≥ cf.push) = false ∧ decide (cf.push ≤ (p : Int)) = false) ∧ Aside0 (X = bif decide (cf.last ≤ (x.J.length : Int)) then (rep0 8, x) else (repN ((x.J.length + 1 : Nat) : Int), { x with J := x.J ++ [⟨n, (x.J.length : Int) + 1, x.U⟩], U := [] }))) ∨
  (kd = 6 ∧ Aside0 (X = bif decide (cf.last ≤ x.e) then (rep0 8, x) else (rep0 0, ⟨x.e + 1, x.J, 0, 0, []⟩))) := by
 have eu : ∀ b, decide (x.U.length = 0) = b → ((x.U.length : Int) == 0) = b := fun b h => by rw [← h]; by_cases q : x.U.length = 0 <;> simp [q]
 have ep : ∀ b, decide (p = 0) = b → ((p : Int) == 0) = b := fun b h => by rw [← h]; by_cases q : p = 0 <;> simp [q]
 unfold doX at hX
 dsimp only at hX
 rcases (by omega : kd = 1 ∨ kd = 3 ∨ kd = 4 ∨ kd = 5 ∨ kd = 6) with rfl | rfl | rfl | rfl | rfl
 ·rw [if_pos rfl] at hX
  rcases upd_cases x.U key uc un us cf.mtu with ⟨h1, e1, e2⟩ | ⟨h1, h2, e1, e2⟩ | ⟨h1, h2, h3, e1, e2⟩ | ⟨h1, h2, h3, e1, e2⟩ <;> simp only [e1, e2] at hX
  ·exact .inr (.inr (.inr (.inr (.inr (.inl ⟨rfl, bne_iff_ne.mpr h1, ⟨hX.symm⟩⟩)))))
  ·exact .inr (.inr (.inr (.inr (.inr (.inr (.inr (.inl ⟨rfl, bne_eq_false_iff_eq.mpr h1, ⟨by rw [h2]; exact hX.symm⟩⟩)))))))
  ·exact .inr (.inr (.inr (.inr (.inr (.inr (.inr (.inl ⟨rfl, bne_eq_false_iff_eq.mpr h1, ⟨by rw [h2, h3]; exact hX.symm⟩⟩)))))))
  ·exact .inr (.inr (.inr (.inr (.inr (.inr (.inr (.inl ⟨rfl, bne_eq_false_iff_eq.mpr h1, ⟨by rw [h2, h3]; exact hX.symm⟩⟩)))))))
 ·rw [if_neg (by decide), if_neg (by decide), if_pos rfl] at hX
  rcases mpush_cases n L x cf with ⟨h1, e⟩ | ⟨h1, h2, e⟩ | ⟨h1, h2, h3, e⟩ | ⟨h1, h2, h3, e⟩ <;> rw [e] at hX
  ·exact .inl ⟨rfl, eu _ (decide_eq_true h1), ⟨hX.symm⟩⟩
  ·rw [hp] at h2
   exact .inr (.inl ⟨rfl, eu _ (decide_eq_false h1), ⟨decide_eq_true h2, decide_eq_true h2⟩, ⟨hX.symm⟩⟩)
  ·rw [hp] at h2
   exact .inr (.inr (.inr (.inr (.inr (.inr (.inr (.inr (.inl ⟨rfl, eu _ (decide_eq_false h1), ⟨decide_eq_false h2, decide_eq_false h2⟩, ⟨by rw [decide_eq_true (show cf.last ≤ (x.J.length : Int) from h3)]; exact hX.symm⟩⟩))))))))
  ·rw [hp] at h2
   exact .inr (.inr (.inr (.inr (.inr (.inr (.inr (.inr (.inl ⟨rfl, eu _ (decide_eq_false h1), ⟨decide_eq_false h2, decide_eq_false h2⟩, ⟨by rw [decide_eq_false (show ¬ cf.last ≤ (x.J.length : Int) from h3)]; exact hX.symm⟩⟩))))))))
 ·rw [if_neg (by decide), if_neg (by decide), if_neg (by decide), if_pos rfl] at hX
  exact .inr (.inr (.inr (.inr (.inr (.inr (.inl ⟨rfl, h4, ⟨hX.symm⟩⟩))))))
 ·rw [if_neg (by decide), if_neg (by decide), if_neg (by decide), if_neg (by decide), if_pos rfl, hp] at hX
  by_cases h0 : p = 0
  ·by_cases h1 : x.U.length = 0
   ·rw [decide_eq_true h0, decide_eq_true h1] at hX
    exact .inr (.inr (.inl ⟨rfl, ep _ (decide_eq_true h0), eu _ (decide_eq_true h1), ⟨hX.symm⟩⟩))
   ·rw [decide_eq_true h0, decide_eq_false h1] at hX
    exact .inr (.inr (.inr (.inl ⟨rfl, ep _ (decide_eq_true h0), eu _ (decide_eq_false h1), ⟨hX.symm⟩⟩)))
  ·rw [decide_eq_false h0, Bool.false_and] at hX
   exact .inr (.inr (.inr (.inr (.inl ⟨rfl, ep _ (decide_eq_false h0), ⟨hX.symm⟩⟩))))
 ·rw [if_neg (by decide), if_neg (by decide), if_neg (by decide), if_neg (by decide), if_neg (by decide)] at hX
  refine .inr (.inr (.inr (.inr (.inr (.inr (.inr (.inr (.inr (⟨rfl, ⟨?_⟩⟩)))))))))
  by_cases h1 : x.e ≥ cf.last
  ·rw [if_pos h1] at hX
   rw [decide_eq_true (show cf.last ≤ x.e from h1)]
   exact hX.symm
  ·rw [if_neg h1] at hX
   rw [decide_eq_false (show ¬ cf.last ≤ x.e from h1)]
   exact hX.symm
theorem DDo_in {N : Nat → Prop} {w : World} {gd : Nat} {cf : MCf} {L : List Rnd7} {cls : List MCl} {x : MCl} (kd n m : Int) (key : ByteArray) (uc un : Int) (us rk : ByteArray) (an ab am : Int) (X : RepT × MCl) (hm_ : n - 1 = m) (h : Own N w [DocM gd cf L cls]) (hn : 1 ≤ n ∧ n ≤ cls.length) (hc4 : cls.length ≤ 64) (hmm : ∀ (k : Nat) (r : Rnd7), L[k]? = some r → r.f1 = ((ownR r.f0 (L.take k)).length : Int) + 1) (haa : ∀ (k : Nat) (r : Rnd7), x.J[k]? = some r → r.f1 = (k : Int) + 1) (hk : x.k ≤ L.length) (hJ : x.J.length ≤ 100000) (hL : L.length ≤ 100000) (hx : cls[m.toNat]? = some x) (hUL : x.U.length ≤ 100000) (hc5 : x.c ≤ 100000) (he : 1 ≤ x.e ∧ x.e ≤ 100000) (h16 : 1 ≤ kd ∧ kd ≤ 6) (hk2 : kd ≠ 2) (hX : doX cf L n x ⟨kd, n, ⟨key, uc, un, us⟩, rk, an, ab, am⟩ = X) :
  Calls Tryd.prog 49 #[pt gd, .agg #[kd, n, key, uc, un, us, rk, an, ab, .int .u32 am]] w fun e_ w' => e_ = .returned (repM X.1) ∧ Own N w' [DocM gd cf L (cls.set m.toNat X.2)] ∧ KeepS N w w' := by
 have HN := Am hn
 have HB := Am hc4
 have HMM := Am hmm
 have HAA := Am haa
 have HKL := Am hk
 have HJL := Am hJ
 have HLL := Am hL
 obtain ⟨p, hp⟩ : ∃ p, (pndR n L x).length = p := ⟨_, rfl⟩
 have HPP := Am hp
 have HPE : Aside0 (x.J.length - ownN n L x = p) := ⟨by rw [← hp]; unfold pndR; rw [List.length_drop]⟩
 have HNM : Aside0 (n.toNat - 1 = m.toNat) := ⟨by omega⟩
 have HL := Am hUL
 have HE1 := Am he
 have k1 : decide (kd < 1) = false := decide_eq_false (by omega)
 have k2 : decide (kd > 6) = false := decide_eq_false (by omega)
 have k3 : decide (6 < kd) = false := k2
 have HCS := Am (doX_kinds hX HPE.out h16 hk2 (by unfold wrap64; omega))
 have hw : wrap64 (n - 1) = m := by rw [← hm_]; unfold wrap64; omega
 have hp_ := eq_true (show (0 : Int) ≤ m by omega)
 have hq2 := eq_true (show m < (cls.length : Int) by omega)
 have g1 : decide (n < 1) = false := decide_eq_false (by omega)
 have g2 : decide (n > (cls.length : Int)) = false := decide_eq_false (by omega)
 have g3 : decide ((cls.length : Int) < n) = false := g2
 obtain ⟨AL, cL, aa, cA, rL, ds, rJ, AJ, cJ, AU, cU, rc, erc, hil, ⟨hq, hrl, hqj⟩, hdi, h2⟩ := DocM.at2 h hx
 have HRI := Am hil
 have HDI := Am hdi
 have HXX := Am hx
 have HQL := Am hq
 have HRL := Am hrl
 have HQJ := Am hqj
 have HERC := Am erc
 have O0 : Aside0 (Own N w [cells gd #[cf.cl, cf.win, cf.push, cf.pull, cf.mtu, cf.last, .slice AL L.length cL, .slice (some aa) cls.length cA] tDM, poolD rL L ds cls, bigs ((dclI ds cls).set m.toNat emp), nrow (Kd.raw 5) tDCl (.slice (some aa) cls.length cA) (rc.set m.toNat [x.e, .slice AJ x.J.length cJ, x.k, x.c, .slice AU x.U.length cU]), nrow (Kd.raw 3) tR7 (.slice AL L.length cL) rL, nrow kU7 tU7 (.slice AU x.U.length cU) x.U, nrow (Kd.raw 3) tR7 (.slice AJ x.J.length cJ) rJ]) := ⟨h2⟩
 have K0 : Aside0 (KeepS N w w) := ⟨KeepS.refl _ _⟩
 have a0 := k8_ O0 0
 have e5 := D_set (k := 3) O0.out rfl HRI.out
 clear h h2 hx hil hq hrl hqj hdi erc hn hc4 hmm haa hk hJ hL hm_ hp hUL he hc5 hX h16 hk2
 have HRC : Aside0 ((rc.set m.toNat [x.e, .slice AJ x.J.length cJ, x.k, x.c, .slice AU x.U.length cU])[n.toNat - 1]? = some [.int .i64 x.e, .slice AJ x.J.length cJ, .int .i64 x.k, .int .i64 x.c, .slice AU x.U.length cU]) := ⟨by rw [HNM.out]; exact List.getElem?_set_self HRI.out⟩
 go_enter Tryd.func49, Tryd.ntmps49
 go_wp2_with (first | ((with_reducible refine gD 3 rfl ?_); refine bP 3 #[kd, n, key, uc, un, us, rk, an, ab, .int .u32 am] 83 O0.out ?_; intro ga w1 o_ k_; obtain ⟨O1, K1⟩ := ok_ K0 o_ k_; clear a0 e5 O0 K0; have a0 := k8_ O1 0; have a7 := k10_ O1 7; have e5 := D_set (k := 3) O1.out rfl HRI.out; clear o_ k_) | ((with_reducible refine gD 4 rfl ?_); refine bP 4 #[.int .i64 0, .int .i64 0, .int .i64 0, .string ⟨#[]⟩, false, .int .i64 0] 79 O1.out ?_; intro gr w2 o_ k_; obtain ⟨O2, K2⟩ := ok_ K1 o_ k_; clear a0 a7 e5 O1 K1; have a0 := k8_ O2 0; have a7 := k10_ O2 7; have a8 := k6_ O2 8; have e5 := D_set (k := 3) O2.out rfl HRI.out; clear o_ k_))
 refine sP (n := 13) (S := fun w' => w'.cell? ⟨ga, 1, none⟩ = some (.int .i64 n) ∧ w'.cell? ⟨gd, 7, none⟩ = some (.slice (some aa) cls.length cA)) (ds := []) ⟨a7.2.1, a0.2.2.2.2.2.2.2.1⟩ (fun hHeld => ?_)
 obtain ⟨w3, hw_, k_, O3, K3⟩ := drw_ O2 K2
 rw [← hw_] at hHeld ⊢
 clear a0 a7 a8 e5 O2 K2
 have a0 := k8_ O3 0
 have a7 := k10_ O3 7
 have a8 := k6_ O3 8
 have e5 := D_set (k := 3) O3.out rfl HRI.out
 clear k_ hw_
 refine pP 0 (some 20) ?_
 refine tP 1 (some 21) hHeld ?_
 refine pP 2 (some 22) ?_
 refine pP 3 (some 23) ?_
 refine pP 4 (some 24) ?_
 refine pP 6 (some 26) ?_
 refine pP 7 (some 27) ?_
 refine pP 8 (some 28) ?_
 refine tP 5 (some 25) hHeld ?_
 refine tP 9 (some 29) hHeld ?_
 refine pP 10 (some 30) ?_
 refine pP 11 (some 31) ?_
 refine pP 12 (some 32) ?_
 refine dN ?_
 clear hHeld
 go_wp2
 refine sP (n := 9) (S := fun w' => w'.cell? ⟨gd, 7, none⟩ = some (.slice (some aa) cls.length cA) ∧ w'.cell? ⟨ga, 1, none⟩ = some (.int .i64 n)) (ds := []) ⟨a0.2.2.2.2.2.2.2.1, a7.2.1⟩ (fun hHeld => ?_)
 obtain ⟨w4, hw_, k_, O4, K4⟩ := drw_ O3 K3
 rw [← hw_] at hHeld ⊢
 clear a0 a7 a8 e5 O3 K3
 have a0 := k8_ O4 0
 have a7 := k10_ O4 7
 have a8 := k6_ O4 8
 have e5 := D_set (k := 3) O4.out rfl HRI.out
 clear k_ hw_
 refine pP 0 (some 34) ?_
 refine pP 1 (some 35) ?_
 refine pP 2 (some 36) ?_
 refine pP 4 (some 38) ?_
 refine tP 3 (some 37) hHeld ?_
 refine tP 5 (some 39) hHeld ?_
 refine pP 6 (some 40) ?_
 refine pP 7 (some 41) ?_
 refine pP 8 (some 5) ?_
 refine dN ?_
 clear hHeld
 go_wp2_with (first | ((with_reducible refine gC 85 rfl ?_); refine gP (some 45) Tryd.func85 #[pt gd, n] ?_; obtain ⟨N_, on_, nn_, rr_, bb_⟩ := O4.out.frame0; refine (DPendP p n HPP.out on_ (rr_ 0 _ rfl) (Kd.N_F (rr_ 3 _ rfl)) HRC.out (leadF (rr_ 4 _ rfl) (pool_get (rr_ 1 _ rfl) List.mem_cons_self) HRL.out.symm) (leadF (rr_ 6 _ rfl) (pool_get (rr_ 1 _ rfl) (poolD_mem HDI.out HXX.out)) HQJ.out.symm) HN.out HB.out HMM.out HAA.out HKL.out HJL.out HLL.out).mono ?_; rintro e_ w5 ⟨A9, c9, r9, rfl, oo_, _, kk_⟩; obtain ⟨o_, k_⟩ := bb_ _ _ kk_ oo_; refine ⟨_, rfl, ?_⟩; obtain ⟨O5, K5⟩ := ok_ K4 o_ k_; clear a0 a7 a8 e5 O4 K4; have a0 := k8_ O5 0; have a7 := k10_ O5 7; have a8 := k6_ O5 8; have e5 := D_set (k := 3) O5.out rfl HRI.out; clear o_ k_ oo_ kk_ on_ nn_ rr_ bb_; rcases HCS with ⟨⟨rfl, dA, HDX⟩ | ⟨rfl, dB, ⟨d2, d3⟩, HDX⟩ | ⟨rfl, dC, d2, HDX⟩ | ⟨rfl, dD, d2, HDX⟩ | ⟨rfl, dD, HDX⟩ | ⟨rfl, d1, HDX⟩ | ⟨rfl, d1, HDX⟩ | ⟨rfl, d1, HDX⟩ | ⟨rfl, d1, ⟨d2, d3⟩, HDX⟩ | ⟨rfl, HDX⟩⟩) | ((with_reducible refine gC 86 rfl ?_); refine gP (some 52) Tryd.func86 #[.agg #[key, uc, un, us]] ?_; refine (chapbookref04_May.calls 6 key uc un us (may key uc un us) _ (rmay_ok 0 key uc un us)).mono ?_; rintro e_ w6 ⟨rfl, hb_⟩; refine ⟨_, rfl, ?_⟩; have o_ := O5.out.below hb_; have k_ := KeepS.of_below (N := N) hb_; obtain ⟨O6, K6⟩ := ok_ K5 o_ k_; clear a0 a7 a8 e5 O5 K5; have a0 := k8_ O6 0; have a7 := k10_ O6 7; have a8 := k6_ O6 8; have e5 := D_set (k := 3) O6.out rfl HRI.out; clear o_ k_ hb_) | ((with_reducible refine gT 79 4 rfl ?_); refine wS 8 0 [.int .i64 (may key uc un us), .int .i64 0, .int .i64 0, .string ⟨#[]⟩, false, .int .i64 0] O6 ?_; intro w7 o_ k_; obtain ⟨O7, K7⟩ := ok_ K6 o_ k_; clear a0 a7 a8 e5 O6 K6; have a0 := k8_ O7 0; have a7 := k10_ O7 7; have a8 := k6_ O7 8; have e5 := D_set (k := 3) O7.out rfl HRI.out; clear o_ k_) | (have q_ := dA; clear q_; (with_reducible refine gT 79 4 rfl ?_); refine wS 8 0 [.int .i64 11, .int .i64 0, .int .i64 0, .string ⟨#[]⟩, false, .int .i64 0] O5 ?_; intro w6 o_ k_; obtain ⟨O6, K6⟩ := ok_ K5 o_ k_; clear a0 a7 a8 e5 O5 K5; have a0 := k8_ O6 0; have a7 := k10_ O6 7; have a8 := k6_ O6 8; have e5 := D_set (k := 3) O6.out rfl HRI.out; clear o_ k_) | (have q_ := dB; clear q_; (with_reducible refine gT 79 4 rfl ?_); refine wS 8 0 [.int .i64 7, .int .i64 0, .int .i64 0, .string ⟨#[]⟩, false, .int .i64 0] O5 ?_; intro w6 o_ k_; obtain ⟨O6, K6⟩ := ok_ K5 o_ k_; clear a0 a7 a8 e5 O5 K5; have a0 := k8_ O6 0; have a7 := k10_ O6 7; have a8 := k6_ O6 8; have e5 := D_set (k := 3) O6.out rfl HRI.out; clear o_ k_) | (have q_ := dC; clear q_; (with_reducible refine gT 79 4 rfl ?_); refine wS 8 0 [.int .i64 0, .int .i64 0, .int .i64 0, .string ⟨#[]⟩, true, .int .i64 0] O5 ?_; intro w6 o_ k_; obtain ⟨O6, K6⟩ := ok_ K5 o_ k_; clear a0 a7 a8 e5 O5 K5; have a0 := k8_ O6 0; have a7 := k10_ O6 7; have a8 := k6_ O6 8; have e5 := D_set (k := 3) O6.out rfl HRI.out; clear o_ k_) | (have q_ := dD; clear q_; (with_reducible refine gT 79 4 rfl ?_); refine wS 8 0 [.int .i64 0, .int .i64 0, .int .i64 0, .string ⟨#[]⟩, false, .int .i64 0] O5 ?_; intro w6 o_ k_; obtain ⟨O6, K6⟩ := ok_ K5 o_ k_; clear a0 a7 a8 e5 O5 K5; have a0 := k8_ O6 0; have a7 := k10_ O6 7; have a8 := k6_ O6 8; have e5 := D_set (k := 3) O6.out rfl HRI.out; clear o_ k_) | ((with_reducible refine gT 3 199 rfl ?_); refine wR 3 2 (.int .i64 ((x.k : Int) + (x.c : Int))) O5 HRI ?_; intro w6 o_ k_; obtain ⟨O6, K6⟩ := ok_ K5 o_ k_; clear a0 a7 a8 e5 O5 K5; have a0 := k8_ O6 0; have a7 := k10_ O6 7; have a8 := k6_ O6 8; have e5 := D_set (k := 3) O6.out rfl HRI.out; clear o_ k_) | ((with_reducible refine gT 3 202 rfl ?_); refine wR 3 3 (.int .i64 0) O6 HRI ?_; intro w7 o_ k_; obtain ⟨O7, K7⟩ := ok_ K6 o_ k_; clear a0 a7 a8 e5 O6 K6; have a0 := k8_ O7 0; have a7 := k10_ O7 7; have a8 := k6_ O7 8; have e5 := D_set (k := 3) O7.out rfl HRI.out; clear o_ k_) | ((with_reducible refine gT 79 4 rfl ?_); refine wS 8 0 [.int .i64 0, .int .i64 0, .int .i64 0, .string ⟨#[]⟩, false, x.c] O7 ?_; intro w8 o_ k_; obtain ⟨O8, K8⟩ := ok_ K7 o_ k_; clear a0 a7 a8 e5 O7 K7; have a0 := k8_ O8 0; have a7 := k10_ O8 7; have a8 := k6_ O8 8; have e5 := D_set (k := 3) O8.out rfl HRI.out; clear o_ k_))
 iterate 5 (refine bodyPost_ret (results_cell_row rfl _ _ gr 79 _ (0, 0) _ rfl (O6.out.blk (i := 8) rfl) Tryd.underlying79 rfl (by kernel_rfl)) rfl ?_; obtain ⟨rfl⟩ := HDX; exact ⟨rfl, DocM.backU HXX.out HQL.out HDI.out HERC.out rfl (O6.out.pickL [0, 1, 2, 3, 4, 5, 6] (by decide) (by simp)), K6.out⟩)
 refine bodyPost_ret (results_cell_row rfl _ _ gr 79 _ (0, 0) _ rfl (O7.out.blk (i := 8) rfl) Tryd.underlying79 rfl (by kernel_rfl)) rfl ?_
 obtain ⟨rfl⟩ := HDX
 exact ⟨rfl, DocM.backU HXX.out HQL.out HDI.out HERC.out rfl (O7.out.pickL [0, 1, 2, 3, 4, 5, 6] (by decide) (by simp)), K7.out⟩
 refine bodyPost_ret (results_cell_row rfl _ _ gr 79 _ (0, 0) _ rfl (O8.out.blk (i := 8) rfl) Tryd.underlying79 rfl (by kernel_rfl)) rfl ?_
 obtain ⟨rfl⟩ := HDX
 exact ⟨rfl, DocM.backU HXX.out HQL.out HDI.out HERC.out rfl (O8.out.pickL [0, 1, 2, 3, 4, 5, 6] (by decide) (by simp)), K8.out⟩
 ·skip
  obtain ⟨f1, hf1⟩ : ∃ f, fitsB [(⟨key, uc, un, us⟩ : Upd7)] cf.mtu = f := ⟨_, rfl⟩
  obtain ⟨V, hV⟩ : ∃ V, x.U ++ [(⟨key, uc, un, us⟩ : Upd7)] = V := ⟨_, rfl⟩
  obtain ⟨f2, hf2⟩ : ∃ f, fitsB V cf.mtu = f := ⟨_, rfl⟩
  rw [hV, hf1, hf2] at HDX
  have HF1 := Am hf1
  have HV := Am hV
  have HF2 := Am hf2
  clear hf1 hV hf2
  refine sP (n := 10) (S := fun w' => w'.cell? ⟨ga, 2, none⟩ = some (.string key) ∧ w'.cell? ⟨ga, 3, none⟩ = some (.int .i64 uc) ∧ w'.cell? ⟨ga, 4, none⟩ = some (.int .i64 un) ∧ w'.cell? ⟨ga, 5, none⟩ = some (.string us) ∧ w'.cell? ⟨gd, 4, none⟩ = some (.int .i64 cf.mtu)) (ds := []) ⟨a7.2.2.1, a7.2.2.2.1, a7.2.2.2.2.1, a7.2.2.2.2.2.1, a0.2.2.2.2.1⟩ (fun hHeld => ?_)
  obtain ⟨w7, hw_, k_, O7, K7⟩ := drw_ O6 K6
  rw [← hw_] at hHeld ⊢
  clear a0 a7 a8 e5 O6 K6
  have a0 := k8_ O7 0
  have a7 := k10_ O7 7
  have a8 := k6_ O7 8
  have e5 := D_set (k := 3) O7.out rfl HRI.out
  clear k_ hw_
  refine pP 0 (some 57) ?_
  refine pP 3 (some 60) ?_
  refine pP 4 (some 61) ?_
  refine pP 5 (some 62) ?_
  refine pP 6 (some 63) ?_
  refine tP 1 (some 58) hHeld ?_
  refine tP 7 (some 64) hHeld ?_
  refine oP 2 (some 59) (fun K_ hK_ => ?_)
  refine own_lit_step kU7 (N := N) (e := tU7) (xs := [(⟨key, uc, un, us⟩ : Upd7)]) (inner := [key, uc, un, us]) rfl rfl gs_ (repU1 _ (⟨key, uc, un, us⟩ : Upd7)) (by show 1 ≤ 9223372036854775807; decide) O7.out ?_
  intro B1 d1_ w8 o_ k_
  obtain ⟨O8, K8⟩ := ok_ K7 o_ k_
  clear a0 a7 a8 e5 O7 K7
  have a0 := k8_ O8 0
  have a7 := k10_ O8 7
  have a8 := k6_ O8 8
  have e5 := D_set (k := 3) O8.out rfl HRI.out
  clear o_ k_ hHeld
  refine hK_.out _ _ ⟨a7.2.2.1, a7.2.2.2.1, a7.2.2.2.2.1, a7.2.2.2.2.2.1, a0.2.2.2.2.1⟩ (fun hHeld => ?_)
  clear hK_ K_
  refine nP ?_
  refine oP 8 (some 65) (fun K_ hK_ => ?_)
  refine hP Tryd.func87 #[.slice B1 1 d1_, cf.mtu] ?_
  refine (chapbookref07_Fits.calls 299 _ _ [(⟨key, uc, un, us⟩ : Upd7)] cf.mtu f1 _ (O8.out.nreads (i := 10) rfl).2.2 (O8.out.nreads (i := 10) rfl).2.1 (by rw [rfits, HF1.out])).mono ?_
  rintro e_ w9 ⟨rfl, hb_⟩
  refine ⟨_, rfl, ?_⟩
  have o_ := O8.out.below hb_
  have k_ := KeepS.of_below (N := N) hb_
  obtain ⟨O9, K9⟩ := ok_ K8 o_ k_
  clear a0 a7 a8 e5 O8 K8
  have a0 := k8_ O9 0
  have a7 := k10_ O9 7
  have a8 := k6_ O9 8
  have e5 := D_set (k := 3) O9.out rfl HRI.out
  clear o_ k_ hb_ hHeld
  refine hK_.out _ _ ⟨a7.2.2.1, a7.2.2.2.1, a7.2.2.2.2.1, a7.2.2.2.2.2.1, a0.2.2.2.2.1⟩ (fun hHeld => ?_)
  clear hK_ K_
  refine nP ?_
  refine pP 9 (some 66) ?_
  refine dN ?_
  clear hHeld
  cases f1
  ·skip
   go_wp2_with (first | ((with_reducible refine gT 79 4 rfl ?_); refine wS 8 0 [.int .i64 3, .int .i64 0, .int .i64 0, .string ⟨#[]⟩, false, .int .i64 0] O9 ?_; intro w10 o_ k_; obtain ⟨O10, K10⟩ := ok_ K9 o_ k_; clear a0 a7 a8 e5 O9 K9; have a0 := k8_ O10 0; have a7 := k10_ O10 7; have a8 := k6_ O10 8; have e5 := D_set (k := 3) O10.out rfl HRI.out; clear o_ k_))
   refine bodyPost_ret (results_cell_row rfl _ _ gr 79 _ (0, 0) _ rfl (O10.out.blk (i := 8) rfl) Tryd.underlying79 rfl (by kernel_rfl)) rfl ?_
   obtain ⟨rfl⟩ := HDX
   exact ⟨rfl, DocM.backU (x' := x) HXX.out HQL.out HDI.out HERC.out rfl (O10.out.pickL [0, 1, 2, 3, 4, 5, 6] (by decide) (by simp)), K10.out⟩
  ·go_wp2
   refine sP (n := 11) (S := fun w' => w'.cell? ⟨ga, 2, none⟩ = some (.string key) ∧ w'.cell? ⟨ga, 3, none⟩ = some (.int .i64 uc) ∧ w'.cell? ⟨ga, 4, none⟩ = some (.int .i64 un) ∧ w'.cell? ⟨ga, 5, none⟩ = some (.string us) ∧ w'.cell? ⟨(aa.add (m.toNat * 5)).block, (aa.add (m.toNat * 5)).off + 4, none⟩ = some (.slice AU x.U.length cU)) (ds := []) ⟨a7.2.2.1, a7.2.2.2.1, a7.2.2.2.2.1, a7.2.2.2.2.2.1, e5.1.2.2.2.2⟩ (fun hHeld => ?_)
   obtain ⟨w10, hw_, k_, O10, K10⟩ := drw_ O9 K9
   rw [← hw_] at hHeld ⊢
   clear a0 a7 a8 e5 O9 K9
   have a0 := k8_ O10 0
   have a7 := k10_ O10 7
   have a8 := k6_ O10 8
   have e5 := D_set (k := 3) O10.out rfl HRI.out
   clear k_ hw_
   refine pP 1 (some 69) ?_
   refine pP 2 (some 70) ?_
   refine pP 3 (some 71) ?_
   refine pP 6 (some 74) ?_
   refine tP 4 (some 72) hHeld ?_
   refine tP 7 (some 75) hHeld ?_
   refine join_ (σ := Option Addr × Nat × Option Addr × Nat × Option Addr × Nat) 2 #[true, true, true, true, true, true, true, true, true, false, false] (fun ⟨C1, e1, C2, e2, D1, h1_⟩ => [(68, .slice C1 0 e1), (73, .slice C2 x.U.length e2), (76, .slice D1 1 h1_)]) (fun ⟨C1, e1, C2, e2, D1, h1_⟩ w' => Own N w' [cells gd #[cf.cl, cf.win, cf.push, cf.pull, cf.mtu, cf.last, .slice AL L.length cL, .slice (some aa) cls.length cA] tDM, poolD rL L ds cls, bigs ((dclI ds cls).set m.toNat emp), nrow (Kd.raw 5) tDCl (.slice (some aa) cls.length cA) (rc.set m.toNat [x.e, .slice AJ x.J.length cJ, x.k, x.c, .slice AU x.U.length cU]), nrow (Kd.raw 3) tR7 (.slice AL L.length cL) rL, nrow kU7 tU7 (.slice AU x.U.length cU) x.U, nrow (Kd.raw 3) tR7 (.slice AJ x.J.length cJ) rJ, cells ga #[.int .i64 1, n, key, uc, un, us, rk, an, ab, .int .u32 am] 83, cells gr #[.int .i64 0, .int .i64 0, .int .i64 0, .string ⟨#[]⟩, false, .int .i64 0] 79, nrow (Kd.raw 3) tR7 (.slice A9 p c9) r9, nrow kU7 tU7 (.slice B1 1 d1_) [(⟨key, uc, un, us⟩ : Upd7)], nrow kU7 tU7 (.slice C2 x.U.length e2) x.U, nrow kU7 tU7 (.slice D1 1 h1_) [(⟨key, uc, un, us⟩ : Upd7)]] ∧ KeepS N w10 w') ?hcont ?hways
   case hways =>
    intro hc_
    have K11 : Aside0 (KeepS N w10 w10) := ⟨KeepS.refl _ _⟩
    have O11 : Aside0 (Own N w10 [cells gd #[cf.cl, cf.win, cf.push, cf.pull, cf.mtu, cf.last, .slice AL L.length cL, .slice (some aa) cls.length cA] tDM, poolD rL L ds cls, bigs ((dclI ds cls).set m.toNat emp), nrow (Kd.raw 5) tDCl (.slice (some aa) cls.length cA) (rc.set m.toNat [x.e, .slice AJ x.J.length cJ, x.k, x.c, .slice AU x.U.length cU]), nrow (Kd.raw 3) tR7 (.slice AL L.length cL) rL, nrow kU7 tU7 (.slice AU x.U.length cU) x.U, nrow (Kd.raw 3) tR7 (.slice AJ x.J.length cJ) rJ, cells ga #[.int .i64 1, n, key, uc, un, us, rk, an, ab, .int .u32 am] 83, cells gr #[.int .i64 0, .int .i64 0, .int .i64 0, .string ⟨#[]⟩, false, .int .i64 0] 79, nrow (Kd.raw 3) tR7 (.slice A9 p c9) r9, nrow kU7 tU7 (.slice B1 1 d1_) [(⟨key, uc, un, us⟩ : Upd7)]]) := O10
    refine tW_ 0 8 (some 68) (some 76) (fun K_ hK_ => ?_) (fun K_ hK_ => ?_)
    ·skip
     refine own_lit_step kU7 (N := N) (e := tU7) (xs := []) (inner := []) rfl rfl gs_ (Reps.none _ _) (by decide) O11.out ?_
     intro C1 e1 w12 o_ k_
     obtain ⟨O12, K12⟩ := ok_ K11 o_ k_
     clear a0 a7 a8 e5 O11 K11
     have a0 := k8_ O12 0
     have a7 := k10_ O12 7
     have a8 := k6_ O12 8
     have e5 := D_set (k := 3) O12.out rfl HRI.out
     clear o_ k_ hHeld
     refine hK_.out _ _ ⟨a7.2.2.1, a7.2.2.2.1, a7.2.2.2.2.1, a7.2.2.2.2.2.1, e5.1.2.2.2.2⟩ (fun hHeld => ?_)
     clear hK_ K_
     refine nR_ ?_
     refine tW_ 5 8 (some 73) (some 76) (fun K_ hK_ => ?_) (fun K_ hK_ => ?_)
     ·skip
      refine Own.append_flat_step kU7 flatU O12.out (i := 11) rfl (O12.out.nreads (i := 5) rfl).2.2 rfl (by rfl) (.tmp 68) (.tmp 72) 33 (.agg #[.string ⟨#[]⟩, .int .i64 0, .int .i64 0, .string ⟨#[]⟩]) 48 rfl Tryd.underlying33 infoU7 rfl (by decide) (by decide) rfl rfl (by have := HL.out; simp only [List.length_nil]; omega) ?_
      intro C2 e2 w13 o_ k_
      obtain ⟨O13, K13⟩ := ok_ K12 o_ k_
      clear a0 a7 a8 e5 O12 K12
      have a0 := k8_ O13 0
      have a7 := k10_ O13 7
      have a8 := k6_ O13 8
      have e5 := D_set (k := 3) O13.out rfl HRI.out
      clear o_ k_ hHeld
      refine hK_.out _ _ ⟨a7.2.2.1, a7.2.2.2.1, a7.2.2.2.2.1, a7.2.2.2.2.2.1, e5.1.2.2.2.2⟩ (fun hHeld => ?_)
      clear hK_ K_
      refine nR_ ?_
      refine oP 8 (some 76) (fun K_ hK_ => ?_)
      refine own_lit_step kU7 (N := N) (e := tU7) (xs := [(⟨key, uc, un, us⟩ : Upd7)]) (inner := [key, uc, un, us]) rfl rfl gs_ (repU1 _ (⟨key, uc, un, us⟩ : Upd7)) (by show 1 ≤ 9223372036854775807; decide) O13.out ?_
      intro D1 h1_ w14 o_ k_
      obtain ⟨O14, K14⟩ := ok_ K13 o_ k_
      clear a0 a7 a8 e5 O13 K13
      have a0 := k8_ O14 0
      have a7 := k10_ O14 7
      have a8 := k6_ O14 8
      have e5 := D_set (k := 3) O14.out rfl HRI.out
      clear o_ k_ hHeld
      refine hK_.out _ _ ⟨a7.2.2.1, a7.2.2.2.1, a7.2.2.2.2.1, a7.2.2.2.2.2.1, e5.1.2.2.2.2⟩ (fun hHeld => ?_)
      clear hK_ K_
      refine nR_ ?_
      refine norm_ (a' := _) ?_ (hc_ ⟨C1, e1, C2, e2, D1, h1_⟩ _ ⟨?_, K14.out⟩)
      ·simp only [putAll, Act.put, List.setIfInBounds_toArray, List.set_cons_zero, List.set_cons_succ]
       try rfl
      ·exact O14.out.pickL [0, 1, 2, 3, 4, 5, 6, 7, 8, 9, 10, 11, 12] (by decide) (by simp)
     ·skip
      refine own_lit_step kU7 (N := N) (e := tU7) (xs := [(⟨key, uc, un, us⟩ : Upd7)]) (inner := [key, uc, un, us]) rfl rfl gs_ (repU1 _ (⟨key, uc, un, us⟩ : Upd7)) (by show 1 ≤ 9223372036854775807; decide) O12.out ?_
      intro D1 h1_ w13 o_ k_
      obtain ⟨O13, K13⟩ := ok_ K12 o_ k_
      clear a0 a7 a8 e5 O12 K12
      have a0 := k8_ O13 0
      have a7 := k10_ O13 7
      have a8 := k6_ O13 8
      have e5 := D_set (k := 3) O13.out rfl HRI.out
      clear o_ k_ hHeld
      refine hK_.out _ _ ⟨a7.2.2.1, a7.2.2.2.1, a7.2.2.2.2.1, a7.2.2.2.2.2.1, e5.1.2.2.2.2⟩ (fun hHeld => ?_)
      clear hK_ K_
      refine nR_ ?_
      refine oP 5 (some 73) (fun K_ hK_ => ?_)
      refine Own.append_flat_step kU7 flatU O13.out (i := 11) rfl (O13.out.nreads (i := 5) rfl).2.2 rfl (by rfl) (.tmp 68) (.tmp 72) 33 (.agg #[.string ⟨#[]⟩, .int .i64 0, .int .i64 0, .string ⟨#[]⟩]) 48 rfl Tryd.underlying33 infoU7 rfl (by decide) (by decide) rfl rfl (by have := HL.out; simp only [List.length_nil]; omega) ?_
      intro C2 e2 w14 o_ k_
      obtain ⟨O14, K14⟩ := ok_ K13 o_ k_
      clear a0 a7 a8 e5 O13 K13
      have a0 := k8_ O14 0
      have a7 := k10_ O14 7
      have a8 := k6_ O14 8
      have e5 := D_set (k := 3) O14.out rfl HRI.out
      clear o_ k_ hHeld
      refine hK_.out _ _ ⟨a7.2.2.1, a7.2.2.2.1, a7.2.2.2.2.1, a7.2.2.2.2.2.1, e5.1.2.2.2.2⟩ (fun hHeld => ?_)
      clear hK_ K_
      refine nR_ ?_
      refine norm_ (a' := _) ?_ (hc_ ⟨C1, e1, C2, e2, D1, h1_⟩ _ ⟨?_, K14.out⟩)
      ·simp only [putAll, Act.put, List.setIfInBounds_toArray, List.set_cons_zero, List.set_cons_succ]
       try rfl
      ·exact O14.out.pickL [0, 1, 2, 3, 4, 5, 6, 7, 8, 9, 10, 11, 12] (by decide) (by simp)
    ·skip
     refine own_lit_step kU7 (N := N) (e := tU7) (xs := [(⟨key, uc, un, us⟩ : Upd7)]) (inner := [key, uc, un, us]) rfl rfl gs_ (repU1 _ (⟨key, uc, un, us⟩ : Upd7)) (by show 1 ≤ 9223372036854775807; decide) O11.out ?_
     intro D1 h1_ w12 o_ k_
     obtain ⟨O12, K12⟩ := ok_ K11 o_ k_
     clear a0 a7 a8 e5 O11 K11
     have a0 := k8_ O12 0
     have a7 := k10_ O12 7
     have a8 := k6_ O12 8
     have e5 := D_set (k := 3) O12.out rfl HRI.out
     clear o_ k_ hHeld
     refine hK_.out _ _ ⟨a7.2.2.1, a7.2.2.2.1, a7.2.2.2.2.1, a7.2.2.2.2.2.1, e5.1.2.2.2.2⟩ (fun hHeld => ?_)
     clear hK_ K_
     refine nR_ ?_
     refine oP 0 (some 68) (fun K_ hK_ => ?_)
     refine own_lit_step kU7 (N := N) (e := tU7) (xs := []) (inner := []) rfl rfl gs_ (Reps.none _ _) (by decide) O12.out ?_
     intro C1 e1 w13 o_ k_
     obtain ⟨O13, K13⟩ := ok_ K12 o_ k_
     clear a0 a7 a8 e5 O12 K12
     have a0 := k8_ O13 0
     have a7 := k10_ O13 7
     have a8 := k6_ O13 8
     have e5 := D_set (k := 3) O13.out rfl HRI.out
     clear o_ k_ hHeld
     refine hK_.out _ _ ⟨a7.2.2.1, a7.2.2.2.1, a7.2.2.2.2.1, a7.2.2.2.2.2.1, e5.1.2.2.2.2⟩ (fun hHeld => ?_)
     clear hK_ K_
     refine nR_ ?_
     refine oP 5 (some 73) (fun K_ hK_ => ?_)
     refine Own.append_flat_step kU7 flatU O13.out (i := 12) rfl (O13.out.nreads (i := 5) rfl).2.2 rfl (by rfl) (.tmp 68) (.tmp 72) 33 (.agg #[.string ⟨#[]⟩, .int .i64 0, .int .i64 0, .string ⟨#[]⟩]) 48 rfl Tryd.underlying33 infoU7 rfl (by decide) (by decide) rfl rfl (by have := HL.out; simp only [List.length_nil]; omega) ?_
     intro C2 e2 w14 o_ k_
     obtain ⟨O14, K14⟩ := ok_ K13 o_ k_
     clear a0 a7 a8 e5 O13 K13
     have a0 := k8_ O14 0
     have a7 := k10_ O14 7
     have a8 := k6_ O14 8
     have e5 := D_set (k := 3) O14.out rfl HRI.out
     clear o_ k_ hHeld
     refine hK_.out _ _ ⟨a7.2.2.1, a7.2.2.2.1, a7.2.2.2.2.1, a7.2.2.2.2.2.1, e5.1.2.2.2.2⟩ (fun hHeld => ?_)
     clear hK_ K_
     refine nR_ ?_
     refine norm_ (a' := _) ?_ (hc_ ⟨C1, e1, C2, e2, D1, h1_⟩ _ ⟨?_, K14.out⟩)
     ·simp only [putAll, Act.put, List.setIfInBounds_toArray, List.set_cons_zero, List.set_cons_succ]
      try rfl
     ·exact O14.out.pickL [0, 1, 2, 3, 4, 5, 6, 7, 8, 9, 10, 12, 11] (by decide) (by simp)
   case hcont =>
    clear hHeld
    rintro ⟨C1, e1, C2, e2, D1, h1_⟩ w11 ⟨o_, k_⟩
    obtain ⟨O11, K11⟩ := ok_ K10 o_ k_
    clear a0 a7 a8 e5 O10 K10
    have a0 := k8_ O11 0
    have a7 := k10_ O11 7
    have a8 := k6_ O11 8
    have e5 := D_set (k := 3) O11.out rfl HRI.out
    clear o_ k_
    refine nA_ ?_
    have hHeld : w11.cell? ⟨ga, 2, none⟩ = some (.string key) ∧ w11.cell? ⟨ga, 3, none⟩ = some (.int .i64 uc) ∧ w11.cell? ⟨ga, 4, none⟩ = some (.int .i64 un) ∧ w11.cell? ⟨ga, 5, none⟩ = some (.string us) ∧ w11.cell? ⟨(aa.add (m.toNat * 5)).block, (aa.add (m.toNat * 5)).off + 4, none⟩ = some (.slice AU x.U.length cU) := ⟨a7.2.2.1, a7.2.2.2.1, a7.2.2.2.2.1, a7.2.2.2.2.2.1, e5.1.2.2.2.2⟩
    refine oP 9 (some 77) (fun K_ hK_ => ?_)
    refine Own.append_flat_step kU7 flatU O11.out (i := 11) (ys := [(⟨key, uc, un, us⟩ : Upd7)]) rfl (O11.out.nreads (i := 12) rfl).2.2 rfl (by rfl) (.tmp 73) (.tmp 76) 33 (.agg #[.string ⟨#[]⟩, .int .i64 0, .int .i64 0, .string ⟨#[]⟩]) 48 rfl Tryd.underlying33 infoU7 rfl (by decide) (by decide) rfl rfl (by have := HL.out; omega) ?_
    rw [HV.out]
    intro C3 e3 w12 o_ k_
    obtain ⟨O12, K12⟩ := ok_ K11 o_ k_
    clear a0 a7 a8 e5 O11 K11
    have a0 := k8_ O12 0
    have a7 := k10_ O12 7
    have a8 := k6_ O12 8
    have e5 := D_set (k := 3) O12.out rfl HRI.out
    clear o_ k_ hHeld
    refine hK_.out _ _ ⟨a7.2.2.1, a7.2.2.2.1, a7.2.2.2.2.1, a7.2.2.2.2.2.1, e5.1.2.2.2.2⟩ (fun hHeld => ?_)
    clear hK_ K_
    refine nP ?_
    refine pP 10 (some 8) ?_
    refine dN ?_
    clear hHeld
    cases f2
    ·skip
     go_wp2_with (first | ((with_reducible refine gC 87 rfl ?_); refine gP (some 84) Tryd.func87 #[.slice C3 V.length e3, cf.mtu] ?_; refine (chapbookref07_Fits.calls 299 _ _ V cf.mtu false _ (O12.out.nreads (i := 11) rfl).2.2 (O12.out.nreads (i := 11) rfl).2.1 (by rw [rfits, HF2.out])).mono ?_; rintro e_ w13 ⟨rfl, hb_⟩; refine ⟨_, rfl, ?_⟩; have o_ := O12.out.below hb_; have k_ := KeepS.of_below (N := N) hb_; obtain ⟨O13, K13⟩ := ok_ K12 o_ k_; clear a0 a7 a8 e5 O12 K12; have a0 := k8_ O13 0; have a7 := k10_ O13 7; have a8 := k6_ O13 8; have e5 := D_set (k := 3) O13.out rfl HRI.out; clear o_ k_ hb_) | ((with_reducible refine gT 79 4 rfl ?_); refine wS 8 0 [.int .i64 7, .int .i64 0, .int .i64 0, .string ⟨#[]⟩, false, .int .i64 0] O13 ?_; intro w14 o_ k_; obtain ⟨O14, K14⟩ := ok_ K13 o_ k_; clear a0 a7 a8 e5 O13 K13; have a0 := k8_ O14 0; have a7 := k10_ O14 7; have a8 := k6_ O14 8; have e5 := D_set (k := 3) O14.out rfl HRI.out; clear o_ k_))
     refine bodyPost_ret (results_cell_row rfl _ _ gr 79 _ (0, 0) _ rfl (O14.out.blk (i := 8) rfl) Tryd.underlying79 rfl (by kernel_rfl)) rfl ?_
     obtain ⟨rfl⟩ := HDX
     exact ⟨rfl, DocM.backU (x' := x) HXX.out HQL.out HDI.out HERC.out rfl (O14.out.pickL [0, 1, 2, 3, 4, 5, 6] (by decide) (by simp)), K14.out⟩
    ·skip
     go_wp2_with (first | ((with_reducible refine gC 87 rfl ?_); refine gP (some 84) Tryd.func87 #[.slice C3 V.length e3, cf.mtu] ?_; refine (chapbookref07_Fits.calls 299 _ _ V cf.mtu true _ (O12.out.nreads (i := 11) rfl).2.2 (O12.out.nreads (i := 11) rfl).2.1 (by rw [rfits, HF2.out])).mono ?_; rintro e_ w13 ⟨rfl, hb_⟩; refine ⟨_, rfl, ?_⟩; have o_ := O12.out.below hb_; have k_ := KeepS.of_below (N := N) hb_; obtain ⟨O13, K13⟩ := ok_ K12 o_ k_; clear a0 a7 a8 e5 O12 K12; have a0 := k8_ O13 0; have a7 := k10_ O13 7; have a8 := k6_ O13 8; have e5 := D_set (k := 3) O13.out rfl HRI.out; clear o_ k_ hb_) | ((with_reducible refine gT 33 90 rfl ?_); refine wR 3 4 (.slice C3 V.length e3) O13 HRI ?_; intro w14 o_ k_; obtain ⟨O14, K14⟩ := ok_ K13 o_ k_; clear a0 a7 a8 e5 O13 K13; have a0 := k8_ O14 0; have a7 := k10_ O14 7; have a8 := k6_ O14 8; have e5 := D_set (k := 3) O14.out rfl HRI.out; clear o_ k_) | ((with_reducible refine gT 79 4 rfl ?_); refine wS 8 0 [.int .i64 0, .int .i64 0, .int .i64 0, .string ⟨#[]⟩, false, .int .i64 0] O14 ?_; intro w15 o_ k_; obtain ⟨O15, K15⟩ := ok_ K14 o_ k_; clear a0 a7 a8 e5 O14 K14; have a0 := k8_ O15 0; have a7 := k10_ O15 7; have a8 := k6_ O15 8; have e5 := D_set (k := 3) O15.out rfl HRI.out; clear o_ k_))
     refine bodyPost_ret (results_cell_row rfl _ _ gr 79 _ (0, 0) _ rfl (O15.out.blk (i := 8) rfl) Tryd.underlying79 rfl (by kernel_rfl)) rfl ?_
     obtain ⟨rfl⟩ := HDX
     exact ⟨rfl, DocM.backU (x' := { x with U := V }) (vU' := .slice C3 V.length e3) HXX.out HQL.out HDI.out HERC.out rfl (O15.out.pickL [0, 1, 2, 3, 4, 11, 6] (by decide) (by simp)), K15.out⟩
 ·skip
  refine sP (n := 11) (S := fun w' => w'.cell? ⟨gd, 5, none⟩ = some (.int .i64 cf.last) ∧ w'.cell? ⟨(aa.add (m.toNat * 5)).block, (aa.add (m.toNat * 5)).off + 1, none⟩ = some (.slice AJ x.J.length cJ)) (ds := []) ⟨a0.2.2.2.2.2.1, e5.1.2.1⟩ (fun hHeld => ?_)
  obtain ⟨w6, hw_, k_, O6, K6⟩ := drw_ O5 K5
  rw [← hw_] at hHeld ⊢
  clear a0 a7 a8 e5 O5 K5
  have a0 := k8_ O6 0
  have a7 := k10_ O6 7
  have a8 := k6_ O6 8
  have e5 := D_set (k := 3) O6.out rfl HRI.out
  clear k_ hw_
  refine pP 0 (some 140) ?_
  refine pP 1 (some 141) ?_
  refine pP 2 (some 142) ?_
  refine pP 5 (some 145) ?_
  refine pP 6 (some 146) ?_
  refine pP 7 (some 147) ?_
  refine pP 8 (some 148) ?_
  refine tP 3 (some 143) hHeld ?_
  refine pP 4 (some 144) ?_
  refine tP 9 (some 149) hHeld ?_
  refine pP 10 (some 150) ?_
  refine dN ?_
  clear hHeld
  by_cases hl : cf.last ≤ (x.J.length : Int)
  ·skip
   have l1 : decide ((x.J.length : Int) ≥ cf.last) = true := decide_eq_true hl
   have l2 : decide (cf.last ≤ (x.J.length : Int)) = true := l1
   rw [l2] at HDX
   clear hl
   first | rw [l2] | rw [l1]
   go_wp2_with (first | ((with_reducible refine gT 79 4 rfl ?_); refine wS 8 0 [.int .i64 8, .int .i64 0, .int .i64 0, .string ⟨#[]⟩, false, .int .i64 0] O6 ?_; intro w7 o_ k_; obtain ⟨O7, K7⟩ := ok_ K6 o_ k_; clear a0 a7 a8 e5 O6 K6; have a0 := k8_ O7 0; have a7 := k10_ O7 7; have a8 := k6_ O7 8; have e5 := D_set (k := 3) O7.out rfl HRI.out; clear o_ k_))
   refine bodyPost_ret (results_cell_row rfl _ _ gr 79 _ (0, 0) _ rfl (O7.out.blk (i := 8) rfl) Tryd.underlying79 rfl (by kernel_rfl)) rfl ?_
   obtain ⟨rfl⟩ := HDX
   exact ⟨rfl, DocM.backU (x' := x) HXX.out HQL.out HDI.out HERC.out rfl (O7.out.pickL [0, 1, 2, 3, 4, 5, 6] (by decide) (by simp)), K7.out⟩
  ·skip
   have l1 : decide ((x.J.length : Int) ≥ cf.last) = false := decide_eq_false hl
   have l2 : decide (cf.last ≤ (x.J.length : Int)) = false := l1
   rw [l2] at HDX
   clear hl
   first | rw [l2] | rw [l1]
   go_wp2
   have e_ : x.J.length = rJ.length := HQJ.out.symm
   have HJR : Aside0 (rJ.length ≤ 100000) := ⟨by rw [← e_]; exact HJL.out⟩
   have HCU : Aside0 (x.U.length ≤ cU) := ⟨(O6.out.nreads (i := 5) rfl).2.1⟩
   have hs6 : wrap64 ((rJ.length : Int) + 1) = (rJ.length : Int) + 1 := by unfold wrap64; have := HJR.out; omega
   clear a0 a7 a8 e5
   rw [e_] at O6 ⊢
   have OZ := O6
   have KZ := K6
   clear O6 K6
   have O7 : Aside0 (Own N w6 [cells gd #[cf.cl, cf.win, cf.push, cf.pull, cf.mtu, cf.last, .slice AL L.length cL, .slice (some aa) cls.length cA] tDM, poolD rL L ds cls, bigs ((dclI ds cls).set m.toNat emp), nrow (Kd.raw 5) tDCl (.slice (some aa) cls.length cA) (rc.set m.toNat [x.e, .slice AJ rJ.length cJ, x.k, x.c, .slice AU x.U.length cU]), nrow (Kd.raw 3) tR7 (.slice AL L.length cL) rL, nrow kU7 tU7 (.slice AU x.U.length cU) x.U, nrow (Kd.raw 3) tR7 (.slice AJ rJ.length cJ) rJ, cells ga #[.int .i64 3, n, key, uc, un, us, rk, an, ab, .int .u32 am] 83, cells gr #[.int .i64 0, .int .i64 0, .int .i64 0, .string ⟨#[]⟩, false, .int .i64 0] 79, nrow (Kd.raw 3) tR7 (.slice A9 p c9) r9]) := ⟨OZ.out⟩
   have K7 : Aside0 (KeepS N w w6) := ⟨KZ.out⟩
   have a0 := k8_ O7 0
   have a7 := k10_ O7 7
   have a8 := k6_ O7 8
   have e5 := D_set (k := 3) O7.out rfl HRI.out
   clear OZ KZ
   refine sP (n := 25) (S := fun w' => w'.cell? ⟨(aa.add (m.toNat * 5)).block, (aa.add (m.toNat * 5)).off + 1, none⟩ = some (.slice AJ rJ.length cJ) ∧ w'.cell? ⟨(aa.add (m.toNat * 5)).block, (aa.add (m.toNat * 5)).off + 4, none⟩ = some (.slice AU x.U.length cU) ∧ w'.cell? ⟨ga, 1, none⟩ = some (.int .i64 n)) (ds := [24]) ⟨e5.1.2.1, e5.1.2.2.2.2, a7.2.1⟩ (fun hHeld => ?_)
   obtain ⟨w8, hw_, k_, O8, K8⟩ := drw_ O7 K7
   rw [← hw_] at hHeld ⊢
   clear a0 a7 a8 e5 O7 K7
   have a0 := k8_ O8 0
   have a7 := k10_ O8 7
   have a8 := k6_ O8 8
   have e5 := D_set (k := 3) O8.out rfl HRI.out
   clear k_ hw_
   refine pP 0 (some 152) ?_
   refine pP 2 (some 154) ?_
   refine pP 3 (some 155) ?_
   refine pP 4 (some 156) ?_
   refine pP 7 (some 159) ?_
   refine pP 9 (some 161) ?_
   refine pP 10 (some 162) ?_
   refine pP 11 (some 163) ?_
   refine pP 15 (some 167) ?_
   refine pP 16 (some 168) ?_
   refine pP 17 (some 169) ?_
   refine tP 5 (some 157) hHeld ?_
   refine tP 8 (some 160) hHeld ?_
   refine tP 12 (some 164) hHeld ?_
   refine pP 13 (some 165) ?_
   refine pP 14 (some 166) ?_
   refine tP 18 (some 170) hHeld ?_
   refine pP 19 (some 171) ?_
   refine join_ (σ := Option Addr × Nat × Option Addr × Nat × Option Addr × Nat) 4 #[true, true, true, true, true, true, true, true, true, true, true, true, true, true, true, true, true, true, true, true, true, false, false, false, false] (fun ⟨C2, e2, C3, e3, D1, h1_⟩ => [(153, .slice C2 0 e2), (158, .slice C3 rJ.length e3), (172, .slice D1 1 h1_)]) (fun ⟨C2, e2, C3, e3, D1, h1_⟩ w' => Own N w' [cells gd #[cf.cl, cf.win, cf.push, cf.pull, cf.mtu, cf.last, .slice AL L.length cL, .slice (some aa) cls.length cA] tDM, poolD rL L ds cls, bigs ((dclI ds cls).set m.toNat emp), nrow (Kd.raw 5) tDCl (.slice (some aa) cls.length cA) (rc.set m.toNat [x.e, .slice AJ rJ.length cJ, x.k, x.c, .slice AU x.U.length cU]), nrow (Kd.raw 3) tR7 (.slice AL L.length cL) rL, nrow kU7 tU7 (.slice AU x.U.length cU) x.U, nrow (Kd.raw 3) tR7 (.slice AJ rJ.length cJ) rJ, cells ga #[.int .i64 3, n, key, uc, un, us, rk, an, ab, .int .u32 am] 83, cells gr #[.int .i64 0, .int .i64 0, .int .i64 0, .string ⟨#[]⟩, false, .int .i64 0] 79, nrow (Kd.raw 3) tR7 (.slice A9 p c9) r9, nrow (Kd.raw 3) 35 (.slice C3 rJ.length e3) rJ, nrow (Kd.raw 3) 35 (.slice D1 1 h1_) [rw3 n ((rJ.length : Int) + 1) (.slice AU x.U.length cU)]] ∧ KeepS N w8 w') ?hcont ?hways
   case hways =>
    intro hc_
    have K9 : Aside0 (KeepS N w8 w8) := ⟨KeepS.refl _ _⟩
    have O9 : Aside0 (Own N w8 [cells gd #[cf.cl, cf.win, cf.push, cf.pull, cf.mtu, cf.last, .slice AL L.length cL, .slice (some aa) cls.length cA] tDM, poolD rL L ds cls, bigs ((dclI ds cls).set m.toNat emp), nrow (Kd.raw 5) tDCl (.slice (some aa) cls.length cA) (rc.set m.toNat [x.e, .slice AJ rJ.length cJ, x.k, x.c, .slice AU x.U.length cU]), nrow (Kd.raw 3) tR7 (.slice AL L.length cL) rL, nrow kU7 tU7 (.slice AU x.U.length cU) x.U, nrow (Kd.raw 3) tR7 (.slice AJ rJ.length cJ) rJ, cells ga #[.int .i64 3, n, key, uc, un, us, rk, an, ab, .int .u32 am] 83, cells gr #[.int .i64 0, .int .i64 0, .int .i64 0, .string ⟨#[]⟩, false, .int .i64 0] 79, nrow (Kd.raw 3) tR7 (.slice A9 p c9) r9]) := O8
    refine tW_ 1 20 (some 153) (some 172) (fun K_ hK_ => ?_) (fun K_ hK_ => ?_)
    ·skip
     refine own_lit_step (Kd.raw 3) (N := N) (e := 35) (xs := []) (inner := []) rfl rfl gs_ (Reps.none _ _) (by decide) O9.out ?_
     intro C2 e2 w10 o_ k_
     obtain ⟨O10, K10⟩ := ok_ K9 o_ k_
     clear a0 a7 a8 e5 O9 K9
     have a0 := k8_ O10 0
     have a7 := k10_ O10 7
     have a8 := k6_ O10 8
     have e5 := D_set (k := 3) O10.out rfl HRI.out
     clear o_ k_ hHeld
     refine hK_.out _ _ ⟨e5.1.2.1, e5.1.2.2.2.2, a7.2.1⟩ (fun hHeld => ?_)
     clear hK_ K_
     refine nR_ ?_
     refine tW_ 6 20 (some 158) (some 172) (fun K_ hK_ => ?_) (fun K_ hK_ => ?_)
     ·skip
      refine Own.append_flat_step (Kd.raw 3) flatRaw O10.out (i := 10) rfl (O10.out.nreads (i := 6) rfl).2.2 rfl (by rfl) (.tmp 153) (.tmp 157) 40 (.agg #[.int .i64 0, .int .i64 0, .slice none 0 0]) 40 rfl Tryd.underlying40 infoR rfl (by decide) (by decide) rfl rfl (by have := HJR.out; simp only [List.length_nil]; omega) ?_
      intro C3 e3 w11 o_ k_
      obtain ⟨O11, K11⟩ := ok_ K10 o_ k_
      clear a0 a7 a8 e5 O10 K10
      have a0 := k8_ O11 0
      have a7 := k10_ O11 7
      have a8 := k6_ O11 8
      have e5 := D_set (k := 3) O11.out rfl HRI.out
      clear o_ k_ hHeld
      refine hK_.out _ _ ⟨e5.1.2.1, e5.1.2.2.2.2, a7.2.1⟩ (fun hHeld => ?_)
      clear hK_ K_
      refine nR_ ?_
      refine oP 20 (some 172) (fun K_ hK_ => ?_)
      refine own_lit_step (Kd.raw 3) (N := N) (e := 35) (xs := [rw3 n ((rJ.length : Int) + 1) (.slice AU x.U.length cU)]) (inner := [n, .int .i64 ((rJ.length : Int) + 1), .slice AU x.U.length cU]) rfl rfl gs_ (repW _ _ _ _ _ _) (by show 1 ≤ 9223372036854775807; decide) O11.out ?_
      intro D1 h1_ w12 o_ k_
      obtain ⟨O12, K12⟩ := ok_ K11 o_ k_
      clear a0 a7 a8 e5 O11 K11
      have a0 := k8_ O12 0
      have a7 := k10_ O12 7
      have a8 := k6_ O12 8
      have e5 := D_set (k := 3) O12.out rfl HRI.out
      clear o_ k_ hHeld
      refine hK_.out _ _ ⟨e5.1.2.1, e5.1.2.2.2.2, a7.2.1⟩ (fun hHeld => ?_)
      clear hK_ K_
      refine nR_ ?_
      refine norm_ (a' := _) ?_ (hc_ ⟨C2, e2, C3, e3, D1, h1_⟩ _ ⟨?_, K12.out⟩)
      ·simp only [putAll, Act.put, List.setIfInBounds_toArray, List.set_cons_zero, List.set_cons_succ]
       try rfl
      ·exact O12.out.pickL [0, 1, 2, 3, 4, 5, 6, 7, 8, 9, 10, 11] (by decide) (by simp)
     ·skip
      refine own_lit_step (Kd.raw 3) (N := N) (e := 35) (xs := [rw3 n ((rJ.length : Int) + 1) (.slice AU x.U.length cU)]) (inner := [n, .int .i64 ((rJ.length : Int) + 1), .slice AU x.U.length cU]) rfl rfl gs_ (repW _ _ _ _ _ _) (by show 1 ≤ 9223372036854775807; decide) O10.out ?_
      intro D1 h1_ w11 o_ k_
      obtain ⟨O11, K11⟩ := ok_ K10 o_ k_
      clear a0 a7 a8 e5 O10 K10
      have a0 := k8_ O11 0
      have a7 := k10_ O11 7
      have a8 := k6_ O11 8
      have e5 := D_set (k := 3) O11.out rfl HRI.out
      clear o_ k_ hHeld
      refine hK_.out _ _ ⟨e5.1.2.1, e5.1.2.2.2.2, a7.2.1⟩ (fun hHeld => ?_)
      clear hK_ K_
      refine nR_ ?_
      refine oP 6 (some 158) (fun K_ hK_ => ?_)
      refine Own.append_flat_step (Kd.raw 3) flatRaw O11.out (i := 10) rfl (O11.out.nreads (i := 6) rfl).2.2 rfl (by rfl) (.tmp 153) (.tmp 157) 40 (.agg #[.int .i64 0, .int .i64 0, .slice none 0 0]) 40 rfl Tryd.underlying40 infoR rfl (by decide) (by decide) rfl rfl (by have := HJR.out; simp only [List.length_nil]; omega) ?_
      intro C3 e3 w12 o_ k_
      obtain ⟨O12, K12⟩ := ok_ K11 o_ k_
      clear a0 a7 a8 e5 O11 K11
      have a0 := k8_ O12 0
      have a7 := k10_ O12 7
      have a8 := k6_ O12 8
      have e5 := D_set (k := 3) O12.out rfl HRI.out
      clear o_ k_ hHeld
      refine hK_.out _ _ ⟨e5.1.2.1, e5.1.2.2.2.2, a7.2.1⟩ (fun hHeld => ?_)
      clear hK_ K_
      refine nR_ ?_
      refine norm_ (a' := _) ?_ (hc_ ⟨C2, e2, C3, e3, D1, h1_⟩ _ ⟨?_, K12.out⟩)
      ·simp only [putAll, Act.put, List.setIfInBounds_toArray, List.set_cons_zero, List.set_cons_succ]
       try rfl
      ·exact O12.out.pickL [0, 1, 2, 3, 4, 5, 6, 7, 8, 9, 10, 11] (by decide) (by simp)
    ·skip
     refine own_lit_step (Kd.raw 3) (N := N) (e := 35) (xs := [rw3 n ((rJ.length : Int) + 1) (.slice AU x.U.length cU)]) (inner := [n, .int .i64 ((rJ.length : Int) + 1), .slice AU x.U.length cU]) rfl rfl gs_ (repW _ _ _ _ _ _) (by show 1 ≤ 9223372036854775807; decide) O9.out ?_
     intro D1 h1_ w10 o_ k_
     obtain ⟨O10, K10⟩ := ok_ K9 o_ k_
     clear a0 a7 a8 e5 O9 K9
     have a0 := k8_ O10 0
     have a7 := k10_ O10 7
     have a8 := k6_ O10 8
     have e5 := D_set (k := 3) O10.out rfl HRI.out
     clear o_ k_ hHeld
     refine hK_.out _ _ ⟨e5.1.2.1, e5.1.2.2.2.2, a7.2.1⟩ (fun hHeld => ?_)
     clear hK_ K_
     refine nR_ ?_
     refine oP 1 (some 153) (fun K_ hK_ => ?_)
     refine own_lit_step (Kd.raw 3) (N := N) (e := 35) (xs := []) (inner := []) rfl rfl gs_ (Reps.none _ _) (by decide) O10.out ?_
     intro C2 e2 w11 o_ k_
     obtain ⟨O11, K11⟩ := ok_ K10 o_ k_
     clear a0 a7 a8 e5 O10 K10
     have a0 := k8_ O11 0
     have a7 := k10_ O11 7
     have a8 := k6_ O11 8
     have e5 := D_set (k := 3) O11.out rfl HRI.out
     clear o_ k_ hHeld
     refine hK_.out _ _ ⟨e5.1.2.1, e5.1.2.2.2.2, a7.2.1⟩ (fun hHeld => ?_)
     clear hK_ K_
     refine nR_ ?_
     refine oP 6 (some 158) (fun K_ hK_ => ?_)
     refine Own.append_flat_step (Kd.raw 3) flatRaw O11.out (i := 11) rfl (O11.out.nreads (i := 6) rfl).2.2 rfl (by rfl) (.tmp 153) (.tmp 157) 40 (.agg #[.int .i64 0, .int .i64 0, .slice none 0 0]) 40 rfl Tryd.underlying40 infoR rfl (by decide) (by decide) rfl rfl (by have := HJR.out; simp only [List.length_nil]; omega) ?_
     intro C3 e3 w12 o_ k_
     obtain ⟨O12, K12⟩ := ok_ K11 o_ k_
     clear a0 a7 a8 e5 O11 K11
     have a0 := k8_ O12 0
     have a7 := k10_ O12 7
     have a8 := k6_ O12 8
     have e5 := D_set (k := 3) O12.out rfl HRI.out
     clear o_ k_ hHeld
     refine hK_.out _ _ ⟨e5.1.2.1, e5.1.2.2.2.2, a7.2.1⟩ (fun hHeld => ?_)
     clear hK_ K_
     refine nR_ ?_
     refine norm_ (a' := _) ?_ (hc_ ⟨C2, e2, C3, e3, D1, h1_⟩ _ ⟨?_, K12.out⟩)
     ·simp only [putAll, Act.put, List.setIfInBounds_toArray, List.set_cons_zero, List.set_cons_succ]
      try rfl
     ·exact O12.out.pickL [0, 1, 2, 3, 4, 5, 6, 7, 8, 9, 11, 10] (by decide) (by simp)
   case hcont =>
    clear hHeld
    rintro ⟨C2, e2, C3, e3, D1, h1_⟩ w9 ⟨o_, k_⟩
    obtain ⟨O9, K9⟩ := ok_ K8 o_ k_
    clear a0 a7 a8 e5 O8 K8
    have a0 := k8_ O9 0
    have a7 := k10_ O9 7
    have a8 := k6_ O9 8
    have e5 := D_set (k := 3) O9.out rfl HRI.out
    clear o_ k_
    refine nA_ ?_
    have hHeld : w9.cell? ⟨(aa.add (m.toNat * 5)).block, (aa.add (m.toNat * 5)).off + 1, none⟩ = some (.slice AJ rJ.length cJ) ∧ w9.cell? ⟨(aa.add (m.toNat * 5)).block, (aa.add (m.toNat * 5)).off + 4, none⟩ = some (.slice AU x.U.length cU) ∧ w9.cell? ⟨ga, 1, none⟩ = some (.int .i64 n) := ⟨e5.1.2.1, e5.1.2.2.2.2, a7.2.1⟩
    refine oP 21 (some 173) (fun K_ hK_ => ?_)
    refine Own.append_flat_step (Kd.raw 3) flatRaw O9.out (i := 10) rfl (O9.out.nreads (i := 11) rfl).2.2 rfl (by rfl) (.tmp 158) (.tmp 172) 40 (.agg #[.int .i64 0, .int .i64 0, .slice none 0 0]) 40 rfl Tryd.underlying40 infoR rfl (by decide) (by decide) rfl rfl (by have := HJR.out; omega) ?_
    intro C4 e4 w10 o_ k_
    obtain ⟨O10, K10⟩ := ok_ K9 o_ k_
    clear a0 a7 a8 e5 O9 K9
    have a0 := k8_ O10 0
    have a7 := k10_ O10 7
    have a8 := k6_ O10 8
    have e5 := D_set (k := 3) O10.out rfl HRI.out
    clear o_ k_ hHeld
    refine hK_.out _ _ ⟨e5.1.2.1, e5.1.2.2.2.2, a7.2.1⟩ (fun hHeld => ?_)
    clear hK_ K_
    refine nP ?_
    refine pP 22 (some 174) ?_
    refine pP 23 (some 175) ?_
    refine lP 24 none (fun K_ hK_ => ?_)
    refine xR 3 1 (.slice C4 (rJ ++ [rw3 n ((rJ.length : Int) + 1) (.slice AU x.U.length cU)]).length e4) O10 HRI ?_
    intro w11 o_ k_
    obtain ⟨O11, K11⟩ := ok_ K10 o_ k_
    clear a0 a7 a8 e5 O10 K10
    have a0 := k8_ O11 0
    have a7 := k10_ O11 7
    have a8 := k6_ O11 8
    have e5 := D_set (k := 3) O11.out rfl HRI.out
    clear o_ k_
    refine hK_.out _ _ ?_
    clear hK_ K_
    refine dN ?_
    clear hHeld
    go_wp2_with (first | ((with_reducible refine gT 33 178 rfl ?_); refine wR 3 4 (.slice none 0 0) O11 HRI ?_; intro w12 o_ k_; obtain ⟨O12, K12⟩ := ok_ K11 o_ k_; clear a0 a7 a8 e5 O11 K11; have a0 := k8_ O12 0; have a7 := k10_ O12 7; have a8 := k6_ O12 8; have e5 := D_set (k := 3) O12.out rfl HRI.out; clear o_ k_) | ((with_reducible refine gT 79 4 rfl ?_); refine wS 8 0 [.int .i64 0, .int .i64 0, .int .i64 0, .string ⟨#[]⟩, false, .int .i64 ((rJ ++ [rw3 n ((rJ.length : Int) + 1) (.slice AU x.U.length cU)]).length : Int)] O12 ?_; intro w13 o_ k_; obtain ⟨O13, K13⟩ := ok_ K12 o_ k_; clear a0 a7 a8 e5 O12 K12; have a0 := k8_ O13 0; have a7 := k10_ O13 7; have a8 := k6_ O13 8; have e5 := D_set (k := 3) O13.out rfl HRI.out; clear o_ k_))
    have hz := DocM.backP (x' := { x with J := x.J ++ [⟨n, (rJ.length : Int) + 1, x.U⟩], U := [] }) HXX.out HQL.out HDI.out HERC.out rfl rfl HCU.out (O13.out.pickL [0, 1, 2, 3, 4, 5, 10] (by decide) (by simp))
    refine bodyPost_ret (results_cell_row rfl _ _ gr 79 _ (0, 0) _ rfl (O13.out.blk (i := 8) rfl) Tryd.underlying79 rfl (by kernel_rfl)) rfl ?_
    obtain ⟨rfl⟩ := HDX
    rw [HQJ.out] at hz
    exact ⟨by rw [List.length_append, HQJ.out]; rfl, hz, K13.out⟩
 ·skip
  refine sP (n := 10) (S := fun w' => w'.cell? ⟨gd, 5, none⟩ = some (.int .i64 cf.last) ∧ w'.cell? (aa.add (m.toNat * 5)) = some (.int .i64 x.e)) (ds := []) ⟨a0.2.2.2.2.2.1, e5.1.1⟩ (fun hHeld => ?_)
  obtain ⟨w6, hw_, k_, O6, K6⟩ := drw_ O5 K5
  rw [← hw_] at hHeld ⊢
  clear a0 a7 a8 e5 O5 K5
  have a0 := k8_ O6 0
  have a7 := k10_ O6 7
  have a8 := k6_ O6 8
  have e5 := D_set (k := 3) O6.out rfl HRI.out
  clear k_ hw_
  refine pP 0 (some 219) ?_
  refine pP 1 (some 220) ?_
  refine pP 2 (some 221) ?_
  refine pP 4 (some 223) ?_
  refine pP 5 (some 224) ?_
  refine pP 6 (some 225) ?_
  refine pP 7 (some 226) ?_
  refine tP 3 (some 222) hHeld ?_
  refine tP 8 (some 227) hHeld ?_
  refine pP 9 (some 228) ?_
  refine dN ?_
  clear hHeld
  by_cases hl : cf.last ≤ x.e
  ·skip
   have l1 : decide (x.e ≥ cf.last) = true := decide_eq_true hl
   have l2 : decide (cf.last ≤ x.e) = true := l1
   rw [l2] at HDX
   clear hl
   first | rw [l2] | rw [l1]
   go_wp2_with (first | ((with_reducible refine gT 79 4 rfl ?_); refine wS 8 0 [.int .i64 8, .int .i64 0, .int .i64 0, .string ⟨#[]⟩, false, .int .i64 0] O6 ?_; intro w7 o_ k_; obtain ⟨O7, K7⟩ := ok_ K6 o_ k_; clear a0 a7 a8 e5 O6 K6; have a0 := k8_ O7 0; have a7 := k10_ O7 7; have a8 := k6_ O7 8; have e5 := D_set (k := 3) O7.out rfl HRI.out; clear o_ k_))
   refine bodyPost_ret (results_cell_row rfl _ _ gr 79 _ (0, 0) _ rfl (O7.out.blk (i := 8) rfl) Tryd.underlying79 rfl (by kernel_rfl)) rfl ?_
   obtain ⟨rfl⟩ := HDX
   exact ⟨rfl, DocM.backU (x' := x) HXX.out HQL.out HDI.out HERC.out rfl (O7.out.pickL [0, 1, 2, 3, 4, 5, 6] (by decide) (by simp)), K7.out⟩
  ·skip
   have l1 : decide (x.e ≥ cf.last) = false := decide_eq_false hl
   have l2 : decide (cf.last ≤ x.e) = false := l1
   rw [l2] at HDX
   have hs5 : wrap64 (x.e + 1) = x.e + 1 := by unfold wrap64; have := HE1.out; omega
   clear hl
   first | rw [l2] | rw [l1]
   go_wp2_with (first | ((with_reducible refine gT 3 237 rfl ?_); refine wR0 3 (.int .i64 (x.e + 1)) O6 HRI ?_; intro w7 o_ k_; obtain ⟨O7, K7⟩ := ok_ K6 o_ k_; clear a0 a7 a8 e5 O6 K6; have a0 := k8_ O7 0; have a7 := k10_ O7 7; have a8 := k6_ O7 8; have e5 := D_set (k := 3) O7.out rfl HRI.out; clear o_ k_) | ((with_reducible refine gT 3 240 rfl ?_); refine wR 3 2 (.int .i64 0) O7 HRI ?_; intro w8 o_ k_; obtain ⟨O8, K8⟩ := ok_ K7 o_ k_; clear a0 a7 a8 e5 O7 K7; have a0 := k8_ O8 0; have a7 := k10_ O8 7; have a8 := k6_ O8 8; have e5 := D_set (k := 3) O8.out rfl HRI.out; clear o_ k_) | ((with_reducible refine gT 3 243 rfl ?_); refine wR 3 3 (.int .i64 0) O8 HRI ?_; intro w9 o_ k_; obtain ⟨O9, K9⟩ := ok_ K8 o_ k_; clear a0 a7 a8 e5 O8 K8; have a0 := k8_ O9 0; have a7 := k10_ O9 7; have a8 := k6_ O9 8; have e5 := D_set (k := 3) O9.out rfl HRI.out; clear o_ k_) | ((with_reducible refine gT 33 246 rfl ?_); refine wR 3 4 (.slice none 0 0) O9 HRI ?_; intro w10 o_ k_; obtain ⟨O10, K10⟩ := ok_ K9 o_ k_; clear a0 a7 a8 e5 O9 K9; have a0 := k8_ O10 0; have a7 := k10_ O10 7; have a8 := k6_ O10 8; have e5 := D_set (k := 3) O10.out rfl HRI.out; clear o_ k_) | ((with_reducible refine gT 79 4 rfl ?_); refine wS 8 0 [.int .i64 0, .int .i64 0, .int .i64 0, .string ⟨#[]⟩, false, .int .i64 0] O10 ?_; intro w11 o_ k_; obtain ⟨O11, K11⟩ := ok_ K10 o_ k_; clear a0 a7 a8 e5 O10 K10; have a0 := k8_ O11 0; have a7 := k10_ O11 7; have a8 := k6_ O11 8; have e5 := D_set (k := 3) O11.out rfl HRI.out; clear o_ k_))
   refine bodyPost_ret (results_cell_row rfl _ _ gr 79 _ (0, 0) _ rfl (O11.out.blk (i := 8) rfl) Tryd.underlying79 rfl (by kernel_rfl)) rfl ?_
   obtain ⟨rfl⟩ := HDX
   exact ⟨rfl, DocM.backU (x' := ⟨x.e + 1, x.J, 0, 0, []⟩) (vU' := .slice none 0 0) HXX.out HQL.out HDI.out HERC.out rfl ((O11.out.push_emp (nrow kU7 tU7 (.slice none 0 0) []) (fun w => Kd.N_nil _ _ _ _ _)).pickL [0, 1, 2, 3, 4, 10, 6] (by decide) (by simp)), K11.out⟩
theorem DDo_kd {N : Nat → Prop} {w : World} {gd : Nat} (kd n : Int) (key : ByteArray) (uc un : Int) (us rk : ByteArray) (an ab am : Int) (h : Own N w []) (hk : kd < 1 ∨ kd > 6) :
  Calls Tryd.prog 49 #[pt gd, .agg #[kd, n, key, uc, un, us, rk, an, ab, .int .u32 am]] w fun e_ w' => e_ = .returned (repM (rep0 5)) ∧ Own N w' [] ∧ KeepS N w w' := by
 have HF : decide (kd < 1) = true ∨ decide (kd < 1) = false ∧ decide (kd > 6) = true ∧ decide (6 < kd) = true := hk.imp decide_eq_true fun h => ⟨decide_eq_false (by omega), decide_eq_true h, decide_eq_true h⟩
 have O0 : Aside0 (Own N w []) := ⟨h⟩
 have K0 : Aside0 (KeepS N w w) := ⟨KeepS.refl _ _⟩
 clear h hk
 rcases HF with d1 | ⟨d1, d2, d3⟩
 all_goals go_enter Tryd.func49, Tryd.ntmps49
 all_goals go_wp2_with (first | ((with_reducible refine gD 3 rfl ?_); refine bP 3 #[kd, n, key, uc, un, us, rk, an, ab, .int .u32 am] 83 O0.out ?_; intro ga w1 o_ k_; obtain ⟨O1, K1⟩ := ok_ K0 o_ k_; clear O0 K0; have a0 := k10_ O1 0; clear o_ k_) | ((with_reducible refine gD 4 rfl ?_); refine bP 4 #[.int .i64 0, .int .i64 0, .int .i64 0, .string ⟨#[]⟩, false, .int .i64 0] 79 O1.out ?_; intro gr w2 o_ k_; obtain ⟨O2, K2⟩ := ok_ K1 o_ k_; clear a0 O1 K1; have a0 := k10_ O2 0; have a1 := k6_ O2 1; clear o_ k_) | ((with_reducible refine gT 79 4 rfl ?_); refine wS 1 0 [.int .i64 5, .int .i64 0, .int .i64 0, .string ⟨#[]⟩, false, .int .i64 0] O2 ?_; intro w3 o_ k_; obtain ⟨O3, K3⟩ := ok_ K2 o_ k_; clear a0 a1 O2 K2; have a0 := k10_ O3 0; have a1 := k6_ O3 1; clear o_ k_))
 all_goals refine bodyPost_ret (results_cell_row rfl _ _ gr 79 #[.int .i64 5, .int .i64 0, .int .i64 0, .string ⟨#[]⟩, false, .int .i64 0] (0, 0) _ rfl (O3.out.blk (i := 1) rfl) Tryd.underlying79 rfl (by kernel_rfl)) rfl ?_
 all_goals exact ⟨rfl, O3.out.take 0, K3.out⟩
theorem DDo_nlo {N : Nat → Prop} {w : World} {gd cL cA : Nat} {cf : MCf} {AL : Option Addr} {aa : Option Addr} {L : List Rnd7} {cls : List MCl} (kd n : Int) (key : ByteArray) (uc un : Int) (us rk : ByteArray) (an ab am : Int) (h : Own N w []) (hm : CellN N w gd #[cf.cl, cf.win, cf.push, cf.pull, cf.mtu, cf.last, .slice AL L.length cL, .slice aa cls.length cA] tDM) (hk : 1 ≤ kd ∧ kd ≤ 6) (hn : n < 1) :
  Calls Tryd.prog 49 #[pt gd, .agg #[kd, n, key, uc, un, us, rk, an, ab, .int .u32 am]] w fun e_ w' => e_ = .returned (repM (rep0 11)) ∧ Own N w' [] ∧ KeepS N w w' := by
 have k1 : decide (kd < 1) = false := decide_eq_false (by omega)
 have k2 : decide (kd > 6) = false := decide_eq_false (by omega)
 have k3 : decide (6 < kd) = false := k2
 have g1 : decide (n < 1) = true := decide_eq_true hn
 have HM_0 : Aside0 (CellN N w gd #[cf.cl, cf.win, cf.push, cf.pull, cf.mtu, cf.last, .slice AL L.length cL, .slice aa cls.length cA] tDM) := ⟨hm⟩
 have O0 : Aside0 (Own N w []) := ⟨h⟩
 have K0 : Aside0 (KeepS N w w) := ⟨KeepS.refl _ _⟩
 have mA := blk8_ (HM_0.out.2)
 clear h hm hk hn
 go_enter Tryd.func49, Tryd.ntmps49
 go_wp2_with (first | ((with_reducible refine gD 3 rfl ?_); refine bP 3 #[kd, n, key, uc, un, us, rk, an, ab, .int .u32 am] 83 O0.out ?_; intro ga w1 o_ k_; obtain ⟨O1, K1⟩ := ok_ K0 o_ k_; have HM_1 := Am (CellN.keep HM_0.out k_); clear mA O0 K0 HM_0; have a0 := k10_ O1 0; have mA := blk8_ (HM_1.out.2); clear o_ k_) | ((with_reducible refine gD 4 rfl ?_); refine bP 4 #[.int .i64 0, .int .i64 0, .int .i64 0, .string ⟨#[]⟩, false, .int .i64 0] 79 O1.out ?_; intro gr w2 o_ k_; obtain ⟨O2, K2⟩ := ok_ K1 o_ k_; have HM_2 := Am (CellN.keep HM_1.out k_); clear a0 mA O1 K1 HM_1; have a0 := k10_ O2 0; have a1 := k6_ O2 1; have mA := blk8_ (HM_2.out.2); clear o_ k_))
 refine sP (n := 13) (S := fun w' => w'.cell? ⟨ga, 1, none⟩ = some (.int .i64 n)) (ds := []) a0.2.1 (fun hHeld => ?_)
 obtain ⟨w3, hw_, k_, O3, K3⟩ := drw_ O2 K2
 rw [← hw_] at hHeld ⊢
 have HM_3 := Am (CellN.keep HM_2.out k_)
 clear a0 a1 mA O2 K2 HM_2
 have a0 := k10_ O3 0
 have a1 := k6_ O3 1
 have mA := blk8_ (HM_3.out.2)
 clear k_ hw_
 refine pP 0 (some 20) ?_
 refine tP 1 (some 21) hHeld ?_
 refine pP 2 (some 22) ?_
 refine pP 3 (some 23) ?_
 refine pS 4 (some 24) ?_
 refine pS 6 (some 26) ?_
 refine pS 7 (some 27) ?_
 refine pS 8 (some 28) ?_
 refine tS 5 (some 25) hHeld ?_
 refine tS 9 (some 29) hHeld ?_
 refine pS 10 (some 30) ?_
 refine pS 11 (some 31) ?_
 refine pP 12 (some 32) ?_
 refine dN ?_
 clear hHeld
 go_wp2_with (first | ((with_reducible refine gT 79 4 rfl ?_); refine wS 1 0 [.int .i64 11, .int .i64 0, .int .i64 0, .string ⟨#[]⟩, false, .int .i64 0] O3 ?_; intro w4 o_ k_; obtain ⟨O4, K4⟩ := ok_ K3 o_ k_; have HM_4 := Am (CellN.keep HM_3.out k_); clear a0 a1 mA O3 K3 HM_3; have a0 := k10_ O4 0; have a1 := k6_ O4 1; have mA := blk8_ (HM_4.out.2); clear o_ k_))
 refine bodyPost_ret (results_cell_row rfl _ _ gr 79 #[.int .i64 11, .int .i64 0, .int .i64 0, .string ⟨#[]⟩, false, .int .i64 0] (0, 0) _ rfl (O4.out.blk (i := 1) rfl) Tryd.underlying79 rfl (by kernel_rfl)) rfl ?_
 exact ⟨rfl, O4.out.take 0, K4.out⟩
theorem DDo_nhi {N : Nat → Prop} {w : World} {gd cL cA : Nat} {cf : MCf} {AL : Option Addr} {aa : Option Addr} {L : List Rnd7} {cls : List MCl} (kd n : Int) (key : ByteArray) (uc un : Int) (us rk : ByteArray) (an ab am : Int) (h : Own N w []) (hm : CellN N w gd #[cf.cl, cf.win, cf.push, cf.pull, cf.mtu, cf.last, .slice AL L.length cL, .slice aa cls.length cA] tDM) (hk : 1 ≤ kd ∧ kd ≤ 6) (hn : n > cls.length) (h1 : 1 ≤ n) :
  Calls Tryd.prog 49 #[pt gd, .agg #[kd, n, key, uc, un, us, rk, an, ab, .int .u32 am]] w fun e_ w' => e_ = .returned (repM (rep0 11)) ∧ Own N w' [] ∧ KeepS N w w' := by
 have k1 : decide (kd < 1) = false := decide_eq_false (by omega)
 have k2 : decide (kd > 6) = false := decide_eq_false (by omega)
 have k3 : decide (6 < kd) = false := k2
 have g1 : decide (n < 1) = false := decide_eq_false (by omega)
 have g2 : decide (n > (cls.length : Int)) = true := decide_eq_true hn
 have g3 : decide ((cls.length : Int) < n) = true := g2
 have HM_0 : Aside0 (CellN N w gd #[cf.cl, cf.win, cf.push, cf.pull, cf.mtu, cf.last, .slice AL L.length cL, .slice aa cls.length cA] tDM) := ⟨hm⟩
 have O0 : Aside0 (Own N w []) := ⟨h⟩
 have K0 : Aside0 (KeepS N w w) := ⟨KeepS.refl _ _⟩
 have mA := blk8_ (HM_0.out.2)
 clear h hm hk hn h1
 go_enter Tryd.func49, Tryd.ntmps49
 go_wp2_with (first | ((with_reducible refine gD 3 rfl ?_); refine bP 3 #[kd, n, key, uc, un, us, rk, an, ab, .int .u32 am] 83 O0.out ?_; intro ga w1 o_ k_; obtain ⟨O1, K1⟩ := ok_ K0 o_ k_; have HM_1 := Am (CellN.keep HM_0.out k_); clear mA O0 K0 HM_0; have a0 := k10_ O1 0; have mA := blk8_ (HM_1.out.2); clear o_ k_) | ((with_reducible refine gD 4 rfl ?_); refine bP 4 #[.int .i64 0, .int .i64 0, .int .i64 0, .string ⟨#[]⟩, false, .int .i64 0] 79 O1.out ?_; intro gr w2 o_ k_; obtain ⟨O2, K2⟩ := ok_ K1 o_ k_; have HM_2 := Am (CellN.keep HM_1.out k_); clear a0 mA O1 K1 HM_1; have a0 := k10_ O2 0; have a1 := k6_ O2 1; have mA := blk8_ (HM_2.out.2); clear o_ k_))
 refine sP (n := 13) (S := fun w' => w'.cell? ⟨ga, 1, none⟩ = some (.int .i64 n) ∧ w'.cell? ⟨gd, 7, none⟩ = some (.slice aa cls.length cA)) (ds := []) ⟨a0.2.1, mA.2.2.2.2.2.2.2.1⟩ (fun hHeld => ?_)
 obtain ⟨w3, hw_, k_, O3, K3⟩ := drw_ O2 K2
 rw [← hw_] at hHeld ⊢
 have HM_3 := Am (CellN.keep HM_2.out k_)
 clear a0 a1 mA O2 K2 HM_2
 have a0 := k10_ O3 0
 have a1 := k6_ O3 1
 have mA := blk8_ (HM_3.out.2)
 clear k_ hw_
 refine pP 0 (some 20) ?_
 refine tP 1 (some 21) hHeld ?_
 refine pP 2 (some 22) ?_
 refine pP 3 (some 23) ?_
 refine pP 4 (some 24) ?_
 refine pP 6 (some 26) ?_
 refine pP 7 (some 27) ?_
 refine pP 8 (some 28) ?_
 refine tP 5 (some 25) hHeld ?_
 refine tP 9 (some 29) hHeld ?_
 refine pP 10 (some 30) ?_
 refine pP 11 (some 31) ?_
 refine pP 12 (some 32) ?_
 refine dN ?_
 clear hHeld
 go_wp2_with (first | ((with_reducible refine gT 79 4 rfl ?_); refine wS 1 0 [.int .i64 11, .int .i64 0, .int .i64 0, .string ⟨#[]⟩, false, .int .i64 0] O3 ?_; intro w4 o_ k_; obtain ⟨O4, K4⟩ := ok_ K3 o_ k_; have HM_4 := Am (CellN.keep HM_3.out k_); clear a0 a1 mA O3 K3 HM_3; have a0 := k10_ O4 0; have a1 := k6_ O4 1; have mA := blk8_ (HM_4.out.2); clear o_ k_))
 refine bodyPost_ret (results_cell_row rfl _ _ gr 79 #[.int .i64 11, .int .i64 0, .int .i64 0, .string ⟨#[]⟩, false, .int .i64 0] (0, 0) _ rfl (O4.out.blk (i := 1) rfl) Tryd.underlying79 rfl (by kernel_rfl)) rfl ?_
 exact ⟨rfl, O4.out.take 0, K4.out⟩
end Go.Proofs.YtjdenpmaianmfaaDoor.J
namespace Go.Proofs.YtjdenpmaianmfaaDoor.J
set_option maxHeartbeats 16000000
set_option maxRecDepth 100000
set_option linter.unusedSimpArgs false
set_option linter.unusedVariables false
open Go RowKit YtjdenpmaianmfaaDoorW.PrintWords YtjdenpmaianmfaaDoorW.PrintLast YtjdenpmaianmfaaDoorW.PrintMore Q YtjdenpmaianmfaaDoor.Sep YtjdenpmaianmfaaDoor.Pure
theorem rawTake {N : Nat → Prop} {w : World} {A : Option Addr} {k : Nat} {L : List Rnd7} (h : Kd.F kR7 w N A L.length L) (hk : k ≤ L.length) : ∃ rT : RawR, rT.length = k ∧ Kd.C (Kd.raw 3) w A k rT ∧ Lead N w rT (L.take k) := by
 obtain ⟨rT, h1, h2, h3⟩ := rawOf (take_F h hk)
 have e : (L.take k).length = k := by rw [List.length_take]; omega
 rw [e] at h1 h2
 exact ⟨rT, h1, h2, h3⟩
theorem DPendMP {M : Nat → Prop} (p : Nat) {N : Nat → Prop} {w : World} {gd cL cA : Nat} {cf : MCf} {AL : Option Addr} {aa : Addr} {L : List Rnd7} {cls : List MCl} {rc : RawR} {x : MCl} {AJ AU : Option Addr} {cJ cU : Nat} (n : Int) (hp : (pndR n L x).length = p) (hM : ∀ k, M k → N k) (h : Own N w []) (hm : CellN N w gd #[cf.cl, cf.win, cf.push, cf.pull, cf.mtu, cf.last, .slice AL L.length cL, .slice (some aa) cls.length cA] tDM) (hC : Kd.F (Kd.raw 5) w N (some aa) cls.length rc) (hrc : rc[n.toNat - 1]? = some [.int .i64 x.e, .slice AJ x.J.length cJ, .int .i64 x.k, .int .i64 x.c, .slice AU x.U.length cU]) (hl : Kd.F kR7 w N AL L.length L) (hj : Kd.F kR7 w M AJ x.J.length x.J) (hn : 1 ≤ n ∧ n ≤ cls.length) (hc4 : cls.length ≤ 64) (hmm : ∀ (k : Nat) (r : Rnd7), L[k]? = some r → r.f1 = ((ownR r.f0 (L.take k)).length : Int) + 1) (haa : ∀ (k : Nat) (r : Rnd7), x.J[k]? = some r → r.f1 = (k : Int) + 1) (hk : x.k ≤ L.length) (hJ : x.J.length ≤ 100000) (hL : L.length ≤ 100000) :
  Calls Tryd.prog 85 #[pt gd, n] w fun e_ w' => ∃ A1 c1 rows, e_ = .returned (.slice A1 p c1) ∧ Own N w' [nrow (Kd.raw 3) tR7 (.slice A1 p c1) rows] ∧ Lead M w' rows (pndR n L x) ∧ KeepS N w w' := by
 subst hp
 exact DPendM n h hm hC hrc hM hl hj hn hc4 hmm haa hk hJ hL
theorem DDo_2 {N : Nat → Prop} {w : World} {gd cL cA : Nat} {cf : MCf} {AL : Option Addr} {aa : Addr} {L : List Rnd7} {cls : List MCl} {rc : RawR} {x : MCl} {AJ AU : Option Addr} {cJ cU : Nat} (n : Int) (key : ByteArray) (uc un : Int) (us rk : ByteArray) (an ab am : Int) (h : Own N w []) (hm : CellN N w gd #[cf.cl, cf.win, cf.push, cf.pull, cf.mtu, cf.last, .slice AL L.length cL, .slice (some aa) cls.length cA] tDM) (hC : Kd.F (Kd.raw 5) w N (some aa) cls.length rc) (hrc : rc[n.toNat - 1]? = some [.int .i64 x.e, .slice AJ x.J.length cJ, .int .i64 x.k, .int .i64 x.c, .slice AU x.U.length cU]) (hl : Kd.F kR7 w N AL L.length L) (hj : Kd.F kR7 w N AJ x.J.length x.J) (hn : 1 ≤ n ∧ n ≤ cls.length) (hc4 : cls.length ≤ 64) (hmm : ∀ (k : Nat) (r : Rnd7), L[k]? = some r → r.f1 = ((ownR r.f0 (L.take k)).length : Int) + 1) (haa : ∀ (k : Nat) (r : Rnd7), x.J[k]? = some r → r.f1 = (k : Int) + 1) (hk : x.k ≤ L.length) (hJ : x.J.length ≤ 100000) (hL : L.length ≤ 100000) (hu : Kd.F kU7 w N AU x.U.length x.U) (hcL : L.length ≤ cL) (hcU : x.U.length ≤ cU) (hbb : (flatR (seenR n L x)).length + x.U.length < 1000000) :
  Calls Tryd.prog 49 #[pt gd, .agg #[.int .i64 2, n, key, uc, un, us, rk, an, ab, .int .u32 am]] w fun e_ w' => e_ = .returned (repM ⟨0, stateOf x.U (seenR n L x) rk, false, cntK (stateOf x.U (seenR n L x))⟩) ∧ Own N w' [] ∧ KeepS N w w' := by
 obtain ⟨m, hm_⟩ : ∃ m, n - 1 = m := ⟨_, rfl⟩
 have hw : wrap64 (n - 1) = m := by rw [← hm_]; unfold wrap64; omega
 have hp_ := eq_true (show (0 : Int) ≤ m by omega)
 have hq2 := eq_true (show m < (cls.length : Int) by omega)
 have g1 : decide (n < 1) = false := decide_eq_false (by omega)
 have g2 : decide (n > (cls.length : Int)) = false := decide_eq_false (by omega)
 have g3 : decide ((cls.length : Int) < n) = false := g2
 have hrm : rc[m.toNat]? = some [.int .i64 x.e, .slice AJ x.J.length cJ, .int .i64 x.k, .int .i64 x.c, .slice AU x.U.length cU] := by rw [← hm_, show (n - 1).toNat = n.toNat - 1 by omega]; exact hrc
 have HRM := Am hrm
 obtain ⟨p, hp⟩ : ∃ p, (pndR n L x).length = p := ⟨_, rfl⟩
 have HPP := Am hp
 have HPE : Aside0 (x.J.length - ownN n L x = p) := ⟨by rw [← hp]; unfold pndR; rw [List.length_drop]⟩
 have HN := Am hn
 have HB := Am hc4
 have HMM := Am hmm
 have HAA := Am haa
 have HKL := Am hk
 have HJL := Am hJ
 have HLL := Am hL
 have HRC := Am hrc
 have HCU := Am hcU
 have hk1 := eq_true (show (x.k : Int) ≤ (cL : Int) by omega)
 have hk2 := eq_true (show (0 : Int) ≤ (x.k : Int) by omega)
 have HBB0 := Am hbb
 obtain ⟨X, hX⟩ : ∃ X, seenR n L x = X := ⟨_, rfl⟩
 rw [hX] at hbb
 have HXE := Am hX
 have HBB := Am hbb
 have HXL : Aside0 (X.length ≤ 1000000) := ⟨by rw [← hX]; unfold seenR; rw [List.length_append, List.length_take, hp]; have h9 := HPE.out; omega⟩
 obtain ⟨V, hV⟩ : ∃ V, stateOf x.U X rk = V := ⟨_, rfl⟩
 have HV := Am hV
 have HM_0 : Aside0 (CellN N w gd #[cf.cl, cf.win, cf.push, cf.pull, cf.mtu, cf.last, .slice AL L.length cL, .slice (some aa) cls.length cA] tDM) := ⟨hm⟩
 have HC_0 : Aside0 (Kd.F (Kd.raw 5) w N (some aa) cls.length rc) := ⟨hC⟩
 have HL_0 : Aside0 (Kd.F kR7 w N AL L.length L) := ⟨hl⟩
 have HJ_0 : Aside0 (Kd.F kR7 w N AJ x.J.length x.J) := ⟨hj⟩
 have HU_0 : Aside0 (Kd.F kU7 w N AU x.U.length x.U) := ⟨hu⟩
 have O0 : Aside0 (Own N w []) := ⟨h⟩
 have K0 : Aside0 (KeepS N w w) := ⟨KeepS.refl _ _⟩
 have mA := blk8_ (HM_0.out.2)
 obtain ⟨z0, z1, z2, z3, z4⟩ := rawF5 HC_0.out HRM.out
 clear h hm hC hl hj hu hn hc4 hmm haa hk hJ hL hrc hrm hm_ hp hcU hcL hbb hX hV
 go_enter Tryd.func49, Tryd.ntmps49
 go_wp2_with (first | ((with_reducible refine gD 3 rfl ?_); refine bP 3 #[.int .i64 2, n, key, uc, un, us, rk, an, ab, .int .u32 am] 83 O0.out ?_; intro ga w1 o_ k_; obtain ⟨O1, K1⟩ := ok_ K0 o_ k_; have HM_1 := Am (CellN.keep HM_0.out k_); have HC_1 := Am (keepF HC_0.out k_); have HL_1 := Am (keepF HL_0.out k_); have HJ_1 := Am (keepF HJ_0.out k_); have HU_1 := Am (keepF HU_0.out k_); clear mA z0 z1 z2 z3 z4 O0 K0 HM_0 HC_0 HL_0 HJ_0 HU_0; have a0 := k10_ O1 0; have mA := blk8_ (HM_1.out.2); obtain ⟨z0, z1, z2, z3, z4⟩ := rawF5 HC_1.out HRM.out; clear o_ k_) | ((with_reducible refine gD 4 rfl ?_); refine bP 4 #[.int .i64 0, .int .i64 0, .int .i64 0, .string ⟨#[]⟩, false, .int .i64 0] 79 O1.out ?_; intro gr w2 o_ k_; obtain ⟨O2, K2⟩ := ok_ K1 o_ k_; have HM_2 := Am (CellN.keep HM_1.out k_); have HC_2 := Am (keepF HC_1.out k_); have HL_2 := Am (keepF HL_1.out k_); have HJ_2 := Am (keepF HJ_1.out k_); have HU_2 := Am (keepF HU_1.out k_); clear a0 mA z0 z1 z2 z3 z4 O1 K1 HM_1 HC_1 HL_1 HJ_1 HU_1; have a0 := k10_ O2 0; have a1 := k6_ O2 1; have mA := blk8_ (HM_2.out.2); obtain ⟨z0, z1, z2, z3, z4⟩ := rawF5 HC_2.out HRM.out; clear o_ k_))
 refine sP (n := 13) (S := fun w' => w'.cell? ⟨ga, 1, none⟩ = some (.int .i64 n) ∧ w'.cell? ⟨gd, 7, none⟩ = some (.slice (some aa) cls.length cA)) (ds := []) ⟨a0.2.1, mA.2.2.2.2.2.2.2.1⟩ (fun hHeld => ?_)
 obtain ⟨w3, hw_, k_, O3, K3⟩ := drw_ O2 K2
 rw [← hw_] at hHeld ⊢
 have HM_3 := Am (CellN.keep HM_2.out k_)
 have HC_3 := Am (keepF HC_2.out k_)
 have HL_3 := Am (keepF HL_2.out k_)
 have HJ_3 := Am (keepF HJ_2.out k_)
 have HU_3 := Am (keepF HU_2.out k_)
 clear a0 a1 mA z0 z1 z2 z3 z4 O2 K2 HM_2 HC_2 HL_2 HJ_2 HU_2
 have a0 := k10_ O3 0
 have a1 := k6_ O3 1
 have mA := blk8_ (HM_3.out.2)
 obtain ⟨z0, z1, z2, z3, z4⟩ := rawF5 HC_3.out HRM.out
 clear k_ hw_
 refine pP 0 (some 20) ?_
 refine tP 1 (some 21) hHeld ?_
 refine pP 2 (some 22) ?_
 refine pP 3 (some 23) ?_
 refine pP 4 (some 24) ?_
 refine pP 6 (some 26) ?_
 refine pP 7 (some 27) ?_
 refine pP 8 (some 28) ?_
 refine tP 5 (some 25) hHeld ?_
 refine tP 9 (some 29) hHeld ?_
 refine pP 10 (some 30) ?_
 refine pP 11 (some 31) ?_
 refine pP 12 (some 32) ?_
 refine dN ?_
 clear hHeld
 go_wp2
 refine sP (n := 9) (S := fun w' => w'.cell? ⟨gd, 7, none⟩ = some (.slice (some aa) cls.length cA) ∧ w'.cell? ⟨ga, 1, none⟩ = some (.int .i64 n)) (ds := []) ⟨mA.2.2.2.2.2.2.2.1, a0.2.1⟩ (fun hHeld => ?_)
 obtain ⟨w4, hw_, k_, O4, K4⟩ := drw_ O3 K3
 rw [← hw_] at hHeld ⊢
 have HM_4 := Am (CellN.keep HM_3.out k_)
 have HC_4 := Am (keepF HC_3.out k_)
 have HL_4 := Am (keepF HL_3.out k_)
 have HJ_4 := Am (keepF HJ_3.out k_)
 have HU_4 := Am (keepF HU_3.out k_)
 clear a0 a1 mA z0 z1 z2 z3 z4 O3 K3 HM_3 HC_3 HL_3 HJ_3 HU_3
 have a0 := k10_ O4 0
 have a1 := k6_ O4 1
 have mA := blk8_ (HM_4.out.2)
 obtain ⟨z0, z1, z2, z3, z4⟩ := rawF5 HC_4.out HRM.out
 clear k_ hw_
 refine pP 0 (some 34) ?_
 refine pP 1 (some 35) ?_
 refine pP 2 (some 36) ?_
 refine pP 4 (some 38) ?_
 refine tP 3 (some 37) hHeld ?_
 refine tP 5 (some 39) hHeld ?_
 refine pP 6 (some 40) ?_
 refine pP 7 (some 41) ?_
 refine pP 8 (some 5) ?_
 refine dN ?_
 clear hHeld
 go_wp2_with (first | ((with_reducible refine gC 85 rfl ?_); refine gP (some 45) Tryd.func85 #[pt gd, n] ?_; obtain ⟨N_, on_, nn_, rr_, bb_⟩ := O4.out.frame0; refine (DPendMP p n HPP.out nn_ on_ (CellN.mono HM_4.out nn_) (Kd.F_mono HC_4.out nn_) HRC.out (Kd.F_mono HL_4.out nn_) HJ_4.out HN.out HB.out HMM.out HAA.out HKL.out HJL.out HLL.out).mono ?_; rintro e_ w5 ⟨A9, c9, r9, rfl, oo_, ll_, kk_⟩; obtain ⟨o_, k_⟩ := bb_ _ _ kk_ oo_; refine ⟨_, rfl, ?_⟩; obtain ⟨O5, K5⟩ := ok_ K4 o_ k_; have HM_5 := Am (CellN.keep HM_4.out k_); have HC_5 := Am (keepF HC_4.out k_); have HL_5 := Am (keepF HL_4.out k_); have HJ_5 := Am (keepF HJ_4.out k_); have HU_5 := Am (keepF HU_4.out k_); clear a0 a1 mA z0 z1 z2 z3 z4 O4 K4 HM_4 HC_4 HL_4 HJ_4 HU_4; have a0 := k10_ O5 0; have a1 := k6_ O5 1; have mA := blk8_ (HM_5.out.2); obtain ⟨z0, z1, z2, z3, z4⟩ := rawF5 HC_5.out HRM.out; clear o_ k_ oo_ kk_ on_ nn_ rr_ bb_; have HLP_5 : Aside0 (Lead N w5 r9 (pndR n L x)) := ⟨ll_⟩; clear ll_))
 refine sP (n := 14) (S := fun w' => w'.cell? ⟨gd, 6, none⟩ = some (.slice AL L.length cL) ∧ w'.cell? ⟨(aa.add (m.toNat * 5)).block, (aa.add (m.toNat * 5)).off + 2, none⟩ = some (.int .i64 x.k)) (ds := []) ⟨mA.2.2.2.2.2.2.1, z2⟩ (fun hHeld => ?_)
 obtain ⟨w6, hw_, k_, O6, K6⟩ := drw_ O5 K5
 rw [← hw_] at hHeld ⊢
 have HM_6 := Am (CellN.keep HM_5.out k_)
 have HC_6 := Am (keepF HC_5.out k_)
 have HL_6 := Am (keepF HL_5.out k_)
 have HJ_6 := Am (keepF HJ_5.out k_)
 have HU_6 := Am (keepF HU_5.out k_)
 have HLP_6 := Am (Lead.keep HLP_5.out k_)
 clear a0 a1 mA z0 z1 z2 z3 z4 O5 K5 HM_5 HC_5 HL_5 HJ_5 HU_5 HLP_5
 have a0 := k10_ O6 0
 have a1 := k6_ O6 1
 have mA := blk8_ (HM_6.out.2)
 obtain ⟨z0, z1, z2, z3, z4⟩ := rawF5 HC_6.out HRM.out
 clear k_ hw_
 refine pP 1 (some 95) ?_
 refine pP 2 (some 96) ?_
 refine pP 3 (some 97) ?_
 refine pP 5 (some 99) ?_
 refine pP 6 (some 100) ?_
 refine pP 7 (some 101) ?_
 refine pP 11 (some 105) ?_
 refine tP 4 (some 98) hHeld ?_
 refine tP 8 (some 102) hHeld ?_
 refine pP 9 (some 103) ?_
 refine oP 0 (some 94) (fun K_ hK_ => ?_)
 refine own_lit_step (Kd.raw 3) (N := N) (e := 35) (xs := []) (inner := []) rfl rfl gs_ (Reps.none _ _) (by decide) O6.out ?_
 intro C2 e2 w7 o_ k_
 obtain ⟨O7, K7⟩ := ok_ K6 o_ k_
 have HM_7 := Am (CellN.keep HM_6.out k_)
 have HC_7 := Am (keepF HC_6.out k_)
 have HL_7 := Am (keepF HL_6.out k_)
 have HJ_7 := Am (keepF HJ_6.out k_)
 have HU_7 := Am (keepF HU_6.out k_)
 have HLP_7 := Am (Lead.keep HLP_6.out k_)
 clear a0 a1 mA z0 z1 z2 z3 z4 O6 K6 HM_6 HC_6 HL_6 HJ_6 HU_6 HLP_6
 have a0 := k10_ O7 0
 have a1 := k6_ O7 1
 have mA := blk8_ (HM_7.out.2)
 obtain ⟨z0, z1, z2, z3, z4⟩ := rawF5 HC_7.out HRM.out
 clear o_ k_ hHeld
 refine hK_.out _ _ ⟨mA.2.2.2.2.2.2.1, z2⟩ (fun hHeld => ?_)
 clear hK_ K_
 refine nP ?_
 refine oP 10 (some 104) (fun K_ hK_ => ?_)
 obtain ⟨rT, hrT1, hrT2, hrT3⟩ := rawTake HL_7.out HKL.out
 have HRT := Am hrT1
 have HLT_7 : Aside0 (Lead N w7 rT (L.take x.k)) := ⟨hrT3⟩
 refine Own.append_flat_step (Kd.raw 3) flatRaw O7.out (i := 3) rfl hrT2 rfl (by rfl) (.tmp 94) (.tmp 103) 40 (.agg #[.int .i64 0, .int .i64 0, .slice none 0 0]) 40 rfl Tryd.underlying40 infoR rfl (by decide) (by decide) rfl rfl (by have := HKL.out; have := HLL.out; simp only [List.length_nil]; omega) ?_
 intro C3 e3 w8 o_ k_
 obtain ⟨O8, K8⟩ := ok_ K7 o_ k_
 have HM_8 := Am (CellN.keep HM_7.out k_)
 have HC_8 := Am (keepF HC_7.out k_)
 have HL_8 := Am (keepF HL_7.out k_)
 have HJ_8 := Am (keepF HJ_7.out k_)
 have HU_8 := Am (keepF HU_7.out k_)
 have HLP_8 := Am (Lead.keep HLP_7.out k_)
 have HLT_8 := Am (Lead.keep HLT_7.out k_)
 clear a0 a1 mA z0 z1 z2 z3 z4 O7 K7 HM_7 HC_7 HL_7 HJ_7 HU_7 HLP_7 HLT_7
 have a0 := k10_ O8 0
 have a1 := k6_ O8 1
 have mA := blk8_ (HM_8.out.2)
 obtain ⟨z0, z1, z2, z3, z4⟩ := rawF5 HC_8.out HRM.out
 clear o_ k_ hrT1 hrT2 hrT3 hHeld
 refine hK_.out _ _ ⟨mA.2.2.2.2.2.2.1, z2⟩ (fun hHeld => ?_)
 clear hK_ K_
 refine nP ?_
 refine oP 12 (some 106) (fun K_ hK_ => ?_)
 refine Own.append_flat_step (Kd.raw 3) flatRaw O8.out (i := 3) rfl (O8.out.nreads (i := 2) rfl).2.2 rfl (by rfl) (.tmp 104) (.tmp 105) 40 (.agg #[.int .i64 0, .int .i64 0, .slice none 0 0]) 40 rfl Tryd.underlying40 infoR rfl (by decide) (by decide) rfl rfl (by have := HRT.out; have := HKL.out; have := HLL.out; have := HPE.out; have := HJL.out; omega) ?_
 intro C4 e4 w9 o_ k_
 obtain ⟨O9, K9⟩ := ok_ K8 o_ k_
 have HM_9 := Am (CellN.keep HM_8.out k_)
 have HC_9 := Am (keepF HC_8.out k_)
 have HL_9 := Am (keepF HL_8.out k_)
 have HJ_9 := Am (keepF HJ_8.out k_)
 have HU_9 := Am (keepF HU_8.out k_)
 have HLP_9 := Am (Lead.keep HLP_8.out k_)
 have HLT_9 := Am (Lead.keep HLT_8.out k_)
 clear a0 a1 mA z0 z1 z2 z3 z4 O8 K8 HM_8 HC_8 HL_8 HJ_8 HU_8 HLP_8 HLT_8
 have a0 := k10_ O9 0
 have a1 := k6_ O9 1
 have mA := blk8_ (HM_9.out.2)
 obtain ⟨z0, z1, z2, z3, z4⟩ := rawF5 HC_9.out HRM.out
 clear o_ k_ hHeld
 refine hK_.out _ _ ⟨mA.2.2.2.2.2.2.1, z2⟩ (fun hHeld => ?_)
 clear hK_ K_
 refine nP ?_
 refine pP 13 (some 9) ?_
 refine dN ?_
 clear hHeld
 go_wp2
 have HLS : Aside0 (Lead N w9 (rT ++ r9) X) := ⟨by rw [← HXE.out]; exact (HLT_9.out.append HLP_9.out)⟩
 have e_ : (rT ++ r9).length = X.length := HLS.out.1
 have OZ := O9
 have KZ := K9
 have e2_ : rT.length + r9.length = X.length := by rw [← List.length_append]; exact e_
 rw [e_] at OZ
 rw [e2_]
 clear a0 a1 mA z0 z1 z2 z3 z4 O9 K9
 have O10 : Aside0 (Own N w9 [cells ga #[.int .i64 2, n, key, uc, un, us, rk, an, ab, .int .u32 am] 83, cells gr #[.int .i64 0, .int .i64 0, .int .i64 0, .string ⟨#[]⟩, false, .int .i64 0] 79, nrow (Kd.raw 3) tR7 (.slice A9 p c9) r9, nrow (Kd.raw 3) 35 (.slice C4 X.length e4) (rT ++ r9)]) := ⟨OZ.out⟩
 have K10 : Aside0 (KeepS N w w9) := ⟨KZ.out⟩
 have HM_10 : Aside0 (CellN N w9 gd #[cf.cl, cf.win, cf.push, cf.pull, cf.mtu, cf.last, .slice AL L.length cL, .slice (some aa) cls.length cA] tDM) := ⟨HM_9.out⟩
 have HC_10 : Aside0 (Kd.F (Kd.raw 5) w9 N (some aa) cls.length rc) := ⟨HC_9.out⟩
 have HU_10 : Aside0 (Kd.F kU7 w9 N AU x.U.length x.U) := ⟨HU_9.out⟩
 have HLS_10 : Aside0 (Lead N w9 (rT ++ r9) X) := ⟨HLS.out⟩
 have a0 := k10_ O10 0
 have a1 := k6_ O10 1
 have mA := blk8_ (HM_10.out.2)
 obtain ⟨z0, z1, z2, z3, z4⟩ := rawF5 HC_10.out HRM.out
 clear OZ KZ
 refine sP (n := 16) (S := fun w' => w'.cell? ⟨ga, 6, none⟩ = some (.string rk) ∧ w'.cell? ⟨(aa.add (m.toNat * 5)).block, (aa.add (m.toNat * 5)).off + 4, none⟩ = some (.slice AU x.U.length cU)) (ds := []) ⟨a0.2.2.2.2.2.2.1, z4⟩ (fun hHeld => ?_)
 obtain ⟨w11, hw_, k_, O11, K11⟩ := drw_ O10 K10
 rw [← hw_] at hHeld ⊢
 have HM_11 := Am (CellN.keep HM_10.out k_)
 have HC_11 := Am (keepF HC_10.out k_)
 have HU_11 := Am (keepF HU_10.out k_)
 have HLS_11 := Am (Lead.keep HLS_10.out k_)
 clear a0 a1 mA z0 z1 z2 z3 z4 O10 K10 HM_10 HC_10 HU_10 HLS_10
 have a0 := k10_ O11 0
 have a1 := k6_ O11 1
 have mA := blk8_ (HM_11.out.2)
 obtain ⟨z0, z1, z2, z3, z4⟩ := rawF5 HC_11.out HRM.out
 clear k_ hw_
 refine pP 0 (some 107) ?_
 refine pP 2 (some 109) ?_
 refine pP 3 (some 110) ?_
 refine pP 4 (some 111) ?_
 refine pP 6 (some 113) ?_
 refine pP 8 (some 115) ?_
 refine pP 9 (some 116) ?_
 refine pP 10 (some 117) ?_
 refine pP 12 (some 119) ?_
 refine tP 1 (some 108) hHeld ?_
 refine tP 5 (some 112) hHeld ?_
 refine tP 11 (some 118) hHeld ?_
 refine oP 7 (some 114) (fun K_ hK_ => ?_)
 refine hP Tryd.func29 #[rk, .slice AU x.U.length cU, .slice C4 X.length e4] ?_
 refine (chapbookref08_Read.calls (X.length + (flatR X).length + x.U.length + 8) rk _ _ x.U _ _ X V.1 V.2.1 V.2.2 _ (Kd.F_now HU_11.out) HCU.out (lead_C O11.out (i := 3) rfl HLS_11.out).2.2 (lead_C O11.out (i := 3) rfl HLS_11.out).2.1 (by rw [read_ok _ rk x.U X HBB.out HXL.out (Nat.le_refl _), HV.out])).mono ?_
 rintro e_ w12 ⟨rfl, hb_⟩
 refine ⟨_, rfl, ?_⟩
 have o_ := O11.out.below hb_
 have k_ := KeepS.of_below (N := N) hb_
 obtain ⟨O12, K12⟩ := ok_ K11 o_ k_
 have HM_12 := Am (CellN.keep HM_11.out k_)
 have HC_12 := Am (keepF HC_11.out k_)
 have HU_12 := Am (keepF HU_11.out k_)
 have HLS_12 := Am (Lead.keep HLS_11.out k_)
 clear a0 a1 mA z0 z1 z2 z3 z4 O11 K11 HM_11 HC_11 HU_11 HLS_11
 have a0 := k10_ O12 0
 have a1 := k6_ O12 1
 have mA := blk8_ (HM_12.out.2)
 obtain ⟨z0, z1, z2, z3, z4⟩ := rawF5 HC_12.out HRM.out
 clear o_ k_ hb_ hHeld
 refine hK_.out _ _ ⟨a0.2.2.2.2.2.2.1, z4⟩ (fun hHeld => ?_)
 clear hK_ K_
 refine nP ?_
 refine oP 13 (some 120) (fun K_ hK_ => ?_)
 refine hP Tryd.func51 #[.slice AU x.U.length cU, .slice C4 X.length e4] ?_
 refine (D8Len _ _ x.U _ _ X (Kd.F_now HU_12.out) HCU.out (lead_C O12.out (i := 3) rfl HLS_12.out).2.2 (lead_C O12.out (i := 3) rfl HLS_12.out).2.1 HBB.out HXL.out).mono ?_
 rintro e_ w13 ⟨rfl, hb_⟩
 refine ⟨_, rfl, ?_⟩
 have o_ := O12.out.below hb_
 have k_ := KeepS.of_below (N := N) hb_
 obtain ⟨O13, K13⟩ := ok_ K12 o_ k_
 have HM_13 := Am (CellN.keep HM_12.out k_)
 have HC_13 := Am (keepF HC_12.out k_)
 have HU_13 := Am (keepF HU_12.out k_)
 have HLS_13 := Am (Lead.keep HLS_12.out k_)
 clear a0 a1 mA z0 z1 z2 z3 z4 O12 K12 HM_12 HC_12 HU_12 HLS_12
 have a0 := k10_ O13 0
 have a1 := k6_ O13 1
 have mA := blk8_ (HM_13.out.2)
 obtain ⟨z0, z1, z2, z3, z4⟩ := rawF5 HC_13.out HRM.out
 clear o_ k_ hb_ hHeld
 refine hK_.out _ _ ⟨a0.2.2.2.2.2.2.1, z4⟩ (fun hHeld => ?_)
 clear hK_ K_
 refine nP ?_
 refine pP 14 (some 121) ?_
 refine oP 15 none (fun K_ hK_ => ?_)
 refine xS 1 0 [.int .i64 0, .int .i64 V.1, .int .i64 V.2.1, .string V.2.2, false, .int .i64 (cntK (stateOf x.U X))] O13 ?_
 intro w14 o_ k_
 obtain ⟨O14, K14⟩ := ok_ K13 o_ k_
 have HM_14 := Am (CellN.keep HM_13.out k_)
 have HC_14 := Am (keepF HC_13.out k_)
 have HU_14 := Am (keepF HU_13.out k_)
 have HLS_14 := Am (Lead.keep HLS_13.out k_)
 clear a0 a1 mA z0 z1 z2 z3 z4 O13 K13 HM_13 HC_13 HU_13 HLS_13
 have a0 := k10_ O14 0
 have a1 := k6_ O14 1
 have mA := blk8_ (HM_14.out.2)
 obtain ⟨z0, z1, z2, z3, z4⟩ := rawF5 HC_14.out HRM.out
 clear o_ k_ hHeld
 refine hK_.out _ _ ⟨a0.2.2.2.2.2.2.1, z4⟩ (fun hHeld => ?_)
 clear hK_ K_
 refine dN ?_
 clear hHeld
 go_wp2
 refine bodyPost_ret (results_cell_row rfl _ _ gr 79 #[.int .i64 0, .int .i64 V.1, .int .i64 V.2.1, .string V.2.2, false, .int .i64 (cntK (stateOf x.U X))] (0, 0) _ rfl (O14.out.blk (i := 1) rfl) Tryd.underlying79 rfl (by kernel_rfl)) rfl ?_
 exact ⟨by rw [HXE.out, HV.out], O14.out.take 0, K14.out⟩
section
variable {N : Nat → Prop} {w : World} {gd x : Nat} {cf : MCf} {L : List Rnd7} {cls : List MCl}
theorem DDo_i (a : ActM) (h : Own N w [DocM gd cf L cls]) (hi : MInv cf x L cls) (hc : CfOk cf) (hx4 : x ≤ 400) :
  Calls Tryd.prog 49 #[pt gd, actMV a] w fun e_ w' => e_ = .returned (repM (doS cf L cls a).1) ∧ Own N w' [DocM gd cf L (doS cf L cls a).2] ∧ KeepS N w w' := by
 obtain ⟨kd, n, ⟨key, uc, un, us⟩, rk, an, ab, am⟩ := a
 have h64 := hi.len hc
 have hl4 := hi.l
 unfold doS
 simp only
 by_cases hlo : kd < 1 ∨ kd > 6
 ·rw [if_pos hlo]
  obtain ⟨N_, on_, nn_, rr_, bb_⟩ := h.frame0
  exact (DDo_kd kd n key uc un us rk an ab am on_ hlo).mono fun e_ w' ⟨a, b, c⟩ => ⟨a, (bb_ w' [] c b).1, (bb_ w' [] c b).2⟩
 rw [if_neg hlo]
 cases hcl : clAt cls n with
 | none =>
  have hno := clAt_none hcl
  obtain ⟨N_, on_, nn_, rr_, bb_⟩ := h.frame0
  obtain ⟨AL, cL, AA, cA, e1, hm, hl⟩ := DocM.view0 (rr_ 0 _ rfl)
  by_cases hn1 : n < 1
  ·exact (DDo_nlo kd n key uc un us rk an ab am on_ hm ⟨by omega, by omega⟩ hn1).mono fun e_ w' ⟨a, b, c⟩ => ⟨a, (bb_ w' [] c b).1, (bb_ w' [] c b).2⟩
  ·exact (DDo_nhi kd n key uc un us rk an ab am on_ hm ⟨by omega, by omega⟩ (by omega) (by omega)).mono fun e_ w' ⟨a, b, c⟩ => ⟨a, (bb_ w' [] c b).1, (bb_ w' [] c b).2⟩
 | some y =>
  obtain ⟨hn, hxx⟩ := clAt_some hcl
  have hy := hi.c n y hcl
  have hj := hy.j
  have hu := hy.u
  have hky := hy.k
  have hidx : (n - 1).toNat = n.toNat - 1 := by omega
  have hxm : cls[(n - 1).toNat]? = some y := by rw [hidx]; exact hxx
  have haa : ∀ (k : Nat) (r : Rnd7), y.J[k]? = some r → r.f1 = (k : Int) + 1 := fun k r hr => (hy.a k r hr).2
  have hkL : y.k ≤ L.length := by omega
  have hJ5 : y.J.length ≤ 100000 := by omega
  have hL5 : L.length ≤ 100000 := by omega
  have he := hy.e
  have hkc := hy.k
  have hcc := hy.c
  simp only
  rw [← hidx]
  by_cases k2 : kd = 2
  ·subst k2
   have hX : doX cf L n y ⟨2, n, ⟨key, uc, un, us⟩, rk, an, ab, am⟩ = (⟨0, stateOf y.U (seenR n L y) rk, false, cntK (stateOf y.U (seenR n L y))⟩, y) := by
    unfold doX
    exact (if_neg (show ¬ (2 : Int) = 1 by decide)).trans (if_pos rfl)
   rw [hX]
   dsimp only
   rw [set_same hxm]
   obtain ⟨N_, on_, nn_, rr_, bb_⟩ := h.frame0
   obtain ⟨AL, cL, aa, cA, ds, AJ, cJ, AU, cU, rJ, ⟨e1, e2, e3⟩, hrc, hm, hC, hl, hj2, hu2⟩ := DocM.view (rr_ 0 _ rfl) hxx
   exact (DDo_2 n key uc un us rk an ab am on_ hm hC hrc hl hj2 hn h64 hi.m haa hkL hJ5 hL5 hu2 e1 e3 (hy.seen hi.l hi.f hx4)).mono fun e_ w' ⟨a, b, c⟩ => ⟨a, (bb_ w' [] c b).1, (bb_ w' [] c b).2⟩
  exact DDo_in kd n (n - 1) key uc un us rk an ab am _ rfl h hn h64 hi.m haa hkL hJ5 hL5 hxm (by omega) (by omega) ⟨by omega, by omega⟩ ⟨by omega, by omega⟩ k2 rfl
end
end Go.Proofs.YtjdenpmaianmfaaDoor.J
namespace Go.Proofs.YtjdenpmaianmfaaDoor.J
set_option maxHeartbeats 16000000
set_option maxRecDepth 100000
set_option linter.unusedSimpArgs false
set_option linter.unusedVariables false
open Go RowKit YtjdenpmaianmfaaDoorW.PrintWords YtjdenpmaianmfaaDoorW.PrintLast YtjdenpmaianmfaaDoorW.PrintMore Q YtjdenpmaianmfaaDoor.Sep YtjdenpmaianmfaaDoor.Pure
def chapbooklaw21_ModelPlays.f (a0_0 a0_1 a0_2 a0_3 a0_4 a0_5 : Int) (l1 : List S88) : Option Bool := some true
section
variable {N : Nat → Prop} {w : World} {l : List HP} {gd x i j k : Nat} {cf : MCf} {L : List Rnd7} {cls : List MCl} {P0 P1 : HP} {A B : Option Addr} {c d : Nat} {rL : RawR} {ds : List DcT}
theorem DDo_l (a : ActM) (e vk vn : Int) (vs : ByteArray) (b : Bool) (m : Int) (c2 : List MCl) (hd : doS cf L cls a = (⟨e, (vk, vn, vs), b, m⟩, c2)) (h : Own N w [DocM gd cf L cls]) (hi : MInv cf x L cls) (hc : CfOk cf) (hx : x ≤ 400) :
  Calls Tryd.prog 49 #[pt gd, actMV a] w fun e_ w' => e_ = .returned (.agg #[e, vk, vn, vs, b, m]) ∧ Own N w' [DocM gd cf L c2] ∧ KeepS N w w' := by
 have q := DDo_i a h hi hc hx
 rw [hd] at q
 exact q
theorem MCommit_l {gm : Nat} (n : Int) (b : Bool) (K2 : List Rnd7) (hd : (nextR n L cls).isSome = b ∧ cmtL n L cls = K2) (h : Own N w [ModO gm cf L cls]) (hi : MInv cf x L cls) (hc : CfOk cf) (hx : x ≤ 400) :
  Calls Tryd.prog 44 #[pt gm, n] w fun e_ w' => e_ = .returned (.bool b) ∧ Own N w' [ModO gm cf K2 cls] ∧ KeepS N w w' := by
 have q := MCommit_i n h hi hc hx
 rw [hd.1, hd.2] at q
 exact q
theorem DCommit_l (n : Int) (b : Bool) (K2 : List Rnd7) (hd : (nextR n L cls).isSome = b ∧ cmtL n L cls = K2) (h : Own N w [DocM gd cf L cls]) (hi : MInv cf x L cls) (hc : CfOk cf) (hx : x ≤ 400) :
  Calls Tryd.prog 47 #[pt gd, n] w fun e_ w' => e_ = .returned (.bool b) ∧ Own N w' [DocM gd cf K2 cls] ∧ KeepS N w w' := by
 have q := DCommit_i n h hi hc hx
 rw [hd.1, hd.2] at q
 exact q
theorem MCome_l {gm : Nat} (n : Int) (b : Bool) (c2 : List MCl) (hd : comeS n cf L cls = (b, c2)) (h : Own N w [ModO gm cf L cls]) (hi : MInv cf x L cls) (hc : CfOk cf) (hx : x ≤ 400) :
  Calls Tryd.prog 45 #[pt gm, n] w fun e_ w' => e_ = .returned (.bool b) ∧ Own N w' [ModO gm cf L c2] ∧ KeepS N w w' := by
 have q := MCome_i n h hi hc hx
 rw [hd] at q
 exact q
theorem DCome_l (n : Int) (b : Bool) (c2 : List MCl) (hd : comeS n cf L cls = (b, c2)) (h : Own N w [DocM gd cf L cls]) (hi : MInv cf x L cls) (hc : CfOk cf) (hx : x ≤ 400) :
  Calls Tryd.prog 48 #[pt gd, n] w fun e_ w' => e_ = .returned (.bool b) ∧ Own N w' [DocM gd cf L c2] ∧ KeepS N w w' := by
 have q := DCome_i n h hi hc hx
 rw [hd] at q
 exact q
theorem DLook_v (V : Value) (n : Int) {y : MCl} (hV : lookV n L y = V) (h : Own N w [DocM gd cf L cls]) (hi : MInv cf x L cls) (hc : CfOk cf) (hx : x ≤ 400) (hy : clAt cls n = some y) :
  Calls Tryd.prog 50 #[pt gd, n] w fun e_ w' => e_ = .returned V ∧ Own N w' [DocM gd cf L cls] ∧ KeepS N w w' := by
 subst hV
 exact DLook_i n h hi hc hx hy
theorem DocM.open3 (h : Own N w [P0, P1, DocM gd cf L cls]) : ∃ (AL : Option Addr) (cL : Nat) (AA : Option Addr) (cA : Nat) (rL : RawR) (ds : List DcT),
  Own N w [P0, P1, cells gd #[cf.cl, cf.win, cf.push, cf.pull, cf.mtu, cf.last, .slice AL L.length cL, .slice AA cls.length cA] tDM, poolD rL L ds cls, bigs (dclI ds cls), nrow (Kd.raw 5) tDCl (.slice AA cls.length cA) (rowsD ds cls), nrow (Kd.raw 3) tR7 (.slice AL L.length cL) rL] := by
 obtain ⟨vL, h1⟩ := h.of_ex (i := 2) rfl
 obtain ⟨vA, h2⟩ := h1.of_ex (i := 2) rfl
 obtain ⟨rL, h3⟩ := h2.of_ex (i := 2) rfl
 obtain ⟨⟨ds, hq⟩, h4⟩ := h3.of_ex (i := 2) rfl
 have h5 := h4.split (i := 2) rfl
 have h6 := h5.split (i := 2) rfl
 have h7 := h6.split (i := 2) rfl
 have h8 := h7.split (i := 2) rfl
 have hz : Own N w [P0, P1, cells gd (modC cf vL vA) tDM, poolD rL L ds cls, bigs (dclI ds cls), nrow (Kd.raw 5) tDCl vA (rowsD ds cls), nrow (Kd.raw 3) tR7 vL rL] := h8
 obtain ⟨F, hF⟩ := hz.fact (i := 3) rfl
 have hl : rL.length = L.length := (hF (rL, L) List.mem_cons_self).1
 obtain ⟨AA, cA, rfl⟩ := hz.nslice (i := 5) rfl
 obtain ⟨AL, cL, rfl⟩ := hz.nslice (i := 6) rfl
 rw [hl, show (rowsD ds cls).length = cls.length by rw [List.length_zipWith, hq, Nat.min_self]] at hz
 exact ⟨AL, cL, AA, cA, rL, ds, hz⟩
theorem same_d (h : Own N w l) (hi : l[i]? = some (nrow kR7 tR7 (.slice A L.length c) L)) (hj : l[j]? = some (nrow (Kd.raw 3) tR7 (.slice B L.length d) rL)) (hp : l[k]? = some (poolD rL L ds cls)) (hf : Few 400 L) (hx : L.length ≤ 400) :
  Calls Tryd.prog 19 #[.slice A L.length c, .slice B L.length d] w fun e w' => e = .returned (.bool true) ∧ Below w.heap.size w w' := by
 obtain ⟨a1, a2, a3⟩ := h.nreads hi
 obtain ⟨F, hF⟩ := h.fact hp
 obtain ⟨b1, b2, b3⟩ := lead_C h hj (hF (rL, L) List.mem_cons_self)
 exact chapbookref07_SameAll.calls 1100 _ _ L _ _ L true _ a3 a2 b3 b2 (psameAll 400 1100 L (by omega) (fun x h0 h1 => hf _ (rd_mem h0 h1)) (by decide) (by omega))
end
def PyI (N : Nat → Prop) (w : World) (n gm gd : Nat) (cf : MCf) (R : HP) (i : Value) (wr : World) : Prop := ∃ (x : Int) (L : List Rnd7) (cls : List MCl), 0 ≤ x ∧ x ≤ n ∧ i = .int .i64 x ∧ Aside0 (MInv cf x.toNat L cls) ∧ Aside0 (Own N wr [R, ModO gm cf L cls, DocM gd cf L cls]) ∧ Aside0 (KeepS N w wr)
def PzI (N : Nat → Prop) (w : World) (n : Int) (R : List HP) (i : Value) (wr : World) : Prop := ∃ z : Int, 0 ≤ z ∧ z ≤ n ∧ i = .int .i64 z ∧ Aside0 (Own N wr R) ∧ Aside0 (KeepS N w wr)
theorem ModelPlays_core (cf : MCf) (A0 : Option Addr) (c0 : Nat) (l0 : List Step21) (w : World) (HT : Aside0 (Tab w)) (hr0 : Kd.C kS21 w A0 l0.length l0) (hc0 : l0.length ≤ c0) :
  Calls Tryd.prog 11 #[.agg #[cf.cl, cf.win, cf.push, cf.pull, cf.mtu, cf.last], .slice A0 l0.length c0] w fun e_ w' => e_ = .returned (.bool true) ∧ Below w.heap.size w w' := by
 obtain ⟨N, hN⟩ : ∃ N : Nat → Prop, N = fun k => k < w.heap.size := ⟨_, rfl⟩
 have HN := Am hN
 have HT_0 : Aside0 (TabN N w) := ⟨by rw [hN]; exact World.block_lt_of_cell? w _ HT.out.1, HT.out⟩
 have HSF_0 : Aside0 (Kd.F kS21 w N A0 l0.length l0) := ⟨by rw [hN]; exact Kd.C_F heapS21 hr0⟩
 have HR0 := Am hr0
 have HC0 := Am hc0
 have HT00 := HT_0
 have HSF := HSF_0
 have O0 : Aside0 (Own N w []) := ⟨Own.start_ (fun k hk => by rw [hN] at hk; exact hk)⟩
 have K0 : Aside0 (KeepS N w w) := ⟨KeepS.refl _ _⟩
 clear hN HT hr0 hc0
 obtain ⟨b, hgr⟩ : ∃ b, greatB cf l0 = b := ⟨_, rfl⟩
 have HGR := Am hgr
 have HGB : Aside0 (b = false → l0.length ≤ 60 ∧ cf.cl ≤ 4 ∧ keys50 l0) := ⟨fun e => great21b cf l0 (hgr.trans e)⟩
 clear hgr
 go_enter Tryd.func11, Tryd.ntmps11
 cases b with
 | true =>
  go_wp2_with (first | ((with_reducible refine gD 2 rfl ?_); refine bP 2 #[cf.cl, cf.win, cf.push, cf.pull, cf.mtu, cf.last] 68 O0.out ?_; intro gc w1 o_ k_; obtain ⟨O1, K1⟩ := ok_ K0 o_ k_; have HT_1 := Am (TabN.keep HT_0.out k_); have HSF_1 := Am (keepF HSF_0.out k_); clear O0 K0 HT_0 HSF_0 o_ k_; have a0 := k6_ O1 0) | ((with_reducible refine gC 35 rfl ?_); refine gP (some 12) Tryd.func35 #[] ?_; refine (awake21 _ ⟨HT_1.out.2⟩).mono ?_; rintro e_ w2 ⟨rfl, hb_⟩; refine ⟨_, rfl, ?_⟩; have o_ := O1.out.below hb_; have k_ := KeepS.of_below (N := N) hb_; obtain ⟨O2, K2⟩ := ok_ K1 o_ k_; have HT_2 := Am (TabN.keep HT_1.out k_); have HSF_2 := Am (keepF HSF_1.out k_); clear a0 O1 K1 HT_1 HSF_1 o_ k_ hb_; have a0 := k6_ O2 0) | ((with_reducible refine gC 36 rfl ?_); refine gate_guard (by rfl) ?_; refine gP (some 17) Tryd.func36 #[.agg #[cf.cl, cf.win, cf.push, cf.pull, cf.mtu, cf.last], .slice A0 l0.length c0] ?_; refine (Great21 cf A0 c0 l0 true HGR.out (Kd.C_below HR0.out (kw_ K2 HN))).mono ?_; rintro e_ w3 ⟨rfl, hb_⟩; refine ⟨_, rfl, ?_⟩; have o_ := O2.out.below hb_; have k_ := KeepS.of_below (N := N) hb_; obtain ⟨O3, K3⟩ := ok_ K2 o_ k_; have HT_3 := Am (TabN.keep HT_2.out k_); have HSF_3 := Am (keepF HSF_2.out k_); clear a0 O2 K2 HT_2 HSF_2 o_ k_ hb_; have a0 := k6_ O3 0) | ((with_reducible refine gC 35 rfl ?_); refine gP (some 19) Tryd.func35 #[] ?_; refine (awake21 _ ⟨HT_3.out.2⟩).mono ?_; rintro e_ w4 ⟨rfl, hb_⟩; refine ⟨_, rfl, ?_⟩; have o_ := O3.out.below hb_; have k_ := KeepS.of_below (N := N) hb_; obtain ⟨O4, K4⟩ := ok_ K3 o_ k_; have HT_4 := Am (TabN.keep HT_3.out k_); have HSF_4 := Am (keepF HSF_3.out k_); clear a0 O3 K3 HT_3 HSF_3 o_ k_ hb_; have a0 := k6_ O4 0))
  all_goals go_ret
  all_goals exact ⟨rfl, kw_ K4 HN⟩
 | false =>
  obtain ⟨hl60, hc4, hks⟩ := HGB.out rfl
  have HL60 := Am hl60
  have HC4 := Am hc4
  have HKS := Am hks
  clear hl60 hc4 hks HGB
  obtain ⟨mb, hmb⟩ : ∃ m, cfMay cf = m := ⟨_, rfl⟩
  have HM16 : Aside0 (chapbookref16_May.f cf.cl cf.win cf.push cf.pull cf.mtu cf.last = some mb) := ⟨by rw [rmay21, hmb]⟩
  have HMB := Am hmb
  clear hmb
  cases mb with
  | false =>
   go_wp2_with (first | ((with_reducible refine gD 2 rfl ?_); refine bP 2 #[cf.cl, cf.win, cf.push, cf.pull, cf.mtu, cf.last] 68 O0.out ?_; intro gc w1 o_ k_; obtain ⟨O1, K1⟩ := ok_ K0 o_ k_; have HT_1 := Am (TabN.keep HT_0.out k_); have HSF_1 := Am (keepF HSF_0.out k_); clear O0 K0 HT_0 HSF_0 o_ k_; have a0 := k6_ O1 0) | ((with_reducible refine gC 35 rfl ?_); refine gP (some 12) Tryd.func35 #[] ?_; refine (awake21 _ ⟨HT_1.out.2⟩).mono ?_; rintro e_ w2 ⟨rfl, hb_⟩; refine ⟨_, rfl, ?_⟩; have o_ := O1.out.below hb_; have k_ := KeepS.of_below (N := N) hb_; obtain ⟨O2, K2⟩ := ok_ K1 o_ k_; have HT_2 := Am (TabN.keep HT_1.out k_); have HSF_2 := Am (keepF HSF_1.out k_); clear a0 O1 K1 HT_1 HSF_1 o_ k_ hb_; have a0 := k6_ O2 0) | ((with_reducible refine gC 36 rfl ?_); refine gate_guard (by rfl) ?_; refine gP (some 17) Tryd.func36 #[.agg #[cf.cl, cf.win, cf.push, cf.pull, cf.mtu, cf.last], .slice A0 l0.length c0] ?_; refine (Great21 cf A0 c0 l0 false HGR.out (Kd.C_below HR0.out (kw_ K2 HN))).mono ?_; rintro e_ w3 ⟨rfl, hb_⟩; refine ⟨_, rfl, ?_⟩; have o_ := O2.out.below hb_; have k_ := KeepS.of_below (N := N) hb_; obtain ⟨O3, K3⟩ := ok_ K2 o_ k_; have HT_3 := Am (TabN.keep HT_2.out k_); have HSF_3 := Am (keepF HSF_2.out k_); clear a0 O2 K2 HT_2 HSF_2 o_ k_ hb_; have a0 := k6_ O3 0) | ((with_reducible refine gC 43 rfl ?_); refine gP (some 22) Tryd.func43 #[.agg #[cf.cl, cf.win, cf.push, cf.pull, cf.mtu, cf.last]] ?_; obtain ⟨N_, on_, nn_, rr_, bb_⟩ := O3.out.frame0; refine (MNew_no cf on_ (by rw [HMB.out]; decide)).mono ?_; rintro e_ w4 ⟨rfl, oo_, kk_⟩; obtain ⟨o_, k_⟩ := bb_ _ _ kk_ oo_; refine ⟨_, rfl, ?_⟩; obtain ⟨O4, K4⟩ := ok_ K3 o_ k_; have HT_4 := Am (TabN.keep HT_3.out k_); have HSF_4 := Am (keepF HSF_3.out k_); clear a0 O3 K3 HT_3 HSF_3 o_ k_ oo_ kk_ on_ nn_ rr_ bb_; have a0 := k6_ O4 0) | ((with_reducible refine gC 37 rfl ?_); refine gP (some 26) Tryd.func37 #[.agg #[cf.cl, cf.win, cf.push, cf.pull, cf.mtu, cf.last]] ?_; refine (chapbookref16_May.calls cf.cl cf.win cf.push cf.pull cf.mtu cf.last false _ HM16.out).mono ?_; rintro e_ w5 ⟨rfl, hb_⟩; refine ⟨_, rfl, ?_⟩; have o_ := O4.out.below hb_; have k_ := KeepS.of_below (N := N) hb_; obtain ⟨O5, K5⟩ := ok_ K4 o_ k_; have HT_5 := Am (TabN.keep HT_4.out k_); have HSF_5 := Am (keepF HSF_4.out k_); clear a0 O4 K4 HT_4 HSF_4 o_ k_ hb_; have a0 := k6_ O5 0))
   go_ret
   exact ⟨rfl, kw_ K5 HN⟩
  | true =>
   have HCF : Aside0 (CfOk cf) := ⟨CfOk.mk_ HMB.out HC4.out⟩
   go_wp2_with (first | ((with_reducible refine gD 2 rfl ?_); refine bP 2 #[cf.cl, cf.win, cf.push, cf.pull, cf.mtu, cf.last] 68 O0.out ?_; intro gc w1 o_ k_; obtain ⟨O1, K1⟩ := ok_ K0 o_ k_; have HT_1 := Am (TabN.keep HT_0.out k_); have HSF_1 := Am (keepF HSF_0.out k_); clear O0 K0 HT_0 HSF_0 o_ k_; have a0 := k6_ O1 0) | ((with_reducible refine gC 35 rfl ?_); refine gP (some 12) Tryd.func35 #[] ?_; refine (awake21 _ ⟨HT_1.out.2⟩).mono ?_; rintro e_ w2 ⟨rfl, hb_⟩; refine ⟨_, rfl, ?_⟩; have o_ := O1.out.below hb_; have k_ := KeepS.of_below (N := N) hb_; obtain ⟨O2, K2⟩ := ok_ K1 o_ k_; have HT_2 := Am (TabN.keep HT_1.out k_); have HSF_2 := Am (keepF HSF_1.out k_); clear a0 O1 K1 HT_1 HSF_1 o_ k_ hb_; have a0 := k6_ O2 0) | ((with_reducible refine gC 36 rfl ?_); refine gate_guard (by rfl) ?_; refine gP (some 17) Tryd.func36 #[.agg #[cf.cl, cf.win, cf.push, cf.pull, cf.mtu, cf.last], .slice A0 l0.length c0] ?_; refine (Great21 cf A0 c0 l0 false HGR.out (Kd.C_below HR0.out (kw_ K2 HN))).mono ?_; rintro e_ w3 ⟨rfl, hb_⟩; refine ⟨_, rfl, ?_⟩; have o_ := O2.out.below hb_; have k_ := KeepS.of_below (N := N) hb_; obtain ⟨O3, K3⟩ := ok_ K2 o_ k_; have HT_3 := Am (TabN.keep HT_2.out k_); have HSF_3 := Am (keepF HSF_2.out k_); clear a0 O2 K2 HT_2 HSF_2 o_ k_ hb_; have a0 := k6_ O3 0) | ((with_reducible refine gC 43 rfl ?_); refine gP (some 22) Tryd.func43 #[.agg #[cf.cl, cf.win, cf.push, cf.pull, cf.mtu, cf.last]] ?_; obtain ⟨N_, on_, nn_, rr_, bb_⟩ := O3.out.frame0; refine (MNew_ok cf on_ HMB.out).mono ?_; rintro e_ w4 ⟨gm, rfl, oo_, kk_⟩; obtain ⟨o_, k_⟩ := bb_ _ _ kk_ oo_; refine ⟨_, rfl, ?_⟩; obtain ⟨O4, K4⟩ := ok_ K3 o_ k_; have HT_4 := Am (TabN.keep HT_3.out k_); have HSF_4 := Am (keepF HSF_3.out k_); clear a0 O3 K3 HT_3 HSF_3 o_ k_ oo_ kk_ on_ nn_ rr_ bb_; have a0 := k6_ O4 0) | ((with_reducible refine gC 37 rfl ?_); refine gP (some 26) Tryd.func37 #[.agg #[cf.cl, cf.win, cf.push, cf.pull, cf.mtu, cf.last]] ?_; refine (chapbookref16_May.calls cf.cl cf.win cf.push cf.pull cf.mtu cf.last true _ HM16.out).mono ?_; rintro e_ w5 ⟨rfl, hb_⟩; refine ⟨_, rfl, ?_⟩; have o_ := O4.out.below hb_; have k_ := KeepS.of_below (N := N) hb_; obtain ⟨O5, K5⟩ := ok_ K4 o_ k_; have HT_5 := Am (TabN.keep HT_4.out k_); have HSF_5 := Am (keepF HSF_4.out k_); clear a0 O4 K4 HT_4 HSF_4 o_ k_ hb_; have a0 := k6_ O5 0) | ((with_reducible refine gC 46 rfl ?_); refine gP (some 35) Tryd.func46 #[.agg #[cf.cl, cf.win, cf.push, cf.pull, cf.mtu, cf.last]] ?_; obtain ⟨N_, on_, nn_, rr_, bb_⟩ := O5.out.frame0; refine (DNew cf on_ (by have := HCF.out.cl; omega)).mono ?_; rintro e_ w6 ⟨gd, rfl, oo_, kk_⟩; obtain ⟨o_, k_⟩ := bb_ _ _ kk_ oo_; refine ⟨_, rfl, ?_⟩; obtain ⟨O6, K6⟩ := ok_ K5 o_ k_; have HT_6 := Am (TabN.keep HT_5.out k_); have HSF_6 := Am (keepF HSF_5.out k_); clear a0 O5 K5 HT_5 HSF_5 o_ k_ oo_ kk_ on_ nn_ rr_ bb_; have a0 := k6_ O6 0))
   clear a0
   go_loopw [44] (fun i wr => PyI N w l0.length gm gd cf (cells gc #[cf.cl, cf.win, cf.push, cf.pull, cf.mtu, cf.last] 68) i wr) (fun i _ => l0.length - (intOf i).toNat)
   case atStart => exact ⟨0, [], clsZ cf.cl, by omega, by omega, rfl, ⟨MInv.zero HCF.out⟩, O6, K6⟩
   case round =>
    clear O6 K6 HT_6 HSF_6
    obtain ⟨x, L, cls, hx0, hx1, rfl, HI, OA, KA⟩ := hrel
    by_cases hlt : x < (l0.length : Int)
    ·have hd := decide_eq_true hlt
     obtain ⟨ad, e7, y0, y1, y2, y3, y4, y5, y6, y7, y8, y9, y10, y11⟩ := at_T88 (Kd.F_now (keepF HSF.out KA.out)) x hx0 hlt
     cases e7
     have HKY := Am (HKS.out x hx0 hlt)
     have hs2 : wrap64 (x + 1) = x + 1 := by unfold wrap64; have := HL60.out; omega
     have hp := eq_true hx0
     have hq := eq_true hlt
     have HX : Aside0 (0 ≤ x ∧ x < l0.length ∧ x ≤ 59) := ⟨hx0, hlt, by have := HL60.out; omega⟩
     obtain ⟨s, hs⟩ : ∃ s, rd_T88 l0 x = s := ⟨_, rfl⟩
     rw [hs] at y0 y1 y2 y3 y4 y5 y6 y7 y8 y9 y10 y11 HKY
     have HXT : Aside0 ((x + 1).toNat = x.toNat + 1) := ⟨by omega⟩
     have HX4 : Aside0 (x.toNat ≤ 400) := ⟨by have := HX.out; omega⟩
     clear hx0 hx1 hlt hs
     by_cases h1 : s.f1 = 0
     ·by_cases h2 : s.f2 = 0
      ·skip
       have d1 : (s.f1 != 0) = false := by simp [h1]
       have d2 : (s.f2 != 0) = false := by simp [h2]
       clear h1 h2
       have O7 : Aside0 (Own N wr [cells gc #[cf.cl, cf.win, cf.push, cf.pull, cf.mtu, cf.last] 68, ModO gm cf L cls, DocM gd cf L cls]) := ⟨OA.out⟩
       have K7 : Aside0 (KeepS N w wr) := ⟨KA.out⟩
       have HT_7 : Aside0 (TabN N wr) := ⟨HT00.out.keep KA.out⟩
       have a0 := k6_ O7 0
       clear OA KA
       obtain ⟨⟨⟨e, ⟨vk, vn, vs⟩, b, m⟩, c2⟩, hD⟩ : ∃ q, doS cf L cls s.f0 = q := ⟨_, rfl⟩
       have HDO := Am hD
       have HI2 : Aside0 (MInv cf (x.toNat + 1) L c2) := ⟨by have h := HI.out.act HCF.out.pull s.f0; rw [hD] at h; exact h⟩
       clear hD
       have HX5 : Aside0 (x.toNat + 1 ≤ 400) := ⟨by have := HX.out; omega⟩
       go_wp2_with (first | ((with_reducible refine gD 9 rfl ?_); refine bP 9 #[.int .i64 0, .int .i64 0, .string ⟨#[]⟩, .int .i64 0, .int .i64 0, .string ⟨#[]⟩, .string ⟨#[]⟩, .int .i64 0, .int .i64 0, .int .u32 0, .int .i64 0, .int .i64 0] 88 O7.out ?_; intro gs w8 o_ k_; obtain ⟨O8, K8⟩ := ok_ K7 o_ k_; have HT_8 := Am (TabN.keep HT_7.out k_); clear a0 O7 K7 HT_7; have a0 := k6_ O8 0; have a3 := k12_ O8 3; clear o_ k_) | ((with_reducible refine gT 88 9 rfl ?_); refine wS 3 0 [s.f0.f0, s.f0.f1, s.f0.f2.f0, s.f0.f2.f1, s.f0.f2.f2, s.f0.f2.f3, s.f0.f3, s.f0.f4, s.f0.f5, .int .u32 s.f0.f6, s.f1, s.f2] O8 ?_; intro w9 o_ k_; obtain ⟨O9, K9⟩ := ok_ K8 o_ k_; have HT_9 := Am (TabN.keep HT_8.out k_); clear a0 a3 O8 K8 HT_8; have a0 := k6_ O9 0; have a3 := k12_ O9 3; clear o_ k_))
       refine sP (n := 10) (S := fun w' => w'.cell? ⟨gs, 0, none⟩ = some (.int .i64 s.f0.f0) ∧ w'.cell? ⟨gs, 1, none⟩ = some (.int .i64 s.f0.f1) ∧ w'.cell? ⟨gs, 2, none⟩ = some (.string s.f0.f2.f0) ∧ w'.cell? ⟨gs, 3, none⟩ = some (.int .i64 s.f0.f2.f1) ∧ w'.cell? ⟨gs, 4, none⟩ = some (.int .i64 s.f0.f2.f2) ∧ w'.cell? ⟨gs, 5, none⟩ = some (.string s.f0.f2.f3) ∧ w'.cell? ⟨gs, 6, none⟩ = some (.string s.f0.f3) ∧ w'.cell? ⟨gs, 7, none⟩ = some (.int .i64 s.f0.f4) ∧ w'.cell? ⟨gs, 8, none⟩ = some (.int .i64 s.f0.f5) ∧ w'.cell? ⟨gs, 9, none⟩ = some (.int .u32 s.f0.f6) ∧ w'.cell? ⟨gs, 10, none⟩ = some (.int .i64 s.f1) ∧ w'.cell? ⟨gs, 11, none⟩ = some (.int .i64 s.f2)) (ds := []) ⟨a3.1, a3.2.1, a3.2.2.1, a3.2.2.2.1, a3.2.2.2.2.1, a3.2.2.2.2.2.1, a3.2.2.2.2.2.2.1, a3.2.2.2.2.2.2.2.1, a3.2.2.2.2.2.2.2.2.1, a3.2.2.2.2.2.2.2.2.2.1, a3.2.2.2.2.2.2.2.2.2.2.1, a3.2.2.2.2.2.2.2.2.2.2.2.1⟩ (fun hHeld => ?_)
       obtain ⟨w10, hw_, k_, O10, K10⟩ := drw_ O9 K9
       rw [← hw_] at hHeld ⊢
       have HT_10 := Am (TabN.keep HT_9.out k_)
       clear a0 a3 O9 K9 HT_9
       have a0 := k6_ O10 0
       have a3 := k12_ O10 3
       clear k_ hw_
       refine pP 0 (some 48) ?_
       refine pP 1 (some 49) ?_
       refine pP 4 (some 52) ?_
       refine pP 5 (some 53) ?_
       refine tP 2 (some 50) hHeld ?_
       refine tP 6 (some 54) hHeld ?_
       refine oP 3 (some 51) (fun K_ hK_ => ?_)
       refine hP Tryd.func42 #[pt gm, actMV s.f0] ?_
       obtain ⟨N_, on_, nn_, rr_, bb_⟩ := O10.out.frameL [1] (by decide) (by simp)
       refine (MDo_l s.f0 e vk vn vs b m c2 HDO.out on_ (TabN.mono HT_10.out nn_) HI.out HCF.out HX4.out HKY.out).mono ?_
       rintro e_ w11 ⟨rfl, oo_, kk_⟩
       obtain ⟨o_, k_⟩ := bb_ _ [ModO gm cf L c2] [] rfl kk_ oo_
       refine ⟨_, rfl, ?_⟩
       obtain ⟨O11, K11⟩ := ok_ K10 o_ k_
       have HT_11 := Am (TabN.keep HT_10.out k_)
       clear a0 a3 O10 K10 HT_10
       have a0 := k6_ O11 0
       have a3 := k12_ O11 3
       clear o_ k_ oo_ kk_ on_ nn_ rr_ bb_ hHeld
       refine hK_.out _ _ ⟨a3.1, a3.2.1, a3.2.2.1, a3.2.2.2.1, a3.2.2.2.2.1, a3.2.2.2.2.2.1, a3.2.2.2.2.2.2.1, a3.2.2.2.2.2.2.2.1, a3.2.2.2.2.2.2.2.2.1, a3.2.2.2.2.2.2.2.2.2.1, a3.2.2.2.2.2.2.2.2.2.2.1, a3.2.2.2.2.2.2.2.2.2.2.2.1⟩ (fun hHeld => ?_)
       clear hK_ K_
       refine nP ?_
       refine oP 7 (some 55) (fun K_ hK_ => ?_)
       refine hP Tryd.func49 #[pt gd, actMV s.f0] ?_
       obtain ⟨N_, on_, nn_, rr_, bb_⟩ := O11.out.frameL [2] (by decide) (by simp)
       refine (DDo_l s.f0 e vk vn vs b m c2 HDO.out on_ HI.out HCF.out HX4.out).mono ?_
       rintro e_ w12 ⟨rfl, oo_, kk_⟩
       obtain ⟨o_, k_⟩ := bb_ _ [DocM gd cf L c2] [] rfl kk_ oo_
       refine ⟨_, rfl, ?_⟩
       obtain ⟨O12, K12⟩ := ok_ K11 o_ k_
       have HT_12 := Am (TabN.keep HT_11.out k_)
       clear a0 a3 O11 K11 HT_11
       have a0 := k6_ O12 0
       have a3 := k12_ O12 3
       clear o_ k_ oo_ kk_ on_ nn_ rr_ bb_ hHeld
       refine hK_.out _ _ ⟨a3.1, a3.2.1, a3.2.2.1, a3.2.2.2.1, a3.2.2.2.2.1, a3.2.2.2.2.2.1, a3.2.2.2.2.2.2.1, a3.2.2.2.2.2.2.2.1, a3.2.2.2.2.2.2.2.2.1, a3.2.2.2.2.2.2.2.2.2.1, a3.2.2.2.2.2.2.2.2.2.2.1, a3.2.2.2.2.2.2.2.2.2.2.2.1⟩ (fun hHeld => ?_)
       clear hK_ K_
       refine nP ?_
       refine pP 8 (some 56) ?_
       refine pP 9 (some 10) ?_
       refine dN ?_
       clear hHeld
       go_wp2
       clear a0 a3
       go_loopw [87] (fun i wr => PzI N w cf.cl [cells gc #[cf.cl, cf.win, cf.push, cf.pull, cf.mtu, cf.last] 68, ModO gm cf L c2, DocM gd cf L c2] i wr) (fun i _ => cf.cl.toNat - (intOf i).toNat)
       case atStart => exact ⟨0, by omega, by have := HCF.out.cl; omega, rfl, ⟨O12.out.take 3⟩, K12⟩
       case round =>
        clear O12 K12 HT_12
        obtain ⟨z, hz0, hz1, rfl, OB, KB⟩ := hrel
        by_cases hlz : z < cf.cl
        ·have hdz := decide_eq_true hlz
         have HZ := Am (show 0 ≤ z ∧ z < cf.cl ∧ cf.cl ≤ 4 from ⟨hz0, hlz, HC4.out⟩)
         obtain ⟨q, hq_⟩ : ∃ q, z + 1 = q := ⟨_, rfl⟩
         have hz2 : wrap64 (z + 1) = q := by rw [← hq_]; have := HZ.out; unfold wrap64; omega
         have HQ := Am hq_
         have HW2 := Am hz2
         obtain ⟨y, hy_⟩ := clAt_in (cls := c2) (n := q) (by have := HI2.out.n; have := HZ.out; omega)
         have HY := Am hy_
         obtain ⟨p, hp_⟩ : ∃ p : Nat, y.J.length - ownN q L y = p := ⟨_, rfl⟩
         have HLV : Aside0 (lookV q L y = .agg #[y.e, y.k, p, y.U.length, y.c, .int .i64 0]) := ⟨by unfold lookV; rw [hp_]⟩
         clear hq_ hy_ hp_ hz0 hz1 hlz
         have O13 : Aside0 (Own N wr [cells gc #[cf.cl, cf.win, cf.push, cf.pull, cf.mtu, cf.last] 68, ModO gm cf L c2, DocM gd cf L c2]) := ⟨OB.out⟩
         have K13 : Aside0 (KeepS N w wr) := ⟨KB.out⟩
         have a0 := k6_ O13 0
         clear OB KB
         go_wp2_with (first | ((with_reducible refine gC 40 rfl ?_); refine gP (some 93) Tryd.func40 #[pt gm, .int .i64 (wrap64 (z + 1))] ?_; rw [HW2.out]; obtain ⟨N_, on_, nn_, rr_, bb_⟩ := O13.out.frameL [1] (by decide) (by simp); refine (MLook_v (.agg #[y.e, y.k, p, y.U.length, y.c, .int .i64 0]) q HLV.out on_ HI2.out HCF.out HX5.out HY.out).mono ?_; rintro e_ w14 ⟨rfl, oo_, kk_⟩; obtain ⟨o_, k_⟩ := bb_ _ [ModO gm cf L c2] [] rfl kk_ oo_; refine ⟨_, rfl, ?_⟩; obtain ⟨O14, K14⟩ := ok_ K13 o_ k_; clear a0 O13 K13 o_ k_ oo_ kk_ on_ nn_ rr_ bb_; have a0 := k6_ O14 0) | ((with_reducible refine gC 50 rfl ?_); refine gP (some 97) Tryd.func50 #[pt gd, .int .i64 (wrap64 (z + 1))] ?_; rw [HW2.out]; obtain ⟨N_, on_, nn_, rr_, bb_⟩ := O14.out.frameL [2] (by decide) (by simp); refine (DLook_v (.agg #[y.e, y.k, p, y.U.length, y.c, .int .i64 0]) q HLV.out on_ HI2.out HCF.out HX5.out HY.out).mono ?_; rintro e_ w15 ⟨rfl, oo_, kk_⟩; obtain ⟨o_, k_⟩ := bb_ _ [DocM gd cf L c2] [] rfl kk_ oo_; refine ⟨_, rfl, ?_⟩; obtain ⟨O15, K15⟩ := ok_ K14 o_ k_; clear a0 O14 K14 o_ k_ oo_ kk_ on_ nn_ rr_ bb_; have a0 := k6_ O15 0))
         go_roundw
         case rel => exact ⟨z + 1, by have := HZ.out; omega, by have := HZ.out; omega, int_eq17 (by unfold wrap64; have := HZ.out; omega), O15, K15⟩
         case measure => have := HZ.out; have := HQ.out; simp [intOf]; omega
        ·have hdz : decide (z < cf.cl) = false := decide_eq_false hlz
         clear hlz hz0 hz1
         go_wp2
         go_roundw
         case rel => exact ⟨x + 1, L, c2, by have := HX.out; omega, by have := HX.out; omega, int_eq17 (by unfold wrap64; have := HX.out; omega), ⟨by rw [HXT.out]; exact HI2.out⟩, OB, KB⟩
         case measure => have := HX.out; simp [intOf]; omega
      ·skip
       have d1 : (s.f1 != 0) = false := by simp [h1]
       have d2 : (s.f2 != 0) = true := bne_iff_ne.mpr h2
       clear h1 h2
       have O7 : Aside0 (Own N wr [cells gc #[cf.cl, cf.win, cf.push, cf.pull, cf.mtu, cf.last] 68, ModO gm cf L cls, DocM gd cf L cls]) := ⟨OA.out⟩
       have K7 : Aside0 (KeepS N w wr) := ⟨KA.out⟩
       have HT_7 : Aside0 (TabN N wr) := ⟨HT00.out.keep KA.out⟩
       have a0 := k6_ O7 0
       clear OA KA
       obtain ⟨⟨b, c2⟩, hD⟩ : ∃ q, comeS s.f2 cf L cls = q := ⟨_, rfl⟩
       have HDO := Am hD
       have HI2 : Aside0 (MInv cf (x.toNat + 1) L c2) := ⟨by have h := HI.out.come s.f2; rw [hD] at h; exact h⟩
       clear hD
       have HX5 : Aside0 (x.toNat + 1 ≤ 400) := ⟨by have := HX.out; omega⟩
       go_wp2_with (first | ((with_reducible refine gD 9 rfl ?_); refine bP 9 #[.int .i64 0, .int .i64 0, .string ⟨#[]⟩, .int .i64 0, .int .i64 0, .string ⟨#[]⟩, .string ⟨#[]⟩, .int .i64 0, .int .i64 0, .int .u32 0, .int .i64 0, .int .i64 0] 88 O7.out ?_; intro gs w8 o_ k_; obtain ⟨O8, K8⟩ := ok_ K7 o_ k_; have HT_8 := Am (TabN.keep HT_7.out k_); clear a0 O7 K7 HT_7; have a0 := k6_ O8 0; have a3 := k12_ O8 3; clear o_ k_) | ((with_reducible refine gT 88 9 rfl ?_); refine wS 3 0 [s.f0.f0, s.f0.f1, s.f0.f2.f0, s.f0.f2.f1, s.f0.f2.f2, s.f0.f2.f3, s.f0.f3, s.f0.f4, s.f0.f5, .int .u32 s.f0.f6, s.f1, s.f2] O8 ?_; intro w9 o_ k_; obtain ⟨O9, K9⟩ := ok_ K8 o_ k_; have HT_9 := Am (TabN.keep HT_8.out k_); clear a0 a3 O8 K8 HT_8; have a0 := k6_ O9 0; have a3 := k12_ O9 3; clear o_ k_))
       refine sP (n := 10) (S := fun w' => w'.cell? ⟨gs, 0, none⟩ = some (.int .i64 s.f0.f0) ∧ w'.cell? ⟨gs, 1, none⟩ = some (.int .i64 s.f0.f1) ∧ w'.cell? ⟨gs, 2, none⟩ = some (.string s.f0.f2.f0) ∧ w'.cell? ⟨gs, 3, none⟩ = some (.int .i64 s.f0.f2.f1) ∧ w'.cell? ⟨gs, 4, none⟩ = some (.int .i64 s.f0.f2.f2) ∧ w'.cell? ⟨gs, 5, none⟩ = some (.string s.f0.f2.f3) ∧ w'.cell? ⟨gs, 6, none⟩ = some (.string s.f0.f3) ∧ w'.cell? ⟨gs, 7, none⟩ = some (.int .i64 s.f0.f4) ∧ w'.cell? ⟨gs, 8, none⟩ = some (.int .i64 s.f0.f5) ∧ w'.cell? ⟨gs, 9, none⟩ = some (.int .u32 s.f0.f6) ∧ w'.cell? ⟨gs, 10, none⟩ = some (.int .i64 s.f1) ∧ w'.cell? ⟨gs, 11, none⟩ = some (.int .i64 s.f2)) (ds := []) ⟨a3.1, a3.2.1, a3.2.2.1, a3.2.2.2.1, a3.2.2.2.2.1, a3.2.2.2.2.2.1, a3.2.2.2.2.2.2.1, a3.2.2.2.2.2.2.2.1, a3.2.2.2.2.2.2.2.2.1, a3.2.2.2.2.2.2.2.2.2.1, a3.2.2.2.2.2.2.2.2.2.2.1, a3.2.2.2.2.2.2.2.2.2.2.2.1⟩ (fun hHeld => ?_)
       obtain ⟨w10, hw_, k_, O10, K10⟩ := drw_ O9 K9
       rw [← hw_] at hHeld ⊢
       have HT_10 := Am (TabN.keep HT_9.out k_)
       clear a0 a3 O9 K9 HT_9
       have a0 := k6_ O10 0
       have a3 := k12_ O10 3
       clear k_ hw_
       refine pP 0 (some 74) ?_
       refine pP 1 (some 75) ?_
       refine pP 4 (some 78) ?_
       refine pP 5 (some 79) ?_
       refine tP 2 (some 76) hHeld ?_
       refine tP 6 (some 80) hHeld ?_
       refine oP 3 (some 77) (fun K_ hK_ => ?_)
       refine hP Tryd.func45 #[pt gm, s.f2] ?_
       obtain ⟨N_, on_, nn_, rr_, bb_⟩ := O10.out.frameL [1] (by decide) (by simp)
       refine (MCome_l s.f2 b c2 HDO.out on_ HI.out HCF.out HX4.out).mono ?_
       rintro e_ w11 ⟨rfl, oo_, kk_⟩
       obtain ⟨o_, k_⟩ := bb_ _ [ModO gm cf L c2] [] rfl kk_ oo_
       refine ⟨_, rfl, ?_⟩
       obtain ⟨O11, K11⟩ := ok_ K10 o_ k_
       have HT_11 := Am (TabN.keep HT_10.out k_)
       clear a0 a3 O10 K10 HT_10
       have a0 := k6_ O11 0
       have a3 := k12_ O11 3
       clear o_ k_ oo_ kk_ on_ nn_ rr_ bb_ hHeld
       refine hK_.out _ _ ⟨a3.1, a3.2.1, a3.2.2.1, a3.2.2.2.1, a3.2.2.2.2.1, a3.2.2.2.2.2.1, a3.2.2.2.2.2.2.1, a3.2.2.2.2.2.2.2.1, a3.2.2.2.2.2.2.2.2.1, a3.2.2.2.2.2.2.2.2.2.1, a3.2.2.2.2.2.2.2.2.2.2.1, a3.2.2.2.2.2.2.2.2.2.2.2.1⟩ (fun hHeld => ?_)
       clear hK_ K_
       refine nP ?_
       refine oP 7 (some 81) (fun K_ hK_ => ?_)
       refine hP Tryd.func48 #[pt gd, s.f2] ?_
       obtain ⟨N_, on_, nn_, rr_, bb_⟩ := O11.out.frameL [2] (by decide) (by simp)
       refine (DCome_l s.f2 b c2 HDO.out on_ HI.out HCF.out HX4.out).mono ?_
       rintro e_ w12 ⟨rfl, oo_, kk_⟩
       obtain ⟨o_, k_⟩ := bb_ _ [DocM gd cf L c2] [] rfl kk_ oo_
       refine ⟨_, rfl, ?_⟩
       obtain ⟨O12, K12⟩ := ok_ K11 o_ k_
       have HT_12 := Am (TabN.keep HT_11.out k_)
       clear a0 a3 O11 K11 HT_11
       have a0 := k6_ O12 0
       have a3 := k12_ O12 3
       clear o_ k_ oo_ kk_ on_ nn_ rr_ bb_ hHeld
       refine hK_.out _ _ ⟨a3.1, a3.2.1, a3.2.2.1, a3.2.2.2.1, a3.2.2.2.2.1, a3.2.2.2.2.2.1, a3.2.2.2.2.2.2.1, a3.2.2.2.2.2.2.2.1, a3.2.2.2.2.2.2.2.2.1, a3.2.2.2.2.2.2.2.2.2.1, a3.2.2.2.2.2.2.2.2.2.2.1, a3.2.2.2.2.2.2.2.2.2.2.2.1⟩ (fun hHeld => ?_)
       clear hK_ K_
       refine nP ?_
       refine pP 8 (some 82) ?_
       refine pP 9 (some 10) ?_
       refine dN ?_
       clear hHeld
       go_wp2
       clear a0 a3
       go_loopw [87] (fun i wr => PzI N w cf.cl [cells gc #[cf.cl, cf.win, cf.push, cf.pull, cf.mtu, cf.last] 68, ModO gm cf L c2, DocM gd cf L c2] i wr) (fun i _ => cf.cl.toNat - (intOf i).toNat)
       case atStart => exact ⟨0, by omega, by have := HCF.out.cl; omega, rfl, ⟨O12.out.take 3⟩, K12⟩
       case round =>
        clear O12 K12 HT_12
        obtain ⟨z, hz0, hz1, rfl, OB, KB⟩ := hrel
        by_cases hlz : z < cf.cl
        ·have hdz := decide_eq_true hlz
         have HZ := Am (show 0 ≤ z ∧ z < cf.cl ∧ cf.cl ≤ 4 from ⟨hz0, hlz, HC4.out⟩)
         obtain ⟨q, hq_⟩ : ∃ q, z + 1 = q := ⟨_, rfl⟩
         have hz2 : wrap64 (z + 1) = q := by rw [← hq_]; have := HZ.out; unfold wrap64; omega
         have HQ := Am hq_
         have HW2 := Am hz2
         obtain ⟨y, hy_⟩ := clAt_in (cls := c2) (n := q) (by have := HI2.out.n; have := HZ.out; omega)
         have HY := Am hy_
         obtain ⟨p, hp_⟩ : ∃ p : Nat, y.J.length - ownN q L y = p := ⟨_, rfl⟩
         have HLV : Aside0 (lookV q L y = .agg #[y.e, y.k, p, y.U.length, y.c, .int .i64 0]) := ⟨by unfold lookV; rw [hp_]⟩
         clear hq_ hy_ hp_ hz0 hz1 hlz
         have O13 : Aside0 (Own N wr [cells gc #[cf.cl, cf.win, cf.push, cf.pull, cf.mtu, cf.last] 68, ModO gm cf L c2, DocM gd cf L c2]) := ⟨OB.out⟩
         have K13 : Aside0 (KeepS N w wr) := ⟨KB.out⟩
         have a0 := k6_ O13 0
         clear OB KB
         go_wp2_with (first | ((with_reducible refine gC 40 rfl ?_); refine gP (some 93) Tryd.func40 #[pt gm, .int .i64 (wrap64 (z + 1))] ?_; rw [HW2.out]; obtain ⟨N_, on_, nn_, rr_, bb_⟩ := O13.out.frameL [1] (by decide) (by simp); refine (MLook_v (.agg #[y.e, y.k, p, y.U.length, y.c, .int .i64 0]) q HLV.out on_ HI2.out HCF.out HX5.out HY.out).mono ?_; rintro e_ w14 ⟨rfl, oo_, kk_⟩; obtain ⟨o_, k_⟩ := bb_ _ [ModO gm cf L c2] [] rfl kk_ oo_; refine ⟨_, rfl, ?_⟩; obtain ⟨O14, K14⟩ := ok_ K13 o_ k_; clear a0 O13 K13 o_ k_ oo_ kk_ on_ nn_ rr_ bb_; have a0 := k6_ O14 0) | ((with_reducible refine gC 50 rfl ?_); refine gP (some 97) Tryd.func50 #[pt gd, .int .i64 (wrap64 (z + 1))] ?_; rw [HW2.out]; obtain ⟨N_, on_, nn_, rr_, bb_⟩ := O14.out.frameL [2] (by decide) (by simp); refine (DLook_v (.agg #[y.e, y.k, p, y.U.length, y.c, .int .i64 0]) q HLV.out on_ HI2.out HCF.out HX5.out HY.out).mono ?_; rintro e_ w15 ⟨rfl, oo_, kk_⟩; obtain ⟨o_, k_⟩ := bb_ _ [DocM gd cf L c2] [] rfl kk_ oo_; refine ⟨_, rfl, ?_⟩; obtain ⟨O15, K15⟩ := ok_ K14 o_ k_; clear a0 O14 K14 o_ k_ oo_ kk_ on_ nn_ rr_ bb_; have a0 := k6_ O15 0))
         go_roundw
         case rel => exact ⟨z + 1, by have := HZ.out; omega, by have := HZ.out; omega, int_eq17 (by unfold wrap64; have := HZ.out; omega), O15, K15⟩
         case measure => have := HZ.out; have := HQ.out; simp [intOf]; omega
        ·have hdz : decide (z < cf.cl) = false := decide_eq_false hlz
         clear hlz hz0 hz1
         go_wp2
         go_roundw
         case rel => exact ⟨x + 1, L, c2, by have := HX.out; omega, by have := HX.out; omega, int_eq17 (by unfold wrap64; have := HX.out; omega), ⟨by rw [HXT.out]; exact HI2.out⟩, OB, KB⟩
         case measure => have := HX.out; simp [intOf]; omega
     ·skip
      have d1 : (s.f1 != 0) = true := bne_iff_ne.mpr h1
      clear h1
      have O7 : Aside0 (Own N wr [cells gc #[cf.cl, cf.win, cf.push, cf.pull, cf.mtu, cf.last] 68, ModO gm cf L cls, DocM gd cf L cls]) := ⟨OA.out⟩
      have K7 : Aside0 (KeepS N w wr) := ⟨KA.out⟩
      have HT_7 : Aside0 (TabN N wr) := ⟨HT00.out.keep KA.out⟩
      have a0 := k6_ O7 0
      clear OA KA
      obtain ⟨K2, hK⟩ : ∃ q, cmtL s.f1 L cls = q := ⟨_, rfl⟩
      obtain ⟨b, hb⟩ : ∃ q, (nextR s.f1 L cls).isSome = q := ⟨_, rfl⟩
      have HDO := Am (And.intro hb hK)
      have HI2 : Aside0 (MInv cf (x.toNat + 1) K2 cls) := ⟨by rw [← hK]; exact HI.out.commit s.f1⟩
      clear hK hb
      have HX5 : Aside0 (x.toNat + 1 ≤ 400) := ⟨by have := HX.out; omega⟩
      go_wp2_with (first | ((with_reducible refine gD 9 rfl ?_); refine bP 9 #[.int .i64 0, .int .i64 0, .string ⟨#[]⟩, .int .i64 0, .int .i64 0, .string ⟨#[]⟩, .string ⟨#[]⟩, .int .i64 0, .int .i64 0, .int .u32 0, .int .i64 0, .int .i64 0] 88 O7.out ?_; intro gs w8 o_ k_; obtain ⟨O8, K8⟩ := ok_ K7 o_ k_; have HT_8 := Am (TabN.keep HT_7.out k_); clear a0 O7 K7 HT_7; have a0 := k6_ O8 0; have a3 := k12_ O8 3; clear o_ k_) | ((with_reducible refine gT 88 9 rfl ?_); refine wS 3 0 [s.f0.f0, s.f0.f1, s.f0.f2.f0, s.f0.f2.f1, s.f0.f2.f2, s.f0.f2.f3, s.f0.f3, s.f0.f4, s.f0.f5, .int .u32 s.f0.f6, s.f1, s.f2] O8 ?_; intro w9 o_ k_; obtain ⟨O9, K9⟩ := ok_ K8 o_ k_; have HT_9 := Am (TabN.keep HT_8.out k_); clear a0 a3 O8 K8 HT_8; have a0 := k6_ O9 0; have a3 := k12_ O9 3; clear o_ k_))
      refine sP (n := 10) (S := fun w' => w'.cell? ⟨gs, 0, none⟩ = some (.int .i64 s.f0.f0) ∧ w'.cell? ⟨gs, 1, none⟩ = some (.int .i64 s.f0.f1) ∧ w'.cell? ⟨gs, 2, none⟩ = some (.string s.f0.f2.f0) ∧ w'.cell? ⟨gs, 3, none⟩ = some (.int .i64 s.f0.f2.f1) ∧ w'.cell? ⟨gs, 4, none⟩ = some (.int .i64 s.f0.f2.f2) ∧ w'.cell? ⟨gs, 5, none⟩ = some (.string s.f0.f2.f3) ∧ w'.cell? ⟨gs, 6, none⟩ = some (.string s.f0.f3) ∧ w'.cell? ⟨gs, 7, none⟩ = some (.int .i64 s.f0.f4) ∧ w'.cell? ⟨gs, 8, none⟩ = some (.int .i64 s.f0.f5) ∧ w'.cell? ⟨gs, 9, none⟩ = some (.int .u32 s.f0.f6) ∧ w'.cell? ⟨gs, 10, none⟩ = some (.int .i64 s.f1) ∧ w'.cell? ⟨gs, 11, none⟩ = some (.int .i64 s.f2)) (ds := []) ⟨a3.1, a3.2.1, a3.2.2.1, a3.2.2.2.1, a3.2.2.2.2.1, a3.2.2.2.2.2.1, a3.2.2.2.2.2.2.1, a3.2.2.2.2.2.2.2.1, a3.2.2.2.2.2.2.2.2.1, a3.2.2.2.2.2.2.2.2.2.1, a3.2.2.2.2.2.2.2.2.2.2.1, a3.2.2.2.2.2.2.2.2.2.2.2.1⟩ (fun hHeld => ?_)
      obtain ⟨w10, hw_, k_, O10, K10⟩ := drw_ O9 K9
      rw [← hw_] at hHeld ⊢
      have HT_10 := Am (TabN.keep HT_9.out k_)
      clear a0 a3 O9 K9 HT_9
      have a0 := k6_ O10 0
      have a3 := k12_ O10 3
      clear k_ hw_
      refine pP 0 (some 61) ?_
      refine pP 1 (some 62) ?_
      refine pP 4 (some 65) ?_
      refine pP 5 (some 66) ?_
      refine tP 2 (some 63) hHeld ?_
      refine tP 6 (some 67) hHeld ?_
      refine oP 3 (some 64) (fun K_ hK_ => ?_)
      refine hP Tryd.func44 #[pt gm, s.f1] ?_
      obtain ⟨N_, on_, nn_, rr_, bb_⟩ := O10.out.frameL [1] (by decide) (by simp)
      refine (MCommit_l s.f1 b K2 HDO.out on_ HI.out HCF.out HX4.out).mono ?_
      rintro e_ w11 ⟨rfl, oo_, kk_⟩
      obtain ⟨o_, k_⟩ := bb_ _ [ModO gm cf K2 cls] [] rfl kk_ oo_
      refine ⟨_, rfl, ?_⟩
      obtain ⟨O11, K11⟩ := ok_ K10 o_ k_
      have HT_11 := Am (TabN.keep HT_10.out k_)
      clear a0 a3 O10 K10 HT_10
      have a0 := k6_ O11 0
      have a3 := k12_ O11 3
      clear o_ k_ oo_ kk_ on_ nn_ rr_ bb_ hHeld
      refine hK_.out _ _ ⟨a3.1, a3.2.1, a3.2.2.1, a3.2.2.2.1, a3.2.2.2.2.1, a3.2.2.2.2.2.1, a3.2.2.2.2.2.2.1, a3.2.2.2.2.2.2.2.1, a3.2.2.2.2.2.2.2.2.1, a3.2.2.2.2.2.2.2.2.2.1, a3.2.2.2.2.2.2.2.2.2.2.1, a3.2.2.2.2.2.2.2.2.2.2.2.1⟩ (fun hHeld => ?_)
      clear hK_ K_
      refine nP ?_
      refine oP 7 (some 68) (fun K_ hK_ => ?_)
      refine hP Tryd.func47 #[pt gd, s.f1] ?_
      obtain ⟨N_, on_, nn_, rr_, bb_⟩ := O11.out.frameL [2] (by decide) (by simp)
      refine (DCommit_l s.f1 b K2 HDO.out on_ HI.out HCF.out HX4.out).mono ?_
      rintro e_ w12 ⟨rfl, oo_, kk_⟩
      obtain ⟨o_, k_⟩ := bb_ _ [DocM gd cf K2 cls] [] rfl kk_ oo_
      refine ⟨_, rfl, ?_⟩
      obtain ⟨O12, K12⟩ := ok_ K11 o_ k_
      have HT_12 := Am (TabN.keep HT_11.out k_)
      clear a0 a3 O11 K11 HT_11
      have a0 := k6_ O12 0
      have a3 := k12_ O12 3
      clear o_ k_ oo_ kk_ on_ nn_ rr_ bb_ hHeld
      refine hK_.out _ _ ⟨a3.1, a3.2.1, a3.2.2.1, a3.2.2.2.1, a3.2.2.2.2.1, a3.2.2.2.2.2.1, a3.2.2.2.2.2.2.1, a3.2.2.2.2.2.2.2.1, a3.2.2.2.2.2.2.2.2.1, a3.2.2.2.2.2.2.2.2.2.1, a3.2.2.2.2.2.2.2.2.2.2.1, a3.2.2.2.2.2.2.2.2.2.2.2.1⟩ (fun hHeld => ?_)
      clear hK_ K_
      refine nP ?_
      refine pP 8 (some 69) ?_
      refine pP 9 (some 10) ?_
      refine dN ?_
      clear hHeld
      go_wp2
      clear a0 a3
      go_loopw [87] (fun i wr => PzI N w cf.cl [cells gc #[cf.cl, cf.win, cf.push, cf.pull, cf.mtu, cf.last] 68, ModO gm cf K2 cls, DocM gd cf K2 cls] i wr) (fun i _ => cf.cl.toNat - (intOf i).toNat)
      case atStart => exact ⟨0, by omega, by have := HCF.out.cl; omega, rfl, ⟨O12.out.take 3⟩, K12⟩
      case round =>
       clear O12 K12 HT_12
       obtain ⟨z, hz0, hz1, rfl, OB, KB⟩ := hrel
       by_cases hlz : z < cf.cl
       ·have hdz := decide_eq_true hlz
        have HZ := Am (show 0 ≤ z ∧ z < cf.cl ∧ cf.cl ≤ 4 from ⟨hz0, hlz, HC4.out⟩)
        obtain ⟨q, hq_⟩ : ∃ q, z + 1 = q := ⟨_, rfl⟩
        have hz2 : wrap64 (z + 1) = q := by rw [← hq_]; have := HZ.out; unfold wrap64; omega
        have HQ := Am hq_
        have HW2 := Am hz2
        obtain ⟨y, hy_⟩ := clAt_in (cls := cls) (n := q) (by have := HI2.out.n; have := HZ.out; omega)
        have HY := Am hy_
        obtain ⟨p, hp_⟩ : ∃ p : Nat, y.J.length - ownN q K2 y = p := ⟨_, rfl⟩
        have HLV : Aside0 (lookV q K2 y = .agg #[y.e, y.k, p, y.U.length, y.c, .int .i64 0]) := ⟨by unfold lookV; rw [hp_]⟩
        clear hq_ hy_ hp_ hz0 hz1 hlz
        have O13 : Aside0 (Own N wr [cells gc #[cf.cl, cf.win, cf.push, cf.pull, cf.mtu, cf.last] 68, ModO gm cf K2 cls, DocM gd cf K2 cls]) := ⟨OB.out⟩
        have K13 : Aside0 (KeepS N w wr) := ⟨KB.out⟩
        have a0 := k6_ O13 0
        clear OB KB
        go_wp2_with (first | ((with_reducible refine gC 40 rfl ?_); refine gP (some 93) Tryd.func40 #[pt gm, .int .i64 (wrap64 (z + 1))] ?_; rw [HW2.out]; obtain ⟨N_, on_, nn_, rr_, bb_⟩ := O13.out.frameL [1] (by decide) (by simp); refine (MLook_v (.agg #[y.e, y.k, p, y.U.length, y.c, .int .i64 0]) q HLV.out on_ HI2.out HCF.out HX5.out HY.out).mono ?_; rintro e_ w14 ⟨rfl, oo_, kk_⟩; obtain ⟨o_, k_⟩ := bb_ _ [ModO gm cf K2 cls] [] rfl kk_ oo_; refine ⟨_, rfl, ?_⟩; obtain ⟨O14, K14⟩ := ok_ K13 o_ k_; clear a0 O13 K13 o_ k_ oo_ kk_ on_ nn_ rr_ bb_; have a0 := k6_ O14 0) | ((with_reducible refine gC 50 rfl ?_); refine gP (some 97) Tryd.func50 #[pt gd, .int .i64 (wrap64 (z + 1))] ?_; rw [HW2.out]; obtain ⟨N_, on_, nn_, rr_, bb_⟩ := O14.out.frameL [2] (by decide) (by simp); refine (DLook_v (.agg #[y.e, y.k, p, y.U.length, y.c, .int .i64 0]) q HLV.out on_ HI2.out HCF.out HX5.out HY.out).mono ?_; rintro e_ w15 ⟨rfl, oo_, kk_⟩; obtain ⟨o_, k_⟩ := bb_ _ [DocM gd cf K2 cls] [] rfl kk_ oo_; refine ⟨_, rfl, ?_⟩; obtain ⟨O15, K15⟩ := ok_ K14 o_ k_; clear a0 O14 K14 o_ k_ oo_ kk_ on_ nn_ rr_ bb_; have a0 := k6_ O15 0))
        go_roundw
        case rel => exact ⟨z + 1, by have := HZ.out; omega, by have := HZ.out; omega, int_eq17 (by unfold wrap64; have := HZ.out; omega), O15, K15⟩
        case measure => have := HZ.out; have := HQ.out; simp [intOf]; omega
       ·have hdz : decide (z < cf.cl) = false := decide_eq_false hlz
        clear hlz hz0 hz1
        go_wp2
        go_roundw
        case rel => exact ⟨x + 1, K2, cls, by have := HX.out; omega, by have := HX.out; omega, int_eq17 (by unfold wrap64; have := HX.out; omega), ⟨by rw [HXT.out]; exact HI2.out⟩, OB, KB⟩
        case measure => have := HX.out; simp [intOf]; omega
    ·have hxe : x = l0.length := by omega
     subst hxe
     have hd : decide ((l0.length : Int) < (l0.length : Int)) = false := decide_eq_false (Int.lt_irrefl _)
     clear hlt hx0 hx1
     rw [Int.toNat_natCast] at HI
     obtain ⟨AL, cL, AA, cA, rL, ds, o3⟩ := DocM.open3 OA.out
     have HX4 : Aside0 (l0.length ≤ 400) := ⟨by have := HL60.out; omega⟩
     have HFW : Aside0 (Few 400 L ∧ L.length ≤ 400) := ⟨HI.out.f.mono HX4.out, by have := HI.out.l; have := HX4.out; omega⟩
     have O7 : Aside0 (Own N wr [cells gc #[cf.cl, cf.win, cf.push, cf.pull, cf.mtu, cf.last] 68, ModO gm cf L cls, cells gd #[cf.cl, cf.win, cf.push, cf.pull, cf.mtu, cf.last, .slice AL L.length cL, .slice AA cls.length cA] tDM, poolD rL L ds cls, bigs (dclI ds cls), nrow (Kd.raw 5) tDCl (.slice AA cls.length cA) (rowsD ds cls), nrow (Kd.raw 3) tR7 (.slice AL L.length cL) rL]) := ⟨o3⟩
     have K7 : Aside0 (KeepS N w wr) := ⟨KA.out⟩
     have a2 := k8_ O7 2
     clear OA KA o3
     go_wp2
     refine sP (n := 20) (S := c8_ gd (.int .i64 cf.cl) (.int .i64 cf.win) (.int .i64 cf.push) (.int .i64 cf.pull) (.int .i64 cf.mtu) (.int .i64 cf.last) (.slice AL L.length cL) (.slice AA cls.length cA)) (ds := []) (p8_ a2) (fun hHeld => ?_)
     obtain ⟨w8, hw_⟩ : ∃ W, W = wr.drew := ⟨_, rfl⟩
     have o_ := O7.out.drew
     have k_ : KeepS N wr wr.drew := KeepS.drew
     rw [← hw_] at o_ k_ hHeld ⊢
     clear hw_
     obtain ⟨O8, K8⟩ := ok_ K7 o_ k_
     clear a2 O7 K7 o_ k_
     have a2 := k8_ O8 2
     refine pP 0 (some 101) ?_
     refine pP 2 (some 103) ?_
     refine pP 3 (some 104) ?_
     refine pP 4 (some 105) ?_
     refine tP 5 (some 106) hHeld ?_
     refine oP 1 (some 102) (fun K_ hK_ => ?_)
     refine hP Tryd.func39 #[pt gm] ?_
     obtain ⟨N_, on_, nn_, rr_, bb_⟩ := O8.out.frameL [1] (by decide) (by simp)
     refine (MLog_i on_ HI.out HX4.out).mono ?_
     rintro e_ w9 ⟨B5, d5_, rfl, oo_, kk_⟩
     obtain ⟨o_, k_⟩ := bb_ _ [ModO gm cf L cls] [nrow kR7 tR7 (.slice B5 L.length d5_) L] rfl kk_ oo_
     refine ⟨_, rfl, ?_⟩
     obtain ⟨O9, K9⟩ := ok_ K8 o_ k_
     clear a2 O8 K8 o_ k_ oo_ kk_ on_ nn_ rr_ bb_
     have a2 := k8_ O9 2
     clear hHeld
     refine hK_.out _ _ (p8_ a2) (fun hHeld => ?_)
     clear hK_ K_
     refine nP ?_
     refine oP 6 (some 107) (fun K_ hK_ => ?_)
     refine hP Tryd.func19 #[.slice B5 L.length d5_, .slice AL L.length cL] ?_
     refine (same_d O9.out (i := 7) (j := 6) (k := 3) rfl rfl rfl HFW.out.1 HFW.out.2).mono ?_
     rintro e_ w10 ⟨rfl, hb_⟩
     refine ⟨_, rfl, ?_⟩
     obtain ⟨O10, K10⟩ := ob_ K9 O9 hb_
     clear a2 O9 K9 hb_
     have a2 := k8_ O10 2
     clear hHeld
     refine hK_.out _ _ (p8_ a2) (fun hHeld => ?_)
     clear hK_ K_
     refine nP ?_
     refine pP 7 (some 108) ?_
     refine pP 8 (some 109) ?_
     refine pP 10 (some 111) ?_
     refine oP 9 (some 110) (fun K_ hK_ => ?_)
     refine hP Tryd.func40 #[pt gm, .int .i64 0] ?_
     obtain ⟨N_, on_, nn_, rr_, bb_⟩ := O10.out.frameL [1] (by decide) (by simp)
     refine (MLook_0 0 on_ (fun h_ => absurd h_.1 (by decide))).mono ?_
     rintro e_ w11 ⟨rfl, oo_, kk_⟩
     obtain ⟨o_, k_⟩ := bb_ _ [ModO gm cf L cls] [] rfl kk_ oo_
     refine ⟨_, rfl, ?_⟩
     obtain ⟨O11, K11⟩ := ok_ K10 o_ k_
     clear a2 O10 K10 o_ k_ oo_ kk_ on_ nn_ rr_ bb_
     have a2 := k8_ O11 2
     clear hHeld
     refine hK_.out _ _ (p8_ a2) (fun hHeld => ?_)
     clear hK_ K_
     refine nP ?_
     refine pP 11 (some 112) ?_
     refine pP 12 (some 113) ?_
     refine pP 13 (some 114) ?_
     refine pP 14 (some 115) ?_
     refine oP 15 (some 116) (fun K_ hK_ => ?_)
     refine hP Tryd.func41 #[pt gm, .int .i64 (-1)] ?_
     obtain ⟨N_, on_, nn_, rr_, bb_⟩ := O11.out.frameL [1] (by decide) (by simp)
     refine (MKnown_0 (-1) on_ (fun h_ => absurd h_.1 (by decide))).mono ?_
     rintro e_ w12 ⟨rfl, oo_, kk_⟩
     obtain ⟨o_, k_⟩ := bb_ _ [ModO gm cf L cls] [] rfl kk_ oo_
     refine ⟨_, rfl, ?_⟩
     obtain ⟨O12, K12⟩ := ok_ K11 o_ k_
     clear a2 O11 K11 o_ k_ oo_ kk_ on_ nn_ rr_ bb_
     have a2 := k8_ O12 2
     clear hHeld
     refine hK_.out _ _ (p8_ a2) (fun hHeld => ?_)
     clear hK_ K_
     refine nP ?_
     refine pP 16 (some 117) ?_
     refine pP 17 (some 118) ?_
     refine pP 18 (some 119) ?_
     refine pP 19 (some 4) ?_
     refine dN ?_
     clear hHeld
     go_wp2
     go_ret
     exact ⟨rfl, kw_ K12 HN⟩
theorem chapbooklaw21_ModelPlays.calls (a0_0 : Int) (a0_1 : Int) (a0_2 : Int) (a0_3 : Int) (a0_4 : Int) (a0_5 : Int) (A1 : Option Addr) (c1 : Nat) (l1 : List S88) (r : Bool) (w : World) (HT : Aside0 (Tab w)) (hr1 : Kd.C k88 w A1 l1.length l1) (hc1 : l1.length ≤ c1) (h : chapbooklaw21_ModelPlays.f a0_0 a0_1 a0_2 a0_3 a0_4 a0_5 l1 = some r) :
  Calls Tryd.prog 11 #[.agg #[a0_0, a0_1, a0_2, a0_3, a0_4, a0_5], .slice A1 l1.length c1] w fun e_ w' => e_ = .returned (.bool r) ∧ Below w.heap.size w w' := by
 obtain rfl : true = r := Option.some.inj h
 exact ModelPlays_core ⟨a0_0, a0_1, a0_2, a0_3, a0_4, a0_5⟩ A1 c1 l1 w HT hr1 hc1
end Go.Proofs.YtjdenpmaianmfaaDoor.J
