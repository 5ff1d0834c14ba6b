/- Stores into a row that an element of one's own row leads to: rounds and updates. -/
import Derived.Test.YtjdenpmaianmfaaDoorYClientWaitsSt0
import Derived.Test.YtjdenpmaianmfaaDoorYClientWaitsQ0
namespace Go.Proofs.YtjdenpmaianmfaaDoor.Sep
set_option linter.unusedSimpArgs false
set_option linter.unusedVariables false
open Go Go.RowKit Go.Proofs.YtjdenpmaianmfaaDoorW.PrintWords Go.Proofs.YtjdenpmaianmfaaDoorW.PrintLast Go.Proofs.YtjdenpmaianmfaaDoorW.PrintMore Go.Proofs.YtjdenpmaianmfaaDoor.Q
section
abbrev kU := k32
abbrev kR := k35
abbrev TU : TypeId := 32
abbrev TR : TypeId := 35
theorem looseU : Loose kU := loose_iso _ (loose_pair loose_scalar (loose_pair loose_scalar (loose_pair loose_scalar loose_scalar)))
theorem puts_key (s : ByteArray) : Puts kU 0 (.string s) := fun {w x cs} h => by
 obtain rfl := k32_open h
 exact ⟨⟨s, x.f1, x.f2, x.f3⟩, k32_mk w ⟨s, x.f1, x.f2, x.f3⟩⟩
variable {N : Nat → Prop} {w w' : World} {l : List HP} {i : Nat} {v u : Value} {A A2 : Option Addr} {n m c c2 f g base : Nat} {L : List S35} {ok : Nat → Prop} {cs : Array Value}
theorem rowElem (r : S35) (h : Own N w l) (hi : l[i]? = some (row kU TU (.slice A n c) r.f2)) : Own N w (l.set i (elem kR r [.int .i64 r.f0, .int .i64 r.f1, .slice A n c])) :=
 h.conv hi _ (fun F hp _ => ⟨[.int .i64 r.f0], [.int .i64 r.f1, .slice A n c], rfl, rfl, [.int .i64 r.f1], [.slice A n c], rfl, rfl, _, rfl, hp⟩)
theorem RR_put (hu : Puts kU f u) (hf : f < 4) (hb : w.heap[g]? = some (.cells cs TU (0, 0))) (h : kR.R TR w base ok v L) (j : Nat) :
  ∃ L', L'.length = L.length ∧ kR.R TR (w.setCell ⟨g, j * 4 + f, none⟩ u) base ok v L' := by
 obtain ⟨h0, inner, ho, hr⟩ := h
 have hg : v.ownBlock ≠ some g := fun e => by
  obtain ⟨cells, hc⟩ := own_typed ho g e
  rw [hb] at hc
  injection hc with hc
  injection hc with _ hc
  exact absurd hc (by decide)
 obtain ⟨L', hl, hx⟩ := list_choose (P := fun j' x => kR.M (w.setCell ⟨g, j * 4 + f, none⟩ u) base (fun k => ok k ∧ some k ≠ v.ownBlock) x ((inner.drop (j' * 3)).take 3)) L.length (fun j' hj => by
  have hm : kR.M w base (fun k => ok k ∧ some k ≠ v.ownBlock) L[j'] ((inner.drop (j' * 3)).take 3) := hr.2 j' _ (List.getElem?_eq_getElem hj)
  obtain ⟨c0, c1, e1, e2, c3, c4, e3, e4, v2, e5, hR⟩ := hm
  obtain ⟨us, hus, hR2⟩ := R_put (g := g) (d := kU) (u := u) (f := f) looseU hu hf hR j
  exact ⟨⟨L[j'].f0, L[j'].f1, us⟩, c0, c1, e1, e2, c3, c4, e3, e4, v2, e5, hR2⟩)
 exact ⟨L', hl, h0, inner, by rw [hl]; exact own_move ho (fun k hk => Below.heap_setCell _ _ _ _ (fun e => hg (by rw [hk, e]))), by rw [hl]; exact hr.1, hx⟩
theorem Own.gput (hu : Puts kU f u) (hf : f < 4) (h : Own N w l) (hi : l[i]? = some (row kR TR (.slice A n c) L)) (p j : Int) (p0 : 0 ≤ p) (p1 : p < n) (h0 : 0 ≤ j) (h1 : j < m) {ga : Nat} (hA : A = some ⟨ga, 0, none⟩)
  (hcell : w.cell? ⟨ga, p.toNat * 3 + 2, none⟩ = some (.slice A2 m c2)) :
  ∃ g, A2 = some ⟨g, 0, none⟩ ∧ (∃ z, w.cell? ⟨g, j.toNat * 4 + f, none⟩ = some z) ∧ w.frozen? ⟨g, j.toNat * 4 + f, none⟩ = false ∧ KeepS N w (w.setCell ⟨g, j.toNat * 4 + f, none⟩ u) ∧ (w.setCell ⟨g, j.toNat * 4 + f, none⟩ u).cell? ⟨ga, p.toNat * 3 + 2, none⟩ = some (.slice A2 m c2) ∧
   ∃ L', L'.length = L.length ∧ Own N (w.setCell ⟨g, j.toNat * 4 + f, none⟩ u) (l.set i (row kR TR (.slice A n c) L')) := by
 subst hA
 have hown := h
 obtain ⟨hN, Fs, q1, q2, q3⟩ := h
 have hr : kR.R TR w 0 (Fs i) (.slice (some ⟨ga, 0, none⟩) n c) L := q1 i _ hi
 have key : ∀ F : Nat → Prop, kR.R TR w 0 F (.slice (some ⟨ga, 0, none⟩) n c) L → ∃ g cells, A2 = some ⟨g, 0, none⟩ ∧ F g ∧ w.heap[g]? = some (.cells cells TU (0, 0)) ∧ m * 4 ≤ cells.size := by
  intro F hr
  obtain ⟨_, hn, _⟩ := R_at hr
  obtain ⟨_, inner, ho, hre⟩ := hr
  have hpl : p.toNat < L.length := by omega
  have hm : kR.M w 0 _ L[p.toNat] ((inner.drop (p.toNat * 3)).take 3) := hre.2 p.toNat _ (List.getElem?_eq_getElem hpl)
  obtain ⟨c0, c1, e1, e2, c3, c4, e3, e4, v2, e5, hR⟩ := hm
  have e6 : (inner.drop (p.toNat * 3)).take 3 = [.int .i64 L[p.toNat].f0, .int .i64 L[p.toNat].f1, v2] := by
   rw [e1, e2, e3, e4, e5]; rfl
  have e7 : inner[p.toNat * 3 + 2]? = some v2 := by
   have := congrArg (fun q => q[2]?) e6
   simp only [List.getElem?_take, List.getElem?_drop] at this
   simpa using this
  have ho' : w.ownsRow 0 TR 3 (.slice (some ⟨ga, 0, none⟩) n c) n inner := by rw [hn]; rw [hn] at ho; exact ho
  have e8 := ho'.cellAt (p.toNat * 3 + 2) (by omega)
  rw [e7, hcell] at e8
  obtain rfl := Option.some.inj e8
  obtain ⟨g, rfl⟩ := R_some hR (by omega)
  obtain ⟨_, _, hg, cells, hh, hsz⟩ := R_at hR
  exact ⟨g, cells, rfl, hg.1, hh, hsz⟩
 obtain ⟨g, cells, rfl, hg, hh, hsz⟩ := key _ hr
 have hne : ga ≠ g := by
  rintro rfl
  obtain ⟨_, _, _, cells2, hh2, _⟩ := R_at hr
  rw [hh] at hh2
  injection hh2 with hh2
  injection hh2 with _ hh2
  exact absurd hh2 (by decide)
 refine ⟨g, rfl, ⟨_, (blk_cell hh _).trans (Array.getElem?_eq_getElem (by omega))⟩, blk_frozen hh _, KeepS.setCell (q2 i g hg).1 u, ?_, ?_⟩
 ·rw [World.cell?_of_block (Below.heap_setCell w ⟨g, j.toNat * 4 + f, none⟩ u ga hne)]
  exact hcell
 have h2 : Own N (w.setCell ⟨g, j.toNat * 4 + f, none⟩ u) (l.set i (ex fun L' => also (L'.length = L.length) (row kR TR (.slice (some ⟨ga, 0, none⟩) n c) L'))) := by
  refine hown.upd hi _ (fun F hp hF => ?_)
  obtain ⟨L2, hl2, hr2⟩ := RR_put (g := g) hu hf hh hp j.toNat
  obtain ⟨g2, _, e2, hg2, _⟩ := key F hp
  obtain rfl : g = g2 := by simpa using e2
  exact ⟨by simp [World.setCell], fun k _ hk => Below.heap_setCell _ _ _ _ (fun e => hk (by rw [show k = g from e]; exact hg2)), F, ⟨L2, hl2, hr2⟩, fun k hk => .inl hk⟩
 have hlt : i < l.length := (List.getElem?_eq_some_iff.1 hi).1
 obtain ⟨L', h3⟩ := h2.of_ex (List.getElem?_set_self hlt)
 rw [List.set_set] at h3
 obtain ⟨h4, h5⟩ := h3.of_also (List.getElem?_set_self hlt)
 rw [List.set_set] at h5
 exact ⟨L', h4, h5⟩
end
end Go.Proofs.YtjdenpmaianmfaaDoor.Sep
