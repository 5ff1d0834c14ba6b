/- A Journal as a resource: its block and its rounds' row; the document's Journal likewise; a round out of its updates' row. -/
import Derived.Test.YtjdenpmaianmfaaDoorYClientWaitsEv
import Derived.Test.YtjdenpmaianmfaaDoorYClientWaitsQ0
namespace Go.Proofs.YtjdenpmaianmfaaDoor.J
set_option linter.unusedSimpArgs false
set_option linter.unusedVariables false
open Go Go.RowKit Go.Proofs.YtjdenpmaianmfaaDoorW.PrintWords Go.Proofs.YtjdenpmaianmfaaDoorW.PrintLast Go.Proofs.YtjdenpmaianmfaaDoorW.PrintMore Go.Proofs.YtjdenpmaianmfaaDoor.Q Go.Proofs.YtjdenpmaianmfaaDoor.Sep
theorem infoR : (Tryd.prog.info? 35).map (fun i => (i.zero, i.size, i.bytes)) = some (some (.agg #[.int .i64 0, .int .i64 0, .slice none 0 0]), 3, 40) := by kernel_rfl
theorem flatU : Flat k32 := flat_iso _ (flat_pair flat_scalar (flat_pair flat_scalar (flat_pair flat_scalar flat_scalar)))
theorem at_F {w : World} {ok : Nat → Prop} {A : Option Addr} {n : Nat} {xs : List S35} (h : Kd.F k35 w ok A n xs) (i : Int) (h0 : 0 ≤ i) (h1 : i < n) : ∃ ad A2 c2, A = some ad ∧ w.cell? (ad.add (i.toNat * 3)) = some (.int .i64 (rd_T35 xs i).f0) ∧ w.cell? ⟨(ad.add (i.toNat * 3)).block, (ad.add (i.toNat * 3)).off + 1, none⟩ = some (.int .i64 (rd_T35 xs i).f1) ∧ w.cell? ⟨(ad.add (i.toNat * 3)).block, (ad.add (i.toNat * 3)).off + 2, none⟩ = some (.slice A2 (rd_T35 xs i).f2.length c2) ∧ (rd_T35 xs i).f2.length ≤ c2 ∧ Kd.F k32 w ok A2 (rd_T35 xs i).f2.length (rd_T35 xs i).f2 := by
 obtain ⟨ad, c, e, _, hK, hc0, _⟩ := Kd.F_get h z35 i h0 h1
 have hc : ∀ j u, c[j]? = some u → w.cell? (ad.add (i.toNat * 3 + j)) = some u := hc0
 obtain ⟨A2, c2, rfl, l2, g2⟩ := k35_open (Kd.FK_now hK)
 refine ⟨ad, A2, c2, e, hc 0 _ rfl, by rw [← add_field _ _ 1 (by omega)]; exact hc 1 _ rfl, by rw [← add_field _ _ 2 (by omega)]; exact hc 2 _ rfl, l2, fun W' hW => ?_⟩
 obtain ⟨A3, c3, e3, _, g3⟩ := k35_open (hK W' hW)
 simp only [List.cons.injEq, Value.slice.injEq, and_true, true_and] at e3
 rw [e3.1]
 exact g3
def Obj3 (t : Nat) (g : Nat) (o m : Int) (L : List S35) : HP := ex fun v : Value => star (cells g #[.int .i64 o, .int .i64 m, v] t) (nrow k35 35 v L)
theorem Obj3.open_ {N : Nat → Prop} {w : World} {l : List HP} {i : Nat} {t g : Nat} {o m : Int} {L : List S35} (h : Own N w l) (hi : l[i]? = some (Obj3 t g o m L)) :
  ∃ A c, Own N w ((l.set i (cells g #[.int .i64 o, .int .i64 m, .slice A L.length c] t)) ++ [nrow k35 35 (.slice A L.length c) L]) := by
 obtain ⟨v, hv⟩ := h.of_ex hi
 have hlt : i < l.length := (List.getElem?_eq_some_iff.1 hi).1
 have h2 := hv.split (i := i) (List.getElem?_set_self hlt)
 rw [List.set_set] at h2
 obtain ⟨A, c, rfl⟩ := h2.nslice (i := l.length) (by
  rw [List.getElem?_append_right (by simp), List.length_set, Nat.sub_self]; rfl)
 exact ⟨A, c, h2⟩
theorem Obj3.shut {N : Nat → Prop} {w : World} {l : List HP} {i j : Nat} {t g : Nat} {o m : Int} {v : Value} {L : List S35} (h : Own N w l) (hi : l[i]? = some (cells g #[.int .i64 o, .int .i64 m, v] t)) (hj : l[j]? = some (nrow k35 35 v L)) (hij : i ≠ j) :
  Own N w ((l.set i (Obj3 t g o m L)).set j emp) := by
 have h2 := h.join hi hj hij
 have hlt : i < l.length := (List.getElem?_eq_some_iff.1 hi).1
 have h3 := h2.to_ex (f := fun v : Value => star (cells g #[.int .i64 o, .int .i64 m, v] t) (nrow k35 35 v L)) v (i := i) (by
  rw [List.getElem?_set_ne (fun e => hij e.symm), List.getElem?_set_self hlt])
 rw [List.set_comm _ _ hij, List.set_set, List.set_comm _ _ hij.symm] at h3
 exact h3
theorem roundOf {N : Nat → Prop} {w : World} {l : List HP} {i : Nat} {A : Option Addr} {n c : Nat} (r : S35) (h : Own N w l) (hi : l[i]? = some (nrow k32 32 (.slice A n c) r.f2)) :
  Own N w (l.set i (elt k35 r [.int .i64 r.f0, .int .i64 r.f1, .slice A n c])) :=
 h.conv hi _ (fun F hp _ => fun W' hW => by
  obtain ⟨h1, h2, h3⟩ := Kd.N_reads' (Kd.N_step hp hW)
  rw [h1] at h2 ⊢
  exact k35_mk W' r h2 h3)
end Go.Proofs.YtjdenpmaianmfaaDoor.J
