/- The law ModelPrefix: whatever is done, what each client knows is a beginning of the common order, in which each client's rounds stand once, numbered 1, 2, 3, .. -/
import Derived.Test.YtjdenpmaianmfaaDoorYModelPrefixSq
import Derived.Test.YtjdenpmaianmfaaDoorYModelPrefixMo11
import Derived.Test.YtjdenpmaianmfaaDoorYModelPrefixSz
import Derived.Test.YtjdenpmaianmfaaDoorYModelPrefixQ11
import Derived.Test.YtjdenpmaianmfaaDoorYModelPrefixMap
namespace Go.Proofs.YtjdenpmaianmfaaDoor.J
set_option maxHeartbeats 16000000
set_option maxRecDepth 100000
set_option linter.unusedSimpArgs false
set_option linter.unusedVariables false
open Go Go.RowKit Go.Proofs.YtjdenpmaianmfaaDoorW.PrintWords Go.Proofs.YtjdenpmaianmfaaDoorW.PrintLast Go.Proofs.YtjdenpmaianmfaaDoorW.PrintMore Go.Proofs.YtjdenpmaianmfaaDoor.Q Go.Proofs.YtjdenpmaianmfaaDoor.Sep Go.Proofs.YtjdenpmaianmfaaDoor.Pure
def clAt (cls : List MCl) (n : Int) : Option MCl := if 1 ≤ n then cls[n.toNat - 1]? else none
theorem clAt_some {cls : List MCl} {n : Int} {x : MCl} (h : clAt cls n = some x) : (1 ≤ n ∧ n ≤ cls.length) ∧ cls[n.toNat - 1]? = some x := by
 unfold clAt at h
 split at h
 ·have := (List.getElem?_eq_some_iff.1 h).1
  exact ⟨⟨by assumption, by omega⟩, h⟩
 ·cases h
theorem clAt_none {cls : List MCl} {n : Int} (h : clAt cls n = none) : ¬ (1 ≤ n ∧ n ≤ cls.length) := by
 unfold clAt at h
 split at h
 ·have := List.getElem?_eq_none_iff.1 h
  omega
 ·omega
theorem clAt_mk {cls : List MCl} {n : Int} {x : MCl} (h : 1 ≤ n) (hx : cls[n.toNat - 1]? = some x) : clAt cls n = some x := by
 unfold clAt
 rw [if_pos h, hx]
theorem clAt_in {cls : List MCl} {n : Int} (h : 1 ≤ n ∧ n ≤ cls.length) : ∃ x, clAt cls n = some x := by
 refine ⟨cls[n.toNat - 1]'(by omega), ?_⟩
 exact clAt_mk h.1 (List.getElem?_eq_getElem (by omega))
def nextR (n : Int) (L : List Rnd7) (cls : List MCl) : Option Rnd7 := (clAt cls n).bind fun x => x.J[(ownR n L).length]?
def cmtL (n : Int) (L : List Rnd7) (cls : List MCl) : List Rnd7 := L ++ (nextR n L cls).toList
theorem Lead.nth {N : Nat → Prop} {w : World} {rows : RawR} {xs : List Rnd7} {d : Nat} {r : Rnd7} (h : Lead N w rows xs) (hx : xs[d]? = some r) : ∃ A c, rows[d]? = some (rw3 r.f0 r.f1 (.slice A r.f2.length c)) ∧ r.f2.length ≤ c := by
 have hr : d < rows.length := by rw [h.1]; exact (List.getElem?_eq_some_iff.1 hx).1
 have hc := List.getElem?_eq_getElem hr
 have hk := h.2 d _ _ hx hc
 obtain ⟨A, c, e, hl, _⟩ := k35_open (Kd.FK_now hk)
 exact ⟨A, c, by rw [hc, e], hl⟩
theorem raw_ad {w : World} {A : Option Addr} {n d : Nat} {rows : RawR} {c : List Value} (h : Kd.C (Kd.raw 3) w A n rows) (hd : rows[d]? = some c) : ∃ ad, A = some ad := by
 have hl := (List.getElem?_eq_some_iff.1 hd).1
 obtain ⟨ad, e, _⟩ := h.2.2 (by have := h.1; omega)
 exact ⟨ad, e⟩
theorem raw3c {w : World} {ad : Addr} {n d : Nat} {rows : RawR} {a b : Int} {v : Value} (h : Kd.C (Kd.raw 3) w (some ad) n rows) (hd : rows[d]? = some (rw3 a b v)) : w.cell? (ad.add (d * 3)) = some (.int .i64 a) ∧ w.cell? ⟨(ad.add (d * 3)).block, (ad.add (d * 3)).off + 1, none⟩ = some (.int .i64 b) ∧ w.cell? ⟨(ad.add (d * 3)).block, (ad.add (d * 3)).off + 2, none⟩ = some v := by
 have hl := (List.getElem?_eq_some_iff.1 hd).1
 obtain ⟨ad', e, hc⟩ := h.2.2 (by have := h.1; omega)
 cases e
 obtain ⟨c, hcl, hK, hcc⟩ := hc d _ hd
 have ec : c = rw3 a b v := hK.1
 subst ec
 have q : ∀ j u, (rw3 a b v)[j]? = some u → w.cell? (ad.add (d * 3 + j)) = some u := hcc
 exact ⟨q 0 _ rfl, by rw [← add_field _ _ 1 (by omega)]; exact q 1 _ rfl, by rw [← add_field _ _ 2 (by omega)]; exact q 2 _ rfl⟩
theorem MCommit_no {N : Nat → Prop} {w : World} {gm nc cL cC : Nat} {cf : MCf} {AL AC : Option Addr} {L : List Rnd7} {qs : List (Nat × RawR)} (n : Int) (h : Own N w []) (hm : CellN N w gm #[.int .i64 cf.cl, .int .i64 cf.win, .int .i64 cf.push, .int .i64 cf.pull, .int .i64 cf.mtu, .int .i64 cf.last, .slice AL L.length cL, .slice AC nc cC] 123) (hp : Kd.F (Kd.raw 1) w N AC nc (ptrs qs)) (hn : ¬ (1 ≤ n ∧ n ≤ nc)) :
  Calls Tryd.prog 44 #[pt gm, .int .i64 n] w fun e_ w' => e_ = .returned (.bool false) ∧ Own N w' [] ∧ KeepS N w w' := by
 have HM_0 : Aside0 (CellN N w gm #[.int .i64 cf.cl, .int .i64 cf.win, .int .i64 cf.push, .int .i64 cf.pull, .int .i64 cf.mtu, .int .i64 cf.last, .slice AL L.length cL, .slice AC nc cC] 123) := ⟨hm⟩
 have HP_0 : Aside0 (Kd.F (Kd.raw 1) w N AC nc (ptrs qs)) := ⟨hp⟩
 have O0 : Aside0 (Own N w []) := ⟨h⟩
 have K0 : Aside0 (KeepS N w w) := ⟨KeepS.refl _ _⟩
 obtain ⟨ma, mb, mc, md, me, mf, mg, mh, mz⟩ := blk8_ (HM_0.out.2)
 clear h hm hp
 have HN := Aside0.mk hn
 clear hn
 go_enter Tryd.func44, Tryd.ntmps44
 go_wp2_with (first | ((with_reducible refine gC 77 rfl ?_); refine gP (some 9) Tryd.func77 #[pt gm, .int .i64 n] ?_; obtain ⟨N_, on_, nn_, rr_, bb_⟩ := O0.out.frame0; refine (MClient_no n on_ (CellN.mono HM_0.out nn_) (Kd.F_mono HP_0.out nn_) HN.out).mono ?_; rintro e_ w1 ⟨rfl, oo_, kk_⟩; obtain ⟨o_, k_⟩ := bb_ _ _ kk_ oo_; refine ⟨_, rfl, ?_⟩; obtain ⟨O1, K1⟩ := ok_ K0 o_ k_; have HM_1 := Aside0.mk (CellN.keep HM_0.out k_); have HP_1 := Aside0.mk (keepF HP_0.out k_); clear ma mb mc md me mf mg mh mz O0 K0 HM_0 HP_0; obtain ⟨ma, mb, mc, md, me, mf, mg, mh, mz⟩ := blk8_ (HM_1.out.2); clear o_ k_ oo_ kk_ on_ nn_ rr_ bb_))
 go_ret
 exact ⟨rfl, O1.out, K1.out⟩
theorem MCommit_done {N : Nat → Prop} {w : World} {gm nc cL cC : Nat} {cf : MCf} {AL AC : Option Addr} {L : List Rnd7} {qs : List (Nat × RawR)} {q : Nat × RawR} {x : MCl} {AJ AU : Option Addr} {cJ cU : Nat} (n : Int) (h : Own N w []) (hm : CellN N w gm #[.int .i64 cf.cl, .int .i64 cf.win, .int .i64 cf.push, .int .i64 cf.pull, .int .i64 cf.mtu, .int .i64 cf.last, .slice AL L.length cL, .slice AC nc cC] 123) (hp : Kd.F (Kd.raw 1) w N AC nc (ptrs qs)) (hx : CellN N w q.1 #[.int .i64 x.e, .slice AJ x.J.length cJ, .int .i64 x.k, .int .i64 x.c, .slice AU x.U.length cU] 127) (hl : Kd.F kR7 w N AL L.length L) (hn : 1 ≤ n ∧ n ≤ nc) (hb : nc ≤ 64) (hq : qs[n.toNat - 1]? = some q) (hL : L.length ≤ 1000000) (hd : x.J.length ≤ (ownR n L).length) :
  Calls Tryd.prog 44 #[pt gm, .int .i64 n] w fun e_ w' => e_ = .returned (.bool false) ∧ Own N w' [] ∧ KeepS N w w' := by
 have HM_0 : Aside0 (CellN N w gm #[.int .i64 cf.cl, .int .i64 cf.win, .int .i64 cf.push, .int .i64 cf.pull, .int .i64 cf.mtu, .int .i64 cf.last, .slice AL L.length cL, .slice AC nc cC] 123) := ⟨hm⟩
 have HP_0 : Aside0 (Kd.F (Kd.raw 1) w N AC nc (ptrs qs)) := ⟨hp⟩
 have HX_0 : Aside0 (CellN N w q.1 #[.int .i64 x.e, .slice AJ x.J.length cJ, .int .i64 x.k, .int .i64 x.c, .slice AU x.U.length cU] 127) := ⟨hx⟩
 have HL_0 : Aside0 (Kd.F kR7 w N AL L.length L) := ⟨hl⟩
 have HN := Aside0.mk hn
 have HB := Aside0.mk hb
 have HQ := Aside0.mk hq
 have HLL := Aside0.mk hL
 obtain ⟨v, hv⟩ : ∃ v : Nat, (ownR n L).length = v := ⟨_, rfl⟩
 rw [hv] at hd
 have HV := Aside0.mk hv
 have d1 : decide ((v : Int) ≥ (x.J.length : Int)) = true := decide_eq_true (by omega)
 have d2 : decide ((x.J.length : Int) ≤ (v : Int)) = true := d1
 have d3 := eq_true (show x.J.length ≤ v from hd)
 clear hn hb hq hL hd hv
 have O0 : Aside0 (Own N w []) := ⟨h⟩
 have K0 : Aside0 (KeepS N w w) := ⟨KeepS.refl _ _⟩
 obtain ⟨ma, mb, mc, md, me, mf, mg, mh, mz⟩ := blk8_ (HM_0.out.2)
 obtain ⟨xa, xb, xc, xd, xe, xz⟩ := blk5_ (HX_0.out.2)
 clear h hm hp hx hl
 go_enter Tryd.func44, Tryd.ntmps44
 go_wp2_with (first | ((with_reducible refine gC 77 rfl ?_); refine gP (some 9) Tryd.func77 #[pt gm, .int .i64 n] ?_; obtain ⟨N_, on_, nn_, rr_, bb_⟩ := O0.out.frame0; refine (MClient_ok n on_ (CellN.mono HM_0.out nn_) (Kd.F_mono HP_0.out nn_) HN.out HB.out HQ.out).mono ?_; rintro e_ w1 ⟨rfl, oo_, kk_⟩; obtain ⟨o_, k_⟩ := bb_ _ _ kk_ oo_; refine ⟨_, rfl, ?_⟩; obtain ⟨O1, K1⟩ := ok_ K0 o_ k_; have HM_1 := Aside0.mk (CellN.keep HM_0.out k_); have HP_1 := Aside0.mk (keepF HP_0.out k_); have HX_1 := Aside0.mk (CellN.keep HX_0.out k_); have HL_1 := Aside0.mk (keepF HL_0.out k_); clear ma mb mc md me mf mg mh mz xa xb xc xd xe xz O0 K0 HM_0 HP_0 HX_0 HL_0; obtain ⟨ma, mb, mc, md, me, mf, mg, mh, mz⟩ := blk8_ (HM_1.out.2); obtain ⟨xa, xb, xc, xd, xe, xz⟩ := blk5_ (HX_1.out.2); clear o_ k_ oo_ kk_ on_ nn_ rr_ bb_) | ((with_reducible refine gC 84 rfl ?_); refine gP (some 17) Tryd.func84 #[.int .i64 n, .slice AL L.length cL] ?_; obtain ⟨N_, on_, nn_, rr_, bb_⟩ := O1.out.frame0; refine (MOf_n n AL cL L.length v L rfl HV.out on_ (Kd.F_mono HL_1.out nn_) HLL.out).mono ?_; rintro e_ w2 ⟨rfl, oo_, kk_⟩; obtain ⟨o_, k_⟩ := bb_ _ _ kk_ oo_; refine ⟨_, rfl, ?_⟩; obtain ⟨O2, K2⟩ := ok_ K1 o_ k_; have HM_2 := Aside0.mk (CellN.keep HM_1.out k_); have HP_2 := Aside0.mk (keepF HP_1.out k_); have HX_2 := Aside0.mk (CellN.keep HX_1.out k_); have HL_2 := Aside0.mk (keepF HL_1.out k_); clear ma mb mc md me mf mg mh mz xa xb xc xd xe xz O1 K1 HM_1 HP_1 HX_1 HL_1; obtain ⟨ma, mb, mc, md, me, mf, mg, mh, mz⟩ := blk8_ (HM_2.out.2); obtain ⟨xa, xb, xc, xd, xe, xz⟩ := blk5_ (HX_2.out.2); clear o_ k_ oo_ kk_ on_ nn_ rr_ bb_))
 go_ret
 exact ⟨rfl, O2.out, K2.out⟩
theorem MCommit_ok {N : Nat → Prop} {w : World} {gm : Nat} {cf : MCf} {L : List Rnd7} {cls : List MCl} {x : MCl} {d : Nat} {r : Rnd7} (n : Int) (h : Own N w [ModO gm cf L cls]) (hn : 1 ≤ n ∧ n ≤ cls.length) (hb : cls.length ≤ 64) (hL : L.length ≤ 1000000) (hx : cls[n.toNat - 1]? = some x) (hd : (ownR n L).length = d) (hr : x.J[d]? = some r) :
  Calls Tryd.prog 44 #[pt gm, .int .i64 n] w fun e_ w' => e_ = .returned (.bool true) ∧ Own N w' [ModO gm cf (L ++ [r]) cls] ∧ KeepS N w w' := by
 obtain ⟨AL, cL, AC, cC, rL, qs, q, AJ, cJ, AU, cU, ⟨hq, hrl, hqj⟩, hqi, h2⟩ := ModO.at h hx
 obtain ⟨Fp, hpl⟩ := h2.fact (i := 1) rfl
 obtain ⟨B, b, hrw, _⟩ := (hpl (q.2, x.J) (pool_mem hqi hx)).nth hr
 obtain ⟨ad, eJ⟩ := raw_ad (h2.nreads (i := 7) rfl).2.2 hrw
 subst eJ
 have HRW : Aside0 (q.2[d]? = some (rw3 r.f0 r.f1 (.slice B r.f2.length b))) := ⟨hrw⟩
 have HN := Aside0.mk hn
 have HB := Aside0.mk hb
 have HQI := Aside0.mk hqi
 have HLL := Aside0.mk hL
 have HV := Aside0.mk hd
 have HRL := Aside0.mk hrl
 have hdl := (List.getElem?_eq_some_iff.1 hr).1
 have HDL := Aside0.mk hdl
 have HXX := Aside0.mk hx
 have HRR := Aside0.mk hr
 have HQL := Aside0.mk hq
 have d1 : decide ((d : Int) ≥ (x.J.length : Int)) = false := decide_eq_false (by omega)
 have d2 : decide ((x.J.length : Int) ≤ (d : Int)) = false := d1
 have d3 := eq_false (show ¬ x.J.length ≤ d by omega)
 have hp0 := eq_true (show (0 : Int) ≤ (d : Int) by omega)
 have hp1 := eq_true (show (d : Int) < (x.J.length : Int) by omega)
 have hp2 := eq_true (show d < x.J.length from hdl)
 have hrl2 : (rL ++ [rw3 r.f0 r.f1 (.slice B r.f2.length b)]).length = L.length + 1 := by rw [List.length_append, hrl]; rfl
 obtain ⟨rL2, hr2⟩ : ∃ r2, rL ++ [rw3 r.f0 r.f1 (.slice B r.f2.length b)] = r2 := ⟨_, rfl⟩
 rw [hr2] at hrl2
 have HR2 := Aside0.mk hr2
 have HRL2 := Aside0.mk hrl2
 have O0 : Aside0 (Own N w [cells gm #[.int .i64 cf.cl, .int .i64 cf.win, .int .i64 cf.push, .int .i64 cf.pull, .int .i64 cf.mtu, .int .i64 cf.last, .slice AL L.length cL, .slice AC cls.length cC] 123, poolI rL L qs cls, bigs ((clsI qs cls).set (n.toNat - 1) emp), nrow (Kd.raw 1) tMP (.slice AC cls.length cC) (ptrs qs), nrow (Kd.raw 3) tR7 (.slice AL L.length cL) rL, cells q.1 #[.int .i64 x.e, .slice (some ad) x.J.length cJ, .int .i64 x.k, .int .i64 x.c, .slice AU x.U.length cU] 127, nrow kU7 tU7 (.slice AU x.U.length cU) x.U, nrow (Kd.raw 3) tR7 (.slice (some ad) x.J.length cJ) q.2]) := ⟨h2⟩
 have K0 : Aside0 (KeepS N w w) := ⟨KeepS.refl _ _⟩
 have a0 := k8_ O0 0
 have a5 := k5_ O0 5
 clear h h2 hx hr hd hn hb hL hq hrl hqj hqi hpl hrw hdl hr2 hrl2
 go_enter Tryd.func44, Tryd.ntmps44
 go_wp2_with (first | ((with_reducible refine gC 77 rfl ?_); refine gP (some 9) Tryd.func77 #[pt gm, .int .i64 n] ?_; obtain ⟨N_, on_, nn_, rr_, bb_⟩ := O0.out.frame0; refine (MClient_ok (L := L) n on_ (rr_ 0 _ rfl) (Kd.N_F (rr_ 3 _ rfl)) HN.out HB.out HQI.out).mono ?_; rintro e_ w1 ⟨rfl, oo_, kk_⟩; obtain ⟨o_, k_⟩ := bb_ _ _ kk_ oo_; refine ⟨_, rfl, ?_⟩; obtain ⟨O1, K1⟩ := ok_ K0 o_ k_; clear a0 a5 O0 K0 o_ k_ oo_ kk_ on_ nn_ rr_ bb_; have a0 := k8_ O1 0; have a5 := k5_ O1 5) | ((with_reducible refine gC 84 rfl ?_); refine gP (some 17) Tryd.func84 #[.int .i64 n, .slice AL L.length cL] ?_; obtain ⟨N_, on_, nn_, rr_, bb_⟩ := O1.out.frame0; refine (MOf_n n AL cL L.length d L rfl HV.out on_ (leadF (rr_ 4 _ rfl) (pool_get (rr_ 1 _ rfl) List.mem_cons_self) HRL.out.symm) HLL.out).mono ?_; rintro e_ w2 ⟨rfl, oo_, kk_⟩; obtain ⟨o_, k_⟩ := bb_ _ _ kk_ oo_; refine ⟨_, rfl, ?_⟩; obtain ⟨O2, K2⟩ := ok_ K1 o_ k_; clear a0 a5 O1 K1 o_ k_ oo_ kk_ on_ nn_ rr_ bb_; have a0 := k8_ O2 0; have a5 := k5_ O2 5))
 refine sP (n := 17) (S := fun w' => w'.cell? ⟨gm, 0, none⟩ = some (.int .i64 cf.cl) ∧ w'.cell? ⟨gm, 1, none⟩ = some (.int .i64 cf.win) ∧ w'.cell? ⟨gm, 2, none⟩ = some (.int .i64 cf.push) ∧ w'.cell? ⟨gm, 3, none⟩ = some (.int .i64 cf.pull) ∧ w'.cell? ⟨gm, 4, none⟩ = some (.int .i64 cf.mtu) ∧ w'.cell? ⟨gm, 5, none⟩ = some (.int .i64 cf.last) ∧ w'.cell? ⟨gm, 6, none⟩ = some (.slice AL L.length cL) ∧ w'.cell? ⟨gm, 7, none⟩ = some (.slice AC cls.length cC) ∧ w'.cell? ⟨q.1, 0, none⟩ = some (.int .i64 x.e) ∧ w'.cell? ⟨q.1, 1, none⟩ = some (.slice (some ad) x.J.length cJ) ∧ w'.cell? ⟨q.1, 2, none⟩ = some (.int .i64 x.k) ∧ w'.cell? ⟨q.1, 3, none⟩ = some (.int .i64 x.c) ∧ w'.cell? ⟨q.1, 4, none⟩ = some (.slice AU x.U.length cU) ∧ w'.cell? (ad.add (d * 3)) = some (.int .i64 r.f0) ∧ w'.cell? ⟨(ad.add (d * 3)).block, (ad.add (d * 3)).off + 1, none⟩ = some (.int .i64 r.f1) ∧ w'.cell? ⟨(ad.add (d * 3)).block, (ad.add (d * 3)).off + 2, none⟩ = some (.slice B r.f2.length b)) (ds := [16]) ⟨a0.1, a0.2.1, a0.2.2.1, a0.2.2.2.1, a0.2.2.2.2.1, a0.2.2.2.2.2.1, a0.2.2.2.2.2.2.1, a0.2.2.2.2.2.2.2.1, a5.1, a5.2.1, a5.2.2.1, a5.2.2.2.1, a5.2.2.2.2.1, (raw3c (O2.out.nreads (i := 7) rfl).2.2 HRW.out).1, (raw3c (O2.out.nreads (i := 7) rfl).2.2 HRW.out).2.1, (raw3c (O2.out.nreads (i := 7) rfl).2.2 HRW.out).2.2⟩ (fun hHeld => ?_)
 obtain ⟨w3, hw_⟩ : ∃ W, W = w2.drew := ⟨_, rfl⟩
 have o_ := O2.out.drew
 have k_ : KeepS N w2 w2.drew := KeepS.drew
 rw [← hw_] at o_ k_ hHeld ⊢
 clear hw_
 obtain ⟨O3, K3⟩ := ok_ K2 o_ k_
 clear a0 a5 O2 K2 o_ k_
 have a0 := k8_ O3 0
 have a5 := k5_ O3 5
 refine pP 0 (some 25) ?_
 refine pP 1 (some 26) ?_
 refine pP 2 (some 27) ?_
 refine pP 3 (some 28) ?_
 refine pP 5 (some 30) ?_
 refine pP 6 (some 31) ?_
 refine pP 7 (some 32) ?_
 refine pP 9 (some 34) ?_
 refine tP 4 (some 29) hHeld ?_
 refine tP 8 (some 33) hHeld ?_
 refine pP 10 (some 35) ?_
 refine tP 11 (some 36) hHeld ?_
 refine oP 12 (some 37) (fun K_ hK_ => ?_)
 refine own_lit_step (Kd.raw 3) (N := N) (e := tR7) (xs := [rw3 r.f0 r.f1 (.slice B r.f2.length b)]) (inner := [.int .i64 r.f0, .int .i64 r.f1, .slice B r.f2.length b]) rfl rfl gs_ (repW _ _ _ _ _ _) (by show 1 ≤ 9223372036854775807; decide) O3.out ?_
 intro B1 b1 w4 o_ k_
 obtain ⟨O4, K4⟩ := ok_ K3 o_ k_
 clear a0 a5 O3 K3 o_ k_
 have a0 := k8_ O4 0
 have a5 := k5_ O4 5
 clear hHeld
 refine hK_.out _ _ ⟨a0.1, a0.2.1, a0.2.2.1, a0.2.2.2.1, a0.2.2.2.2.1, a0.2.2.2.2.2.1, a0.2.2.2.2.2.2.1, a0.2.2.2.2.2.2.2.1, a5.1, a5.2.1, a5.2.2.1, a5.2.2.2.1, a5.2.2.2.2.1, (raw3c (O4.out.nreads (i := 7) rfl).2.2 HRW.out).1, (raw3c (O4.out.nreads (i := 7) rfl).2.2 HRW.out).2.1, (raw3c (O4.out.nreads (i := 7) rfl).2.2 HRW.out).2.2⟩ (fun hHeld => ?_)
 clear hK_ K_
 refine nP ?_
 refine oP 13 (some 38) (fun K_ hK_ => ?_)
 refine Own.append_flat_step (Kd.raw 3) flatRaw O4.out (i := 4) (ys := [rw3 r.f0 r.f1 (.slice B r.f2.length b)]) rfl (O4.out.nreads (i := 8) rfl).2.2 rfl (by rfl) (.tmp 29) (.tmp 37) 40 (.agg #[.int .i64 0, .int .i64 0, .slice none 0 0]) 40 rfl Tryd.underlying40 infoR rfl (by decide) (by decide) rfl rfl (by have := HLL.out; have := HRL.out; omega) ?_
 rw [HR2.out, HRL2.out]
 intro B2 b2 w5 o_ k_
 obtain ⟨O5, K5⟩ := ok_ K4 o_ k_
 clear a0 a5 O4 K4 o_ k_
 have a0 := k8_ O5 0
 have a5 := k5_ O5 5
 clear hHeld
 refine hK_.out _ _ ⟨a0.1, a0.2.1, a0.2.2.1, a0.2.2.2.1, a0.2.2.2.2.1, a0.2.2.2.2.2.1, a0.2.2.2.2.2.2.1, a0.2.2.2.2.2.2.2.1, a5.1, a5.2.1, a5.2.2.1, a5.2.2.2.1, a5.2.2.2.2.1, (raw3c (O5.out.nreads (i := 7) rfl).2.2 HRW.out).1, (raw3c (O5.out.nreads (i := 7) rfl).2.2 HRW.out).2.1, (raw3c (O5.out.nreads (i := 7) rfl).2.2 HRW.out).2.2⟩ (fun hHeld => ?_)
 clear hK_ K_
 refine nP ?_
 refine pP 14 (some 39) ?_
 refine pP 15 (some 40) ?_
 refine lP 16 none (fun K_ hK_ => ?_)
 refine xS 0 6 [.slice B2 (L.length + 1) b2] O5 ?_
 intro w6 o_ k_
 obtain ⟨O6, K6⟩ := ok_ K5 o_ k_
 clear a0 a5 O5 K5 o_ k_
 have a0 := k8_ O6 0
 have a5 := k5_ O6 5
 refine hK_.out _ _ ?_
 clear hK_ K_
 refine done_ (by kernel_rfl) ?_
 clear hHeld
 go_wp2
 go_ret
 have hz := O6.out.pickL [0, 1, 2, 3, 4, 5, 6, 7] (by decide) (by simp)
 rw [← HR2.out] at hz
 exact ⟨rfl, ModO.backC HXX.out HQL.out HQI.out HRW.out HRR.out hz, K6.out⟩
theorem MCommit {N : Nat → Prop} {w : World} {gm : Nat} {cf : MCf} {L : List Rnd7} {cls : List MCl} (n : Int) (h : Own N w [ModO gm cf L cls]) (hb : cls.length ≤ 64) (hL : L.length ≤ 1000000) :
  Calls Tryd.prog 44 #[pt gm, .int .i64 n] w fun e_ w' => e_ = .returned (.bool (nextR n L cls).isSome) ∧ Own N w' [ModO gm cf (cmtL n L cls) cls] ∧ KeepS N w w' := by
 unfold cmtL nextR
 cases hc : clAt cls n with
 | none =>
  simp only [Option.bind_none, Option.isSome_none, Option.toList_none, List.append_nil]
  obtain ⟨N_, on_, nn_, rr_, bb_⟩ := h.frame0
  obtain ⟨AL, cL, AC, cC, qs, hq, e1, hm, hp, hl, _, _⟩ := ModO.view0 (rr_ 0 _ rfl)
  exact (MCommit_no n on_ hm hp (clAt_none hc)).mono fun e_ w' ⟨a, b, c⟩ => ⟨a, (bb_ w' [] c b).1, (bb_ w' [] c b).2⟩
 | some x =>
  obtain ⟨hn, hx⟩ := clAt_some hc
  simp only [Option.bind_some]
  cases hr : x.J[(ownR n L).length]? with
  | none =>
   simp only [Option.isSome_none, Option.toList_none, List.append_nil]
   obtain ⟨N_, on_, nn_, rr_, bb_⟩ := h.frame0
   obtain ⟨AL, cL, AC, cC, qs, q, AJ, cJ, AU, cU, hqi, e1, e2, e3, hm, hp, hl, hx1, hj, hu⟩ := ModO.view (rr_ 0 _ rfl) hx
   exact (MCommit_done n on_ hm hp hx1 hl hn hb hqi hL (List.getElem?_eq_none_iff.1 hr)).mono fun e_ w' ⟨a, b, c⟩ => ⟨a, (bb_ w' [] c b).1, (bb_ w' [] c b).2⟩
  | some r => exact MCommit_ok n h hn hb hL hx rfl hr
def comesB (cf : MCf) (L : List Rnd7) (x : MCl) : Bool := decide ((x.c : Int) < cf.pull ∧ x.k + x.c < L.length)
def comeS (n : Int) (cf : MCf) (L : List Rnd7) (cls : List MCl) : Bool × List MCl := match clAt cls n with
 | none => (false, cls)
 | some x => if comesB cf L x then (true, cls.set (n.toNat - 1) { x with c := x.c + 1 }) else (false, cls)
theorem MCome_no {N : Nat → Prop} {w : World} {gm nc cL cC : Nat} {cf : MCf} {AL AC : Option Addr} {L : List Rnd7} {qs : List (Nat × RawR)} (n : Int) (h : Own N w []) (hm : CellN N w gm #[.int .i64 cf.cl, .int .i64 cf.win, .int .i64 cf.push, .int .i64 cf.pull, .int .i64 cf.mtu, .int .i64 cf.last, .slice AL L.length cL, .slice AC nc cC] 123) (hp : Kd.F (Kd.raw 1) w N AC nc (ptrs qs)) (hn : ¬ (1 ≤ n ∧ n ≤ nc)) :
  Calls Tryd.prog 45 #[pt gm, .int .i64 n] w fun e_ w' => e_ = .returned (.bool false) ∧ Own N w' [] ∧ KeepS N w w' := by
 have HM_0 : Aside0 (CellN N w gm #[.int .i64 cf.cl, .int .i64 cf.win, .int .i64 cf.push, .int .i64 cf.pull, .int .i64 cf.mtu, .int .i64 cf.last, .slice AL L.length cL, .slice AC nc cC] 123) := ⟨hm⟩
 have HP_0 : Aside0 (Kd.F (Kd.raw 1) w N AC nc (ptrs qs)) := ⟨hp⟩
 have O0 : Aside0 (Own N w []) := ⟨h⟩
 have K0 : Aside0 (KeepS N w w) := ⟨KeepS.refl _ _⟩
 obtain ⟨ma, mb, mc, md, me, mf, mg, mh, mz⟩ := blk8_ (HM_0.out.2)
 clear h hm hp
 have HN := Aside0.mk hn
 clear hn
 go_enter Tryd.func45, Tryd.ntmps45
 go_wp2_with (first | ((with_reducible refine gC 77 rfl ?_); refine gP (some 8) Tryd.func77 #[pt gm, .int .i64 n] ?_; obtain ⟨N_, on_, nn_, rr_, bb_⟩ := O0.out.frame0; refine (MClient_no n on_ (CellN.mono HM_0.out nn_) (Kd.F_mono HP_0.out nn_) HN.out).mono ?_; rintro e_ w1 ⟨rfl, oo_, kk_⟩; obtain ⟨o_, k_⟩ := bb_ _ _ kk_ oo_; refine ⟨_, rfl, ?_⟩; obtain ⟨O1, K1⟩ := ok_ K0 o_ k_; have HM_1 := Aside0.mk (CellN.keep HM_0.out k_); have HP_1 := Aside0.mk (keepF HP_0.out k_); clear ma mb mc md me mf mg mh mz O0 K0 HM_0 HP_0; obtain ⟨ma, mb, mc, md, me, mf, mg, mh, mz⟩ := blk8_ (HM_1.out.2); clear o_ k_ oo_ kk_ on_ nn_ rr_ bb_))
 refine sP (n := 31) (S := c8_ gm (.int .i64 cf.cl) (.int .i64 cf.win) (.int .i64 cf.push) (.int .i64 cf.pull) (.int .i64 cf.mtu) (.int .i64 cf.last) (.slice AL L.length cL) (.slice AC nc cC)) (ds := []) ⟨ma, mb, mc, md, me, mf, mg, mh⟩ (fun hHeld => ?_)
 obtain ⟨w2, hw_⟩ : ∃ W, W = w1.drew := ⟨_, rfl⟩
 have o_ := O1.out.drew
 have k_ : KeepS N w1 w1.drew := KeepS.drew
 rw [← hw_] at o_ k_ hHeld ⊢
 clear hw_
 obtain ⟨O2, K2⟩ := ok_ K1 o_ k_
 have HM_2 := Aside0.mk (CellN.keep HM_1.out k_)
 have HP_2 := Aside0.mk (keepF HP_1.out k_)
 clear ma mb mc md me mf mg mh mz O1 K1 HM_1 HP_1
 obtain ⟨ma, mb, mc, md, me, mf, mg, mh, mz⟩ := blk8_ (HM_2.out.2)
 clear o_ k_
 refine pP 0 (some 9) ?_
 refine pP 1 (some 10) ?_
 refine pP 2 (some 11) ?_
 refine pS 3 (some 12) ?_
 refine pS 4 (some 13) ?_
 refine pS 5 (some 14) ?_
 refine pS 7 (some 16) ?_
 refine pS 8 (some 17) ?_
 refine pS 9 (some 18) ?_
 refine pS 10 (some 19) ?_
 refine tS 6 (some 15) hHeld ?_
 refine tS 11 (some 20) hHeld ?_
 refine pS 12 (some 21) ?_
 refine pP 13 (some 22) ?_
 refine pP 14 (some 23) ?_
 refine pS 15 (some 24) ?_
 refine pS 16 (some 25) ?_
 refine pS 17 (some 26) ?_
 refine pS 19 (some 28) ?_
 refine pS 20 (some 29) ?_
 refine pS 21 (some 30) ?_
 refine pS 24 (some 33) ?_
 refine pS 25 (some 34) ?_
 refine pS 26 (some 35) ?_
 refine tS 18 (some 27) hHeld ?_
 refine tS 22 (some 31) hHeld ?_
 refine pS 23 (some 32) ?_
 refine tS 27 (some 36) hHeld ?_
 refine pS 28 (some 37) ?_
 refine pS 29 (some 38) ?_
 refine pP 30 (some 39) ?_
 refine done_ (by kernel_rfl) ?_
 clear hHeld
 go_wp2
 go_ret
 exact ⟨rfl, O2.out, K2.out⟩
theorem MCome_full {N : Nat → Prop} {w : World} {gm nc cL cC : Nat} {cf : MCf} {AL AC : Option Addr} {L : List Rnd7} {qs : List (Nat × RawR)} {q : Nat × RawR} {x : MCl} {AJ AU : Option Addr} {cJ cU : Nat} (n : Int) (h : Own N w []) (hm : CellN N w gm #[.int .i64 cf.cl, .int .i64 cf.win, .int .i64 cf.push, .int .i64 cf.pull, .int .i64 cf.mtu, .int .i64 cf.last, .slice AL L.length cL, .slice AC nc cC] 123) (hp : Kd.F (Kd.raw 1) w N AC nc (ptrs qs)) (hx : CellN N w q.1 #[.int .i64 x.e, .slice AJ x.J.length cJ, .int .i64 x.k, .int .i64 x.c, .slice AU x.U.length cU] 127) (hn : 1 ≤ n ∧ n ≤ nc) (hb : nc ≤ 64) (hq : qs[n.toNat - 1]? = some q) (h1 : cf.pull ≤ (x.c : Int)) :
  Calls Tryd.prog 45 #[pt gm, .int .i64 n] w fun e_ w' => e_ = .returned (.bool false) ∧ Own N w' [] ∧ KeepS N w w' := by
 have HM_0 : Aside0 (CellN N w gm #[.int .i64 cf.cl, .int .i64 cf.win, .int .i64 cf.push, .int .i64 cf.pull, .int .i64 cf.mtu, .int .i64 cf.last, .slice AL L.length cL, .slice AC nc cC] 123) := ⟨hm⟩
 have HP_0 : Aside0 (Kd.F (Kd.raw 1) w N AC nc (ptrs qs)) := ⟨hp⟩
 have HX_0 : Aside0 (CellN N w q.1 #[.int .i64 x.e, .slice AJ x.J.length cJ, .int .i64 x.k, .int .i64 x.c, .slice AU x.U.length cU] 127) := ⟨hx⟩
 have HN := Aside0.mk hn
 have HB := Aside0.mk hb
 have HQ := Aside0.mk hq
 have d1 : decide ((x.c : Int) ≥ cf.pull) = true := decide_eq_true (by omega)
 have d2 : decide (cf.pull ≤ (x.c : Int)) = true := d1
 clear hn hb hq h1
 have O0 : Aside0 (Own N w []) := ⟨h⟩
 have K0 : Aside0 (KeepS N w w) := ⟨KeepS.refl _ _⟩
 obtain ⟨ma, mb, mc, md, me, mf, mg, mh, mz⟩ := blk8_ (HM_0.out.2)
 obtain ⟨xa, xb, xc, xd, xe, xz⟩ := blk5_ (HX_0.out.2)
 clear h hm hp hx
 go_enter Tryd.func45, Tryd.ntmps45
 go_wp2_with (first | ((with_reducible refine gC 77 rfl ?_); refine gP (some 8) Tryd.func77 #[pt gm, .int .i64 n] ?_; obtain ⟨N_, on_, nn_, rr_, bb_⟩ := O0.out.frame0; refine (MClient_ok n on_ (CellN.mono HM_0.out nn_) (Kd.F_mono HP_0.out nn_) HN.out HB.out HQ.out).mono ?_; rintro e_ w1 ⟨rfl, oo_, kk_⟩; obtain ⟨o_, k_⟩ := bb_ _ _ kk_ oo_; refine ⟨_, rfl, ?_⟩; obtain ⟨O1, K1⟩ := ok_ K0 o_ k_; have HM_1 := Aside0.mk (CellN.keep HM_0.out k_); have HP_1 := Aside0.mk (keepF HP_0.out k_); have HX_1 := Aside0.mk (CellN.keep HX_0.out k_); clear ma mb mc md me mf mg mh mz xa xb xc xd xe xz O0 K0 HM_0 HP_0 HX_0; obtain ⟨ma, mb, mc, md, me, mf, mg, mh, mz⟩ := blk8_ (HM_1.out.2); obtain ⟨xa, xb, xc, xd, xe, xz⟩ := blk5_ (HX_1.out.2); clear o_ k_ oo_ kk_ on_ nn_ rr_ bb_))
 refine sP (n := 31) (S := fun w' => w'.cell? ⟨gm, 0, none⟩ = some (.int .i64 cf.cl) ∧ w'.cell? ⟨gm, 1, none⟩ = some (.int .i64 cf.win) ∧ w'.cell? ⟨gm, 2, none⟩ = some (.int .i64 cf.push) ∧ w'.cell? ⟨gm, 3, none⟩ = some (.int .i64 cf.pull) ∧ w'.cell? ⟨gm, 4, none⟩ = some (.int .i64 cf.mtu) ∧ w'.cell? ⟨gm, 5, none⟩ = some (.int .i64 cf.last) ∧ w'.cell? ⟨gm, 6, none⟩ = some (.slice AL L.length cL) ∧ w'.cell? ⟨gm, 7, none⟩ = some (.slice AC nc cC) ∧ w'.cell? ⟨q.1, 0, none⟩ = some (.int .i64 x.e) ∧ w'.cell? ⟨q.1, 1, none⟩ = some (.slice AJ x.J.length cJ) ∧ w'.cell? ⟨q.1, 2, none⟩ = some (.int .i64 x.k) ∧ w'.cell? ⟨q.1, 3, none⟩ = some (.int .i64 x.c) ∧ w'.cell? ⟨q.1, 4, none⟩ = some (.slice AU x.U.length cU)) (ds := []) ⟨ma, mb, mc, md, me, mf, mg, mh, xa, xb, xc, xd, xe⟩ (fun hHeld => ?_)
 obtain ⟨w2, hw_⟩ : ∃ W, W = w1.drew := ⟨_, rfl⟩
 have o_ := O1.out.drew
 have k_ : KeepS N w1 w1.drew := KeepS.drew
 rw [← hw_] at o_ k_ hHeld ⊢
 clear hw_
 obtain ⟨O2, K2⟩ := ok_ K1 o_ k_
 have HM_2 := Aside0.mk (CellN.keep HM_1.out k_)
 have HP_2 := Aside0.mk (keepF HP_1.out k_)
 have HX_2 := Aside0.mk (CellN.keep HX_1.out k_)
 clear ma mb mc md me mf mg mh mz xa xb xc xd xe xz O1 K1 HM_1 HP_1 HX_1
 obtain ⟨ma, mb, mc, md, me, mf, mg, mh, mz⟩ := blk8_ (HM_2.out.2)
 obtain ⟨xa, xb, xc, xd, xe, xz⟩ := blk5_ (HX_2.out.2)
 clear o_ k_
 refine pP 0 (some 9) ?_
 refine pP 1 (some 10) ?_
 refine pP 2 (some 11) ?_
 refine pP 3 (some 12) ?_
 refine pP 4 (some 13) ?_
 refine pP 5 (some 14) ?_
 refine pP 7 (some 16) ?_
 refine pP 8 (some 17) ?_
 refine pP 9 (some 18) ?_
 refine pP 10 (some 19) ?_
 refine tP 6 (some 15) hHeld ?_
 refine tP 11 (some 20) hHeld ?_
 refine pP 12 (some 21) ?_
 refine pP 13 (some 22) ?_
 refine pP 14 (some 23) ?_
 refine pS 15 (some 24) ?_
 refine pS 16 (some 25) ?_
 refine pS 17 (some 26) ?_
 refine pS 19 (some 28) ?_
 refine pS 20 (some 29) ?_
 refine pS 21 (some 30) ?_
 refine pS 24 (some 33) ?_
 refine pS 25 (some 34) ?_
 refine pS 26 (some 35) ?_
 refine tS 18 (some 27) hHeld ?_
 refine tS 22 (some 31) hHeld ?_
 refine pS 23 (some 32) ?_
 refine tS 27 (some 36) hHeld ?_
 refine pS 28 (some 37) ?_
 refine pS 29 (some 38) ?_
 refine pP 30 (some 39) ?_
 refine done_ (by kernel_rfl) ?_
 clear hHeld
 go_wp2
 go_ret
 exact ⟨rfl, O2.out, K2.out⟩
theorem MCome_end {N : Nat → Prop} {w : World} {gm nc cL cC : Nat} {cf : MCf} {AL AC : Option Addr} {L : List Rnd7} {qs : List (Nat × RawR)} {q : Nat × RawR} {x : MCl} {AJ AU : Option Addr} {cJ cU : Nat} (n : Int) (h : Own N w []) (hm : CellN N w gm #[.int .i64 cf.cl, .int .i64 cf.win, .int .i64 cf.push, .int .i64 cf.pull, .int .i64 cf.mtu, .int .i64 cf.last, .slice AL L.length cL, .slice AC nc cC] 123) (hp : Kd.F (Kd.raw 1) w N AC nc (ptrs qs)) (hx : CellN N w q.1 #[.int .i64 x.e, .slice AJ x.J.length cJ, .int .i64 x.k, .int .i64 x.c, .slice AU x.U.length cU] 127) (hn : 1 ≤ n ∧ n ≤ nc) (hb : nc ≤ 64) (hq : qs[n.toNat - 1]? = some q) (h1 : (x.c : Int) < cf.pull) (h2 : L.length ≤ x.k + x.c) (hs : x.k + x.c ≤ 1000000) :
  Calls Tryd.prog 45 #[pt gm, .int .i64 n] w fun e_ w' => e_ = .returned (.bool false) ∧ Own N w' [] ∧ KeepS N w w' := by
 have HM_0 : Aside0 (CellN N w gm #[.int .i64 cf.cl, .int .i64 cf.win, .int .i64 cf.push, .int .i64 cf.pull, .int .i64 cf.mtu, .int .i64 cf.last, .slice AL L.length cL, .slice AC nc cC] 123) := ⟨hm⟩
 have HP_0 : Aside0 (Kd.F (Kd.raw 1) w N AC nc (ptrs qs)) := ⟨hp⟩
 have HX_0 : Aside0 (CellN N w q.1 #[.int .i64 x.e, .slice AJ x.J.length cJ, .int .i64 x.k, .int .i64 x.c, .slice AU x.U.length cU] 127) := ⟨hx⟩
 have HN := Aside0.mk hn
 have HB := Aside0.mk hb
 have HQ := Aside0.mk hq
 have d1 : decide ((x.c : Int) ≥ cf.pull) = false := decide_eq_false (by omega)
 have d2 : decide (cf.pull ≤ (x.c : Int)) = false := d1
 have hs2 : wrap64 ((x.k : Int) + (x.c : Int)) = (x.k : Int) + (x.c : Int) := by unfold wrap64; omega
 have d3 : decide ((x.k : Int) + (x.c : Int) ≥ (L.length : Int)) = true := decide_eq_true (by omega)
 have d4 : decide ((L.length : Int) ≤ (x.k : Int) + (x.c : Int)) = true := d3
 clear hn hb hq h1 h2 hs
 have O0 : Aside0 (Own N w []) := ⟨h⟩
 have K0 : Aside0 (KeepS N w w) := ⟨KeepS.refl _ _⟩
 obtain ⟨ma, mb, mc, md, me, mf, mg, mh, mz⟩ := blk8_ (HM_0.out.2)
 obtain ⟨xa, xb, xc, xd, xe, xz⟩ := blk5_ (HX_0.out.2)
 clear h hm hp hx
 go_enter Tryd.func45, Tryd.ntmps45
 go_wp2_with (first | ((with_reducible refine gC 77 rfl ?_); refine gP (some 8) Tryd.func77 #[pt gm, .int .i64 n] ?_; obtain ⟨N_, on_, nn_, rr_, bb_⟩ := O0.out.frame0; refine (MClient_ok n on_ (CellN.mono HM_0.out nn_) (Kd.F_mono HP_0.out nn_) HN.out HB.out HQ.out).mono ?_; rintro e_ w1 ⟨rfl, oo_, kk_⟩; obtain ⟨o_, k_⟩ := bb_ _ _ kk_ oo_; refine ⟨_, rfl, ?_⟩; obtain ⟨O1, K1⟩ := ok_ K0 o_ k_; have HM_1 := Aside0.mk (CellN.keep HM_0.out k_); have HP_1 := Aside0.mk (keepF HP_0.out k_); have HX_1 := Aside0.mk (CellN.keep HX_0.out k_); clear ma mb mc md me mf mg mh mz xa xb xc xd xe xz O0 K0 HM_0 HP_0 HX_0; obtain ⟨ma, mb, mc, md, me, mf, mg, mh, mz⟩ := blk8_ (HM_1.out.2); obtain ⟨xa, xb, xc, xd, xe, xz⟩ := blk5_ (HX_1.out.2); clear o_ k_ oo_ kk_ on_ nn_ rr_ bb_))
 refine sP (n := 31) (S := fun w' => w'.cell? ⟨gm, 0, none⟩ = some (.int .i64 cf.cl) ∧ w'.cell? ⟨gm, 1, none⟩ = some (.int .i64 cf.win) ∧ w'.cell? ⟨gm, 2, none⟩ = some (.int .i64 cf.push) ∧ w'.cell? ⟨gm, 3, none⟩ = some (.int .i64 cf.pull) ∧ w'.cell? ⟨gm, 4, none⟩ = some (.int .i64 cf.mtu) ∧ w'.cell? ⟨gm, 5, none⟩ = some (.int .i64 cf.last) ∧ w'.cell? ⟨gm, 6, none⟩ = some (.slice AL L.length cL) ∧ w'.cell? ⟨gm, 7, none⟩ = some (.slice AC nc cC) ∧ w'.cell? ⟨q.1, 0, none⟩ = some (.int .i64 x.e) ∧ w'.cell? ⟨q.1, 1, none⟩ = some (.slice AJ x.J.length cJ) ∧ w'.cell? ⟨q.1, 2, none⟩ = some (.int .i64 x.k) ∧ w'.cell? ⟨q.1, 3, none⟩ = some (.int .i64 x.c) ∧ w'.cell? ⟨q.1, 4, none⟩ = some (.slice AU x.U.length cU)) (ds := []) ⟨ma, mb, mc, md, me, mf, mg, mh, xa, xb, xc, xd, xe⟩ (fun hHeld => ?_)
 obtain ⟨w2, hw_⟩ : ∃ W, W = w1.drew := ⟨_, rfl⟩
 have o_ := O1.out.drew
 have k_ : KeepS N w1 w1.drew := KeepS.drew
 rw [← hw_] at o_ k_ hHeld ⊢
 clear hw_
 obtain ⟨O2, K2⟩ := ok_ K1 o_ k_
 have HM_2 := Aside0.mk (CellN.keep HM_1.out k_)
 have HP_2 := Aside0.mk (keepF HP_1.out k_)
 have HX_2 := Aside0.mk (CellN.keep HX_1.out k_)
 clear ma mb mc md me mf mg mh mz xa xb xc xd xe xz O1 K1 HM_1 HP_1 HX_1
 obtain ⟨ma, mb, mc, md, me, mf, mg, mh, mz⟩ := blk8_ (HM_2.out.2)
 obtain ⟨xa, xb, xc, xd, xe, xz⟩ := blk5_ (HX_2.out.2)
 clear o_ k_
 refine pP 0 (some 9) ?_
 refine pP 1 (some 10) ?_
 refine pP 2 (some 11) ?_
 refine pP 3 (some 12) ?_
 refine pP 4 (some 13) ?_
 refine pP 5 (some 14) ?_
 refine pP 7 (some 16) ?_
 refine pP 8 (some 17) ?_
 refine pP 9 (some 18) ?_
 refine pP 10 (some 19) ?_
 refine tP 6 (some 15) hHeld ?_
 refine tP 11 (some 20) hHeld ?_
 refine pP 12 (some 21) ?_
 refine pP 13 (some 22) ?_
 refine pP 14 (some 23) ?_
 refine pP 15 (some 24) ?_
 refine pP 16 (some 25) ?_
 refine pP 17 (some 26) ?_
 refine pP 19 (some 28) ?_
 refine pP 20 (some 29) ?_
 refine pP 21 (some 30) ?_
 refine pP 24 (some 33) ?_
 refine pP 25 (some 34) ?_
 refine pP 26 (some 35) ?_
 refine tP 18 (some 27) hHeld ?_
 refine tP 22 (some 31) hHeld ?_
 refine pP 23 (some 32) ?_
 refine tP 27 (some 36) hHeld ?_
 refine pP 28 (some 37) ?_
 refine pP 29 (some 38) ?_
 refine pP 30 (some 39) ?_
 refine done_ (by kernel_rfl) ?_
 clear hHeld
 go_wp2
 go_ret
 exact ⟨rfl, O2.out, K2.out⟩
theorem MCome_ok {N : Nat → Prop} {w : World} {gm : Nat} {cf : MCf} {L : List Rnd7} {cls : List MCl} {x : MCl} (n : Int) (h : Own N w [ModO gm cf L cls]) (hn : 1 ≤ n ∧ n ≤ cls.length) (hb : cls.length ≤ 64) (hL : L.length ≤ 1000000) (hx : cls[n.toNat - 1]? = some x) (h1 : (x.c : Int) < cf.pull) (h2' : x.k + x.c < L.length) :
  Calls Tryd.prog 45 #[pt gm, .int .i64 n] w fun e_ w' => e_ = .returned (.bool true) ∧ Own N w' [ModO gm cf L (cls.set (n.toNat - 1) { x with c := x.c + 1 })] ∧ KeepS N w w' := by
 have d1 : decide ((x.c : Int) ≥ cf.pull) = false := decide_eq_false (by omega)
 have d2 : decide (cf.pull ≤ (x.c : Int)) = false := d1
 have hs2 : wrap64 ((x.k : Int) + (x.c : Int)) = (x.k : Int) + (x.c : Int) := by unfold wrap64; omega
 have d3 : decide ((x.k : Int) + (x.c : Int) ≥ (L.length : Int)) = false := decide_eq_false (by omega)
 have d4 : decide ((L.length : Int) ≤ (x.k : Int) + (x.c : Int)) = false := d3
 have hs3 : wrap64 ((x.c : Int) + 1) = (x.c : Int) + 1 := by unfold wrap64; omega
 obtain ⟨AL, cL, AC, cC, rL, qs, q, AJ, cJ, AU, cU, ⟨hq, hrl, hqj⟩, hqi, h2⟩ := ModO.at h hx
 have HN := Aside0.mk hn
 have HB := Aside0.mk hb
 have HQI := Aside0.mk hqi
 have HXX := Aside0.mk hx
 have HQL := Aside0.mk hq
 have O0 : Aside0 (Own N w [cells gm #[.int .i64 cf.cl, .int .i64 cf.win, .int .i64 cf.push, .int .i64 cf.pull, .int .i64 cf.mtu, .int .i64 cf.last, .slice AL L.length cL, .slice AC cls.length cC] 123, poolI rL L qs cls, bigs ((clsI qs cls).set (n.toNat - 1) emp), nrow (Kd.raw 1) tMP (.slice AC cls.length cC) (ptrs qs), nrow (Kd.raw 3) tR7 (.slice AL L.length cL) rL, cells q.1 #[.int .i64 x.e, .slice AJ x.J.length cJ, .int .i64 x.k, .int .i64 x.c, .slice AU x.U.length cU] 127, nrow kU7 tU7 (.slice AU x.U.length cU) x.U, nrow (Kd.raw 3) tR7 (.slice AJ x.J.length cJ) q.2]) := ⟨h2⟩
 have K0 : Aside0 (KeepS N w w) := ⟨KeepS.refl _ _⟩
 have a0 := k8_ O0 0
 have a5 := k5_ O0 5
 clear h h2 hx hn hb hq hrl hqj hqi h1 h2' hL
 go_enter Tryd.func45, Tryd.ntmps45
 go_wp2_with (first | ((with_reducible refine gC 77 rfl ?_); refine gP (some 8) Tryd.func77 #[pt gm, .int .i64 n] ?_; obtain ⟨N_, on_, nn_, rr_, bb_⟩ := O0.out.frame0; refine (MClient_ok (L := L) n on_ (rr_ 0 _ rfl) (Kd.N_F (rr_ 3 _ rfl)) HN.out HB.out HQI.out).mono ?_; rintro e_ w1 ⟨rfl, oo_, kk_⟩; obtain ⟨o_, k_⟩ := bb_ _ _ kk_ oo_; refine ⟨_, rfl, ?_⟩; obtain ⟨O1, K1⟩ := ok_ K0 o_ k_; clear a0 a5 O0 K0 o_ k_ oo_ kk_ on_ nn_ rr_ bb_; have a0 := k8_ O1 0; have a5 := k5_ O1 5))
 refine sP (n := 31) (S := fun w' => w'.cell? ⟨gm, 0, none⟩ = some (.int .i64 cf.cl) ∧ w'.cell? ⟨gm, 1, none⟩ = some (.int .i64 cf.win) ∧ w'.cell? ⟨gm, 2, none⟩ = some (.int .i64 cf.push) ∧ w'.cell? ⟨gm, 3, none⟩ = some (.int .i64 cf.pull) ∧ w'.cell? ⟨gm, 4, none⟩ = some (.int .i64 cf.mtu) ∧ w'.cell? ⟨gm, 5, none⟩ = some (.int .i64 cf.last) ∧ w'.cell? ⟨gm, 6, none⟩ = some (.slice AL L.length cL) ∧ w'.cell? ⟨gm, 7, none⟩ = some (.slice AC cls.length cC) ∧ w'.cell? ⟨q.1, 0, none⟩ = some (.int .i64 x.e) ∧ w'.cell? ⟨q.1, 1, none⟩ = some (.slice AJ x.J.length cJ) ∧ w'.cell? ⟨q.1, 2, none⟩ = some (.int .i64 x.k) ∧ w'.cell? ⟨q.1, 3, none⟩ = some (.int .i64 x.c) ∧ w'.cell? ⟨q.1, 4, none⟩ = some (.slice AU x.U.length cU)) (ds := []) (j8_ a0 (p5_ a5)) (fun hHeld => ?_)
 obtain ⟨w2, hw_⟩ : ∃ W, W = w1.drew := ⟨_, rfl⟩
 have o_ := O1.out.drew
 have k_ : KeepS N w1 w1.drew := KeepS.drew
 rw [← hw_] at o_ k_ hHeld ⊢
 clear hw_
 obtain ⟨O2, K2⟩ := ok_ K1 o_ k_
 clear a0 a5 O1 K1 o_ k_
 have a0 := k8_ O2 0
 have a5 := k5_ O2 5
 refine pP 0 (some 9) ?_
 refine pP 1 (some 10) ?_
 refine pP 2 (some 11) ?_
 refine pP 3 (some 12) ?_
 refine pP 4 (some 13) ?_
 refine pP 5 (some 14) ?_
 refine pP 7 (some 16) ?_
 refine pP 8 (some 17) ?_
 refine pP 9 (some 18) ?_
 refine pP 10 (some 19) ?_
 refine tP 6 (some 15) hHeld ?_
 refine tP 11 (some 20) hHeld ?_
 refine pP 12 (some 21) ?_
 refine pP 13 (some 22) ?_
 refine pP 14 (some 23) ?_
 refine pP 15 (some 24) ?_
 refine pP 16 (some 25) ?_
 refine pP 17 (some 26) ?_
 refine pP 19 (some 28) ?_
 refine pP 20 (some 29) ?_
 refine pP 21 (some 30) ?_
 refine pP 24 (some 33) ?_
 refine pP 25 (some 34) ?_
 refine pP 26 (some 35) ?_
 refine tP 18 (some 27) hHeld ?_
 refine tP 22 (some 31) hHeld ?_
 refine pP 23 (some 32) ?_
 refine tP 27 (some 36) hHeld ?_
 refine pP 28 (some 37) ?_
 refine pP 29 (some 38) ?_
 refine pP 30 (some 39) ?_
 refine done_ (by kernel_rfl) ?_
 clear hHeld
 go_wp2_with (first | ((with_reducible refine gT 3 46 rfl ?_); refine wS 5 3 [.int .i64 ((x.c : Int) + 1)] O2 ?_; intro w3 o_ k_; obtain ⟨O3, K3⟩ := ok_ K2 o_ k_; clear a0 a5 O2 K2 o_ k_; have a0 := k8_ O3 0; have a5 := k5_ O3 5))
 go_ret
 exact ⟨rfl, ModO.backU (x' := { x with c := x.c + 1 }) HXX.out HQL.out HQI.out rfl O3.out, K3.out⟩
theorem MCome {N : Nat → Prop} {w : World} {gm : Nat} {cf : MCf} {L : List Rnd7} {cls : List MCl} (n : Int) (h : Own N w [ModO gm cf L cls]) (hb : cls.length ≤ 64) (hL : L.length ≤ 1000000) (hk : ∀ x, clAt cls n = some x → x.k + x.c ≤ 1000000) :
  Calls Tryd.prog 45 #[pt gm, .int .i64 n] w fun e_ w' => e_ = .returned (.bool (comeS n cf L cls).1) ∧ Own N w' [ModO gm cf L (comeS n cf L cls).2] ∧ KeepS N w w' := by
 unfold comeS
 cases hc : clAt cls n with
 | none =>
  obtain ⟨N_, on_, nn_, rr_, bb_⟩ := h.frame0
  obtain ⟨AL, cL, AC, cC, qs, hq, e1, hm, hp, hl, _, _⟩ := ModO.view0 (rr_ 0 _ rfl)
  exact (MCome_no n on_ hm hp (clAt_none hc)).mono fun e_ w' ⟨a, b, c⟩ => ⟨a, (bb_ w' [] c b).1, (bb_ w' [] c b).2⟩
 | some x =>
  obtain ⟨hn, hx⟩ := clAt_some hc
  have hkx := hk x hc
  simp only
  unfold comesB
  by_cases h1 : (x.c : Int) < cf.pull
  ·by_cases h2 : x.k + x.c < L.length
   ·rw [if_pos (decide_eq_true ⟨h1, h2⟩)]
    exact MCome_ok n h hn hb hL hx h1 h2
   ·rw [if_neg (by simp [h2])]
    obtain ⟨N_, on_, nn_, rr_, bb_⟩ := h.frame0
    obtain ⟨AL, cL, AC, cC, qs, q, AJ, cJ, AU, cU, hqi, e1, e2, e3, hm, hp, hl, hx1, hj, hu⟩ := ModO.view (rr_ 0 _ rfl) hx
    exact (MCome_end n on_ hm hp hx1 hn hb hqi h1 (by omega) hkx).mono fun e_ w' ⟨a, b, c⟩ => ⟨a, (bb_ w' [] c b).1, (bb_ w' [] c b).2⟩
  ·rw [if_neg (by simp [h1])]
   obtain ⟨N_, on_, nn_, rr_, bb_⟩ := h.frame0
   obtain ⟨AL, cL, AC, cC, qs, q, AJ, cJ, AU, cU, hqi, e1, e2, e3, hm, hp, hl, hx1, hj, hu⟩ := ModO.view (rr_ 0 _ rfl) hx
   exact (MCome_full n on_ hm hp hx1 hn hb hqi (by omega)).mono fun e_ w' ⟨a, b, c⟩ => ⟨a, (bb_ w' [] c b).1, (bb_ w' [] c b).2⟩
theorem k10_ {N : Nat → Prop} {w : World} {l : List HP} {t : TypeId} {g : Nat} {v0 v1 v2 v3 v4 v5 v6 v7 v8 v9 : Value} (h : Aside0 (Own N w l)) (i : Nat) (hi : l[i]? = some (cells g #[v0, v1, v2, v3, v4, v5, v6, v7, v8, v9] t) := by rfl) : w.cell? ⟨g, 0, none⟩ = some v0 ∧ w.cell? ⟨g, 1, none⟩ = some v1 ∧ w.cell? ⟨g, 2, none⟩ = some v2 ∧ w.cell? ⟨g, 3, none⟩ = some v3 ∧ w.cell? ⟨g, 4, none⟩ = some v4 ∧ w.cell? ⟨g, 5, none⟩ = some v5 ∧ w.cell? ⟨g, 6, none⟩ = some v6 ∧ w.cell? ⟨g, 7, none⟩ = some v7 ∧ w.cell? ⟨g, 8, none⟩ = some v8 ∧ w.cell? ⟨g, 9, none⟩ = some v9 ∧ ∀ i, w.frozen? ⟨g, i, none⟩ = false := ⟨(blk_cell (h.out.blk hi) 0).trans rfl, (blk_cell (h.out.blk hi) 1).trans rfl, (blk_cell (h.out.blk hi) 2).trans rfl, (blk_cell (h.out.blk hi) 3).trans rfl, (blk_cell (h.out.blk hi) 4).trans rfl, (blk_cell (h.out.blk hi) 5).trans rfl, (blk_cell (h.out.blk hi) 6).trans rfl, (blk_cell (h.out.blk hi) 7).trans rfl, (blk_cell (h.out.blk hi) 8).trans rfl, (blk_cell (h.out.blk hi) 9).trans rfl, fun i => blk_frozen (h.out.blk hi) i⟩
abbrev ActM := S83
abbrev actMV (a : ActM) : Value := .agg #[.int .i64 a.f0, .int .i64 a.f1, .string a.f2.f0, .int .i64 a.f2.f1, .int .i64 a.f2.f2, .string a.f2.f3, .string a.f3, .int .i64 a.f4, .int .i64 a.f5, .int .u32 a.f6]
structure RepT where
 e : Int
 v : Val
 y : Bool
 n : Int
abbrev repM (r : RepT) : Value := .agg #[.int .i64 r.e, .int .i64 r.v.1, .int .i64 r.v.2.1, .string r.v.2.2, .bool r.y, .int .i64 r.n]
def rep0 (e : Int) : RepT := ⟨e, (0, 0, none'), false, 0⟩
def repN (n : Int) : RepT := ⟨0, (0, 0, none'), false, n⟩
theorem MDo_lo {N : Nat → Prop} {w : World} {gm : Nat} (kd : Int) (n : Int) (key : ByteArray) (uc un : Int) (us rk : ByteArray) (an ab am : Int) (h : Own N w []) (hk : kd < 1) :
  Calls Tryd.prog 42 #[pt gm, .agg #[.int .i64 kd, .int .i64 n, .string key, .int .i64 uc, .int .i64 un, .string us, .string rk, .int .i64 an, .int .i64 ab, .int .u32 am]] w fun e_ w' => e_ = .returned (.agg #[.int .i64 5, .int .i64 0, .int .i64 0, .string ⟨#[]⟩, .bool false, .int .i64 0]) ∧ Own N w' [] ∧ KeepS N w w' := by
 have d1 : decide (kd < 1) = true := decide_eq_true (by omega)
 have O0 : Aside0 (Own N w []) := ⟨h⟩
 have K0 : Aside0 (KeepS N w w) := ⟨KeepS.refl _ _⟩
 clear h hk
 go_enter Tryd.func42, Tryd.ntmps42
 go_wp2_with (first | ((with_reducible refine gD 3 rfl ?_); refine bP 3 #[.int .i64 kd, .int .i64 n, .string key, .int .i64 uc, .int .i64 un, .string us, .string rk, .int .i64 an, .int .i64 ab, .int .u32 am] 83 O0.out ?_; intro ga w1 o_ k_; obtain ⟨O1, K1⟩ := ok_ K0 o_ k_; clear O0 K0; have a0 := k10_ O1 0; clear o_ k_) | ((with_reducible refine gD 4 rfl ?_); refine bP 4 #[.int .i64 0, .int .i64 0, .int .i64 0, .string ⟨#[]⟩, .bool false, .int .i64 0] 79 O1.out ?_; intro gr w2 o_ k_; obtain ⟨O2, K2⟩ := ok_ K1 o_ k_; clear a0 O1 K1; have a0 := k10_ O2 0; have a1 := k6_ O2 1; clear o_ k_) | ((with_reducible refine gT 79 4 rfl ?_); refine wS 1 0 [.int .i64 5, .int .i64 0, .int .i64 0, .string ⟨#[]⟩, .bool false, .int .i64 0] O2 ?_; intro w3 o_ k_; obtain ⟨O3, K3⟩ := ok_ K2 o_ k_; clear a0 a1 O2 K2; have a0 := k10_ O3 0; have a1 := k6_ O3 1; clear o_ k_))
 refine bodyPost_ret (results_cell_row rfl _ _ gr 79 #[.int .i64 5, .int .i64 0, .int .i64 0, .string ⟨#[]⟩, .bool false, .int .i64 0] (0, 0) _ rfl (O3.out.blk (i := 1) rfl) Tryd.underlying79 rfl (by kernel_rfl)) rfl ?_
 exact ⟨rfl, O3.out.take 0, K3.out⟩
theorem MDo_hi {N : Nat → Prop} {w : World} {gm : Nat} (kd : Int) (n : Int) (key : ByteArray) (uc un : Int) (us rk : ByteArray) (an ab am : Int) (h : Own N w []) (hk : 1 ≤ kd ∧ kd > 6) :
  Calls Tryd.prog 42 #[pt gm, .agg #[.int .i64 kd, .int .i64 n, .string key, .int .i64 uc, .int .i64 un, .string us, .string rk, .int .i64 an, .int .i64 ab, .int .u32 am]] w fun e_ w' => e_ = .returned (.agg #[.int .i64 5, .int .i64 0, .int .i64 0, .string ⟨#[]⟩, .bool false, .int .i64 0]) ∧ Own N w' [] ∧ KeepS N w w' := by
 have d1 : decide (kd < 1) = false := decide_eq_false (by omega)
 have d2 : decide (kd > 6) = true := decide_eq_true (by omega)
 have d3 : decide (6 < kd) = true := d2
 have O0 : Aside0 (Own N w []) := ⟨h⟩
 have K0 : Aside0 (KeepS N w w) := ⟨KeepS.refl _ _⟩
 clear h hk
 go_enter Tryd.func42, Tryd.ntmps42
 go_wp2_with (first | ((with_reducible refine gD 3 rfl ?_); refine bP 3 #[.int .i64 kd, .int .i64 n, .string key, .int .i64 uc, .int .i64 un, .string us, .string rk, .int .i64 an, .int .i64 ab, .int .u32 am] 83 O0.out ?_; intro ga w1 o_ k_; obtain ⟨O1, K1⟩ := ok_ K0 o_ k_; clear O0 K0; have a0 := k10_ O1 0; clear o_ k_) | ((with_reducible refine gD 4 rfl ?_); refine bP 4 #[.int .i64 0, .int .i64 0, .int .i64 0, .string ⟨#[]⟩, .bool false, .int .i64 0] 79 O1.out ?_; intro gr w2 o_ k_; obtain ⟨O2, K2⟩ := ok_ K1 o_ k_; clear a0 O1 K1; have a0 := k10_ O2 0; have a1 := k6_ O2 1; clear o_ k_) | ((with_reducible refine gT 79 4 rfl ?_); refine wS 1 0 [.int .i64 5, .int .i64 0, .int .i64 0, .string ⟨#[]⟩, .bool false, .int .i64 0] O2 ?_; intro w3 o_ k_; obtain ⟨O3, K3⟩ := ok_ K2 o_ k_; clear a0 a1 O2 K2; have a0 := k10_ O3 0; have a1 := k6_ O3 1; clear o_ k_))
 refine bodyPost_ret (results_cell_row rfl _ _ gr 79 #[.int .i64 5, .int .i64 0, .int .i64 0, .string ⟨#[]⟩, .bool false, .int .i64 0] (0, 0) _ rfl (O3.out.blk (i := 1) rfl) Tryd.underlying79 rfl (by kernel_rfl)) rfl ?_
 exact ⟨rfl, O3.out.take 0, K3.out⟩
theorem MDo_none {N : Nat → Prop} {w : World} {gm nc cL cC : Nat} {cf : MCf} {AL AC : Option Addr} {L : List Rnd7} {qs : List (Nat × RawR)} (kd : Int) (n : Int) (key : ByteArray) (uc un : Int) (us rk : ByteArray) (an ab am : Int) (h : Own N w []) (hm : CellN N w gm #[.int .i64 cf.cl, .int .i64 cf.win, .int .i64 cf.push, .int .i64 cf.pull, .int .i64 cf.mtu, .int .i64 cf.last, .slice AL L.length cL, .slice AC nc cC] 123) (hp : Kd.F (Kd.raw 1) w N AC nc (ptrs qs)) (hk : 1 ≤ kd ∧ kd ≤ 6) (hn : ¬ (1 ≤ n ∧ n ≤ nc)) :
  Calls Tryd.prog 42 #[pt gm, .agg #[.int .i64 kd, .int .i64 n, .string key, .int .i64 uc, .int .i64 un, .string us, .string rk, .int .i64 an, .int .i64 ab, .int .u32 am]] w fun e_ w' => e_ = .returned (.agg #[.int .i64 11, .int .i64 0, .int .i64 0, .string ⟨#[]⟩, .bool false, .int .i64 0]) ∧ Own N w' [] ∧ KeepS N w w' := by
 have HM_0 : Aside0 (CellN N w gm #[.int .i64 cf.cl, .int .i64 cf.win, .int .i64 cf.push, .int .i64 cf.pull, .int .i64 cf.mtu, .int .i64 cf.last, .slice AL L.length cL, .slice AC nc cC] 123) := ⟨hm⟩
 have HP_0 : Aside0 (Kd.F (Kd.raw 1) w N AC nc (ptrs qs)) := ⟨hp⟩
 have O0 : Aside0 (Own N w []) := ⟨h⟩
 have K0 : Aside0 (KeepS N w w) := ⟨KeepS.refl _ _⟩
 obtain ⟨ma, mb, mc, md, me, mf, mg, mh, mz⟩ := blk8_ (HM_0.out.2)
 clear h hm hp
 have HN := Aside0.mk hn
 have d1 : decide (kd < 1) = false := decide_eq_false (by omega)
 have d2 : decide (kd > 6) = false := decide_eq_false (by omega)
 have d3 : decide (6 < kd) = false := d2
 clear hn hk
 go_enter Tryd.func42, Tryd.ntmps42
 go_wp2_with (first | ((with_reducible refine gD 3 rfl ?_); refine bP 3 #[.int .i64 kd, .int .i64 n, .string key, .int .i64 uc, .int .i64 un, .string us, .string rk, .int .i64 an, .int .i64 ab, .int .u32 am] 83 O0.out ?_; intro ga w1 o_ k_; obtain ⟨O1, K1⟩ := ok_ K0 o_ k_; have HM_1 := Aside0.mk (CellN.keep HM_0.out k_); have HP_1 := Aside0.mk (keepF HP_0.out k_); clear ma mb mc md me mf mg mh mz O0 K0 HM_0 HP_0; have a0 := k10_ O1 0; obtain ⟨ma, mb, mc, md, me, mf, mg, mh, mz⟩ := blk8_ (HM_1.out.2); clear o_ k_) | ((with_reducible refine gD 4 rfl ?_); refine bP 4 #[.int .i64 0, .int .i64 0, .int .i64 0, .string ⟨#[]⟩, .bool false, .int .i64 0] 79 O1.out ?_; intro gr w2 o_ k_; obtain ⟨O2, K2⟩ := ok_ K1 o_ k_; have HM_2 := Aside0.mk (CellN.keep HM_1.out k_); have HP_2 := Aside0.mk (keepF HP_1.out k_); clear a0 ma mb mc md me mf mg mh mz O1 K1 HM_1 HP_1; have a0 := k10_ O2 0; have a1 := k6_ O2 1; obtain ⟨ma, mb, mc, md, me, mf, mg, mh, mz⟩ := blk8_ (HM_2.out.2); clear o_ k_) | ((with_reducible refine gC 77 rfl ?_); refine gP (some 20) Tryd.func77 #[pt gm, .int .i64 n] ?_; obtain ⟨N_, on_, nn_, rr_, bb_⟩ := O2.out.frame0; refine (MClient_no n on_ (CellN.mono HM_2.out nn_) (Kd.F_mono HP_2.out nn_) HN.out).mono ?_; rintro e_ w3 ⟨rfl, oo_, kk_⟩; obtain ⟨o_, k_⟩ := bb_ _ _ kk_ oo_; refine ⟨_, rfl, ?_⟩; obtain ⟨O3, K3⟩ := ok_ K2 o_ k_; have HM_3 := Aside0.mk (CellN.keep HM_2.out k_); have HP_3 := Aside0.mk (keepF HP_2.out k_); clear a0 a1 ma mb mc md me mf mg mh mz O2 K2 HM_2 HP_2; have a0 := k10_ O3 0; have a1 := k6_ O3 1; obtain ⟨ma, mb, mc, md, me, mf, mg, mh, mz⟩ := blk8_ (HM_3.out.2); clear o_ k_ oo_ kk_ on_ nn_ rr_ bb_) | ((with_reducible refine gT 79 4 rfl ?_); refine wS 1 0 [.int .i64 11, .int .i64 0, .int .i64 0, .string ⟨#[]⟩, .bool false, .int .i64 0] O3 ?_; intro w4 o_ k_; obtain ⟨O4, K4⟩ := ok_ K3 o_ k_; have HM_4 := Aside0.mk (CellN.keep HM_3.out k_); have HP_4 := Aside0.mk (keepF HP_3.out k_); clear a0 a1 ma mb mc md me mf mg mh mz O3 K3 HM_3 HP_3; have a0 := k10_ O4 0; have a1 := k6_ O4 1; obtain ⟨ma, mb, mc, md, me, mf, mg, mh, mz⟩ := blk8_ (HM_4.out.2); clear o_ k_))
 refine bodyPost_ret (results_cell_row rfl _ _ gr 79 #[.int .i64 11, .int .i64 0, .int .i64 0, .string ⟨#[]⟩, .bool false, .int .i64 0] (0, 0) _ rfl (O4.out.blk (i := 1) rfl) Tryd.underlying79 rfl (by kernel_rfl)) rfl ?_
 exact ⟨rfl, O4.out.take 0, K4.out⟩
theorem RpRead_e (V : Val) (key : ByteArray) {U : List Upd7} {X : List Rnd7} (hV : stateOf U X key = V) (hs : key.size ≤ maxLen) {w : World} (A0 : Option Addr) (c0 : Nat) (A1 : Option Addr) (c1 : Nat) (ho : Kd.C kU7 w A0 U.length U) (hr : Kd.C kR7 w A1 X.length X) (hb : (flatR X).length + U.length < 1000000) :
  Calls Tryd.prog 63 #[.string key, .slice A0 U.length c0, .slice A1 X.length c1] w fun e_ w' => e_ = .returned (valV V) ∧ Below w.heap.size w w' := by
 subst hV
 exact RpRead key hs A0 c0 U A1 c1 X ho hr hb
theorem RpLen_e (n : Int) {U : List Upd7} {X : List Rnd7} (hn : (cntK (stateOf U X) : Int) = n) {w : World} (A0 : Option Addr) (c0 : Nat) (A1 : Option Addr) (c1 : Nat) (ho : Kd.C kU7 w A0 U.length U) (hr : Kd.C kR7 w A1 X.length X) (hb : (flatR X).length + U.length < 1000000) :
  Calls Tryd.prog 66 #[.slice A0 U.length c0, .slice A1 X.length c1] w fun e_ w' => e_ = .returned (.int .i64 n) ∧ Below w.heap.size w w' := by
 subst hn
 refine (RpLen A0 c0 U A1 c1 X ho hr hb).mono ?_
 rintro e_ w' ⟨ks, k1, k2, e1, hb⟩
 exact ⟨by rw [cntK_is k1 k2]; exact e1, hb⟩
theorem MSeen_S {S : List Rnd7} {N : Nat → Prop} {w : World} {gm nc cL cC : Nat} {cf : MCf} {AL AC : Option Addr} {L : List Rnd7} {qs : List (Nat × RawR)} {q : Nat × RawR} {x : MCl} {AJ AU : Option Addr} {cJ cU : Nat} {M : Nat → Prop} (n : Int) (hS : seenR n L x = S) (h : Own N w []) (hm : CellN N w gm #[.int .i64 cf.cl, .int .i64 cf.win, .int .i64 cf.push, .int .i64 cf.pull, .int .i64 cf.mtu, .int .i64 cf.last, .slice AL L.length cL, .slice AC nc cC] 123) (hp : Kd.F (Kd.raw 1) w N AC nc (ptrs qs)) (hx : CellN N w q.1 #[.int .i64 x.e, .slice AJ x.J.length cJ, .int .i64 x.k, .int .i64 x.c, .slice AU x.U.length cU] 127) (hM : ∀ k, M k → N k) (hlm : Kd.F kR7 w M AL L.length L) (hjm : Kd.F kR7 w M AJ x.J.length x.J) (hn : 1 ≤ n ∧ n ≤ nc) (hb : nc ≤ 64) (hq : qs[n.toNat - 1]? = some q) (hk : x.k ≤ L.length) (hL : L.length ≤ 1000000) (hcL : L.length ≤ cL) (ho : ownN n L x ≤ x.J.length) (hc : x.J.length ≤ cJ) (hLJ : L.length + x.J.length ≤ 1000000) :
  Calls Tryd.prog 80 #[pt gm, .int .i64 n] w fun e_ w' => ∃ A1 c1 rows, e_ = .returned (.slice A1 S.length c1) ∧ Own N w' [nrow (Kd.raw 3) tR7 (.slice A1 S.length c1) rows] ∧ Lead M w' rows S ∧ KeepS N w w' := by
 subst hS
 exact MSeen n h hm hp hx hM hlm hjm hn hb hq hk hL hcL ho hc hLJ
theorem MDo_2 {N : Nat → Prop} {w : World} {gm nc cL cC : Nat} {cf : MCf} {AL AC : Option Addr} {L : List Rnd7} {qs : List (Nat × RawR)} {q : Nat × RawR} {x : MCl} {AJ AU : Option Addr} {cJ cU : Nat} (n : Int) (key : ByteArray) (uc un : Int) (us rk : ByteArray) (an ab am : Int) (h : Own N w []) (hm : CellN N w gm #[.int .i64 cf.cl, .int .i64 cf.win, .int .i64 cf.push, .int .i64 cf.pull, .int .i64 cf.mtu, .int .i64 cf.last, .slice AL L.length cL, .slice AC nc cC] 123) (hp : Kd.F (Kd.raw 1) w N AC nc (ptrs qs)) (hx : CellN N w q.1 #[.int .i64 x.e, .slice AJ x.J.length cJ, .int .i64 x.k, .int .i64 x.c, .slice AU x.U.length cU] 127) (hl : Kd.F kR7 w N AL L.length L) (hj : Kd.F kR7 w N AJ x.J.length x.J) (hu : Kd.F kU7 w N AU x.U.length x.U) (hn : 1 ≤ n ∧ n ≤ nc) (hb : nc ≤ 64) (hq : qs[n.toNat - 1]? = some q) (hk : x.k ≤ L.length) (hL : L.length ≤ 1000000) (hcL : L.length ≤ cL) (ho : ownN n L x ≤ x.J.length) (hc : x.J.length ≤ cJ) (hLJ : L.length + x.J.length ≤ 1000000) (hrk : rk.size ≤ maxLen) (hbb : (flatR (seenR n L x)).length + x.U.length < 1000000) :
  Calls Tryd.prog 42 #[pt gm, .agg #[.int .i64 2, .int .i64 n, .string key, .int .i64 uc, .int .i64 un, .string us, .string rk, .int .i64 an, .int .i64 ab, .int .u32 am]] w fun e_ w' => e_ = .returned (repM ⟨0, stateOf x.U (seenR n L x) rk, false, cntK (stateOf x.U (seenR n L x))⟩) ∧ Own N w' [] ∧ KeepS N w w' := by
 have HM_0 : Aside0 (CellN N w gm #[.int .i64 cf.cl, .int .i64 cf.win, .int .i64 cf.push, .int .i64 cf.pull, .int .i64 cf.mtu, .int .i64 cf.last, .slice AL L.length cL, .slice AC nc cC] 123) := ⟨hm⟩
 have HP_0 : Aside0 (Kd.F (Kd.raw 1) w N AC nc (ptrs qs)) := ⟨hp⟩
 have HX_0 : Aside0 (CellN N w q.1 #[.int .i64 x.e, .slice AJ x.J.length cJ, .int .i64 x.k, .int .i64 x.c, .slice AU x.U.length cU] 127) := ⟨hx⟩
 have HL_0 : Aside0 (Kd.F kR7 w N AL L.length L) := ⟨hl⟩
 have HJ_0 : Aside0 (Kd.F kR7 w N AJ x.J.length x.J) := ⟨hj⟩
 have HU_0 : Aside0 (Kd.F kU7 w N AU x.U.length x.U) := ⟨hu⟩
 obtain ⟨S, hS⟩ : ∃ S, seenR n L x = S := ⟨_, rfl⟩
 rw [hS] at hbb ⊢
 obtain ⟨V, hV⟩ : ∃ V, stateOf x.U S rk = V := ⟨_, rfl⟩
 rw [hV]
 obtain ⟨m, hm_⟩ : ∃ m : Int, (cntK (stateOf x.U S) : Int) = m := ⟨_, rfl⟩
 rw [hm_]
 have HN := Aside0.mk hn
 have HB := Aside0.mk hb
 have HQ := Aside0.mk hq
 have HKL := Aside0.mk hk
 have HLL := Aside0.mk hL
 have HCL := Aside0.mk hcL
 have HOW := Aside0.mk ho
 have HCJ := Aside0.mk hc
 have HS := Aside0.mk hS
 have HLJ := Aside0.mk hLJ
 have HRK := Aside0.mk hrk
 have HBB := Aside0.mk hbb
 have HV := Aside0.mk hV
 have HMM := Aside0.mk hm_
 clear hn hb hq hk hL hcL ho hc hS hLJ hrk hbb hV hm_
 have O0 : Aside0 (Own N w []) := ⟨h⟩
 have K0 : Aside0 (KeepS N w w) := ⟨KeepS.refl _ _⟩
 obtain ⟨ma, mb, mc, md, me, mf, mg, mh, mz⟩ := blk8_ (HM_0.out.2)
 obtain ⟨xa, xb, xc, xd, xe, xz⟩ := blk5_ (HX_0.out.2)
 clear h hm hp hx hl hj hu
 go_enter Tryd.func42, Tryd.ntmps42
 go_wp2_with (first | ((with_reducible refine gD 3 rfl ?_); refine bP 3 #[.int .i64 2, .int .i64 n, .string key, .int .i64 uc, .int .i64 un, .string us, .string rk, .int .i64 an, .int .i64 ab, .int .u32 am] 83 O0.out ?_; intro ga w1 o_ k_; obtain ⟨O1, K1⟩ := ok_ K0 o_ k_; have HM_1 := Aside0.mk (CellN.keep HM_0.out k_); have HP_1 := Aside0.mk (keepF HP_0.out k_); have HX_1 := Aside0.mk (CellN.keep HX_0.out k_); have HL_1 := Aside0.mk (keepF HL_0.out k_); have HJ_1 := Aside0.mk (keepF HJ_0.out k_); have HU_1 := Aside0.mk (keepF HU_0.out k_); clear ma mb mc md me mf mg mh mz xa xb xc xd xe xz O0 K0 HM_0 HP_0 HX_0 HL_0 HJ_0 HU_0; have a0 := k10_ O1 0; obtain ⟨ma, mb, mc, md, me, mf, mg, mh, mz⟩ := blk8_ (HM_1.out.2); obtain ⟨xa, xb, xc, xd, xe, xz⟩ := blk5_ (HX_1.out.2); clear o_ k_) | ((with_reducible refine gD 4 rfl ?_); refine bP 4 #[.int .i64 0, .int .i64 0, .int .i64 0, .string ⟨#[]⟩, .bool false, .int .i64 0] 79 O1.out ?_; intro gr w2 o_ k_; obtain ⟨O2, K2⟩ := ok_ K1 o_ k_; have HM_2 := Aside0.mk (CellN.keep HM_1.out k_); have HP_2 := Aside0.mk (keepF HP_1.out k_); have HX_2 := Aside0.mk (CellN.keep HX_1.out k_); have HL_2 := Aside0.mk (keepF HL_1.out k_); have HJ_2 := Aside0.mk (keepF HJ_1.out k_); have HU_2 := Aside0.mk (keepF HU_1.out k_); clear a0 ma mb mc md me mf mg mh mz xa xb xc xd xe xz O1 K1 HM_1 HP_1 HX_1 HL_1 HJ_1 HU_1; have a0 := k10_ O2 0; have a1 := k6_ O2 1; obtain ⟨ma, mb, mc, md, me, mf, mg, mh, mz⟩ := blk8_ (HM_2.out.2); obtain ⟨xa, xb, xc, xd, xe, xz⟩ := blk5_ (HX_2.out.2); clear o_ k_) | ((with_reducible refine gC 77 rfl ?_); refine gP (some 20) Tryd.func77 #[pt gm, .int .i64 n] ?_; obtain ⟨N_, on_, nn_, rr_, bb_⟩ := O2.out.frame0; refine (MClient_ok n on_ (CellN.mono HM_2.out nn_) (Kd.F_mono HP_2.out nn_) HN.out HB.out HQ.out).mono ?_; rintro e_ w3 ⟨rfl, oo_, kk_⟩; obtain ⟨o_, k_⟩ := bb_ _ _ kk_ oo_; refine ⟨_, rfl, ?_⟩; obtain ⟨O3, K3⟩ := ok_ K2 o_ k_; have HM_3 := Aside0.mk (CellN.keep HM_2.out k_); have HP_3 := Aside0.mk (keepF HP_2.out k_); have HX_3 := Aside0.mk (CellN.keep HX_2.out k_); have HL_3 := Aside0.mk (keepF HL_2.out k_); have HJ_3 := Aside0.mk (keepF HJ_2.out k_); have HU_3 := Aside0.mk (keepF HU_2.out k_); clear a0 a1 ma mb mc md me mf mg mh mz xa xb xc xd xe xz O2 K2 HM_2 HP_2 HX_2 HL_2 HJ_2 HU_2; have a0 := k10_ O3 0; have a1 := k6_ O3 1; obtain ⟨ma, mb, mc, md, me, mf, mg, mh, mz⟩ := blk8_ (HM_3.out.2); obtain ⟨xa, xb, xc, xd, xe, xz⟩ := blk5_ (HX_3.out.2); clear o_ k_ oo_ kk_ on_ nn_ rr_ bb_) | ((with_reducible refine gC 80 rfl ?_); refine gP (some 39) Tryd.func80 #[pt gm, .int .i64 n] ?_; obtain ⟨N_, on_, nn_, rr_, bb_⟩ := O3.out.frame0; refine (MSeen_S n HS.out on_ (CellN.mono HM_3.out nn_) (Kd.F_mono HP_3.out nn_) (CellN.mono HX_3.out nn_) nn_ HL_3.out HJ_3.out HN.out HB.out HQ.out HKL.out HLL.out HCL.out HOW.out HCJ.out HLJ.out).mono ?_; rintro e_ w4 ⟨A1, c1, rows, rfl, oo_, ll_, kk_⟩; obtain ⟨o_, k_⟩ := bb_ _ _ kk_ oo_; refine ⟨_, rfl, ?_⟩; obtain ⟨O4, K4⟩ := ok_ K3 o_ k_; have HM_4 := Aside0.mk (CellN.keep HM_3.out k_); have HP_4 := Aside0.mk (keepF HP_3.out k_); have HX_4 := Aside0.mk (CellN.keep HX_3.out k_); have HL_4 := Aside0.mk (keepF HL_3.out k_); have HJ_4 := Aside0.mk (keepF HJ_3.out k_); have HU_4 := Aside0.mk (keepF HU_3.out k_); clear a0 a1 ma mb mc md me mf mg mh mz xa xb xc xd xe xz O3 K3 HM_3 HP_3 HX_3 HL_3 HJ_3 HU_3; have a0 := k10_ O4 0; have a1 := k6_ O4 1; obtain ⟨ma, mb, mc, md, me, mf, mg, mh, mz⟩ := blk8_ (HM_4.out.2); obtain ⟨xa, xb, xc, xd, xe, xz⟩ := blk5_ (HX_4.out.2); have HLD_4 : Aside0 (Lead N w4 rows S) := ⟨ll_⟩; clear o_ k_ oo_ kk_ on_ nn_ rr_ bb_ ll_))
 refine sP (n := 16) (S := fun w' => w'.cell? ⟨q.1, 0, none⟩ = some (.int .i64 x.e) ∧ w'.cell? ⟨q.1, 1, none⟩ = some (.slice AJ x.J.length cJ) ∧ w'.cell? ⟨q.1, 2, none⟩ = some (.int .i64 x.k) ∧ w'.cell? ⟨q.1, 3, none⟩ = some (.int .i64 x.c) ∧ w'.cell? ⟨q.1, 4, none⟩ = some (.slice AU x.U.length cU) ∧ w'.cell? ⟨ga, 0, none⟩ = some (.int .i64 2) ∧ w'.cell? ⟨ga, 1, none⟩ = some (.int .i64 n) ∧ w'.cell? ⟨ga, 2, none⟩ = some (.string key) ∧ w'.cell? ⟨ga, 3, none⟩ = some (.int .i64 uc) ∧ w'.cell? ⟨ga, 4, none⟩ = some (.int .i64 un) ∧ w'.cell? ⟨ga, 5, none⟩ = some (.string us) ∧ w'.cell? ⟨ga, 6, none⟩ = some (.string rk) ∧ w'.cell? ⟨ga, 7, none⟩ = some (.int .i64 an) ∧ w'.cell? ⟨ga, 8, none⟩ = some (.int .i64 ab) ∧ w'.cell? ⟨ga, 9, none⟩ = some (.int .u32 am)) (ds := [15]) ⟨xa, xb, xc, xd, xe, a0.1, a0.2.1, a0.2.2.1, a0.2.2.2.1, a0.2.2.2.2.1, a0.2.2.2.2.2.1, a0.2.2.2.2.2.2.1, a0.2.2.2.2.2.2.2.1, a0.2.2.2.2.2.2.2.2.1, a0.2.2.2.2.2.2.2.2.2.1⟩ (fun hHeld => ?_)
 obtain ⟨w5, hw_⟩ : ∃ W, W = w4.drew := ⟨_, rfl⟩
 have o_ := O4.out.drew
 have k_ : KeepS N w4 w4.drew := KeepS.drew
 rw [← hw_] at o_ k_ hHeld ⊢
 clear hw_
 obtain ⟨O5, K5⟩ := ok_ K4 o_ k_
 have HM_5 := Aside0.mk (CellN.keep HM_4.out k_)
 have HP_5 := Aside0.mk (keepF HP_4.out k_)
 have HX_5 := Aside0.mk (CellN.keep HX_4.out k_)
 have HL_5 := Aside0.mk (keepF HL_4.out k_)
 have HJ_5 := Aside0.mk (keepF HJ_4.out k_)
 have HU_5 := Aside0.mk (keepF HU_4.out k_)
 have HLD_5 := Aside0.mk (Lead.keep HLD_4.out k_)
 clear a0 a1 ma mb mc md me mf mg mh mz xa xb xc xd xe xz O4 K4 HM_4 HP_4 HX_4 HL_4 HJ_4 HU_4 HLD_4
 have a0 := k10_ O5 0
 have a1 := k6_ O5 1
 obtain ⟨ma, mb, mc, md, me, mf, mg, mh, mz⟩ := blk8_ (HM_5.out.2)
 obtain ⟨xa, xb, xc, xd, xe, xz⟩ := blk5_ (HX_5.out.2)
 clear o_ k_
 refine pP 0 (some 40) ?_
 refine pP 2 (some 42) ?_
 refine pP 3 (some 43) ?_
 refine pP 4 (some 44) ?_
 refine pP 6 (some 46) ?_
 refine pP 8 (some 48) ?_
 refine pP 9 (some 49) ?_
 refine pP 10 (some 50) ?_
 refine pP 12 (some 52) ?_
 refine tP 1 (some 41) hHeld ?_
 refine tP 5 (some 45) hHeld ?_
 refine tP 11 (some 51) hHeld ?_
 refine oP 7 (some 47) (fun K_ hK_ => ?_)
 refine hP Tryd.func63 #[.string rk, .slice AU x.U.length cU, .slice A1 S.length c1] ?_
 refine (RpRead_e V rk HV.out HRK.out AU cU A1 c1 (Kd.F_now HU_5.out) (lead_C (i := 2) O5.out rfl HLD_5.out).2.2 HBB.out).mono ?_
 rintro e_ w6 ⟨rfl, hb_⟩
 refine ⟨_, rfl, ?_⟩
 have o_ := O5.out.below hb_
 have k_ := KeepS.of_below (N := N) hb_
 obtain ⟨O6, K6⟩ := ok_ K5 o_ k_
 have HM_6 := Aside0.mk (CellN.keep HM_5.out k_)
 have HP_6 := Aside0.mk (keepF HP_5.out k_)
 have HX_6 := Aside0.mk (CellN.keep HX_5.out k_)
 have HL_6 := Aside0.mk (keepF HL_5.out k_)
 have HJ_6 := Aside0.mk (keepF HJ_5.out k_)
 have HU_6 := Aside0.mk (keepF HU_5.out k_)
 have HLD_6 := Aside0.mk (Lead.keep HLD_5.out k_)
 clear a0 a1 ma mb mc md me mf mg mh mz xa xb xc xd xe xz O5 K5 HM_5 HP_5 HX_5 HL_5 HJ_5 HU_5 HLD_5
 have a0 := k10_ O6 0
 have a1 := k6_ O6 1
 obtain ⟨ma, mb, mc, md, me, mf, mg, mh, mz⟩ := blk8_ (HM_6.out.2)
 obtain ⟨xa, xb, xc, xd, xe, xz⟩ := blk5_ (HX_6.out.2)
 clear o_ k_ hb_
 clear hHeld
 refine hK_.out _ _ ⟨xa, xb, xc, xd, xe, a0.1, a0.2.1, a0.2.2.1, a0.2.2.2.1, a0.2.2.2.2.1, a0.2.2.2.2.2.1, a0.2.2.2.2.2.2.1, a0.2.2.2.2.2.2.2.1, a0.2.2.2.2.2.2.2.2.1, a0.2.2.2.2.2.2.2.2.2.1⟩ (fun hHeld => ?_)
 clear hK_ K_
 refine nP ?_
 refine oP 13 (some 53) (fun K_ hK_ => ?_)
 refine hP Tryd.func66 #[.slice AU x.U.length cU, .slice A1 S.length c1] ?_
 refine (RpLen_e m HMM.out AU cU A1 c1 (Kd.F_now HU_6.out) (lead_C (i := 2) O6.out rfl HLD_6.out).2.2 HBB.out).mono ?_
 rintro e_ w7 ⟨rfl, hb_⟩
 refine ⟨_, rfl, ?_⟩
 have o_ := O6.out.below hb_
 have k_ := KeepS.of_below (N := N) hb_
 obtain ⟨O7, K7⟩ := ok_ K6 o_ k_
 have HM_7 := Aside0.mk (CellN.keep HM_6.out k_)
 have HP_7 := Aside0.mk (keepF HP_6.out k_)
 have HX_7 := Aside0.mk (CellN.keep HX_6.out k_)
 have HL_7 := Aside0.mk (keepF HL_6.out k_)
 have HJ_7 := Aside0.mk (keepF HJ_6.out k_)
 have HU_7 := Aside0.mk (keepF HU_6.out k_)
 have HLD_7 := Aside0.mk (Lead.keep HLD_6.out k_)
 clear a0 a1 ma mb mc md me mf mg mh mz xa xb xc xd xe xz O6 K6 HM_6 HP_6 HX_6 HL_6 HJ_6 HU_6 HLD_6
 have a0 := k10_ O7 0
 have a1 := k6_ O7 1
 obtain ⟨ma, mb, mc, md, me, mf, mg, mh, mz⟩ := blk8_ (HM_7.out.2)
 obtain ⟨xa, xb, xc, xd, xe, xz⟩ := blk5_ (HX_7.out.2)
 clear o_ k_ hb_
 clear hHeld
 refine hK_.out _ _ ⟨xa, xb, xc, xd, xe, a0.1, a0.2.1, a0.2.2.1, a0.2.2.2.1, a0.2.2.2.2.1, a0.2.2.2.2.2.1, a0.2.2.2.2.2.2.1, a0.2.2.2.2.2.2.2.1, a0.2.2.2.2.2.2.2.2.1, a0.2.2.2.2.2.2.2.2.2.1⟩ (fun hHeld => ?_)
 clear hK_ K_
 refine nP ?_
 refine pP 14 (some 54) ?_
 refine lP 15 none (fun K_ hK_ => ?_)
 refine xS 1 0 [.int .i64 0, .int .i64 V.1, .int .i64 V.2.1, .string V.2.2, .bool false, .int .i64 m] O7 ?_
 intro w8 o_ k_
 obtain ⟨O8, K8⟩ := ok_ K7 o_ k_
 have HM_8 := Aside0.mk (CellN.keep HM_7.out k_)
 have HP_8 := Aside0.mk (keepF HP_7.out k_)
 have HX_8 := Aside0.mk (CellN.keep HX_7.out k_)
 have HL_8 := Aside0.mk (keepF HL_7.out k_)
 have HJ_8 := Aside0.mk (keepF HJ_7.out k_)
 have HU_8 := Aside0.mk (keepF HU_7.out k_)
 have HLD_8 := Aside0.mk (Lead.keep HLD_7.out k_)
 clear a0 a1 ma mb mc md me mf mg mh mz xa xb xc xd xe xz O7 K7 HM_7 HP_7 HX_7 HL_7 HJ_7 HU_7 HLD_7
 have a0 := k10_ O8 0
 have a1 := k6_ O8 1
 obtain ⟨ma, mb, mc, md, me, mf, mg, mh, mz⟩ := blk8_ (HM_8.out.2)
 obtain ⟨xa, xb, xc, xd, xe, xz⟩ := blk5_ (HX_8.out.2)
 clear o_ k_
 refine hK_.out _ _ ?_
 clear hK_ K_
 refine done_ (by kernel_rfl) ?_
 clear hHeld
 go_wp2
 refine bodyPost_ret (results_cell_row rfl _ _ gr 79 #[.int .i64 0, .int .i64 V.1, .int .i64 V.2.1, .string V.2.2, .bool false, .int .i64 m] (0, 0) _ rfl (O8.out.blk (i := 1) rfl) Tryd.underlying79 rfl (by kernel_rfl)) rfl ?_
 exact ⟨rfl, O8.out.take 0, K8.out⟩
theorem MDo_5 {N : Nat → Prop} {w : World} {gm nc cL cC : Nat} {cf : MCf} {AL AC : Option Addr} {L : List Rnd7} {qs : List (Nat × RawR)} {q : Nat × RawR} {x : MCl} {AJ AU : Option Addr} {cJ cU : Nat} (n : Int) (key : ByteArray) (uc un : Int) (us rk : ByteArray) (an ab am : Int) (h : Own N w []) (hm : CellN N w gm #[.int .i64 cf.cl, .int .i64 cf.win, .int .i64 cf.push, .int .i64 cf.pull, .int .i64 cf.mtu, .int .i64 cf.last, .slice AL L.length cL, .slice AC nc cC] 123) (hp : Kd.F (Kd.raw 1) w N AC nc (ptrs qs)) (hx : CellN N w q.1 #[.int .i64 x.e, .slice AJ x.J.length cJ, .int .i64 x.k, .int .i64 x.c, .slice AU x.U.length cU] 127) (hl : Kd.F kR7 w N AL L.length L) (hn : 1 ≤ n ∧ n ≤ nc) (hb : nc ≤ 64) (hq : qs[n.toNat - 1]? = some q) (hk : x.k ≤ L.length) (hL : L.length ≤ 1000000) (hcL : L.length ≤ cL) (ho : ownN n L x ≤ x.J.length) (hc : x.J.length ≤ cJ) :
  Calls Tryd.prog 42 #[pt gm, .agg #[.int .i64 5, .int .i64 n, .string key, .int .i64 uc, .int .i64 un, .string us, .string rk, .int .i64 an, .int .i64 ab, .int .u32 am]] w fun e_ w' => e_ = .returned (repM ⟨0, (0, 0, none'), decide (x.J.length - ownN n L x = 0) && decide (x.U.length = 0), 0⟩) ∧ Own N w' [] ∧ KeepS N w w' := by
 have HM_0 : Aside0 (CellN N w gm #[.int .i64 cf.cl, .int .i64 cf.win, .int .i64 cf.push, .int .i64 cf.pull, .int .i64 cf.mtu, .int .i64 cf.last, .slice AL L.length cL, .slice AC nc cC] 123) := ⟨hm⟩
 have HP_0 : Aside0 (Kd.F (Kd.raw 1) w N AC nc (ptrs qs)) := ⟨hp⟩
 have HX_0 : Aside0 (CellN N w q.1 #[.int .i64 x.e, .slice AJ x.J.length cJ, .int .i64 x.k, .int .i64 x.c, .slice AU x.U.length cU] 127) := ⟨hx⟩
 have HL_0 : Aside0 (Kd.F kR7 w N AL L.length L) := ⟨hl⟩
 obtain ⟨np, hnp⟩ : ∃ m : Nat, x.J.length - ownN n L x = m := ⟨_, rfl⟩
 obtain ⟨nu, hnu⟩ : ∃ m : Nat, x.U.length = m := ⟨_, rfl⟩
 have HN := Aside0.mk hn
 have HB := Aside0.mk hb
 have HQ := Aside0.mk hq
 have HKL := Aside0.mk hk
 have HLL := Aside0.mk hL
 have HCL := Aside0.mk hcL
 have HOW := Aside0.mk ho
 have HCJ := Aside0.mk hc
 have HNP := Aside0.mk hnp
 have HNU := Aside0.mk hnu
 clear hn hb hq hk hL hcL ho hc hnp hnu
 have O0 : Aside0 (Own N w []) := ⟨h⟩
 have K0 : Aside0 (KeepS N w w) := ⟨KeepS.refl _ _⟩
 obtain ⟨ma, mb, mc, md, me, mf, mg, mh, mz⟩ := blk8_ (HM_0.out.2)
 obtain ⟨xa, xb, xc, xd, xe, xz⟩ := blk5_ (HX_0.out.2)
 clear h hm hp hx hl
 go_enter Tryd.func42, Tryd.ntmps42
 by_cases hp0 : np = 0
 ·have d1 : (((x.J.length - ownN n L x : Nat) : Int) == 0) = true := by rw [HNP.out, hp0]; rfl
  by_cases hu0 : nu = 0
  ·have d2 : ((x.U.length : Int) == 0) = true := by rw [HNU.out, hu0]; rfl
   have HP0 := Aside0.mk hp0
   have HU0 := Aside0.mk hu0
   clear hp0 hu0
   go_wp2_with (first | ((with_reducible refine gD 3 rfl ?_); refine bP 3 #[.int .i64 5, .int .i64 n, .string key, .int .i64 uc, .int .i64 un, .string us, .string rk, .int .i64 an, .int .i64 ab, .int .u32 am] 83 O0.out ?_; intro ga w1 o_ k_; obtain ⟨O1, K1⟩ := ok_ K0 o_ k_; have HM_1 := Aside0.mk (CellN.keep HM_0.out k_); have HP_1 := Aside0.mk (keepF HP_0.out k_); have HX_1 := Aside0.mk (CellN.keep HX_0.out k_); have HL_1 := Aside0.mk (keepF HL_0.out k_); clear ma mb mc md me mf mg mh mz xa xb xc xd xe xz O0 K0 HM_0 HP_0 HX_0 HL_0; have a0 := k10_ O1 0; obtain ⟨ma, mb, mc, md, me, mf, mg, mh, mz⟩ := blk8_ (HM_1.out.2); obtain ⟨xa, xb, xc, xd, xe, xz⟩ := blk5_ (HX_1.out.2); clear o_ k_) | ((with_reducible refine gD 4 rfl ?_); refine bP 4 #[.int .i64 0, .int .i64 0, .int .i64 0, .string ⟨#[]⟩, .bool false, .int .i64 0] 79 O1.out ?_; intro gr w2 o_ k_; obtain ⟨O2, K2⟩ := ok_ K1 o_ k_; have HM_2 := Aside0.mk (CellN.keep HM_1.out k_); have HP_2 := Aside0.mk (keepF HP_1.out k_); have HX_2 := Aside0.mk (CellN.keep HX_1.out k_); have HL_2 := Aside0.mk (keepF HL_1.out k_); clear a0 ma mb mc md me mf mg mh mz xa xb xc xd xe xz O1 K1 HM_1 HP_1 HX_1 HL_1; have a0 := k10_ O2 0; have a1 := k6_ O2 1; obtain ⟨ma, mb, mc, md, me, mf, mg, mh, mz⟩ := blk8_ (HM_2.out.2); obtain ⟨xa, xb, xc, xd, xe, xz⟩ := blk5_ (HX_2.out.2); clear o_ k_) | ((with_reducible refine gC 77 rfl ?_); refine gP (some 20) Tryd.func77 #[pt gm, .int .i64 n] ?_; obtain ⟨N_, on_, nn_, rr_, bb_⟩ := O2.out.frame0; refine (MClient_ok n on_ (CellN.mono HM_2.out nn_) (Kd.F_mono HP_2.out nn_) HN.out HB.out HQ.out).mono ?_; rintro e_ w3 ⟨rfl, oo_, kk_⟩; obtain ⟨o_, k_⟩ := bb_ _ _ kk_ oo_; refine ⟨_, rfl, ?_⟩; obtain ⟨O3, K3⟩ := ok_ K2 o_ k_; have HM_3 := Aside0.mk (CellN.keep HM_2.out k_); have HP_3 := Aside0.mk (keepF HP_2.out k_); have HX_3 := Aside0.mk (CellN.keep HX_2.out k_); have HL_3 := Aside0.mk (keepF HL_2.out k_); clear a0 a1 ma mb mc md me mf mg mh mz xa xb xc xd xe xz O2 K2 HM_2 HP_2 HX_2 HL_2; have a0 := k10_ O3 0; have a1 := k6_ O3 1; obtain ⟨ma, mb, mc, md, me, mf, mg, mh, mz⟩ := blk8_ (HM_3.out.2); obtain ⟨xa, xb, xc, xd, xe, xz⟩ := blk5_ (HX_3.out.2); clear o_ k_ oo_ kk_ on_ nn_ rr_ bb_) | ((with_reducible refine gC 78 rfl ?_); refine gP (some 87) Tryd.func78 #[pt gm, .int .i64 n] ?_; obtain ⟨N_, on_, nn_, rr_, bb_⟩ := O3.out.frame0; refine (MPend n on_ (CellN.mono HM_3.out nn_) (Kd.F_mono HP_3.out nn_) (CellN.mono HX_3.out nn_) (Kd.F_mono HL_3.out nn_) HN.out HB.out HQ.out HKL.out HLL.out HCL.out HOW.out HCJ.out).mono ?_; rintro e_ w4 ⟨rfl, oo_, kk_⟩; obtain ⟨o_, k_⟩ := bb_ _ _ kk_ oo_; refine ⟨_, rfl, ?_⟩; obtain ⟨O4, K4⟩ := ok_ K3 o_ k_; have HM_4 := Aside0.mk (CellN.keep HM_3.out k_); have HP_4 := Aside0.mk (keepF HP_3.out k_); have HX_4 := Aside0.mk (CellN.keep HX_3.out k_); have HL_4 := Aside0.mk (keepF HL_3.out k_); clear a0 a1 ma mb mc md me mf mg mh mz xa xb xc xd xe xz O3 K3 HM_3 HP_3 HX_3 HL_3; have a0 := k10_ O4 0; have a1 := k6_ O4 1; obtain ⟨ma, mb, mc, md, me, mf, mg, mh, mz⟩ := blk8_ (HM_4.out.2); obtain ⟨xa, xb, xc, xd, xe, xz⟩ := blk5_ (HX_4.out.2); clear o_ k_ oo_ kk_ on_ nn_ rr_ bb_) | ((with_reducible refine gT 79 4 rfl ?_); refine wS 1 0 [.int .i64 0, .int .i64 0, .int .i64 0, .string ⟨#[]⟩, .bool true, .int .i64 0] O4 ?_; intro w5 o_ k_; obtain ⟨O5, K5⟩ := ok_ K4 o_ k_; have HM_5 := Aside0.mk (CellN.keep HM_4.out k_); have HP_5 := Aside0.mk (keepF HP_4.out k_); have HX_5 := Aside0.mk (CellN.keep HX_4.out k_); have HL_5 := Aside0.mk (keepF HL_4.out k_); clear a0 a1 ma mb mc md me mf mg mh mz xa xb xc xd xe xz O4 K4 HM_4 HP_4 HX_4 HL_4; have a0 := k10_ O5 0; have a1 := k6_ O5 1; obtain ⟨ma, mb, mc, md, me, mf, mg, mh, mz⟩ := blk8_ (HM_5.out.2); obtain ⟨xa, xb, xc, xd, xe, xz⟩ := blk5_ (HX_5.out.2); clear o_ k_))
   refine bodyPost_ret (results_cell_row rfl _ _ gr 79 #[.int .i64 0, .int .i64 0, .int .i64 0, .string ⟨#[]⟩, .bool true, .int .i64 0] (0, 0) _ rfl (O5.out.blk (i := 1) rfl) Tryd.underlying79 rfl (by kernel_rfl)) rfl ?_
   exact ⟨by rw [show (decide (x.J.length - ownN n L x = 0) && decide (x.U.length = 0)) = true by rw [HNP.out, HNU.out]; simp [HP0.out, HU0.out]], O5.out.take 0, K5.out⟩
  ·have d2 : ((x.U.length : Int) == 0) = false := beq_eq_false_iff_ne.mpr (by rw [HNU.out]; omega)
   have HP0 := Aside0.mk hp0
   have HU0 := Aside0.mk hu0
   clear hp0 hu0
   go_wp2_with (first | ((with_reducible refine gD 3 rfl ?_); refine bP 3 #[.int .i64 5, .int .i64 n, .string key, .int .i64 uc, .int .i64 un, .string us, .string rk, .int .i64 an, .int .i64 ab, .int .u32 am] 83 O0.out ?_; intro ga w1 o_ k_; obtain ⟨O1, K1⟩ := ok_ K0 o_ k_; have HM_1 := Aside0.mk (CellN.keep HM_0.out k_); have HP_1 := Aside0.mk (keepF HP_0.out k_); have HX_1 := Aside0.mk (CellN.keep HX_0.out k_); have HL_1 := Aside0.mk (keepF HL_0.out k_); clear ma mb mc md me mf mg mh mz xa xb xc xd xe xz O0 K0 HM_0 HP_0 HX_0 HL_0; have a0 := k10_ O1 0; obtain ⟨ma, mb, mc, md, me, mf, mg, mh, mz⟩ := blk8_ (HM_1.out.2); obtain ⟨xa, xb, xc, xd, xe, xz⟩ := blk5_ (HX_1.out.2); clear o_ k_) | ((with_reducible refine gD 4 rfl ?_); refine bP 4 #[.int .i64 0, .int .i64 0, .int .i64 0, .string ⟨#[]⟩, .bool false, .int .i64 0] 79 O1.out ?_; intro gr w2 o_ k_; obtain ⟨O2, K2⟩ := ok_ K1 o_ k_; have HM_2 := Aside0.mk (CellN.keep HM_1.out k_); have HP_2 := Aside0.mk (keepF HP_1.out k_); have HX_2 := Aside0.mk (CellN.keep HX_1.out k_); have HL_2 := Aside0.mk (keepF HL_1.out k_); clear a0 ma mb mc md me mf mg mh mz xa xb xc xd xe xz O1 K1 HM_1 HP_1 HX_1 HL_1; have a0 := k10_ O2 0; have a1 := k6_ O2 1; obtain ⟨ma, mb, mc, md, me, mf, mg, mh, mz⟩ := blk8_ (HM_2.out.2); obtain ⟨xa, xb, xc, xd, xe, xz⟩ := blk5_ (HX_2.out.2); clear o_ k_) | ((with_reducible refine gC 77 rfl ?_); refine gP (some 20) Tryd.func77 #[pt gm, .int .i64 n] ?_; obtain ⟨N_, on_, nn_, rr_, bb_⟩ := O2.out.frame0; refine (MClient_ok n on_ (CellN.mono HM_2.out nn_) (Kd.F_mono HP_2.out nn_) HN.out HB.out HQ.out).mono ?_; rintro e_ w3 ⟨rfl, oo_, kk_⟩; obtain ⟨o_, k_⟩ := bb_ _ _ kk_ oo_; refine ⟨_, rfl, ?_⟩; obtain ⟨O3, K3⟩ := ok_ K2 o_ k_; have HM_3 := Aside0.mk (CellN.keep HM_2.out k_); have HP_3 := Aside0.mk (keepF HP_2.out k_); have HX_3 := Aside0.mk (CellN.keep HX_2.out k_); have HL_3 := Aside0.mk (keepF HL_2.out k_); clear a0 a1 ma mb mc md me mf mg mh mz xa xb xc xd xe xz O2 K2 HM_2 HP_2 HX_2 HL_2; have a0 := k10_ O3 0; have a1 := k6_ O3 1; obtain ⟨ma, mb, mc, md, me, mf, mg, mh, mz⟩ := blk8_ (HM_3.out.2); obtain ⟨xa, xb, xc, xd, xe, xz⟩ := blk5_ (HX_3.out.2); clear o_ k_ oo_ kk_ on_ nn_ rr_ bb_) | ((with_reducible refine gC 78 rfl ?_); refine gP (some 87) Tryd.func78 #[pt gm, .int .i64 n] ?_; obtain ⟨N_, on_, nn_, rr_, bb_⟩ := O3.out.frame0; refine (MPend n on_ (CellN.mono HM_3.out nn_) (Kd.F_mono HP_3.out nn_) (CellN.mono HX_3.out nn_) (Kd.F_mono HL_3.out nn_) HN.out HB.out HQ.out HKL.out HLL.out HCL.out HOW.out HCJ.out).mono ?_; rintro e_ w4 ⟨rfl, oo_, kk_⟩; obtain ⟨o_, k_⟩ := bb_ _ _ kk_ oo_; refine ⟨_, rfl, ?_⟩; obtain ⟨O4, K4⟩ := ok_ K3 o_ k_; have HM_4 := Aside0.mk (CellN.keep HM_3.out k_); have HP_4 := Aside0.mk (keepF HP_3.out k_); have HX_4 := Aside0.mk (CellN.keep HX_3.out k_); have HL_4 := Aside0.mk (keepF HL_3.out k_); clear a0 a1 ma mb mc md me mf mg mh mz xa xb xc xd xe xz O3 K3 HM_3 HP_3 HX_3 HL_3; have a0 := k10_ O4 0; have a1 := k6_ O4 1; obtain ⟨ma, mb, mc, md, me, mf, mg, mh, mz⟩ := blk8_ (HM_4.out.2); obtain ⟨xa, xb, xc, xd, xe, xz⟩ := blk5_ (HX_4.out.2); clear o_ k_ oo_ kk_ on_ nn_ rr_ bb_) | ((with_reducible refine gT 79 4 rfl ?_); refine wS 1 0 [.int .i64 0, .int .i64 0, .int .i64 0, .string ⟨#[]⟩, .bool false, .int .i64 0] O4 ?_; intro w5 o_ k_; obtain ⟨O5, K5⟩ := ok_ K4 o_ k_; have HM_5 := Aside0.mk (CellN.keep HM_4.out k_); have HP_5 := Aside0.mk (keepF HP_4.out k_); have HX_5 := Aside0.mk (CellN.keep HX_4.out k_); have HL_5 := Aside0.mk (keepF HL_4.out k_); clear a0 a1 ma mb mc md me mf mg mh mz xa xb xc xd xe xz O4 K4 HM_4 HP_4 HX_4 HL_4; have a0 := k10_ O5 0; have a1 := k6_ O5 1; obtain ⟨ma, mb, mc, md, me, mf, mg, mh, mz⟩ := blk8_ (HM_5.out.2); obtain ⟨xa, xb, xc, xd, xe, xz⟩ := blk5_ (HX_5.out.2); clear o_ k_))
   refine bodyPost_ret (results_cell_row rfl _ _ gr 79 #[.int .i64 0, .int .i64 0, .int .i64 0, .string ⟨#[]⟩, .bool false, .int .i64 0] (0, 0) _ rfl (O5.out.blk (i := 1) rfl) Tryd.underlying79 rfl (by kernel_rfl)) rfl ?_
   exact ⟨by rw [show (decide (x.J.length - ownN n L x = 0) && decide (x.U.length = 0)) = false by rw [HNP.out, HNU.out]; simp [HP0.out, HU0.out]], O5.out.take 0, K5.out⟩
 ·have d1 : (((x.J.length - ownN n L x : Nat) : Int) == 0) = false := beq_eq_false_iff_ne.mpr (by rw [HNP.out]; omega)
  have HP0 := Aside0.mk hp0
  clear hp0
  go_wp2_with (first | ((with_reducible refine gD 3 rfl ?_); refine bP 3 #[.int .i64 5, .int .i64 n, .string key, .int .i64 uc, .int .i64 un, .string us, .string rk, .int .i64 an, .int .i64 ab, .int .u32 am] 83 O0.out ?_; intro ga w1 o_ k_; obtain ⟨O1, K1⟩ := ok_ K0 o_ k_; have HM_1 := Aside0.mk (CellN.keep HM_0.out k_); have HP_1 := Aside0.mk (keepF HP_0.out k_); have HX_1 := Aside0.mk (CellN.keep HX_0.out k_); have HL_1 := Aside0.mk (keepF HL_0.out k_); clear ma mb mc md me mf mg mh mz xa xb xc xd xe xz O0 K0 HM_0 HP_0 HX_0 HL_0; have a0 := k10_ O1 0; obtain ⟨ma, mb, mc, md, me, mf, mg, mh, mz⟩ := blk8_ (HM_1.out.2); obtain ⟨xa, xb, xc, xd, xe, xz⟩ := blk5_ (HX_1.out.2); clear o_ k_) | ((with_reducible refine gD 4 rfl ?_); refine bP 4 #[.int .i64 0, .int .i64 0, .int .i64 0, .string ⟨#[]⟩, .bool false, .int .i64 0] 79 O1.out ?_; intro gr w2 o_ k_; obtain ⟨O2, K2⟩ := ok_ K1 o_ k_; have HM_2 := Aside0.mk (CellN.keep HM_1.out k_); have HP_2 := Aside0.mk (keepF HP_1.out k_); have HX_2 := Aside0.mk (CellN.keep HX_1.out k_); have HL_2 := Aside0.mk (keepF HL_1.out k_); clear a0 ma mb mc md me mf mg mh mz xa xb xc xd xe xz O1 K1 HM_1 HP_1 HX_1 HL_1; have a0 := k10_ O2 0; have a1 := k6_ O2 1; obtain ⟨ma, mb, mc, md, me, mf, mg, mh, mz⟩ := blk8_ (HM_2.out.2); obtain ⟨xa, xb, xc, xd, xe, xz⟩ := blk5_ (HX_2.out.2); clear o_ k_) | ((with_reducible refine gC 77 rfl ?_); refine gP (some 20) Tryd.func77 #[pt gm, .int .i64 n] ?_; obtain ⟨N_, on_, nn_, rr_, bb_⟩ := O2.out.frame0; refine (MClient_ok n on_ (CellN.mono HM_2.out nn_) (Kd.F_mono HP_2.out nn_) HN.out HB.out HQ.out).mono ?_; rintro e_ w3 ⟨rfl, oo_, kk_⟩; obtain ⟨o_, k_⟩ := bb_ _ _ kk_ oo_; refine ⟨_, rfl, ?_⟩; obtain ⟨O3, K3⟩ := ok_ K2 o_ k_; have HM_3 := Aside0.mk (CellN.keep HM_2.out k_); have HP_3 := Aside0.mk (keepF HP_2.out k_); have HX_3 := Aside0.mk (CellN.keep HX_2.out k_); have HL_3 := Aside0.mk (keepF HL_2.out k_); clear a0 a1 ma mb mc md me mf mg mh mz xa xb xc xd xe xz O2 K2 HM_2 HP_2 HX_2 HL_2; have a0 := k10_ O3 0; have a1 := k6_ O3 1; obtain ⟨ma, mb, mc, md, me, mf, mg, mh, mz⟩ := blk8_ (HM_3.out.2); obtain ⟨xa, xb, xc, xd, xe, xz⟩ := blk5_ (HX_3.out.2); clear o_ k_ oo_ kk_ on_ nn_ rr_ bb_) | ((with_reducible refine gC 78 rfl ?_); refine gP (some 87) Tryd.func78 #[pt gm, .int .i64 n] ?_; obtain ⟨N_, on_, nn_, rr_, bb_⟩ := O3.out.frame0; refine (MPend n on_ (CellN.mono HM_3.out nn_) (Kd.F_mono HP_3.out nn_) (CellN.mono HX_3.out nn_) (Kd.F_mono HL_3.out nn_) HN.out HB.out HQ.out HKL.out HLL.out HCL.out HOW.out HCJ.out).mono ?_; rintro e_ w4 ⟨rfl, oo_, kk_⟩; obtain ⟨o_, k_⟩ := bb_ _ _ kk_ oo_; refine ⟨_, rfl, ?_⟩; obtain ⟨O4, K4⟩ := ok_ K3 o_ k_; have HM_4 := Aside0.mk (CellN.keep HM_3.out k_); have HP_4 := Aside0.mk (keepF HP_3.out k_); have HX_4 := Aside0.mk (CellN.keep HX_3.out k_); have HL_4 := Aside0.mk (keepF HL_3.out k_); clear a0 a1 ma mb mc md me mf mg mh mz xa xb xc xd xe xz O3 K3 HM_3 HP_3 HX_3 HL_3; have a0 := k10_ O4 0; have a1 := k6_ O4 1; obtain ⟨ma, mb, mc, md, me, mf, mg, mh, mz⟩ := blk8_ (HM_4.out.2); obtain ⟨xa, xb, xc, xd, xe, xz⟩ := blk5_ (HX_4.out.2); clear o_ k_ oo_ kk_ on_ nn_ rr_ bb_) | ((with_reducible refine gT 79 4 rfl ?_); refine wS 1 0 [.int .i64 0, .int .i64 0, .int .i64 0, .string ⟨#[]⟩, .bool false, .int .i64 0] O4 ?_; intro w5 o_ k_; obtain ⟨O5, K5⟩ := ok_ K4 o_ k_; have HM_5 := Aside0.mk (CellN.keep HM_4.out k_); have HP_5 := Aside0.mk (keepF HP_4.out k_); have HX_5 := Aside0.mk (CellN.keep HX_4.out k_); have HL_5 := Aside0.mk (keepF HL_4.out k_); clear a0 a1 ma mb mc md me mf mg mh mz xa xb xc xd xe xz O4 K4 HM_4 HP_4 HX_4 HL_4; have a0 := k10_ O5 0; have a1 := k6_ O5 1; obtain ⟨ma, mb, mc, md, me, mf, mg, mh, mz⟩ := blk8_ (HM_5.out.2); obtain ⟨xa, xb, xc, xd, xe, xz⟩ := blk5_ (HX_5.out.2); clear o_ k_))
  refine bodyPost_ret (results_cell_row rfl _ _ gr 79 #[.int .i64 0, .int .i64 0, .int .i64 0, .string ⟨#[]⟩, .bool false, .int .i64 0] (0, 0) _ rfl (O5.out.blk (i := 1) rfl) Tryd.underlying79 rfl (by kernel_rfl)) rfl ?_
  exact ⟨by rw [show (decide (x.J.length - ownN n L x = 0) && decide (x.U.length = 0)) = false by rw [HNP.out, HNU.out]; simp [HP0.out]], O5.out.take 0, K5.out⟩
theorem MUpd_e (E : Int) (U2 : List Upd7) {N : Nat → Prop} {w : World} {gm g : Nat} {cf : MCf} {vL vC vJ : Value} {x : MCl} {AU : Option Addr} {cU : Nat} (key : ByteArray) (c n : Int) (s : ByteArray) (hE : updE x.U key c n s cf.mtu = E) (hU : updU x.U key c n s cf.mtu = U2) (h : Own N w [cells g #[.int .i64 x.e, vJ, .int .i64 x.k, .int .i64 x.c, .slice AU x.U.length cU] 127, nrow kU7 tU7 (.slice AU x.U.length cU) x.U]) (hmm : CellN N w gm #[.int .i64 cf.cl, .int .i64 cf.win, .int .i64 cf.push, .int .i64 cf.pull, .int .i64 cf.mtu, .int .i64 cf.last, vL, vC] 123) (ht : TabN N w) (hL : x.U.length ≤ 1000000) :
  Calls Tryd.prog 79 #[pt gm, pt g, .agg #[.string key, .int .i64 c, .int .i64 n, .string s]] w fun e_ w' => ∃ A1 c1, e_ = .returned (.int .i64 E) ∧ Own N w' [cells g #[.int .i64 x.e, vJ, .int .i64 x.k, .int .i64 x.c, .slice A1 U2.length c1] 127, nrow kU7 tU7 (.slice A1 U2.length c1) U2] ∧ KeepS N w w' := by
 subst hE hU
 exact MUpd key c n s h hmm ht hL
theorem MDo_1 {N : Nat → Prop} {w : World} {gm : Nat} {cf : MCf} {L : List Rnd7} {cls : List MCl} {x : MCl} (n : Int) (key : ByteArray) (uc un : Int) (us rk : ByteArray) (an ab am : Int) (h : Own N w [ModO gm cf L cls]) (hn : 1 ≤ n ∧ n ≤ cls.length) (hb : cls.length ≤ 64) (hx : cls[n.toNat - 1]? = some x) (ht : TabN N w) (hLU : x.U.length ≤ 1000000) :
  Calls Tryd.prog 42 #[pt gm, .agg #[.int .i64 1, .int .i64 n, .string key, .int .i64 uc, .int .i64 un, .string us, .string rk, .int .i64 an, .int .i64 ab, .int .u32 am]] w fun e_ w' => e_ = .returned (repM (rep0 (updE x.U key uc un us cf.mtu))) ∧ Own N w' [ModO gm cf L (cls.set (n.toNat - 1) { x with U := updU x.U key uc un us cf.mtu })] ∧ KeepS N w w' := by
 obtain ⟨U2, hU2⟩ : ∃ U2, updU x.U key uc un us cf.mtu = U2 := ⟨_, rfl⟩
 obtain ⟨E, hE⟩ : ∃ E, updE x.U key uc un us cf.mtu = E := ⟨_, rfl⟩
 rw [hU2, hE]
 have HU2 := Aside0.mk hU2
 have HE := Aside0.mk hE
 have HLU := Aside0.mk hLU
 have HT_0 := Aside0.mk ht
 obtain ⟨AL, cL, AC, cC, rL, qs, q, AJ, cJ, AU, cU, ⟨hq, hrl, hqj⟩, hqi, h2⟩ := ModO.at h hx
 have HN := Aside0.mk hn
 have HB := Aside0.mk hb
 have HQI := Aside0.mk hqi
 have HXX := Aside0.mk hx
 have HQL := Aside0.mk hq
 have HRL := Aside0.mk hrl
 have HQJ := Aside0.mk hqj
 have O0 : Aside0 (Own N w [cells gm #[.int .i64 cf.cl, .int .i64 cf.win, .int .i64 cf.push, .int .i64 cf.pull, .int .i64 cf.mtu, .int .i64 cf.last, .slice AL L.length cL, .slice AC cls.length cC] 123, poolI rL L qs cls, bigs ((clsI qs cls).set (n.toNat - 1) emp), nrow (Kd.raw 1) tMP (.slice AC cls.length cC) (ptrs qs), nrow (Kd.raw 3) tR7 (.slice AL L.length cL) rL, cells q.1 #[.int .i64 x.e, .slice AJ x.J.length cJ, .int .i64 x.k, .int .i64 x.c, .slice AU x.U.length cU] 127, nrow kU7 tU7 (.slice AU x.U.length cU) x.U, nrow (Kd.raw 3) tR7 (.slice AJ x.J.length cJ) q.2]) := ⟨h2⟩
 have K0 : Aside0 (KeepS N w w) := ⟨KeepS.refl _ _⟩
 have a0 := k8_ O0 0
 have a5 := k5_ O0 5
 clear h h2 hx hn hb hq hrl hqj hqi hU2 hE hLU ht
 go_enter Tryd.func42, Tryd.ntmps42
 go_wp2_with (first | ((with_reducible refine gD 3 rfl ?_); refine bP 3 #[.int .i64 1, .int .i64 n, .string key, .int .i64 uc, .int .i64 un, .string us, .string rk, .int .i64 an, .int .i64 ab, .int .u32 am] 83 O0.out ?_; intro ga w1 o_ k_; obtain ⟨O1, K1⟩ := ok_ K0 o_ k_; have HT_1 := Aside0.mk (TabN.keep HT_0.out k_); clear a0 a5 O0 K0 HT_0; have a0 := k8_ O1 0; have a5 := k5_ O1 5; have a8 := k10_ O1 8; clear o_ k_) | ((with_reducible refine gD 4 rfl ?_); refine bP 4 #[.int .i64 0, .int .i64 0, .int .i64 0, .string ⟨#[]⟩, .bool false, .int .i64 0] 79 O1.out ?_; intro gr w2 o_ k_; obtain ⟨O2, K2⟩ := ok_ K1 o_ k_; have HT_2 := Aside0.mk (TabN.keep HT_1.out k_); clear a0 a5 a8 O1 K1 HT_1; have a0 := k8_ O2 0; have a5 := k5_ O2 5; have a8 := k10_ O2 8; have a9 := k6_ O2 9; clear o_ k_) | ((with_reducible refine gC 77 rfl ?_); refine gP (some 20) Tryd.func77 #[pt gm, .int .i64 n] ?_; obtain ⟨N_, on_, nn_, rr_, bb_⟩ := O2.out.frame0; refine (MClient_ok (L := L) n on_ (rr_ 0 _ rfl) (Kd.N_F (rr_ 3 _ rfl)) HN.out HB.out HQI.out).mono ?_; rintro e_ w3 ⟨rfl, oo_, kk_⟩; obtain ⟨o_, k_⟩ := bb_ _ _ kk_ oo_; refine ⟨_, rfl, ?_⟩; obtain ⟨O3, K3⟩ := ok_ K2 o_ k_; have HT_3 := Aside0.mk (TabN.keep HT_2.out k_); clear a0 a5 a8 a9 O2 K2 HT_2; have a0 := k8_ O3 0; have a5 := k5_ O3 5; have a8 := k10_ O3 8; have a9 := k6_ O3 9; clear o_ k_ oo_ kk_ on_ nn_ rr_ bb_) | ((with_reducible refine gC 79 rfl ?_); refine gP (some 32) Tryd.func79 #[pt gm, pt q.1, .agg #[.string key, .int .i64 uc, .int .i64 un, .string us]] ?_; obtain ⟨N_, on_, nn_, rr_, bb_⟩ := O3.out.frameL [5, 6] (by decide) (by simp); refine (MUpd_e E U2 key uc un us HE.out HU2.out on_ (rr_ 0 _ (by decide) rfl) (TabN.mono HT_3.out nn_) HLU.out).mono ?_; rintro e_ w4 ⟨A1, c1_, rfl, oo_, kk_⟩; obtain ⟨o_, k_⟩ := bb_ _ [cells q.1 #[.int .i64 x.e, .slice AJ x.J.length cJ, .int .i64 x.k, .int .i64 x.c, .slice A1 U2.length c1_] 127, nrow kU7 tU7 (.slice A1 U2.length c1_) U2] [] rfl kk_ oo_; refine ⟨_, rfl, ?_⟩; obtain ⟨O4, K4⟩ := ok_ K3 o_ k_; have HT_4 := Aside0.mk (TabN.keep HT_3.out k_); clear a0 a5 a8 a9 O3 K3 HT_3; have a0 := k8_ O4 0; have a5 := k5_ O4 5; have a8 := k10_ O4 8; have a9 := k6_ O4 9; clear o_ k_ oo_ kk_ on_ nn_ rr_ bb_) | ((with_reducible refine gT 79 4 rfl ?_); refine wS 9 0 [.int .i64 E, .int .i64 0, .int .i64 0, .string ⟨#[]⟩, .bool false, .int .i64 0] O4 ?_; intro w5 o_ k_; obtain ⟨O5, K5⟩ := ok_ K4 o_ k_; have HT_5 := Aside0.mk (TabN.keep HT_4.out k_); clear a0 a5 a8 a9 O4 K4 HT_4; have a0 := k8_ O5 0; have a5 := k5_ O5 5; have a8 := k10_ O5 8; have a9 := k6_ O5 9; clear o_ k_))
 refine bodyPost_ret (results_cell_row rfl _ _ gr 79 #[.int .i64 E, .int .i64 0, .int .i64 0, .string ⟨#[]⟩, .bool false, .int .i64 0] (0, 0) _ rfl (O5.out.blk (i := 9) rfl) Tryd.underlying79 rfl (by kernel_rfl)) rfl ?_
 exact ⟨rfl, ModO.backU (x' := { x with U := U2 }) HXX.out HQL.out HQI.out rfl (O5.out.pickL [0, 1, 2, 3, 4, 5, 6, 7] (by decide) (by simp)), K5.out⟩
theorem MPush_err (E : Int) {N : Nat → Prop} {w : World} {gm nc cL cC : Nat} {cf : MCf} {AL AC : Option Addr} {L : List Rnd7} {qs : List (Nat × RawR)} {q : Nat × RawR} {x : MCl} {AJ AU : Option Addr} {cJ cU : Nat} {rJ : RawR} (n : Int) (h : Own N w [cells q.1 #[.int .i64 x.e, .slice AJ x.J.length cJ, .int .i64 x.k, .int .i64 x.c, .slice AU x.U.length cU] 127, nrow kU7 tU7 (.slice AU x.U.length cU) x.U, nrow (Kd.raw 3) tR7 (.slice AJ x.J.length cJ) rJ]) (hm : CellN N w gm #[.int .i64 cf.cl, .int .i64 cf.win, .int .i64 cf.push, .int .i64 cf.pull, .int .i64 cf.mtu, .int .i64 cf.last, .slice AL L.length cL, .slice AC nc cC] 123) (hp : Kd.F (Kd.raw 1) w N AC nc (ptrs qs)) (hl : Kd.F kR7 w N AL L.length L) (hn : 1 ≤ n ∧ n ≤ nc) (hb : nc ≤ 64) (hq : qs[n.toNat - 1]? = some q) (hk : x.k ≤ L.length) (hL : L.length ≤ 1000000) (hcL : L.length ≤ cL) (ho : ownN n L x ≤ x.J.length) (hc : x.J.length ≤ cJ) (hLJ : x.J.length ≤ 1000000) (hrJ : rJ.length = x.J.length) (hE : mpushE n L x cf = E) (h0 : E ≠ 0) :
  Calls Tryd.prog 81 #[pt gm, .int .i64 n, pt q.1] w fun e_ w' => e_ = .returned (repV E 0) ∧ Own N w' [cells q.1 #[.int .i64 x.e, .slice AJ x.J.length cJ, .int .i64 x.k, .int .i64 x.c, .slice AU x.U.length cU] 127, nrow kU7 tU7 (.slice AU x.U.length cU) x.U, nrow (Kd.raw 3) tR7 (.slice AJ x.J.length cJ) rJ] ∧ KeepS N w w' := by
 subst hE
 rcases mpush_cases n L x cf with ⟨h1, e⟩ | ⟨h1, h2, e⟩ | ⟨h1, h2, h3, e⟩ | ⟨h1, h2, h3, e⟩
 ·rw [e]; exact MPush_none n h hm hp hl hn hb hq hk hL hcL ho hc hLJ hrJ h1
 ·rw [e]; exact MPush_full n h hm hp hl hn hb hq hk hL hcL ho hc hLJ hrJ h1 h2
 ·rw [e]; exact MPush_last n h hm hp hl hn hb hq hk hL hcL ho hc hLJ hrJ h1 h2 h3
 ·exact (h0 e).elim
theorem MPush_yes {N : Nat → Prop} {w : World} {gm nc cL cC : Nat} {cf : MCf} {AL AC : Option Addr} {L : List Rnd7} {qs : List (Nat × RawR)} {q : Nat × RawR} {x : MCl} {AJ AU : Option Addr} {cJ cU : Nat} {rJ : RawR} (n : Int) (h : Own N w [cells q.1 #[.int .i64 x.e, .slice AJ x.J.length cJ, .int .i64 x.k, .int .i64 x.c, .slice AU x.U.length cU] 127, nrow kU7 tU7 (.slice AU x.U.length cU) x.U, nrow (Kd.raw 3) tR7 (.slice AJ x.J.length cJ) rJ]) (hm : CellN N w gm #[.int .i64 cf.cl, .int .i64 cf.win, .int .i64 cf.push, .int .i64 cf.pull, .int .i64 cf.mtu, .int .i64 cf.last, .slice AL L.length cL, .slice AC nc cC] 123) (hp : Kd.F (Kd.raw 1) w N AC nc (ptrs qs)) (hl : Kd.F kR7 w N AL L.length L) (hn : 1 ≤ n ∧ n ≤ nc) (hb : nc ≤ 64) (hq : qs[n.toNat - 1]? = some q) (hk : x.k ≤ L.length) (hL : L.length ≤ 1000000) (hcL : L.length ≤ cL) (ho : ownN n L x ≤ x.J.length) (hc : x.J.length ≤ cJ) (hLJ : x.J.length ≤ 1000000) (hrJ : rJ.length = x.J.length) (h0 : mpushE n L x cf = 0) :
  Calls Tryd.prog 81 #[pt gm, .int .i64 n, pt q.1] w fun e_ w' => ∃ B2 b2, e_ = .returned (repV 0 ((x.J.length + 1 : Nat) : Int)) ∧ Own N w' [cells q.1 #[.int .i64 x.e, .slice B2 (x.J.length + 1) b2, .int .i64 x.k, .int .i64 x.c, .slice none 0 0] 127, nrow kU7 tU7 (.slice AU x.U.length cU) x.U, nrow (Kd.raw 3) tR7 (.slice B2 (x.J.length + 1) b2) (rJ ++ [rw3 n ((x.J.length : Int) + 1) (.slice AU x.U.length cU)])] ∧ KeepS N w w' := by
 rcases mpush_cases n L x cf with ⟨h1, e⟩ | ⟨h1, h2, e⟩ | ⟨h1, h2, h3, e⟩ | ⟨h1, h2, h3, e⟩
 ·rw [e] at h0; cases h0
 ·rw [e] at h0; cases h0
 ·rw [e] at h0; cases h0
 ·exact MPush_ok n h hm hp hl hn hb hq hk hL hcL ho hc hLJ hrJ h1 h2 h3
theorem MDo_3n {N : Nat → Prop} {w : World} {gm : Nat} {cf : MCf} {L : List Rnd7} {cls : List MCl} {x : MCl} (n : Int) (key : ByteArray) (uc un : Int) (us rk : ByteArray) (an ab am : Int) (h : Own N w [ModO gm cf L cls]) (hn : 1 ≤ n ∧ n ≤ cls.length) (hb : cls.length ≤ 64) (hx : cls[n.toNat - 1]? = some x) (hk : x.k ≤ L.length) (hL : L.length ≤ 1000000) (ho : ownN n L x ≤ x.J.length) (hLJ : x.J.length ≤ 1000000) (h0 : mpushE n L x cf ≠ 0) :
  Calls Tryd.prog 42 #[pt gm, .agg #[.int .i64 3, .int .i64 n, .string key, .int .i64 uc, .int .i64 un, .string us, .string rk, .int .i64 an, .int .i64 ab, .int .u32 am]] w fun e_ w' => e_ = .returned (repM (rep0 (mpushE n L x cf))) ∧ Own N w' [ModO gm cf L cls] ∧ KeepS N w w' := by
 obtain ⟨E, hE⟩ : ∃ E, mpushE n L x cf = E := ⟨_, rfl⟩
 rw [hE] at h0 ⊢
 have HE := Aside0.mk hE
 have H0 := Aside0.mk h0
 have HKL := Aside0.mk hk
 have HLL := Aside0.mk hL
 have HOW := Aside0.mk ho
 have HLJ := Aside0.mk hLJ
 obtain ⟨AL, cL, AC, cC, rL, qs, q, AJ, cJ, AU, cU, ⟨hq, hrl, hqj⟩, hqi, h2⟩ := ModO.at h hx
 have HN := Aside0.mk hn
 have HB := Aside0.mk hb
 have HQI := Aside0.mk hqi
 have HXX := Aside0.mk hx
 have HQL := Aside0.mk hq
 have HRL := Aside0.mk hrl
 have HQJ := Aside0.mk hqj
 have HCC := Aside0.mk (show L.length ≤ cL ∧ x.J.length ≤ cJ ∧ x.U.length ≤ cU from ⟨(h2.nreads (i := 4) rfl).2.1, (h2.nreads (i := 7) rfl).2.1, (h2.nreads (i := 6) rfl).2.1⟩)
 have O0 : Aside0 (Own N w [cells gm #[.int .i64 cf.cl, .int .i64 cf.win, .int .i64 cf.push, .int .i64 cf.pull, .int .i64 cf.mtu, .int .i64 cf.last, .slice AL L.length cL, .slice AC cls.length cC] 123, poolI rL L qs cls, bigs ((clsI qs cls).set (n.toNat - 1) emp), nrow (Kd.raw 1) tMP (.slice AC cls.length cC) (ptrs qs), nrow (Kd.raw 3) tR7 (.slice AL L.length cL) rL, cells q.1 #[.int .i64 x.e, .slice AJ x.J.length cJ, .int .i64 x.k, .int .i64 x.c, .slice AU x.U.length cU] 127, nrow kU7 tU7 (.slice AU x.U.length cU) x.U, nrow (Kd.raw 3) tR7 (.slice AJ x.J.length cJ) q.2]) := ⟨h2⟩
 have K0 : Aside0 (KeepS N w w) := ⟨KeepS.refl _ _⟩
 have a0 := k8_ O0 0
 have a5 := k5_ O0 5
 clear h h2 hx hn hb hq hrl hqj hqi h0 hk hL ho hLJ hE
 go_enter Tryd.func42, Tryd.ntmps42
 go_wp2_with (first | ((with_reducible refine gD 3 rfl ?_); refine bP 3 #[.int .i64 3, .int .i64 n, .string key, .int .i64 uc, .int .i64 un, .string us, .string rk, .int .i64 an, .int .i64 ab, .int .u32 am] 83 O0.out ?_; intro ga w1 o_ k_; obtain ⟨O1, K1⟩ := ok_ K0 o_ k_; clear a0 a5 O0 K0; have a0 := k8_ O1 0; have a5 := k5_ O1 5; have a8 := k10_ O1 8; clear o_ k_) | ((with_reducible refine gD 4 rfl ?_); refine bP 4 #[.int .i64 0, .int .i64 0, .int .i64 0, .string ⟨#[]⟩, .bool false, .int .i64 0] 79 O1.out ?_; intro gr w2 o_ k_; obtain ⟨O2, K2⟩ := ok_ K1 o_ k_; clear a0 a5 a8 O1 K1; have a0 := k8_ O2 0; have a5 := k5_ O2 5; have a8 := k10_ O2 8; have a9 := k6_ O2 9; clear o_ k_) | ((with_reducible refine gC 77 rfl ?_); refine gP (some 20) Tryd.func77 #[pt gm, .int .i64 n] ?_; obtain ⟨N_, on_, nn_, rr_, bb_⟩ := O2.out.frame0; refine (MClient_ok (L := L) n on_ (rr_ 0 _ rfl) (Kd.N_F (rr_ 3 _ rfl)) HN.out HB.out HQI.out).mono ?_; rintro e_ w3 ⟨rfl, oo_, kk_⟩; obtain ⟨o_, k_⟩ := bb_ _ _ kk_ oo_; refine ⟨_, rfl, ?_⟩; obtain ⟨O3, K3⟩ := ok_ K2 o_ k_; clear a0 a5 a8 a9 O2 K2; have a0 := k8_ O3 0; have a5 := k5_ O3 5; have a8 := k10_ O3 8; have a9 := k6_ O3 9; clear o_ k_ oo_ kk_ on_ nn_ rr_ bb_) | ((with_reducible refine gC 81 rfl ?_); refine gP (some 61) Tryd.func81 #[pt gm, .int .i64 n, pt q.1] ?_; obtain ⟨N_, on_, nn_, rr_, bb_⟩ := O3.out.frameL [5, 6, 7] (by decide) (by simp); refine (MPush_err E n on_ (rr_ 0 _ (by decide) rfl) (Kd.N_F (rr_ 3 _ (by decide) rfl)) (leadF (rr_ 4 _ (by decide) rfl) (pool_get (rr_ 1 _ (by decide) rfl) List.mem_cons_self) HRL.out.symm) HN.out HB.out HQI.out HKL.out HLL.out HCC.out.1 HOW.out HCC.out.2.1 HLJ.out HQJ.out HE.out H0.out).mono ?_; rintro e_ w4 ⟨rfl, oo_, kk_⟩; obtain ⟨o_, k_⟩ := bb_ _ [cells q.1 #[.int .i64 x.e, .slice AJ x.J.length cJ, .int .i64 x.k, .int .i64 x.c, .slice AU x.U.length cU] 127, nrow kU7 tU7 (.slice AU x.U.length cU) x.U, nrow (Kd.raw 3) tR7 (.slice AJ x.J.length cJ) q.2] [] rfl kk_ oo_; refine ⟨_, rfl, ?_⟩; obtain ⟨O4, K4⟩ := ok_ K3 o_ k_; clear a0 a5 a8 a9 O3 K3; have a0 := k8_ O4 0; have a5 := k5_ O4 5; have a8 := k10_ O4 8; have a9 := k6_ O4 9; clear o_ k_ oo_ kk_ on_ nn_ rr_ bb_) | ((with_reducible refine gT 79 4 rfl ?_); refine wS 9 0 [.int .i64 E, .int .i64 0, .int .i64 0, .string ⟨#[]⟩, .bool false, .int .i64 0] O4 ?_; intro w5 o_ k_; obtain ⟨O5, K5⟩ := ok_ K4 o_ k_; clear a0 a5 a8 a9 O4 K4; have a0 := k8_ O5 0; have a5 := k5_ O5 5; have a8 := k10_ O5 8; have a9 := k6_ O5 9; clear o_ k_))
 refine bodyPost_ret (results_cell_row rfl _ _ gr 79 #[.int .i64 E, .int .i64 0, .int .i64 0, .string ⟨#[]⟩, .bool false, .int .i64 0] (0, 0) _ rfl (O5.out.blk (i := 9) rfl) Tryd.underlying79 rfl (by kernel_rfl)) rfl ?_
 exact ⟨rfl, by have hz := ModO.backU (x' := x) HXX.out HQL.out HQI.out rfl (O5.out.pickL [0, 1, 2, 3, 4, 5, 6, 7] (by decide) (by simp)); rw [set_same HXX.out] at hz; exact hz, K5.out⟩
theorem MDo_3y {N : Nat → Prop} {w : World} {gm : Nat} {cf : MCf} {L : List Rnd7} {cls : List MCl} {x : MCl} (n : Int) (key : ByteArray) (uc un : Int) (us rk : ByteArray) (an ab am : Int) (h : Own N w [ModO gm cf L cls]) (hn : 1 ≤ n ∧ n ≤ cls.length) (hb : cls.length ≤ 64) (hx : cls[n.toNat - 1]? = some x) (hk : x.k ≤ L.length) (hL : L.length ≤ 1000000) (ho : ownN n L x ≤ x.J.length) (hLJ : x.J.length ≤ 1000000) (h0 : mpushE n L x cf = 0) :
  Calls Tryd.prog 42 #[pt gm, .agg #[.int .i64 3, .int .i64 n, .string key, .int .i64 uc, .int .i64 un, .string us, .string rk, .int .i64 an, .int .i64 ab, .int .u32 am]] w fun e_ w' => e_ = .returned (repM (repN ((x.J.length + 1 : Nat) : Int))) ∧ Own N w' [ModO gm cf L (cls.set (n.toNat - 1) { x with J := x.J ++ [⟨n, (x.J.length : Int) + 1, x.U⟩], U := [] })] ∧ KeepS N w w' := by
 have H0 := Aside0.mk h0
 have HKL := Aside0.mk hk
 have HLL := Aside0.mk hL
 have HOW := Aside0.mk ho
 have HLJ := Aside0.mk hLJ
 obtain ⟨AL, cL, AC, cC, rL, qs, q, AJ, cJ, AU, cU, ⟨hq, hrl, hqj⟩, hqi, h2⟩ := ModO.at h hx
 have HN := Aside0.mk hn
 have HB := Aside0.mk hb
 have HQI := Aside0.mk hqi
 have HXX := Aside0.mk hx
 have HQL := Aside0.mk hq
 have HRL := Aside0.mk hrl
 have HQJ := Aside0.mk hqj
 have HCC := Aside0.mk (show L.length ≤ cL ∧ x.J.length ≤ cJ ∧ x.U.length ≤ cU from ⟨(h2.nreads (i := 4) rfl).2.1, (h2.nreads (i := 7) rfl).2.1, (h2.nreads (i := 6) rfl).2.1⟩)
 have O0 : Aside0 (Own N w [cells gm #[.int .i64 cf.cl, .int .i64 cf.win, .int .i64 cf.push, .int .i64 cf.pull, .int .i64 cf.mtu, .int .i64 cf.last, .slice AL L.length cL, .slice AC cls.length cC] 123, poolI rL L qs cls, bigs ((clsI qs cls).set (n.toNat - 1) emp), nrow (Kd.raw 1) tMP (.slice AC cls.length cC) (ptrs qs), nrow (Kd.raw 3) tR7 (.slice AL L.length cL) rL, cells q.1 #[.int .i64 x.e, .slice AJ x.J.length cJ, .int .i64 x.k, .int .i64 x.c, .slice AU x.U.length cU] 127, nrow kU7 tU7 (.slice AU x.U.length cU) x.U, nrow (Kd.raw 3) tR7 (.slice AJ x.J.length cJ) q.2]) := ⟨h2⟩
 have K0 : Aside0 (KeepS N w w) := ⟨KeepS.refl _ _⟩
 have a0 := k8_ O0 0
 have a5 := k5_ O0 5
 clear h h2 hx hn hb hq hrl hqj hqi h0 hk hL ho hLJ
 go_enter Tryd.func42, Tryd.ntmps42
 go_wp2_with (first | ((with_reducible refine gD 3 rfl ?_); refine bP 3 #[.int .i64 3, .int .i64 n, .string key, .int .i64 uc, .int .i64 un, .string us, .string rk, .int .i64 an, .int .i64 ab, .int .u32 am] 83 O0.out ?_; intro ga w1 o_ k_; obtain ⟨O1, K1⟩ := ok_ K0 o_ k_; clear a0 a5 O0 K0; have a0 := k8_ O1 0; have a5 := k5_ O1 5; have a8 := k10_ O1 8; clear o_ k_) | ((with_reducible refine gD 4 rfl ?_); refine bP 4 #[.int .i64 0, .int .i64 0, .int .i64 0, .string ⟨#[]⟩, .bool false, .int .i64 0] 79 O1.out ?_; intro gr w2 o_ k_; obtain ⟨O2, K2⟩ := ok_ K1 o_ k_; clear a0 a5 a8 O1 K1; have a0 := k8_ O2 0; have a5 := k5_ O2 5; have a8 := k10_ O2 8; have a9 := k6_ O2 9; clear o_ k_) | ((with_reducible refine gC 77 rfl ?_); refine gP (some 20) Tryd.func77 #[pt gm, .int .i64 n] ?_; obtain ⟨N_, on_, nn_, rr_, bb_⟩ := O2.out.frame0; refine (MClient_ok (L := L) n on_ (rr_ 0 _ rfl) (Kd.N_F (rr_ 3 _ rfl)) HN.out HB.out HQI.out).mono ?_; rintro e_ w3 ⟨rfl, oo_, kk_⟩; obtain ⟨o_, k_⟩ := bb_ _ _ kk_ oo_; refine ⟨_, rfl, ?_⟩; obtain ⟨O3, K3⟩ := ok_ K2 o_ k_; clear a0 a5 a8 a9 O2 K2; have a0 := k8_ O3 0; have a5 := k5_ O3 5; have a8 := k10_ O3 8; have a9 := k6_ O3 9; clear o_ k_ oo_ kk_ on_ nn_ rr_ bb_) | ((with_reducible refine gC 81 rfl ?_); refine gP (some 61) Tryd.func81 #[pt gm, .int .i64 n, pt q.1] ?_; obtain ⟨N_, on_, nn_, rr_, bb_⟩ := O3.out.frameL [5, 6, 7] (by decide) (by simp); refine (MPush_yes n on_ (rr_ 0 _ (by decide) rfl) (Kd.N_F (rr_ 3 _ (by decide) rfl)) (leadF (rr_ 4 _ (by decide) rfl) (pool_get (rr_ 1 _ (by decide) rfl) List.mem_cons_self) HRL.out.symm) HN.out HB.out HQI.out HKL.out HLL.out HCC.out.1 HOW.out HCC.out.2.1 HLJ.out HQJ.out H0.out).mono ?_; rintro e_ w4 ⟨B2, b2, rfl, oo_, kk_⟩; obtain ⟨o_, k_⟩ := bb_ _ [cells q.1 #[.int .i64 x.e, .slice B2 (x.J.length + 1) b2, .int .i64 x.k, .int .i64 x.c, .slice none 0 0] 127, nrow kU7 tU7 (.slice AU x.U.length cU) x.U, nrow (Kd.raw 3) tR7 (.slice B2 (x.J.length + 1) b2) (q.2 ++ [rw3 n ((x.J.length : Int) + 1) (.slice AU x.U.length cU)])] [] rfl kk_ oo_; refine ⟨_, rfl, ?_⟩; obtain ⟨O4, K4⟩ := ok_ K3 o_ k_; clear a0 a5 a8 a9 O3 K3; have a0 := k8_ O4 0; have a5 := k5_ O4 5; have a8 := k10_ O4 8; have a9 := k6_ O4 9; clear o_ k_ oo_ kk_ on_ nn_ rr_ bb_) | ((with_reducible refine gT 79 4 rfl ?_); refine wS 9 0 [.int .i64 0, .int .i64 0, .int .i64 0, .string ⟨#[]⟩, .bool false, .int .i64 ((x.J.length + 1 : Nat) : Int)] O4 ?_; intro w5 o_ k_; obtain ⟨O5, K5⟩ := ok_ K4 o_ k_; clear a0 a5 a8 a9 O4 K4; have a0 := k8_ O5 0; have a5 := k5_ O5 5; have a8 := k10_ O5 8; have a9 := k6_ O5 9; clear o_ k_))
 refine bodyPost_ret (results_cell_row rfl _ _ gr 79 #[.int .i64 0, .int .i64 0, .int .i64 0, .string ⟨#[]⟩, .bool false, .int .i64 ((x.J.length + 1 : Nat) : Int)] (0, 0) _ rfl (O5.out.blk (i := 9) rfl) Tryd.underlying79 rfl (by kernel_rfl)) rfl ?_
 exact ⟨rfl, ModO.backP (n := n) (m := (x.J.length : Int) + 1) (x' := { x with J := x.J ++ [⟨n, (x.J.length : Int) + 1, x.U⟩], U := [] }) HXX.out HQL.out HQI.out rfl rfl HCC.out.2.2 (O5.out.pickL [0, 1, 2, 3, 4, 5, 6, 7] (by decide) (by simp)), K5.out⟩
theorem MDo_4 {N : Nat → Prop} {w : World} {gm : Nat} {cf : MCf} {L : List Rnd7} {cls : List MCl} {x : MCl} (n : Int) (key : ByteArray) (uc un : Int) (us rk : ByteArray) (an ab am : Int) (h : Own N w [ModO gm cf L cls]) (hn : 1 ≤ n ∧ n ≤ cls.length) (hb : cls.length ≤ 64) (hx : cls[n.toNat - 1]? = some x) (hkc : x.k + x.c ≤ 1000000) :
  Calls Tryd.prog 42 #[pt gm, .agg #[.int .i64 4, .int .i64 n, .string key, .int .i64 uc, .int .i64 un, .string us, .string rk, .int .i64 an, .int .i64 ab, .int .u32 am]] w fun e_ w' => e_ = .returned (repM (repN x.c)) ∧ Own N w' [ModO gm cf L (cls.set (n.toNat - 1) { x with k := x.k + x.c, c := 0 })] ∧ KeepS N w w' := by
 have hs2 : wrap64 ((x.k : Int) + (x.c : Int)) = ((x.k + x.c : Nat) : Int) := by unfold wrap64; omega
 obtain ⟨AL, cL, AC, cC, rL, qs, q, AJ, cJ, AU, cU, ⟨hq, hrl, hqj⟩, hqi, h2⟩ := ModO.at h hx
 have HN := Aside0.mk hn
 have HB := Aside0.mk hb
 have HQI := Aside0.mk hqi
 have HXX := Aside0.mk hx
 have HQL := Aside0.mk hq
 have HRL := Aside0.mk hrl
 have HQJ := Aside0.mk hqj
 have O0 : Aside0 (Own N w [cells gm #[.int .i64 cf.cl, .int .i64 cf.win, .int .i64 cf.push, .int .i64 cf.pull, .int .i64 cf.mtu, .int .i64 cf.last, .slice AL L.length cL, .slice AC cls.length cC] 123, poolI rL L qs cls, bigs ((clsI qs cls).set (n.toNat - 1) emp), nrow (Kd.raw 1) tMP (.slice AC cls.length cC) (ptrs qs), nrow (Kd.raw 3) tR7 (.slice AL L.length cL) rL, cells q.1 #[.int .i64 x.e, .slice AJ x.J.length cJ, .int .i64 x.k, .int .i64 x.c, .slice AU x.U.length cU] 127, nrow kU7 tU7 (.slice AU x.U.length cU) x.U, nrow (Kd.raw 3) tR7 (.slice AJ x.J.length cJ) q.2]) := ⟨h2⟩
 have K0 : Aside0 (KeepS N w w) := ⟨KeepS.refl _ _⟩
 have a0 := k8_ O0 0
 have a5 := k5_ O0 5
 clear h h2 hx hn hb hq hrl hqj hqi hkc
 go_enter Tryd.func42, Tryd.ntmps42
 go_wp2_with (first | ((with_reducible refine gD 3 rfl ?_); refine bP 3 #[.int .i64 4, .int .i64 n, .string key, .int .i64 uc, .int .i64 un, .string us, .string rk, .int .i64 an, .int .i64 ab, .int .u32 am] 83 O0.out ?_; intro ga w1 o_ k_; obtain ⟨O1, K1⟩ := ok_ K0 o_ k_; clear a0 a5 O0 K0; have a0 := k8_ O1 0; have a5 := k5_ O1 5; have a8 := k10_ O1 8; clear o_ k_) | ((with_reducible refine gD 4 rfl ?_); refine bP 4 #[.int .i64 0, .int .i64 0, .int .i64 0, .string ⟨#[]⟩, .bool false, .int .i64 0] 79 O1.out ?_; intro gr w2 o_ k_; obtain ⟨O2, K2⟩ := ok_ K1 o_ k_; clear a0 a5 a8 O1 K1; have a0 := k8_ O2 0; have a5 := k5_ O2 5; have a8 := k10_ O2 8; have a9 := k6_ O2 9; clear o_ k_) | ((with_reducible refine gC 77 rfl ?_); refine gP (some 20) Tryd.func77 #[pt gm, .int .i64 n] ?_; obtain ⟨N_, on_, nn_, rr_, bb_⟩ := O2.out.frame0; refine (MClient_ok (L := L) n on_ (rr_ 0 _ rfl) (Kd.N_F (rr_ 3 _ rfl)) HN.out HB.out HQI.out).mono ?_; rintro e_ w3 ⟨rfl, oo_, kk_⟩; obtain ⟨o_, k_⟩ := bb_ _ _ kk_ oo_; refine ⟨_, rfl, ?_⟩; obtain ⟨O3, K3⟩ := ok_ K2 o_ k_; clear a0 a5 a8 a9 O2 K2; have a0 := k8_ O3 0; have a5 := k5_ O3 5; have a8 := k10_ O3 8; have a9 := k6_ O3 9; clear o_ k_ oo_ kk_ on_ nn_ rr_ bb_) | ((with_reducible refine gT 3 77 rfl ?_); refine wS 5 2 [.int .i64 ((x.k + x.c : Nat) : Int)] O3 ?_; intro w4 o_ k_; obtain ⟨O4, K4⟩ := ok_ K3 o_ k_; clear a0 a5 a8 a9 O3 K3; have a0 := k8_ O4 0; have a5 := k5_ O4 5; have a8 := k10_ O4 8; have a9 := k6_ O4 9; clear o_ k_) | ((with_reducible refine gT 3 79 rfl ?_); refine wS 5 3 [.int .i64 0] O4 ?_; intro w5 o_ k_; obtain ⟨O5, K5⟩ := ok_ K4 o_ k_; clear a0 a5 a8 a9 O4 K4; have a0 := k8_ O5 0; have a5 := k5_ O5 5; have a8 := k10_ O5 8; have a9 := k6_ O5 9; clear o_ k_) | ((with_reducible refine gT 79 4 rfl ?_); refine wS 9 0 [.int .i64 0, .int .i64 0, .int .i64 0, .string ⟨#[]⟩, .bool false, .int .i64 x.c] O5 ?_; intro w6 o_ k_; obtain ⟨O6, K6⟩ := ok_ K5 o_ k_; clear a0 a5 a8 a9 O5 K5; have a0 := k8_ O6 0; have a5 := k5_ O6 5; have a8 := k10_ O6 8; have a9 := k6_ O6 9; clear o_ k_))
 refine bodyPost_ret (results_cell_row rfl _ _ gr 79 #[.int .i64 0, .int .i64 0, .int .i64 0, .string ⟨#[]⟩, .bool false, .int .i64 x.c] (0, 0) _ rfl (O6.out.blk (i := 9) rfl) Tryd.underlying79 rfl (by kernel_rfl)) rfl ?_
 exact ⟨rfl, ModO.backU (x' := { x with k := x.k + x.c, c := 0 }) HXX.out HQL.out HQI.out rfl (O6.out.pickL [0, 1, 2, 3, 4, 5, 6, 7] (by decide) (by simp)), K6.out⟩
theorem MDo_6n {N : Nat → Prop} {w : World} {gm : Nat} {cf : MCf} {L : List Rnd7} {cls : List MCl} {x : MCl} (n : Int) (key : ByteArray) (uc un : Int) (us rk : ByteArray) (an ab am : Int) (h : Own N w [ModO gm cf L cls]) (hn : 1 ≤ n ∧ n ≤ cls.length) (hb : cls.length ≤ 64) (hx : cls[n.toNat - 1]? = some x) (hlo : 0 ≤ x.e ∧ x.e ≤ 1099511627776) (h1 : x.e ≥ cf.last) :
  Calls Tryd.prog 42 #[pt gm, .agg #[.int .i64 6, .int .i64 n, .string key, .int .i64 uc, .int .i64 un, .string us, .string rk, .int .i64 an, .int .i64 ab, .int .u32 am]] w fun e_ w' => e_ = .returned (repM (rep0 8)) ∧ Own N w' [ModO gm cf L cls] ∧ KeepS N w w' := by
 have HLO := Aside0.mk hlo
 have H1 := Aside0.mk h1
 obtain ⟨AL, cL, AC, cC, rL, qs, q, AJ, cJ, AU, cU, ⟨hq, hrl, hqj⟩, hqi, h2⟩ := ModO.at h hx
 have HN := Aside0.mk hn
 have HB := Aside0.mk hb
 have HQI := Aside0.mk hqi
 have HXX := Aside0.mk hx
 have HQL := Aside0.mk hq
 have HRL := Aside0.mk hrl
 have HQJ := Aside0.mk hqj
 have O0 : Aside0 (Own N w [cells gm #[.int .i64 cf.cl, .int .i64 cf.win, .int .i64 cf.push, .int .i64 cf.pull, .int .i64 cf.mtu, .int .i64 cf.last, .slice AL L.length cL, .slice AC cls.length cC] 123, poolI rL L qs cls, bigs ((clsI qs cls).set (n.toNat - 1) emp), nrow (Kd.raw 1) tMP (.slice AC cls.length cC) (ptrs qs), nrow (Kd.raw 3) tR7 (.slice AL L.length cL) rL, cells q.1 #[.int .i64 x.e, .slice AJ x.J.length cJ, .int .i64 x.k, .int .i64 x.c, .slice AU x.U.length cU] 127, nrow kU7 tU7 (.slice AU x.U.length cU) x.U, nrow (Kd.raw 3) tR7 (.slice AJ x.J.length cJ) q.2]) := ⟨h2⟩
 have K0 : Aside0 (KeepS N w w) := ⟨KeepS.refl _ _⟩
 have a0 := k8_ O0 0
 have a5 := k5_ O0 5
 clear h h2 hx hn hb hq hrl hqj hqi hlo h1
 go_enter Tryd.func42, Tryd.ntmps42
 go_wp2_with (first | ((with_reducible refine gD 3 rfl ?_); refine bP 3 #[.int .i64 6, .int .i64 n, .string key, .int .i64 uc, .int .i64 un, .string us, .string rk, .int .i64 an, .int .i64 ab, .int .u32 am] 83 O0.out ?_; intro ga w1 o_ k_; obtain ⟨O1, K1⟩ := ok_ K0 o_ k_; clear a0 a5 O0 K0; have a0 := k8_ O1 0; have a5 := k5_ O1 5; have a8 := k10_ O1 8; clear o_ k_) | ((with_reducible refine gD 4 rfl ?_); refine bP 4 #[.int .i64 0, .int .i64 0, .int .i64 0, .string ⟨#[]⟩, .bool false, .int .i64 0] 79 O1.out ?_; intro gr w2 o_ k_; obtain ⟨O2, K2⟩ := ok_ K1 o_ k_; clear a0 a5 a8 O1 K1; have a0 := k8_ O2 0; have a5 := k5_ O2 5; have a8 := k10_ O2 8; have a9 := k6_ O2 9; clear o_ k_) | ((with_reducible refine gC 77 rfl ?_); refine gP (some 20) Tryd.func77 #[pt gm, .int .i64 n] ?_; obtain ⟨N_, on_, nn_, rr_, bb_⟩ := O2.out.frame0; refine (MClient_ok (L := L) n on_ (rr_ 0 _ rfl) (Kd.N_F (rr_ 3 _ rfl)) HN.out HB.out HQI.out).mono ?_; rintro e_ w3 ⟨rfl, oo_, kk_⟩; obtain ⟨o_, k_⟩ := bb_ _ _ kk_ oo_; refine ⟨_, rfl, ?_⟩; obtain ⟨O3, K3⟩ := ok_ K2 o_ k_; clear a0 a5 a8 a9 O2 K2; have a0 := k8_ O3 0; have a5 := k5_ O3 5; have a8 := k10_ O3 8; have a9 := k6_ O3 9; clear o_ k_ oo_ kk_ on_ nn_ rr_ bb_) | ((with_reducible refine gC 82 rfl ?_); refine gP (some 101) Tryd.func82 #[pt gm, pt q.1] ?_; obtain ⟨N_, on_, nn_, rr_, bb_⟩ := O3.out.frameL [5] (by decide) (by simp); refine (MReset_no on_ (rr_ 0 _ (by decide) rfl) HLO.out H1.out).mono ?_; rintro e_ w4 ⟨rfl, oo_, kk_⟩; obtain ⟨o_, k_⟩ := bb_ _ [cells q.1 #[.int .i64 x.e, .slice AJ x.J.length cJ, .int .i64 x.k, .int .i64 x.c, .slice AU x.U.length cU] 127] [] rfl kk_ oo_; refine ⟨_, rfl, ?_⟩; obtain ⟨O4, K4⟩ := ok_ K3 o_ k_; clear a0 a5 a8 a9 O3 K3; have a0 := k8_ O4 0; have a5 := k5_ O4 5; have a8 := k10_ O4 8; have a9 := k6_ O4 9; clear o_ k_ oo_ kk_ on_ nn_ rr_ bb_) | ((with_reducible refine gT 79 4 rfl ?_); refine wS 9 0 [.int .i64 8, .int .i64 0, .int .i64 0, .string ⟨#[]⟩, .bool false, .int .i64 0] O4 ?_; intro w5 o_ k_; obtain ⟨O5, K5⟩ := ok_ K4 o_ k_; clear a0 a5 a8 a9 O4 K4; have a0 := k8_ O5 0; have a5 := k5_ O5 5; have a8 := k10_ O5 8; have a9 := k6_ O5 9; clear o_ k_))
 refine bodyPost_ret (results_cell_row rfl _ _ gr 79 #[.int .i64 8, .int .i64 0, .int .i64 0, .string ⟨#[]⟩, .bool false, .int .i64 0] (0, 0) _ rfl (O5.out.blk (i := 9) rfl) Tryd.underlying79 rfl (by kernel_rfl)) rfl ?_
 exact ⟨rfl, by have hz := ModO.backU (x' := x) HXX.out HQL.out HQI.out rfl (O5.out.pickL [0, 1, 2, 3, 4, 5, 6, 7] (by decide) (by simp)); rw [set_same HXX.out] at hz; exact hz, K5.out⟩
theorem MDo_6y {N : Nat → Prop} {w : World} {gm : Nat} {cf : MCf} {L : List Rnd7} {cls : List MCl} {x : MCl} (n : Int) (key : ByteArray) (uc un : Int) (us rk : ByteArray) (an ab am : Int) (h : Own N w [ModO gm cf L cls]) (hn : 1 ≤ n ∧ n ≤ cls.length) (hb : cls.length ≤ 64) (hx : cls[n.toNat - 1]? = some x) (hlo : 0 ≤ x.e ∧ x.e ≤ 1099511627776) (h1 : ¬ x.e ≥ cf.last) :
  Calls Tryd.prog 42 #[pt gm, .agg #[.int .i64 6, .int .i64 n, .string key, .int .i64 uc, .int .i64 un, .string us, .string rk, .int .i64 an, .int .i64 ab, .int .u32 am]] w fun e_ w' => e_ = .returned (repM (rep0 0)) ∧ Own N w' [ModO gm cf L (cls.set (n.toNat - 1) ⟨x.e + 1, x.J, 0, 0, []⟩)] ∧ KeepS N w w' := by
 have HLO := Aside0.mk hlo
 have H1 := Aside0.mk h1
 obtain ⟨AL, cL, AC, cC, rL, qs, q, AJ, cJ, AU, cU, ⟨hq, hrl, hqj⟩, hqi, h2⟩ := ModO.at h hx
 have HN := Aside0.mk hn
 have HB := Aside0.mk hb
 have HQI := Aside0.mk hqi
 have HXX := Aside0.mk hx
 have HQL := Aside0.mk hq
 have HRL := Aside0.mk hrl
 have HQJ := Aside0.mk hqj
 have O0 : Aside0 (Own N w [cells gm #[.int .i64 cf.cl, .int .i64 cf.win, .int .i64 cf.push, .int .i64 cf.pull, .int .i64 cf.mtu, .int .i64 cf.last, .slice AL L.length cL, .slice AC cls.length cC] 123, poolI rL L qs cls, bigs ((clsI qs cls).set (n.toNat - 1) emp), nrow (Kd.raw 1) tMP (.slice AC cls.length cC) (ptrs qs), nrow (Kd.raw 3) tR7 (.slice AL L.length cL) rL, cells q.1 #[.int .i64 x.e, .slice AJ x.J.length cJ, .int .i64 x.k, .int .i64 x.c, .slice AU x.U.length cU] 127, nrow kU7 tU7 (.slice AU x.U.length cU) x.U, nrow (Kd.raw 3) tR7 (.slice AJ x.J.length cJ) q.2]) := ⟨h2⟩
 have K0 : Aside0 (KeepS N w w) := ⟨KeepS.refl _ _⟩
 have a0 := k8_ O0 0
 have a5 := k5_ O0 5
 clear h h2 hx hn hb hq hrl hqj hqi hlo h1
 go_enter Tryd.func42, Tryd.ntmps42
 go_wp2_with (first | ((with_reducible refine gD 3 rfl ?_); refine bP 3 #[.int .i64 6, .int .i64 n, .string key, .int .i64 uc, .int .i64 un, .string us, .string rk, .int .i64 an, .int .i64 ab, .int .u32 am] 83 O0.out ?_; intro ga w1 o_ k_; obtain ⟨O1, K1⟩ := ok_ K0 o_ k_; clear a0 a5 O0 K0; have a0 := k8_ O1 0; have a5 := k5_ O1 5; have a8 := k10_ O1 8; clear o_ k_) | ((with_reducible refine gD 4 rfl ?_); refine bP 4 #[.int .i64 0, .int .i64 0, .int .i64 0, .string ⟨#[]⟩, .bool false, .int .i64 0] 79 O1.out ?_; intro gr w2 o_ k_; obtain ⟨O2, K2⟩ := ok_ K1 o_ k_; clear a0 a5 a8 O1 K1; have a0 := k8_ O2 0; have a5 := k5_ O2 5; have a8 := k10_ O2 8; have a9 := k6_ O2 9; clear o_ k_) | ((with_reducible refine gC 77 rfl ?_); refine gP (some 20) Tryd.func77 #[pt gm, .int .i64 n] ?_; obtain ⟨N_, on_, nn_, rr_, bb_⟩ := O2.out.frame0; refine (MClient_ok (L := L) n on_ (rr_ 0 _ rfl) (Kd.N_F (rr_ 3 _ rfl)) HN.out HB.out HQI.out).mono ?_; rintro e_ w3 ⟨rfl, oo_, kk_⟩; obtain ⟨o_, k_⟩ := bb_ _ _ kk_ oo_; refine ⟨_, rfl, ?_⟩; obtain ⟨O3, K3⟩ := ok_ K2 o_ k_; clear a0 a5 a8 a9 O2 K2; have a0 := k8_ O3 0; have a5 := k5_ O3 5; have a8 := k10_ O3 8; have a9 := k6_ O3 9; clear o_ k_ oo_ kk_ on_ nn_ rr_ bb_) | ((with_reducible refine gC 82 rfl ?_); refine gP (some 101) Tryd.func82 #[pt gm, pt q.1] ?_; obtain ⟨N_, on_, nn_, rr_, bb_⟩ := O3.out.frameL [5] (by decide) (by simp); refine (MReset_ok on_ (rr_ 0 _ (by decide) rfl) HLO.out H1.out).mono ?_; rintro e_ w4 ⟨rfl, oo_, kk_⟩; obtain ⟨o_, k_⟩ := bb_ _ [cells q.1 #[.int .i64 (x.e + 1), .slice AJ x.J.length cJ, .int .i64 0, .int .i64 0, .slice none 0 0] 127] [] rfl kk_ oo_; refine ⟨_, rfl, ?_⟩; obtain ⟨O4, K4⟩ := ok_ K3 o_ k_; clear a0 a5 a8 a9 O3 K3; have a0 := k8_ O4 0; have a5 := k5_ O4 5; have a8 := k10_ O4 8; have a9 := k6_ O4 9; clear o_ k_ oo_ kk_ on_ nn_ rr_ bb_) | ((with_reducible refine gT 79 4 rfl ?_); refine wS 9 0 [.int .i64 0, .int .i64 0, .int .i64 0, .string ⟨#[]⟩, .bool false, .int .i64 0] O4 ?_; intro w5 o_ k_; obtain ⟨O5, K5⟩ := ok_ K4 o_ k_; clear a0 a5 a8 a9 O4 K4; have a0 := k8_ O5 0; have a5 := k5_ O5 5; have a8 := k10_ O5 8; have a9 := k6_ O5 9; clear o_ k_))
 refine bodyPost_ret (results_cell_row rfl _ _ gr 79 #[.int .i64 0, .int .i64 0, .int .i64 0, .string ⟨#[]⟩, .bool false, .int .i64 0] (0, 0) _ rfl (O5.out.blk (i := 9) rfl) Tryd.underlying79 rfl (by kernel_rfl)) rfl ?_
 exact ⟨rfl, ModO.backU (x' := ⟨x.e + 1, x.J, 0, 0, []⟩) HXX.out HQL.out HQI.out rfl ((O5.out.push_emp (nrow kU7 tU7 (.slice none 0 0) []) (fun w => Kd.N_nil _ _ _ _ _)).pickL [0, 1, 2, 3, 4, 5, 10, 7] (by decide) (by simp)), K5.out⟩
theorem clAt_set {cls : List MCl} {n : Int} {x : MCl} (y : MCl) (h : clAt cls n = some x) (m : Int) : clAt (cls.set (n.toNat - 1) y) m = if m = n then some y else clAt cls m := by
 obtain ⟨⟨h1, h2⟩, hx⟩ := clAt_some h
 unfold clAt
 by_cases hm : 1 ≤ m
 ·rw [if_pos hm, if_pos hm, List.getElem?_set]
  by_cases e : m = n
  ·subst e
   rw [if_pos rfl, if_pos rfl, if_pos (by omega)]
  ·rw [if_neg e, if_neg (by omega)]
 ·rw [if_neg hm, if_neg hm, if_neg (by omega)]
theorem clAt_len {cls : List MCl} {n : Int} {x : MCl} (h : clAt cls n = some x) : 1 ≤ n ∧ n ≤ cls.length := (clAt_some h).1
structure ClOk (cf : MCf) (L : List Rnd7) (x : Nat) (n : Int) (y : MCl) : Prop where
 e : 1 ≤ y.e ∧ y.e ≤ 1 + x
 j : y.J.length ≤ x
 u : y.U.length ≤ x
 f : Few x y.J
 a : ∀ (k : Nat) (r : Rnd7), y.J[k]? = some r → r.f0 = n ∧ r.f1 = (k : Int) + 1
 p : ownR n L <+: y.J
 k : y.k + y.c ≤ L.length
 c : (y.c : Int) ≤ cf.pull
structure MInv (cf : MCf) (x : Nat) (L : List Rnd7) (cls : List MCl) : Prop where
 n : (cls.length : Int) = cf.cl
 l : L.length ≤ x
 f : Few x L
 o : ∀ r ∈ L, 1 ≤ r.f0 ∧ r.f0 ≤ cls.length
 m : ∀ (k : Nat) (r : Rnd7), L[k]? = some r → r.f1 = ((ownR r.f0 (L.take k)).length : Int) + 1
 c : ∀ (n : Int) (y : MCl), clAt cls n = some y → ClOk cf L x n y
structure CfOk (cf : MCf) : Prop where
 cl : 1 ≤ cf.cl ∧ cf.cl ≤ 4
 push : 1 ≤ cf.push
 pull : 1 ≤ cf.pull
 last : 1 ≤ cf.last ∧ cf.last ≤ 1099511627776
theorem ClOk.mono {cf : MCf} {L : List Rnd7} {x z : Nat} {n : Int} {y : MCl} (h : ClOk cf L x n y) (hz : x ≤ z) : ClOk cf L z n y :=
 ⟨⟨h.e.1, by have := h.e.2; omega⟩, Nat.le_trans h.j hz, Nat.le_trans h.u hz, h.f.mono hz, h.a, h.p, h.k, h.c⟩
theorem MInv.mono {cf : MCf} {x z : Nat} {L : List Rnd7} {cls : List MCl} (h : MInv cf x L cls) (hz : x ≤ z) : MInv cf z L cls := ⟨h.n, Nat.le_trans h.l hz, h.f.mono hz, h.o, h.m, fun n y hy => (h.c n y hy).mono hz⟩
theorem ownR_app (n : Int) (K M : List Rnd7) : ownR n (K ++ M) = ownR n K ++ ownR n M := by unfold ownR; rw [List.filter_append]
theorem ownR_pre (n : Int) (L : List Rnd7) (k : Nat) : ownR n (L.take k) <+: ownR n L := by
 refine ⟨ownR n (L.drop k), ?_⟩
 rw [← ownR_app, List.take_append_drop]
theorem ClOk.own {cf : MCf} {L : List Rnd7} {x : Nat} {n : Int} {y : MCl} (h : ClOk cf L x n y) : ownN n L y ≤ y.J.length := Nat.le_trans (ownR_pre n L y.k).length_le h.p.length_le
theorem ClOk.seen {cf : MCf} {L : List Rnd7} {x : Nat} {n : Int} {y : MCl} (h : ClOk cf L x n y) (hL : L.length ≤ x) (hF : Few x L) (hx : x ≤ 400) : (flatR (seenR n L y)).length + y.U.length < 1000000 := by
 have h1 : Few x (seenR n L y) := (hF.take _).app (h.f.drop _)
 have h2 := h1.flat
 have h3 : (seenR n L y).length ≤ 800 := by
  unfold seenR pndR
  rw [List.length_append, List.length_take, List.length_drop]
  have := h.j
  omega
 have h4 := h.u
 have h5 : x * (seenR n L y).length ≤ 400 * 800 := Nat.mul_le_mul hx h3
 omega
theorem MInv.set {cf : MCf} {x z : Nat} {L : List Rnd7} {cls : List MCl} {n : Int} {y y' : MCl} (h : MInv cf x L cls) (hz : x ≤ z) (hy : clAt cls n = some y) (hy' : ClOk cf L z n y') : MInv cf z L (cls.set (n.toNat - 1) y') := by
 refine ⟨by rw [List.length_set]; exact h.n, Nat.le_trans h.l hz, h.f.mono hz, by rw [List.length_set]; exact h.o, h.m, fun m v hv => ?_⟩
 rw [clAt_set y' hy] at hv
 split at hv
 ·rename_i e
  subst e
  cases hv
  exact hy'
 ·exact (h.c m v hv).mono hz
theorem MInv.commit {cf : MCf} {x : Nat} {L : List Rnd7} {cls : List MCl} (h : MInv cf x L cls) (n : Int) : MInv cf (x + 1) (cmtL n L cls) cls := by
 unfold cmtL
 cases hr : nextR n L cls with
 | none => rw [Option.toList_none, List.append_nil]; exact h.mono (Nat.le_succ x)
 | some r =>
  rw [Option.toList_some]
  unfold nextR at hr
  obtain ⟨y, hy, hj⟩ := Option.bind_eq_some_iff.1 hr
  have hc := h.c n y hy
  obtain ⟨e0, e1⟩ := hc.a _ _ hj
  have hrJ : r ∈ y.J := List.mem_of_getElem? hj
  refine ⟨h.n, by rw [List.length_append, List.length_singleton]; have := h.l; omega, (h.f.mono (Nat.le_succ x)).app (Few.one (Nat.le_trans (hc.f r hrJ) (Nat.le_succ x))), fun q hq => ?_, fun k q hq => ?_, fun m v hv => ?_⟩
  ·rcases List.mem_append.1 hq with hq | hq
   ·exact h.o q hq
   ·rw [List.mem_singleton] at hq
    subst hq
    rw [e0]
    exact clAt_len hy
  ·rcases Nat.lt_or_ge k L.length with hk | hk
   ·rw [List.getElem?_append_left hk] at hq
    rw [List.take_append_of_le_length (Nat.le_of_lt hk)]
    exact h.m k q hq
   ·have hk2 : k = L.length := by
     have := (List.getElem?_eq_some_iff.1 hq).1
     rw [List.length_append, List.length_singleton] at this
     omega
    subst hk2
    rw [List.getElem?_append_right (Nat.le_refl _), Nat.sub_self] at hq
    have : r = q := by simpa using hq
    subst this
    rw [List.take_left, e0, e1]
  ·have hv0 := (h.c m v hv).mono (Nat.le_succ x)
   refine ⟨hv0.e, hv0.j, hv0.u, hv0.f, hv0.a, ?_, by rw [List.length_append]; have := hv0.k; omega, hv0.c⟩
   by_cases em : m = n
   ·subst em
    rw [hy] at hv
    cases hv
    rw [ownR_yes e0]
    obtain ⟨T, hT⟩ := hc.p
    have hl : (ownR m L).length < y.J.length := (List.getElem?_eq_some_iff.1 hj).1
    rw [← hT, List.getElem?_append_right (Nat.le_refl _), Nat.sub_self] at hj
    cases T with
    | nil => simp at hj
    | cons t T =>
     have : t = r := by simpa using hj
     subst this
     exact ⟨T, by rw [List.append_assoc]; exact hT⟩
   ·rw [ownR_no (by rw [e0]; exact fun e => em e.symm)]
    exact hv0.p
theorem MInv.come {cf : MCf} {x : Nat} {L : List Rnd7} {cls : List MCl} (h : MInv cf x L cls) (n : Int) : MInv cf (x + 1) L (comeS n cf L cls).2 := by
 unfold comeS
 cases hc : clAt cls n with
 | none => exact h.mono (Nat.le_succ x)
 | some y =>
  simp only
  split
  ·rename_i hb
   have hb := of_decide_eq_true hb
   have hy := (h.c n y hc).mono (Nat.le_succ x)
   exact h.set (Nat.le_succ x) hc ⟨hy.e, hy.j, hy.u, hy.f, hy.a, hy.p, by show y.k + (y.c + 1) ≤ _; omega, by show ((y.c + 1 : Nat) : Int) ≤ _; omega⟩
  ·exact h.mono (Nat.le_succ x)
noncomputable def doX (cf : MCf) (L : List Rnd7) (n : Int) (x : MCl) (a : ActM) : RepT × MCl :=
 if a.f0 = 1 then (rep0 (updE x.U a.f2.f0 a.f2.f1 a.f2.f2 a.f2.f3 cf.mtu), { x with U := updU x.U a.f2.f0 a.f2.f1 a.f2.f2 a.f2.f3 cf.mtu })
 else if a.f0 = 2 then (⟨0, stateOf x.U (seenR n L x) a.f3, false, cntK (stateOf x.U (seenR n L x))⟩, x)
 else if a.f0 = 3 then (if mpushE n L x cf = 0 then (repN ((x.J.length + 1 : Nat) : Int), { x with J := x.J ++ [⟨n, (x.J.length : Int) + 1, x.U⟩], U := [] }) else (rep0 (mpushE n L x cf), x))
 else if a.f0 = 4 then (repN x.c, { x with k := x.k + x.c, c := 0 })
 else if a.f0 = 5 then (⟨0, (0, 0, none'), decide (x.J.length - ownN n L x = 0) && decide (x.U.length = 0), 0⟩, x)
 else if x.e ≥ cf.last then (rep0 8, x) else (rep0 0, ⟨x.e + 1, x.J, 0, 0, []⟩)
noncomputable def doS (cf : MCf) (L : List Rnd7) (cls : List MCl) (a : ActM) : RepT × List MCl :=
 if a.f0 < 1 ∨ a.f0 > 6 then (rep0 5, cls) else match clAt cls a.f1 with
 | none => (rep0 11, cls)
 | some x => ((doX cf L a.f1 x a).1, cls.set (a.f1.toNat - 1) (doX cf L a.f1 x a).2)
theorem doX_ok {cf : MCf} {L : List Rnd7} {x : Nat} {n : Int} {y : MCl} (h : ClOk cf L x n y) (hp : 1 ≤ cf.pull) (a : ActM) : ClOk cf L (x + 1) n (doX cf L n y a).2 := by
 have hy := h.mono (Nat.le_succ x)
 unfold doX
 split
 ·exact ⟨hy.e, hy.j, by have := upd_len y.U a.f2.f0 a.f2.f1 a.f2.f2 a.f2.f3 cf.mtu; have := h.u; show (updU _ _ _ _ _ _).length ≤ _; omega, hy.f, hy.a, hy.p, hy.k, hy.c⟩
 split
 ·exact hy
 split
 ·split
  ·refine ⟨hy.e, by show (y.J ++ _).length ≤ _; rw [List.length_append, List.length_singleton]; have := h.j; omega, Nat.zero_le _, hy.f.app (Few.one hy.u), fun k r hr => ?_, ?_, hy.k, hy.c⟩
   ·rcases Nat.lt_or_ge k y.J.length with hk | hk
    ·rw [List.getElem?_append_left hk] at hr
     exact hy.a k r hr
    ·have hk2 : k = y.J.length := by
      have := (List.getElem?_eq_some_iff.1 hr).1
      rw [List.length_append, List.length_singleton] at this
      omega
     subst hk2
     rw [List.getElem?_append_right (Nat.le_refl _), Nat.sub_self] at hr
     have : (⟨n, (y.J.length : Int) + 1, y.U⟩ : Rnd7) = r := by simpa using hr
     subst this
     exact ⟨rfl, rfl⟩
   ·exact hy.p.trans (List.prefix_append _ _)
  ·exact hy
 split
 ·exact ⟨hy.e, hy.j, hy.u, hy.f, hy.a, hy.p, by show y.k + y.c + 0 ≤ _; exact hy.k, by show ((0 : Nat) : Int) ≤ _; omega⟩
 split
 ·exact hy
 split
 ·exact hy
 ·exact ⟨⟨by show 1 ≤ y.e + 1; have := h.e.1; omega, by show y.e + 1 ≤ _; have := h.e.2; omega⟩, hy.j, Nat.zero_le _, hy.f, hy.a, hy.p, Nat.zero_le _, by show ((0 : Nat) : Int) ≤ _; omega⟩
theorem MInv.act {cf : MCf} {x : Nat} {L : List Rnd7} {cls : List MCl} (h : MInv cf x L cls) (hp : 1 ≤ cf.pull) (a : ActM) : MInv cf (x + 1) L (doS cf L cls a).2 := by
 unfold doS
 split
 ·exact h.mono (Nat.le_succ x)
 ·cases hc : clAt cls a.f1 with
  | none => exact h.mono (Nat.le_succ x)
  | some y => exact h.set (Nat.le_succ x) hc (doX_ok (h.c _ _ hc) hp a)
theorem MInv.len {cf : MCf} {x : Nat} {L : List Rnd7} {cls : List MCl} (h : MInv cf x L cls) (hc : CfOk cf) : cls.length ≤ 64 := by
 have := h.n
 have := hc.cl.2
 omega
section
variable {N : Nat → Prop} {w : World} {gm x : Nat} {cf : MCf} {L : List Rnd7} {cls : List MCl}
theorem MDo (a : ActM) (h : Own N w [ModO gm cf L cls]) (ht : TabN N w) (hi : MInv cf x L cls) (hc : CfOk cf) (hx : x ≤ 400) (hk : a.f3.size ≤ 50) :
  Calls Tryd.prog 42 #[pt gm, actMV a] w fun e_ w' => e_ = .returned (repM (doS cf L cls a).1) ∧ Own N w' [ModO gm cf L (doS cf L cls a).2] ∧ KeepS N w w' := by
 obtain ⟨kd, n, ⟨key, uc, un, us⟩, rk, an, ab, am⟩ := a
 have h64 := hi.len hc
 have hl := hi.l
 have hrk : rk.size ≤ maxLen := Nat.le_trans hk (by decide)
 unfold doS
 simp only
 by_cases hlo : kd < 1
 ·rw [if_pos (.inl hlo)]
  obtain ⟨N_, on_, nn_, rr_, bb_⟩ := h.frame0
  exact (MDo_lo kd n key uc un us rk an ab am on_ hlo).mono fun e_ w' ⟨a, b, c⟩ => ⟨a, (bb_ w' [] c b).1, (bb_ w' [] c b).2⟩
 by_cases hhi : kd > 6
 ·rw [if_pos (.inr hhi)]
  obtain ⟨N_, on_, nn_, rr_, bb_⟩ := h.frame0
  exact (MDo_hi kd n key uc un us rk an ab am on_ ⟨by omega, hhi⟩).mono fun e_ w' ⟨a, b, c⟩ => ⟨a, (bb_ w' [] c b).1, (bb_ w' [] c b).2⟩
 rw [if_neg (by omega)]
 cases hcl : clAt cls n with
 | none =>
  obtain ⟨N_, on_, nn_, rr_, bb_⟩ := h.frame0
  obtain ⟨AL, cL, AC, cC, qs, hq, e1, hm, hp, hl, _, _⟩ := ModO.view0 (rr_ 0 _ rfl)
  exact (MDo_none kd n key uc un us rk an ab am on_ hm hp ⟨by omega, by omega⟩ (clAt_none hcl)).mono fun e_ w' ⟨a, b, c⟩ => ⟨a, (bb_ w' [] c b).1, (bb_ w' [] c b).2⟩
 | some y =>
  obtain ⟨hn, hxx⟩ := clAt_some hcl
  have hy := hi.c n y hcl
  have hj := hy.j
  have hu := hy.u
  have hky := hy.k
  have hown := hy.own
  have hkL : y.k ≤ L.length := by omega
  have hsame : cls.set (n.toNat - 1) y = cls := set_same hxx
  simp only
  unfold doX
  simp only
  by_cases k1 : kd = 1
  ·subst k1
   rw [if_pos rfl]
   exact MDo_1 n key uc un us rk an ab am h hn h64 hxx ht (by omega)
  rw [if_neg k1]
  by_cases k2 : kd = 2
  ·subst k2
   rw [if_pos rfl, hsame]
   obtain ⟨N_, on_, nn_, rr_, bb_⟩ := h.frame0
   obtain ⟨AL, cL, AC, cC, qs, q, AJ, cJ, AU, cU, hqi, e1, e2, e3, hm, hp, hl2, hx1, hj2, hu2⟩ := ModO.view (rr_ 0 _ rfl) hxx
   exact (MDo_2 n key uc un us rk an ab am on_ hm hp hx1 hl2 hj2 hu2 hn h64 hqi hkL (by omega) e1 hown e2 (by omega) hrk (hy.seen hi.l hi.f hx)).mono fun e_ w' ⟨a, b, c⟩ => ⟨a, (bb_ w' [] c b).1, (bb_ w' [] c b).2⟩
  rw [if_neg k2]
  by_cases k3 : kd = 3
  ·subst k3
   rw [if_pos rfl]
   by_cases h0 : mpushE n L y cf = 0
   ·rw [if_pos h0]
    exact MDo_3y n key uc un us rk an ab am h hn h64 hxx hkL (by omega) hown (by omega) h0
   ·rw [if_neg h0]
    simp only
    rw [hsame]
    exact MDo_3n n key uc un us rk an ab am h hn h64 hxx hkL (by omega) hown (by omega) h0
  rw [if_neg k3]
  by_cases k4 : kd = 4
  ·subst k4
   rw [if_pos rfl]
   exact MDo_4 n key uc un us rk an ab am h hn h64 hxx (by omega)
  rw [if_neg k4]
  by_cases k5 : kd = 5
  ·subst k5
   rw [if_pos rfl, hsame]
   obtain ⟨N_, on_, nn_, rr_, bb_⟩ := h.frame0
   obtain ⟨AL, cL, AC, cC, qs, q, AJ, cJ, AU, cU, hqi, e1, e2, e3, hm, hp, hl2, hx1, hj2, hu2⟩ := ModO.view (rr_ 0 _ rfl) hxx
   exact (MDo_5 n key uc un us rk an ab am on_ hm hp hx1 hl2 hn h64 hqi hkL (by omega) e1 hown e2).mono fun e_ w' ⟨a, b, c⟩ => ⟨a, (bb_ w' [] c b).1, (bb_ w' [] c b).2⟩
  rw [if_neg k5]
  have k6 : kd = 6 := by omega
  subst k6
  have he := hy.e
  by_cases h1 : y.e ≥ cf.last
  ·rw [if_pos h1]
   simp only
   rw [hsame]
   exact MDo_6n n key uc un us rk an ab am h hn h64 hxx ⟨by omega, by omega⟩ h1
  ·rw [if_neg h1]
   exact MDo_6y n key uc un us rk an ab am h hn h64 hxx ⟨by omega, by omega⟩ h1
theorem MCome_i (n : Int) (h : Own N w [ModO gm cf L cls]) (hi : MInv cf x L cls) (hc : CfOk cf) (hx : x ≤ 400) :
  Calls Tryd.prog 45 #[pt gm, .int .i64 n] w fun e_ w' => e_ = .returned (.bool (comeS n cf L cls).1) ∧ Own N w' [ModO gm cf L (comeS n cf L cls).2] ∧ KeepS N w w' :=
 MCome n h (hi.len hc) (by have := hi.l; omega) (fun y hy => by have := (hi.c n y hy).k; have := hi.l; omega)
theorem MCommit_i (n : Int) (h : Own N w [ModO gm cf L cls]) (hi : MInv cf x L cls) (hc : CfOk cf) (hx : x ≤ 400) :
  Calls Tryd.prog 44 #[pt gm, .int .i64 n] w fun e_ w' => e_ = .returned (.bool (nextR n L cls).isSome) ∧ Own N w' [ModO gm cf (cmtL n L cls) cls] ∧ KeepS N w w' :=
 MCommit n h (hi.len hc) (by have := hi.l; omega)
theorem MLook_i (n : Int) {y : MCl} (h : Own N w [ModO gm cf L cls]) (hi : MInv cf x L cls) (hc : CfOk cf) (hx : x ≤ 400) (hy : clAt cls n = some y) :
  Calls Tryd.prog 40 #[pt gm, .int .i64 n] w fun e_ w' => e_ = .returned (lookV n L y) ∧ Own N w' [ModO gm cf L cls] ∧ KeepS N w w' := by
 obtain ⟨hn, hxx⟩ := clAt_some hy
 have h64 := hi.len hc
 have hl := hi.l
 have hk := hi.c n y hy
 obtain ⟨N_, on_, nn_, rr_, bb_⟩ := h.frame0
 obtain ⟨AL, cL, AC, cC, qs, q, AJ, cJ, AU, cU, hqi, e1, e2, e3, hm, hp, hl2, hx1, hj2, hu2⟩ := ModO.view (rr_ 0 _ rfl) hxx
 exact (MLook_ok n on_ hm hp hx1 hl2 hn h64 hqi (by have := hk.k; omega) (by omega) e1 hk.own e2).mono fun e_ w' ⟨a, b, c⟩ => ⟨a, (bb_ w' [] c b).1, (bb_ w' [] c b).2⟩
theorem MLog_i (h : Own N w [ModO gm cf L cls]) (hi : MInv cf x L cls) (hx : x ≤ 400) :
  Calls Tryd.prog 39 #[pt gm] w fun e_ w' => ∃ A1 c1, e_ = .returned (.slice A1 L.length c1) ∧ Own N w' [ModO gm cf L cls, nrow kR7 tR7 (.slice A1 L.length c1) L] ∧ KeepS N w w' := by
 have hl := hi.l
 obtain ⟨N_, on_, nn_, rr_, bb_⟩ := h.frame0
 obtain ⟨AL, cL, AC, cC, qs, hq, e1, hm, hp, hl2, _, _⟩ := ModO.view0 (rr_ 0 _ rfl)
 refine (MLog (qs := qs) on_ hm hl2 (by omega) (hi.f.mono (by omega))).mono ?_
 rintro e_ w' ⟨A1, c1, a, b, c⟩
 obtain ⟨o_, k_⟩ := bb_ w' _ c (b.conv (i := 0) rfl (nrow kR7 tR7 (.slice A1 L.length c1) L) (fun F hp _ => Kd.R_N hp))
 exact ⟨A1, c1, a, o_, k_⟩
theorem MKnown_i (n : Int) {y : MCl} (h : Own N w [ModO gm cf L cls]) (hi : MInv cf x L cls) (hc : CfOk cf) (hx : x ≤ 400) (hy : clAt cls n = some y) :
  Calls Tryd.prog 41 #[pt gm, .int .i64 n] w fun e_ w' => ∃ A1 c1, e_ = .returned (.slice A1 y.k c1) ∧ Own N w' [ModO gm cf L cls, nrow kR7 tR7 (.slice A1 y.k c1) (L.take y.k)] ∧ KeepS N w w' := by
 obtain ⟨hn, hxx⟩ := clAt_some hy
 have h64 := hi.len hc
 have hl := hi.l
 have hk := hi.c n y hy
 obtain ⟨N_, on_, nn_, rr_, bb_⟩ := h.frame0
 obtain ⟨AL, cL, AC, cC, qs, q, AJ, cJ, AU, cU, hqi, e1, e2, e3, hm, hp, hl2, hx1, hj2, hu2⟩ := ModO.view (rr_ 0 _ rfl) hxx
 refine (MKnown_ok n on_ hm hp hx1 hl2 hn h64 hqi (by have := hk.k; omega) (by omega) e1 (hi.f.mono (by omega))).mono ?_
 rintro e_ w' ⟨A1, c1, a, b, c⟩
 obtain ⟨o_, k_⟩ := bb_ w' _ c (b.conv (i := 0) rfl (nrow kR7 tR7 (.slice A1 y.k c1) (L.take y.k)) (fun F hp _ => Kd.R_N hp))
 exact ⟨A1, c1, a, o_, k_⟩
end
end Go.Proofs.YtjdenpmaianmfaaDoor.J
namespace Go.Proofs.YtjdenpmaianmfaaDoor.J
set_option maxHeartbeats 16000000
set_option maxRecDepth 100000
set_option linter.unusedSimpArgs false
set_option linter.unusedVariables false
open Go Go.RowKit Go.Proofs.YtjdenpmaianmfaaDoorW.PrintWords Go.Proofs.YtjdenpmaianmfaaDoorW.PrintLast Go.Proofs.YtjdenpmaianmfaaDoorW.PrintMore Go.Proofs.YtjdenpmaianmfaaDoor.Q Go.Proofs.YtjdenpmaianmfaaDoor.Sep Go.Proofs.YtjdenpmaianmfaaDoor.Pure
def cfMay (cf : MCf) : Bool := decide ((1 ≤ cf.cl ∧ cf.cl ≤ 64) ∧ (1 ≤ cf.win ∧ cf.win ≤ 16) ∧ (1 ≤ cf.push ∧ cf.push ≤ 16) ∧ (1 ≤ cf.pull ∧ cf.pull ≤ 16) ∧ (64 ≤ cf.mtu ∧ cf.mtu ≤ 1400) ∧ (1 ≤ cf.last ∧ cf.last ≤ 1099511627776))
theorem in_q (n a b : Int) : sequencer_in.f n a b = some (decide (n ≥ a ∧ n ≤ b)) := by
 unfold sequencer_in.f
 by_cases h1 : n ≥ a <;> by_cases h2 : n ≤ b <;> simp [h1, h2]
theorem may_q (cf : MCf) : sequencer_May.f cf.cl cf.win cf.push cf.pull cf.mtu cf.last = some (if cfMay cf = true then 0 else 1) := by
 unfold sequencer_May.f cfMay
 simp only [in_q, Option.bind_some, decide_eq_true_eq, ge_iff_le]
 by_cases h1 : 1 ≤ cf.cl ∧ cf.cl ≤ 64
 case neg => rw [if_neg h1, if_neg (fun h => h1 h.1)]
 rw [if_pos h1]
 by_cases h2 : 1 ≤ cf.win ∧ cf.win ≤ 16
 case neg => rw [if_neg h2, if_neg (fun h => h2 h.2.1)]
 rw [if_pos h2]
 by_cases h3 : 1 ≤ cf.push ∧ cf.push ≤ 16
 case neg => rw [if_neg h3, if_neg (fun h => h3 h.2.2.1)]
 rw [if_pos h3]
 by_cases h4 : 1 ≤ cf.pull ∧ cf.pull ≤ 16
 case neg => rw [if_neg h4, if_neg (fun h => h4 h.2.2.2.1)]
 rw [if_pos h4]
 by_cases h5 : 64 ≤ cf.mtu ∧ cf.mtu ≤ 1400
 case neg => rw [if_neg h5, if_neg (fun h => h5 h.2.2.2.2.1)]
 rw [if_pos h5]
 by_cases h6 : 1 ≤ cf.last ∧ cf.last ≤ 1099511627776
 case neg => rw [if_neg h6, if_neg (fun h => h6 h.2.2.2.2.2)]
 rw [if_pos h6, if_pos ⟨h1, h2, h3, h4, h5, h6⟩]
def c0M : MCl := ⟨1, [], 0, 0, []⟩
def clsZ (x : Int) : List MCl := List.replicate x.toNat c0M
theorem clsZ_succ (x : Int) (h : 0 ≤ x) : clsZ (x + 1) = clsZ x ++ [c0M] := by
 unfold clsZ
 rw [show (x + 1).toNat = x.toNat + 1 by omega, List.replicate_succ']
theorem clsZ_len (x : Int) : (clsZ x).length = x.toNat := by unfold clsZ; rw [List.length_replicate]
abbrev qsZ (gs : List Nat) : List (Nat × RawR) := gs.map fun g => (g, [])
theorem clsZ_at {x n : Int} {y : MCl} (h : clAt (clsZ x) n = some y) : y = c0M := by
 obtain ⟨_, hx⟩ := clAt_some h
 exact List.eq_of_mem_replicate (List.mem_of_getElem? hx)
theorem MInv.zero {cf : MCf} (h : CfOk cf) : MInv cf 0 [] (clsZ cf.cl) := by
 refine ⟨by rw [clsZ_len]; have := h.cl.1; omega, Nat.le_refl _, fun r hr => by simp at hr, fun r hr => by simp at hr, fun k r hr => by simp at hr, fun n y hy => ?_⟩
 rw [clsZ_at hy]
 exact ⟨⟨by decide, by decide⟩, Nat.le_refl _, Nat.le_refl _, fun r hr => by simp [c0M] at hr, fun k r hr => by simp [c0M] at hr, List.prefix_rfl, Nat.le_refl _, by show ((0 : Nat) : Int) ≤ _; have := h.pull; omega⟩
theorem rep1P (W : World) (g : Nat) : Reps (Kd.FK (Kd.raw 1) W (fun _ => False)) 1 [[pt g]] [pt g] := (Reps.none _ _).snoc (fun _ _ => ⟨rfl, rfl, fun u hu => by rw [List.mem_singleton] at hu; rw [hu]; rfl⟩) rfl
theorem flat1 : Flat (Kd.raw 1) := fun h => h
theorem ptrs_len (gs : List Nat) : (ptrs (qsZ gs)).length = gs.length := by simp
theorem ptrs_more (gs : List Nat) (g : Nat) : ptrs (qsZ gs) ++ [[pt g]] = ptrs (qsZ (gs ++ [g])) := by simp
section
variable {N : Nat → Prop} {w : World} {P0 P1 P2 : HP} {gs : List Nat} {x : Int} {g : Nat}
theorem cl_more (hx : 0 ≤ x) (hg : gs.length = x.toNat) (h : Own N w [P0, P1, P2, bigs (clsI (qsZ gs) (clsZ x)), cells g #[.int .i64 1, .slice none 0 0, .int .i64 0, .int .i64 0, .slice none 0 0] 127]) : Own N w [P0, P1, P2, bigs (clsI (qsZ (gs ++ [g])) (clsZ (x + 1)))] := by
 have h1 := h.push_emp (nrow (Kd.raw 3) tR7 (.slice none 0 0) []) (fun w => Kd.N_nil _ _ _ _ _)
 have h2 := h1.push_emp (nrow kU7 tU7 (.slice none 0 0) []) (fun w => Kd.N_nil _ _ _ _ _)
 have h3 := h2.join (i := 4) (j := 5) rfl rfl (by decide)
 have h4 := h3.join (i := 4) (j := 6) rfl rfl (by decide)
 have h5 := h4.conv (i := 4) rfl (ClI g c0M []) (fun F hp _ => ⟨.slice none 0 0, .slice none 0 0, hp⟩)
 have h6 := h5.join (i := 3) (j := 4) rfl rfl (by decide)
 have e : clsI (qsZ (gs ++ [g])) (clsZ (x + 1)) = clsI (qsZ gs) (clsZ x) ++ [ClI g c0M []] := by
  unfold clsI qsZ
  rw [clsZ_succ x hx, List.map_append, List.zipWith_append (by rw [List.length_map, clsZ_len, hg])]
  rfl
 exact (h6.conv (i := 3) rfl (bigs (clsI (qsZ (gs ++ [g])) (clsZ (x + 1)))) (fun F hp _ => by
  rw [e]
  exact bigs_snoc (star_swap hp))).take 4
theorem mod_new {gm : Nat} {cf : MCf} {vC : Value} (hg : gs.length = (clsZ x).length) (h : Own N w [P0, cells gm #[.int .i64 cf.cl, .int .i64 cf.win, .int .i64 cf.push, .int .i64 cf.pull, .int .i64 cf.mtu, .int .i64 cf.last, .slice none 0 0, vC] 123, nrow (Kd.raw 1) tMP vC (ptrs (qsZ gs)), bigs (clsI (qsZ gs) (clsZ x))]) : Own N w [ModO gm cf [] (clsZ x)] := by
 have h1 := h.push_emp (nrow (Kd.raw 3) tR7 (.slice none 0 0) []) (fun w => Kd.N_nil _ _ _ _ _)
 have h2 := h1.push_emp (poolI [] [] (qsZ gs) (clsZ x)) (fun w p hp => by
  rcases List.mem_cons.1 hp with e | e
  ·subst e
   exact Lead.none _ _
  ·obtain ⟨i, hi, rfl⟩ := List.mem_iff_getElem.1 e
   rw [List.getElem_zipWith]
   have h3 : (clsZ x)[i]'(by rw [List.length_zipWith] at hi; omega) = c0M := List.eq_of_mem_replicate (List.getElem_mem _)
   rw [h3]
   show Lead _ _ ((qsZ gs)[i]'(by rw [List.length_zipWith] at hi; omega)).2 []
   rw [show ((qsZ gs)[i]'(by rw [List.length_zipWith] at hi; omega)).2 = [] by simp]
   exact Lead.none _ _)
 exact ModO.shut (by simp [hg]) (h2.pickL [1, 5, 3, 2, 4] (by decide) (by simp))
end
def NwI (N : Nat → Prop) (w : World) (gm : Nat) (cf : MCf) (R : HP) (i : Value) (wr : World) : Prop := ∃ (x : Int) (gs : List Nat) (AC : Option Addr) (cC : Nat), 0 ≤ x ∧ x ≤ cf.cl ∧ i = .int .i64 x ∧ gs.length = x.toNat ∧ Aside0 (Own N wr [R, cells gm #[.int .i64 cf.cl, .int .i64 cf.win, .int .i64 cf.push, .int .i64 cf.pull, .int .i64 cf.mtu, .int .i64 cf.last, .slice none 0 0, .slice AC gs.length cC] 123, nrow (Kd.raw 1) tMP (.slice AC gs.length cC) (ptrs (qsZ gs)), bigs (clsI (qsZ gs) (clsZ x))]) ∧ Aside0 (KeepS N w wr)
theorem infoP : (Tryd.prog.info? tMP).map (fun i => (i.zero, i.size, i.bytes)) = some (some (.pointer none), 1, 8) := by kernel_rfl
theorem MNew_no {N : Nat → Prop} {w : World} (cf : MCf) (h : Own N w []) (hm : ¬ cfMay cf = true) :
  Calls Tryd.prog 43 #[.agg #[.int .i64 cf.cl, .int .i64 cf.win, .int .i64 cf.push, .int .i64 cf.pull, .int .i64 cf.mtu, .int .i64 cf.last]] w fun e_ w' => e_ = .returned (.tuple #[.pointer none, .int .i64 1]) ∧ Own N w' [] ∧ KeepS N w w' := by
 have HMY : Aside0 (sequencer_May.f cf.cl cf.win cf.push cf.pull cf.mtu cf.last = some 1) := ⟨by rw [may_q, if_neg hm]⟩
 have O0 : Aside0 (Own N w []) := ⟨h⟩
 have K0 : Aside0 (KeepS N w w) := ⟨KeepS.refl _ _⟩
 clear h hm
 go_enter Tryd.func43, Tryd.ntmps43
 go_wp2_with (first | ((with_reducible refine gD 1 rfl ?_); refine bP 1 #[.int .i64 cf.cl, .int .i64 cf.win, .int .i64 cf.push, .int .i64 cf.pull, .int .i64 cf.mtu, .int .i64 cf.last] 68 O0.out ?_; intro gc w1 o_ k_; obtain ⟨O1, K1⟩ := ok_ K0 o_ k_; clear O0 K0 o_ k_; have a0 := k6_ O1 0) | ((with_reducible refine gC 83 rfl ?_); refine gP (some 7) Tryd.func83 #[.agg #[.int .i64 cf.cl, .int .i64 cf.win, .int .i64 cf.push, .int .i64 cf.pull, .int .i64 cf.mtu, .int .i64 cf.last]] ?_; refine (sequencer_May.calls cf.cl cf.win cf.push cf.pull cf.mtu cf.last 1 _ HMY.out).mono ?_; rintro e_ w2 ⟨rfl, hb_⟩; refine ⟨_, rfl, ?_⟩; obtain ⟨O2, K2⟩ := ob_ K1 O1 hb_; clear a0 O1 K1 hb_; have a0 := k6_ O2 0))
 go_ret2
 exact ⟨rfl, O2.out.take 0, K2.out⟩
theorem MNew_ok {N : Nat → Prop} {w : World} (cf : MCf) (h : Own N w []) (hm : cfMay cf = true) :
  Calls Tryd.prog 43 #[.agg #[.int .i64 cf.cl, .int .i64 cf.win, .int .i64 cf.push, .int .i64 cf.pull, .int .i64 cf.mtu, .int .i64 cf.last]] w fun e_ w' => ∃ gm, e_ = .returned (.tuple #[pt gm, .int .i64 0]) ∧ Own N w' [ModO gm cf [] (clsZ cf.cl)] ∧ KeepS N w w' := by
 have HMY : Aside0 (sequencer_May.f cf.cl cf.win cf.push cf.pull cf.mtu cf.last = some 0) := ⟨by rw [may_q, if_pos hm]⟩
 have HCF : Aside0 (1 ≤ cf.cl ∧ cf.cl ≤ 64) := ⟨(of_decide_eq_true hm).1⟩
 have O0 : Aside0 (Own N w []) := ⟨h⟩
 have K0 : Aside0 (KeepS N w w) := ⟨KeepS.refl _ _⟩
 clear h hm
 go_enter Tryd.func43, Tryd.ntmps43
 go_wp2_with (first | ((with_reducible refine gD 1 rfl ?_); refine bP 1 #[.int .i64 cf.cl, .int .i64 cf.win, .int .i64 cf.push, .int .i64 cf.pull, .int .i64 cf.mtu, .int .i64 cf.last] 68 O0.out ?_; intro gc w1 o_ k_; obtain ⟨O1, K1⟩ := ok_ K0 o_ k_; clear O0 K0 o_ k_; have a0 := k6_ O1 0) | ((with_reducible refine gC 83 rfl ?_); refine gP (some 7) Tryd.func83 #[.agg #[.int .i64 cf.cl, .int .i64 cf.win, .int .i64 cf.push, .int .i64 cf.pull, .int .i64 cf.mtu, .int .i64 cf.last]] ?_; refine (sequencer_May.calls cf.cl cf.win cf.push cf.pull cf.mtu cf.last 0 _ HMY.out).mono ?_; rintro e_ w2 ⟨rfl, hb_⟩; refine ⟨_, rfl, ?_⟩; obtain ⟨O2, K2⟩ := ob_ K1 O1 hb_; clear a0 O1 K1 hb_; have a0 := k6_ O2 0) | ((with_reducible refine gD 13 rfl ?_); refine bP 13 #[.int .i64 cf.cl, .int .i64 cf.win, .int .i64 cf.push, .int .i64 cf.pull, .int .i64 cf.mtu, .int .i64 cf.last, .slice none 0 0, .slice none 0 0] 123 O2.out ?_; intro gm w3 o_ k_; obtain ⟨O3, K3⟩ := ok_ K2 o_ k_; clear a0 O2 K2 o_ k_; have a0 := k6_ O3 0; have a1 := k8_ O3 1))
 clear a0 a1
 go_loopw [16] (fun i wr => NwI N w gm cf (cells gc #[.int .i64 cf.cl, .int .i64 cf.win, .int .i64 cf.push, .int .i64 cf.pull, .int .i64 cf.mtu, .int .i64 cf.last] 68) i wr) (fun i _ => cf.cl.toNat - (intOf i).toNat)
 case atStart => exact ⟨0, [], none, 0, by omega, by have := HCF.out; omega, rfl, rfl, ⟨((O3.out.push_emp (nrow (Kd.raw 1) tMP (.slice none 0 0) []) (fun w => Kd.N_nil _ _ _ _ _)).push_emp (bigs (clsI (qsZ []) (clsZ 0))) (fun w => trivial))⟩, K3⟩
 case round =>
  clear O3 K3
  obtain ⟨x, gs, AC, cC, hx0, hx1, rfl, hgs, OA, KA⟩ := hrel
  by_cases hlt : x < cf.cl
  ·have hd : decide (x < cf.cl) = true := decide_eq_true hlt
   have hs2 : wrap64 (x + 1) = x + 1 := by unfold wrap64; have := HCF.out; omega
   have HX := Aside0.mk (show 0 ≤ x ∧ x < cf.cl from ⟨hx0, hlt⟩)
   have HG := Aside0.mk hgs
   have HGL : Aside0 (gs.length ≤ 64) := ⟨by rw [hgs]; have := HCF.out; omega⟩
   clear hx0 hx1 hlt hgs
   have O4 : Aside0 (Own N wr [cells gc #[.int .i64 cf.cl, .int .i64 cf.win, .int .i64 cf.push, .int .i64 cf.pull, .int .i64 cf.mtu, .int .i64 cf.last] 68, cells gm #[.int .i64 cf.cl, .int .i64 cf.win, .int .i64 cf.push, .int .i64 cf.pull, .int .i64 cf.mtu, .int .i64 cf.last, .slice none 0 0, .slice AC gs.length cC] 123, nrow (Kd.raw 1) tMP (.slice AC gs.length cC) (ptrs (qsZ gs)), bigs (clsI (qsZ gs) (clsZ x))]) := ⟨OA.out⟩
   have K4 : Aside0 (KeepS N w wr) := ⟨KA.out⟩
   have a1 := k8_ O4 1
   have a0 := k6_ O4 0
   clear OA KA
   go_wp2_with (first | ((with_reducible refine gD 24 rfl ?_); refine bP 24 #[.int .i64 1, .slice none 0 0, .int .i64 0, .int .i64 0, .slice none 0 0] 127 O4.out ?_; intro gx w5 o_ k_; obtain ⟨O5, K5⟩ := ok_ K4 o_ k_; clear a1 a0 O4 K4 o_ k_; have a1 := k8_ O5 1; have a0 := k6_ O5 0; have a4 := k5_ O5 4) | ((with_reducible refine gD 25 rfl ?_); refine own_lit (Kd.raw 1) (N := N) (e := tMP) (xs := [[pt gx]]) (inner := [pt gx]) rfl (D := 25) rfl gs_ ?hp (by show 1 ≤ 9223372036854775807; decide) O5.out ?_; (case hp => exact rep1P _ _); intro B1 b1 w6 o_ k_; obtain ⟨O6, K6⟩ := ok_ K5 o_ k_; clear a1 a0 a4 O5 K5 o_ k_; have a1 := k8_ O6 1; have a0 := k6_ O6 0; have a4 := k5_ O6 4) | ((with_reducible refine gate_builtin (b := .append) (xs := #[.tmp 22, .tmp 25]) rfl ?_); at_builtin; refine Own.append_flat (Kd.raw 1) flat1 O6.out (i := 2) (ys := [[pt gx]]) rfl ((O6.out.nreads (i := 5) rfl).2.2) rfl (.tmp 22) (.tmp 25) 121 ((.pointer none)) 8 rfl Tryd.underlying121 infoP rfl (by decide) (by decide) rfl rfl (by have := HGL.out; rw [ptrs_len]; omega) ?_; rw [ptrs_more, ptrs_len]; intro B2 b2 w7 o_ k_; obtain ⟨O7, K7⟩ := ok_ K6 o_ k_; clear a1 a0 a4 O6 K6 o_ k_; have a1 := k8_ O7 1; have a0 := k6_ O7 0; have a4 := k5_ O7 4) | ((with_reducible refine gT 121 28 rfl ?_); refine wS 1 7 [.slice B2 (gs ++ [gx]).length b2] O7 ?_; intro w8 o_ k_; obtain ⟨O8, K8⟩ := ok_ K7 o_ k_; clear a1 a0 a4 O7 K7 o_ k_; have a1 := k8_ O8 1; have a0 := k6_ O8 0; have a4 := k5_ O8 4))
   go_roundw
   case rel => exact ⟨x + 1, gs ++ [gx], B2, b2, by have := HX.out; omega, by have := HX.out; omega, int_eq17 (by unfold wrap64; have := HX.out; have := HCF.out; omega), by rw [List.length_append, List.length_singleton, HG.out]; have := HX.out; omega, ⟨cl_more HX.out.1 HG.out (O8.out.take 5)⟩, K8⟩
   case measure => have := HX.out; have := HCF.out; simp [intOf]; omega
  ·have hxe : x = cf.cl := by omega
   have hd : decide (x < cf.cl) = false := decide_eq_false hlt
   clear hlt hx0 hx1
   go_wp2
   go_ret2
   exact ⟨gm, rfl, by rw [← hxe]; exact mod_new (by rw [clsZ_len]; exact hgs) OA.out, KA.out⟩
end Go.Proofs.YtjdenpmaianmfaaDoor.J
namespace Go.Proofs.YtjdenpmaianmfaaDoor.J
set_option maxHeartbeats 16000000
set_option maxRecDepth 100000
set_option linter.unusedSimpArgs false
set_option linter.unusedVariables false
open Go Go.RowKit Go.Proofs.YtjdenpmaianmfaaDoorW.PrintWords Go.Proofs.YtjdenpmaianmfaaDoorW.PrintLast Go.Proofs.YtjdenpmaianmfaaDoorW.PrintMore Go.Proofs.YtjdenpmaianmfaaDoor.Q Go.Proofs.YtjdenpmaianmfaaDoor.Sep Go.Proofs.YtjdenpmaianmfaaDoor.Pure
abbrev kS21 := k88
abbrev Step21 := S88
theorem heapS21 : Kd.Heap kS21 := Kd.heap_iso _ (Kd.heap_pair (Kd.heap_iso _ (Kd.heap_pair (Kd.heap_int _) (Kd.heap_pair (Kd.heap_int _) (Kd.heap_pair heapU7 (Kd.heap_pair Kd.heap_string (Kd.heap_pair (Kd.heap_int _) (Kd.heap_pair (Kd.heap_int _) (Kd.heap_int _)))))))) (Kd.heap_pair (Kd.heap_int _) (Kd.heap_int _)))
theorem k12_ {N : Nat → Prop} {w : World} {l : List HP} {t : TypeId} {g : Nat} {v0 v1 v2 v3 v4 v5 v6 v7 v8 v9 v10 v11 : Value} (h : Aside0 (Own N w l)) (i : Nat) (hi : l[i]? = some (cells g #[v0, v1, v2, v3, v4, v5, v6, v7, v8, v9, v10, v11] t) := by rfl) : w.cell? ⟨g, 0, none⟩ = some v0 ∧ w.cell? ⟨g, 1, none⟩ = some v1 ∧ w.cell? ⟨g, 2, none⟩ = some v2 ∧ w.cell? ⟨g, 3, none⟩ = some v3 ∧ w.cell? ⟨g, 4, none⟩ = some v4 ∧ w.cell? ⟨g, 5, none⟩ = some v5 ∧ w.cell? ⟨g, 6, none⟩ = some v6 ∧ w.cell? ⟨g, 7, none⟩ = some v7 ∧ w.cell? ⟨g, 8, none⟩ = some v8 ∧ w.cell? ⟨g, 9, none⟩ = some v9 ∧ w.cell? ⟨g, 10, none⟩ = some v10 ∧ w.cell? ⟨g, 11, none⟩ = some v11 ∧ ∀ i, w.frozen? ⟨g, i, none⟩ = false := ⟨(blk_cell (h.out.blk hi) 0).trans rfl, (blk_cell (h.out.blk hi) 1).trans rfl, (blk_cell (h.out.blk hi) 2).trans rfl, (blk_cell (h.out.blk hi) 3).trans rfl, (blk_cell (h.out.blk hi) 4).trans rfl, (blk_cell (h.out.blk hi) 5).trans rfl, (blk_cell (h.out.blk hi) 6).trans rfl, (blk_cell (h.out.blk hi) 7).trans rfl, (blk_cell (h.out.blk hi) 8).trans rfl, (blk_cell (h.out.blk hi) 9).trans rfl, (blk_cell (h.out.blk hi) 10).trans rfl, (blk_cell (h.out.blk hi) 11).trans rfl, fun i => blk_frozen (h.out.blk hi) i⟩
def keys50 (l : List Step21) : Prop := ∀ y : Int, 0 ≤ y → y < l.length → (rd_T88 l y).f0.f3.size ≤ 50
theorem g21_loop (l : List Step21) (hl : l.length ≤ 60) : ∀ (d k : Nat) (x : Int), 0 ≤ x → x ≤ l.length → (l.length : Int) - x = d → d + 230 ≤ k → ∃ b, chapbooklaw21_great.l0 k l l.length x = some b ∧ (b = false → ∀ y : Int, x ≤ y → y < l.length → (rd_T88 l y).f0.f3.size ≤ 50) := by
 intro d
 induction d with
 | zero =>
  intro k x h0 h1 hd hk
  obtain ⟨k, rfl⟩ : ∃ q, k = q + 1 := ⟨k - 1, by omega⟩
  unfold chapbooklaw21_great.l0
  rw [if_neg (by omega)]
  exact ⟨false, rfl, fun _ y a b => by omega⟩
 | succ d ih =>
  intro k x h0 h1 hd hk
  obtain ⟨k, rfl⟩ : ∃ q, k = q + 1 := ⟨k - 1, by omega⟩
  unfold chapbooklaw21_great.l0
  rw [if_pos (by omega), if_pos h0, if_pos (by omega)]
  obtain ⟨b, hb⟩ : ∃ b, chapbookref04_Great.f (rd_T88 l x).f0.f2.f0 (rd_T88 l x).f0.f2.f1 (rd_T88 l x).f0.f2.f2 (rd_T88 l x).f0.f2.f3 = some b := by
   unfold chapbookref04_Great.f
   split
   ·exact ⟨_, rfl⟩
   ·exact ⟨_, rfl⟩
  rw [hb, Option.bind_some]
  cases b
  ·rw [if_neg (by decide)]
   by_cases hs : ((rd_T88 l x).f0.f3.size : Int) > 50
   ·exact ⟨true, if_pos hs, by simp⟩
   ·rw [if_neg hs, w64s17 h0 (show x < (l.length : Int) by omega) (by omega)]
    obtain ⟨e, he, he2⟩ := ih k (x + 1) (by omega) (by omega) (by omega) (by omega)
    refine ⟨e, he, fun h y a b => ?_⟩
    by_cases hy : y = x
    ·subst hy
     omega
    ·exact he2 h y (by omega) b
  ·exact ⟨true, if_pos rfl, by simp⟩
theorem great21_ok (cf : MCf) (l : List Step21) : ∃ b, chapbooklaw21_great.f 300 cf.cl cf.win cf.push cf.pull cf.mtu cf.last l = some b ∧ (b = false → l.length ≤ 60 ∧ cf.cl ≤ 4 ∧ keys50 l) := by
 unfold chapbooklaw21_great.f
 by_cases h : (l.length : Int) > 60
 ·rw [if_pos h]
  exact ⟨true, by unfold chapbooklaw21_great.j0; exact if_pos rfl, by simp⟩
 ·rw [if_neg h]
  by_cases h4 : cf.cl > 4
  ·exact ⟨true, by unfold chapbooklaw21_great.j0; exact if_pos (decide_eq_true h4), by simp⟩
  ·obtain ⟨b, hb, hb2⟩ := g21_loop l (by omega) l.length 299 0 (by omega) (by omega) (by omega) (by omega)
   refine ⟨b, ?_, fun e => ⟨by omega, by omega, hb2 e⟩⟩
   have e : chapbooklaw21_great.j0 (299 + 1) l (decide (cf.cl > 4)) = if decide (cf.cl > 4) = true then some true else chapbooklaw21_great.l0 299 l l.length 0 := by rw [chapbooklaw21_great.j0]
   exact e.trans ((if_neg (by simp [h4])).trans hb)
theorem CfOk.mk_ {cf : MCf} (h : cfMay cf = true) (h4 : cf.cl ≤ 4) : CfOk cf := by
 obtain ⟨a, b, c, d, e, f⟩ := of_decide_eq_true h
 exact ⟨⟨a.1, h4⟩, c.1, d.1, f⟩
theorem rmay21 (cf : MCf) : chapbookref16_May.f cf.cl cf.win cf.push cf.pull cf.mtu cf.last = some (cfMay cf) := by
 unfold chapbookref16_May.f cfMay
 simp only [ge_iff_le]
 by_cases h1 : 1 ≤ cf.cl; case neg => simp [h1]
 by_cases h2 : cf.cl ≤ 64; case neg => simp [h1, h2]
 by_cases h3 : 1 ≤ cf.win; case neg => simp [h1, h2, h3]
 by_cases h4 : cf.win ≤ 16; case neg => simp [h1, h2, h3, h4]
 by_cases h5 : 1 ≤ cf.push; case neg => simp [h1, h2, h3, h4, h5]
 by_cases h6 : cf.push ≤ 16; case neg => simp [h1, h2, h3, h4, h5, h6]
 by_cases h7 : 1 ≤ cf.pull; case neg => simp [h1, h2, h3, h4, h5, h6, h7]
 by_cases h8 : cf.pull ≤ 16; case neg => simp [h1, h2, h3, h4, h5, h6, h7, h8]
 by_cases h9 : 64 ≤ cf.mtu; case neg => simp [h1, h2, h3, h4, h5, h6, h7, h8, h9]
 by_cases h10 : cf.mtu ≤ 1400; case neg => simp [h1, h2, h3, h4, h5, h6, h7, h8, h9, h10]
 by_cases h11 : 1 ≤ cf.last; case neg => simp [h1, h2, h3, h4, h5, h6, h7, h8, h9, h10, h11]
 simp [h1, h2, h3, h4, h5, h6, h7, h8, h9, h10, h11]
def RnI (N : Nat → Prop) (w : World) (n gm : Nat) (cf : MCf) (R : HP) (i : Value) (wr : World) : Prop := ∃ (x : Int) (L : List Rnd7) (cls : List MCl), 0 ≤ x ∧ x ≤ n ∧ i = .int .i64 x ∧ Aside0 (MInv cf x.toNat L cls) ∧ Aside0 (Own N wr [R, ModO gm cf L cls]) ∧ Aside0 (KeepS N w wr)
theorem Run21 {N : Nat → Prop} {w : World} (cf : MCf) (A0 : Option Addr) (c0 : Nat) (l0 : List Step21) (h : Own N w []) (hF : Kd.F kS21 w N A0 l0.length l0) (ht : TabN N w) (hm : cfMay cf = true) (hc : CfOk cf) (hl : l0.length ≤ 60) (hk : keys50 l0) :
  Calls Tryd.prog 38 #[.agg #[.int .i64 cf.cl, .int .i64 cf.win, .int .i64 cf.push, .int .i64 cf.pull, .int .i64 cf.mtu, .int .i64 cf.last], .slice A0 l0.length c0] w fun e_ w' => ∃ gm L cls, e_ = .returned (pt gm) ∧ MInv cf l0.length L cls ∧ Own N w' [ModO gm cf L cls] ∧ KeepS N w w' := by
 have HSF := Aside0.mk hF
 have HCF := Aside0.mk hc
 have HL60 := Aside0.mk hl
 have HKS := Aside0.mk hk
 have HT_0 := Aside0.mk ht
 have HT00 := Aside0.mk ht
 have HMY := Aside0.mk hm
 have O0 : Aside0 (Own N w []) := ⟨h⟩
 have K0 : Aside0 (KeepS N w w) := ⟨KeepS.refl _ _⟩
 clear h hF hc hl hk ht hm
 go_enter Tryd.func38, Tryd.ntmps38
 go_wp2_with (first | ((with_reducible refine gD 2 rfl ?_); refine bP 2 #[.int .i64 cf.cl, .int .i64 cf.win, .int .i64 cf.push, .int .i64 cf.pull, .int .i64 cf.mtu, .int .i64 cf.last] 68 O0.out ?_; intro gc w1 o_ k_; obtain ⟨O1, K1⟩ := ok_ K0 o_ k_; have HT_1 := Aside0.mk (TabN.keep HT_0.out k_); clear O0 K0 HT_0 o_ k_; have a0 := k6_ O1 0) | ((with_reducible refine gC 43 rfl ?_); refine gP (some 11) Tryd.func43 #[.agg #[.int .i64 cf.cl, .int .i64 cf.win, .int .i64 cf.push, .int .i64 cf.pull, .int .i64 cf.mtu, .int .i64 cf.last]] ?_; obtain ⟨N_, on_, nn_, rr_, bb_⟩ := O1.out.frame0; refine (MNew_ok cf on_ HMY.out).mono ?_; rintro e_ w2 ⟨gm, rfl, oo_, kk_⟩; obtain ⟨o_, k_⟩ := bb_ _ _ kk_ oo_; refine ⟨_, rfl, ?_⟩; obtain ⟨O2, K2⟩ := ok_ K1 o_ k_; have HT_2 := Aside0.mk (TabN.keep HT_1.out k_); clear a0 O1 K1 HT_1 o_ k_ oo_ kk_ on_ nn_ rr_ bb_; have a0 := k6_ O2 0))
 clear a0
 go_loopw [18] (fun i wr => RnI N w l0.length gm cf (cells gc #[.int .i64 cf.cl, .int .i64 cf.win, .int .i64 cf.push, .int .i64 cf.pull, .int .i64 cf.mtu, .int .i64 cf.last] 68) i wr) (fun i _ => l0.length - (intOf i).toNat)
 case atStart => exact ⟨0, [], clsZ cf.cl, by omega, by omega, rfl, ⟨MInv.zero HCF.out⟩, O2, K2⟩
 case round =>
  clear O2 K2 HT_2
  obtain ⟨x, L, cls, hx0, hx1, rfl, HI, OA, KA⟩ := hrel
  by_cases hlt : x < (l0.length : Int)
  ·have hd : decide (x < (l0.length : Int)) = true := decide_eq_true hlt
   obtain ⟨ad, e7, y0, y1, y2, y3, y4, y5, y6, y7, y8, y9, y10, y11⟩ := at_T88 (Kd.F_now (keepF HSF.out KA.out)) x hx0 hlt
   cases e7
   have HKY := Aside0.mk (HKS.out x hx0 hlt)
   have hs2 : wrap64 (x + 1) = x + 1 := by unfold wrap64; have := HL60.out; omega
   have hp := eq_true hx0
   have hq := eq_true hlt
   have HX : Aside0 (0 ≤ x ∧ x < l0.length ∧ x ≤ 59) := ⟨hx0, hlt, by have := HL60.out; omega⟩
   obtain ⟨s, hs⟩ : ∃ s, rd_T88 l0 x = s := ⟨_, rfl⟩
   rw [hs] at y0 y1 y2 y3 y4 y5 y6 y7 y8 y9 y10 y11 HKY
   have HXT : Aside0 ((x + 1).toNat = x.toNat + 1) := ⟨by omega⟩
   have HX4 : Aside0 (x.toNat ≤ 400) := ⟨by have := HX.out; omega⟩
   clear hx0 hx1 hlt hs
   by_cases h1 : s.f1 = 0
   ·by_cases h2 : s.f2 = 0
    ·skip
     have d1 : (s.f1 != 0) = false := by simp [h1]
     have d2 : (s.f2 != 0) = false := by simp [h2]
     clear h1 h2
     have O3 : Aside0 (Own N wr [cells gc #[.int .i64 cf.cl, .int .i64 cf.win, .int .i64 cf.push, .int .i64 cf.pull, .int .i64 cf.mtu, .int .i64 cf.last] 68, ModO gm cf L cls]) := ⟨OA.out⟩
     have K3 : Aside0 (KeepS N w wr) := ⟨KA.out⟩
     have HT_3 : Aside0 (TabN N wr) := ⟨HT00.out.keep KA.out⟩
     have a0 := k6_ O3 0
     clear OA KA
     go_wp2_with (first | ((with_reducible refine gD 8 rfl ?_); refine bP 8 #[.int .i64 0, .int .i64 0, .string ⟨#[]⟩, .int .i64 0, .int .i64 0, .string ⟨#[]⟩, .string ⟨#[]⟩, .int .i64 0, .int .i64 0, .int .u32 0, .int .i64 0, .int .i64 0] 88 O3.out ?_; intro gs w4 o_ k_; obtain ⟨O4, K4⟩ := ok_ K3 o_ k_; have HT_4 := Aside0.mk (TabN.keep HT_3.out k_); clear a0 O3 K3 HT_3; have a0 := k6_ O4 0; have a2 := k12_ O4 2; clear o_ k_) | ((with_reducible refine gT 88 8 rfl ?_); refine wS 2 0 [.int .i64 s.f0.f0, .int .i64 s.f0.f1, .string s.f0.f2.f0, .int .i64 s.f0.f2.f1, .int .i64 s.f0.f2.f2, .string s.f0.f2.f3, .string s.f0.f3, .int .i64 s.f0.f4, .int .i64 s.f0.f5, .int .u32 s.f0.f6, .int .i64 s.f1, .int .i64 s.f2] O4 ?_; intro w5 o_ k_; obtain ⟨O5, K5⟩ := ok_ K4 o_ k_; have HT_5 := Aside0.mk (TabN.keep HT_4.out k_); clear a0 a2 O4 K4 HT_4; have a0 := k6_ O5 0; have a2 := k12_ O5 2; clear o_ k_) | ((with_reducible refine gC 42 rfl ?_); refine gP (some 25) Tryd.func42 #[pt gm, actMV s.f0] ?_; obtain ⟨N_, on_, nn_, rr_, bb_⟩ := O5.out.frameL [1] (by decide) (by simp); refine (MDo s.f0 on_ (TabN.mono HT_5.out nn_) HI.out HCF.out HX4.out HKY.out).mono ?_; rintro e_ w6 ⟨rfl, oo_, kk_⟩; obtain ⟨o_, k_⟩ := bb_ _ [ModO gm cf L (doS cf L cls s.f0).2] [] rfl kk_ oo_; refine ⟨_, rfl, ?_⟩; obtain ⟨O6, K6⟩ := ok_ K5 o_ k_; have HT_6 := Aside0.mk (TabN.keep HT_5.out k_); clear a0 a2 O5 K5 HT_5; have a0 := k6_ O6 0; have a2 := k12_ O6 2; clear o_ k_ oo_ kk_ on_ nn_ rr_ bb_))
     go_roundw
     case rel => exact ⟨x + 1, L, (doS cf L cls s.f0).2, by have := HX.out; omega, by have := HX.out; omega, int_eq17 (by unfold wrap64; have := HX.out; omega), ⟨by rw [HXT.out]; exact HI.out.act HCF.out.pull s.f0⟩, ⟨O6.out.take 2⟩, K6⟩
     case measure => have := HX.out; simp [intOf]; omega
    ·skip
     have d1 : (s.f1 != 0) = false := by simp [h1]
     have d2 : (s.f2 != 0) = true := bne_iff_ne.mpr h2
     clear h1 h2
     have O3 : Aside0 (Own N wr [cells gc #[.int .i64 cf.cl, .int .i64 cf.win, .int .i64 cf.push, .int .i64 cf.pull, .int .i64 cf.mtu, .int .i64 cf.last] 68, ModO gm cf L cls]) := ⟨OA.out⟩
     have K3 : Aside0 (KeepS N w wr) := ⟨KA.out⟩
     have HT_3 : Aside0 (TabN N wr) := ⟨HT00.out.keep KA.out⟩
     have a0 := k6_ O3 0
     clear OA KA
     go_wp2_with (first | ((with_reducible refine gD 8 rfl ?_); refine bP 8 #[.int .i64 0, .int .i64 0, .string ⟨#[]⟩, .int .i64 0, .int .i64 0, .string ⟨#[]⟩, .string ⟨#[]⟩, .int .i64 0, .int .i64 0, .int .u32 0, .int .i64 0, .int .i64 0] 88 O3.out ?_; intro gs w4 o_ k_; obtain ⟨O4, K4⟩ := ok_ K3 o_ k_; have HT_4 := Aside0.mk (TabN.keep HT_3.out k_); clear a0 O3 K3 HT_3; have a0 := k6_ O4 0; have a2 := k12_ O4 2; clear o_ k_) | ((with_reducible refine gT 88 8 rfl ?_); refine wS 2 0 [.int .i64 s.f0.f0, .int .i64 s.f0.f1, .string s.f0.f2.f0, .int .i64 s.f0.f2.f1, .int .i64 s.f0.f2.f2, .string s.f0.f2.f3, .string s.f0.f3, .int .i64 s.f0.f4, .int .i64 s.f0.f5, .int .u32 s.f0.f6, .int .i64 s.f1, .int .i64 s.f2] O4 ?_; intro w5 o_ k_; obtain ⟨O5, K5⟩ := ok_ K4 o_ k_; have HT_5 := Aside0.mk (TabN.keep HT_4.out k_); clear a0 a2 O4 K4 HT_4; have a0 := k6_ O5 0; have a2 := k12_ O5 2; clear o_ k_) | ((with_reducible refine gC 45 rfl ?_); refine gP (some 41) Tryd.func45 #[pt gm, .int .i64 s.f2] ?_; obtain ⟨N_, on_, nn_, rr_, bb_⟩ := O5.out.frameL [1] (by decide) (by simp); refine (MCome_i s.f2 on_ HI.out HCF.out HX4.out).mono ?_; rintro e_ w6 ⟨rfl, oo_, kk_⟩; obtain ⟨o_, k_⟩ := bb_ _ [ModO gm cf L (comeS s.f2 cf L cls).2] [] rfl kk_ oo_; refine ⟨_, rfl, ?_⟩; obtain ⟨O6, K6⟩ := ok_ K5 o_ k_; have HT_6 := Aside0.mk (TabN.keep HT_5.out k_); clear a0 a2 O5 K5 HT_5; have a0 := k6_ O6 0; have a2 := k12_ O6 2; clear o_ k_ oo_ kk_ on_ nn_ rr_ bb_))
     go_roundw
     case rel => exact ⟨x + 1, L, (comeS s.f2 cf L cls).2, by have := HX.out; omega, by have := HX.out; omega, int_eq17 (by unfold wrap64; have := HX.out; omega), ⟨by rw [HXT.out]; exact HI.out.come s.f2⟩, ⟨O6.out.take 2⟩, K6⟩
     case measure => have := HX.out; simp [intOf]; omega
   ·skip
    have d1 : (s.f1 != 0) = true := bne_iff_ne.mpr h1
    clear h1
    have O3 : Aside0 (Own N wr [cells gc #[.int .i64 cf.cl, .int .i64 cf.win, .int .i64 cf.push, .int .i64 cf.pull, .int .i64 cf.mtu, .int .i64 cf.last] 68, ModO gm cf L cls]) := ⟨OA.out⟩
    have K3 : Aside0 (KeepS N w wr) := ⟨KA.out⟩
    have HT_3 : Aside0 (TabN N wr) := ⟨HT00.out.keep KA.out⟩
    have a0 := k6_ O3 0
    clear OA KA
    go_wp2_with (first | ((with_reducible refine gD 8 rfl ?_); refine bP 8 #[.int .i64 0, .int .i64 0, .string ⟨#[]⟩, .int .i64 0, .int .i64 0, .string ⟨#[]⟩, .string ⟨#[]⟩, .int .i64 0, .int .i64 0, .int .u32 0, .int .i64 0, .int .i64 0] 88 O3.out ?_; intro gs w4 o_ k_; obtain ⟨O4, K4⟩ := ok_ K3 o_ k_; have HT_4 := Aside0.mk (TabN.keep HT_3.out k_); clear a0 O3 K3 HT_3; have a0 := k6_ O4 0; have a2 := k12_ O4 2; clear o_ k_) | ((with_reducible refine gT 88 8 rfl ?_); refine wS 2 0 [.int .i64 s.f0.f0, .int .i64 s.f0.f1, .string s.f0.f2.f0, .int .i64 s.f0.f2.f1, .int .i64 s.f0.f2.f2, .string s.f0.f2.f3, .string s.f0.f3, .int .i64 s.f0.f4, .int .i64 s.f0.f5, .int .u32 s.f0.f6, .int .i64 s.f1, .int .i64 s.f2] O4 ?_; intro w5 o_ k_; obtain ⟨O5, K5⟩ := ok_ K4 o_ k_; have HT_5 := Aside0.mk (TabN.keep HT_4.out k_); clear a0 a2 O4 K4 HT_4; have a0 := k6_ O5 0; have a2 := k12_ O5 2; clear o_ k_) | ((with_reducible refine gC 44 rfl ?_); refine gP (some 33) Tryd.func44 #[pt gm, .int .i64 s.f1] ?_; obtain ⟨N_, on_, nn_, rr_, bb_⟩ := O5.out.frameL [1] (by decide) (by simp); refine (MCommit_i s.f1 on_ HI.out HCF.out HX4.out).mono ?_; rintro e_ w6 ⟨rfl, oo_, kk_⟩; obtain ⟨o_, k_⟩ := bb_ _ [ModO gm cf (cmtL s.f1 L cls) cls] [] rfl kk_ oo_; refine ⟨_, rfl, ?_⟩; obtain ⟨O6, K6⟩ := ok_ K5 o_ k_; have HT_6 := Aside0.mk (TabN.keep HT_5.out k_); clear a0 a2 O5 K5 HT_5; have a0 := k6_ O6 0; have a2 := k12_ O6 2; clear o_ k_ oo_ kk_ on_ nn_ rr_ bb_))
    go_roundw
    case rel => exact ⟨x + 1, (cmtL s.f1 L cls), cls, by have := HX.out; omega, by have := HX.out; omega, int_eq17 (by unfold wrap64; have := HX.out; omega), ⟨by rw [HXT.out]; exact HI.out.commit s.f1⟩, ⟨O6.out.take 2⟩, K6⟩
    case measure => have := HX.out; simp [intOf]; omega
  ·have hxe : x = l0.length := by omega
   subst hxe
   have hd : decide ((l0.length : Int) < (l0.length : Int)) = false := decide_eq_false (Int.lt_irrefl _)
   clear hlt hx0 hx1
   go_wp2
   go_ret
   exact ⟨gm, L, cls, rfl, HI.out, OA.out.pick1 (a := 1) rfl, KA.out⟩
theorem field_RE (e k n : Int) (s : ByteArray) (y : Bool) (m : Int) (W : World) : (Instr.field 79 (.agg #[.int .i64 e, .int .i64 k, .int .i64 n, .string s, .bool y, .int .i64 m]) 0).run Tryd.prog W = .ok (.int .i64 e) W := by kernel_rfl
def cfA : MCf := ⟨2, 2, 1, 1, 100, 9⟩
def cf0 : MCf := ⟨0, 0, 0, 0, 0, 0⟩
theorem cfA_ok : CfOk cfA := ⟨by decide, by decide, by decide, by decide⟩
def awU : Upd7 := ⟨⟨#[107]⟩, 1, 5, ⟨#[]⟩⟩
def awR : Rnd7 := ⟨1, 1, [awU]⟩
def awC0 : List MCl := [c0M, c0M]
def awC1 : List MCl := [⟨1, [], 0, 0, [awU]⟩, c0M]
def awC2 : List MCl := [⟨1, [awR], 0, 0, []⟩, c0M]
def awC3 : List MCl := [⟨1, [awR], 0, 0, []⟩, ⟨1, [], 0, 1, []⟩]
def awC4 : List MCl := [⟨1, [awR], 0, 0, []⟩, ⟨1, [], 1, 0, []⟩]
def awA (kd n : Int) : ActM := ⟨kd, n, ⟨⟨#[]⟩, 0, 0, ⟨#[]⟩⟩, ⟨#[]⟩, 0, 0, 0⟩
def awA1 : ActM := ⟨1, 1, awU, ⟨#[]⟩, 0, 0, 0⟩
def awA6 : ActM := ⟨2, 2, ⟨⟨#[]⟩, 0, 0, ⟨#[]⟩⟩, ⟨#[107]⟩, 0, 0, 0⟩
theorem awE1 : updE [] ⟨#[107]⟩ 1 5 ⟨#[]⟩ 100 = 0 := by kernel_rfl
theorem aw1 : doS cfA [] awC0 awA1 = (rep0 0, awC1) := by
 show (rep0 (updE [] ⟨#[107]⟩ 1 5 ⟨#[]⟩ 100), [({ c0M with U := updU [] ⟨#[107]⟩ 1 5 ⟨#[]⟩ 100 } : MCl), c0M]) = _
 rw [show updU [] ⟨#[107]⟩ 1 5 ⟨#[]⟩ 100 = [awU] from if_pos awE1, awE1]
 rfl
theorem aw2 : doS cfA [] awC1 (awA 3 1) = (repN 1, awC2) := by kernel_rfl
theorem aw3 : nextR 1 [] awC2 = some awR := by kernel_rfl
theorem aw3b : nextR 1 [awR] awC2 = none := by kernel_rfl
theorem aw4 : comeS 2 cfA [awR] awC2 = (true, awC3) := by kernel_rfl
theorem aw4b : comeS 2 cfA [awR] awC3 = (false, awC3) := by kernel_rfl
theorem aw5 : doS cfA [awR] awC3 (awA 4 2) = (repN 1, awC4) := by kernel_rfl
theorem awV : stateOf [] [awR] ⟨#[107]⟩ = (1, 5, none') := by
 show doL zeroM ([awU] ++ []) ⟨#[107]⟩ = _
 rw [doL_get]
 kernel_rfl
theorem awN : cntK (stateOf [] [awR]) = 1 := by
 refine cntK_is (ks := [(⟨#[107]⟩ : ByteArray)]) (by simp) (fun key => ?_)
 show _ ↔ (doL zeroM [awU] key).1 ≠ 0
 have e : doL zeroM [awU] = doU zeroM ⟨#[107]⟩ 1 5 ⟨#[]⟩ := rfl
 rw [e]
 unfold doU
 rw [if_pos (by kernel_rfl), List.mem_singleton]
 unfold J.upd
 constructor
 ·intro h
  rw [if_pos h]
  decide
 ·intro h
  by_cases hk : key = ⟨#[107]⟩
  ·exact hk
  ·rw [if_neg hk] at h
   exact (h rfl).elim
theorem aw6 : doS cfA [awR] awC4 awA6 = (⟨0, (1, 5, none'), false, 1⟩, awC4) := by
 have e : doS cfA [awR] awC4 awA6 = (⟨0, stateOf [] [awR] ⟨#[107]⟩, false, cntK (stateOf [] [awR])⟩, awC4) := rfl
 rw [e, awV, awN]
 rfl
theorem aw7 : doS cfA [awR] awC4 (awA 7 1) = (rep0 5, awC4) := by kernel_rfl
theorem awI0 : MInv cfA 0 [] awC0 := MInv.zero cfA_ok
theorem awI1 : MInv cfA 1 [] awC1 := by have h := awI0.act (by decide) awA1; rw [aw1] at h; exact h
theorem awI2 : MInv cfA 2 [] awC2 := by have h := awI1.act (by decide) (awA 3 1); rw [aw2] at h; exact h
theorem awL3 : cmtL 1 [] awC2 = [awR] := by unfold cmtL; rw [aw3]; rfl
theorem awL3b : cmtL 1 [awR] awC2 = [awR] := by unfold cmtL; rw [aw3b]; rfl
theorem awI3 : MInv cfA 3 [awR] awC2 := by have h := awI2.commit 1; rw [awL3] at h; exact h
theorem awI4 : MInv cfA 4 [awR] awC3 := by have h := awI3.come 2; rw [aw4] at h; exact h
theorem awI5 : MInv cfA 5 [awR] awC4 := by have h := awI4.act (by decide) (awA 4 2); rw [aw5] at h; exact h
section
variable {N : Nat → Prop} {w : World} {gm x : Nat} {cf : MCf} {L : List Rnd7} {cls : List MCl}
theorem MDo_e (a : ActM) (r : RepT) (c2 : List MCl) (hd : doS cf L cls a = (r, c2)) (h : Own N w [ModO gm cf L cls]) (ht : TabN N w) (hi : MInv cf x L cls) (hc : CfOk cf) (hx : x ≤ 400) (hk : a.f3.size ≤ 50) :
  Calls Tryd.prog 42 #[pt gm, actMV a] w fun e_ w' => e_ = .returned (repM r) ∧ Own N w' [ModO gm cf L c2] ∧ KeepS N w w' := by
 have q := MDo a h ht hi hc hx hk
 rw [hd] at q
 exact q
theorem ax_new (h : Own N w []) : Calls Tryd.prog 43 #[.agg #[.int .i64 2, .int .i64 2, .int .i64 1, .int .i64 1, .int .i64 100, .int .i64 9]] w fun e_ w' => ∃ gm, e_ = .returned (.tuple #[pt gm, .int .i64 0]) ∧ Own N w' [ModO gm cfA [] awC0] ∧ KeepS N w w' := MNew_ok cfA h (by decide)
theorem ax_new0 (h : Own N w []) : Calls Tryd.prog 43 #[.agg #[.int .i64 0, .int .i64 0, .int .i64 0, .int .i64 0, .int .i64 0, .int .i64 0]] w fun e_ w' => e_ = .returned (.tuple #[.pointer none, .int .i64 1]) ∧ Own N w' [] ∧ KeepS N w w' := MNew_no cf0 h (by decide)
theorem ax_c1 (h : Own N w [ModO gm cfA [] awC2]) : Calls Tryd.prog 44 #[pt gm, .int .i64 1] w fun e_ w' => e_ = .returned (.bool true) ∧ Own N w' [ModO gm cfA [awR] awC2] ∧ KeepS N w w' := by
 have q := MCommit_i 1 h awI2 cfA_ok (by decide)
 rw [aw3, awL3] at q
 exact q
theorem ax_c2 (h : Own N w [ModO gm cfA [awR] awC2]) : Calls Tryd.prog 44 #[pt gm, .int .i64 1] w fun e_ w' => e_ = .returned (.bool false) ∧ Own N w' [ModO gm cfA [awR] awC2] ∧ KeepS N w w' := by
 have q := MCommit_i 1 h awI3 cfA_ok (by decide)
 rw [aw3b, awL3b] at q
 exact q
theorem ax_m1 (h : Own N w [ModO gm cfA [awR] awC2]) : Calls Tryd.prog 45 #[pt gm, .int .i64 2] w fun e_ w' => e_ = .returned (.bool true) ∧ Own N w' [ModO gm cfA [awR] awC3] ∧ KeepS N w w' := by
 have q := MCome_i 2 h awI3 cfA_ok (by decide)
 rw [aw4] at q
 exact q
theorem ax_m2 (h : Own N w [ModO gm cfA [awR] awC3]) : Calls Tryd.prog 45 #[pt gm, .int .i64 2] w fun e_ w' => e_ = .returned (.bool false) ∧ Own N w' [ModO gm cfA [awR] awC3] ∧ KeepS N w w' := by
 have q := MCome_i 2 h awI4 cfA_ok (by decide)
 rw [aw4b] at q
 exact q
theorem ax_log (h : Own N w [ModO gm cfA [awR] awC4]) : Calls Tryd.prog 39 #[pt gm] w fun e_ w' => ∃ A1 c1, e_ = .returned (.slice A1 1 c1) ∧ Own N w' [ModO gm cfA [awR] awC4, nrow kR7 tR7 (.slice A1 1 c1) [awR]] ∧ KeepS N w w' := MLog_i h awI5 (by decide)
theorem ax_k2 (h : Own N w [ModO gm cfA [awR] awC4]) : Calls Tryd.prog 41 #[pt gm, .int .i64 2] w fun e_ w' => ∃ A1 c1, e_ = .returned (.slice A1 1 c1) ∧ Own N w' [ModO gm cfA [awR] awC4, nrow kR7 tR7 (.slice A1 1 c1) [awR]] ∧ KeepS N w w' := MKnown_i 2 (y := ⟨1, [], 1, 0, []⟩) h awI5 cfA_ok (by decide) rfl
theorem ax_k1 (h : Own N w [ModO gm cfA [awR] awC4]) : Calls Tryd.prog 41 #[pt gm, .int .i64 1] w fun e_ w' => ∃ A1 c1, e_ = .returned (.slice A1 0 c1) ∧ Own N w' [ModO gm cfA [awR] awC4, nrow kR7 tR7 (.slice A1 0 c1) []] ∧ KeepS N w w' := MKnown_i 1 (y := ⟨1, [awR], 0, 0, []⟩) h awI5 cfA_ok (by decide) rfl
theorem ax_look (h : Own N w [ModO gm cfA [awR] awC4]) : Calls Tryd.prog 40 #[pt gm, .int .i64 1] w fun e_ w' => e_ = .returned (.agg #[.int .i64 1, .int .i64 0, .int .i64 1, .int .i64 0, .int .i64 0, .int .i64 0]) ∧ Own N w' [ModO gm cfA [awR] awC4] ∧ KeepS N w w' := MLook_i 1 (y := ⟨1, [awR], 0, 0, []⟩) h awI5 cfA_ok (by decide) rfl
theorem ax_tick (h : Own N w [ModO gm cfA [awR] awC4]) (ht : TabN N w) : Calls Tryd.prog 42 #[pt gm, .agg #[.int .i64 7, .int .i64 1, .string ⟨#[]⟩, .int .i64 0, .int .i64 0, .string ⟨#[]⟩, .string ⟨#[]⟩, .int .i64 0, .int .i64 0, .int .u32 0]] w fun e_ w' => e_ = .returned (.agg #[.int .i64 5, .int .i64 0, .int .i64 0, .string ⟨#[]⟩, .bool false, .int .i64 0]) ∧ Own N w' [ModO gm cfA [awR] awC4] ∧ KeepS N w w' := MDo_e (awA 7 1) (rep0 5) awC4 aw7 h ht awI5 cfA_ok (by decide) (by decide)
end
theorem awake21 (w : World) (HT : Aside0 (Tab w)) :
  Calls Tryd.prog 35 #[] w fun e_ w' => e_ = .returned (.bool true) ∧ Below w.heap.size w w' := by
 obtain ⟨N, hN⟩ : ∃ N : Nat → Prop, N = fun k => k < w.heap.size := ⟨_, rfl⟩
 have HN := Aside0.mk hN
 have HT_0 : Aside0 (TabN N w) := ⟨by rw [hN]; exact World.block_lt_of_cell? w _ HT.out.1, HT.out⟩
 have O0 : Aside0 (Own N w []) := ⟨Own.start_ (fun k hk => by rw [hN] at hk; exact hk)⟩
 have K0 : Aside0 (KeepS N w w) := ⟨KeepS.refl _ _⟩
 have hfr := field_RE 5 0 0 ⟨#[]⟩ false 0
 clear hN HT
 go_enter Tryd.func35, Tryd.ntmps35
 go_wp2_with (first | ((with_reducible refine gC 75 rfl ?_); refine gP (some 13) Tryd.func75 #[] ?_; refine (chapbooklaw21_config.calls 2 2 1 1 100 9 _ rfl).mono ?_; rintro e_ w1 ⟨rfl, hb_⟩; refine ⟨_, rfl, ?_⟩; have o_ := O0.out.below hb_; have k_ := KeepS.of_below (N := N) hb_; obtain ⟨O1, K1⟩ := ok_ K0 o_ k_; have HT_1 := Aside0.mk (TabN.keep HT_0.out k_); clear O0 K0 HT_0 o_ k_ hb_) | ((with_reducible refine gC 43 rfl ?_); refine gP (some 14) Tryd.func43 #[.agg #[.int .i64 2, .int .i64 2, .int .i64 1, .int .i64 1, .int .i64 100, .int .i64 9]] ?_; obtain ⟨N_, on_, nn_, rr_, bb_⟩ := O1.out.frame0; refine (ax_new on_).mono ?_; rintro e_ w2 ⟨gm, rfl, oo_, kk_⟩; obtain ⟨o_, k_⟩ := bb_ _ _ kk_ oo_; refine ⟨_, rfl, ?_⟩; obtain ⟨O2, K2⟩ := ok_ K1 o_ k_; have HT_2 := Aside0.mk (TabN.keep HT_1.out k_); clear O1 K1 HT_1 o_ k_ oo_ kk_ on_ nn_ rr_ bb_) | ((with_reducible refine gC 43 rfl ?_); refine gP (some 19) Tryd.func43 #[.agg #[.int .i64 0, .int .i64 0, .int .i64 0, .int .i64 0, .int .i64 0, .int .i64 0]] ?_; obtain ⟨N_, on_, nn_, rr_, bb_⟩ := O2.out.frame0; refine (ax_new0 on_).mono ?_; rintro e_ w3 ⟨rfl, oo_, kk_⟩; obtain ⟨o_, k_⟩ := bb_ _ _ kk_ oo_; refine ⟨_, rfl, ?_⟩; obtain ⟨O3, K3⟩ := ok_ K2 o_ k_; have HT_3 := Aside0.mk (TabN.keep HT_2.out k_); clear O2 K2 HT_2 o_ k_ oo_ kk_ on_ nn_ rr_ bb_) | ((with_reducible refine gC 42 rfl ?_); refine gP (some 35) Tryd.func42 #[pt gm, .agg #[.int .i64 1, .int .i64 1, .string ⟨#[107]⟩, .int .i64 1, .int .i64 5, .string ⟨#[]⟩, .string ⟨#[]⟩, .int .i64 0, .int .i64 0, .int .u32 0]] ?_; obtain ⟨N_, on_, nn_, rr_, bb_⟩ := O3.out.frameL [0] (by decide) (by simp); refine (MDo_e awA1 (rep0 0) awC1 aw1 on_ (TabN.mono HT_3.out nn_) awI0 cfA_ok (by decide) (by decide)).mono ?_; rintro e_ w4 ⟨rfl, oo_, kk_⟩; obtain ⟨o_, k_⟩ := bb_ _ [ModO gm cfA [] awC1] [] rfl kk_ oo_; refine ⟨_, rfl, ?_⟩; obtain ⟨O4, K4⟩ := ok_ K3 o_ k_; have HT_4 := Aside0.mk (TabN.keep HT_3.out k_); clear O3 K3 HT_3 o_ k_ oo_ kk_ on_ nn_ rr_ bb_) | ((with_reducible refine gC 42 rfl ?_); refine gP (some 38) Tryd.func42 #[pt gm, .agg #[.int .i64 3, .int .i64 1, .string ⟨#[]⟩, .int .i64 0, .int .i64 0, .string ⟨#[]⟩, .string ⟨#[]⟩, .int .i64 0, .int .i64 0, .int .u32 0]] ?_; obtain ⟨N_, on_, nn_, rr_, bb_⟩ := O4.out.frameL [0] (by decide) (by simp); refine (MDo_e (awA 3 1) (repN 1) awC2 aw2 on_ (TabN.mono HT_4.out nn_) awI1 cfA_ok (by decide) (by decide)).mono ?_; rintro e_ w5 ⟨rfl, oo_, kk_⟩; obtain ⟨o_, k_⟩ := bb_ _ [ModO gm cfA [] awC2] [] rfl kk_ oo_; refine ⟨_, rfl, ?_⟩; obtain ⟨O5, K5⟩ := ok_ K4 o_ k_; have HT_5 := Aside0.mk (TabN.keep HT_4.out k_); clear O4 K4 HT_4 o_ k_ oo_ kk_ on_ nn_ rr_ bb_) | ((with_reducible refine gD 5 rfl ?_); refine bP 5 #[.int .i64 0, .int .i64 0, .int .i64 0, .string ⟨#[]⟩, .bool false, .int .i64 0] 79 O5.out ?_; intro g5 w6 o_ k_; obtain ⟨O6, K6⟩ := ok_ K5 o_ k_; have HT_6 := Aside0.mk (TabN.keep HT_5.out k_); clear O5 K5 HT_5 o_ k_; have a1 := k6_ O6 1) | ((with_reducible refine gT 79 5 rfl ?_); refine wS 1 0 [.int .i64 0, .int .i64 0, .int .i64 0, .string ⟨#[]⟩, .bool false, .int .i64 1] O6 ?_; intro w7 o_ k_; obtain ⟨O7, K7⟩ := ok_ K6 o_ k_; have HT_7 := Aside0.mk (TabN.keep HT_6.out k_); clear a1 O6 K6 HT_6 o_ k_; have a1 := k6_ O7 1) | ((with_reducible refine gC 44 rfl ?_); refine gP (some 40) Tryd.func44 #[pt gm, .int .i64 1] ?_; obtain ⟨N_, on_, nn_, rr_, bb_⟩ := O7.out.frameL [0] (by decide) (by simp); refine (ax_c1 on_).mono ?_; rintro e_ w8 ⟨rfl, oo_, kk_⟩; obtain ⟨o_, k_⟩ := bb_ _ [ModO gm cfA [awR] awC2] [] rfl kk_ oo_; refine ⟨_, rfl, ?_⟩; obtain ⟨O8, K8⟩ := ok_ K7 o_ k_; have HT_8 := Aside0.mk (TabN.keep HT_7.out k_); clear a1 O7 K7 HT_7 o_ k_ oo_ kk_ on_ nn_ rr_ bb_; have a1 := k6_ O8 1) | ((with_reducible refine gC 44 rfl ?_); refine gP (some 42) Tryd.func44 #[pt gm, .int .i64 1] ?_; obtain ⟨N_, on_, nn_, rr_, bb_⟩ := O8.out.frameL [0] (by decide) (by simp); refine (ax_c2 on_).mono ?_; rintro e_ w9 ⟨rfl, oo_, kk_⟩; obtain ⟨o_, k_⟩ := bb_ _ [ModO gm cfA [awR] awC2] [] rfl kk_ oo_; refine ⟨_, rfl, ?_⟩; obtain ⟨O9, K9⟩ := ok_ K8 o_ k_; have HT_9 := Aside0.mk (TabN.keep HT_8.out k_); clear a1 O8 K8 HT_8 o_ k_ oo_ kk_ on_ nn_ rr_ bb_; have a1 := k6_ O9 1) | ((with_reducible refine gC 45 rfl ?_); refine gP (some 44) Tryd.func45 #[pt gm, .int .i64 2] ?_; obtain ⟨N_, on_, nn_, rr_, bb_⟩ := O9.out.frameL [0] (by decide) (by simp); refine (ax_m1 on_).mono ?_; rintro e_ w10 ⟨rfl, oo_, kk_⟩; obtain ⟨o_, k_⟩ := bb_ _ [ModO gm cfA [awR] awC3] [] rfl kk_ oo_; refine ⟨_, rfl, ?_⟩; obtain ⟨O10, K10⟩ := ok_ K9 o_ k_; have HT_10 := Aside0.mk (TabN.keep HT_9.out k_); clear a1 O9 K9 HT_9 o_ k_ oo_ kk_ on_ nn_ rr_ bb_; have a1 := k6_ O10 1) | ((with_reducible refine gC 45 rfl ?_); refine gP (some 46) Tryd.func45 #[pt gm, .int .i64 2] ?_; obtain ⟨N_, on_, nn_, rr_, bb_⟩ := O10.out.frameL [0] (by decide) (by simp); refine (ax_m2 on_).mono ?_; rintro e_ w11 ⟨rfl, oo_, kk_⟩; obtain ⟨o_, k_⟩ := bb_ _ [ModO gm cfA [awR] awC3] [] rfl kk_ oo_; refine ⟨_, rfl, ?_⟩; obtain ⟨O11, K11⟩ := ok_ K10 o_ k_; have HT_11 := Aside0.mk (TabN.keep HT_10.out k_); clear a1 O10 K10 HT_10 o_ k_ oo_ kk_ on_ nn_ rr_ bb_; have a1 := k6_ O11 1) | ((with_reducible refine gC 42 rfl ?_); refine gP (some 49) Tryd.func42 #[pt gm, .agg #[.int .i64 4, .int .i64 2, .string ⟨#[]⟩, .int .i64 0, .int .i64 0, .string ⟨#[]⟩, .string ⟨#[]⟩, .int .i64 0, .int .i64 0, .int .u32 0]] ?_; obtain ⟨N_, on_, nn_, rr_, bb_⟩ := O11.out.frameL [0] (by decide) (by simp); refine (MDo_e (awA 4 2) (repN 1) awC4 aw5 on_ (TabN.mono HT_11.out nn_) awI4 cfA_ok (by decide) (by decide)).mono ?_; rintro e_ w12 ⟨rfl, oo_, kk_⟩; obtain ⟨o_, k_⟩ := bb_ _ [ModO gm cfA [awR] awC4] [] rfl kk_ oo_; refine ⟨_, rfl, ?_⟩; obtain ⟨O12, K12⟩ := ok_ K11 o_ k_; have HT_12 := Aside0.mk (TabN.keep HT_11.out k_); clear a1 O11 K11 HT_11 o_ k_ oo_ kk_ on_ nn_ rr_ bb_; have a1 := k6_ O12 1) | ((with_reducible refine gD 10 rfl ?_); refine bP 10 #[.int .i64 0, .int .i64 0, .int .i64 0, .string ⟨#[]⟩, .bool false, .int .i64 0] 79 O12.out ?_; intro g10 w13 o_ k_; obtain ⟨O13, K13⟩ := ok_ K12 o_ k_; have HT_13 := Aside0.mk (TabN.keep HT_12.out k_); clear a1 O12 K12 HT_12 o_ k_; have a1 := k6_ O13 1; have a2 := k6_ O13 2) | ((with_reducible refine gT 79 10 rfl ?_); refine wS 2 0 [.int .i64 0, .int .i64 0, .int .i64 0, .string ⟨#[]⟩, .bool false, .int .i64 1] O13 ?_; intro w14 o_ k_; obtain ⟨O14, K14⟩ := ok_ K13 o_ k_; have HT_14 := Aside0.mk (TabN.keep HT_13.out k_); clear a1 a2 O13 K13 HT_13 o_ k_; have a1 := k6_ O14 1; have a2 := k6_ O14 2) | ((with_reducible refine gC 42 rfl ?_); refine gP (some 52) Tryd.func42 #[pt gm, .agg #[.int .i64 2, .int .i64 2, .string ⟨#[]⟩, .int .i64 0, .int .i64 0, .string ⟨#[]⟩, .string ⟨#[107]⟩, .int .i64 0, .int .i64 0, .int .u32 0]] ?_; obtain ⟨N_, on_, nn_, rr_, bb_⟩ := O14.out.frameL [0] (by decide) (by simp); refine (MDo_e awA6 ⟨0, (1, 5, none'), false, 1⟩ awC4 aw6 on_ (TabN.mono HT_14.out nn_) awI5 cfA_ok (by decide) (by decide)).mono ?_; rintro e_ w15 ⟨rfl, oo_, kk_⟩; obtain ⟨o_, k_⟩ := bb_ _ [ModO gm cfA [awR] awC4] [] rfl kk_ oo_; refine ⟨_, rfl, ?_⟩; obtain ⟨O15, K15⟩ := ok_ K14 o_ k_; have HT_15 := Aside0.mk (TabN.keep HT_14.out k_); clear a1 a2 O14 K14 HT_14 o_ k_ oo_ kk_ on_ nn_ rr_ bb_; have a1 := k6_ O15 1; have a2 := k6_ O15 2) | ((with_reducible refine gD 11 rfl ?_); refine bP 11 #[.int .i64 0, .int .i64 0, .int .i64 0, .string ⟨#[]⟩, .bool false, .int .i64 0] 79 O15.out ?_; intro g11 w16 o_ k_; obtain ⟨O16, K16⟩ := ok_ K15 o_ k_; have HT_16 := Aside0.mk (TabN.keep HT_15.out k_); clear a1 a2 O15 K15 HT_15 o_ k_; have a1 := k6_ O16 1; have a2 := k6_ O16 2; have a3 := k6_ O16 3) | ((with_reducible refine gT 79 11 rfl ?_); refine wS 3 0 [.int .i64 0, .int .i64 1, .int .i64 5, .string ⟨#[]⟩, .bool false, .int .i64 1] O16 ?_; intro w17 o_ k_; obtain ⟨O17, K17⟩ := ok_ K16 o_ k_; have HT_17 := Aside0.mk (TabN.keep HT_16.out k_); clear a1 a2 a3 O16 K16 HT_16 o_ k_; have a1 := k6_ O17 1; have a2 := k6_ O17 2; have a3 := k6_ O17 3) | ((with_reducible refine gC 39 rfl ?_); refine gate_guard (by rfl) ?_; refine gP (some 88) Tryd.func39 #[pt gm] ?_; obtain ⟨N_, on_, nn_, rr_, bb_⟩ := O17.out.frameL [0] (by decide) (by simp); refine (ax_log on_).mono ?_; rintro e_ w18 ⟨B1, d1_, rfl, oo_, kk_⟩; obtain ⟨o_, k_⟩ := bb_ _ [ModO gm cfA [awR] awC4] [nrow kR7 tR7 (.slice B1 1 d1_) [awR]] rfl kk_ oo_; refine ⟨_, rfl, ?_⟩; obtain ⟨O18, K18⟩ := ok_ K17 o_ k_; have HT_18 := Aside0.mk (TabN.keep HT_17.out k_); clear a1 a2 a3 O17 K17 HT_17 o_ k_ oo_ kk_ on_ nn_ rr_ bb_; have a1 := k6_ O18 1; have a2 := k6_ O18 2; have a3 := k6_ O18 3) | ((with_reducible refine gC 41 rfl ?_); refine gate_guard (by rfl) ?_; refine gP (some 94) Tryd.func41 #[pt gm, .int .i64 2] ?_; obtain ⟨N_, on_, nn_, rr_, bb_⟩ := O18.out.frameL [0] (by decide) (by simp); refine (ax_k2 on_).mono ?_; rintro e_ w19 ⟨B2, d2_, rfl, oo_, kk_⟩; obtain ⟨o_, k_⟩ := bb_ _ [ModO gm cfA [awR] awC4] [nrow kR7 tR7 (.slice B2 1 d2_) [awR]] rfl kk_ oo_; refine ⟨_, rfl, ?_⟩; obtain ⟨O19, K19⟩ := ok_ K18 o_ k_; have HT_19 := Aside0.mk (TabN.keep HT_18.out k_); clear a1 a2 a3 O18 K18 HT_18 o_ k_ oo_ kk_ on_ nn_ rr_ bb_; have a1 := k6_ O19 1; have a2 := k6_ O19 2; have a3 := k6_ O19 3) | ((with_reducible refine gC 41 rfl ?_); refine gate_guard (by rfl) ?_; refine gP (some 100) Tryd.func41 #[pt gm, .int .i64 1] ?_; obtain ⟨N_, on_, nn_, rr_, bb_⟩ := O19.out.frameL [0] (by decide) (by simp); refine (ax_k1 on_).mono ?_; rintro e_ w20 ⟨B3, d3_, rfl, oo_, kk_⟩; obtain ⟨o_, k_⟩ := bb_ _ [ModO gm cfA [awR] awC4] [nrow kR7 tR7 (.slice B3 0 d3_) []] rfl kk_ oo_; refine ⟨_, rfl, ?_⟩; obtain ⟨O20, K20⟩ := ok_ K19 o_ k_; have HT_20 := Aside0.mk (TabN.keep HT_19.out k_); clear a1 a2 a3 O19 K19 HT_19 o_ k_ oo_ kk_ on_ nn_ rr_ bb_; have a1 := k6_ O20 1; have a2 := k6_ O20 2; have a3 := k6_ O20 3) | ((with_reducible refine gC 40 rfl ?_); refine gate_guard (by rfl) ?_; refine gP (some 106) Tryd.func40 #[pt gm, .int .i64 1] ?_; obtain ⟨N_, on_, nn_, rr_, bb_⟩ := O20.out.frameL [0] (by decide) (by simp); refine (ax_look on_).mono ?_; rintro e_ w21 ⟨rfl, oo_, kk_⟩; obtain ⟨o_, k_⟩ := bb_ _ [ModO gm cfA [awR] awC4] [] rfl kk_ oo_; refine ⟨_, rfl, ?_⟩; obtain ⟨O21, K21⟩ := ok_ K20 o_ k_; have HT_21 := Aside0.mk (TabN.keep HT_20.out k_); clear a1 a2 a3 O20 K20 HT_20 o_ k_ oo_ kk_ on_ nn_ rr_ bb_; have a1 := k6_ O21 1; have a2 := k6_ O21 2; have a3 := k6_ O21 3) | ((with_reducible refine gC 42 rfl ?_); refine gate_guard (by rfl) ?_; refine gP (some 113) Tryd.func42 #[pt gm, .agg #[.int .i64 7, .int .i64 1, .string ⟨#[]⟩, .int .i64 0, .int .i64 0, .string ⟨#[]⟩, .string ⟨#[]⟩, .int .i64 0, .int .i64 0, .int .u32 0]] ?_; obtain ⟨N_, on_, nn_, rr_, bb_⟩ := O21.out.frameL [0] (by decide) (by simp); refine (ax_tick on_ (TabN.mono HT_21.out nn_)).mono ?_; rintro e_ w22 ⟨rfl, oo_, kk_⟩; obtain ⟨o_, k_⟩ := bb_ _ [ModO gm cfA [awR] awC4] [] rfl kk_ oo_; refine ⟨_, rfl, ?_⟩; obtain ⟨O22, K22⟩ := ok_ K21 o_ k_; have HT_22 := Aside0.mk (TabN.keep HT_21.out k_); clear a1 a2 a3 O21 K21 HT_21 o_ k_ oo_ kk_ on_ nn_ rr_ bb_; have a1 := k6_ O22 1; have a2 := k6_ O22 2; have a3 := k6_ O22 3))
 go_ret
 exact ⟨rfl, kw_ K22 HN⟩
end Go.Proofs.YtjdenpmaianmfaaDoor.J
namespace Go.Proofs.YtjdenpmaianmfaaDoor.J
set_option linter.unusedSimpArgs false
set_option linter.unusedVariables false
open Go Go.RowKit Go.Proofs.YtjdenpmaianmfaaDoorW.PrintWords Go.Proofs.YtjdenpmaianmfaaDoorW.PrintLast Go.Proofs.YtjdenpmaianmfaaDoorW.PrintMore Go.Proofs.YtjdenpmaianmfaaDoor.Q Go.Proofs.YtjdenpmaianmfaaDoor.Sep Go.Proofs.YtjdenpmaianmfaaDoor.Pure
section
variable {N : Nat → Prop} {w : World} {gm x : Nat} {cf : MCf} {L : List Rnd7} {cls : List MCl} {l : List HP} {i j n c d : Nat} {A B : Option Addr} {X : List Rnd7}
theorem MLook_v (V : Value) (n : Int) {y : MCl} (hV : lookV n L y = V) (h : Own N w [ModO gm cf L cls]) (hi : MInv cf x L cls) (hc : CfOk cf) (hx : x ≤ 400) (hy : clAt cls n = some y) :
  Calls Tryd.prog 40 #[pt gm, .int .i64 n] w fun e_ w' => e_ = .returned V ∧ Own N w' [ModO gm cf L cls] ∧ KeepS N w w' := by
 subst hV
 exact MLook_i n h hi hc hx hy
theorem MKnown_e (n : Int) (K : List Rnd7) {y : MCl} (hK : L.take y.k = K) (h : Own N w [ModO gm cf L cls]) (hi : MInv cf x L cls) (hc : CfOk cf) (hx : x ≤ 400) (hy : clAt cls n = some y) :
  Calls Tryd.prog 41 #[pt gm, .int .i64 n] w fun e_ w' => ∃ A1 c1, e_ = .returned (.slice A1 K.length c1) ∧ Own N w' [ModO gm cf L cls, nrow kR7 tR7 (.slice A1 K.length c1) K] ∧ KeepS N w w' := by
 subst hK
 have hk := (hi.c n y hy).k
 have q := MKnown_i n h hi hc hx hy
 rw [show y.k = (L.take y.k).length by rw [List.length_take]; omega] at q
 rw [show L.take (L.take y.k).length = L.take y.k by rw [List.length_take, Nat.min_eq_left (by omega)]] at q
 exact q
end
end Go.Proofs.YtjdenpmaianmfaaDoor.J
namespace Go.Proofs.YtjdenpmaianmfaaDoor.J
set_option maxHeartbeats 16000000
set_option maxRecDepth 100000
set_option linter.unusedSimpArgs false
set_option linter.unusedVariables false
open Go Go.RowKit Go.Proofs.YtjdenpmaianmfaaDoorW.PrintWords Go.Proofs.YtjdenpmaianmfaaDoorW.PrintLast Go.Proofs.YtjdenpmaianmfaaDoorW.PrintMore Go.Proofs.YtjdenpmaianmfaaDoor.Q Go.Proofs.YtjdenpmaianmfaaDoor.Sep Go.Proofs.YtjdenpmaianmfaaDoor.Pure
open Go.Maps
theorem keyI21 : Keyed Tryd.prog 3 := int_keyed Tryd.underlying3
theorem zeroI21 (w : World) : (zeroValue 3).run Tryd.prog w = .ok (.int .i64 0) w := by kernel_rfl
theorem lit_eq21 {c d : Int} {x : DataW Unit} (h : x = .lit (.int .i64 c)) (k : x = .lit (.int .i64 d)) : c = d := by
 rw [h] at k
 injection k with k
 injection k with _ k
def Tal (D : DataW Unit) (M : List Rnd7) : Prop := (∀ o : Int, D.atKey (.int .i64 o) (.lit (.int .i64 0)) = .lit (.int .i64 ((ownR o M).length : Int))) ∧ IsMap D
theorem tal_nil : Tal (.map []) [] := ⟨fun o => rfl, isMap_empty⟩
theorem tal_snoc {D : DataW Unit} {M : List Rnd7} {r : Rnd7} (h : Tal D M) (e : r.f1 = ((ownR r.f0 M).length : Int) + 1) : Tal (D.put (.int .i64 r.f0) (.lit (.int .i64 r.f1))) (M ++ [r]) := by
 refine ⟨fun o => ?_, h.2.put _ _⟩
 by_cases ho : r.f0 = o
 ·subst ho
  rw [ownR_yes rfl, List.length_append, List.length_singleton, atKey_put_same (k := .int .i64 r.f0) h.2 trivial, e]
  rfl
 ·rw [ownR_no ho, atKey_put_other (fun e => ho (by injection e with _ e; exact e.symm))]
  exact h.1 o
def PmI (N : Nat → Prop) (w : World) (L : List Rnd7) (gm : Nat) (R : List HP) (i : Value) (wr : World) : Prop := ∃ (x : Int) (n : Nat) (D : DataW Unit), 0 ≤ x ∧ x ≤ (L.length : Int) ∧ i = .int .i64 x ∧ Aside0 ((n : Int) ≤ x ∧ Tal D (upR L x)) ∧ Aside0 (Own N wr (R ++ [mp Tryd.prog 3 (plainElem (H := Unit) Tryd.prog 3) gm n D])) ∧ Aside0 (KeepS N w wr)
def PcI (N : Nat → Prop) (w : World) (n : Int) (R : List HP) (i : Value) (wr : World) : Prop := ∃ x : Int, 0 ≤ x ∧ x ≤ n ∧ i = .int .i64 x ∧ Aside0 (Own N wr R) ∧ Aside0 (KeepS N w wr)
theorem minv_rd {cf : MCf} {z : Nat} {L : List Rnd7} {cls : List MCl} (h : MInv cf z L cls) {x : Int} (h0 : 0 ≤ x) (h1 : x < L.length) : (rd_T35 L x).f1 = ((ownR (rd_T35 L x).f0 (upR L x)).length : Int) + 1 ∧ 1 ≤ (rd_T35 L x).f0 ∧ (rd_T35 L x).f0 ≤ cls.length := by
 have hx : L[x.toNat]? = some (rd_T35 L x) := by
  show L[x.toNat]? = some (L.getD x.toNat _)
  rw [List.getD_eq_getElem?_getD, List.getElem?_eq_getElem (by omega)]
  rfl
 exact ⟨h.m _ _ hx, h.o _ (List.mem_of_getElem? hx)⟩
theorem pfx_facts {K L c d : Nat} {pull : Int} (h1 : K + c ≤ L) (h2 : L ≤ 400) (h3 : L ≤ d) (h4 : (c : Int) ≤ pull) : wrap64 ((K : Int) + (c : Int)) = (K : Int) + (c : Int) ∧ decide ((K : Int) + (c : Int) > (L : Int)) = false ∧ decide ((L : Int) < (K : Int) + (c : Int)) = false ∧ decide ((c : Int) > pull) = false ∧ decide (pull < (c : Int)) = false ∧ ((K : Int) ≤ (d : Int)) = True ∧ (K ≤ d) = True :=
 ⟨by unfold wrap64; omega, decide_eq_false (by omega), decide_eq_false (by omega), decide_eq_false (by omega), decide_eq_false (by omega), eq_true (by omega), eq_true (by omega)⟩
theorem known_len {L K : List Rnd7} {k c : Nat} (hK : L.take k = K) (hk : k + c ≤ L.length) : K.length = k := by
 rw [← hK, List.length_take]
 omega
theorem same_t {N : Nat → Prop} {w : World} {l : List HP} {i j k c d : Nat} {A B : Option Addr} {L K : List Rnd7} (hK : L.take k = K) (h : Own N w l) (hi : l[i]? = some (nrow kR7 tR7 (.slice A K.length c) K)) (hj : l[j]? = some (nrow kR7 tR7 (.slice B L.length d) L)) (hf : Few 400 L) (hx : L.length ≤ 400) :
  Calls Tryd.prog 19 #[.slice A K.length c, .slice B K.length d] w fun e w' => e = .returned (.bool true) ∧ Below w.heap.size w w' := by
 obtain ⟨a1, a2, a3⟩ := h.nreads hi
 obtain ⟨b1, b2, b3⟩ := h.nreads hj
 have hl : K.length ≤ L.length := by rw [← hK, List.length_take]; omega
 have hk2 : L.take K.length = K := by
  rw [← hK, List.length_take]
  rcases Nat.le_total k L.length with e | e
  ·rw [Nat.min_eq_left e]
  ·rw [Nat.min_eq_right e, List.take_length, List.take_of_length_le e]
 have b4 := Kd.C_take b3 hl
 rw [hk2] at b4
 exact chapbookref07_SameAll.calls 1100 _ _ K _ _ K true _ a3 a2 b4 (Nat.le_trans hl b2) (psameAll 400 1100 K (by omega) (fun x h0 h1 => hf _ (by rw [← hK]; exact List.mem_of_mem_take (by rw [hK]; exact rd_mem h0 h1))) (by decide) (by omega))
def chapbooklaw21_ModelPrefix.f (a0_0 a0_1 a0_2 a0_3 a0_4 a0_5 : Int) (l1 : List S88) : Option Bool := some true
theorem ModelPrefix_core (cf : MCf) (A0 : Option Addr) (c0 : Nat) (l0 : List Step21) (w : World) (HT : Aside0 (Tab w)) (hr0 : Kd.C kS21 w A0 l0.length l0) (hc0 : l0.length ≤ c0) :
  Calls Tryd.prog 12 #[.agg #[.int .i64 cf.cl, .int .i64 cf.win, .int .i64 cf.push, .int .i64 cf.pull, .int .i64 cf.mtu, .int .i64 cf.last], .slice A0 l0.length c0] w fun e_ w' => e_ = .returned (.bool true) ∧ Below w.heap.size w w' := by
 obtain ⟨N, hN⟩ : ∃ N : Nat → Prop, N = fun k => k < w.heap.size := ⟨_, rfl⟩
 have HN := Aside0.mk hN
 have HT_0 : Aside0 (TabN N w) := ⟨by rw [hN]; exact World.block_lt_of_cell? w _ HT.out.1, HT.out⟩
 have HSF_0 : Aside0 (Kd.F kS21 w N A0 l0.length l0) := ⟨by rw [hN]; exact Kd.C_F heapS21 hr0⟩
 have HR0 := Aside0.mk hr0
 have HC0 := Aside0.mk hc0
 have HT00 := HT_0
 have HSF := HSF_0
 have O0 : Aside0 (Own N w []) := ⟨Own.start_ (fun k hk => by rw [hN] at hk; exact hk)⟩
 have K0 : Aside0 (KeepS N w w) := ⟨KeepS.refl _ _⟩
 clear hN HT hr0 hc0
 obtain ⟨b, hgr, hgb⟩ := great21_ok cf l0
 have HGR := Aside0.mk hgr
 have HGB := Aside0.mk hgb
 clear hgr hgb
 go_enter Tryd.func12, Tryd.ntmps12
 cases b with
 | true =>
  go_wp2_with (first | ((with_reducible refine gD 2 rfl ?_); refine bP 2 #[.int .i64 cf.cl, .int .i64 cf.win, .int .i64 cf.push, .int .i64 cf.pull, .int .i64 cf.mtu, .int .i64 cf.last] 68 O0.out ?_; intro gc w1 o_ k_; obtain ⟨O1, K1⟩ := ok_ K0 o_ k_; have HT_1 := Aside0.mk (TabN.keep HT_0.out k_); have HSF_1 := Aside0.mk (keepF HSF_0.out k_); clear O0 K0 HT_0 HSF_0 o_ k_; have a0 := k6_ O1 0) | ((with_reducible refine gC 35 rfl ?_); refine gP (some 13) Tryd.func35 #[] ?_; refine (awake21 _ ⟨HT_1.out.2⟩).mono ?_; rintro e_ w2 ⟨rfl, hb_⟩; refine ⟨_, rfl, ?_⟩; have o_ := O1.out.below hb_; have k_ := KeepS.of_below (N := N) hb_; obtain ⟨O2, K2⟩ := ok_ K1 o_ k_; have HT_2 := Aside0.mk (TabN.keep HT_1.out k_); have HSF_2 := Aside0.mk (keepF HSF_1.out k_); clear a0 O1 K1 HT_1 HSF_1 o_ k_ hb_; have a0 := k6_ O2 0) | ((with_reducible refine gC 36 rfl ?_); refine gate_guard (by rfl) ?_; refine gP (some 18) Tryd.func36 #[.agg #[.int .i64 cf.cl, .int .i64 cf.win, .int .i64 cf.push, .int .i64 cf.pull, .int .i64 cf.mtu, .int .i64 cf.last], .slice A0 l0.length c0] ?_; refine (chapbooklaw21_great.calls 300 cf.cl cf.win cf.push cf.pull cf.mtu cf.last _ _ l0 true _ (Kd.C_below HR0.out (kw_ K2 HN)) HC0.out HGR.out).mono ?_; rintro e_ w3 ⟨rfl, hb_⟩; refine ⟨_, rfl, ?_⟩; have o_ := O2.out.below hb_; have k_ := KeepS.of_below (N := N) hb_; obtain ⟨O3, K3⟩ := ok_ K2 o_ k_; have HT_3 := Aside0.mk (TabN.keep HT_2.out k_); have HSF_3 := Aside0.mk (keepF HSF_2.out k_); clear a0 O2 K2 HT_2 HSF_2 o_ k_ hb_; have a0 := k6_ O3 0) | ((with_reducible refine gC 35 rfl ?_); refine gP (some 25) Tryd.func35 #[] ?_; refine (awake21 _ ⟨HT_3.out.2⟩).mono ?_; rintro e_ w4 ⟨rfl, hb_⟩; refine ⟨_, rfl, ?_⟩; have o_ := O3.out.below hb_; have k_ := KeepS.of_below (N := N) hb_; obtain ⟨O4, K4⟩ := ok_ K3 o_ k_; have HT_4 := Aside0.mk (TabN.keep HT_3.out k_); have HSF_4 := Aside0.mk (keepF HSF_3.out k_); clear a0 O3 K3 HT_3 HSF_3 o_ k_ hb_; have a0 := k6_ O4 0))
  all_goals go_ret
  all_goals exact ⟨rfl, kw_ K4 HN⟩
 | false =>
  obtain ⟨hl60, hc4, hks⟩ := HGB.out rfl
  have HL60 := Aside0.mk hl60
  have HC4 := Aside0.mk hc4
  have HKS := Aside0.mk hks
  clear hl60 hc4 hks HGB
  obtain ⟨mb, hmb⟩ : ∃ m, cfMay cf = m := ⟨_, rfl⟩
  have HM16 : Aside0 (chapbookref16_May.f cf.cl cf.win cf.push cf.pull cf.mtu cf.last = some mb) := ⟨by rw [rmay21, hmb]⟩
  have HMB := Aside0.mk hmb
  clear hmb
  cases mb with
  | false =>
   go_wp2_with (first | ((with_reducible refine gD 2 rfl ?_); refine bP 2 #[.int .i64 cf.cl, .int .i64 cf.win, .int .i64 cf.push, .int .i64 cf.pull, .int .i64 cf.mtu, .int .i64 cf.last] 68 O0.out ?_; intro gc w1 o_ k_; obtain ⟨O1, K1⟩ := ok_ K0 o_ k_; have HT_1 := Aside0.mk (TabN.keep HT_0.out k_); have HSF_1 := Aside0.mk (keepF HSF_0.out k_); clear O0 K0 HT_0 HSF_0 o_ k_; have a0 := k6_ O1 0) | ((with_reducible refine gC 35 rfl ?_); refine gP (some 13) Tryd.func35 #[] ?_; refine (awake21 _ ⟨HT_1.out.2⟩).mono ?_; rintro e_ w2 ⟨rfl, hb_⟩; refine ⟨_, rfl, ?_⟩; have o_ := O1.out.below hb_; have k_ := KeepS.of_below (N := N) hb_; obtain ⟨O2, K2⟩ := ok_ K1 o_ k_; have HT_2 := Aside0.mk (TabN.keep HT_1.out k_); have HSF_2 := Aside0.mk (keepF HSF_1.out k_); clear a0 O1 K1 HT_1 HSF_1 o_ k_ hb_; have a0 := k6_ O2 0) | ((with_reducible refine gC 36 rfl ?_); refine gate_guard (by rfl) ?_; refine gP (some 18) Tryd.func36 #[.agg #[.int .i64 cf.cl, .int .i64 cf.win, .int .i64 cf.push, .int .i64 cf.pull, .int .i64 cf.mtu, .int .i64 cf.last], .slice A0 l0.length c0] ?_; refine (chapbooklaw21_great.calls 300 cf.cl cf.win cf.push cf.pull cf.mtu cf.last _ _ l0 false _ (Kd.C_below HR0.out (kw_ K2 HN)) HC0.out HGR.out).mono ?_; rintro e_ w3 ⟨rfl, hb_⟩; refine ⟨_, rfl, ?_⟩; have o_ := O2.out.below hb_; have k_ := KeepS.of_below (N := N) hb_; obtain ⟨O3, K3⟩ := ok_ K2 o_ k_; have HT_3 := Aside0.mk (TabN.keep HT_2.out k_); have HSF_3 := Aside0.mk (keepF HSF_2.out k_); clear a0 O2 K2 HT_2 HSF_2 o_ k_ hb_; have a0 := k6_ O3 0) | ((with_reducible refine gC 37 rfl ?_); refine gate_guard (by rfl) ?_; refine gP (some 22) Tryd.func37 #[.agg #[.int .i64 cf.cl, .int .i64 cf.win, .int .i64 cf.push, .int .i64 cf.pull, .int .i64 cf.mtu, .int .i64 cf.last]] ?_; refine (chapbookref16_May.calls cf.cl cf.win cf.push cf.pull cf.mtu cf.last false _ HM16.out).mono ?_; rintro e_ w4 ⟨rfl, hb_⟩; refine ⟨_, rfl, ?_⟩; have o_ := O3.out.below hb_; have k_ := KeepS.of_below (N := N) hb_; obtain ⟨O4, K4⟩ := ok_ K3 o_ k_; have HT_4 := Aside0.mk (TabN.keep HT_3.out k_); have HSF_4 := Aside0.mk (keepF HSF_3.out k_); clear a0 O3 K3 HT_3 HSF_3 o_ k_ hb_; have a0 := k6_ O4 0) | ((with_reducible refine gC 35 rfl ?_); refine gP (some 25) Tryd.func35 #[] ?_; refine (awake21 _ ⟨HT_4.out.2⟩).mono ?_; rintro e_ w5 ⟨rfl, hb_⟩; refine ⟨_, rfl, ?_⟩; have o_ := O4.out.below hb_; have k_ := KeepS.of_below (N := N) hb_; obtain ⟨O5, K5⟩ := ok_ K4 o_ k_; have HT_5 := Aside0.mk (TabN.keep HT_4.out k_); have HSF_5 := Aside0.mk (keepF HSF_4.out k_); clear a0 O4 K4 HT_4 HSF_4 o_ k_ hb_; have a0 := k6_ O5 0))
   all_goals go_ret
   all_goals exact ⟨rfl, kw_ K5 HN⟩
  | true =>
   have HCF : Aside0 (CfOk cf) := ⟨CfOk.mk_ HMB.out HC4.out⟩
   have HX4 : Aside0 (l0.length ≤ 400) := ⟨by have := HL60.out; omega⟩
   go_wp2_with (first | ((with_reducible refine gD 2 rfl ?_); refine bP 2 #[.int .i64 cf.cl, .int .i64 cf.win, .int .i64 cf.push, .int .i64 cf.pull, .int .i64 cf.mtu, .int .i64 cf.last] 68 O0.out ?_; intro gc w1 o_ k_; obtain ⟨O1, K1⟩ := ok_ K0 o_ k_; have HT_1 := Aside0.mk (TabN.keep HT_0.out k_); have HSF_1 := Aside0.mk (keepF HSF_0.out k_); clear O0 K0 HT_0 HSF_0 o_ k_; have a0 := k6_ O1 0) | ((with_reducible refine gC 35 rfl ?_); refine gP (some 13) Tryd.func35 #[] ?_; refine (awake21 _ ⟨HT_1.out.2⟩).mono ?_; rintro e_ w2 ⟨rfl, hb_⟩; refine ⟨_, rfl, ?_⟩; have o_ := O1.out.below hb_; have k_ := KeepS.of_below (N := N) hb_; obtain ⟨O2, K2⟩ := ok_ K1 o_ k_; have HT_2 := Aside0.mk (TabN.keep HT_1.out k_); have HSF_2 := Aside0.mk (keepF HSF_1.out k_); clear a0 O1 K1 HT_1 HSF_1 o_ k_ hb_; have a0 := k6_ O2 0) | ((with_reducible refine gC 36 rfl ?_); refine gate_guard (by rfl) ?_; refine gP (some 18) Tryd.func36 #[.agg #[.int .i64 cf.cl, .int .i64 cf.win, .int .i64 cf.push, .int .i64 cf.pull, .int .i64 cf.mtu, .int .i64 cf.last], .slice A0 l0.length c0] ?_; refine (chapbooklaw21_great.calls 300 cf.cl cf.win cf.push cf.pull cf.mtu cf.last _ _ l0 false _ (Kd.C_below HR0.out (kw_ K2 HN)) HC0.out HGR.out).mono ?_; rintro e_ w3 ⟨rfl, hb_⟩; refine ⟨_, rfl, ?_⟩; have o_ := O2.out.below hb_; have k_ := KeepS.of_below (N := N) hb_; obtain ⟨O3, K3⟩ := ok_ K2 o_ k_; have HT_3 := Aside0.mk (TabN.keep HT_2.out k_); have HSF_3 := Aside0.mk (keepF HSF_2.out k_); clear a0 O2 K2 HT_2 HSF_2 o_ k_ hb_; have a0 := k6_ O3 0) | ((with_reducible refine gC 37 rfl ?_); refine gate_guard (by rfl) ?_; refine gP (some 22) Tryd.func37 #[.agg #[.int .i64 cf.cl, .int .i64 cf.win, .int .i64 cf.push, .int .i64 cf.pull, .int .i64 cf.mtu, .int .i64 cf.last]] ?_; refine (chapbookref16_May.calls cf.cl cf.win cf.push cf.pull cf.mtu cf.last true _ HM16.out).mono ?_; rintro e_ w4 ⟨rfl, hb_⟩; refine ⟨_, rfl, ?_⟩; have o_ := O3.out.below hb_; have k_ := KeepS.of_below (N := N) hb_; obtain ⟨O4, K4⟩ := ok_ K3 o_ k_; have HT_4 := Aside0.mk (TabN.keep HT_3.out k_); have HSF_4 := Aside0.mk (keepF HSF_3.out k_); clear a0 O3 K3 HT_3 HSF_3 o_ k_ hb_; have a0 := k6_ O4 0) | ((with_reducible refine gC 38 rfl ?_); refine gP (some 28) Tryd.func38 #[.agg #[.int .i64 cf.cl, .int .i64 cf.win, .int .i64 cf.push, .int .i64 cf.pull, .int .i64 cf.mtu, .int .i64 cf.last], .slice A0 l0.length c0] ?_; obtain ⟨N_, on_, nn_, rr_, bb_⟩ := O4.out.frame0; refine (Run21 cf A0 c0 l0 on_ (Kd.F_mono HSF_4.out nn_) (TabN.mono HT_4.out nn_) HMB.out HCF.out HL60.out HKS.out).mono ?_; rintro e_ w5 ⟨gm, L, cls, rfl, hi_, oo_, kk_⟩; obtain ⟨o_, k_⟩ := bb_ _ _ kk_ oo_; refine ⟨_, rfl, ?_⟩; obtain ⟨O5, K5⟩ := ok_ K4 o_ k_; have HT_5 := Aside0.mk (TabN.keep HT_4.out k_); have HSF_5 := Aside0.mk (keepF HSF_4.out k_); clear a0 O4 K4 HT_4 HSF_4 o_ k_ oo_ kk_ on_ nn_ rr_ bb_; have a0 := k6_ O5 0; have HI := Aside0.mk hi_; clear hi_; have HFW : Aside0 (Few 400 L ∧ L.length ≤ 400) := ⟨HI.out.f.mono HX4.out, Nat.le_trans HI.out.l HX4.out⟩) | ((with_reducible refine gC 39 rfl ?_); refine gP (some 32) Tryd.func39 #[pt gm] ?_; obtain ⟨N_, on_, nn_, rr_, bb_⟩ := O5.out.frameL [1] (by decide) (by simp); refine (MLog_i on_ HI.out HX4.out).mono ?_; rintro e_ w6 ⟨B1, d1_, rfl, oo_, kk_⟩; obtain ⟨o_, k_⟩ := bb_ _ [ModO gm cf L cls] [nrow kR7 tR7 (.slice B1 L.length d1_) L] rfl kk_ oo_; refine ⟨_, rfl, ?_⟩; obtain ⟨O6, K6⟩ := ok_ K5 o_ k_; have HT_6 := Aside0.mk (TabN.keep HT_5.out k_); have HSF_6 := Aside0.mk (keepF HSF_5.out k_); clear a0 O5 K5 HT_5 HSF_5 o_ k_ oo_ kk_ on_ nn_ rr_ bb_; have a0 := k6_ O6 0) | ((with_reducible refine gD 33 rfl ?_); refine own_map Tryd.prog 3 (plainElem (H := Unit) Tryd.prog 3) rfl (T := 33) rfl ?hr O6.out ?_; (case hr => first | rfl | (go_simp; done) | (go_simp; rfl)); intro gp w7 o_ k_; obtain ⟨O7, K7⟩ := ok_ K6 o_ k_; have HT_7 := Aside0.mk (TabN.keep HT_6.out k_); have HSF_7 := Aside0.mk (keepF HSF_6.out k_); clear a0 O6 K6 HT_6 HSF_6 o_ k_; have a0 := k6_ O7 0))
   clear a0
   have HD1 : Aside0 (L.length ≤ d1_) := ⟨(O7.out.nreads (i := 2) rfl).2.1⟩
   go_loopw [36] (fun i wr => PmI N w L gp [cells gc #[.int .i64 cf.cl, .int .i64 cf.win, .int .i64 cf.push, .int .i64 cf.pull, .int .i64 cf.mtu, .int .i64 cf.last] 68, ModO gm cf L cls, nrow kR7 tR7 (.slice B1 L.length d1_) L] i wr) (fun i _ => L.length - (intOf i).toNat)
   case atStart => exact ⟨0, 0, .map [], by omega, by omega, rfl, ⟨by omega, tal_nil⟩, O7, K7⟩
   case round =>
    clear O7 K7 HT_7 HSF_7
    obtain ⟨x, n, D, hx0, hx1, rfl, HJ, OA, KA⟩ := hrel
    by_cases hlt : x < (L.length : Int)
    ·obtain ⟨ak, B9, b9_, eK, z0, z1, z2, hb9, _⟩ := cells_of (OA.out.nreads (i := 2) rfl).2.2 x hx0 hlt
     cases eK
     obtain ⟨hm1, hm2, hm3⟩ := minv_rd HI.out hx0 hlt
     have h64 := HI.out.len HCF.out
     have hs2 : wrap64 (x + 1) = x + 1 := by unfold wrap64; have := HFW.out.2; omega
     have hp := eq_true hx0
     have hq := eq_true hlt
     have hd : decide (x < (L.length : Int)) = true := decide_eq_true hlt
     have HX := Aside0.mk (And.intro hx0 hlt)
     have hcl_ : (ownR (rd_T35 L x).f0 (upR L x)).length ≤ L.length := Nat.le_trans (ownR_len _ _) (upR_len L x)
     obtain ⟨p, hpp⟩ : ∃ p : Int, ((ownR (rd_T35 L x).f0 (upR L x)).length : Int) = p := ⟨_, rfl⟩
     have hp4 : p ≤ 400 := by rw [← hpp]; have := HFW.out.2; omega
     have hp0 : 0 ≤ p := by rw [← hpp]; omega
     have HTS : Aside0 (Tal (D.put (.int .i64 (rd_T35 L x).f0) (.lit (.int .i64 (rd_T35 L x).f1))) (upR L (x + 1))) := ⟨by rw [upR_step L x hx0 hlt]; exact tal_snoc HJ.out.2 hm1⟩
     rw [hpp] at hm1
     have HPP := Aside0.mk hpp
     have hw1 : IntKind.i64.wrap (p + 1) = (rd_T35 L x).f1 := by rw [IntKind.wrap_i64]; omega
     have hw2 : wrap64 (p + 1) = (rd_T35 L x).f1 := by unfold wrap64; omega
     have hbb : ((rd_T35 L x).f1 != (rd_T35 L x).f1) = false := by simp
     have HK1 : Aside0 ((Lit.int .i64 (rd_T35 L x).f0).wf = true) := ⟨WalkArith.wf_i64 (by omega)⟩
     have HK2 : Aside0 ((Lit.int .i64 (rd_T35 L x).f1).wf = true) := ⟨WalkArith.wf_i64 (by omega)⟩
     have HNM : Aside0 (n < maxLen) := ⟨by have := HJ.out.1; have := HFW.out.2; unfold maxLen; omega⟩
     clear hm1 hm2 hm3 h64 hcl_ hpp hp4 hp0 hx0 hx1 hlt hb9
     have O8 : Aside0 (Own N wr [cells gc #[.int .i64 cf.cl, .int .i64 cf.win, .int .i64 cf.push, .int .i64 cf.pull, .int .i64 cf.mtu, .int .i64 cf.last] 68, ModO gm cf L cls, nrow kR7 tR7 (.slice (some ak) L.length d1_) L, mp Tryd.prog 3 (plainElem (H := Unit) Tryd.prog 3) gp n D]) := ⟨OA.out⟩
     have K8 : Aside0 (KeepS N w wr) := ⟨KA.out⟩
     have a0 := k6_ O8 0
     clear OA KA
     go_wp2_with (first | ((with_reducible refine gD 9 rfl ?_); refine bP 9 #[.int .i64 0, .int .i64 0, .slice none 0 0] 35 O8.out ?_; intro gy w9 o_ k_; obtain ⟨O9, K9⟩ := ok_ K8 o_ k_; clear a0 O8 K8 o_ k_; have a0 := k6_ O9 0; have a4 := k3_ O9 4) | ((with_reducible refine gT 35 9 rfl ?_); refine wS 4 0 [.int .i64 (rd_T35 L x).f0, .int .i64 (rd_T35 L x).f1, .slice B9 (rd_T35 L x).f2.length b9_] O9 ?_; intro w10 o_ k_; obtain ⟨O10, K10⟩ := ok_ K9 o_ k_; clear a0 a4 O9 K9 o_ k_; have a0 := k6_ O10 0; have a4 := k3_ O10 4) | ((with_reducible refine gD 43 rfl ?_); refine wpList_lookup_own_int _ rfl _ _ 95 rfl 3 3 .i64 keyI21 Tryd.underlying95 Tryd.underlying3 (zeroI21 _) gp n D rfl (O10.out.map (i := 3) rfl) (.int .i64 (rd_T35 L x).f0) (.int .i64 (rd_T35 L x).f0) rfl (keyOf_int_mk Tryd.underlying3 HK1.out) ?_; intro c_ hat_ hwc_; obtain rfl : c_ = p := (lit_eq21 hat_ (HJ.out.2.1 _)).trans HPP.out; clear hat_ hwc_) | (at_mapUpdate; refine wpList_mapUpdate_own _ rfl _ _ _ 95 rfl 3 3 keyI21 Tryd.underlying95 _ gp n D rfl (O10.out.map (i := 3) rfl) HNM.out (.int .i64 (rd_T35 L x).f0) (.int .i64 (rd_T35 L x).f1) (.int .i64 (rd_T35 L x).f0) rfl rfl (keyOf_int_mk Tryd.underlying3 HK1.out) (.lit (.int .i64 (rd_T35 L x).f1)) [] (plainElem_int Tryd.underlying3 HK2.out) ?_; intro w11 hown_ hg_; obtain ⟨o_, k_⟩ := O10.out.mapset (i := 3) rfl hown_ hg_; obtain ⟨O11, K11⟩ := ok_ K10 o_ k_; clear a0 a4 O10 K10 o_ k_ hown_ hg_; have a0 := k6_ O11 0; have a4 := k3_ O11 4) | ((with_reducible refine gD 50 rfl ?_); refine wpList_lookup_own_int _ rfl _ _ 95 rfl 3 3 .i64 keyI21 Tryd.underlying95 Tryd.underlying3 (zeroI21 _) gp (n + 1) (D.put (.int .i64 (rd_T35 L x).f0) (.lit (.int .i64 (rd_T35 L x).f1))) rfl (O11.out.map (i := 3) rfl) (.int .i64 (rd_T35 L x).f0) (.int .i64 (rd_T35 L x).f0) rfl (keyOf_int_mk Tryd.underlying3 HK1.out) ?_; intro c_ hat_ hwc_; obtain rfl : c_ = (rd_T35 L x).f1 := lit_eq21 hat_ (atKey_put_same (k := .int .i64 (rd_T35 L x).f0) HJ.out.2.2 trivial _ _); clear hat_ hwc_))
     go_roundw
     case rel => exact ⟨x + 1, n + 1, (D.put (.int .i64 (rd_T35 L x).f0) (.lit (.int .i64 (rd_T35 L x).f1))), by have := HX.out; omega, by have := HX.out; omega, int_eq17 (by unfold wrap64; have := HX.out; have := HFW.out.2; omega), ⟨by have := HJ.out.1; omega, HTS.out⟩, ⟨O11.out.take 4⟩, K11⟩
     case measure => have := HX.out; simp [intOf]; omega
    ·have hxe : x = (L.length : Int) := by omega
     subst hxe
     have hd : decide ((L.length : Int) < (L.length : Int)) = false := decide_eq_false (Int.lt_irrefl _)
     clear hlt hx0 hx1
     have O8 : Aside0 (Own N wr [cells gc #[.int .i64 cf.cl, .int .i64 cf.win, .int .i64 cf.push, .int .i64 cf.pull, .int .i64 cf.mtu, .int .i64 cf.last] 68, ModO gm cf L cls, nrow kR7 tR7 (.slice B1 L.length d1_) L, mp Tryd.prog 3 (plainElem (H := Unit) Tryd.prog 3) gp n D]) := ⟨OA.out⟩
     have K8 : Aside0 (KeepS N w wr) := ⟨KA.out⟩
     have a0 := k6_ O8 0
     clear OA KA
     go_wp2
     clear a0
     go_loopw [55] (fun i wr => PcI N w cf.cl [cells gc #[.int .i64 cf.cl, .int .i64 cf.win, .int .i64 cf.push, .int .i64 cf.pull, .int .i64 cf.mtu, .int .i64 cf.last] 68, ModO gm cf L cls, nrow kR7 tR7 (.slice B1 L.length d1_) L] i wr) (fun i _ => cf.cl.toNat - (intOf i).toNat)
     case atStart => exact ⟨0, by omega, by have := HCF.out.cl; omega, rfl, ⟨O8.out.take 3⟩, K8⟩
     case round =>
      clear O8 K8
      obtain ⟨x, hx0, hx1, rfl, OA, KA⟩ := hrel
      by_cases hlt : x < cf.cl
      ·have hd : decide (x < cf.cl) = true := decide_eq_true hlt
       have HX := Aside0.mk (show 0 ≤ x ∧ x < cf.cl ∧ cf.cl ≤ 4 from ⟨hx0, hlt, HC4.out⟩)
       obtain ⟨q, hq_⟩ : ∃ q, x + 1 = q := ⟨_, rfl⟩
       have hs2 : wrap64 (x + 1) = q := by rw [← hq_]; have := HX.out; unfold wrap64; omega
       have HQ := Aside0.mk hq_
       have HW2 := Aside0.mk hs2
       obtain ⟨y, hy_⟩ := clAt_in (cls := cls) (n := q) (by have := HI.out.n; have := HX.out; omega)
       have HY := Aside0.mk hy_
       have HOK := Aside0.mk (HI.out.c _ _ hy_)
       obtain ⟨p, hp_⟩ : ∃ p : Nat, y.J.length - ownN q L y = p := ⟨_, rfl⟩
       have HPD := Aside0.mk hp_
       obtain ⟨K, hK_⟩ : ∃ K, L.take y.k = K := ⟨_, rfl⟩
       have HKE := Aside0.mk hK_
       have hkl : K.length = y.k := known_len hK_ HOK.out.k
       have HLV : Aside0 (lookV q L y = .agg #[.int .i64 y.e, .int .i64 K.length, .int .i64 p, .int .i64 y.U.length, .int .i64 y.c, .int .i64 0]) := ⟨by unfold lookV; rw [hp_, hkl]⟩
       obtain ⟨hs3, d6, d7, d8, d9, hk1, hk2⟩ := pfx_facts (K := K.length) (c := y.c) (by rw [hkl]; exact HOK.out.k) HFW.out.2 HD1.out HOK.out.c
       have hne : ((K.length : Int) != (K.length : Int)) = false := by simp
       clear hq_ hy_ hp_ hK_ hkl hx0 hx1 hlt
       have O9 : Aside0 (Own N wr [cells gc #[.int .i64 cf.cl, .int .i64 cf.win, .int .i64 cf.push, .int .i64 cf.pull, .int .i64 cf.mtu, .int .i64 cf.last] 68, ModO gm cf L cls, nrow kR7 tR7 (.slice B1 L.length d1_) L]) := ⟨OA.out⟩
       have K9 : Aside0 (KeepS N w wr) := ⟨KA.out⟩
       have a0 := k6_ O9 0
       clear OA KA
       go_wp2_with (first | ((with_reducible refine gC 41 rfl ?_); refine gP (some 61) Tryd.func41 #[pt gm, .int .i64 (wrap64 (x + 1))] ?_; rw [HW2.out]; obtain ⟨N_, on_, nn_, rr_, bb_⟩ := O9.out.frameL [1] (by decide) (by simp); refine (MKnown_e q K HKE.out on_ HI.out HCF.out HX4.out HY.out).mono ?_; rintro e_ w10 ⟨B2, d2_, rfl, oo_, kk_⟩; obtain ⟨o_, k_⟩ := bb_ _ [ModO gm cf L cls] [nrow kR7 tR7 (.slice B2 K.length d2_) K] rfl kk_ oo_; refine ⟨_, rfl, ?_⟩; obtain ⟨O10, K10⟩ := ok_ K9 o_ k_; clear a0 O9 K9 o_ k_ oo_ kk_ on_ nn_ rr_ bb_; have a0 := k6_ O10 0) | ((with_reducible refine gC 40 rfl ?_); refine gP (some 65) Tryd.func40 #[pt gm, .int .i64 (wrap64 (x + 1))] ?_; rw [HW2.out]; obtain ⟨N_, on_, nn_, rr_, bb_⟩ := O10.out.frameL [1] (by decide) (by simp); refine (MLook_v (.agg #[.int .i64 y.e, .int .i64 K.length, .int .i64 p, .int .i64 y.U.length, .int .i64 y.c, .int .i64 0]) q HLV.out on_ HI.out HCF.out HX4.out HY.out).mono ?_; rintro e_ w11 ⟨rfl, oo_, kk_⟩; obtain ⟨o_, k_⟩ := bb_ _ [ModO gm cf L cls] [] rfl kk_ oo_; refine ⟨_, rfl, ?_⟩; obtain ⟨O11, K11⟩ := ok_ K10 o_ k_; clear a0 O10 K10 o_ k_ oo_ kk_ on_ nn_ rr_ bb_; have a0 := k6_ O11 0) | ((with_reducible refine gD 12 rfl ?_); refine bP 12 #[.int .i64 0, .int .i64 0, .int .i64 0, .int .i64 0, .int .i64 0, .int .i64 0] 75 O11.out ?_; intro gl w12 o_ k_; obtain ⟨O12, K12⟩ := ok_ K11 o_ k_; clear a0 O11 K11 o_ k_; have a0 := k6_ O12 0; have a4 := k6_ O12 4) | ((with_reducible refine gT 75 12 rfl ?_); refine wS 4 0 [.int .i64 y.e, .int .i64 K.length, .int .i64 p, .int .i64 y.U.length, .int .i64 y.c, .int .i64 0] O12 ?_; intro w13 o_ k_; obtain ⟨O13, K13⟩ := ok_ K12 o_ k_; clear a0 a4 O12 K12 o_ k_; have a0 := k6_ O13 0; have a4 := k6_ O13 4) | ((with_reducible refine gC 19 rfl ?_); refine gate_guard (by rfl) ?_; refine gP (some 94) Tryd.func19 #[.slice B2 K.length d2_, .slice B1 K.length d1_] ?_; refine (same_t HKE.out O13.out (i := 3) (j := 2) rfl rfl HFW.out.1 HFW.out.2).mono ?_; rintro e_ w14 ⟨rfl, hb_⟩; refine ⟨_, rfl, ?_⟩; obtain ⟨O14, K14⟩ := ob_ K13 O13 hb_; clear a0 a4 O13 K13 hb_; have a0 := k6_ O14 0; have a4 := k6_ O14 4))
       go_roundw
       case rel => exact ⟨x + 1, by have := HX.out; omega, by have := HX.out; omega, int_eq17 (by unfold wrap64; have := HX.out; omega), ⟨O14.out.take 3⟩, K14⟩
       case measure => have := HX.out; have := HQ.out; simp [intOf]; omega
      ·have hd : decide (x < cf.cl) = false := decide_eq_false hlt
       clear hlt hx0 hx1
       go_wp2
       go_ret
       exact ⟨rfl, KA.out.below (Nat.le_refl _) (fun k hk => by rw [HN.out]; exact hk)⟩
theorem chapbooklaw21_ModelPrefix.calls (a0_0 : Int) (a0_1 : Int) (a0_2 : Int) (a0_3 : Int) (a0_4 : Int) (a0_5 : Int) (A1 : Option Addr) (c1 : Nat) (l1 : List S88) (r : Bool) (w : World) (HT : Aside0 (Tab w)) (hr1 : Kd.C k88 w A1 l1.length l1) (hc1 : l1.length ≤ c1) (h : chapbooklaw21_ModelPrefix.f a0_0 a0_1 a0_2 a0_3 a0_4 a0_5 l1 = some r) :
  Calls Tryd.prog 12 #[.agg #[.int .i64 a0_0, .int .i64 a0_1, .int .i64 a0_2, .int .i64 a0_3, .int .i64 a0_4, .int .i64 a0_5], .slice A1 l1.length c1] w fun e_ w' => e_ = .returned (.bool r) ∧ Below w.heap.size w w' := by
 obtain rfl : true = r := Option.some.inj h
 exact ModelPrefix_core ⟨a0_0, a0_1, a0_2, a0_3, a0_4, a0_5⟩ A1 c1 l1 w HT hr1 hc1
end Go.Proofs.YtjdenpmaianmfaaDoor.J
