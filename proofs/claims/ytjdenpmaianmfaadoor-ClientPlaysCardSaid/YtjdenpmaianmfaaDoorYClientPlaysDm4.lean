/- What the document's Client does: Take, Push. -/
import Derived.Test.YtjdenpmaianmfaaDoorYClientPlaysSq
import Derived.Test.YtjdenpmaianmfaaDoorYClientPlaysCl2
import Derived.Test.YtjdenpmaianmfaaDoorProg
import Derived.Test.YtjdenpmaianmfaaDoorYClientPlaysSepL
import Derived.Test.YtjdenpmaianmfaaDoorYClientPlaysDm2
namespace Go.Proofs.YtjdenpmaianmfaaDoor.J
set_option maxHeartbeats 16000000
set_option maxRecDepth 100000
set_option linter.unusedSimpArgs false
set_option linter.unusedVariables false
open Go Go.RowKit Go.Proofs.YtjdenpmaianmfaaDoorW.PrintWords Go.Proofs.YtjdenpmaianmfaaDoorW.PrintLast Go.Proofs.YtjdenpmaianmfaaDoorW.PrintMore Go.Proofs.YtjdenpmaianmfaaDoor.Q Go.Proofs.YtjdenpmaianmfaaDoor.Sep
theorem cut1 (A : Option Addr) (n c : Nat) (h : 1 ≤ n) : ∀ W : World, (Instr.slice 40 (.slice A n c) (some (.int .i64 1)) none none).run Tryd.prog W = .ok (.slice (if c = 1 then A else A.map (·.add (1 * 3))) (n - 1) (c - 1)) W := by
 obtain ⟨i0, hi0, hz⟩ := Option.map_eq_some_iff.1 infoR
 have hsz : i0.size = 3 := by
  simp only [Prod.mk.injEq] at hz
  exact hz.2.1
 exact cut_from 40 35 .i64 Tryd.underlying40 hi0 3 hsz A n c 1 (by decide) (by omega)
theorem headN {w : World} {ad : Addr} {P : List Rnd7} (h : Kd.C k35 w (some ad) P.length P) (hp : P.length ≠ 0) : w.cell? ⟨ad.block, ad.off + 1, none⟩ = some (.int .i64 (rd_T35 P 0).f1) := by
 obtain ⟨ad', A2, c2, e, y0, y1, y2⟩ := at_T35 h 0 (by decide) (by omega)
 cases e
 have e0 : (ad.add ((0 : Int).toNat * 3)) = ad := by
  show ad.add 0 = ad
  simp [Addr.add]
 rw [e0] at y1
 exact y1
theorem CTake_none {N : Nat → Prop} {w : World} {g : Nat} {jp : Value} {o mtu push : Int} {K P : List Rnd7} {U : List Upd7} (r0 r1 : Int) (B : Option Addr) (cb : Nat) (us : List Upd7) (h : Own N w [CliO g jp o mtu push K P U]) (hr : Kd.F k32 w N B us.length us) (hc : us.length ≤ cb) (hu : us.length ≤ 1000000) (hL : K.length ≤ 1000000) (ho : r0 = o) (hp : P.length = 0) :
  Calls Tryd.prog 32 #[.pointer (some ⟨g, 0, none⟩), .agg #[.int .i64 r0, .int .i64 r1, .slice B us.length cb]] w fun e_ w' => e_ = .returned (.int .i64 10) ∧ Own N w' [CliO g jp o mtu push K P U] ∧ KeepS N w w' := by
 have d1 : (r0 == o) = true := beq_iff_eq.mpr ho
 have d2 : ((P.length : Int) == 0) = true := by simp [hp]
 have HR_0 : Aside0 (Kd.F k32 w N B us.length us) := ⟨hr⟩
 have HC := Aside0.mk hc
 have HU := Aside0.mk hu
 have HL := Aside0.mk hL
 obtain ⟨A4, c4, A5, c5, A6, c6, hcap, h2⟩ := CliO.open_ h
 have HCAP := Aside0.mk hcap
 have O0 : Aside0 (Own N w [cells g #[jp, .int .i64 o, .int .i64 mtu, .int .i64 push, .slice A4 K.length c4, .slice A5 P.length c5, .slice A6 U.length c6] 111, nrow k32 32 (.slice A6 U.length c6) U, qrow k35 35 (.slice A5 P.length c5) P, qrow k35 35 (.slice A4 K.length c4) K]) := ⟨h2⟩
 have K0 : Aside0 (KeepS N w w) := ⟨KeepS.refl _ _⟩
 have a0 := k7_ O0 0
 clear h2 h hr hc hu hL hcap ho hp
 go_enter Tryd.func32, Tryd.ntmps32
 go_wp2_with (first | ((with_reducible refine gD 3 rfl ?_); refine bP 3 #[.int .i64 r0, .int .i64 r1, .slice B us.length cb] 35 O0.out ?_; intro gr w1 o_ k_; obtain ⟨O1, K1⟩ := ok_ K0 o_ k_; have HR_1 := Aside0.mk (keepF HR_0.out k_); clear a0 O0 K0 HR_0 o_ k_; have a0 := k7_ O1 0; have a4 := k3_ O1 4))
 refine sP (n := 7) (S := fun w' => w'.cell? ⟨g, 0, none⟩ = some (jp) ∧ w'.cell? ⟨g, 1, none⟩ = some (.int .i64 o) ∧ w'.cell? ⟨g, 2, none⟩ = some (.int .i64 mtu) ∧ w'.cell? ⟨g, 3, none⟩ = some (.int .i64 push) ∧ w'.cell? ⟨g, 4, none⟩ = some (.slice A4 K.length c4) ∧ w'.cell? ⟨g, 5, none⟩ = some (.slice A5 P.length c5) ∧ w'.cell? ⟨g, 6, none⟩ = some (.slice A6 U.length c6) ∧ w'.cell? ⟨gr, 0, none⟩ = some (.int .i64 r0) ∧ w'.cell? ⟨gr, 1, none⟩ = some (.int .i64 r1) ∧ w'.cell? ⟨gr, 2, none⟩ = some (.slice B us.length cb)) (ds := []) (j7_ a0 (p3_ a4)) (fun hHeld => ?_)
 obtain ⟨w2, hw_⟩ : ∃ W, W = w1.drew := ⟨_, rfl⟩
 have o_ := O1.out.drew
 have k_ : KeepS N w1 w1.drew := KeepS.drew
 rw [← hw_] at o_ k_ hHeld ⊢
 clear hw_
 obtain ⟨O2, K2⟩ := ok_ K1 o_ k_
 have HR_2 := Aside0.mk (keepF HR_1.out k_)
 clear a0 a4 O1 K1 HR_1 o_ k_
 have a0 := k7_ O2 0
 have a4 := k3_ O2 4
 refine pP 0 (some 5) ?_
 refine pP 2 (some 7) ?_
 refine pP 3 (some 8) ?_
 refine pP 4 (some 9) ?_
 refine tP 1 (some 6) hHeld ?_
 refine tP 5 (some 10) hHeld ?_
 refine pP 6 (some 11) ?_
 refine done_ (by kernel_rfl) ?_
 clear hHeld
 go_wp2
 refine sP (n := 18) (S := fun w' => w'.cell? ⟨g, 0, none⟩ = some (jp) ∧ w'.cell? ⟨g, 1, none⟩ = some (.int .i64 o) ∧ w'.cell? ⟨g, 2, none⟩ = some (.int .i64 mtu) ∧ w'.cell? ⟨g, 3, none⟩ = some (.int .i64 push) ∧ w'.cell? ⟨g, 4, none⟩ = some (.slice A4 K.length c4) ∧ w'.cell? ⟨g, 5, none⟩ = some (.slice A5 P.length c5) ∧ w'.cell? ⟨g, 6, none⟩ = some (.slice A6 U.length c6) ∧ w'.cell? ⟨gr, 0, none⟩ = some (.int .i64 r0) ∧ w'.cell? ⟨gr, 1, none⟩ = some (.int .i64 r1) ∧ w'.cell? ⟨gr, 2, none⟩ = some (.slice B us.length cb)) (ds := []) (j7_ a0 (p3_ a4)) (fun hHeld => ?_)
 obtain ⟨w3, hw_⟩ : ∃ W, W = w2.drew := ⟨_, rfl⟩
 have o_ := O2.out.drew
 have k_ : KeepS N w2 w2.drew := KeepS.drew
 rw [← hw_] at o_ k_ hHeld ⊢
 clear hw_
 obtain ⟨O3, K3⟩ := ok_ K2 o_ k_
 have HR_3 := Aside0.mk (keepF HR_2.out k_)
 clear a0 a4 O2 K2 HR_2 o_ k_
 have a0 := k7_ O3 0
 have a4 := k3_ O3 4
 refine pP 0 (some 12) ?_
 refine pP 1 (some 13) ?_
 refine pP 2 (some 14) ?_
 refine tP 3 (some 15) hHeld ?_
 refine pP 4 (some 16) ?_
 refine pP 5 (some 17) ?_
 refine pP 6 (some 18) ?_
 refine pS 7 (some 19) ?_
 refine pS 8 (some 20) ?_
 refine pS 9 (some 21) ?_
 refine pS 14 (some 26) ?_
 refine tS 10 (some 22) hHeld ?_
 refine pS 11 (some 23) ?_
 refine pS 12 (some 24) ?_
 refine tS 13 (some 25) hHeld ?_
 refine tS 15 (some 27) hHeld ?_
 refine pS 16 (some 28) ?_
 refine pP 17 (some 29) ?_
 refine done_ (by kernel_rfl) ?_
 clear hHeld
 go_wp2
 go_ret
 exact ⟨rfl, (CliO.shut (O3.out.pickL [0, 3, 2, 1] (by decide) (by simp))).take 1, K3.out⟩
theorem CTake_wrong {N : Nat → Prop} {w : World} {g : Nat} {jp : Value} {o mtu push : Int} {K P : List Rnd7} {U : List Upd7} (r0 r1 : Int) (B : Option Addr) (cb : Nat) (us : List Upd7) (h : Own N w [CliO g jp o mtu push K P U]) (hr : Kd.F k32 w N B us.length us) (hc : us.length ≤ cb) (hu : us.length ≤ 1000000) (hL : K.length ≤ 1000000) (ho : r0 = o) (hp : P.length ≠ 0) (hn : (rd_T35 P 0).f1 ≠ r1) :
  Calls Tryd.prog 32 #[.pointer (some ⟨g, 0, none⟩), .agg #[.int .i64 r0, .int .i64 r1, .slice B us.length cb]] w fun e_ w' => e_ = .returned (.int .i64 10) ∧ Own N w' [CliO g jp o mtu push K P U] ∧ KeepS N w w' := by
 have d1 : (r0 == o) = true := beq_iff_eq.mpr ho
 have d2 : ((P.length : Int) == 0) = false := beq_eq_false_iff_ne.mpr (by omega)
 have d3 : ((rd_T35 P 0).f1 != r1) = true := bne_iff_ne.mpr hn
 have HR_0 : Aside0 (Kd.F k32 w N B us.length us) := ⟨hr⟩
 have HC := Aside0.mk hc
 have HU := Aside0.mk hu
 have HL := Aside0.mk hL
 obtain ⟨A4, c4, A5, c5, A6, c6, hcap, h2⟩ := CliO.open_ h
 have HCAP := Aside0.mk hcap
 have hq_ := (h2.qreads (i := 2) rfl).2.2
 obtain ⟨ad, Ah, ch, e5, y0, y1, y2⟩ := at_T35 hq_ 0 (by decide) (by omega)
 cases e5
 clear hq_ y0 y1 y2
 have hq1 : ((0 : Int) < (P.length : Int)) = True := eq_true (by omega)
 have hq2 : (0 < P.length) = True := eq_true (by omega)
 have O0 : Aside0 (Own N w [cells g #[jp, .int .i64 o, .int .i64 mtu, .int .i64 push, .slice A4 K.length c4, .slice (some ad) P.length c5, .slice A6 U.length c6] 111, nrow k32 32 (.slice A6 U.length c6) U, qrow k35 35 (.slice (some ad) P.length c5) P, qrow k35 35 (.slice A4 K.length c4) K]) := ⟨h2⟩
 have K0 : Aside0 (KeepS N w w) := ⟨KeepS.refl _ _⟩
 have a0 := k7_ O0 0
 clear h2 h hr hc hu hL hcap ho
 have HPN := Aside0.mk hp
 clear hp hn
 go_enter Tryd.func32, Tryd.ntmps32
 go_wp2_with (first | ((with_reducible refine gD 3 rfl ?_); refine bP 3 #[.int .i64 r0, .int .i64 r1, .slice B us.length cb] 35 O0.out ?_; intro gr w1 o_ k_; obtain ⟨O1, K1⟩ := ok_ K0 o_ k_; have HR_1 := Aside0.mk (keepF HR_0.out k_); clear a0 O0 K0 HR_0 o_ k_; have a0 := k7_ O1 0; have a4 := k3_ O1 4))
 refine sP (n := 7) (S := fun w' => w'.cell? ⟨g, 0, none⟩ = some (jp) ∧ w'.cell? ⟨g, 1, none⟩ = some (.int .i64 o) ∧ w'.cell? ⟨g, 2, none⟩ = some (.int .i64 mtu) ∧ w'.cell? ⟨g, 3, none⟩ = some (.int .i64 push) ∧ w'.cell? ⟨g, 4, none⟩ = some (.slice A4 K.length c4) ∧ w'.cell? ⟨g, 5, none⟩ = some (.slice (some ad) P.length c5) ∧ w'.cell? ⟨g, 6, none⟩ = some (.slice A6 U.length c6) ∧ w'.cell? ⟨gr, 0, none⟩ = some (.int .i64 r0) ∧ w'.cell? ⟨gr, 1, none⟩ = some (.int .i64 r1) ∧ w'.cell? ⟨gr, 2, none⟩ = some (.slice B us.length cb)) (ds := []) (j7_ a0 (p3_ a4)) (fun hHeld => ?_)
 obtain ⟨w2, hw_⟩ : ∃ W, W = w1.drew := ⟨_, rfl⟩
 have o_ := O1.out.drew
 have k_ : KeepS N w1 w1.drew := KeepS.drew
 rw [← hw_] at o_ k_ hHeld ⊢
 clear hw_
 obtain ⟨O2, K2⟩ := ok_ K1 o_ k_
 have HR_2 := Aside0.mk (keepF HR_1.out k_)
 clear a0 a4 O1 K1 HR_1 o_ k_
 have a0 := k7_ O2 0
 have a4 := k3_ O2 4
 refine pP 0 (some 5) ?_
 refine pP 2 (some 7) ?_
 refine pP 3 (some 8) ?_
 refine pP 4 (some 9) ?_
 refine tP 1 (some 6) hHeld ?_
 refine tP 5 (some 10) hHeld ?_
 refine pP 6 (some 11) ?_
 refine done_ (by kernel_rfl) ?_
 clear hHeld
 go_wp2
 refine sP (n := 18) (S := fun w' => w'.cell? ⟨g, 0, none⟩ = some (jp) ∧ w'.cell? ⟨g, 1, none⟩ = some (.int .i64 o) ∧ w'.cell? ⟨g, 2, none⟩ = some (.int .i64 mtu) ∧ w'.cell? ⟨g, 3, none⟩ = some (.int .i64 push) ∧ w'.cell? ⟨g, 4, none⟩ = some (.slice A4 K.length c4) ∧ w'.cell? ⟨g, 5, none⟩ = some (.slice (some ad) P.length c5) ∧ w'.cell? ⟨g, 6, none⟩ = some (.slice A6 U.length c6) ∧ w'.cell? ⟨gr, 0, none⟩ = some (.int .i64 r0) ∧ w'.cell? ⟨gr, 1, none⟩ = some (.int .i64 r1) ∧ w'.cell? ⟨gr, 2, none⟩ = some (.slice B us.length cb) ∧ w'.cell? ⟨ad.block, ad.off + 1, none⟩ = some (.int .i64 (rd_T35 P 0).f1)) (ds := []) ⟨a0.1, a0.2.1, a0.2.2.1, a0.2.2.2.1, a0.2.2.2.2.1, a0.2.2.2.2.2.1, a0.2.2.2.2.2.2.1, a4.1, a4.2.1, a4.2.2.1, (headN (O2.out.drew.qreads (i := 2) rfl).2.2 HPN.out)⟩ (fun hHeld => ?_)
 obtain ⟨w3, hw_⟩ : ∃ W, W = w2.drew := ⟨_, rfl⟩
 have o_ := O2.out.drew
 have k_ : KeepS N w2 w2.drew := KeepS.drew
 rw [← hw_] at o_ k_ hHeld ⊢
 clear hw_
 obtain ⟨O3, K3⟩ := ok_ K2 o_ k_
 have HR_3 := Aside0.mk (keepF HR_2.out k_)
 clear a0 a4 O2 K2 HR_2 o_ k_
 have a0 := k7_ O3 0
 have a4 := k3_ O3 4
 refine pP 0 (some 12) ?_
 refine pP 1 (some 13) ?_
 refine pP 2 (some 14) ?_
 refine tP 3 (some 15) hHeld ?_
 refine pP 4 (some 16) ?_
 refine pP 5 (some 17) ?_
 refine pP 6 (some 18) ?_
 refine pP 7 (some 19) ?_
 refine pP 8 (some 20) ?_
 refine pP 9 (some 21) ?_
 refine pP 14 (some 26) ?_
 refine tP 10 (some 22) hHeld ?_
 refine pP 11 (some 23) ?_
 refine pP 12 (some 24) ?_
 refine tP 13 (some 25) hHeld ?_
 refine tP 15 (some 27) hHeld ?_
 refine pP 16 (some 28) ?_
 refine pP 17 (some 29) ?_
 refine done_ (by kernel_rfl) ?_
 clear hHeld
 go_wp2
 go_ret
 exact ⟨rfl, (CliO.shut (O3.out.pickL [0, 3, 2, 1] (by decide) (by simp))).take 1, K3.out⟩
theorem CTake_own {N : Nat → Prop} {w : World} {g : Nat} {jp : Value} {o mtu push : Int} {K P : List Rnd7} {U : List Upd7} (r0 r1 : Int) (B : Option Addr) (cb : Nat) (us : List Upd7) (h : Own N w [CliO g jp o mtu push K P U]) (hr : Kd.F k32 w N B us.length us) (hc : us.length ≤ cb) (hu : us.length ≤ 1000000) (hL : K.length ≤ 1000000) (ho : r0 = o) (hp : P.length ≠ 0) (hn : (rd_T35 P 0).f1 = r1) :
  Calls Tryd.prog 32 #[.pointer (some ⟨g, 0, none⟩), .agg #[.int .i64 r0, .int .i64 r1, .slice B us.length cb]] w fun e_ w' => e_ = .returned (.int .i64 0) ∧ Own N w' [CliO g jp o mtu push (K ++ [(⟨r0, r1, us⟩ : Rnd7)]) (P.drop 1) U] ∧ KeepS N w w' := by
 have d1 : (r0 == o) = true := beq_iff_eq.mpr ho
 have d2 : ((P.length : Int) == 0) = false := beq_eq_false_iff_ne.mpr (by omega)
 have d3 : ((rd_T35 P 0).f1 != r1) = false := by simp [hn]
 have HR_0 : Aside0 (Kd.F k32 w N B us.length us) := ⟨hr⟩
 have HC := Aside0.mk hc
 have HU := Aside0.mk hu
 have HL := Aside0.mk hL
 obtain ⟨A4, c4, A5, c5, A6, c6, hcap, h2⟩ := CliO.open_ h
 have HCAP := Aside0.mk hcap
 have hq_ := (h2.qreads (i := 2) rfl).2.2
 obtain ⟨ad, Ah, ch, e5, y0, y1, y2⟩ := at_T35 hq_ 0 (by decide) (by omega)
 cases e5
 clear hq_ y0 y1 y2
 have hq1 : ((0 : Int) < (P.length : Int)) = True := eq_true (by omega)
 have hq2 : (0 < P.length) = True := eq_true (by omega)
 have O0 : Aside0 (Own N w [cells g #[jp, .int .i64 o, .int .i64 mtu, .int .i64 push, .slice A4 K.length c4, .slice (some ad) P.length c5, .slice A6 U.length c6] 111, nrow k32 32 (.slice A6 U.length c6) U, qrow k35 35 (.slice (some ad) P.length c5) P, qrow k35 35 (.slice A4 K.length c4) K]) := ⟨h2⟩
 have K0 : Aside0 (KeepS N w w) := ⟨KeepS.refl _ _⟩
 have a0 := k7_ O0 0
 clear h2 h hr hc hu hL hcap ho
 have HPN := Aside0.mk hp
 clear hp hn
 go_enter Tryd.func32, Tryd.ntmps32
 go_wp2_with (first | ((with_reducible refine gD 3 rfl ?_); refine bP 3 #[.int .i64 r0, .int .i64 r1, .slice B us.length cb] 35 O0.out ?_; intro gr w1 o_ k_; obtain ⟨O1, K1⟩ := ok_ K0 o_ k_; have HR_1 := Aside0.mk (keepF HR_0.out k_); clear a0 O0 K0 HR_0 o_ k_; have a0 := k7_ O1 0; have a4 := k3_ O1 4))
 refine sP (n := 7) (S := fun w' => w'.cell? ⟨g, 0, none⟩ = some (jp) ∧ w'.cell? ⟨g, 1, none⟩ = some (.int .i64 o) ∧ w'.cell? ⟨g, 2, none⟩ = some (.int .i64 mtu) ∧ w'.cell? ⟨g, 3, none⟩ = some (.int .i64 push) ∧ w'.cell? ⟨g, 4, none⟩ = some (.slice A4 K.length c4) ∧ w'.cell? ⟨g, 5, none⟩ = some (.slice (some ad) P.length c5) ∧ w'.cell? ⟨g, 6, none⟩ = some (.slice A6 U.length c6) ∧ w'.cell? ⟨gr, 0, none⟩ = some (.int .i64 r0) ∧ w'.cell? ⟨gr, 1, none⟩ = some (.int .i64 r1) ∧ w'.cell? ⟨gr, 2, none⟩ = some (.slice B us.length cb)) (ds := []) (j7_ a0 (p3_ a4)) (fun hHeld => ?_)
 obtain ⟨w2, hw_⟩ : ∃ W, W = w1.drew := ⟨_, rfl⟩
 have o_ := O1.out.drew
 have k_ : KeepS N w1 w1.drew := KeepS.drew
 rw [← hw_] at o_ k_ hHeld ⊢
 clear hw_
 obtain ⟨O2, K2⟩ := ok_ K1 o_ k_
 have HR_2 := Aside0.mk (keepF HR_1.out k_)
 clear a0 a4 O1 K1 HR_1 o_ k_
 have a0 := k7_ O2 0
 have a4 := k3_ O2 4
 refine pP 0 (some 5) ?_
 refine pP 2 (some 7) ?_
 refine pP 3 (some 8) ?_
 refine pP 4 (some 9) ?_
 refine tP 1 (some 6) hHeld ?_
 refine tP 5 (some 10) hHeld ?_
 refine pP 6 (some 11) ?_
 refine done_ (by kernel_rfl) ?_
 clear hHeld
 go_wp2
 refine sP (n := 18) (S := fun w' => w'.cell? ⟨g, 0, none⟩ = some (jp) ∧ w'.cell? ⟨g, 1, none⟩ = some (.int .i64 o) ∧ w'.cell? ⟨g, 2, none⟩ = some (.int .i64 mtu) ∧ w'.cell? ⟨g, 3, none⟩ = some (.int .i64 push) ∧ w'.cell? ⟨g, 4, none⟩ = some (.slice A4 K.length c4) ∧ w'.cell? ⟨g, 5, none⟩ = some (.slice (some ad) P.length c5) ∧ w'.cell? ⟨g, 6, none⟩ = some (.slice A6 U.length c6) ∧ w'.cell? ⟨gr, 0, none⟩ = some (.int .i64 r0) ∧ w'.cell? ⟨gr, 1, none⟩ = some (.int .i64 r1) ∧ w'.cell? ⟨gr, 2, none⟩ = some (.slice B us.length cb) ∧ w'.cell? ⟨ad.block, ad.off + 1, none⟩ = some (.int .i64 (rd_T35 P 0).f1)) (ds := []) ⟨a0.1, a0.2.1, a0.2.2.1, a0.2.2.2.1, a0.2.2.2.2.1, a0.2.2.2.2.2.1, a0.2.2.2.2.2.2.1, a4.1, a4.2.1, a4.2.2.1, (headN (O2.out.drew.qreads (i := 2) rfl).2.2 HPN.out)⟩ (fun hHeld => ?_)
 obtain ⟨w3, hw_⟩ : ∃ W, W = w2.drew := ⟨_, rfl⟩
 have o_ := O2.out.drew
 have k_ : KeepS N w2 w2.drew := KeepS.drew
 rw [← hw_] at o_ k_ hHeld ⊢
 clear hw_
 obtain ⟨O3, K3⟩ := ok_ K2 o_ k_
 have HR_3 := Aside0.mk (keepF HR_2.out k_)
 clear a0 a4 O2 K2 HR_2 o_ k_
 have a0 := k7_ O3 0
 have a4 := k3_ O3 4
 refine pP 0 (some 12) ?_
 refine pP 1 (some 13) ?_
 refine pP 2 (some 14) ?_
 refine tP 3 (some 15) hHeld ?_
 refine pP 4 (some 16) ?_
 refine pP 5 (some 17) ?_
 refine pP 6 (some 18) ?_
 refine pP 7 (some 19) ?_
 refine pP 8 (some 20) ?_
 refine pP 9 (some 21) ?_
 refine pP 14 (some 26) ?_
 refine tP 10 (some 22) hHeld ?_
 refine pP 11 (some 23) ?_
 refine pP 12 (some 24) ?_
 refine tP 13 (some 25) hHeld ?_
 refine tP 15 (some 27) hHeld ?_
 refine pP 16 (some 28) ?_
 refine pP 17 (some 29) ?_
 refine done_ (by kernel_rfl) ?_
 clear hHeld
 obtain ⟨A9, hA9⟩ : ∃ A9, A9 = (if c5 = 1 then (some ad : Option Addr) else (some ad : Option Addr).map (·.add (1 * 3))) := ⟨_, rfl⟩
 have HCUT : ∀ W_ : World, (Instr.slice 40 (.slice (some ad) P.length c5) (some (.int .i64 1)) none none).run Tryd.prog W_ = .ok (.slice A9 (P.length - 1) (c5 - 1)) W_ := by rw [hA9]; exact cut1 _ _ _ (by have := HPN.out; omega)
 have o9_ := O3.out.qdrop (i := 2) rfl 1 (by have := HPN.out; omega)
 rw [show k35.sz = 3 from rfl, ← hA9] at o9_
 have O4 : Aside0 (Own N w3 [cells g #[jp, .int .i64 o, .int .i64 mtu, .int .i64 push, .slice A4 K.length c4, .slice (some ad) P.length c5, .slice A6 U.length c6] 111, nrow k32 32 (.slice A6 U.length c6) U, qrow k35 35 (.slice A9 (P.length - 1) (c5 - 1)) (P.drop 1), qrow k35 35 (.slice A4 K.length c4) K, cells gr #[.int .i64 r0, .int .i64 r1, .slice B us.length cb] 35]) := ⟨o9_⟩
 clear o9_ hA9 O3
 go_wp2_with (first | ((with_reducible refine gT 40 37 rfl ?_); refine wS 0 5 [.slice A9 (P.length - 1) (c5 - 1)] O4 ?_; intro w5 o_ k_; obtain ⟨O5, K5⟩ := ok_ K3 o_ k_; have HR_5 := Aside0.mk (keepF HR_3.out k_); clear a0 a4 O4 K3 HR_3 o_ k_; have a0 := k7_ O5 0; have a4 := k3_ O5 4))
 refine sP (n := 12) (S := fun w' => w'.cell? ⟨g, 0, none⟩ = some (jp) ∧ w'.cell? ⟨g, 1, none⟩ = some (.int .i64 o) ∧ w'.cell? ⟨g, 2, none⟩ = some (.int .i64 mtu) ∧ w'.cell? ⟨g, 3, none⟩ = some (.int .i64 push) ∧ w'.cell? ⟨g, 4, none⟩ = some (.slice A4 K.length c4) ∧ w'.cell? ⟨g, 5, none⟩ = some (.slice A9 (P.length - 1) (c5 - 1)) ∧ w'.cell? ⟨g, 6, none⟩ = some (.slice A6 U.length c6) ∧ w'.cell? ⟨gr, 0, none⟩ = some (.int .i64 r0) ∧ w'.cell? ⟨gr, 1, none⟩ = some (.int .i64 r1) ∧ w'.cell? ⟨gr, 2, none⟩ = some (.slice B us.length cb)) (ds := [8, 11]) (j7_ a0 (p3_ a4)) (fun hHeld => ?_)
 obtain ⟨w6, hw_⟩ : ∃ W, W = w5.drew := ⟨_, rfl⟩
 have o_ := O5.out.drew
 have k_ : KeepS N w5 w5.drew := KeepS.drew
 rw [← hw_] at o_ k_ hHeld ⊢
 clear hw_
 obtain ⟨O6, K6⟩ := ok_ K5 o_ k_
 have HR_6 := Aside0.mk (keepF HR_5.out k_)
 clear a0 a4 O5 K5 HR_5 o_ k_
 have a0 := k7_ O6 0
 have a4 := k3_ O6 4
 refine pP 0 (some 38) ?_
 refine pP 1 (some 39) ?_
 refine pP 2 (some 40) ?_
 refine pP 3 (some 41) ?_
 refine tP 4 (some 42) hHeld ?_
 refine tP 5 (some 43) hHeld ?_
 refine oP 6 (some 44) (fun K_ hK_ => ?_)
 refine hP Tryd.func72 #[.agg #[.int .i64 r0, .int .i64 r1, .slice B us.length cb]] ?_
 refine (round_Copy.calls r0 r1 _ _ us r0 r1 us _ (Kd.F_now HR_6.out) HC.out (copyC _ _ _ HU.out)).mono ?_
 rintro e_ w7 ⟨v_, rfl, hR_, hb_⟩
 obtain ⟨A1, c1, e__⟩ := Kd.R_slice hR_
 subst e__
 refine ⟨_, rfl, ?_⟩
 have o_ := O6.out.pushW hb_ (Nat.le_refl _) hR_
 have k_ := KeepS.of_below (N := N) hb_
 have o2_ := rowElem (⟨r0, r1, us⟩ : Rnd7) (i := 5) o_ rfl
 obtain ⟨O7, K7⟩ := ok_ K6 o2_ k_
 have HR_7 := Aside0.mk (keepF HR_6.out k_)
 clear a0 a4 O6 K6 HR_6 o_ k_ hb_ hR_ o2_
 have a0 := k7_ O7 0
 have a4 := k3_ O7 4
 clear hHeld
 refine hK_.out _ _ (j7_ a0 (p3_ a4)) (fun hHeld => ?_)
 clear hK_ K_
 refine nP ?_
 refine oP 7 (some 45) (fun K_ hK_ => ?_)
 refine value_ rfl rfl (w1 := (World.alloc w7 (.cells [.int .i64 ((⟨r0, r1, us⟩ : Rnd7)).f0, .int .i64 ((⟨r0, r1, us⟩ : Rnd7)).f1, .slice A1 us.length c1].toArray 35))) (v := .slice (some ⟨w7.heap.size, 0, none⟩) 1 1) gs_ ?_
 clear hHeld
 refine hK_.out _ _ ⟨(pw_cell_below ((Below.refl _ _).alloc (Nat.le_refl _) _) a0.1), (pw_cell_below ((Below.refl _ _).alloc (Nat.le_refl _) _) a0.2.1), (pw_cell_below ((Below.refl _ _).alloc (Nat.le_refl _) _) a0.2.2.1), (pw_cell_below ((Below.refl _ _).alloc (Nat.le_refl _) _) a0.2.2.2.1), (pw_cell_below ((Below.refl _ _).alloc (Nat.le_refl _) _) a0.2.2.2.2.1), (pw_cell_below ((Below.refl _ _).alloc (Nat.le_refl _) _) a0.2.2.2.2.2.1), (pw_cell_below ((Below.refl _ _).alloc (Nat.le_refl _) _) a0.2.2.2.2.2.2.1), (pw_cell_below ((Below.refl _ _).alloc (Nat.le_refl _) _) a4.1), (pw_cell_below ((Below.refl _ _).alloc (Nat.le_refl _) _) a4.2.1), (pw_cell_below ((Below.refl _ _).alloc (Nat.le_refl _) _) a4.2.2.1)⟩ (fun hHeld => ?_)
 clear hK_ K_
 refine nP ?_
 refine lP 8 (some 46) (fun K_ hK_ => ?_)
 refine appendQ_step k35 O7.out (i := 3) (j := 5) rfl rfl (by decide) rfl rfl (.tmp 42) (.tmp 45) 40 (.agg #[.int .i64 0, .int .i64 0, .slice none 0 0]) 40 rfl Tryd.underlying40 infoR rfl (by decide) (by decide) rfl rfl (by have := HL.out; omega) ?_
 intro A2 c2 w8 o_ k_
 obtain ⟨O8, K8⟩ := ok_ K7 o_ k_
 have HR_8 := Aside0.mk (keepF HR_7.out k_)
 clear a0 a4 O7 K7 HR_7 o_ k_
 have a0 := k7_ O8 0
 have a4 := k3_ O8 4
 refine hK_.out _ _ ?_
 clear hK_ K_
 refine nP ?_
 refine pP 9 (some 47) ?_
 refine pP 10 (some 48) ?_
 refine lP 11 none (fun K_ hK_ => ?_)
 refine xS 0 4 [.slice A2 (K.length + 1) c2] O8 ?_
 intro w9 o_ k_
 obtain ⟨O9, K9⟩ := ok_ K8 o_ k_
 have HR_9 := Aside0.mk (keepF HR_8.out k_)
 clear a0 a4 O8 K8 HR_8 o_ k_
 have a0 := k7_ O9 0
 have a4 := k3_ O9 4
 refine hK_.out _ _ ?_
 clear hK_ K_
 refine done_ (by kernel_rfl) ?_
 clear hHeld
 go_wp2
 go_ret
 exact ⟨rfl, (CliO.shut (O9.out.pickL [0, 3, 2, 1] (by decide) (by simp))).take 1, K9.out⟩
theorem CTake_other {N : Nat → Prop} {w : World} {g : Nat} {jp : Value} {o mtu push : Int} {K P : List Rnd7} {U : List Upd7} (r0 r1 : Int) (B : Option Addr) (cb : Nat) (us : List Upd7) (h : Own N w [CliO g jp o mtu push K P U]) (hr : Kd.F k32 w N B us.length us) (hc : us.length ≤ cb) (hu : us.length ≤ 1000000) (hL : K.length ≤ 1000000) (ho : r0 ≠ o) :
  Calls Tryd.prog 32 #[.pointer (some ⟨g, 0, none⟩), .agg #[.int .i64 r0, .int .i64 r1, .slice B us.length cb]] w fun e_ w' => e_ = .returned (.int .i64 0) ∧ Own N w' [CliO g jp o mtu push (K ++ [(⟨r0, r1, us⟩ : Rnd7)]) P U] ∧ KeepS N w w' := by
 have d1 : (r0 == o) = false := beq_eq_false_iff_ne.mpr ho
 have HR_0 : Aside0 (Kd.F k32 w N B us.length us) := ⟨hr⟩
 have HC := Aside0.mk hc
 have HU := Aside0.mk hu
 have HL := Aside0.mk hL
 obtain ⟨A4, c4, A5, c5, A6, c6, hcap, h2⟩ := CliO.open_ h
 have HCAP := Aside0.mk hcap
 have O0 : Aside0 (Own N w [cells g #[jp, .int .i64 o, .int .i64 mtu, .int .i64 push, .slice A4 K.length c4, .slice A5 P.length c5, .slice A6 U.length c6] 111, nrow k32 32 (.slice A6 U.length c6) U, qrow k35 35 (.slice A5 P.length c5) P, qrow k35 35 (.slice A4 K.length c4) K]) := ⟨h2⟩
 have K0 : Aside0 (KeepS N w w) := ⟨KeepS.refl _ _⟩
 have a0 := k7_ O0 0
 clear h2 h hr hc hu hL hcap ho
 go_enter Tryd.func32, Tryd.ntmps32
 go_wp2_with (first | ((with_reducible refine gD 3 rfl ?_); refine bP 3 #[.int .i64 r0, .int .i64 r1, .slice B us.length cb] 35 O0.out ?_; intro gr w1 o_ k_; obtain ⟨O1, K1⟩ := ok_ K0 o_ k_; have HR_1 := Aside0.mk (keepF HR_0.out k_); clear a0 O0 K0 HR_0 o_ k_; have a0 := k7_ O1 0; have a4 := k3_ O1 4))
 refine sP (n := 7) (S := fun w' => w'.cell? ⟨g, 0, none⟩ = some (jp) ∧ w'.cell? ⟨g, 1, none⟩ = some (.int .i64 o) ∧ w'.cell? ⟨g, 2, none⟩ = some (.int .i64 mtu) ∧ w'.cell? ⟨g, 3, none⟩ = some (.int .i64 push) ∧ w'.cell? ⟨g, 4, none⟩ = some (.slice A4 K.length c4) ∧ w'.cell? ⟨g, 5, none⟩ = some (.slice A5 P.length c5) ∧ w'.cell? ⟨g, 6, none⟩ = some (.slice A6 U.length c6) ∧ w'.cell? ⟨gr, 0, none⟩ = some (.int .i64 r0) ∧ w'.cell? ⟨gr, 1, none⟩ = some (.int .i64 r1) ∧ w'.cell? ⟨gr, 2, none⟩ = some (.slice B us.length cb)) (ds := []) (j7_ a0 (p3_ a4)) (fun hHeld => ?_)
 obtain ⟨w2, hw_⟩ : ∃ W, W = w1.drew := ⟨_, rfl⟩
 have o_ := O1.out.drew
 have k_ : KeepS N w1 w1.drew := KeepS.drew
 rw [← hw_] at o_ k_ hHeld ⊢
 clear hw_
 obtain ⟨O2, K2⟩ := ok_ K1 o_ k_
 have HR_2 := Aside0.mk (keepF HR_1.out k_)
 clear a0 a4 O1 K1 HR_1 o_ k_
 have a0 := k7_ O2 0
 have a4 := k3_ O2 4
 refine pP 0 (some 5) ?_
 refine pP 2 (some 7) ?_
 refine pP 3 (some 8) ?_
 refine pP 4 (some 9) ?_
 refine tP 1 (some 6) hHeld ?_
 refine tP 5 (some 10) hHeld ?_
 refine pP 6 (some 11) ?_
 refine done_ (by kernel_rfl) ?_
 clear hHeld
 go_wp2
 refine sP (n := 12) (S := fun w' => w'.cell? ⟨g, 0, none⟩ = some (jp) ∧ w'.cell? ⟨g, 1, none⟩ = some (.int .i64 o) ∧ w'.cell? ⟨g, 2, none⟩ = some (.int .i64 mtu) ∧ w'.cell? ⟨g, 3, none⟩ = some (.int .i64 push) ∧ w'.cell? ⟨g, 4, none⟩ = some (.slice A4 K.length c4) ∧ w'.cell? ⟨g, 5, none⟩ = some (.slice A5 P.length c5) ∧ w'.cell? ⟨g, 6, none⟩ = some (.slice A6 U.length c6) ∧ w'.cell? ⟨gr, 0, none⟩ = some (.int .i64 r0) ∧ w'.cell? ⟨gr, 1, none⟩ = some (.int .i64 r1) ∧ w'.cell? ⟨gr, 2, none⟩ = some (.slice B us.length cb)) (ds := [8, 11]) (j7_ a0 (p3_ a4)) (fun hHeld => ?_)
 obtain ⟨w3, hw_⟩ : ∃ W, W = w2.drew := ⟨_, rfl⟩
 have o_ := O2.out.drew
 have k_ : KeepS N w2 w2.drew := KeepS.drew
 rw [← hw_] at o_ k_ hHeld ⊢
 clear hw_
 obtain ⟨O3, K3⟩ := ok_ K2 o_ k_
 have HR_3 := Aside0.mk (keepF HR_2.out k_)
 clear a0 a4 O2 K2 HR_2 o_ k_
 have a0 := k7_ O3 0
 have a4 := k3_ O3 4
 refine pP 0 (some 38) ?_
 refine pP 1 (some 39) ?_
 refine pP 2 (some 40) ?_
 refine pP 3 (some 41) ?_
 refine tP 4 (some 42) hHeld ?_
 refine tP 5 (some 43) hHeld ?_
 refine oP 6 (some 44) (fun K_ hK_ => ?_)
 refine hP Tryd.func72 #[.agg #[.int .i64 r0, .int .i64 r1, .slice B us.length cb]] ?_
 refine (round_Copy.calls r0 r1 _ _ us r0 r1 us _ (Kd.F_now HR_3.out) HC.out (copyC _ _ _ HU.out)).mono ?_
 rintro e_ w4 ⟨v_, rfl, hR_, hb_⟩
 obtain ⟨A1, c1, e__⟩ := Kd.R_slice hR_
 subst e__
 refine ⟨_, rfl, ?_⟩
 have o_ := O3.out.pushW hb_ (Nat.le_refl _) hR_
 have k_ := KeepS.of_below (N := N) hb_
 have o2_ := rowElem (⟨r0, r1, us⟩ : Rnd7) (i := 5) o_ rfl
 obtain ⟨O4, K4⟩ := ok_ K3 o2_ k_
 have HR_4 := Aside0.mk (keepF HR_3.out k_)
 clear a0 a4 O3 K3 HR_3 o_ k_ hb_ hR_ o2_
 have a0 := k7_ O4 0
 have a4 := k3_ O4 4
 clear hHeld
 refine hK_.out _ _ (j7_ a0 (p3_ a4)) (fun hHeld => ?_)
 clear hK_ K_
 refine nP ?_
 refine oP 7 (some 45) (fun K_ hK_ => ?_)
 refine value_ rfl rfl (w1 := (World.alloc w4 (.cells [.int .i64 ((⟨r0, r1, us⟩ : Rnd7)).f0, .int .i64 ((⟨r0, r1, us⟩ : Rnd7)).f1, .slice A1 us.length c1].toArray 35))) (v := .slice (some ⟨w4.heap.size, 0, none⟩) 1 1) gs_ ?_
 clear hHeld
 refine hK_.out _ _ ⟨(pw_cell_below ((Below.refl _ _).alloc (Nat.le_refl _) _) a0.1), (pw_cell_below ((Below.refl _ _).alloc (Nat.le_refl _) _) a0.2.1), (pw_cell_below ((Below.refl _ _).alloc (Nat.le_refl _) _) a0.2.2.1), (pw_cell_below ((Below.refl _ _).alloc (Nat.le_refl _) _) a0.2.2.2.1), (pw_cell_below ((Below.refl _ _).alloc (Nat.le_refl _) _) a0.2.2.2.2.1), (pw_cell_below ((Below.refl _ _).alloc (Nat.le_refl _) _) a0.2.2.2.2.2.1), (pw_cell_below ((Below.refl _ _).alloc (Nat.le_refl _) _) a0.2.2.2.2.2.2.1), (pw_cell_below ((Below.refl _ _).alloc (Nat.le_refl _) _) a4.1), (pw_cell_below ((Below.refl _ _).alloc (Nat.le_refl _) _) a4.2.1), (pw_cell_below ((Below.refl _ _).alloc (Nat.le_refl _) _) a4.2.2.1)⟩ (fun hHeld => ?_)
 clear hK_ K_
 refine nP ?_
 refine lP 8 (some 46) (fun K_ hK_ => ?_)
 refine appendQ_step k35 O4.out (i := 3) (j := 5) rfl rfl (by decide) rfl rfl (.tmp 42) (.tmp 45) 40 (.agg #[.int .i64 0, .int .i64 0, .slice none 0 0]) 40 rfl Tryd.underlying40 infoR rfl (by decide) (by decide) rfl rfl (by have := HL.out; omega) ?_
 intro A2 c2 w5 o_ k_
 obtain ⟨O5, K5⟩ := ok_ K4 o_ k_
 have HR_5 := Aside0.mk (keepF HR_4.out k_)
 clear a0 a4 O4 K4 HR_4 o_ k_
 have a0 := k7_ O5 0
 have a4 := k3_ O5 4
 refine hK_.out _ _ ?_
 clear hK_ K_
 refine nP ?_
 refine pP 9 (some 47) ?_
 refine pP 10 (some 48) ?_
 refine lP 11 none (fun K_ hK_ => ?_)
 refine xS 0 4 [.slice A2 (K.length + 1) c2] O5 ?_
 intro w6 o_ k_
 obtain ⟨O6, K6⟩ := ok_ K5 o_ k_
 have HR_6 := Aside0.mk (keepF HR_5.out k_)
 clear a0 a4 O5 K5 HR_5 o_ k_
 have a0 := k7_ O6 0
 have a4 := k3_ O6 4
 refine hK_.out _ _ ?_
 clear hK_ K_
 refine done_ (by kernel_rfl) ?_
 clear hHeld
 go_wp2
 go_ret
 exact ⟨rfl, (CliO.shut (O6.out.pickL [0, 3, 2, 1] (by decide) (by simp))).take 1, K6.out⟩
end Go.Proofs.YtjdenpmaianmfaaDoor.J
namespace Go.Proofs.YtjdenpmaianmfaaDoor.J
set_option maxHeartbeats 16000000
set_option maxRecDepth 100000
set_option linter.unusedSimpArgs false
set_option linter.unusedVariables false
open Go Go.RowKit Go.Proofs.YtjdenpmaianmfaaDoorW.PrintWords Go.Proofs.YtjdenpmaianmfaaDoorW.PrintLast Go.Proofs.YtjdenpmaianmfaaDoorW.PrintMore Go.Proofs.YtjdenpmaianmfaaDoor.Q Go.Proofs.YtjdenpmaianmfaaDoor.Sep Go.Proofs.YtjdenpmaianmfaaDoor.Pure
theorem raw_at {w : World} {A : Option Addr} {n : Nat} {rows : List (List Value)} {p0 p1 : Int} {pv : Value} (h : Kd.C (Kd.raw 3) w A n rows) (hh : rows[0]? = some (rw3 p0 p1 pv)) : ∃ ad, A = some ad ∧ w.cell? ⟨ad.block, ad.off + 1, none⟩ = some (.int .i64 p1) := by
 have hl : 0 < rows.length := (List.getElem?_eq_some_iff.1 hh).1
 have hn : n = rows.length := h.1.symm
 obtain ⟨ad, c, e, hcl, hk, hc⟩ := ReadsRow.get_ h ([] : List Value) 0 (by omega) (by omega)
 have e0 : rows.getD ((0 : Int).toNat) ([] : List Value) = rw3 p0 p1 pv := by
  show rows.getD 0 [] = _
  rw [List.getD_eq_getElem?_getD, hh]
  rfl
 rw [e0] at hk
 have hc1 : c = rw3 p0 p1 pv := hk.1
 subst hc1
 refine ⟨ad, e, ?_⟩
 have q := hc 1 (.int .i64 p1) rfl
 rw [add_field _ _ 1 (by omega)] at q
 have e1 : ad.add ((0 : Int).toNat * 3) = ad := by
  show ad.add 0 = ad
  simp [Addr.add]
 have e2 : (Kd.raw 3).sz = 3 := rfl
 rw [e2, e1] at q
 exact q
theorem head1 {w : World} {ad : Addr} {n : Nat} {rows : List (List Value)} {p0 p1 : Int} {pv : Value} (h : Kd.C (Kd.raw 3) w (some ad) n rows) (hh : rows[0]? = some (rw3 p0 p1 pv)) : w.cell? ⟨ad.block, ad.off + 1, none⟩ = some (.int .i64 p1) := by
 obtain ⟨ad', e, q⟩ := raw_at h hh
 cases e
 exact q
theorem cutR {w : World} {A : Option Addr} {n c : Nat} {rows : List (List Value)} (h : Kd.C (Kd.raw 3) w A n rows) (h1 : 1 ≤ rows.length) (hc : n ≤ c) : Kd.C (Kd.raw 3) w (if c = 1 then A else A.map (·.add (1 * 3))) (n - 1) (rows.drop 1) := by
 have e : n = rows.length := h.1.symm
 subst e
 have q := Kd.C_drop (m := 1) h h1 hc
 rw [List.length_drop] at q
 exact q
def dE (jo jm : Int) (n : Nat) (ups : List Upd7) : Int := if (n : Int) ≥ jm then 8 else mayR jo ((n : Int) + 1) ups
theorem DTake_none {N : Nat → Prop} {w : World} {g : Nat} {jp vo : Value} {o mtu push : Int} {A4 A5 : Option Addr} {c4 c5 : Nat} {rK rP : List (List Value)} (r0 r1 : Int) (B : Option Addr) (nb cb : Nat) (h : Own N w [cells g #[jp, .int .i64 o, .int .i64 mtu, .int .i64 push, .slice A4 rK.length c4, .slice A5 rP.length c5, vo] 44, nrow (Kd.raw 3) 35 (.slice A4 rK.length c4) rK, nrow (Kd.raw 3) 35 (.slice A5 rP.length c5) rP]) (hL : rK.length + rP.length ≤ 1000000) (ho : r0 = o) (hp : rP.length = 0) :
  Calls Tryd.prog 60 #[.pointer (some ⟨g, 0, none⟩), .agg #[.int .i64 r0, .int .i64 r1, .slice B nb cb]] w fun e_ w' => e_ = .returned (.int .i64 10) ∧ Own N w' [cells g #[jp, .int .i64 o, .int .i64 mtu, .int .i64 push, .slice A4 rK.length c4, .slice A5 rP.length c5, vo] 44, nrow (Kd.raw 3) 35 (.slice A4 rK.length c4) rK, nrow (Kd.raw 3) 35 (.slice A5 rP.length c5) rP] ∧ KeepS N w w' := by
 have d1 : (r0 == o) = true := beq_iff_eq.mpr ho
 have d2 : ((rP.length : Int) == 0) = true := by simp [hp]
 have HL := Aside0.mk hL
 have O0 : Aside0 (Own N w [cells g #[jp, .int .i64 o, .int .i64 mtu, .int .i64 push, .slice A4 rK.length c4, .slice A5 rP.length c5, vo] 44, nrow (Kd.raw 3) 35 (.slice A4 rK.length c4) rK, nrow (Kd.raw 3) 35 (.slice A5 rP.length c5) rP]) := ⟨h⟩
 have K0 : Aside0 (KeepS N w w) := ⟨KeepS.refl _ _⟩
 have a0 := k7_ O0 0
 clear h hL hp ho
 go_enter Tryd.func60, Tryd.ntmps60
 go_wp2_with (first | ((with_reducible refine gD 3 rfl ?_); refine bP 3 #[.int .i64 r0, .int .i64 r1, .slice B nb cb] 35 O0.out ?_; intro gr w1 o_ k_; obtain ⟨O1, K1⟩ := ok_ K0 o_ k_; clear a0 O0 K0 o_ k_; have a0 := k7_ O1 0; have a3 := k3_ O1 3))
 refine sP (n := 7) (S := fun w' => w'.cell? ⟨g, 0, none⟩ = some (jp) ∧ w'.cell? ⟨g, 1, none⟩ = some (.int .i64 o) ∧ w'.cell? ⟨g, 2, none⟩ = some (.int .i64 mtu) ∧ w'.cell? ⟨g, 3, none⟩ = some (.int .i64 push) ∧ w'.cell? ⟨g, 4, none⟩ = some (.slice A4 rK.length c4) ∧ w'.cell? ⟨g, 5, none⟩ = some (.slice A5 rP.length c5) ∧ w'.cell? ⟨g, 6, none⟩ = some (vo) ∧ w'.cell? ⟨gr, 0, none⟩ = some (.int .i64 r0) ∧ w'.cell? ⟨gr, 1, none⟩ = some (.int .i64 r1) ∧ w'.cell? ⟨gr, 2, none⟩ = some (.slice B nb cb)) (ds := []) (j7_ a0 (p3_ a3)) (fun hHeld => ?_)
 obtain ⟨w2, hw_⟩ : ∃ W, W = w1.drew := ⟨_, rfl⟩
 have o_ := O1.out.drew
 have k_ : KeepS N w1 w1.drew := KeepS.drew
 rw [← hw_] at o_ k_ hHeld ⊢
 clear hw_
 obtain ⟨O2, K2⟩ := ok_ K1 o_ k_
 clear a0 a3 O1 K1 o_ k_
 have a0 := k7_ O2 0
 have a3 := k3_ O2 3
 refine pP 0 (some 5) ?_
 refine pP 2 (some 7) ?_
 refine pP 3 (some 8) ?_
 refine pP 4 (some 9) ?_
 refine tP 1 (some 6) hHeld ?_
 refine tP 5 (some 10) hHeld ?_
 refine pP 6 (some 11) ?_
 refine done_ (by kernel_rfl) ?_
 clear hHeld
 go_wp2
 refine sP (n := 18) (S := fun w' => w'.cell? ⟨g, 0, none⟩ = some (jp) ∧ w'.cell? ⟨g, 1, none⟩ = some (.int .i64 o) ∧ w'.cell? ⟨g, 2, none⟩ = some (.int .i64 mtu) ∧ w'.cell? ⟨g, 3, none⟩ = some (.int .i64 push) ∧ w'.cell? ⟨g, 4, none⟩ = some (.slice A4 rK.length c4) ∧ w'.cell? ⟨g, 5, none⟩ = some (.slice A5 rP.length c5) ∧ w'.cell? ⟨g, 6, none⟩ = some (vo) ∧ w'.cell? ⟨gr, 0, none⟩ = some (.int .i64 r0) ∧ w'.cell? ⟨gr, 1, none⟩ = some (.int .i64 r1) ∧ w'.cell? ⟨gr, 2, none⟩ = some (.slice B nb cb)) (ds := []) (j7_ a0 (p3_ a3)) (fun hHeld => ?_)
 obtain ⟨w3, hw_⟩ : ∃ W, W = w2.drew := ⟨_, rfl⟩
 have o_ := O2.out.drew
 have k_ : KeepS N w2 w2.drew := KeepS.drew
 rw [← hw_] at o_ k_ hHeld ⊢
 clear hw_
 obtain ⟨O3, K3⟩ := ok_ K2 o_ k_
 clear a0 a3 O2 K2 o_ k_
 have a0 := k7_ O3 0
 have a3 := k3_ O3 3
 refine pP 0 (some 12) ?_
 refine pP 1 (some 13) ?_
 refine pP 2 (some 14) ?_
 refine tP 3 (some 15) hHeld ?_
 refine pP 4 (some 16) ?_
 refine pP 5 (some 17) ?_
 refine pP 6 (some 18) ?_
 refine pS 7 (some 19) ?_
 refine pS 8 (some 20) ?_
 refine pS 9 (some 21) ?_
 refine pS 14 (some 26) ?_
 refine tS 10 (some 22) hHeld ?_
 refine pS 11 (some 23) ?_
 refine pS 12 (some 24) ?_
 refine tS 13 (some 25) hHeld ?_
 refine tS 15 (some 27) hHeld ?_
 refine pS 16 (some 28) ?_
 refine pP 17 (some 29) ?_
 refine done_ (by kernel_rfl) ?_
 clear hHeld
 go_wp2
 go_ret
 exact ⟨rfl, O3.out.take 3, K3.out⟩
theorem DTake_wrong {N : Nat → Prop} {w : World} {g : Nat} {jp vo : Value} {o mtu push : Int} {A4 A5 : Option Addr} {c4 c5 : Nat} {rK rP : List (List Value)} (r0 r1 : Int) (B : Option Addr) (nb cb : Nat) (h : Own N w [cells g #[jp, .int .i64 o, .int .i64 mtu, .int .i64 push, .slice A4 rK.length c4, .slice A5 rP.length c5, vo] 44, nrow (Kd.raw 3) 35 (.slice A4 rK.length c4) rK, nrow (Kd.raw 3) 35 (.slice A5 rP.length c5) rP]) (hL : rK.length + rP.length ≤ 1000000) {p0 p1 : Int} {pv : Value} (ho : r0 = o) (hh : rP[0]? = some (rw3 p0 p1 pv)) (hn : p1 ≠ r1) :
  Calls Tryd.prog 60 #[.pointer (some ⟨g, 0, none⟩), .agg #[.int .i64 r0, .int .i64 r1, .slice B nb cb]] w fun e_ w' => e_ = .returned (.int .i64 10) ∧ Own N w' [cells g #[jp, .int .i64 o, .int .i64 mtu, .int .i64 push, .slice A4 rK.length c4, .slice A5 rP.length c5, vo] 44, nrow (Kd.raw 3) 35 (.slice A4 rK.length c4) rK, nrow (Kd.raw 3) 35 (.slice A5 rP.length c5) rP] ∧ KeepS N w w' := by
 have d1 : (r0 == o) = true := beq_iff_eq.mpr ho
 have hp := (List.getElem?_eq_some_iff.1 hh).1
 have HPL := Aside0.mk hp
 have HH := Aside0.mk hh
 have d2 : ((rP.length : Int) == 0) = false := beq_eq_false_iff_ne.mpr (by omega)
 have d3 : (p1 != r1) = true := bne_iff_ne.mpr hn
 have HL := Aside0.mk hL
 obtain ⟨ad, eA, _⟩ := raw_at (h.nreads (i := 2) rfl).2.2 hh
 cases eA
 have hq1 : ((0 : Int) < (rP.length : Int)) = True := eq_true (by omega)
 have hq2 : (0 < rP.length) = True := eq_true (by omega)
 have O0 : Aside0 (Own N w [cells g #[jp, .int .i64 o, .int .i64 mtu, .int .i64 push, .slice A4 rK.length c4, .slice (some ad) rP.length c5, vo] 44, nrow (Kd.raw 3) 35 (.slice A4 rK.length c4) rK, nrow (Kd.raw 3) 35 (.slice (some ad) rP.length c5) rP]) := ⟨h⟩
 have K0 : Aside0 (KeepS N w w) := ⟨KeepS.refl _ _⟩
 have a0 := k7_ O0 0
 clear h hL hp hh hn ho
 go_enter Tryd.func60, Tryd.ntmps60
 go_wp2_with (first | ((with_reducible refine gD 3 rfl ?_); refine bP 3 #[.int .i64 r0, .int .i64 r1, .slice B nb cb] 35 O0.out ?_; intro gr w1 o_ k_; obtain ⟨O1, K1⟩ := ok_ K0 o_ k_; clear a0 O0 K0 o_ k_; have a0 := k7_ O1 0; have a3 := k3_ O1 3))
 refine sP (n := 7) (S := fun w' => w'.cell? ⟨g, 0, none⟩ = some (jp) ∧ w'.cell? ⟨g, 1, none⟩ = some (.int .i64 o) ∧ w'.cell? ⟨g, 2, none⟩ = some (.int .i64 mtu) ∧ w'.cell? ⟨g, 3, none⟩ = some (.int .i64 push) ∧ w'.cell? ⟨g, 4, none⟩ = some (.slice A4 rK.length c4) ∧ w'.cell? ⟨g, 5, none⟩ = some (.slice (some ad) rP.length c5) ∧ w'.cell? ⟨g, 6, none⟩ = some (vo) ∧ w'.cell? ⟨gr, 0, none⟩ = some (.int .i64 r0) ∧ w'.cell? ⟨gr, 1, none⟩ = some (.int .i64 r1) ∧ w'.cell? ⟨gr, 2, none⟩ = some (.slice B nb cb)) (ds := []) (j7_ a0 (p3_ a3)) (fun hHeld => ?_)
 obtain ⟨w2, hw_⟩ : ∃ W, W = w1.drew := ⟨_, rfl⟩
 have o_ := O1.out.drew
 have k_ : KeepS N w1 w1.drew := KeepS.drew
 rw [← hw_] at o_ k_ hHeld ⊢
 clear hw_
 obtain ⟨O2, K2⟩ := ok_ K1 o_ k_
 clear a0 a3 O1 K1 o_ k_
 have a0 := k7_ O2 0
 have a3 := k3_ O2 3
 refine pP 0 (some 5) ?_
 refine pP 2 (some 7) ?_
 refine pP 3 (some 8) ?_
 refine pP 4 (some 9) ?_
 refine tP 1 (some 6) hHeld ?_
 refine tP 5 (some 10) hHeld ?_
 refine pP 6 (some 11) ?_
 refine done_ (by kernel_rfl) ?_
 clear hHeld
 go_wp2
 refine sP (n := 18) (S := fun w' => w'.cell? ⟨g, 0, none⟩ = some (jp) ∧ w'.cell? ⟨g, 1, none⟩ = some (.int .i64 o) ∧ w'.cell? ⟨g, 2, none⟩ = some (.int .i64 mtu) ∧ w'.cell? ⟨g, 3, none⟩ = some (.int .i64 push) ∧ w'.cell? ⟨g, 4, none⟩ = some (.slice A4 rK.length c4) ∧ w'.cell? ⟨g, 5, none⟩ = some (.slice (some ad) rP.length c5) ∧ w'.cell? ⟨g, 6, none⟩ = some (vo) ∧ w'.cell? ⟨gr, 0, none⟩ = some (.int .i64 r0) ∧ w'.cell? ⟨gr, 1, none⟩ = some (.int .i64 r1) ∧ w'.cell? ⟨gr, 2, none⟩ = some (.slice B nb cb) ∧ w'.cell? ⟨ad.block, ad.off + 1, none⟩ = some (.int .i64 p1)) (ds := []) ⟨a0.1, a0.2.1, a0.2.2.1, a0.2.2.2.1, a0.2.2.2.2.1, a0.2.2.2.2.2.1, a0.2.2.2.2.2.2.1, a3.1, a3.2.1, a3.2.2.1, (head1 (O2.out.drew.nreads (i := 2) rfl).2.2 HH.out)⟩ (fun hHeld => ?_)
 obtain ⟨w3, hw_⟩ : ∃ W, W = w2.drew := ⟨_, rfl⟩
 have o_ := O2.out.drew
 have k_ : KeepS N w2 w2.drew := KeepS.drew
 rw [← hw_] at o_ k_ hHeld ⊢
 clear hw_
 obtain ⟨O3, K3⟩ := ok_ K2 o_ k_
 clear a0 a3 O2 K2 o_ k_
 have a0 := k7_ O3 0
 have a3 := k3_ O3 3
 refine pP 0 (some 12) ?_
 refine pP 1 (some 13) ?_
 refine pP 2 (some 14) ?_
 refine tP 3 (some 15) hHeld ?_
 refine pP 4 (some 16) ?_
 refine pP 5 (some 17) ?_
 refine pP 6 (some 18) ?_
 refine pP 7 (some 19) ?_
 refine pP 8 (some 20) ?_
 refine pP 9 (some 21) ?_
 refine pP 14 (some 26) ?_
 refine tP 10 (some 22) hHeld ?_
 refine pP 11 (some 23) ?_
 refine pP 12 (some 24) ?_
 refine tP 13 (some 25) hHeld ?_
 refine tP 15 (some 27) hHeld ?_
 refine pP 16 (some 28) ?_
 refine pP 17 (some 29) ?_
 refine done_ (by kernel_rfl) ?_
 clear hHeld
 go_wp2
 go_ret
 exact ⟨rfl, O3.out.take 3, K3.out⟩
theorem DTake_own {N : Nat → Prop} {w : World} {g : Nat} {jp vo : Value} {o mtu push : Int} {A4 A5 : Option Addr} {c4 c5 : Nat} {rK rP : List (List Value)} (r0 r1 : Int) (B : Option Addr) (nb cb : Nat) (h : Own N w [cells g #[jp, .int .i64 o, .int .i64 mtu, .int .i64 push, .slice A4 rK.length c4, .slice A5 rP.length c5, vo] 44, nrow (Kd.raw 3) 35 (.slice A4 rK.length c4) rK, nrow (Kd.raw 3) 35 (.slice A5 rP.length c5) rP]) (hL : rK.length + rP.length ≤ 1000000) {p0 p1 : Int} {pv : Value} (ho : r0 = o) (hh : rP[0]? = some (rw3 p0 p1 pv)) (hn : p1 = r1) :
  Calls Tryd.prog 60 #[.pointer (some ⟨g, 0, none⟩), .agg #[.int .i64 r0, .int .i64 r1, .slice B nb cb]] w fun e_ w' => ∃ C4 e4 A7 c7, e_ = .returned (.int .i64 0) ∧ Own N w' [cells g #[jp, .int .i64 o, .int .i64 mtu, .int .i64 push, .slice C4 (rK ++ [rw3 r0 r1 (.slice B nb cb)]).length e4, .slice A7 (rP.drop 1).length c7, vo] 44, nrow (Kd.raw 3) 35 (.slice C4 (rK ++ [rw3 r0 r1 (.slice B nb cb)]).length e4) (rK ++ [rw3 r0 r1 (.slice B nb cb)]), nrow (Kd.raw 3) 35 (.slice A7 (rP.drop 1).length c7) (rP.drop 1)] ∧ KeepS N w w' := by
 have d1 : (r0 == o) = true := beq_iff_eq.mpr ho
 have hp := (List.getElem?_eq_some_iff.1 hh).1
 have HPL := Aside0.mk hp
 have HH := Aside0.mk hh
 have d2 : ((rP.length : Int) == 0) = false := beq_eq_false_iff_ne.mpr (by omega)
 have d3 : (p1 != r1) = false := by simp [hn]
 have HL := Aside0.mk hL
 obtain ⟨ad, eA, _⟩ := raw_at (h.nreads (i := 2) rfl).2.2 hh
 cases eA
 have hq1 : ((0 : Int) < (rP.length : Int)) = True := eq_true (by omega)
 have hq2 : (0 < rP.length) = True := eq_true (by omega)
 have O0 : Aside0 (Own N w [cells g #[jp, .int .i64 o, .int .i64 mtu, .int .i64 push, .slice A4 rK.length c4, .slice (some ad) rP.length c5, vo] 44, nrow (Kd.raw 3) 35 (.slice A4 rK.length c4) rK, nrow (Kd.raw 3) 35 (.slice (some ad) rP.length c5) rP]) := ⟨h⟩
 have K0 : Aside0 (KeepS N w w) := ⟨KeepS.refl _ _⟩
 have a0 := k7_ O0 0
 clear h hL hp hh hn ho
 go_enter Tryd.func60, Tryd.ntmps60
 go_wp2_with (first | ((with_reducible refine gD 3 rfl ?_); refine bP 3 #[.int .i64 r0, .int .i64 r1, .slice B nb cb] 35 O0.out ?_; intro gr w1 o_ k_; obtain ⟨O1, K1⟩ := ok_ K0 o_ k_; clear a0 O0 K0 o_ k_; have a0 := k7_ O1 0; have a3 := k3_ O1 3))
 refine sP (n := 7) (S := fun w' => w'.cell? ⟨g, 0, none⟩ = some (jp) ∧ w'.cell? ⟨g, 1, none⟩ = some (.int .i64 o) ∧ w'.cell? ⟨g, 2, none⟩ = some (.int .i64 mtu) ∧ w'.cell? ⟨g, 3, none⟩ = some (.int .i64 push) ∧ w'.cell? ⟨g, 4, none⟩ = some (.slice A4 rK.length c4) ∧ w'.cell? ⟨g, 5, none⟩ = some (.slice (some ad) rP.length c5) ∧ w'.cell? ⟨g, 6, none⟩ = some (vo) ∧ w'.cell? ⟨gr, 0, none⟩ = some (.int .i64 r0) ∧ w'.cell? ⟨gr, 1, none⟩ = some (.int .i64 r1) ∧ w'.cell? ⟨gr, 2, none⟩ = some (.slice B nb cb)) (ds := []) (j7_ a0 (p3_ a3)) (fun hHeld => ?_)
 obtain ⟨w2, hw_⟩ : ∃ W, W = w1.drew := ⟨_, rfl⟩
 have o_ := O1.out.drew
 have k_ : KeepS N w1 w1.drew := KeepS.drew
 rw [← hw_] at o_ k_ hHeld ⊢
 clear hw_
 obtain ⟨O2, K2⟩ := ok_ K1 o_ k_
 clear a0 a3 O1 K1 o_ k_
 have a0 := k7_ O2 0
 have a3 := k3_ O2 3
 refine pP 0 (some 5) ?_
 refine pP 2 (some 7) ?_
 refine pP 3 (some 8) ?_
 refine pP 4 (some 9) ?_
 refine tP 1 (some 6) hHeld ?_
 refine tP 5 (some 10) hHeld ?_
 refine pP 6 (some 11) ?_
 refine done_ (by kernel_rfl) ?_
 clear hHeld
 go_wp2
 refine sP (n := 18) (S := fun w' => w'.cell? ⟨g, 0, none⟩ = some (jp) ∧ w'.cell? ⟨g, 1, none⟩ = some (.int .i64 o) ∧ w'.cell? ⟨g, 2, none⟩ = some (.int .i64 mtu) ∧ w'.cell? ⟨g, 3, none⟩ = some (.int .i64 push) ∧ w'.cell? ⟨g, 4, none⟩ = some (.slice A4 rK.length c4) ∧ w'.cell? ⟨g, 5, none⟩ = some (.slice (some ad) rP.length c5) ∧ w'.cell? ⟨g, 6, none⟩ = some (vo) ∧ w'.cell? ⟨gr, 0, none⟩ = some (.int .i64 r0) ∧ w'.cell? ⟨gr, 1, none⟩ = some (.int .i64 r1) ∧ w'.cell? ⟨gr, 2, none⟩ = some (.slice B nb cb) ∧ w'.cell? ⟨ad.block, ad.off + 1, none⟩ = some (.int .i64 p1)) (ds := []) ⟨a0.1, a0.2.1, a0.2.2.1, a0.2.2.2.1, a0.2.2.2.2.1, a0.2.2.2.2.2.1, a0.2.2.2.2.2.2.1, a3.1, a3.2.1, a3.2.2.1, (head1 (O2.out.drew.nreads (i := 2) rfl).2.2 HH.out)⟩ (fun hHeld => ?_)
 obtain ⟨w3, hw_⟩ : ∃ W, W = w2.drew := ⟨_, rfl⟩
 have o_ := O2.out.drew
 have k_ : KeepS N w2 w2.drew := KeepS.drew
 rw [← hw_] at o_ k_ hHeld ⊢
 clear hw_
 obtain ⟨O3, K3⟩ := ok_ K2 o_ k_
 clear a0 a3 O2 K2 o_ k_
 have a0 := k7_ O3 0
 have a3 := k3_ O3 3
 refine pP 0 (some 12) ?_
 refine pP 1 (some 13) ?_
 refine pP 2 (some 14) ?_
 refine tP 3 (some 15) hHeld ?_
 refine pP 4 (some 16) ?_
 refine pP 5 (some 17) ?_
 refine pP 6 (some 18) ?_
 refine pP 7 (some 19) ?_
 refine pP 8 (some 20) ?_
 refine pP 9 (some 21) ?_
 refine pP 14 (some 26) ?_
 refine tP 10 (some 22) hHeld ?_
 refine pP 11 (some 23) ?_
 refine pP 12 (some 24) ?_
 refine tP 13 (some 25) hHeld ?_
 refine tP 15 (some 27) hHeld ?_
 refine pP 16 (some 28) ?_
 refine pP 17 (some 29) ?_
 refine done_ (by kernel_rfl) ?_
 clear hHeld
 obtain ⟨A9, hA9⟩ : ∃ A9, A9 = (if c5 = 1 then (some ad : Option Addr) else (some ad : Option Addr).map (·.add (1 * 3))) := ⟨_, rfl⟩
 have HCUT : ∀ W_ : World, (Instr.slice 40 (.slice (some ad) rP.length c5) (some (.int .i64 1)) none none).run Tryd.prog W_ = .ok (.slice A9 (rP.length - 1) (c5 - 1)) W_ := by rw [hA9]; exact cut1 _ _ _ HPL.out
 have HA9 := Aside0.mk hA9
 have HL2 : Aside0 (rP.length ≤ 1000000) := ⟨by have := HL.out; omega⟩
 clear hA9
 go_wp2_with (first | ((with_reducible refine gD 31 rfl ?_); refine own_lit (Kd.raw 3) (N := N) (e := 35) (xs := []) (inner := []) rfl (D := 31) rfl gs_ (Reps.none _ _) (by simp) O3.out ?_; intro A6 c6 w4 o_ k_; obtain ⟨O4, K4⟩ := ok_ K3 o_ k_; clear a0 a3 O3 K3 o_ k_; have a0 := k7_ O4 0; have a3 := k3_ O4 3) | ((with_reducible refine gate_builtin (b := .append) (xs := #[.tmp 31, .tmp 36]) rfl ?_); at_builtin; refine Own.append_flat (Kd.raw 3) flatRaw O4.out (i := 4) (ys := (rP.drop 1)) rfl ((by rw [HA9.out]; exact cutR (O4.out.nreads (i := 2) rfl).2.2 HPL.out (O4.out.nreads (i := 2) rfl).2.1)) rfl (.tmp 31) (.tmp 36) 40 ((.agg #[.int .i64 0, .int .i64 0, .slice none 0 0])) 40 rfl Tryd.underlying40 infoR rfl (by decide) (by decide) rfl rfl (by have := HL2.out; simp only [List.length_nil]; omega) ?_; intro A7 c7 w5 o_ k_; obtain ⟨O5, K5⟩ := ok_ K4 o_ k_; clear a0 a3 O4 K4 o_ k_; have a0 := k7_ O5 0; have a3 := k3_ O5 3) | ((with_reducible refine gT 40 39 rfl ?_); refine wS 0 5 [.slice A7 (rP.drop 1).length c7] O5 ?_; intro w6 o_ k_; obtain ⟨O6, K6⟩ := ok_ K5 o_ k_; clear a0 a3 O5 K5 o_ k_; have a0 := k7_ O6 0; have a3 := k3_ O6 3))
 refine sP (n := 13) (S := fun w' => w'.cell? ⟨g, 0, none⟩ = some (jp) ∧ w'.cell? ⟨g, 1, none⟩ = some (.int .i64 o) ∧ w'.cell? ⟨g, 2, none⟩ = some (.int .i64 mtu) ∧ w'.cell? ⟨g, 3, none⟩ = some (.int .i64 push) ∧ w'.cell? ⟨g, 4, none⟩ = some (.slice A4 rK.length c4) ∧ w'.cell? ⟨g, 5, none⟩ = some (.slice A7 (rP.drop 1).length c7) ∧ w'.cell? ⟨g, 6, none⟩ = some (vo) ∧ w'.cell? ⟨gr, 0, none⟩ = some (.int .i64 r0) ∧ w'.cell? ⟨gr, 1, none⟩ = some (.int .i64 r1) ∧ w'.cell? ⟨gr, 2, none⟩ = some (.slice B nb cb)) (ds := [12]) (j7_ a0 (p3_ a3)) (fun hHeld => ?_)
 obtain ⟨w7, hw_⟩ : ∃ W, W = w6.drew := ⟨_, rfl⟩
 have o_ := O6.out.drew
 have k_ : KeepS N w6 w6.drew := KeepS.drew
 rw [← hw_] at o_ k_ hHeld ⊢
 clear hw_
 obtain ⟨O7, K7⟩ := ok_ K6 o_ k_
 clear a0 a3 O6 K6 o_ k_
 have a0 := k7_ O7 0
 have a3 := k3_ O7 3
 refine pP 0 (some 40) ?_
 refine pP 2 (some 42) ?_
 refine pP 3 (some 43) ?_
 refine pP 4 (some 44) ?_
 refine tP 5 (some 45) hHeld ?_
 refine tP 7 (some 47) hHeld ?_
 refine join_ (σ := Option Addr × Nat × Option Addr × Nat × Option Addr × Nat) 4 #[true, true, true, true, true, true, true, true, true, false, false, false, false] (fun ⟨C2, e2, C3, e3, D1, h1_⟩ => [(41, .slice C2 0 e2), (46, .slice C3 rK.length e3), (48, .slice D1 1 h1_)]) (fun ⟨C2, e2, C3, e3, D1, h1_⟩ w' => Own N w' [cells g #[jp, .int .i64 o, .int .i64 mtu, .int .i64 push, .slice A4 rK.length c4, .slice A7 (rP.drop 1).length c7, vo] 44, nrow (Kd.raw 3) 35 (.slice A4 rK.length c4) rK, nrow (Kd.raw 3) 35 (.slice (some ad) rP.length c5) rP, cells gr #[.int .i64 r0, .int .i64 r1, .slice B nb cb] 35, nrow (Kd.raw 3) 35 (.slice A7 ((rP.drop 1)).length c7) ((rP.drop 1)), nrow (Kd.raw 3) 35 (.slice C3 rK.length e3) rK, nrow (Kd.raw 3) 35 (.slice D1 1 h1_) [rw3 r0 r1 (.slice B nb cb)]] ∧ KeepS N w7 w') ?hcont ?hways
 case hways =>
  intro hc_
  have K8 : Aside0 (KeepS N w7 w7) := ⟨KeepS.refl _ _⟩
  have O8 : Aside0 (Own N w7 [cells g #[jp, .int .i64 o, .int .i64 mtu, .int .i64 push, .slice A4 rK.length c4, .slice A7 (rP.drop 1).length c7, vo] 44, nrow (Kd.raw 3) 35 (.slice A4 rK.length c4) rK, nrow (Kd.raw 3) 35 (.slice (some ad) rP.length c5) rP, cells gr #[.int .i64 r0, .int .i64 r1, .slice B nb cb] 35, nrow (Kd.raw 3) 35 (.slice A7 ((rP.drop 1)).length c7) ((rP.drop 1))]) := O7
  refine two_ (i := 1) (j := 8) (Ni := some 41) (Nj := some 48) #[true, true, true, true, true, true, false, true, false, false, false, false, false] #[true, false, true, true, true, true, false, true, true, false, false, false, false] rfl rfl rfl rfl (by kernel_rfl) (by decide) (by decide) (fun K_ hK_ => ?_) (fun K_ hK_ => ?_)
  ·skip
   refine own_lit_step (Kd.raw 3) (N := N) (e := 35) (xs := []) (inner := []) rfl rfl gs_ (Reps.none _ _) (by decide) O8.out ?_
   intro C2 e2 w9 o_ k_
   obtain ⟨O9, K9⟩ := ok_ K8 o_ k_
   clear a0 a3 O8 K8 o_ k_
   have a0 := k7_ O9 0
   have a3 := k3_ O9 3
   clear hHeld
   refine hK_.out _ _ (j7_ a0 (p3_ a3)) (fun hHeld => ?_)
   clear hK_ K_
   refine norm_ (a' := ?_) ?_ ?_
   rotate_left
   ·simp only [Act.put, List.setIfInBounds_toArray, List.set_cons_zero, List.set_cons_succ, i64_w, i32_w]
    rfl
   refine two_ (i := 6) (j := 8) (Ni := some 46) (Nj := some 48) #[true, true, true, true, true, true, true, true, false, false, false, false, false] #[true, true, true, true, true, true, false, true, true, false, false, false, false] rfl rfl rfl rfl (by kernel_rfl) (by decide) (by decide) (fun K_ hK_ => ?_) (fun K_ hK_ => ?_)
   ·skip
    refine Own.append_flat_step (Kd.raw 3) flatRaw O9.out (i := 5) rfl (O9.out.nreads (i := 1) rfl).2.2 rfl (by rfl) (.tmp 41) (.tmp 45) 40 (.agg #[.int .i64 0, .int .i64 0, .slice none 0 0]) 40 rfl Tryd.underlying40 infoR rfl (by decide) (by decide) rfl rfl (by have := HL.out; simp only [List.length_nil]; omega) ?_
    intro C3 e3 w10 o_ k_
    obtain ⟨O10, K10⟩ := ok_ K9 o_ k_
    clear a0 a3 O9 K9 o_ k_
    have a0 := k7_ O10 0
    have a3 := k3_ O10 3
    clear hHeld
    refine hK_.out _ _ (j7_ a0 (p3_ a3)) (fun hHeld => ?_)
    clear hK_ K_
    refine norm_ (a' := ?_) ?_ ?_
    rotate_left
    ·simp only [Act.put, List.setIfInBounds_toArray, List.set_cons_zero, List.set_cons_succ, i64_w, i32_w]
     rfl
    refine one_ (i := 8) (N := some 48) #[true, true, true, true, true, true, true, true, true, false, false, false, false] rfl rfl (by kernel_rfl) (by decide) (fun K_ hK_ => ?_)
    refine own_lit_step (Kd.raw 3) (N := N) (e := 35) (xs := [rw3 r0 r1 (.slice B nb cb)]) (inner := [.int .i64 r0, .int .i64 r1, .slice B nb cb]) rfl rfl gs_ (repW _ r0 r1 B nb cb) (by show 1 ≤ 9223372036854775807; decide) O10.out ?_
    intro D1 h1_ w11 o_ k_
    obtain ⟨O11, K11⟩ := ok_ K10 o_ k_
    clear a0 a3 O10 K10 o_ k_
    have a0 := k7_ O11 0
    have a3 := k3_ O11 3
    clear hHeld
    refine hK_.out _ _ (j7_ a0 (p3_ a3)) (fun hHeld => ?_)
    clear hK_ K_
    refine norm_ (a' := ?_) ?_ ?_
    rotate_left
    ·simp only [Act.put, List.setIfInBounds_toArray, List.set_cons_zero, List.set_cons_succ, i64_w, i32_w]
     rfl
    refine norm_ (a' := _) ?_ (hc_ ⟨C2, e2, C3, e3, D1, h1_⟩ _ ⟨?_, K11.out⟩)
    ·simp only [putAll, Act.put, List.setIfInBounds_toArray, List.set_cons_zero, List.set_cons_succ]
     try rfl
    ·exact O11.out.pickL [0, 1, 2, 3, 4, 5, 6] (by decide) (by simp)
   ·skip
    refine own_lit_step (Kd.raw 3) (N := N) (e := 35) (xs := [rw3 r0 r1 (.slice B nb cb)]) (inner := [.int .i64 r0, .int .i64 r1, .slice B nb cb]) rfl rfl gs_ (repW _ r0 r1 B nb cb) (by show 1 ≤ 9223372036854775807; decide) O9.out ?_
    intro D1 h1_ w10 o_ k_
    obtain ⟨O10, K10⟩ := ok_ K9 o_ k_
    clear a0 a3 O9 K9 o_ k_
    have a0 := k7_ O10 0
    have a3 := k3_ O10 3
    clear hHeld
    refine hK_.out _ _ (j7_ a0 (p3_ a3)) (fun hHeld => ?_)
    clear hK_ K_
    refine norm_ (a' := ?_) ?_ ?_
    rotate_left
    ·simp only [Act.put, List.setIfInBounds_toArray, List.set_cons_zero, List.set_cons_succ, i64_w, i32_w]
     rfl
    refine one_ (i := 6) (N := some 46) #[true, true, true, true, true, true, true, true, true, false, false, false, false] rfl rfl (by kernel_rfl) (by decide) (fun K_ hK_ => ?_)
    refine Own.append_flat_step (Kd.raw 3) flatRaw O10.out (i := 5) rfl (O10.out.nreads (i := 1) rfl).2.2 rfl (by rfl) (.tmp 41) (.tmp 45) 40 (.agg #[.int .i64 0, .int .i64 0, .slice none 0 0]) 40 rfl Tryd.underlying40 infoR rfl (by decide) (by decide) rfl rfl (by have := HL.out; simp only [List.length_nil]; omega) ?_
    intro C3 e3 w11 o_ k_
    obtain ⟨O11, K11⟩ := ok_ K10 o_ k_
    clear a0 a3 O10 K10 o_ k_
    have a0 := k7_ O11 0
    have a3 := k3_ O11 3
    clear hHeld
    refine hK_.out _ _ (j7_ a0 (p3_ a3)) (fun hHeld => ?_)
    clear hK_ K_
    refine norm_ (a' := ?_) ?_ ?_
    rotate_left
    ·simp only [Act.put, List.setIfInBounds_toArray, List.set_cons_zero, List.set_cons_succ, i64_w, i32_w]
     rfl
    refine norm_ (a' := _) ?_ (hc_ ⟨C2, e2, C3, e3, D1, h1_⟩ _ ⟨?_, K11.out⟩)
    ·simp only [putAll, Act.put, List.setIfInBounds_toArray, List.set_cons_zero, List.set_cons_succ]
     try rfl
    ·exact O11.out.pickL [0, 1, 2, 3, 4, 5, 6] (by decide) (by simp)
  ·skip
   refine own_lit_step (Kd.raw 3) (N := N) (e := 35) (xs := [rw3 r0 r1 (.slice B nb cb)]) (inner := [.int .i64 r0, .int .i64 r1, .slice B nb cb]) rfl rfl gs_ (repW _ r0 r1 B nb cb) (by show 1 ≤ 9223372036854775807; decide) O8.out ?_
   intro D1 h1_ w9 o_ k_
   obtain ⟨O9, K9⟩ := ok_ K8 o_ k_
   clear a0 a3 O8 K8 o_ k_
   have a0 := k7_ O9 0
   have a3 := k3_ O9 3
   clear hHeld
   refine hK_.out _ _ (j7_ a0 (p3_ a3)) (fun hHeld => ?_)
   clear hK_ K_
   refine norm_ (a' := ?_) ?_ ?_
   rotate_left
   ·simp only [Act.put, List.setIfInBounds_toArray, List.set_cons_zero, List.set_cons_succ, i64_w, i32_w]
    rfl
   refine one_ (i := 1) (N := some 41) #[true, true, true, true, true, true, false, true, true, false, false, false, false] rfl rfl (by kernel_rfl) (by decide) (fun K_ hK_ => ?_)
   refine own_lit_step (Kd.raw 3) (N := N) (e := 35) (xs := []) (inner := []) rfl rfl gs_ (Reps.none _ _) (by decide) O9.out ?_
   intro C2 e2 w10 o_ k_
   obtain ⟨O10, K10⟩ := ok_ K9 o_ k_
   clear a0 a3 O9 K9 o_ k_
   have a0 := k7_ O10 0
   have a3 := k3_ O10 3
   clear hHeld
   refine hK_.out _ _ (j7_ a0 (p3_ a3)) (fun hHeld => ?_)
   clear hK_ K_
   refine norm_ (a' := ?_) ?_ ?_
   rotate_left
   ·simp only [Act.put, List.setIfInBounds_toArray, List.set_cons_zero, List.set_cons_succ, i64_w, i32_w]
    rfl
   refine one_ (i := 6) (N := some 46) #[true, true, true, true, true, true, true, true, true, false, false, false, false] rfl rfl (by kernel_rfl) (by decide) (fun K_ hK_ => ?_)
   refine Own.append_flat_step (Kd.raw 3) flatRaw O10.out (i := 6) rfl (O10.out.nreads (i := 1) rfl).2.2 rfl (by rfl) (.tmp 41) (.tmp 45) 40 (.agg #[.int .i64 0, .int .i64 0, .slice none 0 0]) 40 rfl Tryd.underlying40 infoR rfl (by decide) (by decide) rfl rfl (by have := HL.out; simp only [List.length_nil]; omega) ?_
   intro C3 e3 w11 o_ k_
   obtain ⟨O11, K11⟩ := ok_ K10 o_ k_
   clear a0 a3 O10 K10 o_ k_
   have a0 := k7_ O11 0
   have a3 := k3_ O11 3
   clear hHeld
   refine hK_.out _ _ (j7_ a0 (p3_ a3)) (fun hHeld => ?_)
   clear hK_ K_
   refine norm_ (a' := ?_) ?_ ?_
   rotate_left
   ·simp only [Act.put, List.setIfInBounds_toArray, List.set_cons_zero, List.set_cons_succ, i64_w, i32_w]
    rfl
   refine norm_ (a' := _) ?_ (hc_ ⟨C2, e2, C3, e3, D1, h1_⟩ _ ⟨?_, K11.out⟩)
   ·simp only [putAll, Act.put, List.setIfInBounds_toArray, List.set_cons_zero, List.set_cons_succ]
    try rfl
   ·exact O11.out.pickL [0, 1, 2, 3, 4, 6, 5] (by decide) (by simp)
 case hcont =>
  clear hHeld
  rintro ⟨C2, e2, C3, e3, D1, h1_⟩ w8 ⟨o_, k_⟩
  obtain ⟨O8, K8⟩ := ok_ K7 o_ k_
  clear a0 a3 O7 K7 o_ k_
  have a0 := k7_ O8 0
  have a3 := k3_ O8 3
  refine norm_ (a' := ?_) ?_ ?_
  rotate_left
  ·simp only [putAll, Act.put, List.setIfInBounds_toArray, List.set_cons_zero, List.set_cons_succ]
   rfl
  have hHeld : w8.cell? ⟨g, 0, none⟩ = some (jp) ∧ w8.cell? ⟨g, 1, none⟩ = some (.int .i64 o) ∧ w8.cell? ⟨g, 2, none⟩ = some (.int .i64 mtu) ∧ w8.cell? ⟨g, 3, none⟩ = some (.int .i64 push) ∧ w8.cell? ⟨g, 4, none⟩ = some (.slice A4 rK.length c4) ∧ w8.cell? ⟨g, 5, none⟩ = some (.slice A7 (rP.drop 1).length c7) ∧ w8.cell? ⟨g, 6, none⟩ = some (vo) ∧ w8.cell? ⟨gr, 0, none⟩ = some (.int .i64 r0) ∧ w8.cell? ⟨gr, 1, none⟩ = some (.int .i64 r1) ∧ w8.cell? ⟨gr, 2, none⟩ = some (.slice B nb cb) := (j7_ a0 (p3_ a3))
  refine oP 9 (some 49) (fun K_ hK_ => ?_)
  refine Own.append_flat_step (Kd.raw 3) flatRaw O8.out (i := 5) rfl (O8.out.nreads (i := 6) rfl).2.2 rfl (by rfl) (.tmp 46) (.tmp 48) 40 (.agg #[.int .i64 0, .int .i64 0, .slice none 0 0]) 40 rfl Tryd.underlying40 infoR rfl (by decide) (by decide) rfl rfl (by have := HL.out; omega) ?_
  intro C4 e4 w9 o_ k_
  obtain ⟨O9, K9⟩ := ok_ K8 o_ k_
  clear a0 a3 O8 K8 o_ k_
  have a0 := k7_ O9 0
  have a3 := k3_ O9 3
  clear hHeld
  refine hK_.out _ _ (j7_ a0 (p3_ a3)) (fun hHeld => ?_)
  clear hK_ K_
  refine nP ?_
  refine pP 10 (some 50) ?_
  refine pP 11 (some 51) ?_
  refine lP 12 none (fun K_ hK_ => ?_)
  refine xS 0 4 [.slice C4 (rK ++ [rw3 r0 r1 (.slice B nb cb)]).length e4] O9 ?_
  intro w10 o_ k_
  obtain ⟨O10, K10⟩ := ok_ K9 o_ k_
  clear a0 a3 O9 K9 o_ k_
  have a0 := k7_ O10 0
  have a3 := k3_ O10 3
  refine hK_.out _ _ ?_
  clear hK_ K_
  refine done_ (by kernel_rfl) ?_
  clear hHeld
  go_wp2
  go_ret
  exact ⟨C4, e4, A7, c7, rfl, O10.out.pickL [0, 5, 4] (by decide) (by simp), K10.out⟩
theorem DTake_other {N : Nat → Prop} {w : World} {g : Nat} {jp vo : Value} {o mtu push : Int} {A4 A5 : Option Addr} {c4 c5 : Nat} {rK rP : List (List Value)} (r0 r1 : Int) (B : Option Addr) (nb cb : Nat) (h : Own N w [cells g #[jp, .int .i64 o, .int .i64 mtu, .int .i64 push, .slice A4 rK.length c4, .slice A5 rP.length c5, vo] 44, nrow (Kd.raw 3) 35 (.slice A4 rK.length c4) rK, nrow (Kd.raw 3) 35 (.slice A5 rP.length c5) rP]) (hL : rK.length + rP.length ≤ 1000000) (ho : r0 ≠ o) :
  Calls Tryd.prog 60 #[.pointer (some ⟨g, 0, none⟩), .agg #[.int .i64 r0, .int .i64 r1, .slice B nb cb]] w fun e_ w' => ∃ C4 e4, e_ = .returned (.int .i64 0) ∧ Own N w' [cells g #[jp, .int .i64 o, .int .i64 mtu, .int .i64 push, .slice C4 (rK ++ [rw3 r0 r1 (.slice B nb cb)]).length e4, .slice A5 rP.length c5, vo] 44, nrow (Kd.raw 3) 35 (.slice C4 (rK ++ [rw3 r0 r1 (.slice B nb cb)]).length e4) (rK ++ [rw3 r0 r1 (.slice B nb cb)]), nrow (Kd.raw 3) 35 (.slice A5 rP.length c5) rP] ∧ KeepS N w w' := by
 have d1 : (r0 == o) = false := beq_eq_false_iff_ne.mpr ho
 have HL := Aside0.mk hL
 have O0 : Aside0 (Own N w [cells g #[jp, .int .i64 o, .int .i64 mtu, .int .i64 push, .slice A4 rK.length c4, .slice A5 rP.length c5, vo] 44, nrow (Kd.raw 3) 35 (.slice A4 rK.length c4) rK, nrow (Kd.raw 3) 35 (.slice A5 rP.length c5) rP]) := ⟨h⟩
 have K0 : Aside0 (KeepS N w w) := ⟨KeepS.refl _ _⟩
 have a0 := k7_ O0 0
 clear h hL ho
 go_enter Tryd.func60, Tryd.ntmps60
 go_wp2_with (first | ((with_reducible refine gD 3 rfl ?_); refine bP 3 #[.int .i64 r0, .int .i64 r1, .slice B nb cb] 35 O0.out ?_; intro gr w1 o_ k_; obtain ⟨O1, K1⟩ := ok_ K0 o_ k_; clear a0 O0 K0 o_ k_; have a0 := k7_ O1 0; have a3 := k3_ O1 3))
 refine sP (n := 7) (S := fun w' => w'.cell? ⟨g, 0, none⟩ = some (jp) ∧ w'.cell? ⟨g, 1, none⟩ = some (.int .i64 o) ∧ w'.cell? ⟨g, 2, none⟩ = some (.int .i64 mtu) ∧ w'.cell? ⟨g, 3, none⟩ = some (.int .i64 push) ∧ w'.cell? ⟨g, 4, none⟩ = some (.slice A4 rK.length c4) ∧ w'.cell? ⟨g, 5, none⟩ = some (.slice A5 rP.length c5) ∧ w'.cell? ⟨g, 6, none⟩ = some (vo) ∧ w'.cell? ⟨gr, 0, none⟩ = some (.int .i64 r0) ∧ w'.cell? ⟨gr, 1, none⟩ = some (.int .i64 r1) ∧ w'.cell? ⟨gr, 2, none⟩ = some (.slice B nb cb)) (ds := []) (j7_ a0 (p3_ a3)) (fun hHeld => ?_)
 obtain ⟨w2, hw_⟩ : ∃ W, W = w1.drew := ⟨_, rfl⟩
 have o_ := O1.out.drew
 have k_ : KeepS N w1 w1.drew := KeepS.drew
 rw [← hw_] at o_ k_ hHeld ⊢
 clear hw_
 obtain ⟨O2, K2⟩ := ok_ K1 o_ k_
 clear a0 a3 O1 K1 o_ k_
 have a0 := k7_ O2 0
 have a3 := k3_ O2 3
 refine pP 0 (some 5) ?_
 refine pP 2 (some 7) ?_
 refine pP 3 (some 8) ?_
 refine pP 4 (some 9) ?_
 refine tP 1 (some 6) hHeld ?_
 refine tP 5 (some 10) hHeld ?_
 refine pP 6 (some 11) ?_
 refine done_ (by kernel_rfl) ?_
 clear hHeld
 go_wp2
 refine sP (n := 13) (S := fun w' => w'.cell? ⟨g, 0, none⟩ = some (jp) ∧ w'.cell? ⟨g, 1, none⟩ = some (.int .i64 o) ∧ w'.cell? ⟨g, 2, none⟩ = some (.int .i64 mtu) ∧ w'.cell? ⟨g, 3, none⟩ = some (.int .i64 push) ∧ w'.cell? ⟨g, 4, none⟩ = some (.slice A4 rK.length c4) ∧ w'.cell? ⟨g, 5, none⟩ = some (.slice A5 rP.length c5) ∧ w'.cell? ⟨g, 6, none⟩ = some (vo) ∧ w'.cell? ⟨gr, 0, none⟩ = some (.int .i64 r0) ∧ w'.cell? ⟨gr, 1, none⟩ = some (.int .i64 r1) ∧ w'.cell? ⟨gr, 2, none⟩ = some (.slice B nb cb)) (ds := [12]) (j7_ a0 (p3_ a3)) (fun hHeld => ?_)
 obtain ⟨w3, hw_⟩ : ∃ W, W = w2.drew := ⟨_, rfl⟩
 have o_ := O2.out.drew
 have k_ : KeepS N w2 w2.drew := KeepS.drew
 rw [← hw_] at o_ k_ hHeld ⊢
 clear hw_
 obtain ⟨O3, K3⟩ := ok_ K2 o_ k_
 clear a0 a3 O2 K2 o_ k_
 have a0 := k7_ O3 0
 have a3 := k3_ O3 3
 refine pP 0 (some 40) ?_
 refine pP 2 (some 42) ?_
 refine pP 3 (some 43) ?_
 refine pP 4 (some 44) ?_
 refine tP 5 (some 45) hHeld ?_
 refine tP 7 (some 47) hHeld ?_
 refine join_ (σ := Option Addr × Nat × Option Addr × Nat × Option Addr × Nat) 4 #[true, true, true, true, true, true, true, true, true, false, false, false, false] (fun ⟨C2, e2, C3, e3, D1, h1_⟩ => [(41, .slice C2 0 e2), (46, .slice C3 rK.length e3), (48, .slice D1 1 h1_)]) (fun ⟨C2, e2, C3, e3, D1, h1_⟩ w' => Own N w' [cells g #[jp, .int .i64 o, .int .i64 mtu, .int .i64 push, .slice A4 rK.length c4, .slice A5 rP.length c5, vo] 44, nrow (Kd.raw 3) 35 (.slice A4 rK.length c4) rK, nrow (Kd.raw 3) 35 (.slice A5 rP.length c5) rP, cells gr #[.int .i64 r0, .int .i64 r1, .slice B nb cb] 35, nrow (Kd.raw 3) 35 (.slice C3 rK.length e3) rK, nrow (Kd.raw 3) 35 (.slice D1 1 h1_) [rw3 r0 r1 (.slice B nb cb)]] ∧ KeepS N w3 w') ?hcont ?hways
 case hways =>
  intro hc_
  have K4 : Aside0 (KeepS N w3 w3) := ⟨KeepS.refl _ _⟩
  have O4 : Aside0 (Own N w3 [cells g #[jp, .int .i64 o, .int .i64 mtu, .int .i64 push, .slice A4 rK.length c4, .slice A5 rP.length c5, vo] 44, nrow (Kd.raw 3) 35 (.slice A4 rK.length c4) rK, nrow (Kd.raw 3) 35 (.slice A5 rP.length c5) rP, cells gr #[.int .i64 r0, .int .i64 r1, .slice B nb cb] 35]) := O3
  refine two_ (i := 1) (j := 8) (Ni := some 41) (Nj := some 48) #[true, true, true, true, true, true, false, true, false, false, false, false, false] #[true, false, true, true, true, true, false, true, true, false, false, false, false] rfl rfl rfl rfl (by kernel_rfl) (by decide) (by decide) (fun K_ hK_ => ?_) (fun K_ hK_ => ?_)
  ·skip
   refine own_lit_step (Kd.raw 3) (N := N) (e := 35) (xs := []) (inner := []) rfl rfl gs_ (Reps.none _ _) (by decide) O4.out ?_
   intro C2 e2 w5 o_ k_
   obtain ⟨O5, K5⟩ := ok_ K4 o_ k_
   clear a0 a3 O4 K4 o_ k_
   have a0 := k7_ O5 0
   have a3 := k3_ O5 3
   clear hHeld
   refine hK_.out _ _ (j7_ a0 (p3_ a3)) (fun hHeld => ?_)
   clear hK_ K_
   refine norm_ (a' := ?_) ?_ ?_
   rotate_left
   ·simp only [Act.put, List.setIfInBounds_toArray, List.set_cons_zero, List.set_cons_succ, i64_w, i32_w]
    rfl
   refine two_ (i := 6) (j := 8) (Ni := some 46) (Nj := some 48) #[true, true, true, true, true, true, true, true, false, false, false, false, false] #[true, true, true, true, true, true, false, true, true, false, false, false, false] rfl rfl rfl rfl (by kernel_rfl) (by decide) (by decide) (fun K_ hK_ => ?_) (fun K_ hK_ => ?_)
   ·skip
    refine Own.append_flat_step (Kd.raw 3) flatRaw O5.out (i := 4) rfl (O5.out.nreads (i := 1) rfl).2.2 rfl (by rfl) (.tmp 41) (.tmp 45) 40 (.agg #[.int .i64 0, .int .i64 0, .slice none 0 0]) 40 rfl Tryd.underlying40 infoR rfl (by decide) (by decide) rfl rfl (by have := HL.out; simp only [List.length_nil]; omega) ?_
    intro C3 e3 w6 o_ k_
    obtain ⟨O6, K6⟩ := ok_ K5 o_ k_
    clear a0 a3 O5 K5 o_ k_
    have a0 := k7_ O6 0
    have a3 := k3_ O6 3
    clear hHeld
    refine hK_.out _ _ (j7_ a0 (p3_ a3)) (fun hHeld => ?_)
    clear hK_ K_
    refine norm_ (a' := ?_) ?_ ?_
    rotate_left
    ·simp only [Act.put, List.setIfInBounds_toArray, List.set_cons_zero, List.set_cons_succ, i64_w, i32_w]
     rfl
    refine one_ (i := 8) (N := some 48) #[true, true, true, true, true, true, true, true, true, false, false, false, false] rfl rfl (by kernel_rfl) (by decide) (fun K_ hK_ => ?_)
    refine own_lit_step (Kd.raw 3) (N := N) (e := 35) (xs := [rw3 r0 r1 (.slice B nb cb)]) (inner := [.int .i64 r0, .int .i64 r1, .slice B nb cb]) rfl rfl gs_ (repW _ r0 r1 B nb cb) (by show 1 ≤ 9223372036854775807; decide) O6.out ?_
    intro D1 h1_ w7 o_ k_
    obtain ⟨O7, K7⟩ := ok_ K6 o_ k_
    clear a0 a3 O6 K6 o_ k_
    have a0 := k7_ O7 0
    have a3 := k3_ O7 3
    clear hHeld
    refine hK_.out _ _ (j7_ a0 (p3_ a3)) (fun hHeld => ?_)
    clear hK_ K_
    refine norm_ (a' := ?_) ?_ ?_
    rotate_left
    ·simp only [Act.put, List.setIfInBounds_toArray, List.set_cons_zero, List.set_cons_succ, i64_w, i32_w]
     rfl
    refine norm_ (a' := _) ?_ (hc_ ⟨C2, e2, C3, e3, D1, h1_⟩ _ ⟨?_, K7.out⟩)
    ·simp only [putAll, Act.put, List.setIfInBounds_toArray, List.set_cons_zero, List.set_cons_succ]
     try rfl
    ·exact O7.out.pickL [0, 1, 2, 3, 4, 5] (by decide) (by simp)
   ·skip
    refine own_lit_step (Kd.raw 3) (N := N) (e := 35) (xs := [rw3 r0 r1 (.slice B nb cb)]) (inner := [.int .i64 r0, .int .i64 r1, .slice B nb cb]) rfl rfl gs_ (repW _ r0 r1 B nb cb) (by show 1 ≤ 9223372036854775807; decide) O5.out ?_
    intro D1 h1_ w6 o_ k_
    obtain ⟨O6, K6⟩ := ok_ K5 o_ k_
    clear a0 a3 O5 K5 o_ k_
    have a0 := k7_ O6 0
    have a3 := k3_ O6 3
    clear hHeld
    refine hK_.out _ _ (j7_ a0 (p3_ a3)) (fun hHeld => ?_)
    clear hK_ K_
    refine norm_ (a' := ?_) ?_ ?_
    rotate_left
    ·simp only [Act.put, List.setIfInBounds_toArray, List.set_cons_zero, List.set_cons_succ, i64_w, i32_w]
     rfl
    refine one_ (i := 6) (N := some 46) #[true, true, true, true, true, true, true, true, true, false, false, false, false] rfl rfl (by kernel_rfl) (by decide) (fun K_ hK_ => ?_)
    refine Own.append_flat_step (Kd.raw 3) flatRaw O6.out (i := 4) rfl (O6.out.nreads (i := 1) rfl).2.2 rfl (by rfl) (.tmp 41) (.tmp 45) 40 (.agg #[.int .i64 0, .int .i64 0, .slice none 0 0]) 40 rfl Tryd.underlying40 infoR rfl (by decide) (by decide) rfl rfl (by have := HL.out; simp only [List.length_nil]; omega) ?_
    intro C3 e3 w7 o_ k_
    obtain ⟨O7, K7⟩ := ok_ K6 o_ k_
    clear a0 a3 O6 K6 o_ k_
    have a0 := k7_ O7 0
    have a3 := k3_ O7 3
    clear hHeld
    refine hK_.out _ _ (j7_ a0 (p3_ a3)) (fun hHeld => ?_)
    clear hK_ K_
    refine norm_ (a' := ?_) ?_ ?_
    rotate_left
    ·simp only [Act.put, List.setIfInBounds_toArray, List.set_cons_zero, List.set_cons_succ, i64_w, i32_w]
     rfl
    refine norm_ (a' := _) ?_ (hc_ ⟨C2, e2, C3, e3, D1, h1_⟩ _ ⟨?_, K7.out⟩)
    ·simp only [putAll, Act.put, List.setIfInBounds_toArray, List.set_cons_zero, List.set_cons_succ]
     try rfl
    ·exact O7.out.pickL [0, 1, 2, 3, 4, 5] (by decide) (by simp)
  ·skip
   refine own_lit_step (Kd.raw 3) (N := N) (e := 35) (xs := [rw3 r0 r1 (.slice B nb cb)]) (inner := [.int .i64 r0, .int .i64 r1, .slice B nb cb]) rfl rfl gs_ (repW _ r0 r1 B nb cb) (by show 1 ≤ 9223372036854775807; decide) O4.out ?_
   intro D1 h1_ w5 o_ k_
   obtain ⟨O5, K5⟩ := ok_ K4 o_ k_
   clear a0 a3 O4 K4 o_ k_
   have a0 := k7_ O5 0
   have a3 := k3_ O5 3
   clear hHeld
   refine hK_.out _ _ (j7_ a0 (p3_ a3)) (fun hHeld => ?_)
   clear hK_ K_
   refine norm_ (a' := ?_) ?_ ?_
   rotate_left
   ·simp only [Act.put, List.setIfInBounds_toArray, List.set_cons_zero, List.set_cons_succ, i64_w, i32_w]
    rfl
   refine one_ (i := 1) (N := some 41) #[true, true, true, true, true, true, false, true, true, false, false, false, false] rfl rfl (by kernel_rfl) (by decide) (fun K_ hK_ => ?_)
   refine own_lit_step (Kd.raw 3) (N := N) (e := 35) (xs := []) (inner := []) rfl rfl gs_ (Reps.none _ _) (by decide) O5.out ?_
   intro C2 e2 w6 o_ k_
   obtain ⟨O6, K6⟩ := ok_ K5 o_ k_
   clear a0 a3 O5 K5 o_ k_
   have a0 := k7_ O6 0
   have a3 := k3_ O6 3
   clear hHeld
   refine hK_.out _ _ (j7_ a0 (p3_ a3)) (fun hHeld => ?_)
   clear hK_ K_
   refine norm_ (a' := ?_) ?_ ?_
   rotate_left
   ·simp only [Act.put, List.setIfInBounds_toArray, List.set_cons_zero, List.set_cons_succ, i64_w, i32_w]
    rfl
   refine one_ (i := 6) (N := some 46) #[true, true, true, true, true, true, true, true, true, false, false, false, false] rfl rfl (by kernel_rfl) (by decide) (fun K_ hK_ => ?_)
   refine Own.append_flat_step (Kd.raw 3) flatRaw O6.out (i := 5) rfl (O6.out.nreads (i := 1) rfl).2.2 rfl (by rfl) (.tmp 41) (.tmp 45) 40 (.agg #[.int .i64 0, .int .i64 0, .slice none 0 0]) 40 rfl Tryd.underlying40 infoR rfl (by decide) (by decide) rfl rfl (by have := HL.out; simp only [List.length_nil]; omega) ?_
   intro C3 e3 w7 o_ k_
   obtain ⟨O7, K7⟩ := ok_ K6 o_ k_
   clear a0 a3 O6 K6 o_ k_
   have a0 := k7_ O7 0
   have a3 := k3_ O7 3
   clear hHeld
   refine hK_.out _ _ (j7_ a0 (p3_ a3)) (fun hHeld => ?_)
   clear hK_ K_
   refine norm_ (a' := ?_) ?_ ?_
   rotate_left
   ·simp only [Act.put, List.setIfInBounds_toArray, List.set_cons_zero, List.set_cons_succ, i64_w, i32_w]
    rfl
   refine norm_ (a' := _) ?_ (hc_ ⟨C2, e2, C3, e3, D1, h1_⟩ _ ⟨?_, K7.out⟩)
   ·simp only [putAll, Act.put, List.setIfInBounds_toArray, List.set_cons_zero, List.set_cons_succ]
    try rfl
   ·exact O7.out.pickL [0, 1, 2, 3, 5, 4] (by decide) (by simp)
 case hcont =>
  clear hHeld
  rintro ⟨C2, e2, C3, e3, D1, h1_⟩ w4 ⟨o_, k_⟩
  obtain ⟨O4, K4⟩ := ok_ K3 o_ k_
  clear a0 a3 O3 K3 o_ k_
  have a0 := k7_ O4 0
  have a3 := k3_ O4 3
  refine norm_ (a' := ?_) ?_ ?_
  rotate_left
  ·simp only [putAll, Act.put, List.setIfInBounds_toArray, List.set_cons_zero, List.set_cons_succ]
   rfl
  have hHeld : w4.cell? ⟨g, 0, none⟩ = some (jp) ∧ w4.cell? ⟨g, 1, none⟩ = some (.int .i64 o) ∧ w4.cell? ⟨g, 2, none⟩ = some (.int .i64 mtu) ∧ w4.cell? ⟨g, 3, none⟩ = some (.int .i64 push) ∧ w4.cell? ⟨g, 4, none⟩ = some (.slice A4 rK.length c4) ∧ w4.cell? ⟨g, 5, none⟩ = some (.slice A5 rP.length c5) ∧ w4.cell? ⟨g, 6, none⟩ = some (vo) ∧ w4.cell? ⟨gr, 0, none⟩ = some (.int .i64 r0) ∧ w4.cell? ⟨gr, 1, none⟩ = some (.int .i64 r1) ∧ w4.cell? ⟨gr, 2, none⟩ = some (.slice B nb cb) := (j7_ a0 (p3_ a3))
  refine oP 9 (some 49) (fun K_ hK_ => ?_)
  refine Own.append_flat_step (Kd.raw 3) flatRaw O4.out (i := 4) rfl (O4.out.nreads (i := 5) rfl).2.2 rfl (by rfl) (.tmp 46) (.tmp 48) 40 (.agg #[.int .i64 0, .int .i64 0, .slice none 0 0]) 40 rfl Tryd.underlying40 infoR rfl (by decide) (by decide) rfl rfl (by have := HL.out; omega) ?_
  intro C4 e4 w5 o_ k_
  obtain ⟨O5, K5⟩ := ok_ K4 o_ k_
  clear a0 a3 O4 K4 o_ k_
  have a0 := k7_ O5 0
  have a3 := k3_ O5 3
  clear hHeld
  refine hK_.out _ _ (j7_ a0 (p3_ a3)) (fun hHeld => ?_)
  clear hK_ K_
  refine nP ?_
  refine pP 10 (some 50) ?_
  refine pP 11 (some 51) ?_
  refine lP 12 none (fun K_ hK_ => ?_)
  refine xS 0 4 [.slice C4 (rK ++ [rw3 r0 r1 (.slice B nb cb)]).length e4] O5 ?_
  intro w6 o_ k_
  obtain ⟨O6, K6⟩ := ok_ K5 o_ k_
  clear a0 a3 O5 K5 o_ k_
  have a0 := k7_ O6 0
  have a3 := k3_ O6 3
  refine hK_.out _ _ ?_
  clear hK_ K_
  refine done_ (by kernel_rfl) ?_
  clear hHeld
  go_wp2
  go_ret
  exact ⟨C4, e4, rfl, O6.out.pickL [0, 4, 2] (by decide) (by simp), K6.out⟩
theorem DJAdd_E {N : Nat → Prop} {w : World} {gj : Nat} {jo jm : Int} {AJ : Option Addr} {cJ : Nat} {rJ : List (List Value)} (E : Int) (B : Option Addr) (c : Nat) (ups : List Upd7) (h : Own N w [cells gj #[.int .i64 jo, .int .i64 jm, .slice AJ rJ.length cJ] 64, nrow (Kd.raw 3) 35 (.slice AJ rJ.length cJ) rJ]) (hr : Kd.F k32 w N B ups.length ups) (hc : ups.length ≤ c) (hL : rJ.length ≤ 1000000) (hu : ups.length ≤ 1000000) (hE : dE jo jm rJ.length ups = E) (h0 : E ≠ 0) :
  Calls Tryd.prog 89 #[.pointer (some ⟨gj, 0, none⟩), .slice B ups.length c] w fun e_ w' => e_ = .returned (.tuple #[.agg #[.int .i64 0, .int .i64 0, .slice none 0 0], .int .i64 E]) ∧ Own N w' [cells gj #[.int .i64 jo, .int .i64 jm, .slice AJ rJ.length cJ] 64, nrow (Kd.raw 3) 35 (.slice AJ rJ.length cJ) rJ] ∧ KeepS N w w' := by
 subst hE
 unfold dE at h0 ⊢
 by_cases hq : (rJ.length : Int) ≥ jm
 ·rw [if_pos hq]
  exact DJAdd_full B c ups h hr hc hL hu hq
 ·rw [if_neg hq] at h0 ⊢
  exact DJAdd_no B c ups h hr hc hL hu hq h0
theorem DJAdd_y {N : Nat → Prop} {w : World} {gj : Nat} {jo jm : Int} {AJ : Option Addr} {cJ : Nat} {rJ : List (List Value)} (n1 : Int) (B : Option Addr) (c : Nat) (ups : List Upd7) (h : Own N w [cells gj #[.int .i64 jo, .int .i64 jm, .slice AJ rJ.length cJ] 64, nrow (Kd.raw 3) 35 (.slice AJ rJ.length cJ) rJ]) (hr : Kd.F k32 w N B ups.length ups) (hc : ups.length ≤ c) (hL : rJ.length ≤ 1000000) (hu : ups.length ≤ 1000000) (hE : dE jo jm rJ.length ups = 0) (hn : (rJ.length : Int) + 1 = n1) :
  Calls Tryd.prog 89 #[.pointer (some ⟨gj, 0, none⟩), .slice B ups.length c] w fun e_ w' => ∃ B1 b1_ C5 e5, e_ = .returned (.tuple #[.agg #[.int .i64 jo, .int .i64 n1, .slice B1 ups.length b1_], .int .i64 0]) ∧ ups.length ≤ b1_ ∧ Own N w' [cells gj #[.int .i64 jo, .int .i64 jm, .slice C5 (rJ ++ [rw3 jo n1 (.slice B1 ups.length b1_)]).length e5] 64, nrow (Kd.raw 3) 35 (.slice C5 (rJ ++ [rw3 jo n1 (.slice B1 ups.length b1_)]).length e5) (rJ ++ [rw3 jo n1 (.slice B1 ups.length b1_)]), nrow k32 32 (.slice B1 ups.length b1_) ups] ∧ KeepS N w w' := by
 subst hn
 unfold dE at hE
 by_cases hq : (rJ.length : Int) ≥ jm
 ·rw [if_pos hq] at hE
  cases hE
 ·rw [if_neg hq] at hE
  exact DJAdd_ok B c ups h hr hc hL hu hq hE
theorem DPush_none {N : Nat → Prop} {w : World} {g gj : Nat} {vk : Value} {o mtu push jo jm : Int} {AJ A5 A6 : Option Addr} {cJ c5 c6 : Nat} {rJ rP : List (List Value)} {U : List Upd7} (h : Own N w [cells gj #[.int .i64 jo, .int .i64 jm, .slice AJ rJ.length cJ] 64, nrow (Kd.raw 3) 35 (.slice AJ rJ.length cJ) rJ, cells g #[.pointer (some ⟨gj, 0, none⟩), .int .i64 o, .int .i64 mtu, .int .i64 push, vk, .slice A5 rP.length c5, .slice A6 U.length c6] 44, nrow (Kd.raw 3) 35 (.slice A5 rP.length c5) rP, nrow k32 32 (.slice A6 U.length c6) U]) (hu : U.length ≤ 1000000) (hL : rJ.length ≤ 1000000) (hP : rP.length ≤ 1000000) (hu0 : U.length = 0) :
  Calls Tryd.prog 59 #[.pointer (some ⟨g, 0, none⟩)] w fun e_ w' => e_ = .returned (.tuple #[.agg #[.int .i64 0, .int .i64 0, .slice none 0 0], .int .i64 11]) ∧ Own N w' [cells gj #[.int .i64 jo, .int .i64 jm, .slice AJ rJ.length cJ] 64, nrow (Kd.raw 3) 35 (.slice AJ rJ.length cJ) rJ, cells g #[.pointer (some ⟨gj, 0, none⟩), .int .i64 o, .int .i64 mtu, .int .i64 push, vk, .slice A5 rP.length c5, .slice A6 U.length c6] 44, nrow (Kd.raw 3) 35 (.slice A5 rP.length c5) rP, nrow k32 32 (.slice A6 U.length c6) U] ∧ KeepS N w w' := by
 have d1 : ((U.length : Int) == 0) = true := by simp [hu0]
 have HUL := Aside0.mk hu
 have HL := Aside0.mk hL
 have HP := Aside0.mk hP
 have O0 : Aside0 (Own N w [cells gj #[.int .i64 jo, .int .i64 jm, .slice AJ rJ.length cJ] 64, nrow (Kd.raw 3) 35 (.slice AJ rJ.length cJ) rJ, cells g #[.pointer (some ⟨gj, 0, none⟩), .int .i64 o, .int .i64 mtu, .int .i64 push, vk, .slice A5 rP.length c5, .slice A6 U.length c6] 44, nrow (Kd.raw 3) 35 (.slice A5 rP.length c5) rP, nrow k32 32 (.slice A6 U.length c6) U]) := ⟨h⟩
 have K0 : Aside0 (KeepS N w w) := ⟨KeepS.refl _ _⟩
 have a0 := k3_ O0 0
 have a2 := k7_ O0 2
 clear h hu hL hP hu0
 go_enter Tryd.func59, Tryd.ntmps59
 go_wp2_with (first | ((with_reducible refine gD 2 rfl ?_); refine bP 2 #[.int .i64 0, .int .i64 0, .slice none 0 0] 35 O0.out ?_; intro gz w1 o_ k_; obtain ⟨O1, K1⟩ := ok_ K0 o_ k_; clear a0 a2 O0 K0 o_ k_; have a0 := k3_ O1 0; have a2 := k7_ O1 2; have a5 := k3_ O1 5) | ((with_reducible refine gT 35 2 rfl ?_); refine wS 5 0 [.int .i64 0, .int .i64 0, .slice none 0 0] O1 ?_; intro w2 o_ k_; obtain ⟨O2, K2⟩ := ok_ K1 o_ k_; clear a0 a2 a5 O1 K1 o_ k_; have a0 := k3_ O2 0; have a2 := k7_ O2 2; have a5 := k3_ O2 5))
 refine bodyPost_ret (results_ct rfl _ _ gz 35 #[.int .i64 0, .int .i64 0, .slice none 0 0] (0, 0) _ rfl (O2.out.blk (i := 5) rfl) Tryd.underlying35 rfl (by kernel_rfl)) rfl ?_
 exact ⟨rfl, O2.out.take 5, K2.out⟩
theorem DPush_full {N : Nat → Prop} {w : World} {g gj : Nat} {vk : Value} {o mtu push jo jm : Int} {AJ A5 A6 : Option Addr} {cJ c5 c6 : Nat} {rJ rP : List (List Value)} {U : List Upd7} (h : Own N w [cells gj #[.int .i64 jo, .int .i64 jm, .slice AJ rJ.length cJ] 64, nrow (Kd.raw 3) 35 (.slice AJ rJ.length cJ) rJ, cells g #[.pointer (some ⟨gj, 0, none⟩), .int .i64 o, .int .i64 mtu, .int .i64 push, vk, .slice A5 rP.length c5, .slice A6 U.length c6] 44, nrow (Kd.raw 3) 35 (.slice A5 rP.length c5) rP, nrow k32 32 (.slice A6 U.length c6) U]) (hu : U.length ≤ 1000000) (hL : rJ.length ≤ 1000000) (hP : rP.length ≤ 1000000) (hu0 : U.length ≠ 0) (hp : (rP.length : Int) ≥ push) :
  Calls Tryd.prog 59 #[.pointer (some ⟨g, 0, none⟩)] w fun e_ w' => e_ = .returned (.tuple #[.agg #[.int .i64 0, .int .i64 0, .slice none 0 0], .int .i64 7]) ∧ Own N w' [cells gj #[.int .i64 jo, .int .i64 jm, .slice AJ rJ.length cJ] 64, nrow (Kd.raw 3) 35 (.slice AJ rJ.length cJ) rJ, cells g #[.pointer (some ⟨gj, 0, none⟩), .int .i64 o, .int .i64 mtu, .int .i64 push, vk, .slice A5 rP.length c5, .slice A6 U.length c6] 44, nrow (Kd.raw 3) 35 (.slice A5 rP.length c5) rP, nrow k32 32 (.slice A6 U.length c6) U] ∧ KeepS N w w' := by
 have d1 : ((U.length : Int) == 0) = false := beq_eq_false_iff_ne.mpr (by omega)
 have d2 : decide ((rP.length : Int) ≥ push) = true := decide_eq_true hp
 have d3 : decide (push ≤ (rP.length : Int)) = true := d2
 have HUL := Aside0.mk hu
 have HL := Aside0.mk hL
 have HP := Aside0.mk hP
 have O0 : Aside0 (Own N w [cells gj #[.int .i64 jo, .int .i64 jm, .slice AJ rJ.length cJ] 64, nrow (Kd.raw 3) 35 (.slice AJ rJ.length cJ) rJ, cells g #[.pointer (some ⟨gj, 0, none⟩), .int .i64 o, .int .i64 mtu, .int .i64 push, vk, .slice A5 rP.length c5, .slice A6 U.length c6] 44, nrow (Kd.raw 3) 35 (.slice A5 rP.length c5) rP, nrow k32 32 (.slice A6 U.length c6) U]) := ⟨h⟩
 have K0 : Aside0 (KeepS N w w) := ⟨KeepS.refl _ _⟩
 have a0 := k3_ O0 0
 have a2 := k7_ O0 2
 clear h hu hL hP hu0 hp
 go_enter Tryd.func59, Tryd.ntmps59
 go_wp2_with (first | ((with_reducible refine gD 2 rfl ?_); refine bP 2 #[.int .i64 0, .int .i64 0, .slice none 0 0] 35 O0.out ?_; intro gz w1 o_ k_; obtain ⟨O1, K1⟩ := ok_ K0 o_ k_; clear a0 a2 O0 K0 o_ k_; have a0 := k3_ O1 0; have a2 := k7_ O1 2; have a5 := k3_ O1 5))
 refine sP (n := 10) (S := fun w' => w'.cell? ⟨g, 0, none⟩ = some (.pointer (some ⟨gj, 0, none⟩)) ∧ w'.cell? ⟨g, 1, none⟩ = some (.int .i64 o) ∧ w'.cell? ⟨g, 2, none⟩ = some (.int .i64 mtu) ∧ w'.cell? ⟨g, 3, none⟩ = some (.int .i64 push) ∧ w'.cell? ⟨g, 4, none⟩ = some (vk) ∧ w'.cell? ⟨g, 5, none⟩ = some (.slice A5 rP.length c5) ∧ w'.cell? ⟨g, 6, none⟩ = some (.slice A6 U.length c6)) (ds := []) (p7_ a2) (fun hHeld => ?_)
 obtain ⟨w2, hw_⟩ : ∃ W, W = w1.drew := ⟨_, rfl⟩
 have o_ := O1.out.drew
 have k_ : KeepS N w1 w1.drew := KeepS.drew
 rw [← hw_] at o_ k_ hHeld ⊢
 clear hw_
 obtain ⟨O2, K2⟩ := ok_ K1 o_ k_
 clear a0 a2 a5 O1 K1 o_ k_
 have a0 := k3_ O2 0
 have a2 := k7_ O2 2
 have a5 := k3_ O2 5
 refine pP 0 (some 13) ?_
 refine pP 1 (some 14) ?_
 refine pP 2 (some 15) ?_
 refine pP 5 (some 18) ?_
 refine pP 6 (some 19) ?_
 refine pP 7 (some 20) ?_
 refine tP 3 (some 16) hHeld ?_
 refine pP 4 (some 17) ?_
 refine tP 8 (some 21) hHeld ?_
 refine pP 9 (some 22) ?_
 refine done_ (by kernel_rfl) ?_
 clear hHeld
 go_wp2_with (first | ((with_reducible refine gT 35 2 rfl ?_); refine wS 5 0 [.int .i64 0, .int .i64 0, .slice none 0 0] O2 ?_; intro w3 o_ k_; obtain ⟨O3, K3⟩ := ok_ K2 o_ k_; clear a0 a2 a5 O2 K2 o_ k_; have a0 := k3_ O3 0; have a2 := k7_ O3 2; have a5 := k3_ O3 5))
 refine bodyPost_ret (results_ct rfl _ _ gz 35 #[.int .i64 0, .int .i64 0, .slice none 0 0] (0, 0) _ rfl (O3.out.blk (i := 5) rfl) Tryd.underlying35 rfl (by kernel_rfl)) rfl ?_
 exact ⟨rfl, O3.out.take 5, K3.out⟩
theorem DPush_err {N : Nat → Prop} {w : World} {g gj : Nat} {vk : Value} {o mtu push jo jm : Int} {AJ A5 A6 : Option Addr} {cJ c5 c6 : Nat} {rJ rP : List (List Value)} {U : List Upd7} (h : Own N w [cells gj #[.int .i64 jo, .int .i64 jm, .slice AJ rJ.length cJ] 64, nrow (Kd.raw 3) 35 (.slice AJ rJ.length cJ) rJ, cells g #[.pointer (some ⟨gj, 0, none⟩), .int .i64 o, .int .i64 mtu, .int .i64 push, vk, .slice A5 rP.length c5, .slice A6 U.length c6] 44, nrow (Kd.raw 3) 35 (.slice A5 rP.length c5) rP, nrow k32 32 (.slice A6 U.length c6) U]) (hu : U.length ≤ 1000000) (hL : rJ.length ≤ 1000000) (hP : rP.length ≤ 1000000) (E : Int) (hu0 : U.length ≠ 0) (hp : ¬ (rP.length : Int) ≥ push) (hE : dE jo jm rJ.length U = E) (h0 : E ≠ 0) :
  Calls Tryd.prog 59 #[.pointer (some ⟨g, 0, none⟩)] w fun e_ w' => e_ = .returned (.tuple #[.agg #[.int .i64 0, .int .i64 0, .slice none 0 0], .int .i64 E]) ∧ Own N w' [cells gj #[.int .i64 jo, .int .i64 jm, .slice AJ rJ.length cJ] 64, nrow (Kd.raw 3) 35 (.slice AJ rJ.length cJ) rJ, cells g #[.pointer (some ⟨gj, 0, none⟩), .int .i64 o, .int .i64 mtu, .int .i64 push, vk, .slice A5 rP.length c5, .slice A6 U.length c6] 44, nrow (Kd.raw 3) 35 (.slice A5 rP.length c5) rP, nrow k32 32 (.slice A6 U.length c6) U] ∧ KeepS N w w' := by
 have d1 : ((U.length : Int) == 0) = false := beq_eq_false_iff_ne.mpr (by omega)
 have d2 : decide ((rP.length : Int) ≥ push) = false := decide_eq_false (by omega)
 have d3 : decide (push ≤ (rP.length : Int)) = false := d2
 have d4 : (E != 0) = true := bne_iff_ne.mpr h0
 have HE := Aside0.mk hE
 have HE0 := Aside0.mk h0
 have HUL := Aside0.mk hu
 have HL := Aside0.mk hL
 have HP := Aside0.mk hP
 have O0 : Aside0 (Own N w [cells gj #[.int .i64 jo, .int .i64 jm, .slice AJ rJ.length cJ] 64, nrow (Kd.raw 3) 35 (.slice AJ rJ.length cJ) rJ, cells g #[.pointer (some ⟨gj, 0, none⟩), .int .i64 o, .int .i64 mtu, .int .i64 push, vk, .slice A5 rP.length c5, .slice A6 U.length c6] 44, nrow (Kd.raw 3) 35 (.slice A5 rP.length c5) rP, nrow k32 32 (.slice A6 U.length c6) U]) := ⟨h⟩
 have K0 : Aside0 (KeepS N w w) := ⟨KeepS.refl _ _⟩
 have a0 := k3_ O0 0
 have a2 := k7_ O0 2
 clear h hu hL hP hu0 hp hE h0
 go_enter Tryd.func59, Tryd.ntmps59
 go_wp2_with (first | ((with_reducible refine gD 2 rfl ?_); refine bP 2 #[.int .i64 0, .int .i64 0, .slice none 0 0] 35 O0.out ?_; intro gz w1 o_ k_; obtain ⟨O1, K1⟩ := ok_ K0 o_ k_; clear a0 a2 O0 K0 o_ k_; have a0 := k3_ O1 0; have a2 := k7_ O1 2; have a5 := k3_ O1 5))
 refine sP (n := 10) (S := fun w' => w'.cell? ⟨g, 0, none⟩ = some (.pointer (some ⟨gj, 0, none⟩)) ∧ w'.cell? ⟨g, 1, none⟩ = some (.int .i64 o) ∧ w'.cell? ⟨g, 2, none⟩ = some (.int .i64 mtu) ∧ w'.cell? ⟨g, 3, none⟩ = some (.int .i64 push) ∧ w'.cell? ⟨g, 4, none⟩ = some (vk) ∧ w'.cell? ⟨g, 5, none⟩ = some (.slice A5 rP.length c5) ∧ w'.cell? ⟨g, 6, none⟩ = some (.slice A6 U.length c6)) (ds := []) (p7_ a2) (fun hHeld => ?_)
 obtain ⟨w2, hw_⟩ : ∃ W, W = w1.drew := ⟨_, rfl⟩
 have o_ := O1.out.drew
 have k_ : KeepS N w1 w1.drew := KeepS.drew
 rw [← hw_] at o_ k_ hHeld ⊢
 clear hw_
 obtain ⟨O2, K2⟩ := ok_ K1 o_ k_
 clear a0 a2 a5 O1 K1 o_ k_
 have a0 := k3_ O2 0
 have a2 := k7_ O2 2
 have a5 := k3_ O2 5
 refine pP 0 (some 13) ?_
 refine pP 1 (some 14) ?_
 refine pP 2 (some 15) ?_
 refine pP 5 (some 18) ?_
 refine pP 6 (some 19) ?_
 refine pP 7 (some 20) ?_
 refine tP 3 (some 16) hHeld ?_
 refine pP 4 (some 17) ?_
 refine tP 8 (some 21) hHeld ?_
 refine pP 9 (some 22) ?_
 refine done_ (by kernel_rfl) ?_
 clear hHeld
 go_wp2
 refine sP (n := 15) (S := fun w' => w'.cell? ⟨g, 0, none⟩ = some (.pointer (some ⟨gj, 0, none⟩)) ∧ w'.cell? ⟨g, 1, none⟩ = some (.int .i64 o) ∧ w'.cell? ⟨g, 2, none⟩ = some (.int .i64 mtu) ∧ w'.cell? ⟨g, 3, none⟩ = some (.int .i64 push) ∧ w'.cell? ⟨g, 4, none⟩ = some (vk) ∧ w'.cell? ⟨g, 5, none⟩ = some (.slice A5 rP.length c5) ∧ w'.cell? ⟨g, 6, none⟩ = some (.slice A6 U.length c6)) (ds := []) (p7_ a2) (fun hHeld => ?_)
 obtain ⟨w3, hw_⟩ : ∃ W, W = w2.drew := ⟨_, rfl⟩
 have o_ := O2.out.drew
 have k_ : KeepS N w2 w2.drew := KeepS.drew
 rw [← hw_] at o_ k_ hHeld ⊢
 clear hw_
 obtain ⟨O3, K3⟩ := ok_ K2 o_ k_
 clear a0 a2 a5 O2 K2 o_ k_
 have a0 := k3_ O3 0
 have a2 := k7_ O3 2
 have a5 := k3_ O3 5
 refine pP 0 (some 25) ?_
 refine pP 1 (some 26) ?_
 refine pP 2 (some 27) ?_
 refine pP 4 (some 29) ?_
 refine pP 5 (some 30) ?_
 refine pP 6 (some 31) ?_
 refine tP 3 (some 28) hHeld ?_
 refine tP 7 (some 32) hHeld ?_
 refine join_ (σ := Nat) 2 #[true, true, true, true, true, true, true, true, true, true, true, true, true, false, false] (fun gr => [(33, .tuple #[.agg #[.int .i64 0, .int .i64 0, .slice none 0 0], .int .i64 E]), (24, .tuple #[.agg #[.int .i64 0, .int .i64 0, .slice none 0 0], .int .i64 E]), (34, .agg #[.int .i64 0, .int .i64 0, .slice none 0 0]), (35, .int .i64 E), (4, .pointer (some ⟨gr, 0, none⟩))]) (fun gr w' => Own N w' [cells gj #[.int .i64 jo, .int .i64 jm, .slice AJ rJ.length cJ] 64, nrow (Kd.raw 3) 35 (.slice AJ rJ.length cJ) rJ, cells g #[.pointer (some ⟨gj, 0, none⟩), .int .i64 o, .int .i64 mtu, .int .i64 push, vk, .slice A5 rP.length c5, .slice A6 U.length c6] 44, nrow (Kd.raw 3) 35 (.slice A5 rP.length c5) rP, nrow k32 32 (.slice A6 U.length c6) U, cells gz #[.int .i64 0, .int .i64 0, .slice none 0 0] 35, cells gr #[.int .i64 0, .int .i64 0, .slice none 0 0] 35] ∧ KeepS N w3 w') ?hcont ?hways
 case hways =>
  intro hc_
  have K4 : Aside0 (KeepS N w3 w3) := ⟨KeepS.refl _ _⟩
  have O4 : Aside0 (Own N w3 [cells gj #[.int .i64 jo, .int .i64 jm, .slice AJ rJ.length cJ] 64, nrow (Kd.raw 3) 35 (.slice AJ rJ.length cJ) rJ, cells g #[.pointer (some ⟨gj, 0, none⟩), .int .i64 o, .int .i64 mtu, .int .i64 push, vk, .slice A5 rP.length c5, .slice A6 U.length c6] 44, nrow (Kd.raw 3) 35 (.slice A5 rP.length c5) rP, nrow k32 32 (.slice A6 U.length c6) U, cells gz #[.int .i64 0, .int .i64 0, .slice none 0 0] 35]) := O3
  refine two_ (i := 8) (j := 12) (Ni := some 33) (Nj := some 4) #[true, true, true, true, true, true, true, true, true, false, false, false, false, false, false] #[true, true, true, true, true, true, true, true, false, false, false, false, true, false, false] rfl rfl rfl rfl (by kernel_rfl) (by decide) (by decide) (fun K_ hK_ => ?_) (fun K_ hK_ => ?_)
  ·skip
   refine hP Tryd.func89 #[.pointer (some ⟨gj, 0, none⟩), .slice A6 U.length c6] ?_
   obtain ⟨N_, on_, nn_, rr_, bb_⟩ := O4.out.frameL [0, 1] (by decide) (by simp)
   have hu_ := Kd.N_F (rr_ 4 _ (by decide) rfl)
   have hc_ := (O4.out.nreads (i := 4) rfl).2.1
   refine (DJAdd_E E A6 c6 U on_ hu_ hc_ HL.out HUL.out HE.out HE0.out).mono ?_
   rintro e_ w5 ⟨rfl, oo_, kk_⟩
   obtain ⟨o_, k_⟩ := bb_ _ [cells gj #[.int .i64 jo, .int .i64 jm, .slice AJ rJ.length cJ] 64, nrow (Kd.raw 3) 35 (.slice AJ rJ.length cJ) rJ] [] rfl kk_ oo_
   refine ⟨_, rfl, ?_⟩
   obtain ⟨O5, K5⟩ := ok_ K4 o_ k_
   clear a0 a2 a5 O4 K4 o_ k_ oo_ kk_ on_ nn_ rr_ bb_ hu_ hc_
   have a0 := k3_ O5 0
   have a2 := k7_ O5 2
   have a5 := k3_ O5 5
   clear hHeld
   refine hK_.out _ _ (p7_ a2) (fun hHeld => ?_)
   clear hK_ K_
   refine norm_ (a' := ?_) ?_ ?_
   rotate_left
   ·simp only [Act.put, List.setIfInBounds_toArray, List.set_cons_zero, List.set_cons_succ, i64_w, i32_w]
    rfl
   refine pP 9 (some 24) ?_
   refine pP 10 (some 34) ?_
   refine pP 11 (some 35) ?_
   refine one_ (i := 12) (N := some 4) #[true, true, true, true, true, true, true, true, true, true, true, true, true, false, false] rfl rfl (by kernel_rfl) (by decide) (fun K_ hK_ => ?_)
   refine cP #[.int .i64 0, .int .i64 0, .slice none 0 0] 35 O5.out ?_
   intro gr w6 o_ k_
   obtain ⟨O6, K6⟩ := ok_ K5 o_ k_
   clear a0 a2 a5 O5 K5 o_ k_
   have a0 := k3_ O6 0
   have a2 := k7_ O6 2
   have a5 := k3_ O6 5
   have a6 := k3_ O6 6
   clear hHeld
   refine hK_.out _ _ (p7_ a2) (fun hHeld => ?_)
   clear hK_ K_
   refine norm_ (a' := ?_) ?_ ?_
   rotate_left
   ·simp only [Act.put, List.setIfInBounds_toArray, List.set_cons_zero, List.set_cons_succ, i64_w, i32_w]
    rfl
   refine norm_ (a' := _) ?_ (hc_ gr _ ⟨?_, K6.out⟩)
   ·simp only [putAll, Act.put, List.setIfInBounds_toArray, List.set_cons_zero, List.set_cons_succ]
    try rfl
   ·exact O6.out.pickL [0, 1, 2, 3, 4, 5, 6] (by decide) (by simp)
  ·skip
   refine cP #[.int .i64 0, .int .i64 0, .slice none 0 0] 35 O4.out ?_
   intro gr w5 o_ k_
   obtain ⟨O5, K5⟩ := ok_ K4 o_ k_
   clear a0 a2 a5 O4 K4 o_ k_
   have a0 := k3_ O5 0
   have a2 := k7_ O5 2
   have a5 := k3_ O5 5
   have a6 := k3_ O5 6
   clear hHeld
   refine hK_.out _ _ (p7_ a2) (fun hHeld => ?_)
   clear hK_ K_
   refine norm_ (a' := ?_) ?_ ?_
   rotate_left
   ·simp only [Act.put, List.setIfInBounds_toArray, List.set_cons_zero, List.set_cons_succ, i64_w, i32_w]
    rfl
   refine one_ (i := 8) (N := some 33) #[true, true, true, true, true, true, true, true, true, false, false, false, true, false, false] rfl rfl (by kernel_rfl) (by decide) (fun K_ hK_ => ?_)
   refine hP Tryd.func89 #[.pointer (some ⟨gj, 0, none⟩), .slice A6 U.length c6] ?_
   obtain ⟨N_, on_, nn_, rr_, bb_⟩ := O5.out.frameL [0, 1] (by decide) (by simp)
   have hu_ := Kd.N_F (rr_ 4 _ (by decide) rfl)
   have hc_ := (O5.out.nreads (i := 4) rfl).2.1
   refine (DJAdd_E E A6 c6 U on_ hu_ hc_ HL.out HUL.out HE.out HE0.out).mono ?_
   rintro e_ w6 ⟨rfl, oo_, kk_⟩
   obtain ⟨o_, k_⟩ := bb_ _ [cells gj #[.int .i64 jo, .int .i64 jm, .slice AJ rJ.length cJ] 64, nrow (Kd.raw 3) 35 (.slice AJ rJ.length cJ) rJ] [] rfl kk_ oo_
   refine ⟨_, rfl, ?_⟩
   obtain ⟨O6, K6⟩ := ok_ K5 o_ k_
   clear a0 a2 a5 a6 O5 K5 o_ k_ oo_ kk_ on_ nn_ rr_ bb_ hu_ hc_
   have a0 := k3_ O6 0
   have a2 := k7_ O6 2
   have a5 := k3_ O6 5
   have a6 := k3_ O6 6
   clear hHeld
   refine hK_.out _ _ (p7_ a2) (fun hHeld => ?_)
   clear hK_ K_
   refine norm_ (a' := ?_) ?_ ?_
   rotate_left
   ·simp only [Act.put, List.setIfInBounds_toArray, List.set_cons_zero, List.set_cons_succ, i64_w, i32_w]
    rfl
   refine pP 9 (some 24) ?_
   refine pP 10 (some 34) ?_
   refine pP 11 (some 35) ?_
   refine norm_ (a' := _) ?_ (hc_ gr _ ⟨?_, K6.out⟩)
   ·simp only [putAll, Act.put, List.setIfInBounds_toArray, List.set_cons_zero, List.set_cons_succ]
    try rfl
   ·exact O6.out.pickL [0, 1, 2, 3, 4, 5, 6] (by decide) (by simp)
 case hcont =>
  clear hHeld
  rintro gr w4 ⟨o_, k_⟩
  obtain ⟨O4, K4⟩ := ok_ K3 o_ k_
  clear a0 a2 a5 O3 K3 o_ k_
  have a0 := k3_ O4 0
  have a2 := k7_ O4 2
  have a5 := k3_ O4 5
  have a6 := k3_ O4 6
  refine norm_ (a' := ?_) ?_ ?_
  rotate_left
  ·simp only [putAll, Act.put, List.setIfInBounds_toArray, List.set_cons_zero, List.set_cons_succ]
   rfl
  have hHeld : w4.cell? ⟨g, 0, none⟩ = some (.pointer (some ⟨gj, 0, none⟩)) ∧ w4.cell? ⟨g, 1, none⟩ = some (.int .i64 o) ∧ w4.cell? ⟨g, 2, none⟩ = some (.int .i64 mtu) ∧ w4.cell? ⟨g, 3, none⟩ = some (.int .i64 push) ∧ w4.cell? ⟨g, 4, none⟩ = some (vk) ∧ w4.cell? ⟨g, 5, none⟩ = some (.slice A5 rP.length c5) ∧ w4.cell? ⟨g, 6, none⟩ = some (.slice A6 U.length c6) := (p7_ a2)
  refine oP 13 none (fun K_ hK_ => ?_)
  refine xS 6 0 [.int .i64 0, .int .i64 0, .slice none 0 0] O4 ?_
  intro w5 o_ k_
  obtain ⟨O5, K5⟩ := ok_ K4 o_ k_
  clear a0 a2 a5 a6 O4 K4 o_ k_
  have a0 := k3_ O5 0
  have a2 := k7_ O5 2
  have a5 := k3_ O5 5
  have a6 := k3_ O5 6
  clear hHeld
  refine hK_.out _ _ (p7_ a2) (fun hHeld => ?_)
  clear hK_ K_
  refine pP 14 (some 5) ?_
  refine done_ (by kernel_rfl) ?_
  clear hHeld
  go_wp2_with (first | ((with_reducible refine gT 35 2 rfl ?_); refine wS 5 0 [.int .i64 0, .int .i64 0, .slice none 0 0] O5 ?_; intro w6 o_ k_; obtain ⟨O6, K6⟩ := ok_ K5 o_ k_; clear a0 a2 a5 a6 O5 K5 o_ k_; have a0 := k3_ O6 0; have a2 := k7_ O6 2; have a5 := k3_ O6 5; have a6 := k3_ O6 6))
  refine bodyPost_ret (results_ct rfl _ _ gz 35 #[.int .i64 0, .int .i64 0, .slice none 0 0] (0, 0) _ rfl (O6.out.blk (i := 5) rfl) Tryd.underlying35 rfl (by kernel_rfl)) rfl ?_
  exact ⟨rfl, O6.out.take 5, K6.out⟩
theorem DPush_ok {N : Nat → Prop} {w : World} {g gj : Nat} {vk : Value} {o mtu push jo jm : Int} {AJ A5 A6 : Option Addr} {cJ c5 c6 : Nat} {rJ rP : List (List Value)} {U : List Upd7} (h : Own N w [cells gj #[.int .i64 jo, .int .i64 jm, .slice AJ rJ.length cJ] 64, nrow (Kd.raw 3) 35 (.slice AJ rJ.length cJ) rJ, cells g #[.pointer (some ⟨gj, 0, none⟩), .int .i64 o, .int .i64 mtu, .int .i64 push, vk, .slice A5 rP.length c5, .slice A6 U.length c6] 44, nrow (Kd.raw 3) 35 (.slice A5 rP.length c5) rP, nrow k32 32 (.slice A6 U.length c6) U]) (hu : U.length ≤ 1000000) (hL : rJ.length ≤ 1000000) (hP : rP.length ≤ 1000000) (n1 : Int) (hu0 : U.length ≠ 0) (hp : ¬ (rP.length : Int) ≥ push) (hE : dE jo jm rJ.length U = 0) (hn : (rJ.length : Int) + 1 = n1) :
  Calls Tryd.prog 59 #[.pointer (some ⟨g, 0, none⟩)] w fun e_ w' => ∃ B1 b1_ C5 e5 C4 e4, e_ = .returned (.tuple #[.agg #[.int .i64 jo, .int .i64 n1, .slice B1 U.length b1_], .int .i64 0]) ∧ U.length ≤ b1_ ∧ Own N w' [cells gj #[.int .i64 jo, .int .i64 jm, .slice C5 (rJ ++ [rw3 jo n1 (.slice B1 U.length b1_)]).length e5] 64, nrow (Kd.raw 3) 35 (.slice C5 (rJ ++ [rw3 jo n1 (.slice B1 U.length b1_)]).length e5) (rJ ++ [rw3 jo n1 (.slice B1 U.length b1_)]), cells g #[.pointer (some ⟨gj, 0, none⟩), .int .i64 o, .int .i64 mtu, .int .i64 push, vk, .slice C4 (rP ++ [rw3 jo n1 (.slice B1 U.length b1_)]).length e4, .slice none 0 0] 44, nrow (Kd.raw 3) 35 (.slice C4 (rP ++ [rw3 jo n1 (.slice B1 U.length b1_)]).length e4) (rP ++ [rw3 jo n1 (.slice B1 U.length b1_)]), nrow k32 32 (.slice B1 U.length b1_) U] ∧ KeepS N w w' := by
 have d1 : ((U.length : Int) == 0) = false := beq_eq_false_iff_ne.mpr (by omega)
 have d2 : decide ((rP.length : Int) ≥ push) = false := decide_eq_false (by omega)
 have d3 : decide (push ≤ (rP.length : Int)) = false := d2
 have d4 : ((0 : Int) != 0) = false := by decide
 have HE := Aside0.mk hE
 have HN1 := Aside0.mk hn
 have HUL := Aside0.mk hu
 have HL := Aside0.mk hL
 have HP := Aside0.mk hP
 have O0 : Aside0 (Own N w [cells gj #[.int .i64 jo, .int .i64 jm, .slice AJ rJ.length cJ] 64, nrow (Kd.raw 3) 35 (.slice AJ rJ.length cJ) rJ, cells g #[.pointer (some ⟨gj, 0, none⟩), .int .i64 o, .int .i64 mtu, .int .i64 push, vk, .slice A5 rP.length c5, .slice A6 U.length c6] 44, nrow (Kd.raw 3) 35 (.slice A5 rP.length c5) rP, nrow k32 32 (.slice A6 U.length c6) U]) := ⟨h⟩
 have K0 : Aside0 (KeepS N w w) := ⟨KeepS.refl _ _⟩
 have a0 := k3_ O0 0
 have a2 := k7_ O0 2
 clear h hu hL hP hu0 hp hE hn
 go_enter Tryd.func59, Tryd.ntmps59
 go_wp2_with (first | ((with_reducible refine gD 2 rfl ?_); refine bP 2 #[.int .i64 0, .int .i64 0, .slice none 0 0] 35 O0.out ?_; intro gz w1 o_ k_; obtain ⟨O1, K1⟩ := ok_ K0 o_ k_; clear a0 a2 O0 K0 o_ k_; have a0 := k3_ O1 0; have a2 := k7_ O1 2; have a5 := k3_ O1 5))
 refine sP (n := 10) (S := fun w' => w'.cell? ⟨g, 0, none⟩ = some (.pointer (some ⟨gj, 0, none⟩)) ∧ w'.cell? ⟨g, 1, none⟩ = some (.int .i64 o) ∧ w'.cell? ⟨g, 2, none⟩ = some (.int .i64 mtu) ∧ w'.cell? ⟨g, 3, none⟩ = some (.int .i64 push) ∧ w'.cell? ⟨g, 4, none⟩ = some (vk) ∧ w'.cell? ⟨g, 5, none⟩ = some (.slice A5 rP.length c5) ∧ w'.cell? ⟨g, 6, none⟩ = some (.slice A6 U.length c6)) (ds := []) (p7_ a2) (fun hHeld => ?_)
 obtain ⟨w2, hw_⟩ : ∃ W, W = w1.drew := ⟨_, rfl⟩
 have o_ := O1.out.drew
 have k_ : KeepS N w1 w1.drew := KeepS.drew
 rw [← hw_] at o_ k_ hHeld ⊢
 clear hw_
 obtain ⟨O2, K2⟩ := ok_ K1 o_ k_
 clear a0 a2 a5 O1 K1 o_ k_
 have a0 := k3_ O2 0
 have a2 := k7_ O2 2
 have a5 := k3_ O2 5
 refine pP 0 (some 13) ?_
 refine pP 1 (some 14) ?_
 refine pP 2 (some 15) ?_
 refine pP 5 (some 18) ?_
 refine pP 6 (some 19) ?_
 refine pP 7 (some 20) ?_
 refine tP 3 (some 16) hHeld ?_
 refine pP 4 (some 17) ?_
 refine tP 8 (some 21) hHeld ?_
 refine pP 9 (some 22) ?_
 refine done_ (by kernel_rfl) ?_
 clear hHeld
 go_wp2
 refine sP (n := 15) (S := fun w' => w'.cell? ⟨g, 0, none⟩ = some (.pointer (some ⟨gj, 0, none⟩)) ∧ w'.cell? ⟨g, 1, none⟩ = some (.int .i64 o) ∧ w'.cell? ⟨g, 2, none⟩ = some (.int .i64 mtu) ∧ w'.cell? ⟨g, 3, none⟩ = some (.int .i64 push) ∧ w'.cell? ⟨g, 4, none⟩ = some (vk) ∧ w'.cell? ⟨g, 5, none⟩ = some (.slice A5 rP.length c5) ∧ w'.cell? ⟨g, 6, none⟩ = some (.slice A6 U.length c6)) (ds := []) (p7_ a2) (fun hHeld => ?_)
 obtain ⟨w3, hw_⟩ : ∃ W, W = w2.drew := ⟨_, rfl⟩
 have o_ := O2.out.drew
 have k_ : KeepS N w2 w2.drew := KeepS.drew
 rw [← hw_] at o_ k_ hHeld ⊢
 clear hw_
 obtain ⟨O3, K3⟩ := ok_ K2 o_ k_
 clear a0 a2 a5 O2 K2 o_ k_
 have a0 := k3_ O3 0
 have a2 := k7_ O3 2
 have a5 := k3_ O3 5
 refine pP 0 (some 25) ?_
 refine pP 1 (some 26) ?_
 refine pP 2 (some 27) ?_
 refine pP 4 (some 29) ?_
 refine pP 5 (some 30) ?_
 refine pP 6 (some 31) ?_
 refine tP 3 (some 28) hHeld ?_
 refine tP 7 (some 32) hHeld ?_
 refine join_ (σ := Option Addr × Nat × Option Addr × Nat × Nat) 2 #[true, true, true, true, true, true, true, true, true, true, true, true, true, false, false] (fun ⟨B1, b1_, C5, e5, gr⟩ => [(33, .tuple #[.agg #[.int .i64 jo, .int .i64 n1, .slice B1 U.length b1_], .int .i64 0]), (24, .tuple #[.agg #[.int .i64 jo, .int .i64 n1, .slice B1 U.length b1_], .int .i64 0]), (34, .agg #[.int .i64 jo, .int .i64 n1, .slice B1 U.length b1_]), (35, .int .i64 0), (4, .pointer (some ⟨gr, 0, none⟩))]) (fun ⟨B1, b1_, C5, e5, gr⟩ w' => Own N w' [cells gj #[.int .i64 jo, .int .i64 jm, .slice C5 (rJ ++ [rw3 jo n1 (.slice B1 U.length b1_)]).length e5] 64, nrow (Kd.raw 3) 35 (.slice C5 (rJ ++ [rw3 jo n1 (.slice B1 U.length b1_)]).length e5) (rJ ++ [rw3 jo n1 (.slice B1 U.length b1_)]), cells g #[.pointer (some ⟨gj, 0, none⟩), .int .i64 o, .int .i64 mtu, .int .i64 push, vk, .slice A5 rP.length c5, .slice A6 U.length c6] 44, nrow (Kd.raw 3) 35 (.slice A5 rP.length c5) rP, nrow k32 32 (.slice A6 U.length c6) U, cells gz #[.int .i64 0, .int .i64 0, .slice none 0 0] 35, nrow k32 32 (.slice B1 U.length b1_) U, cells gr #[.int .i64 0, .int .i64 0, .slice none 0 0] 35] ∧ KeepS N w3 w') ?hcont ?hways
 case hways =>
  intro hc_
  have K4 : Aside0 (KeepS N w3 w3) := ⟨KeepS.refl _ _⟩
  have O4 : Aside0 (Own N w3 [cells gj #[.int .i64 jo, .int .i64 jm, .slice AJ rJ.length cJ] 64, nrow (Kd.raw 3) 35 (.slice AJ rJ.length cJ) rJ, cells g #[.pointer (some ⟨gj, 0, none⟩), .int .i64 o, .int .i64 mtu, .int .i64 push, vk, .slice A5 rP.length c5, .slice A6 U.length c6] 44, nrow (Kd.raw 3) 35 (.slice A5 rP.length c5) rP, nrow k32 32 (.slice A6 U.length c6) U, cells gz #[.int .i64 0, .int .i64 0, .slice none 0 0] 35]) := O3
  refine two_ (i := 8) (j := 12) (Ni := some 33) (Nj := some 4) #[true, true, true, true, true, true, true, true, true, false, false, false, false, false, false] #[true, true, true, true, true, true, true, true, false, false, false, false, true, false, false] rfl rfl rfl rfl (by kernel_rfl) (by decide) (by decide) (fun K_ hK_ => ?_) (fun K_ hK_ => ?_)
  ·skip
   refine hP Tryd.func89 #[.pointer (some ⟨gj, 0, none⟩), .slice A6 U.length c6] ?_
   obtain ⟨N_, on_, nn_, rr_, bb_⟩ := O4.out.frameL [0, 1] (by decide) (by simp)
   have hu_ := Kd.N_F (rr_ 4 _ (by decide) rfl)
   have hc_ := (O4.out.nreads (i := 4) rfl).2.1
   refine (DJAdd_y n1 A6 c6 U on_ hu_ hc_ HL.out HUL.out HE.out HN1.out).mono ?_
   rintro e_ w5 ⟨B1, b1_, C5, e5, rfl, hb1_, oo_, kk_⟩
   obtain ⟨o_, k_⟩ := bb_ _ [cells gj #[.int .i64 jo, .int .i64 jm, .slice C5 (rJ ++ [rw3 jo n1 (.slice B1 U.length b1_)]).length e5] 64, nrow (Kd.raw 3) 35 (.slice C5 (rJ ++ [rw3 jo n1 (.slice B1 U.length b1_)]).length e5) (rJ ++ [rw3 jo n1 (.slice B1 U.length b1_)])] [nrow k32 32 (.slice B1 U.length b1_) U] rfl kk_ oo_
   refine ⟨_, rfl, ?_⟩
   obtain ⟨O5, K5⟩ := ok_ K4 o_ k_
   clear a0 a2 a5 O4 K4 o_ k_ oo_ kk_ on_ nn_ rr_ bb_ hu_ hc_ hb1_
   have a0 := k3_ O5 0
   have a2 := k7_ O5 2
   have a5 := k3_ O5 5
   clear hHeld
   refine hK_.out _ _ (p7_ a2) (fun hHeld => ?_)
   clear hK_ K_
   refine norm_ (a' := ?_) ?_ ?_
   rotate_left
   ·simp only [Act.put, List.setIfInBounds_toArray, List.set_cons_zero, List.set_cons_succ, i64_w, i32_w]
    rfl
   refine pP 9 (some 24) ?_
   refine pP 10 (some 34) ?_
   refine pP 11 (some 35) ?_
   refine one_ (i := 12) (N := some 4) #[true, true, true, true, true, true, true, true, true, true, true, true, true, false, false] rfl rfl (by kernel_rfl) (by decide) (fun K_ hK_ => ?_)
   refine cP #[.int .i64 0, .int .i64 0, .slice none 0 0] 35 O5.out ?_
   intro gr w6 o_ k_
   obtain ⟨O6, K6⟩ := ok_ K5 o_ k_
   clear a0 a2 a5 O5 K5 o_ k_
   have a0 := k3_ O6 0
   have a2 := k7_ O6 2
   have a5 := k3_ O6 5
   have a7 := k3_ O6 7
   clear hHeld
   refine hK_.out _ _ (p7_ a2) (fun hHeld => ?_)
   clear hK_ K_
   refine norm_ (a' := ?_) ?_ ?_
   rotate_left
   ·simp only [Act.put, List.setIfInBounds_toArray, List.set_cons_zero, List.set_cons_succ, i64_w, i32_w]
    rfl
   refine norm_ (a' := _) ?_ (hc_ ⟨B1, b1_, C5, e5, gr⟩ _ ⟨?_, K6.out⟩)
   ·simp only [putAll, Act.put, List.setIfInBounds_toArray, List.set_cons_zero, List.set_cons_succ]
    try rfl
   ·exact O6.out.pickL [0, 1, 2, 3, 4, 5, 6, 7] (by decide) (by simp)
  ·skip
   refine cP #[.int .i64 0, .int .i64 0, .slice none 0 0] 35 O4.out ?_
   intro gr w5 o_ k_
   obtain ⟨O5, K5⟩ := ok_ K4 o_ k_
   clear a0 a2 a5 O4 K4 o_ k_
   have a0 := k3_ O5 0
   have a2 := k7_ O5 2
   have a5 := k3_ O5 5
   have a6 := k3_ O5 6
   clear hHeld
   refine hK_.out _ _ (p7_ a2) (fun hHeld => ?_)
   clear hK_ K_
   refine norm_ (a' := ?_) ?_ ?_
   rotate_left
   ·simp only [Act.put, List.setIfInBounds_toArray, List.set_cons_zero, List.set_cons_succ, i64_w, i32_w]
    rfl
   refine one_ (i := 8) (N := some 33) #[true, true, true, true, true, true, true, true, true, false, false, false, true, false, false] rfl rfl (by kernel_rfl) (by decide) (fun K_ hK_ => ?_)
   refine hP Tryd.func89 #[.pointer (some ⟨gj, 0, none⟩), .slice A6 U.length c6] ?_
   obtain ⟨N_, on_, nn_, rr_, bb_⟩ := O5.out.frameL [0, 1] (by decide) (by simp)
   have hu_ := Kd.N_F (rr_ 4 _ (by decide) rfl)
   have hc_ := (O5.out.nreads (i := 4) rfl).2.1
   refine (DJAdd_y n1 A6 c6 U on_ hu_ hc_ HL.out HUL.out HE.out HN1.out).mono ?_
   rintro e_ w6 ⟨B1, b1_, C5, e5, rfl, hb1_, oo_, kk_⟩
   obtain ⟨o_, k_⟩ := bb_ _ [cells gj #[.int .i64 jo, .int .i64 jm, .slice C5 (rJ ++ [rw3 jo n1 (.slice B1 U.length b1_)]).length e5] 64, nrow (Kd.raw 3) 35 (.slice C5 (rJ ++ [rw3 jo n1 (.slice B1 U.length b1_)]).length e5) (rJ ++ [rw3 jo n1 (.slice B1 U.length b1_)])] [nrow k32 32 (.slice B1 U.length b1_) U] rfl kk_ oo_
   refine ⟨_, rfl, ?_⟩
   obtain ⟨O6, K6⟩ := ok_ K5 o_ k_
   clear a0 a2 a5 a6 O5 K5 o_ k_ oo_ kk_ on_ nn_ rr_ bb_ hu_ hc_ hb1_
   have a0 := k3_ O6 0
   have a2 := k7_ O6 2
   have a5 := k3_ O6 5
   have a6 := k3_ O6 6
   clear hHeld
   refine hK_.out _ _ (p7_ a2) (fun hHeld => ?_)
   clear hK_ K_
   refine norm_ (a' := ?_) ?_ ?_
   rotate_left
   ·simp only [Act.put, List.setIfInBounds_toArray, List.set_cons_zero, List.set_cons_succ, i64_w, i32_w]
    rfl
   refine pP 9 (some 24) ?_
   refine pP 10 (some 34) ?_
   refine pP 11 (some 35) ?_
   refine norm_ (a' := _) ?_ (hc_ ⟨B1, b1_, C5, e5, gr⟩ _ ⟨?_, K6.out⟩)
   ·simp only [putAll, Act.put, List.setIfInBounds_toArray, List.set_cons_zero, List.set_cons_succ]
    try rfl
   ·exact O6.out.pickL [0, 1, 2, 3, 4, 5, 7, 6] (by decide) (by simp)
 case hcont =>
  clear hHeld
  rintro ⟨B1, b1_, C5, e5, gr⟩ w4 ⟨o_, k_⟩
  obtain ⟨O4, K4⟩ := ok_ K3 o_ k_
  clear a0 a2 a5 O3 K3 o_ k_
  have a0 := k3_ O4 0
  have a2 := k7_ O4 2
  have a5 := k3_ O4 5
  have a7 := k3_ O4 7
  refine norm_ (a' := ?_) ?_ ?_
  rotate_left
  ·simp only [putAll, Act.put, List.setIfInBounds_toArray, List.set_cons_zero, List.set_cons_succ]
   rfl
  have hHeld : w4.cell? ⟨g, 0, none⟩ = some (.pointer (some ⟨gj, 0, none⟩)) ∧ w4.cell? ⟨g, 1, none⟩ = some (.int .i64 o) ∧ w4.cell? ⟨g, 2, none⟩ = some (.int .i64 mtu) ∧ w4.cell? ⟨g, 3, none⟩ = some (.int .i64 push) ∧ w4.cell? ⟨g, 4, none⟩ = some (vk) ∧ w4.cell? ⟨g, 5, none⟩ = some (.slice A5 rP.length c5) ∧ w4.cell? ⟨g, 6, none⟩ = some (.slice A6 U.length c6) := (p7_ a2)
  refine oP 13 none (fun K_ hK_ => ?_)
  refine xS 7 0 [.int .i64 jo, .int .i64 n1, .slice B1 U.length b1_] O4 ?_
  intro w5 o_ k_
  obtain ⟨O5, K5⟩ := ok_ K4 o_ k_
  clear a0 a2 a5 a7 O4 K4 o_ k_
  have a0 := k3_ O5 0
  have a2 := k7_ O5 2
  have a5 := k3_ O5 5
  have a7 := k3_ O5 7
  clear hHeld
  refine hK_.out _ _ (p7_ a2) (fun hHeld => ?_)
  clear hK_ K_
  refine pP 14 (some 5) ?_
  refine done_ (by kernel_rfl) ?_
  clear hHeld
  go_wp2_with (first | ((with_reducible refine gT 33 42 rfl ?_); refine wS 2 6 [.slice none 0 0] O5 ?_; intro w6 o_ k_; obtain ⟨O6, K6⟩ := ok_ K5 o_ k_; clear a0 a2 a5 a7 O5 K5 o_ k_; have a0 := k3_ O6 0; have a2 := k7_ O6 2; have a5 := k3_ O6 5; have a7 := k3_ O6 7))
  refine sP (n := 13) (S := fun w' => w'.cell? ⟨g, 0, none⟩ = some (.pointer (some ⟨gj, 0, none⟩)) ∧ w'.cell? ⟨g, 1, none⟩ = some (.int .i64 o) ∧ w'.cell? ⟨g, 2, none⟩ = some (.int .i64 mtu) ∧ w'.cell? ⟨g, 3, none⟩ = some (.int .i64 push) ∧ w'.cell? ⟨g, 4, none⟩ = some (vk) ∧ w'.cell? ⟨g, 5, none⟩ = some (.slice A5 rP.length c5) ∧ w'.cell? ⟨g, 6, none⟩ = some (.slice none 0 0) ∧ w'.cell? ⟨gr, 0, none⟩ = some (.int .i64 jo) ∧ w'.cell? ⟨gr, 1, none⟩ = some (.int .i64 n1) ∧ w'.cell? ⟨gr, 2, none⟩ = some (.slice B1 U.length b1_)) (ds := [12]) (j7_ a2 (p3_ a7)) (fun hHeld => ?_)
  obtain ⟨w7, hw_⟩ : ∃ W, W = w6.drew := ⟨_, rfl⟩
  have o_ := O6.out.drew
  have k_ : KeepS N w6 w6.drew := KeepS.drew
  rw [← hw_] at o_ k_ hHeld ⊢
  clear hw_
  obtain ⟨O7, K7⟩ := ok_ K6 o_ k_
  clear a0 a2 a5 a7 O6 K6 o_ k_
  have a0 := k3_ O7 0
  have a2 := k7_ O7 2
  have a5 := k3_ O7 5
  have a7 := k3_ O7 7
  refine pP 0 (some 43) ?_
  refine pP 2 (some 45) ?_
  refine pP 3 (some 46) ?_
  refine pP 4 (some 47) ?_
  refine tP 5 (some 48) hHeld ?_
  refine tP 7 (some 50) hHeld ?_
  refine join_ (σ := Option Addr × Nat × Option Addr × Nat × Option Addr × Nat) 4 #[true, true, true, true, true, true, true, true, true, false, false, false, false] (fun ⟨C2, e2, C3, e3, D1, h1_⟩ => [(44, .slice C2 0 e2), (49, .slice C3 rP.length e3), (51, .slice D1 1 h1_)]) (fun ⟨C2, e2, C3, e3, D1, h1_⟩ w' => Own N w' [cells gj #[.int .i64 jo, .int .i64 jm, .slice C5 (rJ ++ [rw3 jo n1 (.slice B1 U.length b1_)]).length e5] 64, nrow (Kd.raw 3) 35 (.slice C5 (rJ ++ [rw3 jo n1 (.slice B1 U.length b1_)]).length e5) (rJ ++ [rw3 jo n1 (.slice B1 U.length b1_)]), cells g #[.pointer (some ⟨gj, 0, none⟩), .int .i64 o, .int .i64 mtu, .int .i64 push, vk, .slice A5 rP.length c5, .slice none 0 0] 44, nrow (Kd.raw 3) 35 (.slice A5 rP.length c5) rP, nrow k32 32 (.slice A6 U.length c6) U, cells gz #[.int .i64 0, .int .i64 0, .slice none 0 0] 35, nrow k32 32 (.slice B1 U.length b1_) U, cells gr #[.int .i64 jo, .int .i64 n1, .slice B1 U.length b1_] 35, nrow (Kd.raw 3) 35 (.slice C3 rP.length e3) rP, nrow (Kd.raw 3) 35 (.slice D1 1 h1_) [rw3 jo n1 (.slice B1 U.length b1_)]] ∧ KeepS N w7 w') ?hcont ?hways
  case hways =>
   intro hc_
   have K8 : Aside0 (KeepS N w7 w7) := ⟨KeepS.refl _ _⟩
   have O8 : Aside0 (Own N w7 [cells gj #[.int .i64 jo, .int .i64 jm, .slice C5 (rJ ++ [rw3 jo n1 (.slice B1 U.length b1_)]).length e5] 64, nrow (Kd.raw 3) 35 (.slice C5 (rJ ++ [rw3 jo n1 (.slice B1 U.length b1_)]).length e5) (rJ ++ [rw3 jo n1 (.slice B1 U.length b1_)]), cells g #[.pointer (some ⟨gj, 0, none⟩), .int .i64 o, .int .i64 mtu, .int .i64 push, vk, .slice A5 rP.length c5, .slice none 0 0] 44, nrow (Kd.raw 3) 35 (.slice A5 rP.length c5) rP, nrow k32 32 (.slice A6 U.length c6) U, cells gz #[.int .i64 0, .int .i64 0, .slice none 0 0] 35, nrow k32 32 (.slice B1 U.length b1_) U, cells gr #[.int .i64 jo, .int .i64 n1, .slice B1 U.length b1_] 35]) := O7
   refine two_ (i := 1) (j := 8) (Ni := some 44) (Nj := some 51) #[true, true, true, true, true, true, false, true, false, false, false, false, false] #[true, false, true, true, true, true, false, true, true, false, false, false, false] rfl rfl rfl rfl (by kernel_rfl) (by decide) (by decide) (fun K_ hK_ => ?_) (fun K_ hK_ => ?_)
   ·skip
    refine own_lit_step (Kd.raw 3) (N := N) (e := 35) (xs := []) (inner := []) rfl rfl gs_ (Reps.none _ _) (by decide) O8.out ?_
    intro C2 e2 w9 o_ k_
    obtain ⟨O9, K9⟩ := ok_ K8 o_ k_
    clear a0 a2 a5 a7 O8 K8 o_ k_
    have a0 := k3_ O9 0
    have a2 := k7_ O9 2
    have a5 := k3_ O9 5
    have a7 := k3_ O9 7
    clear hHeld
    refine hK_.out _ _ (j7_ a2 (p3_ a7)) (fun hHeld => ?_)
    clear hK_ K_
    refine norm_ (a' := ?_) ?_ ?_
    rotate_left
    ·simp only [Act.put, List.setIfInBounds_toArray, List.set_cons_zero, List.set_cons_succ, i64_w, i32_w]
     rfl
    refine two_ (i := 6) (j := 8) (Ni := some 49) (Nj := some 51) #[true, true, true, true, true, true, true, true, false, false, false, false, false] #[true, true, true, true, true, true, false, true, true, false, false, false, false] rfl rfl rfl rfl (by kernel_rfl) (by decide) (by decide) (fun K_ hK_ => ?_) (fun K_ hK_ => ?_)
    ·skip
     refine Own.append_flat_step (Kd.raw 3) flatRaw O9.out (i := 8) rfl (O9.out.nreads (i := 3) rfl).2.2 rfl (by rfl) (.tmp 44) (.tmp 48) 40 (.agg #[.int .i64 0, .int .i64 0, .slice none 0 0]) 40 rfl Tryd.underlying40 infoR rfl (by decide) (by decide) rfl rfl (by have := HP.out; simp only [List.length_nil]; omega) ?_
     intro C3 e3 w10 o_ k_
     obtain ⟨O10, K10⟩ := ok_ K9 o_ k_
     clear a0 a2 a5 a7 O9 K9 o_ k_
     have a0 := k3_ O10 0
     have a2 := k7_ O10 2
     have a5 := k3_ O10 5
     have a7 := k3_ O10 7
     clear hHeld
     refine hK_.out _ _ (j7_ a2 (p3_ a7)) (fun hHeld => ?_)
     clear hK_ K_
     refine norm_ (a' := ?_) ?_ ?_
     rotate_left
     ·simp only [Act.put, List.setIfInBounds_toArray, List.set_cons_zero, List.set_cons_succ, i64_w, i32_w]
      rfl
     refine one_ (i := 8) (N := some 51) #[true, true, true, true, true, true, true, true, true, false, false, false, false] rfl rfl (by kernel_rfl) (by decide) (fun K_ hK_ => ?_)
     refine own_lit_step (Kd.raw 3) (N := N) (e := 35) (xs := [rw3 jo n1 (.slice B1 U.length b1_)]) (inner := [.int .i64 jo, .int .i64 n1, .slice B1 U.length b1_]) rfl rfl gs_ (repW _ jo n1 B1 U.length b1_) (by show 1 ≤ 9223372036854775807; decide) O10.out ?_
     intro D1 h1_ w11 o_ k_
     obtain ⟨O11, K11⟩ := ok_ K10 o_ k_
     clear a0 a2 a5 a7 O10 K10 o_ k_
     have a0 := k3_ O11 0
     have a2 := k7_ O11 2
     have a5 := k3_ O11 5
     have a7 := k3_ O11 7
     clear hHeld
     refine hK_.out _ _ (j7_ a2 (p3_ a7)) (fun hHeld => ?_)
     clear hK_ K_
     refine norm_ (a' := ?_) ?_ ?_
     rotate_left
     ·simp only [Act.put, List.setIfInBounds_toArray, List.set_cons_zero, List.set_cons_succ, i64_w, i32_w]
      rfl
     refine norm_ (a' := _) ?_ (hc_ ⟨C2, e2, C3, e3, D1, h1_⟩ _ ⟨?_, K11.out⟩)
     ·simp only [putAll, Act.put, List.setIfInBounds_toArray, List.set_cons_zero, List.set_cons_succ]
      try rfl
     ·exact O11.out.pickL [0, 1, 2, 3, 4, 5, 6, 7, 8, 9] (by decide) (by simp)
    ·skip
     refine own_lit_step (Kd.raw 3) (N := N) (e := 35) (xs := [rw3 jo n1 (.slice B1 U.length b1_)]) (inner := [.int .i64 jo, .int .i64 n1, .slice B1 U.length b1_]) rfl rfl gs_ (repW _ jo n1 B1 U.length b1_) (by show 1 ≤ 9223372036854775807; decide) O9.out ?_
     intro D1 h1_ w10 o_ k_
     obtain ⟨O10, K10⟩ := ok_ K9 o_ k_
     clear a0 a2 a5 a7 O9 K9 o_ k_
     have a0 := k3_ O10 0
     have a2 := k7_ O10 2
     have a5 := k3_ O10 5
     have a7 := k3_ O10 7
     clear hHeld
     refine hK_.out _ _ (j7_ a2 (p3_ a7)) (fun hHeld => ?_)
     clear hK_ K_
     refine norm_ (a' := ?_) ?_ ?_
     rotate_left
     ·simp only [Act.put, List.setIfInBounds_toArray, List.set_cons_zero, List.set_cons_succ, i64_w, i32_w]
      rfl
     refine one_ (i := 6) (N := some 49) #[true, true, true, true, true, true, true, true, true, false, false, false, false] rfl rfl (by kernel_rfl) (by decide) (fun K_ hK_ => ?_)
     refine Own.append_flat_step (Kd.raw 3) flatRaw O10.out (i := 8) rfl (O10.out.nreads (i := 3) rfl).2.2 rfl (by rfl) (.tmp 44) (.tmp 48) 40 (.agg #[.int .i64 0, .int .i64 0, .slice none 0 0]) 40 rfl Tryd.underlying40 infoR rfl (by decide) (by decide) rfl rfl (by have := HP.out; simp only [List.length_nil]; omega) ?_
     intro C3 e3 w11 o_ k_
     obtain ⟨O11, K11⟩ := ok_ K10 o_ k_
     clear a0 a2 a5 a7 O10 K10 o_ k_
     have a0 := k3_ O11 0
     have a2 := k7_ O11 2
     have a5 := k3_ O11 5
     have a7 := k3_ O11 7
     clear hHeld
     refine hK_.out _ _ (j7_ a2 (p3_ a7)) (fun hHeld => ?_)
     clear hK_ K_
     refine norm_ (a' := ?_) ?_ ?_
     rotate_left
     ·simp only [Act.put, List.setIfInBounds_toArray, List.set_cons_zero, List.set_cons_succ, i64_w, i32_w]
      rfl
     refine norm_ (a' := _) ?_ (hc_ ⟨C2, e2, C3, e3, D1, h1_⟩ _ ⟨?_, K11.out⟩)
     ·simp only [putAll, Act.put, List.setIfInBounds_toArray, List.set_cons_zero, List.set_cons_succ]
      try rfl
     ·exact O11.out.pickL [0, 1, 2, 3, 4, 5, 6, 7, 8, 9] (by decide) (by simp)
   ·skip
    refine own_lit_step (Kd.raw 3) (N := N) (e := 35) (xs := [rw3 jo n1 (.slice B1 U.length b1_)]) (inner := [.int .i64 jo, .int .i64 n1, .slice B1 U.length b1_]) rfl rfl gs_ (repW _ jo n1 B1 U.length b1_) (by show 1 ≤ 9223372036854775807; decide) O8.out ?_
    intro D1 h1_ w9 o_ k_
    obtain ⟨O9, K9⟩ := ok_ K8 o_ k_
    clear a0 a2 a5 a7 O8 K8 o_ k_
    have a0 := k3_ O9 0
    have a2 := k7_ O9 2
    have a5 := k3_ O9 5
    have a7 := k3_ O9 7
    clear hHeld
    refine hK_.out _ _ (j7_ a2 (p3_ a7)) (fun hHeld => ?_)
    clear hK_ K_
    refine norm_ (a' := ?_) ?_ ?_
    rotate_left
    ·simp only [Act.put, List.setIfInBounds_toArray, List.set_cons_zero, List.set_cons_succ, i64_w, i32_w]
     rfl
    refine one_ (i := 1) (N := some 44) #[true, true, true, true, true, true, false, true, true, false, false, false, false] rfl rfl (by kernel_rfl) (by decide) (fun K_ hK_ => ?_)
    refine own_lit_step (Kd.raw 3) (N := N) (e := 35) (xs := []) (inner := []) rfl rfl gs_ (Reps.none _ _) (by decide) O9.out ?_
    intro C2 e2 w10 o_ k_
    obtain ⟨O10, K10⟩ := ok_ K9 o_ k_
    clear a0 a2 a5 a7 O9 K9 o_ k_
    have a0 := k3_ O10 0
    have a2 := k7_ O10 2
    have a5 := k3_ O10 5
    have a7 := k3_ O10 7
    clear hHeld
    refine hK_.out _ _ (j7_ a2 (p3_ a7)) (fun hHeld => ?_)
    clear hK_ K_
    refine norm_ (a' := ?_) ?_ ?_
    rotate_left
    ·simp only [Act.put, List.setIfInBounds_toArray, List.set_cons_zero, List.set_cons_succ, i64_w, i32_w]
     rfl
    refine one_ (i := 6) (N := some 49) #[true, true, true, true, true, true, true, true, true, false, false, false, false] rfl rfl (by kernel_rfl) (by decide) (fun K_ hK_ => ?_)
    refine Own.append_flat_step (Kd.raw 3) flatRaw O10.out (i := 9) rfl (O10.out.nreads (i := 3) rfl).2.2 rfl (by rfl) (.tmp 44) (.tmp 48) 40 (.agg #[.int .i64 0, .int .i64 0, .slice none 0 0]) 40 rfl Tryd.underlying40 infoR rfl (by decide) (by decide) rfl rfl (by have := HP.out; simp only [List.length_nil]; omega) ?_
    intro C3 e3 w11 o_ k_
    obtain ⟨O11, K11⟩ := ok_ K10 o_ k_
    clear a0 a2 a5 a7 O10 K10 o_ k_
    have a0 := k3_ O11 0
    have a2 := k7_ O11 2
    have a5 := k3_ O11 5
    have a7 := k3_ O11 7
    clear hHeld
    refine hK_.out _ _ (j7_ a2 (p3_ a7)) (fun hHeld => ?_)
    clear hK_ K_
    refine norm_ (a' := ?_) ?_ ?_
    rotate_left
    ·simp only [Act.put, List.setIfInBounds_toArray, List.set_cons_zero, List.set_cons_succ, i64_w, i32_w]
     rfl
    refine norm_ (a' := _) ?_ (hc_ ⟨C2, e2, C3, e3, D1, h1_⟩ _ ⟨?_, K11.out⟩)
    ·simp only [putAll, Act.put, List.setIfInBounds_toArray, List.set_cons_zero, List.set_cons_succ]
     try rfl
    ·exact O11.out.pickL [0, 1, 2, 3, 4, 5, 6, 7, 9, 8] (by decide) (by simp)
  case hcont =>
   clear hHeld
   rintro ⟨C2, e2, C3, e3, D1, h1_⟩ w8 ⟨o_, k_⟩
   obtain ⟨O8, K8⟩ := ok_ K7 o_ k_
   clear a0 a2 a5 a7 O7 K7 o_ k_
   have a0 := k3_ O8 0
   have a2 := k7_ O8 2
   have a5 := k3_ O8 5
   have a7 := k3_ O8 7
   refine norm_ (a' := ?_) ?_ ?_
   rotate_left
   ·simp only [putAll, Act.put, List.setIfInBounds_toArray, List.set_cons_zero, List.set_cons_succ]
    rfl
   have hHeld : w8.cell? ⟨g, 0, none⟩ = some (.pointer (some ⟨gj, 0, none⟩)) ∧ w8.cell? ⟨g, 1, none⟩ = some (.int .i64 o) ∧ w8.cell? ⟨g, 2, none⟩ = some (.int .i64 mtu) ∧ w8.cell? ⟨g, 3, none⟩ = some (.int .i64 push) ∧ w8.cell? ⟨g, 4, none⟩ = some (vk) ∧ w8.cell? ⟨g, 5, none⟩ = some (.slice A5 rP.length c5) ∧ w8.cell? ⟨g, 6, none⟩ = some (.slice none 0 0) ∧ w8.cell? ⟨gr, 0, none⟩ = some (.int .i64 jo) ∧ w8.cell? ⟨gr, 1, none⟩ = some (.int .i64 n1) ∧ w8.cell? ⟨gr, 2, none⟩ = some (.slice B1 U.length b1_) := (j7_ a2 (p3_ a7))
   refine oP 9 (some 52) (fun K_ hK_ => ?_)
   refine Own.append_flat_step (Kd.raw 3) flatRaw O8.out (i := 8) rfl (O8.out.nreads (i := 9) rfl).2.2 rfl (by rfl) (.tmp 49) (.tmp 51) 40 (.agg #[.int .i64 0, .int .i64 0, .slice none 0 0]) 40 rfl Tryd.underlying40 infoR rfl (by decide) (by decide) rfl rfl (by have := HP.out; omega) ?_
   intro C4 e4 w9 o_ k_
   obtain ⟨O9, K9⟩ := ok_ K8 o_ k_
   clear a0 a2 a5 a7 O8 K8 o_ k_
   have a0 := k3_ O9 0
   have a2 := k7_ O9 2
   have a5 := k3_ O9 5
   have a7 := k3_ O9 7
   clear hHeld
   refine hK_.out _ _ (j7_ a2 (p3_ a7)) (fun hHeld => ?_)
   clear hK_ K_
   refine nP ?_
   refine pP 10 (some 53) ?_
   refine pP 11 (some 54) ?_
   refine lP 12 none (fun K_ hK_ => ?_)
   refine xS 2 5 [.slice C4 (rP ++ [rw3 jo n1 (.slice B1 U.length b1_)]).length e4] O9 ?_
   intro w10 o_ k_
   obtain ⟨O10, K10⟩ := ok_ K9 o_ k_
   clear a0 a2 a5 a7 O9 K9 o_ k_
   have a0 := k3_ O10 0
   have a2 := k7_ O10 2
   have a5 := k3_ O10 5
   have a7 := k3_ O10 7
   refine hK_.out _ _ ?_
   clear hK_ K_
   refine done_ (by kernel_rfl) ?_
   clear hHeld
   go_wp2_with (first | ((with_reducible refine gT 35 2 rfl ?_); refine wS 5 0 [.int .i64 jo, .int .i64 n1, .slice B1 U.length b1_] O10 ?_; intro w11 o_ k_; obtain ⟨O11, K11⟩ := ok_ K10 o_ k_; clear a0 a2 a5 a7 O10 K10 o_ k_; have a0 := k3_ O11 0; have a2 := k7_ O11 2; have a5 := k3_ O11 5; have a7 := k3_ O11 7))
   refine bodyPost_ret (results_ct rfl _ _ gz 35 #[.int .i64 jo, .int .i64 n1, .slice B1 U.length b1_] (0, 0) _ rfl (O11.out.blk (i := 5) rfl) Tryd.underlying35 rfl (by kernel_rfl)) rfl ?_
   exact ⟨B1, b1_, C5, e5, C4, e4, rfl, (O11.out.nreads (i := 6) rfl).2.1, O11.out.pickL [0, 1, 2, 8, 6] (by decide) (by simp), K11.out⟩
end Go.Proofs.YtjdenpmaianmfaaDoor.J
