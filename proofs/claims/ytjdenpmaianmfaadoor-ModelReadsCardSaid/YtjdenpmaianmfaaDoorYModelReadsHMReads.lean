/- The law ModelReads: once all has become common, has come, and is pulled, and nothing is open, all clients read the same: what the common order makes. -/
import Derived.Test.YtjdenpmaianmfaaDoorYModelReadsSq
import Derived.Test.YtjdenpmaianmfaaDoorYModelReadsMo14
import Derived.Test.YtjdenpmaianmfaaDoorYModelReadsSz
import Derived.Test.YtjdenpmaianmfaaDoorYModelReadsQ11
import Derived.Test.YtjdenpmaianmfaaDoorYModelReadsKy2
import Derived.Test.YtjdenpmaianmfaaDoorYModelReadsQ10
namespace Go.Proofs.YtjdenpmaianmfaaDoor.J
set_option maxHeartbeats 16000000
set_option maxRecDepth 100000
set_option linter.unusedSimpArgs false
set_option linter.unusedVariables false
open Go Go.RowKit Go.Proofs.YtjdenpmaianmfaaDoorW.PrintWords Go.Proofs.YtjdenpmaianmfaaDoorW.PrintLast Go.Proofs.YtjdenpmaianmfaaDoorW.PrintMore Go.Proofs.YtjdenpmaianmfaaDoor.Q Go.Proofs.YtjdenpmaianmfaaDoor.Sep Go.Proofs.YtjdenpmaianmfaaDoor.Pure
theorem MUpd_e (E : Int) (U2 : List Upd7) {N : Nat → Prop} {w : World} {gm g : Nat} {cf : MCf} {vL vC vJ : Value} {x : MCl} {AU : Option Addr} {cU : Nat} (key : ByteArray) (c n : Int) (s : ByteArray) (hE : updE x.U key c n s cf.mtu = E) (hU : updU x.U key c n s cf.mtu = U2) (h : Own N w [cells g #[.int .i64 x.e, vJ, .int .i64 x.k, .int .i64 x.c, .slice AU x.U.length cU] 127, nrow kU7 tU7 (.slice AU x.U.length cU) x.U]) (hmm : CellN N w gm #[.int .i64 cf.cl, .int .i64 cf.win, .int .i64 cf.push, .int .i64 cf.pull, .int .i64 cf.mtu, .int .i64 cf.last, vL, vC] 123) (ht : TabN N w) (hL : x.U.length ≤ 1000000) :
  Calls Tryd.prog 79 #[pt gm, pt g, .agg #[.string key, .int .i64 c, .int .i64 n, .string s]] w fun e_ w' => ∃ A1 c1, e_ = .returned (.int .i64 E) ∧ Own N w' [cells g #[.int .i64 x.e, vJ, .int .i64 x.k, .int .i64 x.c, .slice A1 U2.length c1] 127, nrow kU7 tU7 (.slice A1 U2.length c1) U2] ∧ KeepS N w w' := by
 subst hE hU
 exact MUpd key c n s h hmm ht hL
theorem MDo_1 {N : Nat → Prop} {w : World} {gm : Nat} {cf : MCf} {L : List Rnd7} {cls : List MCl} {x : MCl} (n : Int) (key : ByteArray) (uc un : Int) (us rk : ByteArray) (an ab am : Int) (h : Own N w [ModO gm cf L cls]) (hn : 1 ≤ n ∧ n ≤ cls.length) (hb : cls.length ≤ 64) (hx : cls[n.toNat - 1]? = some x) (ht : TabN N w) (hLU : x.U.length ≤ 1000000) :
  Calls Tryd.prog 42 #[pt gm, .agg #[.int .i64 1, .int .i64 n, .string key, .int .i64 uc, .int .i64 un, .string us, .string rk, .int .i64 an, .int .i64 ab, .int .u32 am]] w fun e_ w' => e_ = .returned (repM (rep0 (updE x.U key uc un us cf.mtu))) ∧ Own N w' [ModO gm cf L (cls.set (n.toNat - 1) { x with U := updU x.U key uc un us cf.mtu })] ∧ KeepS N w w' := by
 obtain ⟨U2, hU2⟩ : ∃ U2, updU x.U key uc un us cf.mtu = U2 := ⟨_, rfl⟩
 obtain ⟨E, hE⟩ : ∃ E, updE x.U key uc un us cf.mtu = E := ⟨_, rfl⟩
 rw [hU2, hE]
 have HU2 := Aside0.mk hU2
 have HE := Aside0.mk hE
 have HLU := Aside0.mk hLU
 have HT_0 := Aside0.mk ht
 obtain ⟨AL, cL, AC, cC, rL, qs, q, AJ, cJ, AU, cU, ⟨hq, hrl, hqj⟩, hqi, h2⟩ := ModO.at h hx
 have HN := Aside0.mk hn
 have HB := Aside0.mk hb
 have HQI := Aside0.mk hqi
 have HXX := Aside0.mk hx
 have HQL := Aside0.mk hq
 have HRL := Aside0.mk hrl
 have HQJ := Aside0.mk hqj
 have O0 : Aside0 (Own N w [cells gm #[.int .i64 cf.cl, .int .i64 cf.win, .int .i64 cf.push, .int .i64 cf.pull, .int .i64 cf.mtu, .int .i64 cf.last, .slice AL L.length cL, .slice AC cls.length cC] 123, poolI rL L qs cls, bigs ((clsI qs cls).set (n.toNat - 1) emp), nrow (Kd.raw 1) tMP (.slice AC cls.length cC) (ptrs qs), nrow (Kd.raw 3) tR7 (.slice AL L.length cL) rL, cells q.1 #[.int .i64 x.e, .slice AJ x.J.length cJ, .int .i64 x.k, .int .i64 x.c, .slice AU x.U.length cU] 127, nrow kU7 tU7 (.slice AU x.U.length cU) x.U, nrow (Kd.raw 3) tR7 (.slice AJ x.J.length cJ) q.2]) := ⟨h2⟩
 have K0 : Aside0 (KeepS N w w) := ⟨KeepS.refl _ _⟩
 have a0 := k8_ O0 0
 have a5 := k5_ O0 5
 clear h h2 hx hn hb hq hrl hqj hqi hU2 hE hLU ht
 go_enter Tryd.func42, Tryd.ntmps42
 go_wp2_with (first | ((with_reducible refine gD 3 rfl ?_); refine bP 3 #[.int .i64 1, .int .i64 n, .string key, .int .i64 uc, .int .i64 un, .string us, .string rk, .int .i64 an, .int .i64 ab, .int .u32 am] 83 O0.out ?_; intro ga w1 o_ k_; obtain ⟨O1, K1⟩ := ok_ K0 o_ k_; have HT_1 := Aside0.mk (TabN.keep HT_0.out k_); clear a0 a5 O0 K0 HT_0; have a0 := k8_ O1 0; have a5 := k5_ O1 5; have a8 := k10_ O1 8; clear o_ k_) | ((with_reducible refine gD 4 rfl ?_); refine bP 4 #[.int .i64 0, .int .i64 0, .int .i64 0, .string ⟨#[]⟩, .bool false, .int .i64 0] 79 O1.out ?_; intro gr w2 o_ k_; obtain ⟨O2, K2⟩ := ok_ K1 o_ k_; have HT_2 := Aside0.mk (TabN.keep HT_1.out k_); clear a0 a5 a8 O1 K1 HT_1; have a0 := k8_ O2 0; have a5 := k5_ O2 5; have a8 := k10_ O2 8; have a9 := k6_ O2 9; clear o_ k_) | ((with_reducible refine gC 77 rfl ?_); refine gP (some 20) Tryd.func77 #[pt gm, .int .i64 n] ?_; obtain ⟨N_, on_, nn_, rr_, bb_⟩ := O2.out.frame0; refine (MClient_ok (L := L) n on_ (rr_ 0 _ rfl) (Kd.N_F (rr_ 3 _ rfl)) HN.out HB.out HQI.out).mono ?_; rintro e_ w3 ⟨rfl, oo_, kk_⟩; obtain ⟨o_, k_⟩ := bb_ _ _ kk_ oo_; refine ⟨_, rfl, ?_⟩; obtain ⟨O3, K3⟩ := ok_ K2 o_ k_; have HT_3 := Aside0.mk (TabN.keep HT_2.out k_); clear a0 a5 a8 a9 O2 K2 HT_2; have a0 := k8_ O3 0; have a5 := k5_ O3 5; have a8 := k10_ O3 8; have a9 := k6_ O3 9; clear o_ k_ oo_ kk_ on_ nn_ rr_ bb_) | ((with_reducible refine gC 79 rfl ?_); refine gP (some 32) Tryd.func79 #[pt gm, pt q.1, .agg #[.string key, .int .i64 uc, .int .i64 un, .string us]] ?_; obtain ⟨N_, on_, nn_, rr_, bb_⟩ := O3.out.frameL [5, 6] (by decide) (by simp); refine (MUpd_e E U2 key uc un us HE.out HU2.out on_ (rr_ 0 _ (by decide) rfl) (TabN.mono HT_3.out nn_) HLU.out).mono ?_; rintro e_ w4 ⟨A1, c1_, rfl, oo_, kk_⟩; obtain ⟨o_, k_⟩ := bb_ _ [cells q.1 #[.int .i64 x.e, .slice AJ x.J.length cJ, .int .i64 x.k, .int .i64 x.c, .slice A1 U2.length c1_] 127, nrow kU7 tU7 (.slice A1 U2.length c1_) U2] [] rfl kk_ oo_; refine ⟨_, rfl, ?_⟩; obtain ⟨O4, K4⟩ := ok_ K3 o_ k_; have HT_4 := Aside0.mk (TabN.keep HT_3.out k_); clear a0 a5 a8 a9 O3 K3 HT_3; have a0 := k8_ O4 0; have a5 := k5_ O4 5; have a8 := k10_ O4 8; have a9 := k6_ O4 9; clear o_ k_ oo_ kk_ on_ nn_ rr_ bb_) | ((with_reducible refine gT 79 4 rfl ?_); refine wS 9 0 [.int .i64 E, .int .i64 0, .int .i64 0, .string ⟨#[]⟩, .bool false, .int .i64 0] O4 ?_; intro w5 o_ k_; obtain ⟨O5, K5⟩ := ok_ K4 o_ k_; have HT_5 := Aside0.mk (TabN.keep HT_4.out k_); clear a0 a5 a8 a9 O4 K4 HT_4; have a0 := k8_ O5 0; have a5 := k5_ O5 5; have a8 := k10_ O5 8; have a9 := k6_ O5 9; clear o_ k_))
 refine bodyPost_ret (results_cell_row rfl _ _ gr 79 #[.int .i64 E, .int .i64 0, .int .i64 0, .string ⟨#[]⟩, .bool false, .int .i64 0] (0, 0) _ rfl (O5.out.blk (i := 9) rfl) Tryd.underlying79 rfl (by kernel_rfl)) rfl ?_
 exact ⟨rfl, ModO.backU (x' := { x with U := U2 }) HXX.out HQL.out HQI.out rfl (O5.out.pickL [0, 1, 2, 3, 4, 5, 6, 7] (by decide) (by simp)), K5.out⟩
theorem MPush_err (E : Int) {N : Nat → Prop} {w : World} {gm nc cL cC : Nat} {cf : MCf} {AL AC : Option Addr} {L : List Rnd7} {qs : List (Nat × RawR)} {q : Nat × RawR} {x : MCl} {AJ AU : Option Addr} {cJ cU : Nat} {rJ : RawR} (n : Int) (h : Own N w [cells q.1 #[.int .i64 x.e, .slice AJ x.J.length cJ, .int .i64 x.k, .int .i64 x.c, .slice AU x.U.length cU] 127, nrow kU7 tU7 (.slice AU x.U.length cU) x.U, nrow (Kd.raw 3) tR7 (.slice AJ x.J.length cJ) rJ]) (hm : CellN N w gm #[.int .i64 cf.cl, .int .i64 cf.win, .int .i64 cf.push, .int .i64 cf.pull, .int .i64 cf.mtu, .int .i64 cf.last, .slice AL L.length cL, .slice AC nc cC] 123) (hp : Kd.F (Kd.raw 1) w N AC nc (ptrs qs)) (hl : Kd.F kR7 w N AL L.length L) (hn : 1 ≤ n ∧ n ≤ nc) (hb : nc ≤ 64) (hq : qs[n.toNat - 1]? = some q) (hk : x.k ≤ L.length) (hL : L.length ≤ 1000000) (hcL : L.length ≤ cL) (ho : ownN n L x ≤ x.J.length) (hc : x.J.length ≤ cJ) (hLJ : x.J.length ≤ 1000000) (hrJ : rJ.length = x.J.length) (hE : mpushE n L x cf = E) (h0 : E ≠ 0) :
  Calls Tryd.prog 81 #[pt gm, .int .i64 n, pt q.1] w fun e_ w' => e_ = .returned (repV E 0) ∧ Own N w' [cells q.1 #[.int .i64 x.e, .slice AJ x.J.length cJ, .int .i64 x.k, .int .i64 x.c, .slice AU x.U.length cU] 127, nrow kU7 tU7 (.slice AU x.U.length cU) x.U, nrow (Kd.raw 3) tR7 (.slice AJ x.J.length cJ) rJ] ∧ KeepS N w w' := by
 subst hE
 rcases mpush_cases n L x cf with ⟨h1, e⟩ | ⟨h1, h2, e⟩ | ⟨h1, h2, h3, e⟩ | ⟨h1, h2, h3, e⟩
 ·rw [e]; exact MPush_none n h hm hp hl hn hb hq hk hL hcL ho hc hLJ hrJ h1
 ·rw [e]; exact MPush_full n h hm hp hl hn hb hq hk hL hcL ho hc hLJ hrJ h1 h2
 ·rw [e]; exact MPush_last n h hm hp hl hn hb hq hk hL hcL ho hc hLJ hrJ h1 h2 h3
 ·exact (h0 e).elim
theorem MPush_yes {N : Nat → Prop} {w : World} {gm nc cL cC : Nat} {cf : MCf} {AL AC : Option Addr} {L : List Rnd7} {qs : List (Nat × RawR)} {q : Nat × RawR} {x : MCl} {AJ AU : Option Addr} {cJ cU : Nat} {rJ : RawR} (n : Int) (h : Own N w [cells q.1 #[.int .i64 x.e, .slice AJ x.J.length cJ, .int .i64 x.k, .int .i64 x.c, .slice AU x.U.length cU] 127, nrow kU7 tU7 (.slice AU x.U.length cU) x.U, nrow (Kd.raw 3) tR7 (.slice AJ x.J.length cJ) rJ]) (hm : CellN N w gm #[.int .i64 cf.cl, .int .i64 cf.win, .int .i64 cf.push, .int .i64 cf.pull, .int .i64 cf.mtu, .int .i64 cf.last, .slice AL L.length cL, .slice AC nc cC] 123) (hp : Kd.F (Kd.raw 1) w N AC nc (ptrs qs)) (hl : Kd.F kR7 w N AL L.length L) (hn : 1 ≤ n ∧ n ≤ nc) (hb : nc ≤ 64) (hq : qs[n.toNat - 1]? = some q) (hk : x.k ≤ L.length) (hL : L.length ≤ 1000000) (hcL : L.length ≤ cL) (ho : ownN n L x ≤ x.J.length) (hc : x.J.length ≤ cJ) (hLJ : x.J.length ≤ 1000000) (hrJ : rJ.length = x.J.length) (h0 : mpushE n L x cf = 0) :
  Calls Tryd.prog 81 #[pt gm, .int .i64 n, pt q.1] w fun e_ w' => ∃ B2 b2, e_ = .returned (repV 0 ((x.J.length + 1 : Nat) : Int)) ∧ Own N w' [cells q.1 #[.int .i64 x.e, .slice B2 (x.J.length + 1) b2, .int .i64 x.k, .int .i64 x.c, .slice none 0 0] 127, nrow kU7 tU7 (.slice AU x.U.length cU) x.U, nrow (Kd.raw 3) tR7 (.slice B2 (x.J.length + 1) b2) (rJ ++ [rw3 n ((x.J.length : Int) + 1) (.slice AU x.U.length cU)])] ∧ KeepS N w w' := by
 rcases mpush_cases n L x cf with ⟨h1, e⟩ | ⟨h1, h2, e⟩ | ⟨h1, h2, h3, e⟩ | ⟨h1, h2, h3, e⟩
 ·rw [e] at h0; cases h0
 ·rw [e] at h0; cases h0
 ·rw [e] at h0; cases h0
 ·exact MPush_ok n h hm hp hl hn hb hq hk hL hcL ho hc hLJ hrJ h1 h2 h3
theorem MDo_3n {N : Nat → Prop} {w : World} {gm : Nat} {cf : MCf} {L : List Rnd7} {cls : List MCl} {x : MCl} (n : Int) (key : ByteArray) (uc un : Int) (us rk : ByteArray) (an ab am : Int) (h : Own N w [ModO gm cf L cls]) (hn : 1 ≤ n ∧ n ≤ cls.length) (hb : cls.length ≤ 64) (hx : cls[n.toNat - 1]? = some x) (hk : x.k ≤ L.length) (hL : L.length ≤ 1000000) (ho : ownN n L x ≤ x.J.length) (hLJ : x.J.length ≤ 1000000) (h0 : mpushE n L x cf ≠ 0) :
  Calls Tryd.prog 42 #[pt gm, .agg #[.int .i64 3, .int .i64 n, .string key, .int .i64 uc, .int .i64 un, .string us, .string rk, .int .i64 an, .int .i64 ab, .int .u32 am]] w fun e_ w' => e_ = .returned (repM (rep0 (mpushE n L x cf))) ∧ Own N w' [ModO gm cf L cls] ∧ KeepS N w w' := by
 obtain ⟨E, hE⟩ : ∃ E, mpushE n L x cf = E := ⟨_, rfl⟩
 rw [hE] at h0 ⊢
 have HE := Aside0.mk hE
 have H0 := Aside0.mk h0
 have HKL := Aside0.mk hk
 have HLL := Aside0.mk hL
 have HOW := Aside0.mk ho
 have HLJ := Aside0.mk hLJ
 obtain ⟨AL, cL, AC, cC, rL, qs, q, AJ, cJ, AU, cU, ⟨hq, hrl, hqj⟩, hqi, h2⟩ := ModO.at h hx
 have HN := Aside0.mk hn
 have HB := Aside0.mk hb
 have HQI := Aside0.mk hqi
 have HXX := Aside0.mk hx
 have HQL := Aside0.mk hq
 have HRL := Aside0.mk hrl
 have HQJ := Aside0.mk hqj
 have HCC := Aside0.mk (show L.length ≤ cL ∧ x.J.length ≤ cJ ∧ x.U.length ≤ cU from ⟨(h2.nreads (i := 4) rfl).2.1, (h2.nreads (i := 7) rfl).2.1, (h2.nreads (i := 6) rfl).2.1⟩)
 have O0 : Aside0 (Own N w [cells gm #[.int .i64 cf.cl, .int .i64 cf.win, .int .i64 cf.push, .int .i64 cf.pull, .int .i64 cf.mtu, .int .i64 cf.last, .slice AL L.length cL, .slice AC cls.length cC] 123, poolI rL L qs cls, bigs ((clsI qs cls).set (n.toNat - 1) emp), nrow (Kd.raw 1) tMP (.slice AC cls.length cC) (ptrs qs), nrow (Kd.raw 3) tR7 (.slice AL L.length cL) rL, cells q.1 #[.int .i64 x.e, .slice AJ x.J.length cJ, .int .i64 x.k, .int .i64 x.c, .slice AU x.U.length cU] 127, nrow kU7 tU7 (.slice AU x.U.length cU) x.U, nrow (Kd.raw 3) tR7 (.slice AJ x.J.length cJ) q.2]) := ⟨h2⟩
 have K0 : Aside0 (KeepS N w w) := ⟨KeepS.refl _ _⟩
 have a0 := k8_ O0 0
 have a5 := k5_ O0 5
 clear h h2 hx hn hb hq hrl hqj hqi h0 hk hL ho hLJ hE
 go_enter Tryd.func42, Tryd.ntmps42
 go_wp2_with (first | ((with_reducible refine gD 3 rfl ?_); refine bP 3 #[.int .i64 3, .int .i64 n, .string key, .int .i64 uc, .int .i64 un, .string us, .string rk, .int .i64 an, .int .i64 ab, .int .u32 am] 83 O0.out ?_; intro ga w1 o_ k_; obtain ⟨O1, K1⟩ := ok_ K0 o_ k_; clear a0 a5 O0 K0; have a0 := k8_ O1 0; have a5 := k5_ O1 5; have a8 := k10_ O1 8; clear o_ k_) | ((with_reducible refine gD 4 rfl ?_); refine bP 4 #[.int .i64 0, .int .i64 0, .int .i64 0, .string ⟨#[]⟩, .bool false, .int .i64 0] 79 O1.out ?_; intro gr w2 o_ k_; obtain ⟨O2, K2⟩ := ok_ K1 o_ k_; clear a0 a5 a8 O1 K1; have a0 := k8_ O2 0; have a5 := k5_ O2 5; have a8 := k10_ O2 8; have a9 := k6_ O2 9; clear o_ k_) | ((with_reducible refine gC 77 rfl ?_); refine gP (some 20) Tryd.func77 #[pt gm, .int .i64 n] ?_; obtain ⟨N_, on_, nn_, rr_, bb_⟩ := O2.out.frame0; refine (MClient_ok (L := L) n on_ (rr_ 0 _ rfl) (Kd.N_F (rr_ 3 _ rfl)) HN.out HB.out HQI.out).mono ?_; rintro e_ w3 ⟨rfl, oo_, kk_⟩; obtain ⟨o_, k_⟩ := bb_ _ _ kk_ oo_; refine ⟨_, rfl, ?_⟩; obtain ⟨O3, K3⟩ := ok_ K2 o_ k_; clear a0 a5 a8 a9 O2 K2; have a0 := k8_ O3 0; have a5 := k5_ O3 5; have a8 := k10_ O3 8; have a9 := k6_ O3 9; clear o_ k_ oo_ kk_ on_ nn_ rr_ bb_) | ((with_reducible refine gC 81 rfl ?_); refine gP (some 61) Tryd.func81 #[pt gm, .int .i64 n, pt q.1] ?_; obtain ⟨N_, on_, nn_, rr_, bb_⟩ := O3.out.frameL [5, 6, 7] (by decide) (by simp); refine (MPush_err E n on_ (rr_ 0 _ (by decide) rfl) (Kd.N_F (rr_ 3 _ (by decide) rfl)) (leadF (rr_ 4 _ (by decide) rfl) (pool_get (rr_ 1 _ (by decide) rfl) List.mem_cons_self) HRL.out.symm) HN.out HB.out HQI.out HKL.out HLL.out HCC.out.1 HOW.out HCC.out.2.1 HLJ.out HQJ.out HE.out H0.out).mono ?_; rintro e_ w4 ⟨rfl, oo_, kk_⟩; obtain ⟨o_, k_⟩ := bb_ _ [cells q.1 #[.int .i64 x.e, .slice AJ x.J.length cJ, .int .i64 x.k, .int .i64 x.c, .slice AU x.U.length cU] 127, nrow kU7 tU7 (.slice AU x.U.length cU) x.U, nrow (Kd.raw 3) tR7 (.slice AJ x.J.length cJ) q.2] [] rfl kk_ oo_; refine ⟨_, rfl, ?_⟩; obtain ⟨O4, K4⟩ := ok_ K3 o_ k_; clear a0 a5 a8 a9 O3 K3; have a0 := k8_ O4 0; have a5 := k5_ O4 5; have a8 := k10_ O4 8; have a9 := k6_ O4 9; clear o_ k_ oo_ kk_ on_ nn_ rr_ bb_) | ((with_reducible refine gT 79 4 rfl ?_); refine wS 9 0 [.int .i64 E, .int .i64 0, .int .i64 0, .string ⟨#[]⟩, .bool false, .int .i64 0] O4 ?_; intro w5 o_ k_; obtain ⟨O5, K5⟩ := ok_ K4 o_ k_; clear a0 a5 a8 a9 O4 K4; have a0 := k8_ O5 0; have a5 := k5_ O5 5; have a8 := k10_ O5 8; have a9 := k6_ O5 9; clear o_ k_))
 refine bodyPost_ret (results_cell_row rfl _ _ gr 79 #[.int .i64 E, .int .i64 0, .int .i64 0, .string ⟨#[]⟩, .bool false, .int .i64 0] (0, 0) _ rfl (O5.out.blk (i := 9) rfl) Tryd.underlying79 rfl (by kernel_rfl)) rfl ?_
 exact ⟨rfl, by have hz := ModO.backU (x' := x) HXX.out HQL.out HQI.out rfl (O5.out.pickL [0, 1, 2, 3, 4, 5, 6, 7] (by decide) (by simp)); rw [set_same HXX.out] at hz; exact hz, K5.out⟩
theorem MDo_3y {N : Nat → Prop} {w : World} {gm : Nat} {cf : MCf} {L : List Rnd7} {cls : List MCl} {x : MCl} (n : Int) (key : ByteArray) (uc un : Int) (us rk : ByteArray) (an ab am : Int) (h : Own N w [ModO gm cf L cls]) (hn : 1 ≤ n ∧ n ≤ cls.length) (hb : cls.length ≤ 64) (hx : cls[n.toNat - 1]? = some x) (hk : x.k ≤ L.length) (hL : L.length ≤ 1000000) (ho : ownN n L x ≤ x.J.length) (hLJ : x.J.length ≤ 1000000) (h0 : mpushE n L x cf = 0) :
  Calls Tryd.prog 42 #[pt gm, .agg #[.int .i64 3, .int .i64 n, .string key, .int .i64 uc, .int .i64 un, .string us, .string rk, .int .i64 an, .int .i64 ab, .int .u32 am]] w fun e_ w' => e_ = .returned (repM (repN ((x.J.length + 1 : Nat) : Int))) ∧ Own N w' [ModO gm cf L (cls.set (n.toNat - 1) { x with J := x.J ++ [⟨n, (x.J.length : Int) + 1, x.U⟩], U := [] })] ∧ KeepS N w w' := by
 have H0 := Aside0.mk h0
 have HKL := Aside0.mk hk
 have HLL := Aside0.mk hL
 have HOW := Aside0.mk ho
 have HLJ := Aside0.mk hLJ
 obtain ⟨AL, cL, AC, cC, rL, qs, q, AJ, cJ, AU, cU, ⟨hq, hrl, hqj⟩, hqi, h2⟩ := ModO.at h hx
 have HN := Aside0.mk hn
 have HB := Aside0.mk hb
 have HQI := Aside0.mk hqi
 have HXX := Aside0.mk hx
 have HQL := Aside0.mk hq
 have HRL := Aside0.mk hrl
 have HQJ := Aside0.mk hqj
 have HCC := Aside0.mk (show L.length ≤ cL ∧ x.J.length ≤ cJ ∧ x.U.length ≤ cU from ⟨(h2.nreads (i := 4) rfl).2.1, (h2.nreads (i := 7) rfl).2.1, (h2.nreads (i := 6) rfl).2.1⟩)
 have O0 : Aside0 (Own N w [cells gm #[.int .i64 cf.cl, .int .i64 cf.win, .int .i64 cf.push, .int .i64 cf.pull, .int .i64 cf.mtu, .int .i64 cf.last, .slice AL L.length cL, .slice AC cls.length cC] 123, poolI rL L qs cls, bigs ((clsI qs cls).set (n.toNat - 1) emp), nrow (Kd.raw 1) tMP (.slice AC cls.length cC) (ptrs qs), nrow (Kd.raw 3) tR7 (.slice AL L.length cL) rL, cells q.1 #[.int .i64 x.e, .slice AJ x.J.length cJ, .int .i64 x.k, .int .i64 x.c, .slice AU x.U.length cU] 127, nrow kU7 tU7 (.slice AU x.U.length cU) x.U, nrow (Kd.raw 3) tR7 (.slice AJ x.J.length cJ) q.2]) := ⟨h2⟩
 have K0 : Aside0 (KeepS N w w) := ⟨KeepS.refl _ _⟩
 have a0 := k8_ O0 0
 have a5 := k5_ O0 5
 clear h h2 hx hn hb hq hrl hqj hqi h0 hk hL ho hLJ
 go_enter Tryd.func42, Tryd.ntmps42
 go_wp2_with (first | ((with_reducible refine gD 3 rfl ?_); refine bP 3 #[.int .i64 3, .int .i64 n, .string key, .int .i64 uc, .int .i64 un, .string us, .string rk, .int .i64 an, .int .i64 ab, .int .u32 am] 83 O0.out ?_; intro ga w1 o_ k_; obtain ⟨O1, K1⟩ := ok_ K0 o_ k_; clear a0 a5 O0 K0; have a0 := k8_ O1 0; have a5 := k5_ O1 5; have a8 := k10_ O1 8; clear o_ k_) | ((with_reducible refine gD 4 rfl ?_); refine bP 4 #[.int .i64 0, .int .i64 0, .int .i64 0, .string ⟨#[]⟩, .bool false, .int .i64 0] 79 O1.out ?_; intro gr w2 o_ k_; obtain ⟨O2, K2⟩ := ok_ K1 o_ k_; clear a0 a5 a8 O1 K1; have a0 := k8_ O2 0; have a5 := k5_ O2 5; have a8 := k10_ O2 8; have a9 := k6_ O2 9; clear o_ k_) | ((with_reducible refine gC 77 rfl ?_); refine gP (some 20) Tryd.func77 #[pt gm, .int .i64 n] ?_; obtain ⟨N_, on_, nn_, rr_, bb_⟩ := O2.out.frame0; refine (MClient_ok (L := L) n on_ (rr_ 0 _ rfl) (Kd.N_F (rr_ 3 _ rfl)) HN.out HB.out HQI.out).mono ?_; rintro e_ w3 ⟨rfl, oo_, kk_⟩; obtain ⟨o_, k_⟩ := bb_ _ _ kk_ oo_; refine ⟨_, rfl, ?_⟩; obtain ⟨O3, K3⟩ := ok_ K2 o_ k_; clear a0 a5 a8 a9 O2 K2; have a0 := k8_ O3 0; have a5 := k5_ O3 5; have a8 := k10_ O3 8; have a9 := k6_ O3 9; clear o_ k_ oo_ kk_ on_ nn_ rr_ bb_) | ((with_reducible refine gC 81 rfl ?_); refine gP (some 61) Tryd.func81 #[pt gm, .int .i64 n, pt q.1] ?_; obtain ⟨N_, on_, nn_, rr_, bb_⟩ := O3.out.frameL [5, 6, 7] (by decide) (by simp); refine (MPush_yes n on_ (rr_ 0 _ (by decide) rfl) (Kd.N_F (rr_ 3 _ (by decide) rfl)) (leadF (rr_ 4 _ (by decide) rfl) (pool_get (rr_ 1 _ (by decide) rfl) List.mem_cons_self) HRL.out.symm) HN.out HB.out HQI.out HKL.out HLL.out HCC.out.1 HOW.out HCC.out.2.1 HLJ.out HQJ.out H0.out).mono ?_; rintro e_ w4 ⟨B2, b2, rfl, oo_, kk_⟩; obtain ⟨o_, k_⟩ := bb_ _ [cells q.1 #[.int .i64 x.e, .slice B2 (x.J.length + 1) b2, .int .i64 x.k, .int .i64 x.c, .slice none 0 0] 127, nrow kU7 tU7 (.slice AU x.U.length cU) x.U, nrow (Kd.raw 3) tR7 (.slice B2 (x.J.length + 1) b2) (q.2 ++ [rw3 n ((x.J.length : Int) + 1) (.slice AU x.U.length cU)])] [] rfl kk_ oo_; refine ⟨_, rfl, ?_⟩; obtain ⟨O4, K4⟩ := ok_ K3 o_ k_; clear a0 a5 a8 a9 O3 K3; have a0 := k8_ O4 0; have a5 := k5_ O4 5; have a8 := k10_ O4 8; have a9 := k6_ O4 9; clear o_ k_ oo_ kk_ on_ nn_ rr_ bb_) | ((with_reducible refine gT 79 4 rfl ?_); refine wS 9 0 [.int .i64 0, .int .i64 0, .int .i64 0, .string ⟨#[]⟩, .bool false, .int .i64 ((x.J.length + 1 : Nat) : Int)] O4 ?_; intro w5 o_ k_; obtain ⟨O5, K5⟩ := ok_ K4 o_ k_; clear a0 a5 a8 a9 O4 K4; have a0 := k8_ O5 0; have a5 := k5_ O5 5; have a8 := k10_ O5 8; have a9 := k6_ O5 9; clear o_ k_))
 refine bodyPost_ret (results_cell_row rfl _ _ gr 79 #[.int .i64 0, .int .i64 0, .int .i64 0, .string ⟨#[]⟩, .bool false, .int .i64 ((x.J.length + 1 : Nat) : Int)] (0, 0) _ rfl (O5.out.blk (i := 9) rfl) Tryd.underlying79 rfl (by kernel_rfl)) rfl ?_
 exact ⟨rfl, ModO.backP (n := n) (m := (x.J.length : Int) + 1) (x' := { x with J := x.J ++ [⟨n, (x.J.length : Int) + 1, x.U⟩], U := [] }) HXX.out HQL.out HQI.out rfl rfl HCC.out.2.2 (O5.out.pickL [0, 1, 2, 3, 4, 5, 6, 7] (by decide) (by simp)), K5.out⟩
theorem MDo_4 {N : Nat → Prop} {w : World} {gm : Nat} {cf : MCf} {L : List Rnd7} {cls : List MCl} {x : MCl} (n : Int) (key : ByteArray) (uc un : Int) (us rk : ByteArray) (an ab am : Int) (h : Own N w [ModO gm cf L cls]) (hn : 1 ≤ n ∧ n ≤ cls.length) (hb : cls.length ≤ 64) (hx : cls[n.toNat - 1]? = some x) (hkc : x.k + x.c ≤ 1000000) :
  Calls Tryd.prog 42 #[pt gm, .agg #[.int .i64 4, .int .i64 n, .string key, .int .i64 uc, .int .i64 un, .string us, .string rk, .int .i64 an, .int .i64 ab, .int .u32 am]] w fun e_ w' => e_ = .returned (repM (repN x.c)) ∧ Own N w' [ModO gm cf L (cls.set (n.toNat - 1) { x with k := x.k + x.c, c := 0 })] ∧ KeepS N w w' := by
 have hs2 : wrap64 ((x.k : Int) + (x.c : Int)) = ((x.k + x.c : Nat) : Int) := by unfold wrap64; omega
 obtain ⟨AL, cL, AC, cC, rL, qs, q, AJ, cJ, AU, cU, ⟨hq, hrl, hqj⟩, hqi, h2⟩ := ModO.at h hx
 have HN := Aside0.mk hn
 have HB := Aside0.mk hb
 have HQI := Aside0.mk hqi
 have HXX := Aside0.mk hx
 have HQL := Aside0.mk hq
 have HRL := Aside0.mk hrl
 have HQJ := Aside0.mk hqj
 have O0 : Aside0 (Own N w [cells gm #[.int .i64 cf.cl, .int .i64 cf.win, .int .i64 cf.push, .int .i64 cf.pull, .int .i64 cf.mtu, .int .i64 cf.last, .slice AL L.length cL, .slice AC cls.length cC] 123, poolI rL L qs cls, bigs ((clsI qs cls).set (n.toNat - 1) emp), nrow (Kd.raw 1) tMP (.slice AC cls.length cC) (ptrs qs), nrow (Kd.raw 3) tR7 (.slice AL L.length cL) rL, cells q.1 #[.int .i64 x.e, .slice AJ x.J.length cJ, .int .i64 x.k, .int .i64 x.c, .slice AU x.U.length cU] 127, nrow kU7 tU7 (.slice AU x.U.length cU) x.U, nrow (Kd.raw 3) tR7 (.slice AJ x.J.length cJ) q.2]) := ⟨h2⟩
 have K0 : Aside0 (KeepS N w w) := ⟨KeepS.refl _ _⟩
 have a0 := k8_ O0 0
 have a5 := k5_ O0 5
 clear h h2 hx hn hb hq hrl hqj hqi hkc
 go_enter Tryd.func42, Tryd.ntmps42
 go_wp2_with (first | ((with_reducible refine gD 3 rfl ?_); refine bP 3 #[.int .i64 4, .int .i64 n, .string key, .int .i64 uc, .int .i64 un, .string us, .string rk, .int .i64 an, .int .i64 ab, .int .u32 am] 83 O0.out ?_; intro ga w1 o_ k_; obtain ⟨O1, K1⟩ := ok_ K0 o_ k_; clear a0 a5 O0 K0; have a0 := k8_ O1 0; have a5 := k5_ O1 5; have a8 := k10_ O1 8; clear o_ k_) | ((with_reducible refine gD 4 rfl ?_); refine bP 4 #[.int .i64 0, .int .i64 0, .int .i64 0, .string ⟨#[]⟩, .bool false, .int .i64 0] 79 O1.out ?_; intro gr w2 o_ k_; obtain ⟨O2, K2⟩ := ok_ K1 o_ k_; clear a0 a5 a8 O1 K1; have a0 := k8_ O2 0; have a5 := k5_ O2 5; have a8 := k10_ O2 8; have a9 := k6_ O2 9; clear o_ k_) | ((with_reducible refine gC 77 rfl ?_); refine gP (some 20) Tryd.func77 #[pt gm, .int .i64 n] ?_; obtain ⟨N_, on_, nn_, rr_, bb_⟩ := O2.out.frame0; refine (MClient_ok (L := L) n on_ (rr_ 0 _ rfl) (Kd.N_F (rr_ 3 _ rfl)) HN.out HB.out HQI.out).mono ?_; rintro e_ w3 ⟨rfl, oo_, kk_⟩; obtain ⟨o_, k_⟩ := bb_ _ _ kk_ oo_; refine ⟨_, rfl, ?_⟩; obtain ⟨O3, K3⟩ := ok_ K2 o_ k_; clear a0 a5 a8 a9 O2 K2; have a0 := k8_ O3 0; have a5 := k5_ O3 5; have a8 := k10_ O3 8; have a9 := k6_ O3 9; clear o_ k_ oo_ kk_ on_ nn_ rr_ bb_) | ((with_reducible refine gT 3 77 rfl ?_); refine wS 5 2 [.int .i64 ((x.k + x.c : Nat) : Int)] O3 ?_; intro w4 o_ k_; obtain ⟨O4, K4⟩ := ok_ K3 o_ k_; clear a0 a5 a8 a9 O3 K3; have a0 := k8_ O4 0; have a5 := k5_ O4 5; have a8 := k10_ O4 8; have a9 := k6_ O4 9; clear o_ k_) | ((with_reducible refine gT 3 79 rfl ?_); refine wS 5 3 [.int .i64 0] O4 ?_; intro w5 o_ k_; obtain ⟨O5, K5⟩ := ok_ K4 o_ k_; clear a0 a5 a8 a9 O4 K4; have a0 := k8_ O5 0; have a5 := k5_ O5 5; have a8 := k10_ O5 8; have a9 := k6_ O5 9; clear o_ k_) | ((with_reducible refine gT 79 4 rfl ?_); refine wS 9 0 [.int .i64 0, .int .i64 0, .int .i64 0, .string ⟨#[]⟩, .bool false, .int .i64 x.c] O5 ?_; intro w6 o_ k_; obtain ⟨O6, K6⟩ := ok_ K5 o_ k_; clear a0 a5 a8 a9 O5 K5; have a0 := k8_ O6 0; have a5 := k5_ O6 5; have a8 := k10_ O6 8; have a9 := k6_ O6 9; clear o_ k_))
 refine bodyPost_ret (results_cell_row rfl _ _ gr 79 #[.int .i64 0, .int .i64 0, .int .i64 0, .string ⟨#[]⟩, .bool false, .int .i64 x.c] (0, 0) _ rfl (O6.out.blk (i := 9) rfl) Tryd.underlying79 rfl (by kernel_rfl)) rfl ?_
 exact ⟨rfl, ModO.backU (x' := { x with k := x.k + x.c, c := 0 }) HXX.out HQL.out HQI.out rfl (O6.out.pickL [0, 1, 2, 3, 4, 5, 6, 7] (by decide) (by simp)), K6.out⟩
theorem MDo_6n {N : Nat → Prop} {w : World} {gm : Nat} {cf : MCf} {L : List Rnd7} {cls : List MCl} {x : MCl} (n : Int) (key : ByteArray) (uc un : Int) (us rk : ByteArray) (an ab am : Int) (h : Own N w [ModO gm cf L cls]) (hn : 1 ≤ n ∧ n ≤ cls.length) (hb : cls.length ≤ 64) (hx : cls[n.toNat - 1]? = some x) (hlo : 0 ≤ x.e ∧ x.e ≤ 1099511627776) (h1 : x.e ≥ cf.last) :
  Calls Tryd.prog 42 #[pt gm, .agg #[.int .i64 6, .int .i64 n, .string key, .int .i64 uc, .int .i64 un, .string us, .string rk, .int .i64 an, .int .i64 ab, .int .u32 am]] w fun e_ w' => e_ = .returned (repM (rep0 8)) ∧ Own N w' [ModO gm cf L cls] ∧ KeepS N w w' := by
 have HLO := Aside0.mk hlo
 have H1 := Aside0.mk h1
 obtain ⟨AL, cL, AC, cC, rL, qs, q, AJ, cJ, AU, cU, ⟨hq, hrl, hqj⟩, hqi, h2⟩ := ModO.at h hx
 have HN := Aside0.mk hn
 have HB := Aside0.mk hb
 have HQI := Aside0.mk hqi
 have HXX := Aside0.mk hx
 have HQL := Aside0.mk hq
 have HRL := Aside0.mk hrl
 have HQJ := Aside0.mk hqj
 have O0 : Aside0 (Own N w [cells gm #[.int .i64 cf.cl, .int .i64 cf.win, .int .i64 cf.push, .int .i64 cf.pull, .int .i64 cf.mtu, .int .i64 cf.last, .slice AL L.length cL, .slice AC cls.length cC] 123, poolI rL L qs cls, bigs ((clsI qs cls).set (n.toNat - 1) emp), nrow (Kd.raw 1) tMP (.slice AC cls.length cC) (ptrs qs), nrow (Kd.raw 3) tR7 (.slice AL L.length cL) rL, cells q.1 #[.int .i64 x.e, .slice AJ x.J.length cJ, .int .i64 x.k, .int .i64 x.c, .slice AU x.U.length cU] 127, nrow kU7 tU7 (.slice AU x.U.length cU) x.U, nrow (Kd.raw 3) tR7 (.slice AJ x.J.length cJ) q.2]) := ⟨h2⟩
 have K0 : Aside0 (KeepS N w w) := ⟨KeepS.refl _ _⟩
 have a0 := k8_ O0 0
 have a5 := k5_ O0 5
 clear h h2 hx hn hb hq hrl hqj hqi hlo h1
 go_enter Tryd.func42, Tryd.ntmps42
 go_wp2_with (first | ((with_reducible refine gD 3 rfl ?_); refine bP 3 #[.int .i64 6, .int .i64 n, .string key, .int .i64 uc, .int .i64 un, .string us, .string rk, .int .i64 an, .int .i64 ab, .int .u32 am] 83 O0.out ?_; intro ga w1 o_ k_; obtain ⟨O1, K1⟩ := ok_ K0 o_ k_; clear a0 a5 O0 K0; have a0 := k8_ O1 0; have a5 := k5_ O1 5; have a8 := k10_ O1 8; clear o_ k_) | ((with_reducible refine gD 4 rfl ?_); refine bP 4 #[.int .i64 0, .int .i64 0, .int .i64 0, .string ⟨#[]⟩, .bool false, .int .i64 0] 79 O1.out ?_; intro gr w2 o_ k_; obtain ⟨O2, K2⟩ := ok_ K1 o_ k_; clear a0 a5 a8 O1 K1; have a0 := k8_ O2 0; have a5 := k5_ O2 5; have a8 := k10_ O2 8; have a9 := k6_ O2 9; clear o_ k_) | ((with_reducible refine gC 77 rfl ?_); refine gP (some 20) Tryd.func77 #[pt gm, .int .i64 n] ?_; obtain ⟨N_, on_, nn_, rr_, bb_⟩ := O2.out.frame0; refine (MClient_ok (L := L) n on_ (rr_ 0 _ rfl) (Kd.N_F (rr_ 3 _ rfl)) HN.out HB.out HQI.out).mono ?_; rintro e_ w3 ⟨rfl, oo_, kk_⟩; obtain ⟨o_, k_⟩ := bb_ _ _ kk_ oo_; refine ⟨_, rfl, ?_⟩; obtain ⟨O3, K3⟩ := ok_ K2 o_ k_; clear a0 a5 a8 a9 O2 K2; have a0 := k8_ O3 0; have a5 := k5_ O3 5; have a8 := k10_ O3 8; have a9 := k6_ O3 9; clear o_ k_ oo_ kk_ on_ nn_ rr_ bb_) | ((with_reducible refine gC 82 rfl ?_); refine gP (some 101) Tryd.func82 #[pt gm, pt q.1] ?_; obtain ⟨N_, on_, nn_, rr_, bb_⟩ := O3.out.frameL [5] (by decide) (by simp); refine (MReset_no on_ (rr_ 0 _ (by decide) rfl) HLO.out H1.out).mono ?_; rintro e_ w4 ⟨rfl, oo_, kk_⟩; obtain ⟨o_, k_⟩ := bb_ _ [cells q.1 #[.int .i64 x.e, .slice AJ x.J.length cJ, .int .i64 x.k, .int .i64 x.c, .slice AU x.U.length cU] 127] [] rfl kk_ oo_; refine ⟨_, rfl, ?_⟩; obtain ⟨O4, K4⟩ := ok_ K3 o_ k_; clear a0 a5 a8 a9 O3 K3; have a0 := k8_ O4 0; have a5 := k5_ O4 5; have a8 := k10_ O4 8; have a9 := k6_ O4 9; clear o_ k_ oo_ kk_ on_ nn_ rr_ bb_) | ((with_reducible refine gT 79 4 rfl ?_); refine wS 9 0 [.int .i64 8, .int .i64 0, .int .i64 0, .string ⟨#[]⟩, .bool false, .int .i64 0] O4 ?_; intro w5 o_ k_; obtain ⟨O5, K5⟩ := ok_ K4 o_ k_; clear a0 a5 a8 a9 O4 K4; have a0 := k8_ O5 0; have a5 := k5_ O5 5; have a8 := k10_ O5 8; have a9 := k6_ O5 9; clear o_ k_))
 refine bodyPost_ret (results_cell_row rfl _ _ gr 79 #[.int .i64 8, .int .i64 0, .int .i64 0, .string ⟨#[]⟩, .bool false, .int .i64 0] (0, 0) _ rfl (O5.out.blk (i := 9) rfl) Tryd.underlying79 rfl (by kernel_rfl)) rfl ?_
 exact ⟨rfl, by have hz := ModO.backU (x' := x) HXX.out HQL.out HQI.out rfl (O5.out.pickL [0, 1, 2, 3, 4, 5, 6, 7] (by decide) (by simp)); rw [set_same HXX.out] at hz; exact hz, K5.out⟩
theorem MDo_6y {N : Nat → Prop} {w : World} {gm : Nat} {cf : MCf} {L : List Rnd7} {cls : List MCl} {x : MCl} (n : Int) (key : ByteArray) (uc un : Int) (us rk : ByteArray) (an ab am : Int) (h : Own N w [ModO gm cf L cls]) (hn : 1 ≤ n ∧ n ≤ cls.length) (hb : cls.length ≤ 64) (hx : cls[n.toNat - 1]? = some x) (hlo : 0 ≤ x.e ∧ x.e ≤ 1099511627776) (h1 : ¬ x.e ≥ cf.last) :
  Calls Tryd.prog 42 #[pt gm, .agg #[.int .i64 6, .int .i64 n, .string key, .int .i64 uc, .int .i64 un, .string us, .string rk, .int .i64 an, .int .i64 ab, .int .u32 am]] w fun e_ w' => e_ = .returned (repM (rep0 0)) ∧ Own N w' [ModO gm cf L (cls.set (n.toNat - 1) ⟨x.e + 1, x.J, 0, 0, []⟩)] ∧ KeepS N w w' := by
 have HLO := Aside0.mk hlo
 have H1 := Aside0.mk h1
 obtain ⟨AL, cL, AC, cC, rL, qs, q, AJ, cJ, AU, cU, ⟨hq, hrl, hqj⟩, hqi, h2⟩ := ModO.at h hx
 have HN := Aside0.mk hn
 have HB := Aside0.mk hb
 have HQI := Aside0.mk hqi
 have HXX := Aside0.mk hx
 have HQL := Aside0.mk hq
 have HRL := Aside0.mk hrl
 have HQJ := Aside0.mk hqj
 have O0 : Aside0 (Own N w [cells gm #[.int .i64 cf.cl, .int .i64 cf.win, .int .i64 cf.push, .int .i64 cf.pull, .int .i64 cf.mtu, .int .i64 cf.last, .slice AL L.length cL, .slice AC cls.length cC] 123, poolI rL L qs cls, bigs ((clsI qs cls).set (n.toNat - 1) emp), nrow (Kd.raw 1) tMP (.slice AC cls.length cC) (ptrs qs), nrow (Kd.raw 3) tR7 (.slice AL L.length cL) rL, cells q.1 #[.int .i64 x.e, .slice AJ x.J.length cJ, .int .i64 x.k, .int .i64 x.c, .slice AU x.U.length cU] 127, nrow kU7 tU7 (.slice AU x.U.length cU) x.U, nrow (Kd.raw 3) tR7 (.slice AJ x.J.length cJ) q.2]) := ⟨h2⟩
 have K0 : Aside0 (KeepS N w w) := ⟨KeepS.refl _ _⟩
 have a0 := k8_ O0 0
 have a5 := k5_ O0 5
 clear h h2 hx hn hb hq hrl hqj hqi hlo h1
 go_enter Tryd.func42, Tryd.ntmps42
 go_wp2_with (first | ((with_reducible refine gD 3 rfl ?_); refine bP 3 #[.int .i64 6, .int .i64 n, .string key, .int .i64 uc, .int .i64 un, .string us, .string rk, .int .i64 an, .int .i64 ab, .int .u32 am] 83 O0.out ?_; intro ga w1 o_ k_; obtain ⟨O1, K1⟩ := ok_ K0 o_ k_; clear a0 a5 O0 K0; have a0 := k8_ O1 0; have a5 := k5_ O1 5; have a8 := k10_ O1 8; clear o_ k_) | ((with_reducible refine gD 4 rfl ?_); refine bP 4 #[.int .i64 0, .int .i64 0, .int .i64 0, .string ⟨#[]⟩, .bool false, .int .i64 0] 79 O1.out ?_; intro gr w2 o_ k_; obtain ⟨O2, K2⟩ := ok_ K1 o_ k_; clear a0 a5 a8 O1 K1; have a0 := k8_ O2 0; have a5 := k5_ O2 5; have a8 := k10_ O2 8; have a9 := k6_ O2 9; clear o_ k_) | ((with_reducible refine gC 77 rfl ?_); refine gP (some 20) Tryd.func77 #[pt gm, .int .i64 n] ?_; obtain ⟨N_, on_, nn_, rr_, bb_⟩ := O2.out.frame0; refine (MClient_ok (L := L) n on_ (rr_ 0 _ rfl) (Kd.N_F (rr_ 3 _ rfl)) HN.out HB.out HQI.out).mono ?_; rintro e_ w3 ⟨rfl, oo_, kk_⟩; obtain ⟨o_, k_⟩ := bb_ _ _ kk_ oo_; refine ⟨_, rfl, ?_⟩; obtain ⟨O3, K3⟩ := ok_ K2 o_ k_; clear a0 a5 a8 a9 O2 K2; have a0 := k8_ O3 0; have a5 := k5_ O3 5; have a8 := k10_ O3 8; have a9 := k6_ O3 9; clear o_ k_ oo_ kk_ on_ nn_ rr_ bb_) | ((with_reducible refine gC 82 rfl ?_); refine gP (some 101) Tryd.func82 #[pt gm, pt q.1] ?_; obtain ⟨N_, on_, nn_, rr_, bb_⟩ := O3.out.frameL [5] (by decide) (by simp); refine (MReset_ok on_ (rr_ 0 _ (by decide) rfl) HLO.out H1.out).mono ?_; rintro e_ w4 ⟨rfl, oo_, kk_⟩; obtain ⟨o_, k_⟩ := bb_ _ [cells q.1 #[.int .i64 (x.e + 1), .slice AJ x.J.length cJ, .int .i64 0, .int .i64 0, .slice none 0 0] 127] [] rfl kk_ oo_; refine ⟨_, rfl, ?_⟩; obtain ⟨O4, K4⟩ := ok_ K3 o_ k_; clear a0 a5 a8 a9 O3 K3; have a0 := k8_ O4 0; have a5 := k5_ O4 5; have a8 := k10_ O4 8; have a9 := k6_ O4 9; clear o_ k_ oo_ kk_ on_ nn_ rr_ bb_) | ((with_reducible refine gT 79 4 rfl ?_); refine wS 9 0 [.int .i64 0, .int .i64 0, .int .i64 0, .string ⟨#[]⟩, .bool false, .int .i64 0] O4 ?_; intro w5 o_ k_; obtain ⟨O5, K5⟩ := ok_ K4 o_ k_; clear a0 a5 a8 a9 O4 K4; have a0 := k8_ O5 0; have a5 := k5_ O5 5; have a8 := k10_ O5 8; have a9 := k6_ O5 9; clear o_ k_))
 refine bodyPost_ret (results_cell_row rfl _ _ gr 79 #[.int .i64 0, .int .i64 0, .int .i64 0, .string ⟨#[]⟩, .bool false, .int .i64 0] (0, 0) _ rfl (O5.out.blk (i := 9) rfl) Tryd.underlying79 rfl (by kernel_rfl)) rfl ?_
 exact ⟨rfl, ModO.backU (x' := ⟨x.e + 1, x.J, 0, 0, []⟩) HXX.out HQL.out HQI.out rfl ((O5.out.push_emp (nrow kU7 tU7 (.slice none 0 0) []) (fun w => Kd.N_nil _ _ _ _ _)).pickL [0, 1, 2, 3, 4, 5, 10, 7] (by decide) (by simp)), K5.out⟩
theorem clAt_set {cls : List MCl} {n : Int} {x : MCl} (y : MCl) (h : clAt cls n = some x) (m : Int) : clAt (cls.set (n.toNat - 1) y) m = if m = n then some y else clAt cls m := by
 obtain ⟨⟨h1, h2⟩, hx⟩ := clAt_some h
 unfold clAt
 by_cases hm : 1 ≤ m
 ·rw [if_pos hm, if_pos hm, List.getElem?_set]
  by_cases e : m = n
  ·subst e
   rw [if_pos rfl, if_pos rfl, if_pos (by omega)]
  ·rw [if_neg e, if_neg (by omega)]
 ·rw [if_neg hm, if_neg hm, if_neg (by omega)]
theorem clAt_len {cls : List MCl} {n : Int} {x : MCl} (h : clAt cls n = some x) : 1 ≤ n ∧ n ≤ cls.length := (clAt_some h).1
structure ClOk (cf : MCf) (L : List Rnd7) (x : Nat) (n : Int) (y : MCl) : Prop where
 e : 1 ≤ y.e ∧ y.e ≤ 1 + x
 j : y.J.length ≤ x
 u : y.U.length ≤ x
 f : Few x y.J
 a : ∀ (k : Nat) (r : Rnd7), y.J[k]? = some r → r.f0 = n ∧ r.f1 = (k : Int) + 1
 p : ownR n L <+: y.J
 k : y.k + y.c ≤ L.length
 c : (y.c : Int) ≤ cf.pull
structure MInv (cf : MCf) (x : Nat) (L : List Rnd7) (cls : List MCl) : Prop where
 n : (cls.length : Int) = cf.cl
 l : L.length ≤ x
 f : Few x L
 o : ∀ r ∈ L, 1 ≤ r.f0 ∧ r.f0 ≤ cls.length
 m : ∀ (k : Nat) (r : Rnd7), L[k]? = some r → r.f1 = ((ownR r.f0 (L.take k)).length : Int) + 1
 c : ∀ (n : Int) (y : MCl), clAt cls n = some y → ClOk cf L x n y
structure CfOk (cf : MCf) : Prop where
 cl : 1 ≤ cf.cl ∧ cf.cl ≤ 4
 push : 1 ≤ cf.push
 pull : 1 ≤ cf.pull
 last : 1 ≤ cf.last ∧ cf.last ≤ 1099511627776
theorem ClOk.mono {cf : MCf} {L : List Rnd7} {x z : Nat} {n : Int} {y : MCl} (h : ClOk cf L x n y) (hz : x ≤ z) : ClOk cf L z n y :=
 ⟨⟨h.e.1, by have := h.e.2; omega⟩, Nat.le_trans h.j hz, Nat.le_trans h.u hz, h.f.mono hz, h.a, h.p, h.k, h.c⟩
theorem MInv.mono {cf : MCf} {x z : Nat} {L : List Rnd7} {cls : List MCl} (h : MInv cf x L cls) (hz : x ≤ z) : MInv cf z L cls := ⟨h.n, Nat.le_trans h.l hz, h.f.mono hz, h.o, h.m, fun n y hy => (h.c n y hy).mono hz⟩
theorem ownR_app (n : Int) (K M : List Rnd7) : ownR n (K ++ M) = ownR n K ++ ownR n M := by unfold ownR; rw [List.filter_append]
theorem ownR_pre (n : Int) (L : List Rnd7) (k : Nat) : ownR n (L.take k) <+: ownR n L := by
 refine ⟨ownR n (L.drop k), ?_⟩
 rw [← ownR_app, List.take_append_drop]
theorem ClOk.own {cf : MCf} {L : List Rnd7} {x : Nat} {n : Int} {y : MCl} (h : ClOk cf L x n y) : ownN n L y ≤ y.J.length := Nat.le_trans (ownR_pre n L y.k).length_le h.p.length_le
theorem ClOk.seen {cf : MCf} {L : List Rnd7} {x : Nat} {n : Int} {y : MCl} (h : ClOk cf L x n y) (hL : L.length ≤ x) (hF : Few x L) (hx : x ≤ 400) : (flatR (seenR n L y)).length + y.U.length < 1000000 := by
 have h1 : Few x (seenR n L y) := (hF.take _).app (h.f.drop _)
 have h2 := h1.flat
 have h3 : (seenR n L y).length ≤ 800 := by
  unfold seenR pndR
  rw [List.length_append, List.length_take, List.length_drop]
  have := h.j
  omega
 have h4 := h.u
 have h5 : x * (seenR n L y).length ≤ 400 * 800 := Nat.mul_le_mul hx h3
 omega
theorem MInv.set {cf : MCf} {x z : Nat} {L : List Rnd7} {cls : List MCl} {n : Int} {y y' : MCl} (h : MInv cf x L cls) (hz : x ≤ z) (hy : clAt cls n = some y) (hy' : ClOk cf L z n y') : MInv cf z L (cls.set (n.toNat - 1) y') := by
 refine ⟨by rw [List.length_set]; exact h.n, Nat.le_trans h.l hz, h.f.mono hz, by rw [List.length_set]; exact h.o, h.m, fun m v hv => ?_⟩
 rw [clAt_set y' hy] at hv
 split at hv
 ·rename_i e
  subst e
  cases hv
  exact hy'
 ·exact (h.c m v hv).mono hz
theorem MInv.commit {cf : MCf} {x : Nat} {L : List Rnd7} {cls : List MCl} (h : MInv cf x L cls) (n : Int) : MInv cf (x + 1) (cmtL n L cls) cls := by
 unfold cmtL
 cases hr : nextR n L cls with
 | none => rw [Option.toList_none, List.append_nil]; exact h.mono (Nat.le_succ x)
 | some r =>
  rw [Option.toList_some]
  unfold nextR at hr
  obtain ⟨y, hy, hj⟩ := Option.bind_eq_some_iff.1 hr
  have hc := h.c n y hy
  obtain ⟨e0, e1⟩ := hc.a _ _ hj
  have hrJ : r ∈ y.J := List.mem_of_getElem? hj
  refine ⟨h.n, by rw [List.length_append, List.length_singleton]; have := h.l; omega, (h.f.mono (Nat.le_succ x)).app (Few.one (Nat.le_trans (hc.f r hrJ) (Nat.le_succ x))), fun q hq => ?_, fun k q hq => ?_, fun m v hv => ?_⟩
  ·rcases List.mem_append.1 hq with hq | hq
   ·exact h.o q hq
   ·rw [List.mem_singleton] at hq
    subst hq
    rw [e0]
    exact clAt_len hy
  ·rcases Nat.lt_or_ge k L.length with hk | hk
   ·rw [List.getElem?_append_left hk] at hq
    rw [List.take_append_of_le_length (Nat.le_of_lt hk)]
    exact h.m k q hq
   ·have hk2 : k = L.length := by
     have := (List.getElem?_eq_some_iff.1 hq).1
     rw [List.length_append, List.length_singleton] at this
     omega
    subst hk2
    rw [List.getElem?_append_right (Nat.le_refl _), Nat.sub_self] at hq
    have : r = q := by simpa using hq
    subst this
    rw [List.take_left, e0, e1]
  ·have hv0 := (h.c m v hv).mono (Nat.le_succ x)
   refine ⟨hv0.e, hv0.j, hv0.u, hv0.f, hv0.a, ?_, by rw [List.length_append]; have := hv0.k; omega, hv0.c⟩
   by_cases em : m = n
   ·subst em
    rw [hy] at hv
    cases hv
    rw [ownR_yes e0]
    obtain ⟨T, hT⟩ := hc.p
    have hl : (ownR m L).length < y.J.length := (List.getElem?_eq_some_iff.1 hj).1
    rw [← hT, List.getElem?_append_right (Nat.le_refl _), Nat.sub_self] at hj
    cases T with
    | nil => simp at hj
    | cons t T =>
     have : t = r := by simpa using hj
     subst this
     exact ⟨T, by rw [List.append_assoc]; exact hT⟩
   ·rw [ownR_no (by rw [e0]; exact fun e => em e.symm)]
    exact hv0.p
theorem MInv.come {cf : MCf} {x : Nat} {L : List Rnd7} {cls : List MCl} (h : MInv cf x L cls) (n : Int) : MInv cf (x + 1) L (comeS n cf L cls).2 := by
 unfold comeS
 cases hc : clAt cls n with
 | none => exact h.mono (Nat.le_succ x)
 | some y =>
  simp only
  split
  ·rename_i hb
   have hb := of_decide_eq_true hb
   have hy := (h.c n y hc).mono (Nat.le_succ x)
   exact h.set (Nat.le_succ x) hc ⟨hy.e, hy.j, hy.u, hy.f, hy.a, hy.p, by show y.k + (y.c + 1) ≤ _; omega, by show ((y.c + 1 : Nat) : Int) ≤ _; omega⟩
  ·exact h.mono (Nat.le_succ x)
noncomputable def doX (cf : MCf) (L : List Rnd7) (n : Int) (x : MCl) (a : ActM) : RepT × MCl :=
 if a.f0 = 1 then (rep0 (updE x.U a.f2.f0 a.f2.f1 a.f2.f2 a.f2.f3 cf.mtu), { x with U := updU x.U a.f2.f0 a.f2.f1 a.f2.f2 a.f2.f3 cf.mtu })
 else if a.f0 = 2 then (⟨0, stateOf x.U (seenR n L x) a.f3, false, cntK (stateOf x.U (seenR n L x))⟩, x)
 else if a.f0 = 3 then (if mpushE n L x cf = 0 then (repN ((x.J.length + 1 : Nat) : Int), { x with J := x.J ++ [⟨n, (x.J.length : Int) + 1, x.U⟩], U := [] }) else (rep0 (mpushE n L x cf), x))
 else if a.f0 = 4 then (repN x.c, { x with k := x.k + x.c, c := 0 })
 else if a.f0 = 5 then (⟨0, (0, 0, none'), decide (x.J.length - ownN n L x = 0) && decide (x.U.length = 0), 0⟩, x)
 else if x.e ≥ cf.last then (rep0 8, x) else (rep0 0, ⟨x.e + 1, x.J, 0, 0, []⟩)
noncomputable def doS (cf : MCf) (L : List Rnd7) (cls : List MCl) (a : ActM) : RepT × List MCl :=
 if a.f0 < 1 ∨ a.f0 > 6 then (rep0 5, cls) else match clAt cls a.f1 with
 | none => (rep0 11, cls)
 | some x => ((doX cf L a.f1 x a).1, cls.set (a.f1.toNat - 1) (doX cf L a.f1 x a).2)
theorem doX_ok {cf : MCf} {L : List Rnd7} {x : Nat} {n : Int} {y : MCl} (h : ClOk cf L x n y) (hp : 1 ≤ cf.pull) (a : ActM) : ClOk cf L (x + 1) n (doX cf L n y a).2 := by
 have hy := h.mono (Nat.le_succ x)
 unfold doX
 split
 ·exact ⟨hy.e, hy.j, by have := upd_len y.U a.f2.f0 a.f2.f1 a.f2.f2 a.f2.f3 cf.mtu; have := h.u; show (updU _ _ _ _ _ _).length ≤ _; omega, hy.f, hy.a, hy.p, hy.k, hy.c⟩
 split
 ·exact hy
 split
 ·split
  ·refine ⟨hy.e, by show (y.J ++ _).length ≤ _; rw [List.length_append, List.length_singleton]; have := h.j; omega, Nat.zero_le _, hy.f.app (Few.one hy.u), fun k r hr => ?_, ?_, hy.k, hy.c⟩
   ·rcases Nat.lt_or_ge k y.J.length with hk | hk
    ·rw [List.getElem?_append_left hk] at hr
     exact hy.a k r hr
    ·have hk2 : k = y.J.length := by
      have := (List.getElem?_eq_some_iff.1 hr).1
      rw [List.length_append, List.length_singleton] at this
      omega
     subst hk2
     rw [List.getElem?_append_right (Nat.le_refl _), Nat.sub_self] at hr
     have : (⟨n, (y.J.length : Int) + 1, y.U⟩ : Rnd7) = r := by simpa using hr
     subst this
     exact ⟨rfl, rfl⟩
   ·exact hy.p.trans (List.prefix_append _ _)
  ·exact hy
 split
 ·exact ⟨hy.e, hy.j, hy.u, hy.f, hy.a, hy.p, by show y.k + y.c + 0 ≤ _; exact hy.k, by show ((0 : Nat) : Int) ≤ _; omega⟩
 split
 ·exact hy
 split
 ·exact hy
 ·exact ⟨⟨by show 1 ≤ y.e + 1; have := h.e.1; omega, by show y.e + 1 ≤ _; have := h.e.2; omega⟩, hy.j, Nat.zero_le _, hy.f, hy.a, hy.p, Nat.zero_le _, by show ((0 : Nat) : Int) ≤ _; omega⟩
theorem MInv.act {cf : MCf} {x : Nat} {L : List Rnd7} {cls : List MCl} (h : MInv cf x L cls) (hp : 1 ≤ cf.pull) (a : ActM) : MInv cf (x + 1) L (doS cf L cls a).2 := by
 unfold doS
 split
 ·exact h.mono (Nat.le_succ x)
 ·cases hc : clAt cls a.f1 with
  | none => exact h.mono (Nat.le_succ x)
  | some y => exact h.set (Nat.le_succ x) hc (doX_ok (h.c _ _ hc) hp a)
theorem MInv.len {cf : MCf} {x : Nat} {L : List Rnd7} {cls : List MCl} (h : MInv cf x L cls) (hc : CfOk cf) : cls.length ≤ 64 := by
 have := h.n
 have := hc.cl.2
 omega
section
variable {N : Nat → Prop} {w : World} {gm x : Nat} {cf : MCf} {L : List Rnd7} {cls : List MCl}
theorem MDo (a : ActM) (h : Own N w [ModO gm cf L cls]) (ht : TabN N w) (hi : MInv cf x L cls) (hc : CfOk cf) (hx : x ≤ 400) (hk : a.f3.size ≤ 50) :
  Calls Tryd.prog 42 #[pt gm, actMV a] w fun e_ w' => e_ = .returned (repM (doS cf L cls a).1) ∧ Own N w' [ModO gm cf L (doS cf L cls a).2] ∧ KeepS N w w' := by
 obtain ⟨kd, n, ⟨key, uc, un, us⟩, rk, an, ab, am⟩ := a
 have h64 := hi.len hc
 have hl := hi.l
 have hrk : rk.size ≤ maxLen := Nat.le_trans hk (by decide)
 unfold doS
 simp only
 by_cases hlo : kd < 1
 ·rw [if_pos (.inl hlo)]
  obtain ⟨N_, on_, nn_, rr_, bb_⟩ := h.frame0
  exact (MDo_lo kd n key uc un us rk an ab am on_ hlo).mono fun e_ w' ⟨a, b, c⟩ => ⟨a, (bb_ w' [] c b).1, (bb_ w' [] c b).2⟩
 by_cases hhi : kd > 6
 ·rw [if_pos (.inr hhi)]
  obtain ⟨N_, on_, nn_, rr_, bb_⟩ := h.frame0
  exact (MDo_hi kd n key uc un us rk an ab am on_ ⟨by omega, hhi⟩).mono fun e_ w' ⟨a, b, c⟩ => ⟨a, (bb_ w' [] c b).1, (bb_ w' [] c b).2⟩
 rw [if_neg (by omega)]
 cases hcl : clAt cls n with
 | none =>
  obtain ⟨N_, on_, nn_, rr_, bb_⟩ := h.frame0
  obtain ⟨AL, cL, AC, cC, qs, hq, e1, hm, hp, hl, _, _⟩ := ModO.view0 (rr_ 0 _ rfl)
  exact (MDo_none kd n key uc un us rk an ab am on_ hm hp ⟨by omega, by omega⟩ (clAt_none hcl)).mono fun e_ w' ⟨a, b, c⟩ => ⟨a, (bb_ w' [] c b).1, (bb_ w' [] c b).2⟩
 | some y =>
  obtain ⟨hn, hxx⟩ := clAt_some hcl
  have hy := hi.c n y hcl
  have hj := hy.j
  have hu := hy.u
  have hky := hy.k
  have hown := hy.own
  have hkL : y.k ≤ L.length := by omega
  have hsame : cls.set (n.toNat - 1) y = cls := set_same hxx
  simp only
  unfold doX
  simp only
  by_cases k1 : kd = 1
  ·subst k1
   rw [if_pos rfl]
   exact MDo_1 n key uc un us rk an ab am h hn h64 hxx ht (by omega)
  rw [if_neg k1]
  by_cases k2 : kd = 2
  ·subst k2
   rw [if_pos rfl, hsame]
   obtain ⟨N_, on_, nn_, rr_, bb_⟩ := h.frame0
   obtain ⟨AL, cL, AC, cC, qs, q, AJ, cJ, AU, cU, hqi, e1, e2, e3, hm, hp, hl2, hx1, hj2, hu2⟩ := ModO.view (rr_ 0 _ rfl) hxx
   exact (MDo_2 n key uc un us rk an ab am on_ hm hp hx1 hl2 hj2 hu2 hn h64 hqi hkL (by omega) e1 hown e2 (by omega) hrk (hy.seen hi.l hi.f hx)).mono fun e_ w' ⟨a, b, c⟩ => ⟨a, (bb_ w' [] c b).1, (bb_ w' [] c b).2⟩
  rw [if_neg k2]
  by_cases k3 : kd = 3
  ·subst k3
   rw [if_pos rfl]
   by_cases h0 : mpushE n L y cf = 0
   ·rw [if_pos h0]
    exact MDo_3y n key uc un us rk an ab am h hn h64 hxx hkL (by omega) hown (by omega) h0
   ·rw [if_neg h0]
    simp only
    rw [hsame]
    exact MDo_3n n key uc un us rk an ab am h hn h64 hxx hkL (by omega) hown (by omega) h0
  rw [if_neg k3]
  by_cases k4 : kd = 4
  ·subst k4
   rw [if_pos rfl]
   exact MDo_4 n key uc un us rk an ab am h hn h64 hxx (by omega)
  rw [if_neg k4]
  by_cases k5 : kd = 5
  ·subst k5
   rw [if_pos rfl, hsame]
   obtain ⟨N_, on_, nn_, rr_, bb_⟩ := h.frame0
   obtain ⟨AL, cL, AC, cC, qs, q, AJ, cJ, AU, cU, hqi, e1, e2, e3, hm, hp, hl2, hx1, hj2, hu2⟩ := ModO.view (rr_ 0 _ rfl) hxx
   exact (MDo_5 n key uc un us rk an ab am on_ hm hp hx1 hl2 hn h64 hqi hkL (by omega) e1 hown e2).mono fun e_ w' ⟨a, b, c⟩ => ⟨a, (bb_ w' [] c b).1, (bb_ w' [] c b).2⟩
  rw [if_neg k5]
  have k6 : kd = 6 := by omega
  subst k6
  have he := hy.e
  by_cases h1 : y.e ≥ cf.last
  ·rw [if_pos h1]
   simp only
   rw [hsame]
   exact MDo_6n n key uc un us rk an ab am h hn h64 hxx ⟨by omega, by omega⟩ h1
  ·rw [if_neg h1]
   exact MDo_6y n key uc un us rk an ab am h hn h64 hxx ⟨by omega, by omega⟩ h1
theorem MCome_i (n : Int) (h : Own N w [ModO gm cf L cls]) (hi : MInv cf x L cls) (hc : CfOk cf) (hx : x ≤ 400) :
  Calls Tryd.prog 45 #[pt gm, .int .i64 n] w fun e_ w' => e_ = .returned (.bool (comeS n cf L cls).1) ∧ Own N w' [ModO gm cf L (comeS n cf L cls).2] ∧ KeepS N w w' :=
 MCome n h (hi.len hc) (by have := hi.l; omega) (fun y hy => by have := (hi.c n y hy).k; have := hi.l; omega)
theorem MCommit_i (n : Int) (h : Own N w [ModO gm cf L cls]) (hi : MInv cf x L cls) (hc : CfOk cf) (hx : x ≤ 400) :
  Calls Tryd.prog 44 #[pt gm, .int .i64 n] w fun e_ w' => e_ = .returned (.bool (nextR n L cls).isSome) ∧ Own N w' [ModO gm cf (cmtL n L cls) cls] ∧ KeepS N w w' :=
 MCommit n h (hi.len hc) (by have := hi.l; omega)
theorem MLook_i (n : Int) {y : MCl} (h : Own N w [ModO gm cf L cls]) (hi : MInv cf x L cls) (hc : CfOk cf) (hx : x ≤ 400) (hy : clAt cls n = some y) :
  Calls Tryd.prog 40 #[pt gm, .int .i64 n] w fun e_ w' => e_ = .returned (lookV n L y) ∧ Own N w' [ModO gm cf L cls] ∧ KeepS N w w' := by
 obtain ⟨hn, hxx⟩ := clAt_some hy
 have h64 := hi.len hc
 have hl := hi.l
 have hk := hi.c n y hy
 obtain ⟨N_, on_, nn_, rr_, bb_⟩ := h.frame0
 obtain ⟨AL, cL, AC, cC, qs, q, AJ, cJ, AU, cU, hqi, e1, e2, e3, hm, hp, hl2, hx1, hj2, hu2⟩ := ModO.view (rr_ 0 _ rfl) hxx
 exact (MLook_ok n on_ hm hp hx1 hl2 hn h64 hqi (by have := hk.k; omega) (by omega) e1 hk.own e2).mono fun e_ w' ⟨a, b, c⟩ => ⟨a, (bb_ w' [] c b).1, (bb_ w' [] c b).2⟩
theorem MLog_i (h : Own N w [ModO gm cf L cls]) (hi : MInv cf x L cls) (hx : x ≤ 400) :
  Calls Tryd.prog 39 #[pt gm] w fun e_ w' => ∃ A1 c1, e_ = .returned (.slice A1 L.length c1) ∧ Own N w' [ModO gm cf L cls, nrow kR7 tR7 (.slice A1 L.length c1) L] ∧ KeepS N w w' := by
 have hl := hi.l
 obtain ⟨N_, on_, nn_, rr_, bb_⟩ := h.frame0
 obtain ⟨AL, cL, AC, cC, qs, hq, e1, hm, hp, hl2, _, _⟩ := ModO.view0 (rr_ 0 _ rfl)
 refine (MLog (qs := qs) on_ hm hl2 (by omega) (hi.f.mono (by omega))).mono ?_
 rintro e_ w' ⟨A1, c1, a, b, c⟩
 obtain ⟨o_, k_⟩ := bb_ w' _ c (b.conv (i := 0) rfl (nrow kR7 tR7 (.slice A1 L.length c1) L) (fun F hp _ => Kd.R_N hp))
 exact ⟨A1, c1, a, o_, k_⟩
theorem MKnown_i (n : Int) {y : MCl} (h : Own N w [ModO gm cf L cls]) (hi : MInv cf x L cls) (hc : CfOk cf) (hx : x ≤ 400) (hy : clAt cls n = some y) :
  Calls Tryd.prog 41 #[pt gm, .int .i64 n] w fun e_ w' => ∃ A1 c1, e_ = .returned (.slice A1 y.k c1) ∧ Own N w' [ModO gm cf L cls, nrow kR7 tR7 (.slice A1 y.k c1) (L.take y.k)] ∧ KeepS N w w' := by
 obtain ⟨hn, hxx⟩ := clAt_some hy
 have h64 := hi.len hc
 have hl := hi.l
 have hk := hi.c n y hy
 obtain ⟨N_, on_, nn_, rr_, bb_⟩ := h.frame0
 obtain ⟨AL, cL, AC, cC, qs, q, AJ, cJ, AU, cU, hqi, e1, e2, e3, hm, hp, hl2, hx1, hj2, hu2⟩ := ModO.view (rr_ 0 _ rfl) hxx
 refine (MKnown_ok n on_ hm hp hx1 hl2 hn h64 hqi (by have := hk.k; omega) (by omega) e1 (hi.f.mono (by omega))).mono ?_
 rintro e_ w' ⟨A1, c1, a, b, c⟩
 obtain ⟨o_, k_⟩ := bb_ w' _ c (b.conv (i := 0) rfl (nrow kR7 tR7 (.slice A1 y.k c1) (L.take y.k)) (fun F hp _ => Kd.R_N hp))
 exact ⟨A1, c1, a, o_, k_⟩
end
end Go.Proofs.YtjdenpmaianmfaaDoor.J
namespace Go.Proofs.YtjdenpmaianmfaaDoor.J
set_option maxHeartbeats 16000000
set_option maxRecDepth 100000
set_option linter.unusedSimpArgs false
set_option linter.unusedVariables false
open Go Go.RowKit Go.Proofs.YtjdenpmaianmfaaDoorW.PrintWords Go.Proofs.YtjdenpmaianmfaaDoorW.PrintLast Go.Proofs.YtjdenpmaianmfaaDoorW.PrintMore Go.Proofs.YtjdenpmaianmfaaDoor.Q Go.Proofs.YtjdenpmaianmfaaDoor.Sep Go.Proofs.YtjdenpmaianmfaaDoor.Pure
def cfMay (cf : MCf) : Bool := decide ((1 ≤ cf.cl ∧ cf.cl ≤ 64) ∧ (1 ≤ cf.win ∧ cf.win ≤ 16) ∧ (1 ≤ cf.push ∧ cf.push ≤ 16) ∧ (1 ≤ cf.pull ∧ cf.pull ≤ 16) ∧ (64 ≤ cf.mtu ∧ cf.mtu ≤ 1400) ∧ (1 ≤ cf.last ∧ cf.last ≤ 1099511627776))
theorem in_q (n a b : Int) : sequencer_in.f n a b = some (decide (n ≥ a ∧ n ≤ b)) := by
 unfold sequencer_in.f
 by_cases h1 : n ≥ a <;> by_cases h2 : n ≤ b <;> simp [h1, h2]
theorem may_q (cf : MCf) : sequencer_May.f cf.cl cf.win cf.push cf.pull cf.mtu cf.last = some (if cfMay cf = true then 0 else 1) := by
 unfold sequencer_May.f cfMay
 simp only [in_q, Option.bind_some, decide_eq_true_eq, ge_iff_le]
 by_cases h1 : 1 ≤ cf.cl ∧ cf.cl ≤ 64
 case neg => rw [if_neg h1, if_neg (fun h => h1 h.1)]
 rw [if_pos h1]
 by_cases h2 : 1 ≤ cf.win ∧ cf.win ≤ 16
 case neg => rw [if_neg h2, if_neg (fun h => h2 h.2.1)]
 rw [if_pos h2]
 by_cases h3 : 1 ≤ cf.push ∧ cf.push ≤ 16
 case neg => rw [if_neg h3, if_neg (fun h => h3 h.2.2.1)]
 rw [if_pos h3]
 by_cases h4 : 1 ≤ cf.pull ∧ cf.pull ≤ 16
 case neg => rw [if_neg h4, if_neg (fun h => h4 h.2.2.2.1)]
 rw [if_pos h4]
 by_cases h5 : 64 ≤ cf.mtu ∧ cf.mtu ≤ 1400
 case neg => rw [if_neg h5, if_neg (fun h => h5 h.2.2.2.2.1)]
 rw [if_pos h5]
 by_cases h6 : 1 ≤ cf.last ∧ cf.last ≤ 1099511627776
 case neg => rw [if_neg h6, if_neg (fun h => h6 h.2.2.2.2.2)]
 rw [if_pos h6, if_pos ⟨h1, h2, h3, h4, h5, h6⟩]
def c0M : MCl := ⟨1, [], 0, 0, []⟩
def clsZ (x : Int) : List MCl := List.replicate x.toNat c0M
theorem clsZ_succ (x : Int) (h : 0 ≤ x) : clsZ (x + 1) = clsZ x ++ [c0M] := by
 unfold clsZ
 rw [show (x + 1).toNat = x.toNat + 1 by omega, List.replicate_succ']
theorem clsZ_len (x : Int) : (clsZ x).length = x.toNat := by unfold clsZ; rw [List.length_replicate]
abbrev qsZ (gs : List Nat) : List (Nat × RawR) := gs.map fun g => (g, [])
theorem clsZ_at {x n : Int} {y : MCl} (h : clAt (clsZ x) n = some y) : y = c0M := by
 obtain ⟨_, hx⟩ := clAt_some h
 exact List.eq_of_mem_replicate (List.mem_of_getElem? hx)
theorem MInv.zero {cf : MCf} (h : CfOk cf) : MInv cf 0 [] (clsZ cf.cl) := by
 refine ⟨by rw [clsZ_len]; have := h.cl.1; omega, Nat.le_refl _, fun r hr => by simp at hr, fun r hr => by simp at hr, fun k r hr => by simp at hr, fun n y hy => ?_⟩
 rw [clsZ_at hy]
 exact ⟨⟨by decide, by decide⟩, Nat.le_refl _, Nat.le_refl _, fun r hr => by simp [c0M] at hr, fun k r hr => by simp [c0M] at hr, List.prefix_rfl, Nat.le_refl _, by show ((0 : Nat) : Int) ≤ _; have := h.pull; omega⟩
theorem rep1P (W : World) (g : Nat) : Reps (Kd.FK (Kd.raw 1) W (fun _ => False)) 1 [[pt g]] [pt g] := (Reps.none _ _).snoc (fun _ _ => ⟨rfl, rfl, fun u hu => by rw [List.mem_singleton] at hu; rw [hu]; rfl⟩) rfl
theorem flat1 : Flat (Kd.raw 1) := fun h => h
theorem ptrs_len (gs : List Nat) : (ptrs (qsZ gs)).length = gs.length := by simp
theorem ptrs_more (gs : List Nat) (g : Nat) : ptrs (qsZ gs) ++ [[pt g]] = ptrs (qsZ (gs ++ [g])) := by simp
section
variable {N : Nat → Prop} {w : World} {P0 P1 P2 : HP} {gs : List Nat} {x : Int} {g : Nat}
theorem cl_more (hx : 0 ≤ x) (hg : gs.length = x.toNat) (h : Own N w [P0, P1, P2, bigs (clsI (qsZ gs) (clsZ x)), cells g #[.int .i64 1, .slice none 0 0, .int .i64 0, .int .i64 0, .slice none 0 0] 127]) : Own N w [P0, P1, P2, bigs (clsI (qsZ (gs ++ [g])) (clsZ (x + 1)))] := by
 have h1 := h.push_emp (nrow (Kd.raw 3) tR7 (.slice none 0 0) []) (fun w => Kd.N_nil _ _ _ _ _)
 have h2 := h1.push_emp (nrow kU7 tU7 (.slice none 0 0) []) (fun w => Kd.N_nil _ _ _ _ _)
 have h3 := h2.join (i := 4) (j := 5) rfl rfl (by decide)
 have h4 := h3.join (i := 4) (j := 6) rfl rfl (by decide)
 have h5 := h4.conv (i := 4) rfl (ClI g c0M []) (fun F hp _ => ⟨.slice none 0 0, .slice none 0 0, hp⟩)
 have h6 := h5.join (i := 3) (j := 4) rfl rfl (by decide)
 have e : clsI (qsZ (gs ++ [g])) (clsZ (x + 1)) = clsI (qsZ gs) (clsZ x) ++ [ClI g c0M []] := by
  unfold clsI qsZ
  rw [clsZ_succ x hx, List.map_append, List.zipWith_append (by rw [List.length_map, clsZ_len, hg])]
  rfl
 exact (h6.conv (i := 3) rfl (bigs (clsI (qsZ (gs ++ [g])) (clsZ (x + 1)))) (fun F hp _ => by
  rw [e]
  exact bigs_snoc (star_swap hp))).take 4
theorem mod_new {gm : Nat} {cf : MCf} {vC : Value} (hg : gs.length = (clsZ x).length) (h : Own N w [P0, cells gm #[.int .i64 cf.cl, .int .i64 cf.win, .int .i64 cf.push, .int .i64 cf.pull, .int .i64 cf.mtu, .int .i64 cf.last, .slice none 0 0, vC] 123, nrow (Kd.raw 1) tMP vC (ptrs (qsZ gs)), bigs (clsI (qsZ gs) (clsZ x))]) : Own N w [ModO gm cf [] (clsZ x)] := by
 have h1 := h.push_emp (nrow (Kd.raw 3) tR7 (.slice none 0 0) []) (fun w => Kd.N_nil _ _ _ _ _)
 have h2 := h1.push_emp (poolI [] [] (qsZ gs) (clsZ x)) (fun w p hp => by
  rcases List.mem_cons.1 hp with e | e
  ·subst e
   exact Lead.none _ _
  ·obtain ⟨i, hi, rfl⟩ := List.mem_iff_getElem.1 e
   rw [List.getElem_zipWith]
   have h3 : (clsZ x)[i]'(by rw [List.length_zipWith] at hi; omega) = c0M := List.eq_of_mem_replicate (List.getElem_mem _)
   rw [h3]
   show Lead _ _ ((qsZ gs)[i]'(by rw [List.length_zipWith] at hi; omega)).2 []
   rw [show ((qsZ gs)[i]'(by rw [List.length_zipWith] at hi; omega)).2 = [] by simp]
   exact Lead.none _ _)
 exact ModO.shut (by simp [hg]) (h2.pickL [1, 5, 3, 2, 4] (by decide) (by simp))
end
def NwI (N : Nat → Prop) (w : World) (gm : Nat) (cf : MCf) (R : HP) (i : Value) (wr : World) : Prop := ∃ (x : Int) (gs : List Nat) (AC : Option Addr) (cC : Nat), 0 ≤ x ∧ x ≤ cf.cl ∧ i = .int .i64 x ∧ gs.length = x.toNat ∧ Aside0 (Own N wr [R, cells gm #[.int .i64 cf.cl, .int .i64 cf.win, .int .i64 cf.push, .int .i64 cf.pull, .int .i64 cf.mtu, .int .i64 cf.last, .slice none 0 0, .slice AC gs.length cC] 123, nrow (Kd.raw 1) tMP (.slice AC gs.length cC) (ptrs (qsZ gs)), bigs (clsI (qsZ gs) (clsZ x))]) ∧ Aside0 (KeepS N w wr)
theorem infoP : (Tryd.prog.info? tMP).map (fun i => (i.zero, i.size, i.bytes)) = some (some (.pointer none), 1, 8) := by kernel_rfl
theorem MNew_no {N : Nat → Prop} {w : World} (cf : MCf) (h : Own N w []) (hm : ¬ cfMay cf = true) :
  Calls Tryd.prog 43 #[.agg #[.int .i64 cf.cl, .int .i64 cf.win, .int .i64 cf.push, .int .i64 cf.pull, .int .i64 cf.mtu, .int .i64 cf.last]] w fun e_ w' => e_ = .returned (.tuple #[.pointer none, .int .i64 1]) ∧ Own N w' [] ∧ KeepS N w w' := by
 have HMY : Aside0 (sequencer_May.f cf.cl cf.win cf.push cf.pull cf.mtu cf.last = some 1) := ⟨by rw [may_q, if_neg hm]⟩
 have O0 : Aside0 (Own N w []) := ⟨h⟩
 have K0 : Aside0 (KeepS N w w) := ⟨KeepS.refl _ _⟩
 clear h hm
 go_enter Tryd.func43, Tryd.ntmps43
 go_wp2_with (first | ((with_reducible refine gD 1 rfl ?_); refine bP 1 #[.int .i64 cf.cl, .int .i64 cf.win, .int .i64 cf.push, .int .i64 cf.pull, .int .i64 cf.mtu, .int .i64 cf.last] 68 O0.out ?_; intro gc w1 o_ k_; obtain ⟨O1, K1⟩ := ok_ K0 o_ k_; clear O0 K0 o_ k_; have a0 := k6_ O1 0) | ((with_reducible refine gC 83 rfl ?_); refine gP (some 7) Tryd.func83 #[.agg #[.int .i64 cf.cl, .int .i64 cf.win, .int .i64 cf.push, .int .i64 cf.pull, .int .i64 cf.mtu, .int .i64 cf.last]] ?_; refine (sequencer_May.calls cf.cl cf.win cf.push cf.pull cf.mtu cf.last 1 _ HMY.out).mono ?_; rintro e_ w2 ⟨rfl, hb_⟩; refine ⟨_, rfl, ?_⟩; obtain ⟨O2, K2⟩ := ob_ K1 O1 hb_; clear a0 O1 K1 hb_; have a0 := k6_ O2 0))
 go_ret2
 exact ⟨rfl, O2.out.take 0, K2.out⟩
theorem MNew_ok {N : Nat → Prop} {w : World} (cf : MCf) (h : Own N w []) (hm : cfMay cf = true) :
  Calls Tryd.prog 43 #[.agg #[.int .i64 cf.cl, .int .i64 cf.win, .int .i64 cf.push, .int .i64 cf.pull, .int .i64 cf.mtu, .int .i64 cf.last]] w fun e_ w' => ∃ gm, e_ = .returned (.tuple #[pt gm, .int .i64 0]) ∧ Own N w' [ModO gm cf [] (clsZ cf.cl)] ∧ KeepS N w w' := by
 have HMY : Aside0 (sequencer_May.f cf.cl cf.win cf.push cf.pull cf.mtu cf.last = some 0) := ⟨by rw [may_q, if_pos hm]⟩
 have HCF : Aside0 (1 ≤ cf.cl ∧ cf.cl ≤ 64) := ⟨(of_decide_eq_true hm).1⟩
 have O0 : Aside0 (Own N w []) := ⟨h⟩
 have K0 : Aside0 (KeepS N w w) := ⟨KeepS.refl _ _⟩
 clear h hm
 go_enter Tryd.func43, Tryd.ntmps43
 go_wp2_with (first | ((with_reducible refine gD 1 rfl ?_); refine bP 1 #[.int .i64 cf.cl, .int .i64 cf.win, .int .i64 cf.push, .int .i64 cf.pull, .int .i64 cf.mtu, .int .i64 cf.last] 68 O0.out ?_; intro gc w1 o_ k_; obtain ⟨O1, K1⟩ := ok_ K0 o_ k_; clear O0 K0 o_ k_; have a0 := k6_ O1 0) | ((with_reducible refine gC 83 rfl ?_); refine gP (some 7) Tryd.func83 #[.agg #[.int .i64 cf.cl, .int .i64 cf.win, .int .i64 cf.push, .int .i64 cf.pull, .int .i64 cf.mtu, .int .i64 cf.last]] ?_; refine (sequencer_May.calls cf.cl cf.win cf.push cf.pull cf.mtu cf.last 0 _ HMY.out).mono ?_; rintro e_ w2 ⟨rfl, hb_⟩; refine ⟨_, rfl, ?_⟩; obtain ⟨O2, K2⟩ := ob_ K1 O1 hb_; clear a0 O1 K1 hb_; have a0 := k6_ O2 0) | ((with_reducible refine gD 13 rfl ?_); refine bP 13 #[.int .i64 cf.cl, .int .i64 cf.win, .int .i64 cf.push, .int .i64 cf.pull, .int .i64 cf.mtu, .int .i64 cf.last, .slice none 0 0, .slice none 0 0] 123 O2.out ?_; intro gm w3 o_ k_; obtain ⟨O3, K3⟩ := ok_ K2 o_ k_; clear a0 O2 K2 o_ k_; have a0 := k6_ O3 0; have a1 := k8_ O3 1))
 clear a0 a1
 go_loopw [16] (fun i wr => NwI N w gm cf (cells gc #[.int .i64 cf.cl, .int .i64 cf.win, .int .i64 cf.push, .int .i64 cf.pull, .int .i64 cf.mtu, .int .i64 cf.last] 68) i wr) (fun i _ => cf.cl.toNat - (intOf i).toNat)
 case atStart => exact ⟨0, [], none, 0, by omega, by have := HCF.out; omega, rfl, rfl, ⟨((O3.out.push_emp (nrow (Kd.raw 1) tMP (.slice none 0 0) []) (fun w => Kd.N_nil _ _ _ _ _)).push_emp (bigs (clsI (qsZ []) (clsZ 0))) (fun w => trivial))⟩, K3⟩
 case round =>
  clear O3 K3
  obtain ⟨x, gs, AC, cC, hx0, hx1, rfl, hgs, OA, KA⟩ := hrel
  by_cases hlt : x < cf.cl
  ·have hd : decide (x < cf.cl) = true := decide_eq_true hlt
   have hs2 : wrap64 (x + 1) = x + 1 := by unfold wrap64; have := HCF.out; omega
   have HX := Aside0.mk (show 0 ≤ x ∧ x < cf.cl from ⟨hx0, hlt⟩)
   have HG := Aside0.mk hgs
   have HGL : Aside0 (gs.length ≤ 64) := ⟨by rw [hgs]; have := HCF.out; omega⟩
   clear hx0 hx1 hlt hgs
   have O4 : Aside0 (Own N wr [cells gc #[.int .i64 cf.cl, .int .i64 cf.win, .int .i64 cf.push, .int .i64 cf.pull, .int .i64 cf.mtu, .int .i64 cf.last] 68, cells gm #[.int .i64 cf.cl, .int .i64 cf.win, .int .i64 cf.push, .int .i64 cf.pull, .int .i64 cf.mtu, .int .i64 cf.last, .slice none 0 0, .slice AC gs.length cC] 123, nrow (Kd.raw 1) tMP (.slice AC gs.length cC) (ptrs (qsZ gs)), bigs (clsI (qsZ gs) (clsZ x))]) := ⟨OA.out⟩
   have K4 : Aside0 (KeepS N w wr) := ⟨KA.out⟩
   have a1 := k8_ O4 1
   have a0 := k6_ O4 0
   clear OA KA
   go_wp2_with (first | ((with_reducible refine gD 24 rfl ?_); refine bP 24 #[.int .i64 1, .slice none 0 0, .int .i64 0, .int .i64 0, .slice none 0 0] 127 O4.out ?_; intro gx w5 o_ k_; obtain ⟨O5, K5⟩ := ok_ K4 o_ k_; clear a1 a0 O4 K4 o_ k_; have a1 := k8_ O5 1; have a0 := k6_ O5 0; have a4 := k5_ O5 4) | ((with_reducible refine gD 25 rfl ?_); refine own_lit (Kd.raw 1) (N := N) (e := tMP) (xs := [[pt gx]]) (inner := [pt gx]) rfl (D := 25) rfl gs_ ?hp (by show 1 ≤ 9223372036854775807; decide) O5.out ?_; (case hp => exact rep1P _ _); intro B1 b1 w6 o_ k_; obtain ⟨O6, K6⟩ := ok_ K5 o_ k_; clear a1 a0 a4 O5 K5 o_ k_; have a1 := k8_ O6 1; have a0 := k6_ O6 0; have a4 := k5_ O6 4) | ((with_reducible refine gate_builtin (b := .append) (xs := #[.tmp 22, .tmp 25]) rfl ?_); at_builtin; refine Own.append_flat (Kd.raw 1) flat1 O6.out (i := 2) (ys := [[pt gx]]) rfl ((O6.out.nreads (i := 5) rfl).2.2) rfl (.tmp 22) (.tmp 25) 121 ((.pointer none)) 8 rfl Tryd.underlying121 infoP rfl (by decide) (by decide) rfl rfl (by have := HGL.out; rw [ptrs_len]; omega) ?_; rw [ptrs_more, ptrs_len]; intro B2 b2 w7 o_ k_; obtain ⟨O7, K7⟩ := ok_ K6 o_ k_; clear a1 a0 a4 O6 K6 o_ k_; have a1 := k8_ O7 1; have a0 := k6_ O7 0; have a4 := k5_ O7 4) | ((with_reducible refine gT 121 28 rfl ?_); refine wS 1 7 [.slice B2 (gs ++ [gx]).length b2] O7 ?_; intro w8 o_ k_; obtain ⟨O8, K8⟩ := ok_ K7 o_ k_; clear a1 a0 a4 O7 K7 o_ k_; have a1 := k8_ O8 1; have a0 := k6_ O8 0; have a4 := k5_ O8 4))
   go_roundw
   case rel => exact ⟨x + 1, gs ++ [gx], B2, b2, by have := HX.out; omega, by have := HX.out; omega, int_eq17 (by unfold wrap64; have := HX.out; have := HCF.out; omega), by rw [List.length_append, List.length_singleton, HG.out]; have := HX.out; omega, ⟨cl_more HX.out.1 HG.out (O8.out.take 5)⟩, K8⟩
   case measure => have := HX.out; have := HCF.out; simp [intOf]; omega
  ·have hxe : x = cf.cl := by omega
   have hd : decide (x < cf.cl) = false := decide_eq_false hlt
   clear hlt hx0 hx1
   go_wp2
   go_ret2
   exact ⟨gm, rfl, by rw [← hxe]; exact mod_new (by rw [clsZ_len]; exact hgs) OA.out, KA.out⟩
end Go.Proofs.YtjdenpmaianmfaaDoor.J
namespace Go.Proofs.YtjdenpmaianmfaaDoor.J
set_option maxHeartbeats 16000000
set_option maxRecDepth 100000
set_option linter.unusedSimpArgs false
set_option linter.unusedVariables false
open Go Go.RowKit Go.Proofs.YtjdenpmaianmfaaDoorW.PrintWords Go.Proofs.YtjdenpmaianmfaaDoorW.PrintLast Go.Proofs.YtjdenpmaianmfaaDoorW.PrintMore Go.Proofs.YtjdenpmaianmfaaDoor.Q Go.Proofs.YtjdenpmaianmfaaDoor.Sep Go.Proofs.YtjdenpmaianmfaaDoor.Pure
abbrev kS21 := k88
abbrev Step21 := S88
theorem heapS21 : Kd.Heap kS21 := Kd.heap_iso _ (Kd.heap_pair (Kd.heap_iso _ (Kd.heap_pair (Kd.heap_int _) (Kd.heap_pair (Kd.heap_int _) (Kd.heap_pair heapU7 (Kd.heap_pair Kd.heap_string (Kd.heap_pair (Kd.heap_int _) (Kd.heap_pair (Kd.heap_int _) (Kd.heap_int _)))))))) (Kd.heap_pair (Kd.heap_int _) (Kd.heap_int _)))
theorem k12_ {N : Nat → Prop} {w : World} {l : List HP} {t : TypeId} {g : Nat} {v0 v1 v2 v3 v4 v5 v6 v7 v8 v9 v10 v11 : Value} (h : Aside0 (Own N w l)) (i : Nat) (hi : l[i]? = some (cells g #[v0, v1, v2, v3, v4, v5, v6, v7, v8, v9, v10, v11] t) := by rfl) : w.cell? ⟨g, 0, none⟩ = some v0 ∧ w.cell? ⟨g, 1, none⟩ = some v1 ∧ w.cell? ⟨g, 2, none⟩ = some v2 ∧ w.cell? ⟨g, 3, none⟩ = some v3 ∧ w.cell? ⟨g, 4, none⟩ = some v4 ∧ w.cell? ⟨g, 5, none⟩ = some v5 ∧ w.cell? ⟨g, 6, none⟩ = some v6 ∧ w.cell? ⟨g, 7, none⟩ = some v7 ∧ w.cell? ⟨g, 8, none⟩ = some v8 ∧ w.cell? ⟨g, 9, none⟩ = some v9 ∧ w.cell? ⟨g, 10, none⟩ = some v10 ∧ w.cell? ⟨g, 11, none⟩ = some v11 ∧ ∀ i, w.frozen? ⟨g, i, none⟩ = false := ⟨(blk_cell (h.out.blk hi) 0).trans rfl, (blk_cell (h.out.blk hi) 1).trans rfl, (blk_cell (h.out.blk hi) 2).trans rfl, (blk_cell (h.out.blk hi) 3).trans rfl, (blk_cell (h.out.blk hi) 4).trans rfl, (blk_cell (h.out.blk hi) 5).trans rfl, (blk_cell (h.out.blk hi) 6).trans rfl, (blk_cell (h.out.blk hi) 7).trans rfl, (blk_cell (h.out.blk hi) 8).trans rfl, (blk_cell (h.out.blk hi) 9).trans rfl, (blk_cell (h.out.blk hi) 10).trans rfl, (blk_cell (h.out.blk hi) 11).trans rfl, fun i => blk_frozen (h.out.blk hi) i⟩
def keys50 (l : List Step21) : Prop := ∀ y : Int, 0 ≤ y → y < l.length → (rd_T88 l y).f0.f3.size ≤ 50
theorem g21_loop (l : List Step21) (hl : l.length ≤ 60) : ∀ (d k : Nat) (x : Int), 0 ≤ x → x ≤ l.length → (l.length : Int) - x = d → d + 230 ≤ k → ∃ b, chapbooklaw21_great.l0 k l l.length x = some b ∧ (b = false → ∀ y : Int, x ≤ y → y < l.length → (rd_T88 l y).f0.f3.size ≤ 50) := by
 intro d
 induction d with
 | zero =>
  intro k x h0 h1 hd hk
  obtain ⟨k, rfl⟩ : ∃ q, k = q + 1 := ⟨k - 1, by omega⟩
  unfold chapbooklaw21_great.l0
  rw [if_neg (by omega)]
  exact ⟨false, rfl, fun _ y a b => by omega⟩
 | succ d ih =>
  intro k x h0 h1 hd hk
  obtain ⟨k, rfl⟩ : ∃ q, k = q + 1 := ⟨k - 1, by omega⟩
  unfold chapbooklaw21_great.l0
  rw [if_pos (by omega), if_pos h0, if_pos (by omega)]
  obtain ⟨b, hb⟩ : ∃ b, chapbookref04_Great.f (rd_T88 l x).f0.f2.f0 (rd_T88 l x).f0.f2.f1 (rd_T88 l x).f0.f2.f2 (rd_T88 l x).f0.f2.f3 = some b := by
   unfold chapbookref04_Great.f
   split
   ·exact ⟨_, rfl⟩
   ·exact ⟨_, rfl⟩
  rw [hb, Option.bind_some]
  cases b
  ·rw [if_neg (by decide)]
   by_cases hs : ((rd_T88 l x).f0.f3.size : Int) > 50
   ·exact ⟨true, if_pos hs, by simp⟩
   ·rw [if_neg hs, w64s17 h0 (show x < (l.length : Int) by omega) (by omega)]
    obtain ⟨e, he, he2⟩ := ih k (x + 1) (by omega) (by omega) (by omega) (by omega)
    refine ⟨e, he, fun h y a b => ?_⟩
    by_cases hy : y = x
    ·subst hy
     omega
    ·exact he2 h y (by omega) b
  ·exact ⟨true, if_pos rfl, by simp⟩
theorem great21_ok (cf : MCf) (l : List Step21) : ∃ b, chapbooklaw21_great.f 300 cf.cl cf.win cf.push cf.pull cf.mtu cf.last l = some b ∧ (b = false → l.length ≤ 60 ∧ cf.cl ≤ 4 ∧ keys50 l) := by
 unfold chapbooklaw21_great.f
 by_cases h : (l.length : Int) > 60
 ·rw [if_pos h]
  exact ⟨true, by unfold chapbooklaw21_great.j0; exact if_pos rfl, by simp⟩
 ·rw [if_neg h]
  by_cases h4 : cf.cl > 4
  ·exact ⟨true, by unfold chapbooklaw21_great.j0; exact if_pos (decide_eq_true h4), by simp⟩
  ·obtain ⟨b, hb, hb2⟩ := g21_loop l (by omega) l.length 299 0 (by omega) (by omega) (by omega) (by omega)
   refine ⟨b, ?_, fun e => ⟨by omega, by omega, hb2 e⟩⟩
   have e : chapbooklaw21_great.j0 (299 + 1) l (decide (cf.cl > 4)) = if decide (cf.cl > 4) = true then some true else chapbooklaw21_great.l0 299 l l.length 0 := by rw [chapbooklaw21_great.j0]
   exact e.trans ((if_neg (by simp [h4])).trans hb)
theorem CfOk.mk_ {cf : MCf} (h : cfMay cf = true) (h4 : cf.cl ≤ 4) : CfOk cf := by
 obtain ⟨a, b, c, d, e, f⟩ := of_decide_eq_true h
 exact ⟨⟨a.1, h4⟩, c.1, d.1, f⟩
theorem rmay21 (cf : MCf) : chapbookref16_May.f cf.cl cf.win cf.push cf.pull cf.mtu cf.last = some (cfMay cf) := by
 unfold chapbookref16_May.f cfMay
 simp only [ge_iff_le]
 by_cases h1 : 1 ≤ cf.cl; case neg => simp [h1]
 by_cases h2 : cf.cl ≤ 64; case neg => simp [h1, h2]
 by_cases h3 : 1 ≤ cf.win; case neg => simp [h1, h2, h3]
 by_cases h4 : cf.win ≤ 16; case neg => simp [h1, h2, h3, h4]
 by_cases h5 : 1 ≤ cf.push; case neg => simp [h1, h2, h3, h4, h5]
 by_cases h6 : cf.push ≤ 16; case neg => simp [h1, h2, h3, h4, h5, h6]
 by_cases h7 : 1 ≤ cf.pull; case neg => simp [h1, h2, h3, h4, h5, h6, h7]
 by_cases h8 : cf.pull ≤ 16; case neg => simp [h1, h2, h3, h4, h5, h6, h7, h8]
 by_cases h9 : 64 ≤ cf.mtu; case neg => simp [h1, h2, h3, h4, h5, h6, h7, h8, h9]
 by_cases h10 : cf.mtu ≤ 1400; case neg => simp [h1, h2, h3, h4, h5, h6, h7, h8, h9, h10]
 by_cases h11 : 1 ≤ cf.last; case neg => simp [h1, h2, h3, h4, h5, h6, h7, h8, h9, h10, h11]
 simp [h1, h2, h3, h4, h5, h6, h7, h8, h9, h10, h11]
def RnI (N : Nat → Prop) (w : World) (n gm : Nat) (cf : MCf) (R : HP) (i : Value) (wr : World) : Prop := ∃ (x : Int) (L : List Rnd7) (cls : List MCl), 0 ≤ x ∧ x ≤ n ∧ i = .int .i64 x ∧ Aside0 (MInv cf x.toNat L cls) ∧ Aside0 (Own N wr [R, ModO gm cf L cls]) ∧ Aside0 (KeepS N w wr)
theorem Run21 {N : Nat → Prop} {w : World} (cf : MCf) (A0 : Option Addr) (c0 : Nat) (l0 : List Step21) (h : Own N w []) (hF : Kd.F kS21 w N A0 l0.length l0) (ht : TabN N w) (hm : cfMay cf = true) (hc : CfOk cf) (hl : l0.length ≤ 60) (hk : keys50 l0) :
  Calls Tryd.prog 38 #[.agg #[.int .i64 cf.cl, .int .i64 cf.win, .int .i64 cf.push, .int .i64 cf.pull, .int .i64 cf.mtu, .int .i64 cf.last], .slice A0 l0.length c0] w fun e_ w' => ∃ gm L cls, e_ = .returned (pt gm) ∧ MInv cf l0.length L cls ∧ Own N w' [ModO gm cf L cls] ∧ KeepS N w w' := by
 have HSF := Aside0.mk hF
 have HCF := Aside0.mk hc
 have HL60 := Aside0.mk hl
 have HKS := Aside0.mk hk
 have HT_0 := Aside0.mk ht
 have HT00 := Aside0.mk ht
 have HMY := Aside0.mk hm
 have O0 : Aside0 (Own N w []) := ⟨h⟩
 have K0 : Aside0 (KeepS N w w) := ⟨KeepS.refl _ _⟩
 clear h hF hc hl hk ht hm
 go_enter Tryd.func38, Tryd.ntmps38
 go_wp2_with (first | ((with_reducible refine gD 2 rfl ?_); refine bP 2 #[.int .i64 cf.cl, .int .i64 cf.win, .int .i64 cf.push, .int .i64 cf.pull, .int .i64 cf.mtu, .int .i64 cf.last] 68 O0.out ?_; intro gc w1 o_ k_; obtain ⟨O1, K1⟩ := ok_ K0 o_ k_; have HT_1 := Aside0.mk (TabN.keep HT_0.out k_); clear O0 K0 HT_0 o_ k_; have a0 := k6_ O1 0) | ((with_reducible refine gC 43 rfl ?_); refine gP (some 11) Tryd.func43 #[.agg #[.int .i64 cf.cl, .int .i64 cf.win, .int .i64 cf.push, .int .i64 cf.pull, .int .i64 cf.mtu, .int .i64 cf.last]] ?_; obtain ⟨N_, on_, nn_, rr_, bb_⟩ := O1.out.frame0; refine (MNew_ok cf on_ HMY.out).mono ?_; rintro e_ w2 ⟨gm, rfl, oo_, kk_⟩; obtain ⟨o_, k_⟩ := bb_ _ _ kk_ oo_; refine ⟨_, rfl, ?_⟩; obtain ⟨O2, K2⟩ := ok_ K1 o_ k_; have HT_2 := Aside0.mk (TabN.keep HT_1.out k_); clear a0 O1 K1 HT_1 o_ k_ oo_ kk_ on_ nn_ rr_ bb_; have a0 := k6_ O2 0))
 clear a0
 go_loopw [18] (fun i wr => RnI N w l0.length gm cf (cells gc #[.int .i64 cf.cl, .int .i64 cf.win, .int .i64 cf.push, .int .i64 cf.pull, .int .i64 cf.mtu, .int .i64 cf.last] 68) i wr) (fun i _ => l0.length - (intOf i).toNat)
 case atStart => exact ⟨0, [], clsZ cf.cl, by omega, by omega, rfl, ⟨MInv.zero HCF.out⟩, O2, K2⟩
 case round =>
  clear O2 K2 HT_2
  obtain ⟨x, L, cls, hx0, hx1, rfl, HI, OA, KA⟩ := hrel
  by_cases hlt : x < (l0.length : Int)
  ·have hd : decide (x < (l0.length : Int)) = true := decide_eq_true hlt
   obtain ⟨ad, e7, y0, y1, y2, y3, y4, y5, y6, y7, y8, y9, y10, y11⟩ := at_T88 (Kd.F_now (keepF HSF.out KA.out)) x hx0 hlt
   cases e7
   have HKY := Aside0.mk (HKS.out x hx0 hlt)
   have hs2 : wrap64 (x + 1) = x + 1 := by unfold wrap64; have := HL60.out; omega
   have hp := eq_true hx0
   have hq := eq_true hlt
   have HX : Aside0 (0 ≤ x ∧ x < l0.length ∧ x ≤ 59) := ⟨hx0, hlt, by have := HL60.out; omega⟩
   obtain ⟨s, hs⟩ : ∃ s, rd_T88 l0 x = s := ⟨_, rfl⟩
   rw [hs] at y0 y1 y2 y3 y4 y5 y6 y7 y8 y9 y10 y11 HKY
   have HXT : Aside0 ((x + 1).toNat = x.toNat + 1) := ⟨by omega⟩
   have HX4 : Aside0 (x.toNat ≤ 400) := ⟨by have := HX.out; omega⟩
   clear hx0 hx1 hlt hs
   by_cases h1 : s.f1 = 0
   ·by_cases h2 : s.f2 = 0
    ·skip
     have d1 : (s.f1 != 0) = false := by simp [h1]
     have d2 : (s.f2 != 0) = false := by simp [h2]
     clear h1 h2
     have O3 : Aside0 (Own N wr [cells gc #[.int .i64 cf.cl, .int .i64 cf.win, .int .i64 cf.push, .int .i64 cf.pull, .int .i64 cf.mtu, .int .i64 cf.last] 68, ModO gm cf L cls]) := ⟨OA.out⟩
     have K3 : Aside0 (KeepS N w wr) := ⟨KA.out⟩
     have HT_3 : Aside0 (TabN N wr) := ⟨HT00.out.keep KA.out⟩
     have a0 := k6_ O3 0
     clear OA KA
     go_wp2_with (first | ((with_reducible refine gD 8 rfl ?_); refine bP 8 #[.int .i64 0, .int .i64 0, .string ⟨#[]⟩, .int .i64 0, .int .i64 0, .string ⟨#[]⟩, .string ⟨#[]⟩, .int .i64 0, .int .i64 0, .int .u32 0, .int .i64 0, .int .i64 0] 88 O3.out ?_; intro gs w4 o_ k_; obtain ⟨O4, K4⟩ := ok_ K3 o_ k_; have HT_4 := Aside0.mk (TabN.keep HT_3.out k_); clear a0 O3 K3 HT_3; have a0 := k6_ O4 0; have a2 := k12_ O4 2; clear o_ k_) | ((with_reducible refine gT 88 8 rfl ?_); refine wS 2 0 [.int .i64 s.f0.f0, .int .i64 s.f0.f1, .string s.f0.f2.f0, .int .i64 s.f0.f2.f1, .int .i64 s.f0.f2.f2, .string s.f0.f2.f3, .string s.f0.f3, .int .i64 s.f0.f4, .int .i64 s.f0.f5, .int .u32 s.f0.f6, .int .i64 s.f1, .int .i64 s.f2] O4 ?_; intro w5 o_ k_; obtain ⟨O5, K5⟩ := ok_ K4 o_ k_; have HT_5 := Aside0.mk (TabN.keep HT_4.out k_); clear a0 a2 O4 K4 HT_4; have a0 := k6_ O5 0; have a2 := k12_ O5 2; clear o_ k_) | ((with_reducible refine gC 42 rfl ?_); refine gP (some 25) Tryd.func42 #[pt gm, actMV s.f0] ?_; obtain ⟨N_, on_, nn_, rr_, bb_⟩ := O5.out.frameL [1] (by decide) (by simp); refine (MDo s.f0 on_ (TabN.mono HT_5.out nn_) HI.out HCF.out HX4.out HKY.out).mono ?_; rintro e_ w6 ⟨rfl, oo_, kk_⟩; obtain ⟨o_, k_⟩ := bb_ _ [ModO gm cf L (doS cf L cls s.f0).2] [] rfl kk_ oo_; refine ⟨_, rfl, ?_⟩; obtain ⟨O6, K6⟩ := ok_ K5 o_ k_; have HT_6 := Aside0.mk (TabN.keep HT_5.out k_); clear a0 a2 O5 K5 HT_5; have a0 := k6_ O6 0; have a2 := k12_ O6 2; clear o_ k_ oo_ kk_ on_ nn_ rr_ bb_))
     go_roundw
     case rel => exact ⟨x + 1, L, (doS cf L cls s.f0).2, by have := HX.out; omega, by have := HX.out; omega, int_eq17 (by unfold wrap64; have := HX.out; omega), ⟨by rw [HXT.out]; exact HI.out.act HCF.out.pull s.f0⟩, ⟨O6.out.take 2⟩, K6⟩
     case measure => have := HX.out; simp [intOf]; omega
    ·skip
     have d1 : (s.f1 != 0) = false := by simp [h1]
     have d2 : (s.f2 != 0) = true := bne_iff_ne.mpr h2
     clear h1 h2
     have O3 : Aside0 (Own N wr [cells gc #[.int .i64 cf.cl, .int .i64 cf.win, .int .i64 cf.push, .int .i64 cf.pull, .int .i64 cf.mtu, .int .i64 cf.last] 68, ModO gm cf L cls]) := ⟨OA.out⟩
     have K3 : Aside0 (KeepS N w wr) := ⟨KA.out⟩
     have HT_3 : Aside0 (TabN N wr) := ⟨HT00.out.keep KA.out⟩
     have a0 := k6_ O3 0
     clear OA KA
     go_wp2_with (first | ((with_reducible refine gD 8 rfl ?_); refine bP 8 #[.int .i64 0, .int .i64 0, .string ⟨#[]⟩, .int .i64 0, .int .i64 0, .string ⟨#[]⟩, .string ⟨#[]⟩, .int .i64 0, .int .i64 0, .int .u32 0, .int .i64 0, .int .i64 0] 88 O3.out ?_; intro gs w4 o_ k_; obtain ⟨O4, K4⟩ := ok_ K3 o_ k_; have HT_4 := Aside0.mk (TabN.keep HT_3.out k_); clear a0 O3 K3 HT_3; have a0 := k6_ O4 0; have a2 := k12_ O4 2; clear o_ k_) | ((with_reducible refine gT 88 8 rfl ?_); refine wS 2 0 [.int .i64 s.f0.f0, .int .i64 s.f0.f1, .string s.f0.f2.f0, .int .i64 s.f0.f2.f1, .int .i64 s.f0.f2.f2, .string s.f0.f2.f3, .string s.f0.f3, .int .i64 s.f0.f4, .int .i64 s.f0.f5, .int .u32 s.f0.f6, .int .i64 s.f1, .int .i64 s.f2] O4 ?_; intro w5 o_ k_; obtain ⟨O5, K5⟩ := ok_ K4 o_ k_; have HT_5 := Aside0.mk (TabN.keep HT_4.out k_); clear a0 a2 O4 K4 HT_4; have a0 := k6_ O5 0; have a2 := k12_ O5 2; clear o_ k_) | ((with_reducible refine gC 45 rfl ?_); refine gP (some 41) Tryd.func45 #[pt gm, .int .i64 s.f2] ?_; obtain ⟨N_, on_, nn_, rr_, bb_⟩ := O5.out.frameL [1] (by decide) (by simp); refine (MCome_i s.f2 on_ HI.out HCF.out HX4.out).mono ?_; rintro e_ w6 ⟨rfl, oo_, kk_⟩; obtain ⟨o_, k_⟩ := bb_ _ [ModO gm cf L (comeS s.f2 cf L cls).2] [] rfl kk_ oo_; refine ⟨_, rfl, ?_⟩; obtain ⟨O6, K6⟩ := ok_ K5 o_ k_; have HT_6 := Aside0.mk (TabN.keep HT_5.out k_); clear a0 a2 O5 K5 HT_5; have a0 := k6_ O6 0; have a2 := k12_ O6 2; clear o_ k_ oo_ kk_ on_ nn_ rr_ bb_))
     go_roundw
     case rel => exact ⟨x + 1, L, (comeS s.f2 cf L cls).2, by have := HX.out; omega, by have := HX.out; omega, int_eq17 (by unfold wrap64; have := HX.out; omega), ⟨by rw [HXT.out]; exact HI.out.come s.f2⟩, ⟨O6.out.take 2⟩, K6⟩
     case measure => have := HX.out; simp [intOf]; omega
   ·skip
    have d1 : (s.f1 != 0) = true := bne_iff_ne.mpr h1
    clear h1
    have O3 : Aside0 (Own N wr [cells gc #[.int .i64 cf.cl, .int .i64 cf.win, .int .i64 cf.push, .int .i64 cf.pull, .int .i64 cf.mtu, .int .i64 cf.last] 68, ModO gm cf L cls]) := ⟨OA.out⟩
    have K3 : Aside0 (KeepS N w wr) := ⟨KA.out⟩
    have HT_3 : Aside0 (TabN N wr) := ⟨HT00.out.keep KA.out⟩
    have a0 := k6_ O3 0
    clear OA KA
    go_wp2_with (first | ((with_reducible refine gD 8 rfl ?_); refine bP 8 #[.int .i64 0, .int .i64 0, .string ⟨#[]⟩, .int .i64 0, .int .i64 0, .string ⟨#[]⟩, .string ⟨#[]⟩, .int .i64 0, .int .i64 0, .int .u32 0, .int .i64 0, .int .i64 0] 88 O3.out ?_; intro gs w4 o_ k_; obtain ⟨O4, K4⟩ := ok_ K3 o_ k_; have HT_4 := Aside0.mk (TabN.keep HT_3.out k_); clear a0 O3 K3 HT_3; have a0 := k6_ O4 0; have a2 := k12_ O4 2; clear o_ k_) | ((with_reducible refine gT 88 8 rfl ?_); refine wS 2 0 [.int .i64 s.f0.f0, .int .i64 s.f0.f1, .string s.f0.f2.f0, .int .i64 s.f0.f2.f1, .int .i64 s.f0.f2.f2, .string s.f0.f2.f3, .string s.f0.f3, .int .i64 s.f0.f4, .int .i64 s.f0.f5, .int .u32 s.f0.f6, .int .i64 s.f1, .int .i64 s.f2] O4 ?_; intro w5 o_ k_; obtain ⟨O5, K5⟩ := ok_ K4 o_ k_; have HT_5 := Aside0.mk (TabN.keep HT_4.out k_); clear a0 a2 O4 K4 HT_4; have a0 := k6_ O5 0; have a2 := k12_ O5 2; clear o_ k_) | ((with_reducible refine gC 44 rfl ?_); refine gP (some 33) Tryd.func44 #[pt gm, .int .i64 s.f1] ?_; obtain ⟨N_, on_, nn_, rr_, bb_⟩ := O5.out.frameL [1] (by decide) (by simp); refine (MCommit_i s.f1 on_ HI.out HCF.out HX4.out).mono ?_; rintro e_ w6 ⟨rfl, oo_, kk_⟩; obtain ⟨o_, k_⟩ := bb_ _ [ModO gm cf (cmtL s.f1 L cls) cls] [] rfl kk_ oo_; refine ⟨_, rfl, ?_⟩; obtain ⟨O6, K6⟩ := ok_ K5 o_ k_; have HT_6 := Aside0.mk (TabN.keep HT_5.out k_); clear a0 a2 O5 K5 HT_5; have a0 := k6_ O6 0; have a2 := k12_ O6 2; clear o_ k_ oo_ kk_ on_ nn_ rr_ bb_))
    go_roundw
    case rel => exact ⟨x + 1, (cmtL s.f1 L cls), cls, by have := HX.out; omega, by have := HX.out; omega, int_eq17 (by unfold wrap64; have := HX.out; omega), ⟨by rw [HXT.out]; exact HI.out.commit s.f1⟩, ⟨O6.out.take 2⟩, K6⟩
    case measure => have := HX.out; simp [intOf]; omega
  ·have hxe : x = l0.length := by omega
   subst hxe
   have hd : decide ((l0.length : Int) < (l0.length : Int)) = false := decide_eq_false (Int.lt_irrefl _)
   clear hlt hx0 hx1
   go_wp2
   go_ret
   exact ⟨gm, L, cls, rfl, HI.out, OA.out.pick1 (a := 1) rfl, KA.out⟩
theorem field_RE (e k n : Int) (s : ByteArray) (y : Bool) (m : Int) (W : World) : (Instr.field 79 (.agg #[.int .i64 e, .int .i64 k, .int .i64 n, .string s, .bool y, .int .i64 m]) 0).run Tryd.prog W = .ok (.int .i64 e) W := by kernel_rfl
def cfA : MCf := ⟨2, 2, 1, 1, 100, 9⟩
def cf0 : MCf := ⟨0, 0, 0, 0, 0, 0⟩
theorem cfA_ok : CfOk cfA := ⟨by decide, by decide, by decide, by decide⟩
def awU : Upd7 := ⟨⟨#[107]⟩, 1, 5, ⟨#[]⟩⟩
def awR : Rnd7 := ⟨1, 1, [awU]⟩
def awC0 : List MCl := [c0M, c0M]
def awC1 : List MCl := [⟨1, [], 0, 0, [awU]⟩, c0M]
def awC2 : List MCl := [⟨1, [awR], 0, 0, []⟩, c0M]
def awC3 : List MCl := [⟨1, [awR], 0, 0, []⟩, ⟨1, [], 0, 1, []⟩]
def awC4 : List MCl := [⟨1, [awR], 0, 0, []⟩, ⟨1, [], 1, 0, []⟩]
def awA (kd n : Int) : ActM := ⟨kd, n, ⟨⟨#[]⟩, 0, 0, ⟨#[]⟩⟩, ⟨#[]⟩, 0, 0, 0⟩
def awA1 : ActM := ⟨1, 1, awU, ⟨#[]⟩, 0, 0, 0⟩
def awA6 : ActM := ⟨2, 2, ⟨⟨#[]⟩, 0, 0, ⟨#[]⟩⟩, ⟨#[107]⟩, 0, 0, 0⟩
theorem awE1 : updE [] ⟨#[107]⟩ 1 5 ⟨#[]⟩ 100 = 0 := by kernel_rfl
theorem aw1 : doS cfA [] awC0 awA1 = (rep0 0, awC1) := by
 show (rep0 (updE [] ⟨#[107]⟩ 1 5 ⟨#[]⟩ 100), [({ c0M with U := updU [] ⟨#[107]⟩ 1 5 ⟨#[]⟩ 100 } : MCl), c0M]) = _
 rw [show updU [] ⟨#[107]⟩ 1 5 ⟨#[]⟩ 100 = [awU] from if_pos awE1, awE1]
 rfl
theorem aw2 : doS cfA [] awC1 (awA 3 1) = (repN 1, awC2) := by kernel_rfl
theorem aw3 : nextR 1 [] awC2 = some awR := by kernel_rfl
theorem aw3b : nextR 1 [awR] awC2 = none := by kernel_rfl
theorem aw4 : comeS 2 cfA [awR] awC2 = (true, awC3) := by kernel_rfl
theorem aw4b : comeS 2 cfA [awR] awC3 = (false, awC3) := by kernel_rfl
theorem aw5 : doS cfA [awR] awC3 (awA 4 2) = (repN 1, awC4) := by kernel_rfl
theorem awV : stateOf [] [awR] ⟨#[107]⟩ = (1, 5, none') := by
 show doL zeroM ([awU] ++ []) ⟨#[107]⟩ = _
 rw [doL_get]
 kernel_rfl
theorem awN : cntK (stateOf [] [awR]) = 1 := by
 refine cntK_is (ks := [(⟨#[107]⟩ : ByteArray)]) (by simp) (fun key => ?_)
 show _ ↔ (doL zeroM [awU] key).1 ≠ 0
 have e : doL zeroM [awU] = doU zeroM ⟨#[107]⟩ 1 5 ⟨#[]⟩ := rfl
 rw [e]
 unfold doU
 rw [if_pos (by kernel_rfl), List.mem_singleton]
 unfold J.upd
 constructor
 ·intro h
  rw [if_pos h]
  decide
 ·intro h
  by_cases hk : key = ⟨#[107]⟩
  ·exact hk
  ·rw [if_neg hk] at h
   exact (h rfl).elim
theorem aw6 : doS cfA [awR] awC4 awA6 = (⟨0, (1, 5, none'), false, 1⟩, awC4) := by
 have e : doS cfA [awR] awC4 awA6 = (⟨0, stateOf [] [awR] ⟨#[107]⟩, false, cntK (stateOf [] [awR])⟩, awC4) := rfl
 rw [e, awV, awN]
 rfl
theorem aw7 : doS cfA [awR] awC4 (awA 7 1) = (rep0 5, awC4) := by kernel_rfl
theorem awI0 : MInv cfA 0 [] awC0 := MInv.zero cfA_ok
theorem awI1 : MInv cfA 1 [] awC1 := by have h := awI0.act (by decide) awA1; rw [aw1] at h; exact h
theorem awI2 : MInv cfA 2 [] awC2 := by have h := awI1.act (by decide) (awA 3 1); rw [aw2] at h; exact h
theorem awL3 : cmtL 1 [] awC2 = [awR] := by unfold cmtL; rw [aw3]; rfl
theorem awL3b : cmtL 1 [awR] awC2 = [awR] := by unfold cmtL; rw [aw3b]; rfl
theorem awI3 : MInv cfA 3 [awR] awC2 := by have h := awI2.commit 1; rw [awL3] at h; exact h
theorem awI4 : MInv cfA 4 [awR] awC3 := by have h := awI3.come 2; rw [aw4] at h; exact h
theorem awI5 : MInv cfA 5 [awR] awC4 := by have h := awI4.act (by decide) (awA 4 2); rw [aw5] at h; exact h
section
variable {N : Nat → Prop} {w : World} {gm x : Nat} {cf : MCf} {L : List Rnd7} {cls : List MCl}
theorem MDo_e (a : ActM) (r : RepT) (c2 : List MCl) (hd : doS cf L cls a = (r, c2)) (h : Own N w [ModO gm cf L cls]) (ht : TabN N w) (hi : MInv cf x L cls) (hc : CfOk cf) (hx : x ≤ 400) (hk : a.f3.size ≤ 50) :
  Calls Tryd.prog 42 #[pt gm, actMV a] w fun e_ w' => e_ = .returned (repM r) ∧ Own N w' [ModO gm cf L c2] ∧ KeepS N w w' := by
 have q := MDo a h ht hi hc hx hk
 rw [hd] at q
 exact q
theorem ax_new (h : Own N w []) : Calls Tryd.prog 43 #[.agg #[.int .i64 2, .int .i64 2, .int .i64 1, .int .i64 1, .int .i64 100, .int .i64 9]] w fun e_ w' => ∃ gm, e_ = .returned (.tuple #[pt gm, .int .i64 0]) ∧ Own N w' [ModO gm cfA [] awC0] ∧ KeepS N w w' := MNew_ok cfA h (by decide)
theorem ax_new0 (h : Own N w []) : Calls Tryd.prog 43 #[.agg #[.int .i64 0, .int .i64 0, .int .i64 0, .int .i64 0, .int .i64 0, .int .i64 0]] w fun e_ w' => e_ = .returned (.tuple #[.pointer none, .int .i64 1]) ∧ Own N w' [] ∧ KeepS N w w' := MNew_no cf0 h (by decide)
theorem ax_c1 (h : Own N w [ModO gm cfA [] awC2]) : Calls Tryd.prog 44 #[pt gm, .int .i64 1] w fun e_ w' => e_ = .returned (.bool true) ∧ Own N w' [ModO gm cfA [awR] awC2] ∧ KeepS N w w' := by
 have q := MCommit_i 1 h awI2 cfA_ok (by decide)
 rw [aw3, awL3] at q
 exact q
theorem ax_c2 (h : Own N w [ModO gm cfA [awR] awC2]) : Calls Tryd.prog 44 #[pt gm, .int .i64 1] w fun e_ w' => e_ = .returned (.bool false) ∧ Own N w' [ModO gm cfA [awR] awC2] ∧ KeepS N w w' := by
 have q := MCommit_i 1 h awI3 cfA_ok (by decide)
 rw [aw3b, awL3b] at q
 exact q
theorem ax_m1 (h : Own N w [ModO gm cfA [awR] awC2]) : Calls Tryd.prog 45 #[pt gm, .int .i64 2] w fun e_ w' => e_ = .returned (.bool true) ∧ Own N w' [ModO gm cfA [awR] awC3] ∧ KeepS N w w' := by
 have q := MCome_i 2 h awI3 cfA_ok (by decide)
 rw [aw4] at q
 exact q
theorem ax_m2 (h : Own N w [ModO gm cfA [awR] awC3]) : Calls Tryd.prog 45 #[pt gm, .int .i64 2] w fun e_ w' => e_ = .returned (.bool false) ∧ Own N w' [ModO gm cfA [awR] awC3] ∧ KeepS N w w' := by
 have q := MCome_i 2 h awI4 cfA_ok (by decide)
 rw [aw4b] at q
 exact q
theorem ax_log (h : Own N w [ModO gm cfA [awR] awC4]) : Calls Tryd.prog 39 #[pt gm] w fun e_ w' => ∃ A1 c1, e_ = .returned (.slice A1 1 c1) ∧ Own N w' [ModO gm cfA [awR] awC4, nrow kR7 tR7 (.slice A1 1 c1) [awR]] ∧ KeepS N w w' := MLog_i h awI5 (by decide)
theorem ax_k2 (h : Own N w [ModO gm cfA [awR] awC4]) : Calls Tryd.prog 41 #[pt gm, .int .i64 2] w fun e_ w' => ∃ A1 c1, e_ = .returned (.slice A1 1 c1) ∧ Own N w' [ModO gm cfA [awR] awC4, nrow kR7 tR7 (.slice A1 1 c1) [awR]] ∧ KeepS N w w' := MKnown_i 2 (y := ⟨1, [], 1, 0, []⟩) h awI5 cfA_ok (by decide) rfl
theorem ax_k1 (h : Own N w [ModO gm cfA [awR] awC4]) : Calls Tryd.prog 41 #[pt gm, .int .i64 1] w fun e_ w' => ∃ A1 c1, e_ = .returned (.slice A1 0 c1) ∧ Own N w' [ModO gm cfA [awR] awC4, nrow kR7 tR7 (.slice A1 0 c1) []] ∧ KeepS N w w' := MKnown_i 1 (y := ⟨1, [awR], 0, 0, []⟩) h awI5 cfA_ok (by decide) rfl
theorem ax_look (h : Own N w [ModO gm cfA [awR] awC4]) : Calls Tryd.prog 40 #[pt gm, .int .i64 1] w fun e_ w' => e_ = .returned (.agg #[.int .i64 1, .int .i64 0, .int .i64 1, .int .i64 0, .int .i64 0, .int .i64 0]) ∧ Own N w' [ModO gm cfA [awR] awC4] ∧ KeepS N w w' := MLook_i 1 (y := ⟨1, [awR], 0, 0, []⟩) h awI5 cfA_ok (by decide) rfl
theorem ax_tick (h : Own N w [ModO gm cfA [awR] awC4]) (ht : TabN N w) : Calls Tryd.prog 42 #[pt gm, .agg #[.int .i64 7, .int .i64 1, .string ⟨#[]⟩, .int .i64 0, .int .i64 0, .string ⟨#[]⟩, .string ⟨#[]⟩, .int .i64 0, .int .i64 0, .int .u32 0]] w fun e_ w' => e_ = .returned (.agg #[.int .i64 5, .int .i64 0, .int .i64 0, .string ⟨#[]⟩, .bool false, .int .i64 0]) ∧ Own N w' [ModO gm cfA [awR] awC4] ∧ KeepS N w w' := MDo_e (awA 7 1) (rep0 5) awC4 aw7 h ht awI5 cfA_ok (by decide) (by decide)
end
theorem awake21 (w : World) (HT : Aside0 (Tab w)) :
  Calls Tryd.prog 35 #[] w fun e_ w' => e_ = .returned (.bool true) ∧ Below w.heap.size w w' := by
 obtain ⟨N, hN⟩ : ∃ N : Nat → Prop, N = fun k => k < w.heap.size := ⟨_, rfl⟩
 have HN := Aside0.mk hN
 have HT_0 : Aside0 (TabN N w) := ⟨by rw [hN]; exact World.block_lt_of_cell? w _ HT.out.1, HT.out⟩
 have O0 : Aside0 (Own N w []) := ⟨Own.start_ (fun k hk => by rw [hN] at hk; exact hk)⟩
 have K0 : Aside0 (KeepS N w w) := ⟨KeepS.refl _ _⟩
 have hfr := field_RE 5 0 0 ⟨#[]⟩ false 0
 clear hN HT
 go_enter Tryd.func35, Tryd.ntmps35
 go_wp2_with (first | ((with_reducible refine gC 75 rfl ?_); refine gP (some 13) Tryd.func75 #[] ?_; refine (chapbooklaw21_config.calls 2 2 1 1 100 9 _ rfl).mono ?_; rintro e_ w1 ⟨rfl, hb_⟩; refine ⟨_, rfl, ?_⟩; have o_ := O0.out.below hb_; have k_ := KeepS.of_below (N := N) hb_; obtain ⟨O1, K1⟩ := ok_ K0 o_ k_; have HT_1 := Aside0.mk (TabN.keep HT_0.out k_); clear O0 K0 HT_0 o_ k_ hb_) | ((with_reducible refine gC 43 rfl ?_); refine gP (some 14) Tryd.func43 #[.agg #[.int .i64 2, .int .i64 2, .int .i64 1, .int .i64 1, .int .i64 100, .int .i64 9]] ?_; obtain ⟨N_, on_, nn_, rr_, bb_⟩ := O1.out.frame0; refine (ax_new on_).mono ?_; rintro e_ w2 ⟨gm, rfl, oo_, kk_⟩; obtain ⟨o_, k_⟩ := bb_ _ _ kk_ oo_; refine ⟨_, rfl, ?_⟩; obtain ⟨O2, K2⟩ := ok_ K1 o_ k_; have HT_2 := Aside0.mk (TabN.keep HT_1.out k_); clear O1 K1 HT_1 o_ k_ oo_ kk_ on_ nn_ rr_ bb_) | ((with_reducible refine gC 43 rfl ?_); refine gP (some 19) Tryd.func43 #[.agg #[.int .i64 0, .int .i64 0, .int .i64 0, .int .i64 0, .int .i64 0, .int .i64 0]] ?_; obtain ⟨N_, on_, nn_, rr_, bb_⟩ := O2.out.frame0; refine (ax_new0 on_).mono ?_; rintro e_ w3 ⟨rfl, oo_, kk_⟩; obtain ⟨o_, k_⟩ := bb_ _ _ kk_ oo_; refine ⟨_, rfl, ?_⟩; obtain ⟨O3, K3⟩ := ok_ K2 o_ k_; have HT_3 := Aside0.mk (TabN.keep HT_2.out k_); clear O2 K2 HT_2 o_ k_ oo_ kk_ on_ nn_ rr_ bb_) | ((with_reducible refine gC 42 rfl ?_); refine gP (some 35) Tryd.func42 #[pt gm, .agg #[.int .i64 1, .int .i64 1, .string ⟨#[107]⟩, .int .i64 1, .int .i64 5, .string ⟨#[]⟩, .string ⟨#[]⟩, .int .i64 0, .int .i64 0, .int .u32 0]] ?_; obtain ⟨N_, on_, nn_, rr_, bb_⟩ := O3.out.frameL [0] (by decide) (by simp); refine (MDo_e awA1 (rep0 0) awC1 aw1 on_ (TabN.mono HT_3.out nn_) awI0 cfA_ok (by decide) (by decide)).mono ?_; rintro e_ w4 ⟨rfl, oo_, kk_⟩; obtain ⟨o_, k_⟩ := bb_ _ [ModO gm cfA [] awC1] [] rfl kk_ oo_; refine ⟨_, rfl, ?_⟩; obtain ⟨O4, K4⟩ := ok_ K3 o_ k_; have HT_4 := Aside0.mk (TabN.keep HT_3.out k_); clear O3 K3 HT_3 o_ k_ oo_ kk_ on_ nn_ rr_ bb_) | ((with_reducible refine gC 42 rfl ?_); refine gP (some 38) Tryd.func42 #[pt gm, .agg #[.int .i64 3, .int .i64 1, .string ⟨#[]⟩, .int .i64 0, .int .i64 0, .string ⟨#[]⟩, .string ⟨#[]⟩, .int .i64 0, .int .i64 0, .int .u32 0]] ?_; obtain ⟨N_, on_, nn_, rr_, bb_⟩ := O4.out.frameL [0] (by decide) (by simp); refine (MDo_e (awA 3 1) (repN 1) awC2 aw2 on_ (TabN.mono HT_4.out nn_) awI1 cfA_ok (by decide) (by decide)).mono ?_; rintro e_ w5 ⟨rfl, oo_, kk_⟩; obtain ⟨o_, k_⟩ := bb_ _ [ModO gm cfA [] awC2] [] rfl kk_ oo_; refine ⟨_, rfl, ?_⟩; obtain ⟨O5, K5⟩ := ok_ K4 o_ k_; have HT_5 := Aside0.mk (TabN.keep HT_4.out k_); clear O4 K4 HT_4 o_ k_ oo_ kk_ on_ nn_ rr_ bb_) | ((with_reducible refine gD 5 rfl ?_); refine bP 5 #[.int .i64 0, .int .i64 0, .int .i64 0, .string ⟨#[]⟩, .bool false, .int .i64 0] 79 O5.out ?_; intro g5 w6 o_ k_; obtain ⟨O6, K6⟩ := ok_ K5 o_ k_; have HT_6 := Aside0.mk (TabN.keep HT_5.out k_); clear O5 K5 HT_5 o_ k_; have a1 := k6_ O6 1) | ((with_reducible refine gT 79 5 rfl ?_); refine wS 1 0 [.int .i64 0, .int .i64 0, .int .i64 0, .string ⟨#[]⟩, .bool false, .int .i64 1] O6 ?_; intro w7 o_ k_; obtain ⟨O7, K7⟩ := ok_ K6 o_ k_; have HT_7 := Aside0.mk (TabN.keep HT_6.out k_); clear a1 O6 K6 HT_6 o_ k_; have a1 := k6_ O7 1) | ((with_reducible refine gC 44 rfl ?_); refine gP (some 40) Tryd.func44 #[pt gm, .int .i64 1] ?_; obtain ⟨N_, on_, nn_, rr_, bb_⟩ := O7.out.frameL [0] (by decide) (by simp); refine (ax_c1 on_).mono ?_; rintro e_ w8 ⟨rfl, oo_, kk_⟩; obtain ⟨o_, k_⟩ := bb_ _ [ModO gm cfA [awR] awC2] [] rfl kk_ oo_; refine ⟨_, rfl, ?_⟩; obtain ⟨O8, K8⟩ := ok_ K7 o_ k_; have HT_8 := Aside0.mk (TabN.keep HT_7.out k_); clear a1 O7 K7 HT_7 o_ k_ oo_ kk_ on_ nn_ rr_ bb_; have a1 := k6_ O8 1) | ((with_reducible refine gC 44 rfl ?_); refine gP (some 42) Tryd.func44 #[pt gm, .int .i64 1] ?_; obtain ⟨N_, on_, nn_, rr_, bb_⟩ := O8.out.frameL [0] (by decide) (by simp); refine (ax_c2 on_).mono ?_; rintro e_ w9 ⟨rfl, oo_, kk_⟩; obtain ⟨o_, k_⟩ := bb_ _ [ModO gm cfA [awR] awC2] [] rfl kk_ oo_; refine ⟨_, rfl, ?_⟩; obtain ⟨O9, K9⟩ := ok_ K8 o_ k_; have HT_9 := Aside0.mk (TabN.keep HT_8.out k_); clear a1 O8 K8 HT_8 o_ k_ oo_ kk_ on_ nn_ rr_ bb_; have a1 := k6_ O9 1) | ((with_reducible refine gC 45 rfl ?_); refine gP (some 44) Tryd.func45 #[pt gm, .int .i64 2] ?_; obtain ⟨N_, on_, nn_, rr_, bb_⟩ := O9.out.frameL [0] (by decide) (by simp); refine (ax_m1 on_).mono ?_; rintro e_ w10 ⟨rfl, oo_, kk_⟩; obtain ⟨o_, k_⟩ := bb_ _ [ModO gm cfA [awR] awC3] [] rfl kk_ oo_; refine ⟨_, rfl, ?_⟩; obtain ⟨O10, K10⟩ := ok_ K9 o_ k_; have HT_10 := Aside0.mk (TabN.keep HT_9.out k_); clear a1 O9 K9 HT_9 o_ k_ oo_ kk_ on_ nn_ rr_ bb_; have a1 := k6_ O10 1) | ((with_reducible refine gC 45 rfl ?_); refine gP (some 46) Tryd.func45 #[pt gm, .int .i64 2] ?_; obtain ⟨N_, on_, nn_, rr_, bb_⟩ := O10.out.frameL [0] (by decide) (by simp); refine (ax_m2 on_).mono ?_; rintro e_ w11 ⟨rfl, oo_, kk_⟩; obtain ⟨o_, k_⟩ := bb_ _ [ModO gm cfA [awR] awC3] [] rfl kk_ oo_; refine ⟨_, rfl, ?_⟩; obtain ⟨O11, K11⟩ := ok_ K10 o_ k_; have HT_11 := Aside0.mk (TabN.keep HT_10.out k_); clear a1 O10 K10 HT_10 o_ k_ oo_ kk_ on_ nn_ rr_ bb_; have a1 := k6_ O11 1) | ((with_reducible refine gC 42 rfl ?_); refine gP (some 49) Tryd.func42 #[pt gm, .agg #[.int .i64 4, .int .i64 2, .string ⟨#[]⟩, .int .i64 0, .int .i64 0, .string ⟨#[]⟩, .string ⟨#[]⟩, .int .i64 0, .int .i64 0, .int .u32 0]] ?_; obtain ⟨N_, on_, nn_, rr_, bb_⟩ := O11.out.frameL [0] (by decide) (by simp); refine (MDo_e (awA 4 2) (repN 1) awC4 aw5 on_ (TabN.mono HT_11.out nn_) awI4 cfA_ok (by decide) (by decide)).mono ?_; rintro e_ w12 ⟨rfl, oo_, kk_⟩; obtain ⟨o_, k_⟩ := bb_ _ [ModO gm cfA [awR] awC4] [] rfl kk_ oo_; refine ⟨_, rfl, ?_⟩; obtain ⟨O12, K12⟩ := ok_ K11 o_ k_; have HT_12 := Aside0.mk (TabN.keep HT_11.out k_); clear a1 O11 K11 HT_11 o_ k_ oo_ kk_ on_ nn_ rr_ bb_; have a1 := k6_ O12 1) | ((with_reducible refine gD 10 rfl ?_); refine bP 10 #[.int .i64 0, .int .i64 0, .int .i64 0, .string ⟨#[]⟩, .bool false, .int .i64 0] 79 O12.out ?_; intro g10 w13 o_ k_; obtain ⟨O13, K13⟩ := ok_ K12 o_ k_; have HT_13 := Aside0.mk (TabN.keep HT_12.out k_); clear a1 O12 K12 HT_12 o_ k_; have a1 := k6_ O13 1; have a2 := k6_ O13 2) | ((with_reducible refine gT 79 10 rfl ?_); refine wS 2 0 [.int .i64 0, .int .i64 0, .int .i64 0, .string ⟨#[]⟩, .bool false, .int .i64 1] O13 ?_; intro w14 o_ k_; obtain ⟨O14, K14⟩ := ok_ K13 o_ k_; have HT_14 := Aside0.mk (TabN.keep HT_13.out k_); clear a1 a2 O13 K13 HT_13 o_ k_; have a1 := k6_ O14 1; have a2 := k6_ O14 2) | ((with_reducible refine gC 42 rfl ?_); refine gP (some 52) Tryd.func42 #[pt gm, .agg #[.int .i64 2, .int .i64 2, .string ⟨#[]⟩, .int .i64 0, .int .i64 0, .string ⟨#[]⟩, .string ⟨#[107]⟩, .int .i64 0, .int .i64 0, .int .u32 0]] ?_; obtain ⟨N_, on_, nn_, rr_, bb_⟩ := O14.out.frameL [0] (by decide) (by simp); refine (MDo_e awA6 ⟨0, (1, 5, none'), false, 1⟩ awC4 aw6 on_ (TabN.mono HT_14.out nn_) awI5 cfA_ok (by decide) (by decide)).mono ?_; rintro e_ w15 ⟨rfl, oo_, kk_⟩; obtain ⟨o_, k_⟩ := bb_ _ [ModO gm cfA [awR] awC4] [] rfl kk_ oo_; refine ⟨_, rfl, ?_⟩; obtain ⟨O15, K15⟩ := ok_ K14 o_ k_; have HT_15 := Aside0.mk (TabN.keep HT_14.out k_); clear a1 a2 O14 K14 HT_14 o_ k_ oo_ kk_ on_ nn_ rr_ bb_; have a1 := k6_ O15 1; have a2 := k6_ O15 2) | ((with_reducible refine gD 11 rfl ?_); refine bP 11 #[.int .i64 0, .int .i64 0, .int .i64 0, .string ⟨#[]⟩, .bool false, .int .i64 0] 79 O15.out ?_; intro g11 w16 o_ k_; obtain ⟨O16, K16⟩ := ok_ K15 o_ k_; have HT_16 := Aside0.mk (TabN.keep HT_15.out k_); clear a1 a2 O15 K15 HT_15 o_ k_; have a1 := k6_ O16 1; have a2 := k6_ O16 2; have a3 := k6_ O16 3) | ((with_reducible refine gT 79 11 rfl ?_); refine wS 3 0 [.int .i64 0, .int .i64 1, .int .i64 5, .string ⟨#[]⟩, .bool false, .int .i64 1] O16 ?_; intro w17 o_ k_; obtain ⟨O17, K17⟩ := ok_ K16 o_ k_; have HT_17 := Aside0.mk (TabN.keep HT_16.out k_); clear a1 a2 a3 O16 K16 HT_16 o_ k_; have a1 := k6_ O17 1; have a2 := k6_ O17 2; have a3 := k6_ O17 3) | ((with_reducible refine gC 39 rfl ?_); refine gate_guard (by rfl) ?_; refine gP (some 88) Tryd.func39 #[pt gm] ?_; obtain ⟨N_, on_, nn_, rr_, bb_⟩ := O17.out.frameL [0] (by decide) (by simp); refine (ax_log on_).mono ?_; rintro e_ w18 ⟨B1, d1_, rfl, oo_, kk_⟩; obtain ⟨o_, k_⟩ := bb_ _ [ModO gm cfA [awR] awC4] [nrow kR7 tR7 (.slice B1 1 d1_) [awR]] rfl kk_ oo_; refine ⟨_, rfl, ?_⟩; obtain ⟨O18, K18⟩ := ok_ K17 o_ k_; have HT_18 := Aside0.mk (TabN.keep HT_17.out k_); clear a1 a2 a3 O17 K17 HT_17 o_ k_ oo_ kk_ on_ nn_ rr_ bb_; have a1 := k6_ O18 1; have a2 := k6_ O18 2; have a3 := k6_ O18 3) | ((with_reducible refine gC 41 rfl ?_); refine gate_guard (by rfl) ?_; refine gP (some 94) Tryd.func41 #[pt gm, .int .i64 2] ?_; obtain ⟨N_, on_, nn_, rr_, bb_⟩ := O18.out.frameL [0] (by decide) (by simp); refine (ax_k2 on_).mono ?_; rintro e_ w19 ⟨B2, d2_, rfl, oo_, kk_⟩; obtain ⟨o_, k_⟩ := bb_ _ [ModO gm cfA [awR] awC4] [nrow kR7 tR7 (.slice B2 1 d2_) [awR]] rfl kk_ oo_; refine ⟨_, rfl, ?_⟩; obtain ⟨O19, K19⟩ := ok_ K18 o_ k_; have HT_19 := Aside0.mk (TabN.keep HT_18.out k_); clear a1 a2 a3 O18 K18 HT_18 o_ k_ oo_ kk_ on_ nn_ rr_ bb_; have a1 := k6_ O19 1; have a2 := k6_ O19 2; have a3 := k6_ O19 3) | ((with_reducible refine gC 41 rfl ?_); refine gate_guard (by rfl) ?_; refine gP (some 100) Tryd.func41 #[pt gm, .int .i64 1] ?_; obtain ⟨N_, on_, nn_, rr_, bb_⟩ := O19.out.frameL [0] (by decide) (by simp); refine (ax_k1 on_).mono ?_; rintro e_ w20 ⟨B3, d3_, rfl, oo_, kk_⟩; obtain ⟨o_, k_⟩ := bb_ _ [ModO gm cfA [awR] awC4] [nrow kR7 tR7 (.slice B3 0 d3_) []] rfl kk_ oo_; refine ⟨_, rfl, ?_⟩; obtain ⟨O20, K20⟩ := ok_ K19 o_ k_; have HT_20 := Aside0.mk (TabN.keep HT_19.out k_); clear a1 a2 a3 O19 K19 HT_19 o_ k_ oo_ kk_ on_ nn_ rr_ bb_; have a1 := k6_ O20 1; have a2 := k6_ O20 2; have a3 := k6_ O20 3) | ((with_reducible refine gC 40 rfl ?_); refine gate_guard (by rfl) ?_; refine gP (some 106) Tryd.func40 #[pt gm, .int .i64 1] ?_; obtain ⟨N_, on_, nn_, rr_, bb_⟩ := O20.out.frameL [0] (by decide) (by simp); refine (ax_look on_).mono ?_; rintro e_ w21 ⟨rfl, oo_, kk_⟩; obtain ⟨o_, k_⟩ := bb_ _ [ModO gm cfA [awR] awC4] [] rfl kk_ oo_; refine ⟨_, rfl, ?_⟩; obtain ⟨O21, K21⟩ := ok_ K20 o_ k_; have HT_21 := Aside0.mk (TabN.keep HT_20.out k_); clear a1 a2 a3 O20 K20 HT_20 o_ k_ oo_ kk_ on_ nn_ rr_ bb_; have a1 := k6_ O21 1; have a2 := k6_ O21 2; have a3 := k6_ O21 3) | ((with_reducible refine gC 42 rfl ?_); refine gate_guard (by rfl) ?_; refine gP (some 113) Tryd.func42 #[pt gm, .agg #[.int .i64 7, .int .i64 1, .string ⟨#[]⟩, .int .i64 0, .int .i64 0, .string ⟨#[]⟩, .string ⟨#[]⟩, .int .i64 0, .int .i64 0, .int .u32 0]] ?_; obtain ⟨N_, on_, nn_, rr_, bb_⟩ := O21.out.frameL [0] (by decide) (by simp); refine (ax_tick on_ (TabN.mono HT_21.out nn_)).mono ?_; rintro e_ w22 ⟨rfl, oo_, kk_⟩; obtain ⟨o_, k_⟩ := bb_ _ [ModO gm cfA [awR] awC4] [] rfl kk_ oo_; refine ⟨_, rfl, ?_⟩; obtain ⟨O22, K22⟩ := ok_ K21 o_ k_; have HT_22 := Aside0.mk (TabN.keep HT_21.out k_); clear a1 a2 a3 O21 K21 HT_21 o_ k_ oo_ kk_ on_ nn_ rr_ bb_; have a1 := k6_ O22 1; have a2 := k6_ O22 2; have a3 := k6_ O22 3))
 go_ret
 exact ⟨rfl, kw_ K22 HN⟩
end Go.Proofs.YtjdenpmaianmfaaDoor.J
namespace Go.Proofs.YtjdenpmaianmfaaDoor.J
set_option linter.unusedSimpArgs false
set_option linter.unusedVariables false
open Go Go.RowKit Go.Proofs.YtjdenpmaianmfaaDoorW.PrintWords Go.Proofs.YtjdenpmaianmfaaDoorW.PrintLast Go.Proofs.YtjdenpmaianmfaaDoorW.PrintMore Go.Proofs.YtjdenpmaianmfaaDoor.Q Go.Proofs.YtjdenpmaianmfaaDoor.Sep Go.Proofs.YtjdenpmaianmfaaDoor.Pure
abbrev actL (kd n : Int) (rk : ByteArray) : ActM := ⟨kd, n, ⟨⟨#[]⟩, 0, 0, ⟨#[]⟩⟩, rk, 0, 0, 0⟩
section
variable {N : Nat → Prop} {w : World} {gm x : Nat} {cf : MCf} {L : List Rnd7} {cls : List MCl} {l : List HP} {i j n c d : Nat} {A B : Option Addr} {X : List Rnd7}
theorem MDo_l (a : ActM) (e vk vn : Int) (vs : ByteArray) (b : Bool) (m : Int) (c2 : List MCl) (hd : doS cf L cls a = (⟨e, (vk, vn, vs), b, m⟩, c2)) (h : Own N w [ModO gm cf L cls]) (ht : TabN N w) (hi : MInv cf x L cls) (hc : CfOk cf) (hx : x ≤ 400) (hk : a.f3.size ≤ 50) :
  Calls Tryd.prog 42 #[pt gm, actMV a] w fun e_ w' => e_ = .returned (.agg #[.int .i64 e, .int .i64 vk, .int .i64 vn, .string vs, .bool b, .int .i64 m]) ∧ Own N w' [ModO gm cf L c2] ∧ KeepS N w w' := MDo_e a _ c2 hd h ht hi hc hx hk
theorem MLook_v (V : Value) (n : Int) {y : MCl} (hV : lookV n L y = V) (h : Own N w [ModO gm cf L cls]) (hi : MInv cf x L cls) (hc : CfOk cf) (hx : x ≤ 400) (hy : clAt cls n = some y) :
  Calls Tryd.prog 40 #[pt gm, .int .i64 n] w fun e_ w' => e_ = .returned V ∧ Own N w' [ModO gm cf L cls] ∧ KeepS N w w' := by
 subst hV
 exact MLook_i n h hi hc hx hy
end
theorem doS_some {cf : MCf} {L : List Rnd7} {cls : List MCl} {a : ActM} {y : MCl} (hk : 1 ≤ a.f0 ∧ a.f0 ≤ 6) (hy : clAt cls a.f1 = some y) : doS cf L cls a = ((doX cf L a.f1 y a).1, cls.set (a.f1.toNat - 1) (doX cf L a.f1 y a).2) := by
 unfold doS
 rw [if_neg (by omega), hy]
theorem set_clAt {cls : List MCl} {n : Int} {y : MCl} (hy : clAt cls n = some y) : cls.set (n.toNat - 1) y = cls := set_same (clAt_some hy).2
end Go.Proofs.YtjdenpmaianmfaaDoor.J
namespace Go.Proofs.YtjdenpmaianmfaaDoor.J
set_option maxHeartbeats 16000000
set_option maxRecDepth 100000
set_option linter.unusedSimpArgs false
set_option linter.unusedVariables false
open Go Go.RowKit Go.Proofs.YtjdenpmaianmfaaDoorW.PrintWords Go.Proofs.YtjdenpmaianmfaaDoorW.PrintLast Go.Proofs.YtjdenpmaianmfaaDoorW.PrintMore Go.Proofs.YtjdenpmaianmfaaDoor.Q Go.Proofs.YtjdenpmaianmfaaDoor.Sep Go.Proofs.YtjdenpmaianmfaaDoor.Pure
theorem skipR {c : Bool} {A B : Prop} (h : c = false) (k : B) : if c = true then A else B := by rw [h]; exact k
def CmA (cls : List MCl) (x : Int) (L : List Rnd7) : Prop := ∀ (n : Int) (y : MCl), clAt cls n = some y → n ≤ x → (ownR n L).length = y.J.length
def Cmp (L : List Rnd7) (cls : List MCl) : Prop := ∀ (n : Int) (y : MCl), clAt cls n = some y → (ownR n L).length = y.J.length
def CmB (cls : List MCl) (q j : Int) (L : List Rnd7) : Prop := ∀ y : MCl, clAt cls q = some y → j ≤ ((ownR q L).length : Int) ∨ (ownR q L).length = y.J.length
theorem cmt_own {cf : MCf} {z : Nat} {L : List Rnd7} {cls : List MCl} {q : Int} {y : MCl} (hi : MInv cf z L cls) (hy : clAt cls q = some y) : ((ownR q L).length < y.J.length → (ownR q (cmtL q L cls)).length = (ownR q L).length + 1) ∧ ((ownR q L).length = y.J.length → (ownR q (cmtL q L cls)).length = (ownR q L).length) ∧ ∀ n : Int, n ≠ q → ownR n (cmtL q L cls) = ownR n L := by
 have hk := hi.c q y hy
 unfold cmtL nextR
 rw [hy, Option.bind_some]
 cases hr : y.J[(ownR q L).length]? with
 | none =>
  have h1 := List.getElem?_eq_none_iff.1 hr
  rw [Option.toList_none, List.append_nil]
  exact ⟨fun h => by omega, fun _ => rfl, fun _ _ => rfl⟩
 | some r =>
  have h1 := (List.getElem?_eq_some_iff.1 hr).1
  obtain ⟨e0, _⟩ := hk.a _ _ hr
  rw [Option.toList_some]
  refine ⟨fun _ => by rw [ownR_yes e0, List.length_append]; rfl, fun h => by omega, fun n hn => ownR_no (by rw [e0]; exact fun e => hn e.symm)⟩
theorem CmA.next {cf : MCf} {z : Nat} {L : List Rnd7} {cls : List MCl} {x q : Int} (hi : MInv cf z L cls) (h : CmA cls x L) (hq : q = x + 1) : CmA cls x (cmtL q L cls) := by
 intro n y hy hn
 cases hc : clAt cls q with
 | none =>
  have e : cmtL q L cls = L := by unfold cmtL nextR; rw [hc]; exact List.append_nil L
  rw [e]
  exact h n y hy hn
 | some v =>
  rw [(cmt_own hi hc).2.2 n (by omega)]
  exact h n y hy hn
theorem CmB.next {cf : MCf} {z : Nat} {L : List Rnd7} {cls : List MCl} {q j : Int} (hi : MInv cf z L cls) (h : CmB cls q j L) : CmB cls q (j + 1) (cmtL q L cls) := by
 intro y hy
 obtain ⟨h1, h2, _⟩ := cmt_own hi hy
 have h3 := (hi.c q y hy).p.length_le
 rcases Nat.lt_or_ge (ownR q L).length y.J.length with hl | hl
 ·rw [h1 hl]
  rcases h y hy with e | e
  ·exact .inl (by omega)
  ·exact .inr (by omega)
 ·have e : (ownR q L).length = y.J.length := by omega
  rw [h2 e]
  exact .inr e
theorem CmA.more {cf : MCf} {z : Nat} {L : List Rnd7} {cls : List MCl} {x q : Int} (hi : MInv cf z L cls) (h : CmA cls x L) (hq : q = x + 1) (hb : CmB cls q 70 L) (h60 : ∀ (n : Int) (y : MCl), clAt cls n = some y → y.J.length ≤ 60) : CmA cls (x + 1) L := by
 intro n y hy hn
 by_cases e : n = q
 ·subst e
  have h3 := (hi.c n y hy).p.length_le
  have h4 := h60 n y hy
  rcases hb y hy with e | e
  ·omega
  ·exact e
 ·exact h n y hy (by omega)
theorem MInv.come0 {cf : MCf} {x : Nat} {L : List Rnd7} {cls : List MCl} (h : MInv cf x L cls) (n : Int) : MInv cf x L (comeS n cf L cls).2 := by
 unfold comeS
 cases hc : clAt cls n with
 | none => exact h
 | some y =>
  simp only
  split
  ·rename_i hb
   have hb := of_decide_eq_true hb
   have hy := h.c n y hc
   exact h.set (Nat.le_refl x) hc ⟨hy.e, hy.j, hy.u, hy.f, hy.a, hy.p, by show y.k + (y.c + 1) ≤ _; omega, by show ((y.c + 1 : Nat) : Int) ≤ _; omega⟩
  ·exact h
theorem pull_is {cf : MCf} {L : List Rnd7} {cls : List MCl} {n : Int} {y : MCl} (hy : clAt cls n = some y) : doS cf L cls (actL 4 n ⟨#[]⟩) = (⟨0, (0, 0, none'), false, y.c⟩, cls.set (n.toNat - 1) { y with k := y.k + y.c, c := 0 }) := by
 rw [doS_some ⟨(by decide : (1 : Int) ≤ 4), (by decide : (4 : Int) ≤ 6)⟩ hy]
 rfl
theorem cp_step {cf : MCf} {z : Nat} {L : List Rnd7} {cls : List MCl} {q : Int} {y : MCl} (hi : MInv cf z L cls) (hp : 1 ≤ cf.pull) (hm : Cmp L cls) (hy : clAt cls q = some y) : ∃ (b : Bool) (c1 c2 : List MCl) (y1 y2 : MCl), comeS q cf L cls = (b, c1) ∧ MInv cf z L c1 ∧ doS cf L c1 (actL 4 q ⟨#[]⟩) = (⟨0, (0, 0, none'), false, y1.c⟩, c2) ∧ MInv cf z L c2 ∧ Cmp L c2 ∧ clAt c2 q = some y2 ∧ y2.c = 0 ∧ (y.k + 1 ≤ y2.k ∨ y2.k = L.length) := by
 have hk := hi.c q y hy
 have hi1 := hi.come0 q
 obtain ⟨y1, h1, hj, hs⟩ : ∃ y1, clAt (comeS q cf L cls).2 q = some y1 ∧ y1.J = y.J ∧ y1.k = y.k ∧ (1 ≤ y1.c ∨ y1.k + y1.c = L.length) := by
  unfold comeS
  rw [hy]
  simp only
  split
  ·exact ⟨{ y with c := y.c + 1 }, by rw [clAt_set _ hy, if_pos rfl], rfl, rfl, .inl (by show 1 ≤ y.c + 1; omega)⟩
  ·rename_i hb
   refine ⟨y, hy, rfl, rfl, ?_⟩
   have h2 := hk.k
   have h3 := hk.c
   have h4 : ¬ ((y.c : Int) < cf.pull ∧ y.k + y.c < L.length) := fun e => hb (decide_eq_true e)
   by_cases h5 : (y.c : Int) < cf.pull
   ·exact .inr (by have : ¬ y.k + y.c < L.length := fun e => h4 ⟨h5, e⟩; omega)
   ·exact .inl (by omega)
 have hm1 : Cmp L (comeS q cf L cls).2 := by
  intro n v hv
  by_cases e : n = q
  ·subst e
   rw [h1] at hv
   cases hv
   rw [hj]
   exact hm n y hy
  ·refine hm n v ?_
   unfold comeS at hv
   rw [hy] at hv
   simp only at hv
   split at hv
   ·rw [clAt_set _ hy, if_neg e] at hv
    exact hv
   ·exact hv
 have hk1 := hi1.c q y1 h1
 refine ⟨(comeS q cf L cls).1, (comeS q cf L cls).2, _, y1, _, rfl, hi1, pull_is h1, hi1.set (Nat.le_refl z) h1 (y' := { y1 with k := y1.k + y1.c, c := 0 }) ⟨hk1.e, hk1.j, hk1.u, hk1.f, hk1.a, hk1.p, by show y1.k + y1.c + 0 ≤ _; exact hk1.k, by show ((0 : Nat) : Int) ≤ _; omega⟩, fun n v hv => ?_, by rw [clAt_set _ h1, if_pos rfl], rfl, ?_⟩
 ·rw [clAt_set _ h1] at hv
  split at hv
  ·rename_i e
   subst e
   cases hv
   exact hm1 n y1 h1
  ·exact hm1 n v hv
 ·have h6 := hk1.k
  show y.k + 1 ≤ y1.k + y1.c ∨ y1.k + y1.c = L.length
  rcases hs.2 with e | e
  ·exact .inl (by rw [hs.1]; omega)
  ·exact .inr e
theorem k_next {t : Int} {k k2 c n : Nat} (h8 : k + 1 ≤ k2 ∨ k2 = n) (h : k2 + c ≤ n) (ht : t ≤ (k : Int) ∨ k = n) : t + 1 ≤ (k2 : Int) ∨ k2 = n := by
 rcases h8 with a | a
 ·rcases ht with b | b
  ·exact .inl (by omega)
  ·exact .inr (by omega)
 ·exact .inr a
theorem k_end {k c n : Nat} (ht : (n : Int) + 1 ≤ (k : Int) ∨ k = n) (h : k + c ≤ n) : k = n := by
 rcases ht with b | b
 ·omega
 ·exact b
theorem end_pend {L : List Rnd7} {cls : List MCl} {q : Int} {y : MCl} (hm : Cmp L cls) (hy : clAt cls q = some y) (hk : y.k = L.length) : y.J.length - ownN q L y = 0 ∧ seenR q L y = L := by
 have e : ownN q L y = y.J.length := by
  unfold ownN
  rw [hk, List.take_length]
  exact hm q y hy
 refine ⟨by rw [e, Nat.sub_self], ?_⟩
 unfold seenR pndR
 rw [e, hk, List.take_length, List.drop_length, List.append_nil]
section
variable {N : Nat → Prop} {w : World} {gm x : Nat} {cf : MCf} {L : List Rnd7} {cls : List MCl}
theorem MCome_w (b : Bool) (c2 : List MCl) (n : Int) (hd : comeS n cf L cls = (b, c2)) (h : Own N w [ModO gm cf L cls]) (hi : MInv cf x L cls) (hc : CfOk cf) (hx : x ≤ 400) :
  Calls Tryd.prog 45 #[pt gm, .int .i64 n] w fun e_ w' => e_ = .returned (.bool b) ∧ Own N w' [ModO gm cf L c2] ∧ KeepS N w w' := by
 have q := MCome_i n h hi hc hx
 rw [hd] at q
 exact q
theorem D8Len_e (n : Int) {U : List Upd7} {X : List Rnd7} (hn : (cntK (stateOf U X) : Int) = n) {w : World} (A0 : Option Addr) (c0 : Nat) (A1 : Option Addr) (c1 : Nat) (ho : Kd.C kU7 w A0 U.length U) (hc0 : U.length ≤ c0) (hr : Kd.C kR7 w A1 X.length X) (hc1 : X.length ≤ c1) (hb : (flatR X).length + U.length < 1000000) (hl : X.length ≤ 1000000) :
  Calls Tryd.prog 51 #[.slice A0 U.length c0, .slice A1 X.length c1] w fun e_ w' => e_ = .returned (.int .i64 n) ∧ Below w.heap.size w w' := by
 subst hn
 exact D8Len A0 c0 U A1 c1 X ho hc0 hr hc1 hb hl
end
def RaI (N : Nat → Prop) (w : World) (gm : Nat) (cf : MCf) (cls : List MCl) (R : HP) (i : Value) (wr : World) : Prop := ∃ (x : Int) (z : Nat) (L : List Rnd7), 0 ≤ x ∧ x ≤ cf.cl ∧ i = .int .i64 x ∧ (z : Int) ≤ 60 + 70 * x ∧ Aside0 (MInv cf z L cls) ∧ Aside0 (CmA cls x L) ∧ Aside0 (Own N wr [R, ModO gm cf L cls]) ∧ Aside0 (KeepS N w wr)
def RbI (N : Nat → Prop) (w : World) (gm : Nat) (cf : MCf) (cls : List MCl) (x q : Int) (R : HP) (i : Value) (wr : World) : Prop := ∃ (j : Int) (z : Nat) (L : List Rnd7), 0 ≤ j ∧ j ≤ 70 ∧ i = .int .i64 j ∧ (z : Int) ≤ 60 + 70 * x + j ∧ Aside0 (MInv cf z L cls) ∧ Aside0 (CmA cls x L) ∧ Aside0 (CmB cls q j L) ∧ Aside0 (Own N wr [R, ModO gm cf L cls]) ∧ Aside0 (KeepS N w wr)
def RcI (N : Nat → Prop) (w : World) (gm z : Nat) (cf : MCf) (L : List Rnd7) (R0 R2 : HP) (i : Value) (wr : World) : Prop := ∃ (x : Int) (cls : List MCl), 0 ≤ x ∧ x ≤ cf.cl ∧ i = .int .i64 x ∧ Aside0 (MInv cf z L cls) ∧ Aside0 (Cmp L cls) ∧ Aside0 (Own N wr [R0, ModO gm cf L cls, R2]) ∧ Aside0 (KeepS N w wr)
def RdI (N : Nat → Prop) (w : World) (n1 : Int) (gm z : Nat) (cf : MCf) (L : List Rnd7) (q : Int) (R0 R2 : HP) (i : Value) (wr : World) : Prop := ∃ (t : Int) (cls : List MCl) (y : MCl), 0 ≤ t ∧ t ≤ n1 ∧ i = .int .i64 t ∧ (t ≤ y.k ∨ y.k = L.length) ∧ (0 < t → y.c = 0) ∧ Aside0 (clAt cls q = some y) ∧ Aside0 (MInv cf z L cls) ∧ Aside0 (Cmp L cls) ∧ Aside0 (Own N wr [R0, ModO gm cf L cls, R2]) ∧ Aside0 (KeepS N w wr)
def chapbooklaw21_ModelReads.f (a0_0 a0_1 a0_2 a0_3 a0_4 a0_5 : Int) (l1 : List S88) (a2 : ByteArray) : Option Bool := some true
theorem ModelReads_core (cf : MCf) (A0 : Option Addr) (c0 : Nat) (l0 : List Step21) (key : ByteArray) (w : World) (HT : Aside0 (Tab w)) (hr0 : Kd.C kS21 w A0 l0.length l0) (hc0 : l0.length ≤ c0) :
  Calls Tryd.prog 14 #[.agg #[.int .i64 cf.cl, .int .i64 cf.win, .int .i64 cf.push, .int .i64 cf.pull, .int .i64 cf.mtu, .int .i64 cf.last], .slice A0 l0.length c0, .string key] w fun e_ w' => e_ = .returned (.bool true) ∧ Below w.heap.size w w' := by
 obtain ⟨N, hN⟩ : ∃ N : Nat → Prop, N = fun k => k < w.heap.size := ⟨_, rfl⟩
 have HN := Aside0.mk hN
 have HT_0 : Aside0 (TabN N w) := ⟨by rw [hN]; exact World.block_lt_of_cell? w _ HT.out.1, HT.out⟩
 have HSF_0 : Aside0 (Kd.F kS21 w N A0 l0.length l0) := ⟨by rw [hN]; exact Kd.C_F heapS21 hr0⟩
 have HR0 := Aside0.mk hr0
 have HC0 := Aside0.mk hc0
 have HT00 := HT_0
 have HSF := HSF_0
 have O0 : Aside0 (Own N w []) := ⟨Own.start_ (fun k hk => by rw [hN] at hk; exact hk)⟩
 have K0 : Aside0 (KeepS N w w) := ⟨KeepS.refl _ _⟩
 clear hN HT hr0 hc0
 obtain ⟨b, hgr, hgb⟩ := great21_ok cf l0
 have HGR := Aside0.mk hgr
 have HGB := Aside0.mk hgb
 clear hgr hgb
 go_enter Tryd.func14, Tryd.ntmps14
 cases b with
 | true =>
  go_wp2_with (first | ((with_reducible refine gD 3 rfl ?_); refine bP 3 #[.int .i64 cf.cl, .int .i64 cf.win, .int .i64 cf.push, .int .i64 cf.pull, .int .i64 cf.mtu, .int .i64 cf.last] 68 O0.out ?_; intro gc w1 o_ k_; obtain ⟨O1, K1⟩ := ok_ K0 o_ k_; have HT_1 := Aside0.mk (TabN.keep HT_0.out k_); have HSF_1 := Aside0.mk (keepF HSF_0.out k_); clear O0 K0 HT_0 HSF_0 o_ k_; have a0 := k6_ O1 0) | ((with_reducible refine gC 35 rfl ?_); refine gP (some 14) Tryd.func35 #[] ?_; refine (awake21 _ ⟨HT_1.out.2⟩).mono ?_; rintro e_ w2 ⟨rfl, hb_⟩; refine ⟨_, rfl, ?_⟩; have o_ := O1.out.below hb_; have k_ := KeepS.of_below (N := N) hb_; obtain ⟨O2, K2⟩ := ok_ K1 o_ k_; have HT_2 := Aside0.mk (TabN.keep HT_1.out k_); have HSF_2 := Aside0.mk (keepF HSF_1.out k_); clear a0 O1 K1 HT_1 HSF_1 o_ k_ hb_; have a0 := k6_ O2 0) | ((with_reducible refine gC 36 rfl ?_); refine gate_guard (by rfl) ?_; refine gP (some 19) Tryd.func36 #[.agg #[.int .i64 cf.cl, .int .i64 cf.win, .int .i64 cf.push, .int .i64 cf.pull, .int .i64 cf.mtu, .int .i64 cf.last], .slice A0 l0.length c0] ?_; refine (chapbooklaw21_great.calls 300 cf.cl cf.win cf.push cf.pull cf.mtu cf.last _ _ l0 true _ (Kd.C_below HR0.out (kw_ K2 HN)) HC0.out HGR.out).mono ?_; rintro e_ w3 ⟨rfl, hb_⟩; refine ⟨_, rfl, ?_⟩; have o_ := O2.out.below hb_; have k_ := KeepS.of_below (N := N) hb_; obtain ⟨O3, K3⟩ := ok_ K2 o_ k_; have HT_3 := Aside0.mk (TabN.keep HT_2.out k_); have HSF_3 := Aside0.mk (keepF HSF_2.out k_); clear a0 O2 K2 HT_2 HSF_2 o_ k_ hb_; have a0 := k6_ O3 0) | ((with_reducible refine gC 35 rfl ?_); refine gP (some 31) Tryd.func35 #[] ?_; refine (awake21 _ ⟨HT_3.out.2⟩).mono ?_; rintro e_ w4 ⟨rfl, hb_⟩; refine ⟨_, rfl, ?_⟩; have o_ := O3.out.below hb_; have k_ := KeepS.of_below (N := N) hb_; obtain ⟨O4, K4⟩ := ok_ K3 o_ k_; have HT_4 := Aside0.mk (TabN.keep HT_3.out k_); have HSF_4 := Aside0.mk (keepF HSF_3.out k_); clear a0 O3 K3 HT_3 HSF_3 o_ k_ hb_; have a0 := k6_ O4 0))
  all_goals go_ret
  all_goals exact ⟨rfl, kw_ K4 HN⟩
 | false =>
  obtain ⟨hl60, hc4, hks⟩ := HGB.out rfl
  have HL60 := Aside0.mk hl60
  have HC4 := Aside0.mk hc4
  have HKS := Aside0.mk hks
  clear hl60 hc4 hks HGB
  obtain ⟨mb, hmb⟩ : ∃ m, cfMay cf = m := ⟨_, rfl⟩
  have HM16 : Aside0 (chapbookref16_May.f cf.cl cf.win cf.push cf.pull cf.mtu cf.last = some mb) := ⟨by rw [rmay21, hmb]⟩
  have HMB := Aside0.mk hmb
  clear hmb
  cases mb with
  | false =>
   go_wp2_with (first | ((with_reducible refine gD 3 rfl ?_); refine bP 3 #[.int .i64 cf.cl, .int .i64 cf.win, .int .i64 cf.push, .int .i64 cf.pull, .int .i64 cf.mtu, .int .i64 cf.last] 68 O0.out ?_; intro gc w1 o_ k_; obtain ⟨O1, K1⟩ := ok_ K0 o_ k_; have HT_1 := Aside0.mk (TabN.keep HT_0.out k_); have HSF_1 := Aside0.mk (keepF HSF_0.out k_); clear O0 K0 HT_0 HSF_0 o_ k_; have a0 := k6_ O1 0) | ((with_reducible refine gC 35 rfl ?_); refine gP (some 14) Tryd.func35 #[] ?_; refine (awake21 _ ⟨HT_1.out.2⟩).mono ?_; rintro e_ w2 ⟨rfl, hb_⟩; refine ⟨_, rfl, ?_⟩; have o_ := O1.out.below hb_; have k_ := KeepS.of_below (N := N) hb_; obtain ⟨O2, K2⟩ := ok_ K1 o_ k_; have HT_2 := Aside0.mk (TabN.keep HT_1.out k_); have HSF_2 := Aside0.mk (keepF HSF_1.out k_); clear a0 O1 K1 HT_1 HSF_1 o_ k_ hb_; have a0 := k6_ O2 0) | ((with_reducible refine gC 36 rfl ?_); refine gate_guard (by rfl) ?_; refine gP (some 19) Tryd.func36 #[.agg #[.int .i64 cf.cl, .int .i64 cf.win, .int .i64 cf.push, .int .i64 cf.pull, .int .i64 cf.mtu, .int .i64 cf.last], .slice A0 l0.length c0] ?_; refine (chapbooklaw21_great.calls 300 cf.cl cf.win cf.push cf.pull cf.mtu cf.last _ _ l0 false _ (Kd.C_below HR0.out (kw_ K2 HN)) HC0.out HGR.out).mono ?_; rintro e_ w3 ⟨rfl, hb_⟩; refine ⟨_, rfl, ?_⟩; have o_ := O2.out.below hb_; have k_ := KeepS.of_below (N := N) hb_; obtain ⟨O3, K3⟩ := ok_ K2 o_ k_; have HT_3 := Aside0.mk (TabN.keep HT_2.out k_); have HSF_3 := Aside0.mk (keepF HSF_2.out k_); clear a0 O2 K2 HT_2 HSF_2 o_ k_ hb_; have a0 := k6_ O3 0) | ((with_reducible refine gC 37 rfl ?_); refine gate_guard (by rfl) ?_; refine gP (some 23) Tryd.func37 #[.agg #[.int .i64 cf.cl, .int .i64 cf.win, .int .i64 cf.push, .int .i64 cf.pull, .int .i64 cf.mtu, .int .i64 cf.last]] ?_; refine (chapbookref16_May.calls cf.cl cf.win cf.push cf.pull cf.mtu cf.last false _ HM16.out).mono ?_; rintro e_ w4 ⟨rfl, hb_⟩; refine ⟨_, rfl, ?_⟩; have o_ := O3.out.below hb_; have k_ := KeepS.of_below (N := N) hb_; obtain ⟨O4, K4⟩ := ok_ K3 o_ k_; have HT_4 := Aside0.mk (TabN.keep HT_3.out k_); have HSF_4 := Aside0.mk (keepF HSF_3.out k_); clear a0 O3 K3 HT_3 HSF_3 o_ k_ hb_; have a0 := k6_ O4 0) | ((with_reducible refine gC 35 rfl ?_); refine gP (some 31) Tryd.func35 #[] ?_; refine (awake21 _ ⟨HT_4.out.2⟩).mono ?_; rintro e_ w5 ⟨rfl, hb_⟩; refine ⟨_, rfl, ?_⟩; have o_ := O4.out.below hb_; have k_ := KeepS.of_below (N := N) hb_; obtain ⟨O5, K5⟩ := ok_ K4 o_ k_; have HT_5 := Aside0.mk (TabN.keep HT_4.out k_); have HSF_5 := Aside0.mk (keepF HSF_4.out k_); clear a0 O4 K4 HT_4 HSF_4 o_ k_ hb_; have a0 := k6_ O5 0))
   all_goals go_ret
   all_goals exact ⟨rfl, kw_ K5 HN⟩
  | true =>
   have HCF : Aside0 (CfOk cf) := ⟨CfOk.mk_ HMB.out HC4.out⟩
   have HX4 : Aside0 (l0.length ≤ 400) := ⟨by have := HL60.out; omega⟩
   by_cases hks : (key.size : Int) > 50
   ·have dk1 : decide ((key.size : Int) > 50) = true := decide_eq_true hks
    have dk2 : decide (50 < (key.size : Int)) = true := dk1
    have dk3 : (50 < key.size) = True := eq_true (by omega)
    clear hks
    go_wp2_with (first | ((with_reducible refine gD 3 rfl ?_); refine bP 3 #[.int .i64 cf.cl, .int .i64 cf.win, .int .i64 cf.push, .int .i64 cf.pull, .int .i64 cf.mtu, .int .i64 cf.last] 68 O0.out ?_; intro gc w1 o_ k_; obtain ⟨O1, K1⟩ := ok_ K0 o_ k_; have HT_1 := Aside0.mk (TabN.keep HT_0.out k_); have HSF_1 := Aside0.mk (keepF HSF_0.out k_); clear O0 K0 HT_0 HSF_0 o_ k_; have a0 := k6_ O1 0) | ((with_reducible refine gC 35 rfl ?_); refine gP (some 14) Tryd.func35 #[] ?_; refine (awake21 _ ⟨HT_1.out.2⟩).mono ?_; rintro e_ w2 ⟨rfl, hb_⟩; refine ⟨_, rfl, ?_⟩; have o_ := O1.out.below hb_; have k_ := KeepS.of_below (N := N) hb_; obtain ⟨O2, K2⟩ := ok_ K1 o_ k_; have HT_2 := Aside0.mk (TabN.keep HT_1.out k_); have HSF_2 := Aside0.mk (keepF HSF_1.out k_); clear a0 O1 K1 HT_1 HSF_1 o_ k_ hb_; have a0 := k6_ O2 0) | ((with_reducible refine gC 36 rfl ?_); refine gate_guard (by rfl) ?_; refine gP (some 19) Tryd.func36 #[.agg #[.int .i64 cf.cl, .int .i64 cf.win, .int .i64 cf.push, .int .i64 cf.pull, .int .i64 cf.mtu, .int .i64 cf.last], .slice A0 l0.length c0] ?_; refine (chapbooklaw21_great.calls 300 cf.cl cf.win cf.push cf.pull cf.mtu cf.last _ _ l0 false _ (Kd.C_below HR0.out (kw_ K2 HN)) HC0.out HGR.out).mono ?_; rintro e_ w3 ⟨rfl, hb_⟩; refine ⟨_, rfl, ?_⟩; have o_ := O2.out.below hb_; have k_ := KeepS.of_below (N := N) hb_; obtain ⟨O3, K3⟩ := ok_ K2 o_ k_; have HT_3 := Aside0.mk (TabN.keep HT_2.out k_); have HSF_3 := Aside0.mk (keepF HSF_2.out k_); clear a0 O2 K2 HT_2 HSF_2 o_ k_ hb_; have a0 := k6_ O3 0) | ((with_reducible refine gC 37 rfl ?_); refine gate_guard (by rfl) ?_; refine gP (some 23) Tryd.func37 #[.agg #[.int .i64 cf.cl, .int .i64 cf.win, .int .i64 cf.push, .int .i64 cf.pull, .int .i64 cf.mtu, .int .i64 cf.last]] ?_; refine (chapbookref16_May.calls cf.cl cf.win cf.push cf.pull cf.mtu cf.last true _ HM16.out).mono ?_; rintro e_ w4 ⟨rfl, hb_⟩; refine ⟨_, rfl, ?_⟩; have o_ := O3.out.below hb_; have k_ := KeepS.of_below (N := N) hb_; obtain ⟨O4, K4⟩ := ok_ K3 o_ k_; have HT_4 := Aside0.mk (TabN.keep HT_3.out k_); have HSF_4 := Aside0.mk (keepF HSF_3.out k_); clear a0 O3 K3 HT_3 HSF_3 o_ k_ hb_; have a0 := k6_ O4 0) | ((with_reducible refine gC 35 rfl ?_); refine gP (some 31) Tryd.func35 #[] ?_; refine (awake21 _ ⟨HT_4.out.2⟩).mono ?_; rintro e_ w5 ⟨rfl, hb_⟩; refine ⟨_, rfl, ?_⟩; have o_ := O4.out.below hb_; have k_ := KeepS.of_below (N := N) hb_; obtain ⟨O5, K5⟩ := ok_ K4 o_ k_; have HT_5 := Aside0.mk (TabN.keep HT_4.out k_); have HSF_5 := Aside0.mk (keepF HSF_4.out k_); clear a0 O4 K4 HT_4 HSF_4 o_ k_ hb_; have a0 := k6_ O5 0))
    all_goals go_ret
    all_goals exact ⟨rfl, kw_ K5 HN⟩
   ·have dk1 : decide ((key.size : Int) > 50) = false := decide_eq_false hks
    have dk2 : decide (50 < (key.size : Int)) = false := dk1
    have dk3 : (50 < key.size) = False := eq_false (by omega)
    have HK50 : Aside0 (key.size ≤ 50) := ⟨by omega⟩
    clear hks
    go_wp2_with (first | ((with_reducible refine gD 3 rfl ?_); refine bP 3 #[.int .i64 cf.cl, .int .i64 cf.win, .int .i64 cf.push, .int .i64 cf.pull, .int .i64 cf.mtu, .int .i64 cf.last] 68 O0.out ?_; intro gc w1 o_ k_; obtain ⟨O1, K1⟩ := ok_ K0 o_ k_; have HT_1 := Aside0.mk (TabN.keep HT_0.out k_); have HSF_1 := Aside0.mk (keepF HSF_0.out k_); clear O0 K0 HT_0 HSF_0 o_ k_; have a0 := k6_ O1 0) | ((with_reducible refine gC 35 rfl ?_); refine gP (some 14) Tryd.func35 #[] ?_; refine (awake21 _ ⟨HT_1.out.2⟩).mono ?_; rintro e_ w2 ⟨rfl, hb_⟩; refine ⟨_, rfl, ?_⟩; have o_ := O1.out.below hb_; have k_ := KeepS.of_below (N := N) hb_; obtain ⟨O2, K2⟩ := ok_ K1 o_ k_; have HT_2 := Aside0.mk (TabN.keep HT_1.out k_); have HSF_2 := Aside0.mk (keepF HSF_1.out k_); clear a0 O1 K1 HT_1 HSF_1 o_ k_ hb_; have a0 := k6_ O2 0) | ((with_reducible refine gC 36 rfl ?_); refine gate_guard (by rfl) ?_; refine gP (some 19) Tryd.func36 #[.agg #[.int .i64 cf.cl, .int .i64 cf.win, .int .i64 cf.push, .int .i64 cf.pull, .int .i64 cf.mtu, .int .i64 cf.last], .slice A0 l0.length c0] ?_; refine (chapbooklaw21_great.calls 300 cf.cl cf.win cf.push cf.pull cf.mtu cf.last _ _ l0 false _ (Kd.C_below HR0.out (kw_ K2 HN)) HC0.out HGR.out).mono ?_; rintro e_ w3 ⟨rfl, hb_⟩; refine ⟨_, rfl, ?_⟩; have o_ := O2.out.below hb_; have k_ := KeepS.of_below (N := N) hb_; obtain ⟨O3, K3⟩ := ok_ K2 o_ k_; have HT_3 := Aside0.mk (TabN.keep HT_2.out k_); have HSF_3 := Aside0.mk (keepF HSF_2.out k_); clear a0 O2 K2 HT_2 HSF_2 o_ k_ hb_; have a0 := k6_ O3 0) | ((with_reducible refine gC 37 rfl ?_); refine gate_guard (by rfl) ?_; refine gP (some 23) Tryd.func37 #[.agg #[.int .i64 cf.cl, .int .i64 cf.win, .int .i64 cf.push, .int .i64 cf.pull, .int .i64 cf.mtu, .int .i64 cf.last]] ?_; refine (chapbookref16_May.calls cf.cl cf.win cf.push cf.pull cf.mtu cf.last true _ HM16.out).mono ?_; rintro e_ w4 ⟨rfl, hb_⟩; refine ⟨_, rfl, ?_⟩; have o_ := O3.out.below hb_; have k_ := KeepS.of_below (N := N) hb_; obtain ⟨O4, K4⟩ := ok_ K3 o_ k_; have HT_4 := Aside0.mk (TabN.keep HT_3.out k_); have HSF_4 := Aside0.mk (keepF HSF_3.out k_); clear a0 O3 K3 HT_3 HSF_3 o_ k_ hb_; have a0 := k6_ O4 0) | ((with_reducible refine gC 38 rfl ?_); refine gP (some 34) Tryd.func38 #[.agg #[.int .i64 cf.cl, .int .i64 cf.win, .int .i64 cf.push, .int .i64 cf.pull, .int .i64 cf.mtu, .int .i64 cf.last], .slice A0 l0.length c0] ?_; obtain ⟨N_, on_, nn_, rr_, bb_⟩ := O4.out.frame0; refine (Run21 cf A0 c0 l0 on_ (Kd.F_mono HSF_4.out nn_) (TabN.mono HT_4.out nn_) HMB.out HCF.out HL60.out HKS.out).mono ?_; rintro e_ w5 ⟨gm, L, cls, rfl, hi_, oo_, kk_⟩; obtain ⟨o_, k_⟩ := bb_ _ _ kk_ oo_; refine ⟨_, rfl, ?_⟩; obtain ⟨O5, K5⟩ := ok_ K4 o_ k_; have HT_5 := Aside0.mk (TabN.keep HT_4.out k_); have HSF_5 := Aside0.mk (keepF HSF_4.out k_); clear a0 O4 K4 HT_4 HSF_4 o_ k_ oo_ kk_ on_ nn_ rr_ bb_; have a0 := k6_ O5 0; have HI := Aside0.mk hi_; clear hi_; have HJ60 : Aside0 (∀ (n : Int) (y : MCl), clAt cls n = some y → y.J.length ≤ 60) := ⟨fun n y hy => Nat.le_trans (HI.out.c n y hy).j HL60.out⟩))
    clear a0
    have HCL4 : Aside0 (1 ≤ cf.cl ∧ cf.cl ≤ 4) := ⟨HCF.out.cl⟩
    go_loopw [39] (fun i wr => RaI N w gm cf cls (cells gc #[.int .i64 cf.cl, .int .i64 cf.win, .int .i64 cf.push, .int .i64 cf.pull, .int .i64 cf.mtu, .int .i64 cf.last] 68) i wr) (fun i _ => cf.cl.toNat - (intOf i).toNat)
    case atStart => exact ⟨0, l0.length, L, by omega, by have := HCL4.out; omega, rfl, by have := HL60.out; omega, HI, ⟨fun n y hy hn => by have := clAt_len hy; omega⟩, O5, K5⟩
    case round =>
     clear O5 K5 HT_5 HSF_5 HI
     obtain ⟨x, z, L, hx0, hx1, rfl, hz, HI, HCA, OA, KA⟩ := hrel
     by_cases hlt : x < cf.cl
     ·have hd : decide (x < cf.cl) = true := decide_eq_true hlt
      have HX := Aside0.mk (show 0 ≤ x ∧ x < cf.cl ∧ cf.cl ≤ 4 from ⟨hx0, hlt, HCL4.out.2⟩)
      have HZ := Aside0.mk hz
      obtain ⟨q, hq_⟩ : ∃ q, x + 1 = q := ⟨_, rfl⟩
      have hs2 : wrap64 (x + 1) = q := by rw [← hq_]; have := HX.out; unfold wrap64; omega
      have HQ := Aside0.mk hq_
      have HW2 := Aside0.mk hs2
      clear hq_ hx0 hx1 hlt hz
      go_wp2
      go_loopw [42] (fun i wr => RbI N w gm cf cls x q (cells gc #[.int .i64 cf.cl, .int .i64 cf.win, .int .i64 cf.push, .int .i64 cf.pull, .int .i64 cf.mtu, .int .i64 cf.last] 68) i wr) (fun i _ => 70 - (intOf i).toNat)
      case atStart => exact ⟨0, z, L, by omega, by omega, rfl, by have := HZ.out; omega, HI, HCA, ⟨fun y hy => .inl (by omega)⟩, OA, KA⟩
      case round =>
       obtain ⟨jj, z2, L2, hj0, hj1, rfl, hz2, HI2, HCA2, HCB2, OB, KB⟩ := hrel
       by_cases hjt : jj < 70
       ·have hd2 : decide (jj < 70) = true := decide_eq_true hjt
        have HJ := Aside0.mk (show 0 ≤ jj ∧ jj < 70 from ⟨hj0, hjt⟩)
        have hs4 : wrap64 (jj + 1) = jj + 1 := by unfold wrap64; omega
        have HZ2 := Aside0.mk hz2
        have HX4b : Aside0 (z2 ≤ 400) := ⟨by have := HX.out; omega⟩
        clear hj0 hj1 hjt hz2
        have O6 : Aside0 (Own N wr [cells gc #[.int .i64 cf.cl, .int .i64 cf.win, .int .i64 cf.push, .int .i64 cf.pull, .int .i64 cf.mtu, .int .i64 cf.last] 68, ModO gm cf L2 cls]) := ⟨OB.out⟩
        have K6 : Aside0 (KeepS N w wr) := ⟨KB.out⟩
        have a0 := k6_ O6 0
        clear OB KB
        go_wp2_with (first | ((with_reducible refine gC 44 rfl ?_); refine gP (some 47) Tryd.func44 #[pt gm, .int .i64 (wrap64 (x + 1))] ?_; rw [HW2.out]; obtain ⟨N_, on_, nn_, rr_, bb_⟩ := O6.out.frameL [1] (by decide) (by simp); refine (MCommit_i q on_ HI2.out HCF.out HX4b.out).mono ?_; rintro e_ w7 ⟨rfl, oo_, kk_⟩; obtain ⟨o_, k_⟩ := bb_ _ [ModO gm cf (cmtL q L2 cls) cls] [] rfl kk_ oo_; refine ⟨_, rfl, ?_⟩; obtain ⟨O7, K7⟩ := ok_ K6 o_ k_; clear a0 O6 K6 o_ k_ oo_ kk_ on_ nn_ rr_ bb_; have a0 := k6_ O7 0))
        go_roundw
        case rel => exact ⟨jj + 1, z2 + 1, cmtL q L2 cls, by have := HJ.out; omega, by have := HJ.out; omega, int_eq17 (by unfold wrap64; have := HJ.out; omega), by have := HZ2.out; omega, ⟨HI2.out.commit q⟩, ⟨CmA.next HI2.out HCA2.out HQ.out.symm⟩, ⟨CmB.next HI2.out HCB2.out⟩, ⟨O7.out.take 2⟩, K7⟩
        case measure => have := HJ.out; simp [intOf]; omega
       ·have hje : jj = 70 := by omega
        subst hje
        have hd2 : decide ((70 : Int) < 70) = false := decide_eq_false (Int.lt_irrefl _)
        have HZ2 := Aside0.mk hz2
        clear hj0 hj1 hjt hz2
        go_wp2
        go_roundw
        case rel => exact ⟨x + 1, z2, L2, by have := HX.out; omega, by have := HX.out; omega, int_eq17 (by unfold wrap64; have := HX.out; omega), by have := HZ2.out; omega, HI2, ⟨CmA.more HI2.out HCA2.out HQ.out.symm HCB2.out HJ60.out⟩, OB, KB⟩
        case measure => have := HX.out; have := HQ.out; simp [intOf]; omega
     ·have hd : decide (x < cf.cl) = false := decide_eq_false hlt
      have hxe : x = cf.cl := by omega
      have HX4b : Aside0 (z ≤ 400) := ⟨by have := HCL4.out; omega⟩
      have HCM : Aside0 (Cmp L cls) := ⟨fun n y hy => HCA.out n y hy (by have h := clAt_len hy; have := HI.out.n; omega)⟩
      have HFW : Aside0 (Few 400 L ∧ L.length ≤ 400) := ⟨HI.out.f.mono HX4b.out, Nat.le_trans HI.out.l HX4b.out⟩
      obtain ⟨n1, hn1⟩ : ∃ n : Int, (L.length : Int) + 1 = n := ⟨_, rfl⟩
      have hw9 : wrap64 ((L.length : Int) + 1) = n1 := by rw [← hn1]; have h := HFW.out.2; unfold wrap64; omega
      have HN1 := Aside0.mk hn1
      have HW9 := Aside0.mk hw9
      clear hn1 hw9
      clear hxe hlt hx0 hx1 hz
      have O6 : Aside0 (Own N wr [cells gc #[.int .i64 cf.cl, .int .i64 cf.win, .int .i64 cf.push, .int .i64 cf.pull, .int .i64 cf.mtu, .int .i64 cf.last] 68, ModO gm cf L cls]) := ⟨OA.out⟩
      have K6 : Aside0 (KeepS N w wr) := ⟨KA.out⟩
      have a0 := k6_ O6 0
      clear OA KA
      go_wp2_with (first | ((with_reducible refine gC 39 rfl ?_); refine gP (some 51) Tryd.func39 #[pt gm] ?_; obtain ⟨N_, on_, nn_, rr_, bb_⟩ := O6.out.frameL [1] (by decide) (by simp); refine (MLog_i on_ HI.out HX4b.out).mono ?_; rintro e_ w7 ⟨B1, d1_, rfl, oo_, kk_⟩; obtain ⟨o_, k_⟩ := bb_ _ [ModO gm cf L cls] [nrow kR7 tR7 (.slice B1 L.length d1_) L] rfl kk_ oo_; refine ⟨_, rfl, ?_⟩; obtain ⟨O7, K7⟩ := ok_ K6 o_ k_; clear a0 O6 K6 o_ k_ oo_ kk_ on_ nn_ rr_ bb_; have a0 := k6_ O7 0))
      have HD1 : Aside0 (L.length ≤ d1_) := ⟨(O7.out.nreads (i := 2) rfl).2.1⟩
      clear a0
      go_loopw [54] (fun i wr => RcI N w gm z cf L (cells gc #[.int .i64 cf.cl, .int .i64 cf.win, .int .i64 cf.push, .int .i64 cf.pull, .int .i64 cf.mtu, .int .i64 cf.last] 68) (nrow kR7 tR7 (.slice B1 L.length d1_) L) i wr) (fun i _ => cf.cl.toNat - (intOf i).toNat)
      case atStart => exact ⟨0, cls, by omega, by have := HCL4.out; omega, rfl, HI, HCM, O7, K7⟩
      case round =>
       clear O7 K7 HI HCM
       obtain ⟨x, cls, hx0, hx1, rfl, HI, HCM, OA, KA⟩ := hrel
       by_cases hlt : x < cf.cl
       ·have hd : decide (x < cf.cl) = true := decide_eq_true hlt
        have HX := Aside0.mk (show 0 ≤ x ∧ x < cf.cl ∧ cf.cl ≤ 4 from ⟨hx0, hlt, HCL4.out.2⟩)
        obtain ⟨q, hq_⟩ : ∃ q, x + 1 = q := ⟨_, rfl⟩
        have hs2 : wrap64 (x + 1) = q := by rw [← hq_]; have := HX.out; unfold wrap64; omega
        have HQ := Aside0.mk hq_
        have HW2 := Aside0.mk hs2
        obtain ⟨y, hy_⟩ := clAt_in (cls := cls) (n := q) (by have := HI.out.n; have := HX.out; omega)
        have HY := Aside0.mk hy_
        clear hq_ hy_ hx0 hx1 hlt
        go_wp2
        go_loopw [60] (fun i wr => RdI N w n1 gm z cf L q (cells gc #[.int .i64 cf.cl, .int .i64 cf.win, .int .i64 cf.push, .int .i64 cf.pull, .int .i64 cf.mtu, .int .i64 cf.last] 68) (nrow kR7 tR7 (.slice B1 L.length d1_) L) i wr) (fun i _ => n1.toNat - (intOf i).toNat)
        case atStart => exact ⟨0, cls, y, by omega, by have := HN1.out; omega, rfl, .inl (by omega), fun h => by omega, HY, HI, HCM, OA, KA⟩
        case round =>
         clear HY HI HCM OA KA
         obtain ⟨t, cls, y, ht0, ht1, rfl, htk, htc, HY, HI, HCM, OA, KA⟩ := hrel
         by_cases htt : t < n1
         ·have hd2 : decide (t < wrap64 ((L.length : Int) + 1)) = true := by rw [HW9.out]; exact decide_eq_true htt
          obtain ⟨b, c1, c2, y1, y2, e1, e2, e3, e4, e5, e6, e7, e8⟩ := cp_step HI.out HCF.out.pull HCM.out HY.out
          have HB1 := Aside0.mk e1
          have HB2 := Aside0.mk e2
          have HB3 := Aside0.mk e3
          have HB4 := Aside0.mk e4
          have HB5 := Aside0.mk e5
          have HB6 := Aside0.mk e6
          have HB7 := Aside0.mk e7
          have HB8 := Aside0.mk (k_next e8 (e4.c q y2 e6).k htk)
          have HT9 := Aside0.mk (show 0 ≤ t ∧ t < n1 from ⟨ht0, htt⟩)
          have hs4 : wrap64 (t + 1) = t + 1 := by have h := HFW.out.2; have h2 := HT9.out; have h3 := HN1.out; unfold wrap64; omega
          obtain ⟨nc, hnc⟩ : ∃ n : Nat, y1.c = n := ⟨_, rfl⟩
          rw [hnc] at HB3
          clear e1 e2 e3 e4 e5 e6 e7 e8 hnc ht0 ht1 htk htc htt
          have O8 : Aside0 (Own N wr [cells gc #[.int .i64 cf.cl, .int .i64 cf.win, .int .i64 cf.push, .int .i64 cf.pull, .int .i64 cf.mtu, .int .i64 cf.last] 68, ModO gm cf L cls, nrow kR7 tR7 (.slice B1 L.length d1_) L]) := ⟨OA.out⟩
          have K8 : Aside0 (KeepS N w wr) := ⟨KA.out⟩
          have HT_8 : Aside0 (TabN N wr) := ⟨HT00.out.keep KA.out⟩
          have a0 := k6_ O8 0
          clear OA KA
          go_wp2_with (first | ((with_reducible refine gC 45 rfl ?_); refine gP (some 65) Tryd.func45 #[pt gm, .int .i64 (wrap64 (x + 1))] ?_; rw [HW2.out]; obtain ⟨N_, on_, nn_, rr_, bb_⟩ := O8.out.frameL [1] (by decide) (by simp); refine (MCome_w b c1 q HB1.out on_ HI.out HCF.out HX4b.out).mono ?_; rintro e_ w9 ⟨rfl, oo_, kk_⟩; obtain ⟨o_, k_⟩ := bb_ _ [ModO gm cf L c1] [] rfl kk_ oo_; refine ⟨_, rfl, ?_⟩; obtain ⟨O9, K9⟩ := ok_ K8 o_ k_; have HT_9 := Aside0.mk (TabN.keep HT_8.out k_); clear a0 O8 K8 HT_8 o_ k_ oo_ kk_ on_ nn_ rr_ bb_; have a0 := k6_ O9 0) | ((with_reducible refine gC 42 rfl ?_); refine gP (some 70) Tryd.func42 #[pt gm, .agg #[.int .i64 4, .int .i64 (wrap64 (x + 1)), .string ⟨#[]⟩, .int .i64 0, .int .i64 0, .string ⟨#[]⟩, .string ⟨#[]⟩, .int .i64 0, .int .i64 0, .int .u32 0]] ?_; rw [HW2.out]; obtain ⟨N_, on_, nn_, rr_, bb_⟩ := O9.out.frameL [1] (by decide) (by simp); refine (MDo_l (actL 4 q ⟨#[]⟩) 0 0 0 none' false nc c2 HB3.out on_ (TabN.mono HT_9.out nn_) HB2.out HCF.out HX4b.out (show (⟨#[]⟩ : ByteArray).size ≤ 50 by decide)).mono ?_; rintro e_ w10 ⟨rfl, oo_, kk_⟩; obtain ⟨o_, k_⟩ := bb_ _ [ModO gm cf L c2] [] rfl kk_ oo_; refine ⟨_, rfl, ?_⟩; obtain ⟨O10, K10⟩ := ok_ K9 o_ k_; have HT_10 := Aside0.mk (TabN.keep HT_9.out k_); clear a0 O9 K9 HT_9 o_ k_ oo_ kk_ on_ nn_ rr_ bb_; have a0 := k6_ O10 0) | ((with_reducible refine gC 42 rfl ?_); refine gP (some 70) Tryd.func42 #[pt gm, .agg #[.int .i64 4, .int .i64 q, .string ⟨#[]⟩, .int .i64 0, .int .i64 0, .string ⟨#[]⟩, .string ⟨#[]⟩, .int .i64 0, .int .i64 0, .int .u32 0]] ?_; obtain ⟨N_, on_, nn_, rr_, bb_⟩ := O9.out.frameL [1] (by decide) (by simp); refine (MDo_l (actL 4 q ⟨#[]⟩) 0 0 0 none' false nc c2 HB3.out on_ (TabN.mono HT_9.out nn_) HB2.out HCF.out HX4b.out (show (⟨#[]⟩ : ByteArray).size ≤ 50 by decide)).mono ?_; rintro e_ w10 ⟨rfl, oo_, kk_⟩; obtain ⟨o_, k_⟩ := bb_ _ [ModO gm cf L c2] [] rfl kk_ oo_; refine ⟨_, rfl, ?_⟩; obtain ⟨O10, K10⟩ := ok_ K9 o_ k_; have HT_10 := Aside0.mk (TabN.keep HT_9.out k_); clear a0 O9 K9 HT_9 o_ k_ oo_ kk_ on_ nn_ rr_ bb_; have a0 := k6_ O10 0))
          go_roundw
          case rel => exact ⟨t + 1, c2, y2, by have := HT9.out; omega, by have := HT9.out; omega, int_eq17 (by unfold wrap64; have h := HFW.out.2; have h3 := HN1.out; have := HT9.out; omega), HB8.out, fun _ => HB7.out, HB6, HB4, HB5, ⟨O10.out.take 3⟩, K10⟩
          case measure => have := HT9.out; simp [intOf]; omega
         ·have hte : n1 = t := by omega
          subst hte
          have hd2 : decide (n1 < wrap64 ((L.length : Int) + 1)) = false := by rw [HW9.out]; exact decide_eq_false (Int.lt_irrefl _)
          have hkk : y.k = L.length := k_end (by rw [HN1.out]; exact htk) (HI.out.c q y HY.out).k
          have hcc : y.c = 0 := htc (by have := HN1.out; omega)
          obtain ⟨hpe, hse⟩ := end_pend HCM.out HY.out hkk
          have HSE := Aside0.mk hse
          have HLV : Aside0 (lookV q L y = .agg #[.int .i64 y.e, .int .i64 L.length, .int .i64 0, .int .i64 y.U.length, .int .i64 0, .int .i64 0]) := ⟨by unfold lookV; rw [hpe, hkk, hcc]; rfl⟩
          have hnl : ((L.length : Int) != (L.length : Int)) = false := by simp
          obtain ⟨b, hb⟩ : ∃ b, decide (y.U.length = 0) = b := ⟨_, rfl⟩
          have HD5 : Aside0 (doS cf L cls (actL 5 q ⟨#[]⟩) = (⟨0, (0, 0, none'), b, 0⟩, cls)) := ⟨by rw [doS_some ⟨(by decide : (1 : Int) ≤ 5), (by decide : (5 : Int) ≤ 6)⟩ HY.out]; show ((⟨0, (0, 0, none'), decide (y.J.length - ownN q L y = 0) && decide (y.U.length = 0), 0⟩ : RepT), cls.set (q.toNat - 1) y) = _; rw [hpe, hb, set_clAt HY.out]; rfl⟩
          obtain ⟨V, hV⟩ : ∃ V, stateOf y.U L key = V := ⟨_, rfl⟩
          obtain ⟨m, hm⟩ : ∃ m : Int, (cntK (stateOf y.U L) : Int) = m := ⟨_, rfl⟩
          have HV := Aside0.mk hV
          have HMM := Aside0.mk hm
          have HD2 : Aside0 (doS cf L cls (actL 2 q key) = (⟨0, (V.1, V.2.1, V.2.2), false, m⟩, cls)) := ⟨by rw [doS_some ⟨(by decide : (1 : Int) ≤ 2), (by decide : (2 : Int) ≤ 6)⟩ HY.out]; show ((⟨0, stateOf y.U (seenR q L y) key, false, cntK (stateOf y.U (seenR q L y))⟩ : RepT), cls.set (q.toNat - 1) y) = _; rw [hse, hV, hm, set_clAt HY.out]⟩
          have HBB : Aside0 ((flatR L).length + y.U.length < 1000000) := ⟨by have h := (HI.out.c q y HY.out).seen HI.out.l HI.out.f HX4b.out; rw [hse] at h; exact h⟩
          clear hkk hcc hpe hse hV hm htk htc htt ht0 ht1
          by_cases hu : y.U.length = 0
          ·skip
           obtain rfl : true = b := by rw [← hb]; simp [hu]
           have du : ((y.U.length : Int) == 0) = true := by simp [hu]
           have hU : y.U = [] := List.eq_nil_of_length_eq_zero hu
           rw [hU] at HV HMM HBB
           clear hu hb hU
           have O8 : Aside0 (Own N wr [cells gc #[.int .i64 cf.cl, .int .i64 cf.win, .int .i64 cf.push, .int .i64 cf.pull, .int .i64 cf.mtu, .int .i64 cf.last] 68, ModO gm cf L cls, nrow kR7 tR7 (.slice B1 L.length d1_) L]) := ⟨OA.out⟩
           have K8 : Aside0 (KeepS N w wr) := ⟨KA.out⟩
           have HT_8 : Aside0 (TabN N wr) := ⟨HT00.out.keep KA.out⟩
           have a0 := k6_ O8 0
           clear OA KA
           go_wp2_with (first | ((with_reducible refine gC 40 rfl ?_); refine gP (some 75) Tryd.func40 #[pt gm, .int .i64 (wrap64 (x + 1))] ?_; rw [HW2.out]; obtain ⟨N_, on_, nn_, rr_, bb_⟩ := O8.out.frameL [1] (by decide) (by simp); refine (MLook_v (.agg #[.int .i64 y.e, .int .i64 L.length, .int .i64 0, .int .i64 y.U.length, .int .i64 0, .int .i64 0]) q HLV.out on_ HI.out HCF.out HX4b.out HY.out).mono ?_; rintro e_ w9 ⟨rfl, oo_, kk_⟩; obtain ⟨o_, k_⟩ := bb_ _ [ModO gm cf L cls] [] rfl kk_ oo_; refine ⟨_, rfl, ?_⟩; obtain ⟨O9, K9⟩ := ok_ K8 o_ k_; have HT_9 := Aside0.mk (TabN.keep HT_8.out k_); clear a0 O8 K8 HT_8 o_ k_ oo_ kk_ on_ nn_ rr_ bb_; have a0 := k6_ O9 0) | ((with_reducible refine gD 11 rfl ?_); refine bP 11 #[.int .i64 0, .int .i64 0, .int .i64 0, .int .i64 0, .int .i64 0, .int .i64 0] 75 O9.out ?_; intro g11 w10 o_ k_; obtain ⟨O10, K10⟩ := ok_ K9 o_ k_; have HT_10 := Aside0.mk (TabN.keep HT_9.out k_); clear a0 O9 K9 HT_9 o_ k_; have a0 := k6_ O10 0; have a3 := k6_ O10 3) | ((with_reducible refine gT 75 11 rfl ?_); refine wS 3 0 [.int .i64 y.e, .int .i64 L.length, .int .i64 0, .int .i64 y.U.length, .int .i64 0, .int .i64 0] O10 ?_; intro w11 o_ k_; obtain ⟨O11, K11⟩ := ok_ K10 o_ k_; have HT_11 := Aside0.mk (TabN.keep HT_10.out k_); clear a0 a3 O10 K10 HT_10 o_ k_; have a0 := k6_ O11 0; have a3 := k6_ O11 3) | ((with_reducible refine gC 42 rfl ?_); refine gP (some 95) Tryd.func42 #[pt gm, .agg #[.int .i64 5, .int .i64 (wrap64 (x + 1)), .string ⟨#[]⟩, .int .i64 0, .int .i64 0, .string ⟨#[]⟩, .string ⟨#[]⟩, .int .i64 0, .int .i64 0, .int .u32 0]] ?_; rw [HW2.out]; obtain ⟨N_, on_, nn_, rr_, bb_⟩ := O11.out.frameL [1] (by decide) (by simp); refine (MDo_l (actL 5 q ⟨#[]⟩) 0 0 0 none' true 0 cls HD5.out on_ (TabN.mono HT_11.out nn_) HI.out HCF.out HX4b.out (show (⟨#[]⟩ : ByteArray).size ≤ 50 by decide)).mono ?_; rintro e_ w12 ⟨rfl, oo_, kk_⟩; obtain ⟨o_, k_⟩ := bb_ _ [ModO gm cf L cls] [] rfl kk_ oo_; refine ⟨_, rfl, ?_⟩; obtain ⟨O12, K12⟩ := ok_ K11 o_ k_; have HT_12 := Aside0.mk (TabN.keep HT_11.out k_); clear a0 a3 O11 K11 HT_11 o_ k_ oo_ kk_ on_ nn_ rr_ bb_; have a0 := k6_ O12 0; have a3 := k6_ O12 3) | ((with_reducible refine gC 42 rfl ?_); refine gP (some 95) Tryd.func42 #[pt gm, .agg #[.int .i64 5, .int .i64 q, .string ⟨#[]⟩, .int .i64 0, .int .i64 0, .string ⟨#[]⟩, .string ⟨#[]⟩, .int .i64 0, .int .i64 0, .int .u32 0]] ?_; obtain ⟨N_, on_, nn_, rr_, bb_⟩ := O11.out.frameL [1] (by decide) (by simp); refine (MDo_l (actL 5 q ⟨#[]⟩) 0 0 0 none' true 0 cls HD5.out on_ (TabN.mono HT_11.out nn_) HI.out HCF.out HX4b.out (show (⟨#[]⟩ : ByteArray).size ≤ 50 by decide)).mono ?_; rintro e_ w12 ⟨rfl, oo_, kk_⟩; obtain ⟨o_, k_⟩ := bb_ _ [ModO gm cf L cls] [] rfl kk_ oo_; refine ⟨_, rfl, ?_⟩; obtain ⟨O12, K12⟩ := ok_ K11 o_ k_; have HT_12 := Aside0.mk (TabN.keep HT_11.out k_); clear a0 a3 O11 K11 HT_11 o_ k_ oo_ kk_ on_ nn_ rr_ bb_; have a0 := k6_ O12 0; have a3 := k6_ O12 3) | ((with_reducible refine gD 12 rfl ?_); refine bP 12 #[.int .i64 0, .int .i64 0, .int .i64 0, .string ⟨#[]⟩, .bool false, .int .i64 0] 79 O12.out ?_; intro g12 w13 o_ k_; obtain ⟨O13, K13⟩ := ok_ K12 o_ k_; have HT_13 := Aside0.mk (TabN.keep HT_12.out k_); clear a0 a3 O12 K12 HT_12 o_ k_; have a0 := k6_ O13 0; have a3 := k6_ O13 3; have a4 := k6_ O13 4) | ((with_reducible refine gT 79 12 rfl ?_); refine wS 4 0 [.int .i64 0, .int .i64 0, .int .i64 0, .string ⟨#[]⟩, .bool true, .int .i64 0] O13 ?_; intro w14 o_ k_; obtain ⟨O14, K14⟩ := ok_ K13 o_ k_; have HT_14 := Aside0.mk (TabN.keep HT_13.out k_); clear a0 a3 a4 O13 K13 HT_13 o_ k_; have a0 := k6_ O14 0; have a3 := k6_ O14 3; have a4 := k6_ O14 4) | ((with_reducible refine gC 42 rfl ?_); refine gP (some 107) Tryd.func42 #[pt gm, .agg #[.int .i64 2, .int .i64 (wrap64 (x + 1)), .string ⟨#[]⟩, .int .i64 0, .int .i64 0, .string ⟨#[]⟩, .string key, .int .i64 0, .int .i64 0, .int .u32 0]] ?_; rw [HW2.out]; obtain ⟨N_, on_, nn_, rr_, bb_⟩ := O14.out.frameL [1] (by decide) (by simp); refine (MDo_l (actL 2 q key) 0 V.1 V.2.1 V.2.2 false m cls HD2.out on_ (TabN.mono HT_14.out nn_) HI.out HCF.out HX4b.out HK50.out).mono ?_; rintro e_ w15 ⟨rfl, oo_, kk_⟩; obtain ⟨o_, k_⟩ := bb_ _ [ModO gm cf L cls] [] rfl kk_ oo_; refine ⟨_, rfl, ?_⟩; obtain ⟨O15, K15⟩ := ok_ K14 o_ k_; have HT_15 := Aside0.mk (TabN.keep HT_14.out k_); clear a0 a3 a4 O14 K14 HT_14 o_ k_ oo_ kk_ on_ nn_ rr_ bb_; have a0 := k6_ O15 0; have a3 := k6_ O15 3; have a4 := k6_ O15 4) | ((with_reducible refine gC 42 rfl ?_); refine gP (some 107) Tryd.func42 #[pt gm, .agg #[.int .i64 2, .int .i64 q, .string ⟨#[]⟩, .int .i64 0, .int .i64 0, .string ⟨#[]⟩, .string key, .int .i64 0, .int .i64 0, .int .u32 0]] ?_; obtain ⟨N_, on_, nn_, rr_, bb_⟩ := O14.out.frameL [1] (by decide) (by simp); refine (MDo_l (actL 2 q key) 0 V.1 V.2.1 V.2.2 false m cls HD2.out on_ (TabN.mono HT_14.out nn_) HI.out HCF.out HX4b.out HK50.out).mono ?_; rintro e_ w15 ⟨rfl, oo_, kk_⟩; obtain ⟨o_, k_⟩ := bb_ _ [ModO gm cf L cls] [] rfl kk_ oo_; refine ⟨_, rfl, ?_⟩; obtain ⟨O15, K15⟩ := ok_ K14 o_ k_; have HT_15 := Aside0.mk (TabN.keep HT_14.out k_); clear a0 a3 a4 O14 K14 HT_14 o_ k_ oo_ kk_ on_ nn_ rr_ bb_; have a0 := k6_ O15 0; have a3 := k6_ O15 3; have a4 := k6_ O15 4) | ((with_reducible refine gD 13 rfl ?_); refine bP 13 #[.int .i64 0, .int .i64 0, .int .i64 0, .string ⟨#[]⟩, .bool false, .int .i64 0] 79 O15.out ?_; intro g13 w16 o_ k_; obtain ⟨O16, K16⟩ := ok_ K15 o_ k_; have HT_16 := Aside0.mk (TabN.keep HT_15.out k_); clear a0 a3 a4 O15 K15 HT_15 o_ k_; have a0 := k6_ O16 0; have a3 := k6_ O16 3; have a4 := k6_ O16 4; have a5 := k6_ O16 5) | ((with_reducible refine gT 79 13 rfl ?_); refine wS 5 0 [.int .i64 0, .int .i64 V.1, .int .i64 V.2.1, .string V.2.2, .bool false, .int .i64 m] O16 ?_; intro w17 o_ k_; obtain ⟨O17, K17⟩ := ok_ K16 o_ k_; have HT_17 := Aside0.mk (TabN.keep HT_16.out k_); clear a0 a3 a4 a5 O16 K16 HT_16 o_ k_; have a0 := k6_ O17 0; have a3 := k6_ O17 3; have a4 := k6_ O17 4; have a5 := k6_ O17 5))
           refine sP (n := 17) (S := d6_ g12 (.int .i64 0) (.int .i64 0) (.int .i64 0) (.string ⟨#[]⟩) (.bool true) (.int .i64 0) (c6_ g13 (.int .i64 0) (.int .i64 V.1) (.int .i64 V.2.1) (.string V.2.2) (.bool false) (.int .i64 m))) (ds := []) (j6_ a4 (p6_ a5)) (fun hHeld => ?_)
           obtain ⟨w18, hw_⟩ : ∃ W, W = w17.drew := ⟨_, rfl⟩
           have o_ := O17.out.drew
           have k_ : KeepS N w17 w17.drew := KeepS.drew
           rw [← hw_] at o_ k_ hHeld ⊢
           clear hw_
           obtain ⟨O18, K18⟩ := ok_ K17 o_ k_
           have HT_18 := Aside0.mk (TabN.keep HT_17.out k_)
           clear a0 a3 a4 a5 O17 K17 HT_17 o_ k_
           have a0 := k6_ O18 0
           have a3 := k6_ O18 3
           have a4 := k6_ O18 4
           have a5 := k6_ O18 5
           refine pP 0 (some 108) ?_
           refine tP 1 (some 109) hHeld ?_
           refine pP 2 (some 110) ?_
           refine pP 3 (some 111) ?_
           refine pP 5 (some 113) ?_
           refine pP 6 (some 114) ?_
           refine tP 4 (some 112) hHeld ?_
           refine oP 7 (some 115) (fun K_ hK_ => ?_)
           refine hP Tryd.func29 #[.string key, .slice none 0 0, .slice B1 L.length d1_] ?_
           refine (chapbookref08_Read.calls (L.length + (flatR L).length + ([] : List Upd7).length + 8) key none 0 [] B1 d1_ L V.1 V.2.1 V.2.2 _ (Kd.C_nil _ _) (Nat.le_refl _) (O18.out.nreads (i := 2) rfl).2.2 HD1.out (by rw [read_ok _ key [] L HBB.out (by have := HFW.out.2; omega) (Nat.le_refl _), HV.out])).mono ?_
           rintro e_ w19 ⟨rfl, hb_⟩
           refine ⟨_, rfl, ?_⟩
           have o_ := O18.out.below hb_
           have k_ := KeepS.of_below (N := N) hb_
           obtain ⟨O19, K19⟩ := ok_ K18 o_ k_
           have HT_19 := Aside0.mk (TabN.keep HT_18.out k_)
           clear a0 a3 a4 a5 O18 K18 HT_18 o_ k_ hb_
           have a0 := k6_ O19 0
           have a3 := k6_ O19 3
           have a4 := k6_ O19 4
           have a5 := k6_ O19 5
           clear hHeld
           refine hK_.out _ _ (j6_ a4 (p6_ a5)) (fun hHeld => ?_)
           clear hK_ K_
           refine nP ?_
           refine pP 8 (some 116) ?_
           refine pP 9 (some 117) ?_
           refine pP 10 (some 118) ?_
           refine pP 12 (some 120) ?_
           refine tP 11 (some 119) hHeld ?_
           refine oP 13 (some 121) (fun K_ hK_ => ?_)
           refine hP Tryd.func51 #[.slice none 0 0, .slice B1 L.length d1_] ?_
           refine (D8Len_e m HMM.out none 0 B1 d1_ (Kd.C_nil _ _) (Nat.le_refl _) (O19.out.nreads (i := 2) rfl).2.2 HD1.out HBB.out (by have := HFW.out.2; omega)).mono ?_
           rintro e_ w20 ⟨rfl, hb_⟩
           refine ⟨_, rfl, ?_⟩
           have o_ := O19.out.below hb_
           have k_ := KeepS.of_below (N := N) hb_
           obtain ⟨O20, K20⟩ := ok_ K19 o_ k_
           have HT_20 := Aside0.mk (TabN.keep HT_19.out k_)
           clear a0 a3 a4 a5 O19 K19 HT_19 o_ k_ hb_
           have a0 := k6_ O20 0
           have a3 := k6_ O20 3
           have a4 := k6_ O20 4
           have a5 := k6_ O20 5
           clear hHeld
           refine hK_.out _ _ (j6_ a4 (p6_ a5)) (fun hHeld => ?_)
           clear hK_ K_
           refine nP ?_
           refine pP 14 (some 122) ?_
           refine pP 15 (some 123) ?_
           refine pP 16 (some 124) ?_
           refine done_ (by kernel_rfl) ?_
           clear hHeld
           go_wp2
           go_roundw
           case rel => exact ⟨x + 1, cls, by have := HX.out; omega, by have := HX.out; omega, int_eq17 (by unfold wrap64; have := HX.out; omega), HI, HCM, ⟨O20.out.take 3⟩, K20⟩
           case measure => have := HX.out; have := HQ.out; simp [intOf]; omega
          ·skip
           obtain rfl : false = b := by rw [← hb]; simp [hu]
           have du : ((y.U.length : Int) == 0) = false := beq_eq_false_iff_ne.mpr (by omega)
           clear hu hb
           have O8 : Aside0 (Own N wr [cells gc #[.int .i64 cf.cl, .int .i64 cf.win, .int .i64 cf.push, .int .i64 cf.pull, .int .i64 cf.mtu, .int .i64 cf.last] 68, ModO gm cf L cls, nrow kR7 tR7 (.slice B1 L.length d1_) L]) := ⟨OA.out⟩
           have K8 : Aside0 (KeepS N w wr) := ⟨KA.out⟩
           have HT_8 : Aside0 (TabN N wr) := ⟨HT00.out.keep KA.out⟩
           have a0 := k6_ O8 0
           clear OA KA
           go_wp2_with (first | ((with_reducible refine gC 40 rfl ?_); refine gP (some 75) Tryd.func40 #[pt gm, .int .i64 (wrap64 (x + 1))] ?_; rw [HW2.out]; obtain ⟨N_, on_, nn_, rr_, bb_⟩ := O8.out.frameL [1] (by decide) (by simp); refine (MLook_v (.agg #[.int .i64 y.e, .int .i64 L.length, .int .i64 0, .int .i64 y.U.length, .int .i64 0, .int .i64 0]) q HLV.out on_ HI.out HCF.out HX4b.out HY.out).mono ?_; rintro e_ w9 ⟨rfl, oo_, kk_⟩; obtain ⟨o_, k_⟩ := bb_ _ [ModO gm cf L cls] [] rfl kk_ oo_; refine ⟨_, rfl, ?_⟩; obtain ⟨O9, K9⟩ := ok_ K8 o_ k_; have HT_9 := Aside0.mk (TabN.keep HT_8.out k_); clear a0 O8 K8 HT_8 o_ k_ oo_ kk_ on_ nn_ rr_ bb_; have a0 := k6_ O9 0) | ((with_reducible refine gD 11 rfl ?_); refine bP 11 #[.int .i64 0, .int .i64 0, .int .i64 0, .int .i64 0, .int .i64 0, .int .i64 0] 75 O9.out ?_; intro g11 w10 o_ k_; obtain ⟨O10, K10⟩ := ok_ K9 o_ k_; have HT_10 := Aside0.mk (TabN.keep HT_9.out k_); clear a0 O9 K9 HT_9 o_ k_; have a0 := k6_ O10 0; have a3 := k6_ O10 3) | ((with_reducible refine gT 75 11 rfl ?_); refine wS 3 0 [.int .i64 y.e, .int .i64 L.length, .int .i64 0, .int .i64 y.U.length, .int .i64 0, .int .i64 0] O10 ?_; intro w11 o_ k_; obtain ⟨O11, K11⟩ := ok_ K10 o_ k_; have HT_11 := Aside0.mk (TabN.keep HT_10.out k_); clear a0 a3 O10 K10 HT_10 o_ k_; have a0 := k6_ O11 0; have a3 := k6_ O11 3) | ((with_reducible refine gC 42 rfl ?_); refine gP (some 95) Tryd.func42 #[pt gm, .agg #[.int .i64 5, .int .i64 (wrap64 (x + 1)), .string ⟨#[]⟩, .int .i64 0, .int .i64 0, .string ⟨#[]⟩, .string ⟨#[]⟩, .int .i64 0, .int .i64 0, .int .u32 0]] ?_; rw [HW2.out]; obtain ⟨N_, on_, nn_, rr_, bb_⟩ := O11.out.frameL [1] (by decide) (by simp); refine (MDo_l (actL 5 q ⟨#[]⟩) 0 0 0 none' false 0 cls HD5.out on_ (TabN.mono HT_11.out nn_) HI.out HCF.out HX4b.out (show (⟨#[]⟩ : ByteArray).size ≤ 50 by decide)).mono ?_; rintro e_ w12 ⟨rfl, oo_, kk_⟩; obtain ⟨o_, k_⟩ := bb_ _ [ModO gm cf L cls] [] rfl kk_ oo_; refine ⟨_, rfl, ?_⟩; obtain ⟨O12, K12⟩ := ok_ K11 o_ k_; have HT_12 := Aside0.mk (TabN.keep HT_11.out k_); clear a0 a3 O11 K11 HT_11 o_ k_ oo_ kk_ on_ nn_ rr_ bb_; have a0 := k6_ O12 0; have a3 := k6_ O12 3) | ((with_reducible refine gC 42 rfl ?_); refine gP (some 95) Tryd.func42 #[pt gm, .agg #[.int .i64 5, .int .i64 q, .string ⟨#[]⟩, .int .i64 0, .int .i64 0, .string ⟨#[]⟩, .string ⟨#[]⟩, .int .i64 0, .int .i64 0, .int .u32 0]] ?_; obtain ⟨N_, on_, nn_, rr_, bb_⟩ := O11.out.frameL [1] (by decide) (by simp); refine (MDo_l (actL 5 q ⟨#[]⟩) 0 0 0 none' false 0 cls HD5.out on_ (TabN.mono HT_11.out nn_) HI.out HCF.out HX4b.out (show (⟨#[]⟩ : ByteArray).size ≤ 50 by decide)).mono ?_; rintro e_ w12 ⟨rfl, oo_, kk_⟩; obtain ⟨o_, k_⟩ := bb_ _ [ModO gm cf L cls] [] rfl kk_ oo_; refine ⟨_, rfl, ?_⟩; obtain ⟨O12, K12⟩ := ok_ K11 o_ k_; have HT_12 := Aside0.mk (TabN.keep HT_11.out k_); clear a0 a3 O11 K11 HT_11 o_ k_ oo_ kk_ on_ nn_ rr_ bb_; have a0 := k6_ O12 0; have a3 := k6_ O12 3) | ((with_reducible refine gD 12 rfl ?_); refine bP 12 #[.int .i64 0, .int .i64 0, .int .i64 0, .string ⟨#[]⟩, .bool false, .int .i64 0] 79 O12.out ?_; intro g12 w13 o_ k_; obtain ⟨O13, K13⟩ := ok_ K12 o_ k_; have HT_13 := Aside0.mk (TabN.keep HT_12.out k_); clear a0 a3 O12 K12 HT_12 o_ k_; have a0 := k6_ O13 0; have a3 := k6_ O13 3; have a4 := k6_ O13 4) | ((with_reducible refine gT 79 12 rfl ?_); refine wS 4 0 [.int .i64 0, .int .i64 0, .int .i64 0, .string ⟨#[]⟩, .bool false, .int .i64 0] O13 ?_; intro w14 o_ k_; obtain ⟨O14, K14⟩ := ok_ K13 o_ k_; have HT_14 := Aside0.mk (TabN.keep HT_13.out k_); clear a0 a3 a4 O13 K13 HT_13 o_ k_; have a0 := k6_ O14 0; have a3 := k6_ O14 3; have a4 := k6_ O14 4) | ((with_reducible refine gC 42 rfl ?_); refine gP (some 107) Tryd.func42 #[pt gm, .agg #[.int .i64 2, .int .i64 (wrap64 (x + 1)), .string ⟨#[]⟩, .int .i64 0, .int .i64 0, .string ⟨#[]⟩, .string key, .int .i64 0, .int .i64 0, .int .u32 0]] ?_; rw [HW2.out]; obtain ⟨N_, on_, nn_, rr_, bb_⟩ := O14.out.frameL [1] (by decide) (by simp); refine (MDo_l (actL 2 q key) 0 V.1 V.2.1 V.2.2 false m cls HD2.out on_ (TabN.mono HT_14.out nn_) HI.out HCF.out HX4b.out HK50.out).mono ?_; rintro e_ w15 ⟨rfl, oo_, kk_⟩; obtain ⟨o_, k_⟩ := bb_ _ [ModO gm cf L cls] [] rfl kk_ oo_; refine ⟨_, rfl, ?_⟩; obtain ⟨O15, K15⟩ := ok_ K14 o_ k_; have HT_15 := Aside0.mk (TabN.keep HT_14.out k_); clear a0 a3 a4 O14 K14 HT_14 o_ k_ oo_ kk_ on_ nn_ rr_ bb_; have a0 := k6_ O15 0; have a3 := k6_ O15 3; have a4 := k6_ O15 4) | ((with_reducible refine gC 42 rfl ?_); refine gP (some 107) Tryd.func42 #[pt gm, .agg #[.int .i64 2, .int .i64 q, .string ⟨#[]⟩, .int .i64 0, .int .i64 0, .string ⟨#[]⟩, .string key, .int .i64 0, .int .i64 0, .int .u32 0]] ?_; obtain ⟨N_, on_, nn_, rr_, bb_⟩ := O14.out.frameL [1] (by decide) (by simp); refine (MDo_l (actL 2 q key) 0 V.1 V.2.1 V.2.2 false m cls HD2.out on_ (TabN.mono HT_14.out nn_) HI.out HCF.out HX4b.out HK50.out).mono ?_; rintro e_ w15 ⟨rfl, oo_, kk_⟩; obtain ⟨o_, k_⟩ := bb_ _ [ModO gm cf L cls] [] rfl kk_ oo_; refine ⟨_, rfl, ?_⟩; obtain ⟨O15, K15⟩ := ok_ K14 o_ k_; have HT_15 := Aside0.mk (TabN.keep HT_14.out k_); clear a0 a3 a4 O14 K14 HT_14 o_ k_ oo_ kk_ on_ nn_ rr_ bb_; have a0 := k6_ O15 0; have a3 := k6_ O15 3; have a4 := k6_ O15 4) | ((with_reducible refine gD 13 rfl ?_); refine bP 13 #[.int .i64 0, .int .i64 0, .int .i64 0, .string ⟨#[]⟩, .bool false, .int .i64 0] 79 O15.out ?_; intro g13 w16 o_ k_; obtain ⟨O16, K16⟩ := ok_ K15 o_ k_; have HT_16 := Aside0.mk (TabN.keep HT_15.out k_); clear a0 a3 a4 O15 K15 HT_15 o_ k_; have a0 := k6_ O16 0; have a3 := k6_ O16 3; have a4 := k6_ O16 4; have a5 := k6_ O16 5) | ((with_reducible refine gT 79 13 rfl ?_); refine wS 5 0 [.int .i64 0, .int .i64 V.1, .int .i64 V.2.1, .string V.2.2, .bool false, .int .i64 m] O16 ?_; intro w17 o_ k_; obtain ⟨O17, K17⟩ := ok_ K16 o_ k_; have HT_17 := Aside0.mk (TabN.keep HT_16.out k_); clear a0 a3 a4 a5 O16 K16 HT_16 o_ k_; have a0 := k6_ O17 0; have a3 := k6_ O17 3; have a4 := k6_ O17 4; have a5 := k6_ O17 5))
           refine sP (n := 17) (S := d6_ g12 (.int .i64 0) (.int .i64 0) (.int .i64 0) (.string ⟨#[]⟩) (.bool false) (.int .i64 0) (c6_ g13 (.int .i64 0) (.int .i64 V.1) (.int .i64 V.2.1) (.string V.2.2) (.bool false) (.int .i64 m))) (ds := []) (j6_ a4 (p6_ a5)) (fun hHeld => ?_)
           obtain ⟨w18, hw_⟩ : ∃ W, W = w17.drew := ⟨_, rfl⟩
           have o_ := O17.out.drew
           have k_ : KeepS N w17 w17.drew := KeepS.drew
           rw [← hw_] at o_ k_ hHeld ⊢
           clear hw_
           obtain ⟨O18, K18⟩ := ok_ K17 o_ k_
           have HT_18 := Aside0.mk (TabN.keep HT_17.out k_)
           clear a0 a3 a4 a5 O17 K17 HT_17 o_ k_
           have a0 := k6_ O18 0
           have a3 := k6_ O18 3
           have a4 := k6_ O18 4
           have a5 := k6_ O18 5
           refine pP 0 (some 108) ?_
           refine tP 1 (some 109) hHeld ?_
           refine pP 2 (some 110) ?_
           refine pS 3 (some 111) ?_
           refine pS 5 (some 113) ?_
           refine pS 6 (some 114) ?_
           refine tS 4 (some 112) hHeld ?_
           refine oP 7 (some 115) (fun K_ hK_ => ?_)
           refine skipR (by rfl) ?_
           clear hHeld
           refine hK_.out _ _ (j6_ a4 (p6_ a5)) (fun hHeld => ?_)
           clear hK_ K_
           refine nP ?_
           refine pS 8 (some 116) ?_
           refine pS 9 (some 117) ?_
           refine pS 10 (some 118) ?_
           refine pS 12 (some 120) ?_
           refine tS 11 (some 119) hHeld ?_
           refine oP 13 (some 121) (fun K_ hK_ => ?_)
           refine skipR (by rfl) ?_
           clear hHeld
           refine hK_.out _ _ (j6_ a4 (p6_ a5)) (fun hHeld => ?_)
           clear hK_ K_
           refine nP ?_
           refine pS 14 (some 122) ?_
           refine pS 15 (some 123) ?_
           refine pP 16 (some 124) ?_
           refine done_ (by kernel_rfl) ?_
           clear hHeld
           go_wp2
           go_roundw
           case rel => exact ⟨x + 1, cls, by have := HX.out; omega, by have := HX.out; omega, int_eq17 (by unfold wrap64; have := HX.out; omega), HI, HCM, ⟨O18.out.take 3⟩, K18⟩
           case measure => have := HX.out; have := HQ.out; simp [intOf]; omega
       ·have hd : decide (x < cf.cl) = false := decide_eq_false hlt
        clear hlt hx0 hx1
        go_wp2
        go_ret
        exact ⟨rfl, KA.out.below (Nat.le_refl _) (fun k hk => by rw [HN.out]; exact hk)⟩
theorem chapbooklaw21_ModelReads.calls (a0_0 : Int) (a0_1 : Int) (a0_2 : Int) (a0_3 : Int) (a0_4 : Int) (a0_5 : Int) (A1 : Option Addr) (c1 : Nat) (l1 : List S88) (a2 : ByteArray) (r : Bool) (w : World) (HT : Aside0 (Tab w)) (hr1 : Kd.C k88 w A1 l1.length l1) (hc1 : l1.length ≤ c1) (h : chapbooklaw21_ModelReads.f a0_0 a0_1 a0_2 a0_3 a0_4 a0_5 l1 a2 = some r) :
  Calls Tryd.prog 14 #[.agg #[.int .i64 a0_0, .int .i64 a0_1, .int .i64 a0_2, .int .i64 a0_3, .int .i64 a0_4, .int .i64 a0_5], .slice A1 l1.length c1, .string a2] w fun e_ w' => e_ = .returned (.bool r) ∧ Below w.heap.size w w' := by
 obtain rfl : true = r := Option.some.inj h
 exact ModelReads_core ⟨a0_0, a0_1, a0_2, a0_3, a0_4, a0_5⟩ A1 c1 l1 a2 w HT hr1 hc1
end Go.Proofs.YtjdenpmaianmfaaDoor.J
