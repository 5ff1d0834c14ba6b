/- What package replay tells: State, Read, Len. -/
import Derived.Test.YtjdenpmaianmfaaDoorY6Sz
import Derived.Test.YtjdenpmaianmfaaDoorY6VA0
import Derived.Test.YtjdenpmaianmfaaDoorY6Q4
import Derived.Maps.RangeWalk
import Derived.Maps.OwnSet
import Derived.Maps.Views
import Derived.Test.YtjdenpmaianmfaaDoorY6UA
import Derived.Test.YtjdenpmaianmfaaDoorY6J0
namespace Go.Proofs.YtjdenpmaianmfaaDoor.Q
set_option maxHeartbeats 16000000
set_option maxRecDepth 100000
set_option linter.unusedSimpArgs false
set_option linter.unusedVariables false
open Go RowKit YtjdenpmaianmfaaDoorW.PrintWords YtjdenpmaianmfaaDoorW.PrintLast YtjdenpmaianmfaaDoorW.PrintMore YtjdenpmaianmfaaDoor.Sep J
theorem told_vap {f : Nat} {args : Array Value} {w : World} {t : Val} {r1 r2 : Int} {r3 : ByteArray} (e : t = (r1, r2, r3)) (H : Calls Tryd.prog f args w fun e w' => e = .returned (.agg #[.int .i64 t.1, .int .i64 t.2.1, .string t.2.2]) ∧ Below w.heap.size w w') : Calls Tryd.prog f args w fun e w' => e = .returned (.agg #[r1, r2, r3]) ∧ Below w.heap.size w w' := by
 subst e
 exact H
theorem vap_01 (key : ByteArray) (n : Int) (s : ByteArray) (hs : s.size ≤ 4096) (w : World) :
  Calls Tryd.prog 110 #[.agg #[.int .i64 0, .int .i64 0, .string ⟨#[]⟩], .agg #[key, .int .i64 1, n, s]] w fun e w' => e = .returned (.agg #[.int .i64 1, n, .string ⟨#[]⟩]) ∧ Below w.heap.size w w' := by
 skip
 clear hs
 obtain ⟨N, HN, O0, K0⟩ := st_ w
 go_enter Tryd.func110, Tryd.ntmps110
 go_wp2_with (first | ((with_reducible refine gD 2 rfl ?_); refine bP 2 #[.int .i64 0, .int .i64 0, .string ⟨#[]⟩] 49 O0.out ?_; intro ga w1 o_ k_; obtain ⟨O1, K1⟩ := ok_ K0 o_ k_; clear O0 K0 o_ k_; have a0 := k3_ O1 0) | ((with_reducible refine gD 3 rfl ?_); refine bP 3 #[key, .int .i64 1, n, s] 32 O1.out ?_; intro gb w2 o_ k_; obtain ⟨O2, K2⟩ := ok_ K1 o_ k_; clear a0 O1 K1 o_ k_; have a0 := k3_ O2 0; have a1 := k4_ O2 1) | ((with_reducible refine gD 4 rfl ?_); refine bP 4 #[.int .i64 0, .int .i64 0, .string ⟨#[]⟩] 49 O2.out ?_; intro gc w3 o_ k_; obtain ⟨O3, K3⟩ := ok_ K2 o_ k_; clear a0 a1 O2 K2 o_ k_; have a0 := k3_ O3 0; have a1 := k4_ O3 1; have a2 := k3_ O3 2) | ((with_reducible refine gC 118 rfl ?_); refine gP (some 6) Tryd.func118 #[.agg #[.int .i64 0, .int .i64 0, .string ⟨#[]⟩]] ?_; refine (value_clean.calls 0 0 ⟨#[]⟩ 0 0 ⟨#[]⟩ _ (by first | rfl | (simp [value_clean.f, value_number.f, value_text.f]))).mono ?_; rintro e_ w4 ⟨rfl, hb_⟩; refine ⟨_, rfl, ?_⟩; obtain ⟨O4, K4⟩ := ob_ K3 O3 hb_; clear a0 a1 a2 O3 K3 hb_; have a0 := k3_ O4 0; have a1 := k4_ O4 1; have a2 := k3_ O4 2) | ((with_reducible refine gT 49 2 rfl ?_); refine wS 0 0 [.int .i64 0, .int .i64 0, .string ⟨#[]⟩] O4 ?_; intro w5 o_ k_; obtain ⟨O5, K5⟩ := ok_ K4 o_ k_; clear a0 a1 a2 O4 K4 o_ k_; have a0 := k3_ O5 0; have a1 := k4_ O5 1; have a2 := k3_ O5 2) | ((with_reducible refine gC 119 rfl ?_); refine gP (some 13) Tryd.func119 #[n] ?_; refine (value_number.calls n 1 n ⟨#[]⟩ _ (by rfl)).mono ?_; rintro e_ w6 ⟨rfl, hb_⟩; refine ⟨_, rfl, ?_⟩; obtain ⟨O6, K6⟩ := ob_ K5 O5 hb_; clear a0 a1 a2 O5 K5 hb_; have a0 := k3_ O6 0; have a1 := k4_ O6 1; have a2 := k3_ O6 2) | ((with_reducible refine gT 49 4 rfl ?_); refine wS 2 0 [.int .i64 1, n, .string ⟨#[]⟩] O6 ?_; intro w7 o_ k_; obtain ⟨O7, K7⟩ := ok_ K6 o_ k_; clear a0 a1 a2 O6 K6 o_ k_; have a0 := k3_ O7 0; have a1 := k4_ O7 1; have a2 := k3_ O7 2))
 refine bodyPost_ret (results_cell_row rfl _ _ gc 49 #[.int .i64 1, n, .string ⟨#[]⟩] (0, 0) _ rfl (O7.out.blk (i := 2) rfl) Tryd.underlying49 rfl (by kernel_rfl)) rfl ?_
 exact ⟨rfl, kw_ K7 HN⟩
theorem vap_02 (key : ByteArray) (n : Int) (s : ByteArray) (hs : s.size ≤ 4096) (w : World) :
  Calls Tryd.prog 110 #[.agg #[.int .i64 0, .int .i64 0, .string ⟨#[]⟩], .agg #[key, .int .i64 2, n, s]] w fun e w' => e = .returned (.agg #[.int .i64 2, .int .i64 0, s]) ∧ Below w.heap.size w w' := by
 skip
 clear hs
 obtain ⟨N, HN, O0, K0⟩ := st_ w
 go_enter Tryd.func110, Tryd.ntmps110
 go_wp2_with (first | ((with_reducible refine gD 2 rfl ?_); refine bP 2 #[.int .i64 0, .int .i64 0, .string ⟨#[]⟩] 49 O0.out ?_; intro ga w1 o_ k_; obtain ⟨O1, K1⟩ := ok_ K0 o_ k_; clear O0 K0 o_ k_; have a0 := k3_ O1 0) | ((with_reducible refine gD 3 rfl ?_); refine bP 3 #[key, .int .i64 2, n, s] 32 O1.out ?_; intro gb w2 o_ k_; obtain ⟨O2, K2⟩ := ok_ K1 o_ k_; clear a0 O1 K1 o_ k_; have a0 := k3_ O2 0; have a1 := k4_ O2 1) | ((with_reducible refine gD 4 rfl ?_); refine bP 4 #[.int .i64 0, .int .i64 0, .string ⟨#[]⟩] 49 O2.out ?_; intro gc w3 o_ k_; obtain ⟨O3, K3⟩ := ok_ K2 o_ k_; clear a0 a1 O2 K2 o_ k_; have a0 := k3_ O3 0; have a1 := k4_ O3 1; have a2 := k3_ O3 2) | ((with_reducible refine gC 118 rfl ?_); refine gP (some 6) Tryd.func118 #[.agg #[.int .i64 0, .int .i64 0, .string ⟨#[]⟩]] ?_; refine (value_clean.calls 0 0 ⟨#[]⟩ 0 0 ⟨#[]⟩ _ (by first | rfl | (simp [value_clean.f, value_number.f, value_text.f]))).mono ?_; rintro e_ w4 ⟨rfl, hb_⟩; refine ⟨_, rfl, ?_⟩; obtain ⟨O4, K4⟩ := ob_ K3 O3 hb_; clear a0 a1 a2 O3 K3 hb_; have a0 := k3_ O4 0; have a1 := k4_ O4 1; have a2 := k3_ O4 2) | ((with_reducible refine gT 49 2 rfl ?_); refine wS 0 0 [.int .i64 0, .int .i64 0, .string ⟨#[]⟩] O4 ?_; intro w5 o_ k_; obtain ⟨O5, K5⟩ := ok_ K4 o_ k_; clear a0 a1 a2 O4 K4 o_ k_; have a0 := k3_ O5 0; have a1 := k4_ O5 1; have a2 := k3_ O5 2) | ((with_reducible refine gC 120 rfl ?_); refine gP (some 18) Tryd.func120 #[s] ?_; refine (value_text.calls s 2 0 s _ (by rfl)).mono ?_; rintro e_ w6 ⟨rfl, hb_⟩; refine ⟨_, rfl, ?_⟩; obtain ⟨O6, K6⟩ := ob_ K5 O5 hb_; clear a0 a1 a2 O5 K5 hb_; have a0 := k3_ O6 0; have a1 := k4_ O6 1; have a2 := k3_ O6 2) | ((with_reducible refine gT 49 4 rfl ?_); refine wS 2 0 [.int .i64 2, .int .i64 0, s] O6 ?_; intro w7 o_ k_; obtain ⟨O7, K7⟩ := ok_ K6 o_ k_; clear a0 a1 a2 O6 K6 o_ k_; have a0 := k3_ O7 0; have a1 := k4_ O7 1; have a2 := k3_ O7 2))
 refine bodyPost_ret (results_cell_row rfl _ _ gc 49 #[.int .i64 2, .int .i64 0, s] (0, 0) _ rfl (O7.out.blk (i := 2) rfl) Tryd.underlying49 rfl (by kernel_rfl)) rfl ?_
 exact ⟨rfl, kw_ K7 HN⟩
theorem vap_03 (key : ByteArray) (n : Int) (s : ByteArray) (hs : s.size ≤ 4096) (hn : -9223372036854775808 ≤ n ∧ n ≤ 9223372036854775807) (w : World) :
  Calls Tryd.prog 110 #[.agg #[.int .i64 0, .int .i64 0, .string ⟨#[]⟩], .agg #[key, .int .i64 3, n, s]] w fun e w' => e = .returned (.agg #[.int .i64 1, n, .string ⟨#[]⟩]) ∧ Below w.heap.size w w' := by
 skip
 have hw1 : wrap64 n = n := w64_ hn
 have hw2 : IntKind.i64.wrap n = n := by rw [IntKind.wrap_i64]; omega
 clear hn hs
 obtain ⟨N, HN, O0, K0⟩ := st_ w
 go_enter Tryd.func110, Tryd.ntmps110
 go_wp2_with (first | ((with_reducible refine gD 2 rfl ?_); refine bP 2 #[.int .i64 0, .int .i64 0, .string ⟨#[]⟩] 49 O0.out ?_; intro ga w1 o_ k_; obtain ⟨O1, K1⟩ := ok_ K0 o_ k_; clear O0 K0 o_ k_; have a0 := k3_ O1 0) | ((with_reducible refine gD 3 rfl ?_); refine bP 3 #[key, .int .i64 3, n, s] 32 O1.out ?_; intro gb w2 o_ k_; obtain ⟨O2, K2⟩ := ok_ K1 o_ k_; clear a0 O1 K1 o_ k_; have a0 := k3_ O2 0; have a1 := k4_ O2 1) | ((with_reducible refine gD 4 rfl ?_); refine bP 4 #[.int .i64 0, .int .i64 0, .string ⟨#[]⟩] 49 O2.out ?_; intro gc w3 o_ k_; obtain ⟨O3, K3⟩ := ok_ K2 o_ k_; clear a0 a1 O2 K2 o_ k_; have a0 := k3_ O3 0; have a1 := k4_ O3 1; have a2 := k3_ O3 2) | ((with_reducible refine gC 118 rfl ?_); refine gP (some 6) Tryd.func118 #[.agg #[.int .i64 0, .int .i64 0, .string ⟨#[]⟩]] ?_; refine (value_clean.calls 0 0 ⟨#[]⟩ 0 0 ⟨#[]⟩ _ (by first | rfl | (simp [value_clean.f, value_number.f, value_text.f]))).mono ?_; rintro e_ w4 ⟨rfl, hb_⟩; refine ⟨_, rfl, ?_⟩; obtain ⟨O4, K4⟩ := ob_ K3 O3 hb_; clear a0 a1 a2 O3 K3 hb_; have a0 := k3_ O4 0; have a1 := k4_ O4 1; have a2 := k3_ O4 2) | ((with_reducible refine gT 49 2 rfl ?_); refine wS 0 0 [.int .i64 0, .int .i64 0, .string ⟨#[]⟩] O4 ?_; intro w5 o_ k_; obtain ⟨O5, K5⟩ := ok_ K4 o_ k_; clear a0 a1 a2 O4 K4 o_ k_; have a0 := k3_ O5 0; have a1 := k4_ O5 1; have a2 := k3_ O5 2) | ((with_reducible refine gC 119 rfl ?_); refine gP (some 32) Tryd.func119 #[n] ?_; refine (value_number.calls n 1 n ⟨#[]⟩ _ (by rfl)).mono ?_; rintro e_ w6 ⟨rfl, hb_⟩; refine ⟨_, rfl, ?_⟩; obtain ⟨O6, K6⟩ := ob_ K5 O5 hb_; clear a0 a1 a2 O5 K5 hb_; have a0 := k3_ O6 0; have a1 := k4_ O6 1; have a2 := k3_ O6 2) | ((with_reducible refine gT 49 4 rfl ?_); refine wS 2 0 [.int .i64 1, n, .string ⟨#[]⟩] O6 ?_; intro w7 o_ k_; obtain ⟨O7, K7⟩ := ok_ K6 o_ k_; clear a0 a1 a2 O6 K6 o_ k_; have a0 := k3_ O7 0; have a1 := k4_ O7 1; have a2 := k3_ O7 2))
 refine bodyPost_ret (results_cell_row rfl _ _ gc 49 #[.int .i64 1, n, .string ⟨#[]⟩] (0, 0) _ rfl (O7.out.blk (i := 2) rfl) Tryd.underlying49 rfl (by kernel_rfl)) rfl ?_
 exact ⟨rfl, kw_ K7 HN⟩
theorem vap_04 (key : ByteArray) (n : Int) (s : ByteArray) (hs : s.size ≤ 4096) (w : World) :
  Calls Tryd.prog 110 #[.agg #[.int .i64 0, .int .i64 0, .string ⟨#[]⟩], .agg #[key, .int .i64 4, n, s]] w fun e w' => e = .returned (.agg #[.int .i64 2, .int .i64 0, s]) ∧ Below w.heap.size w w' := by
 skip
 clear hs
 obtain ⟨N, HN, O0, K0⟩ := st_ w
 go_enter Tryd.func110, Tryd.ntmps110
 go_wp2_with (first | ((with_reducible refine gD 2 rfl ?_); refine bP 2 #[.int .i64 0, .int .i64 0, .string ⟨#[]⟩] 49 O0.out ?_; intro ga w1 o_ k_; obtain ⟨O1, K1⟩ := ok_ K0 o_ k_; clear O0 K0 o_ k_; have a0 := k3_ O1 0) | ((with_reducible refine gD 3 rfl ?_); refine bP 3 #[key, .int .i64 4, n, s] 32 O1.out ?_; intro gb w2 o_ k_; obtain ⟨O2, K2⟩ := ok_ K1 o_ k_; clear a0 O1 K1 o_ k_; have a0 := k3_ O2 0; have a1 := k4_ O2 1) | ((with_reducible refine gD 4 rfl ?_); refine bP 4 #[.int .i64 0, .int .i64 0, .string ⟨#[]⟩] 49 O2.out ?_; intro gc w3 o_ k_; obtain ⟨O3, K3⟩ := ok_ K2 o_ k_; clear a0 a1 O2 K2 o_ k_; have a0 := k3_ O3 0; have a1 := k4_ O3 1; have a2 := k3_ O3 2) | ((with_reducible refine gC 118 rfl ?_); refine gP (some 6) Tryd.func118 #[.agg #[.int .i64 0, .int .i64 0, .string ⟨#[]⟩]] ?_; refine (value_clean.calls 0 0 ⟨#[]⟩ 0 0 ⟨#[]⟩ _ (by first | rfl | (simp [value_clean.f, value_number.f, value_text.f]))).mono ?_; rintro e_ w4 ⟨rfl, hb_⟩; refine ⟨_, rfl, ?_⟩; obtain ⟨O4, K4⟩ := ob_ K3 O3 hb_; clear a0 a1 a2 O3 K3 hb_; have a0 := k3_ O4 0; have a1 := k4_ O4 1; have a2 := k3_ O4 2) | ((with_reducible refine gT 49 2 rfl ?_); refine wS 0 0 [.int .i64 0, .int .i64 0, .string ⟨#[]⟩] O4 ?_; intro w5 o_ k_; obtain ⟨O5, K5⟩ := ok_ K4 o_ k_; clear a0 a1 a2 O4 K4 o_ k_; have a0 := k3_ O5 0; have a1 := k4_ O5 1; have a2 := k3_ O5 2) | ((with_reducible refine gC 120 rfl ?_); refine gP (some 41) Tryd.func120 #[s] ?_; refine (value_text.calls s 2 0 s _ (by rfl)).mono ?_; rintro e_ w6 ⟨rfl, hb_⟩; refine ⟨_, rfl, ?_⟩; obtain ⟨O6, K6⟩ := ob_ K5 O5 hb_; clear a0 a1 a2 O5 K5 hb_; have a0 := k3_ O6 0; have a1 := k4_ O6 1; have a2 := k3_ O6 2) | ((with_reducible refine gT 49 4 rfl ?_); refine wS 2 0 [.int .i64 2, .int .i64 0, s] O6 ?_; intro w7 o_ k_; obtain ⟨O7, K7⟩ := ok_ K6 o_ k_; clear a0 a1 a2 O6 K6 o_ k_; have a0 := k3_ O7 0; have a1 := k4_ O7 1; have a2 := k3_ O7 2))
 refine bodyPost_ret (results_cell_row rfl _ _ gc 49 #[.int .i64 2, .int .i64 0, s] (0, 0) _ rfl (O7.out.blk (i := 2) rfl) Tryd.underlying49 rfl (by kernel_rfl)) rfl ?_
 exact ⟨rfl, kw_ K7 HN⟩
theorem vap_05 (key : ByteArray) (n : Int) (s : ByteArray) (hs : s.size ≤ 4096) (w : World) :
  Calls Tryd.prog 110 #[.agg #[.int .i64 0, .int .i64 0, .string ⟨#[]⟩], .agg #[key, .int .i64 5, n, s]] w fun e w' => e = .returned (.agg #[.int .i64 0, .int .i64 0, .string ⟨#[]⟩]) ∧ Below w.heap.size w w' := by
 skip
 clear hs
 obtain ⟨N, HN, O0, K0⟩ := st_ w
 go_enter Tryd.func110, Tryd.ntmps110
 go_wp2_with (first | ((with_reducible refine gD 2 rfl ?_); refine bP 2 #[.int .i64 0, .int .i64 0, .string ⟨#[]⟩] 49 O0.out ?_; intro ga w1 o_ k_; obtain ⟨O1, K1⟩ := ok_ K0 o_ k_; clear O0 K0 o_ k_; have a0 := k3_ O1 0) | ((with_reducible refine gD 3 rfl ?_); refine bP 3 #[key, .int .i64 5, n, s] 32 O1.out ?_; intro gb w2 o_ k_; obtain ⟨O2, K2⟩ := ok_ K1 o_ k_; clear a0 O1 K1 o_ k_; have a0 := k3_ O2 0; have a1 := k4_ O2 1) | ((with_reducible refine gD 4 rfl ?_); refine bP 4 #[.int .i64 0, .int .i64 0, .string ⟨#[]⟩] 49 O2.out ?_; intro gc w3 o_ k_; obtain ⟨O3, K3⟩ := ok_ K2 o_ k_; clear a0 a1 O2 K2 o_ k_; have a0 := k3_ O3 0; have a1 := k4_ O3 1; have a2 := k3_ O3 2) | ((with_reducible refine gC 118 rfl ?_); refine gP (some 6) Tryd.func118 #[.agg #[.int .i64 0, .int .i64 0, .string ⟨#[]⟩]] ?_; refine (value_clean.calls 0 0 ⟨#[]⟩ 0 0 ⟨#[]⟩ _ (by first | rfl | (simp [value_clean.f, value_number.f, value_text.f]))).mono ?_; rintro e_ w4 ⟨rfl, hb_⟩; refine ⟨_, rfl, ?_⟩; obtain ⟨O4, K4⟩ := ob_ K3 O3 hb_; clear a0 a1 a2 O3 K3 hb_; have a0 := k3_ O4 0; have a1 := k4_ O4 1; have a2 := k3_ O4 2) | ((with_reducible refine gT 49 2 rfl ?_); refine wS 0 0 [.int .i64 0, .int .i64 0, .string ⟨#[]⟩] O4 ?_; intro w5 o_ k_; obtain ⟨O5, K5⟩ := ok_ K4 o_ k_; clear a0 a1 a2 O4 K4 o_ k_; have a0 := k3_ O5 0; have a1 := k4_ O5 1; have a2 := k3_ O5 2) | ((with_reducible refine gT 49 4 rfl ?_); refine wS 2 0 [.int .i64 0, .int .i64 0, .string ⟨#[]⟩] O5 ?_; intro w6 o_ k_; obtain ⟨O6, K6⟩ := ok_ K5 o_ k_; clear a0 a1 a2 O5 K5 o_ k_; have a0 := k3_ O6 0; have a1 := k4_ O6 1; have a2 := k3_ O6 2))
 refine bodyPost_ret (results_cell_row rfl _ _ gc 49 #[.int .i64 0, .int .i64 0, .string ⟨#[]⟩] (0, 0) _ rfl (O6.out.blk (i := 2) rfl) Tryd.underlying49 rfl (by kernel_rfl)) rfl ?_
 exact ⟨rfl, kw_ K6 HN⟩
theorem vap_00 (c : Int) (h1 : c ≠ 1) (h2 : c ≠ 2) (h3 : c ≠ 3) (h4 : c ≠ 4) (h5 : c ≠ 5) (key : ByteArray) (n : Int) (s : ByteArray) (hs : s.size ≤ 4096) (w : World) :
  Calls Tryd.prog 110 #[.agg #[.int .i64 0, .int .i64 0, .string ⟨#[]⟩], .agg #[key, c, n, s]] w fun e w' => e = .returned (.agg #[.int .i64 0, .int .i64 0, .string ⟨#[]⟩]) ∧ Below w.heap.size w w' := by
 skip
 have e1 : (c == 1) = false := by simp [h1]
 have e2 : (c == 2) = false := by simp [h2]
 have e3 : (c == 3) = false := by simp [h3]
 have e4 : (c == 4) = false := by simp [h4]
 have e5 : (c == 5) = false := by simp [h5]
 clear hs
 obtain ⟨N, HN, O0, K0⟩ := st_ w
 go_enter Tryd.func110, Tryd.ntmps110
 go_wp2_with (first | ((with_reducible refine gD 2 rfl ?_); refine bP 2 #[.int .i64 0, .int .i64 0, .string ⟨#[]⟩] 49 O0.out ?_; intro ga w1 o_ k_; obtain ⟨O1, K1⟩ := ok_ K0 o_ k_; clear O0 K0 o_ k_; have a0 := k3_ O1 0) | ((with_reducible refine gD 3 rfl ?_); refine bP 3 #[key, c, n, s] 32 O1.out ?_; intro gb w2 o_ k_; obtain ⟨O2, K2⟩ := ok_ K1 o_ k_; clear a0 O1 K1 o_ k_; have a0 := k3_ O2 0; have a1 := k4_ O2 1) | ((with_reducible refine gD 4 rfl ?_); refine bP 4 #[.int .i64 0, .int .i64 0, .string ⟨#[]⟩] 49 O2.out ?_; intro gc w3 o_ k_; obtain ⟨O3, K3⟩ := ok_ K2 o_ k_; clear a0 a1 O2 K2 o_ k_; have a0 := k3_ O3 0; have a1 := k4_ O3 1; have a2 := k3_ O3 2) | ((with_reducible refine gC 118 rfl ?_); refine gP (some 6) Tryd.func118 #[.agg #[.int .i64 0, .int .i64 0, .string ⟨#[]⟩]] ?_; refine (value_clean.calls 0 0 ⟨#[]⟩ 0 0 ⟨#[]⟩ _ (by first | rfl | (simp [value_clean.f, value_number.f, value_text.f]))).mono ?_; rintro e_ w4 ⟨rfl, hb_⟩; refine ⟨_, rfl, ?_⟩; obtain ⟨O4, K4⟩ := ob_ K3 O3 hb_; clear a0 a1 a2 O3 K3 hb_; have a0 := k3_ O4 0; have a1 := k4_ O4 1; have a2 := k3_ O4 2) | ((with_reducible refine gT 49 2 rfl ?_); refine wS 0 0 [.int .i64 0, .int .i64 0, .string ⟨#[]⟩] O4 ?_; intro w5 o_ k_; obtain ⟨O5, K5⟩ := ok_ K4 o_ k_; clear a0 a1 a2 O4 K4 o_ k_; have a0 := k3_ O5 0; have a1 := k4_ O5 1; have a2 := k3_ O5 2) | ((with_reducible refine gT 49 4 rfl ?_); refine wS 2 0 [.int .i64 0, .int .i64 0, .string ⟨#[]⟩] O5 ?_; intro w6 o_ k_; obtain ⟨O6, K6⟩ := ok_ K5 o_ k_; clear a0 a1 a2 O5 K5 o_ k_; have a0 := k3_ O6 0; have a1 := k4_ O6 1; have a2 := k3_ O6 2))
 refine bodyPost_ret (results_cell_row rfl _ _ gc 49 #[.int .i64 0, .int .i64 0, .string ⟨#[]⟩] (0, 0) _ rfl (O6.out.blk (i := 2) rfl) Tryd.underlying49 rfl (by kernel_rfl)) rfl ?_
 exact ⟨rfl, kw_ K6 HN⟩
theorem vap_11 (vn : Int) (key : ByteArray) (n : Int) (s : ByteArray) (hs : s.size ≤ 4096) (w : World) :
  Calls Tryd.prog 110 #[.agg #[.int .i64 1, vn, .string ⟨#[]⟩], .agg #[key, .int .i64 1, n, s]] w fun e w' => e = .returned (.agg #[.int .i64 1, n, .string ⟨#[]⟩]) ∧ Below w.heap.size w w' := by
 skip
 clear hs
 obtain ⟨N, HN, O0, K0⟩ := st_ w
 go_enter Tryd.func110, Tryd.ntmps110
 go_wp2_with (first | ((with_reducible refine gD 2 rfl ?_); refine bP 2 #[.int .i64 1, vn, .string ⟨#[]⟩] 49 O0.out ?_; intro ga w1 o_ k_; obtain ⟨O1, K1⟩ := ok_ K0 o_ k_; clear O0 K0 o_ k_; have a0 := k3_ O1 0) | ((with_reducible refine gD 3 rfl ?_); refine bP 3 #[key, .int .i64 1, n, s] 32 O1.out ?_; intro gb w2 o_ k_; obtain ⟨O2, K2⟩ := ok_ K1 o_ k_; clear a0 O1 K1 o_ k_; have a0 := k3_ O2 0; have a1 := k4_ O2 1) | ((with_reducible refine gD 4 rfl ?_); refine bP 4 #[.int .i64 0, .int .i64 0, .string ⟨#[]⟩] 49 O2.out ?_; intro gc w3 o_ k_; obtain ⟨O3, K3⟩ := ok_ K2 o_ k_; clear a0 a1 O2 K2 o_ k_; have a0 := k3_ O3 0; have a1 := k4_ O3 1; have a2 := k3_ O3 2) | ((with_reducible refine gC 118 rfl ?_); refine gP (some 6) Tryd.func118 #[.agg #[.int .i64 1, vn, .string ⟨#[]⟩]] ?_; refine (value_clean.calls 1 vn ⟨#[]⟩ 1 vn ⟨#[]⟩ _ (by first | rfl | (simp [value_clean.f, value_number.f, value_text.f]))).mono ?_; rintro e_ w4 ⟨rfl, hb_⟩; refine ⟨_, rfl, ?_⟩; obtain ⟨O4, K4⟩ := ob_ K3 O3 hb_; clear a0 a1 a2 O3 K3 hb_; have a0 := k3_ O4 0; have a1 := k4_ O4 1; have a2 := k3_ O4 2) | ((with_reducible refine gT 49 2 rfl ?_); refine wS 0 0 [.int .i64 1, vn, .string ⟨#[]⟩] O4 ?_; intro w5 o_ k_; obtain ⟨O5, K5⟩ := ok_ K4 o_ k_; clear a0 a1 a2 O4 K4 o_ k_; have a0 := k3_ O5 0; have a1 := k4_ O5 1; have a2 := k3_ O5 2) | ((with_reducible refine gC 119 rfl ?_); refine gP (some 13) Tryd.func119 #[n] ?_; refine (value_number.calls n 1 n ⟨#[]⟩ _ (by rfl)).mono ?_; rintro e_ w6 ⟨rfl, hb_⟩; refine ⟨_, rfl, ?_⟩; obtain ⟨O6, K6⟩ := ob_ K5 O5 hb_; clear a0 a1 a2 O5 K5 hb_; have a0 := k3_ O6 0; have a1 := k4_ O6 1; have a2 := k3_ O6 2) | ((with_reducible refine gT 49 4 rfl ?_); refine wS 2 0 [.int .i64 1, n, .string ⟨#[]⟩] O6 ?_; intro w7 o_ k_; obtain ⟨O7, K7⟩ := ok_ K6 o_ k_; clear a0 a1 a2 O6 K6 o_ k_; have a0 := k3_ O7 0; have a1 := k4_ O7 1; have a2 := k3_ O7 2))
 refine bodyPost_ret (results_cell_row rfl _ _ gc 49 #[.int .i64 1, n, .string ⟨#[]⟩] (0, 0) _ rfl (O7.out.blk (i := 2) rfl) Tryd.underlying49 rfl (by kernel_rfl)) rfl ?_
 exact ⟨rfl, kw_ K7 HN⟩
theorem vap_12 (vn : Int) (key : ByteArray) (n : Int) (s : ByteArray) (hs : s.size ≤ 4096) (w : World) :
  Calls Tryd.prog 110 #[.agg #[.int .i64 1, vn, .string ⟨#[]⟩], .agg #[key, .int .i64 2, n, s]] w fun e w' => e = .returned (.agg #[.int .i64 2, .int .i64 0, s]) ∧ Below w.heap.size w w' := by
 skip
 clear hs
 obtain ⟨N, HN, O0, K0⟩ := st_ w
 go_enter Tryd.func110, Tryd.ntmps110
 go_wp2_with (first | ((with_reducible refine gD 2 rfl ?_); refine bP 2 #[.int .i64 1, vn, .string ⟨#[]⟩] 49 O0.out ?_; intro ga w1 o_ k_; obtain ⟨O1, K1⟩ := ok_ K0 o_ k_; clear O0 K0 o_ k_; have a0 := k3_ O1 0) | ((with_reducible refine gD 3 rfl ?_); refine bP 3 #[key, .int .i64 2, n, s] 32 O1.out ?_; intro gb w2 o_ k_; obtain ⟨O2, K2⟩ := ok_ K1 o_ k_; clear a0 O1 K1 o_ k_; have a0 := k3_ O2 0; have a1 := k4_ O2 1) | ((with_reducible refine gD 4 rfl ?_); refine bP 4 #[.int .i64 0, .int .i64 0, .string ⟨#[]⟩] 49 O2.out ?_; intro gc w3 o_ k_; obtain ⟨O3, K3⟩ := ok_ K2 o_ k_; clear a0 a1 O2 K2 o_ k_; have a0 := k3_ O3 0; have a1 := k4_ O3 1; have a2 := k3_ O3 2) | ((with_reducible refine gC 118 rfl ?_); refine gP (some 6) Tryd.func118 #[.agg #[.int .i64 1, vn, .string ⟨#[]⟩]] ?_; refine (value_clean.calls 1 vn ⟨#[]⟩ 1 vn ⟨#[]⟩ _ (by first | rfl | (simp [value_clean.f, value_number.f, value_text.f]))).mono ?_; rintro e_ w4 ⟨rfl, hb_⟩; refine ⟨_, rfl, ?_⟩; obtain ⟨O4, K4⟩ := ob_ K3 O3 hb_; clear a0 a1 a2 O3 K3 hb_; have a0 := k3_ O4 0; have a1 := k4_ O4 1; have a2 := k3_ O4 2) | ((with_reducible refine gT 49 2 rfl ?_); refine wS 0 0 [.int .i64 1, vn, .string ⟨#[]⟩] O4 ?_; intro w5 o_ k_; obtain ⟨O5, K5⟩ := ok_ K4 o_ k_; clear a0 a1 a2 O4 K4 o_ k_; have a0 := k3_ O5 0; have a1 := k4_ O5 1; have a2 := k3_ O5 2) | ((with_reducible refine gC 120 rfl ?_); refine gP (some 18) Tryd.func120 #[s] ?_; refine (value_text.calls s 2 0 s _ (by rfl)).mono ?_; rintro e_ w6 ⟨rfl, hb_⟩; refine ⟨_, rfl, ?_⟩; obtain ⟨O6, K6⟩ := ob_ K5 O5 hb_; clear a0 a1 a2 O5 K5 hb_; have a0 := k3_ O6 0; have a1 := k4_ O6 1; have a2 := k3_ O6 2) | ((with_reducible refine gT 49 4 rfl ?_); refine wS 2 0 [.int .i64 2, .int .i64 0, s] O6 ?_; intro w7 o_ k_; obtain ⟨O7, K7⟩ := ok_ K6 o_ k_; clear a0 a1 a2 O6 K6 o_ k_; have a0 := k3_ O7 0; have a1 := k4_ O7 1; have a2 := k3_ O7 2))
 refine bodyPost_ret (results_cell_row rfl _ _ gc 49 #[.int .i64 2, .int .i64 0, s] (0, 0) _ rfl (O7.out.blk (i := 2) rfl) Tryd.underlying49 rfl (by kernel_rfl)) rfl ?_
 exact ⟨rfl, kw_ K7 HN⟩
theorem vap_13 (vn : Int) (key : ByteArray) (n : Int) (s : ByteArray) (hs : s.size ≤ 4096) (w : World) :
  Calls Tryd.prog 110 #[.agg #[.int .i64 1, vn, .string ⟨#[]⟩], .agg #[key, .int .i64 3, n, s]] w fun e w' => e = .returned (.agg #[.int .i64 1, .int .i64 (wrap64 (vn + n)), .string ⟨#[]⟩]) ∧ Below w.heap.size w w' := by
 skip
 clear hs
 obtain ⟨N, HN, O0, K0⟩ := st_ w
 go_enter Tryd.func110, Tryd.ntmps110
 go_wp2_with (first | ((with_reducible refine gD 2 rfl ?_); refine bP 2 #[.int .i64 1, vn, .string ⟨#[]⟩] 49 O0.out ?_; intro ga w1 o_ k_; obtain ⟨O1, K1⟩ := ok_ K0 o_ k_; clear O0 K0 o_ k_; have a0 := k3_ O1 0) | ((with_reducible refine gD 3 rfl ?_); refine bP 3 #[key, .int .i64 3, n, s] 32 O1.out ?_; intro gb w2 o_ k_; obtain ⟨O2, K2⟩ := ok_ K1 o_ k_; clear a0 O1 K1 o_ k_; have a0 := k3_ O2 0; have a1 := k4_ O2 1) | ((with_reducible refine gD 4 rfl ?_); refine bP 4 #[.int .i64 0, .int .i64 0, .string ⟨#[]⟩] 49 O2.out ?_; intro gc w3 o_ k_; obtain ⟨O3, K3⟩ := ok_ K2 o_ k_; clear a0 a1 O2 K2 o_ k_; have a0 := k3_ O3 0; have a1 := k4_ O3 1; have a2 := k3_ O3 2) | ((with_reducible refine gC 118 rfl ?_); refine gP (some 6) Tryd.func118 #[.agg #[.int .i64 1, vn, .string ⟨#[]⟩]] ?_; refine (value_clean.calls 1 vn ⟨#[]⟩ 1 vn ⟨#[]⟩ _ (by first | rfl | (simp [value_clean.f, value_number.f, value_text.f]))).mono ?_; rintro e_ w4 ⟨rfl, hb_⟩; refine ⟨_, rfl, ?_⟩; obtain ⟨O4, K4⟩ := ob_ K3 O3 hb_; clear a0 a1 a2 O3 K3 hb_; have a0 := k3_ O4 0; have a1 := k4_ O4 1; have a2 := k3_ O4 2) | ((with_reducible refine gT 49 2 rfl ?_); refine wS 0 0 [.int .i64 1, vn, .string ⟨#[]⟩] O4 ?_; intro w5 o_ k_; obtain ⟨O5, K5⟩ := ok_ K4 o_ k_; clear a0 a1 a2 O4 K4 o_ k_; have a0 := k3_ O5 0; have a1 := k4_ O5 1; have a2 := k3_ O5 2) | ((with_reducible refine gC 119 rfl ?_); refine gP (some 32) Tryd.func119 #[.int .i64 (wrap64 (vn + n))] ?_; refine (value_number.calls (wrap64 (vn + n)) 1 (wrap64 (vn + n)) ⟨#[]⟩ _ (by rfl)).mono ?_; rintro e_ w6 ⟨rfl, hb_⟩; refine ⟨_, rfl, ?_⟩; obtain ⟨O6, K6⟩ := ob_ K5 O5 hb_; clear a0 a1 a2 O5 K5 hb_; have a0 := k3_ O6 0; have a1 := k4_ O6 1; have a2 := k3_ O6 2) | ((with_reducible refine gT 49 4 rfl ?_); refine wS 2 0 [.int .i64 1, .int .i64 (wrap64 (vn + n)), .string ⟨#[]⟩] O6 ?_; intro w7 o_ k_; obtain ⟨O7, K7⟩ := ok_ K6 o_ k_; clear a0 a1 a2 O6 K6 o_ k_; have a0 := k3_ O7 0; have a1 := k4_ O7 1; have a2 := k3_ O7 2))
 refine bodyPost_ret (results_cell_row rfl _ _ gc 49 #[.int .i64 1, .int .i64 (wrap64 (vn + n)), .string ⟨#[]⟩] (0, 0) _ rfl (O7.out.blk (i := 2) rfl) Tryd.underlying49 rfl (by kernel_rfl)) rfl ?_
 exact ⟨rfl, kw_ K7 HN⟩
theorem vap_14 (vn : Int) (key : ByteArray) (n : Int) (s : ByteArray) (hs : s.size ≤ 4096) (w : World) :
  Calls Tryd.prog 110 #[.agg #[.int .i64 1, vn, .string ⟨#[]⟩], .agg #[key, .int .i64 4, n, s]] w fun e w' => e = .returned (.agg #[.int .i64 1, vn, .string ⟨#[]⟩]) ∧ Below w.heap.size w w' := by
 skip
 clear hs
 obtain ⟨N, HN, O0, K0⟩ := st_ w
 go_enter Tryd.func110, Tryd.ntmps110
 go_wp2_with (first | ((with_reducible refine gD 2 rfl ?_); refine bP 2 #[.int .i64 1, vn, .string ⟨#[]⟩] 49 O0.out ?_; intro ga w1 o_ k_; obtain ⟨O1, K1⟩ := ok_ K0 o_ k_; clear O0 K0 o_ k_; have a0 := k3_ O1 0) | ((with_reducible refine gD 3 rfl ?_); refine bP 3 #[key, .int .i64 4, n, s] 32 O1.out ?_; intro gb w2 o_ k_; obtain ⟨O2, K2⟩ := ok_ K1 o_ k_; clear a0 O1 K1 o_ k_; have a0 := k3_ O2 0; have a1 := k4_ O2 1) | ((with_reducible refine gD 4 rfl ?_); refine bP 4 #[.int .i64 0, .int .i64 0, .string ⟨#[]⟩] 49 O2.out ?_; intro gc w3 o_ k_; obtain ⟨O3, K3⟩ := ok_ K2 o_ k_; clear a0 a1 O2 K2 o_ k_; have a0 := k3_ O3 0; have a1 := k4_ O3 1; have a2 := k3_ O3 2) | ((with_reducible refine gC 118 rfl ?_); refine gP (some 6) Tryd.func118 #[.agg #[.int .i64 1, vn, .string ⟨#[]⟩]] ?_; refine (value_clean.calls 1 vn ⟨#[]⟩ 1 vn ⟨#[]⟩ _ (by first | rfl | (simp [value_clean.f, value_number.f, value_text.f]))).mono ?_; rintro e_ w4 ⟨rfl, hb_⟩; refine ⟨_, rfl, ?_⟩; obtain ⟨O4, K4⟩ := ob_ K3 O3 hb_; clear a0 a1 a2 O3 K3 hb_; have a0 := k3_ O4 0; have a1 := k4_ O4 1; have a2 := k3_ O4 2) | ((with_reducible refine gT 49 2 rfl ?_); refine wS 0 0 [.int .i64 1, vn, .string ⟨#[]⟩] O4 ?_; intro w5 o_ k_; obtain ⟨O5, K5⟩ := ok_ K4 o_ k_; clear a0 a1 a2 O4 K4 o_ k_; have a0 := k3_ O5 0; have a1 := k4_ O5 1; have a2 := k3_ O5 2) | ((with_reducible refine gT 49 4 rfl ?_); refine wS 2 0 [.int .i64 1, vn, .string ⟨#[]⟩] O5 ?_; intro w6 o_ k_; obtain ⟨O6, K6⟩ := ok_ K5 o_ k_; clear a0 a1 a2 O5 K5 o_ k_; have a0 := k3_ O6 0; have a1 := k4_ O6 1; have a2 := k3_ O6 2))
 refine bodyPost_ret (results_cell_row rfl _ _ gc 49 #[.int .i64 1, vn, .string ⟨#[]⟩] (0, 0) _ rfl (O6.out.blk (i := 2) rfl) Tryd.underlying49 rfl (by kernel_rfl)) rfl ?_
 exact ⟨rfl, kw_ K6 HN⟩
theorem vap_15 (vn : Int) (key : ByteArray) (n : Int) (s : ByteArray) (hs : s.size ≤ 4096) (w : World) :
  Calls Tryd.prog 110 #[.agg #[.int .i64 1, vn, .string ⟨#[]⟩], .agg #[key, .int .i64 5, n, s]] w fun e w' => e = .returned (.agg #[.int .i64 0, .int .i64 0, .string ⟨#[]⟩]) ∧ Below w.heap.size w w' := by
 skip
 clear hs
 obtain ⟨N, HN, O0, K0⟩ := st_ w
 go_enter Tryd.func110, Tryd.ntmps110
 go_wp2_with (first | ((with_reducible refine gD 2 rfl ?_); refine bP 2 #[.int .i64 1, vn, .string ⟨#[]⟩] 49 O0.out ?_; intro ga w1 o_ k_; obtain ⟨O1, K1⟩ := ok_ K0 o_ k_; clear O0 K0 o_ k_; have a0 := k3_ O1 0) | ((with_reducible refine gD 3 rfl ?_); refine bP 3 #[key, .int .i64 5, n, s] 32 O1.out ?_; intro gb w2 o_ k_; obtain ⟨O2, K2⟩ := ok_ K1 o_ k_; clear a0 O1 K1 o_ k_; have a0 := k3_ O2 0; have a1 := k4_ O2 1) | ((with_reducible refine gD 4 rfl ?_); refine bP 4 #[.int .i64 0, .int .i64 0, .string ⟨#[]⟩] 49 O2.out ?_; intro gc w3 o_ k_; obtain ⟨O3, K3⟩ := ok_ K2 o_ k_; clear a0 a1 O2 K2 o_ k_; have a0 := k3_ O3 0; have a1 := k4_ O3 1; have a2 := k3_ O3 2) | ((with_reducible refine gC 118 rfl ?_); refine gP (some 6) Tryd.func118 #[.agg #[.int .i64 1, vn, .string ⟨#[]⟩]] ?_; refine (value_clean.calls 1 vn ⟨#[]⟩ 1 vn ⟨#[]⟩ _ (by first | rfl | (simp [value_clean.f, value_number.f, value_text.f]))).mono ?_; rintro e_ w4 ⟨rfl, hb_⟩; refine ⟨_, rfl, ?_⟩; obtain ⟨O4, K4⟩ := ob_ K3 O3 hb_; clear a0 a1 a2 O3 K3 hb_; have a0 := k3_ O4 0; have a1 := k4_ O4 1; have a2 := k3_ O4 2) | ((with_reducible refine gT 49 2 rfl ?_); refine wS 0 0 [.int .i64 1, vn, .string ⟨#[]⟩] O4 ?_; intro w5 o_ k_; obtain ⟨O5, K5⟩ := ok_ K4 o_ k_; clear a0 a1 a2 O4 K4 o_ k_; have a0 := k3_ O5 0; have a1 := k4_ O5 1; have a2 := k3_ O5 2) | ((with_reducible refine gT 49 4 rfl ?_); refine wS 2 0 [.int .i64 0, .int .i64 0, .string ⟨#[]⟩] O5 ?_; intro w6 o_ k_; obtain ⟨O6, K6⟩ := ok_ K5 o_ k_; clear a0 a1 a2 O5 K5 o_ k_; have a0 := k3_ O6 0; have a1 := k4_ O6 1; have a2 := k3_ O6 2))
 refine bodyPost_ret (results_cell_row rfl _ _ gc 49 #[.int .i64 0, .int .i64 0, .string ⟨#[]⟩] (0, 0) _ rfl (O6.out.blk (i := 2) rfl) Tryd.underlying49 rfl (by kernel_rfl)) rfl ?_
 exact ⟨rfl, kw_ K6 HN⟩
theorem vap_10 (vn : Int) (c : Int) (h1 : c ≠ 1) (h2 : c ≠ 2) (h3 : c ≠ 3) (h4 : c ≠ 4) (h5 : c ≠ 5) (key : ByteArray) (n : Int) (s : ByteArray) (hs : s.size ≤ 4096) (w : World) :
  Calls Tryd.prog 110 #[.agg #[.int .i64 1, vn, .string ⟨#[]⟩], .agg #[key, c, n, s]] w fun e w' => e = .returned (.agg #[.int .i64 1, vn, .string ⟨#[]⟩]) ∧ Below w.heap.size w w' := by
 skip
 have e1 : (c == 1) = false := by simp [h1]
 have e2 : (c == 2) = false := by simp [h2]
 have e3 : (c == 3) = false := by simp [h3]
 have e4 : (c == 4) = false := by simp [h4]
 have e5 : (c == 5) = false := by simp [h5]
 clear hs
 obtain ⟨N, HN, O0, K0⟩ := st_ w
 go_enter Tryd.func110, Tryd.ntmps110
 go_wp2_with (first | ((with_reducible refine gD 2 rfl ?_); refine bP 2 #[.int .i64 1, vn, .string ⟨#[]⟩] 49 O0.out ?_; intro ga w1 o_ k_; obtain ⟨O1, K1⟩ := ok_ K0 o_ k_; clear O0 K0 o_ k_; have a0 := k3_ O1 0) | ((with_reducible refine gD 3 rfl ?_); refine bP 3 #[key, c, n, s] 32 O1.out ?_; intro gb w2 o_ k_; obtain ⟨O2, K2⟩ := ok_ K1 o_ k_; clear a0 O1 K1 o_ k_; have a0 := k3_ O2 0; have a1 := k4_ O2 1) | ((with_reducible refine gD 4 rfl ?_); refine bP 4 #[.int .i64 0, .int .i64 0, .string ⟨#[]⟩] 49 O2.out ?_; intro gc w3 o_ k_; obtain ⟨O3, K3⟩ := ok_ K2 o_ k_; clear a0 a1 O2 K2 o_ k_; have a0 := k3_ O3 0; have a1 := k4_ O3 1; have a2 := k3_ O3 2) | ((with_reducible refine gC 118 rfl ?_); refine gP (some 6) Tryd.func118 #[.agg #[.int .i64 1, vn, .string ⟨#[]⟩]] ?_; refine (value_clean.calls 1 vn ⟨#[]⟩ 1 vn ⟨#[]⟩ _ (by first | rfl | (simp [value_clean.f, value_number.f, value_text.f]))).mono ?_; rintro e_ w4 ⟨rfl, hb_⟩; refine ⟨_, rfl, ?_⟩; obtain ⟨O4, K4⟩ := ob_ K3 O3 hb_; clear a0 a1 a2 O3 K3 hb_; have a0 := k3_ O4 0; have a1 := k4_ O4 1; have a2 := k3_ O4 2) | ((with_reducible refine gT 49 2 rfl ?_); refine wS 0 0 [.int .i64 1, vn, .string ⟨#[]⟩] O4 ?_; intro w5 o_ k_; obtain ⟨O5, K5⟩ := ok_ K4 o_ k_; clear a0 a1 a2 O4 K4 o_ k_; have a0 := k3_ O5 0; have a1 := k4_ O5 1; have a2 := k3_ O5 2) | ((with_reducible refine gT 49 4 rfl ?_); refine wS 2 0 [.int .i64 1, vn, .string ⟨#[]⟩] O5 ?_; intro w6 o_ k_; obtain ⟨O6, K6⟩ := ok_ K5 o_ k_; clear a0 a1 a2 O5 K5 o_ k_; have a0 := k3_ O6 0; have a1 := k4_ O6 1; have a2 := k3_ O6 2))
 refine bodyPost_ret (results_cell_row rfl _ _ gc 49 #[.int .i64 1, vn, .string ⟨#[]⟩] (0, 0) _ rfl (O6.out.blk (i := 2) rfl) Tryd.underlying49 rfl (by kernel_rfl)) rfl ?_
 exact ⟨rfl, kw_ K6 HN⟩
theorem vap_21 (vs : ByteArray) (hv : vs.size ≤ 1024) (key : ByteArray) (n : Int) (s : ByteArray) (hs : s.size ≤ 4096) (w : World) :
  Calls Tryd.prog 110 #[.agg #[.int .i64 2, .int .i64 0, vs], .agg #[key, .int .i64 1, n, s]] w fun e w' => e = .returned (.agg #[.int .i64 1, n, .string ⟨#[]⟩]) ∧ Below w.heap.size w w' := by
 skip
 clear hv hs
 obtain ⟨N, HN, O0, K0⟩ := st_ w
 go_enter Tryd.func110, Tryd.ntmps110
 go_wp2_with (first | ((with_reducible refine gD 2 rfl ?_); refine bP 2 #[.int .i64 2, .int .i64 0, vs] 49 O0.out ?_; intro ga w1 o_ k_; obtain ⟨O1, K1⟩ := ok_ K0 o_ k_; clear O0 K0 o_ k_; have a0 := k3_ O1 0) | ((with_reducible refine gD 3 rfl ?_); refine bP 3 #[key, .int .i64 1, n, s] 32 O1.out ?_; intro gb w2 o_ k_; obtain ⟨O2, K2⟩ := ok_ K1 o_ k_; clear a0 O1 K1 o_ k_; have a0 := k3_ O2 0; have a1 := k4_ O2 1) | ((with_reducible refine gD 4 rfl ?_); refine bP 4 #[.int .i64 0, .int .i64 0, .string ⟨#[]⟩] 49 O2.out ?_; intro gc w3 o_ k_; obtain ⟨O3, K3⟩ := ok_ K2 o_ k_; clear a0 a1 O2 K2 o_ k_; have a0 := k3_ O3 0; have a1 := k4_ O3 1; have a2 := k3_ O3 2) | ((with_reducible refine gC 118 rfl ?_); refine gP (some 6) Tryd.func118 #[.agg #[.int .i64 2, .int .i64 0, vs]] ?_; refine (value_clean.calls 2 0 vs 2 0 vs _ (by first | rfl | (simp [value_clean.f, value_number.f, value_text.f]))).mono ?_; rintro e_ w4 ⟨rfl, hb_⟩; refine ⟨_, rfl, ?_⟩; obtain ⟨O4, K4⟩ := ob_ K3 O3 hb_; clear a0 a1 a2 O3 K3 hb_; have a0 := k3_ O4 0; have a1 := k4_ O4 1; have a2 := k3_ O4 2) | ((with_reducible refine gT 49 2 rfl ?_); refine wS 0 0 [.int .i64 2, .int .i64 0, vs] O4 ?_; intro w5 o_ k_; obtain ⟨O5, K5⟩ := ok_ K4 o_ k_; clear a0 a1 a2 O4 K4 o_ k_; have a0 := k3_ O5 0; have a1 := k4_ O5 1; have a2 := k3_ O5 2) | ((with_reducible refine gC 119 rfl ?_); refine gP (some 13) Tryd.func119 #[n] ?_; refine (value_number.calls n 1 n ⟨#[]⟩ _ (by rfl)).mono ?_; rintro e_ w6 ⟨rfl, hb_⟩; refine ⟨_, rfl, ?_⟩; obtain ⟨O6, K6⟩ := ob_ K5 O5 hb_; clear a0 a1 a2 O5 K5 hb_; have a0 := k3_ O6 0; have a1 := k4_ O6 1; have a2 := k3_ O6 2) | ((with_reducible refine gT 49 4 rfl ?_); refine wS 2 0 [.int .i64 1, n, .string ⟨#[]⟩] O6 ?_; intro w7 o_ k_; obtain ⟨O7, K7⟩ := ok_ K6 o_ k_; clear a0 a1 a2 O6 K6 o_ k_; have a0 := k3_ O7 0; have a1 := k4_ O7 1; have a2 := k3_ O7 2))
 refine bodyPost_ret (results_cell_row rfl _ _ gc 49 #[.int .i64 1, n, .string ⟨#[]⟩] (0, 0) _ rfl (O7.out.blk (i := 2) rfl) Tryd.underlying49 rfl (by kernel_rfl)) rfl ?_
 exact ⟨rfl, kw_ K7 HN⟩
theorem vap_22 (vs : ByteArray) (hv : vs.size ≤ 1024) (key : ByteArray) (n : Int) (s : ByteArray) (hs : s.size ≤ 4096) (w : World) :
  Calls Tryd.prog 110 #[.agg #[.int .i64 2, .int .i64 0, vs], .agg #[key, .int .i64 2, n, s]] w fun e w' => e = .returned (.agg #[.int .i64 2, .int .i64 0, s]) ∧ Below w.heap.size w w' := by
 skip
 clear hv hs
 obtain ⟨N, HN, O0, K0⟩ := st_ w
 go_enter Tryd.func110, Tryd.ntmps110
 go_wp2_with (first | ((with_reducible refine gD 2 rfl ?_); refine bP 2 #[.int .i64 2, .int .i64 0, vs] 49 O0.out ?_; intro ga w1 o_ k_; obtain ⟨O1, K1⟩ := ok_ K0 o_ k_; clear O0 K0 o_ k_; have a0 := k3_ O1 0) | ((with_reducible refine gD 3 rfl ?_); refine bP 3 #[key, .int .i64 2, n, s] 32 O1.out ?_; intro gb w2 o_ k_; obtain ⟨O2, K2⟩ := ok_ K1 o_ k_; clear a0 O1 K1 o_ k_; have a0 := k3_ O2 0; have a1 := k4_ O2 1) | ((with_reducible refine gD 4 rfl ?_); refine bP 4 #[.int .i64 0, .int .i64 0, .string ⟨#[]⟩] 49 O2.out ?_; intro gc w3 o_ k_; obtain ⟨O3, K3⟩ := ok_ K2 o_ k_; clear a0 a1 O2 K2 o_ k_; have a0 := k3_ O3 0; have a1 := k4_ O3 1; have a2 := k3_ O3 2) | ((with_reducible refine gC 118 rfl ?_); refine gP (some 6) Tryd.func118 #[.agg #[.int .i64 2, .int .i64 0, vs]] ?_; refine (value_clean.calls 2 0 vs 2 0 vs _ (by first | rfl | (simp [value_clean.f, value_number.f, value_text.f]))).mono ?_; rintro e_ w4 ⟨rfl, hb_⟩; refine ⟨_, rfl, ?_⟩; obtain ⟨O4, K4⟩ := ob_ K3 O3 hb_; clear a0 a1 a2 O3 K3 hb_; have a0 := k3_ O4 0; have a1 := k4_ O4 1; have a2 := k3_ O4 2) | ((with_reducible refine gT 49 2 rfl ?_); refine wS 0 0 [.int .i64 2, .int .i64 0, vs] O4 ?_; intro w5 o_ k_; obtain ⟨O5, K5⟩ := ok_ K4 o_ k_; clear a0 a1 a2 O4 K4 o_ k_; have a0 := k3_ O5 0; have a1 := k4_ O5 1; have a2 := k3_ O5 2) | ((with_reducible refine gC 120 rfl ?_); refine gP (some 18) Tryd.func120 #[s] ?_; refine (value_text.calls s 2 0 s _ (by rfl)).mono ?_; rintro e_ w6 ⟨rfl, hb_⟩; refine ⟨_, rfl, ?_⟩; obtain ⟨O6, K6⟩ := ob_ K5 O5 hb_; clear a0 a1 a2 O5 K5 hb_; have a0 := k3_ O6 0; have a1 := k4_ O6 1; have a2 := k3_ O6 2) | ((with_reducible refine gT 49 4 rfl ?_); refine wS 2 0 [.int .i64 2, .int .i64 0, s] O6 ?_; intro w7 o_ k_; obtain ⟨O7, K7⟩ := ok_ K6 o_ k_; clear a0 a1 a2 O6 K6 o_ k_; have a0 := k3_ O7 0; have a1 := k4_ O7 1; have a2 := k3_ O7 2))
 refine bodyPost_ret (results_cell_row rfl _ _ gc 49 #[.int .i64 2, .int .i64 0, s] (0, 0) _ rfl (O7.out.blk (i := 2) rfl) Tryd.underlying49 rfl (by kernel_rfl)) rfl ?_
 exact ⟨rfl, kw_ K7 HN⟩
theorem vap_23 (vs : ByteArray) (hv : vs.size ≤ 1024) (key : ByteArray) (n : Int) (s : ByteArray) (hs : s.size ≤ 4096) (w : World) :
  Calls Tryd.prog 110 #[.agg #[.int .i64 2, .int .i64 0, vs], .agg #[key, .int .i64 3, n, s]] w fun e w' => e = .returned (.agg #[.int .i64 2, .int .i64 0, vs]) ∧ Below w.heap.size w w' := by
 skip
 clear hv hs
 obtain ⟨N, HN, O0, K0⟩ := st_ w
 go_enter Tryd.func110, Tryd.ntmps110
 go_wp2_with (first | ((with_reducible refine gD 2 rfl ?_); refine bP 2 #[.int .i64 2, .int .i64 0, vs] 49 O0.out ?_; intro ga w1 o_ k_; obtain ⟨O1, K1⟩ := ok_ K0 o_ k_; clear O0 K0 o_ k_; have a0 := k3_ O1 0) | ((with_reducible refine gD 3 rfl ?_); refine bP 3 #[key, .int .i64 3, n, s] 32 O1.out ?_; intro gb w2 o_ k_; obtain ⟨O2, K2⟩ := ok_ K1 o_ k_; clear a0 O1 K1 o_ k_; have a0 := k3_ O2 0; have a1 := k4_ O2 1) | ((with_reducible refine gD 4 rfl ?_); refine bP 4 #[.int .i64 0, .int .i64 0, .string ⟨#[]⟩] 49 O2.out ?_; intro gc w3 o_ k_; obtain ⟨O3, K3⟩ := ok_ K2 o_ k_; clear a0 a1 O2 K2 o_ k_; have a0 := k3_ O3 0; have a1 := k4_ O3 1; have a2 := k3_ O3 2) | ((with_reducible refine gC 118 rfl ?_); refine gP (some 6) Tryd.func118 #[.agg #[.int .i64 2, .int .i64 0, vs]] ?_; refine (value_clean.calls 2 0 vs 2 0 vs _ (by first | rfl | (simp [value_clean.f, value_number.f, value_text.f]))).mono ?_; rintro e_ w4 ⟨rfl, hb_⟩; refine ⟨_, rfl, ?_⟩; obtain ⟨O4, K4⟩ := ob_ K3 O3 hb_; clear a0 a1 a2 O3 K3 hb_; have a0 := k3_ O4 0; have a1 := k4_ O4 1; have a2 := k3_ O4 2) | ((with_reducible refine gT 49 2 rfl ?_); refine wS 0 0 [.int .i64 2, .int .i64 0, vs] O4 ?_; intro w5 o_ k_; obtain ⟨O5, K5⟩ := ok_ K4 o_ k_; clear a0 a1 a2 O4 K4 o_ k_; have a0 := k3_ O5 0; have a1 := k4_ O5 1; have a2 := k3_ O5 2) | ((with_reducible refine gT 49 4 rfl ?_); refine wS 2 0 [.int .i64 2, .int .i64 0, vs] O5 ?_; intro w6 o_ k_; obtain ⟨O6, K6⟩ := ok_ K5 o_ k_; clear a0 a1 a2 O5 K5 o_ k_; have a0 := k3_ O6 0; have a1 := k4_ O6 1; have a2 := k3_ O6 2))
 refine bodyPost_ret (results_cell_row rfl _ _ gc 49 #[.int .i64 2, .int .i64 0, vs] (0, 0) _ rfl (O6.out.blk (i := 2) rfl) Tryd.underlying49 rfl (by kernel_rfl)) rfl ?_
 exact ⟨rfl, kw_ K6 HN⟩
theorem vap_24y (vs : ByteArray) (hv : vs.size ≤ 1024) (key : ByteArray) (n : Int) (s : ByteArray) (hs : s.size ≤ 4096) (hf : vs.size + s.size ≤ 1024) (w : World) :
  Calls Tryd.prog 110 #[.agg #[.int .i64 2, .int .i64 0, vs], .agg #[key, .int .i64 4, n, s]] w fun e w' => e = .returned (.agg #[.int .i64 2, .int .i64 0, .string (vs ++ s)]) ∧ Below w.heap.size w w' := by
 skip
 have hq : wrap64 ((vs.size : Int) + (s.size : Int)) = (vs.size : Int) + s.size := by unfold wrap64; omega
 have hq1 : wrap64 (1024 - (vs.size : Int)) = 1024 - (vs.size : Int) := by unfold wrap64; omega
 have hq2 : IntKind.i64.wrap ((vs.size : Int) + (s.size : Int)) = (vs.size : Int) + s.size := by rw [IntKind.wrap_i64]; omega
 have hq3 : IntKind.i64.wrap (1024 - (vs.size : Int)) = 1024 - (vs.size : Int) := by rw [IntKind.wrap_i64]; omega
 have hd1 : decide ((vs.size : Int) + s.size ≤ 1024) = true := by simp; omega
 have hd2 : decide ((s.size : Int) ≤ 1024 - (vs.size : Int)) = true := by simp; omega
 have hd3 : decide ((vs.size : Int) ≤ 1024) = true := by simp; omega
 have hd4 : decide (vs.size ≤ 1024) = true := by simp; omega
 have hj1 := of_decide_eq_true hd1
 have hj2 := of_decide_eq_true hd2
 clear hv hs
 obtain ⟨N, HN, O0, K0⟩ := st_ w
 go_enter Tryd.func110, Tryd.ntmps110
 go_wp2_with (first | ((with_reducible refine gD 2 rfl ?_); refine bP 2 #[.int .i64 2, .int .i64 0, vs] 49 O0.out ?_; intro ga w1 o_ k_; obtain ⟨O1, K1⟩ := ok_ K0 o_ k_; clear O0 K0 o_ k_; have a0 := k3_ O1 0) | ((with_reducible refine gD 3 rfl ?_); refine bP 3 #[key, .int .i64 4, n, s] 32 O1.out ?_; intro gb w2 o_ k_; obtain ⟨O2, K2⟩ := ok_ K1 o_ k_; clear a0 O1 K1 o_ k_; have a0 := k3_ O2 0; have a1 := k4_ O2 1) | ((with_reducible refine gD 4 rfl ?_); refine bP 4 #[.int .i64 0, .int .i64 0, .string ⟨#[]⟩] 49 O2.out ?_; intro gc w3 o_ k_; obtain ⟨O3, K3⟩ := ok_ K2 o_ k_; clear a0 a1 O2 K2 o_ k_; have a0 := k3_ O3 0; have a1 := k4_ O3 1; have a2 := k3_ O3 2) | ((with_reducible refine gC 118 rfl ?_); refine gP (some 6) Tryd.func118 #[.agg #[.int .i64 2, .int .i64 0, vs]] ?_; refine (value_clean.calls 2 0 vs 2 0 vs _ (by first | rfl | (simp [value_clean.f, value_number.f, value_text.f]))).mono ?_; rintro e_ w4 ⟨rfl, hb_⟩; refine ⟨_, rfl, ?_⟩; obtain ⟨O4, K4⟩ := ob_ K3 O3 hb_; clear a0 a1 a2 O3 K3 hb_; have a0 := k3_ O4 0; have a1 := k4_ O4 1; have a2 := k3_ O4 2) | ((with_reducible refine gT 49 2 rfl ?_); refine wS 0 0 [.int .i64 2, .int .i64 0, vs] O4 ?_; intro w5 o_ k_; obtain ⟨O5, K5⟩ := ok_ K4 o_ k_; clear a0 a1 a2 O4 K4 o_ k_; have a0 := k3_ O5 0; have a1 := k4_ O5 1; have a2 := k3_ O5 2) | ((with_reducible refine gC 120 rfl ?_); refine gP (some 61) Tryd.func120 #[.string (vs ++ s)] ?_; refine (value_text.calls (vs ++ s) 2 0 (vs ++ s) _ (by rfl)).mono ?_; rintro e_ w6 ⟨rfl, hb_⟩; refine ⟨_, rfl, ?_⟩; obtain ⟨O6, K6⟩ := ob_ K5 O5 hb_; clear a0 a1 a2 O5 K5 hb_; have a0 := k3_ O6 0; have a1 := k4_ O6 1; have a2 := k3_ O6 2) | ((with_reducible refine gT 49 4 rfl ?_); refine wS 2 0 [.int .i64 2, .int .i64 0, .string (vs ++ s)] O6 ?_; intro w7 o_ k_; obtain ⟨O7, K7⟩ := ok_ K6 o_ k_; clear a0 a1 a2 O6 K6 o_ k_; have a0 := k3_ O7 0; have a1 := k4_ O7 1; have a2 := k3_ O7 2))
 refine bodyPost_ret (results_cell_row rfl _ _ gc 49 #[.int .i64 2, .int .i64 0, .string (vs ++ s)] (0, 0) _ rfl (O7.out.blk (i := 2) rfl) Tryd.underlying49 rfl (by kernel_rfl)) rfl ?_
 exact ⟨rfl, kw_ K7 HN⟩
theorem vap_24z (vs : ByteArray) (hv : vs.size ≤ 1024) (key : ByteArray) (n : Int) (s : ByteArray) (hs : s.size ≤ 4096) (hf : ¬ vs.size + s.size ≤ 1024) (w : World) :
  Calls Tryd.prog 110 #[.agg #[.int .i64 2, .int .i64 0, vs], .agg #[key, .int .i64 4, n, s]] w fun e w' => e = .returned (.agg #[.int .i64 2, .int .i64 0, vs]) ∧ Below w.heap.size w w' := by
 skip
 have hq : wrap64 ((vs.size : Int) + (s.size : Int)) = (vs.size : Int) + s.size := by unfold wrap64; omega
 have hq1 : wrap64 (1024 - (vs.size : Int)) = 1024 - (vs.size : Int) := by unfold wrap64; omega
 have hq2 : IntKind.i64.wrap ((vs.size : Int) + (s.size : Int)) = (vs.size : Int) + s.size := by rw [IntKind.wrap_i64]; omega
 have hq3 : IntKind.i64.wrap (1024 - (vs.size : Int)) = 1024 - (vs.size : Int) := by rw [IntKind.wrap_i64]; omega
 have hd1 : decide ((vs.size : Int) + s.size ≤ 1024) = false := by simp; omega
 have hd2 : decide ((s.size : Int) ≤ 1024 - (vs.size : Int)) = false := by simp; omega
 have hd3 : decide ((vs.size : Int) ≤ 1024) = true := by simp; omega
 have hd4 : decide (vs.size ≤ 1024) = true := by simp; omega
 have hj1 := of_decide_eq_false hd1
 have hj2 := of_decide_eq_false hd2
 clear hv hs
 obtain ⟨N, HN, O0, K0⟩ := st_ w
 go_enter Tryd.func110, Tryd.ntmps110
 go_wp2_with (first | ((with_reducible refine gD 2 rfl ?_); refine bP 2 #[.int .i64 2, .int .i64 0, vs] 49 O0.out ?_; intro ga w1 o_ k_; obtain ⟨O1, K1⟩ := ok_ K0 o_ k_; clear O0 K0 o_ k_; have a0 := k3_ O1 0) | ((with_reducible refine gD 3 rfl ?_); refine bP 3 #[key, .int .i64 4, n, s] 32 O1.out ?_; intro gb w2 o_ k_; obtain ⟨O2, K2⟩ := ok_ K1 o_ k_; clear a0 O1 K1 o_ k_; have a0 := k3_ O2 0; have a1 := k4_ O2 1) | ((with_reducible refine gD 4 rfl ?_); refine bP 4 #[.int .i64 0, .int .i64 0, .string ⟨#[]⟩] 49 O2.out ?_; intro gc w3 o_ k_; obtain ⟨O3, K3⟩ := ok_ K2 o_ k_; clear a0 a1 O2 K2 o_ k_; have a0 := k3_ O3 0; have a1 := k4_ O3 1; have a2 := k3_ O3 2) | ((with_reducible refine gC 118 rfl ?_); refine gP (some 6) Tryd.func118 #[.agg #[.int .i64 2, .int .i64 0, vs]] ?_; refine (value_clean.calls 2 0 vs 2 0 vs _ (by first | rfl | (simp [value_clean.f, value_number.f, value_text.f]))).mono ?_; rintro e_ w4 ⟨rfl, hb_⟩; refine ⟨_, rfl, ?_⟩; obtain ⟨O4, K4⟩ := ob_ K3 O3 hb_; clear a0 a1 a2 O3 K3 hb_; have a0 := k3_ O4 0; have a1 := k4_ O4 1; have a2 := k3_ O4 2) | ((with_reducible refine gT 49 2 rfl ?_); refine wS 0 0 [.int .i64 2, .int .i64 0, vs] O4 ?_; intro w5 o_ k_; obtain ⟨O5, K5⟩ := ok_ K4 o_ k_; clear a0 a1 a2 O4 K4 o_ k_; have a0 := k3_ O5 0; have a1 := k4_ O5 1; have a2 := k3_ O5 2) | ((with_reducible refine gT 49 4 rfl ?_); refine wS 2 0 [.int .i64 2, .int .i64 0, vs] O5 ?_; intro w6 o_ k_; obtain ⟨O6, K6⟩ := ok_ K5 o_ k_; clear a0 a1 a2 O5 K5 o_ k_; have a0 := k3_ O6 0; have a1 := k4_ O6 1; have a2 := k3_ O6 2))
 refine bodyPost_ret (results_cell_row rfl _ _ gc 49 #[.int .i64 2, .int .i64 0, vs] (0, 0) _ rfl (O6.out.blk (i := 2) rfl) Tryd.underlying49 rfl (by kernel_rfl)) rfl ?_
 exact ⟨rfl, kw_ K6 HN⟩
theorem vap_25 (vs : ByteArray) (hv : vs.size ≤ 1024) (key : ByteArray) (n : Int) (s : ByteArray) (hs : s.size ≤ 4096) (w : World) :
  Calls Tryd.prog 110 #[.agg #[.int .i64 2, .int .i64 0, vs], .agg #[key, .int .i64 5, n, s]] w fun e w' => e = .returned (.agg #[.int .i64 0, .int .i64 0, .string ⟨#[]⟩]) ∧ Below w.heap.size w w' := by
 skip
 clear hv hs
 obtain ⟨N, HN, O0, K0⟩ := st_ w
 go_enter Tryd.func110, Tryd.ntmps110
 go_wp2_with (first | ((with_reducible refine gD 2 rfl ?_); refine bP 2 #[.int .i64 2, .int .i64 0, vs] 49 O0.out ?_; intro ga w1 o_ k_; obtain ⟨O1, K1⟩ := ok_ K0 o_ k_; clear O0 K0 o_ k_; have a0 := k3_ O1 0) | ((with_reducible refine gD 3 rfl ?_); refine bP 3 #[key, .int .i64 5, n, s] 32 O1.out ?_; intro gb w2 o_ k_; obtain ⟨O2, K2⟩ := ok_ K1 o_ k_; clear a0 O1 K1 o_ k_; have a0 := k3_ O2 0; have a1 := k4_ O2 1) | ((with_reducible refine gD 4 rfl ?_); refine bP 4 #[.int .i64 0, .int .i64 0, .string ⟨#[]⟩] 49 O2.out ?_; intro gc w3 o_ k_; obtain ⟨O3, K3⟩ := ok_ K2 o_ k_; clear a0 a1 O2 K2 o_ k_; have a0 := k3_ O3 0; have a1 := k4_ O3 1; have a2 := k3_ O3 2) | ((with_reducible refine gC 118 rfl ?_); refine gP (some 6) Tryd.func118 #[.agg #[.int .i64 2, .int .i64 0, vs]] ?_; refine (value_clean.calls 2 0 vs 2 0 vs _ (by first | rfl | (simp [value_clean.f, value_number.f, value_text.f]))).mono ?_; rintro e_ w4 ⟨rfl, hb_⟩; refine ⟨_, rfl, ?_⟩; obtain ⟨O4, K4⟩ := ob_ K3 O3 hb_; clear a0 a1 a2 O3 K3 hb_; have a0 := k3_ O4 0; have a1 := k4_ O4 1; have a2 := k3_ O4 2) | ((with_reducible refine gT 49 2 rfl ?_); refine wS 0 0 [.int .i64 2, .int .i64 0, vs] O4 ?_; intro w5 o_ k_; obtain ⟨O5, K5⟩ := ok_ K4 o_ k_; clear a0 a1 a2 O4 K4 o_ k_; have a0 := k3_ O5 0; have a1 := k4_ O5 1; have a2 := k3_ O5 2) | ((with_reducible refine gT 49 4 rfl ?_); refine wS 2 0 [.int .i64 0, .int .i64 0, .string ⟨#[]⟩] O5 ?_; intro w6 o_ k_; obtain ⟨O6, K6⟩ := ok_ K5 o_ k_; clear a0 a1 a2 O5 K5 o_ k_; have a0 := k3_ O6 0; have a1 := k4_ O6 1; have a2 := k3_ O6 2))
 refine bodyPost_ret (results_cell_row rfl _ _ gc 49 #[.int .i64 0, .int .i64 0, .string ⟨#[]⟩] (0, 0) _ rfl (O6.out.blk (i := 2) rfl) Tryd.underlying49 rfl (by kernel_rfl)) rfl ?_
 exact ⟨rfl, kw_ K6 HN⟩
theorem vap_20 (vs : ByteArray) (hv : vs.size ≤ 1024) (c : Int) (h1 : c ≠ 1) (h2 : c ≠ 2) (h3 : c ≠ 3) (h4 : c ≠ 4) (h5 : c ≠ 5) (key : ByteArray) (n : Int) (s : ByteArray) (hs : s.size ≤ 4096) (w : World) :
  Calls Tryd.prog 110 #[.agg #[.int .i64 2, .int .i64 0, vs], .agg #[key, c, n, s]] w fun e w' => e = .returned (.agg #[.int .i64 2, .int .i64 0, vs]) ∧ Below w.heap.size w w' := by
 skip
 have e1 : (c == 1) = false := by simp [h1]
 have e2 : (c == 2) = false := by simp [h2]
 have e3 : (c == 3) = false := by simp [h3]
 have e4 : (c == 4) = false := by simp [h4]
 have e5 : (c == 5) = false := by simp [h5]
 clear hv hs
 obtain ⟨N, HN, O0, K0⟩ := st_ w
 go_enter Tryd.func110, Tryd.ntmps110
 go_wp2_with (first | ((with_reducible refine gD 2 rfl ?_); refine bP 2 #[.int .i64 2, .int .i64 0, vs] 49 O0.out ?_; intro ga w1 o_ k_; obtain ⟨O1, K1⟩ := ok_ K0 o_ k_; clear O0 K0 o_ k_; have a0 := k3_ O1 0) | ((with_reducible refine gD 3 rfl ?_); refine bP 3 #[key, c, n, s] 32 O1.out ?_; intro gb w2 o_ k_; obtain ⟨O2, K2⟩ := ok_ K1 o_ k_; clear a0 O1 K1 o_ k_; have a0 := k3_ O2 0; have a1 := k4_ O2 1) | ((with_reducible refine gD 4 rfl ?_); refine bP 4 #[.int .i64 0, .int .i64 0, .string ⟨#[]⟩] 49 O2.out ?_; intro gc w3 o_ k_; obtain ⟨O3, K3⟩ := ok_ K2 o_ k_; clear a0 a1 O2 K2 o_ k_; have a0 := k3_ O3 0; have a1 := k4_ O3 1; have a2 := k3_ O3 2) | ((with_reducible refine gC 118 rfl ?_); refine gP (some 6) Tryd.func118 #[.agg #[.int .i64 2, .int .i64 0, vs]] ?_; refine (value_clean.calls 2 0 vs 2 0 vs _ (by first | rfl | (simp [value_clean.f, value_number.f, value_text.f]))).mono ?_; rintro e_ w4 ⟨rfl, hb_⟩; refine ⟨_, rfl, ?_⟩; obtain ⟨O4, K4⟩ := ob_ K3 O3 hb_; clear a0 a1 a2 O3 K3 hb_; have a0 := k3_ O4 0; have a1 := k4_ O4 1; have a2 := k3_ O4 2) | ((with_reducible refine gT 49 2 rfl ?_); refine wS 0 0 [.int .i64 2, .int .i64 0, vs] O4 ?_; intro w5 o_ k_; obtain ⟨O5, K5⟩ := ok_ K4 o_ k_; clear a0 a1 a2 O4 K4 o_ k_; have a0 := k3_ O5 0; have a1 := k4_ O5 1; have a2 := k3_ O5 2) | ((with_reducible refine gT 49 4 rfl ?_); refine wS 2 0 [.int .i64 2, .int .i64 0, vs] O5 ?_; intro w6 o_ k_; obtain ⟨O6, K6⟩ := ok_ K5 o_ k_; clear a0 a1 a2 O5 K5 o_ k_; have a0 := k3_ O6 0; have a1 := k4_ O6 1; have a2 := k3_ O6 2))
 refine bodyPost_ret (results_cell_row rfl _ _ gc 49 #[.int .i64 2, .int .i64 0, vs] (0, 0) _ rfl (O6.out.blk (i := 2) rfl) Tryd.underlying49 rfl (by kernel_rfl)) rfl ?_
 exact ⟨rfl, kw_ K6 HN⟩
def value_Apply.f (a0_0 : Int) (a0_1 : Int) (a0_2 : ByteArray) (a1_0 : ByteArray) (a1_1 : Int) (a1_2 : Int) (a1_3 : ByteArray) : Option (Int × Int × ByteArray) := if good (a0_0, a0_1, a0_2) = true ∧ a1_3.size ≤ 4096 ∧ (-9223372036854775808 ≤ a1_2 ∧ a1_2 ≤ 9223372036854775807) then some (app (a0_0, a0_1, a0_2) a1_1 a1_2 a1_3) else none
theorem value_Apply.calls (a0_0 : Int) (a0_1 : Int) (a0_2 : ByteArray) (a1_0 : ByteArray) (a1_1 : Int) (a1_2 : Int) (a1_3 : ByteArray) (r1 : Int) (r2 : Int) (r3 : ByteArray) (w : World) (h : value_Apply.f a0_0 a0_1 a0_2 a1_0 a1_1 a1_2 a1_3 = some (r1, r2, r3)) :
  Calls Tryd.prog 110 #[.agg #[a0_0, a0_1, a0_2], .agg #[a1_0, a1_1, a1_2, a1_3]] w fun e w' => e = .returned (.agg #[r1, r2, r3]) ∧ Below w.heap.size w w' := by
 unfold value_Apply.f at h
 split at h
 case isFalse => simp at h
 rename_i hg
 obtain ⟨hg, hs, hn⟩ := hg
 replace h := Option.some.inj h
 refine told_vap h ?_
 clear h
 rcases good_cases hg with e | ⟨vn, e⟩ | ⟨vs, hv, e⟩ <;> (obtain ⟨e0, e1⟩ := Prod.mk.inj e; obtain ⟨e1, e2⟩ := Prod.mk.inj e1; subst e0 e1 e2; clear hg e)
 ·by_cases h1 : a1_1 = 1
  ·subst h1
   rw [show app (0, 0, none') 1 a1_2 a1_3 = (1, a1_2, ⟨#[]⟩) from by simp [app]]
   exact vap_01 a1_0 a1_2 a1_3 hs w
  by_cases h2 : a1_1 = 2
  ·subst h2
   rw [show app (0, 0, none') 2 a1_2 a1_3 = (2, 0, a1_3) from by simp [app]]
   exact vap_02 a1_0 a1_2 a1_3 hs w
  by_cases h3 : a1_1 = 3
  ·subst h3
   rw [show app (0, 0, none') 3 a1_2 a1_3 = (1, a1_2, ⟨#[]⟩) from by simp [app, w64_ hn]]
   exact vap_03 a1_0 a1_2 a1_3 hs hn w
  by_cases h4 : a1_1 = 4
  ·subst h4
   rw [show app (0, 0, none') 4 a1_2 a1_3 = (2, 0, a1_3) from by simp [app]]
   exact vap_04 a1_0 a1_2 a1_3 hs w
  by_cases h5 : a1_1 = 5
  ·subst h5
   rw [show app (0, 0, none') 5 a1_2 a1_3 = (0, 0, ⟨#[]⟩) from by simp [app]]
   exact vap_05 a1_0 a1_2 a1_3 hs w
  ·skip
   rw [show app (0, 0, none') a1_1 a1_2 a1_3 = (0, 0, ⟨#[]⟩) from by simp [app, h1, h2, h3, h4, h5]]
   exact vap_00 a1_1 h1 h2 h3 h4 h5 a1_0 a1_2 a1_3 hs w
 ·by_cases h1 : a1_1 = 1
  ·subst h1
   rw [show app (1, a0_1, none') 1 a1_2 a1_3 = (1, a1_2, ⟨#[]⟩) from by simp [app]]
   exact vap_11 a0_1 a1_0 a1_2 a1_3 hs w
  by_cases h2 : a1_1 = 2
  ·subst h2
   rw [show app (1, a0_1, none') 2 a1_2 a1_3 = (2, 0, a1_3) from by simp [app]]
   exact vap_12 a0_1 a1_0 a1_2 a1_3 hs w
  by_cases h3 : a1_1 = 3
  ·subst h3
   rw [show app (1, a0_1, none') 3 a1_2 a1_3 = (1, (wrap64 (a0_1 + a1_2)), ⟨#[]⟩) from by simp [app]]
   exact vap_13 a0_1 a1_0 a1_2 a1_3 hs w
  by_cases h4 : a1_1 = 4
  ·subst h4
   rw [show app (1, a0_1, none') 4 a1_2 a1_3 = (1, a0_1, ⟨#[]⟩) from by simp [app]]
   exact vap_14 a0_1 a1_0 a1_2 a1_3 hs w
  by_cases h5 : a1_1 = 5
  ·subst h5
   rw [show app (1, a0_1, none') 5 a1_2 a1_3 = (0, 0, ⟨#[]⟩) from by simp [app]]
   exact vap_15 a0_1 a1_0 a1_2 a1_3 hs w
  ·skip
   rw [show app (1, a0_1, none') a1_1 a1_2 a1_3 = (1, a0_1, ⟨#[]⟩) from by simp [app, h1, h2, h3, h4, h5]]
   exact vap_10 a0_1 a1_1 h1 h2 h3 h4 h5 a1_0 a1_2 a1_3 hs w
 ·by_cases h1 : a1_1 = 1
  ·subst h1
   rw [show app (2, 0, a0_2) 1 a1_2 a1_3 = (1, a1_2, ⟨#[]⟩) from by simp [app]]
   exact vap_21 a0_2 hv a1_0 a1_2 a1_3 hs w
  by_cases h2 : a1_1 = 2
  ·subst h2
   rw [show app (2, 0, a0_2) 2 a1_2 a1_3 = (2, 0, a1_3) from by simp [app]]
   exact vap_22 a0_2 hv a1_0 a1_2 a1_3 hs w
  by_cases h3 : a1_1 = 3
  ·subst h3
   rw [show app (2, 0, a0_2) 3 a1_2 a1_3 = (2, 0, a0_2) from by simp [app]]
   exact vap_23 a0_2 hv a1_0 a1_2 a1_3 hs w
  by_cases h4 : a1_1 = 4
  ·subst h4
   by_cases hf : a0_2.size + a1_3.size ≤ 1024
   ·skip
    rw [show app (2, 0, a0_2) 4 a1_2 a1_3 = (2, 0, (a0_2 ++ a1_3)) from by simp [app, hf]]
    exact vap_24y a0_2 hv a1_0 a1_2 a1_3 hs hf w
   ·skip
    rw [show app (2, 0, a0_2) 4 a1_2 a1_3 = (2, 0, a0_2) from by simp [app, hf]]
    exact vap_24z a0_2 hv a1_0 a1_2 a1_3 hs hf w
  by_cases h5 : a1_1 = 5
  ·subst h5
   rw [show app (2, 0, a0_2) 5 a1_2 a1_3 = (0, 0, ⟨#[]⟩) from by simp [app]]
   exact vap_25 a0_2 hv a1_0 a1_2 a1_3 hs w
  ·skip
   rw [show app (2, 0, a0_2) a1_1 a1_2 a1_3 = (2, 0, a0_2) from by simp [app, h1, h2, h3, h4, h5]]
   exact vap_20 a0_2 hv a1_1 h1 h2 h3 h4 h5 a1_0 a1_2 a1_3 hs w
end Go.Proofs.YtjdenpmaianmfaaDoor.Q
namespace Go.Proofs.YtjdenpmaianmfaaDoor.Sep
set_option linter.unusedSimpArgs false
set_option linter.unusedVariables false
open Go RowKit YtjdenpmaianmfaaDoorW.PrintWords YtjdenpmaianmfaaDoorW.PrintLast YtjdenpmaianmfaaDoorW.PrintMore
section
variable (Pr : Program) (K : TypeId) (R : Value → Option (DataW Unit × List MemPlace))
def mp (b n : Nat) (D : DataW Unit) : HP where
 P := fun F w => F b ∧ w.ownsMap Pr K R b n D
 move := fun h hs hk => by
  obtain ⟨hF, es, clock, hb, r⟩ := h
  exact ⟨hF, es, clock, (hk _ hF (blk_lt hb)).trans hb, r⟩
 mono := fun h hf => ⟨hf _ h.1, h.2⟩
 bound := fun h => ⟨⟨h.1, h.2.lt⟩, h.2⟩
end
variable {Pr : Program} {K : TypeId} {R : Value → Option (DataW Unit × List MemPlace)} {N : Nat → Prop} {w w' W : World} {l : List HP} {i b r n cnt : Nat} {D : DataW Unit} {left : Lit → Bool}
theorem Own.newmap (h : Own N w l) : Own N (w.alloc (.map #[] 0)) (l ++ [mp Pr K R w.heap.size 0 (.map [])]) :=
 h.push _ (by simp) (fun k hk => (MapKept.heap_alloc w _).2 k hk) (F := fun k => k = w.heap.size) ⟨rfl, World.ownsMap_made w Pr K R⟩ (fun k hk => Nat.le_of_eq hk.symm)
theorem Own.map (h : Own N w l) (hi : l[i]? = some (mp Pr K R b n D)) : w.ownsMap Pr K R b n D := by
 obtain ⟨F, h1⟩ := h.fact hi
 exact h1.2
theorem Own.mapfar (h : Own N w l) (hi : l[i]? = some (mp Pr K R b n D)) : ¬ N b := by
 obtain ⟨hN, Fs, h1, h2, h3⟩ := h
 exact (h2 i b (h1 i _ hi).1).1
theorem Own.mapset {n' : Nat} {D' : DataW Unit} (h : Own N w l) (hi : l[i]? = some (mp Pr K R b n D)) (hm : w'.ownsMap Pr K R b n' D') (hg : w.grownBy w' (some b)) : Own N w' (l.set i (mp Pr K R b n' D')) ∧ KeepS N w w' := by
 refine ⟨h.upd hi _ (fun F hp hf => ⟨hg.size, fun k hk hnf => hg.block k hk (fun e => hnf (by cases e; exact hp.1)), F, ⟨hp.1, hm⟩, fun k hk => .inl hk⟩), KeepS.grown hg (fun k e => by cases e; exact h.mapfar hi)⟩
section
variable {ops : Array Oper} {rest : List Oper} {o : Oper} {a : Act} {Q : Exit → Act → World → Prop}
theorem own_map (Pr : Program) (K : TypeId) (R : Value → Option (DataW Unit × List MemPlace)) (hgd : o.guard = none) {T : Tmp} (_hd : o.dst = some T) (hrun : (execOp a.eval o).run Pr W = .ok (.value (.map (some W.heap.size))) (W.alloc (.map #[] 0))) (h : Own N W l)
  (k : ∀ g w1, Own N w1 (l ++ [mp Pr K R g 0 (.map [])]) → KeepS N W w1 → wpList Pr ops Q rest (a.put o.dst (.map (some g))) w1) : wpList Pr ops Q (o :: rest) a W :=
 Kd.event_run hgd hrun (k _ _ h.newmap (KeepS.alloc _))
end
end Go.Proofs.YtjdenpmaianmfaaDoor.Sep
namespace Go.Proofs.YtjdenpmaianmfaaDoor.J
set_option linter.unusedSimpArgs false
set_option linter.unusedVariables false
open Go RowKit Go.Maps YtjdenpmaianmfaaDoorW.PrintWords YtjdenpmaianmfaaDoorW.PrintLast YtjdenpmaianmfaaDoorW.PrintMore YtjdenpmaianmfaaDoor.Sep
def encV (v : Val) : DataW Unit := .agg [.lit (.int .i64 v.1), .lit (.int .i64 v.2.1), .lit (.string v.2.2.data.toList)]
abbrev valV (v : Val) : Value := .agg #[.int .i64 v.1, .int .i64 v.2.1, .string v.2.2]
def rdV : Value → Option (DataW Unit × List MemPlace)
 | .agg cs => match cs.toList with
  | [.int .i64 a, .int .i64 n, .string s] => some (encV (a, n, s), [])
  | _ => none
 | _ => none
theorem rdV_mk (v : Val) : rdV (valV v) = some (encV v, []) := rfl
theorem encV_inj {v m : Val} (h : encV v = encV m) : v = m := by
 obtain ⟨a, b, ⟨⟨c⟩⟩⟩ := v
 obtain ⟨a', b', ⟨⟨c'⟩⟩⟩ := m
 simp only [encV, DataW.agg.injEq, List.cons.injEq, DataW.lit.injEq, Lit.int.injEq, Lit.string.injEq, and_true, true_and] at h
 obtain ⟨rfl, rfl, rfl⟩ := h
 rfl
theorem rdV_inv {v : Value} {m : Val} {ps : List MemPlace} (h : rdV v = some (encV m, ps)) : v = valV m := by
 unfold rdV at h
 split at h
 ·rename_i cs
  split at h
  ·rename_i a n s e
   simp only [Option.some.injEq, Prod.mk.injEq] at h
   have := encV_inj h.1
   subst this
   have : cs = #[.int .i64 a, .int .i64 n, .string s] := by rw [← e]
   rw [this]
  ·simp at h
 ·simp at h
abbrev zeroV : Val := (0, 0, none')
abbrev lk (key : ByteArray) : Lit := .string key.data.toList
theorem lk_inj {a b : ByteArray} (h : lk a = lk b) : a = b := by
 obtain ⟨⟨a⟩⟩ := a
 obtain ⟨⟨b⟩⟩ := b
 simp only [Lit.string.injEq] at h
 subst h
 rfl
theorem lk_key (key : ByteArray) : WideAt.IsKeyLit (lk key) := trivial
def upd (M : ByteArray → Val) (key : ByteArray) (v : Val) : ByteArray → Val := fun k => if k = key then v else M k
theorem strike_len {key : ByteArray} : ∀ ks : List ByteArray, ks.Nodup → key ∈ ks → (ks.filter (fun k => decide (k ≠ key))).length + 1 = ks.length
 | [], _, h => by simp at h
 | x :: r, hn, h => by
  obtain ⟨h1, h2⟩ := List.nodup_cons.1 hn
  by_cases e : x = key
  ·subst e
   have : r.filter (fun k => decide (k ≠ x)) = r := List.filter_eq_self.2 (fun a ha => by
    have : a ≠ x := fun q => h1 (q ▸ ha)
    simp [this])
   rw [List.filter_cons, if_neg (by simp), this]
   rfl
  ·have hr : key ∈ r := by
    rcases List.mem_cons.1 h with q | q
    ·exact absurd q.symm e
    ·exact q
   have := strike_len r h2 hr
   rw [List.filter_cons, if_pos (by simp [e]), List.length_cons, List.length_cons]
   omega
structure Rep (D : DataW Unit) (M : ByteArray → Val) : Prop where
 tidy : Tidy D
 look : ∀ key, D.atKey (lk key) (encV zeroV) = encV (M key)
 hold : ∀ key, Maps.has D (lk key) = true ↔ (M key).1 ≠ 0
 keys : ∃ ks : List ByteArray, ks.Nodup ∧ (∀ key, key ∈ ks ↔ (M key).1 ≠ 0) ∧ size D = ks.length
 good : ∀ key, good (M key) = true
theorem Rep.nil : Rep (.map []) (fun _ => zeroV) :=
 ⟨tidy_empty, fun _ => rfl, fun key => by simp [Maps.has], ⟨[], List.nodup_nil, fun key => by simp, rfl⟩, fun _ => good_zero⟩
theorem Rep.put {D : DataW Unit} {M : ByteArray → Val} (h : Rep D M) (key : ByteArray) {v : Val} (hv : J.good v = true) (hk : v.1 ≠ 0) : Rep (D.put (lk key) (encV v)) (upd M key v) := by
 refine ⟨h.tidy.put (lk_key key) _, fun k => ?_, fun k => ?_, ?_, fun k => ?_⟩
 ·unfold upd
  by_cases e : k = key
  ·subst e
   rw [if_pos rfl, atKey_put_same h.tidy.isMap (lk_key k)]
  ·rw [if_neg e, atKey_put_other (fun q => e (lk_inj q)), h.look]
 ·unfold upd
  by_cases e : k = key
  ·subst e
   rw [if_pos rfl, has_put_same h.tidy.isMap (lk_key k)]
   simp [hk]
  ·rw [if_neg e, has_put_other (fun q => e (lk_inj q)), h.hold]
 ·obtain ⟨ks, h1, h2, h3⟩ := h.keys
  have hs := size_put (k := lk key) h.tidy (encV v)
  by_cases hin : Maps.has D (lk key) = true
  ·refine ⟨ks, h1, fun k => ?_, by rw [hs, if_pos hin, h3]⟩
   unfold upd
   by_cases e : k = key
   ·subst e
    rw [if_pos rfl, h2, ← h.hold]
    simp [hin, hk]
   ·rw [if_neg e, h2]
  ·have hnk : key ∉ ks := fun q => hin ((h.hold key).2 ((h2 key).1 q))
   refine ⟨key :: ks, List.nodup_cons.2 ⟨hnk, h1⟩, fun k => ?_, by rw [hs, if_neg hin, h3]; rfl⟩
   unfold upd
   by_cases e : k = key
   ·subst e
    simp [hk]
   ·rw [if_neg e, List.mem_cons, h2]
    simp [e]
 ·unfold upd
  split
  ·exact hv
  ·exact h.good k
theorem Rep.del {D : DataW Unit} {M : ByteArray → Val} (h : Rep D M) (key : ByteArray) : Rep (D.del (lk key)) (upd M key zeroV) := by
 refine ⟨h.tidy.del _, fun k => ?_, fun k => ?_, ?_, fun k => ?_⟩
 ·unfold upd
  by_cases e : k = key
  ·subst e
   rw [if_pos rfl, atKey_del_same]
  ·rw [if_neg e, atKey_del_other (fun q => e (lk_inj q)), h.look]
 ·unfold upd
  by_cases e : k = key
  ·subst e
   rw [if_pos rfl, has_del_same]
   simp
  ·rw [if_neg e, has_del_other (fun q => e (lk_inj q)), h.hold]
 ·obtain ⟨ks, h1, h2, h3⟩ := h.keys
  have hs := size_del (k := lk key) h.tidy
  by_cases hin : Maps.has D (lk key) = true
  ·refine ⟨ks.filter (fun k => decide (k ≠ key)), h1.filter _, fun k => ?_, ?_⟩
   ·unfold upd
    by_cases e : k = key
    ·subst e
     rw [if_pos rfl]
     simp
    ·rw [if_neg e, ← h2]
     simp [e]
   ·have hk : key ∈ ks := (h2 key).2 ((h.hold key).1 hin)
    have := strike_len ks h1 hk
    rw [if_pos hin] at hs
    omega
  ·refine ⟨ks, h1, fun k => ?_, by rw [if_neg hin] at hs; omega⟩
   unfold upd
   by_cases e : k = key
   ·subst e
    rw [if_pos rfl, h2, ← h.hold]
    simp [hin]
   ·rw [if_neg e, h2]
 ·unfold upd
  split
  ·exact good_zero
  ·exact h.good k
theorem strK : Keyed Tryd.prog 9 := string_keyed Tryd.underlying9
theorem keyS (key : ByteArray) (hs : key.size ≤ maxLen) : keyOf Tryd.prog 9 (.string key) = some (lk key) := by simp [keyOf, Tryd.underlying9, mapKey, hs]
abbrev mpV (b n : Nat) (D : DataW Unit) : HP := mp Tryd.prog 9 rdV b n D
def StoreO (g n : Nat) (M : ByteArray → Val) : HP := ex fun D : DataW Unit => ex fun b : Nat => also (Rep D M) (star (cells g #[.map (some b)] 152) (mpV b n D))
theorem StoreO.open_ {N : Nat → Prop} {w : World} {l : List HP} {i g n : Nat} {M : ByteArray → Val} (h : Own N w l) (hi : l[i]? = some (StoreO g n M)) :
  ∃ D b, Rep D M ∧ Own N w ((l.set i (cells g #[.map (some b)] 152)) ++ [mpV b n D]) := by
 have hlt : i < l.length := (List.getElem?_eq_some_iff.1 hi).1
 obtain ⟨D, h1⟩ := h.of_ex hi
 obtain ⟨b, h2⟩ := h1.of_ex (i := i) (List.getElem?_set_self hlt)
 rw [List.set_set] at h2
 obtain ⟨hr, h3⟩ := h2.of_also (i := i) (List.getElem?_set_self hlt)
 rw [List.set_set] at h3
 have h4 := h3.split (i := i) (List.getElem?_set_self hlt)
 rw [List.set_set] at h4
 exact ⟨D, b, hr, h4⟩
theorem StoreO.shut {N : Nat → Prop} {w : World} {l : List HP} {i j g n b : Nat} {D : DataW Unit} {M : ByteArray → Val} (hr : Rep D M) (h : Own N w l) (hi : l[i]? = some (cells g #[.map (some b)] 152)) (hj : l[j]? = some (mpV b n D)) (hij : i ≠ j) :
  Own N w ((l.set i (StoreO g n M)).set j emp) := by
 have h2 := h.join hi hj hij
 have hlt : i < l.length := (List.getElem?_eq_some_iff.1 hi).1
 have h3 := h2.conv (i := i) (P := star (cells g #[.map (some b)] 152) (mpV b n D)) (by
  rw [List.getElem?_set_ne (fun e => hij e.symm), List.getElem?_set_self hlt]) (StoreO g n M) (fun F hp _ => ⟨D, b, hr, hp⟩)
 rw [List.set_comm _ _ hij, List.set_set, List.set_comm _ _ hij.symm] at h3
 exact h3
theorem zeroVal (w : World) : (zeroValue 49).run Tryd.prog w = .ok (valV zeroV) w := by kernel_rfl
theorem look_ {w : World} {b n : Nat} {D : DataW Unit} {M : ByteArray → Val} (h : w.ownsMap Tryd.prog 9 rdV b n D) (R : Rep D M) (key : ByteArray) (hs : key.size ≤ maxLen) :
  (Instr.lookup 150 (.map (some b)) (.string key) false).run Tryd.prog w = .ok (valV (M key)) w := by
 obtain ⟨v, ps, hrun, hv⟩ := h.lookup strK Tryd.underlying150 (zeroVal w) (rdV_mk zeroV) (keyS key hs)
 rw [R.look key] at hv
 rw [hrun, rdV_inv hv]
section
variable {P : Program} {K : TypeId} {R : Value → Option (DataW Unit × List MemPlace)} {ops : Array Oper} {o : Oper} {a : Act} {Q : Exit → Act → World → Prop} {Kc : Act → World → Prop} {N : Nat → Prop} {W : World} {l : List HP} {i b n : Nat} {D : DataW Unit}
theorem mapset_step {N' : Option Tmp} {e : TypeId} (h : Own N W l) (hi : l[i]? = some (mp P K R b n D)) (m x v : Operand) (t : TypeId) (LK : Keyed P K) (ht : P.underlying t = some (.map K e)) (hn : n < maxLen) (key val : Value) (kl : Lit) (d : DataW Unit) (ps : List MemPlace)
  (hkey : keyOf P K key = some kl) (hval : R val = some (d, ps)) (hc : ∀ w1, Own N w1 (l.set i (mp P K R b (n + 1) (D.put kl d))) → KeepS N W w1 → Kc (a.put N' undef) w1)
  (hop : o.op = Op.mapUpdate t m x v := by rfl) (hN : o.dst = N' := by rfl) (hw : Region.wanted o (yielded ops a.tmps) = true := by rfl) (hm : a.eval m = .map (some b) := by rfl) (hx : a.eval x = key := by rfl) (hv : a.eval v = val := by rfl) :
  if Region.wanted o (yielded ops a.tmps) = true then Oper.wp P o a W Kc Q else Kc (a.put N' undef) W := by
 subst hN
 obtain ⟨w', hrun, r1, r2⟩ := (h.map hi).update LK ht hn hkey hval
 obtain ⟨q1, q2⟩ := h.mapset hi r1 r2
 rw [if_pos hw]
 unfold Oper.wp
 simp [execOp, hop, hm, hx, hv, hrun, Result.andThen]
 exact hc w' q1 q2
theorem mapdel_step {N' : Option Tmp} {e : TypeId} (h : Own N W l) (hi : l[i]? = some (mp P K R b n D)) (m x : Operand) (t : TypeId) (LK : Keyed P K) (ht : P.underlying t = some (.map K e)) (key : Value) (kl : Lit)
  (hkey : keyOf P K key = some kl) (hc : ∀ w1, Own N w1 (l.set i (mp P K R b n (D.del kl))) → KeepS N W w1 → Kc (a.put N' (.tuple #[])) w1)
  (hop : o.op = Op.call { callee := Callee.builtin Builtin.delete, args := #[m, x], argTypes := #[t, K] } := by rfl) (hN : o.dst = N' := by rfl) (hw : Region.wanted o (yielded ops a.tmps) = true := by rfl) (hm : a.eval m = .map (some b) := by rfl) (hx : a.eval x = key := by rfl) :
  if Region.wanted o (yielded ops a.tmps) = true then Oper.wp P o a W Kc Q else Kc (a.put N' undef) W := by
 subst hN
 obtain ⟨w', hrun, r1, r2⟩ := (h.map hi).drop LK ht hkey o.type
 obtain ⟨q1, q2⟩ := h.mapset hi r1 r2.grown
 rw [if_pos hw]
 unfold Oper.wp
 simp [execOp, hop, resolve, invoke, builtin, hm, hx, hrun, Result.andThen]
 exact hc w' q1 q2
end
end Go.Proofs.YtjdenpmaianmfaaDoor.J
namespace Go.Proofs.YtjdenpmaianmfaaDoor.J
set_option maxHeartbeats 16000000
set_option maxRecDepth 100000
set_option linter.unusedSimpArgs false
set_option linter.unusedVariables false
open Go RowKit Go.Maps YtjdenpmaianmfaaDoorW.PrintWords YtjdenpmaianmfaaDoorW.PrintLast YtjdenpmaianmfaaDoorW.PrintMore YtjdenpmaianmfaaDoor.Sep Q YtjdenpmaianmfaaDoor.Pure
def doU (M : ByteArray → Val) (key : ByteArray) (c n : Int) (s : ByteArray) : ByteArray → Val := if may key c n s = 0 then upd M key (app (M key) c n s) else M
theorem may_app {key : ByteArray} {c n : Int} {s : ByteArray} (h : may key c n s = 0) : key.size ≤ maxLen ∧ s.size ≤ 32 ∧ (-9223372036854775808 ≤ n ∧ n ≤ 9223372036854775807) := by
 obtain ⟨h1, h2, h3, h4, h5, h6, h7⟩ := may_zero h
 refine ⟨by simp only [maxLen]; omega, ?_, ?_⟩
 ·rcases (by omega : c = 1 ∨ c = 3 ∨ c = 2 ∨ c = 4 ∨ c = 5) with q | q | q | q | q
  ·have := h5 (.inl q); omega
  ·have := h5 (.inr q); omega
  ·have := h6 (.inl q); omega
  ·have := h6 (.inr q); omega
  ·have := h7 q; omega
 ·rcases (by omega : c = 1 ∨ c = 3 ∨ c = 2 ∨ c = 4 ∨ c = 5) with q | q | q | q | q
  ·have := h5 (.inl q); omega
  ·have := h5 (.inr q); omega
  ·have := h6 (.inl q); omega
  ·have := h6 (.inr q); omega
  ·have := h7 q; omega
theorem good_kind {v : Val} (h : J.good v = true) (h0 : v.1 = 0) : v = zeroV := by
 rcases good_cases h with e | ⟨n, e⟩ | ⟨s, _, e⟩
 ·exact e
 ·rw [e] at h0; simp at h0
 ·rw [e] at h0; simp at h0
theorem good_app2 {M : ByteArray → Val} {D : DataW Unit} (hR : Rep D M) {key : ByteArray} {c n : Int} {s : ByteArray} (h : may key c n s = 0) : J.good (app (M key) c n s) = true := good_app (hR.good key) (Nat.le_trans (may_app h).2.1 (by decide))
theorem apply_f {M : ByteArray → Val} {D : DataW Unit} (hR : Rep D M) {key : ByteArray} {c n : Int} {s : ByteArray} (h : may key c n s = 0) : value_Apply.f (M key).1 (M key).2.1 (M key).2.2 key c n s = some ((app (M key) c n s).1, (app (M key) c n s).2.1, (app (M key) c n s).2.2) := by
 unfold value_Apply.f
 rw [if_pos ⟨hR.good key, Nat.le_trans (may_app h).2.1 (by decide), (may_app h).2.2⟩]
theorem StNew {N : Nat → Prop} {w : World} (h : Own N w []) :
  Calls Tryd.prog 102 #[] w fun e_ w' => ∃ g, e_ = .returned (.pointer (some ⟨g, 0, none⟩)) ∧ Own N w' [StoreO g 0 (fun _ => zeroV)] ∧ KeepS N w w' := by
 have O0 : Aside0 (Own N w []) := ⟨h⟩
 have K0 : Aside0 (KeepS N w w) := ⟨KeepS.refl _ _⟩
 clear h
 go_enter Tryd.func102, Tryd.ntmps102
 go_wp2_with (first | ((with_reducible refine gD 1 rfl ?_); refine own_map Tryd.prog 9 rdV rfl (T := 1) rfl gs_ O0.out ?_; intro b w1 o_ k_; obtain ⟨O1, K1⟩ := ok_ K0 o_ k_; clear O0 K0 o_ k_) | ((with_reducible refine gD 3 rfl ?_); refine bP 3 #[.map (some b)] 152 O1.out ?_; intro g w2 o_ k_; obtain ⟨O2, K2⟩ := ok_ K1 o_ k_; clear O1 K1 o_ k_; have a1 := k1_ O2 1))
 go_ret
 exact ⟨g, rfl, (StoreO.shut (i := 1) (j := 0) (n := 0) Rep.nil O2.out rfl rfl (by decide)).pickL [1] (by decide) (by simp), K2.out⟩
theorem StDo_no {N : Nat → Prop} {w : World} {g m : Nat} {M : ByteArray → Val} (key : ByteArray) (c n : Int) (s : ByteArray) (h : Own N w [StoreO g m M]) (hm : may key c n s ≠ 0) :
  Calls Tryd.prog 103 #[.pointer (some ⟨g, 0, none⟩), .agg #[key, c, n, s]] w fun e_ w' => ∃ x : Int, e_ = .returned (.int .i64 x) ∧ Own N w' [StoreO g m M] ∧ KeepS N w w' := by
 have d1 : (may key c n s != 0) = true := by simp [hm]
 have d2 : (may key c n s == 0) = false := by simp [hm]
 obtain ⟨D, b, hR, h1⟩ := StoreO.open_ h (i := 0) rfl
 have HR := Am hR
 have O0 : Aside0 (Own N w [cells g #[.map (some b)] 152, mpV b m D]) := ⟨h1⟩
 have K0 : Aside0 (KeepS N w w) := ⟨KeepS.refl _ _⟩
 have a0 := k1_ O0 0
 clear h1 h hR
 go_enter Tryd.func103, Tryd.ntmps103
 go_wp2_with (first | ((with_reducible refine gD 3 rfl ?_); refine bP 3 #[key, c, n, s] 32 O0.out ?_; intro ga w1 o_ k_; obtain ⟨O1, K1⟩ := ok_ K0 o_ k_; clear a0 O0 K0 o_ k_; have a0 := k1_ O1 0; have a2 := k4_ O1 2) | ((with_reducible refine gC 69 rfl ?_); refine gP (some 8) Tryd.func69 #[.agg #[key, c, n, s]] ?_; refine (value_May.calls 4 key c n s (may key c n s) _ (may_ok 0 key c n s)).mono ?_; rintro e_ w2 ⟨rfl, hb_⟩; refine ⟨_, rfl, ?_⟩; obtain ⟨O2, K2⟩ := ob_ K1 O1 hb_; clear a0 a2 O1 K1 hb_; have a0 := k1_ O2 0; have a2 := k4_ O2 2))
 go_ret
 exact ⟨_, rfl, (StoreO.shut (i := 0) (j := 1) HR.out O2.out rfl rfl (by decide)).take 1, K2.out⟩
theorem StDo_gone {N : Nat → Prop} {w : World} {g m : Nat} {M : ByteArray → Val} (key : ByteArray) (c n : Int) (s : ByteArray) (h : Own N w [StoreO g m M]) (hm : may key c n s = 0) (hk : (app (M key) c n s).1 = 0) :
  Calls Tryd.prog 103 #[.pointer (some ⟨g, 0, none⟩), .agg #[key, c, n, s]] w fun e_ w' => ∃ x : Int, e_ = .returned (.int .i64 x) ∧ Own N w' [StoreO g m (doU M key c n s)] ∧ KeepS N w w' := by
 have HM := Am hm
 have hsz := (may_app hm).1
 have HSZ := Am hsz
 have d1 : ((0 : Int) != 0) = false := by decide
 obtain ⟨D, b, hR, h1⟩ := StoreO.open_ h (i := 0) rfl
 have HR := Am hR
 have O0 : Aside0 (Own N w [cells g #[.map (some b)] 152, mpV b m D]) := ⟨h1⟩
 have K0 : Aside0 (KeepS N w w) := ⟨KeepS.refl _ _⟩
 have a0 := k1_ O0 0
 clear h1 h hR
 obtain ⟨v, hv⟩ : ∃ v, v = app (M key) c n s := ⟨_, rfl⟩
 have HV := Am hv
 have d3 : (v.1 == 0) = true := by rw [hv]; simp [hk]
 clear hsz hm hv
 go_enter Tryd.func103, Tryd.ntmps103
 go_wp2_with (first | ((with_reducible refine gD 3 rfl ?_); refine bP 3 #[key, c, n, s] 32 O0.out ?_; intro ga w1 o_ k_; obtain ⟨O1, K1⟩ := ok_ K0 o_ k_; clear a0 O0 K0 o_ k_; have a0 := k1_ O1 0; have a2 := k4_ O1 2) | ((with_reducible refine gC 69 rfl ?_); refine gP (some 8) Tryd.func69 #[.agg #[key, c, n, s]] ?_; refine (value_May.calls 4 key c n s 0 _ ((may_ok 0 key c n s).trans (by rw [HM.out]))).mono ?_; rintro e_ w2 ⟨rfl, hb_⟩; refine ⟨_, rfl, ?_⟩; obtain ⟨O2, K2⟩ := ob_ K1 O1 hb_; clear a0 a2 O1 K1 hb_; have a0 := k1_ O2 0; have a2 := k4_ O2 2))
 have hz0 : ∀ W_ : World, (zeroValue 49).run Tryd.prog W_ = .ok (valV zeroV) W_ := zeroVal
 refine sP (n := 11) (S := fun w' => w'.cell? ⟨g, 0, none⟩ = some (.map (some b)) ∧ w'.cell? ⟨ga, 0, none⟩ = some (.string key) ∧ w'.cell? ⟨ga, 1, none⟩ = some (.int .i64 c) ∧ w'.cell? ⟨ga, 2, none⟩ = some (.int .i64 n) ∧ w'.cell? ⟨ga, 3, none⟩ = some (.string s) ∧ (Instr.lookup 150 (.map (some b)) (.string key) false).run Tryd.prog w' = .ok (valV (M key)) w') (ds := [10]) ⟨a0.1, a2.1, a2.2.1, a2.2.2.1, a2.2.2.2.1, look_ (O2.out.drew.map (i := 1) rfl) HR.out key HSZ.out⟩ (fun hHeld => ?_)
 obtain ⟨w3, hw_⟩ : ∃ W, W = w2.drew := ⟨_, rfl⟩
 have o_ := O2.out.drew
 have k_ : KeepS N w2 w2.drew := KeepS.drew
 rw [← hw_] at o_ k_ hHeld ⊢
 clear hw_
 obtain ⟨O3, K3⟩ := ok_ K2 o_ k_
 clear a0 a2 O2 K2 o_ k_
 have a0 := k1_ O3 0
 have a2 := k4_ O3 2
 refine pP 0 (some 12) ?_
 refine pP 1 (some 13) ?_
 refine pP 2 (some 14) ?_
 refine pP 4 (some 16) ?_
 refine tP 3 (some 15) hHeld ?_
 refine tP 5 (some 17) hHeld ?_
 refine tP 6 (some 18) hHeld ?_
 refine tP 7 (some 19) hHeld ?_
 refine join_ (σ := Nat) 1 #[true, true, true, true, true, true, true, true, true, true, false] (fun gv => [(20, .agg #[.int .i64 v.1, .int .i64 v.2.1, .string v.2.2]), (6, .pointer (some ⟨gv, 0, none⟩))]) (fun gv w' => Own N w' [cells g #[.map (some b)] 152, mpV b m D, cells ga #[key, c, n, s] 32, cells gv #[.int .i64 0, .int .i64 0, .string ⟨#[]⟩] 49] ∧ KeepS N w3 w') ?hcont ?hways
 case hways =>
  intro hc_
  have K4 : Aside0 (KeepS N w3 w3) := ⟨KeepS.refl _ _⟩
  have O4 : Aside0 (Own N w3 [cells g #[.map (some b)] 152, mpV b m D, cells ga #[key, c, n, s] 32]) := O3
  refine tW_ 8 9 (some 20) (some 6) (fun K_ hK_ => ?_) (fun K_ hK_ => ?_)
  ·skip
   refine hP Tryd.func110 #[.agg #[.int .i64 (M key).1, .int .i64 (M key).2.1, .string (M key).2.2], .agg #[key, c, n, s]] ?_
   refine (value_Apply.calls (M key).1 (M key).2.1 (M key).2.2 key c n s v.1 v.2.1 v.2.2 _ (by rw [HV.out]; exact apply_f HR.out HM.out)).mono ?_
   rintro e_ w5 ⟨rfl, hb_⟩
   refine ⟨_, rfl, ?_⟩
   obtain ⟨O5, K5⟩ := ob_ K4 O4 hb_
   clear a0 a2 O4 K4 hb_
   have a0 := k1_ O5 0
   have a2 := k4_ O5 2
   clear hHeld
   refine hK_.out _ _ ⟨a0.1, a2.1, a2.2.1, a2.2.2.1, a2.2.2.2.1, look_ (O5.out.map (i := 1) rfl) HR.out key HSZ.out⟩ (fun hHeld => ?_)
   clear hK_ K_
   refine nR_ ?_
   refine oP 9 (some 6) (fun K_ hK_ => ?_)
   refine cP #[.int .i64 0, .int .i64 0, .string ⟨#[]⟩] 49 O5.out ?_
   intro gv w6 o_ k_
   obtain ⟨O6, K6⟩ := ok_ K5 o_ k_
   clear a0 a2 O5 K5 o_ k_
   have a0 := k1_ O6 0
   have a2 := k4_ O6 2
   have a3 := k3_ O6 3
   clear hHeld
   refine hK_.out _ _ ⟨a0.1, a2.1, a2.2.1, a2.2.2.1, a2.2.2.2.1, look_ (O6.out.map (i := 1) rfl) HR.out key HSZ.out⟩ (fun hHeld => ?_)
   clear hK_ K_
   refine nR_ ?_
   refine norm_ (a' := _) ?_ (hc_ gv _ ⟨?_, K6.out⟩)
   ·simp only [putAll, Act.put, List.setIfInBounds_toArray, List.set_cons_zero, List.set_cons_succ]
    try rfl
   ·exact O6.out.pickL [0, 1, 2, 3] (by decide) (by simp)
  ·skip
   refine cP #[.int .i64 0, .int .i64 0, .string ⟨#[]⟩] 49 O4.out ?_
   intro gv w5 o_ k_
   obtain ⟨O5, K5⟩ := ok_ K4 o_ k_
   clear a0 a2 O4 K4 o_ k_
   have a0 := k1_ O5 0
   have a2 := k4_ O5 2
   have a3 := k3_ O5 3
   clear hHeld
   refine hK_.out _ _ ⟨a0.1, a2.1, a2.2.1, a2.2.2.1, a2.2.2.2.1, look_ (O5.out.map (i := 1) rfl) HR.out key HSZ.out⟩ (fun hHeld => ?_)
   clear hK_ K_
   refine nR_ ?_
   refine oP 8 (some 20) (fun K_ hK_ => ?_)
   refine hP Tryd.func110 #[.agg #[.int .i64 (M key).1, .int .i64 (M key).2.1, .string (M key).2.2], .agg #[key, c, n, s]] ?_
   refine (value_Apply.calls (M key).1 (M key).2.1 (M key).2.2 key c n s v.1 v.2.1 v.2.2 _ (by rw [HV.out]; exact apply_f HR.out HM.out)).mono ?_
   rintro e_ w6 ⟨rfl, hb_⟩
   refine ⟨_, rfl, ?_⟩
   obtain ⟨O6, K6⟩ := ob_ K5 O5 hb_
   clear a0 a2 a3 O5 K5 hb_
   have a0 := k1_ O6 0
   have a2 := k4_ O6 2
   have a3 := k3_ O6 3
   clear hHeld
   refine hK_.out _ _ ⟨a0.1, a2.1, a2.2.1, a2.2.2.1, a2.2.2.2.1, look_ (O6.out.map (i := 1) rfl) HR.out key HSZ.out⟩ (fun hHeld => ?_)
   clear hK_ K_
   refine nR_ ?_
   refine norm_ (a' := _) ?_ (hc_ gv _ ⟨?_, K6.out⟩)
   ·simp only [putAll, Act.put, List.setIfInBounds_toArray, List.set_cons_zero, List.set_cons_succ]
    try rfl
   ·exact O6.out.pickL [0, 1, 2, 3] (by decide) (by simp)
 case hcont =>
  clear hHeld
  rintro gv w4 ⟨o_, k_⟩
  obtain ⟨O4, K4⟩ := ok_ K3 o_ k_
  clear a0 a2 O3 K3 o_ k_
  have a0 := k1_ O4 0
  have a2 := k4_ O4 2
  have a3 := k3_ O4 3
  refine nA_ ?_
  have hHeld : w4.cell? ⟨g, 0, none⟩ = some (.map (some b)) ∧ w4.cell? ⟨ga, 0, none⟩ = some (.string key) ∧ w4.cell? ⟨ga, 1, none⟩ = some (.int .i64 c) ∧ w4.cell? ⟨ga, 2, none⟩ = some (.int .i64 n) ∧ w4.cell? ⟨ga, 3, none⟩ = some (.string s) ∧ (Instr.lookup 150 (.map (some b)) (.string key) false).run Tryd.prog w4 = .ok (valV (M key)) w4 := ⟨a0.1, a2.1, a2.2.1, a2.2.2.1, a2.2.2.2.1, look_ (O4.out.map (i := 1) rfl) HR.out key HSZ.out⟩
  refine lP 10 none (fun K_ hK_ => ?_)
  refine xS 3 0 [.int .i64 v.1, .int .i64 v.2.1, .string v.2.2] O4 ?_
  intro w5 o_ k_
  obtain ⟨O5, K5⟩ := ok_ K4 o_ k_
  clear a0 a2 a3 O4 K4 o_ k_
  have a0 := k1_ O5 0
  have a2 := k4_ O5 2
  have a3 := k3_ O5 3
  refine hK_.out _ _ ?_
  clear hK_ K_
  refine dN ?_
  clear hHeld
  go_wp2
  refine sP (n := 7) (S := d1_ g (.map (some b)) (c4_ ga (.string key) (.int .i64 c) (.int .i64 n) (.string s))) (ds := [6]) (j1_ a0 (p4_ a2)) (fun hHeld => ?_)
  obtain ⟨w6, hw_⟩ : ∃ W, W = w5.drew := ⟨_, rfl⟩
  have o_ := O5.out.drew
  have k_ : KeepS N w5 w5.drew := KeepS.drew
  rw [← hw_] at o_ k_ hHeld ⊢
  clear hw_
  obtain ⟨O6, K6⟩ := ok_ K5 o_ k_
  clear a0 a2 a3 O5 K5 o_ k_
  have a0 := k1_ O6 0
  have a2 := k4_ O6 2
  have a3 := k3_ O6 3
  refine pP 0 (some 24) ?_
  refine pP 1 (some 25) ?_
  refine pP 2 (some 26) ?_
  refine pP 4 (some 28) ?_
  refine tP 3 (some 27) hHeld ?_
  refine tP 5 (some 29) hHeld ?_
  refine lP 6 none (fun K_ hK_ => ?_)
  refine mapdel_step O6.out (i := 1) rfl (.tmp 27) (.tmp 29) 150 strK Tryd.underlying150 (.string key) (lk key) (keyS key HSZ.out) ?_
  intro w7 o_ k_
  obtain ⟨O7, K7⟩ := ok_ K6 o_ k_
  clear a0 a2 a3 O6 K6 o_ k_
  have a0 := k1_ O7 0
  have a2 := k4_ O7 2
  have a3 := k3_ O7 3
  refine hK_.out _ _ ?_
  clear hK_ K_
  refine dN ?_
  clear hHeld
  go_wp2
  go_ret
  have hz : v = zeroV := by have h_ := good_app2 HR.out HM.out; rw [← HV.out] at h_; exact good_kind h_ (by simpa using d3)
  have hM : doU M key c n s = upd M key zeroV := by unfold doU; rw [if_pos HM.out, ← HV.out, hz]
  rw [hM]
  exact ⟨_, rfl, (StoreO.shut (i := 0) (j := 1) (HR.out.del key) O7.out rfl rfl (by decide)).take 1, K7.out⟩
theorem StDo_put {N : Nat → Prop} {w : World} {g m : Nat} {M : ByteArray → Val} (key : ByteArray) (c n : Int) (s : ByteArray) (h : Own N w [StoreO g m M]) (hm : may key c n s = 0) (hk : (app (M key) c n s).1 ≠ 0) (HN_ : Aside0 (m < 1000000)) :
  Calls Tryd.prog 103 #[.pointer (some ⟨g, 0, none⟩), .agg #[key, c, n, s]] w fun e_ w' => ∃ x : Int, e_ = .returned (.int .i64 x) ∧ Own N w' [StoreO g (m + 1) (doU M key c n s)] ∧ KeepS N w w' := by
 have HM := Am hm
 have hsz := (may_app hm).1
 have HSZ := Am hsz
 have d1 : ((0 : Int) != 0) = false := by decide
 obtain ⟨D, b, hR, h1⟩ := StoreO.open_ h (i := 0) rfl
 have HR := Am hR
 have O0 : Aside0 (Own N w [cells g #[.map (some b)] 152, mpV b m D]) := ⟨h1⟩
 have K0 : Aside0 (KeepS N w w) := ⟨KeepS.refl _ _⟩
 have a0 := k1_ O0 0
 clear h1 h hR
 obtain ⟨v, hv⟩ : ∃ v, v = app (M key) c n s := ⟨_, rfl⟩
 have HV := Am hv
 have d3 : (v.1 == 0) = false := by rw [hv]; simp [hk]
 clear hsz hm hv
 go_enter Tryd.func103, Tryd.ntmps103
 go_wp2_with (first | ((with_reducible refine gD 3 rfl ?_); refine bP 3 #[key, c, n, s] 32 O0.out ?_; intro ga w1 o_ k_; obtain ⟨O1, K1⟩ := ok_ K0 o_ k_; clear a0 O0 K0 o_ k_; have a0 := k1_ O1 0; have a2 := k4_ O1 2) | ((with_reducible refine gC 69 rfl ?_); refine gP (some 8) Tryd.func69 #[.agg #[key, c, n, s]] ?_; refine (value_May.calls 4 key c n s 0 _ ((may_ok 0 key c n s).trans (by rw [HM.out]))).mono ?_; rintro e_ w2 ⟨rfl, hb_⟩; refine ⟨_, rfl, ?_⟩; obtain ⟨O2, K2⟩ := ob_ K1 O1 hb_; clear a0 a2 O1 K1 hb_; have a0 := k1_ O2 0; have a2 := k4_ O2 2))
 have hz0 : ∀ W_ : World, (zeroValue 49).run Tryd.prog W_ = .ok (valV zeroV) W_ := zeroVal
 refine sP (n := 11) (S := fun w' => w'.cell? ⟨g, 0, none⟩ = some (.map (some b)) ∧ w'.cell? ⟨ga, 0, none⟩ = some (.string key) ∧ w'.cell? ⟨ga, 1, none⟩ = some (.int .i64 c) ∧ w'.cell? ⟨ga, 2, none⟩ = some (.int .i64 n) ∧ w'.cell? ⟨ga, 3, none⟩ = some (.string s) ∧ (Instr.lookup 150 (.map (some b)) (.string key) false).run Tryd.prog w' = .ok (valV (M key)) w') (ds := [10]) ⟨a0.1, a2.1, a2.2.1, a2.2.2.1, a2.2.2.2.1, look_ (O2.out.drew.map (i := 1) rfl) HR.out key HSZ.out⟩ (fun hHeld => ?_)
 obtain ⟨w3, hw_⟩ : ∃ W, W = w2.drew := ⟨_, rfl⟩
 have o_ := O2.out.drew
 have k_ : KeepS N w2 w2.drew := KeepS.drew
 rw [← hw_] at o_ k_ hHeld ⊢
 clear hw_
 obtain ⟨O3, K3⟩ := ok_ K2 o_ k_
 clear a0 a2 O2 K2 o_ k_
 have a0 := k1_ O3 0
 have a2 := k4_ O3 2
 refine pP 0 (some 12) ?_
 refine pP 1 (some 13) ?_
 refine pP 2 (some 14) ?_
 refine pP 4 (some 16) ?_
 refine tP 3 (some 15) hHeld ?_
 refine tP 5 (some 17) hHeld ?_
 refine tP 6 (some 18) hHeld ?_
 refine tP 7 (some 19) hHeld ?_
 refine join_ (σ := Nat) 1 #[true, true, true, true, true, true, true, true, true, true, false] (fun gv => [(20, .agg #[.int .i64 v.1, .int .i64 v.2.1, .string v.2.2]), (6, .pointer (some ⟨gv, 0, none⟩))]) (fun gv w' => Own N w' [cells g #[.map (some b)] 152, mpV b m D, cells ga #[key, c, n, s] 32, cells gv #[.int .i64 0, .int .i64 0, .string ⟨#[]⟩] 49] ∧ KeepS N w3 w') ?hcont ?hways
 case hways =>
  intro hc_
  have K4 : Aside0 (KeepS N w3 w3) := ⟨KeepS.refl _ _⟩
  have O4 : Aside0 (Own N w3 [cells g #[.map (some b)] 152, mpV b m D, cells ga #[key, c, n, s] 32]) := O3
  refine tW_ 8 9 (some 20) (some 6) (fun K_ hK_ => ?_) (fun K_ hK_ => ?_)
  ·skip
   refine hP Tryd.func110 #[.agg #[.int .i64 (M key).1, .int .i64 (M key).2.1, .string (M key).2.2], .agg #[key, c, n, s]] ?_
   refine (value_Apply.calls (M key).1 (M key).2.1 (M key).2.2 key c n s v.1 v.2.1 v.2.2 _ (by rw [HV.out]; exact apply_f HR.out HM.out)).mono ?_
   rintro e_ w5 ⟨rfl, hb_⟩
   refine ⟨_, rfl, ?_⟩
   obtain ⟨O5, K5⟩ := ob_ K4 O4 hb_
   clear a0 a2 O4 K4 hb_
   have a0 := k1_ O5 0
   have a2 := k4_ O5 2
   clear hHeld
   refine hK_.out _ _ ⟨a0.1, a2.1, a2.2.1, a2.2.2.1, a2.2.2.2.1, look_ (O5.out.map (i := 1) rfl) HR.out key HSZ.out⟩ (fun hHeld => ?_)
   clear hK_ K_
   refine nR_ ?_
   refine oP 9 (some 6) (fun K_ hK_ => ?_)
   refine cP #[.int .i64 0, .int .i64 0, .string ⟨#[]⟩] 49 O5.out ?_
   intro gv w6 o_ k_
   obtain ⟨O6, K6⟩ := ok_ K5 o_ k_
   clear a0 a2 O5 K5 o_ k_
   have a0 := k1_ O6 0
   have a2 := k4_ O6 2
   have a3 := k3_ O6 3
   clear hHeld
   refine hK_.out _ _ ⟨a0.1, a2.1, a2.2.1, a2.2.2.1, a2.2.2.2.1, look_ (O6.out.map (i := 1) rfl) HR.out key HSZ.out⟩ (fun hHeld => ?_)
   clear hK_ K_
   refine nR_ ?_
   refine norm_ (a' := _) ?_ (hc_ gv _ ⟨?_, K6.out⟩)
   ·simp only [putAll, Act.put, List.setIfInBounds_toArray, List.set_cons_zero, List.set_cons_succ]
    try rfl
   ·exact O6.out.pickL [0, 1, 2, 3] (by decide) (by simp)
  ·skip
   refine cP #[.int .i64 0, .int .i64 0, .string ⟨#[]⟩] 49 O4.out ?_
   intro gv w5 o_ k_
   obtain ⟨O5, K5⟩ := ok_ K4 o_ k_
   clear a0 a2 O4 K4 o_ k_
   have a0 := k1_ O5 0
   have a2 := k4_ O5 2
   have a3 := k3_ O5 3
   clear hHeld
   refine hK_.out _ _ ⟨a0.1, a2.1, a2.2.1, a2.2.2.1, a2.2.2.2.1, look_ (O5.out.map (i := 1) rfl) HR.out key HSZ.out⟩ (fun hHeld => ?_)
   clear hK_ K_
   refine nR_ ?_
   refine oP 8 (some 20) (fun K_ hK_ => ?_)
   refine hP Tryd.func110 #[.agg #[.int .i64 (M key).1, .int .i64 (M key).2.1, .string (M key).2.2], .agg #[key, c, n, s]] ?_
   refine (value_Apply.calls (M key).1 (M key).2.1 (M key).2.2 key c n s v.1 v.2.1 v.2.2 _ (by rw [HV.out]; exact apply_f HR.out HM.out)).mono ?_
   rintro e_ w6 ⟨rfl, hb_⟩
   refine ⟨_, rfl, ?_⟩
   obtain ⟨O6, K6⟩ := ob_ K5 O5 hb_
   clear a0 a2 a3 O5 K5 hb_
   have a0 := k1_ O6 0
   have a2 := k4_ O6 2
   have a3 := k3_ O6 3
   clear hHeld
   refine hK_.out _ _ ⟨a0.1, a2.1, a2.2.1, a2.2.2.1, a2.2.2.2.1, look_ (O6.out.map (i := 1) rfl) HR.out key HSZ.out⟩ (fun hHeld => ?_)
   clear hK_ K_
   refine nR_ ?_
   refine norm_ (a' := _) ?_ (hc_ gv _ ⟨?_, K6.out⟩)
   ·simp only [putAll, Act.put, List.setIfInBounds_toArray, List.set_cons_zero, List.set_cons_succ]
    try rfl
   ·exact O6.out.pickL [0, 1, 2, 3] (by decide) (by simp)
 case hcont =>
  clear hHeld
  rintro gv w4 ⟨o_, k_⟩
  obtain ⟨O4, K4⟩ := ok_ K3 o_ k_
  clear a0 a2 O3 K3 o_ k_
  have a0 := k1_ O4 0
  have a2 := k4_ O4 2
  have a3 := k3_ O4 3
  refine nA_ ?_
  have hHeld : w4.cell? ⟨g, 0, none⟩ = some (.map (some b)) ∧ w4.cell? ⟨ga, 0, none⟩ = some (.string key) ∧ w4.cell? ⟨ga, 1, none⟩ = some (.int .i64 c) ∧ w4.cell? ⟨ga, 2, none⟩ = some (.int .i64 n) ∧ w4.cell? ⟨ga, 3, none⟩ = some (.string s) ∧ (Instr.lookup 150 (.map (some b)) (.string key) false).run Tryd.prog w4 = .ok (valV (M key)) w4 := ⟨a0.1, a2.1, a2.2.1, a2.2.2.1, a2.2.2.2.1, look_ (O4.out.map (i := 1) rfl) HR.out key HSZ.out⟩
  refine lP 10 none (fun K_ hK_ => ?_)
  refine xS 3 0 [.int .i64 v.1, .int .i64 v.2.1, .string v.2.2] O4 ?_
  intro w5 o_ k_
  obtain ⟨O5, K5⟩ := ok_ K4 o_ k_
  clear a0 a2 a3 O4 K4 o_ k_
  have a0 := k1_ O5 0
  have a2 := k4_ O5 2
  have a3 := k3_ O5 3
  refine hK_.out _ _ ?_
  clear hK_ K_
  refine dN ?_
  clear hHeld
  go_wp2
  refine sP (n := 8) (S := d1_ g (.map (some b)) (d4_ ga (.string key) (.int .i64 c) (.int .i64 n) (.string s) (c3_ gv (.int .i64 v.1) (.int .i64 v.2.1) (.string v.2.2)))) (ds := [7]) (j1_ a0 (j4_ a2 (p3_ a3))) (fun hHeld => ?_)
  obtain ⟨w6, hw_⟩ : ∃ W, W = w5.drew := ⟨_, rfl⟩
  have o_ := O5.out.drew
  have k_ : KeepS N w5 w5.drew := KeepS.drew
  rw [← hw_] at o_ k_ hHeld ⊢
  clear hw_
  obtain ⟨O6, K6⟩ := ok_ K5 o_ k_
  clear a0 a2 a3 O5 K5 o_ k_
  have a0 := k1_ O6 0
  have a2 := k4_ O6 2
  have a3 := k3_ O6 3
  refine pP 0 (some 30) ?_
  refine pP 1 (some 31) ?_
  refine pP 2 (some 32) ?_
  refine pP 4 (some 34) ?_
  refine tP 3 (some 33) hHeld ?_
  refine tP 5 (some 35) hHeld ?_
  refine tP 6 (some 36) hHeld ?_
  refine lP 7 none (fun K_ hK_ => ?_)
  refine mapset_step O6.out (i := 1) rfl (.tmp 33) (.tmp 35) (.tmp 36) 150 strK Tryd.underlying150 (by simp only [maxLen]; have := HN_.out; omega) (.string key) (valV v) (lk key) (encV v) [] (keyS key HSZ.out) (rdV_mk v) ?_
  intro w7 o_ k_
  obtain ⟨O7, K7⟩ := ok_ K6 o_ k_
  clear a0 a2 a3 O6 K6 o_ k_
  have a0 := k1_ O7 0
  have a2 := k4_ O7 2
  have a3 := k3_ O7 3
  refine hK_.out _ _ ?_
  clear hK_ K_
  refine dN ?_
  clear hHeld
  go_wp2
  go_ret
  have hM : doU M key c n s = upd M key v := by unfold doU; rw [if_pos HM.out, ← HV.out]
  rw [hM]
  exact ⟨_, rfl, (StoreO.shut (i := 0) (j := 1) (HR.out.put key (by rw [HV.out]; exact good_app2 HR.out HM.out) (by simpa using d3)) O7.out rfl rfl (by decide)).take 1, K7.out⟩
theorem StGet {N : Nat → Prop} {w : World} {g m : Nat} {M : ByteArray → Val} (key : ByteArray) (hs : key.size ≤ maxLen) (h : Own N w [StoreO g m M]) :
  Calls Tryd.prog 91 #[.pointer (some ⟨g, 0, none⟩), key] w fun e_ w' => e_ = .returned (valV (M key)) ∧ Own N w' [StoreO g m M] ∧ KeepS N w w' := by
 obtain ⟨D, b, hR, h1⟩ := StoreO.open_ h (i := 0) rfl
 have HR := Am hR
 have O0 : Aside0 (Own N w [cells g #[.map (some b)] 152, mpV b m D]) := ⟨h1⟩
 have K0 : Aside0 (KeepS N w w) := ⟨KeepS.refl _ _⟩
 have a0 := k1_ O0 0
 clear h1 h hR
 go_enter Tryd.func91, Tryd.ntmps91
 have hlk := look_ (O0.out.map (i := 1) rfl) HR.out key hs
 go_wp2_with (first | ((with_reducible refine gD 4 rfl ?_); refine bP 4 #[.int .i64 0, .int .i64 0, .string ⟨#[]⟩] 49 O0.out ?_; intro gv w1 o_ k_; obtain ⟨O1, K1⟩ := ok_ K0 o_ k_; clear a0 O0 K0 o_ k_; have a0 := k1_ O1 0; have a2 := k3_ O1 2; have hlk := look_ (O1.out.map (i := 1) rfl) HR.out key hs) | ((with_reducible refine gT 49 4 rfl ?_); refine wS 2 0 [.int .i64 (M key).1, .int .i64 (M key).2.1, .string (M key).2.2] O1 ?_; intro w2 o_ k_; obtain ⟨O2, K2⟩ := ok_ K1 o_ k_; clear a0 a2 O1 K1 o_ k_; have a0 := k1_ O2 0; have a2 := k3_ O2 2))
 refine bodyPost_ret (results_cell_row rfl _ _ gv 49 #[.int .i64 (M key).1, .int .i64 (M key).2.1, .string (M key).2.2] (0, 0) _ rfl (O2.out.blk (i := 2) rfl) Tryd.underlying49 rfl (by kernel_rfl)) rfl ?_
 exact ⟨rfl, (StoreO.shut (i := 0) (j := 1) HR.out O2.out rfl rfl (by decide)).take 1, K2.out⟩
theorem StLen {N : Nat → Prop} {w : World} {g m : Nat} {M : ByteArray → Val} (h : Own N w [StoreO g m M]) :
  Calls Tryd.prog 92 #[.pointer (some ⟨g, 0, none⟩)] w fun e_ w' => ∃ ks : List ByteArray, ks.Nodup ∧ (∀ key, key ∈ ks ↔ (M key).1 ≠ 0) ∧ e_ = .returned (.int .i64 ks.length) ∧ Own N w' [StoreO g m M] ∧ KeepS N w w' := by
 obtain ⟨D, b, hR, h1⟩ := StoreO.open_ h (i := 0) rfl
 have HR := Am hR
 have O0 : Aside0 (Own N w [cells g #[.map (some b)] 152, mpV b m D]) := ⟨h1⟩
 have K0 : Aside0 (KeepS N w w) := ⟨KeepS.refl _ _⟩
 have a0 := k1_ O0 0
 clear h1 h hR
 go_enter Tryd.func92, Tryd.ntmps92
 have hln := (O0.out.map (i := 1) rfl).len Tryd.underlying150
 go_wp2
 go_ret
 obtain ⟨ks, k1, k2, k3⟩ := HR.out.keys
 exact ⟨ks, k1, k2, by rw [k3]; rfl, (StoreO.shut (i := 0) (j := 1) HR.out O0.out rfl rfl (by decide)).take 1, K0.out⟩
theorem heapU7 : Kd.Heap k32 := Kd.heap_iso _ (Kd.heap_pair Kd.heap_string (Kd.heap_pair (Kd.heap_int _) (Kd.heap_pair (Kd.heap_int _) Kd.heap_string)))
theorem heapR7 : Kd.Heap k35 := Kd.heap_iso _ (Kd.heap_pair (Kd.heap_int _) (Kd.heap_pair (Kd.heap_int _) (Kd.heap_slice _ heapU7)))
abbrev zeroM : ByteArray → Val := fun _ => zeroV
def doL (M : ByteArray → Val) (l : List S32) : ByteArray → Val := l.foldl (fun M u => doU M u.f0 u.f1 u.f2 u.f3) M
def flatR (l : List S35) : List S32 := l.flatMap (fun r => r.f2)
theorem doL_app (M : ByteArray → Val) (a b : List S32) : doL M (a ++ b) = doL (doL M a) b := List.foldl_append
theorem flatR_app (a b : List S35) : flatR (a ++ b) = flatR a ++ flatR b := List.flatMap_append
theorem take_snoc17 {α : Type} (L : List α) (d : α) (x : Int) (h0 : 0 ≤ x) (h1 : x < L.length) : L.take (x + 1).toNat = L.take x.toNat ++ [L.getD x.toNat d] := by
 have e : (x + 1).toNat = x.toNat + 1 := by omega
 have hl : x.toNat < L.length := by omega
 rw [e, List.take_succ_eq_append_getElem hl, List.getD_eq_getElem?_getD, List.getElem?_eq_getElem hl]
 rfl
theorem doL_step (M : ByteArray → Val) (l : List S32) (y : Int) (h0 : 0 ≤ y) (h1 : y < l.length) : doL M (l.take (y + 1).toNat) = doU (doL M (l.take y.toNat)) (rd_T32 l y).f0 (rd_T32 l y).f1 (rd_T32 l y).f2 (rd_T32 l y).f3 := by
 rw [take_snoc17 l z32 y h0 h1, doL_app]
 rfl
theorem flatR_step (l : List S35) (y : Int) (h0 : 0 ≤ y) (h1 : y < l.length) : flatR (l.take (y + 1).toNat) = flatR (l.take y.toNat) ++ (rd_T35 l y).f2 := by
 rw [take_snoc17 l z35 y h0 h1, flatR_app]
 congr 1
 show flatR [rd_T35 l y] = _
 unfold flatR
 rw [List.flatMap_cons, List.flatMap_nil, List.append_nil]
theorem flatR_le (l : List S35) (y : Nat) : (flatR (l.take y)).length ≤ (flatR l).length := by
 conv => rhs; rw [← List.take_append_drop y l, flatR_app, List.length_append]
 omega
theorem int_eq17 {a b : Int} (h : a = b) : Value.int .i64 a = .int .i64 b := by rw [h]
theorem StDo {N : Nat → Prop} {w : World} {g m : Nat} {M : ByteArray → Val} (key : ByteArray) (c n : Int) (s : ByteArray) (HN_ : Aside0 (m < 1000000)) (h : Own N w [StoreO g m M]) :
  Calls Tryd.prog 103 #[.pointer (some ⟨g, 0, none⟩), .agg #[key, c, n, s]] w fun e_ w' => ∃ (x : Int) (m' : Nat), m' ≤ m + 1 ∧ e_ = .returned (.int .i64 x) ∧ Own N w' [StoreO g m' (doU M key c n s)] ∧ KeepS N w w' := by
 by_cases hm : may key c n s = 0
 ·by_cases hk : (app (M key) c n s).1 = 0
  ·refine (StDo_gone key c n s h hm hk).mono ?_
   rintro e_ w' ⟨x, h1, h2, h3⟩
   exact ⟨x, m, by omega, h1, h2, h3⟩
  ·refine (StDo_put key c n s h hm hk HN_).mono ?_
   rintro e_ w' ⟨x, h1, h2, h3⟩
   exact ⟨x, m + 1, by omega, h1, h2, h3⟩
 ·refine (StDo_no key c n s h hm).mono ?_
  rintro e_ w' ⟨x, h1, h2, h3⟩
  exact ⟨x, m, by omega, h1, by rw [show doU M key c n s = M from if_neg hm]; exact h2, h3⟩
def stateOf (l : List S32) (rs : List S35) : ByteArray → Val := doL (doL zeroM (flatR rs)) l
def RpI (N : Nat → Prop) (w : World) (gs : Nat) (l1 : List S35) (i : Value) (wr : World) : Prop := ∃ (x : Int) (m : Nat), 0 ≤ x ∧ x ≤ (l1.length : Int) ∧ i = .int .i64 x ∧ Aside0 (m ≤ (flatR (l1.take x.toNat)).length) ∧ Aside0 (Own N wr [StoreO gs m (doL zeroM (flatR (l1.take x.toNat)))]) ∧ Aside0 (KeepS N w wr)
def RpJ (N : Nat → Prop) (w : World) (gs m0 : Nat) (M0 : ByteArray → Val) (us : List S32) (i : Value) (wr : World) : Prop := ∃ (y : Int) (m : Nat), 0 ≤ y ∧ y ≤ (us.length : Int) ∧ i = .int .i64 y ∧ Aside0 (m ≤ m0 + y.toNat) ∧ Aside0 (Own N wr [StoreO gs m (doL M0 (us.take y.toNat))]) ∧ Aside0 (KeepS N w wr)
theorem RpState {N : Nat → Prop} {w : World} (A0 : Option Addr) (c0 : Nat) (l0 : List S32) (A1 : Option Addr) (c1 : Nat) (l1 : List S35) (h : Own N w []) (ho : Kd.F k32 w N A0 l0.length l0) (hr : Kd.F k35 w N A1 l1.length l1) (hb : (flatR l1).length + l0.length < 1000000) :
  Calls Tryd.prog 90 #[.slice A0 l0.length c0, .slice A1 l1.length c1] w fun e_ w' => ∃ g m, e_ = .returned (.pointer (some ⟨g, 0, none⟩)) ∧ Own N w' [StoreO g m (stateOf l0 l1)] ∧ KeepS N w w' := by
 have HLB := Am hb
 have HRW := Am hr
 have HOW := Am ho
 have hl0 : l0.length ≤ 9223372036854775807 := Kd.F_max ho
 have hl1 : l1.length ≤ 9223372036854775807 := Kd.F_max hr
 have HL0 := Am hl0
 have HL1 := Am hl1
 have O0 : Aside0 (Own N w []) := ⟨h⟩
 have K0 : Aside0 (KeepS N w w) := ⟨KeepS.refl _ _⟩
 clear h hb hr ho hl0 hl1
 go_enter Tryd.func90, Tryd.ntmps90
 go_wp2_with (first | ((with_reducible refine gC 102 rfl ?_); refine gP (some 12) Tryd.func102 #[] ?_; obtain ⟨N_, on_, nn_, rr_, bb_⟩ := O0.out.frame0; refine (StNew on_).mono ?_; rintro e_ w1 ⟨gs, rfl, oo_, kk_⟩; obtain ⟨o_, k_⟩ := bb_ _ _ kk_ oo_; refine ⟨_, rfl, ?_⟩; obtain ⟨O1, K1⟩ := ok_ K0 o_ k_; clear O0 K0 o_ k_ oo_ kk_ on_ nn_ rr_ bb_))
 go_loopw [15] (fun i wr => RpI N w gs l1 i wr) (fun i _ => l1.length - (intOf i).toNat)
 case atStart => exact ⟨0, 0, by omega, by omega, rfl, ⟨Nat.zero_le _⟩, O1, K1⟩
 case round =>
  obtain ⟨x, m0, hx0, hx1, rfl, HI, OA, KA⟩ := hrel
  have hl1 := HL1.out
  have hF2 := keepF HRW.out KA.out
  by_cases hlt : x < (l1.length : Int)
  ·obtain ⟨ad, A3, c3, e3, x0, x1, x2, hl3, hF3⟩ := at_F hF2 x hx0 hlt
   cases e3
   have HF3 := Am hF3
   have hs2 : wrap64 (x + 1) = x + 1 := by unfold wrap64; omega
   have hp := eq_true hx0
   have hq := eq_true hlt
   have hd := decide_eq_true hlt
   have HX := Am (And.intro hx0 hlt)
   have HST : Aside0 (flatR (l1.take (x + 1).toNat) = flatR (l1.take x.toNat) ++ (rd_T35 l1 x).f2) := ⟨flatR_step l1 x hx0 hlt⟩
   have HLB2 : Aside0 ((flatR (l1.take x.toNat)).length + (rd_T35 l1 x).f2.length + l0.length < 1000000) := ⟨by have h_ := flatR_le l1 (x + 1).toNat; have q_ := HST.out; rw [q_, List.length_append] at h_; have := HLB.out; omega⟩
   clear hF3 hF2 hl3 hl1 hx0 hx1 hlt
   obtain ⟨M0, hM0⟩ : ∃ M, M = doL zeroM (flatR (l1.take x.toNat)) := ⟨_, rfl⟩
   rw [← hM0] at OA
   have HM0 := Am hM0
   clear hM0
   obtain ⟨us, hus⟩ : ∃ u, u = (rd_T35 l1 x).f2 := ⟨_, rfl⟩
   rw [← hus] at HF3 HST HLB2 x2
   have HUS := Am hus
   clear hus
   have O2 : Aside0 (Own N wr [StoreO gs m0 M0]) := ⟨OA.out⟩
   have K2 : Aside0 (KeepS N w wr) := ⟨KA.out⟩
   have HRI_2 : Aside0 (Kd.F k32 wr N A3 us.length us) := ⟨HF3.out⟩
   clear OA KA HF3
   go_wp2_with (first | ((with_reducible refine gD 7 rfl ?_); refine bP 7 #[.int .i64 0, .int .i64 0, .slice none 0 0] 35 O2.out ?_; intro gr w3 o_ k_; obtain ⟨O3, K3⟩ := ok_ K2 o_ k_; have HRI_3 := Am (keepF HRI_2.out k_); clear O2 K2 HRI_2 o_ k_; have a1 := k3_ O3 1) | ((with_reducible refine gT 35 7 rfl ?_); refine wS 1 0 [.int .i64 (rd_T35 l1 x).f0, .int .i64 (rd_T35 l1 x).f1, .slice A3 us.length c3] O3 ?_; intro w4 o_ k_; obtain ⟨O4, K4⟩ := ok_ K3 o_ k_; have HRI_4 := Am (keepF HRI_3.out k_); clear a1 O3 K3 HRI_3 o_ k_; have a1 := k3_ O4 1))
   go_loopw [22] (fun i wr => RpJ N w4 gs m0 M0 us i wr) (fun i _ => us.length - (intOf i).toNat)
   case atStart => exact ⟨0, m0, by omega, by omega, rfl, ⟨by omega⟩, ⟨O4.out.take 1⟩, ⟨KeepS.refl _ _⟩⟩
   case round =>
    clear a1
    have HLB3 := HLB2
    have HLBO := HLB
    clear HLB
    have HLB : Aside0 (m0 + us.length < 1000000) := ⟨by have := HLB3.out; have := HI.out; omega⟩
    obtain ⟨y, m, hy0, hy1, rfl, HJ, OB, KB⟩ := hrel
    have hll := (Kd.F_max HRI_4.out)
    by_cases hly : y < (us.length : Int)
    ·obtain ⟨ae, e7, q0, q1, q2, q3⟩ := at_T32 (Kd.F_now (keepF HRI_4.out KB.out)) y hy0 hly
     cases e7
     have hs3 : wrap64 (y + 1) = y + 1 := by unfold wrap64; omega
     have hp2 := eq_true hy0
     have hq2 := eq_true hly
     have hd2 := decide_eq_true hly
     have HY := Am (And.intro hy0 hly)
     clear hll hy0 hy1 hly
     have O5 : Aside0 (Own N wr [StoreO gs m (doL M0 (us.take y.toNat))]) := ⟨OB.out⟩
     have K5 : Aside0 (KeepS N w4 wr) := ⟨KB.out⟩
     clear OB KB
     go_wp2_with (first | ((with_reducible refine gD 9 rfl ?_); refine bP 9 #[.string ⟨#[]⟩, .int .i64 0, .int .i64 0, .string ⟨#[]⟩] 32 O5.out ?_; intro gu w6 o_ k_; obtain ⟨O6, K6⟩ := ok_ K5 o_ k_; clear O5 K5 o_ k_; have a1 := k4_ O6 1) | ((with_reducible refine gT 32 9 rfl ?_); refine wS 1 0 [.string (rd_T32 us y).f0, .int .i64 (rd_T32 us y).f1, .int .i64 (rd_T32 us y).f2, .string (rd_T32 us y).f3] O6 ?_; intro w7 o_ k_; obtain ⟨O7, K7⟩ := ok_ K6 o_ k_; clear a1 O6 K6 o_ k_; have a1 := k4_ O7 1) | ((with_reducible refine gC 103 rfl ?_); refine gP (some 28) Tryd.func103 #[.pointer (some ⟨gs, 0, none⟩), .agg #[.string (rd_T32 us y).f0, .int .i64 (rd_T32 us y).f1, .int .i64 (rd_T32 us y).f2, .string (rd_T32 us y).f3]] ?_; obtain ⟨N_, on_, nn_, rr_, bb_⟩ := O7.out.frame1 (i := 0) rfl; refine (StDo (rd_T32 us y).f0 (rd_T32 us y).f1 (rd_T32 us y).f2 (rd_T32 us y).f3 ⟨by have := HJ.out; have := HY.out; have := HLB.out; omega⟩ on_).mono ?_; rw [← doL_step M0 us y HY.out.1 HY.out.2]; rintro e_ w8 ⟨xd, m2, hm2, rfl, oo_, kk_⟩; obtain ⟨o_, k_⟩ := bb_ _ _ _ kk_ oo_; have HM2 := Am hm2; clear hm2; refine ⟨_, rfl, ?_⟩; obtain ⟨O8, K8⟩ := ok_ K7 o_ k_; clear a1 O7 K7 o_ k_ oo_ kk_ on_ nn_ rr_ bb_; have a1 := k4_ O8 1))
     go_roundw
     case rel => exact ⟨y + 1, m2, by have := HY.out; omega, by have := HY.out; omega, int_eq17 (by unfold wrap64; have := HY.out; have := (Kd.F_max HRI_4.out); omega), ⟨by have := HY.out; have := HJ.out; have := HM2.out; omega⟩, ⟨O8.out.take 1⟩, K8⟩
     case measure => have := HY.out; simp [intOf]; omega
    ·have hye : y = (us.length : Int) := by omega
     subst hye
     have hd2 : decide ((us.length : Int) < (us.length : Int)) = false := decide_eq_false (Int.lt_irrefl _)
     clear hly hy0 hy1 hll
     rw [Int.toNat_natCast, List.take_length] at OB
     rw [Int.toNat_natCast] at HJ
     have hd2b := hd2
     have O5 : Aside0 (Own N wr [StoreO gs m (doL M0 us)]) := ⟨OB.out⟩
     have K5 : Aside0 (KeepS N w4 wr) := ⟨KB.out⟩
     clear OB KB
     go_wp2
     go_roundw
     case rel => exact ⟨x + 1, m, by have := HX.out; omega, by have := HX.out; omega, int_eq17 (by unfold wrap64; have := HX.out; have := HL1.out; omega), ⟨by rw [HST.out, List.length_append]; have := HJ.out; have := HI.out; omega⟩, ⟨by rw [HST.out, doL_app, ← HM0.out]; exact O5.out⟩, ⟨K4.out.trans K5.out⟩⟩
     case measure => have := HX.out; simp [intOf]; omega
  ·have hxe : x = (l1.length : Int) := by omega
   subst hxe
   have hd : decide ((l1.length : Int) < (l1.length : Int)) = false := decide_eq_false (Int.lt_irrefl _)
   clear hlt hx0 hx1 hF2 hl1
   rw [Int.toNat_natCast, List.take_length] at OA HI
   obtain ⟨M0, hM0⟩ : ∃ M, M = doL zeroM (flatR l1) := ⟨_, rfl⟩
   rw [← hM0] at OA
   have HM0 := Am hM0
   clear hM0
   have O2 : Aside0 (Own N wr [StoreO gs m0 M0]) := ⟨OA.out⟩
   have K2 : Aside0 (KeepS N w wr) := ⟨KA.out⟩
   clear OA KA
   go_wp2
   go_loopw [33] (fun i wr => RpJ N w gs m0 M0 l0 i wr) (fun i _ => l0.length - (intOf i).toNat)
   case atStart => exact ⟨0, m0, by omega, by omega, rfl, ⟨by omega⟩, O2, K2⟩
   case round =>
    have HLB3 := HLB
    clear HLB
    have HLB : Aside0 (m0 + l0.length < 1000000) := ⟨by have := HLB3.out; have := HI.out; omega⟩
    obtain ⟨y, m, hy0, hy1, rfl, HJ, OB, KB⟩ := hrel
    have hll := HL0.out
    by_cases hly : y < (l0.length : Int)
    ·obtain ⟨ae, e7, q0, q1, q2, q3⟩ := at_T32 (Kd.F_now (keepF HOW.out KB.out)) y hy0 hly
     cases e7
     have hs3 : wrap64 (y + 1) = y + 1 := by unfold wrap64; omega
     have hp2 := eq_true hy0
     have hq2 := eq_true hly
     have hd2 := decide_eq_true hly
     have HY := Am (And.intro hy0 hly)
     clear hll hy0 hy1 hly
     have O3 : Aside0 (Own N wr [StoreO gs m (doL M0 (l0.take y.toNat))]) := ⟨OB.out⟩
     have K3 : Aside0 (KeepS N w wr) := ⟨KB.out⟩
     clear OB KB
     go_wp2_with (first | ((with_reducible refine gD 11 rfl ?_); refine bP 11 #[.string ⟨#[]⟩, .int .i64 0, .int .i64 0, .string ⟨#[]⟩] 32 O3.out ?_; intro gu w4 o_ k_; obtain ⟨O4, K4⟩ := ok_ K3 o_ k_; clear O3 K3 o_ k_; have a1 := k4_ O4 1) | ((with_reducible refine gT 32 11 rfl ?_); refine wS 1 0 [.string (rd_T32 l0 y).f0, .int .i64 (rd_T32 l0 y).f1, .int .i64 (rd_T32 l0 y).f2, .string (rd_T32 l0 y).f3] O4 ?_; intro w5 o_ k_; obtain ⟨O5, K5⟩ := ok_ K4 o_ k_; clear a1 O4 K4 o_ k_; have a1 := k4_ O5 1) | ((with_reducible refine gC 103 rfl ?_); refine gP (some 39) Tryd.func103 #[.pointer (some ⟨gs, 0, none⟩), .agg #[.string (rd_T32 l0 y).f0, .int .i64 (rd_T32 l0 y).f1, .int .i64 (rd_T32 l0 y).f2, .string (rd_T32 l0 y).f3]] ?_; obtain ⟨N_, on_, nn_, rr_, bb_⟩ := O5.out.frame1 (i := 0) rfl; refine (StDo (rd_T32 l0 y).f0 (rd_T32 l0 y).f1 (rd_T32 l0 y).f2 (rd_T32 l0 y).f3 ⟨by have := HJ.out; have := HY.out; have := HLB.out; omega⟩ on_).mono ?_; rw [← doL_step M0 l0 y HY.out.1 HY.out.2]; rintro e_ w6 ⟨xd, m2, hm2, rfl, oo_, kk_⟩; obtain ⟨o_, k_⟩ := bb_ _ _ _ kk_ oo_; have HM2 := Am hm2; clear hm2; refine ⟨_, rfl, ?_⟩; obtain ⟨O6, K6⟩ := ok_ K5 o_ k_; clear a1 O5 K5 o_ k_ oo_ kk_ on_ nn_ rr_ bb_; have a1 := k4_ O6 1))
     go_roundw
     case rel => exact ⟨y + 1, m2, by have := HY.out; omega, by have := HY.out; omega, int_eq17 (by unfold wrap64; have := HY.out; have := HL0.out; omega), ⟨by have := HY.out; have := HJ.out; have := HM2.out; omega⟩, ⟨O6.out.take 1⟩, K6⟩
     case measure => have := HY.out; simp [intOf]; omega
    ·have hye : y = (l0.length : Int) := by omega
     subst hye
     have hd2 : decide ((l0.length : Int) < (l0.length : Int)) = false := decide_eq_false (Int.lt_irrefl _)
     clear hly hy0 hy1 hll
     rw [Int.toNat_natCast, List.take_length] at OB
     rw [Int.toNat_natCast] at HJ
     have O3 : Aside0 (Own N wr [StoreO gs m (doL M0 l0)]) := ⟨OB.out⟩
     have K3 : Aside0 (KeepS N w wr) := ⟨KB.out⟩
     clear OB KB
     go_wp2
     go_ret
     exact ⟨gs, m, rfl, by rw [show stateOf l0 l1 = doL M0 l0 from by rw [HM0.out]; rfl]; exact O3.out, K3.out⟩
theorem RpRead (key : ByteArray) (hs : key.size ≤ maxLen) {w : World} (A0 : Option Addr) (c0 : Nat) (l0 : List S32) (A1 : Option Addr) (c1 : Nat) (l1 : List S35) (ho : Kd.C k32 w A0 l0.length l0) (hr : Kd.C k35 w A1 l1.length l1) (hb : (flatR l1).length + l0.length < 1000000) :
  Calls Tryd.prog 63 #[key, .slice A0 l0.length c0, .slice A1 l1.length c1] w fun e_ w' => e_ = .returned (valV (stateOf l0 l1 key)) ∧ Below w.heap.size w w' := by
 have HS := Am hs
 clear hs
 obtain ⟨N, hN⟩ : ∃ N : Nat → Prop, N = fun k => k < w.heap.size := ⟨_, rfl⟩
 have HN := Am hN
 have HFO_0 : Aside0 (Kd.F k32 w N A0 l0.length l0) := ⟨by rw [hN]; exact Kd.C_F heapU7 ho⟩
 have HFR_0 : Aside0 (Kd.F k35 w N A1 l1.length l1) := ⟨by rw [hN]; exact Kd.C_F heapR7 hr⟩
 have HB := Am hb
 have O0 : Aside0 (Own N w []) := ⟨Own.start_ (fun k hk => by rw [hN] at hk; exact hk)⟩
 have K0 : Aside0 (KeepS N w w) := ⟨KeepS.refl _ _⟩
 clear hN ho hr hb
 go_enter Tryd.func63, Tryd.ntmps63
 go_wp2_with (first | ((with_reducible refine gD 6 rfl ?_); refine bP 6 #[.int .i64 0, .int .i64 0, .string ⟨#[]⟩] 49 O0.out ?_; intro gv w1 o_ k_; obtain ⟨O1, K1⟩ := ok_ K0 o_ k_; have HFO_1 := Am (keepF HFO_0.out k_); have HFR_1 := Am (keepF HFR_0.out k_); clear O0 K0 HFO_0 HFR_0 o_ k_; have a0 := k3_ O1 0) | ((with_reducible refine gC 90 rfl ?_); refine gP (some 9) Tryd.func90 #[.slice A0 l0.length c0, .slice A1 l1.length c1] ?_; obtain ⟨N_, on_, nn_, rr_, bb_⟩ := O1.out.frame0; refine (RpState A0 c0 l0 A1 c1 l1 on_ (Kd.F_mono HFO_1.out nn_) (Kd.F_mono HFR_1.out nn_) HB.out).mono ?_; rintro e_ w2 ⟨gs, ms, rfl, oo_, kk_⟩; obtain ⟨o_, k_⟩ := bb_ _ _ kk_ oo_; refine ⟨_, rfl, ?_⟩; obtain ⟨O2, K2⟩ := ok_ K1 o_ k_; have HFO_2 := Am (keepF HFO_1.out k_); have HFR_2 := Am (keepF HFR_1.out k_); clear a0 O1 K1 HFO_1 HFR_1 o_ k_ oo_ kk_ on_ nn_ rr_ bb_; have a0 := k3_ O2 0) | ((with_reducible refine gC 91 rfl ?_); refine gP (some 11) Tryd.func91 #[.pointer (some ⟨gs, 0, none⟩), key] ?_; obtain ⟨N_, on_, nn_, rr_, bb_⟩ := O2.out.frame1 (i := 1) rfl; refine (StGet key HS.out on_).mono ?_; rintro e_ w3 ⟨rfl, oo_, kk_⟩; obtain ⟨o_, k_⟩ := bb_ _ _ _ kk_ oo_; refine ⟨_, rfl, ?_⟩; obtain ⟨O3, K3⟩ := ok_ K2 o_ k_; have HFO_3 := Am (keepF HFO_2.out k_); have HFR_3 := Am (keepF HFR_2.out k_); clear a0 O2 K2 HFO_2 HFR_2 o_ k_ oo_ kk_ on_ nn_ rr_ bb_; have a0 := k3_ O3 0) | ((with_reducible refine gT 49 6 rfl ?_); refine wS 0 0 [.int .i64 (stateOf l0 l1 key).1, .int .i64 (stateOf l0 l1 key).2.1, .string (stateOf l0 l1 key).2.2] O3 ?_; intro w4 o_ k_; obtain ⟨O4, K4⟩ := ok_ K3 o_ k_; have HFO_4 := Am (keepF HFO_3.out k_); have HFR_4 := Am (keepF HFR_3.out k_); clear a0 O3 K3 HFO_3 HFR_3 o_ k_; have a0 := k3_ O4 0))
 refine bodyPost_ret (results_cell_row rfl _ _ gv 49 #[.int .i64 (stateOf l0 l1 key).1, .int .i64 (stateOf l0 l1 key).2.1, .string (stateOf l0 l1 key).2.2] (0, 0) _ rfl (O4.out.blk (i := 0) rfl) Tryd.underlying49 rfl (by kernel_rfl)) rfl ?_
 exact ⟨rfl, kw_ K4 HN⟩
theorem RpLen {w : World} (A0 : Option Addr) (c0 : Nat) (l0 : List S32) (A1 : Option Addr) (c1 : Nat) (l1 : List S35) (ho : Kd.C k32 w A0 l0.length l0) (hr : Kd.C k35 w A1 l1.length l1) (hb : (flatR l1).length + l0.length < 1000000) :
  Calls Tryd.prog 66 #[.slice A0 l0.length c0, .slice A1 l1.length c1] w fun e_ w' => ∃ ks : List ByteArray, ks.Nodup ∧ (∀ key, key ∈ ks ↔ (stateOf l0 l1 key).1 ≠ 0) ∧ e_ = .returned (.int .i64 ks.length) ∧ Below w.heap.size w w' := by
 obtain ⟨N, hN⟩ : ∃ N : Nat → Prop, N = fun k => k < w.heap.size := ⟨_, rfl⟩
 have HN := Am hN
 have HFO_0 : Aside0 (Kd.F k32 w N A0 l0.length l0) := ⟨by rw [hN]; exact Kd.C_F heapU7 ho⟩
 have HFR_0 : Aside0 (Kd.F k35 w N A1 l1.length l1) := ⟨by rw [hN]; exact Kd.C_F heapR7 hr⟩
 have HB := Am hb
 have O0 : Aside0 (Own N w []) := ⟨Own.start_ (fun k hk => by rw [hN] at hk; exact hk)⟩
 have K0 : Aside0 (KeepS N w w) := ⟨KeepS.refl _ _⟩
 clear hN ho hr hb
 go_enter Tryd.func66, Tryd.ntmps66
 go_wp2_with (first | ((with_reducible refine gC 90 rfl ?_); refine gP (some 7) Tryd.func90 #[.slice A0 l0.length c0, .slice A1 l1.length c1] ?_; obtain ⟨N_, on_, nn_, rr_, bb_⟩ := O0.out.frame0; refine (RpState A0 c0 l0 A1 c1 l1 on_ (Kd.F_mono HFO_0.out nn_) (Kd.F_mono HFR_0.out nn_) HB.out).mono ?_; rintro e_ w1 ⟨gs, ms, rfl, oo_, kk_⟩; obtain ⟨o_, k_⟩ := bb_ _ _ kk_ oo_; refine ⟨_, rfl, ?_⟩; obtain ⟨O1, K1⟩ := ok_ K0 o_ k_; have HFO_1 := Am (keepF HFO_0.out k_); have HFR_1 := Am (keepF HFR_0.out k_); clear O0 K0 HFO_0 HFR_0 o_ k_ oo_ kk_ on_ nn_ rr_ bb_) | ((with_reducible refine gC 92 rfl ?_); refine gP (some 8) Tryd.func92 #[.pointer (some ⟨gs, 0, none⟩)] ?_; obtain ⟨N_, on_, nn_, rr_, bb_⟩ := O1.out.frame1 (i := 0) rfl; refine (StLen on_).mono ?_; rintro e_ w2 ⟨ks, k1, k2, rfl, oo_, kk_⟩; obtain ⟨o_, k_⟩ := bb_ _ _ _ kk_ oo_; refine ⟨_, rfl, ?_⟩; obtain ⟨O2, K2⟩ := ok_ K1 o_ k_; have HFO_2 := Am (keepF HFO_1.out k_); have HFR_2 := Am (keepF HFR_1.out k_); clear O1 K1 HFO_1 HFR_1 o_ k_ oo_ kk_ on_ nn_ rr_ bb_))
 go_ret
 exact ⟨ks, k1, k2, rfl, kw_ K2 HN⟩
end Go.Proofs.YtjdenpmaianmfaaDoor.J
