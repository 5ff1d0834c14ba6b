/- chapbookref04.Apply: what it makes of a value. -/
import Derived.Test.YtjdenpmaianmfaaDoorY6Sz
import Derived.Test.YtjdenpmaianmfaaDoorY6Sq
import Derived.Test.YtjdenpmaianmfaaDoorY6VA0
namespace Go.Proofs.YtjdenpmaianmfaaDoor.Q
set_option maxHeartbeats 16000000
set_option maxRecDepth 100000
set_option linter.unusedSimpArgs false
set_option linter.unusedVariables false
open Go RowKit YtjdenpmaianmfaaDoorW.PrintWords YtjdenpmaianmfaaDoorW.PrintLast YtjdenpmaianmfaaDoorW.PrintMore YtjdenpmaianmfaaDoor.Sep J
theorem field_V (a b : Int) (c : ByteArray) (W : World) : (Instr.field 49 (.agg #[a, b, c]) 0).run Tryd.prog W = .ok (.int .i64 a) W := by kernel_rfl
theorem told_rap {f : Nat} {args : Array Value} {w : World} {t : Val} {r1 r2 : Int} {r3 : ByteArray} (e : t = (r1, r2, r3)) (H : Calls Tryd.prog f args w fun e w' => e = .returned (.agg #[.int .i64 t.1, .int .i64 t.2.1, .string t.2.2]) ∧ Below w.heap.size w w') : Calls Tryd.prog f args w fun e w' => e = .returned (.agg #[r1, r2, r3]) ∧ Below w.heap.size w w' := by
 subst e
 exact H
theorem rap_01 (key : ByteArray) (n : Int) (s : ByteArray) (hs : s.size ≤ 4096) (w : World) :
  Calls Tryd.prog 93 #[.agg #[.int .i64 0, .int .i64 0, .string ⟨#[]⟩], .agg #[key, .int .i64 1, n, s]] w fun e w' => e = .returned (.agg #[.int .i64 1, n, .string ⟨#[]⟩]) ∧ Below w.heap.size w w' := by
 skip
 clear hs
 obtain ⟨N, HN, O0, K0⟩ := st_ w
 go_enter Tryd.func93, Tryd.ntmps93
 go_wp2_with (first | ((with_reducible refine gD 2 rfl ?_); refine bP 2 #[.int .i64 0, .int .i64 0, .string ⟨#[]⟩] 49 O0.out ?_; intro ga w1 o_ k_; obtain ⟨O1, K1⟩ := ok_ K0 o_ k_; clear O0 K0 o_ k_; have a0 := k3_ O1 0) | ((with_reducible refine gD 3 rfl ?_); refine bP 3 #[key, .int .i64 1, n, s] 32 O1.out ?_; intro gb w2 o_ k_; obtain ⟨O2, K2⟩ := ok_ K1 o_ k_; clear a0 O1 K1 o_ k_; have a0 := k3_ O2 0; have a1 := k4_ O2 1) | ((with_reducible refine gD 4 rfl ?_); refine bP 4 #[.int .i64 0, .int .i64 0, .string ⟨#[]⟩] 49 O2.out ?_; intro gc w3 o_ k_; obtain ⟨O3, K3⟩ := ok_ K2 o_ k_; clear a0 a1 O2 K2 o_ k_; have a0 := k3_ O3 0; have a1 := k4_ O3 1; have a2 := k3_ O3 2) | ((with_reducible refine gT 49 2 rfl ?_); refine wS 0 0 [.int .i64 0, .int .i64 0, .string ⟨#[]⟩] O3 ?_; intro w4 o_ k_; obtain ⟨O4, K4⟩ := ok_ K3 o_ k_; clear a0 a1 a2 O3 K3 o_ k_; have a0 := k3_ O4 0; have a1 := k4_ O4 1; have a2 := k3_ O4 2) | ((with_reducible refine gT 49 4 rfl ?_); refine wS 2 0 [.int .i64 1, n, .string ⟨#[]⟩] O4 ?_; intro w5 o_ k_; obtain ⟨O5, K5⟩ := ok_ K4 o_ k_; clear a0 a1 a2 O4 K4 o_ k_; have a0 := k3_ O5 0; have a1 := k4_ O5 1; have a2 := k3_ O5 2))
 refine bodyPost_ret (results_cell_row rfl _ _ gc 49 #[.int .i64 1, n, .string ⟨#[]⟩] (0, 0) _ rfl (O5.out.blk (i := 2) rfl) Tryd.underlying49 rfl (by kernel_rfl)) rfl ?_
 exact ⟨rfl, kw_ K5 HN⟩
theorem rap_02 (key : ByteArray) (n : Int) (s : ByteArray) (hs : s.size ≤ 4096) (w : World) :
  Calls Tryd.prog 93 #[.agg #[.int .i64 0, .int .i64 0, .string ⟨#[]⟩], .agg #[key, .int .i64 2, n, s]] w fun e w' => e = .returned (.agg #[.int .i64 2, .int .i64 0, s]) ∧ Below w.heap.size w w' := by
 skip
 clear hs
 obtain ⟨N, HN, O0, K0⟩ := st_ w
 go_enter Tryd.func93, Tryd.ntmps93
 go_wp2_with (first | ((with_reducible refine gD 2 rfl ?_); refine bP 2 #[.int .i64 0, .int .i64 0, .string ⟨#[]⟩] 49 O0.out ?_; intro ga w1 o_ k_; obtain ⟨O1, K1⟩ := ok_ K0 o_ k_; clear O0 K0 o_ k_; have a0 := k3_ O1 0) | ((with_reducible refine gD 3 rfl ?_); refine bP 3 #[key, .int .i64 2, n, s] 32 O1.out ?_; intro gb w2 o_ k_; obtain ⟨O2, K2⟩ := ok_ K1 o_ k_; clear a0 O1 K1 o_ k_; have a0 := k3_ O2 0; have a1 := k4_ O2 1) | ((with_reducible refine gD 4 rfl ?_); refine bP 4 #[.int .i64 0, .int .i64 0, .string ⟨#[]⟩] 49 O2.out ?_; intro gc w3 o_ k_; obtain ⟨O3, K3⟩ := ok_ K2 o_ k_; clear a0 a1 O2 K2 o_ k_; have a0 := k3_ O3 0; have a1 := k4_ O3 1; have a2 := k3_ O3 2) | ((with_reducible refine gT 49 2 rfl ?_); refine wS 0 0 [.int .i64 0, .int .i64 0, .string ⟨#[]⟩] O3 ?_; intro w4 o_ k_; obtain ⟨O4, K4⟩ := ok_ K3 o_ k_; clear a0 a1 a2 O3 K3 o_ k_; have a0 := k3_ O4 0; have a1 := k4_ O4 1; have a2 := k3_ O4 2) | ((with_reducible refine gT 49 4 rfl ?_); refine wS 2 0 [.int .i64 2, .int .i64 0, s] O4 ?_; intro w5 o_ k_; obtain ⟨O5, K5⟩ := ok_ K4 o_ k_; clear a0 a1 a2 O4 K4 o_ k_; have a0 := k3_ O5 0; have a1 := k4_ O5 1; have a2 := k3_ O5 2))
 refine bodyPost_ret (results_cell_row rfl _ _ gc 49 #[.int .i64 2, .int .i64 0, s] (0, 0) _ rfl (O5.out.blk (i := 2) rfl) Tryd.underlying49 rfl (by kernel_rfl)) rfl ?_
 exact ⟨rfl, kw_ K5 HN⟩
theorem rap_03 (key : ByteArray) (n : Int) (s : ByteArray) (hs : s.size ≤ 4096) (hn : -9223372036854775808 ≤ n ∧ n ≤ 9223372036854775807) (w : World) :
  Calls Tryd.prog 93 #[.agg #[.int .i64 0, .int .i64 0, .string ⟨#[]⟩], .agg #[key, .int .i64 3, n, s]] w fun e w' => e = .returned (.agg #[.int .i64 1, n, .string ⟨#[]⟩]) ∧ Below w.heap.size w w' := by
 skip
 have hw1 : wrap64 n = n := w64_ hn
 have hw2 : IntKind.i64.wrap n = n := by rw [IntKind.wrap_i64]; omega
 clear hn hs
 obtain ⟨N, HN, O0, K0⟩ := st_ w
 go_enter Tryd.func93, Tryd.ntmps93
 go_wp2_with (first | ((with_reducible refine gD 2 rfl ?_); refine bP 2 #[.int .i64 0, .int .i64 0, .string ⟨#[]⟩] 49 O0.out ?_; intro ga w1 o_ k_; obtain ⟨O1, K1⟩ := ok_ K0 o_ k_; clear O0 K0 o_ k_; have a0 := k3_ O1 0) | ((with_reducible refine gD 3 rfl ?_); refine bP 3 #[key, .int .i64 3, n, s] 32 O1.out ?_; intro gb w2 o_ k_; obtain ⟨O2, K2⟩ := ok_ K1 o_ k_; clear a0 O1 K1 o_ k_; have a0 := k3_ O2 0; have a1 := k4_ O2 1) | ((with_reducible refine gD 4 rfl ?_); refine bP 4 #[.int .i64 0, .int .i64 0, .string ⟨#[]⟩] 49 O2.out ?_; intro gc w3 o_ k_; obtain ⟨O3, K3⟩ := ok_ K2 o_ k_; clear a0 a1 O2 K2 o_ k_; have a0 := k3_ O3 0; have a1 := k4_ O3 1; have a2 := k3_ O3 2) | ((with_reducible refine gT 49 2 rfl ?_); refine wS 0 0 [.int .i64 0, .int .i64 0, .string ⟨#[]⟩] O3 ?_; intro w4 o_ k_; obtain ⟨O4, K4⟩ := ok_ K3 o_ k_; clear a0 a1 a2 O3 K3 o_ k_; have a0 := k3_ O4 0; have a1 := k4_ O4 1; have a2 := k3_ O4 2) | ((with_reducible refine gT 49 4 rfl ?_); refine wS 2 0 [.int .i64 1, n, .string ⟨#[]⟩] O4 ?_; intro w5 o_ k_; obtain ⟨O5, K5⟩ := ok_ K4 o_ k_; clear a0 a1 a2 O4 K4 o_ k_; have a0 := k3_ O5 0; have a1 := k4_ O5 1; have a2 := k3_ O5 2))
 refine bodyPost_ret (results_cell_row rfl _ _ gc 49 #[.int .i64 1, n, .string ⟨#[]⟩] (0, 0) _ rfl (O5.out.blk (i := 2) rfl) Tryd.underlying49 rfl (by kernel_rfl)) rfl ?_
 exact ⟨rfl, kw_ K5 HN⟩
theorem rap_04 (key : ByteArray) (n : Int) (s : ByteArray) (hs : s.size ≤ 4096) (w : World) :
  Calls Tryd.prog 93 #[.agg #[.int .i64 0, .int .i64 0, .string ⟨#[]⟩], .agg #[key, .int .i64 4, n, s]] w fun e w' => e = .returned (.agg #[.int .i64 2, .int .i64 0, s]) ∧ Below w.heap.size w w' := by
 skip
 clear hs
 obtain ⟨N, HN, O0, K0⟩ := st_ w
 go_enter Tryd.func93, Tryd.ntmps93
 go_wp2_with (first | ((with_reducible refine gD 2 rfl ?_); refine bP 2 #[.int .i64 0, .int .i64 0, .string ⟨#[]⟩] 49 O0.out ?_; intro ga w1 o_ k_; obtain ⟨O1, K1⟩ := ok_ K0 o_ k_; clear O0 K0 o_ k_; have a0 := k3_ O1 0) | ((with_reducible refine gD 3 rfl ?_); refine bP 3 #[key, .int .i64 4, n, s] 32 O1.out ?_; intro gb w2 o_ k_; obtain ⟨O2, K2⟩ := ok_ K1 o_ k_; clear a0 O1 K1 o_ k_; have a0 := k3_ O2 0; have a1 := k4_ O2 1) | ((with_reducible refine gD 4 rfl ?_); refine bP 4 #[.int .i64 0, .int .i64 0, .string ⟨#[]⟩] 49 O2.out ?_; intro gc w3 o_ k_; obtain ⟨O3, K3⟩ := ok_ K2 o_ k_; clear a0 a1 O2 K2 o_ k_; have a0 := k3_ O3 0; have a1 := k4_ O3 1; have a2 := k3_ O3 2) | ((with_reducible refine gT 49 2 rfl ?_); refine wS 0 0 [.int .i64 0, .int .i64 0, .string ⟨#[]⟩] O3 ?_; intro w4 o_ k_; obtain ⟨O4, K4⟩ := ok_ K3 o_ k_; clear a0 a1 a2 O3 K3 o_ k_; have a0 := k3_ O4 0; have a1 := k4_ O4 1; have a2 := k3_ O4 2) | ((with_reducible refine gT 49 4 rfl ?_); refine wS 2 0 [.int .i64 2, .int .i64 0, s] O4 ?_; intro w5 o_ k_; obtain ⟨O5, K5⟩ := ok_ K4 o_ k_; clear a0 a1 a2 O4 K4 o_ k_; have a0 := k3_ O5 0; have a1 := k4_ O5 1; have a2 := k3_ O5 2))
 refine bodyPost_ret (results_cell_row rfl _ _ gc 49 #[.int .i64 2, .int .i64 0, s] (0, 0) _ rfl (O5.out.blk (i := 2) rfl) Tryd.underlying49 rfl (by kernel_rfl)) rfl ?_
 exact ⟨rfl, kw_ K5 HN⟩
theorem rap_05 (key : ByteArray) (n : Int) (s : ByteArray) (hs : s.size ≤ 4096) (w : World) :
  Calls Tryd.prog 93 #[.agg #[.int .i64 0, .int .i64 0, .string ⟨#[]⟩], .agg #[key, .int .i64 5, n, s]] w fun e w' => e = .returned (.agg #[.int .i64 0, .int .i64 0, .string ⟨#[]⟩]) ∧ Below w.heap.size w w' := by
 skip
 clear hs
 obtain ⟨N, HN, O0, K0⟩ := st_ w
 go_enter Tryd.func93, Tryd.ntmps93
 go_wp2_with (first | ((with_reducible refine gD 2 rfl ?_); refine bP 2 #[.int .i64 0, .int .i64 0, .string ⟨#[]⟩] 49 O0.out ?_; intro ga w1 o_ k_; obtain ⟨O1, K1⟩ := ok_ K0 o_ k_; clear O0 K0 o_ k_; have a0 := k3_ O1 0) | ((with_reducible refine gD 3 rfl ?_); refine bP 3 #[key, .int .i64 5, n, s] 32 O1.out ?_; intro gb w2 o_ k_; obtain ⟨O2, K2⟩ := ok_ K1 o_ k_; clear a0 O1 K1 o_ k_; have a0 := k3_ O2 0; have a1 := k4_ O2 1) | ((with_reducible refine gD 4 rfl ?_); refine bP 4 #[.int .i64 0, .int .i64 0, .string ⟨#[]⟩] 49 O2.out ?_; intro gc w3 o_ k_; obtain ⟨O3, K3⟩ := ok_ K2 o_ k_; clear a0 a1 O2 K2 o_ k_; have a0 := k3_ O3 0; have a1 := k4_ O3 1; have a2 := k3_ O3 2) | ((with_reducible refine gT 49 2 rfl ?_); refine wS 0 0 [.int .i64 0, .int .i64 0, .string ⟨#[]⟩] O3 ?_; intro w4 o_ k_; obtain ⟨O4, K4⟩ := ok_ K3 o_ k_; clear a0 a1 a2 O3 K3 o_ k_; have a0 := k3_ O4 0; have a1 := k4_ O4 1; have a2 := k3_ O4 2) | ((with_reducible refine gT 49 4 rfl ?_); refine wS 2 0 [.int .i64 0, .int .i64 0, .string ⟨#[]⟩] O4 ?_; intro w5 o_ k_; obtain ⟨O5, K5⟩ := ok_ K4 o_ k_; clear a0 a1 a2 O4 K4 o_ k_; have a0 := k3_ O5 0; have a1 := k4_ O5 1; have a2 := k3_ O5 2))
 refine bodyPost_ret (results_cell_row rfl _ _ gc 49 #[.int .i64 0, .int .i64 0, .string ⟨#[]⟩] (0, 0) _ rfl (O5.out.blk (i := 2) rfl) Tryd.underlying49 rfl (by kernel_rfl)) rfl ?_
 exact ⟨rfl, kw_ K5 HN⟩
theorem rap_00 (c : Int) (h1 : c ≠ 1) (h2 : c ≠ 2) (h3 : c ≠ 3) (h4 : c ≠ 4) (h5 : c ≠ 5) (key : ByteArray) (n : Int) (s : ByteArray) (hs : s.size ≤ 4096) (w : World) :
  Calls Tryd.prog 93 #[.agg #[.int .i64 0, .int .i64 0, .string ⟨#[]⟩], .agg #[key, c, n, s]] w fun e w' => e = .returned (.agg #[.int .i64 0, .int .i64 0, .string ⟨#[]⟩]) ∧ Below w.heap.size w w' := by
 skip
 have e1 : (c == 1) = false := by simp [h1]
 have e2 : (c == 2) = false := by simp [h2]
 have e3 : (c == 3) = false := by simp [h3]
 have e4 : (c == 4) = false := by simp [h4]
 have e5 : (c == 5) = false := by simp [h5]
 clear hs
 obtain ⟨N, HN, O0, K0⟩ := st_ w
 go_enter Tryd.func93, Tryd.ntmps93
 go_wp2_with (first | ((with_reducible refine gD 2 rfl ?_); refine bP 2 #[.int .i64 0, .int .i64 0, .string ⟨#[]⟩] 49 O0.out ?_; intro ga w1 o_ k_; obtain ⟨O1, K1⟩ := ok_ K0 o_ k_; clear O0 K0 o_ k_; have a0 := k3_ O1 0) | ((with_reducible refine gD 3 rfl ?_); refine bP 3 #[key, c, n, s] 32 O1.out ?_; intro gb w2 o_ k_; obtain ⟨O2, K2⟩ := ok_ K1 o_ k_; clear a0 O1 K1 o_ k_; have a0 := k3_ O2 0; have a1 := k4_ O2 1) | ((with_reducible refine gD 4 rfl ?_); refine bP 4 #[.int .i64 0, .int .i64 0, .string ⟨#[]⟩] 49 O2.out ?_; intro gc w3 o_ k_; obtain ⟨O3, K3⟩ := ok_ K2 o_ k_; clear a0 a1 O2 K2 o_ k_; have a0 := k3_ O3 0; have a1 := k4_ O3 1; have a2 := k3_ O3 2) | ((with_reducible refine gT 49 2 rfl ?_); refine wS 0 0 [.int .i64 0, .int .i64 0, .string ⟨#[]⟩] O3 ?_; intro w4 o_ k_; obtain ⟨O4, K4⟩ := ok_ K3 o_ k_; clear a0 a1 a2 O3 K3 o_ k_; have a0 := k3_ O4 0; have a1 := k4_ O4 1; have a2 := k3_ O4 2) | ((with_reducible refine gT 49 4 rfl ?_); refine wS 2 0 [.int .i64 0, .int .i64 0, .string ⟨#[]⟩] O4 ?_; intro w5 o_ k_; obtain ⟨O5, K5⟩ := ok_ K4 o_ k_; clear a0 a1 a2 O4 K4 o_ k_; have a0 := k3_ O5 0; have a1 := k4_ O5 1; have a2 := k3_ O5 2))
 refine bodyPost_ret (results_cell_row rfl _ _ gc 49 #[.int .i64 0, .int .i64 0, .string ⟨#[]⟩] (0, 0) _ rfl (O5.out.blk (i := 2) rfl) Tryd.underlying49 rfl (by kernel_rfl)) rfl ?_
 exact ⟨rfl, kw_ K5 HN⟩
theorem rap_11 (vn : Int) (key : ByteArray) (n : Int) (s : ByteArray) (hs : s.size ≤ 4096) (w : World) :
  Calls Tryd.prog 93 #[.agg #[.int .i64 1, vn, .string ⟨#[]⟩], .agg #[key, .int .i64 1, n, s]] w fun e w' => e = .returned (.agg #[.int .i64 1, n, .string ⟨#[]⟩]) ∧ Below w.heap.size w w' := by
 skip
 clear hs
 obtain ⟨N, HN, O0, K0⟩ := st_ w
 go_enter Tryd.func93, Tryd.ntmps93
 go_wp2_with (first | ((with_reducible refine gD 2 rfl ?_); refine bP 2 #[.int .i64 1, vn, .string ⟨#[]⟩] 49 O0.out ?_; intro ga w1 o_ k_; obtain ⟨O1, K1⟩ := ok_ K0 o_ k_; clear O0 K0 o_ k_; have a0 := k3_ O1 0) | ((with_reducible refine gD 3 rfl ?_); refine bP 3 #[key, .int .i64 1, n, s] 32 O1.out ?_; intro gb w2 o_ k_; obtain ⟨O2, K2⟩ := ok_ K1 o_ k_; clear a0 O1 K1 o_ k_; have a0 := k3_ O2 0; have a1 := k4_ O2 1) | ((with_reducible refine gD 4 rfl ?_); refine bP 4 #[.int .i64 0, .int .i64 0, .string ⟨#[]⟩] 49 O2.out ?_; intro gc w3 o_ k_; obtain ⟨O3, K3⟩ := ok_ K2 o_ k_; clear a0 a1 O2 K2 o_ k_; have a0 := k3_ O3 0; have a1 := k4_ O3 1; have a2 := k3_ O3 2) | ((with_reducible refine gT 9 12 rfl ?_); refine wS 0 2 [.string ⟨#[]⟩] O3 ?_; intro w4 o_ k_; obtain ⟨O4, K4⟩ := ok_ K3 o_ k_; clear a0 a1 a2 O3 K3 o_ k_; have a0 := k3_ O4 0; have a1 := k4_ O4 1; have a2 := k3_ O4 2) | ((with_reducible refine gT 49 4 rfl ?_); refine wS 2 0 [.int .i64 1, n, .string ⟨#[]⟩] O4 ?_; intro w5 o_ k_; obtain ⟨O5, K5⟩ := ok_ K4 o_ k_; clear a0 a1 a2 O4 K4 o_ k_; have a0 := k3_ O5 0; have a1 := k4_ O5 1; have a2 := k3_ O5 2))
 refine bodyPost_ret (results_cell_row rfl _ _ gc 49 #[.int .i64 1, n, .string ⟨#[]⟩] (0, 0) _ rfl (O5.out.blk (i := 2) rfl) Tryd.underlying49 rfl (by kernel_rfl)) rfl ?_
 exact ⟨rfl, kw_ K5 HN⟩
theorem rap_12 (vn : Int) (key : ByteArray) (n : Int) (s : ByteArray) (hs : s.size ≤ 4096) (w : World) :
  Calls Tryd.prog 93 #[.agg #[.int .i64 1, vn, .string ⟨#[]⟩], .agg #[key, .int .i64 2, n, s]] w fun e w' => e = .returned (.agg #[.int .i64 2, .int .i64 0, s]) ∧ Below w.heap.size w w' := by
 skip
 clear hs
 obtain ⟨N, HN, O0, K0⟩ := st_ w
 go_enter Tryd.func93, Tryd.ntmps93
 go_wp2_with (first | ((with_reducible refine gD 2 rfl ?_); refine bP 2 #[.int .i64 1, vn, .string ⟨#[]⟩] 49 O0.out ?_; intro ga w1 o_ k_; obtain ⟨O1, K1⟩ := ok_ K0 o_ k_; clear O0 K0 o_ k_; have a0 := k3_ O1 0) | ((with_reducible refine gD 3 rfl ?_); refine bP 3 #[key, .int .i64 2, n, s] 32 O1.out ?_; intro gb w2 o_ k_; obtain ⟨O2, K2⟩ := ok_ K1 o_ k_; clear a0 O1 K1 o_ k_; have a0 := k3_ O2 0; have a1 := k4_ O2 1) | ((with_reducible refine gD 4 rfl ?_); refine bP 4 #[.int .i64 0, .int .i64 0, .string ⟨#[]⟩] 49 O2.out ?_; intro gc w3 o_ k_; obtain ⟨O3, K3⟩ := ok_ K2 o_ k_; clear a0 a1 O2 K2 o_ k_; have a0 := k3_ O3 0; have a1 := k4_ O3 1; have a2 := k3_ O3 2) | ((with_reducible refine gT 9 12 rfl ?_); refine wS 0 2 [.string ⟨#[]⟩] O3 ?_; intro w4 o_ k_; obtain ⟨O4, K4⟩ := ok_ K3 o_ k_; clear a0 a1 a2 O3 K3 o_ k_; have a0 := k3_ O4 0; have a1 := k4_ O4 1; have a2 := k3_ O4 2) | ((with_reducible refine gT 49 4 rfl ?_); refine wS 2 0 [.int .i64 2, .int .i64 0, s] O4 ?_; intro w5 o_ k_; obtain ⟨O5, K5⟩ := ok_ K4 o_ k_; clear a0 a1 a2 O4 K4 o_ k_; have a0 := k3_ O5 0; have a1 := k4_ O5 1; have a2 := k3_ O5 2))
 refine bodyPost_ret (results_cell_row rfl _ _ gc 49 #[.int .i64 2, .int .i64 0, s] (0, 0) _ rfl (O5.out.blk (i := 2) rfl) Tryd.underlying49 rfl (by kernel_rfl)) rfl ?_
 exact ⟨rfl, kw_ K5 HN⟩
theorem rap_13 (vn : Int) (key : ByteArray) (n : Int) (s : ByteArray) (hs : s.size ≤ 4096) (w : World) :
  Calls Tryd.prog 93 #[.agg #[.int .i64 1, vn, .string ⟨#[]⟩], .agg #[key, .int .i64 3, n, s]] w fun e w' => e = .returned (.agg #[.int .i64 1, .int .i64 (wrap64 (vn + n)), .string ⟨#[]⟩]) ∧ Below w.heap.size w w' := by
 skip
 clear hs
 obtain ⟨N, HN, O0, K0⟩ := st_ w
 go_enter Tryd.func93, Tryd.ntmps93
 go_wp2_with (first | ((with_reducible refine gD 2 rfl ?_); refine bP 2 #[.int .i64 1, vn, .string ⟨#[]⟩] 49 O0.out ?_; intro ga w1 o_ k_; obtain ⟨O1, K1⟩ := ok_ K0 o_ k_; clear O0 K0 o_ k_; have a0 := k3_ O1 0) | ((with_reducible refine gD 3 rfl ?_); refine bP 3 #[key, .int .i64 3, n, s] 32 O1.out ?_; intro gb w2 o_ k_; obtain ⟨O2, K2⟩ := ok_ K1 o_ k_; clear a0 O1 K1 o_ k_; have a0 := k3_ O2 0; have a1 := k4_ O2 1) | ((with_reducible refine gD 4 rfl ?_); refine bP 4 #[.int .i64 0, .int .i64 0, .string ⟨#[]⟩] 49 O2.out ?_; intro gc w3 o_ k_; obtain ⟨O3, K3⟩ := ok_ K2 o_ k_; clear a0 a1 O2 K2 o_ k_; have a0 := k3_ O3 0; have a1 := k4_ O3 1; have a2 := k3_ O3 2) | ((with_reducible refine gT 9 12 rfl ?_); refine wS 0 2 [.string ⟨#[]⟩] O3 ?_; intro w4 o_ k_; obtain ⟨O4, K4⟩ := ok_ K3 o_ k_; clear a0 a1 a2 O3 K3 o_ k_; have a0 := k3_ O4 0; have a1 := k4_ O4 1; have a2 := k3_ O4 2) | ((with_reducible refine gT 2 62 rfl ?_); refine wS 0 1 [.int .i64 (wrap64 (vn + n))] O4 ?_; intro w5 o_ k_; obtain ⟨O5, K5⟩ := ok_ K4 o_ k_; clear a0 a1 a2 O4 K4 o_ k_; have a0 := k3_ O5 0; have a1 := k4_ O5 1; have a2 := k3_ O5 2) | ((with_reducible refine gT 49 4 rfl ?_); refine wS 2 0 [.int .i64 1, .int .i64 (wrap64 (vn + n)), .string ⟨#[]⟩] O5 ?_; intro w6 o_ k_; obtain ⟨O6, K6⟩ := ok_ K5 o_ k_; clear a0 a1 a2 O5 K5 o_ k_; have a0 := k3_ O6 0; have a1 := k4_ O6 1; have a2 := k3_ O6 2))
 refine bodyPost_ret (results_cell_row rfl _ _ gc 49 #[.int .i64 1, .int .i64 (wrap64 (vn + n)), .string ⟨#[]⟩] (0, 0) _ rfl (O6.out.blk (i := 2) rfl) Tryd.underlying49 rfl (by kernel_rfl)) rfl ?_
 exact ⟨rfl, kw_ K6 HN⟩
theorem rap_14 (vn : Int) (key : ByteArray) (n : Int) (s : ByteArray) (hs : s.size ≤ 4096) (w : World) :
  Calls Tryd.prog 93 #[.agg #[.int .i64 1, vn, .string ⟨#[]⟩], .agg #[key, .int .i64 4, n, s]] w fun e w' => e = .returned (.agg #[.int .i64 1, vn, .string ⟨#[]⟩]) ∧ Below w.heap.size w w' := by
 skip
 clear hs
 obtain ⟨N, HN, O0, K0⟩ := st_ w
 go_enter Tryd.func93, Tryd.ntmps93
 go_wp2_with (first | ((with_reducible refine gD 2 rfl ?_); refine bP 2 #[.int .i64 1, vn, .string ⟨#[]⟩] 49 O0.out ?_; intro ga w1 o_ k_; obtain ⟨O1, K1⟩ := ok_ K0 o_ k_; clear O0 K0 o_ k_; have a0 := k3_ O1 0) | ((with_reducible refine gD 3 rfl ?_); refine bP 3 #[key, .int .i64 4, n, s] 32 O1.out ?_; intro gb w2 o_ k_; obtain ⟨O2, K2⟩ := ok_ K1 o_ k_; clear a0 O1 K1 o_ k_; have a0 := k3_ O2 0; have a1 := k4_ O2 1) | ((with_reducible refine gD 4 rfl ?_); refine bP 4 #[.int .i64 0, .int .i64 0, .string ⟨#[]⟩] 49 O2.out ?_; intro gc w3 o_ k_; obtain ⟨O3, K3⟩ := ok_ K2 o_ k_; clear a0 a1 O2 K2 o_ k_; have a0 := k3_ O3 0; have a1 := k4_ O3 1; have a2 := k3_ O3 2) | ((with_reducible refine gT 9 12 rfl ?_); refine wS 0 2 [.string ⟨#[]⟩] O3 ?_; intro w4 o_ k_; obtain ⟨O4, K4⟩ := ok_ K3 o_ k_; clear a0 a1 a2 O3 K3 o_ k_; have a0 := k3_ O4 0; have a1 := k4_ O4 1; have a2 := k3_ O4 2) | ((with_reducible refine gT 49 4 rfl ?_); refine wS 2 0 [.int .i64 1, vn, .string ⟨#[]⟩] O4 ?_; intro w5 o_ k_; obtain ⟨O5, K5⟩ := ok_ K4 o_ k_; clear a0 a1 a2 O4 K4 o_ k_; have a0 := k3_ O5 0; have a1 := k4_ O5 1; have a2 := k3_ O5 2))
 refine bodyPost_ret (results_cell_row rfl _ _ gc 49 #[.int .i64 1, vn, .string ⟨#[]⟩] (0, 0) _ rfl (O5.out.blk (i := 2) rfl) Tryd.underlying49 rfl (by kernel_rfl)) rfl ?_
 exact ⟨rfl, kw_ K5 HN⟩
theorem rap_15 (vn : Int) (key : ByteArray) (n : Int) (s : ByteArray) (hs : s.size ≤ 4096) (w : World) :
  Calls Tryd.prog 93 #[.agg #[.int .i64 1, vn, .string ⟨#[]⟩], .agg #[key, .int .i64 5, n, s]] w fun e w' => e = .returned (.agg #[.int .i64 0, .int .i64 0, .string ⟨#[]⟩]) ∧ Below w.heap.size w w' := by
 skip
 clear hs
 obtain ⟨N, HN, O0, K0⟩ := st_ w
 go_enter Tryd.func93, Tryd.ntmps93
 go_wp2_with (first | ((with_reducible refine gD 2 rfl ?_); refine bP 2 #[.int .i64 1, vn, .string ⟨#[]⟩] 49 O0.out ?_; intro ga w1 o_ k_; obtain ⟨O1, K1⟩ := ok_ K0 o_ k_; clear O0 K0 o_ k_; have a0 := k3_ O1 0) | ((with_reducible refine gD 3 rfl ?_); refine bP 3 #[key, .int .i64 5, n, s] 32 O1.out ?_; intro gb w2 o_ k_; obtain ⟨O2, K2⟩ := ok_ K1 o_ k_; clear a0 O1 K1 o_ k_; have a0 := k3_ O2 0; have a1 := k4_ O2 1) | ((with_reducible refine gD 4 rfl ?_); refine bP 4 #[.int .i64 0, .int .i64 0, .string ⟨#[]⟩] 49 O2.out ?_; intro gc w3 o_ k_; obtain ⟨O3, K3⟩ := ok_ K2 o_ k_; clear a0 a1 O2 K2 o_ k_; have a0 := k3_ O3 0; have a1 := k4_ O3 1; have a2 := k3_ O3 2) | ((with_reducible refine gT 9 12 rfl ?_); refine wS 0 2 [.string ⟨#[]⟩] O3 ?_; intro w4 o_ k_; obtain ⟨O4, K4⟩ := ok_ K3 o_ k_; clear a0 a1 a2 O3 K3 o_ k_; have a0 := k3_ O4 0; have a1 := k4_ O4 1; have a2 := k3_ O4 2) | ((with_reducible refine gT 49 4 rfl ?_); refine wS 2 0 [.int .i64 0, .int .i64 0, .string ⟨#[]⟩] O4 ?_; intro w5 o_ k_; obtain ⟨O5, K5⟩ := ok_ K4 o_ k_; clear a0 a1 a2 O4 K4 o_ k_; have a0 := k3_ O5 0; have a1 := k4_ O5 1; have a2 := k3_ O5 2))
 refine bodyPost_ret (results_cell_row rfl _ _ gc 49 #[.int .i64 0, .int .i64 0, .string ⟨#[]⟩] (0, 0) _ rfl (O5.out.blk (i := 2) rfl) Tryd.underlying49 rfl (by kernel_rfl)) rfl ?_
 exact ⟨rfl, kw_ K5 HN⟩
theorem rap_10 (vn : Int) (c : Int) (h1 : c ≠ 1) (h2 : c ≠ 2) (h3 : c ≠ 3) (h4 : c ≠ 4) (h5 : c ≠ 5) (key : ByteArray) (n : Int) (s : ByteArray) (hs : s.size ≤ 4096) (w : World) :
  Calls Tryd.prog 93 #[.agg #[.int .i64 1, vn, .string ⟨#[]⟩], .agg #[key, c, n, s]] w fun e w' => e = .returned (.agg #[.int .i64 1, vn, .string ⟨#[]⟩]) ∧ Below w.heap.size w w' := by
 skip
 have e1 : (c == 1) = false := by simp [h1]
 have e2 : (c == 2) = false := by simp [h2]
 have e3 : (c == 3) = false := by simp [h3]
 have e4 : (c == 4) = false := by simp [h4]
 have e5 : (c == 5) = false := by simp [h5]
 clear hs
 obtain ⟨N, HN, O0, K0⟩ := st_ w
 go_enter Tryd.func93, Tryd.ntmps93
 go_wp2_with (first | ((with_reducible refine gD 2 rfl ?_); refine bP 2 #[.int .i64 1, vn, .string ⟨#[]⟩] 49 O0.out ?_; intro ga w1 o_ k_; obtain ⟨O1, K1⟩ := ok_ K0 o_ k_; clear O0 K0 o_ k_; have a0 := k3_ O1 0) | ((with_reducible refine gD 3 rfl ?_); refine bP 3 #[key, c, n, s] 32 O1.out ?_; intro gb w2 o_ k_; obtain ⟨O2, K2⟩ := ok_ K1 o_ k_; clear a0 O1 K1 o_ k_; have a0 := k3_ O2 0; have a1 := k4_ O2 1) | ((with_reducible refine gD 4 rfl ?_); refine bP 4 #[.int .i64 0, .int .i64 0, .string ⟨#[]⟩] 49 O2.out ?_; intro gc w3 o_ k_; obtain ⟨O3, K3⟩ := ok_ K2 o_ k_; clear a0 a1 O2 K2 o_ k_; have a0 := k3_ O3 0; have a1 := k4_ O3 1; have a2 := k3_ O3 2) | ((with_reducible refine gT 9 12 rfl ?_); refine wS 0 2 [.string ⟨#[]⟩] O3 ?_; intro w4 o_ k_; obtain ⟨O4, K4⟩ := ok_ K3 o_ k_; clear a0 a1 a2 O3 K3 o_ k_; have a0 := k3_ O4 0; have a1 := k4_ O4 1; have a2 := k3_ O4 2) | ((with_reducible refine gT 49 4 rfl ?_); refine wS 2 0 [.int .i64 1, vn, .string ⟨#[]⟩] O4 ?_; intro w5 o_ k_; obtain ⟨O5, K5⟩ := ok_ K4 o_ k_; clear a0 a1 a2 O4 K4 o_ k_; have a0 := k3_ O5 0; have a1 := k4_ O5 1; have a2 := k3_ O5 2))
 refine bodyPost_ret (results_cell_row rfl _ _ gc 49 #[.int .i64 1, vn, .string ⟨#[]⟩] (0, 0) _ rfl (O5.out.blk (i := 2) rfl) Tryd.underlying49 rfl (by kernel_rfl)) rfl ?_
 exact ⟨rfl, kw_ K5 HN⟩
theorem rap_21 (vs : ByteArray) (hv : vs.size ≤ 1024) (key : ByteArray) (n : Int) (s : ByteArray) (hs : s.size ≤ 4096) (w : World) :
  Calls Tryd.prog 93 #[.agg #[.int .i64 2, .int .i64 0, vs], .agg #[key, .int .i64 1, n, s]] w fun e w' => e = .returned (.agg #[.int .i64 1, n, .string ⟨#[]⟩]) ∧ Below w.heap.size w w' := by
 skip
 clear hv hs
 obtain ⟨N, HN, O0, K0⟩ := st_ w
 go_enter Tryd.func93, Tryd.ntmps93
 go_wp2_with (first | ((with_reducible refine gD 2 rfl ?_); refine bP 2 #[.int .i64 2, .int .i64 0, vs] 49 O0.out ?_; intro ga w1 o_ k_; obtain ⟨O1, K1⟩ := ok_ K0 o_ k_; clear O0 K0 o_ k_; have a0 := k3_ O1 0) | ((with_reducible refine gD 3 rfl ?_); refine bP 3 #[key, .int .i64 1, n, s] 32 O1.out ?_; intro gb w2 o_ k_; obtain ⟨O2, K2⟩ := ok_ K1 o_ k_; clear a0 O1 K1 o_ k_; have a0 := k3_ O2 0; have a1 := k4_ O2 1) | ((with_reducible refine gD 4 rfl ?_); refine bP 4 #[.int .i64 0, .int .i64 0, .string ⟨#[]⟩] 49 O2.out ?_; intro gc w3 o_ k_; obtain ⟨O3, K3⟩ := ok_ K2 o_ k_; clear a0 a1 O2 K2 o_ k_; have a0 := k3_ O3 0; have a1 := k4_ O3 1; have a2 := k3_ O3 2) | ((with_reducible refine gT 2 16 rfl ?_); refine wS 0 1 [.int .i64 0] O3 ?_; intro w4 o_ k_; obtain ⟨O4, K4⟩ := ok_ K3 o_ k_; clear a0 a1 a2 O3 K3 o_ k_; have a0 := k3_ O4 0; have a1 := k4_ O4 1; have a2 := k3_ O4 2) | ((with_reducible refine gT 49 4 rfl ?_); refine wS 2 0 [.int .i64 1, n, .string ⟨#[]⟩] O4 ?_; intro w5 o_ k_; obtain ⟨O5, K5⟩ := ok_ K4 o_ k_; clear a0 a1 a2 O4 K4 o_ k_; have a0 := k3_ O5 0; have a1 := k4_ O5 1; have a2 := k3_ O5 2))
 refine bodyPost_ret (results_cell_row rfl _ _ gc 49 #[.int .i64 1, n, .string ⟨#[]⟩] (0, 0) _ rfl (O5.out.blk (i := 2) rfl) Tryd.underlying49 rfl (by kernel_rfl)) rfl ?_
 exact ⟨rfl, kw_ K5 HN⟩
theorem rap_22 (vs : ByteArray) (hv : vs.size ≤ 1024) (key : ByteArray) (n : Int) (s : ByteArray) (hs : s.size ≤ 4096) (w : World) :
  Calls Tryd.prog 93 #[.agg #[.int .i64 2, .int .i64 0, vs], .agg #[key, .int .i64 2, n, s]] w fun e w' => e = .returned (.agg #[.int .i64 2, .int .i64 0, s]) ∧ Below w.heap.size w w' := by
 skip
 clear hv hs
 obtain ⟨N, HN, O0, K0⟩ := st_ w
 go_enter Tryd.func93, Tryd.ntmps93
 go_wp2_with (first | ((with_reducible refine gD 2 rfl ?_); refine bP 2 #[.int .i64 2, .int .i64 0, vs] 49 O0.out ?_; intro ga w1 o_ k_; obtain ⟨O1, K1⟩ := ok_ K0 o_ k_; clear O0 K0 o_ k_; have a0 := k3_ O1 0) | ((with_reducible refine gD 3 rfl ?_); refine bP 3 #[key, .int .i64 2, n, s] 32 O1.out ?_; intro gb w2 o_ k_; obtain ⟨O2, K2⟩ := ok_ K1 o_ k_; clear a0 O1 K1 o_ k_; have a0 := k3_ O2 0; have a1 := k4_ O2 1) | ((with_reducible refine gD 4 rfl ?_); refine bP 4 #[.int .i64 0, .int .i64 0, .string ⟨#[]⟩] 49 O2.out ?_; intro gc w3 o_ k_; obtain ⟨O3, K3⟩ := ok_ K2 o_ k_; clear a0 a1 O2 K2 o_ k_; have a0 := k3_ O3 0; have a1 := k4_ O3 1; have a2 := k3_ O3 2) | ((with_reducible refine gT 2 16 rfl ?_); refine wS 0 1 [.int .i64 0] O3 ?_; intro w4 o_ k_; obtain ⟨O4, K4⟩ := ok_ K3 o_ k_; clear a0 a1 a2 O3 K3 o_ k_; have a0 := k3_ O4 0; have a1 := k4_ O4 1; have a2 := k3_ O4 2) | ((with_reducible refine gT 49 4 rfl ?_); refine wS 2 0 [.int .i64 2, .int .i64 0, s] O4 ?_; intro w5 o_ k_; obtain ⟨O5, K5⟩ := ok_ K4 o_ k_; clear a0 a1 a2 O4 K4 o_ k_; have a0 := k3_ O5 0; have a1 := k4_ O5 1; have a2 := k3_ O5 2))
 refine bodyPost_ret (results_cell_row rfl _ _ gc 49 #[.int .i64 2, .int .i64 0, s] (0, 0) _ rfl (O5.out.blk (i := 2) rfl) Tryd.underlying49 rfl (by kernel_rfl)) rfl ?_
 exact ⟨rfl, kw_ K5 HN⟩
theorem rap_23 (vs : ByteArray) (hv : vs.size ≤ 1024) (key : ByteArray) (n : Int) (s : ByteArray) (hs : s.size ≤ 4096) (w : World) :
  Calls Tryd.prog 93 #[.agg #[.int .i64 2, .int .i64 0, vs], .agg #[key, .int .i64 3, n, s]] w fun e w' => e = .returned (.agg #[.int .i64 2, .int .i64 0, vs]) ∧ Below w.heap.size w w' := by
 skip
 clear hv hs
 obtain ⟨N, HN, O0, K0⟩ := st_ w
 go_enter Tryd.func93, Tryd.ntmps93
 go_wp2_with (first | ((with_reducible refine gD 2 rfl ?_); refine bP 2 #[.int .i64 2, .int .i64 0, vs] 49 O0.out ?_; intro ga w1 o_ k_; obtain ⟨O1, K1⟩ := ok_ K0 o_ k_; clear O0 K0 o_ k_; have a0 := k3_ O1 0) | ((with_reducible refine gD 3 rfl ?_); refine bP 3 #[key, .int .i64 3, n, s] 32 O1.out ?_; intro gb w2 o_ k_; obtain ⟨O2, K2⟩ := ok_ K1 o_ k_; clear a0 O1 K1 o_ k_; have a0 := k3_ O2 0; have a1 := k4_ O2 1) | ((with_reducible refine gD 4 rfl ?_); refine bP 4 #[.int .i64 0, .int .i64 0, .string ⟨#[]⟩] 49 O2.out ?_; intro gc w3 o_ k_; obtain ⟨O3, K3⟩ := ok_ K2 o_ k_; clear a0 a1 O2 K2 o_ k_; have a0 := k3_ O3 0; have a1 := k4_ O3 1; have a2 := k3_ O3 2) | ((with_reducible refine gT 2 16 rfl ?_); refine wS 0 1 [.int .i64 0] O3 ?_; intro w4 o_ k_; obtain ⟨O4, K4⟩ := ok_ K3 o_ k_; clear a0 a1 a2 O3 K3 o_ k_; have a0 := k3_ O4 0; have a1 := k4_ O4 1; have a2 := k3_ O4 2) | ((with_reducible refine gT 49 4 rfl ?_); refine wS 2 0 [.int .i64 2, .int .i64 0, vs] O4 ?_; intro w5 o_ k_; obtain ⟨O5, K5⟩ := ok_ K4 o_ k_; clear a0 a1 a2 O4 K4 o_ k_; have a0 := k3_ O5 0; have a1 := k4_ O5 1; have a2 := k3_ O5 2))
 refine bodyPost_ret (results_cell_row rfl _ _ gc 49 #[.int .i64 2, .int .i64 0, vs] (0, 0) _ rfl (O5.out.blk (i := 2) rfl) Tryd.underlying49 rfl (by kernel_rfl)) rfl ?_
 exact ⟨rfl, kw_ K5 HN⟩
theorem rap_24y (vs : ByteArray) (hv : vs.size ≤ 1024) (key : ByteArray) (n : Int) (s : ByteArray) (hs : s.size ≤ 4096) (hf : vs.size + s.size ≤ 1024) (w : World) :
  Calls Tryd.prog 93 #[.agg #[.int .i64 2, .int .i64 0, vs], .agg #[key, .int .i64 4, n, s]] w fun e w' => e = .returned (.agg #[.int .i64 2, .int .i64 0, .string (vs ++ s)]) ∧ Below w.heap.size w w' := by
 skip
 have hq : wrap64 ((vs.size : Int) + (s.size : Int)) = (vs.size : Int) + s.size := by unfold wrap64; omega
 have hq1 : wrap64 (1024 - (vs.size : Int)) = 1024 - (vs.size : Int) := by unfold wrap64; omega
 have hq2 : IntKind.i64.wrap ((vs.size : Int) + (s.size : Int)) = (vs.size : Int) + s.size := by rw [IntKind.wrap_i64]; omega
 have hq3 : IntKind.i64.wrap (1024 - (vs.size : Int)) = 1024 - (vs.size : Int) := by rw [IntKind.wrap_i64]; omega
 have hd1 : decide ((vs.size : Int) + s.size ≤ 1024) = true := by simp; omega
 have hd2 : decide ((s.size : Int) ≤ 1024 - (vs.size : Int)) = true := by simp; omega
 have hd3 : decide ((vs.size : Int) ≤ 1024) = true := by simp; omega
 have hd4 : decide (vs.size ≤ 1024) = true := by simp; omega
 have hj1 := of_decide_eq_true hd1
 have hj2 := of_decide_eq_true hd2
 clear hv hs
 obtain ⟨N, HN, O0, K0⟩ := st_ w
 go_enter Tryd.func93, Tryd.ntmps93
 go_wp2_with (first | ((with_reducible refine gD 2 rfl ?_); refine bP 2 #[.int .i64 2, .int .i64 0, vs] 49 O0.out ?_; intro ga w1 o_ k_; obtain ⟨O1, K1⟩ := ok_ K0 o_ k_; clear O0 K0 o_ k_; have a0 := k3_ O1 0) | ((with_reducible refine gD 3 rfl ?_); refine bP 3 #[key, .int .i64 4, n, s] 32 O1.out ?_; intro gb w2 o_ k_; obtain ⟨O2, K2⟩ := ok_ K1 o_ k_; clear a0 O1 K1 o_ k_; have a0 := k3_ O2 0; have a1 := k4_ O2 1) | ((with_reducible refine gD 4 rfl ?_); refine bP 4 #[.int .i64 0, .int .i64 0, .string ⟨#[]⟩] 49 O2.out ?_; intro gc w3 o_ k_; obtain ⟨O3, K3⟩ := ok_ K2 o_ k_; clear a0 a1 O2 K2 o_ k_; have a0 := k3_ O3 0; have a1 := k4_ O3 1; have a2 := k3_ O3 2) | ((with_reducible refine gT 2 16 rfl ?_); refine wS 0 1 [.int .i64 0] O3 ?_; intro w4 o_ k_; obtain ⟨O4, K4⟩ := ok_ K3 o_ k_; clear a0 a1 a2 O3 K3 o_ k_; have a0 := k3_ O4 0; have a1 := k4_ O4 1; have a2 := k3_ O4 2) | ((with_reducible refine gT 9 92 rfl ?_); refine wS 0 2 [.string (vs ++ s)] O4 ?_; intro w5 o_ k_; obtain ⟨O5, K5⟩ := ok_ K4 o_ k_; clear a0 a1 a2 O4 K4 o_ k_; have a0 := k3_ O5 0; have a1 := k4_ O5 1; have a2 := k3_ O5 2) | ((with_reducible refine gT 49 4 rfl ?_); refine wS 2 0 [.int .i64 2, .int .i64 0, .string (vs ++ s)] O5 ?_; intro w6 o_ k_; obtain ⟨O6, K6⟩ := ok_ K5 o_ k_; clear a0 a1 a2 O5 K5 o_ k_; have a0 := k3_ O6 0; have a1 := k4_ O6 1; have a2 := k3_ O6 2))
 refine bodyPost_ret (results_cell_row rfl _ _ gc 49 #[.int .i64 2, .int .i64 0, .string (vs ++ s)] (0, 0) _ rfl (O6.out.blk (i := 2) rfl) Tryd.underlying49 rfl (by kernel_rfl)) rfl ?_
 exact ⟨rfl, kw_ K6 HN⟩
theorem rap_24z (vs : ByteArray) (hv : vs.size ≤ 1024) (key : ByteArray) (n : Int) (s : ByteArray) (hs : s.size ≤ 4096) (hf : ¬ vs.size + s.size ≤ 1024) (w : World) :
  Calls Tryd.prog 93 #[.agg #[.int .i64 2, .int .i64 0, vs], .agg #[key, .int .i64 4, n, s]] w fun e w' => e = .returned (.agg #[.int .i64 2, .int .i64 0, vs]) ∧ Below w.heap.size w w' := by
 skip
 have hq : wrap64 ((vs.size : Int) + (s.size : Int)) = (vs.size : Int) + s.size := by unfold wrap64; omega
 have hq1 : wrap64 (1024 - (vs.size : Int)) = 1024 - (vs.size : Int) := by unfold wrap64; omega
 have hq2 : IntKind.i64.wrap ((vs.size : Int) + (s.size : Int)) = (vs.size : Int) + s.size := by rw [IntKind.wrap_i64]; omega
 have hq3 : IntKind.i64.wrap (1024 - (vs.size : Int)) = 1024 - (vs.size : Int) := by rw [IntKind.wrap_i64]; omega
 have hd1 : decide ((vs.size : Int) + s.size ≤ 1024) = false := by simp; omega
 have hd2 : decide ((s.size : Int) ≤ 1024 - (vs.size : Int)) = false := by simp; omega
 have hd3 : decide ((vs.size : Int) ≤ 1024) = true := by simp; omega
 have hd4 : decide (vs.size ≤ 1024) = true := by simp; omega
 have hj1 := of_decide_eq_false hd1
 have hj2 := of_decide_eq_false hd2
 clear hv hs
 obtain ⟨N, HN, O0, K0⟩ := st_ w
 go_enter Tryd.func93, Tryd.ntmps93
 go_wp2_with (first | ((with_reducible refine gD 2 rfl ?_); refine bP 2 #[.int .i64 2, .int .i64 0, vs] 49 O0.out ?_; intro ga w1 o_ k_; obtain ⟨O1, K1⟩ := ok_ K0 o_ k_; clear O0 K0 o_ k_; have a0 := k3_ O1 0) | ((with_reducible refine gD 3 rfl ?_); refine bP 3 #[key, .int .i64 4, n, s] 32 O1.out ?_; intro gb w2 o_ k_; obtain ⟨O2, K2⟩ := ok_ K1 o_ k_; clear a0 O1 K1 o_ k_; have a0 := k3_ O2 0; have a1 := k4_ O2 1) | ((with_reducible refine gD 4 rfl ?_); refine bP 4 #[.int .i64 0, .int .i64 0, .string ⟨#[]⟩] 49 O2.out ?_; intro gc w3 o_ k_; obtain ⟨O3, K3⟩ := ok_ K2 o_ k_; clear a0 a1 O2 K2 o_ k_; have a0 := k3_ O3 0; have a1 := k4_ O3 1; have a2 := k3_ O3 2) | ((with_reducible refine gT 2 16 rfl ?_); refine wS 0 1 [.int .i64 0] O3 ?_; intro w4 o_ k_; obtain ⟨O4, K4⟩ := ok_ K3 o_ k_; clear a0 a1 a2 O3 K3 o_ k_; have a0 := k3_ O4 0; have a1 := k4_ O4 1; have a2 := k3_ O4 2) | ((with_reducible refine gT 49 4 rfl ?_); refine wS 2 0 [.int .i64 2, .int .i64 0, vs] O4 ?_; intro w5 o_ k_; obtain ⟨O5, K5⟩ := ok_ K4 o_ k_; clear a0 a1 a2 O4 K4 o_ k_; have a0 := k3_ O5 0; have a1 := k4_ O5 1; have a2 := k3_ O5 2))
 refine bodyPost_ret (results_cell_row rfl _ _ gc 49 #[.int .i64 2, .int .i64 0, vs] (0, 0) _ rfl (O5.out.blk (i := 2) rfl) Tryd.underlying49 rfl (by kernel_rfl)) rfl ?_
 exact ⟨rfl, kw_ K5 HN⟩
theorem rap_25 (vs : ByteArray) (hv : vs.size ≤ 1024) (key : ByteArray) (n : Int) (s : ByteArray) (hs : s.size ≤ 4096) (w : World) :
  Calls Tryd.prog 93 #[.agg #[.int .i64 2, .int .i64 0, vs], .agg #[key, .int .i64 5, n, s]] w fun e w' => e = .returned (.agg #[.int .i64 0, .int .i64 0, .string ⟨#[]⟩]) ∧ Below w.heap.size w w' := by
 skip
 clear hv hs
 obtain ⟨N, HN, O0, K0⟩ := st_ w
 go_enter Tryd.func93, Tryd.ntmps93
 go_wp2_with (first | ((with_reducible refine gD 2 rfl ?_); refine bP 2 #[.int .i64 2, .int .i64 0, vs] 49 O0.out ?_; intro ga w1 o_ k_; obtain ⟨O1, K1⟩ := ok_ K0 o_ k_; clear O0 K0 o_ k_; have a0 := k3_ O1 0) | ((with_reducible refine gD 3 rfl ?_); refine bP 3 #[key, .int .i64 5, n, s] 32 O1.out ?_; intro gb w2 o_ k_; obtain ⟨O2, K2⟩ := ok_ K1 o_ k_; clear a0 O1 K1 o_ k_; have a0 := k3_ O2 0; have a1 := k4_ O2 1) | ((with_reducible refine gD 4 rfl ?_); refine bP 4 #[.int .i64 0, .int .i64 0, .string ⟨#[]⟩] 49 O2.out ?_; intro gc w3 o_ k_; obtain ⟨O3, K3⟩ := ok_ K2 o_ k_; clear a0 a1 O2 K2 o_ k_; have a0 := k3_ O3 0; have a1 := k4_ O3 1; have a2 := k3_ O3 2) | ((with_reducible refine gT 2 16 rfl ?_); refine wS 0 1 [.int .i64 0] O3 ?_; intro w4 o_ k_; obtain ⟨O4, K4⟩ := ok_ K3 o_ k_; clear a0 a1 a2 O3 K3 o_ k_; have a0 := k3_ O4 0; have a1 := k4_ O4 1; have a2 := k3_ O4 2) | ((with_reducible refine gT 49 4 rfl ?_); refine wS 2 0 [.int .i64 0, .int .i64 0, .string ⟨#[]⟩] O4 ?_; intro w5 o_ k_; obtain ⟨O5, K5⟩ := ok_ K4 o_ k_; clear a0 a1 a2 O4 K4 o_ k_; have a0 := k3_ O5 0; have a1 := k4_ O5 1; have a2 := k3_ O5 2))
 refine bodyPost_ret (results_cell_row rfl _ _ gc 49 #[.int .i64 0, .int .i64 0, .string ⟨#[]⟩] (0, 0) _ rfl (O5.out.blk (i := 2) rfl) Tryd.underlying49 rfl (by kernel_rfl)) rfl ?_
 exact ⟨rfl, kw_ K5 HN⟩
theorem rap_20 (vs : ByteArray) (hv : vs.size ≤ 1024) (c : Int) (h1 : c ≠ 1) (h2 : c ≠ 2) (h3 : c ≠ 3) (h4 : c ≠ 4) (h5 : c ≠ 5) (key : ByteArray) (n : Int) (s : ByteArray) (hs : s.size ≤ 4096) (w : World) :
  Calls Tryd.prog 93 #[.agg #[.int .i64 2, .int .i64 0, vs], .agg #[key, c, n, s]] w fun e w' => e = .returned (.agg #[.int .i64 2, .int .i64 0, vs]) ∧ Below w.heap.size w w' := by
 skip
 have e1 : (c == 1) = false := by simp [h1]
 have e2 : (c == 2) = false := by simp [h2]
 have e3 : (c == 3) = false := by simp [h3]
 have e4 : (c == 4) = false := by simp [h4]
 have e5 : (c == 5) = false := by simp [h5]
 clear hv hs
 obtain ⟨N, HN, O0, K0⟩ := st_ w
 go_enter Tryd.func93, Tryd.ntmps93
 go_wp2_with (first | ((with_reducible refine gD 2 rfl ?_); refine bP 2 #[.int .i64 2, .int .i64 0, vs] 49 O0.out ?_; intro ga w1 o_ k_; obtain ⟨O1, K1⟩ := ok_ K0 o_ k_; clear O0 K0 o_ k_; have a0 := k3_ O1 0) | ((with_reducible refine gD 3 rfl ?_); refine bP 3 #[key, c, n, s] 32 O1.out ?_; intro gb w2 o_ k_; obtain ⟨O2, K2⟩ := ok_ K1 o_ k_; clear a0 O1 K1 o_ k_; have a0 := k3_ O2 0; have a1 := k4_ O2 1) | ((with_reducible refine gD 4 rfl ?_); refine bP 4 #[.int .i64 0, .int .i64 0, .string ⟨#[]⟩] 49 O2.out ?_; intro gc w3 o_ k_; obtain ⟨O3, K3⟩ := ok_ K2 o_ k_; clear a0 a1 O2 K2 o_ k_; have a0 := k3_ O3 0; have a1 := k4_ O3 1; have a2 := k3_ O3 2) | ((with_reducible refine gT 2 16 rfl ?_); refine wS 0 1 [.int .i64 0] O3 ?_; intro w4 o_ k_; obtain ⟨O4, K4⟩ := ok_ K3 o_ k_; clear a0 a1 a2 O3 K3 o_ k_; have a0 := k3_ O4 0; have a1 := k4_ O4 1; have a2 := k3_ O4 2) | ((with_reducible refine gT 49 4 rfl ?_); refine wS 2 0 [.int .i64 2, .int .i64 0, vs] O4 ?_; intro w5 o_ k_; obtain ⟨O5, K5⟩ := ok_ K4 o_ k_; clear a0 a1 a2 O4 K4 o_ k_; have a0 := k3_ O5 0; have a1 := k4_ O5 1; have a2 := k3_ O5 2))
 refine bodyPost_ret (results_cell_row rfl _ _ gc 49 #[.int .i64 2, .int .i64 0, vs] (0, 0) _ rfl (O5.out.blk (i := 2) rfl) Tryd.underlying49 rfl (by kernel_rfl)) rfl ?_
 exact ⟨rfl, kw_ K5 HN⟩
def chapbookref04_Apply.f (a0_0 : Int) (a0_1 : Int) (a0_2 : ByteArray) (a1_0 : ByteArray) (a1_1 : Int) (a1_2 : Int) (a1_3 : ByteArray) : Option (Int × Int × ByteArray) := if good (a0_0, a0_1, a0_2) = true ∧ a1_3.size ≤ 4096 ∧ (-9223372036854775808 ≤ a1_2 ∧ a1_2 ≤ 9223372036854775807) then some (app (a0_0, a0_1, a0_2) a1_1 a1_2 a1_3) else none
theorem chapbookref04_Apply.calls (a0_0 : Int) (a0_1 : Int) (a0_2 : ByteArray) (a1_0 : ByteArray) (a1_1 : Int) (a1_2 : Int) (a1_3 : ByteArray) (r1 : Int) (r2 : Int) (r3 : ByteArray) (w : World) (h : chapbookref04_Apply.f a0_0 a0_1 a0_2 a1_0 a1_1 a1_2 a1_3 = some (r1, r2, r3)) :
  Calls Tryd.prog 93 #[.agg #[a0_0, a0_1, a0_2], .agg #[a1_0, a1_1, a1_2, a1_3]] w fun e w' => e = .returned (.agg #[r1, r2, r3]) ∧ Below w.heap.size w w' := by
 unfold chapbookref04_Apply.f at h
 split at h
 case isFalse => simp at h
 rename_i hg
 obtain ⟨hg, hs, hn⟩ := hg
 replace h := Option.some.inj h
 refine told_rap h ?_
 clear h
 rcases good_cases hg with e | ⟨vn, e⟩ | ⟨vs, hv, e⟩ <;> (obtain ⟨e0, e1⟩ := Prod.mk.inj e; obtain ⟨e1, e2⟩ := Prod.mk.inj e1; subst e0 e1 e2; clear hg e)
 ·by_cases h1 : a1_1 = 1
  ·subst h1
   rw [show app (0, 0, none') 1 a1_2 a1_3 = (1, a1_2, ⟨#[]⟩) from by simp [app]]
   exact rap_01 a1_0 a1_2 a1_3 hs w
  by_cases h2 : a1_1 = 2
  ·subst h2
   rw [show app (0, 0, none') 2 a1_2 a1_3 = (2, 0, a1_3) from by simp [app]]
   exact rap_02 a1_0 a1_2 a1_3 hs w
  by_cases h3 : a1_1 = 3
  ·subst h3
   rw [show app (0, 0, none') 3 a1_2 a1_3 = (1, a1_2, ⟨#[]⟩) from by simp [app, w64_ hn]]
   exact rap_03 a1_0 a1_2 a1_3 hs hn w
  by_cases h4 : a1_1 = 4
  ·subst h4
   rw [show app (0, 0, none') 4 a1_2 a1_3 = (2, 0, a1_3) from by simp [app]]
   exact rap_04 a1_0 a1_2 a1_3 hs w
  by_cases h5 : a1_1 = 5
  ·subst h5
   rw [show app (0, 0, none') 5 a1_2 a1_3 = (0, 0, ⟨#[]⟩) from by simp [app]]
   exact rap_05 a1_0 a1_2 a1_3 hs w
  ·skip
   rw [show app (0, 0, none') a1_1 a1_2 a1_3 = (0, 0, ⟨#[]⟩) from by simp [app, h1, h2, h3, h4, h5]]
   exact rap_00 a1_1 h1 h2 h3 h4 h5 a1_0 a1_2 a1_3 hs w
 ·by_cases h1 : a1_1 = 1
  ·subst h1
   rw [show app (1, a0_1, none') 1 a1_2 a1_3 = (1, a1_2, ⟨#[]⟩) from by simp [app]]
   exact rap_11 a0_1 a1_0 a1_2 a1_3 hs w
  by_cases h2 : a1_1 = 2
  ·subst h2
   rw [show app (1, a0_1, none') 2 a1_2 a1_3 = (2, 0, a1_3) from by simp [app]]
   exact rap_12 a0_1 a1_0 a1_2 a1_3 hs w
  by_cases h3 : a1_1 = 3
  ·subst h3
   rw [show app (1, a0_1, none') 3 a1_2 a1_3 = (1, (wrap64 (a0_1 + a1_2)), ⟨#[]⟩) from by simp [app]]
   exact rap_13 a0_1 a1_0 a1_2 a1_3 hs w
  by_cases h4 : a1_1 = 4
  ·subst h4
   rw [show app (1, a0_1, none') 4 a1_2 a1_3 = (1, a0_1, ⟨#[]⟩) from by simp [app]]
   exact rap_14 a0_1 a1_0 a1_2 a1_3 hs w
  by_cases h5 : a1_1 = 5
  ·subst h5
   rw [show app (1, a0_1, none') 5 a1_2 a1_3 = (0, 0, ⟨#[]⟩) from by simp [app]]
   exact rap_15 a0_1 a1_0 a1_2 a1_3 hs w
  ·skip
   rw [show app (1, a0_1, none') a1_1 a1_2 a1_3 = (1, a0_1, ⟨#[]⟩) from by simp [app, h1, h2, h3, h4, h5]]
   exact rap_10 a0_1 a1_1 h1 h2 h3 h4 h5 a1_0 a1_2 a1_3 hs w
 ·by_cases h1 : a1_1 = 1
  ·subst h1
   rw [show app (2, 0, a0_2) 1 a1_2 a1_3 = (1, a1_2, ⟨#[]⟩) from by simp [app]]
   exact rap_21 a0_2 hv a1_0 a1_2 a1_3 hs w
  by_cases h2 : a1_1 = 2
  ·subst h2
   rw [show app (2, 0, a0_2) 2 a1_2 a1_3 = (2, 0, a1_3) from by simp [app]]
   exact rap_22 a0_2 hv a1_0 a1_2 a1_3 hs w
  by_cases h3 : a1_1 = 3
  ·subst h3
   rw [show app (2, 0, a0_2) 3 a1_2 a1_3 = (2, 0, a0_2) from by simp [app]]
   exact rap_23 a0_2 hv a1_0 a1_2 a1_3 hs w
  by_cases h4 : a1_1 = 4
  ·subst h4
   by_cases hf : a0_2.size + a1_3.size ≤ 1024
   ·skip
    rw [show app (2, 0, a0_2) 4 a1_2 a1_3 = (2, 0, (a0_2 ++ a1_3)) from by simp [app, hf]]
    exact rap_24y a0_2 hv a1_0 a1_2 a1_3 hs hf w
   ·skip
    rw [show app (2, 0, a0_2) 4 a1_2 a1_3 = (2, 0, a0_2) from by simp [app, hf]]
    exact rap_24z a0_2 hv a1_0 a1_2 a1_3 hs hf w
  by_cases h5 : a1_1 = 5
  ·subst h5
   rw [show app (2, 0, a0_2) 5 a1_2 a1_3 = (0, 0, ⟨#[]⟩) from by simp [app]]
   exact rap_25 a0_2 hv a1_0 a1_2 a1_3 hs w
  ·skip
   rw [show app (2, 0, a0_2) a1_1 a1_2 a1_3 = (2, 0, a0_2) from by simp [app, h1, h2, h3, h4, h5]]
   exact rap_20 a0_2 hv a1_1 h1 h2 h3 h4 h5 a1_0 a1_2 a1_3 hs w
end Go.Proofs.YtjdenpmaianmfaaDoor.Q
