/- What the document's Sender and Link do: Left, Frames, Hear: a plain walk through their text. -/
import Derived.Test.YtjmoncfgoaaekaaDoorYFeedPlaysL4
import Derived.Test.YtjmoncfgoaaekaaDoorYFeedPlaysSepL
namespace Go.Proofs.YtjmoncfgoaaekaaDoor.J
set_option linter.unusedSimpArgs false
set_option linter.unusedVariables false
open Go Go.RowKit Go.Proofs.YtjmoncfgoaaekaaDoorW.PrintWords Go.Proofs.YtjmoncfgoaaekaaDoorW.PrintLast Go.Proofs.YtjmoncfgoaaekaaDoorW.PrintMore Go.Proofs.YtjmoncfgoaaekaaDoor.Q Go.Proofs.YtjmoncfgoaaekaaDoor.Sep
attribute [local go_sem] max2_int min2_int max_two min_two max_three min_three max_four min_four
def ObjD {α : Type} (d : Kd α) (e : Nat) (f : Value → Array Value) (t g : Nat) (L : List α) : HP := ex fun v : Value => star (cells g (f v) t) (nrow d e v L)
section
variable {α : Type} {d : Kd α} {e : Nat} {N : Nat → Prop} {w : World} {l : List HP} {i j : Nat} {f : Value → Array Value} {t g : Nat} {v : Value} {L : List α}
theorem ObjD.open_ (h : Own N w l) (hi : l[i]? = some (ObjD d e f t g L)) : ∃ A c, Own N w ((l.set i (cells g (f (.slice A L.length c)) t)) ++ [nrow d e (.slice A L.length c) L]) := by
 obtain ⟨v, hv⟩ := h.of_ex hi
 have hlt : i < l.length := (List.getElem?_eq_some_iff.1 hi).1
 have h2 := hv.split (i := i) (List.getElem?_set_self hlt)
 rw [List.set_set] at h2
 obtain ⟨A, c, rfl⟩ := h2.nslice (i := l.length) (by
  rw [List.getElem?_append_right (by simp), List.length_set, Nat.sub_self]; rfl)
 exact ⟨A, c, h2⟩
theorem ObjD.shut (h : Own N w l) (hi : l[i]? = some (cells g (f v) t)) (hj : l[j]? = some (nrow d e v L)) (hij : i ≠ j) : Own N w ((l.set i (ObjD d e f t g L)).set j emp) := by
 have h2 := h.join hi hj hij
 have hlt : i < l.length := (List.getElem?_eq_some_iff.1 hi).1
 have h3 := h2.to_ex (f := fun v : Value => star (cells g (f v) t) (nrow d e v L)) v (i := i) (by
  rw [List.getElem?_set_ne (fun e => hij e.symm), List.getElem?_set_self hlt])
 rw [List.set_comm _ _ hij, List.set_set, List.set_comm _ _ hij.symm] at h3
 exact h3
end
theorem infoS : (Tryd.prog.info? 9).map (fun i => (i.zero, i.size, i.bytes)) = some (some (.string ⟨#[]⟩), 1, 16) := by kernel_rfl
theorem flatS : Flat Kd.string := flat_scalar
abbrev DSnd (g : Nat) (W La : Int) (All : List ByteArray) (Ak : Int) : HP := ObjD Kd.string 9 (fun v => #[.int .i64 W, .int .i64 La, v, .int .i64 Ak]) 106 g All
abbrev DRcv (g : Nat) (room : Int) (All : List ByteArray) : HP := ObjD Kd.string 9 (fun v => #[.int .i64 room, v, .int .i64 0]) 108 g All
def dlinkC (gs gr : Nat) (E Wn Rm : Int) (Pv : Bool) : Array Value := #[.int .i64 E, .pointer (some ⟨gs, 0, none⟩), .pointer (some ⟨gr, 0, none⟩), .int .i64 Wn, .int .i64 Rm, .bool Pv]
def DLnk (g : Nat) (E Wn Rm : Int) (Pv : Bool) (W : Int) (All : List ByteArray) (Ak room : Int) (RAll : List ByteArray) : HP :=
 ex fun gs : Nat => ex fun gr : Nat => star (star (cells g (dlinkC gs gr E Wn Rm Pv) 84) (DSnd gs W 1125899906842624 All Ak)) (DRcv gr room RAll)
section
variable {N : Nat → Prop} {w : World} {g : Nat} {E Wn Rm : Int} {Pv : Bool} {W : Int} {All : List ByteArray} {Ak room : Int} {RAll : List ByteArray}
theorem DLnk.open_ (h : Own N w [DLnk g E Wn Rm Pv W All Ak room RAll]) : ∃ gs gr, Own N w [cells g (dlinkC gs gr E Wn Rm Pv) 84, DRcv gr room RAll, DSnd gs W 1125899906842624 All Ak] := by
 obtain ⟨gs, h1⟩ := h.of_ex (i := 0) rfl
 obtain ⟨gr, h2⟩ := h1.of_ex (i := 0) rfl
 exact ⟨gs, gr, (h2.split (i := 0) rfl).split (i := 0) rfl⟩
theorem DLnk.shut {gs gr : Nat} (h : Own N w [cells g (dlinkC gs gr E Wn Rm Pv) 84, DRcv gr room RAll, DSnd gs W 1125899906842624 All Ak]) : Own N w [DLnk g E Wn Rm Pv W All Ak room RAll] := by
 have h1 := h.join (i := 0) (j := 2) rfl rfl (by decide)
 have h2 := h1.join (i := 0) (j := 1) rfl rfl (by decide)
 have h3 := h2.to_ex (f := fun gr : Nat => star (star (cells g (dlinkC gs gr E Wn Rm Pv) 84) (DSnd gs W 1125899906842624 All Ak)) (DRcv gr room RAll)) gr (i := 0) rfl
 have h4 := h3.to_ex (f := fun gs : Nat => ex fun gr : Nat => star (star (cells g (dlinkC gs gr E Wn Rm Pv) 84) (DSnd gs W 1125899906842624 All Ak)) (DRcv gr room RAll)) gs (i := 0) rfl
 exact h4.take 1
end
set_option maxHeartbeats 16000000 in
set_option maxRecDepth 100000 in
theorem DClamp_low {N : Nat → Prop} {w : World} (n lo hi : Int) (h : Own N w []) (h1 : n < lo) : Calls Tryd.prog 77 #[.int .i64 n, .int .i64 lo, .int .i64 hi] w fun e_ w' => e_ = .returned (.int .i64 lo) ∧ Own N w' [] ∧ KeepS N w w' := by
 have d1 : decide (n < lo) = true := decide_eq_true h1
 clear h1
 have O0 : Aside0 (Own N w []) := ⟨h⟩
 have K0 : Aside0 (KeepS N w w) := ⟨KeepS.refl _ _⟩
 clear h
 go_enter Tryd.func77, Tryd.ntmps77
 go_wp2
 go_ret
 exact ⟨rfl, O0.out, K0.out⟩
set_option maxHeartbeats 16000000 in
set_option maxRecDepth 100000 in
theorem DClamp_high {N : Nat → Prop} {w : World} (n lo hi : Int) (h : Own N w []) (h1 : ¬ n < lo) (h2 : n > hi) : Calls Tryd.prog 77 #[.int .i64 n, .int .i64 lo, .int .i64 hi] w fun e_ w' => e_ = .returned (.int .i64 hi) ∧ Own N w' [] ∧ KeepS N w w' := by
 have d1 : decide (n < lo) = false := decide_eq_false h1
 have d2 : decide (n > hi) = true := decide_eq_true h2
 have d3 : decide (hi < n) = true := decide_eq_true h2
 clear h1 h2
 have O0 : Aside0 (Own N w []) := ⟨h⟩
 have K0 : Aside0 (KeepS N w w) := ⟨KeepS.refl _ _⟩
 clear h
 go_enter Tryd.func77, Tryd.ntmps77
 go_wp2
 go_ret
 exact ⟨rfl, O0.out, K0.out⟩
set_option maxHeartbeats 16000000 in
set_option maxRecDepth 100000 in
theorem DClamp_mid {N : Nat → Prop} {w : World} (n lo hi : Int) (h : Own N w []) (h1 : ¬ n < lo) (h2 : ¬ n > hi) : Calls Tryd.prog 77 #[.int .i64 n, .int .i64 lo, .int .i64 hi] w fun e_ w' => e_ = .returned (.int .i64 n) ∧ Own N w' [] ∧ KeepS N w w' := by
 have d1 : decide (n < lo) = false := decide_eq_false h1
 have d2 : decide (n > hi) = false := decide_eq_false h2
 have d3 : decide (hi < n) = false := decide_eq_false h2
 clear h1 h2
 have O0 : Aside0 (Own N w []) := ⟨h⟩
 have K0 : Aside0 (KeepS N w w) := ⟨KeepS.refl _ _⟩
 clear h
 go_enter Tryd.func77, Tryd.ntmps77
 go_wp2
 go_ret
 exact ⟨rfl, O0.out, K0.out⟩
theorem DClamp {N : Nat → Prop} {w : World} (n lo hi r : Int) (hr : mn (mx n lo) hi = r) (hl : lo ≤ hi) (h : Own N w []) : Calls Tryd.prog 77 #[.int .i64 n, .int .i64 lo, .int .i64 hi] w fun e_ w' => e_ = .returned (.int .i64 r) ∧ Own N w' [] ∧ KeepS N w w' := by
 by_cases h1 : n < lo
 ·rw [show r = lo by rw [← hr]; unfold mn mx; (repeat' split) <;> omega]; exact DClamp_low n lo hi h h1
 by_cases h2 : n > hi
 ·rw [show r = hi by rw [← hr]; unfold mn mx; (repeat' split) <;> omega]; exact DClamp_high n lo hi h h1 h2
 ·rw [show r = n by rw [← hr]; unfold mn mx; (repeat' split) <;> omega]; exact DClamp_mid n lo hi h h1 h2
set_option maxHeartbeats 16000000 in
set_option maxRecDepth 100000 in
theorem DSNew {N : Nat → Prop} {w : World} (a0 W : Int) (hW : mn (mx a0 1) 16 = W) (h : Own N w []) : Calls Tryd.prog 58 #[.int .i64 a0, .int .i64 1125899906842624] w fun e_ w' => ∃ g, e_ = .returned (.pointer (some ⟨g, 0, none⟩)) ∧ Own N w' [DSnd g W 1125899906842624 [] 0] ∧ KeepS N w w' := by
 have HW := Aside0.mk hW
 clear hW
 have O0 : Aside0 (Own N w []) := ⟨h⟩
 have K0 : Aside0 (KeepS N w w) := ⟨KeepS.refl _ _⟩
 clear h
 go_enter Tryd.func58, Tryd.ntmps58
 go_wp2_with (first | ((with_reducible refine gate_callee (f := 77) rfl ?_); refine gP (some 6) Tryd.func77 #[.int .i64 a0, .int .i64 1, .int .i64 16] ?_; obtain ⟨N_, on_, nn_, rr_, bb_⟩ := O0.out.frame0; refine (DClamp a0 1 16 W HW.out (by decide) on_).mono ?_; rintro e_ w1 ⟨rfl, oo_, kk_⟩; obtain ⟨o_, k_⟩ := bb_ _ _ kk_ oo_; refine ⟨_, rfl, ?_⟩; have O1 : Aside0 (Own N w1 []) := ⟨o_⟩; have K1 := Aside0.mk (K0.out.trans k_); clear O0 K0; clear o_ k_ oo_ kk_ on_ nn_ rr_ bb_) | ((with_reducible refine gate_callee (f := 77) rfl ?_); refine gP (some 8) Tryd.func77 #[.int .i64 1125899906842624, .int .i64 0, .int .i64 1125899906842624] ?_; obtain ⟨N_, on_, nn_, rr_, bb_⟩ := O1.out.frame0; refine (DClamp 1125899906842624 0 1125899906842624 1125899906842624 (by decide) (by decide) on_).mono ?_; rintro e_ w2 ⟨rfl, oo_, kk_⟩; obtain ⟨o_, k_⟩ := bb_ _ _ kk_ oo_; refine ⟨_, rfl, ?_⟩; have O2 : Aside0 (Own N w2 []) := ⟨o_⟩; have K2 := Aside0.mk (K1.out.trans k_); clear O1 K1; clear o_ k_ oo_ kk_ on_ nn_ rr_ bb_) | ((with_reducible refine gate_dst (N := 10) rfl ?_); refine bP 10 #[.int .i64 W, .int .i64 1125899906842624, .slice none 0 0, .int .i64 0] 106 O2.out ?_; intro g w3 o_ k_; have O3 : Aside0 (Own N w3 [cells g #[.int .i64 W, .int .i64 1125899906842624, .slice none 0 0, .int .i64 0] 106]) := ⟨o_⟩; have K3 := Aside0.mk (K2.out.trans k_); clear O2 K2; obtain ⟨a0a, a0b, a0c, a0d, b0⟩ := blk4_ (O3.out.blk (i := 0) rfl); clear o_ k_))
 go_ret
 exact ⟨g, rfl, (ObjD.shut (f := fun v => #[.int .i64 W, .int .i64 1125899906842624, v, .int .i64 0]) (i := 0) (j := 1) (O3.out.push_emp (nrow Kd.string 9 (.slice none 0 0) []) (fun w => Kd.N_nil _ _ _ _ _)) rfl rfl (by decide)).take 1, K3.out⟩
set_option maxHeartbeats 16000000 in
set_option maxRecDepth 100000 in
theorem DRNew_low {N : Nat → Prop} {w : World} (n : Int) (h : Own N w []) (h1 : n < 1) : Calls Tryd.prog 59 #[.int .i64 n] w fun e_ w' => ∃ g, e_ = .returned (.pointer (some ⟨g, 0, none⟩)) ∧ Own N w' [DRcv g 1 []] ∧ KeepS N w w' := by
 have d1 : decide (n < 1) = true := decide_eq_true h1
 have d2 : decide ((1 : Int) > 16) = false := by decide
 clear h1
 have O0 : Aside0 (Own N w []) := ⟨h⟩
 have K0 : Aside0 (KeepS N w w) := ⟨KeepS.refl _ _⟩
 clear h
 go_enter Tryd.func59, Tryd.ntmps59
 go_wp2_with (first | ((with_reducible refine gate_dst (N := 9) rfl ?_); refine bP 9 #[.int .i64 1, .slice none 0 0, .int .i64 0] 108 O0.out ?_; intro g w1 o_ k_; have O1 : Aside0 (Own N w1 [cells g #[.int .i64 1, .slice none 0 0, .int .i64 0] 108]) := ⟨o_⟩; have K1 := Aside0.mk (K0.out.trans k_); clear O0 K0; obtain ⟨a0a, a0b, a0c, b0⟩ := blk3_ (O1.out.blk (i := 0) rfl); clear o_ k_))
 go_ret
 exact ⟨g, rfl, (ObjD.shut (f := fun v => #[.int .i64 1, v, .int .i64 0]) (i := 0) (j := 1) (O1.out.push_emp (nrow Kd.string 9 (.slice none 0 0) []) (fun w => Kd.N_nil _ _ _ _ _)) rfl rfl (by decide)).take 1, K1.out⟩
set_option maxHeartbeats 16000000 in
set_option maxRecDepth 100000 in
theorem DRNew_high {N : Nat → Prop} {w : World} (n : Int) (h : Own N w []) (h1 : ¬ n < 1) (h2 : n > 16) : Calls Tryd.prog 59 #[.int .i64 n] w fun e_ w' => ∃ g, e_ = .returned (.pointer (some ⟨g, 0, none⟩)) ∧ Own N w' [DRcv g 16 []] ∧ KeepS N w w' := by
 have d1 : decide (n < 1) = false := decide_eq_false h1
 have d2 : decide (n > 16) = true := decide_eq_true h2
 have d3 : decide (16 < n) = true := decide_eq_true h2
 clear h1 h2
 have O0 : Aside0 (Own N w []) := ⟨h⟩
 have K0 : Aside0 (KeepS N w w) := ⟨KeepS.refl _ _⟩
 clear h
 go_enter Tryd.func59, Tryd.ntmps59
 go_wp2_with (first | ((with_reducible refine gate_dst (N := 9) rfl ?_); refine bP 9 #[.int .i64 16, .slice none 0 0, .int .i64 0] 108 O0.out ?_; intro g w1 o_ k_; have O1 : Aside0 (Own N w1 [cells g #[.int .i64 16, .slice none 0 0, .int .i64 0] 108]) := ⟨o_⟩; have K1 := Aside0.mk (K0.out.trans k_); clear O0 K0; obtain ⟨a0a, a0b, a0c, b0⟩ := blk3_ (O1.out.blk (i := 0) rfl); clear o_ k_))
 go_ret
 exact ⟨g, rfl, (ObjD.shut (f := fun v => #[.int .i64 16, v, .int .i64 0]) (i := 0) (j := 1) (O1.out.push_emp (nrow Kd.string 9 (.slice none 0 0) []) (fun w => Kd.N_nil _ _ _ _ _)) rfl rfl (by decide)).take 1, K1.out⟩
set_option maxHeartbeats 16000000 in
set_option maxRecDepth 100000 in
theorem DRNew_mid {N : Nat → Prop} {w : World} (n : Int) (h : Own N w []) (h1 : ¬ n < 1) (h2 : ¬ n > 16) : Calls Tryd.prog 59 #[.int .i64 n] w fun e_ w' => ∃ g, e_ = .returned (.pointer (some ⟨g, 0, none⟩)) ∧ Own N w' [DRcv g n []] ∧ KeepS N w w' := by
 have d1 : decide (n < 1) = false := decide_eq_false h1
 have d2 : decide (n > 16) = false := decide_eq_false h2
 have d3 : decide (16 < n) = false := decide_eq_false h2
 clear h1 h2
 have O0 : Aside0 (Own N w []) := ⟨h⟩
 have K0 : Aside0 (KeepS N w w) := ⟨KeepS.refl _ _⟩
 clear h
 go_enter Tryd.func59, Tryd.ntmps59
 go_wp2_with (first | ((with_reducible refine gate_dst (N := 9) rfl ?_); refine bP 9 #[.int .i64 n, .slice none 0 0, .int .i64 0] 108 O0.out ?_; intro g w1 o_ k_; have O1 : Aside0 (Own N w1 [cells g #[.int .i64 n, .slice none 0 0, .int .i64 0] 108]) := ⟨o_⟩; have K1 := Aside0.mk (K0.out.trans k_); clear O0 K0; obtain ⟨a0a, a0b, a0c, b0⟩ := blk3_ (O1.out.blk (i := 0) rfl); clear o_ k_))
 go_ret
 exact ⟨g, rfl, (ObjD.shut (f := fun v => #[.int .i64 n, v, .int .i64 0]) (i := 0) (j := 1) (O1.out.push_emp (nrow Kd.string 9 (.slice none 0 0) []) (fun w => Kd.N_nil _ _ _ _ _)) rfl rfl (by decide)).take 1, K1.out⟩
theorem DRNew {N : Nat → Prop} {w : World} (n r : Int) (hr : mn (mx n 1) 16 = r) (h : Own N w []) : Calls Tryd.prog 59 #[.int .i64 n] w fun e_ w' => ∃ g, e_ = .returned (.pointer (some ⟨g, 0, none⟩)) ∧ Own N w' [DRcv g r []] ∧ KeepS N w w' := by
 by_cases h1 : n < 1
 ·rw [show r = 1 by rw [← hr]; unfold mn mx; (repeat' split) <;> omega]; exact DRNew_low n h h1
 by_cases h2 : n > 16
 ·rw [show r = 16 by rw [← hr]; unfold mn mx; (repeat' split) <;> omega]; exact DRNew_high n h h1 h2
 ·rw [show r = n by rw [← hr]; unfold mn mx; (repeat' split) <;> omega]; exact DRNew_mid n h h1 h2
set_option maxHeartbeats 16000000 in
set_option maxRecDepth 100000 in
theorem DFresh {N : Nat → Prop} {w : World} {g : Nat} {E0 Wn Rm : Int} {Pv : Bool} {p0 p1 : Value} (e W room : Int) (he : 0 ≤ e ∧ e ≤ 1099511627776) (hW : mn (mx Wn 1) 16 = W) (hR : mn (mx Rm 1) 16 = room) (h : Own N w [cells g #[.int .i64 E0, p0, p1, .int .i64 Wn, .int .i64 Rm, .bool Pv] 84]) : Calls Tryd.prog 31 #[.pointer (some ⟨g, 0, none⟩), .int .i64 e] w fun e_ w' => e_ = .returned (.tuple #[]) ∧ Own N w' [DLnk g e Wn Rm Pv W [] 0 room []] ∧ KeepS N w w' := by
 have d1 : decide (e < 0) = false := decide_eq_false (by omega)
 have d2 : decide (e > 1099511627776) = false := decide_eq_false (by omega)
 have d3 : decide (1099511627776 < e) = false := decide_eq_false (by omega)
 have HW := Aside0.mk hW
 have HR := Aside0.mk hR
 clear hW hR he
 have O0 : Aside0 (Own N w [cells g #[.int .i64 E0, p0, p1, .int .i64 Wn, .int .i64 Rm, .bool Pv] 84]) := ⟨h⟩
 have K0 : Aside0 (KeepS N w w) := ⟨KeepS.refl _ _⟩
 obtain ⟨a0a, a0b, a0c, a0d, a0e, a0f, b0⟩ := blk6_ (O0.out.blk (i := 0) rfl)
 clear h
 go_enter Tryd.func31, Tryd.ntmps31
 go_wp2_with (first | ((with_reducible refine gate_store (t := 3) (p := 11) rfl ?_); refine wP (World.setCell w ⟨g, 0, none⟩ (.int .i64 e)) [cells g #[.int .i64 e, p0, p1, .int .i64 Wn, .int .i64 Rm, .bool Pv] 84] (O0.out.set (i := 0) rfl 0 (.int .i64 e)) (KeepS.setCell (O0.out.far (i := 0) rfl) (.int .i64 e)) ?_; intro w1 o_ k_; have O1 := Aside0.mk o_; have K1 := Aside0.mk (K0.out.trans k_); clear a0a a0b a0c a0d a0e a0f b0 O0 K0; obtain ⟨a0a, a0b, a0c, a0d, a0e, a0f, b0⟩ := blk6_ (O1.out.blk (i := 0) rfl); clear o_ k_) | ((with_reducible refine gate_callee (f := 58) rfl ?_); refine gP (some 17) Tryd.func58 #[.int .i64 Wn, .int .i64 1125899906842624] ?_; obtain ⟨N_, on_, nn_, rr_, bb_⟩ := O1.out.frame0; refine (DSNew Wn W HW.out on_).mono ?_; rintro e_ w2 ⟨gs, rfl, oo_, kk_⟩; obtain ⟨o_, k_⟩ := bb_ _ _ kk_ oo_; refine ⟨_, rfl, ?_⟩; have O2 : Aside0 (Own N w2 [cells g #[.int .i64 e, p0, p1, .int .i64 Wn, .int .i64 Rm, .bool Pv] 84, DSnd gs W 1125899906842624 [] 0]) := ⟨o_⟩; have K2 := Aside0.mk (K1.out.trans k_); clear a0a a0b a0c a0d a0e a0f b0 O1 K1; obtain ⟨a0a, a0b, a0c, a0d, a0e, a0f, b0⟩ := blk6_ (O2.out.blk (i := 0) rfl); clear o_ k_ oo_ kk_ on_ nn_ rr_ bb_) | ((with_reducible refine gate_store (t := 81) (p := 19) rfl ?_); refine wP (World.setCell w2 ⟨g, 1, none⟩ (.pointer (some ⟨gs, 0, none⟩))) [cells g #[.int .i64 e, .pointer (some ⟨gs, 0, none⟩), p1, .int .i64 Wn, .int .i64 Rm, .bool Pv] 84, DSnd gs W 1125899906842624 [] 0] (O2.out.set (i := 0) rfl 1 (.pointer (some ⟨gs, 0, none⟩))) (KeepS.setCell (O2.out.far (i := 0) rfl) (.pointer (some ⟨gs, 0, none⟩))) ?_; intro w3 o_ k_; have O3 := Aside0.mk o_; have K3 := Aside0.mk (K2.out.trans k_); clear a0a a0b a0c a0d a0e a0f b0 O2 K2; obtain ⟨a0a, a0b, a0c, a0d, a0e, a0f, b0⟩ := blk6_ (O3.out.blk (i := 0) rfl); clear o_ k_) | ((with_reducible refine gate_callee (f := 59) rfl ?_); refine gP (some 25) Tryd.func59 #[.int .i64 Rm] ?_; obtain ⟨N_, on_, nn_, rr_, bb_⟩ := O3.out.frame0; refine (DRNew Rm room HR.out on_).mono ?_; rintro e_ w4 ⟨gr, rfl, oo_, kk_⟩; obtain ⟨o_, k_⟩ := bb_ _ _ kk_ oo_; refine ⟨_, rfl, ?_⟩; have O4 : Aside0 (Own N w4 [cells g #[.int .i64 e, .pointer (some ⟨gs, 0, none⟩), p1, .int .i64 Wn, .int .i64 Rm, .bool Pv] 84, DSnd gs W 1125899906842624 [] 0, DRcv gr room []]) := ⟨o_⟩; have K4 := Aside0.mk (K3.out.trans k_); clear a0a a0b a0c a0d a0e a0f b0 O3 K3; obtain ⟨a0a, a0b, a0c, a0d, a0e, a0f, b0⟩ := blk6_ (O4.out.blk (i := 0) rfl); clear o_ k_ oo_ kk_ on_ nn_ rr_ bb_) | ((with_reducible refine gate_store (t := 82) (p := 27) rfl ?_); refine wP (World.setCell w4 ⟨g, 2, none⟩ (.pointer (some ⟨gr, 0, none⟩))) [cells g #[.int .i64 e, .pointer (some ⟨gs, 0, none⟩), .pointer (some ⟨gr, 0, none⟩), .int .i64 Wn, .int .i64 Rm, .bool Pv] 84, DSnd gs W 1125899906842624 [] 0, DRcv gr room []] (O4.out.set (i := 0) rfl 2 (.pointer (some ⟨gr, 0, none⟩))) (KeepS.setCell (O4.out.far (i := 0) rfl) (.pointer (some ⟨gr, 0, none⟩))) ?_; intro w5 o_ k_; have O5 := Aside0.mk o_; have K5 := Aside0.mk (K4.out.trans k_); clear a0a a0b a0c a0d a0e a0f b0 O4 K4; obtain ⟨a0a, a0b, a0c, a0d, a0e, a0f, b0⟩ := blk6_ (O5.out.blk (i := 0) rfl); clear o_ k_))
 first | go_end0 | go_ret
 exact ⟨rfl, DLnk.shut (gs := gs) (gr := gr) (O5.out.pickL [0, 2, 1] (by decide) (by simp)), K5.out⟩
set_option maxHeartbeats 16000000 in
set_option maxRecDepth 100000 in
theorem DLNew {N : Nat → Prop} {w : World} (a1 a2 : Int) (a3 : Bool) (W room : Int) (hW : mn (mx a1 1) 16 = W) (hR : mn (mx a2 1) 16 = room) (h : Own N w []) : Calls Tryd.prog 11 #[.int .i64 1, .int .i64 a1, .int .i64 a2, .bool a3] w fun e_ w' => ∃ g, e_ = .returned (.pointer (some ⟨g, 0, none⟩)) ∧ Own N w' [DLnk g 1 a1 a2 a3 W [] 0 room []] ∧ KeepS N w w' := by
 have HW := Aside0.mk hW
 have HR := Aside0.mk hR
 clear hW hR
 have O0 : Aside0 (Own N w []) := ⟨h⟩
 have K0 : Aside0 (KeepS N w w) := ⟨KeepS.refl _ _⟩
 clear h
 go_enter Tryd.func11, Tryd.ntmps11
 go_wp2_with (first | ((with_reducible refine gate_dst (N := 14) rfl ?_); refine bP 14 #[.int .i64 0, .pointer none, .pointer none, .int .i64 a1, .int .i64 a2, .bool a3] 84 O0.out ?_; intro g w1 o_ k_; have O1 : Aside0 (Own N w1 [cells g #[.int .i64 0, .pointer none, .pointer none, .int .i64 a1, .int .i64 a2, .bool a3] 84]) := ⟨o_⟩; have K1 := Aside0.mk (K0.out.trans k_); clear O0 K0; obtain ⟨a0a, a0b, a0c, a0d, a0e, a0f, b0⟩ := blk6_ (O1.out.blk (i := 0) rfl); clear o_ k_) | ((with_reducible refine gate_callee (f := 31) rfl ?_); refine gP (some 17) Tryd.func31 #[.pointer (some ⟨g, 0, none⟩), .int .i64 1] ?_; obtain ⟨N_, on_, nn_, rr_, bb_⟩ := O1.out.frame1 (i := 0) rfl; refine (DFresh 1 W room (by decide) HW.out HR.out on_).mono ?_; rintro e_ w2 ⟨rfl, oo_, kk_⟩; obtain ⟨o_, k_⟩ := bb_ _ _ _ kk_ oo_; refine ⟨_, rfl, ?_⟩; have O2 : Aside0 (Own N w2 [DLnk g 1 a1 a2 a3 W [] 0 room []]) := ⟨o_⟩; have K2 := Aside0.mk (K1.out.trans k_); clear a0a a0b a0c a0d a0e a0f b0 O1 K1; clear o_ k_ oo_ kk_ on_ nn_ rr_ bb_))
 go_ret
 exact ⟨g, rfl, O2.out, K2.out⟩
set_option maxHeartbeats 16000000 in
set_option maxRecDepth 100000 in
theorem DOffer_full {N : Nat → Prop} {w : World} {g : Nat} {W La : Int} {All : List ByteArray} {Ak : Int} (data : ByteArray) (h : Own N w [DSnd g W La All Ak]) (hf : (All.length : Int) - Ak ≥ W) (hb : 0 ≤ Ak ∧ Ak ≤ All.length ∧ All.length ≤ 1000000) : Calls Tryd.prog 39 #[.pointer (some ⟨g, 0, none⟩), .string data] w fun e_ w' => e_ = .returned (.tuple #[.int .i64 0, .int .i64 7]) ∧ Own N w' [DSnd g W La All Ak] ∧ KeepS N w w' := by
 have s1 : wrap64 ((All.length : Int) - Ak) = (All.length : Int) - Ak := by unfold wrap64; omega
 have s2 : IntKind.i64.wrap ((All.length : Int) - Ak) = (All.length : Int) - Ak := by rw [IntKind.wrap_i64]; omega
 have d1 : decide ((All.length : Int) - Ak ≥ W) = true := decide_eq_true hf
 have d2 : decide (W ≤ (All.length : Int) - Ak) = true := decide_eq_true hf
 clear hf hb
 obtain ⟨A0, c0, h2⟩ := ObjD.open_ h (i := 0) rfl
 have O0 : Aside0 (Own N w [cells g #[.int .i64 W, .int .i64 La, .slice A0 All.length c0, .int .i64 Ak] 106, nrow Kd.string 9 (.slice A0 All.length c0) All]) := ⟨h2⟩
 have K0 : Aside0 (KeepS N w w) := ⟨KeepS.refl _ _⟩
 obtain ⟨a0a, a0b, a0c, a0d, b0⟩ := blk4_ (O0.out.blk (i := 0) rfl)
 clear h2 h
 go_enter Tryd.func39, Tryd.ntmps39
 go_wp2
 refine sP (n := 15) (S := fun w' => w'.cell? ⟨g, 0, none⟩ = some (.int .i64 W) ∧ w'.cell? ⟨g, 1, none⟩ = some (.int .i64 La) ∧ w'.cell? ⟨g, 2, none⟩ = some (.slice A0 All.length c0) ∧ w'.cell? ⟨g, 3, none⟩ = some (.int .i64 Ak)) (ds := []) ⟨a0a, a0b, a0c, a0d⟩ (fun hHeld => ?_)
 obtain ⟨w1, hw_⟩ : ∃ W, W = w.drew := ⟨_, rfl⟩
 have o_ := O0.out.drew
 have k_ : KeepS N w w.drew := KeepS.drew
 rw [← hw_] at o_ k_ hHeld ⊢
 clear hw_
 have O1 := Aside0.mk o_
 have K1 := Aside0.mk (K0.out.trans k_)
 clear a0a a0b a0c a0d b0 O0 K0
 obtain ⟨a0a, a0b, a0c, a0d, b0⟩ := blk4_ (O1.out.blk (i := 0) rfl)
 clear o_ k_
 refine pP 0 (some 6) ?_
 refine pP 1 (some 7) ?_
 refine pP 2 (some 8) ?_
 refine pP 5 (some 11) ?_
 refine pP 6 (some 12) ?_
 refine pP 7 (some 13) ?_
 refine pP 10 (some 16) ?_
 refine pP 11 (some 17) ?_
 refine pP 12 (some 18) ?_
 refine tP 3 (some 9) hHeld ?_
 refine pP 4 (some 10) ?_
 refine tP 8 (some 14) hHeld ?_
 refine pP 9 (some 15) ?_
 refine tP 13 (some 19) hHeld ?_
 refine pP 14 (some 20) ?_
 refine done_ (by kernel_rfl) ?_
 clear hHeld
 go_wp2
 go_ret2
 exact ⟨rfl, (ObjD.shut (f := (fun v => #[.int .i64 W, .int .i64 La, v, .int .i64 Ak])) (i := 0) (j := 1) O1.out rfl rfl (by decide)).take 1, K1.out⟩
set_option maxHeartbeats 16000000 in
set_option maxRecDepth 100000 in
theorem DOffer_ok {N : Nat → Prop} {w : World} {g : Nat} {W La : Int} {All : List ByteArray} {Ak : Int} (data : ByteArray) (h : Own N w [DSnd g W La All Ak]) (hf : (All.length : Int) - Ak < W) (hb : 0 ≤ Ak ∧ Ak ≤ All.length ∧ All.length ≤ 1000000 ∧ La = 1125899906842624) : Calls Tryd.prog 39 #[.pointer (some ⟨g, 0, none⟩), .string data] w fun e_ w' => e_ = .returned (.tuple #[.int .i64 ((All.length : Int) + 1), .int .i64 0]) ∧ Own N w' [DSnd g W La (All ++ [data]) Ak] ∧ KeepS N w w' := by
 have s1 : wrap64 ((All.length : Int) - Ak) = (All.length : Int) - Ak := by unfold wrap64; omega
 have s2 : IntKind.i64.wrap ((All.length : Int) - Ak) = (All.length : Int) - Ak := by rw [IntKind.wrap_i64]; omega
 have d1 : decide ((All.length : Int) - Ak ≥ W) = false := decide_eq_false (by omega)
 have d2 : decide (W ≤ (All.length : Int) - Ak) = false := decide_eq_false (by omega)
 have d3 : decide ((All.length : Int) ≥ La) = false := decide_eq_false (by omega)
 have d4 : decide (La ≤ (All.length : Int)) = false := decide_eq_false (by omega)
 have HL : Aside0 (All.length ≤ 1000000) := ⟨hb.2.2.1⟩
 clear hf hb
 obtain ⟨A0, c0, h2⟩ := ObjD.open_ h (i := 0) rfl
 have O0 : Aside0 (Own N w [cells g #[.int .i64 W, .int .i64 La, .slice A0 All.length c0, .int .i64 Ak] 106, nrow Kd.string 9 (.slice A0 All.length c0) All]) := ⟨h2⟩
 have K0 : Aside0 (KeepS N w w) := ⟨KeepS.refl _ _⟩
 obtain ⟨a0a, a0b, a0c, a0d, b0⟩ := blk4_ (O0.out.blk (i := 0) rfl)
 clear h2 h
 go_enter Tryd.func39, Tryd.ntmps39
 go_wp2
 refine sP (n := 15) (S := fun w' => w'.cell? ⟨g, 0, none⟩ = some (.int .i64 W) ∧ w'.cell? ⟨g, 1, none⟩ = some (.int .i64 La) ∧ w'.cell? ⟨g, 2, none⟩ = some (.slice A0 All.length c0) ∧ w'.cell? ⟨g, 3, none⟩ = some (.int .i64 Ak)) (ds := []) ⟨a0a, a0b, a0c, a0d⟩ (fun hHeld => ?_)
 obtain ⟨w1, hw_⟩ : ∃ W, W = w.drew := ⟨_, rfl⟩
 have o_ := O0.out.drew
 have k_ : KeepS N w w.drew := KeepS.drew
 rw [← hw_] at o_ k_ hHeld ⊢
 clear hw_
 have O1 := Aside0.mk o_
 have K1 := Aside0.mk (K0.out.trans k_)
 clear a0a a0b a0c a0d b0 O0 K0
 obtain ⟨a0a, a0b, a0c, a0d, b0⟩ := blk4_ (O1.out.blk (i := 0) rfl)
 clear o_ k_
 refine pP 0 (some 6) ?_
 refine pP 1 (some 7) ?_
 refine pP 2 (some 8) ?_
 refine pP 5 (some 11) ?_
 refine pP 6 (some 12) ?_
 refine pP 7 (some 13) ?_
 refine pP 10 (some 16) ?_
 refine pP 11 (some 17) ?_
 refine pP 12 (some 18) ?_
 refine tP 3 (some 9) hHeld ?_
 refine pP 4 (some 10) ?_
 refine tP 8 (some 14) hHeld ?_
 refine pP 9 (some 15) ?_
 refine tP 13 (some 19) hHeld ?_
 refine pP 14 (some 20) ?_
 refine done_ (by kernel_rfl) ?_
 clear hHeld
 go_wp2
 refine sP (n := 10) (S := fun w' => w'.cell? ⟨g, 0, none⟩ = some (.int .i64 W) ∧ w'.cell? ⟨g, 1, none⟩ = some (.int .i64 La) ∧ w'.cell? ⟨g, 2, none⟩ = some (.slice A0 All.length c0) ∧ w'.cell? ⟨g, 3, none⟩ = some (.int .i64 Ak)) (ds := []) ⟨a0a, a0b, a0c, a0d⟩ (fun hHeld => ?_)
 obtain ⟨w2, hw_⟩ : ∃ W, W = w1.drew := ⟨_, rfl⟩
 have o_ := O1.out.drew
 have k_ : KeepS N w1 w1.drew := KeepS.drew
 rw [← hw_] at o_ k_ hHeld ⊢
 clear hw_
 have O2 := Aside0.mk o_
 have K2 := Aside0.mk (K1.out.trans k_)
 clear a0a a0b a0c a0d b0 O1 K1
 obtain ⟨a0a, a0b, a0c, a0d, b0⟩ := blk4_ (O2.out.blk (i := 0) rfl)
 clear o_ k_
 refine pP 0 (some 21) ?_
 refine pP 1 (some 22) ?_
 refine pP 2 (some 23) ?_
 refine pP 5 (some 26) ?_
 refine pP 6 (some 27) ?_
 refine pP 7 (some 28) ?_
 refine tP 3 (some 24) hHeld ?_
 refine pP 4 (some 25) ?_
 refine tP 8 (some 29) hHeld ?_
 refine pP 9 (some 30) ?_
 refine done_ (by kernel_rfl) ?_
 clear hHeld
 go_wp2_with (first | ((with_reducible refine gate_dst (N := 32) rfl ?_); refine own_lit Kd.string (N := N) (e := 9) (xs := []) (inner := []) rfl (D := 32) rfl ?hr (Reps.none _ _) (by simp) O2.out ?_; (case hr => first | (go_simp; done) | (go_simp; rfl)); intro B1 d1 w3 o_ k_; have O3 : Aside0 (Own N w3 [cells g #[.int .i64 W, .int .i64 La, .slice A0 All.length c0, .int .i64 Ak] 106, nrow Kd.string 9 (.slice A0 All.length c0) All, nrow Kd.string 9 (.slice B1 0 d1) []]) := ⟨o_⟩; have K3 := Aside0.mk (K2.out.trans k_); clear a0a a0b a0c a0d b0 O2 K2; obtain ⟨a0a, a0b, a0c, a0d, b0⟩ := blk4_ (O3.out.blk (i := 0) rfl); clear o_ k_) | ((with_reducible refine gate_builtin (b := .append) (xs := #[.tmp 32, .tmp 36]) rfl ?_); at_builtin; refine Own.append_flat Kd.string flatS O3.out (i := 2) (ys := All) rfl ((O3.out.nreads (i := 1) rfl).2.2) rfl (.tmp 32) (.tmp 36) 103 (.string ⟨#[]⟩) 16 rfl Tryd.underlying103 infoS rfl (by decide) (by decide) rfl rfl (by have := HL.out; simp only [List.length_nil]; omega) ?_; intro B2 d2 w4 o_ k_; have O4 : Aside0 (Own N w4 [cells g #[.int .i64 W, .int .i64 La, .slice A0 All.length c0, .int .i64 Ak] 106, nrow Kd.string 9 (.slice A0 All.length c0) All, nrow Kd.string 9 (.slice B2 (All).length d2) (All)]) := ⟨o_⟩; have K4 := Aside0.mk (K3.out.trans k_); clear a0a a0b a0c a0d b0 O3 K3; obtain ⟨a0a, a0b, a0c, a0d, b0⟩ := blk4_ (O4.out.blk (i := 0) rfl); clear o_ k_; have O5 : Aside0 (Own N w4 [cells g #[.int .i64 W, .int .i64 La, .slice A0 All.length c0, .int .i64 Ak] 106, nrow Kd.string 9 (.slice A0 All.length c0) All, nrow Kd.string 9 (.slice B2 (All).length d2) (All), elt Kd.string data [.string data]]) := ⟨O4.out.push_emp (elt Kd.string data [.string data]) (fun _ _ _ => rfl)⟩; have K5 := K4; clear O4 K4) | ((with_reducible refine gate_builtin (b := .append) (xs := #[.tmp 37, .tmp 39]) rfl ?_); at_builtin; refine Own.append Kd.string O5.out (i := 2) (j := 3) rfl rfl (by decide) rfl (.tmp 37) (.tmp 39) 103 (.string ⟨#[]⟩) 16 rfl Tryd.underlying103 infoS rfl (by decide) (by decide) rfl rfl (by have := HL.out; omega) ?_; intro B3 d3 w6 o_ k_; have O6 : Aside0 (Own N w6 [cells g #[.int .i64 W, .int .i64 La, .slice A0 All.length c0, .int .i64 Ak] 106, nrow Kd.string 9 (.slice A0 All.length c0) All, nrow Kd.string 9 (.slice B3 ((All).length + 1) d3) ((All) ++ [data]), emp]) := ⟨o_⟩; have K6 := Aside0.mk (K5.out.trans k_); clear a0a a0b a0c a0d b0 O5 K5; obtain ⟨a0a, a0b, a0c, a0d, b0⟩ := blk4_ (O6.out.blk (i := 0) rfl); clear o_ k_) | ((with_reducible refine gate_store (t := 103) (p := 42) rfl ?_); refine wP (World.setCell w6 ⟨g, 2, none⟩ (.slice B3 ((All).length + 1) d3)) [cells g #[.int .i64 W, .int .i64 La, .slice B3 ((All).length + 1) d3, .int .i64 Ak] 106, nrow Kd.string 9 (.slice A0 All.length c0) All, nrow Kd.string 9 (.slice B3 ((All).length + 1) d3) ((All) ++ [data]), emp] (O6.out.set (i := 0) rfl 2 (.slice B3 ((All).length + 1) d3)) (KeepS.setCell (O6.out.far (i := 0) rfl) (.slice B3 ((All).length + 1) d3)) ?_; intro w7 o_ k_; have O7 := Aside0.mk o_; have K7 := Aside0.mk (K6.out.trans k_); clear a0a a0b a0c a0d b0 O6 K6; obtain ⟨a0a, a0b, a0c, a0d, b0⟩ := blk4_ (O7.out.blk (i := 0) rfl); clear o_ k_))
 go_ret2
 exact ⟨rfl, (ObjD.shut (f := (fun v => #[.int .i64 W, .int .i64 La, v, .int .i64 Ak])) (v := .slice B3 ((All).length + 1) d3) (i := 0) (j := 2) O7.out rfl rfl (by decide)).take 1, K7.out⟩
set_option maxHeartbeats 16000000 in
set_option maxRecDepth 100000 in
theorem DAck_far {N : Nat → Prop} {w : World} {g : Nat} {W La : Int} {All : List ByteArray} {Ak : Int} (n : Int) (h : Own N w [DSnd g W La All Ak]) (h1 : n > All.length) : Calls Tryd.prog 42 #[.pointer (some ⟨g, 0, none⟩), .int .i64 n] w fun e_ w' => ∃ r, e_ = .returned (.int .i64 r) ∧ Own N w' [DSnd g W La All Ak] ∧ KeepS N w w' := by
 have d1 : decide (n > (All.length : Int)) = true := decide_eq_true h1
 have d2 : decide ((All.length : Int) < n) = true := decide_eq_true h1
 clear h1
 obtain ⟨A0, c0, h2⟩ := ObjD.open_ h (i := 0) rfl
 have O0 : Aside0 (Own N w [cells g #[.int .i64 W, .int .i64 La, .slice A0 All.length c0, .int .i64 Ak] 106, nrow Kd.string 9 (.slice A0 All.length c0) All]) := ⟨h2⟩
 have K0 : Aside0 (KeepS N w w) := ⟨KeepS.refl _ _⟩
 obtain ⟨a0a, a0b, a0c, a0d, b0⟩ := blk4_ (O0.out.blk (i := 0) rfl)
 clear h2 h
 go_enter Tryd.func42, Tryd.ntmps42
 go_wp2
 go_ret
 exact ⟨_, rfl, (ObjD.shut (f := (fun v => #[.int .i64 W, .int .i64 La, v, .int .i64 Ak])) (i := 0) (j := 1) O0.out rfl rfl (by decide)).take 1, K0.out⟩
set_option maxHeartbeats 16000000 in
set_option maxRecDepth 100000 in
theorem DAck_old {N : Nat → Prop} {w : World} {g : Nat} {W La : Int} {All : List ByteArray} {Ak : Int} (n : Int) (h : Own N w [DSnd g W La All Ak]) (h1 : n ≤ All.length) (h2 : n ≤ Ak) : Calls Tryd.prog 42 #[.pointer (some ⟨g, 0, none⟩), .int .i64 n] w fun e_ w' => ∃ r, e_ = .returned (.int .i64 r) ∧ Own N w' [DSnd g W La All Ak] ∧ KeepS N w w' := by
 have d1 : decide (n > (All.length : Int)) = false := decide_eq_false (by omega)
 have d2 : decide ((All.length : Int) < n) = false := decide_eq_false (by omega)
 have d3 : decide (n ≤ Ak) = true := decide_eq_true h2
 clear h1 h2
 obtain ⟨A0, c0, h2⟩ := ObjD.open_ h (i := 0) rfl
 have O0 : Aside0 (Own N w [cells g #[.int .i64 W, .int .i64 La, .slice A0 All.length c0, .int .i64 Ak] 106, nrow Kd.string 9 (.slice A0 All.length c0) All]) := ⟨h2⟩
 have K0 : Aside0 (KeepS N w w) := ⟨KeepS.refl _ _⟩
 obtain ⟨a0a, a0b, a0c, a0d, b0⟩ := blk4_ (O0.out.blk (i := 0) rfl)
 clear h2 h
 go_enter Tryd.func42, Tryd.ntmps42
 go_wp2
 go_ret
 exact ⟨_, rfl, (ObjD.shut (f := (fun v => #[.int .i64 W, .int .i64 La, v, .int .i64 Ak])) (i := 0) (j := 1) O0.out rfl rfl (by decide)).take 1, K0.out⟩
set_option maxHeartbeats 16000000 in
set_option maxRecDepth 100000 in
theorem DAck_in {N : Nat → Prop} {w : World} {g : Nat} {W La : Int} {All : List ByteArray} {Ak : Int} (n : Int) (h : Own N w [DSnd g W La All Ak]) (h1 : n ≤ All.length) (h2 : Ak < n) (hb : 0 ≤ Ak ∧ All.length ≤ 1000000) : Calls Tryd.prog 42 #[.pointer (some ⟨g, 0, none⟩), .int .i64 n] w fun e_ w' => ∃ r, e_ = .returned (.int .i64 r) ∧ Own N w' [DSnd g W La All n] ∧ KeepS N w w' := by
 have d1 : decide (n > (All.length : Int)) = false := decide_eq_false (by omega)
 have d2 : decide ((All.length : Int) < n) = false := decide_eq_false (by omega)
 have d3 : decide (n ≤ Ak) = false := decide_eq_false (by omega)
 have s1 : wrap64 (n - Ak) = n - Ak := by unfold wrap64; omega
 have s2 : IntKind.i64.wrap (n - Ak) = n - Ak := by rw [IntKind.wrap_i64]; omega
 clear h1 h2 hb
 obtain ⟨A0, c0, h2⟩ := ObjD.open_ h (i := 0) rfl
 have O0 : Aside0 (Own N w [cells g #[.int .i64 W, .int .i64 La, .slice A0 All.length c0, .int .i64 Ak] 106, nrow Kd.string 9 (.slice A0 All.length c0) All]) := ⟨h2⟩
 have K0 : Aside0 (KeepS N w w) := ⟨KeepS.refl _ _⟩
 obtain ⟨a0a, a0b, a0c, a0d, b0⟩ := blk4_ (O0.out.blk (i := 0) rfl)
 clear h2 h
 go_enter Tryd.func42, Tryd.ntmps42
 go_wp2_with (first | ((with_reducible refine gate_store (t := 3) (p := 30) rfl ?_); refine wP (World.setCell w ⟨g, 3, none⟩ (.int .i64 n)) [cells g #[.int .i64 W, .int .i64 La, .slice A0 All.length c0, .int .i64 n] 106, nrow Kd.string 9 (.slice A0 All.length c0) All] (O0.out.set (i := 0) rfl 3 (.int .i64 n)) (KeepS.setCell (O0.out.far (i := 0) rfl) (.int .i64 n)) ?_; intro w1 o_ k_; have O1 := Aside0.mk o_; have K1 := Aside0.mk (K0.out.trans k_); clear a0a a0b a0c a0d b0 O0 K0; obtain ⟨a0a, a0b, a0c, a0d, b0⟩ := blk4_ (O1.out.blk (i := 0) rfl); clear o_ k_))
 go_ret
 exact ⟨_, rfl, (ObjD.shut (f := (fun v => #[.int .i64 W, .int .i64 La, v, .int .i64 n])) (i := 0) (j := 1) O1.out rfl rfl (by decide)).take 1, K1.out⟩
def ackD (All : List ByteArray) (Ak n : Int) : Int := if n > All.length then Ak else if n ≤ Ak then Ak else n
theorem DAck {N : Nat → Prop} {w : World} {g : Nat} {W La : Int} {All : List ByteArray} {Ak : Int} (n : Int) (h : Own N w [DSnd g W La All Ak]) (hb : 0 ≤ Ak ∧ All.length ≤ 1000000) : Calls Tryd.prog 42 #[.pointer (some ⟨g, 0, none⟩), .int .i64 n] w fun e_ w' => ∃ r, e_ = .returned (.int .i64 r) ∧ Own N w' [DSnd g W La All (ackD All Ak n)] ∧ KeepS N w w' := by
 unfold ackD
 by_cases h1 : n > All.length
 ·rw [if_pos h1]; exact DAck_far n h h1
 rw [if_neg h1]
 by_cases h2 : n ≤ Ak
 ·rw [if_pos h2]; exact DAck_old n h (by omega) h2
 ·rw [if_neg h2]; exact DAck_in n h (by omega) (by omega) hb
set_option maxHeartbeats 16000000 in
set_option maxRecDepth 100000 in
theorem DHear_full {N : Nat → Prop} {w : World} {g : Nat} {room : Int} {All : List ByteArray} (seq : Int) (data : ByteArray) (h : Own N w [DRcv g room All]) (hf : (All.length : Int) ≥ room) (hb : All.length ≤ 1000000) : Calls Tryd.prog 43 #[.pointer (some ⟨g, 0, none⟩), .int .i64 seq, .string data] w fun e_ w' => e_ = .returned (.bool false) ∧ Own N w' [DRcv g room All] ∧ KeepS N w w' := by
 have s0 : wrap64 (All.length : Int) = (All.length : Int) := by unfold wrap64; omega
 have s00 : IntKind.i64.wrap (All.length : Int) = (All.length : Int) := by rw [IntKind.wrap_i64]; omega
 have s1 : wrap64 ((All.length : Int) - 0) = (All.length : Int) := by unfold wrap64; omega
 have s2 : IntKind.i64.wrap ((All.length : Int) - 0) = (All.length : Int) := by rw [IntKind.wrap_i64]; omega
 have d1 : decide ((All.length : Int) ≥ room) = true := decide_eq_true hf
 have d2 : decide (room ≤ (All.length : Int)) = true := decide_eq_true hf
 clear hf hb
 obtain ⟨A0, c0, h2⟩ := ObjD.open_ h (i := 0) rfl
 have O0 : Aside0 (Own N w [cells g #[.int .i64 room, .slice A0 All.length c0, .int .i64 0] 108, nrow Kd.string 9 (.slice A0 All.length c0) All]) := ⟨h2⟩
 have K0 : Aside0 (KeepS N w w) := ⟨KeepS.refl _ _⟩
 obtain ⟨a0a, a0b, a0c, b0⟩ := blk3_ (O0.out.blk (i := 0) rfl)
 clear h2 h
 go_enter Tryd.func43, Tryd.ntmps43
 go_wp2
 refine sP (n := 29) (S := fun w' => w'.cell? ⟨g, 0, none⟩ = some (.int .i64 room) ∧ w'.cell? ⟨g, 1, none⟩ = some (.slice A0 All.length c0) ∧ w'.cell? ⟨g, 2, none⟩ = some (.int .i64 0)) (ds := []) ⟨a0a, a0b, a0c⟩ (fun hHeld => ?_)
 obtain ⟨w1, hw_⟩ : ∃ W, W = w.drew := ⟨_, rfl⟩
 have o_ := O0.out.drew
 have k_ : KeepS N w w.drew := KeepS.drew
 rw [← hw_] at o_ k_ hHeld ⊢
 clear hw_
 have O1 := Aside0.mk o_
 have K1 := Aside0.mk (K0.out.trans k_)
 clear a0a a0b a0c b0 O0 K0
 obtain ⟨a0a, a0b, a0c, b0⟩ := blk3_ (O1.out.blk (i := 0) rfl)
 clear o_ k_
 refine pP 0 (some 7) ?_
 refine pP 1 (some 8) ?_
 refine pP 2 (some 9) ?_
 refine pP 5 (some 12) ?_
 refine pP 6 (some 13) ?_
 refine pP 7 (some 14) ?_
 refine pP 10 (some 17) ?_
 refine pP 11 (some 18) ?_
 refine pP 12 (some 19) ?_
 refine tP 3 (some 10) hHeld ?_
 refine pP 4 (some 11) ?_
 refine tP 8 (some 15) hHeld ?_
 refine pP 9 (some 16) ?_
 refine tP 13 (some 20) hHeld ?_
 refine pP 14 (some 21) ?_
 refine pP 15 (some 22) ?_
 refine pS 16 (some 23) ?_
 refine pS 17 (some 24) ?_
 refine pP 18 (some 25) ?_
 refine pP 19 (some 26) ?_
 refine pS 20 (some 27) ?_
 refine pS 21 (some 28) ?_
 refine pS 22 (some 29) ?_
 refine pS 23 (some 30) ?_
 refine pS 24 (some 31) ?_
 refine tS 25 (some 32) hHeld ?_
 refine pS 26 (some 33) ?_
 refine pS 27 (some 34) ?_
 refine pP 28 (some 35) ?_
 refine done_ (by kernel_rfl) ?_
 clear hHeld
 go_wp2
 go_ret
 exact ⟨rfl, (ObjD.shut (f := (fun v => #[.int .i64 room, v, .int .i64 0])) (i := 0) (j := 1) O1.out rfl rfl (by decide)).take 1, K1.out⟩
set_option maxHeartbeats 16000000 in
set_option maxRecDepth 100000 in
theorem DHear_neg {N : Nat → Prop} {w : World} {g : Nat} {room : Int} {All : List ByteArray} (seq : Int) (data : ByteArray) (h : Own N w [DRcv g room All]) (hf : (All.length : Int) < room) (hs : seq < 1) (hb : All.length ≤ 1000000) : Calls Tryd.prog 43 #[.pointer (some ⟨g, 0, none⟩), .int .i64 seq, .string data] w fun e_ w' => e_ = .returned (.bool false) ∧ Own N w' [DRcv g room All] ∧ KeepS N w w' := by
 have s0 : wrap64 (All.length : Int) = (All.length : Int) := by unfold wrap64; omega
 have s00 : IntKind.i64.wrap (All.length : Int) = (All.length : Int) := by rw [IntKind.wrap_i64]; omega
 have s1 : wrap64 ((All.length : Int) - 0) = (All.length : Int) := by unfold wrap64; omega
 have s2 : IntKind.i64.wrap ((All.length : Int) - 0) = (All.length : Int) := by rw [IntKind.wrap_i64]; omega
 have d1 : decide ((All.length : Int) ≥ room) = false := decide_eq_false (by omega)
 have d2 : decide (room ≤ (All.length : Int)) = false := decide_eq_false (by omega)
 have d3 : decide (seq < 1) = true := decide_eq_true hs
 clear hf hb hs
 obtain ⟨A0, c0, h2⟩ := ObjD.open_ h (i := 0) rfl
 have O0 : Aside0 (Own N w [cells g #[.int .i64 room, .slice A0 All.length c0, .int .i64 0] 108, nrow Kd.string 9 (.slice A0 All.length c0) All]) := ⟨h2⟩
 have K0 : Aside0 (KeepS N w w) := ⟨KeepS.refl _ _⟩
 obtain ⟨a0a, a0b, a0c, b0⟩ := blk3_ (O0.out.blk (i := 0) rfl)
 clear h2 h
 go_enter Tryd.func43, Tryd.ntmps43
 go_wp2
 refine sP (n := 29) (S := fun w' => w'.cell? ⟨g, 0, none⟩ = some (.int .i64 room) ∧ w'.cell? ⟨g, 1, none⟩ = some (.slice A0 All.length c0) ∧ w'.cell? ⟨g, 2, none⟩ = some (.int .i64 0)) (ds := []) ⟨a0a, a0b, a0c⟩ (fun hHeld => ?_)
 obtain ⟨w1, hw_⟩ : ∃ W, W = w.drew := ⟨_, rfl⟩
 have o_ := O0.out.drew
 have k_ : KeepS N w w.drew := KeepS.drew
 rw [← hw_] at o_ k_ hHeld ⊢
 clear hw_
 have O1 := Aside0.mk o_
 have K1 := Aside0.mk (K0.out.trans k_)
 clear a0a a0b a0c b0 O0 K0
 obtain ⟨a0a, a0b, a0c, b0⟩ := blk3_ (O1.out.blk (i := 0) rfl)
 clear o_ k_
 refine pP 0 (some 7) ?_
 refine pP 1 (some 8) ?_
 refine pP 2 (some 9) ?_
 refine pP 5 (some 12) ?_
 refine pP 6 (some 13) ?_
 refine pP 7 (some 14) ?_
 refine pP 10 (some 17) ?_
 refine pP 11 (some 18) ?_
 refine pP 12 (some 19) ?_
 refine tP 3 (some 10) hHeld ?_
 refine pP 4 (some 11) ?_
 refine tP 8 (some 15) hHeld ?_
 refine pP 9 (some 16) ?_
 refine tP 13 (some 20) hHeld ?_
 refine pP 14 (some 21) ?_
 refine pP 15 (some 22) ?_
 refine pP 16 (some 23) ?_
 refine pP 17 (some 24) ?_
 refine pP 18 (some 25) ?_
 refine pP 19 (some 26) ?_
 refine pS 20 (some 27) ?_
 refine pS 21 (some 28) ?_
 refine pS 22 (some 29) ?_
 refine pS 23 (some 30) ?_
 refine pS 24 (some 31) ?_
 refine tS 25 (some 32) hHeld ?_
 refine pS 26 (some 33) ?_
 refine pS 27 (some 34) ?_
 refine pP 28 (some 35) ?_
 refine done_ (by kernel_rfl) ?_
 clear hHeld
 go_wp2
 go_ret
 exact ⟨rfl, (ObjD.shut (f := (fun v => #[.int .i64 room, v, .int .i64 0])) (i := 0) (j := 1) O1.out rfl rfl (by decide)).take 1, K1.out⟩
set_option maxHeartbeats 16000000 in
set_option maxRecDepth 100000 in
theorem DHear_far {N : Nat → Prop} {w : World} {g : Nat} {room : Int} {All : List ByteArray} (seq : Int) (data : ByteArray) (h : Own N w [DRcv g room All]) (hf : (All.length : Int) < room) (hs : 1 ≤ seq ∧ seq < 9223372036854775807) (hq : seq ≠ All.length + 1) (hb : All.length ≤ 1000000) : Calls Tryd.prog 43 #[.pointer (some ⟨g, 0, none⟩), .int .i64 seq, .string data] w fun e_ w' => e_ = .returned (.bool false) ∧ Own N w' [DRcv g room All] ∧ KeepS N w w' := by
 have s0 : wrap64 (All.length : Int) = (All.length : Int) := by unfold wrap64; omega
 have s00 : IntKind.i64.wrap (All.length : Int) = (All.length : Int) := by rw [IntKind.wrap_i64]; omega
 have s1 : wrap64 ((All.length : Int) - 0) = (All.length : Int) := by unfold wrap64; omega
 have s2 : IntKind.i64.wrap ((All.length : Int) - 0) = (All.length : Int) := by rw [IntKind.wrap_i64]; omega
 have d1 : decide ((All.length : Int) ≥ room) = false := decide_eq_false (by omega)
 have d2 : decide (room ≤ (All.length : Int)) = false := decide_eq_false (by omega)
 have d3 : decide (seq < 1) = false := decide_eq_false (by omega)
 have d4 : ((seq - 1) != (All.length : Int)) = true := by simp; omega
 have t1 : wrap64 (seq - 1) = seq - 1 := by unfold wrap64; omega
 have t2 : IntKind.i64.wrap (seq - 1) = seq - 1 := by rw [IntKind.wrap_i64]; omega
 clear hf hb hs hq
 obtain ⟨A0, c0, h2⟩ := ObjD.open_ h (i := 0) rfl
 have O0 : Aside0 (Own N w [cells g #[.int .i64 room, .slice A0 All.length c0, .int .i64 0] 108, nrow Kd.string 9 (.slice A0 All.length c0) All]) := ⟨h2⟩
 have K0 : Aside0 (KeepS N w w) := ⟨KeepS.refl _ _⟩
 obtain ⟨a0a, a0b, a0c, b0⟩ := blk3_ (O0.out.blk (i := 0) rfl)
 clear h2 h
 go_enter Tryd.func43, Tryd.ntmps43
 go_wp2
 refine sP (n := 29) (S := fun w' => w'.cell? ⟨g, 0, none⟩ = some (.int .i64 room) ∧ w'.cell? ⟨g, 1, none⟩ = some (.slice A0 All.length c0) ∧ w'.cell? ⟨g, 2, none⟩ = some (.int .i64 0)) (ds := []) ⟨a0a, a0b, a0c⟩ (fun hHeld => ?_)
 obtain ⟨w1, hw_⟩ : ∃ W, W = w.drew := ⟨_, rfl⟩
 have o_ := O0.out.drew
 have k_ : KeepS N w w.drew := KeepS.drew
 rw [← hw_] at o_ k_ hHeld ⊢
 clear hw_
 have O1 := Aside0.mk o_
 have K1 := Aside0.mk (K0.out.trans k_)
 clear a0a a0b a0c b0 O0 K0
 obtain ⟨a0a, a0b, a0c, b0⟩ := blk3_ (O1.out.blk (i := 0) rfl)
 clear o_ k_
 refine pP 0 (some 7) ?_
 refine pP 1 (some 8) ?_
 refine pP 2 (some 9) ?_
 refine pP 5 (some 12) ?_
 refine pP 6 (some 13) ?_
 refine pP 7 (some 14) ?_
 refine pP 10 (some 17) ?_
 refine pP 11 (some 18) ?_
 refine pP 12 (some 19) ?_
 refine tP 3 (some 10) hHeld ?_
 refine pP 4 (some 11) ?_
 refine tP 8 (some 15) hHeld ?_
 refine pP 9 (some 16) ?_
 refine tP 13 (some 20) hHeld ?_
 refine pP 14 (some 21) ?_
 refine pP 15 (some 22) ?_
 refine pP 16 (some 23) ?_
 refine pP 17 (some 24) ?_
 refine pP 18 (some 25) ?_
 refine pP 19 (some 26) ?_
 refine pP 20 (some 27) ?_
 refine pP 21 (some 28) ?_
 refine pP 22 (some 29) ?_
 refine pP 23 (some 30) ?_
 refine pP 24 (some 31) ?_
 refine tP 25 (some 32) hHeld ?_
 refine pP 26 (some 33) ?_
 refine pP 27 (some 34) ?_
 refine pP 28 (some 35) ?_
 refine done_ (by kernel_rfl) ?_
 clear hHeld
 go_wp2
 go_ret
 exact ⟨rfl, (ObjD.shut (f := (fun v => #[.int .i64 room, v, .int .i64 0])) (i := 0) (j := 1) O1.out rfl rfl (by decide)).take 1, K1.out⟩
set_option maxHeartbeats 16000000 in
set_option maxRecDepth 100000 in
theorem DHear_ok {N : Nat → Prop} {w : World} {g : Nat} {room : Int} {All : List ByteArray} (seq : Int) (data : ByteArray) (h : Own N w [DRcv g room All]) (hf : (All.length : Int) < room) (hq : seq = All.length + 1) (hb : All.length ≤ 1000000) : Calls Tryd.prog 43 #[.pointer (some ⟨g, 0, none⟩), .int .i64 seq, .string data] w fun e_ w' => e_ = .returned (.bool true) ∧ Own N w' [DRcv g room (All ++ [data])] ∧ KeepS N w w' := by
 have s0 : wrap64 (All.length : Int) = (All.length : Int) := by unfold wrap64; omega
 have s00 : IntKind.i64.wrap (All.length : Int) = (All.length : Int) := by rw [IntKind.wrap_i64]; omega
 have s1 : wrap64 ((All.length : Int) - 0) = (All.length : Int) := by unfold wrap64; omega
 have s2 : IntKind.i64.wrap ((All.length : Int) - 0) = (All.length : Int) := by rw [IntKind.wrap_i64]; omega
 have d1 : decide ((All.length : Int) ≥ room) = false := decide_eq_false (by omega)
 have d2 : decide (room ≤ (All.length : Int)) = false := decide_eq_false (by omega)
 have d3 : decide (seq < 1) = false := decide_eq_false (by omega)
 have d4 : ((seq - 1) != (All.length : Int)) = false := by simp; omega
 have HL : Aside0 (All.length ≤ 1000000) := ⟨hb⟩
 have t1 : wrap64 (seq - 1) = seq - 1 := by unfold wrap64; omega
 have t2 : IntKind.i64.wrap (seq - 1) = seq - 1 := by rw [IntKind.wrap_i64]; omega
 clear hf hb hq
 obtain ⟨A0, c0, h2⟩ := ObjD.open_ h (i := 0) rfl
 have O0 : Aside0 (Own N w [cells g #[.int .i64 room, .slice A0 All.length c0, .int .i64 0] 108, nrow Kd.string 9 (.slice A0 All.length c0) All]) := ⟨h2⟩
 have K0 : Aside0 (KeepS N w w) := ⟨KeepS.refl _ _⟩
 obtain ⟨a0a, a0b, a0c, b0⟩ := blk3_ (O0.out.blk (i := 0) rfl)
 clear h2 h
 go_enter Tryd.func43, Tryd.ntmps43
 go_wp2
 refine sP (n := 29) (S := fun w' => w'.cell? ⟨g, 0, none⟩ = some (.int .i64 room) ∧ w'.cell? ⟨g, 1, none⟩ = some (.slice A0 All.length c0) ∧ w'.cell? ⟨g, 2, none⟩ = some (.int .i64 0)) (ds := []) ⟨a0a, a0b, a0c⟩ (fun hHeld => ?_)
 obtain ⟨w1, hw_⟩ : ∃ W, W = w.drew := ⟨_, rfl⟩
 have o_ := O0.out.drew
 have k_ : KeepS N w w.drew := KeepS.drew
 rw [← hw_] at o_ k_ hHeld ⊢
 clear hw_
 have O1 := Aside0.mk o_
 have K1 := Aside0.mk (K0.out.trans k_)
 clear a0a a0b a0c b0 O0 K0
 obtain ⟨a0a, a0b, a0c, b0⟩ := blk3_ (O1.out.blk (i := 0) rfl)
 clear o_ k_
 refine pP 0 (some 7) ?_
 refine pP 1 (some 8) ?_
 refine pP 2 (some 9) ?_
 refine pP 5 (some 12) ?_
 refine pP 6 (some 13) ?_
 refine pP 7 (some 14) ?_
 refine pP 10 (some 17) ?_
 refine pP 11 (some 18) ?_
 refine pP 12 (some 19) ?_
 refine tP 3 (some 10) hHeld ?_
 refine pP 4 (some 11) ?_
 refine tP 8 (some 15) hHeld ?_
 refine pP 9 (some 16) ?_
 refine tP 13 (some 20) hHeld ?_
 refine pP 14 (some 21) ?_
 refine pP 15 (some 22) ?_
 refine pP 16 (some 23) ?_
 refine pP 17 (some 24) ?_
 refine pP 18 (some 25) ?_
 refine pP 19 (some 26) ?_
 refine pP 20 (some 27) ?_
 refine pP 21 (some 28) ?_
 refine pP 22 (some 29) ?_
 refine pP 23 (some 30) ?_
 refine pP 24 (some 31) ?_
 refine tP 25 (some 32) hHeld ?_
 refine pP 26 (some 33) ?_
 refine pP 27 (some 34) ?_
 refine pP 28 (some 35) ?_
 refine done_ (by kernel_rfl) ?_
 clear hHeld
 go_wp2_with (first | ((with_reducible refine gate_dst (N := 37) rfl ?_); refine own_lit Kd.string (N := N) (e := 9) (xs := []) (inner := []) rfl (D := 37) rfl ?hr (Reps.none _ _) (by simp) O1.out ?_; (case hr => first | (go_simp; done) | (go_simp; rfl)); intro B1 d1 w2 o_ k_; have O2 : Aside0 (Own N w2 [cells g #[.int .i64 room, .slice A0 All.length c0, .int .i64 0] 108, nrow Kd.string 9 (.slice A0 All.length c0) All, nrow Kd.string 9 (.slice B1 0 d1) []]) := ⟨o_⟩; have K2 := Aside0.mk (K1.out.trans k_); clear a0a a0b a0c b0 O1 K1; obtain ⟨a0a, a0b, a0c, b0⟩ := blk3_ (O2.out.blk (i := 0) rfl); clear o_ k_) | ((with_reducible refine gate_builtin (b := .append) (xs := #[.tmp 37, .tmp 41]) rfl ?_); at_builtin; refine Own.append_flat Kd.string flatS O2.out (i := 2) (ys := All) rfl ((O2.out.nreads (i := 1) rfl).2.2) rfl (.tmp 37) (.tmp 41) 103 (.string ⟨#[]⟩) 16 rfl Tryd.underlying103 infoS rfl (by decide) (by decide) rfl rfl (by have := HL.out; simp only [List.length_nil]; omega) ?_; intro B2 d2 w3 o_ k_; have O3 : Aside0 (Own N w3 [cells g #[.int .i64 room, .slice A0 All.length c0, .int .i64 0] 108, nrow Kd.string 9 (.slice A0 All.length c0) All, nrow Kd.string 9 (.slice B2 (All).length d2) (All)]) := ⟨o_⟩; have K3 := Aside0.mk (K2.out.trans k_); clear a0a a0b a0c b0 O2 K2; obtain ⟨a0a, a0b, a0c, b0⟩ := blk3_ (O3.out.blk (i := 0) rfl); clear o_ k_; have O4 : Aside0 (Own N w3 [cells g #[.int .i64 room, .slice A0 All.length c0, .int .i64 0] 108, nrow Kd.string 9 (.slice A0 All.length c0) All, nrow Kd.string 9 (.slice B2 (All).length d2) (All), elt Kd.string data [.string data]]) := ⟨O3.out.push_emp (elt Kd.string data [.string data]) (fun _ _ _ => rfl)⟩; have K4 := K3; clear O3 K3) | ((with_reducible refine gate_builtin (b := .append) (xs := #[.tmp 42, .tmp 44]) rfl ?_); at_builtin; refine Own.append Kd.string O4.out (i := 2) (j := 3) rfl rfl (by decide) rfl (.tmp 42) (.tmp 44) 103 (.string ⟨#[]⟩) 16 rfl Tryd.underlying103 infoS rfl (by decide) (by decide) rfl rfl (by have := HL.out; omega) ?_; intro B3 d3 w5 o_ k_; have O5 : Aside0 (Own N w5 [cells g #[.int .i64 room, .slice A0 All.length c0, .int .i64 0] 108, nrow Kd.string 9 (.slice A0 All.length c0) All, nrow Kd.string 9 (.slice B3 ((All).length + 1) d3) ((All) ++ [data]), emp]) := ⟨o_⟩; have K5 := Aside0.mk (K4.out.trans k_); clear a0a a0b a0c b0 O4 K4; obtain ⟨a0a, a0b, a0c, b0⟩ := blk3_ (O5.out.blk (i := 0) rfl); clear o_ k_) | ((with_reducible refine gate_store (t := 103) (p := 47) rfl ?_); refine wP (World.setCell w5 ⟨g, 1, none⟩ (.slice B3 ((All).length + 1) d3)) [cells g #[.int .i64 room, .slice B3 ((All).length + 1) d3, .int .i64 0] 108, nrow Kd.string 9 (.slice A0 All.length c0) All, nrow Kd.string 9 (.slice B3 ((All).length + 1) d3) ((All) ++ [data]), emp] (O5.out.set (i := 0) rfl 1 (.slice B3 ((All).length + 1) d3)) (KeepS.setCell (O5.out.far (i := 0) rfl) (.slice B3 ((All).length + 1) d3)) ?_; intro w6 o_ k_; have O6 := Aside0.mk o_; have K6 := Aside0.mk (K5.out.trans k_); clear a0a a0b a0c b0 O5 K5; obtain ⟨a0a, a0b, a0c, b0⟩ := blk3_ (O6.out.blk (i := 0) rfl); clear o_ k_))
 go_ret
 exact ⟨rfl, (ObjD.shut (f := (fun v => #[.int .i64 room, v, .int .i64 0])) (v := .slice B3 ((All).length + 1) d3) (i := 0) (j := 2) O6.out rfl rfl (by decide)).take 1, K6.out⟩
def hearD (room : Int) (All : List ByteArray) (seq : Int) (data : ByteArray) : List ByteArray := if (All.length : Int) < room ∧ seq = All.length + 1 then All ++ [data] else All
theorem DHear {N : Nat → Prop} {w : World} {g : Nat} {room : Int} {All : List ByteArray} (seq : Int) (data : ByteArray) (h : Own N w [DRcv g room All]) (hs : seq < 9223372036854775807) (hb : All.length ≤ 1000000) : Calls Tryd.prog 43 #[.pointer (some ⟨g, 0, none⟩), .int .i64 seq, .string data] w fun e_ w' => ∃ r, e_ = .returned (.bool r) ∧ Own N w' [DRcv g room (hearD room All seq data)] ∧ KeepS N w w' := by
 unfold hearD
 by_cases h1 : (All.length : Int) < room
 ·by_cases h2 : seq = All.length + 1
  ·rw [if_pos ⟨h1, h2⟩]; exact (DHear_ok seq data h h1 h2 hb).mono fun _ _ q => ⟨_, q⟩
  ·rw [if_neg (fun q => h2 q.2)]
   by_cases h3 : seq < 1
   ·exact (DHear_neg seq data h h1 h3 hb).mono fun _ _ q => ⟨_, q⟩
   ·exact (DHear_far seq data h h1 ⟨by omega, hs⟩ h2 hb).mono fun _ _ q => ⟨_, q⟩
 ·rw [if_neg (fun q => h1 q.1)]; exact (DHear_full seq data h (by omega) hb).mono fun _ _ q => ⟨_, q⟩
end Go.Proofs.YtjmoncfgoaaekaaDoor.J
namespace Go.Proofs.YtjmoncfgoaaekaaDoor.J
set_option linter.unusedSimpArgs false
set_option linter.unusedVariables false
open Go Go.RowKit Go.Proofs.YtjmoncfgoaaekaaDoorW.PrintWords Go.Proofs.YtjmoncfgoaaekaaDoorW.PrintLast Go.Proofs.YtjmoncfgoaaekaaDoorW.PrintMore Go.Proofs.YtjmoncfgoaaekaaDoor.Q Go.Proofs.YtjmoncfgoaaekaaDoor.Sep
attribute [local go_sem] max2_int min2_int max_two min_two max_three min_three max_four min_four
def nums (k : Int) : List ByteArray → List Piece
 | [] => []
 | b :: l => (k + 1, b) :: nums (k + 1) l
theorem nums_len : ∀ (l : List ByteArray) (k : Int), (nums k l).length = l.length
 | [], _ => rfl
 | b :: l, k => by rw [nums, List.length_cons, List.length_cons, nums_len l]
theorem nums_app : ∀ (l l' : List ByteArray) (k : Int), nums k (l ++ l') = nums k l ++ nums (k + l.length) l'
 | [], l', k => by simp [nums]
 | b :: l, l', k => by
  rw [List.cons_append, nums, nums_app l l', nums, List.cons_append, List.length_cons]
  congr 3
  omega
theorem nums_get : ∀ (l : List ByteArray) (k : Int) (j : Nat) (h : j < l.length), (nums k l)[j]? = some (k + j + 1, l[j])
 | b :: l, k, 0, _ => by simp [nums]
 | b :: l, k, j + 1, h => by
  rw [nums, List.getElem?_cons_succ, nums_get l (k + 1) j (by simpa using h)]
  simp only [List.getElem_cons_succ, Option.some.injEq, Prod.mk.injEq, and_true]
  omega
def sAt (D : List ByteArray) (x : Int) : ByteArray := D.getD x.toNat ⟨#[]⟩
theorem pAt_nums {D : List ByteArray} {k x : Int} (h0 : 0 ≤ x) (h1 : x < D.length) : pAt (nums k D) x = (k + x + 1, sAt D x) := by
 have hl : x.toNat < D.length := by omega
 unfold pAt sAt
 rw [List.getD_eq_getElem?_getD, nums_get D k x.toNat hl, List.getD_eq_getElem?_getD, List.getElem?_eq_getElem hl]
 simp only [Option.getD_some, Prod.mk.injEq, and_true]
 omega
theorem at_S {w : World} {A : Option Addr} {n : Nat} {xs : List ByteArray} (h : Kd.string.C w A n xs) (x : Int) (h0 : 0 ≤ x) (h1 : x < n) : ∃ ad, A = some ad ∧ w.cell? (ad.add x.toNat) = some (.string (sAt xs x)) := by
 obtain ⟨ad, c, e, hl, hk, hc⟩ := ReadsRow.get_ h (⟨#[]⟩ : ByteArray) x h0 h1
 have hk' : c = [.string (sAt xs x)] := hk
 subst hk'
 have q := hc 0 _ rfl
 have e1 : x.toNat * Kd.string.sz + 0 = x.toNat := by show x.toNat * 1 + 0 = x.toNat; omega
 rw [e1] at q
 exact ⟨ad, e, q⟩
theorem at_SC {w : World} {ad : Addr} {n : Nat} {xs : List ByteArray} (h : Kd.string.C w (some ad) n xs) (x : Int) (h0 : 0 ≤ x) (h1 : x < n) : w.cell? (ad.add x.toNat) = some (.string (sAt xs x)) := by
 obtain ⟨a2, e, q⟩ := at_S h x h0 h1
 cases e
 exact q
set_option maxHeartbeats 16000000 in
set_option maxRecDepth 100000 in
theorem DLeft {N : Nat → Prop} {w : World} {g : Nat} {W La : Int} {All : List ByteArray} {Ak : Int} (h : Own N w [DSnd g W La All Ak]) (hb : 0 ≤ Ak ∧ Ak ≤ All.length ∧ All.length ≤ 1000000) : Calls Tryd.prog 50 #[.pointer (some ⟨g, 0, none⟩)] w fun e_ w' => ∃ A1 c1, e_ = .returned (.slice A1 (All.drop Ak.toNat).length c1) ∧ Own N w' [DSnd g W La All Ak, nrow Kd.string 9 (.slice A1 (All.drop Ak.toNat).length c1) (All.drop Ak.toNat)] ∧ KeepS N w w' := by
 have HB := Aside0.mk hb
 clear hb
 obtain ⟨A0, c0, h2⟩ := ObjD.open_ h (i := 0) rfl
 have O0 : Aside0 (Own N w [cells g #[.int .i64 W, .int .i64 La, .slice A0 All.length c0, .int .i64 Ak] 106, nrow Kd.string 9 (.slice A0 All.length c0) All]) := ⟨h2⟩
 have K0 : Aside0 (KeepS N w w) := ⟨KeepS.refl _ _⟩
 obtain ⟨a0a, a0b, a0c, a0d, b0⟩ := blk4_ (O0.out.blk (i := 0) rfl)
 clear h2 h
 obtain ⟨i0_, hi0_, hi1_⟩ := Option.map_eq_some_iff.1 infoS
 simp only [Prod.mk.injEq] at hi1_
 have hcf := cut_from 103 9 .i64 Tryd.underlying103 hi0_ 1 hi1_.2.1 A0 All.length c0 Ak HB.out.1 HB.out.2.1
 clear hi0_ hi1_
 obtain ⟨B, hB⟩ : ∃ B, B = (if c0 = Ak.toNat then A0 else A0.map (·.add (Ak.toNat * 1))) := ⟨_, rfl⟩
 rw [← hB] at hcf
 have HBB := Aside0.mk hB
 clear hB
 go_enter Tryd.func50, Tryd.ntmps50
 go_wp2
 refine sP (n := 12) (S := fun w' => w'.cell? ⟨g, 0, none⟩ = some (.int .i64 W) ∧ w'.cell? ⟨g, 1, none⟩ = some (.int .i64 La) ∧ w'.cell? ⟨g, 2, none⟩ = some (.slice A0 All.length c0) ∧ w'.cell? ⟨g, 3, none⟩ = some (.int .i64 Ak)) (ds := [10]) ⟨a0a, a0b, a0c, a0d⟩ (fun hHeld => ?_)
 obtain ⟨w1, hw_⟩ : ∃ W, W = w.drew := ⟨_, rfl⟩
 have o_ := O0.out.drew
 have k_ : KeepS N w w.drew := KeepS.drew
 rw [← hw_] at o_ k_ hHeld ⊢
 clear hw_
 have O1 := Aside0.mk o_
 have K1 := Aside0.mk (K0.out.trans k_)
 clear a0a a0b a0c a0d b0 O0 K0
 obtain ⟨a0a, a0b, a0c, a0d, b0⟩ := blk4_ (O1.out.blk (i := 0) rfl)
 clear o_ k_
 refine pP 1 (some 4) ?_
 refine pP 2 (some 5) ?_
 refine pP 3 (some 6) ?_
 refine pP 5 (some 8) ?_
 refine pP 6 (some 9) ?_
 refine pP 7 (some 10) ?_
 refine tP 4 (some 7) hHeld ?_
 refine tP 8 (some 11) hHeld ?_
 refine pP 9 (some 12) ?_
 refine oP 0 (some 3) (fun K_ hK_ => ?_)
 refine own_lit_step Kd.string (N := N) (e := 9) (xs := []) (inner := []) rfl rfl ?hr (Reps.none _ _) (by show 0 ≤ 9223372036854775807; decide) O1.out ?_
 (case hr => first | (go_simp; done) | (go_simp; rfl))
 intro B1 d1 w2 o_ k_
 have O2 : Aside0 (Own N w2 [cells g #[.int .i64 W, .int .i64 La, .slice A0 All.length c0, .int .i64 Ak] 106, nrow Kd.string 9 (.slice A0 All.length c0) All, nrow Kd.string 9 (.slice B1 0 d1) []]) := ⟨o_⟩
 have K2 := Aside0.mk (K1.out.trans k_)
 clear a0a a0b a0c a0d b0 O1 K1
 obtain ⟨a0a, a0b, a0c, a0d, b0⟩ := blk4_ (O2.out.blk (i := 0) rfl)
 clear o_ k_
 clear hHeld
 refine hK_.out _ _ ⟨a0a, a0b, a0c, a0d⟩ (fun hHeld => ?_)
 clear hK_ K_
 refine nP ?_
 refine lP 10 (some 13) (fun K_ hK_ => ?_)
 refine Own.append_flat_step Kd.string flatS O2.out (i := 2) (ys := (All.drop Ak.toNat)) rfl (by have q_ := Kd.C_drop (k := Kd.string) (m := Ak.toNat) (O2.out.nreads (i := 1) rfl).2.2 (by have := HB.out; omega) (O2.out.nreads (i := 1) rfl).2.1; rw [List.length_drop] at q_; rw [HBB.out]; exact q_) rfl (by rfl) (.tmp 3) (.tmp 12) 103 (.string ⟨#[]⟩) 16 rfl Tryd.underlying103 infoS rfl (by decide) (by decide) rfl rfl (by have := HB.out; simp only [List.length_nil]; omega) ?_
 intro B2 d2 w3 o_ k_
 have O3 : Aside0 (Own N w3 [cells g #[.int .i64 W, .int .i64 La, .slice A0 All.length c0, .int .i64 Ak] 106, nrow Kd.string 9 (.slice A0 All.length c0) All, nrow Kd.string 9 (.slice B2 (All.drop Ak.toNat).length d2) (All.drop Ak.toNat)]) := ⟨o_⟩
 have K3 := Aside0.mk (K2.out.trans k_)
 clear a0a a0b a0c a0d b0 O2 K2
 obtain ⟨a0a, a0b, a0c, a0d, b0⟩ := blk4_ (O3.out.blk (i := 0) rfl)
 clear o_ k_
 refine hK_.out _ _ ?_
 clear hK_ K_
 refine nP ?_
 refine pP 11 (some 2) ?_
 refine done_ (by kernel_rfl) ?_
 clear hHeld
 go_wp2
 go_ret
 exact ⟨B2, d2, congrArg Ending.returned (slice_lenF (by simp)), (ObjD.shut (f := (fun v => #[.int .i64 W, .int .i64 La, v, .int .i64 Ak])) (i := 0) (j := 1) O3.out rfl rfl (by decide)).pickL [0, 2] (by decide) (by simp), K3.out⟩
theorem DLeft_n {N : Nat → Prop} {w : World} {g : Nat} {W La : Int} {All : List ByteArray} {Ak : Int} (n : Nat) (D : List ByteArray) (hD : All.drop Ak.toNat = D) (hn : D.length = n) (h : Own N w [DSnd g W La All Ak]) (hb : 0 ≤ Ak ∧ Ak ≤ All.length ∧ All.length ≤ 1000000) : Calls Tryd.prog 50 #[.pointer (some ⟨g, 0, none⟩)] w fun e_ w' => ∃ A1 c1, e_ = .returned (.slice A1 n c1) ∧ Own N w' [DSnd g W La All Ak, nrow Kd.string 9 (.slice A1 n c1) D] ∧ KeepS N w w' := by
 subst hn
 subst hD
 exact DLeft h hb
theorem val_eqS {o : Option Value} {a b : ByteArray} (h : o = some (.string a)) (e : a = b) : o = some (.string b) := by rw [← e]; exact h
theorem own_shutD {N : Nat → Prop} {w : World} {g gs gr : Nat} {E Wn Rm : Int} {Pv : Bool} {W : Int} {All : List ByteArray} {Ak room : Int} {RAll : List ByteArray} {A2 A3 : Option Addr} {c2 c3 : Nat} {P Q : HP} {rest : List HP} (h : Own N w ([cells g (dlinkC gs gr E Wn Rm Pv) 84, cells gr #[.int .i64 room, .slice A2 RAll.length c2, .int .i64 0] 108, cells gs #[.int .i64 W, .int .i64 1125899906842624, .slice A3 All.length c3, .int .i64 Ak] 106, P, nrow Kd.string 9 (.slice A2 RAll.length c2) RAll, nrow Kd.string 9 (.slice A3 All.length c3) All, Q] ++ rest)) : Own N w [DLnk g E Wn Rm Pv W All Ak room RAll, Q] := by
 have h1 := ObjD.shut (f := fun v => #[.int .i64 room, v, .int .i64 0]) (i := 1) (j := 4) h rfl rfl (by decide)
 have h2 := ObjD.shut (f := fun v => #[.int .i64 W, .int .i64 1125899906842624, v, .int .i64 Ak]) (i := 2) (j := 5) h1 rfl rfl (by decide)
 obtain ⟨N1, o1, n1, r1, b1⟩ := h2.frameL [0, 1, 2] (by decide) (by simp)
 obtain ⟨o2, _⟩ := b1 w [DLnk g E Wn Rm Pv W All Ak room RAll, emp, emp] [] rfl (KeepS.refl _ _) (((DLnk.shut o1).push_emp emp (fun _ => trivial)).push_emp emp (fun _ => trivial))
 exact o2.pick2 (a := 0) (b := 6) rfl rfl (by decide)
set_option maxHeartbeats 16000000 in
set_option maxRecDepth 100000 in
theorem DFrames {N : Nat → Prop} {w : World} {g : Nat} {E Wn Rm : Int} {Pv : Bool} {W : Int} {All : List ByteArray} {Ak room : Int} {RAll : List ByteArray} (h : Own N w [DLnk g E Wn Rm Pv W All Ak room RAll]) (hE : E ≠ 0) (hb : 0 ≤ Ak ∧ Ak ≤ All.length ∧ All.length ≤ 1000000) (hl : (All.length : Int) - Ak ≤ 16) :
  Calls Tryd.prog 24 #[.pointer (some ⟨g, 0, none⟩)] w fun e_ w' => ∃ A1 c1, e_ = .returned (.slice A1 (frs E RAll.length (nums Ak (All.drop Ak.toNat))).length c1) ∧ Own N w' [DLnk g E Wn Rm Pv W All Ak room RAll, nrow k40 40 (.slice A1 (frs E RAll.length (nums Ak (All.drop Ak.toNat))).length c1) (frs E RAll.length (nums Ak (All.drop Ak.toNat)))] ∧ KeepS N w w' := by
 have d1 : (E == 0) = false := by simp [hE]
 obtain ⟨D, hD⟩ : ∃ D, D = All.drop Ak.toNat := ⟨_, rfl⟩
 obtain ⟨n, hn⟩ : ∃ n, n = D.length := ⟨_, rfl⟩
 have HD : Aside0 (All.drop Ak.toNat = D ∧ D.length = n ∧ (nums Ak D).length = n ∧ n ≤ 16) := ⟨hD.symm, hn.symm, by rw [nums_len, hn], by rw [hn, hD, List.length_drop]; omega⟩
 have HB : Aside0 (0 ≤ Ak ∧ Ak ≤ All.length ∧ All.length ≤ 1000000) := ⟨hb⟩
 rw [← hD]
 clear hD hn hl hE hb
 obtain ⟨gs, gr, h2⟩ := DLnk.open_ h
 have O0 : Aside0 (Own N w [cells g #[.int .i64 E, .pointer (some ⟨gs, 0, none⟩), .pointer (some ⟨gr, 0, none⟩), .int .i64 Wn, .int .i64 Rm, .bool Pv] 84, DRcv gr room RAll, DSnd gs W 1125899906842624 All Ak]) := ⟨h2⟩
 have K0 : Aside0 (KeepS N w w) := ⟨KeepS.refl _ _⟩
 obtain ⟨a0a, a0b, a0c, a0d, a0e, a0f, b0⟩ := blk6_ (O0.out.blk (i := 0) rfl)
 clear h2 h
 go_enter Tryd.func24, Tryd.ntmps24
 go_wp2_with (first | ((with_reducible refine gate_dst (N := 6) rfl ?_); refine own_lit k40 (N := N) (e := 40) (xs := []) (inner := []) rfl (D := 6) rfl ?hr (Reps.none _ _) (by simp) O0.out ?_; (case hr => first | (go_simp; done) | (go_simp; rfl)); intro F1 e1 w1 o_ k_; have O1 : Aside0 (Own N w1 [cells g #[.int .i64 E, .pointer (some ⟨gs, 0, none⟩), .pointer (some ⟨gr, 0, none⟩), .int .i64 Wn, .int .i64 Rm, .bool Pv] 84, DRcv gr room RAll, DSnd gs W 1125899906842624 All Ak, nrow k40 40 (.slice F1 0 e1) []]) := ⟨o_⟩; have K1 := Aside0.mk (K0.out.trans k_); clear a0a a0b a0c a0d a0e a0f b0 O0 K0; obtain ⟨a0a, a0b, a0c, a0d, a0e, a0f, b0⟩ := blk6_ (O1.out.blk (i := 0) rfl); clear o_ k_) | ((with_reducible refine gate_callee (f := 50) rfl ?_); refine gP (some 17) Tryd.func50 #[.pointer (some ⟨gs, 0, none⟩)] ?_; obtain ⟨N_, on_, nn_, rr_, bb_⟩ := O1.out.frame1 (i := 2) rfl; refine (DLeft_n n D HD.out.1 HD.out.2.1 on_ HB.out).mono ?_; rintro e_ w2 ⟨A1, c1, rfl, oo_, kk_⟩; obtain ⟨o_, k_⟩ := bb_ _ _ _ kk_ oo_; refine ⟨_, rfl, ?_⟩; have O2 : Aside0 (Own N w2 [cells g #[.int .i64 E, .pointer (some ⟨gs, 0, none⟩), .pointer (some ⟨gr, 0, none⟩), .int .i64 Wn, .int .i64 Rm, .bool Pv] 84, DRcv gr room RAll, DSnd gs W 1125899906842624 All Ak, nrow k40 40 (.slice F1 0 e1) [], nrow Kd.string 9 (.slice A1 n c1) D]) := ⟨o_⟩; have K2 := Aside0.mk (K1.out.trans k_); clear a0a a0b a0c a0d a0e a0f b0 O1 K1; obtain ⟨a0a, a0b, a0c, a0d, a0e, a0f, b0⟩ := blk6_ (O2.out.blk (i := 0) rfl); clear o_ k_ oo_ kk_ on_ nn_ rr_ bb_))
 obtain ⟨A2, c2, o1_⟩ := ObjD.open_ O2.out (i := 1) rfl
 obtain ⟨A3, c3, o2_⟩ := ObjD.open_ o1_ (i := 2) rfl
 clear a0a a0b a0c a0d a0e a0f b0
 have o3_ : Own N w2 ([cells g #[.int .i64 E, .pointer (some ⟨gs, 0, none⟩), .pointer (some ⟨gr, 0, none⟩), .int .i64 Wn, .int .i64 Rm, .bool Pv] 84, cells gr #[.int .i64 room, .slice A2 RAll.length c2, .int .i64 0] 108, cells gs #[.int .i64 W, .int .i64 1125899906842624, .slice A3 All.length c3, .int .i64 Ak] 106, nrow Kd.string 9 (.slice A1 n c1) D, nrow Kd.string 9 (.slice A2 RAll.length c2) RAll, nrow Kd.string 9 (.slice A3 All.length c3) All] ++ [nrow k40 40 (.slice F1 0 e1) []]) := o2_.pickL [0, 1, 2, 4, 5, 6, 3] (by decide) (by simp)
 have O3_ := Aside0.mk o3_
 clear o1_ o2_ o3_ O2
 go_loopw [3, 5] (fun v i wr => FrI N w [cells g #[.int .i64 E, .pointer (some ⟨gs, 0, none⟩), .pointer (some ⟨gr, 0, none⟩), .int .i64 Wn, .int .i64 Rm, .bool Pv] 84, cells gr #[.int .i64 room, .slice A2 RAll.length c2, .int .i64 0] 108, cells gs #[.int .i64 W, .int .i64 1125899906842624, .slice A3 All.length c3, .int .i64 Ak] 106, nrow Kd.string 9 (.slice A1 n c1) D, nrow Kd.string 9 (.slice A2 RAll.length c2) RAll, nrow Kd.string 9 (.slice A3 All.length c3) All] E (RAll.length : Int) (nums Ak D) v i wr) (fun _ i _ => n - (intOf i).toNat)
 case atStart => exact ⟨0, F1, e1, by omega, by omega, rfl, rfl, O3_, K2⟩
 case round =>
  obtain ⟨x, B2, cB, hx0, hx1, rfl, rfl, OA, KA⟩ := hrel
  clear O3_ K2
  obtain ⟨R, hR⟩ : ∃ R, R = frU E (RAll.length : Int) (nums Ak D) x := ⟨_, rfl⟩
  rw [← hR] at OA ⊢
  have HR := Aside0.mk hR
  have HRL : Aside0 (R.length ≤ 16) := ⟨by rw [hR]; have h_ := frU_len E (RAll.length : Int) (nums Ak D) x; have := HD.out; omega⟩
  clear hR
  rw [HD.out.2.2.1] at hx1
  have hb := HB.out
  have hnn := HD.out.2.2.2
  by_cases hlt : x < (n : Int)
  ·obtain ⟨ad, e3, _⟩ := at_S (OA.out.nreads (i := 3) rfl).2.2 x hx0 hlt
   cases e3
   have hs2 : wrap64 (x + 1) = x + 1 := by unfold wrap64; omega
   have hp := eq_true hx0
   have hq := eq_true hlt
   have hd : decide (x < (n : Int)) = true := decide_eq_true hlt
   have HX := Aside0.mk (And.intro hx0 hlt)
   have t1 : wrap64 (Ak + x) = Ak + x := by unfold wrap64; omega
   have t2 : IntKind.i64.wrap (Ak + x) = Ak + x := by rw [IntKind.wrap_i64]; omega
   have t3 : wrap64 (Ak + x + 1) = Ak + x + 1 := by unfold wrap64; omega
   have t4 : IntKind.i64.wrap (Ak + x + 1) = Ak + x + 1 := by rw [IntKind.wrap_i64]; omega
   obtain ⟨y, hy⟩ : ∃ y, y = sAt D x := ⟨_, rfl⟩
   have HY : Aside0 (sAt D x = y ∧ pAt (nums Ak D) x = (Ak + x + 1, y)) := ⟨hy.symm, by rw [hy]; exact pAt_nums hx0 (by rw [HD.out.2.1]; exact hlt)⟩
   clear hy hx0 hx1 hlt hb hnn
   have O3 : Aside0 (Own N wr [cells g #[.int .i64 E, .pointer (some ⟨gs, 0, none⟩), .pointer (some ⟨gr, 0, none⟩), .int .i64 Wn, .int .i64 Rm, .bool Pv] 84, cells gr #[.int .i64 room, .slice A2 RAll.length c2, .int .i64 0] 108, cells gs #[.int .i64 W, .int .i64 1125899906842624, .slice A3 All.length c3, .int .i64 Ak] 106, nrow Kd.string 9 (.slice (some ad) n c1) D, nrow Kd.string 9 (.slice A2 RAll.length c2) RAll, nrow Kd.string 9 (.slice A3 All.length c3) All, nrow k40 40 (.slice B2 R.length cB) R]) := ⟨OA.out⟩
   have K3 : Aside0 (KeepS N w wr) := ⟨KA.out⟩
   obtain ⟨a0a, a0b, a0c, a0d, a0e, a0f, b0⟩ := blk6_ (O3.out.blk (i := 0) rfl)
   obtain ⟨a1a, a1b, a1c, b1⟩ := blk3_ (O3.out.blk (i := 1) rfl)
   obtain ⟨a2a, a2b, a2c, a2d, b2⟩ := blk4_ (O3.out.blk (i := 2) rfl)
   clear OA KA
   go_wp2
   refine sP (n := 31) (S := fun w' => w'.cell? ⟨g, 0, none⟩ = some (.int .i64 E) ∧ w'.cell? ⟨g, 1, none⟩ = some (.pointer (some ⟨gs, 0, none⟩)) ∧ w'.cell? ⟨g, 2, none⟩ = some (.pointer (some ⟨gr, 0, none⟩)) ∧ w'.cell? ⟨g, 3, none⟩ = some (.int .i64 Wn) ∧ w'.cell? ⟨g, 4, none⟩ = some (.int .i64 Rm) ∧ w'.cell? ⟨g, 5, none⟩ = some (.bool Pv) ∧ w'.cell? ⟨gr, 0, none⟩ = some (.int .i64 room) ∧ w'.cell? ⟨gr, 1, none⟩ = some (.slice A2 RAll.length c2) ∧ w'.cell? ⟨gr, 2, none⟩ = some (.int .i64 0) ∧ w'.cell? ⟨gs, 0, none⟩ = some (.int .i64 W) ∧ w'.cell? ⟨gs, 1, none⟩ = some (.int .i64 1125899906842624) ∧ w'.cell? ⟨gs, 2, none⟩ = some (.slice A3 All.length c3) ∧ w'.cell? ⟨gs, 3, none⟩ = some (.int .i64 Ak) ∧ w'.cell? (ad.add x.toNat) = some (.string y)) (ds := [29]) ⟨a0a, a0b, a0c, a0d, a0e, a0f, a1a, a1b, a1c, a2a, a2b, a2c, a2d, (val_eqS (at_SC ((O3.out.drew).nreads (i := 3) rfl).2.2 x HX.out.1 HX.out.2) HY.out.1)⟩ (fun hHeld => ?_)
   obtain ⟨w4, hw_⟩ : ∃ W, W = wr.drew := ⟨_, rfl⟩
   have o_ := O3.out.drew
   have k_ : KeepS N wr wr.drew := KeepS.drew
   rw [← hw_] at o_ k_ hHeld ⊢
   clear hw_
   have O4 := Aside0.mk o_
   have K4 := Aside0.mk (K3.out.trans k_)
   clear a0a a0b a0c a0d a0e a0f b0 a1a a1b a1c b1 a2a a2b a2c a2d b2 O3 K3
   obtain ⟨a0a, a0b, a0c, a0d, a0e, a0f, b0⟩ := blk6_ (O4.out.blk (i := 0) rfl)
   obtain ⟨a1a, a1b, a1c, b1⟩ := blk3_ (O4.out.blk (i := 1) rfl)
   obtain ⟨a2a, a2b, a2c, a2d, b2⟩ := blk4_ (O4.out.blk (i := 2) rfl)
   clear o_ k_
   refine pP 0 (some 24) ?_
   refine pP 1 (some 25) ?_
   refine pP 2 (some 26) ?_
   refine pP 3 (some 27) ?_
   refine pP 5 (some 29) ?_
   refine pP 6 (some 30) ?_
   refine pP 7 (some 31) ?_
   refine pP 12 (some 36) ?_
   refine pP 15 (some 39) ?_
   refine pP 16 (some 40) ?_
   refine pP 17 (some 41) ?_
   refine pP 23 (some 47) ?_
   refine pP 24 (some 48) ?_
   refine pP 25 (some 49) ?_
   refine tP 4 (some 28) hHeld ?_
   refine tP 8 (some 32) hHeld ?_
   refine pP 9 (some 33) ?_
   refine pP 10 (some 34) ?_
   refine tP 11 (some 35) hHeld ?_
   refine pP 13 (some 37) ?_
   refine pP 14 (some 38) ?_
   refine tP 18 (some 42) hHeld ?_
   refine pP 19 (some 43) ?_
   refine pP 20 (some 44) ?_
   refine tP 21 (some 45) hHeld ?_
   refine pP 22 (some 46) ?_
   refine tP 26 (some 50) hHeld ?_
   refine pP 27 (some 51) ?_
   refine oP 28 (some 52) (fun K_ hK_ => ?_)
   refine own_lit_step k40 (N := N) (e := 40) (xs := [(fr E (RAll.length : Int) (Ak + x + 1, y))]) (inner := [.int .i64 E, .int .i64 (Ak + x + 1), .int .i64 (RAll.length : Int), .string y]) rfl rfl ?hr (repF _ (fr E (RAll.length : Int) (Ak + x + 1, y))) (by show 1 ≤ 9223372036854775807; decide) O4.out ?_
   (case hr => first | (go_simp; done) | (go_simp; rfl))
   intro C1 g1_ w5 o_ k_
   have O5 : Aside0 (Own N w5 [cells g #[.int .i64 E, .pointer (some ⟨gs, 0, none⟩), .pointer (some ⟨gr, 0, none⟩), .int .i64 Wn, .int .i64 Rm, .bool Pv] 84, cells gr #[.int .i64 room, .slice A2 RAll.length c2, .int .i64 0] 108, cells gs #[.int .i64 W, .int .i64 1125899906842624, .slice A3 All.length c3, .int .i64 Ak] 106, nrow Kd.string 9 (.slice (some ad) n c1) D, nrow Kd.string 9 (.slice A2 RAll.length c2) RAll, nrow Kd.string 9 (.slice A3 All.length c3) All, nrow k40 40 (.slice B2 R.length cB) R, nrow k40 40 (.slice C1 1 g1_) [(fr E (RAll.length : Int) (Ak + x + 1, y))]]) := ⟨o_⟩
   have K5 := Aside0.mk (K4.out.trans k_)
   clear a0a a0b a0c a0d a0e a0f b0 a1a a1b a1c b1 a2a a2b a2c a2d b2 O4 K4
   obtain ⟨a0a, a0b, a0c, a0d, a0e, a0f, b0⟩ := blk6_ (O5.out.blk (i := 0) rfl)
   obtain ⟨a1a, a1b, a1c, b1⟩ := blk3_ (O5.out.blk (i := 1) rfl)
   obtain ⟨a2a, a2b, a2c, a2d, b2⟩ := blk4_ (O5.out.blk (i := 2) rfl)
   clear o_ k_
   clear hHeld
   refine hK_.out _ _ ⟨a0a, a0b, a0c, a0d, a0e, a0f, a1a, a1b, a1c, a2a, a2b, a2c, a2d, (val_eqS (at_SC (O5.out.nreads (i := 3) rfl).2.2 x HX.out.1 HX.out.2) HY.out.1)⟩ (fun hHeld => ?_)
   clear hK_ K_
   refine nP ?_
   refine lP 29 (some 53) (fun K_ hK_ => ?_)
   refine Own.append_flat_step k40 flatF O5.out (i := 6) rfl (O5.out.nreads (i := 7) rfl).2.2 rfl (by rfl) (.tmp 24) (.tmp 52) 54 (.agg #[.int .i64 0, .int .i64 0, .int .i64 0, .string ⟨#[]⟩]) 40 rfl Tryd.underlying54 infoF rfl (by decide) (by decide) rfl rfl (by have := HRL.out; omega) ?_
   intro A5 c5 w6 o_ k_
   have O6 : Aside0 (Own N w6 [cells g #[.int .i64 E, .pointer (some ⟨gs, 0, none⟩), .pointer (some ⟨gr, 0, none⟩), .int .i64 Wn, .int .i64 Rm, .bool Pv] 84, cells gr #[.int .i64 room, .slice A2 RAll.length c2, .int .i64 0] 108, cells gs #[.int .i64 W, .int .i64 1125899906842624, .slice A3 All.length c3, .int .i64 Ak] 106, nrow Kd.string 9 (.slice (some ad) n c1) D, nrow Kd.string 9 (.slice A2 RAll.length c2) RAll, nrow Kd.string 9 (.slice A3 All.length c3) All, nrow k40 40 (.slice A5 (R ++ [(fr E (RAll.length : Int) (Ak + x + 1, y))]).length c5) (R ++ [(fr E (RAll.length : Int) (Ak + x + 1, y))]), nrow k40 40 (.slice C1 1 g1_) [(fr E (RAll.length : Int) (Ak + x + 1, y))]]) := ⟨o_⟩
   have K6 := Aside0.mk (K5.out.trans k_)
   clear a0a a0b a0c a0d a0e a0f b0 a1a a1b a1c b1 a2a a2b a2c a2d b2 O5 K5
   obtain ⟨a0a, a0b, a0c, a0d, a0e, a0f, b0⟩ := blk6_ (O6.out.blk (i := 0) rfl)
   obtain ⟨a1a, a1b, a1c, b1⟩ := blk3_ (O6.out.blk (i := 1) rfl)
   obtain ⟨a2a, a2b, a2c, a2d, b2⟩ := blk4_ (O6.out.blk (i := 2) rfl)
   clear o_ k_
   refine hK_.out _ _ ?_
   clear hK_ K_
   refine nP ?_
   refine pP 30 (some 3) ?_
   refine done_ (by kernel_rfl) ?_
   clear hHeld
   go_wp2
   go_roundw
   case rel =>
    have hs_ := frU_snoc E (RAll.length : Int) (nums Ak D) x HX.out.1 (by rw [HD.out.2.2.1]; exact HX.out.2)
    rw [HY.out.2] at hs_
    refine ⟨x + 1, A5, c5, by have := HX.out; omega, by have := HX.out; rw [HD.out.2.2.1]; omega, congrArg (Value.int .i64) (by unfold wrap64; have := HX.out; have := HD.out; omega), ?_, ⟨?_⟩, K6⟩
    ·rw [hs_, ← HR.out]; exact slice_lenF (by simp)
    ·rw [hs_, ← HR.out]; exact O6.out.take 7
   case measure => have := HX.out; simp [intOf]; omega
  ·have hd : decide (x < (n : Int)) = false := decide_eq_false hlt
   have hRx : R = (nums Ak D).map (fr E (RAll.length : Int)) := by rw [HR.out, show x = ((nums Ak D).length : Int) by rw [HD.out.2.2.1]; omega]; exact frU_all _ _ _
   have HRX := Aside0.mk hRx
   have HRN : Aside0 (R.length = n) := ⟨by rw [hRx, List.length_map]; exact HD.out.2.2.1⟩
   clear hlt hx0 hx1 hRx hb hnn
   have O3 : Aside0 (Own N wr [cells g #[.int .i64 E, .pointer (some ⟨gs, 0, none⟩), .pointer (some ⟨gr, 0, none⟩), .int .i64 Wn, .int .i64 Rm, .bool Pv] 84, cells gr #[.int .i64 room, .slice A2 RAll.length c2, .int .i64 0] 108, cells gs #[.int .i64 W, .int .i64 1125899906842624, .slice A3 All.length c3, .int .i64 Ak] 106, nrow Kd.string 9 (.slice A1 n c1) D, nrow Kd.string 9 (.slice A2 RAll.length c2) RAll, nrow Kd.string 9 (.slice A3 All.length c3) All, nrow k40 40 (.slice B2 R.length cB) R]) := ⟨OA.out⟩
   have K3 : Aside0 (KeepS N w wr) := ⟨KA.out⟩
   obtain ⟨a0a, a0b, a0c, a0d, a0e, a0f, b0⟩ := blk6_ (O3.out.blk (i := 0) rfl)
   obtain ⟨a1a, a1b, a1c, b1⟩ := blk3_ (O3.out.blk (i := 1) rfl)
   obtain ⟨a2a, a2b, a2c, a2d, b2⟩ := blk4_ (O3.out.blk (i := 2) rfl)
   clear OA KA
   by_cases hz : n = 0
   ·have hd2 : ((n : Int) == 0) = true := by simp [hz]
    have HZ := Aside0.mk hz
    clear hz
    go_wp2
    refine sP (n := 17) (S := fun w' => w'.cell? ⟨g, 0, none⟩ = some (.int .i64 E) ∧ w'.cell? ⟨g, 1, none⟩ = some (.pointer (some ⟨gs, 0, none⟩)) ∧ w'.cell? ⟨g, 2, none⟩ = some (.pointer (some ⟨gr, 0, none⟩)) ∧ w'.cell? ⟨g, 3, none⟩ = some (.int .i64 Wn) ∧ w'.cell? ⟨g, 4, none⟩ = some (.int .i64 Rm) ∧ w'.cell? ⟨g, 5, none⟩ = some (.bool Pv) ∧ w'.cell? ⟨gr, 0, none⟩ = some (.int .i64 room) ∧ w'.cell? ⟨gr, 1, none⟩ = some (.slice A2 RAll.length c2) ∧ w'.cell? ⟨gr, 2, none⟩ = some (.int .i64 0)) (ds := [15]) ⟨a0a, a0b, a0c, a0d, a0e, a0f, a1a, a1b, a1c⟩ (fun hHeld => ?_)
    obtain ⟨w4, hw_⟩ : ∃ W, W = wr.drew := ⟨_, rfl⟩
    have o_ := O3.out.drew
    have k_ : KeepS N wr wr.drew := KeepS.drew
    rw [← hw_] at o_ k_ hHeld ⊢
    clear hw_
    have O4 := Aside0.mk o_
    have K4 := Aside0.mk (K3.out.trans k_)
    clear a0a a0b a0c a0d a0e a0f b0 a1a a1b a1c b1 a2a a2b a2c a2d b2 O3 K3
    obtain ⟨a0a, a0b, a0c, a0d, a0e, a0f, b0⟩ := blk6_ (O4.out.blk (i := 0) rfl)
    obtain ⟨a1a, a1b, a1c, b1⟩ := blk3_ (O4.out.blk (i := 1) rfl)
    obtain ⟨a2a, a2b, a2c, a2d, b2⟩ := blk4_ (O4.out.blk (i := 2) rfl)
    clear o_ k_
    refine pP 0 (some 57) ?_
    refine pP 1 (some 58) ?_
    refine pP 2 (some 59) ?_
    refine pP 3 (some 60) ?_
    refine pP 5 (some 62) ?_
    refine pP 6 (some 63) ?_
    refine pP 7 (some 64) ?_
    refine tP 4 (some 61) hHeld ?_
    refine tP 8 (some 65) hHeld ?_
    refine pP 9 (some 66) ?_
    refine pP 10 (some 67) ?_
    refine tP 11 (some 68) hHeld ?_
    refine pP 12 (some 69) ?_
    refine pP 13 (some 70) ?_
    refine oP 14 (some 71) (fun K_ hK_ => ?_)
    refine own_lit_step k40 (N := N) (e := 40) (xs := [(fr0 E (RAll.length : Int))]) (inner := [.int .i64 E, .int .i64 0, .int .i64 (RAll.length : Int), .string ⟨#[]⟩]) rfl rfl ?hr (repF _ (fr0 E (RAll.length : Int))) (by show 1 ≤ 9223372036854775807; decide) O4.out ?_
    (case hr => first | (go_simp; done) | (go_simp; rfl))
    intro C1 g1_ w5 o_ k_
    have O5 : Aside0 (Own N w5 [cells g #[.int .i64 E, .pointer (some ⟨gs, 0, none⟩), .pointer (some ⟨gr, 0, none⟩), .int .i64 Wn, .int .i64 Rm, .bool Pv] 84, cells gr #[.int .i64 room, .slice A2 RAll.length c2, .int .i64 0] 108, cells gs #[.int .i64 W, .int .i64 1125899906842624, .slice A3 All.length c3, .int .i64 Ak] 106, nrow Kd.string 9 (.slice A1 n c1) D, nrow Kd.string 9 (.slice A2 RAll.length c2) RAll, nrow Kd.string 9 (.slice A3 All.length c3) All, nrow k40 40 (.slice B2 R.length cB) R, nrow k40 40 (.slice C1 1 g1_) [(fr0 E (RAll.length : Int))]]) := ⟨o_⟩
    have K5 := Aside0.mk (K4.out.trans k_)
    clear a0a a0b a0c a0d a0e a0f b0 a1a a1b a1c b1 a2a a2b a2c a2d b2 O4 K4
    obtain ⟨a0a, a0b, a0c, a0d, a0e, a0f, b0⟩ := blk6_ (O5.out.blk (i := 0) rfl)
    obtain ⟨a1a, a1b, a1c, b1⟩ := blk3_ (O5.out.blk (i := 1) rfl)
    obtain ⟨a2a, a2b, a2c, a2d, b2⟩ := blk4_ (O5.out.blk (i := 2) rfl)
    clear o_ k_
    clear hHeld
    refine hK_.out _ _ ⟨a0a, a0b, a0c, a0d, a0e, a0f, a1a, a1b, a1c⟩ (fun hHeld => ?_)
    clear hK_ K_
    refine nP ?_
    refine lP 15 (some 72) (fun K_ hK_ => ?_)
    refine Own.append_flat_step k40 flatF O5.out (i := 6) rfl (O5.out.nreads (i := 7) rfl).2.2 rfl (by rfl) (.tmp 57) (.tmp 71) 54 (.agg #[.int .i64 0, .int .i64 0, .int .i64 0, .string ⟨#[]⟩]) 40 rfl Tryd.underlying54 infoF rfl (by decide) (by decide) rfl rfl (by have := HRL.out; omega) ?_
    intro A5 c5 w6 o_ k_
    have O6 : Aside0 (Own N w6 [cells g #[.int .i64 E, .pointer (some ⟨gs, 0, none⟩), .pointer (some ⟨gr, 0, none⟩), .int .i64 Wn, .int .i64 Rm, .bool Pv] 84, cells gr #[.int .i64 room, .slice A2 RAll.length c2, .int .i64 0] 108, cells gs #[.int .i64 W, .int .i64 1125899906842624, .slice A3 All.length c3, .int .i64 Ak] 106, nrow Kd.string 9 (.slice A1 n c1) D, nrow Kd.string 9 (.slice A2 RAll.length c2) RAll, nrow Kd.string 9 (.slice A3 All.length c3) All, nrow k40 40 (.slice A5 (R ++ [(fr0 E (RAll.length : Int))]).length c5) (R ++ [(fr0 E (RAll.length : Int))]), nrow k40 40 (.slice C1 1 g1_) [(fr0 E (RAll.length : Int))]]) := ⟨o_⟩
    have K6 := Aside0.mk (K5.out.trans k_)
    clear a0a a0b a0c a0d a0e a0f b0 a1a a1b a1c b1 a2a a2b a2c a2d b2 O5 K5
    obtain ⟨a0a, a0b, a0c, a0d, a0e, a0f, b0⟩ := blk6_ (O6.out.blk (i := 0) rfl)
    obtain ⟨a1a, a1b, a1c, b1⟩ := blk3_ (O6.out.blk (i := 1) rfl)
    obtain ⟨a2a, a2b, a2c, a2d, b2⟩ := blk4_ (O6.out.blk (i := 2) rfl)
    clear o_ k_
    refine hK_.out _ _ ?_
    clear hK_ K_
    refine nP ?_
    refine pP 16 (some 3) ?_
    refine done_ (by kernel_rfl) ?_
    clear hHeld
    go_wp2
    go_ret
    have hf : frs E (RAll.length : Int) (nums Ak D) = R ++ [(fr0 E (RAll.length : Int))] := by unfold frs; rw [if_pos (by rw [HD.out.2.2.1]; exact HZ.out), List.eq_nil_of_length_eq_zero (HRN.out.trans HZ.out)]; rfl
    rw [hf]
    exact ⟨A5, c5, congrArg Ending.returned (slice_lenF (n := R.length + 1) (by simp)), own_shutD O6.out, K6.out⟩
   ·have hd2 : ((n : Int) == 0) = false := by simp [hz]
    have HZ := Aside0.mk hz
    clear hz
    go_wp2
    go_ret
    have hf : frs E (RAll.length : Int) (nums Ak D) = R := by unfold frs; rw [if_neg (by rw [HD.out.2.2.1]; exact HZ.out)]; exact HRX.out.symm
    rw [hf]
    exact ⟨B2, cB, rfl, own_shutD (rest := []) O3.out, K3.out⟩
set_option maxHeartbeats 16000000 in
set_option maxRecDepth 100000 in
theorem DHearL_old {N : Nat → Prop} {w : World} {g : Nat} {E Wn Rm : Int} {W : Int} {All : List ByteArray} {Ak room : Int} {RAll : List ByteArray} (fe fq fa : Int) (fd : ByteArray) (h : Own N w [DLnk g E Wn Rm true W All Ak room RAll]) (hf : fe < E) : Calls Tryd.prog 17 #[.pointer (some ⟨g, 0, none⟩), .agg #[.int .i64 fe, .int .i64 fq, .int .i64 fa, .string fd]] w fun e_ w' => e_ = .returned (.bool false) ∧ Own N w' [DLnk g E Wn Rm true W All Ak room RAll] ∧ KeepS N w w' := by
 have d1 : decide (fe > E) = false := decide_eq_false (by omega)
 have d2 : decide (E < fe) = false := decide_eq_false (by omega)
 have d3 : (fe != E) = true := by simp; omega
 clear hf
 obtain ⟨gs, gr, h2⟩ := DLnk.open_ h
 have O0 : Aside0 (Own N w [cells g #[.int .i64 E, .pointer (some ⟨gs, 0, none⟩), .pointer (some ⟨gr, 0, none⟩), .int .i64 Wn, .int .i64 Rm, .bool true] 84, DRcv gr room RAll, DSnd gs W 1125899906842624 All Ak]) := ⟨h2⟩
 have K0 : Aside0 (KeepS N w w) := ⟨KeepS.refl _ _⟩
 obtain ⟨a0a, a0b, a0c, a0d, a0e, a0f, b0⟩ := blk6_ (O0.out.blk (i := 0) rfl)
 clear h2 h
 go_enter Tryd.func17, Tryd.ntmps17
 go_wp2_with (first | ((with_reducible refine gate_dst (N := 3) rfl ?_); refine bP 3 #[.int .i64 fe, .int .i64 fq, .int .i64 fa, .string fd] 40 O0.out ?_; intro gf w1 o_ k_; have O1 : Aside0 (Own N w1 [cells g #[.int .i64 E, .pointer (some ⟨gs, 0, none⟩), .pointer (some ⟨gr, 0, none⟩), .int .i64 Wn, .int .i64 Rm, .bool true] 84, DRcv gr room RAll, DSnd gs W 1125899906842624 All Ak, cells gf #[.int .i64 fe, .int .i64 fq, .int .i64 fa, .string fd] 40]) := ⟨o_⟩; have K1 := Aside0.mk (K0.out.trans k_); clear a0a a0b a0c a0d a0e a0f b0 O0 K0; obtain ⟨a0a, a0b, a0c, a0d, a0e, a0f, b0⟩ := blk6_ (O1.out.blk (i := 0) rfl); obtain ⟨a3a, a3b, a3c, a3d, b3⟩ := blk4_ (O1.out.blk (i := 3) rfl); clear o_ k_))
 refine sP (n := 13) (S := fun w' => w'.cell? ⟨g, 0, none⟩ = some (.int .i64 E) ∧ w'.cell? ⟨g, 1, none⟩ = some (.pointer (some ⟨gs, 0, none⟩)) ∧ w'.cell? ⟨g, 2, none⟩ = some (.pointer (some ⟨gr, 0, none⟩)) ∧ w'.cell? ⟨g, 3, none⟩ = some (.int .i64 Wn) ∧ w'.cell? ⟨g, 4, none⟩ = some (.int .i64 Rm) ∧ w'.cell? ⟨g, 5, none⟩ = some (.bool true) ∧ w'.cell? ⟨gf, 0, none⟩ = some (.int .i64 fe) ∧ w'.cell? ⟨gf, 1, none⟩ = some (.int .i64 fq) ∧ w'.cell? ⟨gf, 2, none⟩ = some (.int .i64 fa) ∧ w'.cell? ⟨gf, 3, none⟩ = some (.string fd)) (ds := []) ⟨a0a, a0b, a0c, a0d, a0e, a0f, a3a, a3b, a3c, a3d⟩ (fun hHeld => ?_)
 obtain ⟨w2, hw_⟩ : ∃ W, W = w1.drew := ⟨_, rfl⟩
 have o_ := O1.out.drew
 have k_ : KeepS N w1 w1.drew := KeepS.drew
 rw [← hw_] at o_ k_ hHeld ⊢
 clear hw_
 have O2 := Aside0.mk o_
 have K2 := Aside0.mk (K1.out.trans k_)
 clear a0a a0b a0c a0d a0e a0f b0 a3a a3b a3c a3d b3 O1 K1
 obtain ⟨a0a, a0b, a0c, a0d, a0e, a0f, b0⟩ := blk6_ (O2.out.blk (i := 0) rfl)
 obtain ⟨a3a, a3b, a3c, a3d, b3⟩ := blk4_ (O2.out.blk (i := 3) rfl)
 clear o_ k_
 refine pP 0 (some 6) ?_
 refine pP 2 (some 8) ?_
 refine pP 3 (some 9) ?_
 refine pP 4 (some 10) ?_
 refine tP 1 (some 7) hHeld ?_
 refine tP 5 (some 11) hHeld ?_
 refine pP 6 (some 12) ?_
 refine pP 7 (some 13) ?_
 refine pS 8 (some 14) ?_
 refine pS 9 (some 15) ?_
 refine pS 10 (some 16) ?_
 refine tS 11 (some 17) hHeld ?_
 refine pP 12 (some 18) ?_
 refine done_ (by kernel_rfl) ?_
 clear hHeld
 go_wp2
 refine sP (n := 7) (S := fun w' => w'.cell? ⟨g, 0, none⟩ = some (.int .i64 E) ∧ w'.cell? ⟨g, 1, none⟩ = some (.pointer (some ⟨gs, 0, none⟩)) ∧ w'.cell? ⟨g, 2, none⟩ = some (.pointer (some ⟨gr, 0, none⟩)) ∧ w'.cell? ⟨g, 3, none⟩ = some (.int .i64 Wn) ∧ w'.cell? ⟨g, 4, none⟩ = some (.int .i64 Rm) ∧ w'.cell? ⟨g, 5, none⟩ = some (.bool true) ∧ w'.cell? ⟨gf, 0, none⟩ = some (.int .i64 fe) ∧ w'.cell? ⟨gf, 1, none⟩ = some (.int .i64 fq) ∧ w'.cell? ⟨gf, 2, none⟩ = some (.int .i64 fa) ∧ w'.cell? ⟨gf, 3, none⟩ = some (.string fd)) (ds := []) ⟨a0a, a0b, a0c, a0d, a0e, a0f, a3a, a3b, a3c, a3d⟩ (fun hHeld => ?_)
 obtain ⟨w3, hw_⟩ : ∃ W, W = w2.drew := ⟨_, rfl⟩
 have o_ := O2.out.drew
 have k_ : KeepS N w2 w2.drew := KeepS.drew
 rw [← hw_] at o_ k_ hHeld ⊢
 clear hw_
 have O3 := Aside0.mk o_
 have K3 := Aside0.mk (K2.out.trans k_)
 clear a0a a0b a0c a0d a0e a0f b0 a3a a3b a3c a3d b3 O2 K2
 obtain ⟨a0a, a0b, a0c, a0d, a0e, a0f, b0⟩ := blk6_ (O3.out.blk (i := 0) rfl)
 obtain ⟨a3a, a3b, a3c, a3d, b3⟩ := blk4_ (O3.out.blk (i := 3) rfl)
 clear o_ k_
 refine pP 0 (some 23) ?_
 refine pP 2 (some 25) ?_
 refine pP 3 (some 26) ?_
 refine pP 4 (some 27) ?_
 refine tP 1 (some 24) hHeld ?_
 refine tP 5 (some 28) hHeld ?_
 refine pP 6 (some 29) ?_
 refine done_ (by kernel_rfl) ?_
 clear hHeld
 go_wp2
 go_ret
 exact ⟨rfl, DLnk.shut (O3.out.take 3), K3.out⟩
set_option maxHeartbeats 16000000 in
set_option maxRecDepth 100000 in
theorem DHearL_ack {N : Nat → Prop} {w : World} {g : Nat} {E Wn Rm : Int} {W : Int} {All : List ByteArray} {Ak room : Int} {RAll : List ByteArray} (fe fq fa : Int) (fd : ByteArray) (h : Own N w [DLnk g E Wn Rm true W All Ak room RAll]) (hf : E = fe) (hb1 : 0 ≤ Ak ∧ All.length ≤ 1000000) (hb2 : RAll.length ≤ 1000000) (hq : fq = 0) : Calls Tryd.prog 17 #[.pointer (some ⟨g, 0, none⟩), .agg #[.int .i64 fe, .int .i64 fq, .int .i64 fa, .string fd]] w fun e_ w' => e_ = .returned (.bool false) ∧ Own N w' [DLnk g E Wn Rm true W All (ackD All Ak fa) room RAll] ∧ KeepS N w w' := by
 subst hf
 have d1 : decide (E > E) = false := decide_eq_false (by omega)
 have d2 : decide (E < E) = false := decide_eq_false (by omega)
 have d3 : (E != E) = false := by simp
 have HB1 := Aside0.mk hb1
 have HB2 := Aside0.mk hb2
 clear hb1 hb2
 have d5 : decide (fq > 0) = false := decide_eq_false (by omega)
 have d6 : decide (0 < fq) = false := decide_eq_false (by omega)
 clear hq
 obtain ⟨gs, gr, h2⟩ := DLnk.open_ h
 have O0 : Aside0 (Own N w [cells g #[.int .i64 E, .pointer (some ⟨gs, 0, none⟩), .pointer (some ⟨gr, 0, none⟩), .int .i64 Wn, .int .i64 Rm, .bool true] 84, DRcv gr room RAll, DSnd gs W 1125899906842624 All Ak]) := ⟨h2⟩
 have K0 : Aside0 (KeepS N w w) := ⟨KeepS.refl _ _⟩
 obtain ⟨a0a, a0b, a0c, a0d, a0e, a0f, b0⟩ := blk6_ (O0.out.blk (i := 0) rfl)
 clear h2 h
 go_enter Tryd.func17, Tryd.ntmps17
 go_wp2_with (first | ((with_reducible refine gate_dst (N := 3) rfl ?_); refine bP 3 #[.int .i64 E, .int .i64 fq, .int .i64 fa, .string fd] 40 O0.out ?_; intro gf w1 o_ k_; have O1 : Aside0 (Own N w1 [cells g #[.int .i64 E, .pointer (some ⟨gs, 0, none⟩), .pointer (some ⟨gr, 0, none⟩), .int .i64 Wn, .int .i64 Rm, .bool true] 84, DRcv gr room RAll, DSnd gs W 1125899906842624 All Ak, cells gf #[.int .i64 E, .int .i64 fq, .int .i64 fa, .string fd] 40]) := ⟨o_⟩; have K1 := Aside0.mk (K0.out.trans k_); clear a0a a0b a0c a0d a0e a0f b0 O0 K0; obtain ⟨a0a, a0b, a0c, a0d, a0e, a0f, b0⟩ := blk6_ (O1.out.blk (i := 0) rfl); obtain ⟨a3a, a3b, a3c, a3d, b3⟩ := blk4_ (O1.out.blk (i := 3) rfl); clear o_ k_))
 refine sP (n := 13) (S := fun w' => w'.cell? ⟨g, 0, none⟩ = some (.int .i64 E) ∧ w'.cell? ⟨g, 1, none⟩ = some (.pointer (some ⟨gs, 0, none⟩)) ∧ w'.cell? ⟨g, 2, none⟩ = some (.pointer (some ⟨gr, 0, none⟩)) ∧ w'.cell? ⟨g, 3, none⟩ = some (.int .i64 Wn) ∧ w'.cell? ⟨g, 4, none⟩ = some (.int .i64 Rm) ∧ w'.cell? ⟨g, 5, none⟩ = some (.bool true) ∧ w'.cell? ⟨gf, 0, none⟩ = some (.int .i64 E) ∧ w'.cell? ⟨gf, 1, none⟩ = some (.int .i64 fq) ∧ w'.cell? ⟨gf, 2, none⟩ = some (.int .i64 fa) ∧ w'.cell? ⟨gf, 3, none⟩ = some (.string fd)) (ds := []) ⟨a0a, a0b, a0c, a0d, a0e, a0f, a3a, a3b, a3c, a3d⟩ (fun hHeld => ?_)
 obtain ⟨w2, hw_⟩ : ∃ W, W = w1.drew := ⟨_, rfl⟩
 have o_ := O1.out.drew
 have k_ : KeepS N w1 w1.drew := KeepS.drew
 rw [← hw_] at o_ k_ hHeld ⊢
 clear hw_
 have O2 := Aside0.mk o_
 have K2 := Aside0.mk (K1.out.trans k_)
 clear a0a a0b a0c a0d a0e a0f b0 a3a a3b a3c a3d b3 O1 K1
 obtain ⟨a0a, a0b, a0c, a0d, a0e, a0f, b0⟩ := blk6_ (O2.out.blk (i := 0) rfl)
 obtain ⟨a3a, a3b, a3c, a3d, b3⟩ := blk4_ (O2.out.blk (i := 3) rfl)
 clear o_ k_
 refine pP 0 (some 6) ?_
 refine pP 2 (some 8) ?_
 refine pP 3 (some 9) ?_
 refine pP 4 (some 10) ?_
 refine tP 1 (some 7) hHeld ?_
 refine tP 5 (some 11) hHeld ?_
 refine pP 6 (some 12) ?_
 refine pP 7 (some 13) ?_
 refine pS 8 (some 14) ?_
 refine pS 9 (some 15) ?_
 refine pS 10 (some 16) ?_
 refine tS 11 (some 17) hHeld ?_
 refine pP 12 (some 18) ?_
 refine done_ (by kernel_rfl) ?_
 clear hHeld
 go_wp2
 refine sP (n := 7) (S := fun w' => w'.cell? ⟨g, 0, none⟩ = some (.int .i64 E) ∧ w'.cell? ⟨g, 1, none⟩ = some (.pointer (some ⟨gs, 0, none⟩)) ∧ w'.cell? ⟨g, 2, none⟩ = some (.pointer (some ⟨gr, 0, none⟩)) ∧ w'.cell? ⟨g, 3, none⟩ = some (.int .i64 Wn) ∧ w'.cell? ⟨g, 4, none⟩ = some (.int .i64 Rm) ∧ w'.cell? ⟨g, 5, none⟩ = some (.bool true) ∧ w'.cell? ⟨gf, 0, none⟩ = some (.int .i64 E) ∧ w'.cell? ⟨gf, 1, none⟩ = some (.int .i64 fq) ∧ w'.cell? ⟨gf, 2, none⟩ = some (.int .i64 fa) ∧ w'.cell? ⟨gf, 3, none⟩ = some (.string fd)) (ds := []) ⟨a0a, a0b, a0c, a0d, a0e, a0f, a3a, a3b, a3c, a3d⟩ (fun hHeld => ?_)
 obtain ⟨w3, hw_⟩ : ∃ W, W = w2.drew := ⟨_, rfl⟩
 have o_ := O2.out.drew
 have k_ : KeepS N w2 w2.drew := KeepS.drew
 rw [← hw_] at o_ k_ hHeld ⊢
 clear hw_
 have O3 := Aside0.mk o_
 have K3 := Aside0.mk (K2.out.trans k_)
 clear a0a a0b a0c a0d a0e a0f b0 a3a a3b a3c a3d b3 O2 K2
 obtain ⟨a0a, a0b, a0c, a0d, a0e, a0f, b0⟩ := blk6_ (O3.out.blk (i := 0) rfl)
 obtain ⟨a3a, a3b, a3c, a3d, b3⟩ := blk4_ (O3.out.blk (i := 3) rfl)
 clear o_ k_
 refine pP 0 (some 23) ?_
 refine pP 2 (some 25) ?_
 refine pP 3 (some 26) ?_
 refine pP 4 (some 27) ?_
 refine tP 1 (some 24) hHeld ?_
 refine tP 5 (some 28) hHeld ?_
 refine pP 6 (some 29) ?_
 refine done_ (by kernel_rfl) ?_
 clear hHeld
 go_wp2
 refine sP (n := 7) (S := fun w' => w'.cell? ⟨g, 0, none⟩ = some (.int .i64 E) ∧ w'.cell? ⟨g, 1, none⟩ = some (.pointer (some ⟨gs, 0, none⟩)) ∧ w'.cell? ⟨g, 2, none⟩ = some (.pointer (some ⟨gr, 0, none⟩)) ∧ w'.cell? ⟨g, 3, none⟩ = some (.int .i64 Wn) ∧ w'.cell? ⟨g, 4, none⟩ = some (.int .i64 Rm) ∧ w'.cell? ⟨g, 5, none⟩ = some (.bool true) ∧ w'.cell? ⟨gf, 0, none⟩ = some (.int .i64 E) ∧ w'.cell? ⟨gf, 1, none⟩ = some (.int .i64 fq) ∧ w'.cell? ⟨gf, 2, none⟩ = some (.int .i64 fa) ∧ w'.cell? ⟨gf, 3, none⟩ = some (.string fd)) (ds := []) ⟨a0a, a0b, a0c, a0d, a0e, a0f, a3a, a3b, a3c, a3d⟩ (fun hHeld => ?_)
 obtain ⟨w4, hw_⟩ : ∃ W, W = w3.drew := ⟨_, rfl⟩
 have o_ := O3.out.drew
 have k_ : KeepS N w3 w3.drew := KeepS.drew
 rw [← hw_] at o_ k_ hHeld ⊢
 clear hw_
 have O4 := Aside0.mk o_
 have K4 := Aside0.mk (K3.out.trans k_)
 clear a0a a0b a0c a0d a0e a0f b0 a3a a3b a3c a3d b3 O3 K3
 obtain ⟨a0a, a0b, a0c, a0d, a0e, a0f, b0⟩ := blk6_ (O4.out.blk (i := 0) rfl)
 obtain ⟨a3a, a3b, a3c, a3d, b3⟩ := blk4_ (O4.out.blk (i := 3) rfl)
 clear o_ k_
 refine pP 0 (some 30) ?_
 refine pP 1 (some 31) ?_
 refine pP 2 (some 32) ?_
 refine pP 4 (some 34) ?_
 refine tP 3 (some 33) hHeld ?_
 refine tP 5 (some 35) hHeld ?_
 refine oP 6 (some 36) (fun K_ hK_ => ?_)
 refine hP Tryd.func42 #[.pointer (some ⟨gs, 0, none⟩), .int .i64 fa] ?_
 obtain ⟨N_, on_, nn_, rr_, bb_⟩ := O4.out.frame1 (i := 2) rfl
 refine (DAck fa on_ HB1.out).mono ?_
 rintro e_ w5 ⟨ra_, rfl, oo_, kk_⟩
 obtain ⟨o_, k_⟩ := bb_ _ _ _ kk_ oo_
 refine ⟨_, rfl, ?_⟩
 have O5 : Aside0 (Own N w5 [cells g #[.int .i64 E, .pointer (some ⟨gs, 0, none⟩), .pointer (some ⟨gr, 0, none⟩), .int .i64 Wn, .int .i64 Rm, .bool true] 84, DRcv gr room RAll, DSnd gs W 1125899906842624 All (ackD All Ak fa), cells gf #[.int .i64 E, .int .i64 fq, .int .i64 fa, .string fd] 40]) := ⟨o_⟩
 have K5 := Aside0.mk (K4.out.trans k_)
 clear a0a a0b a0c a0d a0e a0f b0 a3a a3b a3c a3d b3 O4 K4
 obtain ⟨a0a, a0b, a0c, a0d, a0e, a0f, b0⟩ := blk6_ (O5.out.blk (i := 0) rfl)
 obtain ⟨a3a, a3b, a3c, a3d, b3⟩ := blk4_ (O5.out.blk (i := 3) rfl)
 clear o_ k_ oo_ kk_ on_ nn_ rr_ bb_
 clear hHeld
 refine hK_.out _ _ ⟨a0a, a0b, a0c, a0d, a0e, a0f, a3a, a3b, a3c, a3d⟩ (fun hHeld => ?_)
 clear hK_ K_
 refine nP ?_
 refine done_ (by kernel_rfl) ?_
 clear hHeld
 go_wp2
 go_ret
 exact ⟨rfl, DLnk.shut (O5.out.take 3), K5.out⟩
set_option maxHeartbeats 16000000 in
set_option maxRecDepth 100000 in
theorem DHearL_anew_ack {N : Nat → Prop} {w : World} {g : Nat} {E Wn Rm : Int} {W : Int} {All : List ByteArray} {Ak room : Int} {RAll : List ByteArray} (fe fq fa : Int) (fd : ByteArray) (W2 room2 : Int) (h : Own N w [DLnk g E Wn Rm true W All Ak room RAll]) (hf : E < fe) (he : 0 ≤ fe ∧ fe ≤ 1099511627776) (hW : mn (mx Wn 1) 16 = W2) (hR : mn (mx Rm 1) 16 = room2) (hq : fq = 0) : Calls Tryd.prog 17 #[.pointer (some ⟨g, 0, none⟩), .agg #[.int .i64 fe, .int .i64 fq, .int .i64 fa, .string fd]] w fun e_ w' => e_ = .returned (.bool true) ∧ Own N w' [DLnk g fe Wn Rm true W2 [] (ackD [] 0 fa) room2 []] ∧ KeepS N w w' := by
 have d1 : decide (fe > E) = true := decide_eq_true hf
 have d2 : decide (E < fe) = true := decide_eq_true hf
 have d3 : (fe != fe) = false := by simp
 have HE := Aside0.mk he
 have HW := Aside0.mk hW
 have HR := Aside0.mk hR
 clear hf he hW hR
 have d5 : decide (fq > 0) = false := decide_eq_false (by omega)
 have d6 : decide (0 < fq) = false := decide_eq_false (by omega)
 clear hq
 obtain ⟨gs, gr, h2⟩ := DLnk.open_ h
 have O0 : Aside0 (Own N w [cells g #[.int .i64 E, .pointer (some ⟨gs, 0, none⟩), .pointer (some ⟨gr, 0, none⟩), .int .i64 Wn, .int .i64 Rm, .bool true] 84, DRcv gr room RAll, DSnd gs W 1125899906842624 All Ak]) := ⟨h2⟩
 have K0 : Aside0 (KeepS N w w) := ⟨KeepS.refl _ _⟩
 obtain ⟨a0a, a0b, a0c, a0d, a0e, a0f, b0⟩ := blk6_ (O0.out.blk (i := 0) rfl)
 clear h2 h
 go_enter Tryd.func17, Tryd.ntmps17
 go_wp2_with (first | ((with_reducible refine gate_dst (N := 3) rfl ?_); refine bP 3 #[.int .i64 fe, .int .i64 fq, .int .i64 fa, .string fd] 40 O0.out ?_; intro gf w1 o_ k_; have O1 : Aside0 (Own N w1 [cells g #[.int .i64 E, .pointer (some ⟨gs, 0, none⟩), .pointer (some ⟨gr, 0, none⟩), .int .i64 Wn, .int .i64 Rm, .bool true] 84, DRcv gr room RAll, DSnd gs W 1125899906842624 All Ak, cells gf #[.int .i64 fe, .int .i64 fq, .int .i64 fa, .string fd] 40]) := ⟨o_⟩; have K1 := Aside0.mk (K0.out.trans k_); clear a0a a0b a0c a0d a0e a0f b0 O0 K0; obtain ⟨a0a, a0b, a0c, a0d, a0e, a0f, b0⟩ := blk6_ (O1.out.blk (i := 0) rfl); obtain ⟨a3a, a3b, a3c, a3d, b3⟩ := blk4_ (O1.out.blk (i := 3) rfl); clear o_ k_))
 refine sP (n := 13) (S := fun w' => w'.cell? ⟨g, 0, none⟩ = some (.int .i64 E) ∧ w'.cell? ⟨g, 1, none⟩ = some (.pointer (some ⟨gs, 0, none⟩)) ∧ w'.cell? ⟨g, 2, none⟩ = some (.pointer (some ⟨gr, 0, none⟩)) ∧ w'.cell? ⟨g, 3, none⟩ = some (.int .i64 Wn) ∧ w'.cell? ⟨g, 4, none⟩ = some (.int .i64 Rm) ∧ w'.cell? ⟨g, 5, none⟩ = some (.bool true) ∧ w'.cell? ⟨gf, 0, none⟩ = some (.int .i64 fe) ∧ w'.cell? ⟨gf, 1, none⟩ = some (.int .i64 fq) ∧ w'.cell? ⟨gf, 2, none⟩ = some (.int .i64 fa) ∧ w'.cell? ⟨gf, 3, none⟩ = some (.string fd)) (ds := []) ⟨a0a, a0b, a0c, a0d, a0e, a0f, a3a, a3b, a3c, a3d⟩ (fun hHeld => ?_)
 obtain ⟨w2, hw_⟩ : ∃ W, W = w1.drew := ⟨_, rfl⟩
 have o_ := O1.out.drew
 have k_ : KeepS N w1 w1.drew := KeepS.drew
 rw [← hw_] at o_ k_ hHeld ⊢
 clear hw_
 have O2 := Aside0.mk o_
 have K2 := Aside0.mk (K1.out.trans k_)
 clear a0a a0b a0c a0d a0e a0f b0 a3a a3b a3c a3d b3 O1 K1
 obtain ⟨a0a, a0b, a0c, a0d, a0e, a0f, b0⟩ := blk6_ (O2.out.blk (i := 0) rfl)
 obtain ⟨a3a, a3b, a3c, a3d, b3⟩ := blk4_ (O2.out.blk (i := 3) rfl)
 clear o_ k_
 refine pP 0 (some 6) ?_
 refine pP 2 (some 8) ?_
 refine pP 3 (some 9) ?_
 refine pP 4 (some 10) ?_
 refine tP 1 (some 7) hHeld ?_
 refine tP 5 (some 11) hHeld ?_
 refine pP 6 (some 12) ?_
 refine pP 7 (some 13) ?_
 refine pP 8 (some 14) ?_
 refine pP 9 (some 15) ?_
 refine pP 10 (some 16) ?_
 refine tP 11 (some 17) hHeld ?_
 refine pP 12 (some 18) ?_
 refine done_ (by kernel_rfl) ?_
 clear hHeld
 go_wp2_with (first | ((with_reducible refine gate_callee (f := 31) rfl ?_); refine gP (some 22) Tryd.func31 #[.pointer (some ⟨g, 0, none⟩), .int .i64 fe] ?_; obtain ⟨N_, on_, nn_, rr_, bb_⟩ := O2.out.frame1 (i := 0) rfl; refine (DFresh fe W2 room2 HE.out HW.out HR.out on_).mono ?_; rintro e_ w3 ⟨rfl, oo_, kk_⟩; obtain ⟨o_, k_⟩ := bb_ _ _ _ kk_ oo_; refine ⟨_, rfl, ?_⟩; have O3 : Aside0 (Own N w3 [DLnk g fe Wn Rm true W2 [] 0 room2 [], DRcv gr room RAll, DSnd gs W 1125899906842624 All Ak, cells gf #[.int .i64 fe, .int .i64 fq, .int .i64 fa, .string fd] 40]) := ⟨o_⟩; have K3 := Aside0.mk (K2.out.trans k_); clear a0a a0b a0c a0d a0e a0f b0 a3a a3b a3c a3d b3 O2 K2; obtain ⟨a3a, a3b, a3c, a3d, b3⟩ := blk4_ (O3.out.blk (i := 3) rfl); clear o_ k_ oo_ kk_ on_ nn_ rr_ bb_))
 obtain ⟨gs2, o1_⟩ := O3.out.of_ex (i := 0) rfl
 obtain ⟨gr2, o2_⟩ := o1_.of_ex (i := 0) rfl
 have o3_ := o2_.split (i := 0) rfl
 have o4_ := o3_.split (i := 0) rfl
 have O4 : Aside0 (Own N w3 [cells g #[.int .i64 fe, .pointer (some ⟨gs2, 0, none⟩), .pointer (some ⟨gr2, 0, none⟩), .int .i64 Wn, .int .i64 Rm, .bool true] 84, DRcv gr room RAll, DSnd gs W 1125899906842624 All Ak, cells gf #[.int .i64 fe, .int .i64 fq, .int .i64 fa, .string fd] 40, DRcv gr2 room2 [], DSnd gs2 W2 1125899906842624 [] 0]) := ⟨o4_⟩
 have K4 := K3
 clear o1_ o2_ o3_ o4_ O3 K3 a3a a3b a3c a3d b3
 obtain ⟨a0a, a0b, a0c, a0d, a0e, a0f, b0⟩ := blk6_ (O4.out.blk (i := 0) rfl)
 obtain ⟨a3a, a3b, a3c, a3d, b3⟩ := blk4_ (O4.out.blk (i := 3) rfl)
 refine sP (n := 7) (S := fun w' => w'.cell? ⟨g, 0, none⟩ = some (.int .i64 fe) ∧ w'.cell? ⟨g, 1, none⟩ = some (.pointer (some ⟨gs2, 0, none⟩)) ∧ w'.cell? ⟨g, 2, none⟩ = some (.pointer (some ⟨gr2, 0, none⟩)) ∧ w'.cell? ⟨g, 3, none⟩ = some (.int .i64 Wn) ∧ w'.cell? ⟨g, 4, none⟩ = some (.int .i64 Rm) ∧ w'.cell? ⟨g, 5, none⟩ = some (.bool true) ∧ w'.cell? ⟨gf, 0, none⟩ = some (.int .i64 fe) ∧ w'.cell? ⟨gf, 1, none⟩ = some (.int .i64 fq) ∧ w'.cell? ⟨gf, 2, none⟩ = some (.int .i64 fa) ∧ w'.cell? ⟨gf, 3, none⟩ = some (.string fd)) (ds := []) ⟨a0a, a0b, a0c, a0d, a0e, a0f, a3a, a3b, a3c, a3d⟩ (fun hHeld => ?_)
 obtain ⟨w5, hw_⟩ : ∃ W, W = w3.drew := ⟨_, rfl⟩
 have o_ := O4.out.drew
 have k_ : KeepS N w3 w3.drew := KeepS.drew
 rw [← hw_] at o_ k_ hHeld ⊢
 clear hw_
 have O5 := Aside0.mk o_
 have K5 := Aside0.mk (K4.out.trans k_)
 clear a0a a0b a0c a0d a0e a0f b0 a3a a3b a3c a3d b3 O4 K4
 obtain ⟨a0a, a0b, a0c, a0d, a0e, a0f, b0⟩ := blk6_ (O5.out.blk (i := 0) rfl)
 obtain ⟨a3a, a3b, a3c, a3d, b3⟩ := blk4_ (O5.out.blk (i := 3) rfl)
 clear o_ k_
 refine pP 0 (some 23) ?_
 refine pP 2 (some 25) ?_
 refine pP 3 (some 26) ?_
 refine pP 4 (some 27) ?_
 refine tP 1 (some 24) hHeld ?_
 refine tP 5 (some 28) hHeld ?_
 refine pP 6 (some 29) ?_
 refine done_ (by kernel_rfl) ?_
 clear hHeld
 go_wp2
 refine sP (n := 7) (S := fun w' => w'.cell? ⟨g, 0, none⟩ = some (.int .i64 fe) ∧ w'.cell? ⟨g, 1, none⟩ = some (.pointer (some ⟨gs2, 0, none⟩)) ∧ w'.cell? ⟨g, 2, none⟩ = some (.pointer (some ⟨gr2, 0, none⟩)) ∧ w'.cell? ⟨g, 3, none⟩ = some (.int .i64 Wn) ∧ w'.cell? ⟨g, 4, none⟩ = some (.int .i64 Rm) ∧ w'.cell? ⟨g, 5, none⟩ = some (.bool true) ∧ w'.cell? ⟨gf, 0, none⟩ = some (.int .i64 fe) ∧ w'.cell? ⟨gf, 1, none⟩ = some (.int .i64 fq) ∧ w'.cell? ⟨gf, 2, none⟩ = some (.int .i64 fa) ∧ w'.cell? ⟨gf, 3, none⟩ = some (.string fd)) (ds := []) ⟨a0a, a0b, a0c, a0d, a0e, a0f, a3a, a3b, a3c, a3d⟩ (fun hHeld => ?_)
 obtain ⟨w6, hw_⟩ : ∃ W, W = w5.drew := ⟨_, rfl⟩
 have o_ := O5.out.drew
 have k_ : KeepS N w5 w5.drew := KeepS.drew
 rw [← hw_] at o_ k_ hHeld ⊢
 clear hw_
 have O6 := Aside0.mk o_
 have K6 := Aside0.mk (K5.out.trans k_)
 clear a0a a0b a0c a0d a0e a0f b0 a3a a3b a3c a3d b3 O5 K5
 obtain ⟨a0a, a0b, a0c, a0d, a0e, a0f, b0⟩ := blk6_ (O6.out.blk (i := 0) rfl)
 obtain ⟨a3a, a3b, a3c, a3d, b3⟩ := blk4_ (O6.out.blk (i := 3) rfl)
 clear o_ k_
 refine pP 0 (some 30) ?_
 refine pP 1 (some 31) ?_
 refine pP 2 (some 32) ?_
 refine pP 4 (some 34) ?_
 refine tP 3 (some 33) hHeld ?_
 refine tP 5 (some 35) hHeld ?_
 refine oP 6 (some 36) (fun K_ hK_ => ?_)
 refine hP Tryd.func42 #[.pointer (some ⟨gs2, 0, none⟩), .int .i64 fa] ?_
 obtain ⟨N_, on_, nn_, rr_, bb_⟩ := O6.out.frame1 (i := 5) rfl
 refine (DAck fa on_ (by decide)).mono ?_
 rintro e_ w7 ⟨ra_, rfl, oo_, kk_⟩
 obtain ⟨o_, k_⟩ := bb_ _ _ _ kk_ oo_
 refine ⟨_, rfl, ?_⟩
 have O7 : Aside0 (Own N w7 [cells g #[.int .i64 fe, .pointer (some ⟨gs2, 0, none⟩), .pointer (some ⟨gr2, 0, none⟩), .int .i64 Wn, .int .i64 Rm, .bool true] 84, DRcv gr room RAll, DSnd gs W 1125899906842624 All Ak, cells gf #[.int .i64 fe, .int .i64 fq, .int .i64 fa, .string fd] 40, DRcv gr2 room2 [], DSnd gs2 W2 1125899906842624 [] (ackD [] 0 fa)]) := ⟨o_⟩
 have K7 := Aside0.mk (K6.out.trans k_)
 clear a0a a0b a0c a0d a0e a0f b0 a3a a3b a3c a3d b3 O6 K6
 obtain ⟨a0a, a0b, a0c, a0d, a0e, a0f, b0⟩ := blk6_ (O7.out.blk (i := 0) rfl)
 obtain ⟨a3a, a3b, a3c, a3d, b3⟩ := blk4_ (O7.out.blk (i := 3) rfl)
 clear o_ k_ oo_ kk_ on_ nn_ rr_ bb_
 clear hHeld
 refine hK_.out _ _ ⟨a0a, a0b, a0c, a0d, a0e, a0f, a3a, a3b, a3c, a3d⟩ (fun hHeld => ?_)
 clear hK_ K_
 refine nP ?_
 refine done_ (by kernel_rfl) ?_
 clear hHeld
 go_wp2
 go_ret
 exact ⟨rfl, DLnk.shut (gs := gs2) (gr := gr2) (O7.out.pickL [0, 4, 5] (by decide) (by simp)), K7.out⟩
set_option maxHeartbeats 16000000 in
set_option maxRecDepth 100000 in
theorem DHearL_data {N : Nat → Prop} {w : World} {g : Nat} {E Wn Rm : Int} {W : Int} {All : List ByteArray} {Ak room : Int} {RAll : List ByteArray} (fe fq fa : Int) (fd : ByteArray) (h : Own N w [DLnk g E Wn Rm true W All Ak room RAll]) (hf : E = fe) (hb1 : 0 ≤ Ak ∧ All.length ≤ 1000000) (hb2 : RAll.length ≤ 1000000) (hq : 0 < fq ∧ fq < 9223372036854775807) : Calls Tryd.prog 17 #[.pointer (some ⟨g, 0, none⟩), .agg #[.int .i64 fe, .int .i64 fq, .int .i64 fa, .string fd]] w fun e_ w' => e_ = .returned (.bool false) ∧ Own N w' [DLnk g E Wn Rm true W All (ackD All Ak fa) room (hearD room RAll fq fd)] ∧ KeepS N w w' := by
 subst hf
 have d1 : decide (E > E) = false := decide_eq_false (by omega)
 have d2 : decide (E < E) = false := decide_eq_false (by omega)
 have d3 : (E != E) = false := by simp
 have HB1 := Aside0.mk hb1
 have HB2 := Aside0.mk hb2
 clear hb1 hb2
 have d5 : decide (fq > 0) = true := decide_eq_true hq.1
 have d6 : decide (0 < fq) = true := decide_eq_true hq.1
 have HQ : Aside0 (fq < 9223372036854775807) := ⟨hq.2⟩
 clear hq
 obtain ⟨gs, gr, h2⟩ := DLnk.open_ h
 have O0 : Aside0 (Own N w [cells g #[.int .i64 E, .pointer (some ⟨gs, 0, none⟩), .pointer (some ⟨gr, 0, none⟩), .int .i64 Wn, .int .i64 Rm, .bool true] 84, DRcv gr room RAll, DSnd gs W 1125899906842624 All Ak]) := ⟨h2⟩
 have K0 : Aside0 (KeepS N w w) := ⟨KeepS.refl _ _⟩
 obtain ⟨a0a, a0b, a0c, a0d, a0e, a0f, b0⟩ := blk6_ (O0.out.blk (i := 0) rfl)
 clear h2 h
 go_enter Tryd.func17, Tryd.ntmps17
 go_wp2_with (first | ((with_reducible refine gate_dst (N := 3) rfl ?_); refine bP 3 #[.int .i64 E, .int .i64 fq, .int .i64 fa, .string fd] 40 O0.out ?_; intro gf w1 o_ k_; have O1 : Aside0 (Own N w1 [cells g #[.int .i64 E, .pointer (some ⟨gs, 0, none⟩), .pointer (some ⟨gr, 0, none⟩), .int .i64 Wn, .int .i64 Rm, .bool true] 84, DRcv gr room RAll, DSnd gs W 1125899906842624 All Ak, cells gf #[.int .i64 E, .int .i64 fq, .int .i64 fa, .string fd] 40]) := ⟨o_⟩; have K1 := Aside0.mk (K0.out.trans k_); clear a0a a0b a0c a0d a0e a0f b0 O0 K0; obtain ⟨a0a, a0b, a0c, a0d, a0e, a0f, b0⟩ := blk6_ (O1.out.blk (i := 0) rfl); obtain ⟨a3a, a3b, a3c, a3d, b3⟩ := blk4_ (O1.out.blk (i := 3) rfl); clear o_ k_))
 refine sP (n := 13) (S := fun w' => w'.cell? ⟨g, 0, none⟩ = some (.int .i64 E) ∧ w'.cell? ⟨g, 1, none⟩ = some (.pointer (some ⟨gs, 0, none⟩)) ∧ w'.cell? ⟨g, 2, none⟩ = some (.pointer (some ⟨gr, 0, none⟩)) ∧ w'.cell? ⟨g, 3, none⟩ = some (.int .i64 Wn) ∧ w'.cell? ⟨g, 4, none⟩ = some (.int .i64 Rm) ∧ w'.cell? ⟨g, 5, none⟩ = some (.bool true) ∧ w'.cell? ⟨gf, 0, none⟩ = some (.int .i64 E) ∧ w'.cell? ⟨gf, 1, none⟩ = some (.int .i64 fq) ∧ w'.cell? ⟨gf, 2, none⟩ = some (.int .i64 fa) ∧ w'.cell? ⟨gf, 3, none⟩ = some (.string fd)) (ds := []) ⟨a0a, a0b, a0c, a0d, a0e, a0f, a3a, a3b, a3c, a3d⟩ (fun hHeld => ?_)
 obtain ⟨w2, hw_⟩ : ∃ W, W = w1.drew := ⟨_, rfl⟩
 have o_ := O1.out.drew
 have k_ : KeepS N w1 w1.drew := KeepS.drew
 rw [← hw_] at o_ k_ hHeld ⊢
 clear hw_
 have O2 := Aside0.mk o_
 have K2 := Aside0.mk (K1.out.trans k_)
 clear a0a a0b a0c a0d a0e a0f b0 a3a a3b a3c a3d b3 O1 K1
 obtain ⟨a0a, a0b, a0c, a0d, a0e, a0f, b0⟩ := blk6_ (O2.out.blk (i := 0) rfl)
 obtain ⟨a3a, a3b, a3c, a3d, b3⟩ := blk4_ (O2.out.blk (i := 3) rfl)
 clear o_ k_
 refine pP 0 (some 6) ?_
 refine pP 2 (some 8) ?_
 refine pP 3 (some 9) ?_
 refine pP 4 (some 10) ?_
 refine tP 1 (some 7) hHeld ?_
 refine tP 5 (some 11) hHeld ?_
 refine pP 6 (some 12) ?_
 refine pP 7 (some 13) ?_
 refine pS 8 (some 14) ?_
 refine pS 9 (some 15) ?_
 refine pS 10 (some 16) ?_
 refine tS 11 (some 17) hHeld ?_
 refine pP 12 (some 18) ?_
 refine done_ (by kernel_rfl) ?_
 clear hHeld
 go_wp2
 refine sP (n := 7) (S := fun w' => w'.cell? ⟨g, 0, none⟩ = some (.int .i64 E) ∧ w'.cell? ⟨g, 1, none⟩ = some (.pointer (some ⟨gs, 0, none⟩)) ∧ w'.cell? ⟨g, 2, none⟩ = some (.pointer (some ⟨gr, 0, none⟩)) ∧ w'.cell? ⟨g, 3, none⟩ = some (.int .i64 Wn) ∧ w'.cell? ⟨g, 4, none⟩ = some (.int .i64 Rm) ∧ w'.cell? ⟨g, 5, none⟩ = some (.bool true) ∧ w'.cell? ⟨gf, 0, none⟩ = some (.int .i64 E) ∧ w'.cell? ⟨gf, 1, none⟩ = some (.int .i64 fq) ∧ w'.cell? ⟨gf, 2, none⟩ = some (.int .i64 fa) ∧ w'.cell? ⟨gf, 3, none⟩ = some (.string fd)) (ds := []) ⟨a0a, a0b, a0c, a0d, a0e, a0f, a3a, a3b, a3c, a3d⟩ (fun hHeld => ?_)
 obtain ⟨w3, hw_⟩ : ∃ W, W = w2.drew := ⟨_, rfl⟩
 have o_ := O2.out.drew
 have k_ : KeepS N w2 w2.drew := KeepS.drew
 rw [← hw_] at o_ k_ hHeld ⊢
 clear hw_
 have O3 := Aside0.mk o_
 have K3 := Aside0.mk (K2.out.trans k_)
 clear a0a a0b a0c a0d a0e a0f b0 a3a a3b a3c a3d b3 O2 K2
 obtain ⟨a0a, a0b, a0c, a0d, a0e, a0f, b0⟩ := blk6_ (O3.out.blk (i := 0) rfl)
 obtain ⟨a3a, a3b, a3c, a3d, b3⟩ := blk4_ (O3.out.blk (i := 3) rfl)
 clear o_ k_
 refine pP 0 (some 23) ?_
 refine pP 2 (some 25) ?_
 refine pP 3 (some 26) ?_
 refine pP 4 (some 27) ?_
 refine tP 1 (some 24) hHeld ?_
 refine tP 5 (some 28) hHeld ?_
 refine pP 6 (some 29) ?_
 refine done_ (by kernel_rfl) ?_
 clear hHeld
 go_wp2
 refine sP (n := 7) (S := fun w' => w'.cell? ⟨g, 0, none⟩ = some (.int .i64 E) ∧ w'.cell? ⟨g, 1, none⟩ = some (.pointer (some ⟨gs, 0, none⟩)) ∧ w'.cell? ⟨g, 2, none⟩ = some (.pointer (some ⟨gr, 0, none⟩)) ∧ w'.cell? ⟨g, 3, none⟩ = some (.int .i64 Wn) ∧ w'.cell? ⟨g, 4, none⟩ = some (.int .i64 Rm) ∧ w'.cell? ⟨g, 5, none⟩ = some (.bool true) ∧ w'.cell? ⟨gf, 0, none⟩ = some (.int .i64 E) ∧ w'.cell? ⟨gf, 1, none⟩ = some (.int .i64 fq) ∧ w'.cell? ⟨gf, 2, none⟩ = some (.int .i64 fa) ∧ w'.cell? ⟨gf, 3, none⟩ = some (.string fd)) (ds := []) ⟨a0a, a0b, a0c, a0d, a0e, a0f, a3a, a3b, a3c, a3d⟩ (fun hHeld => ?_)
 obtain ⟨w4, hw_⟩ : ∃ W, W = w3.drew := ⟨_, rfl⟩
 have o_ := O3.out.drew
 have k_ : KeepS N w3 w3.drew := KeepS.drew
 rw [← hw_] at o_ k_ hHeld ⊢
 clear hw_
 have O4 := Aside0.mk o_
 have K4 := Aside0.mk (K3.out.trans k_)
 clear a0a a0b a0c a0d a0e a0f b0 a3a a3b a3c a3d b3 O3 K3
 obtain ⟨a0a, a0b, a0c, a0d, a0e, a0f, b0⟩ := blk6_ (O4.out.blk (i := 0) rfl)
 obtain ⟨a3a, a3b, a3c, a3d, b3⟩ := blk4_ (O4.out.blk (i := 3) rfl)
 clear o_ k_
 refine pP 0 (some 30) ?_
 refine pP 1 (some 31) ?_
 refine pP 2 (some 32) ?_
 refine pP 4 (some 34) ?_
 refine tP 3 (some 33) hHeld ?_
 refine tP 5 (some 35) hHeld ?_
 refine oP 6 (some 36) (fun K_ hK_ => ?_)
 refine hP Tryd.func42 #[.pointer (some ⟨gs, 0, none⟩), .int .i64 fa] ?_
 obtain ⟨N_, on_, nn_, rr_, bb_⟩ := O4.out.frame1 (i := 2) rfl
 refine (DAck fa on_ HB1.out).mono ?_
 rintro e_ w5 ⟨ra_, rfl, oo_, kk_⟩
 obtain ⟨o_, k_⟩ := bb_ _ _ _ kk_ oo_
 refine ⟨_, rfl, ?_⟩
 have O5 : Aside0 (Own N w5 [cells g #[.int .i64 E, .pointer (some ⟨gs, 0, none⟩), .pointer (some ⟨gr, 0, none⟩), .int .i64 Wn, .int .i64 Rm, .bool true] 84, DRcv gr room RAll, DSnd gs W 1125899906842624 All (ackD All Ak fa), cells gf #[.int .i64 E, .int .i64 fq, .int .i64 fa, .string fd] 40]) := ⟨o_⟩
 have K5 := Aside0.mk (K4.out.trans k_)
 clear a0a a0b a0c a0d a0e a0f b0 a3a a3b a3c a3d b3 O4 K4
 obtain ⟨a0a, a0b, a0c, a0d, a0e, a0f, b0⟩ := blk6_ (O5.out.blk (i := 0) rfl)
 obtain ⟨a3a, a3b, a3c, a3d, b3⟩ := blk4_ (O5.out.blk (i := 3) rfl)
 clear o_ k_ oo_ kk_ on_ nn_ rr_ bb_
 clear hHeld
 refine hK_.out _ _ ⟨a0a, a0b, a0c, a0d, a0e, a0f, a3a, a3b, a3c, a3d⟩ (fun hHeld => ?_)
 clear hK_ K_
 refine nP ?_
 refine done_ (by kernel_rfl) ?_
 clear hHeld
 go_wp2
 refine sP (n := 9) (S := fun w' => w'.cell? ⟨g, 0, none⟩ = some (.int .i64 E) ∧ w'.cell? ⟨g, 1, none⟩ = some (.pointer (some ⟨gs, 0, none⟩)) ∧ w'.cell? ⟨g, 2, none⟩ = some (.pointer (some ⟨gr, 0, none⟩)) ∧ w'.cell? ⟨g, 3, none⟩ = some (.int .i64 Wn) ∧ w'.cell? ⟨g, 4, none⟩ = some (.int .i64 Rm) ∧ w'.cell? ⟨g, 5, none⟩ = some (.bool true) ∧ w'.cell? ⟨gf, 0, none⟩ = some (.int .i64 E) ∧ w'.cell? ⟨gf, 1, none⟩ = some (.int .i64 fq) ∧ w'.cell? ⟨gf, 2, none⟩ = some (.int .i64 fa) ∧ w'.cell? ⟨gf, 3, none⟩ = some (.string fd)) (ds := []) ⟨a0a, a0b, a0c, a0d, a0e, a0f, a3a, a3b, a3c, a3d⟩ (fun hHeld => ?_)
 obtain ⟨w6, hw_⟩ : ∃ W, W = w5.drew := ⟨_, rfl⟩
 have o_ := O5.out.drew
 have k_ : KeepS N w5 w5.drew := KeepS.drew
 rw [← hw_] at o_ k_ hHeld ⊢
 clear hw_
 have O6 := Aside0.mk o_
 have K6 := Aside0.mk (K5.out.trans k_)
 clear a0a a0b a0c a0d a0e a0f b0 a3a a3b a3c a3d b3 O5 K5
 obtain ⟨a0a, a0b, a0c, a0d, a0e, a0f, b0⟩ := blk6_ (O6.out.blk (i := 0) rfl)
 obtain ⟨a3a, a3b, a3c, a3d, b3⟩ := blk4_ (O6.out.blk (i := 3) rfl)
 clear o_ k_
 refine pP 0 (some 40) ?_
 refine pP 1 (some 41) ?_
 refine pP 2 (some 42) ?_
 refine pP 4 (some 44) ?_
 refine pP 6 (some 46) ?_
 refine tP 3 (some 43) hHeld ?_
 refine tP 5 (some 45) hHeld ?_
 refine tP 7 (some 47) hHeld ?_
 refine oP 8 (some 48) (fun K_ hK_ => ?_)
 refine hP Tryd.func43 #[.pointer (some ⟨gr, 0, none⟩), .int .i64 fq, .string fd] ?_
 obtain ⟨N_, on_, nn_, rr_, bb_⟩ := O6.out.frame1 (i := 1) rfl
 refine (DHear fq fd on_ HQ.out HB2.out).mono ?_
 rintro e_ w7 ⟨rb_, rfl, oo_, kk_⟩
 obtain ⟨o_, k_⟩ := bb_ _ _ _ kk_ oo_
 refine ⟨_, rfl, ?_⟩
 have O7 : Aside0 (Own N w7 [cells g #[.int .i64 E, .pointer (some ⟨gs, 0, none⟩), .pointer (some ⟨gr, 0, none⟩), .int .i64 Wn, .int .i64 Rm, .bool true] 84, DRcv gr room (hearD room RAll fq fd), DSnd gs W 1125899906842624 All (ackD All Ak fa), cells gf #[.int .i64 E, .int .i64 fq, .int .i64 fa, .string fd] 40]) := ⟨o_⟩
 have K7 := Aside0.mk (K6.out.trans k_)
 clear a0a a0b a0c a0d a0e a0f b0 a3a a3b a3c a3d b3 O6 K6
 obtain ⟨a0a, a0b, a0c, a0d, a0e, a0f, b0⟩ := blk6_ (O7.out.blk (i := 0) rfl)
 obtain ⟨a3a, a3b, a3c, a3d, b3⟩ := blk4_ (O7.out.blk (i := 3) rfl)
 clear o_ k_ oo_ kk_ on_ nn_ rr_ bb_
 clear hHeld
 refine hK_.out _ _ ⟨a0a, a0b, a0c, a0d, a0e, a0f, a3a, a3b, a3c, a3d⟩ (fun hHeld => ?_)
 clear hK_ K_
 refine nP ?_
 refine done_ (by kernel_rfl) ?_
 clear hHeld
 go_wp2
 go_ret
 exact ⟨rfl, DLnk.shut (O7.out.take 3), K7.out⟩
set_option maxHeartbeats 16000000 in
set_option maxRecDepth 100000 in
theorem DHearL_anew_data {N : Nat → Prop} {w : World} {g : Nat} {E Wn Rm : Int} {W : Int} {All : List ByteArray} {Ak room : Int} {RAll : List ByteArray} (fe fq fa : Int) (fd : ByteArray) (W2 room2 : Int) (h : Own N w [DLnk g E Wn Rm true W All Ak room RAll]) (hf : E < fe) (he : 0 ≤ fe ∧ fe ≤ 1099511627776) (hW : mn (mx Wn 1) 16 = W2) (hR : mn (mx Rm 1) 16 = room2) (hq : 0 < fq ∧ fq < 9223372036854775807) : Calls Tryd.prog 17 #[.pointer (some ⟨g, 0, none⟩), .agg #[.int .i64 fe, .int .i64 fq, .int .i64 fa, .string fd]] w fun e_ w' => e_ = .returned (.bool true) ∧ Own N w' [DLnk g fe Wn Rm true W2 [] (ackD [] 0 fa) room2 (hearD room2 [] fq fd)] ∧ KeepS N w w' := by
 have d1 : decide (fe > E) = true := decide_eq_true hf
 have d2 : decide (E < fe) = true := decide_eq_true hf
 have d3 : (fe != fe) = false := by simp
 have HE := Aside0.mk he
 have HW := Aside0.mk hW
 have HR := Aside0.mk hR
 clear hf he hW hR
 have d5 : decide (fq > 0) = true := decide_eq_true hq.1
 have d6 : decide (0 < fq) = true := decide_eq_true hq.1
 have HQ : Aside0 (fq < 9223372036854775807) := ⟨hq.2⟩
 clear hq
 obtain ⟨gs, gr, h2⟩ := DLnk.open_ h
 have O0 : Aside0 (Own N w [cells g #[.int .i64 E, .pointer (some ⟨gs, 0, none⟩), .pointer (some ⟨gr, 0, none⟩), .int .i64 Wn, .int .i64 Rm, .bool true] 84, DRcv gr room RAll, DSnd gs W 1125899906842624 All Ak]) := ⟨h2⟩
 have K0 : Aside0 (KeepS N w w) := ⟨KeepS.refl _ _⟩
 obtain ⟨a0a, a0b, a0c, a0d, a0e, a0f, b0⟩ := blk6_ (O0.out.blk (i := 0) rfl)
 clear h2 h
 go_enter Tryd.func17, Tryd.ntmps17
 go_wp2_with (first | ((with_reducible refine gate_dst (N := 3) rfl ?_); refine bP 3 #[.int .i64 fe, .int .i64 fq, .int .i64 fa, .string fd] 40 O0.out ?_; intro gf w1 o_ k_; have O1 : Aside0 (Own N w1 [cells g #[.int .i64 E, .pointer (some ⟨gs, 0, none⟩), .pointer (some ⟨gr, 0, none⟩), .int .i64 Wn, .int .i64 Rm, .bool true] 84, DRcv gr room RAll, DSnd gs W 1125899906842624 All Ak, cells gf #[.int .i64 fe, .int .i64 fq, .int .i64 fa, .string fd] 40]) := ⟨o_⟩; have K1 := Aside0.mk (K0.out.trans k_); clear a0a a0b a0c a0d a0e a0f b0 O0 K0; obtain ⟨a0a, a0b, a0c, a0d, a0e, a0f, b0⟩ := blk6_ (O1.out.blk (i := 0) rfl); obtain ⟨a3a, a3b, a3c, a3d, b3⟩ := blk4_ (O1.out.blk (i := 3) rfl); clear o_ k_))
 refine sP (n := 13) (S := fun w' => w'.cell? ⟨g, 0, none⟩ = some (.int .i64 E) ∧ w'.cell? ⟨g, 1, none⟩ = some (.pointer (some ⟨gs, 0, none⟩)) ∧ w'.cell? ⟨g, 2, none⟩ = some (.pointer (some ⟨gr, 0, none⟩)) ∧ w'.cell? ⟨g, 3, none⟩ = some (.int .i64 Wn) ∧ w'.cell? ⟨g, 4, none⟩ = some (.int .i64 Rm) ∧ w'.cell? ⟨g, 5, none⟩ = some (.bool true) ∧ w'.cell? ⟨gf, 0, none⟩ = some (.int .i64 fe) ∧ w'.cell? ⟨gf, 1, none⟩ = some (.int .i64 fq) ∧ w'.cell? ⟨gf, 2, none⟩ = some (.int .i64 fa) ∧ w'.cell? ⟨gf, 3, none⟩ = some (.string fd)) (ds := []) ⟨a0a, a0b, a0c, a0d, a0e, a0f, a3a, a3b, a3c, a3d⟩ (fun hHeld => ?_)
 obtain ⟨w2, hw_⟩ : ∃ W, W = w1.drew := ⟨_, rfl⟩
 have o_ := O1.out.drew
 have k_ : KeepS N w1 w1.drew := KeepS.drew
 rw [← hw_] at o_ k_ hHeld ⊢
 clear hw_
 have O2 := Aside0.mk o_
 have K2 := Aside0.mk (K1.out.trans k_)
 clear a0a a0b a0c a0d a0e a0f b0 a3a a3b a3c a3d b3 O1 K1
 obtain ⟨a0a, a0b, a0c, a0d, a0e, a0f, b0⟩ := blk6_ (O2.out.blk (i := 0) rfl)
 obtain ⟨a3a, a3b, a3c, a3d, b3⟩ := blk4_ (O2.out.blk (i := 3) rfl)
 clear o_ k_
 refine pP 0 (some 6) ?_
 refine pP 2 (some 8) ?_
 refine pP 3 (some 9) ?_
 refine pP 4 (some 10) ?_
 refine tP 1 (some 7) hHeld ?_
 refine tP 5 (some 11) hHeld ?_
 refine pP 6 (some 12) ?_
 refine pP 7 (some 13) ?_
 refine pP 8 (some 14) ?_
 refine pP 9 (some 15) ?_
 refine pP 10 (some 16) ?_
 refine tP 11 (some 17) hHeld ?_
 refine pP 12 (some 18) ?_
 refine done_ (by kernel_rfl) ?_
 clear hHeld
 go_wp2_with (first | ((with_reducible refine gate_callee (f := 31) rfl ?_); refine gP (some 22) Tryd.func31 #[.pointer (some ⟨g, 0, none⟩), .int .i64 fe] ?_; obtain ⟨N_, on_, nn_, rr_, bb_⟩ := O2.out.frame1 (i := 0) rfl; refine (DFresh fe W2 room2 HE.out HW.out HR.out on_).mono ?_; rintro e_ w3 ⟨rfl, oo_, kk_⟩; obtain ⟨o_, k_⟩ := bb_ _ _ _ kk_ oo_; refine ⟨_, rfl, ?_⟩; have O3 : Aside0 (Own N w3 [DLnk g fe Wn Rm true W2 [] 0 room2 [], DRcv gr room RAll, DSnd gs W 1125899906842624 All Ak, cells gf #[.int .i64 fe, .int .i64 fq, .int .i64 fa, .string fd] 40]) := ⟨o_⟩; have K3 := Aside0.mk (K2.out.trans k_); clear a0a a0b a0c a0d a0e a0f b0 a3a a3b a3c a3d b3 O2 K2; obtain ⟨a3a, a3b, a3c, a3d, b3⟩ := blk4_ (O3.out.blk (i := 3) rfl); clear o_ k_ oo_ kk_ on_ nn_ rr_ bb_))
 obtain ⟨gs2, o1_⟩ := O3.out.of_ex (i := 0) rfl
 obtain ⟨gr2, o2_⟩ := o1_.of_ex (i := 0) rfl
 have o3_ := o2_.split (i := 0) rfl
 have o4_ := o3_.split (i := 0) rfl
 have O4 : Aside0 (Own N w3 [cells g #[.int .i64 fe, .pointer (some ⟨gs2, 0, none⟩), .pointer (some ⟨gr2, 0, none⟩), .int .i64 Wn, .int .i64 Rm, .bool true] 84, DRcv gr room RAll, DSnd gs W 1125899906842624 All Ak, cells gf #[.int .i64 fe, .int .i64 fq, .int .i64 fa, .string fd] 40, DRcv gr2 room2 [], DSnd gs2 W2 1125899906842624 [] 0]) := ⟨o4_⟩
 have K4 := K3
 clear o1_ o2_ o3_ o4_ O3 K3 a3a a3b a3c a3d b3
 obtain ⟨a0a, a0b, a0c, a0d, a0e, a0f, b0⟩ := blk6_ (O4.out.blk (i := 0) rfl)
 obtain ⟨a3a, a3b, a3c, a3d, b3⟩ := blk4_ (O4.out.blk (i := 3) rfl)
 refine sP (n := 7) (S := fun w' => w'.cell? ⟨g, 0, none⟩ = some (.int .i64 fe) ∧ w'.cell? ⟨g, 1, none⟩ = some (.pointer (some ⟨gs2, 0, none⟩)) ∧ w'.cell? ⟨g, 2, none⟩ = some (.pointer (some ⟨gr2, 0, none⟩)) ∧ w'.cell? ⟨g, 3, none⟩ = some (.int .i64 Wn) ∧ w'.cell? ⟨g, 4, none⟩ = some (.int .i64 Rm) ∧ w'.cell? ⟨g, 5, none⟩ = some (.bool true) ∧ w'.cell? ⟨gf, 0, none⟩ = some (.int .i64 fe) ∧ w'.cell? ⟨gf, 1, none⟩ = some (.int .i64 fq) ∧ w'.cell? ⟨gf, 2, none⟩ = some (.int .i64 fa) ∧ w'.cell? ⟨gf, 3, none⟩ = some (.string fd)) (ds := []) ⟨a0a, a0b, a0c, a0d, a0e, a0f, a3a, a3b, a3c, a3d⟩ (fun hHeld => ?_)
 obtain ⟨w5, hw_⟩ : ∃ W, W = w3.drew := ⟨_, rfl⟩
 have o_ := O4.out.drew
 have k_ : KeepS N w3 w3.drew := KeepS.drew
 rw [← hw_] at o_ k_ hHeld ⊢
 clear hw_
 have O5 := Aside0.mk o_
 have K5 := Aside0.mk (K4.out.trans k_)
 clear a0a a0b a0c a0d a0e a0f b0 a3a a3b a3c a3d b3 O4 K4
 obtain ⟨a0a, a0b, a0c, a0d, a0e, a0f, b0⟩ := blk6_ (O5.out.blk (i := 0) rfl)
 obtain ⟨a3a, a3b, a3c, a3d, b3⟩ := blk4_ (O5.out.blk (i := 3) rfl)
 clear o_ k_
 refine pP 0 (some 23) ?_
 refine pP 2 (some 25) ?_
 refine pP 3 (some 26) ?_
 refine pP 4 (some 27) ?_
 refine tP 1 (some 24) hHeld ?_
 refine tP 5 (some 28) hHeld ?_
 refine pP 6 (some 29) ?_
 refine done_ (by kernel_rfl) ?_
 clear hHeld
 go_wp2
 refine sP (n := 7) (S := fun w' => w'.cell? ⟨g, 0, none⟩ = some (.int .i64 fe) ∧ w'.cell? ⟨g, 1, none⟩ = some (.pointer (some ⟨gs2, 0, none⟩)) ∧ w'.cell? ⟨g, 2, none⟩ = some (.pointer (some ⟨gr2, 0, none⟩)) ∧ w'.cell? ⟨g, 3, none⟩ = some (.int .i64 Wn) ∧ w'.cell? ⟨g, 4, none⟩ = some (.int .i64 Rm) ∧ w'.cell? ⟨g, 5, none⟩ = some (.bool true) ∧ w'.cell? ⟨gf, 0, none⟩ = some (.int .i64 fe) ∧ w'.cell? ⟨gf, 1, none⟩ = some (.int .i64 fq) ∧ w'.cell? ⟨gf, 2, none⟩ = some (.int .i64 fa) ∧ w'.cell? ⟨gf, 3, none⟩ = some (.string fd)) (ds := []) ⟨a0a, a0b, a0c, a0d, a0e, a0f, a3a, a3b, a3c, a3d⟩ (fun hHeld => ?_)
 obtain ⟨w6, hw_⟩ : ∃ W, W = w5.drew := ⟨_, rfl⟩
 have o_ := O5.out.drew
 have k_ : KeepS N w5 w5.drew := KeepS.drew
 rw [← hw_] at o_ k_ hHeld ⊢
 clear hw_
 have O6 := Aside0.mk o_
 have K6 := Aside0.mk (K5.out.trans k_)
 clear a0a a0b a0c a0d a0e a0f b0 a3a a3b a3c a3d b3 O5 K5
 obtain ⟨a0a, a0b, a0c, a0d, a0e, a0f, b0⟩ := blk6_ (O6.out.blk (i := 0) rfl)
 obtain ⟨a3a, a3b, a3c, a3d, b3⟩ := blk4_ (O6.out.blk (i := 3) rfl)
 clear o_ k_
 refine pP 0 (some 30) ?_
 refine pP 1 (some 31) ?_
 refine pP 2 (some 32) ?_
 refine pP 4 (some 34) ?_
 refine tP 3 (some 33) hHeld ?_
 refine tP 5 (some 35) hHeld ?_
 refine oP 6 (some 36) (fun K_ hK_ => ?_)
 refine hP Tryd.func42 #[.pointer (some ⟨gs2, 0, none⟩), .int .i64 fa] ?_
 obtain ⟨N_, on_, nn_, rr_, bb_⟩ := O6.out.frame1 (i := 5) rfl
 refine (DAck fa on_ (by decide)).mono ?_
 rintro e_ w7 ⟨ra_, rfl, oo_, kk_⟩
 obtain ⟨o_, k_⟩ := bb_ _ _ _ kk_ oo_
 refine ⟨_, rfl, ?_⟩
 have O7 : Aside0 (Own N w7 [cells g #[.int .i64 fe, .pointer (some ⟨gs2, 0, none⟩), .pointer (some ⟨gr2, 0, none⟩), .int .i64 Wn, .int .i64 Rm, .bool true] 84, DRcv gr room RAll, DSnd gs W 1125899906842624 All Ak, cells gf #[.int .i64 fe, .int .i64 fq, .int .i64 fa, .string fd] 40, DRcv gr2 room2 [], DSnd gs2 W2 1125899906842624 [] (ackD [] 0 fa)]) := ⟨o_⟩
 have K7 := Aside0.mk (K6.out.trans k_)
 clear a0a a0b a0c a0d a0e a0f b0 a3a a3b a3c a3d b3 O6 K6
 obtain ⟨a0a, a0b, a0c, a0d, a0e, a0f, b0⟩ := blk6_ (O7.out.blk (i := 0) rfl)
 obtain ⟨a3a, a3b, a3c, a3d, b3⟩ := blk4_ (O7.out.blk (i := 3) rfl)
 clear o_ k_ oo_ kk_ on_ nn_ rr_ bb_
 clear hHeld
 refine hK_.out _ _ ⟨a0a, a0b, a0c, a0d, a0e, a0f, a3a, a3b, a3c, a3d⟩ (fun hHeld => ?_)
 clear hK_ K_
 refine nP ?_
 refine done_ (by kernel_rfl) ?_
 clear hHeld
 go_wp2
 refine sP (n := 9) (S := fun w' => w'.cell? ⟨g, 0, none⟩ = some (.int .i64 fe) ∧ w'.cell? ⟨g, 1, none⟩ = some (.pointer (some ⟨gs2, 0, none⟩)) ∧ w'.cell? ⟨g, 2, none⟩ = some (.pointer (some ⟨gr2, 0, none⟩)) ∧ w'.cell? ⟨g, 3, none⟩ = some (.int .i64 Wn) ∧ w'.cell? ⟨g, 4, none⟩ = some (.int .i64 Rm) ∧ w'.cell? ⟨g, 5, none⟩ = some (.bool true) ∧ w'.cell? ⟨gf, 0, none⟩ = some (.int .i64 fe) ∧ w'.cell? ⟨gf, 1, none⟩ = some (.int .i64 fq) ∧ w'.cell? ⟨gf, 2, none⟩ = some (.int .i64 fa) ∧ w'.cell? ⟨gf, 3, none⟩ = some (.string fd)) (ds := []) ⟨a0a, a0b, a0c, a0d, a0e, a0f, a3a, a3b, a3c, a3d⟩ (fun hHeld => ?_)
 obtain ⟨w8, hw_⟩ : ∃ W, W = w7.drew := ⟨_, rfl⟩
 have o_ := O7.out.drew
 have k_ : KeepS N w7 w7.drew := KeepS.drew
 rw [← hw_] at o_ k_ hHeld ⊢
 clear hw_
 have O8 := Aside0.mk o_
 have K8 := Aside0.mk (K7.out.trans k_)
 clear a0a a0b a0c a0d a0e a0f b0 a3a a3b a3c a3d b3 O7 K7
 obtain ⟨a0a, a0b, a0c, a0d, a0e, a0f, b0⟩ := blk6_ (O8.out.blk (i := 0) rfl)
 obtain ⟨a3a, a3b, a3c, a3d, b3⟩ := blk4_ (O8.out.blk (i := 3) rfl)
 clear o_ k_
 refine pP 0 (some 40) ?_
 refine pP 1 (some 41) ?_
 refine pP 2 (some 42) ?_
 refine pP 4 (some 44) ?_
 refine pP 6 (some 46) ?_
 refine tP 3 (some 43) hHeld ?_
 refine tP 5 (some 45) hHeld ?_
 refine tP 7 (some 47) hHeld ?_
 refine oP 8 (some 48) (fun K_ hK_ => ?_)
 refine hP Tryd.func43 #[.pointer (some ⟨gr2, 0, none⟩), .int .i64 fq, .string fd] ?_
 obtain ⟨N_, on_, nn_, rr_, bb_⟩ := O8.out.frame1 (i := 4) rfl
 refine (DHear fq fd on_ HQ.out (by decide)).mono ?_
 rintro e_ w9 ⟨rb_, rfl, oo_, kk_⟩
 obtain ⟨o_, k_⟩ := bb_ _ _ _ kk_ oo_
 refine ⟨_, rfl, ?_⟩
 have O9 : Aside0 (Own N w9 [cells g #[.int .i64 fe, .pointer (some ⟨gs2, 0, none⟩), .pointer (some ⟨gr2, 0, none⟩), .int .i64 Wn, .int .i64 Rm, .bool true] 84, DRcv gr room RAll, DSnd gs W 1125899906842624 All Ak, cells gf #[.int .i64 fe, .int .i64 fq, .int .i64 fa, .string fd] 40, DRcv gr2 room2 (hearD room2 [] fq fd), DSnd gs2 W2 1125899906842624 [] (ackD [] 0 fa)]) := ⟨o_⟩
 have K9 := Aside0.mk (K8.out.trans k_)
 clear a0a a0b a0c a0d a0e a0f b0 a3a a3b a3c a3d b3 O8 K8
 obtain ⟨a0a, a0b, a0c, a0d, a0e, a0f, b0⟩ := blk6_ (O9.out.blk (i := 0) rfl)
 obtain ⟨a3a, a3b, a3c, a3d, b3⟩ := blk4_ (O9.out.blk (i := 3) rfl)
 clear o_ k_ oo_ kk_ on_ nn_ rr_ bb_
 clear hHeld
 refine hK_.out _ _ ⟨a0a, a0b, a0c, a0d, a0e, a0f, a3a, a3b, a3c, a3d⟩ (fun hHeld => ?_)
 clear hK_ K_
 refine nP ?_
 refine done_ (by kernel_rfl) ?_
 clear hHeld
 go_wp2
 go_ret
 exact ⟨rfl, DLnk.shut (gs := gs2) (gr := gr2) (O9.out.pickL [0, 4, 5] (by decide) (by simp)), K9.out⟩
end Go.Proofs.YtjmoncfgoaaekaaDoor.J
