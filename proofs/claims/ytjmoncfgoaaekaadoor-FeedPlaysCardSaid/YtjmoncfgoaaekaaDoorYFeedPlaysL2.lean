/- What a Link does: begin, New, as turns of a resource: a plain walk through their text. -/
import Derived.Test.YtjmoncfgoaaekaaDoorYFeedPlaysS0
import Derived.Test.YtjmoncfgoaaekaaDoorProg
namespace Go.Proofs.YtjmoncfgoaaekaaDoor.J
set_option linter.unusedSimpArgs false
set_option linter.unusedVariables false
open Go Go.RowKit Go.Proofs.YtjmoncfgoaaekaaDoorW.PrintWords Go.Proofs.YtjmoncfgoaaekaaDoorW.PrintLast Go.Proofs.YtjmoncfgoaaekaaDoorW.PrintMore Go.Proofs.YtjmoncfgoaaekaaDoor.Sep
attribute [local go_sem] max2_int min2_int max_two min_two max_three min_three max_four min_four
theorem infoP : (Tryd.prog.info? 102).map (fun i => (i.zero, i.size, i.bytes)) = some (some (Value.agg #[.int .i64 0, .string ⟨#[]⟩]), 2, 24) := by kernel_rfl
theorem cut3 {P : Program} (t e : TypeId) {i : TypeInfo} (ht : P.underlying t = some (.slice e)) (hi : P.info? e = some i) (A : Option Addr) (n c : Nat) (hc : n ≤ c) : ∀ W : World, (Instr.slice t (.slice A n c) none (some (.int .i64 (n : Int))) (some (.int .i64 (n : Int)))).run P W = .ok (.slice A n n) W := by
 intro W
 have hel : P.elem t = e := by simp [Program.elem, ht]
 have hu : P.underlying t = some (.slice (P.elem t)) := by rw [hel]; exact ht
 have ha : (A.map fun x => x.add 0) = A := by cases A <;> simp [Addr.add]
 rw [run_slice_hm W t A n c hu .i64 .i64 n n (by omega) (by omega) (by omega), hel]
 simp [sizeOf, typeInfo, hi, sliced, Result.andThen, ha]
set_option maxHeartbeats 16000000 in
set_option maxRecDepth 100000 in
theorem SNew {N : Nat → Prop} {w : World} (a0 a1 W La : Int) (hW : mn (mx a0 1) 16 = W) (hL : mn (mx a1 0) 1125899906842624 = La) (h : Own N w []) :
  Calls Tryd.prog 56 #[.int .i64 a0, .int .i64 a1] w fun e_ w' => ∃ g, e_ = .returned (.pointer (some ⟨g, 0, none⟩)) ∧ Own N w' [SendO g W La 0 []] ∧ KeepS N w w' := by
 have O0 : Aside0 (Own N w []) := ⟨h⟩
 have K0 : Aside0 (KeepS N w w) := ⟨KeepS.refl _ _⟩
 have w1 := hW
 have l1 := hL
 have w2 : (if 16 < if a0 < 1 then 1 else a0 then 16 else if a0 < 1 then 1 else a0) = W := by (have e_ := hW; simp only [mn, mx] at e_; (repeat' split at e_) <;> (repeat' split) <;> omega)
 have l2 : (if 1125899906842624 < if a1 < 0 then 0 else a1 then 1125899906842624 else if a1 < 0 then 0 else a1) = La := by (have e_ := hL; simp only [mn, mx] at e_; (repeat' split at e_) <;> (repeat' split) <;> omega)
 go_enter Tryd.func56, Tryd.ntmps56
 go_wp2_with (first | ((with_reducible refine gate_dst (N := 12) rfl ?_); refine bP 12 #[.int .i64 W, .int .i64 La, .int .i64 0, .slice none 0 0] 136 O0.out ?_; intro g w1 o_ k_; have O1 : Aside0 (Own N w1 [cells g #[.int .i64 W, .int .i64 La, .int .i64 0, .slice none 0 0] 136]) := ⟨o_⟩; have K1 := Aside0.mk (K0.out.trans k_); clear O0 K0; obtain ⟨a0a, a0b, a0c, a0d, b0⟩ := blk4_ (O1.out.blk (i := 0) rfl); clear o_ k_))
 all_goals go_ret
 all_goals exact ⟨g, rfl, (SendO.shut (i := 0) (j := 1) (O1.out.qnil kP 102) rfl rfl (by decide)).take 1, K1.out⟩
set_option maxHeartbeats 16000000 in
set_option maxRecDepth 100000 in
theorem SOffer_full {N : Nat → Prop} {w : World} {g : Nat} {W La S : Int} {xs : List Piece} (data : ByteArray) (h : Own N w [SendO g W La S xs]) (hf : (xs.length : Int) = W) :
  Calls Tryd.prog 66 #[.pointer (some ⟨g, 0, none⟩), .string data] w fun e_ w' => e_ = .returned (.tuple #[.int .i64 0, .int .i64 7]) ∧ Own N w' [SendO g W La S xs] ∧ KeepS N w w' := by
 have d1 : ((xs.length : Int) == W) = true := by simp [hf]
 have H0 := Aside0.mk h
 obtain ⟨A0, c0, h2⟩ := SendO.open_ h (i := 0) rfl
 have O0 : Aside0 (Own N w [cells g #[.int .i64 W, .int .i64 La, .int .i64 S, .slice A0 xs.length c0] 136, qrow kP 102 (.slice A0 xs.length c0) xs]) := ⟨h2⟩
 have K0 : Aside0 (KeepS N w w) := ⟨KeepS.refl _ _⟩
 obtain ⟨a0a, a0b, a0c, a0d, b0⟩ := blk4_ (O0.out.blk (i := 0) rfl)
 clear h2 h
 go_enter Tryd.func66, Tryd.ntmps66
 go_wp2
 refine sP (n := 11) (S := fun w' => w'.cell? ⟨g, 0, none⟩ = some (.int .i64 W) ∧ w'.cell? ⟨g, 1, none⟩ = some (.int .i64 La) ∧ w'.cell? ⟨g, 2, none⟩ = some (.int .i64 S) ∧ w'.cell? ⟨g, 3, none⟩ = some (.slice A0 xs.length c0)) (ds := []) ⟨a0a, a0b, a0c, a0d⟩ (fun hHeld => ?_)
 obtain ⟨w1, hw_⟩ : ∃ W, W = w.drew := ⟨_, rfl⟩
 have o_ := O0.out.drew
 have k_ : KeepS N w w.drew := KeepS.drew
 rw [← hw_] at o_ k_ hHeld ⊢
 clear hw_
 have O1 := Aside0.mk o_
 have K1 := Aside0.mk (K0.out.trans k_)
 clear a0a a0b a0c a0d b0 O0 K0
 obtain ⟨a0a, a0b, a0c, a0d, b0⟩ := blk4_ (O1.out.blk (i := 0) rfl)
 clear o_ k_
 refine pP 0 (some 8) ?_
 refine pP 1 (some 9) ?_
 refine pP 2 (some 10) ?_
 refine pP 5 (some 13) ?_
 refine pP 6 (some 14) ?_
 refine pP 7 (some 15) ?_
 refine tP 3 (some 11) hHeld ?_
 refine pP 4 (some 12) ?_
 refine tP 8 (some 16) hHeld ?_
 refine pP 9 (some 17) ?_
 refine pP 10 (some 7) ?_
 refine done_ (by kernel_rfl) ?_
 clear hHeld
 go_wp2
 go_ret2
 exact ⟨rfl, (SendO.shut (i := 0) (j := 1) O1.out rfl rfl (by decide)).take 1, K1.out⟩
set_option maxHeartbeats 16000000 in
set_option maxRecDepth 100000 in
theorem SOffer_ok {N : Nat → Prop} {w : World} {g : Nat} {W La S : Int} {xs : List Piece} (data : ByteArray) (h : Own N w [SendO g W La S xs]) (hf : (xs.length : Int) ≠ W) (ho : S ≠ La) (hs : 0 ≤ S ∧ S < 1125899906842624) (hl : xs.length ≤ 16) :
  Calls Tryd.prog 66 #[.pointer (some ⟨g, 0, none⟩), .string data] w fun e_ w' => e_ = .returned (.tuple #[.int .i64 (S + 1), .int .i64 0]) ∧ Own N w' [SendO g W La (S + 1) (xs ++ [(S + 1, data)])] ∧ KeepS N w w' := by
 have d1 : ((xs.length : Int) == W) = false := by simp [hf]
 have d2 : (S == La) = false := by simp [ho]
 have s1 : wrap64 (S + 1) = S + 1 := by unfold wrap64; omega
 have s2 : IntKind.i64.wrap (S + 1) = S + 1 := by rw [IntKind.wrap_i64]; omega
 have HL := Aside0.mk hl
 clear hf ho hs hl
 have H0 := Aside0.mk h
 obtain ⟨A0, c0, h2⟩ := SendO.open_ h (i := 0) rfl
 have O0 : Aside0 (Own N w [cells g #[.int .i64 W, .int .i64 La, .int .i64 S, .slice A0 xs.length c0] 136, qrow kP 102 (.slice A0 xs.length c0) xs]) := ⟨h2⟩
 have K0 : Aside0 (KeepS N w w) := ⟨KeepS.refl _ _⟩
 obtain ⟨a0a, a0b, a0c, a0d, b0⟩ := blk4_ (O0.out.blk (i := 0) rfl)
 clear h2 h
 go_enter Tryd.func66, Tryd.ntmps66
 go_wp2
 refine sP (n := 11) (S := fun w' => w'.cell? ⟨g, 0, none⟩ = some (.int .i64 W) ∧ w'.cell? ⟨g, 1, none⟩ = some (.int .i64 La) ∧ w'.cell? ⟨g, 2, none⟩ = some (.int .i64 S) ∧ w'.cell? ⟨g, 3, none⟩ = some (.slice A0 xs.length c0)) (ds := []) ⟨a0a, a0b, a0c, a0d⟩ (fun hHeld => ?_)
 obtain ⟨w1, hw_⟩ : ∃ W, W = w.drew := ⟨_, rfl⟩
 have o_ := O0.out.drew
 have k_ : KeepS N w w.drew := KeepS.drew
 rw [← hw_] at o_ k_ hHeld ⊢
 clear hw_
 have O1 := Aside0.mk o_
 have K1 := Aside0.mk (K0.out.trans k_)
 clear a0a a0b a0c a0d b0 O0 K0
 obtain ⟨a0a, a0b, a0c, a0d, b0⟩ := blk4_ (O1.out.blk (i := 0) rfl)
 clear o_ k_
 refine pP 0 (some 8) ?_
 refine pP 1 (some 9) ?_
 refine pP 2 (some 10) ?_
 refine pP 5 (some 13) ?_
 refine pP 6 (some 14) ?_
 refine pP 7 (some 15) ?_
 refine tP 3 (some 11) hHeld ?_
 refine pP 4 (some 12) ?_
 refine tP 8 (some 16) hHeld ?_
 refine pP 9 (some 17) ?_
 refine pP 10 (some 7) ?_
 refine done_ (by kernel_rfl) ?_
 clear hHeld
 go_wp2
 refine sP (n := 10) (S := fun w' => w'.cell? ⟨g, 0, none⟩ = some (.int .i64 W) ∧ w'.cell? ⟨g, 1, none⟩ = some (.int .i64 La) ∧ w'.cell? ⟨g, 2, none⟩ = some (.int .i64 S) ∧ w'.cell? ⟨g, 3, none⟩ = some (.slice A0 xs.length c0)) (ds := []) ⟨a0a, a0b, a0c, a0d⟩ (fun hHeld => ?_)
 obtain ⟨w2, hw_⟩ : ∃ W, W = w1.drew := ⟨_, rfl⟩
 have o_ := O1.out.drew
 have k_ : KeepS N w1 w1.drew := KeepS.drew
 rw [← hw_] at o_ k_ hHeld ⊢
 clear hw_
 have O2 := Aside0.mk o_
 have K2 := Aside0.mk (K1.out.trans k_)
 clear a0a a0b a0c a0d b0 O1 K1
 obtain ⟨a0a, a0b, a0c, a0d, b0⟩ := blk4_ (O2.out.blk (i := 0) rfl)
 clear o_ k_
 refine pP 0 (some 19) ?_
 refine pP 1 (some 20) ?_
 refine pP 2 (some 21) ?_
 refine pP 4 (some 23) ?_
 refine pP 5 (some 24) ?_
 refine pP 6 (some 25) ?_
 refine tP 3 (some 22) hHeld ?_
 refine tP 7 (some 26) hHeld ?_
 refine pP 8 (some 27) ?_
 refine pP 9 (some 18) ?_
 refine done_ (by kernel_rfl) ?_
 clear hHeld
 go_wp2_with (first | ((with_reducible refine gate_store (t := 3) (p := 34) rfl ?_); refine wP (World.setCell w2 ⟨g, 2, none⟩ (.int .i64 (S + 1))) [cells g #[.int .i64 W, .int .i64 La, .int .i64 (S + 1), .slice A0 xs.length c0] 136, qrow kP 102 (.slice A0 xs.length c0) xs] (O2.out.set (i := 0) rfl 2 (.int .i64 (S + 1))) (KeepS.setCell (O2.out.far (i := 0) rfl) (.int .i64 (S + 1))) ?_; intro w3 o_ k_; have O3 := Aside0.mk o_; have K3 := Aside0.mk (K2.out.trans k_); clear a0a a0b a0c a0d b0 O2 K2; obtain ⟨a0a, a0b, a0c, a0d, b0⟩ := blk4_ (O3.out.blk (i := 0) rfl); clear o_ k_))
 have hcut : ∀ W_ : World, (Instr.slice 99 (.slice A0 xs.length c0) none (some (.int .i64 (xs.length : Int))) (some (.int .i64 (xs.length : Int)))).run Tryd.prog W_ = .ok (.slice A0 xs.length xs.length) W_ := by obtain ⟨i0_, hi0_, _⟩ := Option.map_eq_some_iff.1 infoP; exact cut3 99 102 Tryd.underlying99 hi0_ _ _ _ (O3.out.qreads (i := 1) rfl).2.1
 refine sP (n := 19) (S := fun w' => w'.cell? ⟨g, 0, none⟩ = some (.int .i64 W) ∧ w'.cell? ⟨g, 1, none⟩ = some (.int .i64 La) ∧ w'.cell? ⟨g, 2, none⟩ = some (.int .i64 (S + 1)) ∧ w'.cell? ⟨g, 3, none⟩ = some (.slice A0 xs.length c0)) (ds := [18]) ⟨a0a, a0b, a0c, a0d⟩ (fun hHeld => ?_)
 obtain ⟨w4, hw_⟩ : ∃ W, W = w3.drew := ⟨_, rfl⟩
 have o_ := O3.out.drew
 have k_ : KeepS N w3 w3.drew := KeepS.drew
 rw [← hw_] at o_ k_ hHeld ⊢
 clear hw_
 have O4 := Aside0.mk o_
 have K4 := Aside0.mk (K3.out.trans k_)
 clear a0a a0b a0c a0d b0 O3 K3
 obtain ⟨a0a, a0b, a0c, a0d, b0⟩ := blk4_ (O4.out.blk (i := 0) rfl)
 clear o_ k_
 refine pP 0 (some 40) ?_
 refine pP 1 (some 41) ?_
 refine pP 2 (some 42) ?_
 refine pP 3 (some 43) ?_
 refine pP 5 (some 45) ?_
 refine pP 6 (some 46) ?_
 refine pP 8 (some 48) ?_
 refine pP 9 (some 49) ?_
 refine pP 10 (some 50) ?_
 refine pP 12 (some 52) ?_
 refine tP 4 (some 44) hHeld ?_
 refine pP 7 (some 47) ?_
 refine tP 11 (some 51) hHeld ?_
 refine pP 13 (some 53) ?_
 refine oP 14 (some 54) (fun K_ hK_ => ?_)
 refine own_lit_step kP (N := N) (e := 102) (xs := [(S + 1, data)]) (inner := [.int .i64 (S + 1), .string data]) rfl rfl ?hr (repP _ (S + 1, data)) (by show 1 ≤ 9223372036854775807; decide) O4.out ?_
 (case hr => first | (go_simp; done) | (go_simp; rfl))
 intro B1 d1_ w5 o_ k_
 have O5 : Aside0 (Own N w5 [cells g #[.int .i64 W, .int .i64 La, .int .i64 (S + 1), .slice A0 xs.length c0] 136, qrow kP 102 (.slice A0 xs.length c0) xs, nrow kP 102 (.slice B1 1 d1_) [(S + 1, data)]]) := ⟨o_⟩
 have K5 := Aside0.mk (K4.out.trans k_)
 clear a0a a0b a0c a0d b0 O4 K4
 obtain ⟨a0a, a0b, a0c, a0d, b0⟩ := blk4_ (O5.out.blk (i := 0) rfl)
 clear o_ k_
 clear hHeld
 refine hK_.out _ _ ⟨a0a, a0b, a0c, a0d⟩ (fun hHeld => ?_)
 clear hK_ K_
 refine nP ?_
 refine oP 15 (some 55) (fun K_ hK_ => ?_)
 refine Own.append3r_step looseP O5.out (i := 1) rfl (O5.out.nreads (i := 2) rfl).2.2 rfl (by rfl) (.tmp 47) (.tmp 54) 99 (.agg #[.int .i64 0, .string ⟨#[]⟩]) 24 rfl Tryd.underlying99 infoP rfl (by decide) (by decide) rfl rfl (by have := HL.out; omega) ?_
 intro A1 c1 w6 o_ k_
 have O6 : Aside0 (Own N w6 [cells g #[.int .i64 W, .int .i64 La, .int .i64 (S + 1), .slice A0 xs.length c0] 136, row kP 102 (.slice A1 (xs.length + 1) c1) (xs ++ [(S + 1, data)]), nrow kP 102 (.slice B1 1 d1_) [(S + 1, data)]]) := ⟨o_⟩
 have K6 := Aside0.mk (K5.out.trans k_)
 clear a0a a0b a0c a0d b0 O5 K5
 obtain ⟨a0a, a0b, a0c, a0d, b0⟩ := blk4_ (O6.out.blk (i := 0) rfl)
 clear o_ k_
 clear hHeld
 refine hK_.out _ _ ⟨a0a, a0b, a0c, a0d⟩ (fun hHeld => ?_)
 clear hK_ K_
 refine nP ?_
 refine pP 16 (some 56) ?_
 refine pP 17 (some 57) ?_
 refine lP 18 none (fun K_ hK_ => ?_)
 refine xP (World.setCell w6 ⟨g, 3, none⟩ (.slice A1 (xs.length + 1) c1)) [cells g #[.int .i64 W, .int .i64 La, .int .i64 (S + 1), .slice A1 (xs.length + 1) c1] 136, row kP 102 (.slice A1 (xs.length + 1) c1) (xs ++ [(S + 1, data)]), nrow kP 102 (.slice B1 1 d1_) [(S + 1, data)]] (O6.out.set (i := 0) rfl 3 (.slice A1 (xs.length + 1) c1)) (KeepS.setCell (O6.out.far (i := 0) rfl) (.slice A1 (xs.length + 1) c1)) ?_
 intro w7 o_ k_
 have O7 := Aside0.mk o_
 have K7 := Aside0.mk (K6.out.trans k_)
 clear a0a a0b a0c a0d b0 O6 K6
 obtain ⟨a0a, a0b, a0c, a0d, b0⟩ := blk4_ (O7.out.blk (i := 0) rfl)
 clear o_ k_
 refine hK_.out _ _ ?_
 clear hK_ K_
 refine done_ (by kernel_rfl) ?_
 clear hHeld
 go_wp2
 go_ret2
 have o9 := O7.out.row_qrow (i := 1) rfl
 have o8 := (SendO.shut (i := 0) (j := 1) o9 rfl rfl (by decide)).take 1
 exact ⟨rfl, o8, K7.out⟩
end Go.Proofs.YtjmoncfgoaaekaaDoor.J
namespace Go.Proofs.YtjmoncfgoaaekaaDoor.J
set_option linter.unusedSimpArgs false
set_option linter.unusedVariables false
open Go Go.RowKit Go.Proofs.YtjmoncfgoaaekaaDoorW.PrintWords Go.Proofs.YtjmoncfgoaaekaaDoorW.PrintLast Go.Proofs.YtjmoncfgoaaekaaDoorW.PrintMore Go.Proofs.YtjmoncfgoaaekaaDoor.Sep
theorem zeroP (w : World) : (zeroValue 102).run Tryd.prog w = .ok (Value.agg #[.int .i64 0, .string ⟨#[]⟩]) w := by kernel_rfl
theorem own_clear {α : Type} {d : Kd α} {e : Nat} {N : Nat → Prop} {W : World} {l : List HP} {i : Nat} {A : Option Addr} {n c : Nat} {xs : List α} {P : Program} {ops : Array Oper} {rest : List Oper} {o : Oper} {a : Act} {Q : Exit → Act → World → Prop} (hgd : o.guard = none) (hN : o.dst = none) (s : Operand) (t : TypeId) (ho : o.op = .call { callee := .builtin .clear, args := #[s], argTypes := #[t] }) (c' : Nat) (k : Nat) (hs : a.eval s = .slice A k c')
  (h : Own N W l) (hi : l[i]? = some (qrow d e (.slice A n c) xs)) (z : Value) (ht : P.underlying t = some (.slice e)) (hv : ∀ w, (zeroValue e).run P w = .ok z w) (h1 : ∀ u ∈ z.cells.toList, u.oneCell' = true) (hz : z.cells.size = d.sz) (hk : k ≤ xs.length)
  (hc : ∀ w1, Own N w1 (l.set i (qrow d e (.slice (if c = k then A else A.map (·.add (k * d.sz))) (n - k) (c - k)) (xs.drop k))) → KeepS N W w1 → wpList P ops Q rest a w1) : wpList P ops Q (o :: rest) a W := by
 obtain ⟨w1, hr, h2, h3⟩ := h.qclear (P := P) hi t o.type z ht hv h1 hz c' hk
 refine wpList_plain hgd fun K hK => ?_
 unfold Oper.wp execOp
 simp only [ho, resolve, invoke, builtin, Sem.run_bind, Sem.run_pure, Result.andThen_ok, List.map_toArray, List.map_cons, List.map_nil, hs, hr]
 have hh : K (a.put o.dst (.tuple #[])) w1 := hK _ _ (by rw [hN]; exact hc w1 h2 h3)
 exact hh
def lead (n : Int) (xs : List Piece) : Nat := (xs.takeWhile fun p => decide (p.1 ≤ n)).length
def pz : Piece := (0, ⟨#[]⟩)
def pAt (xs : List Piece) (x : Int) : Piece := xs.getD x.toNat pz
theorem lead_eq {n : Int} : ∀ {xs : List Piece} {m : Nat}, m ≤ xs.length → (∀ j, j < m → (xs.getD j pz).1 ≤ n) → (m = xs.length ∨ n < (xs.getD m pz).1) → lead n xs = m
  | [], m, hm, _, _ => by have : m = 0 := by simpa using hm
                          subst this; rfl
  | x :: xs, 0, _, _, hz => by
    rcases hz with hz | hz
    · simp at hz
    · have : ¬ x.1 ≤ n := by have h2 : n < x.1 := hz; omega
      simp [lead, this]
  | x :: xs, m + 1, hm, ha, hz => by
    have h0 : x.1 ≤ n := ha 0 (by omega)
    have ih := lead_eq (n := n) (xs := xs) (m := m) (by simpa using hm) (fun j hj => ha (j + 1) (by omega)) (by
      rcases hz with hz | hz
      · left; simpa using hz
      · right; exact hz)
    simp only [lead, List.takeWhile_cons, h0, decide_true, if_true, List.length_cons]
    exact congrArg (· + 1) ih
theorem at_P {w : World} {A : Option Addr} {n : Nat} {xs : List Piece} (h : kP.C w A n xs) (x : Int) (h0 : 0 ≤ x) (h1 : x < n) : ∃ ad, A = some ad ∧ w.cell? (ad.add (x.toNat * 2)) = some (.int .i64 (pAt xs x).1) := by
 obtain ⟨ad, c, e, hl, hk, hc⟩ := ReadsRow.get_ h pz x h0 h1
 have := kP_open hk
 subst this
 exact ⟨ad, e, by have q := hc 0 _ rfl; exact q⟩
def AkI (w0 : World) (n : Int) (xs : List Piece) (i : Value) (wr : World) : Prop := ∃ x : Int, 0 ≤ x ∧ x ≤ (xs.length : Int) ∧ i = .int .i64 x ∧ Aside0 (∀ j : Nat, (j : Int) < x → (xs.getD j pz).1 ≤ n) ∧ w0 = wr
set_option maxHeartbeats 16000000 in
set_option maxRecDepth 100000 in
theorem SAck_far {N : Nat → Prop} {w : World} {g : Nat} {W La S : Int} {xs : List Piece} (n : Int) (h : Own N w [SendO g W La S xs]) (hn : n > S) :
  Calls Tryd.prog 40 #[.pointer (some ⟨g, 0, none⟩), .int .i64 n] w fun e_ w' => e_ = .returned (.int .i64 0) ∧ Own N w' [SendO g W La S xs] ∧ KeepS N w w' := by
 have d1 : decide (n > S) = true := decide_eq_true hn
 have d2 : decide (S < n) = true := decide_eq_true hn
 obtain ⟨A0, c0, h2⟩ := SendO.open_ h (i := 0) rfl
 have O0 : Aside0 (Own N w [cells g #[.int .i64 W, .int .i64 La, .int .i64 S, .slice A0 xs.length c0] 136, qrow kP 102 (.slice A0 xs.length c0) xs]) := ⟨h2⟩
 have K0 : Aside0 (KeepS N w w) := ⟨KeepS.refl _ _⟩
 obtain ⟨a0a, a0b, a0c, a0d, b0⟩ := blk4_ (O0.out.blk (i := 0) rfl)
 clear h2 h
 go_enter Tryd.func40, Tryd.ntmps40
 go_wp2
 go_ret
 exact ⟨rfl, (SendO.shut (i := 0) (j := 1) O0.out rfl rfl (by decide)).take 1, K0.out⟩
set_option maxHeartbeats 16000000 in
set_option maxRecDepth 100000 in
theorem SAck_in {N : Nat → Prop} {w : World} {g : Nat} {W La S : Int} {xs : List Piece} (n : Int) (h : Own N w [SendO g W La S xs]) (hn : n ≤ S) (hl : xs.length ≤ 1000000) :
  Calls Tryd.prog 40 #[.pointer (some ⟨g, 0, none⟩), .int .i64 n] w fun e_ w' => e_ = .returned (.int .i64 (lead n xs : Nat)) ∧ Own N w' [SendO g W La S (xs.drop (lead n xs))] ∧ KeepS N w w' := by
 have d1 : decide (n > S) = false := decide_eq_false (by omega)
 have d2 : decide (S < n) = false := decide_eq_false (by omega)
 have HL := Aside0.mk hl
 clear hn hl
 obtain ⟨A0, c0, h2⟩ := SendO.open_ h (i := 0) rfl
 have O0 : Aside0 (Own N w [cells g #[.int .i64 W, .int .i64 La, .int .i64 S, .slice A0 xs.length c0] 136, qrow kP 102 (.slice A0 xs.length c0) xs]) := ⟨h2⟩
 have K0 : Aside0 (KeepS N w w) := ⟨KeepS.refl _ _⟩
 obtain ⟨a0a, a0b, a0c, a0d, b0⟩ := blk4_ (O0.out.blk (i := 0) rfl)
 clear h2 h
 have HC := Aside0.mk (O0.out.qreads (i := 1) rfl)
 go_enter Tryd.func40, Tryd.ntmps40
 go_wp2
 go_loopw [5] (fun i wr => AkI w n xs i wr) (fun i _ => xs.length - (intOf i).toNat)
 case atStart => exact ⟨0, by omega, by omega, rfl, ⟨fun j hj => by omega⟩, rfl⟩
 case round =>
  obtain ⟨x, hx0, hx1, rfl, HI, rfl⟩ := hrel
  have hll := HL.out
  have ex : ∀ (hz : x = (xs.length : Int) ∨ n < (pAt xs x).1), lead n xs = x.toNat := fun hz => lead_eq (by omega) (fun j hj => HI.out j (by omega)) (by rcases hz with hz | hz; left; omega; right; exact hz)
  obtain ⟨i0_, hi0_, hi1_⟩ := Option.map_eq_some_iff.1 infoP
  simp only [Prod.mk.injEq] at hi1_
  have hct := cut_to 99 102 .i64 Tryd.underlying99 hi0_ A0 xs.length c0 x hx0 hx1 HC.out.2.1
  have hcf := cut_from 99 102 .i64 Tryd.underlying99 hi0_ 2 hi1_.2.1 A0 xs.length c0 x hx0 hx1
  clear hi0_ hi1_
  by_cases hlt : x < (xs.length : Int)
  ·obtain ⟨ad, rfl, x0⟩ := at_P HC.out.2.2 x hx0 hlt
   have hp := eq_true hx0
   have hq := eq_true hlt
   have hd : decide (x < (xs.length : Int)) = true := decide_eq_true hlt
   have hs2 : wrap64 (x + 1) = x + 1 := by unfold wrap64; omega
   by_cases hle : (pAt xs x).1 ≤ n
   ·have hd2 : decide ((pAt xs x).1 ≤ n) = true := decide_eq_true hle
    go_wp2
    go_roundw
    case rel => exact ⟨x + 1, by omega, by omega, rfl, ⟨fun j hj => if hjx : (j : Int) < x then HI.out j hjx else by rw [show j = x.toNat by omega]; exact hle⟩, rfl⟩
    case measure => simp [intOf]; omega
   ·have hd2 : decide ((pAt xs x).1 ≤ n) = false := decide_eq_false hle
    have hE := ex (.inr (by omega))
    have HXX := Aside0.mk (And.intro hx0 hx1)
    have HE2 : Aside0 (((lead n xs : Nat) : Int) = x) := ⟨by rw [hE]; exact Int.toNat_of_nonneg hx0⟩
    have HE := Aside0.mk hE
    obtain ⟨B, hB⟩ : ∃ B, B = (if c0 = x.toNat then (some ad) else (some ad).map (·.add (x.toNat * 2))) := ⟨_, rfl⟩
    rw [← hB] at hcf
    have HB := Aside0.mk hB
    clear ex hE hB
    go_wp2_with (first | ((with_reducible refine gate_builtin (b := .clear) (xs := #[.tmp 38]) rfl ?_); refine own_clear rfl rfl (.tmp 38) 99 rfl c0 x.toNat rfl O0.out (i := 1) rfl (Value.agg #[.int .i64 0, .string ⟨#[]⟩]) Tryd.underlying99 zeroP (by simp [Value.cells, Value.oneCell']) rfl (by have := HXX.out; omega) ?_; intro w1 o9_ k_; have o_ : Own N w1 [cells g #[.int .i64 W, .int .i64 La, .int .i64 S, .slice (some ad) xs.length c0] 136, qrow kP 102 (.slice B (xs.length - x.toNat) (c0 - x.toNat)) (xs.drop x.toNat)] := (by rw [HB.out]; exact o9_); clear o9_; have O1 : Aside0 (Own N w1 [cells g #[.int .i64 W, .int .i64 La, .int .i64 S, .slice (some ad) xs.length c0] 136, qrow kP 102 (.slice B (xs.length - x.toNat) (c0 - x.toNat)) (xs.drop x.toNat)]) := ⟨o_⟩; have K1 := Aside0.mk (K0.out.trans k_); clear a0a a0b a0c a0d b0 O0 K0; obtain ⟨a0a, a0b, a0c, a0d, b0⟩ := blk4_ (O1.out.blk (i := 0) rfl); clear o_ k_) | ((with_reducible refine gate_store (t := 99) (p := 47) rfl ?_); refine wP (World.setCell w1 ⟨g, 3, none⟩ (.slice B (xs.length - x.toNat) (c0 - x.toNat))) [cells g #[.int .i64 W, .int .i64 La, .int .i64 S, .slice B (xs.length - x.toNat) (c0 - x.toNat)] 136, qrow kP 102 (.slice B (xs.length - x.toNat) (c0 - x.toNat)) (xs.drop x.toNat)] (O1.out.set (i := 0) rfl 3 (.slice B (xs.length - x.toNat) (c0 - x.toNat))) (KeepS.setCell (O1.out.far (i := 0) rfl) (.slice B (xs.length - x.toNat) (c0 - x.toNat))) ?_; intro w2 o_ k_; have O2 := Aside0.mk o_; have K2 := Aside0.mk (K1.out.trans k_); clear a0a a0b a0c a0d b0 O1 K1; obtain ⟨a0a, a0b, a0c, a0d, b0⟩ := blk4_ (O2.out.blk (i := 0) rfl); clear o_ k_))
    go_ret
    have ho := (SendO.shut (i := 0) (j := 1) O2.out rfl rfl (by decide)).take 1
    exact ⟨congrArg (fun q => Ending.returned (.int .i64 q)) HE2.out.symm, by rw [HE.out]; exact ho, K2.out⟩
  ·have hd : decide (x < (xs.length : Int)) = false := decide_eq_false hlt
   have hE := ex (.inl (by omega))
   have HXX := Aside0.mk (And.intro hx0 hx1)
   have HE2 : Aside0 (((lead n xs : Nat) : Int) = x) := ⟨by rw [hE]; exact Int.toNat_of_nonneg hx0⟩
   have HE := Aside0.mk hE
   obtain ⟨B, hB⟩ : ∃ B, B = (if c0 = x.toNat then A0 else A0.map (·.add (x.toNat * 2))) := ⟨_, rfl⟩
   rw [← hB] at hcf
   have HB := Aside0.mk hB
   clear ex hE hB
   go_wp2_with (first | ((with_reducible refine gate_builtin (b := .clear) (xs := #[.tmp 38]) rfl ?_); refine own_clear rfl rfl (.tmp 38) 99 rfl c0 x.toNat rfl O0.out (i := 1) rfl (Value.agg #[.int .i64 0, .string ⟨#[]⟩]) Tryd.underlying99 zeroP (by simp [Value.cells, Value.oneCell']) rfl (by have := HXX.out; omega) ?_; intro w1 o9_ k_; have o_ : Own N w1 [cells g #[.int .i64 W, .int .i64 La, .int .i64 S, .slice A0 xs.length c0] 136, qrow kP 102 (.slice B (xs.length - x.toNat) (c0 - x.toNat)) (xs.drop x.toNat)] := (by rw [HB.out]; exact o9_); clear o9_; have O1 : Aside0 (Own N w1 [cells g #[.int .i64 W, .int .i64 La, .int .i64 S, .slice A0 xs.length c0] 136, qrow kP 102 (.slice B (xs.length - x.toNat) (c0 - x.toNat)) (xs.drop x.toNat)]) := ⟨o_⟩; have K1 := Aside0.mk (K0.out.trans k_); clear a0a a0b a0c a0d b0 O0 K0; obtain ⟨a0a, a0b, a0c, a0d, b0⟩ := blk4_ (O1.out.blk (i := 0) rfl); clear o_ k_) | ((with_reducible refine gate_store (t := 99) (p := 47) rfl ?_); refine wP (World.setCell w1 ⟨g, 3, none⟩ (.slice B (xs.length - x.toNat) (c0 - x.toNat))) [cells g #[.int .i64 W, .int .i64 La, .int .i64 S, .slice B (xs.length - x.toNat) (c0 - x.toNat)] 136, qrow kP 102 (.slice B (xs.length - x.toNat) (c0 - x.toNat)) (xs.drop x.toNat)] (O1.out.set (i := 0) rfl 3 (.slice B (xs.length - x.toNat) (c0 - x.toNat))) (KeepS.setCell (O1.out.far (i := 0) rfl) (.slice B (xs.length - x.toNat) (c0 - x.toNat))) ?_; intro w2 o_ k_; have O2 := Aside0.mk o_; have K2 := Aside0.mk (K1.out.trans k_); clear a0a a0b a0c a0d b0 O1 K1; obtain ⟨a0a, a0b, a0c, a0d, b0⟩ := blk4_ (O2.out.blk (i := 0) rfl); clear o_ k_))
   go_ret
   have ho := (SendO.shut (i := 0) (j := 1) O2.out rfl rfl (by decide)).take 1
   exact ⟨congrArg (fun q => Ending.returned (.int .i64 q)) HE2.out.symm, by rw [HE.out]; exact ho, K2.out⟩
set_option maxHeartbeats 16000000 in
set_option maxRecDepth 100000 in
theorem SPieces {N : Nat → Prop} {w : World} {g : Nat} {W La S : Int} {xs : List Piece} (h : Own N w [SendO g W La S xs]) (hl : xs.length ≤ 1000000) :
  Calls Tryd.prog 49 #[.pointer (some ⟨g, 0, none⟩)] w fun e_ w' => ∃ A1 c1, e_ = .returned (.slice A1 xs.length c1) ∧ Own N w' [SendO g W La S xs, nrow kP 102 (.slice A1 xs.length c1) xs] ∧ KeepS N w w' := by
 have HL := Aside0.mk hl
 clear hl
 obtain ⟨A0, c0, h2⟩ := SendO.open_ h (i := 0) rfl
 have O0 : Aside0 (Own N w [cells g #[.int .i64 W, .int .i64 La, .int .i64 S, .slice A0 xs.length c0] 136, qrow kP 102 (.slice A0 xs.length c0) xs]) := ⟨h2⟩
 have K0 : Aside0 (KeepS N w w) := ⟨KeepS.refl _ _⟩
 obtain ⟨a0a, a0b, a0c, a0d, b0⟩ := blk4_ (O0.out.blk (i := 0) rfl)
 clear h2 h
 go_enter Tryd.func49, Tryd.ntmps49
 go_wp2_with (first | ((with_reducible refine gate_dst (N := 3) rfl ?_); refine own_lit kP (N := N) (e := 102) (xs := []) (inner := []) rfl (D := 3) rfl ?hr (Reps.none _ _) (by simp) O0.out ?_; (case hr => first | (go_simp; done) | (go_simp; rfl)); intro B1 d1 w1 o_ k_; have O1 : Aside0 (Own N w1 [cells g #[.int .i64 W, .int .i64 La, .int .i64 S, .slice A0 xs.length c0] 136, qrow kP 102 (.slice A0 xs.length c0) xs, nrow kP 102 (.slice B1 0 d1) []]) := ⟨o_⟩; have K1 := Aside0.mk (K0.out.trans k_); clear a0a a0b a0c a0d b0 O0 K0; obtain ⟨a0a, a0b, a0c, a0d, b0⟩ := blk4_ (O1.out.blk (i := 0) rfl); clear o_ k_) | ((with_reducible refine gate_builtin (b := .append) (xs := #[.tmp 3, .tmp 7]) rfl ?_); at_builtin; refine Own.append_flat kP flatP O1.out (i := 2) (ys := xs) rfl ((O1.out.qreads (i := 1) rfl).2.2) rfl (.tmp 3) (.tmp 7) 99 (.agg #[.int .i64 0, .string ⟨#[]⟩]) 24 rfl Tryd.underlying99 infoP rfl (by decide) (by decide) rfl rfl (by have := HL.out; simp only [List.length_nil]; omega) ?_; intro B2 d2 w2 o_ k_; have O2 : Aside0 (Own N w2 [cells g #[.int .i64 W, .int .i64 La, .int .i64 S, .slice A0 xs.length c0] 136, qrow kP 102 (.slice A0 xs.length c0) xs, nrow kP 102 (.slice B2 (xs).length d2) (xs)]) := ⟨o_⟩; have K2 := Aside0.mk (K1.out.trans k_); clear a0a a0b a0c a0d b0 O1 K1; obtain ⟨a0a, a0b, a0c, a0d, b0⟩ := blk4_ (O2.out.blk (i := 0) rfl); clear o_ k_))
 go_ret
 exact ⟨B2, d2, rfl, ((SendO.shut (i := 0) (j := 1) O2.out rfl rfl (by decide)).pickL [0, 2] (by decide) (by simp)), K2.out⟩
end Go.Proofs.YtjmoncfgoaaekaaDoor.J
namespace Go.Proofs.YtjmoncfgoaaekaaDoor.J
set_option linter.unusedSimpArgs false
set_option linter.unusedVariables false
open Go Go.RowKit Go.Proofs.YtjmoncfgoaaekaaDoorW.PrintWords Go.Proofs.YtjmoncfgoaaekaaDoorW.PrintLast Go.Proofs.YtjmoncfgoaaekaaDoorW.PrintMore Go.Proofs.YtjmoncfgoaaekaaDoor.Sep
def recvC (room acked fr n : Int) (ring : Nat → ByteArray) : Array Value := (Value.int .i64 room :: Value.int .i64 acked :: (((List.range 16).map fun k => Value.string (ring k)) ++ [Value.int .i64 fr, Value.int .i64 n])).toArray
theorem recvC_0 (room acked fr n : Int) (ring : Nat → ByteArray) : (recvC room acked fr n ring)[0]? = some (.int .i64 room) := rfl
theorem recvC_1 (room acked fr n : Int) (ring : Nat → ByteArray) : (recvC room acked fr n ring)[1]? = some (.int .i64 acked) := rfl
theorem recvC_18 (room acked fr n : Int) (ring : Nat → ByteArray) : (recvC room acked fr n ring)[18]? = some (.int .i64 fr) := rfl
theorem recvC_19 (room acked fr n : Int) (ring : Nat → ByteArray) : (recvC room acked fr n ring)[19]? = some (.int .i64 n) := rfl
theorem recvC_size (room acked fr n : Int) (ring : Nat → ByteArray) : (recvC room acked fr n ring).size = 20 := rfl
theorem recvC_set0 (room room' acked fr n : Int) (ring : Nat → ByteArray) : (recvC room acked fr n ring).setIfInBounds 0 (.int .i64 room') = recvC room' acked fr n ring := rfl
theorem blkR_ {w : World} {g : Nat} {t : TypeId} {room acked n : Int} {ring : Nat → ByteArray} (h : w.heap[g]? = some (.cells (recvC room acked 0 n ring) t (0, 0))) : w.cell? ⟨g, 0, none⟩ = some (.int .i64 room) ∧ w.cell? ⟨g, 1, none⟩ = some (.int .i64 acked) ∧ w.cell? ⟨g, 18, none⟩ = some (.int .i64 0) ∧ w.cell? ⟨g, 19, none⟩ = some (.int .i64 n) ∧ ∀ i, w.frozen? ⟨g, i, none⟩ = false :=
 ⟨(blk_cell h _).trans (recvC_0 _ _ _ _ _), (blk_cell h _).trans (recvC_1 _ _ _ _ _), (blk_cell h _).trans (recvC_18 _ _ _ _ _), (blk_cell h _).trans (recvC_19 _ _ _ _ _), fun i => blk_frozen h i⟩
theorem ix16 {m : Nat} (h : m < 16) : m = 0 ∨ m = 1 ∨ m = 2 ∨ m = 3 ∨ m = 4 ∨ m = 5 ∨ m = 6 ∨ m = 7 ∨ m = 8 ∨ m = 9 ∨ m = 10 ∨ m = 11 ∨ m = 12 ∨ m = 13 ∨ m = 14 ∨ m = 15 := by omega
theorem recvC_ring (room acked fr n : Int) (ring : Nat → ByteArray) {m : Nat} (h : m < 16) : (recvC room acked fr n ring)[2 + m]? = some (.string (ring m)) := by
 rcases ix16 h with rfl | rfl | rfl | rfl | rfl | rfl | rfl | rfl | rfl | rfl | rfl | rfl | rfl | rfl | rfl | rfl <;> rfl
theorem recvC_put (room acked fr n : Int) (ring : Nat → ByteArray) {m : Nat} (h : m < 16) (s : ByteArray) : (recvC room acked fr n ring).setIfInBounds (2 + m) (.string s) = recvC room acked fr n (fun k => if k = m then s else ring k) := by
 rcases ix16 h with rfl | rfl | rfl | rfl | rfl | rfl | rfl | rfl | rfl | rfl | rfl | rfl | rfl | rfl | rfl | rfl <;> rfl
theorem recvC_ne (room acked fr n : Int) (ring : Nat → ByteArray) : (recvC room acked fr n ring = #[]) = False := by
 refine eq_false (fun h => ?_)
 have := recvC_size room acked fr n ring
 rw [h] at this
 exact absurd this (by decide)
theorem zeroRecv (w : World) : Sem.run Tryd.prog (zeroValue 139) w = .ok (.agg (recvC 0 0 0 0 (fun _ => ⟨#[]⟩))) w := by kernel_rfl
def RecvO (g : Nat) (room acked n : Int) : HP := ex fun ring : Nat → ByteArray => cells g (recvC room acked 0 n ring) 139
section
variable {N : Nat → Prop} {w : World} {l : List HP} {i g : Nat} {room acked n : Int}
theorem RecvO.open_ (h : Own N w l) (hi : l[i]? = some (RecvO g room acked n)) : ∃ ring, Own N w (l.set i (cells g (recvC room acked 0 n ring) 139)) := h.of_ex hi
theorem RecvO.shut {ring : Nat → ByteArray} (h : Own N w l) (hi : l[i]? = some (cells g (recvC room acked 0 n ring) 139)) : Own N w (l.set i (RecvO g room acked n)) := h.to_ex (f := fun ring : Nat → ByteArray => cells g (recvC room acked 0 n ring) 139) ring hi
end
end Go.Proofs.YtjmoncfgoaaekaaDoor.J
namespace Go.Proofs.YtjmoncfgoaaekaaDoor.J
set_option linter.unusedSimpArgs false
set_option linter.unusedVariables false
open Go Go.RowKit Go.Proofs.YtjmoncfgoaaekaaDoorW.PrintWords Go.Proofs.YtjmoncfgoaaekaaDoorW.PrintLast Go.Proofs.YtjmoncfgoaaekaaDoorW.PrintMore Go.Proofs.YtjmoncfgoaaekaaDoor.Sep
attribute [local go_sem] max2_int min2_int max_two min_two max_three min_three max_four min_four
attribute [local go_sem] zeroRecv recvC_ne recvC_set0
set_option maxHeartbeats 16000000 in
set_option maxRecDepth 100000 in
theorem RecvNew {N : Nat → Prop} {w : World} (a0 W : Int) (hW : mn (mx a0 1) 16 = W) (h : Own N w []) :
  Calls Tryd.prog 57 #[.int .i64 a0] w fun e_ w' => ∃ g, e_ = .returned (.pointer (some ⟨g, 0, none⟩)) ∧ Own N w' [RecvO g W 0 0] ∧ KeepS N w w' := by
 have O0 : Aside0 (Own N w []) := ⟨h⟩
 have K0 : Aside0 (KeepS N w w) := ⟨KeepS.refl _ _⟩
 have w1_ := hW
 have w2_ : (if 16 < if a0 < 1 then 1 else a0 then 16 else if a0 < 1 then 1 else a0) = W := by (have e_ := hW; simp only [mn, mx] at e_; (repeat' split at e_) <;> (repeat' split) <;> omega)
 go_enter Tryd.func57, Tryd.ntmps57
 go_wp2_with (first | ((with_reducible refine gate_dst (N := 7) rfl ?_); refine own_box rfl (D := 7) rfl (cs := recvC W 0 0 0 (fun _ => ⟨#[]⟩)) (t := 139) ?hr O0.out ?_; (case hr => first | (go_simp; done) | (go_simp; rfl)); intro g w1 o_ k_; have O1 := Aside0.mk o_; have K1 := Aside0.mk k_; clear o_ k_))
 all_goals go_ret
 all_goals exact ⟨g, rfl, RecvO.shut (i := 0) O1.out rfl, K1.out⟩
set_option maxHeartbeats 16000000 in
set_option maxRecDepth 100000 in
theorem RecvAck {N : Nat → Prop} {w : World} {g : Nat} {room acked n : Int} (h : Own N w [RecvO g room acked n]) :
  Calls Tryd.prog 48 #[.pointer (some ⟨g, 0, none⟩)] w fun e_ w' => e_ = .returned (.int .i64 acked) ∧ Own N w' [RecvO g room acked n] ∧ KeepS N w w' := by
 obtain ⟨ring, h2⟩ := RecvO.open_ h (i := 0) rfl
 have O0 : Aside0 (Own N w [cells g (recvC room acked 0 n (ring)) 139]) := ⟨h2⟩
 have K0 : Aside0 (KeepS N w w) := ⟨KeepS.refl _ _⟩
 obtain ⟨r0a, r0b, r0c, r0d, r0f⟩ := blkR_ (O0.out.blk (i := 0) rfl)
 clear h2 h
 go_enter Tryd.func48, Tryd.ntmps48
 go_wp2
 go_ret
 exact ⟨rfl, RecvO.shut (i := 0) O0.out rfl, K0.out⟩
set_option maxHeartbeats 16000000 in
set_option maxRecDepth 100000 in
theorem RecvPlace {N : Nat → Prop} {w : World} {g : Nat} {room acked n : Int} {ring : Nat → ByteArray} (i : Int) (hi : 0 ≤ i ∧ i < 16) (h : Own N w [cells g (recvC room acked 0 n ring) 139]) :
  Calls Tryd.prog 67 #[.pointer (some ⟨g, 0, none⟩), .int .i64 i] w fun e_ w' => e_ = .returned (.int .i64 i) ∧ Own N w' [cells g (recvC room acked 0 n ring) 139] ∧ KeepS N w w' := by
 have m1 : wrap64 (0 + i) = i := by unfold wrap64; omega
 have m2 : wrap64 i = i := by unfold wrap64; omega
 have m3 : IntKind.i64.wrap (0 + i) = i := by rw [IntKind.wrap_i64]; omega
 have m4 : i.tmod 16 = i := Int.tmod_eq_of_lt hi.1 hi.2
 have m5 : IntKind.i64.wrap i = i := by rw [IntKind.wrap_i64]; omega
 clear hi
 have H0 := Aside0.mk h
 have O0 : Aside0 (Own N w [cells g (recvC room acked 0 n ring) 139]) := ⟨h⟩
 have K0 : Aside0 (KeepS N w w) := ⟨KeepS.refl _ _⟩
 obtain ⟨r0a, r0b, r0c, r0d, r0f⟩ := blkR_ (O0.out.blk (i := 0) rfl)
 clear h
 go_enter Tryd.func67, Tryd.ntmps67
 go_wp2
 go_ret
 exact ⟨rfl, O0.out, K0.out⟩
end Go.Proofs.YtjmoncfgoaaekaaDoor.J
namespace Go.Proofs.YtjmoncfgoaaekaaDoor.J
set_option linter.unusedSimpArgs false
set_option linter.unusedVariables false
open Go Go.RowKit Go.Proofs.YtjmoncfgoaaekaaDoorW.PrintWords Go.Proofs.YtjmoncfgoaaekaaDoorW.PrintLast Go.Proofs.YtjmoncfgoaaekaaDoorW.PrintMore Go.Proofs.YtjmoncfgoaaekaaDoor.Sep
set_option maxHeartbeats 16000000 in
set_option maxRecDepth 100000 in
theorem RecvHear_full {N : Nat → Prop} {w : World} {g : Nat} {room acked n : Int} (seq : Int) (data : ByteArray) (h : Own N w [RecvO g room acked n]) (hf : n = room) :
  Calls Tryd.prog 41 #[.pointer (some ⟨g, 0, none⟩), .int .i64 seq, .string data] w fun e_ w' => e_ = .returned (.bool false) ∧ Own N w' [RecvO g room acked n] ∧ KeepS N w w' := by
 have d1 : (n == room) = true := by simp [hf]
 obtain ⟨ring, h2⟩ := RecvO.open_ h (i := 0) rfl
 have O0 : Aside0 (Own N w [cells g (recvC room acked 0 n (ring)) 139]) := ⟨h2⟩
 have K0 : Aside0 (KeepS N w w) := ⟨KeepS.refl _ _⟩
 obtain ⟨r0a, r0b, r0c, r0d, r0f⟩ := blkR_ (O0.out.blk (i := 0) rfl)
 clear h2 h
 go_enter Tryd.func41, Tryd.ntmps41
 go_wp2
 refine sP (n := 18) (S := fun w' => w'.cell? ⟨g, 0, none⟩ = some (.int .i64 room) ∧ w'.cell? ⟨g, 1, none⟩ = some (.int .i64 acked) ∧ w'.cell? ⟨g, 19, none⟩ = some (.int .i64 n)) (ds := []) ⟨((blk_cell (O0.out.blk (i := 0) rfl) _).trans (recvC_0 _ _ _ _ _)), ((blk_cell (O0.out.blk (i := 0) rfl) _).trans (recvC_1 _ _ _ _ _)), ((blk_cell (O0.out.blk (i := 0) rfl) _).trans (recvC_19 _ _ _ _ _))⟩ (fun hHeld => ?_)
 obtain ⟨w1, hw_⟩ : ∃ W, W = w.drew := ⟨_, rfl⟩
 have o_ := O0.out.drew
 have k_ : KeepS N w w.drew := KeepS.drew
 rw [← hw_] at o_ k_ hHeld ⊢
 clear hw_
 have O1 := Aside0.mk o_
 have K1 := Aside0.mk (K0.out.trans k_)
 clear r0a r0b r0c r0d r0f O0 K0
 obtain ⟨r0a, r0b, r0c, r0d, r0f⟩ := blkR_ (O1.out.blk (i := 0) rfl)
 clear o_ k_
 refine pP 0 (some 7) ?_
 refine pP 1 (some 8) ?_
 refine pP 2 (some 9) ?_
 refine pP 4 (some 11) ?_
 refine pP 5 (some 12) ?_
 refine pP 6 (some 13) ?_
 refine tP 3 (some 10) hHeld ?_
 refine tP 7 (some 14) hHeld ?_
 refine pP 8 (some 15) ?_
 refine pP 9 (some 16) ?_
 refine pS 10 (some 17) ?_
 refine pS 11 (some 18) ?_
 refine pS 12 (some 19) ?_
 refine pS 13 (some 20) ?_
 refine tS 14 (some 21) hHeld ?_
 refine pS 15 (some 22) ?_
 refine pS 16 (some 23) ?_
 refine pP 17 (some 24) ?_
 refine done_ (by kernel_rfl) ?_
 clear hHeld
 go_wp2
 go_ret
 exact ⟨rfl, RecvO.shut (i := 0) O1.out rfl, K1.out⟩
set_option maxHeartbeats 16000000 in
set_option maxRecDepth 100000 in
theorem RecvHear_far {N : Nat → Prop} {w : World} {g : Nat} {room acked n : Int} (seq : Int) (data : ByteArray) (h : Own N w [RecvO g room acked n]) (hf : n ≠ room) (hs : seq ≠ acked + 1) (ha : 0 ≤ acked ∧ acked < 1125899906842624) :
  Calls Tryd.prog 41 #[.pointer (some ⟨g, 0, none⟩), .int .i64 seq, .string data] w fun e_ w' => e_ = .returned (.bool false) ∧ Own N w' [RecvO g room acked n] ∧ KeepS N w w' := by
 have d1 : (n == room) = false := by simp [hf]
 have d2 : (seq != acked + 1) = true := by simp [hs]
 have s1 : wrap64 (acked + 1) = acked + 1 := by unfold wrap64; omega
 have s2 : IntKind.i64.wrap (acked + 1) = acked + 1 := by rw [IntKind.wrap_i64]; omega
 clear hf hs ha
 obtain ⟨ring, h2⟩ := RecvO.open_ h (i := 0) rfl
 have O0 : Aside0 (Own N w [cells g (recvC room acked 0 n (ring)) 139]) := ⟨h2⟩
 have K0 : Aside0 (KeepS N w w) := ⟨KeepS.refl _ _⟩
 obtain ⟨r0a, r0b, r0c, r0d, r0f⟩ := blkR_ (O0.out.blk (i := 0) rfl)
 clear h2 h
 go_enter Tryd.func41, Tryd.ntmps41
 go_wp2
 refine sP (n := 18) (S := fun w' => w'.cell? ⟨g, 0, none⟩ = some (.int .i64 room) ∧ w'.cell? ⟨g, 1, none⟩ = some (.int .i64 acked) ∧ w'.cell? ⟨g, 19, none⟩ = some (.int .i64 n)) (ds := []) ⟨((blk_cell (O0.out.blk (i := 0) rfl) _).trans (recvC_0 _ _ _ _ _)), ((blk_cell (O0.out.blk (i := 0) rfl) _).trans (recvC_1 _ _ _ _ _)), ((blk_cell (O0.out.blk (i := 0) rfl) _).trans (recvC_19 _ _ _ _ _))⟩ (fun hHeld => ?_)
 obtain ⟨w1, hw_⟩ : ∃ W, W = w.drew := ⟨_, rfl⟩
 have o_ := O0.out.drew
 have k_ : KeepS N w w.drew := KeepS.drew
 rw [← hw_] at o_ k_ hHeld ⊢
 clear hw_
 have O1 := Aside0.mk o_
 have K1 := Aside0.mk (K0.out.trans k_)
 clear r0a r0b r0c r0d r0f O0 K0
 obtain ⟨r0a, r0b, r0c, r0d, r0f⟩ := blkR_ (O1.out.blk (i := 0) rfl)
 clear o_ k_
 refine pP 0 (some 7) ?_
 refine pP 1 (some 8) ?_
 refine pP 2 (some 9) ?_
 refine pP 4 (some 11) ?_
 refine pP 5 (some 12) ?_
 refine pP 6 (some 13) ?_
 refine tP 3 (some 10) hHeld ?_
 refine tP 7 (some 14) hHeld ?_
 refine pP 8 (some 15) ?_
 refine pP 9 (some 16) ?_
 refine pP 10 (some 17) ?_
 refine pP 11 (some 18) ?_
 refine pP 12 (some 19) ?_
 refine pP 13 (some 20) ?_
 refine tP 14 (some 21) hHeld ?_
 refine pP 15 (some 22) ?_
 refine pP 16 (some 23) ?_
 refine pP 17 (some 24) ?_
 refine done_ (by kernel_rfl) ?_
 clear hHeld
 go_wp2
 go_ret
 exact ⟨rfl, RecvO.shut (i := 0) O1.out rfl, K1.out⟩
set_option maxHeartbeats 16000000 in
set_option maxRecDepth 100000 in
theorem RecvHear_ok {N : Nat → Prop} {w : World} {g : Nat} {room acked n : Int} (seq : Int) (data : ByteArray) (h : Own N w [RecvO g room acked n]) (hf : n ≠ room) (hs : seq = acked + 1) (ha : 0 ≤ acked ∧ acked < 1125899906842624) (hn : 0 ≤ n ∧ n < 16) :
  Calls Tryd.prog 41 #[.pointer (some ⟨g, 0, none⟩), .int .i64 seq, .string data] w fun e_ w' => e_ = .returned (.bool true) ∧ Own N w' [RecvO g room (acked + 1) (n + 1)] ∧ KeepS N w w' := by
 have d1 : (n == room) = false := by simp [hf]
 subst hs
 have d2 : ((acked + 1) != (acked + 1)) = false := by simp
 have s1 : wrap64 (acked + 1) = acked + 1 := by unfold wrap64; omega
 have s2 : IntKind.i64.wrap (acked + 1) = acked + 1 := by rw [IntKind.wrap_i64]; omega
 have t1 : wrap64 (n + 1) = n + 1 := by unfold wrap64; omega
 have t2 : IntKind.i64.wrap (n + 1) = n + 1 := by rw [IntKind.wrap_i64]; omega
 have p1 : (0 ≤ n) = True := eq_true hn.1
 have p2 : (n < 16) = True := eq_true hn.2
 have HM : n.toNat < 16 := by omega
 have HN := Aside0.mk hn
 clear hf ha hn
 obtain ⟨ring, h2⟩ := RecvO.open_ h (i := 0) rfl
 have O0 : Aside0 (Own N w [cells g (recvC room acked 0 n (ring)) 139]) := ⟨h2⟩
 have K0 : Aside0 (KeepS N w w) := ⟨KeepS.refl _ _⟩
 obtain ⟨r0a, r0b, r0c, r0d, r0f⟩ := blkR_ (O0.out.blk (i := 0) rfl)
 have r0r : w.cell? ⟨g, 2 + (n.toNat), none⟩ = some (.string ((ring) (n.toNat))) := (blk_cell (O0.out.blk (i := 0) rfl) _).trans (recvC_ring _ _ _ _ _ HM)
 clear h2 h
 go_enter Tryd.func41, Tryd.ntmps41
 go_wp2
 refine sP (n := 18) (S := fun w' => w'.cell? ⟨g, 0, none⟩ = some (.int .i64 room) ∧ w'.cell? ⟨g, 1, none⟩ = some (.int .i64 acked) ∧ w'.cell? ⟨g, 19, none⟩ = some (.int .i64 n)) (ds := []) ⟨((blk_cell (O0.out.blk (i := 0) rfl) _).trans (recvC_0 _ _ _ _ _)), ((blk_cell (O0.out.blk (i := 0) rfl) _).trans (recvC_1 _ _ _ _ _)), ((blk_cell (O0.out.blk (i := 0) rfl) _).trans (recvC_19 _ _ _ _ _))⟩ (fun hHeld => ?_)
 obtain ⟨w1, hw_⟩ : ∃ W, W = w.drew := ⟨_, rfl⟩
 have o_ := O0.out.drew
 have k_ : KeepS N w w.drew := KeepS.drew
 rw [← hw_] at o_ k_ hHeld ⊢
 clear hw_
 have O1 := Aside0.mk o_
 have K1 := Aside0.mk (K0.out.trans k_)
 clear r0a r0b r0c r0d r0f r0r O0 K0
 obtain ⟨r0a, r0b, r0c, r0d, r0f⟩ := blkR_ (O1.out.blk (i := 0) rfl)
 have r0r : w1.cell? ⟨g, 2 + (n.toNat), none⟩ = some (.string ((ring) (n.toNat))) := (blk_cell (O1.out.blk (i := 0) rfl) _).trans (recvC_ring _ _ _ _ _ HM)
 clear o_ k_
 refine pP 0 (some 7) ?_
 refine pP 1 (some 8) ?_
 refine pP 2 (some 9) ?_
 refine pP 4 (some 11) ?_
 refine pP 5 (some 12) ?_
 refine pP 6 (some 13) ?_
 refine tP 3 (some 10) hHeld ?_
 refine tP 7 (some 14) hHeld ?_
 refine pP 8 (some 15) ?_
 refine pP 9 (some 16) ?_
 refine pP 10 (some 17) ?_
 refine pP 11 (some 18) ?_
 refine pP 12 (some 19) ?_
 refine pP 13 (some 20) ?_
 refine tP 14 (some 21) hHeld ?_
 refine pP 15 (some 22) ?_
 refine pP 16 (some 23) ?_
 refine pP 17 (some 24) ?_
 refine done_ (by kernel_rfl) ?_
 clear hHeld
 go_wp2
 refine sP (n := 12) (S := fun w' => w'.cell? ⟨g, 0, none⟩ = some (.int .i64 room) ∧ w'.cell? ⟨g, 1, none⟩ = some (.int .i64 acked) ∧ w'.cell? ⟨g, 19, none⟩ = some (.int .i64 n)) (ds := [11]) ⟨((blk_cell (O1.out.blk (i := 0) rfl) _).trans (recvC_0 _ _ _ _ _)), ((blk_cell (O1.out.blk (i := 0) rfl) _).trans (recvC_1 _ _ _ _ _)), ((blk_cell (O1.out.blk (i := 0) rfl) _).trans (recvC_19 _ _ _ _ _))⟩ (fun hHeld => ?_)
 obtain ⟨w2, hw_⟩ : ∃ W, W = w1.drew := ⟨_, rfl⟩
 have o_ := O1.out.drew
 have k_ : KeepS N w1 w1.drew := KeepS.drew
 rw [← hw_] at o_ k_ hHeld ⊢
 clear hw_
 have O2 := Aside0.mk o_
 have K2 := Aside0.mk (K1.out.trans k_)
 clear r0a r0b r0c r0d r0f r0r O1 K1
 obtain ⟨r0a, r0b, r0c, r0d, r0f⟩ := blkR_ (O2.out.blk (i := 0) rfl)
 have r0r : w2.cell? ⟨g, 2 + (n.toNat), none⟩ = some (.string ((ring) (n.toNat))) := (blk_cell (O2.out.blk (i := 0) rfl) _).trans (recvC_ring _ _ _ _ _ HM)
 clear o_ k_
 refine pP 0 (some 25) ?_
 refine pP 1 (some 26) ?_
 refine pP 2 (some 27) ?_
 refine pP 3 (some 28) ?_
 refine pP 4 (some 29) ?_
 refine pP 7 (some 32) ?_
 refine pP 8 (some 33) ?_
 refine pP 9 (some 34) ?_
 refine tP 5 (some 30) hHeld ?_
 refine oP 6 (some 31) (fun K_ hK_ => ?_)
 refine hP Tryd.func67 #[.pointer (some ⟨g, 0, none⟩), .int .i64 n] ?_
 obtain ⟨N_, on_, nn_, rr_, bb_⟩ := O2.out.frame1 (i := 0) rfl
 refine (RecvPlace n HN.out on_).mono ?_
 rintro e_ w3 ⟨rfl, oo_, kk_⟩
 obtain ⟨o_, k_⟩ := bb_ _ _ _ kk_ oo_
 refine ⟨_, rfl, ?_⟩
 have O3 : Aside0 (Own N w3 [cells g (recvC room acked 0 n (ring)) 139]) := ⟨o_⟩
 have K3 := Aside0.mk (K2.out.trans k_)
 clear r0a r0b r0c r0d r0f r0r O2 K2
 obtain ⟨r0a, r0b, r0c, r0d, r0f⟩ := blkR_ (O3.out.blk (i := 0) rfl)
 have r0r : w3.cell? ⟨g, 2 + (n.toNat), none⟩ = some (.string ((ring) (n.toNat))) := (blk_cell (O3.out.blk (i := 0) rfl) _).trans (recvC_ring _ _ _ _ _ HM)
 clear o_ k_ oo_ kk_ on_ nn_ rr_ bb_
 clear hHeld
 refine hK_.out _ _ ⟨((blk_cell (O3.out.blk (i := 0) rfl) _).trans (recvC_0 _ _ _ _ _)), ((blk_cell (O3.out.blk (i := 0) rfl) _).trans (recvC_1 _ _ _ _ _)), ((blk_cell (O3.out.blk (i := 0) rfl) _).trans (recvC_19 _ _ _ _ _))⟩ (fun hHeld => ?_)
 clear hK_ K_
 refine nP ?_
 refine pP 10 (some 35) ?_
 refine lP 11 none (fun K_ hK_ => ?_)
 refine own_store_step rfl rfl (w1 := World.setCell w3 ⟨g, 2 + n.toNat, none⟩ (.string data)) (N := N) (l' := [cells g (recvC room acked 0 n (fun k => if k = n.toNat then data else ring k)) 139]) ?hr ?ho ?hk ?_
 (case hr => first | (go_simp; done) | (go_simp; rfl))
 (case ho => have q_ := O3.out.set (i := 0) rfl (2 + n.toNat) (.string data); rw [recvC_put _ _ _ _ _ HM] at q_; exact q_)
 (case hk => exact KeepS.setCell (O3.out.far (i := 0) rfl) (.string data))
 intro w4 o_ k_
 have O4 : Aside0 (Own N w4 [cells g (recvC room acked 0 n (fun k => if k = n.toNat then data else ring k)) 139]) := ⟨o_⟩
 have K4 := Aside0.mk (K3.out.trans k_)
 clear r0a r0b r0c r0d r0f r0r O3 K3
 obtain ⟨r0a, r0b, r0c, r0d, r0f⟩ := blkR_ (O4.out.blk (i := 0) rfl)
 have r0r : w4.cell? ⟨g, 2 + (n.toNat), none⟩ = some (.string ((fun k => if k = n.toNat then data else ring k) (n.toNat))) := (blk_cell (O4.out.blk (i := 0) rfl) _).trans (recvC_ring _ _ _ _ _ HM)
 clear o_ k_
 refine hK_.out _ _ ?_
 clear hK_ K_
 refine done_ (by kernel_rfl) ?_
 clear hHeld
 go_wp2_with (first | ((with_reducible refine gate_store (t := 3) (p := 42) rfl ?_); refine own_store rfl rfl rfl (w1 := World.setCell w4 ⟨g, 1, none⟩ (.int .i64 (acked + 1))) (N := N) (l' := [cells g (recvC room (acked + 1) 0 n (fun k => if k = n.toNat then data else ring k)) 139]) ?hr (O4.out.set (i := 0) rfl 1 (.int .i64 (acked + 1))) (KeepS.setCell (O4.out.far (i := 0) rfl) (.int .i64 (acked + 1))) ?_; (case hr => first | (go_simp; done) | (go_simp; rfl)); intro w5 o_ k_; have O5 : Aside0 (Own N w5 [cells g (recvC room (acked + 1) 0 n (fun k => if k = n.toNat then data else ring k)) 139]) := ⟨o_⟩; have K5 := Aside0.mk (K4.out.trans k_); clear r0a r0b r0c r0d r0f r0r O4 K4; obtain ⟨r0a, r0b, r0c, r0d, r0f⟩ := blkR_ (O5.out.blk (i := 0) rfl); have r0r : w5.cell? ⟨g, 2 + (n.toNat), none⟩ = some (.string ((fun k => if k = n.toNat then data else ring k) (n.toNat))) := (blk_cell (O5.out.blk (i := 0) rfl) _).trans (recvC_ring _ _ _ _ _ HM); clear o_ k_) | ((with_reducible refine gate_store (t := 3) (p := 49) rfl ?_); refine own_store rfl rfl rfl (w1 := World.setCell w5 ⟨g, 19, none⟩ (.int .i64 (n + 1))) (N := N) (l' := [cells g (recvC room (acked + 1) 0 (n + 1) (fun k => if k = n.toNat then data else ring k)) 139]) ?hr (O5.out.set (i := 0) rfl 19 (.int .i64 (n + 1))) (KeepS.setCell (O5.out.far (i := 0) rfl) (.int .i64 (n + 1))) ?_; (case hr => first | (go_simp; done) | (go_simp; rfl)); intro w6 o_ k_; have O6 : Aside0 (Own N w6 [cells g (recvC room (acked + 1) 0 (n + 1) (fun k => if k = n.toNat then data else ring k)) 139]) := ⟨o_⟩; have K6 := Aside0.mk (K5.out.trans k_); clear r0a r0b r0c r0d r0f r0r O5 K5; obtain ⟨r0a, r0b, r0c, r0d, r0f⟩ := blkR_ (O6.out.blk (i := 0) rfl); have r0r : w6.cell? ⟨g, 2 + (n.toNat), none⟩ = some (.string ((fun k => if k = n.toNat then data else ring k) (n.toNat))) := (blk_cell (O6.out.blk (i := 0) rfl) _).trans (recvC_ring _ _ _ _ _ HM); clear o_ k_))
 go_ret
 exact ⟨rfl, RecvO.shut (i := 0) O6.out rfl, K6.out⟩
end Go.Proofs.YtjmoncfgoaaekaaDoor.J
namespace Go.Proofs.YtjmoncfgoaaekaaDoor.J
set_option linter.unusedSimpArgs false
set_option linter.unusedVariables false
open Go Go.RowKit Go.Proofs.YtjmoncfgoaaekaaDoorW.PrintWords Go.Proofs.YtjmoncfgoaaekaaDoorW.PrintLast Go.Proofs.YtjmoncfgoaaekaaDoorW.PrintMore Go.Proofs.YtjmoncfgoaaekaaDoor.Sep
def linkC (gs gr : Nat) (E Wn Rm : Int) (Pv : Bool) : Array Value := #[.pointer (some ⟨gs, 0, none⟩), .pointer (some ⟨gr, 0, none⟩), .int .i64 E, .int .i64 Wn, .int .i64 Rm, .bool Pv]
def LinkO (g : Nat) (E Wn Rm : Int) (Pv : Bool) (W La S : Int) (xs : List Piece) (room acked n : Int) : HP :=
 ex fun gs : Nat => ex fun gr : Nat => star (star (cells g (linkC gs gr E Wn Rm Pv) 75) (SendO gs W La S xs)) (RecvO gr room acked n)
section
variable {N : Nat → Prop} {w : World} {g : Nat} {E Wn Rm : Int} {Pv : Bool} {W La S : Int} {xs : List Piece} {room acked n : Int}
theorem LinkO.open_ (h : Own N w [LinkO g E Wn Rm Pv W La S xs room acked n]) : ∃ gs gr, Own N w [cells g (linkC gs gr E Wn Rm Pv) 75, RecvO gr room acked n, SendO gs W La S xs] := by
 obtain ⟨gs, h1⟩ := h.of_ex (i := 0) rfl
 obtain ⟨gr, h2⟩ := h1.of_ex (i := 0) rfl
 have h3 := h2.split (i := 0) rfl
 have h4 := h3.split (i := 0) rfl
 exact ⟨gs, gr, h4⟩
theorem LinkO.shut {gs gr : Nat} (h : Own N w [cells g (linkC gs gr E Wn Rm Pv) 75, RecvO gr room acked n, SendO gs W La S xs]) : Own N w [LinkO g E Wn Rm Pv W La S xs room acked n] := by
 have h1 := h.join (i := 0) (j := 2) rfl rfl (by decide)
 have h2 := h1.join (i := 0) (j := 1) rfl rfl (by decide)
 have h3 := h2.to_ex (f := fun gr : Nat => star (star (cells g (linkC gs gr E Wn Rm Pv) 75) (SendO gs W La S xs)) (RecvO gr room acked n)) gr (i := 0) rfl
 have h4 := h3.to_ex (f := fun gs : Nat => ex fun gr : Nat => star (star (cells g (linkC gs gr E Wn Rm Pv) 75) (SendO gs W La S xs)) (RecvO gr room acked n)) gs (i := 0) rfl
 exact h4.take 1
end
end Go.Proofs.YtjmoncfgoaaekaaDoor.J
namespace Go.Proofs.YtjmoncfgoaaekaaDoor.J
set_option linter.unusedSimpArgs false
set_option linter.unusedVariables false
open Go Go.RowKit Go.Proofs.YtjmoncfgoaaekaaDoorW.PrintWords Go.Proofs.YtjmoncfgoaaekaaDoorW.PrintLast Go.Proofs.YtjmoncfgoaaekaaDoorW.PrintMore Go.Proofs.YtjmoncfgoaaekaaDoor.Sep
set_option maxHeartbeats 16000000 in
set_option maxRecDepth 100000 in
theorem LOffer_full {N : Nat → Prop} {w : World} {g : Nat} {E Wn Rm : Int} {Pv : Bool} {W La S : Int} {xs : List Piece} {room acked n : Int} (data : ByteArray) (h : Own N w [LinkO g E Wn Rm Pv W La S xs room acked n]) (hf : (xs.length : Int) = W) :
  Calls Tryd.prog 38 #[.pointer (some ⟨g, 0, none⟩), .string data] w fun e_ w' => e_ = .returned (.int .i64 7) ∧ Own N w' [LinkO g E Wn Rm Pv W La S xs room acked n] ∧ KeepS N w w' := by
 have H_hf := Aside0.mk hf
 clear hf
 obtain ⟨gs, gr, h2⟩ := LinkO.open_ h
 have O0 : Aside0 (Own N w [cells g #[.pointer (some ⟨gs, 0, none⟩), .pointer (some ⟨gr, 0, none⟩), .int .i64 E, .int .i64 Wn, .int .i64 Rm, .bool Pv] 75, RecvO gr room acked n, SendO gs W La S xs]) := ⟨h2⟩
 have K0 : Aside0 (KeepS N w w) := ⟨KeepS.refl _ _⟩
 obtain ⟨a0a, a0b, a0c, a0d, a0e, a0f, b0⟩ := blk6_ (O0.out.blk (i := 0) rfl)
 clear h2 h
 go_enter Tryd.func38, Tryd.ntmps38
 go_wp2_with (first | ((with_reducible refine gate_callee (f := 66) rfl ?_); refine gP (some 14) Tryd.func66 #[.pointer (some ⟨gs, 0, none⟩), .string data] ?_; obtain ⟨N_, on_, nn_, rr_, bb_⟩ := O0.out.frame1 (i := 2) rfl; refine (SOffer_full data on_ H_hf.out).mono ?_; rintro e_ w1 ⟨rfl, oo_, kk_⟩; obtain ⟨o_, k_⟩ := bb_ _ _ _ kk_ oo_; refine ⟨_, rfl, ?_⟩; have O1 : Aside0 (Own N w1 [cells g #[.pointer (some ⟨gs, 0, none⟩), .pointer (some ⟨gr, 0, none⟩), .int .i64 E, .int .i64 Wn, .int .i64 Rm, .bool Pv] 75, RecvO gr room acked n, SendO gs W La S xs]) := ⟨o_⟩; have K1 := Aside0.mk (K0.out.trans k_); clear a0a a0b a0c a0d a0e a0f b0 O0 K0; obtain ⟨a0a, a0b, a0c, a0d, a0e, a0f, b0⟩ := blk6_ (O1.out.blk (i := 0) rfl); clear o_ k_ oo_ kk_ on_ nn_ rr_ bb_))
 go_ret
 exact ⟨rfl, LinkO.shut O1.out, K1.out⟩
set_option maxHeartbeats 16000000 in
set_option maxRecDepth 100000 in
theorem LOffer_ok {N : Nat → Prop} {w : World} {g : Nat} {E Wn Rm : Int} {Pv : Bool} {W La S : Int} {xs : List Piece} {room acked n : Int} (data : ByteArray) (h : Own N w [LinkO g E Wn Rm Pv W La S xs room acked n]) (hf : (xs.length : Int) ≠ W) (ho : S ≠ La) (hs : 0 ≤ S ∧ S < 1125899906842624) (hl : xs.length ≤ 16) :
  Calls Tryd.prog 38 #[.pointer (some ⟨g, 0, none⟩), .string data] w fun e_ w' => e_ = .returned (.int .i64 0) ∧ Own N w' [LinkO g E Wn Rm Pv W La (S + 1) (xs ++ [(S + 1, data)]) room acked n] ∧ KeepS N w w' := by
 have H_hf := Aside0.mk hf
 have H_ho := Aside0.mk ho
 have H_hs := Aside0.mk hs
 have H_hl := Aside0.mk hl
 clear hf ho hs hl
 obtain ⟨gs, gr, h2⟩ := LinkO.open_ h
 have O0 : Aside0 (Own N w [cells g #[.pointer (some ⟨gs, 0, none⟩), .pointer (some ⟨gr, 0, none⟩), .int .i64 E, .int .i64 Wn, .int .i64 Rm, .bool Pv] 75, RecvO gr room acked n, SendO gs W La S xs]) := ⟨h2⟩
 have K0 : Aside0 (KeepS N w w) := ⟨KeepS.refl _ _⟩
 obtain ⟨a0a, a0b, a0c, a0d, a0e, a0f, b0⟩ := blk6_ (O0.out.blk (i := 0) rfl)
 clear h2 h
 go_enter Tryd.func38, Tryd.ntmps38
 go_wp2_with (first | ((with_reducible refine gate_callee (f := 66) rfl ?_); refine gP (some 14) Tryd.func66 #[.pointer (some ⟨gs, 0, none⟩), .string data] ?_; obtain ⟨N_, on_, nn_, rr_, bb_⟩ := O0.out.frame1 (i := 2) rfl; refine (SOffer_ok data on_ H_hf.out H_ho.out H_hs.out H_hl.out).mono ?_; rintro e_ w1 ⟨rfl, oo_, kk_⟩; obtain ⟨o_, k_⟩ := bb_ _ _ _ kk_ oo_; refine ⟨_, rfl, ?_⟩; have O1 : Aside0 (Own N w1 [cells g #[.pointer (some ⟨gs, 0, none⟩), .pointer (some ⟨gr, 0, none⟩), .int .i64 E, .int .i64 Wn, .int .i64 Rm, .bool Pv] 75, RecvO gr room acked n, SendO gs W La (S + 1) (xs ++ [(S + 1, data)])]) := ⟨o_⟩; have K1 := Aside0.mk (K0.out.trans k_); clear a0a a0b a0c a0d a0e a0f b0 O0 K0; obtain ⟨a0a, a0b, a0c, a0d, a0e, a0f, b0⟩ := blk6_ (O1.out.blk (i := 0) rfl); clear o_ k_ oo_ kk_ on_ nn_ rr_ bb_))
 go_ret
 exact ⟨rfl, LinkO.shut O1.out, K1.out⟩
end Go.Proofs.YtjmoncfgoaaekaaDoor.J
namespace Go.Proofs.YtjmoncfgoaaekaaDoor.J
set_option linter.unusedSimpArgs false
set_option linter.unusedVariables false
open Go Go.RowKit Go.Proofs.YtjmoncfgoaaekaaDoorW.PrintWords Go.Proofs.YtjmoncfgoaaekaaDoorW.PrintLast Go.Proofs.YtjmoncfgoaaekaaDoorW.PrintMore Go.Proofs.YtjmoncfgoaaekaaDoor.Sep
attribute [local go_sem] max2_int min2_int max_two min_two max_three min_three max_four min_four
set_option maxHeartbeats 16000000 in
set_option maxRecDepth 100000 in
theorem LBegin {N : Nat → Prop} {w : World} {g : Nat} {E0 Wn Rm : Int} {Pv : Bool} {p0 p1 : Value} (e E W room : Int) (hE : mn (mx e 0) 1099511627776 = E) (hW : mn (mx Wn 1) 16 = W) (hR : mn (mx Rm 1) 16 = room) (h : Own N w [cells g #[p0, p1, .int .i64 E0, .int .i64 Wn, .int .i64 Rm, .bool Pv] 75]) :
  Calls Tryd.prog 30 #[.pointer (some ⟨g, 0, none⟩), .int .i64 e] w fun e_ w' => e_ = .returned (.tuple #[]) ∧ Own N w' [LinkO g E Wn Rm Pv W 1125899906842624 0 [] room 0 0] ∧ KeepS N w w' := by
 have w1_ := hE
 have w2_ : (if 1099511627776 < if e < 0 then 0 else e then 1099511627776 else if e < 0 then 0 else e) = E := by (have e_ := hE; simp only [mn, mx] at e_; (repeat' split at e_) <;> (repeat' split) <;> omega)
 have HW := Aside0.mk hW
 have HR := Aside0.mk hR
 have HL : Aside0 (mn (mx 1125899906842624 0) 1125899906842624 = 1125899906842624) := ⟨by decide⟩
 clear hW hR
 have O0 : Aside0 (Own N w [cells g #[p0, p1, .int .i64 E0, .int .i64 Wn, .int .i64 Rm, .bool Pv] 75]) := ⟨h⟩
 have K0 : Aside0 (KeepS N w w) := ⟨KeepS.refl _ _⟩
 obtain ⟨a0a, a0b, a0c, a0d, a0e, a0f, b0⟩ := blk6_ (O0.out.blk (i := 0) rfl)
 clear h
 go_enter Tryd.func30, Tryd.ntmps30
 go_wp2_with (first | ((with_reducible refine gate_store (t := 3) (p := 9) rfl ?_); refine wP (World.setCell w ⟨g, 2, none⟩ (.int .i64 E)) [cells g #[p0, p1, .int .i64 E, .int .i64 Wn, .int .i64 Rm, .bool Pv] 75] (O0.out.set (i := 0) rfl 2 (.int .i64 E)) (KeepS.setCell (O0.out.far (i := 0) rfl) (.int .i64 E)) ?_; intro w1 o_ k_; have O1 := Aside0.mk o_; have K1 := Aside0.mk (K0.out.trans k_); clear a0a a0b a0c a0d a0e a0f b0 O0 K0; obtain ⟨a0a, a0b, a0c, a0d, a0e, a0f, b0⟩ := blk6_ (O1.out.blk (i := 0) rfl); clear o_ k_))
 all_goals
  refine sP (n := 15) (S := fun w' => w'.cell? ⟨g, 0, none⟩ = some (p0) ∧ w'.cell? ⟨g, 1, none⟩ = some (p1) ∧ w'.cell? ⟨g, 2, none⟩ = some (.int .i64 E) ∧ w'.cell? ⟨g, 3, none⟩ = some (.int .i64 Wn) ∧ w'.cell? ⟨g, 4, none⟩ = some (.int .i64 Rm) ∧ w'.cell? ⟨g, 5, none⟩ = some (.bool Pv)) (ds := [14]) ⟨a0a, a0b, a0c, a0d, a0e, a0f⟩ (fun hHeld => ?_)
  obtain ⟨w2, hw_⟩ : ∃ W, W = w1.drew := ⟨_, rfl⟩
  have o_ := O1.out.drew
  have k_ : KeepS N w1 w1.drew := KeepS.drew
  rw [← hw_] at o_ k_ hHeld ⊢
  clear hw_
  have O2 := Aside0.mk o_
  have K2 := Aside0.mk (K1.out.trans k_)
  clear a0a a0b a0c a0d a0e a0f b0 O1 K1
  obtain ⟨a0a, a0b, a0c, a0d, a0e, a0f, b0⟩ := blk6_ (O2.out.blk (i := 0) rfl)
  clear o_ k_
  refine pP 0 (some 10) ?_
  refine pP 1 (some 11) ?_
  refine pP 2 (some 12) ?_
  refine pP 3 (some 13) ?_
  refine pP 6 (some 16) ?_
  refine pP 7 (some 17) ?_
  refine pP 8 (some 18) ?_
  refine tP 4 (some 14) hHeld ?_
  refine tP 9 (some 19) hHeld ?_
  refine oP 5 (some 15) (fun K_ hK_ => ?_)
  refine hP Tryd.func56 #[.int .i64 Wn, .int .i64 1125899906842624] ?_
  obtain ⟨N_, on_, nn_, rr_, bb_⟩ := O2.out.frame0
  refine (SNew Wn 1125899906842624 W 1125899906842624 HW.out HL.out on_).mono ?_
  rintro e_ w3 ⟨gs, rfl, oo_, kk_⟩
  obtain ⟨o_, k_⟩ := bb_ _ _ kk_ oo_
  refine ⟨_, rfl, ?_⟩
  have O3 : Aside0 (Own N w3 [cells g #[p0, p1, .int .i64 E, .int .i64 Wn, .int .i64 Rm, .bool Pv] 75, SendO gs W 1125899906842624 0 []]) := ⟨o_⟩
  have K3 := Aside0.mk (K2.out.trans k_)
  clear a0a a0b a0c a0d a0e a0f b0 O2 K2
  obtain ⟨a0a, a0b, a0c, a0d, a0e, a0f, b0⟩ := blk6_ (O3.out.blk (i := 0) rfl)
  clear o_ k_ oo_ kk_ on_ nn_ rr_ bb_
  clear hHeld
  refine hK_.out _ _ ⟨a0a, a0b, a0c, a0d, a0e, a0f⟩ (fun hHeld => ?_)
  clear hK_ K_
  refine nP ?_
  refine oP 10 (some 20) (fun K_ hK_ => ?_)
  refine hP Tryd.func57 #[.int .i64 Rm] ?_
  obtain ⟨N_, on_, nn_, rr_, bb_⟩ := O3.out.frame0
  refine (RecvNew Rm room HR.out on_).mono ?_
  rintro e_ w4 ⟨gr, rfl, oo_, kk_⟩
  obtain ⟨o_, k_⟩ := bb_ _ _ kk_ oo_
  refine ⟨_, rfl, ?_⟩
  have O4 : Aside0 (Own N w4 [cells g #[p0, p1, .int .i64 E, .int .i64 Wn, .int .i64 Rm, .bool Pv] 75, SendO gs W 1125899906842624 0 [], RecvO gr room 0 0]) := ⟨o_⟩
  have K4 := Aside0.mk (K3.out.trans k_)
  clear a0a a0b a0c a0d a0e a0f b0 O3 K3
  obtain ⟨a0a, a0b, a0c, a0d, a0e, a0f, b0⟩ := blk6_ (O4.out.blk (i := 0) rfl)
  clear o_ k_ oo_ kk_ on_ nn_ rr_ bb_
  clear hHeld
  refine hK_.out _ _ ⟨a0a, a0b, a0c, a0d, a0e, a0f⟩ (fun hHeld => ?_)
  clear hK_ K_
  refine nP ?_
  refine pP 11 (some 21) ?_
  refine pP 12 (some 22) ?_
  refine pP 13 (some 23) ?_
  refine lP 14 none (fun K_ hK_ => ?_)
  refine xP (World.setCell (World.setCell w4 ⟨g, 0, none⟩ (.pointer (some ⟨gs, 0, none⟩))) ⟨g, 1, none⟩ (.pointer (some ⟨gr, 0, none⟩))) [cells g #[.pointer (some ⟨gs, 0, none⟩), .pointer (some ⟨gr, 0, none⟩), .int .i64 E, .int .i64 Wn, .int .i64 Rm, .bool Pv] 75, SendO gs W 1125899906842624 0 [], RecvO gr room 0 0] ((O4.out.set (i := 0) rfl 0 (.pointer (some ⟨gs, 0, none⟩))).set (i := 0) rfl 1 (.pointer (some ⟨gr, 0, none⟩))) ((KeepS.setCell (O4.out.far (i := 0) rfl) (.pointer (some ⟨gs, 0, none⟩))).trans (KeepS.setCell (O4.out.far (i := 0) rfl) (.pointer (some ⟨gr, 0, none⟩)))) ?_
  intro w5 o_ k_
  have O5 := Aside0.mk o_
  have K5 := Aside0.mk (K4.out.trans k_)
  clear a0a a0b a0c a0d a0e a0f b0 O4 K4
  obtain ⟨a0a, a0b, a0c, a0d, a0e, a0f, b0⟩ := blk6_ (O5.out.blk (i := 0) rfl)
  clear o_ k_
  refine hK_.out _ _ ?_
  clear hK_ K_
  refine done_ (by kernel_rfl) ?_
  clear hHeld
  first | go_end0 | (go_wp2; go_end0) | go_ret
  exact ⟨rfl, LinkO.shut (gs := gs) (gr := gr) (O5.out.pickL [0, 2, 1] (by decide) (by simp)), K5.out⟩
set_option maxHeartbeats 16000000 in
set_option maxRecDepth 100000 in
theorem LNew {N : Nat → Prop} {w : World} (a0 a1 a2 : Int) (a3 : Bool) (E W room : Int) (hE : mn (mx a0 0) 1099511627776 = E) (hW : mn (mx a1 1) 16 = W) (hR : mn (mx a2 1) 16 = room) (h : Own N w []) :
  Calls Tryd.prog 8 #[.int .i64 a0, .int .i64 a1, .int .i64 a2, .bool a3] w fun e_ w' => ∃ g, e_ = .returned (.pointer (some ⟨g, 0, none⟩)) ∧ Own N w' [LinkO g E a1 a2 a3 W 1125899906842624 0 [] room 0 0] ∧ KeepS N w w' := by
 have HE := Aside0.mk hE
 have HW := Aside0.mk hW
 have HR := Aside0.mk hR
 clear hE hW hR
 have O0 : Aside0 (Own N w []) := ⟨h⟩
 have K0 : Aside0 (KeepS N w w) := ⟨KeepS.refl _ _⟩
 clear h
 go_enter Tryd.func8, Tryd.ntmps8
 go_wp2_with (first | ((with_reducible refine gate_dst (N := 14) rfl ?_); refine bP 14 #[.pointer none, .pointer none, .int .i64 0, .int .i64 a1, .int .i64 a2, .bool a3] 75 O0.out ?_; intro g w1 o_ k_; have O1 : Aside0 (Own N w1 [cells g #[.pointer none, .pointer none, .int .i64 0, .int .i64 a1, .int .i64 a2, .bool a3] 75]) := ⟨o_⟩; have K1 := Aside0.mk (K0.out.trans k_); clear O0 K0; obtain ⟨a0a, a0b, a0c, a0d, a0e, a0f, b0⟩ := blk6_ (O1.out.blk (i := 0) rfl); clear o_ k_) | ((with_reducible refine gate_callee (f := 30) rfl ?_); refine gP (some 17) Tryd.func30 #[.pointer (some ⟨g, 0, none⟩), .int .i64 a0] ?_; obtain ⟨N_, on_, nn_, rr_, bb_⟩ := O1.out.frame1 (i := 0) rfl; refine (LBegin a0 E W room HE.out HW.out HR.out on_).mono ?_; rintro e_ w2 ⟨rfl, oo_, kk_⟩; obtain ⟨o_, k_⟩ := bb_ _ _ _ kk_ oo_; refine ⟨_, rfl, ?_⟩; have O2 : Aside0 (Own N w2 [LinkO g E a1 a2 a3 W 1125899906842624 0 [] room 0 0]) := ⟨o_⟩; have K2 := Aside0.mk (K1.out.trans k_); clear a0a a0b a0c a0d a0e a0f b0 O1 K1; clear o_ k_ oo_ kk_ on_ nn_ rr_ bb_))
 go_ret
 exact ⟨g, rfl, O2.out, K2.out⟩
end Go.Proofs.YtjmoncfgoaaekaaDoor.J
