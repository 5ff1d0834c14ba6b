/- What a Sender does: Ack and Pieces, as turns of a resource: a plain walk through their text. -/
import Derived.Test.YtjmoncfgoaaekaaDoorYFeedApartS1
namespace Go.Proofs.YtjmoncfgoaaekaaDoor.J
set_option linter.unusedSimpArgs false
set_option linter.unusedVariables false
open Go Go.RowKit Go.Proofs.YtjmoncfgoaaekaaDoorW.PrintWords Go.Proofs.YtjmoncfgoaaekaaDoorW.PrintLast Go.Proofs.YtjmoncfgoaaekaaDoorW.PrintMore Go.Proofs.YtjmoncfgoaaekaaDoor.Sep
theorem zeroP (w : World) : (zeroValue 102).run Tryd.prog w = .ok (Value.agg #[.int .i64 0, .string ⟨#[]⟩]) w := by kernel_rfl
theorem own_clear {α : Type} {d : Kd α} {e : Nat} {N : Nat → Prop} {W : World} {l : List HP} {i : Nat} {A : Option Addr} {n c : Nat} {xs : List α} {P : Program} {ops : Array Oper} {rest : List Oper} {o : Oper} {a : Act} {Q : Exit → Act → World → Prop} (hgd : o.guard = none) (hN : o.dst = none) (s : Operand) (t : TypeId) (ho : o.op = .call { callee := .builtin .clear, args := #[s], argTypes := #[t] }) (c' : Nat) (k : Nat) (hs : a.eval s = .slice A k c')
  (h : Own N W l) (hi : l[i]? = some (qrow d e (.slice A n c) xs)) (z : Value) (ht : P.underlying t = some (.slice e)) (hv : ∀ w, (zeroValue e).run P w = .ok z w) (h1 : ∀ u ∈ z.cells.toList, u.oneCell' = true) (hz : z.cells.size = d.sz) (hk : k ≤ xs.length)
  (hc : ∀ w1, Own N w1 (l.set i (qrow d e (.slice (if c = k then A else A.map (·.add (k * d.sz))) (n - k) (c - k)) (xs.drop k))) → KeepS N W w1 → wpList P ops Q rest a w1) : wpList P ops Q (o :: rest) a W := by
 obtain ⟨w1, hr, h2, h3⟩ := h.qclear (P := P) hi t o.type z ht hv h1 hz c' hk
 refine wpList_plain hgd fun K hK => ?_
 unfold Oper.wp execOp
 simp only [ho, resolve, invoke, builtin, Sem.run_bind, Sem.run_pure, Result.andThen_ok, List.map_toArray, List.map_cons, List.map_nil, hs, hr]
 have hh : K (a.put o.dst (.tuple #[])) w1 := hK _ _ (by rw [hN]; exact hc w1 h2 h3)
 exact hh
def lead (n : Int) (xs : List Piece) : Nat := (xs.takeWhile fun p => decide (p.1 ≤ n)).length
def pz : Piece := (0, ⟨#[]⟩)
def pAt (xs : List Piece) (x : Int) : Piece := xs.getD x.toNat pz
theorem lead_eq {n : Int} : ∀ {xs : List Piece} {m : Nat}, m ≤ xs.length → (∀ j, j < m → (xs.getD j pz).1 ≤ n) → (m = xs.length ∨ n < (xs.getD m pz).1) → lead n xs = m
  | [], m, hm, _, _ => by have : m = 0 := by simpa using hm
                          subst this; rfl
  | x :: xs, 0, _, _, hz => by
    rcases hz with hz | hz
    · simp at hz
    · have : ¬ x.1 ≤ n := by have h2 : n < x.1 := hz; omega
      simp [lead, this]
  | x :: xs, m + 1, hm, ha, hz => by
    have h0 : x.1 ≤ n := ha 0 (by omega)
    have ih := lead_eq (n := n) (xs := xs) (m := m) (by simpa using hm) (fun j hj => ha (j + 1) (by omega)) (by
      rcases hz with hz | hz
      · left; simpa using hz
      · right; exact hz)
    simp only [lead, List.takeWhile_cons, h0, decide_true, if_true, List.length_cons]
    exact congrArg (· + 1) ih
theorem at_P {w : World} {A : Option Addr} {n : Nat} {xs : List Piece} (h : kP.C w A n xs) (x : Int) (h0 : 0 ≤ x) (h1 : x < n) : ∃ ad, A = some ad ∧ w.cell? (ad.add (x.toNat * 2)) = some (.int .i64 (pAt xs x).1) := by
 obtain ⟨ad, c, e, hl, hk, hc⟩ := ReadsRow.get_ h pz x h0 h1
 have := kP_open hk
 subst this
 exact ⟨ad, e, by have q := hc 0 _ rfl; exact q⟩
def AkI (w0 : World) (n : Int) (xs : List Piece) (i : Value) (wr : World) : Prop := ∃ x : Int, 0 ≤ x ∧ x ≤ (xs.length : Int) ∧ i = .int .i64 x ∧ Aside0 (∀ j : Nat, (j : Int) < x → (xs.getD j pz).1 ≤ n) ∧ w0 = wr
set_option maxHeartbeats 16000000 in
set_option maxRecDepth 100000 in
theorem SAck_far {N : Nat → Prop} {w : World} {g : Nat} {W La S : Int} {xs : List Piece} (n : Int) (h : Own N w [SendO g W La S xs]) (hn : n > S) :
  Calls Tryd.prog 40 #[.pointer (some ⟨g, 0, none⟩), .int .i64 n] w fun e_ w' => e_ = .returned (.int .i64 0) ∧ Own N w' [SendO g W La S xs] ∧ KeepS N w w' := by
 have d1 : decide (n > S) = true := decide_eq_true hn
 have d2 : decide (S < n) = true := decide_eq_true hn
 obtain ⟨A0, c0, h2⟩ := SendO.open_ h (i := 0) rfl
 have O0 : Aside0 (Own N w [cells g #[.int .i64 W, .int .i64 La, .int .i64 S, .slice A0 xs.length c0] 136, qrow kP 102 (.slice A0 xs.length c0) xs]) := ⟨h2⟩
 have K0 : Aside0 (KeepS N w w) := ⟨KeepS.refl _ _⟩
 have c0_0_0 : w.cell? ⟨g, 0, none⟩ = some (.int .i64 W) := (blk_cell (O0.out.blk (i := 0) rfl) 0).trans rfl
 have f0_0_0 : w.frozen? ⟨g, 0, none⟩ = false := blk_frozen (O0.out.blk (i := 0) rfl) 0
 have c0_0_1 : w.cell? ⟨g, 1, none⟩ = some (.int .i64 La) := (blk_cell (O0.out.blk (i := 0) rfl) 1).trans rfl
 have f0_0_1 : w.frozen? ⟨g, 1, none⟩ = false := blk_frozen (O0.out.blk (i := 0) rfl) 1
 have c0_0_2 : w.cell? ⟨g, 2, none⟩ = some (.int .i64 S) := (blk_cell (O0.out.blk (i := 0) rfl) 2).trans rfl
 have f0_0_2 : w.frozen? ⟨g, 2, none⟩ = false := blk_frozen (O0.out.blk (i := 0) rfl) 2
 have c0_0_3 : w.cell? ⟨g, 3, none⟩ = some (.slice A0 xs.length c0) := (blk_cell (O0.out.blk (i := 0) rfl) 3).trans rfl
 have f0_0_3 : w.frozen? ⟨g, 3, none⟩ = false := blk_frozen (O0.out.blk (i := 0) rfl) 3
 clear h2 h
 go_enter Tryd.func40, Tryd.ntmps40
 go_wp2
 go_ret
 exact ⟨rfl, (SendO.shut (i := 0) (j := 1) O0.out rfl rfl (by decide)).take 1, K0.out⟩
set_option maxHeartbeats 16000000 in
set_option maxRecDepth 100000 in
theorem SAck_in {N : Nat → Prop} {w : World} {g : Nat} {W La S : Int} {xs : List Piece} (n : Int) (h : Own N w [SendO g W La S xs]) (hn : n ≤ S) (hl : xs.length ≤ 1000000) :
  Calls Tryd.prog 40 #[.pointer (some ⟨g, 0, none⟩), .int .i64 n] w fun e_ w' => e_ = .returned (.int .i64 (lead n xs : Nat)) ∧ Own N w' [SendO g W La S (xs.drop (lead n xs))] ∧ KeepS N w w' := by
 have d1 : decide (n > S) = false := decide_eq_false (by omega)
 have d2 : decide (S < n) = false := decide_eq_false (by omega)
 have HL := Aside0.mk hl
 clear hn hl
 obtain ⟨A0, c0, h2⟩ := SendO.open_ h (i := 0) rfl
 have O0 : Aside0 (Own N w [cells g #[.int .i64 W, .int .i64 La, .int .i64 S, .slice A0 xs.length c0] 136, qrow kP 102 (.slice A0 xs.length c0) xs]) := ⟨h2⟩
 have K0 : Aside0 (KeepS N w w) := ⟨KeepS.refl _ _⟩
 have c0_0_0 : w.cell? ⟨g, 0, none⟩ = some (.int .i64 W) := (blk_cell (O0.out.blk (i := 0) rfl) 0).trans rfl
 have f0_0_0 : w.frozen? ⟨g, 0, none⟩ = false := blk_frozen (O0.out.blk (i := 0) rfl) 0
 have c0_0_1 : w.cell? ⟨g, 1, none⟩ = some (.int .i64 La) := (blk_cell (O0.out.blk (i := 0) rfl) 1).trans rfl
 have f0_0_1 : w.frozen? ⟨g, 1, none⟩ = false := blk_frozen (O0.out.blk (i := 0) rfl) 1
 have c0_0_2 : w.cell? ⟨g, 2, none⟩ = some (.int .i64 S) := (blk_cell (O0.out.blk (i := 0) rfl) 2).trans rfl
 have f0_0_2 : w.frozen? ⟨g, 2, none⟩ = false := blk_frozen (O0.out.blk (i := 0) rfl) 2
 have c0_0_3 : w.cell? ⟨g, 3, none⟩ = some (.slice A0 xs.length c0) := (blk_cell (O0.out.blk (i := 0) rfl) 3).trans rfl
 have f0_0_3 : w.frozen? ⟨g, 3, none⟩ = false := blk_frozen (O0.out.blk (i := 0) rfl) 3
 clear h2 h
 have HC := Aside0.mk (O0.out.qreads (i := 1) rfl)
 go_enter Tryd.func40, Tryd.ntmps40
 go_wp2
 go_loopw [5] (fun i wr => AkI w n xs i wr) (fun i _ => xs.length - (intOf i).toNat)
 case atStart => exact ⟨0, by omega, by omega, rfl, ⟨fun j hj => by omega⟩, rfl⟩
 case round =>
  obtain ⟨x, hx0, hx1, rfl, HI, rfl⟩ := hrel
  have hll := HL.out
  have ex : ∀ (hz : x = (xs.length : Int) ∨ n < (pAt xs x).1), lead n xs = x.toNat := fun hz => lead_eq (by omega) (fun j hj => HI.out j (by omega)) (by rcases hz with hz | hz; left; omega; right; exact hz)
  obtain ⟨i0_, hi0_, hi1_⟩ := Option.map_eq_some_iff.1 infoP
  simp only [Prod.mk.injEq] at hi1_
  have hct := cut_to 99 102 .i64 Tryd.underlying99 hi0_ A0 xs.length c0 x hx0 hx1 HC.out.2.1
  have hcf := cut_from 99 102 .i64 Tryd.underlying99 hi0_ 2 hi1_.2.1 A0 xs.length c0 x hx0 hx1
  clear hi0_ hi1_
  by_cases hlt : x < (xs.length : Int)
  ·obtain ⟨ad, rfl, x0⟩ := at_P HC.out.2.2 x hx0 hlt
   have hp := eq_true hx0
   have hq := eq_true hlt
   have hd : decide (x < (xs.length : Int)) = true := decide_eq_true hlt
   have hs2 : wrap64 (x + 1) = x + 1 := by unfold wrap64; omega
   by_cases hle : (pAt xs x).1 ≤ n
   ·have hd2 : decide ((pAt xs x).1 ≤ n) = true := decide_eq_true hle
    go_wp2
    go_roundw
    case rel => exact ⟨x + 1, by omega, by omega, rfl, ⟨fun j hj => if hjx : (j : Int) < x then HI.out j hjx else by rw [show j = x.toNat by omega]; exact hle⟩, rfl⟩
    case measure => simp [intOf]; omega
   ·have hd2 : decide ((pAt xs x).1 ≤ n) = false := decide_eq_false hle
    have hE := ex (.inr (by omega))
    have HXX := Aside0.mk (And.intro hx0 hx1)
    have HE2 : Aside0 (((lead n xs : Nat) : Int) = x) := ⟨by rw [hE]; exact Int.toNat_of_nonneg hx0⟩
    have HE := Aside0.mk hE
    obtain ⟨B, hB⟩ : ∃ B, B = (if c0 = x.toNat then (some ad) else (some ad).map (·.add (x.toNat * 2))) := ⟨_, rfl⟩
    rw [← hB] at hcf
    have HB := Aside0.mk hB
    clear ex hE hB
    go_wp2_with (first | ((with_reducible refine gate_builtin (b := .clear) (xs := #[.tmp 38]) rfl ?_); refine own_clear rfl rfl (.tmp 38) 99 rfl c0 x.toNat rfl O0.out (i := 1) rfl (Value.agg #[.int .i64 0, .string ⟨#[]⟩]) Tryd.underlying99 zeroP (by simp [Value.cells, Value.oneCell']) rfl (by have := HXX.out; omega) ?_; intro w1 o9_ k_; have o_ : Own N w1 [cells g #[.int .i64 W, .int .i64 La, .int .i64 S, .slice (some ad) xs.length c0] 136, qrow kP 102 (.slice B (xs.length - x.toNat) (c0 - x.toNat)) (xs.drop x.toNat)] := (by rw [HB.out]; exact o9_); clear o9_; have O1 : Aside0 (Own N w1 [cells g #[.int .i64 W, .int .i64 La, .int .i64 S, .slice (some ad) xs.length c0] 136, qrow kP 102 (.slice B (xs.length - x.toNat) (c0 - x.toNat)) (xs.drop x.toNat)]) := ⟨o_⟩; have K1 : Aside0 (KeepS N w w1) := ⟨K0.out.trans k_⟩; clear c0_0_0 f0_0_0 c0_0_1 f0_0_1 c0_0_2 f0_0_2 c0_0_3 f0_0_3 O0 K0; have c1_0_0 : w1.cell? ⟨g, 0, none⟩ = some (.int .i64 W) := (blk_cell (O1.out.blk (i := 0) rfl) 0).trans rfl; have f1_0_0 : w1.frozen? ⟨g, 0, none⟩ = false := blk_frozen (O1.out.blk (i := 0) rfl) 0; have c1_0_1 : w1.cell? ⟨g, 1, none⟩ = some (.int .i64 La) := (blk_cell (O1.out.blk (i := 0) rfl) 1).trans rfl; have f1_0_1 : w1.frozen? ⟨g, 1, none⟩ = false := blk_frozen (O1.out.blk (i := 0) rfl) 1; have c1_0_2 : w1.cell? ⟨g, 2, none⟩ = some (.int .i64 S) := (blk_cell (O1.out.blk (i := 0) rfl) 2).trans rfl; have f1_0_2 : w1.frozen? ⟨g, 2, none⟩ = false := blk_frozen (O1.out.blk (i := 0) rfl) 2; have c1_0_3 : w1.cell? ⟨g, 3, none⟩ = some (.slice (some ad) xs.length c0) := (blk_cell (O1.out.blk (i := 0) rfl) 3).trans rfl; have f1_0_3 : w1.frozen? ⟨g, 3, none⟩ = false := blk_frozen (O1.out.blk (i := 0) rfl) 3; clear o_ k_) | ((with_reducible refine gate_store (t := 99) (p := 47) rfl ?_); refine own_store rfl rfl rfl (w1 := (World.setCell w1 ⟨g, 3, none⟩ (.slice B (xs.length - x.toNat) (c0 - x.toNat)))) (N := N) (l' := [cells g #[.int .i64 W, .int .i64 La, .int .i64 S, .slice B (xs.length - x.toNat) (c0 - x.toNat)] 136, qrow kP 102 (.slice B (xs.length - x.toNat) (c0 - x.toNat)) (xs.drop x.toNat)]) ?hr ?ho ?hk ?_; (case hr => first | (go_simp; done) | (go_simp; rfl)); (case ho => exact (O1.out.set (i := 0) rfl 3 (.slice B (xs.length - x.toNat) (c0 - x.toNat)))); (case hk => exact (KeepS.setCell (O1.out.far (i := 0) rfl) (.slice B (xs.length - x.toNat) (c0 - x.toNat)))); intro w2 o_ k_; have O2 : Aside0 (Own N w2 [cells g #[.int .i64 W, .int .i64 La, .int .i64 S, .slice B (xs.length - x.toNat) (c0 - x.toNat)] 136, qrow kP 102 (.slice B (xs.length - x.toNat) (c0 - x.toNat)) (xs.drop x.toNat)]) := ⟨o_⟩; have K2 : Aside0 (KeepS N w w2) := ⟨K1.out.trans k_⟩; clear c1_0_0 f1_0_0 c1_0_1 f1_0_1 c1_0_2 f1_0_2 c1_0_3 f1_0_3 O1 K1; have c2_0_0 : w2.cell? ⟨g, 0, none⟩ = some (.int .i64 W) := (blk_cell (O2.out.blk (i := 0) rfl) 0).trans rfl; have f2_0_0 : w2.frozen? ⟨g, 0, none⟩ = false := blk_frozen (O2.out.blk (i := 0) rfl) 0; have c2_0_1 : w2.cell? ⟨g, 1, none⟩ = some (.int .i64 La) := (blk_cell (O2.out.blk (i := 0) rfl) 1).trans rfl; have f2_0_1 : w2.frozen? ⟨g, 1, none⟩ = false := blk_frozen (O2.out.blk (i := 0) rfl) 1; have c2_0_2 : w2.cell? ⟨g, 2, none⟩ = some (.int .i64 S) := (blk_cell (O2.out.blk (i := 0) rfl) 2).trans rfl; have f2_0_2 : w2.frozen? ⟨g, 2, none⟩ = false := blk_frozen (O2.out.blk (i := 0) rfl) 2; have c2_0_3 : w2.cell? ⟨g, 3, none⟩ = some (.slice B (xs.length - x.toNat) (c0 - x.toNat)) := (blk_cell (O2.out.blk (i := 0) rfl) 3).trans rfl; have f2_0_3 : w2.frozen? ⟨g, 3, none⟩ = false := blk_frozen (O2.out.blk (i := 0) rfl) 3; clear o_ k_))
    go_ret
    have ho := (SendO.shut (i := 0) (j := 1) O2.out rfl rfl (by decide)).take 1
    exact ⟨congrArg (fun q => Ending.returned (.int .i64 q)) HE2.out.symm, by rw [HE.out]; exact ho, K2.out⟩
  ·have hd : decide (x < (xs.length : Int)) = false := decide_eq_false hlt
   have hE := ex (.inl (by omega))
   have HXX := Aside0.mk (And.intro hx0 hx1)
   have HE2 : Aside0 (((lead n xs : Nat) : Int) = x) := ⟨by rw [hE]; exact Int.toNat_of_nonneg hx0⟩
   have HE := Aside0.mk hE
   obtain ⟨B, hB⟩ : ∃ B, B = (if c0 = x.toNat then A0 else A0.map (·.add (x.toNat * 2))) := ⟨_, rfl⟩
   rw [← hB] at hcf
   have HB := Aside0.mk hB
   clear ex hE hB
   go_wp2_with (first | ((with_reducible refine gate_builtin (b := .clear) (xs := #[.tmp 38]) rfl ?_); refine own_clear rfl rfl (.tmp 38) 99 rfl c0 x.toNat rfl O0.out (i := 1) rfl (Value.agg #[.int .i64 0, .string ⟨#[]⟩]) Tryd.underlying99 zeroP (by simp [Value.cells, Value.oneCell']) rfl (by have := HXX.out; omega) ?_; intro w1 o9_ k_; have o_ : Own N w1 [cells g #[.int .i64 W, .int .i64 La, .int .i64 S, .slice A0 xs.length c0] 136, qrow kP 102 (.slice B (xs.length - x.toNat) (c0 - x.toNat)) (xs.drop x.toNat)] := (by rw [HB.out]; exact o9_); clear o9_; have O1 : Aside0 (Own N w1 [cells g #[.int .i64 W, .int .i64 La, .int .i64 S, .slice A0 xs.length c0] 136, qrow kP 102 (.slice B (xs.length - x.toNat) (c0 - x.toNat)) (xs.drop x.toNat)]) := ⟨o_⟩; have K1 : Aside0 (KeepS N w w1) := ⟨K0.out.trans k_⟩; clear c0_0_0 f0_0_0 c0_0_1 f0_0_1 c0_0_2 f0_0_2 c0_0_3 f0_0_3 O0 K0; have c1_0_0 : w1.cell? ⟨g, 0, none⟩ = some (.int .i64 W) := (blk_cell (O1.out.blk (i := 0) rfl) 0).trans rfl; have f1_0_0 : w1.frozen? ⟨g, 0, none⟩ = false := blk_frozen (O1.out.blk (i := 0) rfl) 0; have c1_0_1 : w1.cell? ⟨g, 1, none⟩ = some (.int .i64 La) := (blk_cell (O1.out.blk (i := 0) rfl) 1).trans rfl; have f1_0_1 : w1.frozen? ⟨g, 1, none⟩ = false := blk_frozen (O1.out.blk (i := 0) rfl) 1; have c1_0_2 : w1.cell? ⟨g, 2, none⟩ = some (.int .i64 S) := (blk_cell (O1.out.blk (i := 0) rfl) 2).trans rfl; have f1_0_2 : w1.frozen? ⟨g, 2, none⟩ = false := blk_frozen (O1.out.blk (i := 0) rfl) 2; have c1_0_3 : w1.cell? ⟨g, 3, none⟩ = some (.slice A0 xs.length c0) := (blk_cell (O1.out.blk (i := 0) rfl) 3).trans rfl; have f1_0_3 : w1.frozen? ⟨g, 3, none⟩ = false := blk_frozen (O1.out.blk (i := 0) rfl) 3; clear o_ k_) | ((with_reducible refine gate_store (t := 99) (p := 47) rfl ?_); refine own_store rfl rfl rfl (w1 := (World.setCell w1 ⟨g, 3, none⟩ (.slice B (xs.length - x.toNat) (c0 - x.toNat)))) (N := N) (l' := [cells g #[.int .i64 W, .int .i64 La, .int .i64 S, .slice B (xs.length - x.toNat) (c0 - x.toNat)] 136, qrow kP 102 (.slice B (xs.length - x.toNat) (c0 - x.toNat)) (xs.drop x.toNat)]) ?hr ?ho ?hk ?_; (case hr => first | (go_simp; done) | (go_simp; rfl)); (case ho => exact (O1.out.set (i := 0) rfl 3 (.slice B (xs.length - x.toNat) (c0 - x.toNat)))); (case hk => exact (KeepS.setCell (O1.out.far (i := 0) rfl) (.slice B (xs.length - x.toNat) (c0 - x.toNat)))); intro w2 o_ k_; have O2 : Aside0 (Own N w2 [cells g #[.int .i64 W, .int .i64 La, .int .i64 S, .slice B (xs.length - x.toNat) (c0 - x.toNat)] 136, qrow kP 102 (.slice B (xs.length - x.toNat) (c0 - x.toNat)) (xs.drop x.toNat)]) := ⟨o_⟩; have K2 : Aside0 (KeepS N w w2) := ⟨K1.out.trans k_⟩; clear c1_0_0 f1_0_0 c1_0_1 f1_0_1 c1_0_2 f1_0_2 c1_0_3 f1_0_3 O1 K1; have c2_0_0 : w2.cell? ⟨g, 0, none⟩ = some (.int .i64 W) := (blk_cell (O2.out.blk (i := 0) rfl) 0).trans rfl; have f2_0_0 : w2.frozen? ⟨g, 0, none⟩ = false := blk_frozen (O2.out.blk (i := 0) rfl) 0; have c2_0_1 : w2.cell? ⟨g, 1, none⟩ = some (.int .i64 La) := (blk_cell (O2.out.blk (i := 0) rfl) 1).trans rfl; have f2_0_1 : w2.frozen? ⟨g, 1, none⟩ = false := blk_frozen (O2.out.blk (i := 0) rfl) 1; have c2_0_2 : w2.cell? ⟨g, 2, none⟩ = some (.int .i64 S) := (blk_cell (O2.out.blk (i := 0) rfl) 2).trans rfl; have f2_0_2 : w2.frozen? ⟨g, 2, none⟩ = false := blk_frozen (O2.out.blk (i := 0) rfl) 2; have c2_0_3 : w2.cell? ⟨g, 3, none⟩ = some (.slice B (xs.length - x.toNat) (c0 - x.toNat)) := (blk_cell (O2.out.blk (i := 0) rfl) 3).trans rfl; have f2_0_3 : w2.frozen? ⟨g, 3, none⟩ = false := blk_frozen (O2.out.blk (i := 0) rfl) 3; clear o_ k_))
   go_ret
   have ho := (SendO.shut (i := 0) (j := 1) O2.out rfl rfl (by decide)).take 1
   exact ⟨congrArg (fun q => Ending.returned (.int .i64 q)) HE2.out.symm, by rw [HE.out]; exact ho, K2.out⟩
set_option maxHeartbeats 16000000 in
set_option maxRecDepth 100000 in
theorem SPieces {N : Nat → Prop} {w : World} {g : Nat} {W La S : Int} {xs : List Piece} (h : Own N w [SendO g W La S xs]) (hl : xs.length ≤ 1000000) :
  Calls Tryd.prog 49 #[.pointer (some ⟨g, 0, none⟩)] w fun e_ w' => ∃ A1 c1, e_ = .returned (.slice A1 xs.length c1) ∧ Own N w' [SendO g W La S xs, nrow kP 102 (.slice A1 xs.length c1) xs] ∧ KeepS N w w' := by
 have HL := Aside0.mk hl
 clear hl
 obtain ⟨A0, c0, h2⟩ := SendO.open_ h (i := 0) rfl
 have O0 : Aside0 (Own N w [cells g #[.int .i64 W, .int .i64 La, .int .i64 S, .slice A0 xs.length c0] 136, qrow kP 102 (.slice A0 xs.length c0) xs]) := ⟨h2⟩
 have K0 : Aside0 (KeepS N w w) := ⟨KeepS.refl _ _⟩
 have c0_0_0 : w.cell? ⟨g, 0, none⟩ = some (.int .i64 W) := (blk_cell (O0.out.blk (i := 0) rfl) 0).trans rfl
 have f0_0_0 : w.frozen? ⟨g, 0, none⟩ = false := blk_frozen (O0.out.blk (i := 0) rfl) 0
 have c0_0_1 : w.cell? ⟨g, 1, none⟩ = some (.int .i64 La) := (blk_cell (O0.out.blk (i := 0) rfl) 1).trans rfl
 have f0_0_1 : w.frozen? ⟨g, 1, none⟩ = false := blk_frozen (O0.out.blk (i := 0) rfl) 1
 have c0_0_2 : w.cell? ⟨g, 2, none⟩ = some (.int .i64 S) := (blk_cell (O0.out.blk (i := 0) rfl) 2).trans rfl
 have f0_0_2 : w.frozen? ⟨g, 2, none⟩ = false := blk_frozen (O0.out.blk (i := 0) rfl) 2
 have c0_0_3 : w.cell? ⟨g, 3, none⟩ = some (.slice A0 xs.length c0) := (blk_cell (O0.out.blk (i := 0) rfl) 3).trans rfl
 have f0_0_3 : w.frozen? ⟨g, 3, none⟩ = false := blk_frozen (O0.out.blk (i := 0) rfl) 3
 clear h2 h
 go_enter Tryd.func49, Tryd.ntmps49
 go_wp2_with (first | ((with_reducible refine gate_dst (N := 3) rfl ?_); refine own_lit kP (N := N) (e := 102) (xs := []) (inner := []) rfl (D := 3) rfl ?hr (Reps.none _ _) (by simp) O0.out ?_; (case hr => first | (go_simp; done) | (go_simp; rfl)); intro B1 d1 w1 o_ k_; have O1 : Aside0 (Own N w1 [cells g #[.int .i64 W, .int .i64 La, .int .i64 S, .slice A0 xs.length c0] 136, qrow kP 102 (.slice A0 xs.length c0) xs, nrow kP 102 (.slice B1 0 d1) []]) := ⟨o_⟩; have K1 : Aside0 (KeepS N w w1) := ⟨K0.out.trans k_⟩; clear c0_0_0 f0_0_0 c0_0_1 f0_0_1 c0_0_2 f0_0_2 c0_0_3 f0_0_3 O0 K0; have c1_0_0 : w1.cell? ⟨g, 0, none⟩ = some (.int .i64 W) := (blk_cell (O1.out.blk (i := 0) rfl) 0).trans rfl; have f1_0_0 : w1.frozen? ⟨g, 0, none⟩ = false := blk_frozen (O1.out.blk (i := 0) rfl) 0; have c1_0_1 : w1.cell? ⟨g, 1, none⟩ = some (.int .i64 La) := (blk_cell (O1.out.blk (i := 0) rfl) 1).trans rfl; have f1_0_1 : w1.frozen? ⟨g, 1, none⟩ = false := blk_frozen (O1.out.blk (i := 0) rfl) 1; have c1_0_2 : w1.cell? ⟨g, 2, none⟩ = some (.int .i64 S) := (blk_cell (O1.out.blk (i := 0) rfl) 2).trans rfl; have f1_0_2 : w1.frozen? ⟨g, 2, none⟩ = false := blk_frozen (O1.out.blk (i := 0) rfl) 2; have c1_0_3 : w1.cell? ⟨g, 3, none⟩ = some (.slice A0 xs.length c0) := (blk_cell (O1.out.blk (i := 0) rfl) 3).trans rfl; have f1_0_3 : w1.frozen? ⟨g, 3, none⟩ = false := blk_frozen (O1.out.blk (i := 0) rfl) 3; clear o_ k_) | ((with_reducible refine gate_builtin (b := .append) (xs := #[.tmp 3, .tmp 7]) rfl ?_); at_builtin; refine Own.append_flat kP flatP O1.out (i := 2) (ys := xs) rfl ((O1.out.qreads (i := 1) rfl).2.2) rfl (.tmp 3) (.tmp 7) 99 (.agg #[.int .i64 0, .string ⟨#[]⟩]) 24 rfl Tryd.underlying99 infoP rfl (by decide) (by decide) rfl rfl (by have := HL.out; simp only [List.length_nil]; omega) ?_; intro B2 d2 w2 o_ k_; have O2 : Aside0 (Own N w2 [cells g #[.int .i64 W, .int .i64 La, .int .i64 S, .slice A0 xs.length c0] 136, qrow kP 102 (.slice A0 xs.length c0) xs, nrow kP 102 (.slice B2 (xs).length d2) (xs)]) := ⟨o_⟩; have K2 : Aside0 (KeepS N w w2) := ⟨K1.out.trans k_⟩; clear c1_0_0 f1_0_0 c1_0_1 f1_0_1 c1_0_2 f1_0_2 c1_0_3 f1_0_3 O1 K1; have c2_0_0 : w2.cell? ⟨g, 0, none⟩ = some (.int .i64 W) := (blk_cell (O2.out.blk (i := 0) rfl) 0).trans rfl; have f2_0_0 : w2.frozen? ⟨g, 0, none⟩ = false := blk_frozen (O2.out.blk (i := 0) rfl) 0; have c2_0_1 : w2.cell? ⟨g, 1, none⟩ = some (.int .i64 La) := (blk_cell (O2.out.blk (i := 0) rfl) 1).trans rfl; have f2_0_1 : w2.frozen? ⟨g, 1, none⟩ = false := blk_frozen (O2.out.blk (i := 0) rfl) 1; have c2_0_2 : w2.cell? ⟨g, 2, none⟩ = some (.int .i64 S) := (blk_cell (O2.out.blk (i := 0) rfl) 2).trans rfl; have f2_0_2 : w2.frozen? ⟨g, 2, none⟩ = false := blk_frozen (O2.out.blk (i := 0) rfl) 2; have c2_0_3 : w2.cell? ⟨g, 3, none⟩ = some (.slice A0 xs.length c0) := (blk_cell (O2.out.blk (i := 0) rfl) 3).trans rfl; have f2_0_3 : w2.frozen? ⟨g, 3, none⟩ = false := blk_frozen (O2.out.blk (i := 0) rfl) 3; clear o_ k_))
 go_ret
 exact ⟨B2, d2, rfl, ((SendO.shut (i := 0) (j := 1) O2.out rfl rfl (by decide)).pickL [0, 2] (by decide) (by simp)), K2.out⟩
end Go.Proofs.YtjmoncfgoaaekaaDoor.J
