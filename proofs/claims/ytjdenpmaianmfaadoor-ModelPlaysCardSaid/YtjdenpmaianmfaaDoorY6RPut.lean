/- What the given program's round.Put answers: the bytes of its head and its updates, as a fresh Writer tells them, or none, with May's error. Under the condition that the table 'bits' of package prefix is laid. -/
import Derived.Test.YtjdenpmaianmfaaDoorY6UA
import Derived.Test.YtjdenpmaianmfaaDoorY6Sz
import Derived.Test.YtjdenpmaianmfaaDoorY6RM0
namespace Go.Proofs.YtjdenpmaianmfaaDoor.J
set_option linter.unusedSimpArgs false
set_option linter.unusedVariables false
open Go RowKit YtjdenpmaianmfaaDoorW.PrintWords YtjdenpmaianmfaaDoorW.PrintLast YtjdenpmaianmfaaDoorW.PrintMore Q YtjdenpmaianmfaaDoor.Sep YtjdenpmaianmfaaDoor.Pure Wr
def WRowB (B g : Nat) (row : Option Nat) (x : Wst) : HP where
 P := fun F w => Has B g row x w ∧ F g ∧ ∀ k, row = some k → F k
 move := fun h _ hk => ⟨Is.kept h.1 (hk g h.2.1 (Is.lt h.1)) (fun k e => hk k (h.2.2 k e) (Is.row_ge h.1 e).2), h.2⟩
 mono := fun h hf => ⟨h.1, hf _ h.2.1, fun k e => hf _ (h.2.2 k e)⟩
 bound := fun h => ⟨h.1, ⟨h.2.1, Is.lt h.1⟩, fun k e => ⟨h.2.2 k e, (Is.row_ge h.1 e).2⟩⟩
def WRB (B g : Nat) (x : Wst) : HP := ex fun row : Option Nat => WRowB B g row x
theorem wb_step {N : Nat → Prop} {w w' : World} {B g : Nat} {row : Option Nat} {x z : Wst} (h : Own N w [WRowB B g row x]) (t : Went B g row z w w') : Own N w' [WRB B g z] ∧ KeepS N w w' := by
 obtain ⟨row', hi', hB, hk, hr⟩ := t
 refine ⟨h.upd (i := 0) rfl (WRB B g z) (fun F hp hf => ⟨hk.1, fun k hk1 hk2 => hk.2 k hk1 (fun e => hk2 (by rw [e]; exact hp.2.1)) (fun e => hk2 (hp.2.2 k e.symm)), fun k => F k ∨ w.heap.size ≤ k, ⟨row', hi', .inl hp.2.1, fun k e => ?_⟩, fun k hk3 => hk3⟩), ?_⟩
 ·rcases hr with rfl | ⟨q, rfl, hq⟩
  ·exact .inl (hp.2.2 k e)
  ·injection e with e
   subst e
   exact .inr hq
 ·obtain ⟨hN, Fs, h1, h2, h3⟩ := h
  have hp := h1 0 _ rfl
  exact ⟨hB.os, hB.tape, hB.output, hk.1, fun k hk1 hn => hk.2 k hk1 (fun e => (h2 0 k (by rw [e]; exact hp.2.1)).1 hn) (fun e => (h2 0 k (hp.2.2 k e.symm)).1 hn)⟩
variable {N : Nat → Prop} {w : World} {B g : Nat} {x : Wst}
theorem wbOpen (h : Own N w [WRB B g x]) : ∃ row, Own N w [WRowB B g row x] ∧ Has B g row x w := by
 obtain ⟨row, h2⟩ := h.of_ex (i := 0) rfl
 refine ⟨row, h2, ?_⟩
 obtain ⟨hN, Fs, h1, _⟩ := h2
 exact (h1 0 _ rfl).1
theorem wbUpd (HT : Aside0 (Tab w)) (ht : 0 < B) (hBw : B ≤ w.heap.size) (k : ByteArray) (c n : Int) (s : ByteArray) (hc : (Lit.int .i64 c).wf = true) (hn : (Lit.int .i64 n).wf = true) (hs : x.1.size + k.size + s.size ≤ 140737488354900) (h : Own N w [WRB B g x]) :
  Calls Tryd.prog 105 #[.pointer (some ⟨g, 0, none⟩), .agg #[.string k, .int .i64 c, .int .i64 n, .string s]] w fun e_ w' => e_ = .returned (.tuple #[]) ∧ Own N w' [WRB B g (addU x k c n s)] ∧ KeepS N w w' := by
 obtain ⟨row, h2, hh⟩ := wbOpen h
 exact (Write k c n s hc hn hh hBw ht HT hs).mono fun e_ w' ⟨he, t⟩ => ⟨he, wb_step h2 t⟩
theorem wbNum (HT : Aside0 (Tab w)) (hBw : B ≤ w.heap.size) (n : Int) (hn : (Lit.int .i64 n).wf = true) (hs : x.1.size ≤ 140737488355000) (h : Own N w [WRB B g x]) :
  Calls Tryd.prog 104 #[.pointer (some ⟨g, 0, none⟩), .int .i64 n] w fun e_ w' => e_ = .returned (.tuple #[]) ∧ Own N w' [WRB B g (addN x n)] ∧ KeepS N w w' := by
 obtain ⟨row, h2, hh⟩ := wbOpen h
 exact (Number_ n hn hh hBw HT hs).mono fun e_ w' ⟨he, t⟩ => ⟨he, wb_step h2 t⟩
theorem wbBytes (hBw : B ≤ w.heap.size) (b : ByteArray) (e : Int) (hq : told x = (b, e)) (h : Own N w [WRB B g x]) :
  Calls Tryd.prog 106 #[.pointer (some ⟨g, 0, none⟩)] w fun e_ w' => e_ = .returned (.tuple #[.string b, .int .i64 e]) ∧ Own N w' [WRB B g x] ∧ KeepS N w w' := by
 obtain ⟨row, h2, hh⟩ := wbOpen h
 have h1 : b = (told x).1 := by rw [hq]
 have h3 : e = (told x).2 := by rw [hq]
 subst h1 h3
 exact (Bytes_ hh hBw).mono fun e_ w' ⟨he, hi, hb, hk⟩ => ⟨he, wb_step h2 ⟨row, hi, hb, hk, .inl rfl⟩⟩
theorem wbNew {l : List HP} {i : Nat} (hg : B ≤ g) (h : Own N w l) (hi : l[i]? = some (cells g #[.pointer none, .slice none 0 0, .bool false] 158)) : Own N w (l.set i (WRB B g (nil', false))) :=
 h.conv hi _ (fun F hp _ => ⟨none, ⟨.pointer none, .slice none 0 0, rfl, hg, hp.2, World.ownsRowF_nil _ _ _ _, .inl rfl⟩, hp.1, fun k e => by cases e⟩)
end Go.Proofs.YtjdenpmaianmfaaDoor.J
namespace Go.Proofs.YtjdenpmaianmfaaDoor.Q
set_option maxHeartbeats 16000000
set_option maxRecDepth 100000
set_option linter.unusedSimpArgs false
set_option linter.unusedVariables false
open Go RowKit YtjdenpmaianmfaaDoorW.PrintWords YtjdenpmaianmfaaDoorW.PrintLast YtjdenpmaianmfaaDoorW.PrintMore Wr YtjdenpmaianmfaaDoor.Sep J YtjdenpmaianmfaaDoor.Pure
attribute [local go_sem] max2_int min2_int max_two min_two max_three min_three max_four min_four
theorem int_eqP {a b : Int} (h : a = b) : Value.int .i64 a = .int .i64 b := by rw [h]
def headW (o n m : Int) : Wst := addN (addN (addN (nil', false) o) n) m
def addsW (x : Wst) : List S32 → Wst
 | [] => x
 | z :: r => addsW (addU x z.f0 z.f1 z.f2 z.f3) r
def round_Put.f (o n : Int) (l : List S32) : Option (ByteArray × Int) :=
 (round_May.f 20 o n l).bind fun e => if e = 0 then some (told (addsW (headW o n l.length) l)) else some (⟨#[]⟩, e)
theorem firstErr_at {l : List S32} (h : firstErr l = 0) : ∀ z ∈ l, mayU z = 0 := by
 induction l with
 | nil => intro z hz; cases hz
 | cons u r ih =>
  unfold firstErr at h
  split at h
  ·rename_i hu
   intro z hz
   rcases List.mem_cons.1 hz with rfl | hz
   ·exact hu
   ·exact ih h z hz
  ·rename_i hu
   exact absurd h hu
theorem mayR_zero {o n : Int} {l : List S32} (h : mayR o n l = 0) : 1 ≤ o ∧ o ≤ 64 ∧ 1 ≤ n ∧ n ≤ 1099511627776 ∧ 1 ≤ l.length ∧ l.length ≤ 8 ∧ ∀ z ∈ l, mayU z = 0 := by
 unfold mayR at h
 split at h
 ·exact absurd h (by decide)
 ·exact ⟨by omega, by omega, by omega, by omega, by omega, by omega, firstErr_at h⟩
theorem wfP {n : Int} (h0 : -9223372036854775808 ≤ n) (h1 : n ≤ 9223372036854775807) : (Lit.int .i64 n).wf = true := WalkArith.wf_i64 ⟨h0, h1⟩
theorem mayU_wf {z : S32} (h : mayU z = 0) : (Lit.int .i64 z.f1).wf = true ∧ (Lit.int .i64 z.f2).wf = true ∧ z.f0.size ≤ 16 ∧ z.f3.size ≤ 32 := by
 obtain ⟨_, h2, h3, h4, h5, h6, h7⟩ := may_zero h
 by_cases c13 : z.f1 = 1 ∨ z.f1 = 3
 ·have := h5 c13; exact ⟨wfP (by omega) (by omega), wfP (by omega) (by omega), h2, by omega⟩
 by_cases c24 : z.f1 = 2 ∨ z.f1 = 4
 ·have := h6 c24; exact ⟨wfP (by omega) (by omega), wfP (by omega) (by omega), h2, by omega⟩
 ·have := h7 (by omega); exact ⟨wfP (by omega) (by omega), wfP (by omega) (by omega), h2, by omega⟩
def catB : List S32 → ByteArray
 | [] => nil'
 | z :: r => bytesU z.f0 z.f1 z.f2 z.f3 ++ catB r
theorem addsW_ok : ∀ (l : List S32) (x : ByteArray), (∀ z ∈ l, mayU z = 0) → addsW (x, false) l = (x ++ catB l, false)
 | [], x, _ => by unfold addsW catB; rw [app_nil]
 | z :: r, x, h => by
  unfold addsW catB
  rw [addU_ok x (h z (by simp)), addsW_ok r _ (fun y hy => h y (by simp [hy])), ByteArray.append_assoc]
theorem catB_size : ∀ (l : List S32), (∀ z ∈ l, mayU z = 0) → (catB l).size ≤ 80 * l.length
 | [], _ => Nat.zero_le _
 | z :: r, h => by
  unfold catB
  have h1 := bytesU_max (h z (by simp))
  have h2 := catB_size r (fun y hy => h y (by simp [hy]))
  rw [ByteArray.size_append, List.length_cons]
  omega
def headB (o n m : Int) : ByteArray := strOfNums (encL o) ++ strOfNums (encL n) ++ strOfNums (encL m)
theorem headW_ok {o n m : Int} (h0 : 0 ≤ o) (h1 : o ≤ 1099511627776) (h2 : 0 ≤ n) (h3 : n ≤ 1099511627776) (h4 : 0 ≤ m) (h5 : m ≤ 1099511627776) : headW o n m = (headB o n m, false) := by
 unfold headW headB addN
 rw [numP_ok o h0 (by omega), numP_ok n h2 (by omega), numP_ok m h4 (by omega)]
 simp only [Bool.or_false, nil_app]
theorem headB_size (o n m : Int) : (headB o n m).size ≤ 24 := by
 unfold headB
 have := enc_size o
 have := enc_size n
 have := enc_size m
 rw [ByteArray.size_append, ByteArray.size_append]
 omega
theorem catB_take (l : List S32) (x : Int) (h0 : 0 ≤ x) (h1 : x < l.length) : catB (l.take (x + 1).toNat) = catB (l.take x.toNat) ++ bytesU (rd_T32 l x).f0 (rd_T32 l x).f1 (rd_T32 l x).f2 (rd_T32 l x).f3 := by
 have key : ∀ (a b : List S32), catB (a ++ b) = catB a ++ catB b := by
  intro a
  induction a with
  | nil => intro b; show catB b = nil' ++ catB b; rw [nil_app]
  | cons z r ih => intro b; show bytesU _ _ _ _ ++ catB (r ++ b) = _; rw [ih, ← ByteArray.append_assoc]; rfl
 have e : (x + 1).toNat = x.toNat + 1 := by omega
 have hl : x.toNat < l.length := by omega
 have e2 : rd_T32 l x = l[x.toNat] := by
  unfold rd_T32
  rw [List.getD_eq_getElem?_getD, List.getElem?_eq_getElem hl]
  rfl
 rw [e, List.take_succ_eq_append_getElem hl, key, e2]
 show _ ++ (bytesU _ _ _ _ ++ nil') = _
 rw [app_nil]
def partB (o n : Int) (l : List S32) (x : Int) : ByteArray := headB o n l.length ++ catB (l.take x.toNat)
theorem partB_0 (o n : Int) (l : List S32) : partB o n l 0 = headB o n l.length := app_nil _
theorem partB_s (o n : Int) (l : List S32) (x : Int) (h0 : 0 ≤ x) (h1 : x < l.length) (hm : mayU (rd_T32 l x) = 0) : addU (partB o n l x, false) (rd_T32 l x).f0 (rd_T32 l x).f1 (rd_T32 l x).f2 (rd_T32 l x).f3 = (partB o n l (x + 1), false) := by
 rw [addU_ok _ hm]
 unfold partB
 rw [catB_take l x h0 h1, ByteArray.append_assoc]
theorem partB_all (o n : Int) (l : List S32) : partB o n l l.length = headB o n l.length ++ catB l := by
 unfold partB
 rw [Int.toNat_natCast, List.take_length]
theorem partB_size (o n : Int) {l : List S32} (x : Int) (hl : l.length ≤ 8) (h : ∀ z ∈ l, mayU z = 0) : (partB o n l x).size ≤ 664 := by
 unfold partB
 have h1 := headB_size o n l.length
 have h2 := catB_size (l.take x.toNat) (fun z hz => h z (List.mem_of_mem_take hz))
 rw [List.length_take] at h2
 have := Nat.min_le_right x.toNat l.length
 rw [ByteArray.size_append]
 omega
theorem rd_memP {l : List S32} (x : Int) (h0 : 0 ≤ x) (h1 : x < l.length) : rd_T32 l x ∈ l := by
 unfold rd_T32
 rw [List.getD_eq_getElem?_getD, List.getElem?_eq_getElem (show x.toNat < l.length by omega)]
 exact List.getElem_mem _
theorem heapP : Kd.Heap k32 := Kd.heap_iso _ (Kd.heap_pair Kd.heap_string (Kd.heap_pair (Kd.heap_int _) (Kd.heap_pair (Kd.heap_int _) Kd.heap_string)))
def RpI (N : Nat → Prop) (w : World) (o n : Int) (l : List S32) (gw : Nat) (i : Value) (wr : World) : Prop := ∃ x : Int, 0 ≤ x ∧ x ≤ (l.length : Int) ∧ i = .int .i64 x ∧ Aside0 (Own N wr [WRB w.heap.size gw (partB o n l x, false)]) ∧ Aside0 (KeepS N w wr)
theorem round_Put.calls (o n : Int) (A0 : Option Addr) (c0 : Nat) (l : List S32) (r1 : ByteArray) (r2 : Int) (w : World) (HT : Aside0 (Tab w)) (hr0 : Kd.C k32 w A0 l.length l) (hc0 : l.length ≤ c0) (h : round_Put.f o n l = some (r1, r2)) :
  Calls Tryd.prog 94 #[.agg #[o, n, .slice A0 l.length c0]] w fun e_ w' => e_ = .returned (.tuple #[r1, r2]) ∧ Below w.heap.size w w' := by
 unfold round_Put.f at h
 obtain ⟨e0, hm, h⟩ := Option.bind_eq_some_iff.mp h
 obtain ⟨N, hN⟩ : ∃ N : Nat → Prop, N = fun k => k < w.heap.size := ⟨_, rfl⟩
 have HN := Am hN
 have HRL_0 : Aside0 (Kd.F k32 w N A0 l.length l) := ⟨by rw [hN]; exact Kd.C_F heapP hr0⟩
 have HR0 := Am hr0
 have HC0 := Am hc0
 have O0 : Aside0 (Own N w []) := ⟨Own.start_ (fun k hk => by rw [hN] at hk; exact hk)⟩
 have K0 : Aside0 (KeepS N w w) := ⟨KeepS.refl _ _⟩
 clear hN hr0 hc0
 by_cases he : e0 = 0
 ·subst he
  rw [if_pos rfl] at h
  have HM := Am hm
  have hz : mayR o n l = 0 := by rw [pmay 0] at hm; exact Option.some.inj hm
  have HZ := Am (mayR_zero hz)
  have HH := Am (Option.some.inj h)
  clear h hm hz
  have hl8 := HZ.out.2.2.2.2.2.1
  have hs0 : headW o n l.length = (headB o n l.length, false) := by have := HZ.out; exact headW_ok (by omega) (by omega) (by omega) (by omega) (by omega) (by omega)
  have HS0 := Am hs0
  clear hs0
  go_enter Tryd.func94, Tryd.ntmps94
  go_wp2_with (first | ((with_reducible refine gD 1 rfl ?_); refine own_box rfl (D := 1) rfl (cs := #[o, n, .slice A0 l.length c0]) (t := 35) gs_ O0.out ?_; intro gx w1 o_ k_; have O1 : Aside0 (Own N w1 [cells gx #[o, n, .slice A0 l.length c0] 35]) := ⟨o_⟩; have K1 : Aside0 (KeepS N w w1) := ⟨K0.out.trans k_⟩; clear O0 K0; have c1_0_0 : w1.cell? ⟨gx, 0, none⟩ = some (.int .i64 o) := (blk_cell (O1.out.blk (i := 0) rfl) 0).trans rfl; have f1_0_0 : w1.frozen? ⟨gx, 0, none⟩ = false := blk_frozen (O1.out.blk (i := 0) rfl) 0; have c1_0_1 : w1.cell? ⟨gx, 1, none⟩ = some (.int .i64 n) := (blk_cell (O1.out.blk (i := 0) rfl) 1).trans rfl; have f1_0_1 : w1.frozen? ⟨gx, 1, none⟩ = false := blk_frozen (O1.out.blk (i := 0) rfl) 1; have c1_0_2 : w1.cell? ⟨gx, 2, none⟩ = some (.slice A0 l.length c0) := (blk_cell (O1.out.blk (i := 0) rfl) 2).trans rfl; have f1_0_2 : w1.frozen? ⟨gx, 2, none⟩ = false := blk_frozen (O1.out.blk (i := 0) rfl) 2; clear o_ k_) | ((with_reducible refine gC 96 rfl ?_); refine goesL_ (some 9) rfl rfl Tryd.func96 (by kernel_rfl) rfl #[.agg #[o, n, .slice A0 l.length c0]] rfl (by (try simp only [List.map_toArray, List.map_cons, List.map_nil]); first | done | rfl) ?_; refine (round_May.calls 20 o n A0 c0 l 0 _ (Kd.C_below HR0.out (kw_ K1 HN)) HC0.out HM.out).mono ?_; rintro e_ w2 ⟨rfl, hb_⟩; refine ⟨_, rfl, ?_⟩; have o_ := O1.out.below hb_; have k_ := KeepS.of_below (N := N) hb_; have O2 : Aside0 (Own N w2 [cells gx #[o, n, .slice A0 l.length c0] 35]) := ⟨o_⟩; have K2 : Aside0 (KeepS N w w2) := ⟨K1.out.trans k_⟩; clear c1_0_0 f1_0_0 c1_0_1 f1_0_1 c1_0_2 f1_0_2 O1 K1; have c2_0_0 : w2.cell? ⟨gx, 0, none⟩ = some (.int .i64 o) := (blk_cell (O2.out.blk (i := 0) rfl) 0).trans rfl; have f2_0_0 : w2.frozen? ⟨gx, 0, none⟩ = false := blk_frozen (O2.out.blk (i := 0) rfl) 0; have c2_0_1 : w2.cell? ⟨gx, 1, none⟩ = some (.int .i64 n) := (blk_cell (O2.out.blk (i := 0) rfl) 1).trans rfl; have f2_0_1 : w2.frozen? ⟨gx, 1, none⟩ = false := blk_frozen (O2.out.blk (i := 0) rfl) 1; have c2_0_2 : w2.cell? ⟨gx, 2, none⟩ = some (.slice A0 l.length c0) := (blk_cell (O2.out.blk (i := 0) rfl) 2).trans rfl; have f2_0_2 : w2.frozen? ⟨gx, 2, none⟩ = false := blk_frozen (O2.out.blk (i := 0) rfl) 2; clear o_ k_ hb_) | ((with_reducible refine gD 5 rfl ?_); refine own_box rfl (D := 5) rfl (cs := #[.pointer none, .slice none 0 0, false]) (t := 158) gs_ O2.out ?_; intro gw w3 o_ k_; have O3 : Aside0 (Own N w3 [cells gx #[o, n, .slice A0 l.length c0] 35, cells gw #[.pointer none, .slice none 0 0, false] 158]) := ⟨o_⟩; have K3 : Aside0 (KeepS N w w3) := ⟨K2.out.trans k_⟩; clear c2_0_0 f2_0_0 c2_0_1 f2_0_1 c2_0_2 f2_0_2 O2 K2; have c3_0_0 : w3.cell? ⟨gx, 0, none⟩ = some (.int .i64 o) := (blk_cell (O3.out.blk (i := 0) rfl) 0).trans rfl; have f3_0_0 : w3.frozen? ⟨gx, 0, none⟩ = false := blk_frozen (O3.out.blk (i := 0) rfl) 0; have c3_0_1 : w3.cell? ⟨gx, 1, none⟩ = some (.int .i64 n) := (blk_cell (O3.out.blk (i := 0) rfl) 1).trans rfl; have f3_0_1 : w3.frozen? ⟨gx, 1, none⟩ = false := blk_frozen (O3.out.blk (i := 0) rfl) 1; have c3_0_2 : w3.cell? ⟨gx, 2, none⟩ = some (.slice A0 l.length c0) := (blk_cell (O3.out.blk (i := 0) rfl) 2).trans rfl; have f3_0_2 : w3.frozen? ⟨gx, 2, none⟩ = false := blk_frozen (O3.out.blk (i := 0) rfl) 2; have c3_1_0 : w3.cell? ⟨gw, 0, none⟩ = some (.pointer none) := (blk_cell (O3.out.blk (i := 1) rfl) 0).trans rfl; have f3_1_0 : w3.frozen? ⟨gw, 0, none⟩ = false := blk_frozen (O3.out.blk (i := 1) rfl) 0; have c3_1_1 : w3.cell? ⟨gw, 1, none⟩ = some (.slice none 0 0) := (blk_cell (O3.out.blk (i := 1) rfl) 1).trans rfl; have f3_1_1 : w3.frozen? ⟨gw, 1, none⟩ = false := blk_frozen (O3.out.blk (i := 1) rfl) 1; have c3_1_2 : w3.cell? ⟨gw, 2, none⟩ = some (.bool false) := (blk_cell (O3.out.blk (i := 1) rfl) 2).trans rfl; have f3_1_2 : w3.frozen? ⟨gw, 2, none⟩ = false := blk_frozen (O3.out.blk (i := 1) rfl) 2; have n3_0_1 : gx ≠ gw := O3.out.ne (i := 0) (j := 1) rfl rfl (by decide); have n3_1_0 : gw ≠ gx := O3.out.ne (i := 1) (j := 0) rfl rfl (by decide); clear o_ k_; have O4 : Aside0 (Own N w3 [cells gx #[o, n, .slice A0 l.length c0] 35, WRB w.heap.size gw (nil', false)]) := ⟨wbNew (Nat.le_of_not_lt (fun q_ => (O3.out.far (i := 1) rfl) (by rw [HN.out]; exact q_))) O3.out (i := 1) rfl⟩; clear O3) | ((with_reducible refine gC 104 rfl ?_); refine goesL_ (some 15) rfl rfl Tryd.func104 (by kernel_rfl) rfl #[.pointer (some ⟨gw, 0, none⟩), o] rfl (by (try simp only [List.map_toArray, List.map_cons, List.map_nil]); first | done | rfl) ?_; obtain ⟨N_, on_, nn_, rr_, bb_⟩ := O4.out.frame1 (i := 1) rfl; refine (wbNum (Am (Tab.below HT.out (kw_ K3 HN))) K3.out.size o (by have := HZ.out; exact wfP (by omega) (by omega)) (Nat.zero_le _) on_).mono ?_; rintro e_ w5 ⟨rfl, oo_, kk_⟩; obtain ⟨o_, k_⟩ := bb_ _ _ _ kk_ oo_; refine ⟨_, rfl, ?_⟩; have O5 : Aside0 (Own N w5 [cells gx #[o, n, .slice A0 l.length c0] 35, WRB w.heap.size gw (addN (nil', false) o)]) := ⟨o_⟩; have K5 : Aside0 (KeepS N w w5) := ⟨K3.out.trans k_⟩; clear c3_0_0 f3_0_0 c3_0_1 f3_0_1 c3_0_2 f3_0_2 c3_1_0 f3_1_0 c3_1_1 f3_1_1 c3_1_2 f3_1_2 n3_0_1 n3_1_0 O4 K3; have c5_0_0 : w5.cell? ⟨gx, 0, none⟩ = some (.int .i64 o) := (blk_cell (O5.out.blk (i := 0) rfl) 0).trans rfl; have f5_0_0 : w5.frozen? ⟨gx, 0, none⟩ = false := blk_frozen (O5.out.blk (i := 0) rfl) 0; have c5_0_1 : w5.cell? ⟨gx, 1, none⟩ = some (.int .i64 n) := (blk_cell (O5.out.blk (i := 0) rfl) 1).trans rfl; have f5_0_1 : w5.frozen? ⟨gx, 1, none⟩ = false := blk_frozen (O5.out.blk (i := 0) rfl) 1; have c5_0_2 : w5.cell? ⟨gx, 2, none⟩ = some (.slice A0 l.length c0) := (blk_cell (O5.out.blk (i := 0) rfl) 2).trans rfl; have f5_0_2 : w5.frozen? ⟨gx, 2, none⟩ = false := blk_frozen (O5.out.blk (i := 0) rfl) 2; clear o_ k_ oo_ kk_ on_ nn_ rr_ bb_) | ((with_reducible refine gC 104 rfl ?_); refine goesL_ (some 18) rfl rfl Tryd.func104 (by kernel_rfl) rfl #[.pointer (some ⟨gw, 0, none⟩), n] rfl (by (try simp only [List.map_toArray, List.map_cons, List.map_nil]); first | done | rfl) ?_; obtain ⟨N_, on_, nn_, rr_, bb_⟩ := O5.out.frame1 (i := 1) rfl; refine (wbNum (Am (Tab.below HT.out (kw_ K5 HN))) K5.out.size n (by have := HZ.out; exact wfP (by omega) (by omega)) (by show (nil' ++ (numP o).1).size ≤ _; rw [nil_app]; have := numP_size o; omega) on_).mono ?_; rintro e_ w6 ⟨rfl, oo_, kk_⟩; obtain ⟨o_, k_⟩ := bb_ _ _ _ kk_ oo_; refine ⟨_, rfl, ?_⟩; have O6 : Aside0 (Own N w6 [cells gx #[o, n, .slice A0 l.length c0] 35, WRB w.heap.size gw (addN (addN (nil', false) o) n)]) := ⟨o_⟩; have K6 : Aside0 (KeepS N w w6) := ⟨K5.out.trans k_⟩; clear c5_0_0 f5_0_0 c5_0_1 f5_0_1 c5_0_2 f5_0_2 O5 K5; have c6_0_0 : w6.cell? ⟨gx, 0, none⟩ = some (.int .i64 o) := (blk_cell (O6.out.blk (i := 0) rfl) 0).trans rfl; have f6_0_0 : w6.frozen? ⟨gx, 0, none⟩ = false := blk_frozen (O6.out.blk (i := 0) rfl) 0; have c6_0_1 : w6.cell? ⟨gx, 1, none⟩ = some (.int .i64 n) := (blk_cell (O6.out.blk (i := 0) rfl) 1).trans rfl; have f6_0_1 : w6.frozen? ⟨gx, 1, none⟩ = false := blk_frozen (O6.out.blk (i := 0) rfl) 1; have c6_0_2 : w6.cell? ⟨gx, 2, none⟩ = some (.slice A0 l.length c0) := (blk_cell (O6.out.blk (i := 0) rfl) 2).trans rfl; have f6_0_2 : w6.frozen? ⟨gx, 2, none⟩ = false := blk_frozen (O6.out.blk (i := 0) rfl) 2; clear o_ k_ oo_ kk_ on_ nn_ rr_ bb_) | ((with_reducible refine gC 104 rfl ?_); refine goesL_ (some 22) rfl rfl Tryd.func104 (by kernel_rfl) rfl #[.pointer (some ⟨gw, 0, none⟩), (l.length : Int)] rfl (by (try simp only [List.map_toArray, List.map_cons, List.map_nil]); first | done | rfl) ?_; obtain ⟨N_, on_, nn_, rr_, bb_⟩ := O6.out.frame1 (i := 1) rfl; refine (wbNum (Am (Tab.below HT.out (kw_ K6 HN))) K6.out.size (l.length : Int) (by have := HZ.out; exact wfP (by omega) (by omega)) (by show ((nil' ++ (numP o).1) ++ (numP n).1).size ≤ _; rw [nil_app, ByteArray.size_append]; have := numP_size o; have := numP_size n; omega) on_).mono ?_; rintro e_ w7 ⟨rfl, oo_, kk_⟩; obtain ⟨o_, k_⟩ := bb_ _ _ _ kk_ oo_; refine ⟨_, rfl, ?_⟩; have O7 : Aside0 (Own N w7 [cells gx #[o, n, .slice A0 l.length c0] 35, WRB w.heap.size gw (headW o n l.length)]) := ⟨o_⟩; have K7 : Aside0 (KeepS N w w7) := ⟨K6.out.trans k_⟩; clear c6_0_0 f6_0_0 c6_0_1 f6_0_1 c6_0_2 f6_0_2 O6 K6; have c7_0_0 : w7.cell? ⟨gx, 0, none⟩ = some (.int .i64 o) := (blk_cell (O7.out.blk (i := 0) rfl) 0).trans rfl; have f7_0_0 : w7.frozen? ⟨gx, 0, none⟩ = false := blk_frozen (O7.out.blk (i := 0) rfl) 0; have c7_0_1 : w7.cell? ⟨gx, 1, none⟩ = some (.int .i64 n) := (blk_cell (O7.out.blk (i := 0) rfl) 1).trans rfl; have f7_0_1 : w7.frozen? ⟨gx, 1, none⟩ = false := blk_frozen (O7.out.blk (i := 0) rfl) 1; have c7_0_2 : w7.cell? ⟨gx, 2, none⟩ = some (.slice A0 l.length c0) := (blk_cell (O7.out.blk (i := 0) rfl) 2).trans rfl; have f7_0_2 : w7.frozen? ⟨gx, 2, none⟩ = false := blk_frozen (O7.out.blk (i := 0) rfl) 2; clear o_ k_ oo_ kk_ on_ nn_ rr_ bb_))
  go_loopw [26] (fun i wr => RpI N w o n l gw i wr) (fun i _ => l.length - (intOf i).toNat)
  case atStart => exact ⟨0, by omega, by omega, rfl, ⟨by rw [partB_0, ← HS0.out]; exact O7.out.pick1 (a := 1) rfl⟩, K7⟩
  case round =>
   clear c7_0_0 f7_0_0 c7_0_1 f7_0_1 c7_0_2 f7_0_2
   obtain ⟨x, hx0, hx1, rfl, OA, KA⟩ := hrel
   have hF2 := keepF HRL_0.out KA.out
   by_cases hlt : x < (l.length : Int)
   ·obtain ⟨ad, e3, x0, x1, x2, x3⟩ := at_T32 (Kd.F_now hF2) x hx0 hlt
    cases e3
    have hs2 : wrap64 (x + 1) = x + 1 := by unfold wrap64; omega
    have hp := eq_true hx0
    have hq := eq_true hlt
    have hd := decide_eq_true hlt
    have HX := Am (And.intro hx0 hlt)
    have HMX := Am (HZ.out.2.2.2.2.2.2 _ (rd_memP x hx0 hlt))
    clear hF2 hx0 hx1 hlt
    have O8 : Aside0 (Own N wr [WRB w.heap.size gw (partB o n l x, false)]) := ⟨OA.out⟩
    have K8 : Aside0 (KeepS N w wr) := ⟨KA.out⟩
    clear OA KA
    go_wp2_with (first | ((with_reducible refine gD 7 rfl ?_); refine own_box rfl (D := 7) rfl (cs := #[.string (⟨#[]⟩ : ByteArray), .int .i64 0, .int .i64 0, .string (⟨#[]⟩ : ByteArray)]) (t := 32) gs_ O8.out ?_; intro gu w9 o_ k_; have O9 : Aside0 (Own N w9 [WRB w.heap.size gw (partB o n l x, false), cells gu #[.string (⟨#[]⟩ : ByteArray), .int .i64 0, .int .i64 0, .string (⟨#[]⟩ : ByteArray)] 32]) := ⟨o_⟩; have K9 : Aside0 (KeepS N w w9) := ⟨K8.out.trans k_⟩; clear O8 K8; have c9_1_0 : w9.cell? ⟨gu, 0, none⟩ = some (.string (⟨#[]⟩ : ByteArray)) := (blk_cell (O9.out.blk (i := 1) rfl) 0).trans rfl; have f9_1_0 : w9.frozen? ⟨gu, 0, none⟩ = false := blk_frozen (O9.out.blk (i := 1) rfl) 0; have c9_1_1 : w9.cell? ⟨gu, 1, none⟩ = some (.int .i64 0) := (blk_cell (O9.out.blk (i := 1) rfl) 1).trans rfl; have f9_1_1 : w9.frozen? ⟨gu, 1, none⟩ = false := blk_frozen (O9.out.blk (i := 1) rfl) 1; have c9_1_2 : w9.cell? ⟨gu, 2, none⟩ = some (.int .i64 0) := (blk_cell (O9.out.blk (i := 1) rfl) 2).trans rfl; have f9_1_2 : w9.frozen? ⟨gu, 2, none⟩ = false := blk_frozen (O9.out.blk (i := 1) rfl) 2; have c9_1_3 : w9.cell? ⟨gu, 3, none⟩ = some (.string (⟨#[]⟩ : ByteArray)) := (blk_cell (O9.out.blk (i := 1) rfl) 3).trans rfl; have f9_1_3 : w9.frozen? ⟨gu, 3, none⟩ = false := blk_frozen (O9.out.blk (i := 1) rfl) 3; clear o_ k_) | ((with_reducible refine gT 32 7 rfl ?_); refine own_store rfl rfl rfl (w1 := (World.setCell (World.setCell (World.setCell (World.setCell w9 ⟨gu, 0, none⟩ (.string (rd_T32 l x).f0)) ⟨gu, 1, none⟩ (.int .i64 (rd_T32 l x).f1)) ⟨gu, 2, none⟩ (.int .i64 (rd_T32 l x).f2)) ⟨gu, 3, none⟩ (.string (rd_T32 l x).f3))) (N := N) (l' := [WRB w.heap.size gw (partB o n l x, false), cells gu #[.string (rd_T32 l x).f0, .int .i64 (rd_T32 l x).f1, .int .i64 (rd_T32 l x).f2, .string (rd_T32 l x).f3] 32]) gs_ ?ho ?hk ?_; (case ho => exact ((((O9.out.set (i := 1) rfl 0 (.string (rd_T32 l x).f0)).set (i := 1) rfl 1 (.int .i64 (rd_T32 l x).f1)).set (i := 1) rfl 2 (.int .i64 (rd_T32 l x).f2)).set (i := 1) rfl 3 (.string (rd_T32 l x).f3))); (case hk => exact ((((KeepS.setCell (O9.out.far (i := 1) rfl) (.string (rd_T32 l x).f0)).trans (KeepS.setCell (O9.out.far (i := 1) rfl) (.int .i64 (rd_T32 l x).f1))).trans (KeepS.setCell (O9.out.far (i := 1) rfl) (.int .i64 (rd_T32 l x).f2))).trans (KeepS.setCell (O9.out.far (i := 1) rfl) (.string (rd_T32 l x).f3)))); intro w10 o_ k_; have O10 : Aside0 (Own N w10 [WRB w.heap.size gw (partB o n l x, false), cells gu #[.string (rd_T32 l x).f0, .int .i64 (rd_T32 l x).f1, .int .i64 (rd_T32 l x).f2, .string (rd_T32 l x).f3] 32]) := ⟨o_⟩; have K10 : Aside0 (KeepS N w w10) := ⟨K9.out.trans k_⟩; clear c9_1_0 f9_1_0 c9_1_1 f9_1_1 c9_1_2 f9_1_2 c9_1_3 f9_1_3 O9 K9; have c10_1_0 : w10.cell? ⟨gu, 0, none⟩ = some (.string (rd_T32 l x).f0) := (blk_cell (O10.out.blk (i := 1) rfl) 0).trans rfl; have f10_1_0 : w10.frozen? ⟨gu, 0, none⟩ = false := blk_frozen (O10.out.blk (i := 1) rfl) 0; have c10_1_1 : w10.cell? ⟨gu, 1, none⟩ = some (.int .i64 (rd_T32 l x).f1) := (blk_cell (O10.out.blk (i := 1) rfl) 1).trans rfl; have f10_1_1 : w10.frozen? ⟨gu, 1, none⟩ = false := blk_frozen (O10.out.blk (i := 1) rfl) 1; have c10_1_2 : w10.cell? ⟨gu, 2, none⟩ = some (.int .i64 (rd_T32 l x).f2) := (blk_cell (O10.out.blk (i := 1) rfl) 2).trans rfl; have f10_1_2 : w10.frozen? ⟨gu, 2, none⟩ = false := blk_frozen (O10.out.blk (i := 1) rfl) 2; have c10_1_3 : w10.cell? ⟨gu, 3, none⟩ = some (.string (rd_T32 l x).f3) := (blk_cell (O10.out.blk (i := 1) rfl) 3).trans rfl; have f10_1_3 : w10.frozen? ⟨gu, 3, none⟩ = false := blk_frozen (O10.out.blk (i := 1) rfl) 3; clear o_ k_) | ((with_reducible refine gC 105 rfl ?_); refine goesL_ (some 31) rfl rfl Tryd.func105 (by kernel_rfl) rfl #[.pointer (some ⟨gw, 0, none⟩), .agg #[.string (rd_T32 l x).f0, .int .i64 (rd_T32 l x).f1, .int .i64 (rd_T32 l x).f2, .string (rd_T32 l x).f3]] rfl (by (try simp only [List.map_toArray, List.map_cons, List.map_nil]); first | done | rfl) ?_; obtain ⟨N_, on_, nn_, rr_, bb_⟩ := O10.out.frame1 (i := 0) rfl; refine (wbUpd (Am (Tab.below HT.out (kw_ K10 HN))) (tab_lt HT.out) K10.out.size _ _ _ _ (mayU_wf HMX.out).1 (mayU_wf HMX.out).2.1 (by have q_ := partB_size o n (l := l) x HZ.out.2.2.2.2.2.1 HZ.out.2.2.2.2.2.2; have q1 := mayU_wf HMX.out; show (partB o n l x).size + (rd_T32 l x).f0.size + (rd_T32 l x).f3.size ≤ 140737488354900; omega) on_).mono ?_; rintro e_ w11 ⟨rfl, oo_, kk_⟩; obtain ⟨o_, k_⟩ := bb_ _ _ _ kk_ oo_; refine ⟨_, rfl, ?_⟩; have O11 : Aside0 (Own N w11 [WRB w.heap.size gw (addU (partB o n l x, false) (rd_T32 l x).f0 (rd_T32 l x).f1 (rd_T32 l x).f2 (rd_T32 l x).f3), cells gu #[.string (rd_T32 l x).f0, .int .i64 (rd_T32 l x).f1, .int .i64 (rd_T32 l x).f2, .string (rd_T32 l x).f3] 32]) := ⟨o_⟩; have K11 : Aside0 (KeepS N w w11) := ⟨K10.out.trans k_⟩; clear c10_1_0 f10_1_0 c10_1_1 f10_1_1 c10_1_2 f10_1_2 c10_1_3 f10_1_3 O10 K10; have c11_1_0 : w11.cell? ⟨gu, 0, none⟩ = some (.string (rd_T32 l x).f0) := (blk_cell (O11.out.blk (i := 1) rfl) 0).trans rfl; have f11_1_0 : w11.frozen? ⟨gu, 0, none⟩ = false := blk_frozen (O11.out.blk (i := 1) rfl) 0; have c11_1_1 : w11.cell? ⟨gu, 1, none⟩ = some (.int .i64 (rd_T32 l x).f1) := (blk_cell (O11.out.blk (i := 1) rfl) 1).trans rfl; have f11_1_1 : w11.frozen? ⟨gu, 1, none⟩ = false := blk_frozen (O11.out.blk (i := 1) rfl) 1; have c11_1_2 : w11.cell? ⟨gu, 2, none⟩ = some (.int .i64 (rd_T32 l x).f2) := (blk_cell (O11.out.blk (i := 1) rfl) 2).trans rfl; have f11_1_2 : w11.frozen? ⟨gu, 2, none⟩ = false := blk_frozen (O11.out.blk (i := 1) rfl) 2; have c11_1_3 : w11.cell? ⟨gu, 3, none⟩ = some (.string (rd_T32 l x).f3) := (blk_cell (O11.out.blk (i := 1) rfl) 3).trans rfl; have f11_1_3 : w11.frozen? ⟨gu, 3, none⟩ = false := blk_frozen (O11.out.blk (i := 1) rfl) 3; clear o_ k_ oo_ kk_ on_ nn_ rr_ bb_))
    go_roundw
    case rel => exact ⟨x + 1, by have := HX.out; omega, by have := HX.out; omega, int_eqP (by unfold wrap64; have := HX.out; have := HZ.out; omega), ⟨by rw [← partB_s o n l x HX.out.1 HX.out.2 HMX.out]; exact O11.out.pick1 (a := 0) rfl⟩, K11⟩
    case measure => have := HX.out; simp [intOf]; omega
   ·have hxe : x = (l.length : Int) := by omega
    subst hxe
    have hd : decide ((l.length : Int) < (l.length : Int)) = false := decide_eq_false (Int.lt_irrefl _)
    have HR1 : Aside0 (r1 = partB o n l l.length ∧ r2 = 0) := ⟨by have := HH.out; rw [HS0.out, addsW_ok _ _ HZ.out.2.2.2.2.2.2] at this; rw [partB_all]; injection this with a b; exact ⟨a.symm, b.symm⟩⟩
    clear hlt hx0 hx1 hF2 hl8
    have O12 : Aside0 (Own N wr [WRB w.heap.size gw (partB o n l l.length, false)]) := ⟨OA.out⟩
    have K12 : Aside0 (KeepS N w wr) := ⟨KA.out⟩
    clear OA KA
    go_wp2_with (first | ((with_reducible refine gC 106 rfl ?_); refine goesL_ (some 33) rfl rfl Tryd.func106 (by kernel_rfl) rfl #[.pointer (some ⟨gw, 0, none⟩)] rfl (by (try simp only [List.map_toArray, List.map_cons, List.map_nil]); first | done | rfl) ?_; obtain ⟨N_, on_, nn_, rr_, bb_⟩ := O12.out.frame1 (i := 0) rfl; refine (wbBytes K12.out.size (partB o n l l.length) 0 rfl on_).mono ?_; rintro e_ w13 ⟨rfl, oo_, kk_⟩; obtain ⟨o_, k_⟩ := bb_ _ _ _ kk_ oo_; refine ⟨_, rfl, ?_⟩; have O13 : Aside0 (Own N w13 [WRB w.heap.size gw (partB o n l l.length, false)]) := ⟨o_⟩; have K13 : Aside0 (KeepS N w w13) := ⟨K12.out.trans k_⟩; clear O12 K12 o_ k_ oo_ kk_ on_ nn_ rr_ bb_))
    go_ret2
    rw [HR1.out.1, HR1.out.2]
    exact ⟨rfl, (kw_ K13 HN)⟩
 ·rw [if_neg he] at h
  have HM := Am hm
  simp only [Option.some.injEq, Prod.mk.injEq] at h
  obtain ⟨rfl, rfl⟩ := h
  have d1 : (e0 == 0) = false := beq_eq_false_iff_ne.mpr he
  have d2 : (e0 != 0) = true := bne_iff_ne.mpr he
  clear hm he
  go_enter Tryd.func94, Tryd.ntmps94
  go_wp2_with (first | ((with_reducible refine gD 1 rfl ?_); refine own_box rfl (D := 1) rfl (cs := #[o, n, .slice A0 l.length c0]) (t := 35) gs_ O0.out ?_; intro gx w1 o_ k_; have O1 : Aside0 (Own N w1 [cells gx #[o, n, .slice A0 l.length c0] 35]) := ⟨o_⟩; have K1 : Aside0 (KeepS N w w1) := ⟨K0.out.trans k_⟩; clear O0 K0; have c1_0_0 : w1.cell? ⟨gx, 0, none⟩ = some (.int .i64 o) := (blk_cell (O1.out.blk (i := 0) rfl) 0).trans rfl; have f1_0_0 : w1.frozen? ⟨gx, 0, none⟩ = false := blk_frozen (O1.out.blk (i := 0) rfl) 0; have c1_0_1 : w1.cell? ⟨gx, 1, none⟩ = some (.int .i64 n) := (blk_cell (O1.out.blk (i := 0) rfl) 1).trans rfl; have f1_0_1 : w1.frozen? ⟨gx, 1, none⟩ = false := blk_frozen (O1.out.blk (i := 0) rfl) 1; have c1_0_2 : w1.cell? ⟨gx, 2, none⟩ = some (.slice A0 l.length c0) := (blk_cell (O1.out.blk (i := 0) rfl) 2).trans rfl; have f1_0_2 : w1.frozen? ⟨gx, 2, none⟩ = false := blk_frozen (O1.out.blk (i := 0) rfl) 2; clear o_ k_) | ((with_reducible refine gC 96 rfl ?_); refine goesL_ (some 9) rfl rfl Tryd.func96 (by kernel_rfl) rfl #[.agg #[o, n, .slice A0 l.length c0]] rfl (by (try simp only [List.map_toArray, List.map_cons, List.map_nil]); first | done | rfl) ?_; refine (round_May.calls 20 o n A0 c0 l e0 _ (Kd.C_below HR0.out (kw_ K1 HN)) HC0.out HM.out).mono ?_; rintro e_ w2 ⟨rfl, hb_⟩; refine ⟨_, rfl, ?_⟩; have o_ := O1.out.below hb_; have k_ := KeepS.of_below (N := N) hb_; have O2 : Aside0 (Own N w2 [cells gx #[o, n, .slice A0 l.length c0] 35]) := ⟨o_⟩; have K2 : Aside0 (KeepS N w w2) := ⟨K1.out.trans k_⟩; clear c1_0_0 f1_0_0 c1_0_1 f1_0_1 c1_0_2 f1_0_2 O1 K1; have c2_0_0 : w2.cell? ⟨gx, 0, none⟩ = some (.int .i64 o) := (blk_cell (O2.out.blk (i := 0) rfl) 0).trans rfl; have f2_0_0 : w2.frozen? ⟨gx, 0, none⟩ = false := blk_frozen (O2.out.blk (i := 0) rfl) 0; have c2_0_1 : w2.cell? ⟨gx, 1, none⟩ = some (.int .i64 n) := (blk_cell (O2.out.blk (i := 0) rfl) 1).trans rfl; have f2_0_1 : w2.frozen? ⟨gx, 1, none⟩ = false := blk_frozen (O2.out.blk (i := 0) rfl) 1; have c2_0_2 : w2.cell? ⟨gx, 2, none⟩ = some (.slice A0 l.length c0) := (blk_cell (O2.out.blk (i := 0) rfl) 2).trans rfl; have f2_0_2 : w2.frozen? ⟨gx, 2, none⟩ = false := blk_frozen (O2.out.blk (i := 0) rfl) 2; clear o_ k_ hb_))
  go_ret2
  exact ⟨rfl, (kw_ K2 HN)⟩
end Go.Proofs.YtjdenpmaianmfaaDoor.Q
