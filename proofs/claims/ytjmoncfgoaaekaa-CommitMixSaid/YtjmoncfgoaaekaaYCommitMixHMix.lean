/- The law CommitMix: of two origins' rounds, however they are mixed, the common order has of each one the same: a plain walk through its text. -/
import Derived.Test.YtjmoncfgoaaekaaYCommitMixC6
namespace Go.Proofs.Ytjmoncfgoaaekaa.J
set_option linter.unusedSimpArgs false
set_option linter.unusedVariables false
open Go Go.RowKit Go.Proofs.YtjmoncfgoaaekaaW.PrintWords Go.Proofs.YtjmoncfgoaaekaaW.PrintLast Go.Proofs.YtjmoncfgoaaekaaW.PrintMore Go.Proofs.Ytjmoncfgoaaekaa.Q Go.Proofs.Ytjmoncfgoaaekaa.Sep Go.Proofs.Ytjmoncfgoaaekaa.Pure
attribute [local go_sem] max2_int min2_int max_two min_two max_three min_three max_four min_four
theorem Add_a {N : Nat → Prop} {w : World} {g : Nat} {C : Int} {L : List Rnd} (B : Option Addr) (c : Nat) (r : Rnd) (h : Own N w [ObjC g C L]) (hr : Kd.F k47 w N B r.f2.length r.f2) (hc : r.f2.length ≤ c) (hL : L.length ≤ 1000000) (hu : r.f2.length ≤ 1000000) (hg : Good C L) :
    Calls Try.prog 13 #[.pointer (some ⟨g, 0, none⟩), .agg #[.int .i64 r.f0, .int .i64 r.f1, .slice B r.f2.length c]] w fun e_ w' => e_ = .returned (.int .i64 (addE C L r)) ∧ Own N w' [ObjC g C (addL C L r)] ∧ KeepS N w w' := by
  by_cases he : addE C L r = 0
  · rw [addE_pos he, he]
    exact Add_y B c r.f0 r.f1 r.f2 h hr hc hL hu hg he
  · rw [addE_neg he]
    exact Add_n B c r.f0 r.f1 r.f2 h hr hc hL hu hg _ rfl he
theorem good_add {C : Int} {L : List Rnd} (r : Rnd) (h : Good C L) : Good C (addL C L r) := by
  by_cases he : addE C L r = 0
  · rw [addE_pos he]; exact good_snoc h he
  · rw [addE_neg he]; exact h
theorem add_len (C : Int) (L : List Rnd) (r : Rnd) : (addL C L r).length ≤ L.length + 1 := by unfold addL; split <;> simp
def logN (l : List Rnd) : Nat → List Rnd
  | 0 => []
  | n + 1 => addL 64 (logN l n) (l.getD n z31)
def LA (l : List Rnd) (x : Int) : List Rnd := logN l x.toNat
theorem LA_s (l : List Rnd) (x : Int) (h : 0 ≤ x) : LA l (x + 1) = addL 64 (LA l x) (rd_T31 l x) := by
  unfold LA
  rw [show (x + 1).toNat = x.toNat + 1 by omega]
  rfl
theorem logN_good (l : List Rnd) : ∀ n, Good 64 (logN l n) ∧ (logN l n).length ≤ n
  | 0 => ⟨good_nil _, Nat.le_refl _⟩
  | n + 1 => by
    have ih := logN_good l n
    refine ⟨good_add _ ih.1, ?_⟩
    have := add_len 64 (logN l n) (l.getD n z31)
    show (addL 64 (logN l n) (l.getD n z31)).length ≤ n + 1
    omega
theorem LA_good (l : List Rnd) (x : Int) : Good 64 (LA l x) := (logN_good l _).1
theorem LA_len (l : List Rnd) (x : Int) (h : 0 ≤ x) : ((LA l x).length : Int) ≤ x := by have := (logN_good l x.toNat).2; unfold LA; omega
def own (fi : Int) (L : List Rnd) : List Rnd := L.filter fun r => decide (r.f0 = fi)
def oth (fi : Int) (L : List Rnd) : List Rnd := L.filter fun r => !decide (r.f0 = fi)
theorem lastOf_app (o : Int) (L M : List Rnd) : lastOf o (L ++ M) = M.foldl (fun a r => if r.f0 = o then r.f1 else a) (lastOf o L) := by unfold lastOf; rw [List.foldl_append]
theorem fold_not (o : Int) : ∀ (M : List Rnd) (a : Int), (∀ r ∈ M, r.f0 ≠ o) → M.foldl (fun a r => if r.f0 = o then r.f1 else a) a = a
  | [], a, _ => rfl
  | r :: M, a, h => by
    rw [List.foldl_cons, if_neg (h r (by simp))]
    exact fold_not o M a (fun q hq => h q (by simp [hq]))
theorem lastOf_not {o : Int} {L : List Rnd} (M : List Rnd) (h : ∀ r ∈ L, r.f0 ≠ o) : lastOf o (L ++ M) = lastOf o M := by
  rw [lastOf_app]
  unfold lastOf
  rw [fold_not o L 0 h]
theorem fold_own (fi : Int) (p : Rnd → Bool) (hp : ∀ r : Rnd, r.f0 = fi → p r = true) : ∀ (M : List Rnd) (a : Int), (M.filter p).foldl (fun a r => if r.f0 = fi then r.f1 else a) a = M.foldl (fun a r => if r.f0 = fi then r.f1 else a) a
  | [], a => rfl
  | r :: M, a => by
    rw [List.filter_cons, List.foldl_cons]
    by_cases h : r.f0 = fi
    · rw [if_pos (hp r h), List.foldl_cons, if_pos h]
      exact fold_own fi p hp M _
    · rw [if_neg h]
      split
      · rw [List.foldl_cons, if_neg h]
        exact fold_own fi p hp M a
      · exact fold_own fi p hp M a
theorem lastOf_own (fi : Int) (L : List Rnd) : lastOf fi (own fi L) = lastOf fi L := fold_own fi _ (fun r h => decide_eq_true h) L 0
theorem lastOf_oth {fi o : Int} (h : o ≠ fi) (L : List Rnd) : lastOf o (oth fi L) = lastOf o L := fold_own o _ (fun r hr => by simp; omega) L 0
theorem mem_own {fi : Int} {L : List Rnd} {r : Rnd} (h : r ∈ own fi L) : r ∈ L ∧ r.f0 = fi := by have := List.mem_filter.1 h; exact ⟨this.1, of_decide_eq_true this.2⟩
theorem mem_oth {fi : Int} {L : List Rnd} {r : Rnd} (h : r ∈ oth fi L) : r ∈ L ∧ r.f0 ≠ fi := by have := List.mem_filter.1 h; exact ⟨this.1, by simpa using this.2⟩
theorem addE_last {C : Int} {L M : List Rnd} {r : Rnd} (h : lastOf r.f0 L = lastOf r.f0 M) : addE C L r = addE C M r := by unfold addE; rw [h]
theorem own_yes {C fi : Int} {L : List Rnd} {r : Rnd} (h : r.f0 = fi) : own fi (addL C L r) = addL C (own fi L) r := by
  have e : addE C (own fi L) r = addE C L r := addE_last (by rw [h]; exact lastOf_own fi L)
  unfold addL
  rw [e]
  split
  · unfold own
    rw [List.filter_append, List.filter_cons, if_pos (decide_eq_true h)]
    rfl
  · rfl
theorem own_no {C fi : Int} {L : List Rnd} {r : Rnd} (h : r.f0 ≠ fi) : own fi (addL C L r) = own fi L := by
  unfold addL
  split
  · unfold own
    rw [List.filter_append, List.filter_cons, if_neg (by simpa using h)]
    simp
  · rfl
theorem oth_yes {C fi : Int} {L : List Rnd} {r : Rnd} (h : r.f0 = fi) : oth fi (addL C L r) = oth fi L := by
  unfold addL
  split
  · unfold oth
    rw [List.filter_append, List.filter_cons, if_neg (by simp [h])]
    simp
  · rfl
theorem mix_no {C fi : Int} {L M : List Rnd} {r : Rnd} (h : r.f0 ≠ fi) : addL C (own fi L ++ oth fi M) r = own fi L ++ oth fi (addL C M r) := by
  have e : addE C (own fi L ++ oth fi M) r = addE C M r := addE_last (by rw [lastOf_not _ (fun q hq => by rw [(mem_own hq).2]; exact fun e => h e.symm), lastOf_oth h])
  unfold addL
  rw [e]
  split
  · unfold oth
    rw [List.filter_append, List.filter_cons, if_pos (by simpa using h), List.append_assoc]
    rfl
  · rfl
theorem own_mix (fi : Int) (L : List Rnd) : own fi (own fi L ++ oth fi L) = own fi L := by
  have h1 : own fi (own fi L) = own fi L := by unfold own; rw [List.filter_filter]; simp
  have h2 : own fi (oth fi L) = [] := by
    unfold own
    rw [List.filter_eq_nil_iff]
    intro r hr
    simpa using (mem_oth hr).2
  show (own fi L ++ oth fi L).filter _ = _
  rw [List.filter_append]
  show own fi (own fi L) ++ own fi (oth fi L) = _
  rw [h1, h2, List.append_nil]
theorem len_mix (fi : Int) (L : List Rnd) : (own fi L ++ oth fi L).length = L.length := by
  unfold own oth
  induction L with
  | nil => rfl
  | cons r L ih =>
    rw [List.filter_cons, List.filter_cons]
    rw [List.length_append] at ih
    by_cases h : r.f0 = fi
    · rw [if_pos (by simpa using h), if_neg (by simpa using h)]
      simp only [List.length_append, List.length_cons] at ih ⊢
      omega
    · rw [if_neg (by simpa using h), if_pos (by simpa using h)]
      simp only [List.length_append, List.length_cons] at ih ⊢
      omega
theorem last_mix (fi : Int) (L : List Rnd) : lastOf fi (own fi L ++ oth fi L) = lastOf fi L := by
  rw [lastOf_app, fold_not fi _ _ (fun r hr => (mem_oth hr).2), lastOf_own]
theorem good_mix {C fi : Int} {L M : List Rnd} (h : Good C L) (k : Good C M) : Good C (own fi L ++ oth fi M) := fun r hr => by
  rcases List.mem_append.1 hr with hr | hr
  · exact h r (mem_own hr).1
  · exact k r (mem_oth hr).1
theorem mix_le (fi : Int) (L M : List Rnd) : (own fi L ++ oth fi M).length ≤ L.length + M.length := by
  rw [List.length_append]
  have h1 : (own fi L).length ≤ L.length := List.length_filter_le _ _
  have h2 : (oth fi M).length ≤ M.length := List.length_filter_le _ _
  omega
theorem mix_0 (fi : Int) (L l : List Rnd) : own fi L ++ oth fi (LA l 0) = own fi L := List.append_nil _
theorem own_upTo_yes {fi : Int} {L : List Rnd} {y : Int} (h0 : 0 ≤ y) (h1 : y < L.length) (h : (rd_T31 L y).f0 = fi) : own fi (upTo L (y + 1)) = own fi (upTo L y) ++ [rd_T31 L y] := by
  rw [upTo_snoc L y h0 h1]
  unfold own
  rw [List.filter_append, List.filter_cons, if_pos (decide_eq_true h)]
  rfl
theorem own_upTo_no {fi : Int} {L : List Rnd} {y : Int} (h0 : 0 ≤ y) (h1 : y < L.length) (h : (rd_T31 L y).f0 ≠ fi) : own fi (upTo L (y + 1)) = own fi (upTo L y) := by
  rw [upTo_snoc L y h0 h1]
  unfold own
  rw [List.filter_append, List.filter_cons, if_neg (by simpa using h)]
  simp
def Lead (N : Nat → Prop) (w : World) (rows : List (List Value)) (xs : List Rnd) : Prop := rows.length = xs.length ∧ ∀ (j : Nat) (x : Rnd) (c : List Value), xs[j]? = some x → rows[j]? = some c → Kd.FK k31 w N x c
theorem Lead.none (N : Nat → Prop) (w : World) : Lead N w [] [] := ⟨rfl, fun j x c h => by simp at h⟩
theorem Lead.keep {N : Nat → Prop} {w w' : World} {rows : List (List Value)} {xs : List Rnd} (h : Lead N w rows xs) (hk : KeepS N w w') : Lead N w' rows xs := ⟨h.1, fun j x c a b => keepFK (h.2 j x c a b) hk⟩
theorem Lead.mono {N N' : Nat → Prop} {w : World} {rows : List (List Value)} {xs : List Rnd} (h : Lead N w rows xs) (hn : ∀ k, N k → N' k) : Lead N' w rows xs := ⟨h.1, fun j x c a b => Kd.FK_mono (h.2 j x c a b) hn⟩
theorem Lead.snoc {N : Nat → Prop} {w : World} {rows : List (List Value)} {xs : List Rnd} {x : Rnd} {c : List Value} (h : Lead N w rows xs) (hx : Kd.FK k31 w N x c) : Lead N w (rows ++ [c]) (xs ++ [x]) := by
  refine ⟨by simp [h.1], fun j y d a b => ?_⟩
  rcases Nat.lt_or_ge j xs.length with hj | hj
  · rw [List.getElem?_append_left hj] at a
    rw [List.getElem?_append_left (by rw [h.1]; exact hj)] at b
    exact h.2 j y d a b
  · rw [List.getElem?_append_right hj] at a
    rw [List.getElem?_append_right (by rw [h.1]; exact hj), h.1] at b
    have hj0 : j - xs.length = 0 := by
      have := (List.getElem?_eq_some_iff.1 a).1
      simp at this
      omega
    rw [hj0] at a b
    simp only [List.getElem?_cons_zero, Option.some.injEq] at a b
    subst a
    subst b
    exact hx
theorem fk_of {N : Nat → Prop} {w : World} {r : Rnd} {A : Option Addr} {c : Nat} (hl : r.f2.length ≤ c) (hF : Kd.F k47 w N A r.f2.length r.f2) : Kd.FK k31 w N r [.int .i64 r.f0, .int .i64 r.f1, .slice A r.f2.length c] := fun W' hW => k31_mk W' r hl (hF W' hW)
theorem lead_C {N : Nat → Prop} {w : World} {l : List HP} {i n c : Nat} {A : Option Addr} {rows : List (List Value)} {X : List Rnd} (h : Own N w l) (hi : l[i]? = some (nrow (Kd.raw 3) 31 (.slice A n c) rows)) (hl : Lead N w rows X) : n = X.length ∧ n ≤ c ∧ Kd.C k31 w A X.length X := by
  obtain ⟨h1, h2, h3⟩ := h.nreads hi
  refine ⟨h1.trans hl.1, h2, rfl, (by have := h3.2.1; rw [h1, hl.1] at this; exact this), fun hp => ?_⟩
  obtain ⟨ad, he, hc⟩ := h3.2.2 (by rw [h1, hl.1]; exact hp)
  refine ⟨ad, he, fun j x hx => ?_⟩
  have hj : j < rows.length := by rw [hl.1]; exact (List.getElem?_eq_some_iff.1 hx).1
  obtain ⟨c', hcl, hK, hcc⟩ := hc j _ (List.getElem?_eq_getElem hj)
  have hk := Kd.FK_now (hl.2 j x _ hx (List.getElem?_eq_getElem hj))
  refine ⟨c', hcl, ?_, hcc⟩
  rw [show c' = rows[j] from hK.1]
  exact hk
noncomputable def chapbooklaw14_CommitMix.f (l0 : List Rnd) (a1 : Int) : Option Bool := open Classical in if (Lit.int .u8 a1).wf = true then some true else none
def MxI (N : Nat → Prop) (w : World) (l0 : List Rnd) (ga gb : Nat) (fi : Int) (i : Value) (wr : World) : Prop := ∃ x : Int, 0 ≤ x ∧ x ≤ (l0.length : Int) ∧ i = .int .i64 x ∧ Aside0 (Own N wr [ObjC ga 64 (LA l0 x), ObjC gb 64 (own fi (LA l0 x))]) ∧ Aside0 (KeepS N w wr)
def MxJ (N : Nat → Prop) (w : World) (l0 L : List Rnd) (ga gb : Nat) (fi : Int) (i : Value) (wr : World) : Prop := ∃ x : Int, 0 ≤ x ∧ x ≤ (l0.length : Int) ∧ i = .int .i64 x ∧ Aside0 (Own N wr [ObjC ga 64 L, ObjC gb 64 (own fi L ++ oth fi (LA l0 x))]) ∧ Aside0 (KeepS N w wr)
def MxK (N : Nat → Prop) (w : World) (L : List Rnd) (fi : Int) (R : List HP) (v i : Value) (wr : World) : Prop := ∃ (y : Int) (A : Option Addr) (c n : Nat) (rows : List (List Value)), 0 ≤ y ∧ y ≤ (L.length : Int) ∧ i = .int .i64 y ∧ v = .slice A n c ∧ Aside0 (rows.length = n ∧ Lead N wr rows (own fi (upTo L y))) ∧ Aside0 (Own N wr (R ++ [nrow (Kd.raw 3) 31 (.slice A n c) rows])) ∧ Aside0 (KeepS N w wr)
theorem wf_u8 {n : Int} (h : (Lit.int .u8 n).wf = true) : 0 ≤ n ∧ n ≤ 255 := by
  have h2 : IntKind.u8.min ≤ n ∧ n ≤ IntKind.u8.max := by simpa [Lit.wf] using h
  have h3 : IntKind.u8.min = 0 := rfl
  have h4 : IntKind.u8.max = 255 := rfl
  omega
set_option maxHeartbeats 16000000 in
set_option maxRecDepth 100000 in
theorem chapbooklaw14_CommitMix.calls (A0 : Option Addr) (c0 : Nat) (l0 : List Rnd) (a1 : Int) (r : Bool) (w : World) (hr0 : Kd.C k31 w A0 l0.length l0) (hc0 : l0.length ≤ c0) (h : chapbooklaw14_CommitMix.f l0 a1 = some r) :
    Calls Try.prog 8 #[.slice A0 l0.length c0, .int .u8 a1] w fun e_ w' => e_ = .returned (.bool r) ∧ Below w.heap.size w w' := by
  have hwf : (Lit.int .u8 a1).wf = true := by
    unfold chapbooklaw14_CommitMix.f at h
    split at h
    · assumption
    · cases h
  unfold chapbooklaw14_CommitMix.f at h
  rw [if_pos hwf] at h
  obtain rfl : true = r := Option.some.inj h
  obtain ⟨fi, hfi⟩ : ∃ fi : Int, fi = a1 % 64 + 1 := ⟨_, rfl⟩
  have HFI : Aside0 (1 ≤ fi ∧ fi ≤ 64) := ⟨by rw [hfi]; omega⟩
  have ha1 : 0 ≤ a1 ∧ a1 ≤ 255 := wf_u8 hwf
  have hw1 : IntKind.i64.wrap a1 = a1 := by rw [IntKind.wrap_i64]; omega
  have hw2 : wrap64 (a1.tmod 64 + 1) = fi := by have : a1.tmod 64 = a1 % 64 := Int.tmod_eq_emod_of_nonneg ha1.1; rw [this, hfi]; unfold wrap64; omega
  have hw3 : wrap64 a1 = a1 := by unfold wrap64; omega
  have hw4 : IntKind.i64.wrap (a1.tmod 64 + 1) = fi := by rw [IntKind.wrap_i64]; have : a1.tmod 64 = a1 % 64 := Int.tmod_eq_emod_of_nonneg ha1.1; rw [this, hfi]; omega
  clear hfi hwf ha1
  obtain ⟨N, hN⟩ : ∃ N : Nat → Prop, N = fun k => k < w.heap.size := ⟨_, rfl⟩
  have HN := Aside0.mk hN
  have HRL0 : Aside0 (Kd.F k31 w N A0 l0.length l0) := ⟨by rw [hN]; exact Kd.C_F heapR hr0⟩
  have HR0 := Aside0.mk hr0
  have HC0 := Aside0.mk hc0
  have O0 : Aside0 (Own N w []) := ⟨Own.start_ (fun k hk => by rw [hN] at hk; exact hk)⟩
  have K0 : Aside0 (KeepS N w w) := ⟨KeepS.refl _ _⟩
  clear hN hr0 hc0
  obtain ⟨b, hgr, hgb⟩ := great14_ok l0
  have HGR := Aside0.mk hgr
  have HGB := Aside0.mk hgb
  clear hgr hgb h
  cases b with
  | true =>
    go_enter Try.func8, Try.ntmps8
    go_wp2_with (first | ((with_reducible refine gate_callee (f := 9) rfl ?_); refine goesL_ (some 18) rfl rfl Try.func9 (by kernel_rfl) rfl #[.int .i64 64] rfl (by (try simp only [List.map_toArray, List.map_cons, List.map_nil]); first | done | rfl) ?_; obtain ⟨N_, on_, nn_, rr_, bb_⟩ := O0.out.frame0; refine (New_n 64 64 (by decide) on_).mono ?_; rintro e_ w1 ⟨ga, rfl, oo_, kk_⟩; obtain ⟨o_, k_⟩ := bb_ _ _ kk_ oo_; refine ⟨_, rfl, ?_⟩; have O1 : Aside0 (Own N w1 [ObjC ga 64 []]) := ⟨o_⟩; have K1 : Aside0 (KeepS N w w1) := ⟨K0.out.trans k_⟩; clear O0 K0; clear o_ k_ oo_ kk_ on_ nn_ rr_ bb_) | ((with_reducible refine gate_callee (f := 9) rfl ?_); refine goesL_ (some 19) rfl rfl Try.func9 (by kernel_rfl) rfl #[.int .i64 64] rfl (by (try simp only [List.map_toArray, List.map_cons, List.map_nil]); first | done | rfl) ?_; obtain ⟨N_, on_, nn_, rr_, bb_⟩ := O1.out.frame0; refine (New_n 64 64 (by decide) on_).mono ?_; rintro e_ w2 ⟨gb, rfl, oo_, kk_⟩; obtain ⟨o_, k_⟩ := bb_ _ _ kk_ oo_; refine ⟨_, rfl, ?_⟩; have O2 : Aside0 (Own N w2 [ObjC ga 64 [], ObjC gb 64 []]) := ⟨o_⟩; have K2 : Aside0 (KeepS N w w2) := ⟨K1.out.trans k_⟩; clear O1 K1; clear o_ k_ oo_ kk_ on_ nn_ rr_ bb_) | ((with_reducible refine gate_callee (f := 11) rfl ?_); refine goesL_ (some 20) rfl rfl Try.func11 (by kernel_rfl) rfl #[] rfl (by (try simp only [List.map_toArray, List.map_cons, List.map_nil]); first | done | rfl) ?_; refine (awake _).mono ?_; rintro e_ w3 ⟨rfl, hb_⟩; refine ⟨_, rfl, ?_⟩; have o_ := O2.out.below hb_; have k_ := KeepS.of_below (N := N) hb_; have O3 : Aside0 (Own N w3 [ObjC ga 64 [], ObjC gb 64 []]) := ⟨o_⟩; have K3 : Aside0 (KeepS N w w3) := ⟨K2.out.trans k_⟩; clear O2 K2; clear o_ k_ hb_) | ((with_reducible refine gate_callee (f := 12) rfl ?_); refine gate_guard (by rfl) ?_; refine goesL_ (some 32) rfl rfl Try.func12 (by kernel_rfl) rfl #[.slice A0 l0.length c0] rfl (by (try simp only [List.map_toArray, List.map_cons, List.map_nil]); first | done | rfl) ?_; refine (chapbookref07_GreatAll.calls 300 _ _ l0 true _ (Kd.C_below HR0.out (K3.out.below (Nat.le_refl _) (fun k hk => by rw [HN.out]; exact hk))) HC0.out HGR.out).mono ?_; rintro e_ w4 ⟨rfl, hb_⟩; refine ⟨_, rfl, ?_⟩; have o_ := O3.out.below hb_; have k_ := KeepS.of_below (N := N) hb_; have O4 : Aside0 (Own N w4 [ObjC ga 64 [], ObjC gb 64 []]) := ⟨o_⟩; have K4 : Aside0 (KeepS N w w4) := ⟨K3.out.trans k_⟩; clear O3 K3; clear o_ k_ hb_) | ((with_reducible refine gate_callee (f := 11) rfl ?_); refine goesL_ (some 34) rfl rfl Try.func11 (by kernel_rfl) rfl #[] rfl (by (try simp only [List.map_toArray, List.map_cons, List.map_nil]); first | done | rfl) ?_; refine (awake _).mono ?_; rintro e_ w5 ⟨rfl, hb_⟩; refine ⟨_, rfl, ?_⟩; have o_ := O4.out.below hb_; have k_ := KeepS.of_below (N := N) hb_; have O5 : Aside0 (Own N w5 [ObjC ga 64 [], ObjC gb 64 []]) := ⟨o_⟩; have K5 : Aside0 (KeepS N w w5) := ⟨K4.out.trans k_⟩; clear O4 K4; clear o_ k_ hb_))
    go_ret
    exact ⟨rfl, K5.out.below (Nat.le_refl _) (fun k hk => by rw [HN.out]; exact hk)⟩
  | false =>
    obtain ⟨hl40, hl20⟩ := HGB.out rfl
    have HL40 := Aside0.mk hl40
    have HL20 := Aside0.mk hl20
    clear hl40 hl20 HGB
    go_enter Try.func8, Try.ntmps8
    go_wp2_with (first | ((with_reducible refine gate_callee (f := 9) rfl ?_); refine goesL_ (some 18) rfl rfl Try.func9 (by kernel_rfl) rfl #[.int .i64 64] rfl (by (try simp only [List.map_toArray, List.map_cons, List.map_nil]); first | done | rfl) ?_; obtain ⟨N_, on_, nn_, rr_, bb_⟩ := O0.out.frame0; refine (New_n 64 64 (by decide) on_).mono ?_; rintro e_ w1 ⟨ga, rfl, oo_, kk_⟩; obtain ⟨o_, k_⟩ := bb_ _ _ kk_ oo_; refine ⟨_, rfl, ?_⟩; have O1 : Aside0 (Own N w1 [ObjC ga 64 []]) := ⟨o_⟩; have K1 : Aside0 (KeepS N w w1) := ⟨K0.out.trans k_⟩; clear O0 K0; clear o_ k_ oo_ kk_ on_ nn_ rr_ bb_) | ((with_reducible refine gate_callee (f := 9) rfl ?_); refine goesL_ (some 19) rfl rfl Try.func9 (by kernel_rfl) rfl #[.int .i64 64] rfl (by (try simp only [List.map_toArray, List.map_cons, List.map_nil]); first | done | rfl) ?_; obtain ⟨N_, on_, nn_, rr_, bb_⟩ := O1.out.frame0; refine (New_n 64 64 (by decide) on_).mono ?_; rintro e_ w2 ⟨gb, rfl, oo_, kk_⟩; obtain ⟨o_, k_⟩ := bb_ _ _ kk_ oo_; refine ⟨_, rfl, ?_⟩; have O2 : Aside0 (Own N w2 [ObjC ga 64 [], ObjC gb 64 []]) := ⟨o_⟩; have K2 : Aside0 (KeepS N w w2) := ⟨K1.out.trans k_⟩; clear O1 K1; clear o_ k_ oo_ kk_ on_ nn_ rr_ bb_) | ((with_reducible refine gate_callee (f := 11) rfl ?_); refine goesL_ (some 20) rfl rfl Try.func11 (by kernel_rfl) rfl #[] rfl (by (try simp only [List.map_toArray, List.map_cons, List.map_nil]); first | done | rfl) ?_; refine (awake _).mono ?_; rintro e_ w3 ⟨rfl, hb_⟩; refine ⟨_, rfl, ?_⟩; have o_ := O2.out.below hb_; have k_ := KeepS.of_below (N := N) hb_; have O3 : Aside0 (Own N w3 [ObjC ga 64 [], ObjC gb 64 []]) := ⟨o_⟩; have K3 : Aside0 (KeepS N w w3) := ⟨K2.out.trans k_⟩; clear O2 K2; clear o_ k_ hb_) | ((with_reducible refine gate_callee (f := 12) rfl ?_); refine gate_guard (by rfl) ?_; refine goesL_ (some 32) rfl rfl Try.func12 (by kernel_rfl) rfl #[.slice A0 l0.length c0] rfl (by (try simp only [List.map_toArray, List.map_cons, List.map_nil]); first | done | rfl) ?_; refine (chapbookref07_GreatAll.calls 300 _ _ l0 false _ (Kd.C_below HR0.out (K3.out.below (Nat.le_refl _) (fun k hk => by rw [HN.out]; exact hk))) HC0.out HGR.out).mono ?_; rintro e_ w4 ⟨rfl, hb_⟩; refine ⟨_, rfl, ?_⟩; have o_ := O3.out.below hb_; have k_ := KeepS.of_below (N := N) hb_; have O4 : Aside0 (Own N w4 [ObjC ga 64 [], ObjC gb 64 []]) := ⟨o_⟩; have K4 : Aside0 (KeepS N w w4) := ⟨K3.out.trans k_⟩; clear O3 K3; clear o_ k_ hb_))
    go_loopw [41] (fun i wr => MxI N w l0 ga gb fi i wr) (fun i _ => l0.length - (intOf i).toNat)
    case atStart => exact ⟨0, by omega, by omega, rfl, O4, K4⟩
    case round =>
      obtain ⟨x, hx0, hx1, rfl, OA, KA⟩ := hrel
      have hF2 := keepF HRL0.out KA.out
      have hLx := HL40.out
      by_cases hlt : x < (l0.length : Int)
      · obtain ⟨ad, A3, c3, e3, x0, x1, x2, hl3, hF3⟩ := at_F hF2 x hx0 hlt
        cases e3
        have HC3 := Aside0.mk hl3
        have HF3 := Aside0.mk hF3
        have hs2 : wrap64 (x + 1) = x + 1 := by unfold wrap64; omega
        have hp := eq_true hx0
        have hq := eq_true hlt
        have hd : decide (x < (l0.length : Int)) = true := decide_eq_true hlt
        have HX := Aside0.mk (And.intro hx0 hlt)
        have HU : Aside0 ((rd_T31 l0 x).f2.length ≤ 1000000) := ⟨Nat.le_trans (HL20.out x hx0 hlt) (by decide)⟩
        have hla := LA_len l0 x hx0
        have HLA : Aside0 ((LA l0 x).length ≤ 1000000) := ⟨by omega⟩
        have HMB : Aside0 ((own fi (LA l0 x)).length ≤ 1000000) := ⟨Nat.le_trans (List.length_filter_le _ _) HLA.out⟩
        have HGB : Aside0 (Good 64 (own fi (LA l0 x))) := ⟨fun r hr => LA_good l0 x r (mem_own hr).1⟩
        clear hF3 hF2 hl3 hLx hla
        have O5 : Aside0 (Own N wr [ObjC ga 64 (LA l0 x), ObjC gb 64 (own fi (LA l0 x))]) := ⟨OA.out⟩
        have K5 : Aside0 (KeepS N w wr) := ⟨KA.out⟩
        have HRI_5 : Aside0 (Kd.F k47 wr N A3 (rd_T31 l0 x).f2.length (rd_T31 l0 x).f2) := ⟨HF3.out⟩
        clear OA KA HF3
        by_cases ho : (rd_T31 l0 x).f0 = fi
        · have hob : ((rd_T31 l0 x).f0 == fi) = true := beq_iff_eq.2 ho
          have hon : ((rd_T31 l0 x).f0 != fi) = false := by rw [ho]; simp
          have HO := Aside0.mk ho
          clear ho hlt hx0 hx1
          go_wp2_with (first | ((with_reducible refine gate_dst (N := 9) rfl ?_); refine own_box rfl (D := 9) rfl (cs := #[.int .i64 0, .int .i64 0, .slice none 0 0]) (t := 31) ?hr O5.out ?_; (case hr => first | (go_simp; done) | (go_simp; rfl)); intro gx w6 o_ k_; have O6 : Aside0 (Own N w6 [ObjC ga 64 (LA l0 x), ObjC gb 64 (own fi (LA l0 x)), cells gx #[.int .i64 0, .int .i64 0, .slice none 0 0] 31]) := ⟨o_⟩; have K6 : Aside0 (KeepS N w w6) := ⟨K5.out.trans k_⟩; have HRI_6 : Aside0 (Kd.F k47 w6 N A3 (rd_T31 l0 x).f2.length (rd_T31 l0 x).f2) := ⟨keepF HRI_5.out k_⟩; clear O5 K5 HRI_5; have c6_2_0 : w6.cell? ⟨gx, 0, none⟩ = some (.int .i64 0) := (blk_cell (O6.out.blk (i := 2) rfl) 0).trans rfl; have f6_2_0 : w6.frozen? ⟨gx, 0, none⟩ = false := blk_frozen (O6.out.blk (i := 2) rfl) 0; have c6_2_1 : w6.cell? ⟨gx, 1, none⟩ = some (.int .i64 0) := (blk_cell (O6.out.blk (i := 2) rfl) 1).trans rfl; have f6_2_1 : w6.frozen? ⟨gx, 1, none⟩ = false := blk_frozen (O6.out.blk (i := 2) rfl) 1; have c6_2_2 : w6.cell? ⟨gx, 2, none⟩ = some (.slice none 0 0) := (blk_cell (O6.out.blk (i := 2) rfl) 2).trans rfl; have f6_2_2 : w6.frozen? ⟨gx, 2, none⟩ = false := blk_frozen (O6.out.blk (i := 2) rfl) 2; clear o_ k_) | ((with_reducible refine gate_store (t := 31) (p := 9) rfl ?_); refine own_store rfl rfl rfl (w1 := (World.setCell (World.setCell (World.setCell w6 ⟨gx, 0, none⟩ (.int .i64 (rd_T31 l0 x).f0)) ⟨gx, 1, none⟩ (.int .i64 (rd_T31 l0 x).f1)) ⟨gx, 2, none⟩ (.slice A3 (rd_T31 l0 x).f2.length c3))) (N := N) (l' := [ObjC ga 64 (LA l0 x), ObjC gb 64 (own fi (LA l0 x)), cells gx #[.int .i64 (rd_T31 l0 x).f0, .int .i64 (rd_T31 l0 x).f1, .slice A3 (rd_T31 l0 x).f2.length c3] 31]) ?hr ?ho ?hk ?_; (case hr => first | (go_simp; done) | (go_simp; rfl)); (case ho => exact (((O6.out.set (i := 2) rfl 0 (.int .i64 (rd_T31 l0 x).f0)).set (i := 2) rfl 1 (.int .i64 (rd_T31 l0 x).f1)).set (i := 2) rfl 2 (.slice A3 (rd_T31 l0 x).f2.length c3))); (case hk => exact (((KeepS.setCell (O6.out.far (i := 2) rfl) (.int .i64 (rd_T31 l0 x).f0)).trans (KeepS.setCell (O6.out.far (i := 2) rfl) (.int .i64 (rd_T31 l0 x).f1))).trans (KeepS.setCell (O6.out.far (i := 2) rfl) (.slice A3 (rd_T31 l0 x).f2.length c3)))); intro w7 o_ k_; have O7 : Aside0 (Own N w7 [ObjC ga 64 (LA l0 x), ObjC gb 64 (own fi (LA l0 x)), cells gx #[.int .i64 (rd_T31 l0 x).f0, .int .i64 (rd_T31 l0 x).f1, .slice A3 (rd_T31 l0 x).f2.length c3] 31]) := ⟨o_⟩; have K7 : Aside0 (KeepS N w w7) := ⟨K6.out.trans k_⟩; have HRI_7 : Aside0 (Kd.F k47 w7 N A3 (rd_T31 l0 x).f2.length (rd_T31 l0 x).f2) := ⟨keepF HRI_6.out k_⟩; clear c6_2_0 f6_2_0 c6_2_1 f6_2_1 c6_2_2 f6_2_2 O6 K6 HRI_6; have c7_2_0 : w7.cell? ⟨gx, 0, none⟩ = some (.int .i64 (rd_T31 l0 x).f0) := (blk_cell (O7.out.blk (i := 2) rfl) 0).trans rfl; have f7_2_0 : w7.frozen? ⟨gx, 0, none⟩ = false := blk_frozen (O7.out.blk (i := 2) rfl) 0; have c7_2_1 : w7.cell? ⟨gx, 1, none⟩ = some (.int .i64 (rd_T31 l0 x).f1) := (blk_cell (O7.out.blk (i := 2) rfl) 1).trans rfl; have f7_2_1 : w7.frozen? ⟨gx, 1, none⟩ = false := blk_frozen (O7.out.blk (i := 2) rfl) 1; have c7_2_2 : w7.cell? ⟨gx, 2, none⟩ = some (.slice A3 (rd_T31 l0 x).f2.length c3) := (blk_cell (O7.out.blk (i := 2) rfl) 2).trans rfl; have f7_2_2 : w7.frozen? ⟨gx, 2, none⟩ = false := blk_frozen (O7.out.blk (i := 2) rfl) 2; clear o_ k_) | ((with_reducible refine gate_callee (f := 13) rfl ?_); refine goesL_ (some 47) rfl rfl Try.func13 (by kernel_rfl) rfl #[.pointer (some ⟨ga, 0, none⟩), .agg #[.int .i64 (rd_T31 l0 x).f0, .int .i64 (rd_T31 l0 x).f1, .slice A3 (rd_T31 l0 x).f2.length c3]] rfl (by (try simp only [List.map_toArray, List.map_cons, List.map_nil]); first | done | rfl) ?_; obtain ⟨N_, on_, nn_, rr_, bb_⟩ := O7.out.frame1 (i := 0) rfl; have hr_ := Kd.F_mono HRI_7.out nn_; refine (Add_a A3 c3 (rd_T31 l0 x) on_ hr_ HC3.out HLA.out HU.out (LA_good l0 x)).mono ?_; rintro e_ w8 ⟨rfl, oo_, kk_⟩; obtain ⟨o_, k_⟩ := bb_ _ _ _ kk_ oo_; refine ⟨_, rfl, ?_⟩; have O8 : Aside0 (Own N w8 [ObjC ga 64 (addL 64 (LA l0 x) (rd_T31 l0 x)), ObjC gb 64 (own fi (LA l0 x)), cells gx #[.int .i64 (rd_T31 l0 x).f0, .int .i64 (rd_T31 l0 x).f1, .slice A3 (rd_T31 l0 x).f2.length c3] 31]) := ⟨o_⟩; have K8 : Aside0 (KeepS N w w8) := ⟨K7.out.trans k_⟩; have HRI_8 : Aside0 (Kd.F k47 w8 N A3 (rd_T31 l0 x).f2.length (rd_T31 l0 x).f2) := ⟨keepF HRI_7.out k_⟩; clear c7_2_0 f7_2_0 c7_2_1 f7_2_1 c7_2_2 f7_2_2 O7 K7 HRI_7; have c8_2_0 : w8.cell? ⟨gx, 0, none⟩ = some (.int .i64 (rd_T31 l0 x).f0) := (blk_cell (O8.out.blk (i := 2) rfl) 0).trans rfl; have f8_2_0 : w8.frozen? ⟨gx, 0, none⟩ = false := blk_frozen (O8.out.blk (i := 2) rfl) 0; have c8_2_1 : w8.cell? ⟨gx, 1, none⟩ = some (.int .i64 (rd_T31 l0 x).f1) := (blk_cell (O8.out.blk (i := 2) rfl) 1).trans rfl; have f8_2_1 : w8.frozen? ⟨gx, 1, none⟩ = false := blk_frozen (O8.out.blk (i := 2) rfl) 1; have c8_2_2 : w8.cell? ⟨gx, 2, none⟩ = some (.slice A3 (rd_T31 l0 x).f2.length c3) := (blk_cell (O8.out.blk (i := 2) rfl) 2).trans rfl; have f8_2_2 : w8.frozen? ⟨gx, 2, none⟩ = false := blk_frozen (O8.out.blk (i := 2) rfl) 2; clear o_ k_ oo_ kk_ on_ nn_ rr_ bb_ hr_) | ((with_reducible refine gate_callee (f := 13) rfl ?_); refine goesL_ (some 54) rfl rfl Try.func13 (by kernel_rfl) rfl #[.pointer (some ⟨gb, 0, none⟩), .agg #[.int .i64 (rd_T31 l0 x).f0, .int .i64 (rd_T31 l0 x).f1, .slice A3 (rd_T31 l0 x).f2.length c3]] rfl (by (try simp only [List.map_toArray, List.map_cons, List.map_nil]); first | done | rfl) ?_; obtain ⟨N_, on_, nn_, rr_, bb_⟩ := O8.out.frame1 (i := 1) rfl; have hr_ := Kd.F_mono HRI_8.out nn_; refine (Add_a A3 c3 (rd_T31 l0 x) on_ hr_ HC3.out HMB.out HU.out HGB.out).mono ?_; rintro e_ w9 ⟨rfl, oo_, kk_⟩; obtain ⟨o_, k_⟩ := bb_ _ _ _ kk_ oo_; refine ⟨_, rfl, ?_⟩; have O9 : Aside0 (Own N w9 [ObjC ga 64 (addL 64 (LA l0 x) (rd_T31 l0 x)), ObjC gb 64 (addL 64 (own fi (LA l0 x)) (rd_T31 l0 x)), cells gx #[.int .i64 (rd_T31 l0 x).f0, .int .i64 (rd_T31 l0 x).f1, .slice A3 (rd_T31 l0 x).f2.length c3] 31]) := ⟨o_⟩; have K9 : Aside0 (KeepS N w w9) := ⟨K8.out.trans k_⟩; have HRI_9 : Aside0 (Kd.F k47 w9 N A3 (rd_T31 l0 x).f2.length (rd_T31 l0 x).f2) := ⟨keepF HRI_8.out k_⟩; clear c8_2_0 f8_2_0 c8_2_1 f8_2_1 c8_2_2 f8_2_2 O8 K8 HRI_8; have c9_2_0 : w9.cell? ⟨gx, 0, none⟩ = some (.int .i64 (rd_T31 l0 x).f0) := (blk_cell (O9.out.blk (i := 2) rfl) 0).trans rfl; have f9_2_0 : w9.frozen? ⟨gx, 0, none⟩ = false := blk_frozen (O9.out.blk (i := 2) rfl) 0; have c9_2_1 : w9.cell? ⟨gx, 1, none⟩ = some (.int .i64 (rd_T31 l0 x).f1) := (blk_cell (O9.out.blk (i := 2) rfl) 1).trans rfl; have f9_2_1 : w9.frozen? ⟨gx, 1, none⟩ = false := blk_frozen (O9.out.blk (i := 2) rfl) 1; have c9_2_2 : w9.cell? ⟨gx, 2, none⟩ = some (.slice A3 (rd_T31 l0 x).f2.length c3) := (blk_cell (O9.out.blk (i := 2) rfl) 2).trans rfl; have f9_2_2 : w9.frozen? ⟨gx, 2, none⟩ = false := blk_frozen (O9.out.blk (i := 2) rfl) 2; clear o_ k_ oo_ kk_ on_ nn_ rr_ bb_ hr_))
          go_roundw
          case rel => exact ⟨x + 1, by have := HX.out; omega, by have := HX.out; omega, int_eq (by unfold wrap64; have := HX.out; have := HL40.out; omega), ⟨by rw [LA_s l0 x HX.out.1]; rw [own_yes HO.out]; exact O9.out.pick2 (a := 0) (b := 1) rfl rfl (by decide)⟩, K9⟩
          case measure => have := HX.out; simp [intOf]; omega
        · have hob : ((rd_T31 l0 x).f0 == fi) = false := beq_eq_false_iff_ne.2 ho
          have hon : ((rd_T31 l0 x).f0 != fi) = true := bne_iff_ne.2 ho
          have HO := Aside0.mk ho
          clear ho hlt hx0 hx1
          go_wp2_with (first | ((with_reducible refine gate_dst (N := 9) rfl ?_); refine own_box rfl (D := 9) rfl (cs := #[.int .i64 0, .int .i64 0, .slice none 0 0]) (t := 31) ?hr O5.out ?_; (case hr => first | (go_simp; done) | (go_simp; rfl)); intro gx w6 o_ k_; have O6 : Aside0 (Own N w6 [ObjC ga 64 (LA l0 x), ObjC gb 64 (own fi (LA l0 x)), cells gx #[.int .i64 0, .int .i64 0, .slice none 0 0] 31]) := ⟨o_⟩; have K6 : Aside0 (KeepS N w w6) := ⟨K5.out.trans k_⟩; have HRI_6 : Aside0 (Kd.F k47 w6 N A3 (rd_T31 l0 x).f2.length (rd_T31 l0 x).f2) := ⟨keepF HRI_5.out k_⟩; clear O5 K5 HRI_5; have c6_2_0 : w6.cell? ⟨gx, 0, none⟩ = some (.int .i64 0) := (blk_cell (O6.out.blk (i := 2) rfl) 0).trans rfl; have f6_2_0 : w6.frozen? ⟨gx, 0, none⟩ = false := blk_frozen (O6.out.blk (i := 2) rfl) 0; have c6_2_1 : w6.cell? ⟨gx, 1, none⟩ = some (.int .i64 0) := (blk_cell (O6.out.blk (i := 2) rfl) 1).trans rfl; have f6_2_1 : w6.frozen? ⟨gx, 1, none⟩ = false := blk_frozen (O6.out.blk (i := 2) rfl) 1; have c6_2_2 : w6.cell? ⟨gx, 2, none⟩ = some (.slice none 0 0) := (blk_cell (O6.out.blk (i := 2) rfl) 2).trans rfl; have f6_2_2 : w6.frozen? ⟨gx, 2, none⟩ = false := blk_frozen (O6.out.blk (i := 2) rfl) 2; clear o_ k_) | ((with_reducible refine gate_store (t := 31) (p := 9) rfl ?_); refine own_store rfl rfl rfl (w1 := (World.setCell (World.setCell (World.setCell w6 ⟨gx, 0, none⟩ (.int .i64 (rd_T31 l0 x).f0)) ⟨gx, 1, none⟩ (.int .i64 (rd_T31 l0 x).f1)) ⟨gx, 2, none⟩ (.slice A3 (rd_T31 l0 x).f2.length c3))) (N := N) (l' := [ObjC ga 64 (LA l0 x), ObjC gb 64 (own fi (LA l0 x)), cells gx #[.int .i64 (rd_T31 l0 x).f0, .int .i64 (rd_T31 l0 x).f1, .slice A3 (rd_T31 l0 x).f2.length c3] 31]) ?hr ?ho ?hk ?_; (case hr => first | (go_simp; done) | (go_simp; rfl)); (case ho => exact (((O6.out.set (i := 2) rfl 0 (.int .i64 (rd_T31 l0 x).f0)).set (i := 2) rfl 1 (.int .i64 (rd_T31 l0 x).f1)).set (i := 2) rfl 2 (.slice A3 (rd_T31 l0 x).f2.length c3))); (case hk => exact (((KeepS.setCell (O6.out.far (i := 2) rfl) (.int .i64 (rd_T31 l0 x).f0)).trans (KeepS.setCell (O6.out.far (i := 2) rfl) (.int .i64 (rd_T31 l0 x).f1))).trans (KeepS.setCell (O6.out.far (i := 2) rfl) (.slice A3 (rd_T31 l0 x).f2.length c3)))); intro w7 o_ k_; have O7 : Aside0 (Own N w7 [ObjC ga 64 (LA l0 x), ObjC gb 64 (own fi (LA l0 x)), cells gx #[.int .i64 (rd_T31 l0 x).f0, .int .i64 (rd_T31 l0 x).f1, .slice A3 (rd_T31 l0 x).f2.length c3] 31]) := ⟨o_⟩; have K7 : Aside0 (KeepS N w w7) := ⟨K6.out.trans k_⟩; have HRI_7 : Aside0 (Kd.F k47 w7 N A3 (rd_T31 l0 x).f2.length (rd_T31 l0 x).f2) := ⟨keepF HRI_6.out k_⟩; clear c6_2_0 f6_2_0 c6_2_1 f6_2_1 c6_2_2 f6_2_2 O6 K6 HRI_6; have c7_2_0 : w7.cell? ⟨gx, 0, none⟩ = some (.int .i64 (rd_T31 l0 x).f0) := (blk_cell (O7.out.blk (i := 2) rfl) 0).trans rfl; have f7_2_0 : w7.frozen? ⟨gx, 0, none⟩ = false := blk_frozen (O7.out.blk (i := 2) rfl) 0; have c7_2_1 : w7.cell? ⟨gx, 1, none⟩ = some (.int .i64 (rd_T31 l0 x).f1) := (blk_cell (O7.out.blk (i := 2) rfl) 1).trans rfl; have f7_2_1 : w7.frozen? ⟨gx, 1, none⟩ = false := blk_frozen (O7.out.blk (i := 2) rfl) 1; have c7_2_2 : w7.cell? ⟨gx, 2, none⟩ = some (.slice A3 (rd_T31 l0 x).f2.length c3) := (blk_cell (O7.out.blk (i := 2) rfl) 2).trans rfl; have f7_2_2 : w7.frozen? ⟨gx, 2, none⟩ = false := blk_frozen (O7.out.blk (i := 2) rfl) 2; clear o_ k_) | ((with_reducible refine gate_callee (f := 13) rfl ?_); refine goesL_ (some 47) rfl rfl Try.func13 (by kernel_rfl) rfl #[.pointer (some ⟨ga, 0, none⟩), .agg #[.int .i64 (rd_T31 l0 x).f0, .int .i64 (rd_T31 l0 x).f1, .slice A3 (rd_T31 l0 x).f2.length c3]] rfl (by (try simp only [List.map_toArray, List.map_cons, List.map_nil]); first | done | rfl) ?_; obtain ⟨N_, on_, nn_, rr_, bb_⟩ := O7.out.frame1 (i := 0) rfl; have hr_ := Kd.F_mono HRI_7.out nn_; refine (Add_a A3 c3 (rd_T31 l0 x) on_ hr_ HC3.out HLA.out HU.out (LA_good l0 x)).mono ?_; rintro e_ w8 ⟨rfl, oo_, kk_⟩; obtain ⟨o_, k_⟩ := bb_ _ _ _ kk_ oo_; refine ⟨_, rfl, ?_⟩; have O8 : Aside0 (Own N w8 [ObjC ga 64 (addL 64 (LA l0 x) (rd_T31 l0 x)), ObjC gb 64 (own fi (LA l0 x)), cells gx #[.int .i64 (rd_T31 l0 x).f0, .int .i64 (rd_T31 l0 x).f1, .slice A3 (rd_T31 l0 x).f2.length c3] 31]) := ⟨o_⟩; have K8 : Aside0 (KeepS N w w8) := ⟨K7.out.trans k_⟩; have HRI_8 : Aside0 (Kd.F k47 w8 N A3 (rd_T31 l0 x).f2.length (rd_T31 l0 x).f2) := ⟨keepF HRI_7.out k_⟩; clear c7_2_0 f7_2_0 c7_2_1 f7_2_1 c7_2_2 f7_2_2 O7 K7 HRI_7; have c8_2_0 : w8.cell? ⟨gx, 0, none⟩ = some (.int .i64 (rd_T31 l0 x).f0) := (blk_cell (O8.out.blk (i := 2) rfl) 0).trans rfl; have f8_2_0 : w8.frozen? ⟨gx, 0, none⟩ = false := blk_frozen (O8.out.blk (i := 2) rfl) 0; have c8_2_1 : w8.cell? ⟨gx, 1, none⟩ = some (.int .i64 (rd_T31 l0 x).f1) := (blk_cell (O8.out.blk (i := 2) rfl) 1).trans rfl; have f8_2_1 : w8.frozen? ⟨gx, 1, none⟩ = false := blk_frozen (O8.out.blk (i := 2) rfl) 1; have c8_2_2 : w8.cell? ⟨gx, 2, none⟩ = some (.slice A3 (rd_T31 l0 x).f2.length c3) := (blk_cell (O8.out.blk (i := 2) rfl) 2).trans rfl; have f8_2_2 : w8.frozen? ⟨gx, 2, none⟩ = false := blk_frozen (O8.out.blk (i := 2) rfl) 2; clear o_ k_ oo_ kk_ on_ nn_ rr_ bb_ hr_))
          go_roundw
          case rel => exact ⟨x + 1, by have := HX.out; omega, by have := HX.out; omega, int_eq (by unfold wrap64; have := HX.out; have := HL40.out; omega), ⟨by rw [LA_s l0 x HX.out.1]; rw [own_no HO.out]; exact O8.out.pick2 (a := 0) (b := 1) rfl rfl (by decide)⟩, K8⟩
          case measure => have := HX.out; simp [intOf]; omega
      · have hxe : x = (l0.length : Int) := by omega
        subst hxe
        have hd : decide ((l0.length : Int) < (l0.length : Int)) = false := decide_eq_false (Int.lt_irrefl _)
        clear hlt hx0 hx1 hF2 hLx
        obtain ⟨L, hL⟩ : ∃ L, L = LA l0 l0.length := ⟨_, rfl⟩
        have HGL : Aside0 (Good 64 L) := ⟨by rw [hL]; exact LA_good _ _⟩
        have HLL : Aside0 (L.length ≤ 40) := ⟨by have q_ := LA_len l0 l0.length (by omega); have := HL40.out; rw [hL]; omega⟩
        have HLE := Aside0.mk hL
        rw [← hL] at OA
        clear hL
        have O5 : Aside0 (Own N wr [ObjC ga 64 L, ObjC gb 64 (own fi L)]) := ⟨OA.out⟩
        have K5 : Aside0 (KeepS N w wr) := ⟨KA.out⟩
        clear OA KA
        go_wp2
        go_loopw [58] (fun i wr => MxJ N w l0 L ga gb fi i wr) (fun i _ => l0.length - (intOf i).toNat)
        case atStart => exact ⟨0, by omega, by omega, rfl, ⟨by rw [mix_0]; exact O5.out⟩, K5⟩
        case round =>
          obtain ⟨x, hx0, hx1, rfl, OA, KA⟩ := hrel
          have hF2 := keepF HRL0.out KA.out
          have hLx := HL40.out
          by_cases hlt : x < (l0.length : Int)
          · obtain ⟨ad, A3, c3, e3, x0, x1, x2, hl3, hF3⟩ := at_F hF2 x hx0 hlt
            cases e3
            have HC3 := Aside0.mk hl3
            have HF3 := Aside0.mk hF3
            have hs2 : wrap64 (x + 1) = x + 1 := by unfold wrap64; omega
            have hp := eq_true hx0
            have hq := eq_true hlt
            have hd : decide (x < (l0.length : Int)) = true := decide_eq_true hlt
            have HX := Aside0.mk (And.intro hx0 hlt)
            have HU : Aside0 ((rd_T31 l0 x).f2.length ≤ 1000000) := ⟨Nat.le_trans (HL20.out x hx0 hlt) (by decide)⟩
            have hla := LA_len l0 x hx0
            have HLA : Aside0 ((LA l0 x).length ≤ 1000000) := ⟨by omega⟩
            have HMB : Aside0 ((own fi L ++ oth fi (LA l0 x)).length ≤ 1000000) := ⟨by have := mix_le fi L (LA l0 x); have := HLL.out; omega⟩
            have HGB : Aside0 (Good 64 (own fi L ++ oth fi (LA l0 x))) := ⟨good_mix HGL.out (LA_good l0 x)⟩
            clear hF3 hF2 hl3 hLx hla
            have O6 : Aside0 (Own N wr [ObjC ga 64 L, ObjC gb 64 (own fi L ++ oth fi (LA l0 x))]) := ⟨OA.out⟩
            have K6 : Aside0 (KeepS N w wr) := ⟨KA.out⟩
            have HRI_6 : Aside0 (Kd.F k47 wr N A3 (rd_T31 l0 x).f2.length (rd_T31 l0 x).f2) := ⟨HF3.out⟩
            clear OA KA HF3
            by_cases ho : (rd_T31 l0 x).f0 = fi
            · have hob : ((rd_T31 l0 x).f0 == fi) = true := beq_iff_eq.2 ho
              have hon : ((rd_T31 l0 x).f0 != fi) = false := by rw [ho]; simp
              have HO := Aside0.mk ho
              clear ho hlt hx0 hx1
              go_wp2_with (first | ((with_reducible refine gate_dst (N := 11) rfl ?_); refine own_box rfl (D := 11) rfl (cs := #[.int .i64 0, .int .i64 0, .slice none 0 0]) (t := 31) ?hr O6.out ?_; (case hr => first | (go_simp; done) | (go_simp; rfl)); intro gx w7 o_ k_; have O7 : Aside0 (Own N w7 [ObjC ga 64 L, ObjC gb 64 (own fi L ++ oth fi (LA l0 x)), cells gx #[.int .i64 0, .int .i64 0, .slice none 0 0] 31]) := ⟨o_⟩; have K7 : Aside0 (KeepS N w w7) := ⟨K6.out.trans k_⟩; have HRI_7 : Aside0 (Kd.F k47 w7 N A3 (rd_T31 l0 x).f2.length (rd_T31 l0 x).f2) := ⟨keepF HRI_6.out k_⟩; clear O6 K6 HRI_6; have c7_2_0 : w7.cell? ⟨gx, 0, none⟩ = some (.int .i64 0) := (blk_cell (O7.out.blk (i := 2) rfl) 0).trans rfl; have f7_2_0 : w7.frozen? ⟨gx, 0, none⟩ = false := blk_frozen (O7.out.blk (i := 2) rfl) 0; have c7_2_1 : w7.cell? ⟨gx, 1, none⟩ = some (.int .i64 0) := (blk_cell (O7.out.blk (i := 2) rfl) 1).trans rfl; have f7_2_1 : w7.frozen? ⟨gx, 1, none⟩ = false := blk_frozen (O7.out.blk (i := 2) rfl) 1; have c7_2_2 : w7.cell? ⟨gx, 2, none⟩ = some (.slice none 0 0) := (blk_cell (O7.out.blk (i := 2) rfl) 2).trans rfl; have f7_2_2 : w7.frozen? ⟨gx, 2, none⟩ = false := blk_frozen (O7.out.blk (i := 2) rfl) 2; clear o_ k_) | ((with_reducible refine gate_store (t := 31) (p := 11) rfl ?_); refine own_store rfl rfl rfl (w1 := (World.setCell (World.setCell (World.setCell w7 ⟨gx, 0, none⟩ (.int .i64 (rd_T31 l0 x).f0)) ⟨gx, 1, none⟩ (.int .i64 (rd_T31 l0 x).f1)) ⟨gx, 2, none⟩ (.slice A3 (rd_T31 l0 x).f2.length c3))) (N := N) (l' := [ObjC ga 64 L, ObjC gb 64 (own fi L ++ oth fi (LA l0 x)), cells gx #[.int .i64 (rd_T31 l0 x).f0, .int .i64 (rd_T31 l0 x).f1, .slice A3 (rd_T31 l0 x).f2.length c3] 31]) ?hr ?ho ?hk ?_; (case hr => first | (go_simp; done) | (go_simp; rfl)); (case ho => exact (((O7.out.set (i := 2) rfl 0 (.int .i64 (rd_T31 l0 x).f0)).set (i := 2) rfl 1 (.int .i64 (rd_T31 l0 x).f1)).set (i := 2) rfl 2 (.slice A3 (rd_T31 l0 x).f2.length c3))); (case hk => exact (((KeepS.setCell (O7.out.far (i := 2) rfl) (.int .i64 (rd_T31 l0 x).f0)).trans (KeepS.setCell (O7.out.far (i := 2) rfl) (.int .i64 (rd_T31 l0 x).f1))).trans (KeepS.setCell (O7.out.far (i := 2) rfl) (.slice A3 (rd_T31 l0 x).f2.length c3)))); intro w8 o_ k_; have O8 : Aside0 (Own N w8 [ObjC ga 64 L, ObjC gb 64 (own fi L ++ oth fi (LA l0 x)), cells gx #[.int .i64 (rd_T31 l0 x).f0, .int .i64 (rd_T31 l0 x).f1, .slice A3 (rd_T31 l0 x).f2.length c3] 31]) := ⟨o_⟩; have K8 : Aside0 (KeepS N w w8) := ⟨K7.out.trans k_⟩; have HRI_8 : Aside0 (Kd.F k47 w8 N A3 (rd_T31 l0 x).f2.length (rd_T31 l0 x).f2) := ⟨keepF HRI_7.out k_⟩; clear c7_2_0 f7_2_0 c7_2_1 f7_2_1 c7_2_2 f7_2_2 O7 K7 HRI_7; have c8_2_0 : w8.cell? ⟨gx, 0, none⟩ = some (.int .i64 (rd_T31 l0 x).f0) := (blk_cell (O8.out.blk (i := 2) rfl) 0).trans rfl; have f8_2_0 : w8.frozen? ⟨gx, 0, none⟩ = false := blk_frozen (O8.out.blk (i := 2) rfl) 0; have c8_2_1 : w8.cell? ⟨gx, 1, none⟩ = some (.int .i64 (rd_T31 l0 x).f1) := (blk_cell (O8.out.blk (i := 2) rfl) 1).trans rfl; have f8_2_1 : w8.frozen? ⟨gx, 1, none⟩ = false := blk_frozen (O8.out.blk (i := 2) rfl) 1; have c8_2_2 : w8.cell? ⟨gx, 2, none⟩ = some (.slice A3 (rd_T31 l0 x).f2.length c3) := (blk_cell (O8.out.blk (i := 2) rfl) 2).trans rfl; have f8_2_2 : w8.frozen? ⟨gx, 2, none⟩ = false := blk_frozen (O8.out.blk (i := 2) rfl) 2; clear o_ k_))
              go_roundw
              case rel => exact ⟨x + 1, by have := HX.out; omega, by have := HX.out; omega, int_eq (by unfold wrap64; have := HX.out; have := HL40.out; omega), ⟨by rw [LA_s l0 x HX.out.1]; rw [oth_yes HO.out]; exact O8.out.pick2 (a := 0) (b := 1) rfl rfl (by decide)⟩, K8⟩
              case measure => have := HX.out; simp [intOf]; omega
            · have hob : ((rd_T31 l0 x).f0 == fi) = false := beq_eq_false_iff_ne.2 ho
              have hon : ((rd_T31 l0 x).f0 != fi) = true := bne_iff_ne.2 ho
              have HO := Aside0.mk ho
              clear ho hlt hx0 hx1
              go_wp2_with (first | ((with_reducible refine gate_dst (N := 11) rfl ?_); refine own_box rfl (D := 11) rfl (cs := #[.int .i64 0, .int .i64 0, .slice none 0 0]) (t := 31) ?hr O6.out ?_; (case hr => first | (go_simp; done) | (go_simp; rfl)); intro gx w7 o_ k_; have O7 : Aside0 (Own N w7 [ObjC ga 64 L, ObjC gb 64 (own fi L ++ oth fi (LA l0 x)), cells gx #[.int .i64 0, .int .i64 0, .slice none 0 0] 31]) := ⟨o_⟩; have K7 : Aside0 (KeepS N w w7) := ⟨K6.out.trans k_⟩; have HRI_7 : Aside0 (Kd.F k47 w7 N A3 (rd_T31 l0 x).f2.length (rd_T31 l0 x).f2) := ⟨keepF HRI_6.out k_⟩; clear O6 K6 HRI_6; have c7_2_0 : w7.cell? ⟨gx, 0, none⟩ = some (.int .i64 0) := (blk_cell (O7.out.blk (i := 2) rfl) 0).trans rfl; have f7_2_0 : w7.frozen? ⟨gx, 0, none⟩ = false := blk_frozen (O7.out.blk (i := 2) rfl) 0; have c7_2_1 : w7.cell? ⟨gx, 1, none⟩ = some (.int .i64 0) := (blk_cell (O7.out.blk (i := 2) rfl) 1).trans rfl; have f7_2_1 : w7.frozen? ⟨gx, 1, none⟩ = false := blk_frozen (O7.out.blk (i := 2) rfl) 1; have c7_2_2 : w7.cell? ⟨gx, 2, none⟩ = some (.slice none 0 0) := (blk_cell (O7.out.blk (i := 2) rfl) 2).trans rfl; have f7_2_2 : w7.frozen? ⟨gx, 2, none⟩ = false := blk_frozen (O7.out.blk (i := 2) rfl) 2; clear o_ k_) | ((with_reducible refine gate_store (t := 31) (p := 11) rfl ?_); refine own_store rfl rfl rfl (w1 := (World.setCell (World.setCell (World.setCell w7 ⟨gx, 0, none⟩ (.int .i64 (rd_T31 l0 x).f0)) ⟨gx, 1, none⟩ (.int .i64 (rd_T31 l0 x).f1)) ⟨gx, 2, none⟩ (.slice A3 (rd_T31 l0 x).f2.length c3))) (N := N) (l' := [ObjC ga 64 L, ObjC gb 64 (own fi L ++ oth fi (LA l0 x)), cells gx #[.int .i64 (rd_T31 l0 x).f0, .int .i64 (rd_T31 l0 x).f1, .slice A3 (rd_T31 l0 x).f2.length c3] 31]) ?hr ?ho ?hk ?_; (case hr => first | (go_simp; done) | (go_simp; rfl)); (case ho => exact (((O7.out.set (i := 2) rfl 0 (.int .i64 (rd_T31 l0 x).f0)).set (i := 2) rfl 1 (.int .i64 (rd_T31 l0 x).f1)).set (i := 2) rfl 2 (.slice A3 (rd_T31 l0 x).f2.length c3))); (case hk => exact (((KeepS.setCell (O7.out.far (i := 2) rfl) (.int .i64 (rd_T31 l0 x).f0)).trans (KeepS.setCell (O7.out.far (i := 2) rfl) (.int .i64 (rd_T31 l0 x).f1))).trans (KeepS.setCell (O7.out.far (i := 2) rfl) (.slice A3 (rd_T31 l0 x).f2.length c3)))); intro w8 o_ k_; have O8 : Aside0 (Own N w8 [ObjC ga 64 L, ObjC gb 64 (own fi L ++ oth fi (LA l0 x)), cells gx #[.int .i64 (rd_T31 l0 x).f0, .int .i64 (rd_T31 l0 x).f1, .slice A3 (rd_T31 l0 x).f2.length c3] 31]) := ⟨o_⟩; have K8 : Aside0 (KeepS N w w8) := ⟨K7.out.trans k_⟩; have HRI_8 : Aside0 (Kd.F k47 w8 N A3 (rd_T31 l0 x).f2.length (rd_T31 l0 x).f2) := ⟨keepF HRI_7.out k_⟩; clear c7_2_0 f7_2_0 c7_2_1 f7_2_1 c7_2_2 f7_2_2 O7 K7 HRI_7; have c8_2_0 : w8.cell? ⟨gx, 0, none⟩ = some (.int .i64 (rd_T31 l0 x).f0) := (blk_cell (O8.out.blk (i := 2) rfl) 0).trans rfl; have f8_2_0 : w8.frozen? ⟨gx, 0, none⟩ = false := blk_frozen (O8.out.blk (i := 2) rfl) 0; have c8_2_1 : w8.cell? ⟨gx, 1, none⟩ = some (.int .i64 (rd_T31 l0 x).f1) := (blk_cell (O8.out.blk (i := 2) rfl) 1).trans rfl; have f8_2_1 : w8.frozen? ⟨gx, 1, none⟩ = false := blk_frozen (O8.out.blk (i := 2) rfl) 1; have c8_2_2 : w8.cell? ⟨gx, 2, none⟩ = some (.slice A3 (rd_T31 l0 x).f2.length c3) := (blk_cell (O8.out.blk (i := 2) rfl) 2).trans rfl; have f8_2_2 : w8.frozen? ⟨gx, 2, none⟩ = false := blk_frozen (O8.out.blk (i := 2) rfl) 2; clear o_ k_) | ((with_reducible refine gate_callee (f := 13) rfl ?_); refine goesL_ (some 68) rfl rfl Try.func13 (by kernel_rfl) rfl #[.pointer (some ⟨gb, 0, none⟩), .agg #[.int .i64 (rd_T31 l0 x).f0, .int .i64 (rd_T31 l0 x).f1, .slice A3 (rd_T31 l0 x).f2.length c3]] rfl (by (try simp only [List.map_toArray, List.map_cons, List.map_nil]); first | done | rfl) ?_; obtain ⟨N_, on_, nn_, rr_, bb_⟩ := O8.out.frame1 (i := 1) rfl; have hr_ := Kd.F_mono HRI_8.out nn_; refine (Add_a A3 c3 (rd_T31 l0 x) on_ hr_ HC3.out HMB.out HU.out HGB.out).mono ?_; rintro e_ w9 ⟨rfl, oo_, kk_⟩; obtain ⟨o_, k_⟩ := bb_ _ _ _ kk_ oo_; refine ⟨_, rfl, ?_⟩; have O9 : Aside0 (Own N w9 [ObjC ga 64 L, ObjC gb 64 (addL 64 (own fi L ++ oth fi (LA l0 x)) (rd_T31 l0 x)), cells gx #[.int .i64 (rd_T31 l0 x).f0, .int .i64 (rd_T31 l0 x).f1, .slice A3 (rd_T31 l0 x).f2.length c3] 31]) := ⟨o_⟩; have K9 : Aside0 (KeepS N w w9) := ⟨K8.out.trans k_⟩; have HRI_9 : Aside0 (Kd.F k47 w9 N A3 (rd_T31 l0 x).f2.length (rd_T31 l0 x).f2) := ⟨keepF HRI_8.out k_⟩; clear c8_2_0 f8_2_0 c8_2_1 f8_2_1 c8_2_2 f8_2_2 O8 K8 HRI_8; have c9_2_0 : w9.cell? ⟨gx, 0, none⟩ = some (.int .i64 (rd_T31 l0 x).f0) := (blk_cell (O9.out.blk (i := 2) rfl) 0).trans rfl; have f9_2_0 : w9.frozen? ⟨gx, 0, none⟩ = false := blk_frozen (O9.out.blk (i := 2) rfl) 0; have c9_2_1 : w9.cell? ⟨gx, 1, none⟩ = some (.int .i64 (rd_T31 l0 x).f1) := (blk_cell (O9.out.blk (i := 2) rfl) 1).trans rfl; have f9_2_1 : w9.frozen? ⟨gx, 1, none⟩ = false := blk_frozen (O9.out.blk (i := 2) rfl) 1; have c9_2_2 : w9.cell? ⟨gx, 2, none⟩ = some (.slice A3 (rd_T31 l0 x).f2.length c3) := (blk_cell (O9.out.blk (i := 2) rfl) 2).trans rfl; have f9_2_2 : w9.frozen? ⟨gx, 2, none⟩ = false := blk_frozen (O9.out.blk (i := 2) rfl) 2; clear o_ k_ oo_ kk_ on_ nn_ rr_ bb_ hr_))
              go_roundw
              case rel => exact ⟨x + 1, by have := HX.out; omega, by have := HX.out; omega, int_eq (by unfold wrap64; have := HX.out; have := HL40.out; omega), ⟨by rw [LA_s l0 x HX.out.1]; rw [← mix_no HO.out]; exact O9.out.pick2 (a := 0) (b := 1) rfl rfl (by decide)⟩, K9⟩
              case measure => have := HX.out; simp [intOf]; omega
          · have hxe : x = (l0.length : Int) := by omega
            subst hxe
            have hd : decide ((l0.length : Int) < (l0.length : Int)) = false := decide_eq_false (Int.lt_irrefl _)
            clear hlt hx0 hx1 hF2 hLx
            rw [← HLE.out] at OA
            obtain ⟨M, hM⟩ : ∃ M, M = own fi L ++ oth fi L := ⟨_, rfl⟩
            have HGM : Aside0 (Good 64 M) := ⟨by rw [hM]; exact good_mix HGL.out HGL.out⟩
            have HLM : Aside0 (M.length = L.length) := ⟨by rw [hM]; exact len_mix fi L⟩
            have HOM : Aside0 (own fi M = own fi L) := ⟨by rw [hM]; exact own_mix fi L⟩
            have HLO : Aside0 (lastOf fi M = lastOf fi L) := ⟨by rw [hM]; exact last_mix fi L⟩
            rw [← hM] at OA
            clear hM
            have O6 : Aside0 (Own N wr [ObjC ga 64 L, ObjC gb 64 M]) := ⟨OA.out⟩
            have K6 : Aside0 (KeepS N w wr) := ⟨KA.out⟩
            clear OA KA
            go_wp2_with (first | ((with_reducible refine gate_callee (f := 17) rfl ?_); refine goesL_ (some 71) rfl rfl Try.func17 (by kernel_rfl) rfl #[.pointer (some ⟨ga, 0, none⟩)] rfl (by (try simp only [List.map_toArray, List.map_cons, List.map_nil]); first | done | rfl) ?_; obtain ⟨N_, on_, nn_, rr_, bb_⟩ := O6.out.frame1 (i := 0) rfl; refine (All_g on_ (by have := HLL.out; omega) HGL.out).mono ?_; rintro e_ w7 ⟨A5, c5, rfl, oo_, kk_⟩; obtain ⟨o_, k_⟩ := bb_ _ _ _ kk_ oo_; refine ⟨_, rfl, ?_⟩; have O7 : Aside0 (Own N w7 [ObjC ga 64 L, ObjC gb 64 M, nrow k31 31 (.slice A5 L.length c5) L]) := ⟨o_⟩; have K7 : Aside0 (KeepS N w w7) := ⟨K6.out.trans k_⟩; clear O6 K6; clear o_ k_ oo_ kk_ on_ nn_ rr_ bb_))
            obtain ⟨N1, h3_, hn1, hF_, hb_⟩ := O7.out.hide (i := 2) rfl
            have HRM_N1 : Aside0 (Kd.F k31 w7 N1 A5 L.length L) := ⟨Kd.N_F hF_⟩
            have HN1 := Aside0.mk hn1
            clear hF_ hb_ hn1
            have OZ : Aside0 (Own N1 w7 ([ObjC ga 64 L, ObjC gb 64 M, emp] ++ [nrow (Kd.raw 3) 31 (.slice none 0 0) []])) := ⟨h3_.push_emp (nrow (Kd.raw 3) 31 (.slice none 0 0) []) (fun w => Kd.N_nil _ _ _ _ _)⟩
            clear h3_
            go_loopw [12, 73] (fun v i wr => MxK N1 w7 L fi [ObjC ga 64 L, ObjC gb 64 M, emp] v i wr) (fun _ i _ => L.length - (intOf i).toNat)
            case atStart => exact ⟨0, none, 0, 0, [], by omega, by omega, rfl, rfl, ⟨rfl, Lead.none _ _⟩, OZ, ⟨KeepS.refl _ _⟩⟩
            case round =>
              clear OZ
              obtain ⟨y, A6, c6, n6, rows, hy0, hy1, rfl, rfl, HJ, OB, KB⟩ := hrel
              have hF2 := keepF HRM_N1.out KB.out
              have hll : L.length ≤ 40 := HLL.out
              by_cases hly : y < (L.length : Int)
              · obtain ⟨ad, A7, c7, e7, x0, x1, x2, hl7, hF7⟩ := at_F hF2 y hy0 hly
                cases e7
                have HC7 := Aside0.mk hl7
                have HF7 := Aside0.mk hF7
                have hs3 : wrap64 (y + 1) = y + 1 := by unfold wrap64; omega
                have hp2 := eq_true hy0
                have hq2 := eq_true hly
                have hd2 : decide (y < (L.length : Int)) = true := decide_eq_true hly
                have HY := Aside0.mk (And.intro hy0 hly)
                have HN40 : Aside0 (n6 ≤ 40) := ⟨by have q_ := HJ.out.1; have q2 := HJ.out.2.1; have q3 : (own fi (upTo L y)).length ≤ (upTo L y).length := List.length_filter_le _ _; have q4 := upTo_len L y; omega⟩
                clear hF7 hF2 hl7
                by_cases ho : (rd_T31 L y).f0 = fi
                · have hob : ((rd_T31 L y).f0 == fi) = true := beq_iff_eq.2 ho
                  have HO := Aside0.mk ho
                  clear ho hly hy0 hy1 hll
                  have O9 : Aside0 (Own N1 wr [ObjC ga 64 L, ObjC gb 64 M, emp, nrow (Kd.raw 3) 31 (.slice A6 n6 c6) rows]) := ⟨OB.out⟩
                  have K9 : Aside0 (KeepS N1 w7 wr) := ⟨KB.out⟩
                  have HRI_9 : Aside0 (Kd.F k47 wr N1 A7 (rd_T31 L y).f2.length (rd_T31 L y).f2) := ⟨HF7.out⟩
                  have HLD_9 : Aside0 (Lead N1 wr rows (own fi (upTo L y))) := ⟨HJ.out.2⟩
                  clear OB KB HF7
                  go_wp2_with (first | ((with_reducible refine gate_dst (N := 15) rfl ?_); refine own_box rfl (D := 15) rfl (cs := #[.int .i64 0, .int .i64 0, .slice none 0 0]) (t := 31) ?hr O9.out ?_; (case hr => first | (go_simp; done) | (go_simp; rfl)); intro gy w10 o_ k_; have O10 : Aside0 (Own N1 w10 [ObjC ga 64 L, ObjC gb 64 M, emp, nrow (Kd.raw 3) 31 (.slice A6 n6 c6) rows, cells gy #[.int .i64 0, .int .i64 0, .slice none 0 0] 31]) := ⟨o_⟩; have K10 : Aside0 (KeepS N1 w7 w10) := ⟨K9.out.trans k_⟩; have HRI_10 : Aside0 (Kd.F k47 w10 N1 A7 (rd_T31 L y).f2.length (rd_T31 L y).f2) := ⟨keepF HRI_9.out k_⟩; have HLD_10 : Aside0 (Lead N1 w10 rows (own fi (upTo L y))) := ⟨Lead.keep HLD_9.out k_⟩; clear O9 K9 HRI_9 HLD_9; have c10_4_0 : w10.cell? ⟨gy, 0, none⟩ = some (.int .i64 0) := (blk_cell (O10.out.blk (i := 4) rfl) 0).trans rfl; have f10_4_0 : w10.frozen? ⟨gy, 0, none⟩ = false := blk_frozen (O10.out.blk (i := 4) rfl) 0; have c10_4_1 : w10.cell? ⟨gy, 1, none⟩ = some (.int .i64 0) := (blk_cell (O10.out.blk (i := 4) rfl) 1).trans rfl; have f10_4_1 : w10.frozen? ⟨gy, 1, none⟩ = false := blk_frozen (O10.out.blk (i := 4) rfl) 1; have c10_4_2 : w10.cell? ⟨gy, 2, none⟩ = some (.slice none 0 0) := (blk_cell (O10.out.blk (i := 4) rfl) 2).trans rfl; have f10_4_2 : w10.frozen? ⟨gy, 2, none⟩ = false := blk_frozen (O10.out.blk (i := 4) rfl) 2; clear o_ k_) | ((with_reducible refine gate_store (t := 31) (p := 15) rfl ?_); refine own_store rfl rfl rfl (w1 := (World.setCell (World.setCell (World.setCell w10 ⟨gy, 0, none⟩ (.int .i64 (rd_T31 L y).f0)) ⟨gy, 1, none⟩ (.int .i64 (rd_T31 L y).f1)) ⟨gy, 2, none⟩ (.slice A7 (rd_T31 L y).f2.length c7))) (N := N1) (l' := [ObjC ga 64 L, ObjC gb 64 M, emp, nrow (Kd.raw 3) 31 (.slice A6 n6 c6) rows, cells gy #[.int .i64 (rd_T31 L y).f0, .int .i64 (rd_T31 L y).f1, .slice A7 (rd_T31 L y).f2.length c7] 31]) ?hr ?ho ?hk ?_; (case hr => first | (go_simp; done) | (go_simp; rfl)); (case ho => exact (((O10.out.set (i := 4) rfl 0 (.int .i64 (rd_T31 L y).f0)).set (i := 4) rfl 1 (.int .i64 (rd_T31 L y).f1)).set (i := 4) rfl 2 (.slice A7 (rd_T31 L y).f2.length c7))); (case hk => exact (((KeepS.setCell (O10.out.far (i := 4) rfl) (.int .i64 (rd_T31 L y).f0)).trans (KeepS.setCell (O10.out.far (i := 4) rfl) (.int .i64 (rd_T31 L y).f1))).trans (KeepS.setCell (O10.out.far (i := 4) rfl) (.slice A7 (rd_T31 L y).f2.length c7)))); intro w11 o_ k_; have O11 : Aside0 (Own N1 w11 [ObjC ga 64 L, ObjC gb 64 M, emp, nrow (Kd.raw 3) 31 (.slice A6 n6 c6) rows, cells gy #[.int .i64 (rd_T31 L y).f0, .int .i64 (rd_T31 L y).f1, .slice A7 (rd_T31 L y).f2.length c7] 31]) := ⟨o_⟩; have K11 : Aside0 (KeepS N1 w7 w11) := ⟨K10.out.trans k_⟩; have HRI_11 : Aside0 (Kd.F k47 w11 N1 A7 (rd_T31 L y).f2.length (rd_T31 L y).f2) := ⟨keepF HRI_10.out k_⟩; have HLD_11 : Aside0 (Lead N1 w11 rows (own fi (upTo L y))) := ⟨Lead.keep HLD_10.out k_⟩; clear c10_4_0 f10_4_0 c10_4_1 f10_4_1 c10_4_2 f10_4_2 O10 K10 HRI_10 HLD_10; have c11_4_0 : w11.cell? ⟨gy, 0, none⟩ = some (.int .i64 (rd_T31 L y).f0) := (blk_cell (O11.out.blk (i := 4) rfl) 0).trans rfl; have f11_4_0 : w11.frozen? ⟨gy, 0, none⟩ = false := blk_frozen (O11.out.blk (i := 4) rfl) 0; have c11_4_1 : w11.cell? ⟨gy, 1, none⟩ = some (.int .i64 (rd_T31 L y).f1) := (blk_cell (O11.out.blk (i := 4) rfl) 1).trans rfl; have f11_4_1 : w11.frozen? ⟨gy, 1, none⟩ = false := blk_frozen (O11.out.blk (i := 4) rfl) 1; have c11_4_2 : w11.cell? ⟨gy, 2, none⟩ = some (.slice A7 (rd_T31 L y).f2.length c7) := (blk_cell (O11.out.blk (i := 4) rfl) 2).trans rfl; have f11_4_2 : w11.frozen? ⟨gy, 2, none⟩ = false := blk_frozen (O11.out.blk (i := 4) rfl) 2; clear o_ k_; have O12 : Aside0 (Own N1 w11 [ObjC ga 64 L, ObjC gb 64 M, emp, nrow (Kd.raw 3) 31 (.slice A6 n6 c6) rows, cells gy #[.int .i64 (rd_T31 L y).f0, .int .i64 (rd_T31 L y).f1, .slice A7 (rd_T31 L y).f2.length c7] 31, elt (Kd.raw 3) [.int .i64 (rd_T31 L y).f0, .int .i64 (rd_T31 L y).f1, .slice A7 (rd_T31 L y).f2.length c7] [.int .i64 (rd_T31 L y).f0, .int .i64 (rd_T31 L y).f1, .slice A7 (rd_T31 L y).f2.length c7]]) := ⟨O11.out.push_emp (elt (Kd.raw 3) [.int .i64 (rd_T31 L y).f0, .int .i64 (rd_T31 L y).f1, .slice A7 (rd_T31 L y).f2.length c7] [.int .i64 (rd_T31 L y).f0, .int .i64 (rd_T31 L y).f1, .slice A7 (rd_T31 L y).f2.length c7]) (fun w W' _ => ⟨rfl, rfl, by intro u hu; simp only [List.mem_cons, List.not_mem_nil, or_false] at hu; rcases hu with rfl | rfl | rfl <;> rfl⟩)⟩; clear O11) | ((with_reducible refine gate_builtin (b := .append) (xs := #[.tmp 81, .tmp 83]) rfl ?_); at_builtin; refine Own.append (Kd.raw 3) O12.out (i := 3) (j := 5) rfl rfl (by decide) rfl (.tmp 81) (.tmp 83) 22 (.agg #[.int .i64 0, .int .i64 0, .slice none 0 0]) 40 rfl Try.underlying22 infoR rfl (by decide) (by decide) rfl rfl (by have := HN40.out; have := HJ.out.1; omega) ?_; intro A8 c8 w13 o_ k_; rw [HJ.out.1] at o_; rw [HJ.out.1]; have O13 : Aside0 (Own N1 w13 [ObjC ga 64 L, ObjC gb 64 M, emp, nrow (Kd.raw 3) 31 (.slice A8 (n6 + 1) c8) (rows ++ [[.int .i64 (rd_T31 L y).f0, .int .i64 (rd_T31 L y).f1, .slice A7 (rd_T31 L y).f2.length c7]]), cells gy #[.int .i64 (rd_T31 L y).f0, .int .i64 (rd_T31 L y).f1, .slice A7 (rd_T31 L y).f2.length c7] 31, emp]) := ⟨o_⟩; have K13 : Aside0 (KeepS N1 w7 w13) := ⟨K11.out.trans k_⟩; have HRI_13 : Aside0 (Kd.F k47 w13 N1 A7 (rd_T31 L y).f2.length (rd_T31 L y).f2) := ⟨keepF HRI_11.out k_⟩; have HLD_13 : Aside0 (Lead N1 w13 rows (own fi (upTo L y))) := ⟨Lead.keep HLD_11.out k_⟩; clear c11_4_0 f11_4_0 c11_4_1 f11_4_1 c11_4_2 f11_4_2 O12 K11 HRI_11 HLD_11; have c13_4_0 : w13.cell? ⟨gy, 0, none⟩ = some (.int .i64 (rd_T31 L y).f0) := (blk_cell (O13.out.blk (i := 4) rfl) 0).trans rfl; have f13_4_0 : w13.frozen? ⟨gy, 0, none⟩ = false := blk_frozen (O13.out.blk (i := 4) rfl) 0; have c13_4_1 : w13.cell? ⟨gy, 1, none⟩ = some (.int .i64 (rd_T31 L y).f1) := (blk_cell (O13.out.blk (i := 4) rfl) 1).trans rfl; have f13_4_1 : w13.frozen? ⟨gy, 1, none⟩ = false := blk_frozen (O13.out.blk (i := 4) rfl) 1; have c13_4_2 : w13.cell? ⟨gy, 2, none⟩ = some (.slice A7 (rd_T31 L y).f2.length c7) := (blk_cell (O13.out.blk (i := 4) rfl) 2).trans rfl; have f13_4_2 : w13.frozen? ⟨gy, 2, none⟩ = false := blk_frozen (O13.out.blk (i := 4) rfl) 2; clear o_ k_))
                  go_roundw
                  case rel => exact ⟨y + 1, A8, c8, n6 + 1, rows ++ [[Value.int .i64 (rd_T31 L y).f0, Value.int .i64 (rd_T31 L y).f1, Value.slice A7 (rd_T31 L y).f2.length c7]], by have := HY.out; omega, by have := HY.out; omega, int_eq (by unfold wrap64; have := HY.out; have := HLL.out; have := HLM.out; omega), rfl, ⟨by rw [List.length_append, HJ.out.1]; rfl, by rw [own_upTo_yes HY.out.1 HY.out.2 HO.out]; exact HLD_13.out.snoc (fk_of HC7.out HRI_13.out)⟩, ⟨O13.out.take 4⟩, K13⟩
                  case measure => have := HY.out; simp [intOf]; omega
                · have hob : ((rd_T31 L y).f0 == fi) = false := beq_eq_false_iff_ne.2 ho
                  have HO := Aside0.mk ho
                  clear ho hly hy0 hy1 hll
                  have O9 : Aside0 (Own N1 wr [ObjC ga 64 L, ObjC gb 64 M, emp, nrow (Kd.raw 3) 31 (.slice A6 n6 c6) rows]) := ⟨OB.out⟩
                  have K9 : Aside0 (KeepS N1 w7 wr) := ⟨KB.out⟩
                  have HRI_9 : Aside0 (Kd.F k47 wr N1 A7 (rd_T31 L y).f2.length (rd_T31 L y).f2) := ⟨HF7.out⟩
                  have HLD_9 : Aside0 (Lead N1 wr rows (own fi (upTo L y))) := ⟨HJ.out.2⟩
                  clear OB KB HF7
                  go_wp2_with (first | ((with_reducible refine gate_dst (N := 15) rfl ?_); refine own_box rfl (D := 15) rfl (cs := #[.int .i64 0, .int .i64 0, .slice none 0 0]) (t := 31) ?hr O9.out ?_; (case hr => first | (go_simp; done) | (go_simp; rfl)); intro gy w10 o_ k_; have O10 : Aside0 (Own N1 w10 [ObjC ga 64 L, ObjC gb 64 M, emp, nrow (Kd.raw 3) 31 (.slice A6 n6 c6) rows, cells gy #[.int .i64 0, .int .i64 0, .slice none 0 0] 31]) := ⟨o_⟩; have K10 : Aside0 (KeepS N1 w7 w10) := ⟨K9.out.trans k_⟩; have HRI_10 : Aside0 (Kd.F k47 w10 N1 A7 (rd_T31 L y).f2.length (rd_T31 L y).f2) := ⟨keepF HRI_9.out k_⟩; have HLD_10 : Aside0 (Lead N1 w10 rows (own fi (upTo L y))) := ⟨Lead.keep HLD_9.out k_⟩; clear O9 K9 HRI_9 HLD_9; have c10_4_0 : w10.cell? ⟨gy, 0, none⟩ = some (.int .i64 0) := (blk_cell (O10.out.blk (i := 4) rfl) 0).trans rfl; have f10_4_0 : w10.frozen? ⟨gy, 0, none⟩ = false := blk_frozen (O10.out.blk (i := 4) rfl) 0; have c10_4_1 : w10.cell? ⟨gy, 1, none⟩ = some (.int .i64 0) := (blk_cell (O10.out.blk (i := 4) rfl) 1).trans rfl; have f10_4_1 : w10.frozen? ⟨gy, 1, none⟩ = false := blk_frozen (O10.out.blk (i := 4) rfl) 1; have c10_4_2 : w10.cell? ⟨gy, 2, none⟩ = some (.slice none 0 0) := (blk_cell (O10.out.blk (i := 4) rfl) 2).trans rfl; have f10_4_2 : w10.frozen? ⟨gy, 2, none⟩ = false := blk_frozen (O10.out.blk (i := 4) rfl) 2; clear o_ k_) | ((with_reducible refine gate_store (t := 31) (p := 15) rfl ?_); refine own_store rfl rfl rfl (w1 := (World.setCell (World.setCell (World.setCell w10 ⟨gy, 0, none⟩ (.int .i64 (rd_T31 L y).f0)) ⟨gy, 1, none⟩ (.int .i64 (rd_T31 L y).f1)) ⟨gy, 2, none⟩ (.slice A7 (rd_T31 L y).f2.length c7))) (N := N1) (l' := [ObjC ga 64 L, ObjC gb 64 M, emp, nrow (Kd.raw 3) 31 (.slice A6 n6 c6) rows, cells gy #[.int .i64 (rd_T31 L y).f0, .int .i64 (rd_T31 L y).f1, .slice A7 (rd_T31 L y).f2.length c7] 31]) ?hr ?ho ?hk ?_; (case hr => first | (go_simp; done) | (go_simp; rfl)); (case ho => exact (((O10.out.set (i := 4) rfl 0 (.int .i64 (rd_T31 L y).f0)).set (i := 4) rfl 1 (.int .i64 (rd_T31 L y).f1)).set (i := 4) rfl 2 (.slice A7 (rd_T31 L y).f2.length c7))); (case hk => exact (((KeepS.setCell (O10.out.far (i := 4) rfl) (.int .i64 (rd_T31 L y).f0)).trans (KeepS.setCell (O10.out.far (i := 4) rfl) (.int .i64 (rd_T31 L y).f1))).trans (KeepS.setCell (O10.out.far (i := 4) rfl) (.slice A7 (rd_T31 L y).f2.length c7)))); intro w11 o_ k_; have O11 : Aside0 (Own N1 w11 [ObjC ga 64 L, ObjC gb 64 M, emp, nrow (Kd.raw 3) 31 (.slice A6 n6 c6) rows, cells gy #[.int .i64 (rd_T31 L y).f0, .int .i64 (rd_T31 L y).f1, .slice A7 (rd_T31 L y).f2.length c7] 31]) := ⟨o_⟩; have K11 : Aside0 (KeepS N1 w7 w11) := ⟨K10.out.trans k_⟩; have HRI_11 : Aside0 (Kd.F k47 w11 N1 A7 (rd_T31 L y).f2.length (rd_T31 L y).f2) := ⟨keepF HRI_10.out k_⟩; have HLD_11 : Aside0 (Lead N1 w11 rows (own fi (upTo L y))) := ⟨Lead.keep HLD_10.out k_⟩; clear c10_4_0 f10_4_0 c10_4_1 f10_4_1 c10_4_2 f10_4_2 O10 K10 HRI_10 HLD_10; have c11_4_0 : w11.cell? ⟨gy, 0, none⟩ = some (.int .i64 (rd_T31 L y).f0) := (blk_cell (O11.out.blk (i := 4) rfl) 0).trans rfl; have f11_4_0 : w11.frozen? ⟨gy, 0, none⟩ = false := blk_frozen (O11.out.blk (i := 4) rfl) 0; have c11_4_1 : w11.cell? ⟨gy, 1, none⟩ = some (.int .i64 (rd_T31 L y).f1) := (blk_cell (O11.out.blk (i := 4) rfl) 1).trans rfl; have f11_4_1 : w11.frozen? ⟨gy, 1, none⟩ = false := blk_frozen (O11.out.blk (i := 4) rfl) 1; have c11_4_2 : w11.cell? ⟨gy, 2, none⟩ = some (.slice A7 (rd_T31 L y).f2.length c7) := (blk_cell (O11.out.blk (i := 4) rfl) 2).trans rfl; have f11_4_2 : w11.frozen? ⟨gy, 2, none⟩ = false := blk_frozen (O11.out.blk (i := 4) rfl) 2; clear o_ k_))
                  go_roundw
                  case rel => exact ⟨y + 1, A6, c6, n6, rows, by have := HY.out; omega, by have := HY.out; omega, int_eq (by unfold wrap64; have := HY.out; have := HLL.out; have := HLM.out; omega), rfl, ⟨HJ.out.1, by rw [own_upTo_no HY.out.1 HY.out.2 HO.out]; exact HLD_11.out⟩, ⟨O11.out.take 4⟩, K11⟩
                  case measure => have := HY.out; simp [intOf]; omega
              · have hye : y = (L.length : Int) := by omega
                subst hye
                have hd2 : decide ((L.length : Int) < (L.length : Int)) = false := decide_eq_false (Int.lt_irrefl _)
                clear hly hy0 hy1 hF2 hll
                obtain ⟨X1, rX, hX1⟩ : ∃ (X1 : Option Addr) (rX : List (List Value)), X1 = A6 ∧ rX = rows := ⟨_, _, rfl, rfl⟩
                have HLX_ : Aside0 (Lead N1 wr rX (own fi L)) := ⟨by rw [hX1.2]; have q_ := HJ.out.2; rw [upTo_all] at q_; exact q_⟩
                have HNX : Aside0 (rX.length = n6) := ⟨by rw [hX1.2]; exact HJ.out.1⟩
                obtain ⟨rfl, rfl⟩ := hX1
                clear HJ
                obtain ⟨cX, nX, hcX⟩ : ∃ cX nX : Nat, cX = c6 ∧ nX = n6 := ⟨_, _, rfl, rfl⟩
                obtain ⟨rfl, rfl⟩ := hcX
                have O9 : Aside0 (Own N1 wr [ObjC ga 64 L, ObjC gb 64 M, emp, nrow (Kd.raw 3) 31 (.slice X1 nX cX) rX]) := ⟨OB.out⟩
                have K9 : Aside0 (KeepS N1 w7 wr) := ⟨KB.out⟩
                have HLX_9 : Aside0 (Lead N1 wr rX (own fi L)) := ⟨HLX_.out⟩
                clear OB KB HLX_
                go_wp2_with (first | ((with_reducible refine gate_callee (f := 17) rfl ?_); refine goesL_ (some 87) rfl rfl Try.func17 (by kernel_rfl) rfl #[.pointer (some ⟨gb, 0, none⟩)] rfl (by (try simp only [List.map_toArray, List.map_cons, List.map_nil]); first | done | rfl) ?_; obtain ⟨N_, on_, nn_, rr_, bb_⟩ := O9.out.frame1 (i := 1) rfl; refine (All_g on_ (by have := HLL.out; have := HLM.out; omega) HGM.out).mono ?_; rintro e_ w10 ⟨A5b, c5b, rfl, oo_, kk_⟩; obtain ⟨o_, k_⟩ := bb_ _ _ _ kk_ oo_; refine ⟨_, rfl, ?_⟩; have O10 : Aside0 (Own N1 w10 [ObjC ga 64 L, ObjC gb 64 M, emp, nrow (Kd.raw 3) 31 (.slice X1 nX cX) rX, nrow k31 31 (.slice A5b M.length c5b) M]) := ⟨o_⟩; have K10 : Aside0 (KeepS N1 w7 w10) := ⟨K9.out.trans k_⟩; have HLX_10 : Aside0 (Lead N1 w10 rX (own fi L)) := ⟨Lead.keep HLX_9.out k_⟩; clear O9 K9 HLX_9; clear o_ k_ oo_ kk_ on_ nn_ rr_ bb_))
                have HLX_ := HLX_10
                obtain ⟨N2, h3_, hn2, hF_, hb_⟩ := O10.out.hide (i := 4) rfl
                have HRM_N2 : Aside0 (Kd.F k31 w10 N2 A5b M.length M) := ⟨Kd.N_F hF_⟩
                have HN2 := Aside0.mk hn2
                have HLX_N2 : Aside0 (Lead N2 w10 rX (own fi L)) := ⟨HLX_.out.mono hn2⟩
                clear hF_ hb_ hn2
                have OZ : Aside0 (Own N2 w10 ([ObjC ga 64 L, ObjC gb 64 M, emp, nrow (Kd.raw 3) 31 (.slice X1 nX cX) rX, emp] ++ [nrow (Kd.raw 3) 31 (.slice none 0 0) []])) := ⟨h3_.push_emp (nrow (Kd.raw 3) 31 (.slice none 0 0) []) (fun w => Kd.N_nil _ _ _ _ _)⟩
                clear h3_
                go_loopw [13, 89] (fun v i wr => MxK N2 w10 M fi [ObjC ga 64 L, ObjC gb 64 M, emp, nrow (Kd.raw 3) 31 (.slice X1 nX cX) rX, emp] v i wr) (fun _ i _ => M.length - (intOf i).toNat)
                case atStart => exact ⟨0, none, 0, 0, [], by omega, by omega, rfl, rfl, ⟨rfl, Lead.none _ _⟩, OZ, ⟨KeepS.refl _ _⟩⟩
                case round =>
                  clear OZ
                  obtain ⟨y, A6, c6, n6, rows, hy0, hy1, rfl, rfl, HJ, OB, KB⟩ := hrel
                  have hF2 := keepF HRM_N2.out KB.out
                  have hll : M.length ≤ 40 := by have := HLM.out; have := HLL.out; omega
                  by_cases hly : y < (M.length : Int)
                  · obtain ⟨ad, A7, c7, e7, x0, x1, x2, hl7, hF7⟩ := at_F hF2 y hy0 hly
                    cases e7
                    have HC7 := Aside0.mk hl7
                    have HF7 := Aside0.mk hF7
                    have hs3 : wrap64 (y + 1) = y + 1 := by unfold wrap64; omega
                    have hp2 := eq_true hy0
                    have hq2 := eq_true hly
                    have hd2 : decide (y < (M.length : Int)) = true := decide_eq_true hly
                    have HY := Aside0.mk (And.intro hy0 hly)
                    have HN40 : Aside0 (n6 ≤ 40) := ⟨by have q_ := HJ.out.1; have q2 := HJ.out.2.1; have q3 : (own fi (upTo M y)).length ≤ (upTo M y).length := List.length_filter_le _ _; have q4 := upTo_len M y; omega⟩
                    clear hF7 hF2 hl7
                    by_cases ho : (rd_T31 M y).f0 = fi
                    · have hob : ((rd_T31 M y).f0 == fi) = true := beq_iff_eq.2 ho
                      have HO := Aside0.mk ho
                      clear ho hly hy0 hy1 hll
                      have O12 : Aside0 (Own N2 wr [ObjC ga 64 L, ObjC gb 64 M, emp, nrow (Kd.raw 3) 31 (.slice X1 nX cX) rX, emp, nrow (Kd.raw 3) 31 (.slice A6 n6 c6) rows]) := ⟨OB.out⟩
                      have K12 : Aside0 (KeepS N2 w10 wr) := ⟨KB.out⟩
                      have HRI_12 : Aside0 (Kd.F k47 wr N2 A7 (rd_T31 M y).f2.length (rd_T31 M y).f2) := ⟨HF7.out⟩
                      have HLD_12 : Aside0 (Lead N2 wr rows (own fi (upTo M y))) := ⟨HJ.out.2⟩
                      clear OB KB HF7
                      go_wp2_with (first | ((with_reducible refine gate_dst (N := 17) rfl ?_); refine own_box rfl (D := 17) rfl (cs := #[.int .i64 0, .int .i64 0, .slice none 0 0]) (t := 31) ?hr O12.out ?_; (case hr => first | (go_simp; done) | (go_simp; rfl)); intro gy w13 o_ k_; have O13 : Aside0 (Own N2 w13 [ObjC ga 64 L, ObjC gb 64 M, emp, nrow (Kd.raw 3) 31 (.slice X1 nX cX) rX, emp, nrow (Kd.raw 3) 31 (.slice A6 n6 c6) rows, cells gy #[.int .i64 0, .int .i64 0, .slice none 0 0] 31]) := ⟨o_⟩; have K13 : Aside0 (KeepS N2 w10 w13) := ⟨K12.out.trans k_⟩; have HRI_13 : Aside0 (Kd.F k47 w13 N2 A7 (rd_T31 M y).f2.length (rd_T31 M y).f2) := ⟨keepF HRI_12.out k_⟩; have HLD_13 : Aside0 (Lead N2 w13 rows (own fi (upTo M y))) := ⟨Lead.keep HLD_12.out k_⟩; clear O12 K12 HRI_12 HLD_12; have c13_6_0 : w13.cell? ⟨gy, 0, none⟩ = some (.int .i64 0) := (blk_cell (O13.out.blk (i := 6) rfl) 0).trans rfl; have f13_6_0 : w13.frozen? ⟨gy, 0, none⟩ = false := blk_frozen (O13.out.blk (i := 6) rfl) 0; have c13_6_1 : w13.cell? ⟨gy, 1, none⟩ = some (.int .i64 0) := (blk_cell (O13.out.blk (i := 6) rfl) 1).trans rfl; have f13_6_1 : w13.frozen? ⟨gy, 1, none⟩ = false := blk_frozen (O13.out.blk (i := 6) rfl) 1; have c13_6_2 : w13.cell? ⟨gy, 2, none⟩ = some (.slice none 0 0) := (blk_cell (O13.out.blk (i := 6) rfl) 2).trans rfl; have f13_6_2 : w13.frozen? ⟨gy, 2, none⟩ = false := blk_frozen (O13.out.blk (i := 6) rfl) 2; clear o_ k_) | ((with_reducible refine gate_store (t := 31) (p := 17) rfl ?_); refine own_store rfl rfl rfl (w1 := (World.setCell (World.setCell (World.setCell w13 ⟨gy, 0, none⟩ (.int .i64 (rd_T31 M y).f0)) ⟨gy, 1, none⟩ (.int .i64 (rd_T31 M y).f1)) ⟨gy, 2, none⟩ (.slice A7 (rd_T31 M y).f2.length c7))) (N := N2) (l' := [ObjC ga 64 L, ObjC gb 64 M, emp, nrow (Kd.raw 3) 31 (.slice X1 nX cX) rX, emp, nrow (Kd.raw 3) 31 (.slice A6 n6 c6) rows, cells gy #[.int .i64 (rd_T31 M y).f0, .int .i64 (rd_T31 M y).f1, .slice A7 (rd_T31 M y).f2.length c7] 31]) ?hr ?ho ?hk ?_; (case hr => first | (go_simp; done) | (go_simp; rfl)); (case ho => exact (((O13.out.set (i := 6) rfl 0 (.int .i64 (rd_T31 M y).f0)).set (i := 6) rfl 1 (.int .i64 (rd_T31 M y).f1)).set (i := 6) rfl 2 (.slice A7 (rd_T31 M y).f2.length c7))); (case hk => exact (((KeepS.setCell (O13.out.far (i := 6) rfl) (.int .i64 (rd_T31 M y).f0)).trans (KeepS.setCell (O13.out.far (i := 6) rfl) (.int .i64 (rd_T31 M y).f1))).trans (KeepS.setCell (O13.out.far (i := 6) rfl) (.slice A7 (rd_T31 M y).f2.length c7)))); intro w14 o_ k_; have O14 : Aside0 (Own N2 w14 [ObjC ga 64 L, ObjC gb 64 M, emp, nrow (Kd.raw 3) 31 (.slice X1 nX cX) rX, emp, nrow (Kd.raw 3) 31 (.slice A6 n6 c6) rows, cells gy #[.int .i64 (rd_T31 M y).f0, .int .i64 (rd_T31 M y).f1, .slice A7 (rd_T31 M y).f2.length c7] 31]) := ⟨o_⟩; have K14 : Aside0 (KeepS N2 w10 w14) := ⟨K13.out.trans k_⟩; have HRI_14 : Aside0 (Kd.F k47 w14 N2 A7 (rd_T31 M y).f2.length (rd_T31 M y).f2) := ⟨keepF HRI_13.out k_⟩; have HLD_14 : Aside0 (Lead N2 w14 rows (own fi (upTo M y))) := ⟨Lead.keep HLD_13.out k_⟩; clear c13_6_0 f13_6_0 c13_6_1 f13_6_1 c13_6_2 f13_6_2 O13 K13 HRI_13 HLD_13; have c14_6_0 : w14.cell? ⟨gy, 0, none⟩ = some (.int .i64 (rd_T31 M y).f0) := (blk_cell (O14.out.blk (i := 6) rfl) 0).trans rfl; have f14_6_0 : w14.frozen? ⟨gy, 0, none⟩ = false := blk_frozen (O14.out.blk (i := 6) rfl) 0; have c14_6_1 : w14.cell? ⟨gy, 1, none⟩ = some (.int .i64 (rd_T31 M y).f1) := (blk_cell (O14.out.blk (i := 6) rfl) 1).trans rfl; have f14_6_1 : w14.frozen? ⟨gy, 1, none⟩ = false := blk_frozen (O14.out.blk (i := 6) rfl) 1; have c14_6_2 : w14.cell? ⟨gy, 2, none⟩ = some (.slice A7 (rd_T31 M y).f2.length c7) := (blk_cell (O14.out.blk (i := 6) rfl) 2).trans rfl; have f14_6_2 : w14.frozen? ⟨gy, 2, none⟩ = false := blk_frozen (O14.out.blk (i := 6) rfl) 2; clear o_ k_; have O15 : Aside0 (Own N2 w14 [ObjC ga 64 L, ObjC gb 64 M, emp, nrow (Kd.raw 3) 31 (.slice X1 nX cX) rX, emp, nrow (Kd.raw 3) 31 (.slice A6 n6 c6) rows, cells gy #[.int .i64 (rd_T31 M y).f0, .int .i64 (rd_T31 M y).f1, .slice A7 (rd_T31 M y).f2.length c7] 31, elt (Kd.raw 3) [.int .i64 (rd_T31 M y).f0, .int .i64 (rd_T31 M y).f1, .slice A7 (rd_T31 M y).f2.length c7] [.int .i64 (rd_T31 M y).f0, .int .i64 (rd_T31 M y).f1, .slice A7 (rd_T31 M y).f2.length c7]]) := ⟨O14.out.push_emp (elt (Kd.raw 3) [.int .i64 (rd_T31 M y).f0, .int .i64 (rd_T31 M y).f1, .slice A7 (rd_T31 M y).f2.length c7] [.int .i64 (rd_T31 M y).f0, .int .i64 (rd_T31 M y).f1, .slice A7 (rd_T31 M y).f2.length c7]) (fun w W' _ => ⟨rfl, rfl, by intro u hu; simp only [List.mem_cons, List.not_mem_nil, or_false] at hu; rcases hu with rfl | rfl | rfl <;> rfl⟩)⟩; clear O14) | ((with_reducible refine gate_builtin (b := .append) (xs := #[.tmp 97, .tmp 99]) rfl ?_); at_builtin; refine Own.append (Kd.raw 3) O15.out (i := 5) (j := 7) rfl rfl (by decide) rfl (.tmp 97) (.tmp 99) 22 (.agg #[.int .i64 0, .int .i64 0, .slice none 0 0]) 40 rfl Try.underlying22 infoR rfl (by decide) (by decide) rfl rfl (by have := HN40.out; have := HJ.out.1; omega) ?_; intro A8 c8 w16 o_ k_; rw [HJ.out.1] at o_; rw [HJ.out.1]; have O16 : Aside0 (Own N2 w16 [ObjC ga 64 L, ObjC gb 64 M, emp, nrow (Kd.raw 3) 31 (.slice X1 nX cX) rX, emp, nrow (Kd.raw 3) 31 (.slice A8 (n6 + 1) c8) (rows ++ [[.int .i64 (rd_T31 M y).f0, .int .i64 (rd_T31 M y).f1, .slice A7 (rd_T31 M y).f2.length c7]]), cells gy #[.int .i64 (rd_T31 M y).f0, .int .i64 (rd_T31 M y).f1, .slice A7 (rd_T31 M y).f2.length c7] 31, emp]) := ⟨o_⟩; have K16 : Aside0 (KeepS N2 w10 w16) := ⟨K14.out.trans k_⟩; have HRI_16 : Aside0 (Kd.F k47 w16 N2 A7 (rd_T31 M y).f2.length (rd_T31 M y).f2) := ⟨keepF HRI_14.out k_⟩; have HLD_16 : Aside0 (Lead N2 w16 rows (own fi (upTo M y))) := ⟨Lead.keep HLD_14.out k_⟩; clear c14_6_0 f14_6_0 c14_6_1 f14_6_1 c14_6_2 f14_6_2 O15 K14 HRI_14 HLD_14; have c16_6_0 : w16.cell? ⟨gy, 0, none⟩ = some (.int .i64 (rd_T31 M y).f0) := (blk_cell (O16.out.blk (i := 6) rfl) 0).trans rfl; have f16_6_0 : w16.frozen? ⟨gy, 0, none⟩ = false := blk_frozen (O16.out.blk (i := 6) rfl) 0; have c16_6_1 : w16.cell? ⟨gy, 1, none⟩ = some (.int .i64 (rd_T31 M y).f1) := (blk_cell (O16.out.blk (i := 6) rfl) 1).trans rfl; have f16_6_1 : w16.frozen? ⟨gy, 1, none⟩ = false := blk_frozen (O16.out.blk (i := 6) rfl) 1; have c16_6_2 : w16.cell? ⟨gy, 2, none⟩ = some (.slice A7 (rd_T31 M y).f2.length c7) := (blk_cell (O16.out.blk (i := 6) rfl) 2).trans rfl; have f16_6_2 : w16.frozen? ⟨gy, 2, none⟩ = false := blk_frozen (O16.out.blk (i := 6) rfl) 2; clear o_ k_))
                      go_roundw
                      case rel => exact ⟨y + 1, A8, c8, n6 + 1, rows ++ [[Value.int .i64 (rd_T31 M y).f0, Value.int .i64 (rd_T31 M y).f1, Value.slice A7 (rd_T31 M y).f2.length c7]], by have := HY.out; omega, by have := HY.out; omega, int_eq (by unfold wrap64; have := HY.out; have := HLL.out; have := HLM.out; omega), rfl, ⟨by rw [List.length_append, HJ.out.1]; rfl, by rw [own_upTo_yes HY.out.1 HY.out.2 HO.out]; exact HLD_16.out.snoc (fk_of HC7.out HRI_16.out)⟩, ⟨O16.out.take 6⟩, K16⟩
                      case measure => have := HY.out; simp [intOf]; omega
                    · have hob : ((rd_T31 M y).f0 == fi) = false := beq_eq_false_iff_ne.2 ho
                      have HO := Aside0.mk ho
                      clear ho hly hy0 hy1 hll
                      have O12 : Aside0 (Own N2 wr [ObjC ga 64 L, ObjC gb 64 M, emp, nrow (Kd.raw 3) 31 (.slice X1 nX cX) rX, emp, nrow (Kd.raw 3) 31 (.slice A6 n6 c6) rows]) := ⟨OB.out⟩
                      have K12 : Aside0 (KeepS N2 w10 wr) := ⟨KB.out⟩
                      have HRI_12 : Aside0 (Kd.F k47 wr N2 A7 (rd_T31 M y).f2.length (rd_T31 M y).f2) := ⟨HF7.out⟩
                      have HLD_12 : Aside0 (Lead N2 wr rows (own fi (upTo M y))) := ⟨HJ.out.2⟩
                      clear OB KB HF7
                      go_wp2_with (first | ((with_reducible refine gate_dst (N := 17) rfl ?_); refine own_box rfl (D := 17) rfl (cs := #[.int .i64 0, .int .i64 0, .slice none 0 0]) (t := 31) ?hr O12.out ?_; (case hr => first | (go_simp; done) | (go_simp; rfl)); intro gy w13 o_ k_; have O13 : Aside0 (Own N2 w13 [ObjC ga 64 L, ObjC gb 64 M, emp, nrow (Kd.raw 3) 31 (.slice X1 nX cX) rX, emp, nrow (Kd.raw 3) 31 (.slice A6 n6 c6) rows, cells gy #[.int .i64 0, .int .i64 0, .slice none 0 0] 31]) := ⟨o_⟩; have K13 : Aside0 (KeepS N2 w10 w13) := ⟨K12.out.trans k_⟩; have HRI_13 : Aside0 (Kd.F k47 w13 N2 A7 (rd_T31 M y).f2.length (rd_T31 M y).f2) := ⟨keepF HRI_12.out k_⟩; have HLD_13 : Aside0 (Lead N2 w13 rows (own fi (upTo M y))) := ⟨Lead.keep HLD_12.out k_⟩; clear O12 K12 HRI_12 HLD_12; have c13_6_0 : w13.cell? ⟨gy, 0, none⟩ = some (.int .i64 0) := (blk_cell (O13.out.blk (i := 6) rfl) 0).trans rfl; have f13_6_0 : w13.frozen? ⟨gy, 0, none⟩ = false := blk_frozen (O13.out.blk (i := 6) rfl) 0; have c13_6_1 : w13.cell? ⟨gy, 1, none⟩ = some (.int .i64 0) := (blk_cell (O13.out.blk (i := 6) rfl) 1).trans rfl; have f13_6_1 : w13.frozen? ⟨gy, 1, none⟩ = false := blk_frozen (O13.out.blk (i := 6) rfl) 1; have c13_6_2 : w13.cell? ⟨gy, 2, none⟩ = some (.slice none 0 0) := (blk_cell (O13.out.blk (i := 6) rfl) 2).trans rfl; have f13_6_2 : w13.frozen? ⟨gy, 2, none⟩ = false := blk_frozen (O13.out.blk (i := 6) rfl) 2; clear o_ k_) | ((with_reducible refine gate_store (t := 31) (p := 17) rfl ?_); refine own_store rfl rfl rfl (w1 := (World.setCell (World.setCell (World.setCell w13 ⟨gy, 0, none⟩ (.int .i64 (rd_T31 M y).f0)) ⟨gy, 1, none⟩ (.int .i64 (rd_T31 M y).f1)) ⟨gy, 2, none⟩ (.slice A7 (rd_T31 M y).f2.length c7))) (N := N2) (l' := [ObjC ga 64 L, ObjC gb 64 M, emp, nrow (Kd.raw 3) 31 (.slice X1 nX cX) rX, emp, nrow (Kd.raw 3) 31 (.slice A6 n6 c6) rows, cells gy #[.int .i64 (rd_T31 M y).f0, .int .i64 (rd_T31 M y).f1, .slice A7 (rd_T31 M y).f2.length c7] 31]) ?hr ?ho ?hk ?_; (case hr => first | (go_simp; done) | (go_simp; rfl)); (case ho => exact (((O13.out.set (i := 6) rfl 0 (.int .i64 (rd_T31 M y).f0)).set (i := 6) rfl 1 (.int .i64 (rd_T31 M y).f1)).set (i := 6) rfl 2 (.slice A7 (rd_T31 M y).f2.length c7))); (case hk => exact (((KeepS.setCell (O13.out.far (i := 6) rfl) (.int .i64 (rd_T31 M y).f0)).trans (KeepS.setCell (O13.out.far (i := 6) rfl) (.int .i64 (rd_T31 M y).f1))).trans (KeepS.setCell (O13.out.far (i := 6) rfl) (.slice A7 (rd_T31 M y).f2.length c7)))); intro w14 o_ k_; have O14 : Aside0 (Own N2 w14 [ObjC ga 64 L, ObjC gb 64 M, emp, nrow (Kd.raw 3) 31 (.slice X1 nX cX) rX, emp, nrow (Kd.raw 3) 31 (.slice A6 n6 c6) rows, cells gy #[.int .i64 (rd_T31 M y).f0, .int .i64 (rd_T31 M y).f1, .slice A7 (rd_T31 M y).f2.length c7] 31]) := ⟨o_⟩; have K14 : Aside0 (KeepS N2 w10 w14) := ⟨K13.out.trans k_⟩; have HRI_14 : Aside0 (Kd.F k47 w14 N2 A7 (rd_T31 M y).f2.length (rd_T31 M y).f2) := ⟨keepF HRI_13.out k_⟩; have HLD_14 : Aside0 (Lead N2 w14 rows (own fi (upTo M y))) := ⟨Lead.keep HLD_13.out k_⟩; clear c13_6_0 f13_6_0 c13_6_1 f13_6_1 c13_6_2 f13_6_2 O13 K13 HRI_13 HLD_13; have c14_6_0 : w14.cell? ⟨gy, 0, none⟩ = some (.int .i64 (rd_T31 M y).f0) := (blk_cell (O14.out.blk (i := 6) rfl) 0).trans rfl; have f14_6_0 : w14.frozen? ⟨gy, 0, none⟩ = false := blk_frozen (O14.out.blk (i := 6) rfl) 0; have c14_6_1 : w14.cell? ⟨gy, 1, none⟩ = some (.int .i64 (rd_T31 M y).f1) := (blk_cell (O14.out.blk (i := 6) rfl) 1).trans rfl; have f14_6_1 : w14.frozen? ⟨gy, 1, none⟩ = false := blk_frozen (O14.out.blk (i := 6) rfl) 1; have c14_6_2 : w14.cell? ⟨gy, 2, none⟩ = some (.slice A7 (rd_T31 M y).f2.length c7) := (blk_cell (O14.out.blk (i := 6) rfl) 2).trans rfl; have f14_6_2 : w14.frozen? ⟨gy, 2, none⟩ = false := blk_frozen (O14.out.blk (i := 6) rfl) 2; clear o_ k_))
                      go_roundw
                      case rel => exact ⟨y + 1, A6, c6, n6, rows, by have := HY.out; omega, by have := HY.out; omega, int_eq (by unfold wrap64; have := HY.out; have := HLL.out; have := HLM.out; omega), rfl, ⟨HJ.out.1, by rw [own_upTo_no HY.out.1 HY.out.2 HO.out]; exact HLD_14.out⟩, ⟨O14.out.take 6⟩, K14⟩
                      case measure => have := HY.out; simp [intOf]; omega
                  · have hye : y = (M.length : Int) := by omega
                    subst hye
                    have hd2 : decide ((M.length : Int) < (M.length : Int)) = false := decide_eq_false (Int.lt_irrefl _)
                    clear hly hy0 hy1 hF2 hll
                    have HLY : Aside0 (Lead N2 wr rows (own fi L)) := ⟨by have q_ := HJ.out.2; rw [upTo_all, HOM.out] at q_; exact q_⟩
                    have HLX2 : Aside0 (Lead N2 wr rX (own fi L)) := ⟨HLX_N2.out.keep KB.out⟩
                    have HSH : Aside0 ((own fi L).length ≤ 40 ∧ ∀ x : Int, 0 ≤ x → x < (own fi L).length → (rd_T31 (own fi L) x).f2.length ≤ 8) := ⟨Nat.le_trans (List.length_filter_le _ _) HLL.out, fun x h0 h1 => good_short (C := 64) (fun r hr => HGL.out r (mem_own hr).1) x h0 h1⟩
                    have hlm : ((L.length : Int) == (M.length : Int)) = true := by rw [HLM.out]; simp
                    have hlo : (lastOf fi L == lastOf fi M) = true := by rw [HLO.out]; simp
                    obtain ⟨wl, hwl⟩ : ∃ wl : World, wl = wr := ⟨_, rfl⟩
                    subst hwl
                    have O12 : Aside0 (Own N2 wl [ObjC ga 64 L, ObjC gb 64 M, emp, nrow (Kd.raw 3) 31 (.slice X1 nX cX) rX, emp, nrow (Kd.raw 3) 31 (.slice A6 n6 c6) rows]) := ⟨OB.out⟩
                    have K12 : Aside0 (KeepS N2 w10 wl) := ⟨KB.out⟩
                    have HXX_12 : Aside0 (Lead N2 wl rX (own fi L)) := ⟨HLX2.out⟩
                    have HYY_12 : Aside0 (Lead N2 wl rows (own fi L)) := ⟨HLY.out⟩
                    clear OB KB
                    have hx_ := lead_C O12.out (i := 3) rfl HXX_12.out
                    have hy_ := lead_C O12.out (i := 5) rfl HYY_12.out
                    have HCX := Aside0.mk hx_
                    have HCY := Aside0.mk hy_
                    clear hx_ hy_
                    obtain rfl : nX = (own fi L).length := HCX.out.1
                    obtain rfl : n6 = (own fi L).length := HCY.out.1
                    go_wp2_with (first | ((with_reducible refine gate_callee (f := 16) rfl ?_); refine goesL_ (some 104) rfl rfl Try.func16 (by kernel_rfl) rfl #[.slice X1 (own fi L).length cX, .slice A6 (own fi L).length c6] rfl (by (try simp only [List.map_toArray, List.map_cons, List.map_nil]); first | done | rfl) ?_; refine (chapbookref07_SameAll.calls 200 _ _ (own fi L) _ _ (own fi L) true _ HCX.out.2.2 HCX.out.2.1 HCY.out.2.2 HCY.out.2.1 (psameAll 8 200 (own fi L) (by have := HSH.out.1; omega) HSH.out.2 (by decide) (by have := HSH.out.1; omega))).mono ?_; rintro e_ w13 ⟨rfl, hb_⟩; refine ⟨_, rfl, ?_⟩; have o_ := O12.out.below hb_; have k_ := KeepS.of_below (N := N2) hb_; have O13 : Aside0 (Own N2 w13 [ObjC ga 64 L, ObjC gb 64 M, emp, nrow (Kd.raw 3) 31 (.slice X1 (own fi L).length cX) rX, emp, nrow (Kd.raw 3) 31 (.slice A6 (own fi L).length c6) rows]) := ⟨o_⟩; have K13 : Aside0 (KeepS N2 w10 w13) := ⟨K12.out.trans k_⟩; have HXX_13 : Aside0 (Lead N2 w13 rX (own fi L)) := ⟨Lead.keep HXX_12.out k_⟩; have HYY_13 : Aside0 (Lead N2 w13 rows (own fi L)) := ⟨Lead.keep HYY_12.out k_⟩; clear O12 K12 HXX_12 HYY_12; clear o_ k_ hb_) | ((with_reducible refine gate_callee (f := 15) rfl ?_); refine gate_guard (by rfl) ?_; refine goesL_ (some 107) rfl rfl Try.func15 (by kernel_rfl) rfl #[.pointer (some ⟨ga, 0, none⟩)] rfl (by (try simp only [List.map_toArray, List.map_cons, List.map_nil]); first | done | rfl) ?_; obtain ⟨N_, on_, nn_, rr_, bb_⟩ := O13.out.frame1 (i := 0) rfl; refine (Len_n (L.length : Int) rfl on_).mono ?_; rintro e_ w14 ⟨rfl, oo_, kk_⟩; obtain ⟨o_, k_⟩ := bb_ _ _ _ kk_ oo_; refine ⟨_, rfl, ?_⟩; have O14 : Aside0 (Own N2 w14 [ObjC ga 64 L, ObjC gb 64 M, emp, nrow (Kd.raw 3) 31 (.slice X1 (own fi L).length cX) rX, emp, nrow (Kd.raw 3) 31 (.slice A6 (own fi L).length c6) rows]) := ⟨o_⟩; have K14 : Aside0 (KeepS N2 w10 w14) := ⟨K13.out.trans k_⟩; have HXX_14 : Aside0 (Lead N2 w14 rX (own fi L)) := ⟨Lead.keep HXX_13.out k_⟩; have HYY_14 : Aside0 (Lead N2 w14 rows (own fi L)) := ⟨Lead.keep HYY_13.out k_⟩; clear O13 K13 HXX_13 HYY_13; clear o_ k_ oo_ kk_ on_ nn_ rr_ bb_) | ((with_reducible refine gate_callee (f := 15) rfl ?_); refine gate_guard (by rfl) ?_; refine goesL_ (some 109) rfl rfl Try.func15 (by kernel_rfl) rfl #[.pointer (some ⟨gb, 0, none⟩)] rfl (by (try simp only [List.map_toArray, List.map_cons, List.map_nil]); first | done | rfl) ?_; obtain ⟨N_, on_, nn_, rr_, bb_⟩ := O14.out.frame1 (i := 1) rfl; refine (Len_n (M.length : Int) rfl on_).mono ?_; rintro e_ w15 ⟨rfl, oo_, kk_⟩; obtain ⟨o_, k_⟩ := bb_ _ _ _ kk_ oo_; refine ⟨_, rfl, ?_⟩; have O15 : Aside0 (Own N2 w15 [ObjC ga 64 L, ObjC gb 64 M, emp, nrow (Kd.raw 3) 31 (.slice X1 (own fi L).length cX) rX, emp, nrow (Kd.raw 3) 31 (.slice A6 (own fi L).length c6) rows]) := ⟨o_⟩; have K15 : Aside0 (KeepS N2 w10 w15) := ⟨K14.out.trans k_⟩; have HXX_15 : Aside0 (Lead N2 w15 rX (own fi L)) := ⟨Lead.keep HXX_14.out k_⟩; have HYY_15 : Aside0 (Lead N2 w15 rows (own fi L)) := ⟨Lead.keep HYY_14.out k_⟩; clear O14 K14 HXX_14 HYY_14; clear o_ k_ oo_ kk_ on_ nn_ rr_ bb_) | ((with_reducible refine gate_callee (f := 20) rfl ?_); refine gate_guard (by rfl) ?_; refine goesL_ (some 115) rfl rfl Try.func20 (by kernel_rfl) rfl #[.pointer (some ⟨ga, 0, none⟩), .int .i64 fi] rfl (by (try simp only [List.map_toArray, List.map_cons, List.map_nil]); first | done | rfl) ?_; obtain ⟨N_, on_, nn_, rr_, bb_⟩ := O15.out.frame1 (i := 0) rfl; refine (Last_in fi on_ HFI.out.1 HFI.out.2 (by decide)).mono ?_; rintro e_ w16 ⟨rfl, oo_, kk_⟩; obtain ⟨o_, k_⟩ := bb_ _ _ _ kk_ oo_; refine ⟨_, rfl, ?_⟩; have O16 : Aside0 (Own N2 w16 [ObjC ga 64 L, ObjC gb 64 M, emp, nrow (Kd.raw 3) 31 (.slice X1 (own fi L).length cX) rX, emp, nrow (Kd.raw 3) 31 (.slice A6 (own fi L).length c6) rows]) := ⟨o_⟩; have K16 : Aside0 (KeepS N2 w10 w16) := ⟨K15.out.trans k_⟩; have HXX_16 : Aside0 (Lead N2 w16 rX (own fi L)) := ⟨Lead.keep HXX_15.out k_⟩; have HYY_16 : Aside0 (Lead N2 w16 rows (own fi L)) := ⟨Lead.keep HYY_15.out k_⟩; clear O15 K15 HXX_15 HYY_15; clear o_ k_ oo_ kk_ on_ nn_ rr_ bb_) | ((with_reducible refine gate_callee (f := 20) rfl ?_); refine gate_guard (by rfl) ?_; refine goesL_ (some 118) rfl rfl Try.func20 (by kernel_rfl) rfl #[.pointer (some ⟨gb, 0, none⟩), .int .i64 fi] rfl (by (try simp only [List.map_toArray, List.map_cons, List.map_nil]); first | done | rfl) ?_; obtain ⟨N_, on_, nn_, rr_, bb_⟩ := O16.out.frame1 (i := 1) rfl; refine (Last_in fi on_ HFI.out.1 HFI.out.2 (by decide)).mono ?_; rintro e_ w17 ⟨rfl, oo_, kk_⟩; obtain ⟨o_, k_⟩ := bb_ _ _ _ kk_ oo_; refine ⟨_, rfl, ?_⟩; have O17 : Aside0 (Own N2 w17 [ObjC ga 64 L, ObjC gb 64 M, emp, nrow (Kd.raw 3) 31 (.slice X1 (own fi L).length cX) rX, emp, nrow (Kd.raw 3) 31 (.slice A6 (own fi L).length c6) rows]) := ⟨o_⟩; have K17 : Aside0 (KeepS N2 w10 w17) := ⟨K16.out.trans k_⟩; have HXX_17 : Aside0 (Lead N2 w17 rX (own fi L)) := ⟨Lead.keep HXX_16.out k_⟩; have HYY_17 : Aside0 (Lead N2 w17 rows (own fi L)) := ⟨Lead.keep HYY_16.out k_⟩; clear O16 K16 HXX_16 HYY_16; clear o_ k_ oo_ kk_ on_ nn_ rr_ bb_))
                    go_ret
                    exact ⟨by first | rfl | simp, ((K7.out.trans (K10.out.mono HN1.out)).trans (K17.out.mono (fun k hk => HN2.out k (HN1.out k hk)))).below (Nat.le_refl _) (fun k hk => by rw [HN.out]; exact hk)⟩
end Go.Proofs.Ytjmoncfgoaaekaa.J
