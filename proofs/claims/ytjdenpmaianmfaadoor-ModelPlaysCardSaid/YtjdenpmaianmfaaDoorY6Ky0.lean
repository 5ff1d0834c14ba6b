/- Keys that rise: what the document's Keys gathers, in plain Lean: rows of texts in order, an insertion, how many keys have a value. -/
import Derived.Test.YtjdenpmaianmfaaDoorY6Rp1
import Derived.Test.YtjdenpmaianmfaaDoorY6Q10
namespace Go.Proofs.YtjdenpmaianmfaaDoor.Pure
set_option linter.unusedSimpArgs false
set_option linter.unusedVariables false
open Go RowKit YtjdenpmaianmfaaDoorW.PrintWords YtjdenpmaianmfaaDoorW.PrintLast YtjdenpmaianmfaaDoorW.PrintMore Q J
abbrev mayV (u : S32) : Int := may u.f0 u.f1 u.f2 u.f3
def getV (key : ByteArray) (v : Val) (l : List S32) : Val := l.foldl (fun v u => if u.f0 = key ∧ mayV u = 0 then app v u.f1 u.f2 u.f3 else v) v
theorem doL_get (key : ByteArray) : ∀ (l : List S32) (M : ByteArray → Val), doL M l key = getV key (M key) l
 | [], M => rfl
 | u :: l, M => by
  show doL (doU M u.f0 u.f1 u.f2 u.f3) l key = getV key (if u.f0 = key ∧ mayV u = 0 then app (M key) u.f1 u.f2 u.f3 else M key) l
  rw [doL_get key l]
  congr 1
  unfold doU
  by_cases hm : may u.f0 u.f1 u.f2 u.f3 = 0
  ·rw [if_pos hm]
   unfold upd
   by_cases hk : u.f0 = key
   ·subst hk
    rw [if_pos rfl, if_pos ⟨rfl, hm⟩]
   ·rw [if_neg (fun e => hk e.symm), if_neg (fun e => hk e.1)]
  ·rw [if_neg hm, if_neg (fun e => hm e.2)]
theorem toList_inj17 {a b : ByteArray} (h : a.toList = b.toList) : a = b := by
 rw [ByteArray.toList_eq, ByteArray.toList_eq] at h
 obtain ⟨a⟩ := a
 obtain ⟨b⟩ := b
 exact congrArg ByteArray.mk (Array.toList_inj.1 h)
theorem rd_drop17 (l : List S32) (x : Int) (h0 : 0 ≤ x) (h1 : x < l.length) : l.drop x.toNat = rd_T32 l x :: l.drop (x + 1).toNat := by
 have hl : x.toNat < l.length := by omega
 have e : (x + 1).toNat = x.toNat + 1 := by omega
 rw [List.drop_eq_getElem_cons hl, e]
 congr 1
 unfold rd_T32
 rw [List.getD_eq_getElem?_getD, List.getElem?_eq_getElem hl]
 rfl
theorem w64s17 {x : Int} {n : Nat} (h0 : 0 ≤ x) (h1 : x < n) (hn : n ≤ 4000000000) : wrap64 (x + 1) = x + 1 := by unfold wrap64; omega
theorem get_loop (key : ByteArray) (l : List S32) (hl : l.length ≤ 1000000) : ∀ (d k : Nat) (x : Int) (v : Val), 0 ≤ x → x ≤ l.length → (l.length : Int) - x = d → d + 8 ≤ k → good v = true → chapbookref05_Get.l0 k key l x v.1 v.2.1 v.2.2 = some (getV key v (l.drop x.toNat)) := by
 intro d
 induction d with
 | zero =>
  intro k x v h0 h1 hd hk hv
  obtain ⟨k, rfl⟩ : ∃ m, k = m + 1 := ⟨k - 1, by omega⟩
  simp only [chapbookref05_Get.l0]
  rw [if_neg (by omega), List.drop_of_length_le (by omega)]
  rfl
 | succ d ih =>
  intro k x v h0 h1 hd hk hv
  obtain ⟨k, rfl⟩ : ∃ m, k = m + 1 := ⟨k - 1, by omega⟩
  simp only [chapbookref05_Get.l0]
  rw [if_pos (by omega), if_pos h0, w64s17 (n := l.length) h0 (by omega) (by omega), rd_drop17 l x h0 (by omega)]
  show _ = some (getV key (if (rd_T32 l x).f0 = key ∧ mayV (rd_T32 l x) = 0 then app v (rd_T32 l x).f1 (rd_T32 l x).f2 (rd_T32 l x).f3 else v) (l.drop (x + 1).toNat))
  generalize rd_T32 l x = u
  by_cases hk1 : u.f0 = key
  ·rw [if_pos (by rw [hk1])]
   obtain ⟨k, rfl⟩ : ∃ m, k = m + 6 := ⟨k - 6, by omega⟩
   rw [rmay_ok, Option.bind_some]
   by_cases hm : may u.f0 u.f1 u.f2 u.f3 = 0
   ·have hg : good (app v u.f1 u.f2 u.f3) = true := good_app hv (Nat.le_trans (may_app hm).2.1 (by decide))
    rw [if_pos hm, if_pos ⟨hk1, hm⟩]
    have ha : chapbookref04_Apply.f v.1 v.2.1 v.2.2 u.f0 u.f1 u.f2 u.f3 = some (app v u.f1 u.f2 u.f3) := by
     unfold chapbookref04_Apply.f
     rw [if_pos ⟨hv, Nat.le_trans (may_app hm).2.1 (by decide), (may_app hm).2.2⟩]
    rw [ha, Option.bind_some]
    exact ih (k + 6) (x + 1) _ (by omega) (by omega) (by omega) (by omega) hg
   ·rw [if_neg hm, if_neg (fun e => hm e.2)]
    exact ih (k + 6) (x + 1) _ (by omega) (by omega) (by omega) (by omega) hv
  ·rw [if_neg (fun e => hk1 (toList_inj17 e)), if_neg (fun e => hk1 e.1)]
   exact ih k (x + 1) _ (by omega) (by omega) (by omega) (by omega) hv
theorem get_ok17 (k : Nat) (key : ByteArray) (l : List S32) (hl : l.length ≤ 1000000) (hk : l.length + 8 ≤ k) : chapbookref05_Get.f k key l = some (doL zeroM l key) := by
 unfold chapbookref05_Get.f
 rw [doL_get]
 exact get_loop key l hl l.length k 0 zeroV (by omega) (by omega) (by omega) (by omega) good_zero
theorem rd_dropR17 (l : List S35) (x : Int) (h0 : 0 ≤ x) (h1 : x < l.length) : l.drop x.toNat = rd_T35 l x :: l.drop (x + 1).toNat := by
 have hl : x.toNat < l.length := by omega
 have e : (x + 1).toNat = x.toNat + 1 := by omega
 rw [List.drop_eq_getElem_cons hl, e]
 congr 1
 unfold rd_T35
 rw [List.getD_eq_getElem?_getD, List.getElem?_eq_getElem hl]
 rfl
theorem flat_loop (l0 : List S32) (rs : List S35) (hb : (flatR rs).length + l0.length < 1000000) (hr : rs.length ≤ 1000000) : ∀ (d k : Nat) (x : Int) (acc : List S32), 0 ≤ x → x ≤ rs.length → (rs.length : Int) - x = d → d + 1 ≤ k → acc ++ flatR (rs.drop x.toNat) = flatR rs → chapbookref08_Flat.l0 k l0 rs acc x = some (flatR rs ++ l0) := by
 intro d
 induction d with
 | zero =>
  intro k x acc h0 h1 hd hk ha
  obtain ⟨k, rfl⟩ : ∃ m, k = m + 1 := ⟨k - 1, by omega⟩
  simp only [chapbookref08_Flat.l0]
  rw [List.drop_of_length_le (by omega)] at ha
  have ha2 : acc = flatR rs := by rw [← ha]; show acc = acc ++ []; rw [List.append_nil]
  rw [if_neg (by omega), ha2, if_pos (by omega)]
 | succ d ih =>
  intro k x acc h0 h1 hd hk ha
  obtain ⟨k, rfl⟩ : ∃ m, k = m + 1 := ⟨k - 1, by omega⟩
  simp only [chapbookref08_Flat.l0]
  rw [rd_dropR17 rs x h0 (by omega)] at ha
  have ha2 : (acc ++ (rd_T35 rs x).f2) ++ flatR (rs.drop (x + 1).toNat) = flatR rs := by rw [← ha, List.append_assoc]; rfl
  have hl := congrArg List.length ha2
  simp only [List.length_append] at hl
  rw [if_pos (by omega), if_pos h0, if_pos (by omega), w64s17 (n := rs.length) h0 (by omega) (by omega)]
  exact ih k (x + 1) _ (by omega) (by omega) (by omega) (by omega) ha2
theorem flat_ok (k : Nat) (l0 : List S32) (rs : List S35) (hb : (flatR rs).length + l0.length < 1000000) (hr : rs.length ≤ 1000000) (hk : rs.length + 1 ≤ k) : chapbookref08_Flat.f k l0 rs = some (flatR rs ++ l0) := by
 unfold chapbookref08_Flat.f
 exact flat_loop l0 rs hb hr rs.length k 0 [] (by omega) (by omega) (by omega) (by omega) rfl
theorem read_ok (k : Nat) (key : ByteArray) (l0 : List S32) (rs : List S35) (hb : (flatR rs).length + l0.length < 1000000) (hr : rs.length ≤ 1000000) (hk : rs.length + (flatR rs).length + l0.length + 8 ≤ k) : chapbookref08_Read.f k key l0 rs = some (stateOf l0 rs key) := by
 unfold chapbookref08_Read.f
 rw [flat_ok k l0 rs hb hr (by omega), Option.bind_some, get_ok17 k key _ (by rw [List.length_append]; omega) (by rw [List.length_append]; omega), Option.bind_some, doL_app]
 rfl
end Go.Proofs.YtjdenpmaianmfaaDoor.Pure
namespace Go.Proofs.YtjdenpmaianmfaaDoor.J
set_option linter.unusedSimpArgs false
set_option linter.unusedVariables false
open Go RowKit YtjdenpmaianmfaaDoorW.PrintWords Q YtjdenpmaianmfaaDoor.Sep YtjdenpmaianmfaaDoor.Pure
def ltB (a b : ByteArray) : Prop := Op.bytesLess a.toList b.toList = true
theorem less_trans : ∀ x y z : List UInt8, Op.bytesLess x y = true → Op.bytesLess y z = true → Op.bytesLess x z = true
 | _, [], _, h, _ => by simp [Op.bytesLess] at h
 | _, _ :: _, [], _, h => by simp [Op.bytesLess] at h
 | [], _ :: _, _ :: _, _, _ => rfl
 | a :: x, b :: y, c :: z, h, k => by
  simp only [Op.bytesLess, Bool.or_eq_true, decide_eq_true_eq, Bool.and_eq_true, beq_iff_eq] at h k ⊢
  rcases h with h | ⟨rfl, h⟩
  ·rcases k with k | ⟨rfl, k⟩
   ·exact .inl (UInt8.lt_trans h k)
   ·exact .inl h
  ·rcases k with k | ⟨rfl, k⟩
   ·exact .inl k
   ·exact .inr ⟨rfl, less_trans x y z h k⟩
theorem less_irrefl : ∀ x : List UInt8, Op.bytesLess x x = false
 | [] => rfl
 | a :: x => by
  have h := less_irrefl x
  have : ¬ a < a := UInt8.lt_irrefl a
  simp [Op.bytesLess, h, this]
theorem less_total : ∀ x y : List UInt8, Op.bytesLess x y = false → x ≠ y → Op.bytesLess y x = true
 | [], [], _, h => (h rfl).elim
 | _ :: _, [], _, _ => rfl
 | [], _ :: _, h, _ => by simp [Op.bytesLess] at h
 | a :: x, b :: y, h, hn => by
  simp only [Op.bytesLess, Bool.or_eq_false_iff, decide_eq_false_iff_not, Bool.and_eq_false_iff, beq_eq_false_iff_ne] at h
  simp only [Op.bytesLess, Bool.or_eq_true, decide_eq_true_eq, Bool.and_eq_true, beq_iff_eq]
  by_cases e : a = b
  ·subst e
   refine .inr ⟨rfl, less_total x y ?_ (fun e => hn (by rw [e]))⟩
   rcases h.2 with h | h
   ·exact (h rfl).elim
   ·exact h
  ·refine .inl ?_
   rcases UInt8.lt_or_lt_of_ne e with h1 | h1
   ·exact (h.1 h1).elim
   ·exact h1
theorem ltB_trans {a b c : ByteArray} (h : ltB a b) (k : ltB b c) : ltB a c := less_trans _ _ _ h k
theorem ltB_ne {a : ByteArray} : ¬ ltB a a := fun h => by
 unfold ltB at h
 rw [less_irrefl] at h
 cases h
theorem ltB_tot {a b : ByteArray} (h : ¬ ltB a b) (hn : a ≠ b) : ltB b a := less_total _ _ (by unfold ltB at h; simpa using h) (fun e => hn (toList_inj17 e))
def Rise (l : List ByteArray) : Prop := l.Pairwise ltB
theorem Rise.nodup {l : List ByteArray} (h : Rise l) : l.Nodup := by
 refine List.Pairwise.imp (R := ltB) (fun {a b} h => ?_) h
 rintro rfl
 exact ltB_ne h
def insAt (l : List ByteArray) (n : Nat) (k : ByteArray) : List ByteArray := l.take n ++ [k] ++ l.drop n
theorem insAt_mem {l : List ByteArray} {n : Nat} {k x : ByteArray} : x ∈ insAt l n k ↔ x = k ∨ x ∈ l := by
 unfold insAt
 rw [List.mem_append, List.mem_append, List.mem_singleton]
 conv => rhs; rw [← List.take_append_drop n l, List.mem_append]
 constructor
 ·rintro ((h | h) | h)
  ·exact .inr (.inl h)
  ·exact .inl h
  ·exact .inr (.inr h)
 ·rintro (h | h | h)
  ·exact .inl (.inr h)
  ·exact .inl (.inl h)
  ·exact .inr h
def Low (l : List ByteArray) (n : Nat) (k : ByteArray) : Prop := ∀ x ∈ l.take n, ltB x k
theorem Rise.insAt {l : List ByteArray} {n : Nat} {k : ByteArray} (h : Rise l) (hl : Low l n k) (hh : ∀ x ∈ l.drop n, ltB k x) : Rise (insAt l n k) := by
 unfold Rise J.insAt
 rw [List.append_assoc, List.pairwise_append]
 refine ⟨h.sublist (List.take_sublist n l), ?_, ?_⟩
 ·rw [List.singleton_append, List.pairwise_cons]
  exact ⟨hh, h.sublist (List.drop_sublist n l)⟩
 ·intro a ha b hb
  rw [List.singleton_append, List.mem_cons] at hb
  rcases hb with rfl | hb
  ·exact hl a ha
  ·exact ltB_trans (hl a ha) (hh b hb)
theorem Rise.high {l : List ByteArray} {n : Nat} {k y : ByteArray} (h : Rise l) (hy : l[n]? = some y) (hk : ltB k y) : ∀ x ∈ l.drop n, ltB k x := by
 have hn : n < l.length := (List.getElem?_eq_some_iff.1 hy).1
 have he : l[n] = y := (List.getElem?_eq_some_iff.1 hy).2
 rw [List.drop_eq_getElem_cons hn, he]
 have hp : Rise (l.drop n) := h.sublist (List.drop_sublist n l)
 rw [List.drop_eq_getElem_cons hn, he] at hp
 intro x hx
 rcases List.mem_cons.1 hx with rfl | hx
 ·exact hk
 ·exact ltB_trans hk ((List.pairwise_cons.1 hp).1 x hx)
theorem low_zero (l : List ByteArray) (k : ByteArray) : Low l 0 k := fun x hx => by simp at hx
theorem low_succ {l : List ByteArray} {n : Nat} {k y : ByteArray} (h : Low l n k) (hy : l[n]? = some y) (hk : ltB y k) : Low l (n + 1) k := fun x hx => by
 have hn : n < l.length := (List.getElem?_eq_some_iff.1 hy).1
 have he : l[n] = y := (List.getElem?_eq_some_iff.1 hy).2
 rw [List.take_succ_eq_append_getElem hn, he, List.mem_append, List.mem_singleton] at hx
 rcases hx with hx | rfl
 ·exact h x hx
 ·exact hk
def KeysIs (l : List S32) (n : Nat) (out : List ByteArray) : Prop := Rise out ∧ out.length ≤ n ∧ ∀ key, key ∈ out ↔ (∃ u ∈ l.take n, u.f0 = key) ∧ (doL zeroM l key).1 ≠ 0
theorem KeysIs.zero (l : List S32) : KeysIs l 0 [] := ⟨List.Pairwise.nil, Nat.le_refl _, fun key => by simp⟩
theorem take_mem17 {l : List S32} {x : Int} (h0 : 0 ≤ x) (h1 : x < l.length) {P : S32 → Prop} : (∃ u ∈ l.take (x + 1).toNat, P u) ↔ (∃ u ∈ l.take x.toNat, P u) ∨ P (rd_T32 l x) := by
 rw [take_snoc17 l z32 x h0 h1]
 constructor
 ·rintro ⟨u, hu, hp⟩
  rcases List.mem_append.1 hu with hu | hu
  ·exact .inl ⟨u, hu, hp⟩
  ·rw [List.mem_singleton] at hu
   subst hu
   exact .inr hp
 ·rintro (⟨u, hu, hp⟩ | hp)
  ·exact ⟨u, List.mem_append_left _ hu, hp⟩
  ·exact ⟨_, List.mem_append_right _ (List.mem_singleton.2 rfl), hp⟩
theorem KeysIs.skip {l : List S32} {x : Int} {out : List ByteArray} (h : KeysIs l x.toNat out) (h0 : 0 ≤ x) (h1 : x < l.length) (hk : (doL zeroM l (rd_T32 l x).f0).1 = 0 ∨ (rd_T32 l x).f0 ∈ out) : KeysIs l (x + 1).toNat out := by
 refine ⟨h.1, by have := h.2.1; omega, fun key => ?_⟩
 rw [h.2.2 key, take_mem17 h0 h1]
 constructor
 ·rintro ⟨a, b⟩
  exact ⟨.inl a, b⟩
 ·rintro ⟨a | a, b⟩
  ·exact ⟨a, b⟩
  ·subst a
   rcases hk with hk | hk
   ·exact (b hk).elim
   ·exact (h.2.2 _).1 hk
theorem KeysIs.put {l : List S32} {x : Int} {out : List ByteArray} (h : KeysIs l x.toNat out) (h0 : 0 ≤ x) (h1 : x < l.length) (n : Nat) (hk : (doL zeroM l (rd_T32 l x).f0).1 ≠ 0) (hl : Low out n (rd_T32 l x).f0) (hh : ∀ y ∈ out.drop n, ltB (rd_T32 l x).f0 y) : KeysIs l (x + 1).toNat (insAt out n (rd_T32 l x).f0) := by
 refine ⟨h.1.insAt hl hh, ?_, fun key => ?_⟩
 ·have := h.2.1
  unfold J.insAt
  simp only [List.length_append, List.length_take, List.length_drop, List.length_cons, List.length_nil]
  omega
 ·rw [insAt_mem, h.2.2 key, take_mem17 h0 h1]
  constructor
  ·rintro (rfl | ⟨a, b⟩)
   ·exact ⟨.inr rfl, hk⟩
   ·exact ⟨.inl a, b⟩
  ·rintro ⟨a | a, b⟩
   ·exact .inr ⟨a, b⟩
   ·exact .inl a.symm
theorem doL_out (key : ByteArray) : ∀ (l : List S32) (M : ByteArray → Val), (∀ u ∈ l, u.f0 ≠ key) → doL M l key = M key
 | [], M, _ => rfl
 | u :: l, M, h => by
  have e : doL M (u :: l) = doL (doU M u.f0 u.f1 u.f2 u.f3) l := rfl
  rw [e, doL_out key l _ (fun v hv => h v (List.mem_cons_of_mem _ hv))]
  unfold doU
  split
  ·unfold J.upd
   rw [if_neg (fun e => h u List.mem_cons_self e.symm)]
  ·rfl
theorem KeysIs.all {l : List S32} {out : List ByteArray} (h : KeysIs l l.length out) : out.Nodup ∧ ∀ key, key ∈ out ↔ (doL zeroM l key).1 ≠ 0 := by
 refine ⟨h.1.nodup, fun key => ?_⟩
 rw [h.2.2 key, List.take_length]
 constructor
 ·exact fun a => a.2
 ·intro a
  refine ⟨Classical.byContradiction fun hn => a ?_, a⟩
  rw [doL_out key l zeroM (fun u hu e => hn ⟨u, hu, e⟩)]
noncomputable def cntK (M : ByteArray → Val) : Nat := open Classical in if h : ∃ ks : List ByteArray, ks.Nodup ∧ ∀ key, key ∈ ks ↔ (M key).1 ≠ 0 then h.choose.length else 0
theorem cntK_is {M : ByteArray → Val} {ks : List ByteArray} (h1 : ks.Nodup) (h2 : ∀ key, key ∈ ks ↔ (M key).1 ≠ 0) : cntK M = ks.length := by
 have h : ∃ ks : List ByteArray, ks.Nodup ∧ ∀ key, key ∈ ks ↔ (M key).1 ≠ 0 := ⟨ks, h1, h2⟩
 unfold cntK
 rw [dif_pos h]
 obtain ⟨g1, g2⟩ := h.choose_spec
 have hp : List.Perm h.choose ks := (List.perm_ext_iff_of_nodup g1 h1).2 (fun key => by rw [g2, h2])
 exact hp.length_eq
end Go.Proofs.YtjdenpmaianmfaaDoor.J
