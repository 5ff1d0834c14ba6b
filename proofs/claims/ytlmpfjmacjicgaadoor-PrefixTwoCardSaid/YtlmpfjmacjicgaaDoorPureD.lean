/- The laws of layer 1, plainly, continued: what is put is got back, whatever stands around it; one spelling; the order of the bytes; fronts; several numbers. -/
import Derived.Test.YtlmpfjmacjicgaaDoorPureC
namespace Go.Proofs.YtlmpfjmacjicgaaDoor.Pure
open Go Go.RowKit Go.Proofs.YtlmpfjmacjicgaaDoorW.PrintWords Go.Proofs.YtlmpfjmacjicgaaDoorW.PrintLast Go.Proofs.YtlmpfjmacjicgaaDoorW.PrintMore Go.Proofs.YtlmpfjmacjicgaaDoor.Q

theorem put_ge {k : Nat} (hk : 10 ≤ k) (n : Int) (h0 : 0 ≤ n) (h1 : n < 4611686018427387904) : prefix_Put.f k n = some (strOfNums (encL n), 0) := by
  obtain ⟨m, rfl⟩ : ∃ m, k = m + 10 := ⟨k - 10, by omega⟩
  exact put_ok m n h0 h1
theorem get_ge {k : Nat} (hk : 14 ≤ k) (b : ByteArray) (p : Int) (hs : b.size ≤ 140737488351232) : prefix_Get.f k b p = some (getL b p) := by
  obtain ⟨m, rfl⟩ : ∃ m, k = m + 14 := ⟨k - 14, by omega⟩
  exact get_ok m b p hs
theorem awake_ge {k : Nat} (hk : 20 ≤ k) : chapbooklaw01_awake.f k = some true := by
  obtain ⟨m, rfl⟩ : ∃ m, k = m + 20 := ⟨k - 20, by omega⟩
  exact awake_ok m

/-- These bytes stand at this place. -/
def At (b : ByteArray) (p : Int) (l : List Int) : Prop := 0 ≤ p ∧ p + l.length ≤ b.size ∧ ∀ i : Nat, i < l.length → bt b (p + i) = l.getD i 0
theorem encL_byte (n : Int) (h0 : 0 ≤ n) (h1 : n < 4611686018427387904) : ∀ i : Nat, i < (encL n).length → 0 ≤ (encL n).getD i 0 ∧ (encL n).getD i 0 < 256 := by
  unfold encL
  repeat' split
  · intro i hi
    match i, hi with
    | 0, _ => simp; omega
  · intro i hi
    match i, hi with
    | 0, _ => simp; omega
    | 1, _ => simp; omega
  · intro i hi
    match i, hi with
    | 0, _ => simp; omega
    | 1, _ => simp; omega
    | 2, _ => simp; omega
    | 3, _ => simp; omega
  · intro i hi
    match i, hi with
    | 0, _ => simp; omega
    | 1, _ => simp; omega
    | 2, _ => simp; omega
    | 3, _ => simp; omega
    | 4, _ => simp; omega
    | 5, _ => simp; omega
    | 6, _ => simp; omega
    | 7, _ => simp; omega
theorem get_enc (b : ByteArray) (p n : Int) (h0 : 0 ≤ n) (h1 : n < 4611686018427387904) (h : At b p (encL n)) : getL b p = (n, p + szL n, 0) := by
  obtain ⟨hp, hs, hb⟩ := h
  unfold encL at hs hb
  unfold getL
  by_cases a1 : n < 64
  · simp only [if_pos a1] at hs hb
    have b0 := hb 0 (by simp)
    simp at b0 hs
    have e : tw (bt b p) = 1 := by unfold tw; rw [if_pos (by omega)]
    have ev : valL b p 1 = n := by unfold valL; rw [if_pos rfl]; omega
    have es : szL n = 1 := by unfold szL; rw [if_pos a1]
    rw [if_neg (by omega), e, if_neg (by omega), ev, es, if_pos rfl]
  simp only [if_neg a1] at hs hb
  by_cases a2 : n < 16384
  · simp only [if_pos a2] at hs hb
    have b0 := hb 0 (by simp); have b1 := hb 1 (by simp)
    simp at b0 b1 hs
    have e : tw (bt b p) = 2 := by unfold tw; rw [if_neg (by omega), if_pos (by omega)]
    have ev : valL b p 2 = n := by unfold valL; rw [if_neg (by decide), if_pos rfl]; omega
    have es : szL n = 2 := by unfold szL; rw [if_neg a1, if_pos a2]
    rw [if_neg (by omega), e, if_neg (by omega), ev, es, if_pos rfl]
  simp only [if_neg a2] at hs hb
  by_cases a3 : n < 1073741824
  · simp only [if_pos a3] at hs hb
    have b0 := hb 0 (by simp); have b1 := hb 1 (by simp); have b2 := hb 2 (by simp); have b3 := hb 3 (by simp)
    simp at b0 b1 b2 b3 hs
    have e : tw (bt b p) = 4 := by unfold tw; rw [if_neg (by omega), if_neg (by omega), if_pos (by omega)]
    have ev : valL b p 4 = n := by unfold valL; rw [if_neg (by decide), if_neg (by decide), if_pos rfl]; omega
    have es : szL n = 4 := by unfold szL; rw [if_neg a1, if_neg a2, if_pos a3]
    rw [if_neg (by omega), e, if_neg (by omega), ev, es, if_pos rfl]
  · simp only [if_neg a3] at hs hb
    have b0 := hb 0 (by simp); have b1 := hb 1 (by simp); have b2 := hb 2 (by simp); have b3 := hb 3 (by simp)
    have b4 := hb 4 (by simp); have b5 := hb 5 (by simp); have b6 := hb 6 (by simp); have b7 := hb 7 (by simp)
    simp at b0 b1 b2 b3 b4 b5 b6 b7 hs
    have e : tw (bt b p) = 8 := by unfold tw; rw [if_neg (by omega), if_neg (by omega), if_neg (by omega)]
    have ev : valL b p 8 = n := by unfold valL; rw [if_neg (by decide), if_neg (by decide), if_neg (by decide)]; omega
    have es : szL n = 8 := by unfold szL; rw [if_neg a1, if_neg a2, if_neg a3]
    rw [if_neg (by omega), e, if_neg (by omega), ev, es, if_pos rfl]
theorem bt_str (l : List Int) (i : Nat) (hi : i < l.length) (h0 : 0 ≤ l.getD i 0) (h1 : l.getD i 0 < 256) : bt (strOfNums l) i = l.getD i 0 := by
  unfold bt
  rw [dif_pos (by rw [strOfNums_size]; simpa using hi)]
  rw [List.getD_eq_getElem?_getD, List.getElem?_eq_getElem hi] at h0 h1 ⊢
  simp only [Option.getD_some] at h0 h1 ⊢
  have : (strOfNums l)[(i : Int).toNat]'(by rw [strOfNums_size]; simpa using hi) = UInt8.ofNat (l[i]).toNat := by
    show (strOfNums l).data[(i : Int).toNat]'_ = _
    simp [strOfNums]
  rw [this]
  simp
  omega
theorem bt_app_left (a b : ByteArray) (i : Int) (h0 : 0 ≤ i) (h1 : i < a.size) : bt (a ++ b) i = bt a i := by
  unfold bt
  rw [dif_pos (by rw [ByteArray.size_append]; omega), dif_pos (by omega)]
  rw [ByteArray.getElem_append_left (by omega)]
theorem bt_app_right (a b : ByteArray) (i : Int) (h0 : 0 ≤ i) (h1 : i < b.size) : bt (a ++ b) (a.size + i) = bt b i := by
  unfold bt
  rw [dif_pos (by rw [ByteArray.size_append]; omega), dif_pos (by omega)]
  rw [ByteArray.getElem_append_right (by omega)]
  congr 3
  omega
theorem at_str (l : List Int) (hl : ∀ i : Nat, i < l.length → 0 ≤ l.getD i 0 ∧ l.getD i 0 < 256) : At (strOfNums l) 0 l :=
  ⟨by omega, by rw [strOfNums_size]; omega, fun i hi => by rw [Int.zero_add]; exact bt_str l i hi (hl i hi).1 (hl i hi).2⟩
theorem At.app_left {a : ByteArray} {p : Int} {l : List Int} (h : At a p l) (b : ByteArray) : At (a ++ b) p l :=
  ⟨h.1, by rw [ByteArray.size_append]; have := h.2.1; omega, fun i hi => by rw [bt_app_left a b _ (by have := h.1; omega) (by have := h.2.1; omega)]; exact h.2.2 i hi⟩
theorem At.app_right {b : ByteArray} {p : Int} {l : List Int} (h : At b p l) (a : ByteArray) : At (a ++ b) (a.size + p) l :=
  ⟨by have := h.1; omega, by rw [ByteArray.size_append]; have := h.2.1; omega, fun i hi => by rw [Int.add_assoc, bt_app_right a b _ (by have := h.1; omega) (by have := h.2.1; omega)]; exact h.2.2 i hi⟩
theorem at_enc (n : Int) (h0 : 0 ≤ n) (h1 : n < 4611686018427387904) : At (strOfNums (encL n)) 0 (encL n) := at_str _ (encL_byte n h0 h1)
theorem szL_range (n : Int) : 1 ≤ szL n ∧ szL n ≤ 8 := by unfold szL; repeat' split
                                                          all_goals omega
theorem encL_le (n : Int) : (encL n).length ≤ 8 := by have := encL_len n; have := szL_range n; omega
theorem PrefixBack : chapbooklaw01_PrefixBack.Pure := by
  intro n m hn hm
  obtain ⟨h0, h1⟩ := u64_bd hn
  refine ⟨21, ?_⟩
  unfold chapbooklaw01_PrefixBack.f
  rw [awake_ge (by decide)]
  simp only [Option.bind_some, if_true]
  by_cases hc : (m.size : Int) > 100
  · rw [decide_eq_true hc]; simp only [chapbooklaw01_PrefixBack.j0]; rw [if_pos trivial, awake_ge (by decide)]; rfl
  rw [decide_eq_false hc]
  simp only [chapbooklaw01_PrefixBack.j0]
  rw [if_neg (by decide)]
  by_cases hq : n < 4611686018427387904
  · have hl := encL_le n
    have hle := encL_len n
    rw [put_ge (by decide) n h0 hq]
    simp only [Option.bind_some, if_true]
    rw [if_pos (by rw [strOfNums_size]; omega), if_pos (by rw [ByteArray.size_append, strOfNums_size]; omega)]
    rw [get_ge (by decide) _ _ (by simp only [ByteArray.size_append, strOfNums_size]; omega)]
    have ha := (at_enc n h0 hq).app_right m |>.app_left m
    rw [Int.add_zero] at ha
    rw [get_enc _ _ n h0 hq ha]
    simp only [Option.bind_some, if_true]
    rw [strOfNums_size, w64 (by omega) (by omega), hle]
    simp
  · rw [put_no _ n (by omega)]; simp

theorem bytes_ext {a b : ByteArray} (hs : a.size = b.size) (h : ∀ i : Nat, i < a.size → bt a i = bt b i) : a = b := by
  apply ByteArray.ext
  apply Array.ext
  · exact hs
  intro i h1 h2
  have := h i h1
  unfold bt at this
  rw [dif_pos (by simpa using h1), dif_pos (by simpa using h2)] at this
  apply UInt8.toNat_inj.1
  have e : ((i : Int).toNat) = i := by simp
  simp only [e] at this
  exact_mod_cast this
theorem bt_take (b : ByteArray) (T i : Nat) (hi : i < T) (hT : T ≤ b.size) : bt (b.extract 0 T) i = bt b i := by
  unfold bt
  rw [dif_pos (by rw [ByteArray.size_extract]; omega), dif_pos (by omega)]
  simp only [ByteArray.getElem_extract, Nat.zero_add]
theorem enc_of_get (b : ByteArray) (h1 : (tw (bt b 0)) ≤ b.size) (hz : szL (valL b 0 (tw (bt b 0))) = tw (bt b 0)) :
    strOfNums (encL (valL b 0 (tw (bt b 0)))) = b.extract 0 (tw (bt b 0)).toNat := by
  have hv := valL_range b 0 (bt b 0)
  have hb := encL_byte _ hv.1 hv.2.1
  have hle := encL_len (valL b 0 (tw (bt b 0)))
  have hr := szL_range (valL b 0 (tw (bt b 0)))
  apply bytes_ext
  · rw [strOfNums_size, ByteArray.size_extract]; omega
  intro i hi
  rw [strOfNums_size] at hi
  have e2 : bt (b.extract 0 (tw (bt b 0)).toNat) i = bt b i := bt_take b _ i (by omega) (by omega)
  rw [bt_str _ i hi (hb i hi).1 (hb i hi).2, e2]
  clear hb e2
  have g0 := bt_range b 0; have g1 := bt_range b 1; have g2 := bt_range b 2; have g3 := bt_range b 3
  have g4 := bt_range b 4; have g5 := bt_range b 5; have g6 := bt_range b 6; have g7 := bt_range b 7
  rcases tw_cases (bt b 0) with ⟨k0, e⟩ | ⟨k0, k1, e⟩ | ⟨k0, k1, e⟩ | ⟨k0, e⟩
  · rw [e] at hz hi hle hr ⊢
    generalize hx : valL b 0 1 = v at *
    have : v < 64 := by unfold szL at hz; repeat' split at hz
                        all_goals omega
    unfold encL at hi ⊢
    rw [if_pos this] at hi ⊢
    have : v = bt b 0 % 64 := by rw [← hx]; rfl
    match i, hi with
    | 0, _ => simp; omega
  · rw [e] at hz hi hle hr ⊢
    generalize hx : valL b 0 2 = v at *
    have : 64 ≤ v ∧ v < 16384 := by unfold szL at hz; repeat' split at hz
                                    all_goals omega
    unfold encL at hi ⊢
    rw [if_neg (by omega), if_pos (by omega)] at hi ⊢
    have : v = bt b 0 % 64 * 256 + bt b 1 := by rw [← hx]; rfl
    match i, hi with
    | 0, _ => simp; omega
    | 1, _ => simp; omega
  · rw [e] at hz hi hle hr ⊢
    generalize hx : valL b 0 4 = v at *
    have : 16384 ≤ v ∧ v < 1073741824 := by unfold szL at hz; repeat' split at hz
                                            all_goals omega
    unfold encL at hi ⊢
    rw [if_neg (by omega), if_neg (by omega), if_pos (by omega)] at hi ⊢
    have : v = ((bt b 0 % 64 * 256 + bt b 1) * 256 + bt b 2) * 256 + bt b 3 := by rw [← hx]; rfl
    match i, hi with
    | 0, _ => simp; omega
    | 1, _ => simp; omega
    | 2, _ => simp; omega
    | 3, _ => simp; omega
  · rw [e] at hz hi hle hr ⊢
    generalize hx : valL b 0 8 = v at *
    have : 1073741824 ≤ v := by unfold szL at hz; repeat' split at hz
                                all_goals omega
    unfold encL at hi ⊢
    rw [if_neg (by omega), if_neg (by omega), if_neg (by omega)] at hi ⊢
    have : v = ((((((bt b 0 % 64 * 256 + bt b 1) * 256 + bt b 2) * 256 + bt b 3) * 256 + bt b 4) * 256 + bt b 5) * 256 + bt b 6) * 256 + bt b 7 := by rw [← hx]; rfl
    match i, hi with
    | 0, _ => simp; omega
    | 1, _ => simp; omega
    | 2, _ => simp; omega
    | 3, _ => simp; omega
    | 4, _ => simp; omega
    | 5, _ => simp; omega
    | 6, _ => simp; omega
    | 7, _ => simp; omega
theorem PrefixOne : chapbooklaw01_PrefixOne.Pure := by
  intro b hb
  refine ⟨21, ?_⟩
  unfold chapbooklaw01_PrefixOne.f
  rw [awake_ge (by decide)]
  simp only [Option.bind_some, if_true]
  by_cases hc : (b.size : Int) > 300
  · rw [decide_eq_true hc]; simp only [chapbooklaw01_PrefixOne.j0]; rw [if_pos trivial, awake_ge (by decide)]; rfl
  rw [decide_eq_false hc]
  simp only [chapbooklaw01_PrefixOne.j0]
  rw [if_neg (by decide), get_ge (by decide) _ _ hb]
  simp only [Option.bind_some]
  by_cases h2 : (0 : Int) = b.size ∨ (b.size : Int) - 0 < tw (bt b 0)
  · have hg : getL b 0 = (0, 0, 2) := by unfold getL; rw [if_neg (by omega), if_pos h2]
    rw [hg]; rfl
  by_cases h3 : szL (valL b 0 (tw (bt b 0))) = tw (bt b 0)
  · have hg : getL b 0 = (valL b 0 (tw (bt b 0)), 0 + tw (bt b 0), 0) := by unfold getL; rw [if_neg (by omega), if_neg h2, if_pos h3]
    have hv := valL_range b 0 (bt b 0)
    have hr := szL_range (valL b 0 (tw (bt b 0)))
    rw [hg]
    simp only [if_true]
    rw [put_ge (by decide) _ hv.1 hv.2.1]
    simp only [Option.bind_some, if_true]
    rw [if_pos (by omega), if_pos (by omega), if_pos (by omega), Int.zero_add, enc_of_get b (by omega) h3]
    simp
  · have hg : getL b 0 = (0, 0, 3) := by unfold getL; rw [if_neg (by omega), if_neg h2, if_neg h3]
    rw [hg]; rfl

/-! ### The order -/
def numv : List UInt8 → Nat
  | [] => 0
  | a :: x => a.toNat * 256 ^ x.length + numv x
theorem numv_lt : ∀ x : List UInt8, numv x < 256 ^ x.length
  | [] => by decide
  | a :: x => by
    have := numv_lt x
    have ha := a.toNat_lt
    have h2 : a.toNat * 256 ^ x.length + 256 ^ x.length ≤ 256 * 256 ^ x.length := by rw [← Nat.succ_mul]; exact Nat.mul_le_mul_right _ (by omega)
    simp only [numv, List.length_cons, Nat.pow_succ]
    omega
theorem less_num : ∀ x y : List UInt8, x.length = y.length → Op.bytesLess x y = true → numv x < numv y
  | [], [], _, h => by simp [Op.bytesLess] at h
  | a :: x, b :: y, hl, h => by
    simp only [List.length_cons, Nat.add_right_cancel_iff] at hl
    simp only [Op.bytesLess, Bool.or_eq_true, decide_eq_true_eq, Bool.and_eq_true, beq_iff_eq] at h
    simp only [numv]
    rcases h with h | ⟨rfl, h⟩
    · have h1 := numv_lt x
      have h2 : a.toNat + 1 ≤ b.toNat := by rw [UInt8.lt_iff_toNat_lt] at h; omega
      have h3 : (a.toNat + 1) * 256 ^ x.length ≤ b.toNat * 256 ^ x.length := Nat.mul_le_mul_right _ h2
      rw [Nat.succ_mul] at h3
      rw [hl] at h1 h3 ⊢
      omega
    · have := less_num x y hl h
      rw [hl]
      omega
theorem str_list (l : List Int) : (strOfNums l).toList = l.map fun n => UInt8.ofNat n.toNat := by rw [ByteArray.toList_eq]; rfl
def mark (n : Int) : Int := if n < 64 then 0 else if n < 16384 then 16384 else if n < 1073741824 then 2147483648 else 13835058055282163712
theorem ofNat_toNat (d : Int) (h0 : 0 ≤ d) (h1 : d < 256) : ((UInt8.ofNat d.toNat).toNat : Int) = d := by simp; omega
theorem enc_num (n : Int) (h0 : 0 ≤ n) (h1 : n < 4611686018427387904) : (numv (strOfNums (encL n)).toList : Int) = n + mark n := by
  rw [str_list]
  unfold encL mark
  by_cases a1 : n < 64
  · simp only [if_pos a1, List.map_cons, List.map_nil, numv, List.length_nil]
    have := ofNat_toNat n h0 (by omega)
    omega
  simp only [if_neg a1]
  by_cases a2 : n < 16384
  · simp only [if_pos a2, List.map_cons, List.map_nil, numv, List.length_nil, List.length_cons]
    have := ofNat_toNat (n / 256 + 64) (by omega) (by omega); have := ofNat_toNat (n % 256) (by omega) (by omega)
    omega
  simp only [if_neg a2]
  by_cases a3 : n < 1073741824
  · simp only [if_pos a3, List.map_cons, List.map_nil, numv, List.length_nil, List.length_cons]
    have := ofNat_toNat (n / 16777216 + 128) (by omega) (by omega); have := ofNat_toNat (n / 65536 % 256) (by omega) (by omega)
    have := ofNat_toNat (n / 256 % 256) (by omega) (by omega); have := ofNat_toNat (n % 256) (by omega) (by omega)
    omega
  · simp only [if_neg a3, List.map_cons, List.map_nil, numv, List.length_nil, List.length_cons]
    have := ofNat_toNat (n / 72057594037927936 + 192) (by omega) (by omega); have := ofNat_toNat (n / 281474976710656 % 256) (by omega) (by omega)
    have := ofNat_toNat (n / 1099511627776 % 256) (by omega) (by omega); have := ofNat_toNat (n / 4294967296 % 256) (by omega) (by omega)
    have := ofNat_toNat (n / 16777216 % 256) (by omega) (by omega); have := ofNat_toNat (n / 65536 % 256) (by omega) (by omega)
    have := ofNat_toNat (n / 256 % 256) (by omega) (by omega); have := ofNat_toNat (n % 256) (by omega) (by omega)
    omega
theorem sz_mono {n m : Int} (h : n ≤ m) : szL n ≤ szL m ∧ (szL n = szL m → mark n = mark m) := by
  unfold szL mark
  repeat' split
  all_goals omega
theorem enc_inj {n m : Int} (h0 : 0 ≤ n) (h1 : n < 4611686018427387904) (g0 : 0 ≤ m) (g1 : m < 4611686018427387904) (h : (strOfNums (encL n)).toList = (strOfNums (encL m)).toList) : n = m := by
  have h2 := enc_num n h0 h1
  have h3 := enc_num m g0 g1
  rw [h] at h2
  have hs : szL n = szL m := by
    have := congrArg List.length h
    rw [str_list, str_list, List.length_map, List.length_map] at this
    have := encL_len n; have := encL_len m; omega
  have hm : mark n = mark m := by
    rcases Int.le_total n m with hh | hh
    · exact (sz_mono hh).2 hs
    · exact ((sz_mono hh).2 hs.symm).symm
  omega
theorem PrefixSizes : chapbooklaw01_PrefixSizes.Pure := by
  intro n m hn hm
  obtain ⟨h0, h1⟩ := u64_bd hn
  obtain ⟨g0, g1⟩ := u64_bd hm
  refine ⟨21, ?_⟩
  have hlo : mn n m ≤ mx n m ∧ 0 ≤ mn n m ∧ (n = m ↔ mn n m = mx n m) := by
    unfold mn mx
    by_cases c1 : m < n
    · rw [if_pos c1, if_neg (by omega)]; omega
    · rw [if_neg c1]
      by_cases c2 : n < m
      · rw [if_pos c2]; omega
      · rw [if_neg c2]; omega
  generalize hlo' : mn n m = a at *
  generalize hhi' : mx n m = b at *
  unfold chapbooklaw01_PrefixSizes.f
  rw [hlo', hhi', awake_ge (by decide)]
  obtain ⟨q0, q1, q2⟩ := hlo
  by_cases ha : a < 4611686018427387904
  · by_cases hb : b < 4611686018427387904
    · rw [put_ge (by decide) a q1 ha, put_ge (by decide) b (by omega) hb]
      simp only [Option.bind_some, if_true]
      rw [show ((0 : Int) != 0) = false from rfl]
      simp only [chapbooklaw01_PrefixSizes.j0]
      have la := encL_len a; have lb := encL_len b; have sm := sz_mono q0
      rw [if_neg (by decide), size_ok a q1 ha, size_ok b (by omega) hb]
      simp only [Option.bind_some]
      rw [strOfNums_size, strOfNums_size, if_pos la, if_pos sm.1]
      have key : ((strOfNums (encL a)).toList == (strOfNums (encL b)).toList) = (n == m) := by
        rw [Bool.eq_iff_iff, beq_iff_eq, beq_iff_eq, q2]
        exact ⟨fun h => enc_inj q1 ha (by omega) hb h, fun h => by rw [h]⟩
      rw [key]
      by_cases hlt : ((encL a).length : Int) < (encL b).length
      · rw [if_pos hlt]; simp
      · rw [if_neg hlt]
        have nl : ¬ Op.bytesLess (strOfNums (encL b)).toList (strOfNums (encL a)).toList = true := by
          intro h
          have h2 := less_num _ _ (by rw [str_list, str_list, List.length_map, List.length_map]; omega) h
          have e1 := enc_num a q1 ha
          have e2 := enc_num b (by omega) hb
          have e3 := sm.2 (by omega)
          omega
        rw [if_neg nl]; simp
    · rw [put_ge (by decide) a q1 ha, put_no _ b (by omega)]
      simp only [Option.bind_some, if_true]
      rw [show ((1 : Int) != 0) = true from rfl]
      simp only [chapbooklaw01_PrefixSizes.j0]
      rw [if_pos trivial, awake_ge (by decide)]; rfl
  · rw [put_no _ a (by omega), put_no _ b (by omega)]
    simp only [Option.bind_some, if_true]
    rw [if_neg (by decide)]
    simp only [chapbooklaw01_PrefixSizes.j0]
    rw [if_pos trivial, awake_ge (by decide)]; rfl
theorem PrefixSigned : chapbooklaw01_PrefixSigned.Pure := by
  intro n m hn hm
  obtain ⟨h0, h1⟩ := i64_bd hn
  obtain ⟨g0, g1⟩ := u64_bd hm
  refine ⟨21, ?_⟩
  have tail : ∀ k, chapbooklaw01_PrefixSigned.j0 (k + 1) m false = some true := by
    intro k
    simp only [chapbooklaw01_PrefixSigned.j0]
    rw [if_neg (by decide)]
    by_cases hc : m < 4611686018427387904
    · rw [zag_ok m g0 hc]
      simp only [Option.bind_some]
      have hz : prefix_Zig.f (if m % 2 = 1 then -(m / 2) - 1 else m / 2) = some (m, true) := by
        rw [zig_ok _ (by split <;> omega) (by split <;> omega)]
        congr 2
        split <;> split <;> omega
      rw [hz]
      simp only [Option.bind_some]
      rw [if_neg (by omega)]; simp
    · rw [zag_no m (by omega)]
      simp only [Option.bind_some]
      rw [zig_ok 0 (by decide) (by decide)]
      simp only [Option.bind_some]
      rw [if_pos (by omega)]
  have hzag : prefix_Zag.f m = chapbookref01_Zag.f m := by
    by_cases hc : m < 4611686018427387904
    · rw [zag_ok m g0 hc, rzag_ok m g0 hc]
    · rw [zag_no m (by omega), rzag_no m (by omega)]
  obtain ⟨z, hz⟩ : ∃ z, chapbookref01_Zag.f m = some z := by
    by_cases hc : m < 4611686018427387904
    · exact ⟨_, rzag_ok m g0 hc⟩
    · exact ⟨_, rzag_no m (by omega)⟩
  unfold chapbooklaw01_PrefixSigned.f
  rw [awake_ge (by decide), hzag, hz]
  by_cases hr : -2305843009213693952 ≤ n ∧ n < 2305843009213693952
  · rw [zig_ok n hr.1 hr.2, rzig_ok 20 n hr.1 hr.2]
    simp only [Option.bind_some, if_true]
    have hb : prefix_Zag.f (if n < 0 then -2 * n - 1 else 2 * n) = some n := by
      rw [zag_ok _ (by split <;> omega) (by split <;> omega)]
      congr 1
      split <;> split <;> omega
    rw [hb]
    simp only [bne_self_eq_false, Option.bind_some]
    rw [if_neg (by decide)]
    exact tail 20
  · rw [zig_no n (by omega), rzig_no 20 n (by omega)]
    simp only [Option.bind_some, if_true, bne_self_eq_false]
    rw [if_neg (by decide), if_neg (by decide)]
    exact tail 20
theorem get_front (n cut : Int) (h0 : 0 ≤ n) (h1 : n < 4611686018427387904) (hc : 0 ≤ cut) (hd : cut < szL n) : getL ((strOfNums (encL n)).extract 0 cut.toNat) 0 = (0, 0, 2) := by
  have hle := encL_len n
  have hsz : (((strOfNums (encL n)).extract 0 cut.toNat).size : Int) = cut := by rw [ByteArray.size_extract, strOfNums_size]; omega
  unfold getL
  rw [if_neg (by omega)]
  by_cases hz : cut = 0
  · rw [if_pos (Or.inl (by omega))]
  have ha := at_enc n h0 h1
  have b0 := ha.2.2 0 (by omega)
  have e : bt ((strOfNums (encL n)).extract 0 cut.toNat) 0 = (encL n).getD 0 0 := by
    rw [← b0]
    exact bt_take _ cut.toNat 0 (by omega) (by rw [strOfNums_size]; omega)
  have ht : tw ((encL n).getD 0 0) = szL n := by
    unfold encL szL tw
    repeat' split
    all_goals first | rfl | (simp at *; omega)
  rw [e, ht, if_pos (Or.inr (by omega))]
theorem PrefixFront : chapbooklaw01_PrefixFront.Pure := by
  intro n cut more hn hcut hmore
  obtain ⟨h0, h1⟩ := u64_bd hn
  obtain ⟨c0, c1⟩ := i64_bd hcut
  refine ⟨21, ?_⟩
  have tail : chapbooklaw01_PrefixFront.j0 21 n cut more (strOfNums (encL n)) true = some true := by
    show chapbooklaw01_PrefixFront.j0 (20 + 1) n cut more (strOfNums (encL n)) true = some true
    simp only [chapbooklaw01_PrefixFront.j0]; rw [if_pos trivial, awake_ge (by decide)]; rfl
  unfold chapbooklaw01_PrefixFront.f
  rw [awake_ge (by decide)]
  by_cases hq : n < 4611686018427387904
  · have hle := encL_len n; have hl := encL_le n
    rw [put_ge (by decide) n h0 hq]
    simp only [Option.bind_some, if_true]
    by_cases hc : cut < 0
    · rw [if_pos hc]; exact tail
    rw [if_neg hc]
    by_cases hd : cut ≥ ((strOfNums (encL n)).size : Int)
    · rw [if_pos hd]; exact tail
    rw [if_neg hd]
    by_cases hm : (more.size : Int) > 100
    · rw [decide_eq_true hm]; exact tail
    rw [decide_eq_false hm]
    rw [strOfNums_size] at hd
    show chapbooklaw01_PrefixFront.j0 (20 + 1) n cut more (strOfNums (encL n)) false = some true
    simp only [chapbooklaw01_PrefixFront.j0]
    rw [if_neg (by decide), if_pos (by omega), if_pos (by rw [strOfNums_size]; omega)]
    rw [get_ge (by decide) _ _ (by rw [ByteArray.size_extract, strOfNums_size]; omega), get_front n cut h0 hq (by omega) (by omega)]
    simp only [Option.bind_some]
    rw [if_pos (by rw [strOfNums_size]; omega), get_ge (by decide) _ _ (by rw [ByteArray.size_append, strOfNums_size]; omega), get_enc _ _ n h0 hq ((at_enc n h0 hq).app_left more)]
    simp only [Option.bind_some, if_true]
    rw [strOfNums_size, Int.zero_add, if_pos hle.symm]
    rfl
  · rw [put_no _ n (by omega)]
    simp only [Option.bind_some, if_true]
    rw [if_neg (by decide)]
    show chapbooklaw01_PrefixFront.j0 (20 + 1) n cut more _ true = some true
    simp only [chapbooklaw01_PrefixFront.j0]; rw [if_pos trivial, awake_ge (by decide)]; rfl

/-! ### Several -/
/-- The bytes of numbers, one behind the other. -/
def cat : List Int → ByteArray
  | [] => ⟨#[]⟩
  | n :: l => strOfNums (encL n) ++ cat l
theorem cat_snoc : ∀ (l : List Int) (n : Int), cat (l ++ [n]) = cat l ++ strOfNums (encL n)
  | [], n => by simp only [List.nil_append, cat]; apply ByteArray.ext; simp
  | m :: l, n => by simp only [List.cons_append, cat, cat_snoc l n, ByteArray.append_assoc]
theorem cat_app : ∀ (l m : List Int), cat (l ++ m) = cat l ++ cat m
  | [], m => by simp only [List.nil_append, cat]; apply ByteArray.ext; simp
  | n :: l, m => by simp only [List.cons_append, cat, cat_app l m, ByteArray.append_assoc]
theorem cat_size : ∀ l : List Int, (cat l).size ≤ 8 * l.length
  | [] => by decide
  | n :: l => by have := cat_size l; have := encL_le n; simp only [cat, ByteArray.size_append, strOfNums_size, List.length_cons]; omega
def okAll (l : List Int) : Prop := ∀ n ∈ l, 0 ≤ n ∧ n < 4611686018427387904
theorem two_walk (w : List Int) (hw : okAll w) (hl : w.length ≤ 40) (d : Nat) : ∀ (k : Nat) (j : Nat), j + d = w.length → d + 20 < k →
    chapbooklaw01_PrefixTwo.l1 k (cat w) ((cat (w.take j)).size : Int) w (w.length : Int) (j : Int) = some true := by
  have hs := cat_size w
  induction d with
  | zero =>
    intro k j hj hk
    obtain ⟨k, rfl⟩ : ∃ m, k = m + 1 := ⟨k - 1, by omega⟩
    simp only [chapbooklaw01_PrefixTwo.l1]
    have ht : w.take j = w := List.take_of_length_le (by omega)
    rw [if_neg (by omega), ht, get_ge (by omega) _ _ (by omega)]
    simp only [Option.bind_some, if_true]
    unfold getL
    rw [if_neg (by omega), if_pos (Or.inl rfl)]; rfl
  | succ d ih =>
    intro k j hj hk
    obtain ⟨k, rfl⟩ : ∃ m, k = m + 1 := ⟨k - 1, by omega⟩
    have hjl : j < w.length := by omega
    have hrd : rd w (j : Int) = w[j] := by simp [rd, List.getD_eq_getElem?_getD, hjl]
    obtain ⟨q0, q1⟩ := hw w[j] (List.getElem_mem hjl)
    have hsplit : cat w = cat (w.take j) ++ (strOfNums (encL w[j]) ++ cat (w.drop (j + 1))) := by
      have e : w = w.take j ++ (w[j] :: w.drop (j + 1)) := by rw [← List.drop_eq_getElem_cons hjl, List.take_append_drop]
      conv => lhs; rw [e, cat_app]
      rfl
    have ha := ((at_enc _ q0 q1).app_left (cat (w.drop (j + 1)))).app_right (cat (w.take j))
    rw [← hsplit, Int.add_zero] at ha
    have hr := szL_range w[j]; have hle := encL_len w[j]
    simp only [chapbooklaw01_PrefixTwo.l1]
    rw [if_pos (by omega), if_pos (by omega), if_pos (by omega), get_ge (by omega) _ _ (by omega), get_enc _ _ _ q0 q1 ha, hrd]
    simp only [Option.bind_some, if_true]
    rw [if_neg (by omega), w64 (by omega) (by omega)]
    have hn : ((cat (w.take j)).size : Int) + szL w[j] = (cat (w.take (j + 1))).size := by
      rw [List.take_succ_eq_append_getElem hjl, cat_snoc, ByteArray.size_append, strOfNums_size]; omega
    rw [hn]
    exact ih k (j + 1) (by omega) (by omega)
theorem two_fill (l : List Int) (hl : l.length ≤ 40) (hw : ∀ x ∈ l, (Lit.int .u64 x).wf = true) (d : Nat) : ∀ (k : Nat) (i : Nat) (w : List Int), i + d = l.length → okAll w → w.length ≤ i → d + 100 < k →
    chapbooklaw01_PrefixTwo.l0 k (cat w) w l (l.length : Int) (i : Int) = some true := by
  induction d with
  | zero =>
    intro k i w hi hok hwl hk
    obtain ⟨k, rfl⟩ : ∃ m, k = m + 1 := ⟨k - 1, by omega⟩
    simp only [chapbooklaw01_PrefixTwo.l0]
    rw [if_neg (by omega)]
    have := two_walk w hok (by omega) w.length k 0 (by omega) (by omega)
    rw [show w.take 0 = [] from rfl] at this
    exact this
  | succ d ih =>
    intro k i w hi hok hwl hk
    obtain ⟨k, rfl⟩ : ∃ m, k = m + 1 := ⟨k - 1, by omega⟩
    have hil : i < l.length := by omega
    have hrd : rd l (i : Int) = l[i] := by simp [rd, List.getD_eq_getElem?_getD, hil]
    obtain ⟨q0, q1⟩ := u64_bd (hw l[i] (List.getElem_mem hil))
    simp only [chapbooklaw01_PrefixTwo.l0]
    rw [if_pos (by omega), if_pos (by omega), if_pos (by omega), hrd, w64 (n := (i : Int) + 1) (by omega) (by omega)]
    have hs := cat_size w
    have hst := ih k (i + 1)
    by_cases hq : l[i] < 4611686018427387904
    · have hle := encL_le l[i]
      rw [put_ge (by omega) _ q0 hq]
      simp only [Option.bind_some, if_true]
      rw [if_pos (by rw [strOfNums_size]; omega), if_pos (by omega), ← cat_snoc]
      exact hst (w ++ [l[i]]) (by omega) (fun n hn => by rcases List.mem_append.1 hn with h | h; exact hok n h; rw [List.mem_singleton.1 h]; exact ⟨q0, hq⟩) (by simp; omega) (by omega)
    · rw [put_no _ _ (by omega)]
      simp only [Option.bind_some]
      rw [if_neg (by decide)]
      exact hst w (by omega) hok (by omega) (by omega)
theorem PrefixTwo : chapbooklaw01_PrefixTwo.Pure := by
  intro l _ _ hw
  refine ⟨200, ?_⟩
  unfold chapbooklaw01_PrefixTwo.f
  rw [awake_ge (by decide)]
  simp only [Option.bind_some, if_true]
  show chapbooklaw01_PrefixTwo.j0 (199 + 1) l _ = _
  by_cases hc : (l.length : Int) > 40
  · rw [decide_eq_true hc]; simp only [chapbooklaw01_PrefixTwo.j0]; rw [if_pos trivial, awake_ge (by decide)]; rfl
  · rw [decide_eq_false hc]; simp only [chapbooklaw01_PrefixTwo.j0]; rw [if_neg (by decide)]
    exact two_fill l (by omega) hw l.length 199 0 [] (by omega) (fun n hn => by simp at hn) (by simp) (by omega)
end Go.Proofs.YtlmpfjmacjicgaaDoor.Pure
