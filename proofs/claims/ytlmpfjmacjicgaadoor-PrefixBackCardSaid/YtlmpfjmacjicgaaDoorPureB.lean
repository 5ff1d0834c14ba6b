/- The plain arithmetic of layer 1, continued: the reference's Put, and both Gets at any place of any text. -/
import Derived.Test.YtlmpfjmacjicgaaDoorPureA
namespace Go.Proofs.YtlmpfjmacjicgaaDoor.Pure
open Go Go.RowKit Go.Proofs.YtlmpfjmacjicgaaDoorW.PrintWords Go.Proofs.YtlmpfjmacjicgaaDoorW.PrintLast Go.Proofs.YtlmpfjmacjicgaaDoorW.PrintMore Go.Proofs.YtlmpfjmacjicgaaDoor.Q

theorem str_app (a b : List Int) : strOfNums a ++ strOfNums b = strOfNums (a ++ b) := by
  apply ByteArray.ext; simp [strOfNums]
theorem rput_step (k : Nat) (x t i : Int) (l : List Int) (h0 : 0 ≤ x) (h1 : x < 2 ^ 64) (h2 : i < t) (h3 : 0 ≤ i) (h4 : t ≤ 8) (h5 : l.length ≤ 8) :
    chapbookref01_Put.l0 (k + 1) x t l i = chapbookref01_Put.l0 k (x / 256) t ([x % 256] ++ l) (i + 1) := by
  have t1 : Int.tmod x 256 % 256 = x % 256 := by rw [Int.tmod_eq_emod_of_nonneg h0]; omega
  have t2 : Int.tdiv x 256 = x / 256 := Int.tdiv_eq_ediv_of_nonneg h0
  simp only [chapbookref01_Put.l0, Option.bind_some]
  rw [if_pos h2, t1, t2, u64in _ (by omega) (by omega), w64 (n := i + 1) (by omega) (by omega), if_pos (by simp; omega)]
theorem rput_end (k : Nat) (x t : Int) (l : List Int) : chapbookref01_Put.l0 (k + 1) x t l t = if t = 2 then chapbookref01_Put.j1 k t l 64 else chapbookref01_Put.j1 k t l 0 := by
  simp only [chapbookref01_Put.l0]; rw [if_neg (by omega)]
theorem rput_fin (k : Nat) (t d m : Int) (l : List Int) (mark : Int) (hl : l.length ≤ 8) (hd : 0 ≤ d) (hd1 : d < 256) (hm : (t = 8 ∧ m = 192) ∨ (t = 4 ∧ m = 128) ∨ (t ≠ 4 ∧ t ≠ 8 ∧ m = mark)) (hm0 : 0 ≤ m) (hm1 : m < 256) :
    chapbookref01_Put.j1 (k + 1) t (d :: l) mark = some (strOfNums (((d + m) % 256) :: l), 0) := by
  have sz : ∀ a : Int, (strOfNums [a]).size + (strOfNums l).size ≤ 9223372036854775807 := fun a => by rw [strOfNums_size, strOfNums_size]; simp; omega
  have e1 : rd (d :: l) 0 = d := rfl
  have e2 : (d :: l).drop 1 = l := rfl
  have p1 : 0 < (((d :: l).length : Nat) : Int) := by rw [List.length_cons]; omega
  have p2 : 1 ≤ (((d :: l).length : Nat) : Int) := by rw [List.length_cons]; omega
  have w : ∀ q : Int, 0 ≤ q → q < 256 → wrap64 (wrap64 d + q) = d + q := fun q h0 h1 => by rw [w64 (n := d) (by omega) (by omega), w64 (by omega) (by omega)]
  have fin : ∀ q : Int, strOfNums [q] ++ strOfNums l = strOfNums (q :: l) := fun q => str_app [q] l
  simp only [chapbookref01_Put.j1, Option.bind_some, e1, e2]
  rcases hm with ⟨rfl, rfl⟩ | ⟨rfl, rfl⟩ | ⟨h4, h8, rfl⟩
  · rw [if_neg (by decide), if_pos rfl, if_pos p1, if_pos p2, w 192 (by decide) (by decide), if_pos (sz _), fin]
  · rw [if_pos rfl, if_neg (by decide), if_pos p1, if_pos p2, w 128 (by decide) (by decide), if_pos (sz _), fin]
  · rw [if_neg h4, if_neg h8, if_pos p1, if_pos p2, w m hm0 hm1, if_pos (sz _), fin]
def fillR : Nat → Int → List Int → List Int
  | 0, _, l => l
  | n + 1, x, l => fillR n (x / 256) ([x % 256] ++ l)
theorem rput_fill (t : Int) (ht : t ≤ 8) : ∀ (n k : Nat) (x : Int) (l : List Int) (i : Int), 0 ≤ x → x < 2 ^ 64 → 0 ≤ i → i + n = t → (l.length : Int) = i → ∃ x', chapbookref01_Put.l0 (k + n) x t l i = chapbookref01_Put.l0 k x' t (fillR n x l) t
  | 0, k, x, l, i, _, _, _, h1, _ => by
    have : i = t := by omega
    subst this
    exact ⟨x, rfl⟩
  | n + 1, k, x, l, i, g0, g1, h0, h1, h2 => by
    obtain ⟨x', hx⟩ := rput_fill t ht n k (x / 256) ([x % 256] ++ l) (i + 1) (by omega) (by omega) (by omega) (by omega) (by simp; omega)
    refine ⟨x', ?_⟩
    rw [show fillR (n + 1) x l = fillR n (x / 256) ([x % 256] ++ l) from rfl, ← hx]
    exact rput_step (k + n) x t i l g0 g1 (by omega) h0 ht (by omega)
theorem rput_ok (k : Nat) (n : Int) (h0 : 0 ≤ n) (h1 : n < 4611686018427387904) : chapbookref01_Put.f (k + 12) n = some (strOfNums (encL n), 0) := by
  unfold chapbookref01_Put.f
  rw [rsize_ok n h1]
  simp only [Option.bind_some]
  unfold szL encL
  by_cases a1 : n < 64
  · simp only [if_pos a1]
    rw [if_neg (by decide)]
    obtain ⟨x', hx⟩ := rput_fill 1 (by decide) 1 (k + 11) n [] 0 h0 (by omega) (by decide) (by decide) rfl
    refine hx.trans ?_
    rw [rput_end, if_neg (by decide)]
    refine (rput_fin (k + 9) 1 (n % 256) 0 [] 0 (by decide) (by omega) (by omega) (by omega) (by decide) (by decide)).trans ?_
    rw [show (n % 256 + 0) % 256 = n from by omega]
  simp only [if_neg a1]
  by_cases a2 : n < 16384
  · simp only [if_pos a2]
    rw [if_neg (by decide)]
    obtain ⟨x', hx⟩ := rput_fill 2 (by decide) 2 (k + 10) n [] 0 h0 (by omega) (by decide) (by decide) rfl
    refine hx.trans ?_
    rw [rput_end, if_pos rfl]
    refine (rput_fin (k + 8) 2 (n / 256 % 256) 64 [n % 256] 64 (by simp) (by omega) (by omega) (by omega) (by decide) (by decide)).trans ?_
    rw [show (n / 256 % 256 + 64) % 256 = n / 256 + 64 from by omega]
  simp only [if_neg a2]
  by_cases a3 : n < 1073741824
  · simp only [if_pos a3]
    rw [if_neg (by decide)]
    obtain ⟨x', hx⟩ := rput_fill 4 (by decide) 4 (k + 8) n [] 0 h0 (by omega) (by decide) (by decide) rfl
    refine hx.trans ?_
    rw [rput_end, if_neg (by decide)]
    refine (rput_fin (k + 6) 4 (n / 256 / 256 / 256 % 256) 128 [n / 256 / 256 % 256, n / 256 % 256, n % 256] 0 (by simp) (by omega) (by omega) (by omega) (by decide) (by decide)).trans ?_
    rw [show (n / 256 / 256 / 256 % 256 + 128) % 256 = n / 16777216 + 128 from by omega, show n / 256 / 256 % 256 = n / 65536 % 256 from by omega]
  · simp only [if_neg a3]
    rw [if_neg (by decide)]
    obtain ⟨x', hx⟩ := rput_fill 8 (by decide) 8 (k + 4) n [] 0 h0 (by omega) (by decide) (by decide) rfl
    refine hx.trans ?_
    rw [rput_end, if_neg (by decide)]
    refine (rput_fin (k + 2) 8 (n / 256 / 256 / 256 / 256 / 256 / 256 / 256 % 256) 192 [n / 256 / 256 / 256 / 256 / 256 / 256 % 256, n / 256 / 256 / 256 / 256 / 256 % 256, n / 256 / 256 / 256 / 256 % 256, n / 256 / 256 / 256 % 256, n / 256 / 256 % 256, n / 256 % 256, n % 256] 0 (by simp) (by omega) (by omega) (by omega) (by decide) (by decide)).trans ?_
    rw [show (n / 256 / 256 / 256 / 256 / 256 / 256 / 256 % 256 + 192) % 256 = n / 72057594037927936 + 192 from by omega, show n / 256 / 256 / 256 / 256 / 256 / 256 % 256 = n / 281474976710656 % 256 from by omega,
      show n / 256 / 256 / 256 / 256 / 256 % 256 = n / 1099511627776 % 256 from by omega, show n / 256 / 256 / 256 / 256 % 256 = n / 4294967296 % 256 from by omega,
      show n / 256 / 256 / 256 % 256 = n / 16777216 % 256 from by omega, show n / 256 / 256 % 256 = n / 65536 % 256 from by omega]
theorem rput_no (k : Nat) (n : Int) (h : 4611686018427387904 ≤ n) : chapbookref01_Put.f k n = some (⟨#[]⟩, 1) := by
  unfold chapbookref01_Put.f; rw [rsize_no n h]; simp

/-! ### Get -/
/-- How many bytes, by the first one. -/
def tw (f : Int) : Int := if f < 64 then 1 else if f < 128 then 2 else if f < 192 then 4 else 8
/-- The number that t bytes at a place make. -/
def valL (b : ByteArray) (p t : Int) : Int :=
  if t = 1 then bt b p % 64
  else if t = 2 then bt b p % 64 * 256 + bt b (p + 1)
  else if t = 4 then ((bt b p % 64 * 256 + bt b (p + 1)) * 256 + bt b (p + 2)) * 256 + bt b (p + 3)
  else ((((((bt b p % 64 * 256 + bt b (p + 1)) * 256 + bt b (p + 2)) * 256 + bt b (p + 3)) * 256 + bt b (p + 4)) * 256 + bt b (p + 5)) * 256 + bt b (p + 6)) * 256 + bt b (p + 7)
/-- What both answer behind the end's test. -/
def getL (b : ByteArray) (p : Int) : Int × Int × Int :=
  if p < 0 ∨ (b.size : Int) < p then (0, 0, 1)
  else if p = b.size ∨ (b.size : Int) - p < tw (bt b p) then (0, 0, 2)
  else if szL (valL b p (tw (bt b p))) = tw (bt b p) then (valL b p (tw (bt b p)), p + tw (bt b p), 0) else (0, 0, 3)
theorem tw_cases (f : Int) : (f < 64 ∧ tw f = 1) ∨ (64 ≤ f ∧ f < 128 ∧ tw f = 2) ∨ (128 ≤ f ∧ f < 192 ∧ tw f = 4) ∨ (192 ≤ f ∧ tw f = 8) := by
  unfold tw; repeat' split
  all_goals omega
theorem bt_extract (b : ByteArray) (p i : Int) (h0 : 0 ≤ p) (h1 : 0 ≤ i) (h2 : p + i < b.size) : bt (b.extract p.toNat b.size) i = bt b (p + i) := by
  have e : (p + i).toNat = p.toNat + i.toNat := by omega
  unfold bt
  rw [dif_pos (by rw [ByteArray.size_extract]; omega), dif_pos (by omega)]
  simp only [ByteArray.getElem_extract, e]
theorem get_step (k : Nat) (p t x i : Int) (s : ByteArray) (h0 : 0 ≤ x) (h1 : x < 2 ^ 54) (h2 : 0 ≤ i) (h3 : i < t) (h4 : t ≤ 8) (h5 : t ≤ s.size) :
    prefix_Get.l0 (k + 1) p s t x i = prefix_Get.l0 k p s t (x * 256 + bt s i) (i + 1) := by
  have hb := bt_range s i
  simp only [prefix_Get.l0]
  rw [if_pos h3, if_pos h2, if_pos (by omega), u64in (x * 256) (by omega) (by omega), u64in (bt s i) (by omega) (by omega), w64 (n := i + 1) (by omega) (by omega)]
  rw [bits_join .u64 64 (by decide) u64in 8 (x * 256) (bt s i) (by omega) (by omega) (by omega) (by omega) (by omega) (by omega)]
theorem get_end (k : Nat) (p t x : Int) (s : ByteArray) : prefix_Get.l0 (k + 1) p s t x t = (prefix_Size.f x).bind fun q => if q = t then some (x, wrap64 (p + t), 0) else some (0, 0, 3) := by
  simp only [prefix_Get.l0]; rw [if_neg (by omega)]
/-- The number, byte by byte. -/
def accL (s : ByteArray) : Nat → Int → Int → Int
  | 0, x, _ => x
  | n + 1, x, i => accL s n (x * 256 + bt s i) (i + 1)
theorem get_fill (p t : Int) (s : ByteArray) (ht : t ≤ 8) (hs : t ≤ s.size) : ∀ (n k : Nat) (x i : Int), 0 ≤ x → (x + 1) * 256 ^ n ≤ 2 ^ 62 → 0 ≤ i → i + n = t → prefix_Get.l0 (k + n) p s t x i = prefix_Get.l0 k p s t (accL s n x i) t
  | 0, k, x, i, _, _, _, h1 => by
    have : i = t := by omega
    subst this
    rfl
  | n + 1, k, x, i, g0, g1, h0, h1 => by
    have hb := bt_range s i
    have hp : (x + 1) * 256 ^ (n + 1) = (x * 256 + 256) * 256 ^ n := by rw [Int.pow_succ, Int.mul_comm (256 ^ n) 256, ← Int.mul_assoc]; congr 1; omega
    have hq : (1 : Int) ≤ 256 ^ n := Int.pow_pos (by decide)
    have hx : (x * 256 + 256) * 1 ≤ (x * 256 + 256) * 256 ^ n := Int.mul_le_mul_of_nonneg_left hq (by omega)
    have hy : (x * 256 + bt s i + 1) * 256 ^ n ≤ (x * 256 + 256) * 256 ^ n := Int.mul_le_mul_of_nonneg_right (by omega) (by omega)
    refine (get_step (k + n) p t x i s g0 (by omega) h0 (by omega) ht (by omega)).trans ?_
    exact get_fill p t s ht hs n k (x * 256 + bt s i) (i + 1) (by omega) (by omega) (by omega) (by omega)
theorem shl_one (f : Int) (h0 : 0 ≤ f) (h1 : f < 256) : shl .i64 1 (f / 64) = tw f := by
  rcases tw_cases f with ⟨a, e⟩ | ⟨a, b, e⟩ | ⟨a, b, e⟩ | ⟨a, e⟩
  · rw [e, show f / 64 = 0 from by omega]; decide
  · rw [e, show f / 64 = 1 from by omega]; decide
  · rw [e, show f / 64 = 2 from by omega]; decide
  · rw [e, show f / 64 = 3 from by omega]; decide
theorem and63 (f : Int) (h0 : 0 ≤ f) (h1 : f < 256) : IntKind.u64.wrap (bits .and .u8 f 63) = f % 64 := by
  rw [u8_and63 f h0 h1]; exact u64in _ (by omega) (by omega)
theorem valL_range (b : ByteArray) (p f : Int) : 0 ≤ valL b p (tw f) ∧ valL b p (tw f) < 4611686018427387904 ∧ szL (valL b p (tw f)) ≤ tw f := by
  have h0 := bt_range b p; have h1 := bt_range b (p + 1); have h2 := bt_range b (p + 2); have h3 := bt_range b (p + 3)
  have h4 := bt_range b (p + 4); have h5 := bt_range b (p + 5); have h6 := bt_range b (p + 6); have h7 := bt_range b (p + 7)
  rcases tw_cases f with ⟨_, e⟩ | ⟨_, _, e⟩ | ⟨_, _, e⟩ | ⟨_, e⟩ <;> rw [e] <;> simp [valL] <;> refine ⟨by omega, by omega, ?_⟩ <;> unfold szL <;> (repeat' split) <;> omega
theorem get_ok (k : Nat) (b : ByteArray) (p : Int) (hs : b.size ≤ 140737488351232) : prefix_Get.f (k + 14) b p = some (getL b p) := by
  unfold prefix_Get.f getL
  by_cases hp : p < 0
  · rw [if_pos hp, if_pos (Or.inl hp)]; simp [prefix_Get.j0]
  rw [if_neg hp]
  by_cases hq : (b.size : Int) < p
  · rw [decide_eq_true (by omega), if_pos (Or.inr hq)]; simp [prefix_Get.j0]
  rw [decide_eq_false (by omega), if_neg (by omega)]
  show prefix_Get.j0 (k + 13 + 1) b p false = _
  simp only [prefix_Get.j0]
  have hsz : (b.extract p.toNat b.size).size = b.size - p.toNat := by rw [ByteArray.size_extract]; omega
  rw [if_neg (by decide), if_pos (by omega), if_pos (by omega)]
  by_cases he : p = b.size
  · have hnil : (b.extract p.toNat b.size).toList = [] := by
      have : (b.extract p.toNat b.size).size = 0 := by omega
      have h2 : (b.extract p.toNat b.size) = ByteArray.empty := by
        apply ByteArray.ext; apply Array.eq_empty_of_size_eq_zero; exact this
      rw [h2, ByteArray.toList_eq]; rfl
    rw [if_pos hnil, if_pos (Or.inl he)]
    simp [prefix_Get.j1]
  have hnn : ¬ (b.extract p.toNat b.size).toList = ([] : List UInt8) := by
    intro h
    have h2 : (b.extract p.toNat b.size).toList.length = 0 := by rw [h]; rfl
    rw [ByteArray.toList_eq] at h2
    have : (b.extract p.toNat b.size).size = 0 := by simpa using h2
    omega
  have hf := bt_range b p
  have e0 : bt (b.extract p.toNat b.size) 0 = bt b p := by rw [bt_extract b p 0 (by omega) (by omega) (by omega)]; simp
  rw [if_neg hnn, if_pos (by omega), e0, if_pos (by omega), shl_one _ hf.1 (by omega)]
  by_cases hc : (b.size : Int) - p < tw (bt b p)
  · rw [decide_eq_true (by omega), if_pos (Or.inr hc)]
    show prefix_Get.j1 (k + 12 + 1) p _ true = _
    simp only [prefix_Get.j1]; rw [if_pos trivial]
  rw [decide_eq_false (by omega), if_neg (by omega)]
  show prefix_Get.j1 (k + 12 + 1) p _ false = _
  simp only [prefix_Get.j1]
  rw [if_neg (by decide), if_pos (by omega), e0, if_pos (by omega), shl_one _ hf.1 (by omega), and63 _ hf.1 (by omega)]
  have hx : ∀ i : Int, 0 ≤ i → p + i < b.size → bt (b.extract p.toNat b.size) i = bt b (p + i) := fun i a c => bt_extract b p i (by omega) a c
  have hr : ∀ i : Int, 0 ≤ bt (b.extract p.toNat b.size) i ∧ bt (b.extract p.toNat b.size) i ≤ 255 := fun i => bt_range _ i
  have fin : ∀ j v, valL b p (tw (bt b p)) = v → prefix_Get.l0 (j + 1) p (b.extract p.toNat b.size) (tw (bt b p)) v (tw (bt b p)) = some (if szL (valL b p (tw (bt b p))) = tw (bt b p) then (valL b p (tw (bt b p)), p + tw (bt b p), 0) else (0, 0, 3)) := by
    intro j v hv
    subst hv
    have hv := valL_range b p (bt b p)
    have ht : tw (bt b p) ≤ 8 := by rcases tw_cases (bt b p) with ⟨_, e⟩ | ⟨_, _, e⟩ | ⟨_, _, e⟩ | ⟨_, e⟩ <;> omega
    have ht0 : 0 < tw (bt b p) := by rcases tw_cases (bt b p) with ⟨_, e⟩ | ⟨_, _, e⟩ | ⟨_, _, e⟩ | ⟨_, e⟩ <;> omega
    rw [get_end, size_ok _ hv.1 hv.2.1]
    simp only [Option.bind_some]
    rw [w64 (n := p + _) (by omega) (by omega)]
    split <;> rfl
  have ht0 : 1 ≤ tw (bt b p) ∧ tw (bt b p) ≤ 8 := by rcases tw_cases (bt b p) with ⟨_, e⟩ | ⟨_, _, e⟩ | ⟨_, _, e⟩ | ⟨_, e⟩ <;> omega
  have go := get_fill p (tw (bt b p)) (b.extract p.toNat b.size) ht0.2 (by omega)
  have sm : ∀ q : Int, q % 64 < 2 ^ 54 := fun q => by omega
  rcases tw_cases (bt b p) with ⟨_, e⟩ | ⟨_, _, e⟩ | ⟨_, _, e⟩ | ⟨_, e⟩
  · have := fin (k + 11) (bt b p % 64) (by rw [e]; rfl)
    rw [e] at this ⊢
    exact this
  · have f := fin (k + 10) (bt b p % 64 * 256 + bt b (p + 1)) (by rw [e]; rfl)
    have g := go 1 (k + 11) (bt b p % 64) 1 (by omega) (by show (bt b p % 64 + 1) * 256 ≤ 4611686018427387904; omega) (by decide) (by rw [e]; rfl)
    rw [e] at f g hc ⊢
    refine g.trans ?_
    simp only [accL]
    rw [hx 1 (by decide) (by omega)]
    exact f
  · have f := fin (k + 8) (((bt b p % 64 * 256 + bt b (p + 1)) * 256 + bt b (p + 2)) * 256 + bt b (p + 3)) (by rw [e]; rfl)
    have g := go 3 (k + 9) (bt b p % 64) 1 (by omega) (by show (bt b p % 64 + 1) * 16777216 ≤ 4611686018427387904; omega) (by decide) (by rw [e]; rfl)
    rw [e] at f g hc ⊢
    refine g.trans ?_
    simp only [accL, Int.reduceAdd]
    rw [hx 1 (by decide) (by omega), hx 2 (by decide) (by omega), hx 3 (by decide) (by omega)]
    exact f
  · have f := fin (k + 4) (((((((bt b p % 64 * 256 + bt b (p + 1)) * 256 + bt b (p + 2)) * 256 + bt b (p + 3)) * 256 + bt b (p + 4)) * 256 + bt b (p + 5)) * 256 + bt b (p + 6)) * 256 + bt b (p + 7)) (by rw [e]; rfl)
    have g := go 7 (k + 5) (bt b p % 64) 1 (by omega) (by show (bt b p % 64 + 1) * 72057594037927936 ≤ 4611686018427387904; omega) (by decide) (by rw [e]; rfl)
    rw [e] at f g hc ⊢
    refine g.trans ?_
    simp only [accL, Int.reduceAdd]
    rw [hx 1 (by decide) (by omega), hx 2 (by decide) (by omega), hx 3 (by decide) (by omega), hx 4 (by decide) (by omega), hx 5 (by decide) (by omega), hx 6 (by decide) (by omega), hx 7 (by decide) (by omega)]
    exact f
end Go.Proofs.YtlmpfjmacjicgaaDoor.Pure
