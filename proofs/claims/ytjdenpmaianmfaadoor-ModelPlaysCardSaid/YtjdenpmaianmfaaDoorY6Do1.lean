/- The document's Client and its Journal as one resource; its turns, and the program's, each in all cases at once. -/
import Derived.Test.YtjdenpmaianmfaaDoorY6St
import Derived.Test.YtjdenpmaianmfaaDoorY6RM
import Derived.Test.YtjdenpmaianmfaaDoorY6Ky0
namespace Go.Proofs.YtjdenpmaianmfaaDoor.Pure
set_option linter.unusedSimpArgs false
open Go RowKit YtjdenpmaianmfaaDoorW.PrintWords YtjdenpmaianmfaaDoorW.PrintLast YtjdenpmaianmfaaDoorW.PrintMore Q
theorem rzig_ok (k : Nat) (n : Int) (h0 : -2305843009213693952 ≤ n) (h1 : n < 2305843009213693952) : chapbookref01_Zig.f (k + 1) n = some (if n < 0 then -2 * n - 1 else 2 * n, true) := by
 unfold chapbookref01_Zig.f
 rw [if_neg (by omega), decide_eq_false (by omega)]
 simp only [chapbookref01_Zig.j0]
 rw [if_neg (by decide)]
 by_cases hn : n < 0
 ·rw [if_pos hn, if_pos hn]
  have e1 : wrap64 (-(wrap64 (n + 1))) = -(n + 1) := by rw [w64 (n := n + 1) (by omega) (by omega), w64 (n := -(n + 1)) (by omega) (by omega)]
  rw [e1]
  have e2 : IntKind.u64.wrap (-(n + 1)) = -(n + 1) := u64in _ (by omega) (by omega)
  rw [e2, u64in (2 * -(n + 1)) (by omega) (by omega), u64in _ (by omega) (by omega)]
  congr 2; omega
 ·rw [if_neg hn, if_neg hn, u64in n (by omega) (by omega), u64in _ (by omega) (by omega)]
theorem rsize_ok (n : Int) (h1 : n < 4611686018427387904) : chapbookref01_Size.f n = some (szL n) := by
 unfold chapbookref01_Size.f szL; repeat' split
 all_goals first | rfl | omega
theorem rput_step (k : Nat) (x t i : Int) (l : List Int) (h0 : 0 ≤ x) (h1 : x < 2 ^ 64) (h2 : i < t) (h3 : 0 ≤ i) (h4 : t ≤ 8) (h5 : l.length ≤ 8) :
  chapbookref01_Put.l0 (k + 1) x t l i = chapbookref01_Put.l0 k (x / 256) t ([x % 256] ++ l) (i + 1) := by
 have t1 : Int.tmod x 256 % 256 = x % 256 := by rw [Int.tmod_eq_emod_of_nonneg h0]; omega
 have t2 : Int.tdiv x 256 = x / 256 := Int.tdiv_eq_ediv_of_nonneg h0
 simp only [chapbookref01_Put.l0, Option.bind_some]
 rw [if_pos h2, t1, t2, u64in _ (by omega) (by omega), w64 (n := i + 1) (by omega) (by omega), if_pos (by simp; omega)]
theorem rput_end (k : Nat) (x t : Int) (l : List Int) : chapbookref01_Put.l0 (k + 1) x t l t = if t = 2 then chapbookref01_Put.j1 k t l 64 else chapbookref01_Put.j1 k t l 0 := by
 simp only [chapbookref01_Put.l0]; rw [if_neg (by omega)]
theorem rput_fin (k : Nat) (t d m : Int) (l : List Int) (mark : Int) (hl : l.length ≤ 8) (hd : 0 ≤ d) (hd1 : d < 256) (hm : (t = 8 ∧ m = 192) ∨ (t = 4 ∧ m = 128) ∨ (t ≠ 4 ∧ t ≠ 8 ∧ m = mark)) (hm0 : 0 ≤ m) (hm1 : m < 256) :
  chapbookref01_Put.j1 (k + 2) t (d :: l) mark = some (strOfNums (((d + m) % 256) :: l), 0) := by
 have sz : ∀ a : Int, (strOfNums [a]).size + (strOfNums l).size ≤ 9223372036854775807 := fun a => by rw [strOfNums_size, strOfNums_size]; simp; omega
 have e1 : rd (d :: l) 0 = d := rfl
 have e2 : (d :: l).drop 1 = l := rfl
 have p1 : 0 < (((d :: l).length : Nat) : Int) := by rw [List.length_cons]; omega
 have p2 : 1 ≤ (((d :: l).length : Nat) : Int) := by rw [List.length_cons]; omega
 have w : ∀ q : Int, 0 ≤ q → q < 256 → wrap64 (wrap64 d + q) = d + q := fun q h0 h1 => by rw [w64 (n := d) (by omega) (by omega), w64 (by omega) (by omega)]
 have fin : ∀ q : Int, strOfNums [q] ++ strOfNums l = strOfNums (q :: l) := fun q => str_app [q] l
 simp only [chapbookref01_Put.j1, chapbookref01_Put.j2, chapbookref01_Put.lf, Option.bind_some, e1, e2]
 rcases hm with ⟨rfl, rfl⟩ | ⟨rfl, rfl⟩ | ⟨h4, h8, rfl⟩
 ·rw [if_neg (by decide), if_pos rfl, if_pos p1, if_pos p2, w 192 (by decide) (by decide), if_pos (sz _), fin]
 ·rw [if_pos rfl, if_neg (by decide), if_pos p1, if_pos p2, w 128 (by decide) (by decide), if_pos (sz _), fin]
 ·rw [if_neg h4, if_neg h8, if_pos p1, if_pos p2, w m hm0 hm1, if_pos (sz _), fin]
theorem rput_fill (t : Int) (ht : t ≤ 8) : ∀ (n k : Nat) (x : Int) (l : List Int) (i : Int), 0 ≤ x → x < 2 ^ 64 → 0 ≤ i → i + n = t → (l.length : Int) = i → ∃ x', chapbookref01_Put.l0 (k + n) x t l i = chapbookref01_Put.l0 k x' t (fillR n x l) t
 | 0, k, x, l, i, _, _, _, h1, _ => by
  have : i = t := by omega
  subst this
  exact ⟨x, rfl⟩
 | n + 1, k, x, l, i, g0, g1, h0, h1, h2 => by
  obtain ⟨x', hx⟩ := rput_fill t ht n k (x / 256) ([x % 256] ++ l) (i + 1) (by omega) (by omega) (by omega) (by omega) (by simp; omega)
  refine ⟨x', ?_⟩
  rw [show fillR (n + 1) x l = fillR n (x / 256) ([x % 256] ++ l) from rfl, ← hx]
  exact rput_step (k + n) x t i l g0 g1 (by omega) h0 ht (by omega)
theorem rput_ok (k : Nat) (n : Int) (h0 : 0 ≤ n) (h1 : n < 4611686018427387904) : chapbookref01_Put.f (k + 12) n = some (strOfNums (encL n), 0) := by
 unfold chapbookref01_Put.f
 rw [rsize_ok n h1]
 simp only [Option.bind_some]
 unfold szL encL
 by_cases a1 : n < 64
 ·simp only [if_pos a1]
  rw [if_neg (by decide)]
  obtain ⟨x', hx⟩ := rput_fill 1 (by decide) 1 (k + 11) n [] 0 h0 (by omega) (by decide) (by decide) rfl
  refine hx.trans ?_
  rw [rput_end, if_neg (by decide)]
  refine (rput_fin (k + 8) 1 (n % 256) 0 [] 0 (by decide) (by omega) (by omega) (by omega) (by decide) (by decide)).trans ?_
  rw [show (n % 256 + 0) % 256 = n from by omega]
 simp only [if_neg a1]
 by_cases a2 : n < 16384
 ·simp only [if_pos a2]
  rw [if_neg (by decide)]
  obtain ⟨x', hx⟩ := rput_fill 2 (by decide) 2 (k + 10) n [] 0 h0 (by omega) (by decide) (by decide) rfl
  refine hx.trans ?_
  rw [rput_end, if_pos rfl]
  refine (rput_fin (k + 7) 2 (n / 256 % 256) 64 [n % 256] 64 (by simp) (by omega) (by omega) (by omega) (by decide) (by decide)).trans ?_
  rw [show (n / 256 % 256 + 64) % 256 = n / 256 + 64 from by omega]
 simp only [if_neg a2]
 by_cases a3 : n < 1073741824
 ·simp only [if_pos a3]
  rw [if_neg (by decide)]
  obtain ⟨x', hx⟩ := rput_fill 4 (by decide) 4 (k + 8) n [] 0 h0 (by omega) (by decide) (by decide) rfl
  refine hx.trans ?_
  rw [rput_end, if_neg (by decide)]
  refine (rput_fin (k + 5) 4 (n / 256 / 256 / 256 % 256) 128 [n / 256 / 256 % 256, n / 256 % 256, n % 256] 0 (by simp) (by omega) (by omega) (by omega) (by decide) (by decide)).trans ?_
  rw [show (n / 256 / 256 / 256 % 256 + 128) % 256 = n / 16777216 + 128 from by omega, show n / 256 / 256 % 256 = n / 65536 % 256 from by omega]
 ·simp only [if_neg a3]
  rw [if_neg (by decide)]
  obtain ⟨x', hx⟩ := rput_fill 8 (by decide) 8 (k + 4) n [] 0 h0 (by omega) (by decide) (by decide) rfl
  refine hx.trans ?_
  rw [rput_end, if_neg (by decide)]
  refine (rput_fin (k + 1) 8 (n / 256 / 256 / 256 / 256 / 256 / 256 / 256 % 256) 192 [n / 256 / 256 / 256 / 256 / 256 / 256 % 256, n / 256 / 256 / 256 / 256 / 256 % 256, n / 256 / 256 / 256 / 256 % 256, n / 256 / 256 / 256 % 256, n / 256 / 256 % 256, n / 256 % 256, n % 256] 0 (by simp) (by omega) (by omega) (by omega) (by decide) (by decide)).trans ?_
  rw [show (n / 256 / 256 / 256 / 256 / 256 / 256 / 256 % 256 + 192) % 256 = n / 72057594037927936 + 192 from by omega, show n / 256 / 256 / 256 / 256 / 256 / 256 % 256 = n / 281474976710656 % 256 from by omega,
   show n / 256 / 256 / 256 / 256 / 256 % 256 = n / 1099511627776 % 256 from by omega, show n / 256 / 256 / 256 / 256 % 256 = n / 4294967296 % 256 from by omega,
   show n / 256 / 256 / 256 % 256 = n / 16777216 % 256 from by omega, show n / 256 / 256 % 256 = n / 65536 % 256 from by omega]
end Go.Proofs.YtjdenpmaianmfaaDoor.Pure
namespace Go.Proofs.YtjdenpmaianmfaaDoor.J
set_option linter.unusedSimpArgs false
set_option linter.unusedVariables false
open Go RowKit YtjdenpmaianmfaaDoorW.PrintWords YtjdenpmaianmfaaDoorW.PrintLast YtjdenpmaianmfaaDoorW.PrintMore Q YtjdenpmaianmfaaDoor.Sep
theorem copyC (o n : Int) (ups : List S32) (hu : ups.length ≤ 1000000) : round_Copy.f o n ups = some (o, n, ups) := by
 unfold round_Copy.f api_Update.f
 rw [if_pos (by omega)]
 rfl
def CellN (N : Nat → Prop) (w : World) (g : Nat) (cs : Array Value) (t : TypeId) : Prop := N g ∧ w.heap[g]? = some (.cells cs t (0, 0))
theorem CellN.keep {N : Nat → Prop} {w w' : World} {g : Nat} {cs : Array Value} {t : TypeId} (h : CellN N w g cs t) (k : KeepS N w w') : CellN N w' g cs t := ⟨h.1, (k.block g (blk_lt h.2) h.1).trans h.2⟩
theorem CellN.mono {N N' : Nat → Prop} {w : World} {g : Nat} {cs : Array Value} {t : TypeId} (h : CellN N w g cs t) (hn : ∀ k, N k → N' k) : CellN N' w g cs t := ⟨hn _ h.1, h.2⟩
def Lead (N : Nat → Prop) (w : World) (rows : List (List Value)) (xs : List S35) : Prop := rows.length = xs.length ∧ ∀ (j : Nat) (x : S35) (c : List Value), xs[j]? = some x → rows[j]? = some c → Kd.FK k35 w N x c
theorem Lead.none (N : Nat → Prop) (w : World) : Lead N w [] [] := ⟨rfl, fun j x c h => by simp at h⟩
theorem Lead.keep {N : Nat → Prop} {w w' : World} {rows : List (List Value)} {xs : List S35} (h : Lead N w rows xs) (hk : KeepS N w w') : Lead N w' rows xs := ⟨h.1, fun j x c a b => keepFK (h.2 j x c a b) hk⟩
theorem Lead.mono {N N' : Nat → Prop} {w : World} {rows : List (List Value)} {xs : List S35} (h : Lead N w rows xs) (hn : ∀ k, N k → N' k) : Lead N' w rows xs := ⟨h.1, fun j x c a b => Kd.FK_mono (h.2 j x c a b) hn⟩
theorem Lead.append {N : Nat → Prop} {w : World} {r1 r2 : List (List Value)} {x1 x2 : List S35} (h : Lead N w r1 x1) (k : Lead N w r2 x2) : Lead N w (r1 ++ r2) (x1 ++ x2) := by
 refine ⟨by simp [h.1, k.1], fun j y d a b => ?_⟩
 rcases Nat.lt_or_ge j x1.length with hj | hj
 ·rw [List.getElem?_append_left hj] at a
  rw [List.getElem?_append_left (by rw [h.1]; exact hj)] at b
  exact h.2 j y d a b
 ·rw [List.getElem?_append_right hj] at a
  rw [List.getElem?_append_right (by rw [h.1]; exact hj), h.1] at b
  exact k.2 _ y d a b
theorem rawOf {N : Nat → Prop} {w : World} {A : Option Addr} {n : Nat} {L : List S35} (h : Kd.F k35 w N A n L) : ∃ rows : List (List Value), rows.length = L.length ∧ Kd.C (Kd.raw 3) w A n rows ∧ Lead N w rows L := by
 obtain ⟨news, h1, h2, h3⟩ := Kd.reads_raw (Kd.F_rows h) (fun x c hk => ⟨k35.K_len (Kd.FK_now hk), k35.K_one (Kd.FK_now hk)⟩)
 exact ⟨news, h1, h2, h1, h3⟩
theorem flatRaw : Flat (Kd.raw 3) := fun h => h
theorem lead_C {N N2 : Nat → Prop} {w : World} {l : List HP} {i n c : Nat} {A : Option Addr} {rows : List (List Value)} {X : List S35} (h : Own N w l) (hi : l[i]? = some (nrow (Kd.raw 3) 35 (.slice A n c) rows)) (hl : Lead N2 w rows X) : n = X.length ∧ n ≤ c ∧ Kd.C k35 w A X.length X := by
 obtain ⟨h1, h2, h3⟩ := h.nreads hi
 refine ⟨h1.trans hl.1, h2, rfl, (by have := h3.2.1; rw [h1, hl.1] at this; exact this), fun hp => ?_⟩
 obtain ⟨ad, he, hc⟩ := h3.2.2 (by rw [h1, hl.1]; exact hp)
 refine ⟨ad, he, fun j x hx => ?_⟩
 have hj : j < rows.length := by rw [hl.1]; exact (List.getElem?_eq_some_iff.1 hx).1
 obtain ⟨c', hcl, hK, hcc⟩ := hc j _ (List.getElem?_eq_getElem hj)
 have hk := Kd.FK_now (hl.2 j x _ hx (List.getElem?_eq_getElem hj))
 refine ⟨c', hcl, ?_, hcc⟩
 rw [show c' = rows[j] from hK.1]
 exact hk
theorem slice_len17 {A : Option Addr} {n m c : Nat} (h : n = m) : Value.slice A n c = .slice A m c := by rw [h]
def upR (L : List S35) (x : Int) : List S35 := L.take x.toNat
theorem upR_step (L : List S35) (x : Int) (h0 : 0 ≤ x) (h1 : x < L.length) : upR L (x + 1) = upR L x ++ [rd_T35 L x] := take_snoc17 L z35 x h0 h1
theorem upR_all (L : List S35) : upR L L.length = L := by unfold upR; rw [Int.toNat_natCast, List.take_length]
theorem upR_len (L : List S35) (x : Int) : (upR L x).length ≤ L.length := by unfold upR; rw [List.length_take]; exact Nat.min_le_right _ _
end Go.Proofs.YtjdenpmaianmfaaDoor.J
namespace Go.Proofs.YtjdenpmaianmfaaDoor.Pure
set_option linter.unusedSimpArgs false
open Go RowKit YtjdenpmaianmfaaDoorW.PrintWords YtjdenpmaianmfaaDoorW.PrintLast YtjdenpmaianmfaaDoorW.PrintMore Q
theorem rnumber (k : Nat) (n : Int) (h0 : 0 ≤ n) (h1 : n < 4611686018427387904) : chapbookref03_Number.f (k + 12) n = some (strOfNums (encL n), true) := by
 unfold chapbookref03_Number.f
 rw [if_neg (by omega), u64in n h0 (by omega), rput_ok k n h0 h1]
 rfl
theorem rtext (k : Nat) (s : ByteArray) (h : s.size ≤ 140737488354900) : chapbookref03_Text.f (k + 12) s = some (Wr.txtP s) := by
 unfold chapbookref03_Text.f
 have := Wr.enc_size s.size
 rw [rnumber k s.size (by omega) (by omega), Option.bind_some]
 simp only
 rw [if_pos (by omega)]
 rfl
theorem rsigned (k : Nat) (n : Int) (h0 : -2305843009213693952 ≤ n) (h1 : n < 2305843009213693952) : chapbookref03_Signed.f (k + 12) n = some (strOfNums (encL (zz n)), true) := by
 unfold chapbookref03_Signed.f
 have e : zz n = if n < 0 then -2 * n - 1 else 2 * n := rfl
 rw [rzig_ok (k + 11) n h0 h1, Option.bind_some]
 simp only [if_true]
 rw [← e, rput_ok k (zz n) (by unfold zz; split <;> omega) (by unfold zz; split <;> omega)]
 rfl
theorem rbytes (j : Nat) {k : ByteArray} {c n : Int} {s : ByteArray} (h : may k c n s = 0) : chapbookref06_Bytes.f (j + 13) k c n s = some (bytesU k c n s) := by
 obtain ⟨h1, h2, h3, h4, h5, h6, h7⟩ := may_zero h
 have e1 := Wr.enc_size c
 have e2 := txtP_size k
 have e3 := txtP_size s
 have e4 := Wr.enc_size (zz n)
 have e5 : (strOfNums (encL c) ++ Wr.txtP k).size = (strOfNums (encL c)).size + (Wr.txtP k).size := ByteArray.size_append
 unfold chapbookref06_Bytes.f bytesU
 rw [rnumber (j + 1) c (by omega) (by omega), Option.bind_some, rtext (j + 1) k (by omega), Option.bind_some]
 simp only
 rw [if_pos (by omega)]
 by_cases c1 : c = 1
 ·obtain ⟨a, b, d⟩ := h5 (Or.inl c1)
  rw [if_pos c1, if_pos (Or.inl c1)]
  simp only [chapbookref06_Bytes.j0]
  rw [if_pos trivial, rsigned j n b d, Option.bind_some]
  simp only
  rw [if_pos (by omega), if_neg (by omega), if_neg (by omega)]
 rw [if_neg c1]
 by_cases c3 : c = 3
 ·obtain ⟨a, b, d⟩ := h5 (Or.inr c3)
  rw [if_pos (Or.inr c3)]
  simp only [chapbookref06_Bytes.j0]
  rw [if_pos (show (c == 3) = true by simp [c3]), rsigned j n b d, Option.bind_some]
  simp only
  rw [if_pos (by omega), if_neg (by omega), if_neg (by omega)]
 rw [if_neg (show ¬ (c = 1 ∨ c = 3) by omega)]
 simp only [chapbookref06_Bytes.j0]
 rw [if_neg (show ¬ ((c == 3) = true) by simp [c3])]
 by_cases c2 : c = 2
 ·have := h6 (Or.inl c2)
  rw [if_pos c2, if_pos (Or.inl c2), rtext j s (by omega), Option.bind_some, if_pos (by omega)]
 rw [if_neg c2]
 by_cases c4 : c = 4
 ·have := h6 (Or.inr c4)
  rw [if_pos c4, if_pos (Or.inr c4), rtext j s (by omega), Option.bind_some, if_pos (by omega)]
 ·rw [if_neg c4, if_neg (show ¬ (c = 2 ∨ c = 4) by omega), app_nil]
set_option linter.unusedVariables false
def bytesR (o n : Int) (l : List Upd) : ByteArray := headB o n l.length ++ catB l
def putR (o n : Int) (l : List Upd) : ByteArray × Int := if mayR o n l = 0 then (bytesR o n l, 0) else (nil', mayR o n l)
theorem pputR (o n : Int) (l : List Upd) : round_Put.f o n l = some (putR o n l) := by
 unfold round_Put.f putR
 rw [pmay 0, Option.bind_some]
 by_cases h : mayR o n l = 0
 ·obtain ⟨h1, h2, h3, h4, h5, h6, h7⟩ := mayR_zero h
  rw [if_pos h, if_pos h, headW_ok (by omega) (by omega) (by omega) (by omega) (by omega) (by omega), addsW_ok _ _ h7]
  rfl
 ·rw [if_neg h, if_neg h]
theorem rbytes_loop (o n : Int) (l : List Upd) (hl : l.length ≤ 20) (hm : ∀ z ∈ l, mayU z = 0) : ∀ (d k : Nat) (x : Int) (acc : ByteArray), 0 ≤ x → x ≤ l.length → (l.length : Int) - x = d → d + 15 ≤ k → acc.size + 80 * d ≤ 1000000 → chapbookref07_Bytes.l0 k acc x o n l = some (acc ++ catB (l.drop x.toNat)) := by
 intro d
 induction d with
 | zero =>
  intro k x acc h0 h1 hd hk ha
  obtain ⟨k, rfl⟩ : ∃ m, k = m + 1 := ⟨k - 1, by omega⟩
  simp only [chapbookref07_Bytes.l0]
  rw [if_neg (by omega), List.drop_of_length_le (by omega)]
  show _ = some (acc ++ nil')
  rw [app_nil]
 | succ d ih =>
  intro k x acc h0 h1 hd hk ha
  obtain ⟨k, rfl⟩ : ∃ m, k = m + 1 := ⟨k - 1, by omega⟩
  simp only [chapbookref07_Bytes.l0]
  obtain ⟨k, rfl⟩ : ∃ m, k = m + 13 := ⟨k - 13, by omega⟩
  have hx := hm _ (rd_memP x h0 (by omega))
  have hz := bytesU_max hx
  rw [if_pos (by omega), if_pos h0, rbytes k hx, Option.bind_some, if_pos (by omega), w64s (n := l.length) h0 (by omega) (by omega), ih (k + 13) (x + 1) _ (by omega) (by omega) (by omega) (by omega) (by rw [ByteArray.size_append]; omega), rdU l x h0 (by omega)]
  show some (_ ++ _ ++ _) = some (_ ++ (_ ++ _))
  rw [ByteArray.append_assoc]
theorem rbytesR (k : Nat) {o n : Int} {l : List Upd} (h : mayR o n l = 0) : chapbookref07_Bytes.f (k + 40) o n l = some (bytesR o n l) := by
 obtain ⟨h1, h2, h3, h4, h5, h6, h7⟩ := mayR_zero h
 unfold chapbookref07_Bytes.f
 have e1 := Wr.enc_size o
 have e2 := Wr.enc_size n
 have e3 := Wr.enc_size (l.length : Int)
 rw [rnumber (k + 28) o (by omega) (by omega), Option.bind_some, rnumber (k + 28) n (by omega) (by omega), Option.bind_some, rnumber (k + 28) l.length (by omega) (by omega), Option.bind_some]
 simp only
 rw [if_pos (by omega), if_pos (by rw [ByteArray.size_append]; omega), rbytes_loop o n l (by omega) h7 l.length (k + 40) 0 _ (by omega) (by omega) (by omega) (by omega) (by rw [ByteArray.size_append, ByteArray.size_append]; omega)]
 rfl
end Go.Proofs.YtjdenpmaianmfaaDoor.Pure
namespace Go.Proofs.YtjdenpmaianmfaaDoor.J
set_option maxHeartbeats 16000000
set_option maxRecDepth 100000
set_option linter.unusedSimpArgs false
set_option linter.unusedVariables false
open Go RowKit YtjdenpmaianmfaaDoorW.PrintWords YtjdenpmaianmfaaDoorW.PrintLast YtjdenpmaianmfaaDoorW.PrintMore Q YtjdenpmaianmfaaDoor.Sep
attribute [local go_sem] max2_int min2_int max_two min_two max_three min_three max_four min_four
end Go.Proofs.YtjdenpmaianmfaaDoor.J
namespace Go.Proofs.YtjdenpmaianmfaaDoor.J
set_option maxHeartbeats 16000000
set_option maxRecDepth 100000
set_option linter.unusedSimpArgs false
set_option linter.unusedVariables false
open Go RowKit YtjdenpmaianmfaaDoorW.PrintWords YtjdenpmaianmfaaDoorW.PrintLast YtjdenpmaianmfaaDoorW.PrintMore Q YtjdenpmaianmfaaDoor.Sep
attribute [local go_sem] max2_int min2_int max_two min_two max_three min_three max_four min_four
end Go.Proofs.YtjdenpmaianmfaaDoor.J
namespace Go.Proofs.YtjdenpmaianmfaaDoor.J
set_option linter.unusedSimpArgs false
set_option linter.unusedVariables false
open Go RowKit YtjdenpmaianmfaaDoorW.PrintWords YtjdenpmaianmfaaDoorW.PrintLast YtjdenpmaianmfaaDoorW.PrintMore Q YtjdenpmaianmfaaDoor.Sep YtjdenpmaianmfaaDoor.Pure
def addE (o m : Int) (L : List Rnd) (ups : List Upd) : Int := if (L.length : Int) = m then 8 else mayR o (L.length + 1) ups
end Go.Proofs.YtjdenpmaianmfaaDoor.J
namespace Go.Proofs.YtjdenpmaianmfaaDoor.Pure
set_option linter.unusedSimpArgs false
set_option linter.unusedVariables false
open Go RowKit YtjdenpmaianmfaaDoorW.PrintWords YtjdenpmaianmfaaDoorW.PrintLast YtjdenpmaianmfaaDoorW.PrintMore Q
def fitsB (l : List Upd) (m : Int) : Bool := decide (mayR 64 1099511627776 l = 0 ∧ 64 ≤ m ∧ m ≤ 1400 ∧ ((bytesR 64 1099511627776 l).size : Int) ≤ m - 40)
theorem in_ok7 (n a b : Int) : round_in.f n a b = some (decide (n ≥ a ∧ n ≤ b)) := by
 unfold round_in.f
 by_cases h1 : n ≥ a <;> by_cases h2 : n ≤ b <;> simp [h1, h2]
theorem pfits (l : List Upd) (m : Int) : round_Fits.f l m = some (fitsB l m) := by
 unfold fitsB
 unfold round_Fits.f
 rw [pputR, Option.bind_some]
 unfold putR
 by_cases hm : mayR 64 1099511627776 l = 0
 ·rw [if_pos hm]
  simp only
  rw [if_pos trivial, in_ok7, Option.bind_some]
  by_cases hx : m ≥ 64 ∧ m ≤ 1400
  ·rw [if_pos (decide_eq_true hx), show wrap64 (m - 40) = m - 40 by unfold wrap64; omega]
   simp [hm, hx.1, hx.2]
  ·rw [if_neg (by simpa using hx)]
   have : ¬ (64 ≤ m ∧ m ≤ 1400 ∧ ((bytesR 64 1099511627776 l).size : Int) ≤ m - 40) := fun q => hx ⟨q.1, q.2.1⟩
   simp [this]
 ·rw [if_neg hm]
  simp only
  rw [if_neg hm]
  simp [hm]
theorem rfits (l : List Upd) (m : Int) : chapbookref07_Fits.f 299 l m = some (fitsB l m) := by
 unfold fitsB
 unfold chapbookref07_Fits.f
 by_cases c1 : m ≥ 64
 case neg => rw [if_neg c1]; have : ¬ (64 ≤ m) := c1; simp [this]
 rw [if_pos c1]
 by_cases c2 : m ≤ 1400
 case neg => rw [if_neg c2]; simp [c2]
 rw [if_pos c2, rmayR 279, Option.bind_some]
 by_cases hm : mayR 64 1099511627776 l = 0
 ·rw [if_pos hm, rbytesR 259 hm, Option.bind_some, show wrap64 (m - 40) = m - 40 by unfold wrap64; omega]
  have c1' : 64 ≤ m := c1
  simp [hm, c1', c2]
 ·rw [if_neg hm]; simp [hm]
end Go.Proofs.YtjdenpmaianmfaaDoor.Pure
namespace Go.Proofs.YtjdenpmaianmfaaDoor.J
open Go RowKit YtjdenpmaianmfaaDoorW.PrintWords YtjdenpmaianmfaaDoorW.PrintLast YtjdenpmaianmfaaDoorW.PrintMore Q YtjdenpmaianmfaaDoor.Sep YtjdenpmaianmfaaDoor.Pure
def TabN (N : Nat → Prop) (w : World) : Prop := N 0 ∧ Tab w
theorem TabN.keep {N : Nat → Prop} {w w' : World} (h : TabN N w) (hk : KeepS N w w') : TabN N w' := by
 have one : ∀ {j : Nat} {v : Value}, w.cell? ⟨0, j, none⟩ = some v → w'.cell? ⟨0, j, none⟩ = some v := fun {j v} hc =>
  (World.cell?_of_block (w := w) (hk.block _ (World.block_lt_of_cell? w _ hc) h.1)).trans hc
 exact ⟨h.1, one h.2.1, one h.2.2.1, one h.2.2.2.1, one h.2.2.2.2⟩
theorem TabN.mono {N N' : Nat → Prop} {w : World} (h : TabN N w) (hn : ∀ k, N k → N' k) : TabN N' w := ⟨hn _ h.1, h.2⟩
set_option maxHeartbeats 16000000
set_option maxRecDepth 100000
set_option linter.unusedSimpArgs false
set_option linter.unusedVariables false
theorem infoU7 : (Tryd.prog.info? 32).map (fun i => (i.zero, i.size, i.bytes)) = some (some (.agg #[.string ⟨#[]⟩, .int .i64 0, .int .i64 0, .string ⟨#[]⟩]), 4, 48) := by kernel_rfl
section
variable {α : Type} {e : Nat} {N : Nat → Prop} {W : World} {l : List HP} {i j : Nat} {v : Value} {xs : List α} {cs : List Value}
end
abbrev kR7 := k35
abbrev kU7 := k32
abbrev tR7 : TypeId := 35
abbrev tU7 : TypeId := 32
abbrev Rnd7 := S35
abbrev Upd7 := S32
section
variable {N : Nat → Prop} {w : World} {g : Nat} {jp : Value} {o mtu push : Int} {K P : List Rnd7} {U : List Upd7} {r : List HP}
end
end Go.Proofs.YtjdenpmaianmfaaDoor.J
namespace Go.Proofs.YtjdenpmaianmfaaDoor.J
set_option maxHeartbeats 16000000
set_option maxRecDepth 100000
set_option linter.unusedSimpArgs false
set_option linter.unusedVariables false
open Go RowKit YtjdenpmaianmfaaDoorW.PrintWords YtjdenpmaianmfaaDoorW.PrintLast YtjdenpmaianmfaaDoorW.PrintMore Q YtjdenpmaianmfaaDoor.Sep YtjdenpmaianmfaaDoor.Pure
abbrev rw3 (o n : Int) (v : Value) : List Value := [o, n, v]
theorem repW (W : World) (o n : Int) (A : Option Addr) (m c : Nat) : Reps (Kd.FK (Kd.raw 3) W (fun _ => False)) 3 [rw3 o n (.slice A m c)] [o, n, .slice A m c] := by
 refine (Reps.none _ 3).snoc (p := rw3 o n (.slice A m c)) (c := rw3 o n (.slice A m c)) (flatRaw.FK (w := W) ⟨rfl, rfl, fun u hu => ?_⟩) rfl
 simp only [rw3, List.mem_cons, List.not_mem_nil, or_false] at hu
 rcases hu with rfl | rfl | rfl <;> rfl
theorem repU1 (W : World) (u : Upd7) : Reps (Kd.FK k32 W (fun _ => False)) 4 [u] [u.f0, u.f1, u.f2, u.f3] := (Reps.none _ 4).snoc (flatU.FK (k32_mk W u)) rfl
section
variable {N : Nat → Prop} {w : World} {g : Nat} {jp : Value} {o mtu push : Int} {K P : List Rnd7} {U : List Upd7}
abbrev bnd (L : List Rnd7) : Prop := ∀ x : Int, 0 ≤ x → x < L.length → (rd_T35 L x).f2.length ≤ 1000000
end
end Go.Proofs.YtjdenpmaianmfaaDoor.J
namespace Go.Proofs.YtjdenpmaianmfaaDoor.J
set_option maxHeartbeats 16000000
set_option maxRecDepth 100000
set_option linter.unusedSimpArgs false
set_option linter.unusedVariables false
open Go RowKit YtjdenpmaianmfaaDoorW.PrintWords YtjdenpmaianmfaaDoorW.PrintLast YtjdenpmaianmfaaDoorW.PrintMore Q YtjdenpmaianmfaaDoor.Sep
attribute [local go_sem] max2_int min2_int max_two min_two max_three min_three max_four min_four
end Go.Proofs.YtjdenpmaianmfaaDoor.J
namespace Go.Proofs.YtjdenpmaianmfaaDoor.J
set_option linter.unusedSimpArgs false
set_option linter.unusedVariables false
open Go RowKit YtjdenpmaianmfaaDoorW.PrintWords YtjdenpmaianmfaaDoorW.PrintLast YtjdenpmaianmfaaDoorW.PrintMore Q YtjdenpmaianmfaaDoor.Sep YtjdenpmaianmfaaDoor.Pure
abbrev pt (g : Nat) : Value := .pointer (some ⟨g, 0, none⟩)
section
variable {N : Nat → Prop} {w w' : World} {gj gd : Nat} {jo jm o mtu push : Int} {rJ rK rP : List (List Value)} {U : List Upd7} {r : List HP}
end
theorem fk_of {N : Nat → Prop} {w : World} {r : Rnd7} {A : Option Addr} {c : Nat} (hl : r.f2.length ≤ c) (hF : Kd.F kU7 w N A r.f2.length r.f2) : Kd.FK kR7 w N r [r.f0, r.f1, .slice A r.f2.length c] := fun W' hW => k35_mk W' r hl (hF W' hW)
theorem Lead.one {N : Nat → Prop} {w : World} {r : Rnd7} {A : Option Addr} {c : Nat} (hl : r.f2.length ≤ c) (hF : Kd.F kU7 w N A r.f2.length r.f2) : Lead N w [rw3 r.f0 r.f1 (.slice A r.f2.length c)] [r] := by
 refine ⟨rfl, fun j x c' hx hc => ?_⟩
 cases j with
 | zero => simp only [List.getElem?_cons_zero, Option.some.injEq] at hx hc; subst hx hc; exact fk_of hl hF
 | succ j => simp at hx
def updE (U : List Upd7) (key : ByteArray) (c n : Int) (s : ByteArray) (mtu : Int) : Int := if may key c n s ≠ 0 then may key c n s else if fitsB [(⟨key, c, n, s⟩ : Upd7)] mtu = false then 3 else if fitsB (U ++ [(⟨key, c, n, s⟩ : Upd7)]) mtu = false then 7 else 0
def updU (U : List Upd7) (key : ByteArray) (c n : Int) (s : ByteArray) (mtu : Int) : List Upd7 := if updE U key c n s mtu = 0 then U ++ [(⟨key, c, n, s⟩ : Upd7)] else U
theorem updU_no {U : List Upd7} {key : ByteArray} {c n : Int} {s : ByteArray} {mtu : Int} (h : updE U key c n s mtu ≠ 0) : updU U key c n s mtu = U := if_neg h
theorem upd_len (U : List Upd7) (key : ByteArray) (c n : Int) (s : ByteArray) (mtu : Int) : (updU U key c n s mtu).length ≤ U.length + 1 := by unfold updU; split <;> simp
theorem upd_cases (U : List Upd7) (key : ByteArray) (c n : Int) (s : ByteArray) (mtu : Int) :
  (may key c n s ≠ 0 ∧ updE U key c n s mtu = may key c n s ∧ updU U key c n s mtu = U) ∨ (may key c n s = 0 ∧ fitsB [(⟨key, c, n, s⟩ : Upd7)] mtu = false ∧ updE U key c n s mtu = 3 ∧ updU U key c n s mtu = U) ∨
  (may key c n s = 0 ∧ fitsB [(⟨key, c, n, s⟩ : Upd7)] mtu = true ∧ fitsB (U ++ [(⟨key, c, n, s⟩ : Upd7)]) mtu = false ∧ updE U key c n s mtu = 7 ∧ updU U key c n s mtu = U) ∨
  (may key c n s = 0 ∧ fitsB [(⟨key, c, n, s⟩ : Upd7)] mtu = true ∧ fitsB (U ++ [(⟨key, c, n, s⟩ : Upd7)]) mtu = true ∧ updE U key c n s mtu = 0 ∧ updU U key c n s mtu = U ++ [(⟨key, c, n, s⟩ : Upd7)]) := by
 by_cases h1 : may key c n s = 0
 ·by_cases h2 : fitsB [(⟨key, c, n, s⟩ : Upd7)] mtu = false
  ·have e : updE U key c n s mtu = 3 := by unfold updE; rw [if_neg (fun h => h h1), if_pos h2]
   exact .inr (.inl ⟨h1, h2, e, updU_no (by rw [e]; decide)⟩)
  ·by_cases h3 : fitsB (U ++ [(⟨key, c, n, s⟩ : Upd7)]) mtu = false
   ·have e : updE U key c n s mtu = 7 := by unfold updE; rw [if_neg (fun h => h h1), if_neg h2, if_pos h3]
    exact .inr (.inr (.inl ⟨h1, by simpa using h2, h3, e, updU_no (by rw [e]; decide)⟩))
   ·have e : updE U key c n s mtu = 0 := by unfold updE; rw [if_neg (fun h => h h1), if_neg h2, if_neg h3]
    exact .inr (.inr (.inr ⟨h1, by simpa using h2, by simpa using h3, e, if_pos e⟩))
 ·have e : updE U key c n s mtu = may key c n s := by unfold updE; rw [if_pos h1]
  exact .inl ⟨h1, e, updU_no (by rw [e]; exact h1)⟩
def pushE (jo jm push : Int) (L P : List Rnd7) (U : List Upd7) : Int := if U.length = 0 then 11 else if (P.length : Int) ≥ push then 7 else addE jo jm L U
def pushR (jo jm push : Int) (L P : List Rnd7) (U : List Upd7) : Rnd7 := if pushE jo jm push L P U = 0 then ⟨jo, L.length + 1, U⟩ else z35
section
variable {N : Nat → Prop} {w : World} {g gj gd gp : Nat} {jp : Value} {jo jm o mtu push : Int} {rJ rK rP : List (List Value)} {L K P : List Rnd7} {U : List Upd7}
end
end Go.Proofs.YtjdenpmaianmfaaDoor.J
