/- What Put and Bytes of rounds come to, for the program and for the document: plainly. -/
import Derived.Test.YtjmoncfgoaaekaaDoorYFeedAgainPre0
import Derived.Test.YtjmoncfgoaaekaaDoorYFeedAgainQ9
import Derived.Test.YtjmoncfgoaaekaaDoorYFeedAgainQ10
import Derived.Test.YtjmoncfgoaaekaaDoorYFeedAgainSpell
import Derived.Test.YtjmoncfgoaaekaaDoorYFeedAgainQ11
import Derived.Test.YtjmoncfgoaaekaaDoorYFeedAgainUA
import Derived.Test.YtjmoncfgoaaekaaDoorYFeedAgainPre1
import Derived.Test.YtjmoncfgoaaekaaDoorYFeedAgainRPut
namespace Go.Proofs.YtjmoncfgoaaekaaDoor.Pure
set_option linter.unusedSimpArgs false
open Go Go.RowKit Go.Proofs.YtjmoncfgoaaekaaDoorW.PrintWords Go.Proofs.YtjmoncfgoaaekaaDoorW.PrintLast Go.Proofs.YtjmoncfgoaaekaaDoorW.PrintMore Go.Proofs.YtjmoncfgoaaekaaDoor.Q
theorem rzig_ok (k : Nat) (n : Int) (h0 : -2305843009213693952 ≤ n) (h1 : n < 2305843009213693952) : chapbookref01_Zig.f (k + 1) n = some (if n < 0 then -2 * n - 1 else 2 * n, true) := by
 unfold chapbookref01_Zig.f
 rw [if_neg (by omega), decide_eq_false (by omega)]
 simp only [chapbookref01_Zig.j0]
 rw [if_neg (by decide)]
 by_cases hn : n < 0
 ·rw [if_pos hn, if_pos hn]
  have e1 : wrap64 (-(wrap64 (n + 1))) = -(n + 1) := by rw [w64 (n := n + 1) (by omega) (by omega), w64 (n := -(n + 1)) (by omega) (by omega)]
  rw [e1]
  have e2 : IntKind.u64.wrap (-(n + 1)) = -(n + 1) := u64in _ (by omega) (by omega)
  rw [e2, u64in (2 * -(n + 1)) (by omega) (by omega), u64in _ (by omega) (by omega)]
  congr 2; omega
 ·rw [if_neg hn, if_neg hn, u64in n (by omega) (by omega), u64in _ (by omega) (by omega)]
theorem rsize_ok (n : Int) (h1 : n < 4611686018427387904) : chapbookref01_Size.f n = some (szL n) := by
 unfold chapbookref01_Size.f szL; repeat' split
 all_goals first | rfl | omega
theorem rput_step (k : Nat) (x t i : Int) (l : List Int) (h0 : 0 ≤ x) (h1 : x < 2 ^ 64) (h2 : i < t) (h3 : 0 ≤ i) (h4 : t ≤ 8) (h5 : l.length ≤ 8) :
  chapbookref01_Put.l0 (k + 1) x t l i = chapbookref01_Put.l0 k (x / 256) t ([x % 256] ++ l) (i + 1) := by
 have t1 : Int.tmod x 256 % 256 = x % 256 := by rw [Int.tmod_eq_emod_of_nonneg h0]; omega
 have t2 : Int.tdiv x 256 = x / 256 := Int.tdiv_eq_ediv_of_nonneg h0
 simp only [chapbookref01_Put.l0, Option.bind_some]
 rw [if_pos h2, t1, t2, u64in _ (by omega) (by omega), w64 (n := i + 1) (by omega) (by omega), if_pos (by simp; omega)]
theorem rput_end (k : Nat) (x t : Int) (l : List Int) : chapbookref01_Put.l0 (k + 1) x t l t = if t = 2 then chapbookref01_Put.j1 k t l 64 else chapbookref01_Put.j1 k t l 0 := by
 simp only [chapbookref01_Put.l0]; rw [if_neg (by omega)]
theorem rput_fin (k : Nat) (t d m : Int) (l : List Int) (mark : Int) (hl : l.length ≤ 8) (hd : 0 ≤ d) (hd1 : d < 256) (hm : (t = 8 ∧ m = 192) ∨ (t = 4 ∧ m = 128) ∨ (t ≠ 4 ∧ t ≠ 8 ∧ m = mark)) (hm0 : 0 ≤ m) (hm1 : m < 256) :
  chapbookref01_Put.j1 (k + 1) t (d :: l) mark = some (strOfNums (((d + m) % 256) :: l), 0) := by
 have sz : ∀ a : Int, (strOfNums [a]).size + (strOfNums l).size ≤ 9223372036854775807 := fun a => by rw [strOfNums_size, strOfNums_size]; simp; omega
 have e1 : rd (d :: l) 0 = d := rfl
 have e2 : (d :: l).drop 1 = l := rfl
 have p1 : 0 < (((d :: l).length : Nat) : Int) := by rw [List.length_cons]; omega
 have p2 : 1 ≤ (((d :: l).length : Nat) : Int) := by rw [List.length_cons]; omega
 have w : ∀ q : Int, 0 ≤ q → q < 256 → wrap64 (wrap64 d + q) = d + q := fun q h0 h1 => by rw [w64 (n := d) (by omega) (by omega), w64 (by omega) (by omega)]
 have fin : ∀ q : Int, strOfNums [q] ++ strOfNums l = strOfNums (q :: l) := fun q => str_app [q] l
 simp only [chapbookref01_Put.j1, Option.bind_some, e1, e2]
 rcases hm with ⟨rfl, rfl⟩ | ⟨rfl, rfl⟩ | ⟨h4, h8, rfl⟩
 ·rw [if_neg (by decide), if_pos rfl, if_pos p1, if_pos p2, w 192 (by decide) (by decide), if_pos (sz _), fin]
 ·rw [if_pos rfl, if_neg (by decide), if_pos p1, if_pos p2, w 128 (by decide) (by decide), if_pos (sz _), fin]
 ·rw [if_neg h4, if_neg h8, if_pos p1, if_pos p2, w m hm0 hm1, if_pos (sz _), fin]
theorem rput_fill (t : Int) (ht : t ≤ 8) : ∀ (n k : Nat) (x : Int) (l : List Int) (i : Int), 0 ≤ x → x < 2 ^ 64 → 0 ≤ i → i + n = t → (l.length : Int) = i → ∃ x', chapbookref01_Put.l0 (k + n) x t l i = chapbookref01_Put.l0 k x' t (fillR n x l) t
 | 0, k, x, l, i, _, _, _, h1, _ => by
  have : i = t := by omega
  subst this
  exact ⟨x, rfl⟩
 | n + 1, k, x, l, i, g0, g1, h0, h1, h2 => by
  obtain ⟨x', hx⟩ := rput_fill t ht n k (x / 256) ([x % 256] ++ l) (i + 1) (by omega) (by omega) (by omega) (by omega) (by simp; omega)
  refine ⟨x', ?_⟩
  rw [show fillR (n + 1) x l = fillR n (x / 256) ([x % 256] ++ l) from rfl, ← hx]
  exact rput_step (k + n) x t i l g0 g1 (by omega) h0 ht (by omega)
theorem rput_ok (k : Nat) (n : Int) (h0 : 0 ≤ n) (h1 : n < 4611686018427387904) : chapbookref01_Put.f (k + 12) n = some (strOfNums (encL n), 0) := by
 unfold chapbookref01_Put.f
 rw [rsize_ok n h1]
 simp only [Option.bind_some]
 unfold szL encL
 by_cases a1 : n < 64
 ·simp only [if_pos a1]
  rw [if_neg (by decide)]
  obtain ⟨x', hx⟩ := rput_fill 1 (by decide) 1 (k + 11) n [] 0 h0 (by omega) (by decide) (by decide) rfl
  refine hx.trans ?_
  rw [rput_end, if_neg (by decide)]
  refine (rput_fin (k + 9) 1 (n % 256) 0 [] 0 (by decide) (by omega) (by omega) (by omega) (by decide) (by decide)).trans ?_
  rw [show (n % 256 + 0) % 256 = n from by omega]
 simp only [if_neg a1]
 by_cases a2 : n < 16384
 ·simp only [if_pos a2]
  rw [if_neg (by decide)]
  obtain ⟨x', hx⟩ := rput_fill 2 (by decide) 2 (k + 10) n [] 0 h0 (by omega) (by decide) (by decide) rfl
  refine hx.trans ?_
  rw [rput_end, if_pos rfl]
  refine (rput_fin (k + 8) 2 (n / 256 % 256) 64 [n % 256] 64 (by simp) (by omega) (by omega) (by omega) (by decide) (by decide)).trans ?_
  rw [show (n / 256 % 256 + 64) % 256 = n / 256 + 64 from by omega]
 simp only [if_neg a2]
 by_cases a3 : n < 1073741824
 ·simp only [if_pos a3]
  rw [if_neg (by decide)]
  obtain ⟨x', hx⟩ := rput_fill 4 (by decide) 4 (k + 8) n [] 0 h0 (by omega) (by decide) (by decide) rfl
  refine hx.trans ?_
  rw [rput_end, if_neg (by decide)]
  refine (rput_fin (k + 6) 4 (n / 256 / 256 / 256 % 256) 128 [n / 256 / 256 % 256, n / 256 % 256, n % 256] 0 (by simp) (by omega) (by omega) (by omega) (by decide) (by decide)).trans ?_
  rw [show (n / 256 / 256 / 256 % 256 + 128) % 256 = n / 16777216 + 128 from by omega, show n / 256 / 256 % 256 = n / 65536 % 256 from by omega]
 ·simp only [if_neg a3]
  rw [if_neg (by decide)]
  obtain ⟨x', hx⟩ := rput_fill 8 (by decide) 8 (k + 4) n [] 0 h0 (by omega) (by decide) (by decide) rfl
  refine hx.trans ?_
  rw [rput_end, if_neg (by decide)]
  refine (rput_fin (k + 2) 8 (n / 256 / 256 / 256 / 256 / 256 / 256 / 256 % 256) 192 [n / 256 / 256 / 256 / 256 / 256 / 256 % 256, n / 256 / 256 / 256 / 256 / 256 % 256, n / 256 / 256 / 256 / 256 % 256, n / 256 / 256 / 256 % 256, n / 256 / 256 % 256, n / 256 % 256, n % 256] 0 (by simp) (by omega) (by omega) (by omega) (by decide) (by decide)).trans ?_
  rw [show (n / 256 / 256 / 256 / 256 / 256 / 256 / 256 % 256 + 192) % 256 = n / 72057594037927936 + 192 from by omega, show n / 256 / 256 / 256 / 256 / 256 / 256 % 256 = n / 281474976710656 % 256 from by omega,
   show n / 256 / 256 / 256 / 256 / 256 % 256 = n / 1099511627776 % 256 from by omega, show n / 256 / 256 / 256 / 256 % 256 = n / 4294967296 % 256 from by omega,
   show n / 256 / 256 / 256 % 256 = n / 16777216 % 256 from by omega, show n / 256 / 256 % 256 = n / 65536 % 256 from by omega]
end Go.Proofs.YtjmoncfgoaaekaaDoor.Pure
namespace Go.Proofs.YtjmoncfgoaaekaaDoor.Q
open Go.RowKit Go.Proofs.YtjmoncfgoaaekaaDoorW.PrintWords Go.Proofs.YtjmoncfgoaaekaaDoorW.PrintLast Go.Proofs.YtjmoncfgoaaekaaDoorW.PrintMore
attribute [local go_sem] max2_int min2_int max_two min_two max_three min_three max_four min_four   -- for this text's walks alone
set_option linter.unusedVariables false
set_option linter.unusedSimpArgs false
end Go.Proofs.YtjmoncfgoaaekaaDoor.Q
namespace Go.Proofs.YtjmoncfgoaaekaaDoor.Pure
set_option linter.unusedSimpArgs false
open Go Go.RowKit Go.Proofs.YtjmoncfgoaaekaaDoorW.PrintWords Go.Proofs.YtjmoncfgoaaekaaDoorW.PrintLast Go.Proofs.YtjmoncfgoaaekaaDoorW.PrintMore Go.Proofs.YtjmoncfgoaaekaaDoor.Q
theorem rnumber (k : Nat) (n : Int) (h0 : 0 ≤ n) (h1 : n < 4611686018427387904) : chapbookref03_Number.f (k + 12) n = some (strOfNums (encL n), true) := by
 unfold chapbookref03_Number.f
 rw [if_neg (by omega), u64in n h0 (by omega), rput_ok k n h0 h1]
 rfl
theorem rtext (k : Nat) (s : ByteArray) (h : s.size ≤ 140737488354900) : chapbookref03_Text.f (k + 12) s = some (Wr.txtP s) := by
 unfold chapbookref03_Text.f
 have := Wr.enc_size s.size
 rw [rnumber k s.size (by omega) (by omega), Option.bind_some]
 simp only
 rw [if_pos (by omega)]
 rfl
theorem rsigned (k : Nat) (n : Int) (h0 : -2305843009213693952 ≤ n) (h1 : n < 2305843009213693952) : chapbookref03_Signed.f (k + 12) n = some (strOfNums (encL (zz n)), true) := by
 unfold chapbookref03_Signed.f
 have e : zz n = if n < 0 then -2 * n - 1 else 2 * n := rfl
 rw [rzig_ok (k + 11) n h0 h1, Option.bind_some]
 simp only [if_true]
 rw [← e, rput_ok k (zz n) (by unfold zz; split <;> omega) (by unfold zz; split <;> omega)]
 rfl
theorem rbytes (j : Nat) {k : ByteArray} {c n : Int} {s : ByteArray} (h : may k c n s = 0) : chapbookref06_Bytes.f (j + 13) k c n s = some (bytesU k c n s) := by
 obtain ⟨h1, h2, h3, h4, h5, h6, h7⟩ := may_zero h
 have e1 := Wr.enc_size c
 have e2 := txtP_size k
 have e3 := txtP_size s
 have e4 := Wr.enc_size (zz n)
 have e5 : (strOfNums (encL c) ++ Wr.txtP k).size = (strOfNums (encL c)).size + (Wr.txtP k).size := ByteArray.size_append
 unfold chapbookref06_Bytes.f bytesU
 rw [rnumber (j + 1) c (by omega) (by omega), Option.bind_some, rtext (j + 1) k (by omega), Option.bind_some]
 simp only
 rw [if_pos (by omega)]
 by_cases c1 : c = 1
 ·obtain ⟨a, b, d⟩ := h5 (Or.inl c1)
  rw [if_pos c1, if_pos (Or.inl c1)]
  simp only [chapbookref06_Bytes.j0]
  rw [if_pos trivial, rsigned j n b d, Option.bind_some]
  simp only
  rw [if_pos (by omega), if_neg (by omega), if_neg (by omega)]
 rw [if_neg c1]
 by_cases c3 : c = 3
 ·obtain ⟨a, b, d⟩ := h5 (Or.inr c3)
  rw [if_pos (Or.inr c3)]
  simp only [chapbookref06_Bytes.j0]
  rw [if_pos (show (c == 3) = true by simp [c3]), rsigned j n b d, Option.bind_some]
  simp only
  rw [if_pos (by omega), if_neg (by omega), if_neg (by omega)]
 rw [if_neg (show ¬ (c = 1 ∨ c = 3) by omega)]
 simp only [chapbookref06_Bytes.j0]
 rw [if_neg (show ¬ ((c == 3) = true) by simp [c3])]
 by_cases c2 : c = 2
 ·have := h6 (Or.inl c2)
  rw [if_pos c2, if_pos (Or.inl c2), rtext j s (by omega), Option.bind_some, if_pos (by omega)]
 rw [if_neg c2]
 by_cases c4 : c = 4
 ·have := h6 (Or.inr c4)
  rw [if_pos c4, if_pos (Or.inr c4), rtext j s (by omega), Option.bind_some, if_pos (by omega)]
 ·rw [if_neg c4, if_neg (show ¬ (c = 2 ∨ c = 4) by omega), app_nil]
end Go.Proofs.YtjmoncfgoaaekaaDoor.Pure
namespace Go.Proofs.YtjmoncfgoaaekaaDoor.Pure
set_option linter.unusedSimpArgs false
set_option linter.unusedVariables false
open Go Go.RowKit Go.Proofs.YtjmoncfgoaaekaaDoorW.PrintWords Go.Proofs.YtjmoncfgoaaekaaDoorW.PrintLast Go.Proofs.YtjmoncfgoaaekaaDoorW.PrintMore Go.Proofs.YtjmoncfgoaaekaaDoor.Q
def bytesR (o n : Int) (l : List Upd) : ByteArray := headB o n l.length ++ catB l
def putR (o n : Int) (l : List Upd) : ByteArray × Int := if mayR o n l = 0 then (bytesR o n l, 0) else (nil', mayR o n l)
theorem pputR (o n : Int) (l : List Upd) : round_Put.f o n l = some (putR o n l) := by
 unfold round_Put.f putR
 rw [pmay 0, Option.bind_some]
 by_cases h : mayR o n l = 0
 ·obtain ⟨h1, h2, h3, h4, h5, h6, h7⟩ := mayR_zero h
  rw [if_pos h, if_pos h, headW_ok (by omega) (by omega) (by omega) (by omega) (by omega) (by omega), addsW_ok _ _ h7]
  rfl
 ·rw [if_neg h, if_neg h]
theorem rbytes_loop (o n : Int) (l : List Upd) (hl : l.length ≤ 20) (hm : ∀ z ∈ l, mayU z = 0) : ∀ (d k : Nat) (x : Int) (acc : ByteArray), 0 ≤ x → x ≤ l.length → (l.length : Int) - x = d → d + 15 ≤ k → acc.size + 80 * d ≤ 1000000 → chapbookref07_Bytes.l0 k acc x o n l = some (acc ++ catB (l.drop x.toNat)) := by
 intro d
 induction d with
 | zero =>
  intro k x acc h0 h1 hd hk ha
  obtain ⟨k, rfl⟩ : ∃ m, k = m + 1 := ⟨k - 1, by omega⟩
  simp only [chapbookref07_Bytes.l0]
  rw [if_neg (by omega), List.drop_of_length_le (by omega)]
  show _ = some (acc ++ nil')
  rw [app_nil]
 | succ d ih =>
  intro k x acc h0 h1 hd hk ha
  obtain ⟨k, rfl⟩ : ∃ m, k = m + 1 := ⟨k - 1, by omega⟩
  simp only [chapbookref07_Bytes.l0]
  obtain ⟨k, rfl⟩ : ∃ m, k = m + 13 := ⟨k - 13, by omega⟩
  have hx := hm _ (rd_memP x h0 (by omega))
  have hz := bytesU_max hx
  rw [if_pos (by omega), if_pos h0, rbytes k hx, Option.bind_some, if_pos (by omega), w64s (n := l.length) h0 (by omega) (by omega), ih (k + 13) (x + 1) _ (by omega) (by omega) (by omega) (by omega) (by rw [ByteArray.size_append]; omega), rdU l x h0 (by omega)]
  show some (_ ++ _ ++ _) = some (_ ++ (_ ++ _))
  rw [ByteArray.append_assoc]
theorem rbytesR (k : Nat) {o n : Int} {l : List Upd} (h : mayR o n l = 0) : chapbookref07_Bytes.f (k + 40) o n l = some (bytesR o n l) := by
 obtain ⟨h1, h2, h3, h4, h5, h6, h7⟩ := mayR_zero h
 unfold chapbookref07_Bytes.f
 have e1 := Wr.enc_size o
 have e2 := Wr.enc_size n
 have e3 := Wr.enc_size (l.length : Int)
 rw [rnumber (k + 28) o (by omega) (by omega), Option.bind_some, rnumber (k + 28) n (by omega) (by omega), Option.bind_some, rnumber (k + 28) l.length (by omega) (by omega), Option.bind_some]
 simp only
 rw [if_pos (by omega), if_pos (by rw [ByteArray.size_append]; omega), rbytes_loop o n l (by omega) h7 l.length (k + 40) 0 _ (by omega) (by omega) (by omega) (by omega) (by rw [ByteArray.size_append, ByteArray.size_append]; omega)]
 rfl
end Go.Proofs.YtjmoncfgoaaekaaDoor.Pure
