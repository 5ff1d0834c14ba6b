/- Layer 1: what Put, Get, Zig, Zag of the reference come to. -/
import Derived.Test.YtjmoncfgoaaekaaDoorYFeedOrderPre0
import Derived.Test.YtjmoncfgoaaekaaDoorYFeedOrderQ9
import Derived.Test.YtjmoncfgoaaekaaDoorYFeedOrderQ10
namespace Go.Proofs.YtjmoncfgoaaekaaDoor.Pure
set_option linter.unusedSimpArgs false
open Go Go.RowKit Go.Proofs.YtjmoncfgoaaekaaDoorW.PrintWords Go.Proofs.YtjmoncfgoaaekaaDoorW.PrintLast Go.Proofs.YtjmoncfgoaaekaaDoorW.PrintMore Go.Proofs.YtjmoncfgoaaekaaDoor.Q
theorem rzig_ok (k : Nat) (n : Int) (h0 : -2305843009213693952 ≤ n) (h1 : n < 2305843009213693952) : chapbookref01_Zig.f (k + 1) n = some (if n < 0 then -2 * n - 1 else 2 * n, true) := by
 unfold chapbookref01_Zig.f
 rw [if_neg (by omega), decide_eq_false (by omega)]
 simp only [chapbookref01_Zig.j0]
 rw [if_neg (by decide)]
 by_cases hn : n < 0
 ·rw [if_pos hn, if_pos hn]
  have e1 : wrap64 (-(wrap64 (n + 1))) = -(n + 1) := by rw [w64 (n := n + 1) (by omega) (by omega), w64 (n := -(n + 1)) (by omega) (by omega)]
  rw [e1]
  have e2 : IntKind.u64.wrap (-(n + 1)) = -(n + 1) := u64in _ (by omega) (by omega)
  rw [e2, u64in (2 * -(n + 1)) (by omega) (by omega), u64in _ (by omega) (by omega)]
  congr 2; omega
 ·rw [if_neg hn, if_neg hn, u64in n (by omega) (by omega), u64in _ (by omega) (by omega)]
theorem rsize_ok (n : Int) (h1 : n < 4611686018427387904) : chapbookref01_Size.f n = some (szL n) := by
 unfold chapbookref01_Size.f szL; repeat' split
 all_goals first | rfl | omega
theorem rput_step (k : Nat) (x t i : Int) (l : List Int) (h0 : 0 ≤ x) (h1 : x < 2 ^ 64) (h2 : i < t) (h3 : 0 ≤ i) (h4 : t ≤ 8) (h5 : l.length ≤ 8) :
  chapbookref01_Put.l0 (k + 1) x t l i = chapbookref01_Put.l0 k (x / 256) t ([x % 256] ++ l) (i + 1) := by
 have t1 : Int.tmod x 256 % 256 = x % 256 := by rw [Int.tmod_eq_emod_of_nonneg h0]; omega
 have t2 : Int.tdiv x 256 = x / 256 := Int.tdiv_eq_ediv_of_nonneg h0
 simp only [chapbookref01_Put.l0, Option.bind_some]
 rw [if_pos h2, t1, t2, u64in _ (by omega) (by omega), w64 (n := i + 1) (by omega) (by omega), if_pos (by simp; omega)]
theorem rput_end (k : Nat) (x t : Int) (l : List Int) : chapbookref01_Put.l0 (k + 1) x t l t = if t = 2 then chapbookref01_Put.j1 k t l 64 else chapbookref01_Put.j1 k t l 0 := by
 simp only [chapbookref01_Put.l0]; rw [if_neg (by omega)]
theorem rput_fin (k : Nat) (t d m : Int) (l : List Int) (mark : Int) (hl : l.length ≤ 8) (hd : 0 ≤ d) (hd1 : d < 256) (hm : (t = 8 ∧ m = 192) ∨ (t = 4 ∧ m = 128) ∨ (t ≠ 4 ∧ t ≠ 8 ∧ m = mark)) (hm0 : 0 ≤ m) (hm1 : m < 256) :
  chapbookref01_Put.j1 (k + 1) t (d :: l) mark = some (strOfNums (((d + m) % 256) :: l), 0) := by
 have sz : ∀ a : Int, (strOfNums [a]).size + (strOfNums l).size ≤ 9223372036854775807 := fun a => by rw [strOfNums_size, strOfNums_size]; simp; omega
 have e1 : rd (d :: l) 0 = d := rfl
 have e2 : (d :: l).drop 1 = l := rfl
 have p1 : 0 < (((d :: l).length : Nat) : Int) := by rw [List.length_cons]; omega
 have p2 : 1 ≤ (((d :: l).length : Nat) : Int) := by rw [List.length_cons]; omega
 have w : ∀ q : Int, 0 ≤ q → q < 256 → wrap64 (wrap64 d + q) = d + q := fun q h0 h1 => by rw [w64 (n := d) (by omega) (by omega), w64 (by omega) (by omega)]
 have fin : ∀ q : Int, strOfNums [q] ++ strOfNums l = strOfNums (q :: l) := fun q => str_app [q] l
 simp only [chapbookref01_Put.j1, Option.bind_some, e1, e2]
 rcases hm with ⟨rfl, rfl⟩ | ⟨rfl, rfl⟩ | ⟨h4, h8, rfl⟩
 ·rw [if_neg (by decide), if_pos rfl, if_pos p1, if_pos p2, w 192 (by decide) (by decide), if_pos (sz _), fin]
 ·rw [if_pos rfl, if_neg (by decide), if_pos p1, if_pos p2, w 128 (by decide) (by decide), if_pos (sz _), fin]
 ·rw [if_neg h4, if_neg h8, if_pos p1, if_pos p2, w m hm0 hm1, if_pos (sz _), fin]
theorem rput_fill (t : Int) (ht : t ≤ 8) : ∀ (n k : Nat) (x : Int) (l : List Int) (i : Int), 0 ≤ x → x < 2 ^ 64 → 0 ≤ i → i + n = t → (l.length : Int) = i → ∃ x', chapbookref01_Put.l0 (k + n) x t l i = chapbookref01_Put.l0 k x' t (fillR n x l) t
 | 0, k, x, l, i, _, _, _, h1, _ => by
  have : i = t := by omega
  subst this
  exact ⟨x, rfl⟩
 | n + 1, k, x, l, i, g0, g1, h0, h1, h2 => by
  obtain ⟨x', hx⟩ := rput_fill t ht n k (x / 256) ([x % 256] ++ l) (i + 1) (by omega) (by omega) (by omega) (by omega) (by simp; omega)
  refine ⟨x', ?_⟩
  rw [show fillR (n + 1) x l = fillR n (x / 256) ([x % 256] ++ l) from rfl, ← hx]
  exact rput_step (k + n) x t i l g0 g1 (by omega) h0 ht (by omega)
theorem rput_ok (k : Nat) (n : Int) (h0 : 0 ≤ n) (h1 : n < 4611686018427387904) : chapbookref01_Put.f (k + 12) n = some (strOfNums (encL n), 0) := by
 unfold chapbookref01_Put.f
 rw [rsize_ok n h1]
 simp only [Option.bind_some]
 unfold szL encL
 by_cases a1 : n < 64
 ·simp only [if_pos a1]
  rw [if_neg (by decide)]
  obtain ⟨x', hx⟩ := rput_fill 1 (by decide) 1 (k + 11) n [] 0 h0 (by omega) (by decide) (by decide) rfl
  refine hx.trans ?_
  rw [rput_end, if_neg (by decide)]
  refine (rput_fin (k + 9) 1 (n % 256) 0 [] 0 (by decide) (by omega) (by omega) (by omega) (by decide) (by decide)).trans ?_
  rw [show (n % 256 + 0) % 256 = n from by omega]
 simp only [if_neg a1]
 by_cases a2 : n < 16384
 ·simp only [if_pos a2]
  rw [if_neg (by decide)]
  obtain ⟨x', hx⟩ := rput_fill 2 (by decide) 2 (k + 10) n [] 0 h0 (by omega) (by decide) (by decide) rfl
  refine hx.trans ?_
  rw [rput_end, if_pos rfl]
  refine (rput_fin (k + 8) 2 (n / 256 % 256) 64 [n % 256] 64 (by simp) (by omega) (by omega) (by omega) (by decide) (by decide)).trans ?_
  rw [show (n / 256 % 256 + 64) % 256 = n / 256 + 64 from by omega]
 simp only [if_neg a2]
 by_cases a3 : n < 1073741824
 ·simp only [if_pos a3]
  rw [if_neg (by decide)]
  obtain ⟨x', hx⟩ := rput_fill 4 (by decide) 4 (k + 8) n [] 0 h0 (by omega) (by decide) (by decide) rfl
  refine hx.trans ?_
  rw [rput_end, if_neg (by decide)]
  refine (rput_fin (k + 6) 4 (n / 256 / 256 / 256 % 256) 128 [n / 256 / 256 % 256, n / 256 % 256, n % 256] 0 (by simp) (by omega) (by omega) (by omega) (by decide) (by decide)).trans ?_
  rw [show (n / 256 / 256 / 256 % 256 + 128) % 256 = n / 16777216 + 128 from by omega, show n / 256 / 256 % 256 = n / 65536 % 256 from by omega]
 ·simp only [if_neg a3]
  rw [if_neg (by decide)]
  obtain ⟨x', hx⟩ := rput_fill 8 (by decide) 8 (k + 4) n [] 0 h0 (by omega) (by decide) (by decide) rfl
  refine hx.trans ?_
  rw [rput_end, if_neg (by decide)]
  refine (rput_fin (k + 2) 8 (n / 256 / 256 / 256 / 256 / 256 / 256 / 256 % 256) 192 [n / 256 / 256 / 256 / 256 / 256 / 256 % 256, n / 256 / 256 / 256 / 256 / 256 % 256, n / 256 / 256 / 256 / 256 % 256, n / 256 / 256 / 256 % 256, n / 256 / 256 % 256, n / 256 % 256, n % 256] 0 (by simp) (by omega) (by omega) (by omega) (by decide) (by decide)).trans ?_
  rw [show (n / 256 / 256 / 256 / 256 / 256 / 256 / 256 % 256 + 192) % 256 = n / 72057594037927936 + 192 from by omega, show n / 256 / 256 / 256 / 256 / 256 / 256 % 256 = n / 281474976710656 % 256 from by omega,
   show n / 256 / 256 / 256 / 256 / 256 % 256 = n / 1099511627776 % 256 from by omega, show n / 256 / 256 / 256 / 256 % 256 = n / 4294967296 % 256 from by omega,
   show n / 256 / 256 / 256 % 256 = n / 16777216 % 256 from by omega, show n / 256 / 256 % 256 = n / 65536 % 256 from by omega]
end Go.Proofs.YtjmoncfgoaaekaaDoor.Pure
