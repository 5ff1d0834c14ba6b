/- Reading what a round's bytes are: whole, in the other direction, cut off, and with more behind. -/
import Derived.Test.YtfpegjdplggkpaaDoorYRoundOneStr2
import Derived.Test.YtfpegjdplggkpaaDoorYRoundOneUA
import Derived.Test.YtfpegjdplggkpaaDoorYRoundOneRU
import Derived.Test.YtfpegjdplggkpaaDoorYRoundOneR7A
namespace Go.Proofs.YtfpegjdplggkpaaDoor.Pure
set_option linter.unusedSimpArgs false
set_option linter.unusedVariables false
open Go Go.RowKit Go.Proofs.YtfpegjdplggkpaaDoorW.PrintWords Go.Proofs.YtfpegjdplggkpaaDoorW.PrintLast Go.Proofs.YtfpegjdplggkpaaDoorW.PrintMore Go.Proofs.YtfpegjdplggkpaaDoor.Q
theorem cap5 : capR 5 = 5 := by decide
theorem cap16 : capR 16 = 16 := by decide
theorem cap32 : capR 32 = 32 := by decide
def restU (c n : Int) (s : ByteArray) : ByteArray := if c = 1 ∨ c = 3 then enc (zz n) else if c = 2 ∨ c = 4 then Wr.txtP s else nil'
theorem bytesU_eq (k : ByteArray) (c n : Int) (s : ByteArray) : bytesU k c n s = (enc c ++ Wr.txtP k) ++ restU c n s := rfl
theorem readU_inv {b : ByteArray} {p : Int} (h0 : 0 ≤ p) (h1 : p ≤ b.size) (h : (readU b p 0).2.2.2.2.2 = 0) :
    may (readU b p 0).1 (readU b p 0).2.1 (readU b p 0).2.2.1 (readU b p 0).2.2.2.1 = 0 ∧ Str b p (bytesU (readU b p 0).1 (readU b p 0).2.1 (readU b p 0).2.2.1 (readU b p 0).2.2.2.1) ∧
      (readU b p 0).2.2.2.2.1 = p + (bytesU (readU b p 0).1 (readU b p 0).2.1 (readU b p 0).2.2.1 (readU b p 0).2.2.2.1).size := by
  have hp := numR_place b p 0 5 h0 h1
  unfold readU at h ⊢
  by_cases hn : (numR b p 0 5).2.2 = 0
  case neg => rw [if_neg hn] at h; exact absurd h hn
  rw [if_pos hn] at h ⊢
  obtain ⟨i1, i2, i3, i4⟩ := numR_inv hn
  rw [cap5] at i4
  by_cases hz : (numR b p 0 5).1 = 0
  · rw [if_pos hz] at h; simp [noU] at h
  rw [if_neg hz] at h ⊢
  generalize numR b p 0 5 = a at *
  obtain ⟨c, q, e⟩ := a
  simp only at *
  have hq := txtR_place b q 0 16 hp.1 hp.2.1
  unfold keyU at h ⊢
  by_cases ht : (txtR b q 0 16).2.2 = 0
  case neg => rw [if_neg ht] at h; exact absurd h ht
  rw [if_pos ht] at h ⊢
  obtain ⟨j1, j2, j3⟩ := txtR_inv hp.1 hp.2.1 ht
  rw [cap16] at j3
  by_cases hl : (txtR b q 0 16).1.toList = []
  · rw [if_pos hl] at h; simp [noU] at h
  rw [if_neg hl] at h ⊢
  generalize txtR b q 0 16 = t at *
  obtain ⟨k, r, e2⟩ := t
  simp only at *
  have hk1 : 1 ≤ k.size := by
    have := mt (nil_size k).2 hl
    omega
  subst i2
  have jn : Str b p (enc c ++ Wr.txtP k) := i1.join j1
  have jz : r = p + ((enc c ++ Wr.txtP k).size : Int) := by rw [ByteArray.size_append, j2]; omega
  have fin : ∀ (n : Int) (s : ByteArray) (z : Int), may k c n s = 0 → Str b r (restU c n s) → z = r + (restU c n s).size → may k c n s = 0 ∧ Str b p (bytesU k c n s) ∧ z = p + (bytesU k c n s).size := by
    intro n s z a1 a2 a3
    rw [bytesU_eq]
    refine ⟨a1, jn.join (by rw [← jz]; exact a2), ?_⟩
    rw [ByteArray.size_append, a3, jz]
    omega
  unfold tailU at h ⊢
  have kk : ¬ ((k.size : Int) < 1 ∨ (k.size : Int) > 16) := by omega
  by_cases c13 : c = 1 ∨ c = 3
  · rw [if_pos c13] at h ⊢
    by_cases hs : (sgnR b r 0).2.2 = 0
    case neg => rw [if_neg hs] at h; exact absurd h hs
    rw [if_pos hs]
    obtain ⟨s1, s2, s3, s4⟩ := sgnR_inv hs
    simp only
    refine fin _ _ _ ?_ ?_ ?_
    · unfold may
      rw [if_neg kk, if_pos c13, if_pos nil_list, if_neg (by omega)]
    · unfold restU; rw [if_pos c13]; exact s1
    · unfold restU; rw [if_pos c13]; exact s2
  rw [if_neg c13] at h ⊢
  by_cases c24 : c = 2 ∨ c = 4
  · rw [if_pos c24] at h ⊢
    by_cases hs : (txtR b r 0 32).2.2 = 0
    case neg => rw [if_neg hs] at h; exact absurd h hs
    rw [if_pos hs]
    obtain ⟨s1, s2, s3⟩ := txtR_inv hq.1 hq.2.1 hs
    rw [cap32] at s3
    simp only
    refine fin _ _ _ ?_ ?_ ?_
    · unfold may
      rw [if_neg kk, if_neg c13, if_pos c24, if_pos rfl, if_neg (by omega)]
    · unfold restU; rw [if_neg c13, if_pos c24]; exact s1
    · unfold restU; rw [if_neg c13, if_pos c24]; exact s2
  · rw [if_neg c24] at h ⊢
    rw [if_pos rfl]
    simp only
    refine fin _ _ _ ?_ ?_ ?_
    · unfold may
      rw [if_neg kk, if_neg c13, if_neg c24, if_pos (by omega), if_pos ⟨rfl, nil_list⟩]
    · unfold restU; rw [if_neg c13, if_neg c24]; exact Str.none hq.1 hq.2.1
    · unfold restU; rw [if_neg c13, if_neg c24]; show r = r + ((0 : Nat) : Int); omega
end Go.Proofs.YtfpegjdplggkpaaDoor.Pure
namespace Go.Proofs.YtfpegjdplggkpaaDoor.Pure
set_option linter.unusedSimpArgs false
set_option linter.unusedVariables false
open Go Go.RowKit Go.Proofs.YtfpegjdplggkpaaDoorW.PrintWords Go.Proofs.YtfpegjdplggkpaaDoorW.PrintLast Go.Proofs.YtfpegjdplggkpaaDoorW.PrintMore Go.Proofs.YtfpegjdplggkpaaDoor.Q
theorem cap64 : capR 64 = 64 := by decide
theorem cap40 : capR 1099511627776 = 1099511627776 := by decide
theorem headR_inv {b : ByteArray} {p l : Int} (h : (headR b p l).2.2 = 0) : Str b p (enc (headR b p l).1) ∧ (headR b p l).2.1 = p + (enc (headR b p l).1).size ∧ 1 ≤ (headR b p l).1 ∧ (headR b p l).1 ≤ capR l := by
  unfold headR at h ⊢
  simp only at h ⊢
  by_cases he : (numR b p 0 l).2.2 = 0
  · obtain ⟨i1, i2, i3, i4⟩ := numR_inv he
    rw [if_pos he] at h
    refine ⟨i1, i2, ?_, i4⟩
    by_cases hv : (numR b p 0 l).1 = 0
    · rw [if_pos hv] at h; exact absurd h (by decide)
    · omega
  · rw [if_neg he] at h
    exact absurd h he
theorem upsR_inv {b : ByteArray} : ∀ (n : Nat) (p : Int), 0 ≤ p → p ≤ b.size → (upsR b n p).2.2 = 0 → (∀ z ∈ (upsR b n p).1, mayU z = 0) ∧ (upsR b n p).1.length = n ∧ Str b p (catB (upsR b n p).1) ∧ (upsR b n p).2.1 = p + (catB (upsR b n p).1).size
  | 0, p, h0, h1, _ => ⟨(fun z hz => by cases hz), rfl, Str.none h0 h1, by show p = p + ((0 : Nat) : Int); omega⟩
  | n + 1, p, h0, h1, h => by
    have e : upsR b (n + 1) p = if (readU b p 0).2.2.2.2.2 = 0 then (updR b p :: (upsR b n (readU b p 0).2.2.2.2.1).1, (upsR b n (readU b p 0).2.2.2.2.1).2) else ([], (readU b p 0).2.2.2.2.1, (readU b p 0).2.2.2.2.2) := rfl
    rw [e] at h ⊢
    by_cases he : (readU b p 0).2.2.2.2.2 = 0
    · rw [if_pos he] at h ⊢
      obtain ⟨i1, i2, i3⟩ := readU_inv h0 h1 he
      have hp := readU_placeG b p 0 h0 h1
      obtain ⟨j1, j2, j3, j4⟩ := upsR_inv n _ hp.1 hp.2 h
      have ec : ∀ r, catB (updR b p :: r) = bytesU (readU b p 0).1 (readU b p 0).2.1 (readU b p 0).2.2.1 (readU b p 0).2.2.2.1 ++ catB r := fun _ => rfl
      refine ⟨fun z hz => ?_, by simp [j2], ?_, ?_⟩
      · rcases List.mem_cons.1 hz with rfl | hz
        · exact i1
        · exact j1 z hz
      · show Str b p (catB (updR b p :: _))
        rw [ec]
        exact i2.join (by rw [← i3]; exact j3)
      · show (upsR b n _).2.1 = p + ((catB (updR b p :: _)).size : Int)
        rw [ec, ByteArray.size_append, j4]
        omega
    · rw [if_neg he] at h
      exact absurd h he
theorem headB_eq (o n m : Int) : headB o n m = enc o ++ enc n ++ enc m := rfl
theorem firstErr_zero {l : List Upd} (h : ∀ z ∈ l, mayU z = 0) : firstErr l = 0 := by
  induction l with
  | nil => rfl
  | cons z r ih =>
    unfold firstErr
    rw [if_pos (h z (by simp))]
    exact ih (fun y hy => h y (by simp [hy]))
theorem getR_inv {b : ByteArray} (h : (getR b).2.2.2 = 0) : mayR (getR b).1 (getR b).2.1 (getR b).2.2.1 = 0 ∧ bytesR (getR b).1 (getR b).2.1 (getR b).2.2.1 = b := by
  have p1 := head_place b 0 64 (by omega) (by omega)
  have q1 := @headR_inv b 0 64
  unfold getR at h ⊢
  generalize headR b 0 64 = a at p1 q1 h ⊢
  by_cases e1 : a.2.2 = 0
  case neg => rw [if_pos e1] at h; exact absurd h e1
  rw [if_neg (fun h => h e1)] at h ⊢
  have p2 := head_place b a.2.1 1099511627776 p1.1 p1.2.1
  have q2 := @headR_inv b a.2.1 1099511627776
  unfold getR1 at h ⊢
  generalize headR b a.2.1 1099511627776 = c at p2 q2 h ⊢
  by_cases e2 : c.2.2 = 0
  case neg => rw [if_pos e2] at h; exact absurd h e2
  rw [if_neg (fun h => h e2)] at h ⊢
  have p3 := head_place b c.2.1 8 p2.1 p2.2.1
  have q3 := @headR_inv b c.2.1 8
  unfold getR2 at h ⊢
  generalize headR b c.2.1 8 = m at p3 q3 h ⊢
  by_cases e3 : m.2.2 = 0
  case neg => rw [if_pos e3] at h; exact absurd h e3
  rw [if_neg (fun h => h e3)] at h ⊢
  have q4 := @upsR_inv b m.1.toNat m.2.1 p3.1 p3.2.1
  unfold getR3 at h ⊢
  generalize upsR b m.1.toNat m.2.1 = u at q4 h ⊢
  by_cases e4 : u.2.2 = 0
  case neg => rw [if_pos e4] at h; exact absurd h e4
  rw [if_neg (fun h => h e4)] at h ⊢
  by_cases e5 : endR b u.2.1 0 = 0
  case neg => rw [if_pos e5] at h; exact absurd h e5
  rw [if_neg (fun h => h e5)]
  simp only
  obtain ⟨a1, a2, a3, a4⟩ := q1 e1
  obtain ⟨c1, c2, c3, c4⟩ := q2 e2
  obtain ⟨m1, m2, m3, m4⟩ := q3 e3
  obtain ⟨u1, u2, u3, u4⟩ := q4 e4
  rw [cap64] at a4
  rw [cap40] at c4
  rw [cap8] at m4
  have hlen : (u.1.length : Int) = m.1 := by omega
  refine ⟨?_, ?_⟩
  · unfold mayR
    rw [if_neg (by omega)]
    exact firstErr_zero u1
  · have j1 : Str b 0 (enc a.1 ++ enc c.1) := a1.join (by rw [← a2]; exact c1)
    have j2 : Str b 0 (enc a.1 ++ enc c.1 ++ enc m.1) := j1.join (by rw [ByteArray.size_append, show (0 : Int) + (((enc a.1).size + (enc c.1).size : Nat) : Int) = c.2.1 by omega]; exact m1)
    have hz : ((enc a.1 ++ enc c.1 ++ enc m.1).size : Int) = m.2.1 := by rw [ByteArray.size_append, ByteArray.size_append]; omega
    have j3 : Str b 0 (bytesR a.1 c.1 u.1) := by
      unfold bytesR
      rw [hlen, headB_eq]
      exact j2.join (by rw [hz, Int.zero_add]; exact u3)
    refine (j3.all ?_).symm
    have hend : ¬ (u.2.1 < (b.size : Int)) := fun hlt => by
      unfold endR at e5
      rw [if_pos rfl, if_pos hlt] at e5
      exact absurd e5 (by decide)
    have hs := j3.2.1
    have hz2 : ((bytesR a.1 c.1 u.1).size : Int) = u.2.1 := by
      unfold bytesR
      rw [hlen, headB_eq, ByteArray.size_append, u4]
      omega
    omega
theorem getR_no {b : ByteArray} (h : (getR b).2.2.2 ≠ 0) : getR b = noR (getR b).2.2.2 := by
  unfold getR getR1 getR2 getR3 at h ⊢
  (repeat' split) <;> first | rfl | (simp_all; done)
end Go.Proofs.YtfpegjdplggkpaaDoor.Pure
