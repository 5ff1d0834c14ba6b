/- What the given program's update.Put answers: the bytes that update.Write puts into a fresh Writer, or none, with May's error. Under the condition that the table 'bits' of package prefix is laid. -/
import Derived.Test.YtfbdfnclkchofaaDoorYUpdatePartsWr3
import Derived.Test.YtfbdfnclkchofaaDoorYUpdatePartsQ7
namespace Go.Proofs.YtfbdfnclkchofaaDoor.Q
set_option linter.unusedSimpArgs false
set_option linter.unusedVariables false
open Go Go.RowKit Go.Proofs.YtfbdfnclkchofaaDoorW.PrintWords Go.Proofs.YtfbdfnclkchofaaDoorW.PrintLast Go.Proofs.YtfbdfnclkchofaaDoorW.PrintMore Go.Proofs.YtfbdfnclkchofaaDoor.Wr
attribute [local go_sem] max2_int min2_int max_two min_two max_three min_three max_four min_four
def update_Put.f (k : ByteArray) (c n : Int) (s : ByteArray) : Option (ByteArray × Int) :=
  if k.size + s.size ≤ 140737488354900 ∧ (Lit.int .i64 c).wf = true ∧ (Lit.int .i64 n).wf = true then
    (value_May.f 4 k c n s).bind fun e => if e = 0 then some (told (addU (⟨#[]⟩, false) k c n s)) else some (⟨#[]⟩, e)
  else none
set_option maxHeartbeats 4000000 in
set_option maxRecDepth 100000 in
theorem update_Put.calls (k : ByteArray) (c n : Int) (s : ByteArray) (r1 : ByteArray) (r2 : Int) (w : World) (HT : Aside0 (Tab w)) (h : update_Put.f k c n s = some (r1, r2)) :
    Calls Tryd.prog 37 #[.agg #[.string k, .int .i64 c, .int .i64 n, .string s]] w fun e w' => e = .returned (.tuple #[.string r1, .int .i64 r2]) ∧ Below w.heap.size w w' := by
  unfold update_Put.f at h
  by_cases hg : k.size + s.size ≤ 140737488354900 ∧ (Lit.int .i64 c).wf = true ∧ (Lit.int .i64 n).wf = true
  case neg => rw [if_neg hg] at h; cases h
  rw [if_pos hg] at h
  obtain ⟨hs, hc, hn⟩ := hg
  obtain ⟨e0, hm, h⟩ := Option.bind_eq_some_iff.mp h
  have HM := Aside0.mk hm
  have HS := Aside0.mk hs
  clear hm hs
  obtain ⟨W0, hW0⟩ : ∃ W, W = w.alloc (.cells #[.string k, .int .i64 c, .int .i64 n, .string s] 58) := ⟨_, rfl⟩
  have HA := Aside0.mk hW0
  have hbl0 : Below w.heap.size w W0 := by rw [hW0]; exact (Below.refl _ _).alloc (Nat.le_refl _) _
  have hbk0 : W0.heap[w.heap.size]? = some (.cells #[.string k, .int .i64 c, .int .i64 n, .string s] 58 (0, 0)) := by rw [hW0]; exact heap_alloc_new w _
  have BL0 := Aside0.mk hbl0
  have BK0 := Aside0.mk hbk0
  clear hbl0 hbk0 hW0
  by_cases he : e0 = 0
  · rw [if_pos he] at h
    have H := Aside0.mk (Option.some.inj h)
    subst he
    clear h
    go_enter Tryd.func37, Tryd.ntmps37
    go_wp2_with (go_at_call 56; rw [← HA.out]; refine (value_May.calls 4 k c n s 0 _ HM.out).mono ?_)
    rintro e W1 ⟨rfl, hb1⟩
    have bk1 : W1.heap[w.heap.size]? = some (.cells #[.string k, .int .i64 c, .int .i64 n, .string s] 58 (0, 0)) := (hb1.block _ (blk_lt BK0.out)).trans BK0.out
    obtain ⟨W2, hW2⟩ : ∃ W, W = W1.alloc (.cells #[.pointer none, .slice none 0 0, .bool false] 28) := ⟨_, rfl⟩
    have bk2 : W2.heap[w.heap.size]? = some (.cells #[.string k, .int .i64 c, .int .i64 n, .string s] 58 (0, 0)) := by rw [hW2]; exact (Below.heap_alloc W1 _ _ (blk_lt bk1)).trans bk1
    have bl2 : Below w.heap.size w W2 := by rw [hW2]; exact (BL0.out.trans (hb1.mono BL0.out.size)).alloc (Nat.le_trans BL0.out.size hb1.size) _
    have q0 := (blk_cell bk2 0).trans rfl
    have q1 := (blk_cell bk2 1).trans rfl
    have q2 := (blk_cell bk2 2).trans rfl
    have q3 := (blk_cell bk2 3).trans rfl
    have F2 := Aside0.mk (fresh W1)
    have HT2 := Aside0.mk (HT.out.below bl2)
    have BL2 := Aside0.mk bl2
    have HB1 := Aside0.mk (Nat.le_trans BL0.out.size hb1.size)
    have ht2 : 0 < W1.heap.size := Nat.lt_of_lt_of_le (tab_lt HT.out) HB1.out
    have sz2 : W1.heap.size ≤ W2.heap.size := by rw [hW2]; exact ((Below.refl W1.heap.size W1).alloc (Nat.le_refl _) _).size
    rw [hW2] at q0 q1 q2 q3
    rw [← hW2] at F2
    have SZ2 := Aside0.mk sz2
    have HA2 := Aside0.mk hW2
    clear bk1 hb1 bl2 bk2 sz2 hW2
    go_wp2_with (go_at_call 43; rw [← HA2.out]; refine (Write k c n s hc hn F2.out SZ2.out ht2 HT2 (by have := HS.out; simp only [ByteArray.size] at this ⊢; simpa using this)).mono ?_)
    rintro e W3 ⟨rfl, row3, i3, b3, k3, r3⟩
    have I3 := Aside0.mk i3
    have B3 := Aside0.mk b3
    clear i3 b3 k3 r3
    go_wp2_with (go_at_call 17; refine (Bytes_ I3.out (Nat.le_trans SZ2.out B3.out.size)).mono ?_)
    rintro e W4 ⟨rfl, i4, b4, k4⟩
    have B4 := Aside0.mk b4
    clear i4 b4 k4
    go_wp2
    go_ret2
    have hH := H.out
    rw [hH]
    exact ⟨rfl, BL2.out.trans ((B3.out.trans B4.out).mono HB1.out)⟩
  · rw [if_neg he] at h
    obtain ⟨rfl, rfl⟩ := Prod.mk.inj (Option.some.inj h)
    have d1 : (e0 == 0) = false := beq_eq_false_iff_ne.mpr he
    have d2 : (e0 != 0) = true := bne_iff_ne.mpr he
    clear h he
    go_enter Tryd.func37, Tryd.ntmps37
    go_wp2_with (go_at_call 56; rw [← HA.out]; refine (value_May.calls 4 k c n s e0 _ HM.out).mono ?_)
    rintro e W1 ⟨rfl, hb1⟩
    have HB1 := Aside0.mk (BL0.out.trans (hb1.mono BL0.out.size))
    clear hb1
    go_wp2
    go_ret2
    exact ⟨rfl, HB1.out⟩
end Go.Proofs.YtfbdfnclkchofaaDoor.Q
