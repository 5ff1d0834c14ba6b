/- The answers that the document fixes for layer 3: awake returns true. Under the condition that the table 'bits' of package prefix is laid. -/
import Derived.Test.YtfbdfnclkchofaaDoorYPackBackWr3
import Derived.Test.YtfbdfnclkchofaaDoorYPackBackQ3
namespace Go.Proofs.YtfbdfnclkchofaaDoor.Q
set_option linter.unusedSimpArgs false
set_option linter.unusedVariables false
open Go Go.RowKit Go.Proofs.YtfbdfnclkchofaaDoorW.PrintWords Go.Proofs.YtfbdfnclkchofaaDoorW.PrintLast Go.Proofs.YtfbdfnclkchofaaDoorW.PrintMore Go.Proofs.YtfbdfnclkchofaaDoor.Wr
attribute [local go_sem] max2_int min2_int max_two min_two max_three min_three max_four min_four
def chapbooklaw03_awake.f : Option Bool := some true
theorem aw_told : told (addT (addN (⟨#[]⟩, false) 300) ⟨#[97, 98]⟩) = (⟨#[65, 44, 2, 97, 98]⟩, 0) := by kernel_rfl
theorem aw_num : pack_Reader_Number.f 30 ⟨#[65, 44, 2, 97, 98]⟩ 0 0 300 = some (300, ⟨#[65, 44, 2, 97, 98]⟩, 2, 0) := by kernel_rfl
theorem aw_txt : pack_Reader_Text.f 30 ⟨#[65, 44, 2, 97, 98]⟩ 2 0 2 = some (⟨#[97, 98]⟩, ⟨#[65, 44, 2, 97, 98]⟩, 5, 0) := by kernel_rfl
theorem aw_end : pack_Reader_End.f ⟨#[65, 44, 2, 97, 98]⟩ 5 0 = some (0, ⟨#[65, 44, 2, 97, 98]⟩, 5, 0) := by kernel_rfl
theorem aw_num4 : pack_Reader_Number.f 30 ⟨#[5]⟩ 0 0 4 = some (0, ⟨#[5]⟩, 1, 1) := by kernel_rfl
theorem aw_err : pack_Reader_Err.f ⟨#[5]⟩ 1 1 = some (1, ⟨#[5]⟩, 1, 1) := rfl
theorem aw_num9 : pack_Reader_Number.f 30 ⟨#[5]⟩ 1 1 9 = some (0, ⟨#[5]⟩, 1, 1) := by kernel_rfl
set_option maxHeartbeats 4000000 in
set_option maxRecDepth 100000 in
theorem chapbooklaw03_awake.calls (r : Bool) (w : World) (HT : Aside0 (Tab w)) (h : chapbooklaw03_awake.f = some r) :
    Calls Tryd.prog 14 #[] w fun e w' => e = .returned (.bool r) ∧ Below w.heap.size w w' := by
  obtain rfl : true = r := Option.some.inj h
  clear h
  obtain ⟨W1, hW1⟩ : ∃ W, W = w.alloc (.cells #[.pointer none, .slice none 0 0, .bool false] 28) := ⟨_, rfl⟩
  have f1 := fresh w
  rw [← hW1] at f1
  have b1 : Below w.heap.size w W1 := by rw [hW1]; exact (Below.refl _ _).alloc (Nat.le_refl _) _
  have HW := Aside0.mk hW1
  have M1 := Aside0.mk (Mid.start f1)
  have B1 := Aside0.mk b1
  have ht := tab_lt HT.out
  have HT1 := tab_of ht HT B1.out
  clear hW1 f1 b1
  have tb : ∀ W, Below w.heap.size w W → Aside0 (Tab W) := fun W h => tab_of ht HT h
  go_enter Tryd.func14, Tryd.ntmps14
  go_wp2_with (go_at_call 15; rw [← HW.out]; refine (Number_ 300 (by decide) M1.out.has B1.out.size HT1 (by decide)).mono ?_)
  rintro e W2 ⟨rfl, t⟩
  obtain ⟨r2, m2⟩ := M1.out.next t
  have M2 := Aside0.mk m2
  clear t m2
  go_wp2_with (go_at_call 16; refine (Text_ ⟨#[97, 98]⟩ M2.out.has (M2.out.size B1.out.size) (tb _ (B1.out.trans M2.out.below)) (by decide +kernel)).mono ?_)
  rintro e W3 ⟨rfl, t⟩
  obtain ⟨r3, m3⟩ := M2.out.next t
  have M3 := Aside0.mk m3
  clear t m3
  go_wp2_with (go_at_call 17; refine (Bytes_ M3.out.has (M3.out.size B1.out.size)).mono ?_)
  rintro e W4 ⟨rfl, _, b4, _⟩
  rw [aw_told]
  have B4 := Aside0.mk ((B1.out.trans M3.out.below).trans b4)
  clear b4
  go_wp2_with (go_at_call 18; refine (pack_Read.calls _ ⟨#[65, 44, 2, 97, 98]⟩ 0 0 w _ B4.out rfl).mono ?_)
  rintro e W5 ⟨g, rfl, i5, b5, _⟩
  have I5 := Aside0.mk i5
  have B5 := Aside0.mk b5
  clear i5 b5
  go_wp2_with (go_at_call 19; refine (pack_Reader_Number.calls 30 g _ 0 0 300 _ _ _ _ w _ HT I5.out B5.out aw_num).mono ?_)
  rintro e W6 ⟨rfl, i6, b6, _⟩
  have I6 := Aside0.mk i6
  have B6 := Aside0.mk b6
  clear i6 b6
  go_wp2_with (go_at_call 20; refine (pack_Reader_Text.calls 30 g _ 2 0 2 _ _ _ _ w _ HT I6.out B6.out aw_txt).mono ?_)
  rintro e W7 ⟨rfl, i7, b7, _⟩
  have I7 := Aside0.mk i7
  have B7 := Aside0.mk b7
  clear i7 b7
  go_wp2_with (go_at_call 21; refine (pack_Reader_End.calls g _ 5 0 _ _ _ _ w _ I7.out B7.out aw_end).mono ?_)
  rintro e W8 ⟨rfl, i8, b8, _⟩
  have B8 := Aside0.mk b8
  clear i8 b8
  go_wp2_with (go_at_call 18; refine (pack_Read.calls _ ⟨#[5]⟩ 0 0 w _ B8.out rfl).mono ?_)
  rintro e W9 ⟨q, rfl, i9, b9, _⟩
  have I9 := Aside0.mk i9
  have B9 := Aside0.mk b9
  clear i9 b9
  go_wp2_with (go_at_call 19; refine (pack_Reader_Number.calls 30 q _ 0 0 4 _ _ _ _ w _ HT I9.out B9.out aw_num4).mono ?_)
  rintro e W10 ⟨rfl, i10, b10, _⟩
  have I10 := Aside0.mk i10
  have B10 := Aside0.mk b10
  clear i10 b10
  go_wp2_with (go_at_call 22; refine (pack_Reader_Err.calls q _ 1 1 _ _ _ _ w _ I10.out B10.out aw_err).mono ?_)
  rintro e W11 ⟨rfl, i11, b11, _⟩
  have I11 := Aside0.mk i11
  have B11 := Aside0.mk b11
  clear i11 b11
  go_wp2_with (go_at_call 19; refine (pack_Reader_Number.calls 30 q _ 1 1 9 _ _ _ _ w _ HT I11.out B11.out aw_num9).mono ?_)
  rintro e W12 ⟨rfl, i12, b12, _⟩
  have B12 := Aside0.mk b12
  clear i12 b12
  go_wp2
  go_ret
  exact ⟨rfl, B12.out⟩
end Go.Proofs.YtfbdfnclkchofaaDoor.Q
