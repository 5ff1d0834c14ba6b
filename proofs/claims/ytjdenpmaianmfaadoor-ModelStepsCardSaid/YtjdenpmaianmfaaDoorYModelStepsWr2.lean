/- What the given program's pack.Writer does with a number, a signed number, a text, and what it tells of its bytes: a plain walk through its methods, under the condition that the table 'bits' of package prefix is laid. -/
import Derived.Test.YtjdenpmaianmfaaDoorYModelStepsWr
import Derived.Test.YtjdenpmaianmfaaDoorYModelStepsQ2
namespace Go.Proofs.YtjdenpmaianmfaaDoor.Wr
set_option linter.unusedSimpArgs false
set_option linter.unusedVariables false
open Go Go.RowKit Go.Proofs.YtjdenpmaianmfaaDoorW.PrintWords Go.Proofs.YtjdenpmaianmfaaDoorW.PrintLast Go.Proofs.YtjdenpmaianmfaaDoorW.PrintMore Go.Proofs.YtjdenpmaianmfaaDoor.Q
attribute [local go_sem] max2_int min2_int max_two min_two max_three min_three max_four min_four
theorem Is.cells {B b : Nat} {row : Option Nat} {wrong : Bool} {s : ByteArray} {w : World} (h : Is B b row wrong s w) : w.cell? ⟨b, 2, none⟩ = some (.bool wrong) ∧ w.frozen? ⟨b, 2, none⟩ = false := by
 obtain ⟨p, v, _, h⟩ := h
 exact ⟨(Lib.cell_of_heap h.blk 2).trans rfl, Lib.frozen_of_heap h.blk 2⟩
theorem Is.mark {B b : Nat} {row : Option Nat} {wrong : Bool} {s : ByteArray} {w : World} (h : Is B b row wrong s w) (q : Bool) : Is B b row q s (w.setCell ⟨b, 2, none⟩ (.bool q)) := by
 obtain ⟨p, v, rfl, h⟩ := h
 refine ⟨p, v, rfl, h.ge, by simp [World.setCell, Array.getElem?_modify, h.blk], ?_, h.ptr⟩
 exact h.own.kept (row := some b) ⟨rfl, rfl, rfl, by simp [World.setCell], fun k _ hk => Below.heap_setCell _ _ _ _ (fun e => hk (by simp [e]))⟩ (Or.inr h.ne)
set_option maxHeartbeats 2000000 in
set_option maxRecDepth 100000 in
theorem put {B b : Nat} {row : Option Nat} {wrong : Bool} {s : ByteArray} {w : World} (k : Nat) (n : Int) (ok : Bool) (r1 : ByteArray) (r2 : Int) (h : Is B b row wrong s w) (hBw : B ≤ w.heap.size) (HT : Aside0 (Tab w))
  (hp : prefix_Put.f k n = some (r1, r2)) (hlen : s.size + r1.size ≤ 140737488355328) :
  Calls Tryd.prog 111 #[.pointer (some ⟨b, 0, none⟩), .int .u64 n, .bool ok] w fun e w' => e = .returned (.tuple #[]) ∧ Turned B b row (wrong || !ok || (r2 != 0)) (s ++ r1) w w' := by
 have H := Aside0.mk h
 have HP := Aside0.mk hp
 have HL := Aside0.mk hlen
 have HB := Aside0.mk hBw
 clear h hp hlen hBw
 obtain ⟨q2, hq2⟩ : ∃ q2, q2 = (r2 != 0) := ⟨_, rfl⟩
 have fin : ∀ (W W2 : World) (q : Bool), Below w.heap.size w W → q = (wrong || !ok || q2) → (∃ v', At B b (.pointer (some ⟨b, 0, none⟩)) q v' (Lib.strCells s ++ Lib.strCells r1) W2 ∧ Below B (W.setCell ⟨b, 2, none⟩ (.bool q)) W2 ∧ KeepBut (W.setCell ⟨b, 2, none⟩ (.bool q)) W2 b row ∧ (v'.ownBlock = row ∨ ∃ k, v'.ownBlock = some k ∧ (W.setCell ⟨b, 2, none⟩ (.bool q)).heap.size ≤ k)) →
   Turned B b row (wrong || !ok || q2) (s ++ r1) w W2 := by
  rintro W W2 q hb rfl ⟨v', hA, hb2, hk2, hr⟩
  have hB := HB.out
  have hk1 : KeepBut w (W.setCell ⟨b, 2, none⟩ (.bool (wrong || !ok || q2))) b row := (KeepBut.of_below hb b row).set_ 2 _
  refine ⟨v'.ownBlock, ⟨_, v', rfl, by rw [strCells_append]; exact hA⟩, ((hb.mono hB).setCell (p := ⟨b, 2, none⟩) H.out.ge _).trans hb2, hk1.trans hk2 (.inl rfl), ?_⟩
  rcases hr with h | ⟨k, h, hk⟩
  ·exact .inl h
  ·exact .inr ⟨k, h, Nat.le_trans hk1.1 hk⟩
 rw [← hq2]
 have hq3 := hq2.symm
 have hq4 : (r2 == 0) = !q2 := by rw [hq2]; simp [bne]
 clear hq2
 have ws : ∀ (W : World) (q : Bool), Below w.heap.size w W → Calls Tryd.prog 122 #[.pointer (some ⟨b, 0, none⟩), .string r1] (W.setCell ⟨b, 2, none⟩ (.bool q)) fun e w' => e = .returned (.tuple #[.int .i64 r1.size, .nilIface]) ∧ (∃ v', At B b (.pointer (some ⟨b, 0, none⟩)) q v' (Lib.strCells s ++ Lib.strCells r1) w' ∧ Below B (W.setCell ⟨b, 2, none⟩ (.bool q)) w' ∧ KeepBut (W.setCell ⟨b, 2, none⟩ (.bool q)) w' b row ∧ (v'.ownBlock = row ∨ ∃ k, v'.ownBlock = some k ∧ (W.setCell ⟨b, 2, none⟩ (.bool q)).heap.size ≤ k)) := by
  intro W q hb
  obtain ⟨p, v, hv, hA⟩ := (H.out.below hb).mark q
  subst hv
  exact WriteString r1 hA (by rw [Lib.strCells_length]; exact HL.out) (by have := hb.size; have := HB.out; simp [World.setCell]; omega)
 cases wrong <;> cases ok <;> cases q2
 all_goals
  go_enter Tryd.func111, Tryd.ntmps111
  go_wp2_with (go_at_call 121; refine (prefix_Put.calls k n r1 r2 _ HT HP.out).mono ?_)
  rintro e w1 ⟨rfl, hb1⟩
  obtain ⟨hc2, hf2⟩ := (H.out.below hb1).cells
  have HB1 := Aside0.mk hb1
  clear hb1
  go_wp2_with (go_at_call 122; refine (ws _ _ HB1.out).mono ?_)
  rintro e w2 ⟨rfl, hA⟩
  go_wp2
  go_end0
  exact ⟨rfl, fin _ _ _ HB1.out rfl hA⟩
set_option maxHeartbeats 2000000 in
set_option maxRecDepth 100000 in
theorem Number {B b : Nat} {row : Option Nat} {wrong : Bool} {s : ByteArray} {w : World} (k : Nat) (n : Int) (r1 : ByteArray) (r2 : Int) (h : Is B b row wrong s w) (hBw : B ≤ w.heap.size) (HT : Aside0 (Tab w))
  (hp : prefix_Put.f k (IntKind.u64.wrap n) = some (r1, r2)) (hlen : s.size + r1.size ≤ 140737488355328) :
  Calls Tryd.prog 104 #[.pointer (some ⟨b, 0, none⟩), .int .i64 n] w fun e w' => e = .returned (.tuple #[]) ∧ Turned B b row (wrong || !decide (0 ≤ n) || (r2 != 0)) (s ++ r1) w w' := by
 have H := Aside0.mk h
 have HP := Aside0.mk hp
 have HL := Aside0.mk hlen
 have HB := Aside0.mk hBw
 clear h hp hlen hBw
 obtain ⟨ok, hok⟩ : ∃ q, q = decide (0 ≤ n) := ⟨_, rfl⟩
 have pt := fun w' (H' : Is B b row wrong s w') => put k (IntKind.u64.wrap n) ok r1 r2 H'
 rw [← hok]
 have hok2 := hok.symm
 have hok3 : decide (n ≥ 0) = ok := hok2
 clear hok
 go_enter Tryd.func104, Tryd.ntmps104
 go_wp2_with (go_at_call 111; refine (put k _ _ r1 r2 H.out HB.out HT HP.out HL.out).mono ?_)
 rintro e w1 ⟨rfl, hT⟩
 go_wp2
 go_end0
 exact ⟨rfl, hT⟩
set_option maxHeartbeats 2000000 in
set_option maxRecDepth 100000 in
theorem Signed {B b : Nat} {row : Option Nat} {wrong : Bool} {s : ByteArray} {w : World} (k : Nat) (n x : Int) (ok : Bool) (r1 : ByteArray) (r2 : Int) (h : Is B b row wrong s w) (hBw : B ≤ w.heap.size) (HT : Aside0 (Tab w))
  (hz : prefix_Zig.f n = some (x, ok)) (hp : prefix_Put.f k x = some (r1, r2)) (hlen : s.size + r1.size ≤ 140737488355328) :
  Calls Tryd.prog 113 #[.pointer (some ⟨b, 0, none⟩), .int .i64 n] w fun e w' => e = .returned (.tuple #[]) ∧ Turned B b row (wrong || !ok || (r2 != 0)) (s ++ r1) w w' := by
 have H := Aside0.mk h
 have HZ := Aside0.mk hz
 have HP := Aside0.mk hp
 have HL := Aside0.mk hlen
 have HB := Aside0.mk hBw
 clear h hp hlen hBw hz
 go_enter Tryd.func113, Tryd.ntmps113
 go_wp2_with (go_at_call 123; refine (prefix_Zig.calls n x ok _ HZ.out).mono ?_)
 rintro e w1 ⟨rfl, hd⟩
 have HD := Aside0.mk hd.below
 clear hd
 go_wp2_with (go_at_call 111; refine (put k _ _ r1 r2 (H.out.below HD.out) (Nat.le_trans HB.out HD.out.size) (Aside0.mk (HT.out.below HD.out)) HP.out HL.out).mono ?_)
 rintro e w2 ⟨rfl, hT⟩
 go_wp2
 go_end0
 obtain ⟨row2, i2, hb2, hk2, hr2⟩ := hT
 exact ⟨rfl, Turned.trans (HD.out.mono HB.out) (KeepBut.of_below HD.out b row) (.inl rfl) i2 hb2 hk2 hr2⟩
set_option maxHeartbeats 2000000 in
set_option maxRecDepth 100000 in
theorem Text {B b : Nat} {row : Option Nat} {wrong : Bool} {s : ByteArray} {w : World} (k : Nat) (x : ByteArray) (r1 : ByteArray) (r2 : Int) (h : Is B b row wrong s w) (hBw : B ≤ w.heap.size) (HT : Aside0 (Tab w))
  (hp : prefix_Put.f k (IntKind.u64.wrap (x.size : Int)) = some (r1, r2)) (hlen : s.size + r1.size + x.size ≤ 140737488355328) :
  Calls Tryd.prog 112 #[.pointer (some ⟨b, 0, none⟩), .string x] w fun e w' => e = .returned (.tuple #[]) ∧ Turned B b row (wrong || (r2 != 0)) (s ++ r1 ++ x) w w' := by
 have H := Aside0.mk h
 have HP := Aside0.mk hp
 have HL := Aside0.mk hlen
 have HB := Aside0.mk hBw
 clear h hp hlen hBw
 go_enter Tryd.func112, Tryd.ntmps112
 go_wp2_with (go_at_call 104; refine (Number k _ r1 r2 H.out HB.out HT HP.out (by have := HL.out; omega)).mono ?_)
 rintro e w1 ⟨rfl, hT⟩
 have hm : (wrong || !decide (0 ≤ (x.size : Int)) || (r2 != 0)) = (wrong || (r2 != 0)) := by rw [decide_eq_true (by omega : 0 ≤ (x.size : Int))]; simp
 rw [hm] at hT
 obtain ⟨row1, i1, hb1, hk1, hr1⟩ := hT
 obtain ⟨p, v, hv, hA⟩ := i1
 have HX := Aside0.mk (And.intro hA (And.intro hb1 (And.intro hk1 hr1)))
 clear hb1 hk1 hr1 hA hm
 go_wp2_with (go_at_call 122; refine (WriteString x HX.out.1 (by rw [Lib.strCells_length, ByteArray.size_append]; exact HL.out) (Nat.le_trans HB.out HX.out.2.2.1.1)).mono ?_)
 rintro e w2 ⟨rfl, v', hA2, hb2, hk2, hr2⟩
 go_wp2
 go_end0
 subst hv
 exact ⟨rfl, Turned.trans HX.out.2.1 HX.out.2.2.1 HX.out.2.2.2 ⟨_, v', rfl, by rw [strCells_append]; exact hA2⟩ hb2 hk2 hr2⟩
set_option maxHeartbeats 2000000 in
set_option maxRecDepth 100000 in
theorem Bytes {B b : Nat} {row : Option Nat} {wrong : Bool} {s : ByteArray} {w : World} (h : Is B b row wrong s w) (hBw : B ≤ w.heap.size) :
  Calls Tryd.prog 106 #[.pointer (some ⟨b, 0, none⟩)] w fun e w' => e = .returned (.tuple #[.string (if wrong then ⟨#[]⟩ else s), .int .i64 (if wrong then 1 else 0)]) ∧ Is B b row wrong s w' ∧ Below B w w' ∧ KeepBut w w' b row := by
 have H := Aside0.mk h
 have HB := Aside0.mk hBw
 obtain ⟨hc2, hf2⟩ := h.cells
 clear h hBw
 cases wrong
 ·obtain ⟨p, v, hv, hA⟩ := H.out
  have HA := Aside0.mk hA
  clear hA
  go_enter Tryd.func106, Tryd.ntmps106
  go_wp2_with (go_at_call 114; refine (String_ HA.out HB.out).mono ?_)
  rintro e w1 ⟨rfl, hA1, hb1, hk1⟩
  go_wp2
  go_ret2
  subst hv
  exact ⟨rfl, ⟨_, _, rfl, hA1⟩, hb1, hk1⟩
 ·go_enter Tryd.func106, Tryd.ntmps106
  go_wp2
  go_ret2
  exact ⟨rfl, H.out, Below.refl _ _, KeepBut.refl _ _ _⟩
end Go.Proofs.YtjdenpmaianmfaaDoor.Wr
