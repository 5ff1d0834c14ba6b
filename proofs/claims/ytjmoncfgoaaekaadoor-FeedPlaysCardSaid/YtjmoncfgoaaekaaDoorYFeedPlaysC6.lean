/- What the laws of package commit ask of its calls. -/
import Derived.Test.YtjmoncfgoaaekaaDoorYFeedPlaysRM
import Derived.Test.YtjmoncfgoaaekaaDoorYFeedPlaysQ8
import Derived.Test.YtjmoncfgoaaekaaDoorYFeedPlaysC3
namespace Go.Proofs.YtjmoncfgoaaekaaDoor.Pure
set_option linter.unusedSimpArgs false
set_option linter.unusedVariables false
open Go Go.RowKit Go.Proofs.YtjmoncfgoaaekaaDoorW.PrintWords Go.Proofs.YtjmoncfgoaaekaaDoorW.PrintLast Go.Proofs.YtjmoncfgoaaekaaDoorW.PrintMore Go.Proofs.YtjmoncfgoaaekaaDoor.Q
theorem greatAll_loop (l : List Upd) (hl : l.length ≤ 9223372036854775807) : ∀ (d k : Nat) (x : Int), 0 ≤ x → x ≤ l.length → (l.length : Int) - x = d → d + 1 ≤ k → ∃ b, chapbookref04_GreatAll.l0 k l x = some b := by
 intro d
 induction d with
 | zero =>
  intro k x h0 h1 hd hk
  obtain ⟨k, rfl⟩ : ∃ m, k = m + 1 := ⟨k - 1, by omega⟩
  simp only [chapbookref04_GreatAll.l0]
  rw [if_neg (by omega)]
  exact ⟨_, rfl⟩
 | succ d ih =>
  intro k x h0 h1 hd hk
  obtain ⟨k, rfl⟩ : ∃ m, k = m + 1 := ⟨k - 1, by omega⟩
  simp only [chapbookref04_GreatAll.l0]
  obtain ⟨b, hb⟩ := ih k (x + 1) (by omega) (by omega) (by omega) (by omega)
  rw [if_pos (by omega), if_pos h0, w64s h0 (by omega) hl, hb]
  unfold chapbookref04_Great.f
  split
  ·rw [Option.bind_some, if_pos rfl]; exact ⟨_, rfl⟩
  ·rw [Option.bind_some]
   split
   ·exact ⟨_, rfl⟩
   ·exact ⟨_, rfl⟩
theorem greatAll_ok (k : Nat) (l : List Upd) (hk : 202 ≤ k) : ∃ b, chapbookref04_GreatAll.f k l = some b ∧ (b = false → l.length ≤ 200) := by
 unfold chapbookref04_GreatAll.f
 by_cases c : (l.length : Int) > 200
 ·rw [if_pos c]; exact ⟨true, rfl, by simp⟩
 ·rw [if_neg c]
  obtain ⟨b, hb⟩ := greatAll_loop l (by omega) l.length k 0 (by omega) (by omega) (by omega) (by omega)
  exact ⟨b, hb, fun _ => by omega⟩
end Go.Proofs.YtjmoncfgoaaekaaDoor.Pure
namespace Go.Proofs.YtjmoncfgoaaekaaDoor.J
set_option linter.unusedSimpArgs false
set_option linter.unusedVariables false
open Go Go.RowKit Go.Proofs.YtjmoncfgoaaekaaDoorW.PrintWords Go.Proofs.YtjmoncfgoaaekaaDoorW.PrintLast Go.Proofs.YtjmoncfgoaaekaaDoorW.PrintMore Go.Proofs.YtjmoncfgoaaekaaDoor.Q Go.Proofs.YtjmoncfgoaaekaaDoor.Sep Go.Proofs.YtjmoncfgoaaekaaDoor.Pure
theorem heapU : Kd.Heap k114 := Kd.heap_iso _ (Kd.heap_pair Kd.heap_string (Kd.heap_pair (Kd.heap_int _) (Kd.heap_pair (Kd.heap_int _) Kd.heap_string)))
theorem at_FB {w : World} {ok : Nat → Prop} {A : Option Addr} {n : Nat} {xs : List Rnd} (h : Kd.F k43 w ok A n xs) (i : Int) (h0 : 0 ≤ i) (h1 : i < n) : ∃ ad A2 c2, A = some ad ∧ ok (ad.add (i.toNat * 3)).block ∧ w.cell? (ad.add (i.toNat * 3)) = some (.int .i64 (rd_T43 xs i).f0) ∧ w.cell? ⟨(ad.add (i.toNat * 3)).block, (ad.add (i.toNat * 3)).off + 1, none⟩ = some (.int .i64 (rd_T43 xs i).f1) ∧ w.cell? ⟨(ad.add (i.toNat * 3)).block, (ad.add (i.toNat * 3)).off + 2, none⟩ = some (.slice A2 (rd_T43 xs i).f2.length c2) ∧ (rd_T43 xs i).f2.length ≤ c2 ∧ Kd.F k114 w ok A2 (rd_T43 xs i).f2.length (rd_T43 xs i).f2 := by
 obtain ⟨ad, A2, c2, e, r⟩ := at_F h i h0 h1
 obtain ⟨ad', c', e', _, _, _, hb⟩ := Kd.F_get h z43 i h0 h1
 rw [e] at e'
 injection e' with e'
 subst e'
 exact ⟨ad, A2, c2, e, by rw [add_block]; exact hb (by decide), r⟩
theorem keepCell {N : Nat → Prop} {w w' : World} {a : Addr} {v : Value} (hk : KeepS N w w') (h : w.cell? a = some v) (hb : N a.block) : w'.cell? a = some v :=
 (World.cell?_of_block (w := w) (hk.block a.block (World.block_lt_of_cell? w _ h) hb)).trans h
variable {N : Nat → Prop} {w : World} {g : Nat} {C : Int} {L : List Rnd}
theorem New_n (n C : Int) (hn : mn (mx n 1) 64 = C) (h : Own N w []) :
  Calls Tryd.prog 7 #[.int .i64 n] w fun e w' => ∃ g, e = .returned (.pointer (some ⟨g, 0, none⟩)) ∧ Own N w' [ObjC g C []] ∧ KeepS N w w' := by
 rw [← hn]
 exact New n h
end Go.Proofs.YtjmoncfgoaaekaaDoor.J
