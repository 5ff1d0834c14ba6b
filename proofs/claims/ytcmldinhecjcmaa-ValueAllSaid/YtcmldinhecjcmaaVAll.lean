/- The plain law ValueAll. -/
import Derived.Test.YtcmldinhecjcmaaVB
import Derived.Test.YtcmldinhecjcmaaQ8
import Derived.OpenShut
namespace Go.Proofs.Ytcmldinhecjcmaa.Pure
set_option linter.unusedSimpArgs false
open Go Go.RowKit Go.Proofs.YtcmldinhecjcmaaW.PrintWords Go.Proofs.YtcmldinhecjcmaaW.PrintLast Go.Proofs.YtcmldinhecjcmaaW.PrintMore Go.Proofs.Ytcmldinhecjcmaa.Q

theorem greatall_ok (l : List S25) (hn : l.length ≤ 140737488351232) : ∃ b, ∀ k, 300 ≤ k → chapbookref04_GreatAll.f k l = some b ∧ (b = false → l.length ≤ 200) := by
  by_cases hlen : (l.length : Int) > 200
  · exact ⟨true, fun k _ => ⟨by unfold chapbookref04_GreatAll.f; rw [if_pos hlen], fun h => by cases h⟩⟩
  have walk : ∀ d i : Nat, i + d = l.length → ∃ b, ∀ k, d < k → chapbookref04_GreatAll.l0 k l (i : Int) = some b := by
    intro d
    induction d with
    | zero =>
      intro i hi
      refine ⟨false, fun k hk => ?_⟩
      obtain ⟨k, rfl⟩ : ∃ m, k = m + 1 := ⟨k - 1, by omega⟩
      simp only [chapbookref04_GreatAll.l0]; rw [if_neg (by omega)]
    | succ d ih =>
      intro i hi
      obtain ⟨b, hb⟩ := ih (i + 1) (by omega)
      obtain ⟨c, hc⟩ := great_ok (rd_T25 l i).f0 (rd_T25 l i).f1 (rd_T25 l i).f2 (rd_T25 l i).f3
      refine ⟨if c = true then true else b, fun k hk => ?_⟩
      obtain ⟨k, rfl⟩ : ∃ m, k = m + 1 := ⟨k - 1, by omega⟩
      simp only [chapbookref04_GreatAll.l0]
      rw [if_pos (by omega), if_pos (by omega), hc]
      simp only [Option.bind_some]
      rw [w64 (n := (i : Int) + 1) (by omega) (by omega)]
      cases c with
      | true => rfl
      | false => simpa using hb k (by omega)
  obtain ⟨b, hb⟩ := walk l.length 0 (by omega)
  refine ⟨b, fun k hk => ⟨?_, fun _ => by omega⟩⟩
  unfold chapbookref04_GreatAll.f
  rw [if_neg hlen]
  simpa using hb k (by omega)
theorem want_end (l : List S25) (hl : ∀ u ∈ l, G25 u) (hn : l.length ≤ 200) (v0 : Val) (at_ : Int) (ha : 0 ≤ at_) (hb : at_ ≤ l.length) (h0 : Ok v0) (k : Nat) (hk : 300 < k) (v : Val) (hvv : v = all v0 l) :
    chapbooklaw04_ValueAll.l0 (k + 1) l at_ l (l.length : Int) (l.length : Int) v0.1 v0.2.1 v0.2.2 v.1 v.2.1 v.2.2 = some true := by
  have h1 := vall_ok k v0 l h0 hl (by omega) (by omega)
  have h2 := vall_ok k v0 (l.take at_.toNat) h0 (fun u hu => hl u (List.mem_of_mem_take hu)) (by rw [List.length_take]; omega) (by rw [List.length_take]; omega)
  have h3 := vall_ok k (all v0 (l.take at_.toNat)) (l.drop at_.toNat) (all_ok _ _ h0 (fun u hu => hl u (List.mem_of_mem_take hu))) (fun u hu => hl u (List.mem_of_mem_drop hu)) (by rw [List.length_drop]; omega) (by rw [List.length_drop]; omega)
  rw [← all_app, List.take_append_drop, ← hvv] at h3
  rw [← hvv] at h1
  have hlen : ([] : List S25).length + l.length < 2932031007402 := by rw [List.length_nil]; omega
  simp only [chapbooklaw04_ValueAll.l0]
  rw [if_neg (Int.lt_irrefl _)]
  rw [Option.bind_some, if_pos hlen, List.nil_append, h1, Option.bind_some]
  by_cases he : (l.length : Int) = 0
  · rw [if_pos he]
    have e : l = [] := List.eq_nil_of_length_eq_zero (by omega)
    rw [e] at hvv
    have e2 : v = v0 := hvv
    rw [e2]
    simp
  · rw [if_neg he, if_pos (by simp), if_pos ha, if_pos hb, h2, Option.bind_some, h3, Option.bind_some]
    simp
theorem want_walk (l : List S25) (hl : ∀ u ∈ l, G25 u) (hn : l.length ≤ 200) (v0 : Val) (at_ : Int) (ha : 0 ≤ at_) (hb : at_ ≤ l.length) (h0 : Ok v0) (d : Nat) : ∀ (k i : Nat) (v : Val), i + d = l.length → d + 400 < k → Ok v → v = all v0 (l.take i) →
    chapbooklaw04_ValueAll.l0 k l at_ l (l.length : Int) (i : Int) v0.1 v0.2.1 v0.2.2 v.1 v.2.1 v.2.2 = some true := by
  induction d with
  | zero =>
    intro k i v hi hk hv hvv
    obtain ⟨k, rfl⟩ : ∃ m, k = m + 1 := ⟨k - 1, by omega⟩
    have e : i = l.length := by omega
    rw [e, List.take_length] at hvv
    rw [e]
    exact want_end l hl hn v0 at_ ha hb h0 k (by omega) v hvv
  | succ d ih =>
    intro k i v hi hk hv hvv
    obtain ⟨k2, rfl⟩ : ∃ m, k = m + 9 := ⟨k - 9, by omega⟩
    have hil : i < l.length := by omega
    have hu := hl l[i] (List.getElem_mem hil)
    have hr := rapply_ok k2 v l[i].f0 l[i].f1 l[i].f2 l[i].f3 hv hu.2.2.2 hu.2.2.1
    have hgo := ih (k2 + 8) (i + 1) _ (by omega) (by omega) (app_ok v l[i] hv hu.2.2.2 hu.2.2.1) (by rw [List.take_succ_eq_append_getElem hil, all_snoc, ← hvv])
    have hw : wrap64 ((i : Int) + 1) = ((i + 1 : Nat) : Int) := by rw [w64 (n := (i : Int) + 1) (by omega) (by omega)]; omega
    show chapbooklaw04_ValueAll.l0 ((k2 + 8) + 1) l at_ l (l.length : Int) (i : Int) v0.1 v0.2.1 v0.2.2 v.1 v.2.1 v.2.2 = some true
    rw [chapbooklaw04_ValueAll.l0]
    rw [if_pos (by omega), if_pos (by omega), if_pos (by omega), rd25 l i hil, hr, Option.bind_some, hw]
    exact hgo
theorem ValueAll (x0 : (Int) × (Int) × (ByteArray)) (g0 : G23 x0) (x1 : List (S25)) (g1 : (x1.length * 48 ≤ 140737488351232 ∧ x1.length ≤ maxLen ∧ ∀ z ∈ x1, G25 z)) (x2 : Int) (_g2 : (Lit.int .i64 x2).wf = true) : ∃ k, chapbooklaw04_ValueAll.f k x0.1 x0.2.1 x0.2.2 x1 x2 = some true := by
  refine ⟨1000, ?_⟩
  have hn : x1.length ≤ 140737488351232 := by omega
  have out : chapbooklaw04_ValueAll.j0 1000 x1 x2 true x0.1 x0.2.1 x0.2.2 = some true := by
    show chapbooklaw04_ValueAll.j0 (999 + 1) x1 x2 true _ _ _ = _
    simp only [chapbooklaw04_ValueAll.j0, if_true]
    rw [awake_ge (by decide)]; rfl
  unfold chapbooklaw04_ValueAll.f
  obtain ⟨b, hb, hi⟩ := is_ok x0
  obtain ⟨c, hc⟩ := greatall_ok x1 hn
  obtain ⟨hc, hlen⟩ := hc 1000 (by decide)
  rw [awake_ge (by decide), hb]
  simp only [Option.bind_some, if_true]
  cases b with
  | false => simpa using out
  | true =>
    rw [hc]
    simp only [Option.bind_some, if_true]
    cases c with
    | true => simpa using out
    | false =>
      rw [if_neg (by decide)]
      by_cases h1 : x2 < 0
      · rw [if_pos h1]; exact out
      rw [if_neg h1]
      by_cases h2 : x2 > (x1.length : Int)
      · rw [decide_eq_true h2]; exact out
      rw [decide_eq_false h2]
      show chapbooklaw04_ValueAll.j0 (999 + 1) x1 x2 false _ _ _ = _
      simp only [chapbooklaw04_ValueAll.j0]
      rw [if_neg (by decide)]
      have hv : Ok x0 := ⟨(hi rfl).1, (hi rfl).2, g0.2.2, g0.2.1⟩
      exact want_walk x1 g1.2.2 (hlen rfl) x0 x2 (by omega) (by omega) hv x1.length 999 0 x0 (by omega) (by have := hlen rfl; omega) hv rfl
end Go.Proofs.Ytcmldinhecjcmaa.Pure
