/- What value.All, awake, is and Great come to. -/
import Derived.Test.YtcmldinhecjcmaaVA
import Derived.Test.YtcmldinhecjcmaaQ3
import Derived.OpenShut
namespace Go.Proofs.Ytcmldinhecjcmaa.Pure
set_option linter.unusedSimpArgs false
open Go Go.RowKit Go.Proofs.YtcmldinhecjcmaaW.PrintWords Go.Proofs.YtcmldinhecjcmaaW.PrintLast Go.Proofs.YtcmldinhecjcmaaW.PrintMore Go.Proofs.Ytcmldinhecjcmaa.Q

def all (v : Val) : List S25 → Val
  | [] => v
  | u :: l => all (app v u.f1 u.f2 u.f3) l
theorem wrap_wf (n : Int) : (Lit.int .i64 (wrap64 n)).wf = true := wrap64_wf n
/-- Updates that are spoken of. -/
def Up (u : S25) : Prop := u.f3.size ≤ 1200 ∧ (Lit.int .i64 u.f2).wf = true
theorem z0 : (Lit.int .i64 0).wf = true := by decide
theorem ok_num (n : Int) (h : (Lit.int .i64 n).wf = true) : Ok (1, n, none') := ⟨by show (0 : Int) ≤ 1; decide, by show (1 : Int) ≤ 2; decide, Nat.zero_le _, h⟩
theorem ok_txt (s : ByteArray) (h : s.size ≤ 140737488351232) : Ok (2, 0, s) := ⟨by show (0 : Int) ≤ 2; decide, by show (2 : Int) ≤ 2; decide, h, z0⟩
theorem ok_nil : Ok (0, 0, none') := ⟨by decide, by decide, Nat.zero_le _, z0⟩
theorem clean_good (v : Val) (hv : Ok v) : Ok (clean v) := by
  obtain ⟨g0, g1, g2, g3⟩ := hv
  unfold clean
  by_cases h1 : v.1 = 1
  · rw [if_pos h1]; exact ok_num _ g3
  rw [if_neg h1]
  by_cases h2 : v.1 = 2
  · rw [if_pos h2]; exact ok_txt _ g2
  · rw [if_neg h2]; exact ok_nil
theorem app_ok (v : Val) (u : S25) (hv : Ok v) (hs : u.f3.size ≤ 140737488351232) (hn : (Lit.int .i64 u.f2).wf = true) : Ok (app v u.f1 u.f2 u.f3) := by
  have cl := clean_good v hv
  unfold app
  by_cases h1 : u.f1 = 1
  · rw [if_pos h1]; exact ok_num _ hn
  rw [if_neg h1]
  by_cases h2 : u.f1 = 2
  · rw [if_pos h2]; exact ok_txt _ hs
  rw [if_neg h2]
  by_cases h5 : u.f1 = 5
  · rw [if_pos h5]; exact ok_nil
  rw [if_neg h5]
  by_cases h3 : u.f1 = 3
  · rw [if_pos h3]
    by_cases hq : (clean v).1 = 2
    · rw [if_pos hq]; exact cl
    · rw [if_neg hq]; exact ok_num _ (wrap_wf _)
  rw [if_neg h3]
  by_cases h4 : u.f1 = 4
  · rw [if_pos h4]
    by_cases hq : (clean v).1 = 0
    · rw [if_pos hq]; exact ok_txt _ hs
    rw [if_neg hq]
    by_cases hq2 : (clean v).1 = 2
    · rw [if_pos hq2]
      by_cases hz : ((clean v).2.2.size : Int) + u.f3.size ≤ 1024
      · rw [if_pos hz]; exact ok_txt _ (by rw [ByteArray.size_append]; omega)
      · rw [if_neg hz]; exact cl
    · rw [if_neg hq2]; exact cl
  · rw [if_neg h4]; exact cl
theorem all_snoc : ∀ (v : Val) (l : List S25) (u : S25), all v (l ++ [u]) = app (all v l) u.f1 u.f2 u.f3
  | _, [], _ => rfl
  | v, x :: l, u => all_snoc (app v x.f1 x.f2 x.f3) l u
theorem all_app : ∀ (v : Val) (l m : List S25), all v (l ++ m) = all (all v l) m
  | _, [], _ => rfl
  | v, x :: l, m => all_app (app v x.f1 x.f2 x.f3) l m
theorem all_ok : ∀ (l : List S25) (v : Val), Ok v → (∀ u ∈ l, G25 u) → Ok (all v l)
  | [], _, hv, _ => hv
  | u :: l, v, hv, hl => all_ok l _ (app_ok v u hv (hl u List.mem_cons_self).2.2.2 (hl u List.mem_cons_self).2.2.1) (fun x hx => hl x (List.mem_cons_of_mem _ hx))
theorem rd25 (l : List S25) (i : Nat) (h : i < l.length) : rd_T25 l (i : Int) = l[i] := by simp [rd_T25, List.getD_eq_getElem?_getD, h]
theorem vall_walk (l : List S25) (hl : ∀ u ∈ l, G25 u) (hn : l.length ≤ 140737488351232) (d : Nat) : ∀ (k i : Nat) (v : Val), i + d = l.length → d < k → Ok v →
    value_All.l0 k l (l.length : Int) (i : Int) v.1 v.2.1 v.2.2 = some (all v (l.drop i)) := by
  induction d with
  | zero =>
    intro k i v hi hk _
    obtain ⟨k, rfl⟩ : ∃ m, k = m + 1 := ⟨k - 1, by omega⟩
    simp only [value_All.l0]
    rw [if_neg (by omega), List.drop_eq_nil_of_le (by omega)]
    rfl
  | succ d ih =>
    intro k i v hi hk hv
    obtain ⟨k, rfl⟩ : ∃ m, k = m + 1 := ⟨k - 1, by omega⟩
    have hil : i < l.length := by omega
    have hu := hl l[i] (List.getElem_mem hil)
    simp only [value_All.l0]
    rw [if_pos (by omega), if_pos (by omega), if_pos (by omega), rd25 l i hil, apply_ok v _ _ _ _ hv.2.2.1 hu.2.2.2]
    simp only [Option.bind_some]
    rw [w64 (n := (i : Int) + 1) (by omega) (by omega), List.drop_eq_getElem_cons hil]
    exact ih k (i + 1) _ (by omega) (by omega) (app_ok v l[i] hv hu.2.2.2 hu.2.2.1)
theorem vall_ok (k : Nat) (v : Val) (l : List S25) (hv : Ok v) (hl : ∀ u ∈ l, G25 u) (hn : l.length ≤ 140737488351232) (hk : l.length < k) : value_All.f k v.1 v.2.1 v.2.2 l = some (all v l) := by
  unfold value_All.f
  have := vall_walk l hl hn l.length k 0 v (by omega) hk hv
  simpa using this
/-! ### The laws -/
theorem ok0 : Ok (0, 0, none') := ok_nil
theorem awake_ok (k : Nat) : chapbooklaw04_awake.f (k + 8) = some true := by
  have b0 : (Lit.int .i64 0).wf = true := by decide
  have g : ∀ (s : ByteArray) (c n : Int), s.size ≤ 1 → (Lit.int .i64 c).wf = true → (Lit.int .i64 n).wf = true → G25 ⟨none', c, n, s⟩ := fun s c n h1 h2 h3 => ⟨Nat.zero_le _, h2, h3, by show s.size ≤ _; omega⟩
  have e1 : all (0, 0, none') [⟨none', 3, 3, none'⟩, ⟨none', 3, 4, none'⟩, ⟨none', 4, 0, ⟨#[120]⟩⟩] = (1, 7, none') := by
    simp [all, app, clean, w64]
  have e2 : all (1, 7, none') [⟨none', 2, 0, ⟨#[97]⟩⟩, ⟨none', 4, 0, ⟨#[98]⟩⟩, ⟨none', 3, 1, none'⟩] = (2, 0, ⟨#[97]⟩ ++ ⟨#[98]⟩) := by
    simp [all, app, clean]
    decide
  unfold chapbooklaw04_awake.f
  have h1 := vall_ok (k + 8) (0, 0, none') [⟨none', 3, 3, none'⟩, ⟨none', 3, 4, none'⟩, ⟨none', 4, 0, ⟨#[120]⟩⟩] ok0 (by
    intro u hu
    simp only [List.mem_cons, List.not_mem_nil, or_false] at hu
    rcases hu with rfl | rfl | rfl
    · exact g _ _ _ (by decide) (by decide) (by decide)
    · exact g _ _ _ (by decide) (by decide) (by decide)
    · exact g _ _ _ (by decide) (by decide) (by decide)) (by simp) (by simp)
  rw [e1] at h1
  have h2 := vall_ok (k + 8) (1, 7, none') [⟨none', 2, 0, ⟨#[97]⟩⟩, ⟨none', 4, 0, ⟨#[98]⟩⟩, ⟨none', 3, 1, none'⟩] (ok_num 7 (by decide)) (by
    intro u hu
    simp only [List.mem_cons, List.not_mem_nil, or_false] at hu
    rcases hu with rfl | rfl | rfl
    · exact g _ _ _ (by decide) (by decide) (by decide)
    · exact g _ _ _ (by decide) (by decide) (by decide)
    · exact g _ _ _ (by decide) (by decide) (by decide)) (by simp) (by simp)
  rw [e2] at h2
  have h3 := apply_ok (2, 0, ⟨#[97]⟩ ++ ⟨#[98]⟩) none' 5 0 none' (by decide) (by decide)
  rw [h1]
  simp only [Option.bind_some]
  rw [h2]
  simp only [Option.bind_some]
  rw [h3, may_ok, may_ok]
  have t1 : (none' : ByteArray).toList = [] := by rw [ByteArray.toList_eq]
  have t2 : ((⟨#[97]⟩ : ByteArray) ++ ⟨#[98]⟩).toList = [97, 98] := by rw [ByteArray.toList_eq]; decide
  simp [t1, t2, app, may]
  decide
theorem awake_ge {k : Nat} (hk : 8 ≤ k) : chapbooklaw04_awake.f k = some true := by
  obtain ⟨m, rfl⟩ : ∃ m, k = m + 8 := ⟨k - 8, by omega⟩
  exact awake_ok m
theorem is_ok (v : Val) : ∃ b, chapbooklaw04_is.f v.1 v.2.1 v.2.2 = some b ∧ (b = true → 0 ≤ v.1 ∧ v.1 ≤ 2) := by
  unfold chapbooklaw04_is.f
  by_cases h1 : v.1 ≥ 0
  · by_cases h2 : v.1 ≤ 2
    · exact ⟨_, by rw [if_pos h1, if_pos h2], fun _ => ⟨h1, h2⟩⟩
    · exact ⟨_, by rw [if_pos h1, if_neg h2], fun h => by cases h⟩
  · exact ⟨_, by rw [if_neg h1], fun h => by cases h⟩
theorem great_ok (k : ByteArray) (c n : Int) (s : ByteArray) : ∃ b, chapbookref04_Great.f k c n s = some b := by
  unfold chapbookref04_Great.f; split <;> exact ⟨_, rfl⟩
end Go.Proofs.Ytcmldinhecjcmaa.Pure
