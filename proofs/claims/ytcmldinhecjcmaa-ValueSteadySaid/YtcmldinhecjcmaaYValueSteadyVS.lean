/- The plain law ValueSteady: what value.All, value.Apply and awake come to (out of the texts VA, VB), and what the law's calls come to. -/
import Derived.Test.YtcmldinhecjcmaaYValueSteadyQ2
import Derived.Test.YtcmldinhecjcmaaYValueSteadyQ3
import Derived.OpenShut
namespace Go.Proofs.Ytcmldinhecjcmaa.J
set_option linter.unusedSimpArgs false
open Go Go.RowKit Go.Proofs.YtcmldinhecjcmaaW.PrintWords Go.Proofs.YtcmldinhecjcmaaW.PrintLast Go.Proofs.YtcmldinhecjcmaaW.PrintMore Go.Proofs.Ytcmldinhecjcmaa.Q
def G25 (x : S25) : Prop := (x.f0.size ≤ 140737488351232) ∧ ((Lit.int .i64 x.f1).wf = true) ∧ ((Lit.int .i64 x.f2).wf = true) ∧ (x.f3.size ≤ 140737488351232)
theorem w64 {n : Int} (h0 : -9223372036854775808 ≤ n) (h1 : n ≤ 9223372036854775807) : wrap64 n = n := by unfold wrap64; omega
abbrev none' : ByteArray := ⟨#[]⟩
abbrev Val := Int × Int × ByteArray
def clean (v : Val) : Val := if v.1 = 1 then (1, v.2.1, none') else if v.1 = 2 then (2, 0, v.2.2) else (0, 0, none')
def app (v : Val) (c n : Int) (s : ByteArray) : Val :=
  if c = 1 then (1, n, none')
  else if c = 2 then (2, 0, s)
  else if c = 5 then (0, 0, none')
  else if c = 3 then (if (clean v).1 = 2 then clean v else (1, wrap64 ((clean v).2.1 + n), none'))
  else if c = 4 then (if (clean v).1 = 0 then (2, 0, s) else if (clean v).1 = 2 then (if ((clean v).2.2.size : Int) + s.size ≤ 1024 then (2, 0, (clean v).2.2 ++ s) else clean v) else clean v)
  else clean v
def Ok (v : Val) : Prop := 0 ≤ v.1 ∧ v.1 ≤ 2 ∧ v.2.2.size ≤ 140737488351232 ∧ (Lit.int .i64 v.2.1).wf = true
theorem clean_ok (v : Val) : value_clean.f v.1 v.2.1 v.2.2 = some (clean v) := by
  unfold value_clean.f clean
  by_cases h1 : v.1 = 1
  · simp [h1, value_number.f]
  by_cases h2 : v.1 = 2
  · simp [h2, value_text.f]
  · simp [h1, h2]
theorem clean_size (v : Val) : (clean v).2.2.size ≤ v.2.2.size := by
  unfold clean
  by_cases h1 : v.1 = 1
  · simp only [h1, if_true]; exact Nat.zero_le _
  by_cases h2 : v.1 = 2
  · simp [h2]
  · simp only [h1, h2, if_false]; exact Nat.zero_le _
theorem apply_ok (v : Val) (k : ByteArray) (c n : Int) (s : ByteArray) (hv : v.2.2.size ≤ 140737488351232) (hs : s.size ≤ 140737488351232) : value_Apply.f v.1 v.2.1 v.2.2 k c n s = some (app v c n s) := by
  have hc := clean_size v
  unfold value_Apply.f app
  rw [clean_ok]
  simp only [Option.bind_some]
  generalize clean v = q at *
  obtain ⟨q1, q2, q3⟩ := q
  simp only at hc
  by_cases h1 : c = 1
  · simp [h1, value_number.f]
  by_cases h2 : c = 2
  · simp [h2, value_text.f]
  by_cases h5 : c = 5
  · simp [h5]
  by_cases h3 : c = 3
  · subst h3
    by_cases hq : q1 = 2
    · simp [hq]
    · simp [hq, value_number.f]
  by_cases h4 : c = 4
  · subst h4
    by_cases hq : q1 = 0
    · simp [hq, value_text.f]
    by_cases hq2 : q1 = 2
    · rw [w64 (n := (q3.size : Int) + s.size) (by omega) (by omega)]
      by_cases hsz : (q3.size : Int) + s.size ≤ 1024
      · have : q3.size + s.size ≤ 9223372036854775807 := by omega
        simp [hq2, hsz, this, value_text.f]
      · simp [hq2, hsz]
    · simp [hq, hq2]
  · simp [h1, h2, h3, h4, h5]
def may (key : ByteArray) (c n : Int) (s : ByteArray) : Int :=
  if (key.size : Int) < 1 ∨ (key.size : Int) > 16 then 1
  else if c = 1 ∨ c = 3 then (if s.toList = [] then (if n < -2305843009213693952 ∨ n ≥ 2305843009213693952 then 1 else 0) else 13)
  else if c = 2 ∨ c = 4 then (if n = 0 then (if (s.size : Int) > 32 then 1 else 0) else 13)
  else if c = 5 then (if n = 0 ∧ s.toList = [] then 0 else 13)
  else 5
theorem may_ok (k : Nat) (key : ByteArray) (c n : Int) (s : ByteArray) : value_May.f (k + 4) key c n s = some (may key c n s) := by
  unfold value_May.f may
  by_cases a1 : (key.size : Int) < 1
  · simp [a1, value_May.j0]
  by_cases a2 : (key.size : Int) > 16
  · simp [a1, a2, value_May.j0]
  simp only [a1, a2, or_self, if_false, decide_false]
  by_cases c1 : c = 1
  · subst c1
    by_cases d1 : s.toList = [] <;> by_cases d2 : n < -2305843009213693952 <;> by_cases d3 : n ≥ 2305843009213693952 <;> simp [value_May.j0, value_May.j1, d1, d2, d3]
  by_cases c3 : c = 3
  · subst c3
    by_cases d1 : s.toList = [] <;> by_cases d2 : n < -2305843009213693952 <;> by_cases d3 : n ≥ 2305843009213693952 <;> simp [value_May.j0, value_May.j1, d1, d2, d3]
  by_cases c2 : c = 2
  · subst c2
    by_cases d1 : n = 0 <;> by_cases d2 : (s.size : Int) > 32 <;> simp [value_May.j0, value_May.j1, value_May.j2, d1, d2]
  by_cases c4 : c = 4
  · subst c4
    by_cases d1 : n = 0 <;> by_cases d2 : (s.size : Int) > 32 <;> simp [value_May.j0, value_May.j1, value_May.j2, d1, d2]
  by_cases c5 : c = 5
  · subst c5
    by_cases d1 : n = 0 <;> by_cases d2 : s.toList = [] <;> simp [value_May.j0, value_May.j1, value_May.j2, d1, d2]
  · simp [value_May.j0, value_May.j1, value_May.j2, c1, c2, c3, c4, c5]
def all (v : Val) : List S25 → Val
  | [] => v
  | u :: l => all (app v u.f1 u.f2 u.f3) l
theorem wrap_wf (n : Int) : (Lit.int .i64 (wrap64 n)).wf = true := wrap64_wf n
theorem z0 : (Lit.int .i64 0).wf = true := by decide
theorem ok_num (n : Int) (h : (Lit.int .i64 n).wf = true) : Ok (1, n, none') := ⟨by show (0 : Int) ≤ 1; decide, by show (1 : Int) ≤ 2; decide, Nat.zero_le _, h⟩
theorem ok_txt (s : ByteArray) (h : s.size ≤ 140737488351232) : Ok (2, 0, s) := ⟨by show (0 : Int) ≤ 2; decide, by show (2 : Int) ≤ 2; decide, h, z0⟩
theorem ok_nil : Ok (0, 0, none') := ⟨by decide, by decide, Nat.zero_le _, z0⟩
theorem clean_good (v : Val) (hv : Ok v) : Ok (clean v) := by
  obtain ⟨g0, g1, g2, g3⟩ := hv
  unfold clean
  by_cases h1 : v.1 = 1
  · rw [if_pos h1]; exact ok_num _ g3
  rw [if_neg h1]
  by_cases h2 : v.1 = 2
  · rw [if_pos h2]; exact ok_txt _ g2
  · rw [if_neg h2]; exact ok_nil
theorem app_ok (v : Val) (u : S25) (hv : Ok v) (hs : u.f3.size ≤ 140737488351232) (hn : (Lit.int .i64 u.f2).wf = true) : Ok (app v u.f1 u.f2 u.f3) := by
  have cl := clean_good v hv
  unfold app
  by_cases h1 : u.f1 = 1
  · rw [if_pos h1]; exact ok_num _ hn
  rw [if_neg h1]
  by_cases h2 : u.f1 = 2
  · rw [if_pos h2]; exact ok_txt _ hs
  rw [if_neg h2]
  by_cases h5 : u.f1 = 5
  · rw [if_pos h5]; exact ok_nil
  rw [if_neg h5]
  by_cases h3 : u.f1 = 3
  · rw [if_pos h3]
    by_cases hq : (clean v).1 = 2
    · rw [if_pos hq]; exact cl
    · rw [if_neg hq]; exact ok_num _ (wrap_wf _)
  rw [if_neg h3]
  by_cases h4 : u.f1 = 4
  · rw [if_pos h4]
    by_cases hq : (clean v).1 = 0
    · rw [if_pos hq]; exact ok_txt _ hs
    rw [if_neg hq]
    by_cases hq2 : (clean v).1 = 2
    · rw [if_pos hq2]
      by_cases hz : ((clean v).2.2.size : Int) + u.f3.size ≤ 1024
      · rw [if_pos hz]; exact ok_txt _ (by rw [ByteArray.size_append]; omega)
      · rw [if_neg hz]; exact cl
    · rw [if_neg hq2]; exact cl
  · rw [if_neg h4]; exact cl
theorem rd25 (l : List S25) (i : Nat) (h : i < l.length) : rd_T25 l (i : Int) = l[i] := by simp [rd_T25, List.getD_eq_getElem?_getD, h]
theorem vall_walk (l : List S25) (hl : ∀ u ∈ l, G25 u) (hn : l.length ≤ 140737488351232) (d : Nat) : ∀ (k i : Nat) (v : Val), i + d = l.length → d < k → Ok v →
    value_All.l0 k l (l.length : Int) (i : Int) v.1 v.2.1 v.2.2 = some (all v (l.drop i)) := by
  induction d with
  | zero =>
    intro k i v hi hk _
    obtain ⟨k, rfl⟩ : ∃ m, k = m + 1 := ⟨k - 1, by omega⟩
    simp only [value_All.l0]
    rw [if_neg (by omega), List.drop_eq_nil_of_le (by omega)]
    rfl
  | succ d ih =>
    intro k i v hi hk hv
    obtain ⟨k, rfl⟩ : ∃ m, k = m + 1 := ⟨k - 1, by omega⟩
    have hil : i < l.length := by omega
    have hu := hl l[i] (List.getElem_mem hil)
    simp only [value_All.l0]
    rw [if_pos (by omega), if_pos (by omega), if_pos (by omega), rd25 l i hil, apply_ok v _ _ _ _ hv.2.2.1 hu.2.2.2]
    simp only [Option.bind_some]
    rw [w64 (n := (i : Int) + 1) (by omega) (by omega), List.drop_eq_getElem_cons hil]
    exact ih k (i + 1) _ (by omega) (by omega) (app_ok v l[i] hv hu.2.2.2 hu.2.2.1)
theorem vall_ok (k : Nat) (v : Val) (l : List S25) (hv : Ok v) (hl : ∀ u ∈ l, G25 u) (hn : l.length ≤ 140737488351232) (hk : l.length < k) : value_All.f k v.1 v.2.1 v.2.2 l = some (all v l) := by
  unfold value_All.f
  have := vall_walk l hl hn l.length k 0 v (by omega) hk hv
  simpa using this
theorem ok0 : Ok (0, 0, none') := ok_nil
theorem awake_ok (k : Nat) : chapbooklaw04_awake.f (k + 8) = some true := by
  have b0 : (Lit.int .i64 0).wf = true := by decide
  have g : ∀ (s : ByteArray) (c n : Int), s.size ≤ 1 → (Lit.int .i64 c).wf = true → (Lit.int .i64 n).wf = true → G25 ⟨none', c, n, s⟩ := fun s c n h1 h2 h3 => ⟨Nat.zero_le _, h2, h3, by show s.size ≤ _; omega⟩
  have e1 : all (0, 0, none') [⟨none', 3, 3, none'⟩, ⟨none', 3, 4, none'⟩, ⟨none', 4, 0, ⟨#[120]⟩⟩] = (1, 7, none') := by
    simp [all, app, clean, w64]
  have e2 : all (1, 7, none') [⟨none', 2, 0, ⟨#[97]⟩⟩, ⟨none', 4, 0, ⟨#[98]⟩⟩, ⟨none', 3, 1, none'⟩] = (2, 0, ⟨#[97]⟩ ++ ⟨#[98]⟩) := by
    simp [all, app, clean]
    decide
  unfold chapbooklaw04_awake.f
  have h1 := vall_ok (k + 8) (0, 0, none') [⟨none', 3, 3, none'⟩, ⟨none', 3, 4, none'⟩, ⟨none', 4, 0, ⟨#[120]⟩⟩] ok0 (by
    intro u hu
    simp only [List.mem_cons, List.not_mem_nil, or_false] at hu
    rcases hu with rfl | rfl | rfl
    · exact g _ _ _ (by decide) (by decide) (by decide)
    · exact g _ _ _ (by decide) (by decide) (by decide)
    · exact g _ _ _ (by decide) (by decide) (by decide)) (by simp) (by simp)
  rw [e1] at h1
  have h2 := vall_ok (k + 8) (1, 7, none') [⟨none', 2, 0, ⟨#[97]⟩⟩, ⟨none', 4, 0, ⟨#[98]⟩⟩, ⟨none', 3, 1, none'⟩] (ok_num 7 (by decide)) (by
    intro u hu
    simp only [List.mem_cons, List.not_mem_nil, or_false] at hu
    rcases hu with rfl | rfl | rfl
    · exact g _ _ _ (by decide) (by decide) (by decide)
    · exact g _ _ _ (by decide) (by decide) (by decide)
    · exact g _ _ _ (by decide) (by decide) (by decide)) (by simp) (by simp)
  rw [e2] at h2
  have h3 := apply_ok (2, 0, ⟨#[97]⟩ ++ ⟨#[98]⟩) none' 5 0 none' (by decide) (by decide)
  rw [h1]
  simp only [Option.bind_some]
  rw [h2]
  simp only [Option.bind_some]
  rw [h3, may_ok, may_ok]
  have t1 : (none' : ByteArray).toList = [] := by rw [ByteArray.toList_eq]
  have t2 : ((⟨#[97]⟩ : ByteArray) ++ ⟨#[98]⟩).toList = [97, 98] := by rw [ByteArray.toList_eq]; decide
  simp [t1, t2, app, may]
  decide
theorem awake_ge {k : Nat} (hk : 8 ≤ k) : chapbooklaw04_awake.f k = some true := by
  obtain ⟨m, rfl⟩ : ∃ m, k = m + 8 := ⟨k - 8, by omega⟩
  exact awake_ok m
theorem add_two (n a b : Int) : wrap64 (wrap64 (n + a) + b) = wrap64 (n + wrap64 (a + b)) := by unfold wrap64; omega
theorem add_swap (n a b : Int) : wrap64 (wrap64 (n + b) + a) = wrap64 (n + wrap64 (a + b)) := by unfold wrap64; omega
def uA (n : Int) : S25 := ⟨none', 3, n, none'⟩
def uS (s : ByteArray) : S25 := ⟨none', 4, 0, s⟩
theorem gA {n : Int} (h : (Lit.int .i64 n).wf = true) : G25 (uA n) := ⟨Nat.zero_le _, by show (Lit.int .i64 3).wf = true; decide, h, Nat.zero_le _⟩
theorem gS {s : ByteArray} (h : s.size ≤ 140737488351232) : G25 (uS s) := ⟨Nat.zero_le _, by show (Lit.int .i64 4).wf = true; decide, by show (Lit.int .i64 0).wf = true; decide, h⟩
theorem app_add (n a : Int) (s : ByteArray) : app (1, n, none') 3 a s = (1, wrap64 (n + a), none') := by simp [app, clean]
theorem app_app (t s : ByteArray) (n : Int) (h : t.size + s.size ≤ 1024) : app (2, 0, t) 4 n s = (2, 0, t ++ s) := by
  have h2 : (t.size : Int) + s.size ≤ 1024 := by omega
  simp [app, clean, h2]
theorem app_none (n m : Int) (s : ByteArray) : app (1, n, none') 4 m s = (1, n, none') := by simp [app, clean]
theorem app_txt (t s : ByteArray) (a : Int) : app (2, 0, t) 3 a s = (2, 0, t) := by simp [app, clean]
variable (n a b : Int) (s0 s1 s2 : ByteArray)
theorem st_1 (hn : (Lit.int .i64 n).wf = true) (ha : (Lit.int .i64 a).wf = true) (hb : (Lit.int .i64 b).wf = true) : value_All.f 9 1 n none' [uA a, uA b] = some (1, wrap64 (n + wrap64 (a + b)), none') := by
  have h := vall_ok 9 (1, n, none') [uA a, uA b] (ok_num n hn) (by intro u hu; simp at hu; rcases hu with rfl | rfl; exact gA ha; exact gA hb) (by show 2 ≤ 140737488351232; decide) (by show 2 < 9; decide)
  rw [h]
  show some (app (app (1, n, none') 3 a none') 3 b none') = _
  rw [app_add, app_add, add_two]
theorem st_2 (hn : (Lit.int .i64 n).wf = true) (ha : (Lit.int .i64 a).wf = true) (hb : (Lit.int .i64 b).wf = true) : value_All.f 9 1 n none' [uA b, uA a] = some (1, wrap64 (n + wrap64 (a + b)), none') := by
  have h := vall_ok 9 (1, n, none') [uA b, uA a] (ok_num n hn) (by intro u hu; simp at hu; rcases hu with rfl | rfl; exact gA hb; exact gA ha) (by show 2 ≤ 140737488351232; decide) (by show 2 < 9; decide)
  rw [h]
  show some (app (app (1, n, none') 3 b none') 3 a none') = _
  rw [app_add, app_add, add_swap]
theorem st_3 : value_Apply.f 1 n none' none' 3 (wrap64 (a + b)) none' = some (1, wrap64 (n + wrap64 (a + b)), none') := by
  have h := apply_ok (1, n, none') none' 3 (wrap64 (a + b)) none' (Nat.zero_le _) (Nat.zero_le _)
  rw [app_add] at h
  exact h
theorem st_4 (h0 : s0.size ≤ 300) (h1 : s1.size ≤ 300) (h2 : s2.size ≤ 300) : value_All.f 9 2 0 s0 [uS s1, uS s2] = some (2, 0, s0 ++ s1 ++ s2) := by
  have h := vall_ok 9 (2, 0, s0) [uS s1, uS s2] (ok_txt s0 (by omega)) (by intro u hu; simp at hu; rcases hu with rfl | rfl; exact gS (by omega); exact gS (by omega)) (by show 2 ≤ 140737488351232; decide) (by show 2 < 9; decide)
  rw [h]
  show some (app (app (2, 0, s0) 4 0 s1) 4 0 s2) = _
  rw [app_app _ _ _ (by omega), app_app _ _ _ (by rw [ByteArray.size_append]; omega)]
theorem st_5 (h0 : s0.size ≤ 300) (h1 : s1.size ≤ 300) (h2 : s2.size ≤ 300) : value_Apply.f 2 0 s0 none' 4 0 (s1 ++ s2) = some (2, 0, s0 ++ s1 ++ s2) := by
  have h := apply_ok (2, 0, s0) none' 4 0 (s1 ++ s2) (by show s0.size ≤ _; omega) (by rw [ByteArray.size_append]; omega)
  rw [app_app _ _ _ (by rw [ByteArray.size_append]; omega), ← ByteArray.append_assoc] at h
  exact h
theorem st_6 (h1 : s1.size ≤ 300) : value_Apply.f 1 n none' none' 4 0 s1 = some (1, n, none') := by
  have h := apply_ok (1, n, none') none' 4 0 s1 (Nat.zero_le _) (by omega)
  rw [app_none] at h
  exact h
theorem st_7 (h0 : s0.size ≤ 300) : value_Apply.f 2 0 s0 none' 3 a none' = some (2, 0, s0) := by
  have h := apply_ok (2, 0, s0) none' 3 a none' (by show s0.size ≤ _; omega) (Nat.zero_le _)
  rw [app_txt] at h
  exact h
end Go.Proofs.Ytcmldinhecjcmaa.J
