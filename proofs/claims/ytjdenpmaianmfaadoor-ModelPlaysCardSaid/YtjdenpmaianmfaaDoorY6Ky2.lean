/- The document's Len over updates and rounds; its Client's Read and Len. -/
import Derived.Test.YtjdenpmaianmfaaDoorY6Do1
namespace Go.Proofs.YtjdenpmaianmfaaDoor.J
set_option maxHeartbeats 16000000
set_option maxRecDepth 100000
set_option linter.unusedSimpArgs false
set_option linter.unusedVariables false
open Go RowKit YtjdenpmaianmfaaDoorW.PrintWords YtjdenpmaianmfaaDoorW.PrintLast YtjdenpmaianmfaaDoorW.PrintMore Q YtjdenpmaianmfaaDoor.Sep YtjdenpmaianmfaaDoor.Pure
attribute [local go_sem] field_V
theorem infoS17 : (Tryd.prog.info? 9).map (fun i => (i.zero, i.size, i.bytes)) = some (some (.string ⟨#[]⟩), 1, 16) := by kernel_rfl
theorem flatS17 : Flat Kd.string := flat_scalar
def sAt17 (xs : List ByteArray) (x : Int) : ByteArray := xs.getD x.toNat ⟨#[]⟩
theorem sAt_get {xs : List ByteArray} {x : Int} (h0 : 0 ≤ x) (h1 : x < xs.length) : xs[x.toNat]? = some (sAt17 xs x) := by
 unfold sAt17
 rw [List.getD_eq_getElem?_getD, List.getElem?_eq_getElem (by omega)]
 rfl
theorem at_S17 {w : World} {A : Option Addr} {n : Nat} {xs : List ByteArray} (h : Kd.string.C w A n xs) (x : Int) (h0 : 0 ≤ x) (h1 : x < n) : ∃ ad, A = some ad ∧ w.cell? (ad.add x.toNat) = some (.string (sAt17 xs x)) := by
 obtain ⟨ad, c, e, hl, hk, hc⟩ := ReadsRow.get_ h (⟨#[]⟩ : ByteArray) x h0 h1
 have hk' : c = [.string (sAt17 xs x)] := hk
 subst hk'
 have q := hc 0 _ rfl
 have e1 : x.toNat * Kd.string.sz + 0 = x.toNat := by show x.toNat * 1 + 0 = x.toNat; omega
 rw [e1] at q
 exact ⟨ad, e, q⟩
theorem repS17 (W : World) (k : ByteArray) : Reps (Kd.FK Kd.string W (fun _ => False)) 1 [k] [k] := (Reps.none _ 1).snoc (p := k) (c := [k]) (flatS17.FK (w := W) rfl) rfl
theorem cutS17 {A : Option Addr} {n c : Nat} (j : Int) (h0 : 0 ≤ j) (h1 : j ≤ n) (hc : n ≤ c) : (∀ W : World, (Instr.slice 59 (.slice A n c) (some (.int .i64 j)) none none).run Tryd.prog W = .ok (.slice (if c = j.toNat then A else A.map (·.add (j.toNat * 1))) (n - j.toNat) (c - j.toNat)) W) ∧ ∀ W : World, (Instr.slice 59 (.slice A n c) none (some (.int .i64 j)) none).run Tryd.prog W = .ok (.slice A j.toNat c) W := by
 obtain ⟨i0_, hi0_, hi1_⟩ := Option.map_eq_some_iff.1 infoS17
 simp only [Prod.mk.injEq] at hi1_
 exact ⟨cut_from 59 9 .i64 Tryd.underlying59 hi0_ 1 hi1_.2.1 A n c j h0 h1, cut_to 59 9 .i64 Tryd.underlying59 hi0_ A n c j h0 h1 hc⟩
theorem dropS17 {w : World} {A : Option Addr} {n c m : Nat} {xs : List ByteArray} (h : Kd.string.C w A n xs) (hm : m ≤ n) (hc : n ≤ c) : Kd.string.C w (if c = m then A else A.map (·.add (m * 1))) (n - m) (xs.drop m) := by
 have e : n = xs.length := h.1.symm
 subst e
 have q := Kd.C_drop (m := m) h hm hc
 rw [List.length_drop] at q
 exact q
def KyI (N : Nat → Prop) (w : World) (l : List Upd7) (v i : Value) (wr : World) : Prop := ∃ (x : Int) (A3 : Option Addr) (c3 : Nat) (out : List ByteArray), 0 ≤ x ∧ x ≤ (l.length : Int) ∧ i = .int .i64 x ∧ v = .slice A3 out.length c3 ∧ Aside0 (KeysIs l x.toNat out) ∧ Aside0 (Own N wr [nrow Kd.string 9 (.slice A3 out.length c3) out]) ∧ Aside0 (KeepS N w wr)
def KyJ (N : Nat → Prop) (w : World) (A3 : Option Addr) (c3 : Nat) (out : List ByteArray) (key : ByteArray) (j : Value) (wr : World) : Prop := ∃ y : Int, 0 ≤ y ∧ y ≤ (out.length : Int) ∧ j = .int .i64 y ∧ Aside0 (Low out y.toNat key) ∧ Aside0 (Own N wr [nrow Kd.string 9 (.slice A3 out.length c3) out]) ∧ Aside0 (KeepS N w wr)
theorem DKeys {N : Nat → Prop} {w : World} (A0 : Option Addr) (c0 : Nat) (l : List Upd7) (h : Own N w []) (hr : Kd.F kU7 w N A0 l.length l) (hc : l.length ≤ c0) (hl : l.length ≤ 1000000) :
  Calls Tryd.prog 88 #[.slice A0 l.length c0] w fun e_ w' => ∃ A3 c3 out, (out.Nodup ∧ ∀ key, key ∈ out ↔ (doL zeroM l key).1 ≠ 0) ∧ e_ = .returned (.slice A3 out.length c3) ∧ Own N w' [nrow Kd.string 9 (.slice A3 out.length c3) out] ∧ KeepS N w w' := by
 have HLB := Am hl
 have HRW := Am hr
 have HC0 := Am hc
 have O0 : Aside0 (Own N w []) := ⟨h⟩
 have K0 : Aside0 (KeepS N w w) := ⟨KeepS.refl _ _⟩
 clear h hl hr hc
 go_enter Tryd.func88, Tryd.ntmps88
 go_wp2_with (first | ((with_reducible refine gD 8 rfl ?_); refine own_lit Kd.string (N := N) (e := 9) (xs := []) (inner := []) rfl (D := 8) rfl gs_ (Reps.none _ _) (by simp) O0.out ?_; intro B0 b0 w1 o_ k_; obtain ⟨O1, K1⟩ := ok_ K0 o_ k_; clear O0 K0 o_ k_))
 go_loopw [3, 4] (fun v i wr => KyI N w l v i wr) (fun _ i _ => l.length - (intOf i).toNat)
 case atStart => exact ⟨0, B0, b0, [], by omega, by omega, rfl, rfl, ⟨KeysIs.zero l⟩, O1, K1⟩
 case round =>
  obtain ⟨x, A3, c3, out, hx0, hx1, rfl, rfl, HI, OA, KA⟩ := hrel
  have hl1 := HLB.out
  have hF2 := keepF HRW.out KA.out
  by_cases hlt : x < (l.length : Int)
  ·obtain ⟨ad, e3, x0, x1, x2, x3⟩ := at_T32 (Kd.F_now hF2) x hx0 hlt
   cases e3
   have hs2 : wrap64 (x + 1) = x + 1 := by unfold wrap64; omega
   have hp := eq_true hx0
   have hq := eq_true hlt
   have hd := decide_eq_true hlt
   have HX := Am (And.intro hx0 hlt)
   obtain ⟨key, hkey⟩ : ∃ k, (rd_T32 l x).f0 = k := ⟨_, rfl⟩
   rw [hkey] at x0
   have HKEY := Am hkey
   obtain ⟨V, hV⟩ : ∃ V, doL zeroM l key = V := ⟨_, rfl⟩
   have HV := Am hV
   have HGET : Aside0 (chapbookref05_Get.f (l.length + 8) key l = some (V.1, V.2.1, V.2.2)) := ⟨by rw [get_ok17 _ key l hl1 (Nat.le_refl _), hV]⟩
   clear hkey hV
   have HF2 := Am hF2
   have HLO : Aside0 (out.length ≤ 1000000) := ⟨by have := HI.out.2.1; omega⟩
   clear hF2 x1 x2 x3
   by_cases hk : V.1 = 0
   ·have dk : (V.1 == 0) = true := beq_iff_eq.mpr hk
    have HK := Am hk
    clear hk hx0 hx1 hlt hl1
    have O2 : Aside0 (Own N wr [nrow Kd.string 9 (.slice A3 out.length c3) out]) := ⟨OA.out⟩
    have K2 : Aside0 (KeepS N w wr) := ⟨KA.out⟩
    have HRI_2 : Aside0 (Kd.F kU7 wr N (some ad) l.length l) := ⟨HF2.out⟩
    clear OA KA HF2
    go_wp2_with (first | ((with_reducible refine gC 67 rfl ?_); refine gP (some 22) Tryd.func67 #[key, .slice (some ad) l.length c0] ?_; refine (chapbookref05_Get.calls (l.length + 8) key _ _ l V.1 V.2.1 V.2.2 _ (Kd.F_now HRI_2.out) HC0.out HGET.out).mono ?_; rintro e_ w3 ⟨rfl, hb_⟩; refine ⟨_, rfl, ?_⟩; have o_ := O2.out.below hb_; have k_ := KeepS.of_below (N := N) hb_; obtain ⟨O3, K3⟩ := ok_ K2 o_ k_; have HRI_3 := Am (keepF HRI_2.out k_); clear O2 K2 HRI_2 o_ k_ hb_))
    go_roundw
    case rel => exact ⟨x + 1, A3, c3, out, by have := HX.out; omega, by have := HX.out; omega, int_eq17 (by unfold wrap64; have := HX.out; have := HLB.out; omega), rfl, ⟨HI.out.skip HX.out.1 HX.out.2 (.inl (by rw [HKEY.out, HV.out]; exact HK.out))⟩, O3, K3⟩
    case measure => have := HX.out; simp [intOf]; omega
   ·have dk : (V.1 == 0) = false := beq_eq_false_iff_ne.mpr hk
    have HK := Am hk
    clear hk hx0 hx1 hlt hl1
    have O2 : Aside0 (Own N wr [nrow Kd.string 9 (.slice A3 out.length c3) out]) := ⟨OA.out⟩
    have K2 : Aside0 (KeepS N w wr) := ⟨KA.out⟩
    have HRI_2 : Aside0 (Kd.F kU7 wr N (some ad) l.length l) := ⟨HF2.out⟩
    clear OA KA HF2
    go_wp2_with (first | ((with_reducible refine gC 67 rfl ?_); refine gP (some 22) Tryd.func67 #[key, .slice (some ad) l.length c0] ?_; refine (chapbookref05_Get.calls (l.length + 8) key _ _ l V.1 V.2.1 V.2.2 _ (Kd.F_now HRI_2.out) HC0.out HGET.out).mono ?_; rintro e_ w3 ⟨rfl, hb_⟩; refine ⟨_, rfl, ?_⟩; have o_ := O2.out.below hb_; have k_ := KeepS.of_below (N := N) hb_; obtain ⟨O3, K3⟩ := ok_ K2 o_ k_; have HRI_3 := Am (keepF HRI_2.out k_); clear O2 K2 HRI_2 o_ k_ hb_))
    go_loopw [6] (fun j wr => KyJ N w3 A3 c3 out key j wr) (fun j _ => out.length - (intOf j).toNat)
    case atStart => exact ⟨0, by omega, by omega, rfl, ⟨low_zero _ _⟩, O3, ⟨KeepS.refl _ _⟩⟩
    case round =>
     obtain ⟨y, hy0, hy1, rfl, HJ, OB, KB⟩ := hrel
     have hlo := HLO.out
     by_cases hly : y < (out.length : Int)
     ·obtain ⟨a2, e4, y0⟩ := at_S17 (OB.out.nreads (i := 0) rfl).2.2 y hy0 hly
      cases e4
      obtain ⟨sk, hsk⟩ : ∃ k, sAt17 out y = k := ⟨_, rfl⟩
      rw [hsk] at y0
      have HSK : Aside0 (out[y.toNat]? = some sk) := ⟨by rw [← hsk]; exact sAt_get hy0 hly⟩
      clear hsk
      have hs3 : wrap64 (y + 1) = y + 1 := by unfold wrap64; omega
      have hp2 := eq_true hy0
      have hq2 := eq_true hly
      have hd2 := decide_eq_true hly
      have HY := Am (And.intro hy0 hly)
      by_cases hc : Op.bytesLess sk.toList key.toList = true
      ·have HCM := Am hc
       clear hy0 hy1 hly hlo
       have O4 : Aside0 (Own N wr [nrow Kd.string 9 (.slice (some a2) out.length c3) out]) := ⟨OB.out⟩
       have K4 : Aside0 (KeepS N w3 wr) := ⟨KB.out⟩
       clear OB KB
       go_wp2
       go_roundw
       case rel => exact ⟨y + 1, by have := HY.out; omega, by have := HY.out; omega, int_eq17 (by unfold wrap64; have := HY.out; have := HLO.out; omega), ⟨by rw [show (y + 1).toNat = y.toNat + 1 by have := HY.out; omega]; exact low_succ HJ.out HSK.out HCM.out⟩, O4, K4⟩
       case measure => have := HY.out; simp [intOf]; omega
      ·have hcb : Op.bytesLess sk.toList key.toList = false := by simpa using hc
       have HCM := Am hc
       by_cases he : sk = key
       ·have HE := Am he
        have hef : (sk.toList == key.toList) = true := by rw [he]; exact beq_self_eq_true _
        clear hc he hy0 hy1 hly hlo
        have O4 : Aside0 (Own N wr [nrow Kd.string 9 (.slice (some a2) out.length c3) out]) := ⟨OB.out⟩
        have K4 : Aside0 (KeepS N w3 wr) := ⟨KB.out⟩
        clear OB KB
        go_wp2
        go_roundw
        case rel => exact ⟨x + 1, (some a2), c3, out, by have := HX.out; omega, by have := HX.out; omega, int_eq17 (by unfold wrap64; have := HX.out; have := HLB.out; omega), rfl, ⟨HI.out.skip HX.out.1 HX.out.2 (.inr (by rw [HKEY.out, ← HE.out]; exact List.mem_of_getElem? HSK.out))⟩, O4, ⟨K3.out.trans K4.out⟩⟩
        case measure => have := HX.out; simp [intOf]; omega
       ·have HE := Am he
        have hef : (sk.toList == key.toList) = false := beq_eq_false_iff_ne.mpr (fun e => he (toList_inj17 e))
        have hcc := (OB.out.nreads (i := 0) rfl).2.1
        obtain ⟨hcf, hct⟩ := cutS17 (A := (some a2)) (n := out.length) (c := c3) y hy0 hy1 hcc
        obtain ⟨m, hm⟩ : ∃ m, m = y.toNat := ⟨_, rfl⟩
        rw [← hm] at hcf hct
        have HMY := Am hm
        have HM : Aside0 (m ≤ out.length) := ⟨by omega⟩
        obtain ⟨BB, hBB⟩ : ∃ B, B = (if c3 = m then ((some a2) : Option Addr) else ((some a2) : Option Addr).map (·.add (m * 1))) := ⟨_, rfl⟩
        rw [← hBB] at hcf
        have HBB := Am hBB
        obtain ⟨T, hT⟩ : ∃ T, out.take m = T := ⟨_, rfl⟩
        obtain ⟨D, hD⟩ : ∃ D, out.drop m = D := ⟨_, rfl⟩
        have HLT : Aside0 (T.length ≤ out.length) := ⟨by rw [← hT, List.length_take]; omega⟩
        have HLD : Aside0 (D.length = out.length - m ∧ D.length ≤ out.length) := ⟨by rw [← hD, List.length_drop]; omega⟩
        obtain ⟨T2, hT2⟩ : ∃ T2, T ++ [key] = T2 := ⟨_, rfl⟩
        obtain ⟨Z, hZ⟩ : ∃ Z, T2 ++ D = Z := ⟨_, rfl⟩
        have HLT2 : Aside0 (T2.length = T.length + 1) := ⟨by rw [← hT2]; simp⟩
        have HT := Am hT
        have HD := Am hD
        have HT2 := Am hT2
        have HZ := Am hZ
        clear hm hBB hT hD hcc hT2 hZ hc he hy0 hy1 hly hlo
        have O4 : Aside0 (Own N wr [nrow Kd.string 9 (.slice (some a2) out.length c3) out]) := ⟨OB.out⟩
        have K4 : Aside0 (KeepS N w3 wr) := ⟨KB.out⟩
        clear OB KB
        go_wp2_with (first | ((with_reducible refine gD 51 rfl ?_); refine own_lit Kd.string (N := N) (e := 9) (xs := []) (inner := []) rfl (D := 51) rfl gs_ (Reps.none _ _) (by simp) O4.out ?_; intro R0 r0_ w5 o_ k_; obtain ⟨O5, K5⟩ := ok_ K4 o_ k_; clear O4 K4 o_ k_) | ((with_reducible refine gate_builtin (b := .append) (xs := #[.tmp 51, .tmp 54]) rfl ?_); at_builtin; refine Own.append_flat Kd.string flatS17 O5.out (i := 1) (ys := D) rfl ((by rw [HBB.out, ← HD.out]; exact dropS17 (O5.out.nreads (i := 0) rfl).2.2 HM.out (O5.out.nreads (i := 0) rfl).2.1)) rfl (.tmp 51) (.tmp 54) 59 (.string ⟨#[]⟩) 16 rfl Tryd.underlying59 infoS17 rfl (by decide) (by decide) rfl rfl (by have := HLD.out; have := HLO.out; simp only [List.length_nil]; omega) ?_; intro R1 r1_ w6 o_ k_; obtain ⟨O6, K6⟩ := ok_ K5 o_ k_; clear O5 K5 o_ k_) | ((with_reducible refine gD 60 rfl ?_); refine own_lit Kd.string (N := N) (e := 9) (xs := [key]) (inner := [key]) rfl (D := 60) rfl gs_ ?hp (by show 1 ≤ 9223372036854775807; decide) O6.out ?_; (case hp => exact repS17 _ key); intro K0 k0_ w7 o_ k_; obtain ⟨O7, K7⟩ := ok_ K6 o_ k_; clear O6 K6 o_ k_) | ((with_reducible refine gate_builtin (b := .append) (xs := #[.tmp 58, .tmp 60]) rfl ?_); at_builtin; have oT_ := (O7.out.conv (i := 0) rfl (nrow Kd.string 9 (.slice (some a2) m c3) T) (fun F hp _ => by have q_ := Kd.N_take (m := m) hp HM.out; rw [HT.out] at q_; exact q_)); refine Own.append_flat Kd.string flatS17 oT_ (i := 0) (ys := [key]) rfl ((O7.out.nreads (i := 2) rfl).2.2) rfl (.tmp 58) (.tmp 60) 59 (.string ⟨#[]⟩) 16 rfl Tryd.underlying59 infoS17 rfl (by decide) (by decide) rfl rfl (by have := HLT.out; have := HLO.out; omega) ?_; rw [HT2.out]; intro K1 k1_ w8 o_ k_; obtain ⟨O8, K8⟩ := ok_ K7 o_ k_; clear O7 K7 o_ k_) | ((with_reducible refine gate_builtin (b := .append) (xs := #[.tmp 61, .tmp 62]) rfl ?_); at_builtin; refine Own.append_flat Kd.string flatS17 O8.out (i := 0) (ys := D) rfl ((O8.out.nreads (i := 1) rfl).2.2) rfl (.tmp 61) (.tmp 62) 59 (.string ⟨#[]⟩) 16 rfl Tryd.underlying59 infoS17 rfl (by decide) (by decide) rfl rfl (by have := HLT.out; have := HLT2.out; have := HLO.out; have := HLD.out; omega) ?_; rw [HZ.out]; intro A7 c7 w9 o_ k_; obtain ⟨O9, K9⟩ := ok_ K8 o_ k_; clear O8 K8 o_ k_))
        go_roundw
        case rel => exact ⟨x + 1, A7, c7, Z, by have := HX.out; omega, by have := HX.out; omega, int_eq17 (by unfold wrap64; have := HX.out; have := HLB.out; omega), rfl, ⟨by have q_ := HI.out.put HX.out.1 HX.out.2 m (by rw [HKEY.out, HV.out]; exact HK.out) (by rw [HKEY.out, HMY.out]; exact HJ.out) (by rw [HKEY.out]; exact HI.out.1.high (by rw [HMY.out]; exact HSK.out) (ltB_tot HCM.out HE.out)); rw [HKEY.out] at q_; unfold insAt at q_; rw [HT.out, HD.out, HT2.out, HZ.out] at q_; exact q_⟩, ⟨O9.out.take 1⟩, ⟨K3.out.trans K9.out⟩⟩
        case measure => have := HX.out; simp [intOf]; omega
     ·have hd2 : decide (y < (out.length : Int)) = false := decide_eq_false hly
      have HYE : Aside0 (y = (out.length : Int)) := ⟨by omega⟩
      have hcc := (OB.out.nreads (i := 0) rfl).2.1
      obtain ⟨hcf, hct⟩ := cutS17 (A := A3) (n := out.length) (c := c3) y hy0 hy1 hcc
      obtain ⟨m, hm⟩ : ∃ m, m = y.toNat := ⟨_, rfl⟩
      rw [← hm] at hcf hct
      have HMY := Am hm
      have HM : Aside0 (m ≤ out.length) := ⟨by omega⟩
      obtain ⟨BB, hBB⟩ : ∃ B, B = (if c3 = m then (A3 : Option Addr) else (A3 : Option Addr).map (·.add (m * 1))) := ⟨_, rfl⟩
      rw [← hBB] at hcf
      have HBB := Am hBB
      obtain ⟨T, hT⟩ : ∃ T, out.take m = T := ⟨_, rfl⟩
      obtain ⟨D, hD⟩ : ∃ D, out.drop m = D := ⟨_, rfl⟩
      have HLT : Aside0 (T.length ≤ out.length) := ⟨by rw [← hT, List.length_take]; omega⟩
      have HLD : Aside0 (D.length = out.length - m ∧ D.length ≤ out.length) := ⟨by rw [← hD, List.length_drop]; omega⟩
      obtain ⟨T2, hT2⟩ : ∃ T2, T ++ [key] = T2 := ⟨_, rfl⟩
      obtain ⟨Z, hZ⟩ : ∃ Z, T2 ++ D = Z := ⟨_, rfl⟩
      have HLT2 : Aside0 (T2.length = T.length + 1) := ⟨by rw [← hT2]; simp⟩
      have HT := Am hT
      have HD := Am hD
      have HT2 := Am hT2
      have HZ := Am hZ
      clear hm hBB hT hD hcc hT2 hZ hy0 hy1 hly hlo
      have O4 : Aside0 (Own N wr [nrow Kd.string 9 (.slice A3 out.length c3) out]) := ⟨OB.out⟩
      have K4 : Aside0 (KeepS N w3 wr) := ⟨KB.out⟩
      clear OB KB
      go_wp2_with (first | ((with_reducible refine gD 51 rfl ?_); refine own_lit Kd.string (N := N) (e := 9) (xs := []) (inner := []) rfl (D := 51) rfl gs_ (Reps.none _ _) (by simp) O4.out ?_; intro R0 r0_ w5 o_ k_; obtain ⟨O5, K5⟩ := ok_ K4 o_ k_; clear O4 K4 o_ k_) | ((with_reducible refine gate_builtin (b := .append) (xs := #[.tmp 51, .tmp 54]) rfl ?_); at_builtin; refine Own.append_flat Kd.string flatS17 O5.out (i := 1) (ys := D) rfl ((by rw [HBB.out, ← HD.out]; exact dropS17 (O5.out.nreads (i := 0) rfl).2.2 HM.out (O5.out.nreads (i := 0) rfl).2.1)) rfl (.tmp 51) (.tmp 54) 59 (.string ⟨#[]⟩) 16 rfl Tryd.underlying59 infoS17 rfl (by decide) (by decide) rfl rfl (by have := HLD.out; have := HLO.out; simp only [List.length_nil]; omega) ?_; intro R1 r1_ w6 o_ k_; obtain ⟨O6, K6⟩ := ok_ K5 o_ k_; clear O5 K5 o_ k_) | ((with_reducible refine gD 60 rfl ?_); refine own_lit Kd.string (N := N) (e := 9) (xs := [key]) (inner := [key]) rfl (D := 60) rfl gs_ ?hp (by show 1 ≤ 9223372036854775807; decide) O6.out ?_; (case hp => exact repS17 _ key); intro K0 k0_ w7 o_ k_; obtain ⟨O7, K7⟩ := ok_ K6 o_ k_; clear O6 K6 o_ k_) | ((with_reducible refine gate_builtin (b := .append) (xs := #[.tmp 58, .tmp 60]) rfl ?_); at_builtin; have oT_ := (O7.out.conv (i := 0) rfl (nrow Kd.string 9 (.slice A3 m c3) T) (fun F hp _ => by have q_ := Kd.N_take (m := m) hp HM.out; rw [HT.out] at q_; exact q_)); refine Own.append_flat Kd.string flatS17 oT_ (i := 0) (ys := [key]) rfl ((O7.out.nreads (i := 2) rfl).2.2) rfl (.tmp 58) (.tmp 60) 59 (.string ⟨#[]⟩) 16 rfl Tryd.underlying59 infoS17 rfl (by decide) (by decide) rfl rfl (by have := HLT.out; have := HLO.out; omega) ?_; rw [HT2.out]; intro K1 k1_ w8 o_ k_; obtain ⟨O8, K8⟩ := ok_ K7 o_ k_; clear O7 K7 o_ k_) | ((with_reducible refine gate_builtin (b := .append) (xs := #[.tmp 61, .tmp 62]) rfl ?_); at_builtin; refine Own.append_flat Kd.string flatS17 O8.out (i := 0) (ys := D) rfl ((O8.out.nreads (i := 1) rfl).2.2) rfl (.tmp 61) (.tmp 62) 59 (.string ⟨#[]⟩) 16 rfl Tryd.underlying59 infoS17 rfl (by decide) (by decide) rfl rfl (by have := HLT.out; have := HLT2.out; have := HLO.out; have := HLD.out; omega) ?_; rw [HZ.out]; intro A7 c7 w9 o_ k_; obtain ⟨O9, K9⟩ := ok_ K8 o_ k_; clear O8 K8 o_ k_))
      go_roundw
      case rel => exact ⟨x + 1, A7, c7, Z, by have := HX.out; omega, by have := HX.out; omega, int_eq17 (by unfold wrap64; have := HX.out; have := HLB.out; omega), rfl, ⟨by have q_ := HI.out.put HX.out.1 HX.out.2 m (by rw [HKEY.out, HV.out]; exact HK.out) (by rw [HKEY.out, HMY.out]; exact HJ.out) (by rw [HKEY.out]; exact (fun q hq => by rw [HMY.out, HYE.out, Int.toNat_natCast, List.drop_length] at hq; simp at hq)); rw [HKEY.out] at q_; unfold insAt at q_; rw [HT.out, HD.out, HT2.out, HZ.out] at q_; exact q_⟩, ⟨O9.out.take 1⟩, ⟨K3.out.trans K9.out⟩⟩
      case measure => have := HX.out; simp [intOf]; omega
  ·have hxe : x = (l.length : Int) := by omega
   subst hxe
   have hd : decide ((l.length : Int) < (l.length : Int)) = false := decide_eq_false (Int.lt_irrefl _)
   clear hlt hx0 hx1 hF2 hl1
   have O2 : Aside0 (Own N wr [nrow Kd.string 9 (.slice A3 out.length c3) out]) := ⟨OA.out⟩
   have K2 : Aside0 (KeepS N w wr) := ⟨KA.out⟩
   clear OA KA
   go_wp2
   go_ret
   exact ⟨A3, c3, out, by have q_ := HI.out; rw [Int.toNat_natCast] at q_; exact q_.all, rfl, O2.out, K2.out⟩
end Go.Proofs.YtjdenpmaianmfaaDoor.J
namespace Go.Proofs.YtjdenpmaianmfaaDoor.J
set_option maxHeartbeats 16000000
set_option maxRecDepth 100000
set_option linter.unusedSimpArgs false
set_option linter.unusedVariables false
open Go RowKit YtjdenpmaianmfaaDoorW.PrintWords YtjdenpmaianmfaaDoorW.PrintLast YtjdenpmaianmfaaDoorW.PrintMore Q YtjdenpmaianmfaaDoor.Sep YtjdenpmaianmfaaDoor.Pure
theorem state_flat (l0 : List Upd7) (l1 : List Rnd7) : doL zeroM (flatR l1 ++ l0) = stateOf l0 l1 := doL_app _ _ _
theorem D8Len {w : World} (A0 : Option Addr) (c0 : Nat) (l0 : List Upd7) (A1 : Option Addr) (c1 : Nat) (l1 : List Rnd7) (ho : Kd.C kU7 w A0 l0.length l0) (hc0 : l0.length ≤ c0) (hr : Kd.C kR7 w A1 l1.length l1) (hc1 : l1.length ≤ c1) (hb : (flatR l1).length + l0.length < 1000000) (hl : l1.length ≤ 1000000) :
  Calls Tryd.prog 51 #[.slice A0 l0.length c0, .slice A1 l1.length c1] w fun e_ w' => e_ = .returned (.int .i64 (cntK (stateOf l0 l1))) ∧ Below w.heap.size w w' := by
 obtain ⟨N, hN⟩ : ∃ N : Nat → Prop, N = fun k => k < w.heap.size := ⟨_, rfl⟩
 have HN := Am hN
 have HFO_0 : Aside0 (Kd.F kU7 w N A0 l0.length l0) := ⟨by rw [hN]; exact Kd.C_F heapU7 ho⟩
 have HFR_0 : Aside0 (Kd.F kR7 w N A1 l1.length l1) := ⟨by rw [hN]; exact Kd.C_F heapR7 hr⟩
 have HB := Am hb
 have HC0 := Am hc0
 have HC1 := Am hc1
 have HL1 := Am hl
 obtain ⟨FL, hFL⟩ : ∃ FL, flatR l1 ++ l0 = FL := ⟨_, rfl⟩
 have HFL := Am hFL
 have HFLL : Aside0 (FL.length ≤ 1000000) := ⟨by rw [← hFL, List.length_append]; omega⟩
 have O0 : Aside0 (Own N w []) := ⟨Own.start_ (fun k hk => by rw [hN] at hk; exact hk)⟩
 have K0 : Aside0 (KeepS N w w) := ⟨KeepS.refl _ _⟩
 clear hN ho hr hb hc0 hc1 hl hFL
 go_enter Tryd.func51, Tryd.ntmps51
 go_wp2_with (first | ((with_reducible refine gC 68 rfl ?_); refine gP (some 7) Tryd.func68 #[.slice A0 l0.length c0, .slice A1 l1.length c1] ?_; refine (chapbookref08_Flat.calls (l1.length + 1) _ _ l0 _ _ l1 FL _ (Kd.F_now HFO_0.out) HC0.out (Kd.F_now HFR_0.out) HC1.out (by rw [flat_ok _ l0 l1 HB.out HL1.out (Nat.le_refl _), HFL.out])).mono ?_; rintro e_ w1 ⟨v_, rfl, hR_, hb_⟩; obtain ⟨A5, c5, e__⟩ := Kd.R_slice hR_; subst e__; refine ⟨_, rfl, ?_⟩; have o_ := O0.out.pushR hb_ (Nat.le_refl _) hR_; have k_ := KeepS.of_below (N := N) hb_; obtain ⟨O1, K1⟩ := ok_ K0 o_ k_; have HFO_1 := Am (keepF HFO_0.out k_); have HFR_1 := Am (keepF HFR_0.out k_); clear O0 K0 HFO_0 HFR_0 o_ k_ hb_ hR_) | ((with_reducible refine gC 88 rfl ?_); refine gP (some 8) Tryd.func88 #[.slice A5 FL.length c5] ?_; obtain ⟨N_, on_, nn_, rr_, bb_⟩ := O1.out.frame0; refine (DKeys A5 c5 FL on_ (Kd.N_F (rr_ 0 _ rfl)) (O1.out.nreads (i := 0) rfl).2.1 HFLL.out).mono ?_; rintro e_ w2 ⟨A6, c6, ks, hks, rfl, oo_, kk_⟩; obtain ⟨o_, k_⟩ := bb_ _ _ kk_ oo_; have HKS := Am hks; clear hks; refine ⟨_, rfl, ?_⟩; obtain ⟨O2, K2⟩ := ok_ K1 o_ k_; have HFO_2 := Am (keepF HFO_1.out k_); have HFR_2 := Am (keepF HFR_1.out k_); clear O1 K1 HFO_1 HFR_1 o_ k_ oo_ kk_ on_ nn_ rr_ bb_))
 go_ret
 have q_ := HKS.out
 rw [← HFL.out, state_flat] at q_
 exact ⟨by rw [cntK_is q_.1 q_.2]; rfl, kw_ K2 HN⟩
end Go.Proofs.YtjdenpmaianmfaaDoor.J
