/- chapter 01: Parse. -/
import Derived.Test.YtilchjpjmfaghaaReI
import Derived.Test.YtilchjpjmfaghaaReF
import Derived.WalkKit
import Derived.Lib.Hide
import Derived.Deep.QuietTactic
import Derived.BigQuiet
import Derived.Lib.QuietBelow
import Derived.Deep.RegionHeld3
import Derived.WalkLawsBesides
import Derived.WalkSpells
import Derived.Outline
import Derived.Deep.DeepFit
import Derived.Maps.AppendAt
import Derived.Deep.AppendLies
import Derived.Deep.CutRange
import Derived.OpenShut
namespace Go.Proofs.Ytilchjpjmfaghaa.T3
set_option linter.unusedSimpArgs false
set_option linter.unusedVariables false
open Go.RowKit Go.Lib
set_option maxHeartbeats 4000000
set_option maxRecDepth 100000
def dgI (S : ByteArray) (p n : Nat) : List Int := (List.range n).map fun t => oct S (p + t) - 48
def dI (S : ByteArray) : List Int := dgI S (dP1 S) (dN1 S) ++ dgI S (dP2 S + 1) (dN2 S)
theorem dI_len (S : ByteArray) : (dI S).length = dN S := by simp [dI, dgI, dN]
theorem dI_u8 (S : ByteArray) : u8s (dI S) = dLs S := by simp [dI, dgI, dLs, dgs, u8s]; rfl
theorem dgI_isD {S : ByteArray} {p n : Nat} (h : ∀ t, t < n → dig (oct S (p + t))) : isD (dgI S p n) := by
  intro d hd
  obtain ⟨t, ht, rfl⟩ := List.mem_map.1 hd
  have := h t (by simpa using ht)
  unfold dig at this
  omega
theorem dI_isD (S : ByteArray) : isD (dI S) := by
  intro d hd
  rcases List.mem_append.1 hd with h | h
  · exact dgI_isD (run_spec S (sgP_le S (Nat.zero_le _))).2.1 d h
  · by_cases g : dotB S (dP2 S) = true
    · have h5 : dP2 S + 1 ≤ S.size := by unfold dotB at g; have := of_decide_eq_true g; omega
      have h6 := (run_spec S h5).2.1
      have h7 : dN2 S = run S (dP2 S + 1) := by unfold dN2; rw [if_pos g]
      rw [h7] at h
      exact dgI_isD h6 d h
    · have h7 : dN2 S = 0 := by unfold dN2; rw [if_neg g]
      rw [h7] at h
      simp [dgI] at h
def dPt (S : ByteArray) : Int := dN1 S + dEx S
theorem dN_le (S : ByteArray) : dN S ≤ S.size := by
  have h1 := (run_spec S (sgP_le S (Nat.zero_le _))).1
  have h2 := dP4_le S
  have h3 : dP1 S + dN1 S + dN2 S ≤ dP4 S ∨ dN2 S = 0 := by
    unfold dP4
    by_cases g : dotB S (dP2 S) = true
    · rw [if_pos g]; left; show dP1 S + dN1 S + dN2 S ≤ dP1 S + dN1 S + 1 + dN2 S; omega
    · right; unfold dN2; rw [if_neg g]
  have h4 : dP1 S + dN1 S ≤ S.size := h1
  unfold dN
  rcases h3 with h3 | h3 <;> omega
theorem dEx_bd {S : ByteArray} (h : dOk S = true) : -1000 < dEx S ∧ dEx S < 1000 := by
  unfold dOk at h
  rw [Bool.and_eq_true] at h
  have h2 := h.2
  unfold dEx
  by_cases g : expB S (dP4 S) = true
  · rw [if_pos g] at h2
    have h3 := of_decide_eq_true h2
    have hlt : dP4 S < S.size := by unfold expB at g; exact (of_decide_eq_true g).1
    have h6 : isRun S (dP6 S) (dN3 S) := run_spec S (sgP_le S (by omega))
    have hv := vl_bd S (dP6 S) (dN3 S) h6.2.1 (dN3 S) (Nat.le_refl _)
    have h4 : dN3 S = 1 ∨ dN3 S = 2 ∨ dN3 S = 3 := by omega
    have h5 : (10 : Int) ^ dN3 S ≤ 1000 := by rcases h4 with e | e | e <;> rw [e] <;> decide
    rw [if_pos g]
    split <;> omega
  · rw [if_neg g]; omega
def pT (S : ByteArray) : Int := tT (fvr (dI S)) (dPt S - (dI S).length)
def pM (S : ByteArray) : Bool := tM (fvr (dI S)) (dPt S - (dI S).length)
def pRs (S : ByteArray) : Int := resV (sgN S 0) (pT S) (pM S)
def pV (S : ByteArray) : Int := if 40 < S.size then 0 else if dOk S = true then (if isB (pRs S) = true then pRs S else 0) else 0
def pE (S : ByteArray) : Int := if 40 < S.size then 3 else if dOk S = true then (if isB (pRs S) = true then 0 else 6) else 5
theorem double_n (L : List Int) (n base : Nat) (x : Option Addr) (cap : Nat) (w : World) (hn : L.length = n) (hown : w.ownsRow base 5 1 (.slice x n cap) n (u8s L)) (hL : isD L) (hlen : n ≤ 2000) :
    Calls Try.prog 58 #[.slice x n cap] w fun e w' => e = .returned (.int .i64 (dbl L).2) ∧ Below base w w' ∧ w'.ownsRow base 5 1 (.slice x n cap) n (u8s (dbl L).1) := by
  subst hn
  exact double_any L base x cap w hown hL hlen
theorem fraction_any (L : List Int) (base : Nat) (x : Option Addr) (cap : Nat) (P : Int) (w : World) (hown : w.ownsRow base 5 1 (.slice x L.length cap) L.length (u8s L)) (hL : isD L) (hlen : L.length ≤ 1000) (hP : -2000 ≤ P) :
    Calls Try.prog 57 #[.slice x L.length cap, .int .i64 P] w fun e w' => ∃ v, e = .returned v ∧ Below w.heap.size w w' ∧ w'.ownsRow w.heap.size 5 1 v (pR L P).length (u8s (pR L P)) := by
  by_cases h : P ≤ 0
  · have e1 : pR L P = List.replicate (-P).toNat 0 ++ L := if_pos h
    rw [e1]
    have := frac_neg L base (-P).toNat x cap w hown hL hlen (by omega)
    rw [show -(((-P).toNat : Nat) : Int) = P by omega] at this
    rw [show (List.replicate (-P).toNat (0 : Int) ++ L).length = (-P).toNat + L.length by simp]
    exact this
  · have e1 : pR L P = L.drop P.toNat := if_neg h
    rw [e1]
    have := frac_pos L base P.toNat x cap w hown hL hlen (by omega)
    rw [show ((P.toNat : Nat) : Int) = P by omega] at this
    rw [List.length_drop]
    exact this
theorem pR_len {L : List Int} {P : Int} (hl : L.length ≤ 1000) (hP : -1000 ≤ P) : (pR L P).length ≤ 2000 := by
  unfold pR
  split
  · simp; omega
  · simp; omega
theorem st_s1 (n : Int) (R : List Int) (k : Nat) : (st n R (k + 1)).1 = 2 * (st n R k).1 + (dbl (st n R k).2).2 := rfl
theorem st_s2 (n : Int) (R : List Int) (k : Nat) : (st n R (k + 1)).2 = (dbl (st n R k).2).1 := rfl
theorem two_pow : ∀ k : Nat, k ≤ 16 → (2 : Int) ^ k ≤ 65536 := by decide
theorem any_succ (R : List Int) (k : Nat) (hk : k < R.length) : (R.take (k + 1)).any (fun d => decide (d ≠ 0)) = ((R.take k).any (fun d => decide (d ≠ 0)) || decide (R.getD k 0 ≠ 0)) := by
  rw [List.take_succ_eq_append_getElem hk, List.any_append, List.getD_eq_getElem?_getD, List.getElem?_eq_getElem hk]
  simp
theorem mparse_any (S : ByteArray) (w : World) (hS : S.size ≤ 9223372036854775807) :
    Calls Try.prog 21 #[.string S] w fun e w' => e = .returned (.tuple #[.int .i64 (pV S), .int .i64 (pE S)]) ∧ Below w.heap.size w w' := by
  by_cases h40 : 40 < S.size
  · have hB := Below.refl w.heap.size w
    have e1 := Lib.hid (show pV S = 0 from if_pos h40)
    have e2 := Lib.hid (show pE S = 3 from if_pos h40)
    go_enter Try.func21, Try.ntmps21
    go_wp2_with fail
    exact bodyPost_ret (v := .tuple #[.int .i64 0, .int .i64 3]) (by simp [results, Try.results21, go_sem]) rfl ⟨by rw [e1.out, e2.out], hB⟩
  · have eV : pV S = if dOk S = true then (if isB (pRs S) = true then pRs S else 0) else 0 := if_neg h40
    have eE : pE S = if dOk S = true then (if isB (pRs S) = true then 0 else 6) else 5 := if_neg h40
    rw [eV, eE]
    clear eV eE
    have hdec := fun (w : World) => decimal_any w.heap.size S (w.alloc (SC S 0)) (rw_new rfl) (by omega)
    cases hok : dOk S
    · have Hok := Lib.hid hok
      have Hdec := Lib.hid hdec
      clear hok hdec
      go_enter Try.func21, Try.ntmps21
      go_wp2_with fail
      refine (Hdec.out w).mono ?_
      rintro e w1 ⟨a, v, pt, rfl, hO, _⟩
      rw [Hok.out]
      have hB : RowKit.Below w.heap.size w w1 := (Below.alloc (Below.refl _ w) (Nat.le_refl _) _).trans (hO.below (Nat.le_refl _) (by simp))
      go_wp2_with fail
      exact bodyPost_ret (v := .tuple #[.int .i64 0, .int .i64 5]) (by simp [results, Try.results21, go_sem]) rfl ⟨by rfl, hB⟩
    · have Hok := Lib.hid hok
      have hx := dEx_bd hok
      have hnS := dN_le S
      have hL := dI_isD S
      have hlen := dI_len S
      have hu8 := dI_u8 S
      have hpt : dPt S = dN1 S + dEx S := rfl
      have hpv := p_val (dI S) (dPt S)
      have hn1 : dN1 S ≤ dN S := by unfold dN; omega
      have hRs : pRs S = resV (sgN S 0) (pT S) (pM S) := rfl
      rw [show tT (fvr (dI S)) (dPt S - (dI S).length) = pT S from rfl, show tM (fvr (dI S)) (dPt S - (dI S).length) = pM S from rfl] at hpv
      obtain ⟨L, hLe⟩ : ∃ q, dI S = q := ⟨_, rfl⟩
      obtain ⟨P, hPe⟩ : ∃ q, dPt S = q := ⟨_, rfl⟩
      obtain ⟨neg, hne⟩ : ∃ q, sgN S 0 = q := ⟨_, rfl⟩
      obtain ⟨T, hTe⟩ : ∃ q, pT S = q := ⟨_, rfl⟩
      obtain ⟨M, hMe⟩ : ∃ q, pM S = q := ⟨_, rfl⟩
      obtain ⟨RS, hRe⟩ : ∃ q, pRs S = q := ⟨_, rfl⟩
      rw [hLe, hPe, hTe, hMe] at hpv
      rw [hLe] at hL hlen hu8
      rw [hPe] at hpt
      rw [hne, hTe, hMe, hRe] at hRs
      rw [hRe, if_pos rfl, if_pos rfl]
      obtain ⟨VV, hVV⟩ : ∃ q, (if isB RS = true then RS else (0 : Int)) = q := ⟨_, rfl⟩
      obtain ⟨EV, hEV⟩ : ∃ q, (if isB RS = true then (0 : Int) else 6) = q := ⟨_, rfl⟩
      have hVal : VV = (if isB (resV neg T M) = true then resV neg T M else 0) ∧ EV = (if isB (resV neg T M) = true then 0 else 6) := by rw [← hVV, ← hEV, ← hRs]; exact ⟨rfl, rfl⟩
      rw [hVV, hEV]
      have HVal := Lib.hid hVal
      have hP1 : -1000 ≤ P ∧ P ≤ 1040 := by omega
      have hL40 : L.length ≤ 40 := by omega
      have Hdec := Lib.hid hdec
      have Hne := Lib.hid hne
      have Hpt := Lib.hid hpt
      have Hu8 := Lib.hid hu8
      have Hlen := Lib.hid hlen
      have Hpv := Lib.hid hpv
      have HRs := Lib.hid hRs
      clear hok hdec hx hnS hlen hu8 hpt hpv hn1 hRs hVV hEV hVal hLe hPe hne hTe hMe hRe
      obtain ⟨hP1, hP2⟩ := hP1
      go_enter Try.func21, Try.ntmps21
      go_wp2_with fail
      refine (Hdec.out w).mono ?_
      rintro e w1 ⟨a, v, pt, rfl, hO, hrest⟩
      obtain ⟨ha, hp, hown⟩ := hrest Hok.out
      rw [Hok.out]
      have ha2 : a = neg := ha.trans Hne.out
      have hp2 : pt = P := by rw [hp, Hpt.out]
      subst ha2
      subst hp2
      rw [← Hlen.out, ← Hu8.out] at hown
      have hB : RowKit.Below w.heap.size w w1 := (Below.alloc (Below.refl _ w) (Nat.le_refl _) _).trans (hO.below (Nat.le_refl _) (by simp))
      have hsz := hB.size
      have hown := own_low (B := w.heap.size) (by simp) hown
      obtain ⟨x, cap, rfl⟩ := own_form hown
      clear ha hp hO hrest
      go_wp2_with fail
      refine (front_any L w.heap.size x cap _ w1 hown hL (by omega) (by omega)).mono ?_
      rintro e w' ⟨N0, rfl, rfl, hN0⟩
      go_wp2_with fail
      refine (fraction_any L w.heap.size x cap _ _ hown hL (by omega) (by omega)).mono ?_
      rintro e w2 ⟨v2, rfl, hB2, hown2⟩
      have hB3 : RowKit.Below w.heap.size w w2 := hB.trans (hB2.mono hsz)
      have hown2 := own_low hsz hown2
      have hRd := pR_isD hL pt
      have hRl := pR_len (L := L) (P := pt) (by omega) (by omega)
      have hpv := Hpv.out
      have hpn : pn L pt = fl L pt.toNat := by
        unfold pn
        split
        · rw [show pt.toNat = 0 by omega]; rfl
        · rfl
      rw [hpn] at hpv
      obtain ⟨R, hR⟩ : ∃ R, pR L pt = R := ⟨_, rfl⟩
      rw [hR] at hown2 hRd hRl hpv
      obtain ⟨m, hm⟩ : ∃ m, R.length = m := ⟨_, rfl⟩
      rw [hm] at hown2 hRl hpv
      obtain ⟨x2, cap2, rfl⟩ := own_form hown2
      clear hB hB2 hown hR hpn Hpv
      have hB := hB3
      clear hB3 hsz
      have hsz := hB.size
      rcases hN0 with ⟨hN, hNb⟩ | ⟨hbig1, hbig2⟩
      · rw [← hN] at hpv
        have hN0 : 0 ≤ N0 := by rw [hN]; exact (fl_mono hL _ 0).1
        have hst := st_tT (n := N0) hRd
        rw [hm] at hst
        have hz := fvr_zero (st_isD (n := N0) hRd 17)
        rw [hst.2] at hz
        have hT : T = 2 * (st N0 R 16).1 + (dbl (st N0 R 16).2).2 := by rw [← hpv.1, ← hst.1]; exact st_s1 N0 R 16
        have hM : M = (dbl (st N0 R 16).2).1.any (fun d => decide (d ≠ 0)) := by
          rw [← hpv.2]
          have h9 : (st N0 R 17).2 = (dbl (st N0 R 16).2).1 := st_s2 N0 R 16
          rw [h9] at hz
          cases h8 : (dbl (st N0 R 16).2).1.any (fun d => decide (d ≠ 0))
          · rw [h8] at hz
            exact decide_eq_false fun h => absurd (hz.1 h) (by simp)
          · exact decide_eq_true (hz.2 h8)
        have HT := Lib.hid hT
        have HM := Lib.hid hM
        have Hm := Lib.hid hm
        clear hpv hst hz hT hM hN hm
        go_wp2_with fail
        go_loopw [9, 39] (fun v9 v39 wr => ∃ k : Nat, k ≤ 16 ∧ v39 = .int .i64 k ∧ v9 = .int .i64 (st N0 R k).1 ∧ RowKit.Below w.heap.size w wr ∧ wr.ownsRow w.heap.size 5 1 (.slice x2 m cap2) m (u8s (st N0 R k).2)) (fun _ v _ => 16 - (intOf v).toNat)
        case atStart => exact ⟨0, Nat.zero_le _, rfl, rfl, hB, hown2⟩
        case round =>
          clear hB hown2 hsz
          obtain ⟨k, hk, rfl, rfl, hB, hown2⟩ := hrel
          have hsz := hB.size
          have hb := st_bd hRd ⟨hN0, hNb⟩ k (by omega)
          have hkp : (2 : Int) ^ k ≤ 65536 := two_pow k hk
          have hls := st_len N0 R k
          rw [Hm.out] at hls
          have hd := st_isD (n := N0) hRd k
          have hdb := double_n _ m w.heap.size x2 cap2 wr hls hown2 hd hRl
          have hcb := (dbl_bd hd).2
          have hnx : (st N0 R (k + 1)).1 = 2 * (st N0 R k).1 + (dbl (st N0 R k).2).2 := rfl
          have hnx2 : (st N0 R (k + 1)).2 = (dbl (st N0 R k).2).1 := rfl
          have hb1 : 0 ≤ (st N0 R k).1 := hb.1
          have hb2 : (st N0 R k).1 ≤ 140737488420863 := by
            have := Int.mul_le_mul_of_nonneg_right hkp (show (0 : Int) ≤ 2147483649 by decide)
            omega
          clear hb hkp
          by_cases hlt : k < 16
          · obtain ⟨N, hN⟩ : ∃ N, (st N0 R k).1 = N := ⟨_, rfl⟩
            obtain ⟨c, hc⟩ : ∃ c, (dbl (st N0 R k).2).2 = c := ⟨_, rfl⟩
            rw [hN] at hb1 hb2 hnx ⊢
            rw [hc] at hdb hcb hnx
            have Hnx := Lib.hid hnx
            have Hnx2 := Lib.hid hnx2
            have Hdb := Lib.hid hdb
            obtain ⟨hcb1, hcb2⟩ := hcb
            clear hnx hnx2 hdb hls hd hN hc
            go_wp2_with fail
            refine Hdb.out.mono ?_
            rintro e w3 ⟨rfl, hB4, hown3⟩
            have hB5 := hB.trans hB4
            go_wp2_with fail
            go_roundw
            case rel => exact ⟨k + 1, by omega, by go_num, by rw [Hnx.out], hB5, by rw [Hnx2.out]; exact hown3⟩
            case measure => simp [intOf]; omega
          · have hk16 : k = 16 := by omega
            subst hk16
            have hTo := HT.out
            have hMo := HM.out
            have hl17 := dbl_len (st N0 R 16).2
            rw [hls] at hl17
            have hd17 := (dbl_bd hd).1
            obtain ⟨N, hN⟩ : ∃ N, (st N0 R 16).1 = N := ⟨_, rfl⟩
            obtain ⟨c, hc⟩ : ∃ c, (dbl (st N0 R 16).2).2 = c := ⟨_, rfl⟩
            obtain ⟨R7, hR7⟩ : ∃ R7, (dbl (st N0 R 16).2).1 = R7 := ⟨_, rfl⟩
            rw [hN] at hb1 hb2 hTo ⊢
            rw [hc] at hdb hcb hTo
            rw [hR7] at hdb hMo hl17 hd17
            subst hTo
            have Hdb := Lib.hid hdb
            have HMo := Lib.hid hMo
            have Hl17 := Lib.hid hl17
            clear hnx hnx2 hdb hls hd hN hc hR7 hMo hl17 HT HM
            have hc2 : c = 0 ∨ c = 1 := by omega
            clear hcb
            go_wp2_with fail
            refine Hdb.out.mono ?_
            rintro e w3 ⟨rfl, hB4, hown3⟩
            have hB5 := hB.trans hB4
            clear hB hB4 hown2 Hdb
            have hB := hB5
            clear hB5
            have hcell : ∀ i, i < m → ∃ g, x2 = some ⟨g, 0, none⟩ ∧ w3.cell? ⟨g, i, none⟩ = some (.int .u8 (R7.getD i 0)) := by
              intro i hi
              rcases own_cases hown3 with ⟨_, e0⟩ | ⟨g, k, e, _⟩
              · omega
              · cases e
                exact ⟨g, rfl, own_cell hown3 (u8s_get (by rw [Hl17.out]; exact hi))⟩
            have hDb := fun j => isD_getD hd17 j
            have Hcell := Lib.hid hcell
            have HDb := Lib.hid hDb
            clear hcell hown3 hDb
            rcases hc2 with rfl | rfl
            · go_wp2_with fail
              go_loop [12, 52] (fun v12 v52 => ∃ k : Nat, k ≤ m ∧ v52 = .int .i64 k ∧ v12 = .bool ((R7.take k).any (fun d => decide (d ≠ 0)))) (fun _ v => m - (intOf v).toNat)
              case atStart => exact ⟨0, Nat.zero_le _, rfl, by simp⟩
              case round =>
                obtain ⟨k, hk, rfl, rfl⟩ := hrel
                by_cases hlt : k < m
                · obtain ⟨g, rfl, hc⟩ := Hcell.out k hlt
                  have hd := HDb.out k
                  have ha := any_succ R7 k (by rw [Hl17.out]; exact hlt)
                  obtain ⟨D, hD⟩ : ∃ D, R7.getD k 0 = D := ⟨_, rfl⟩
                  rw [hD] at hc hd ha
                  obtain ⟨hd1, hd2⟩ := hd
                  obtain ⟨q, hq⟩ : ∃ q, (R7.take k).any (fun d => decide (d ≠ 0)) = q := ⟨_, rfl⟩
                  rw [hq] at ha ⊢
                  have Ha := Lib.hid ha
                  clear hD hq ha
                  cases q
                  · by_cases hD0 : D = 0
                    · subst hD0
                      go_wp2_with fail
                      go_round
                      case rel => exact ⟨k + 1, by omega, by go_num, by rw [Ha.out]; rfl⟩
                      case measure => simp [intOf]; omega
                    · have hDb : (D != 0) = true := by simpa using hD0
                      have Hd := Lib.hid (decide_eq_true hD0)
                      go_wp2_with fail
                      go_round
                      case rel => exact ⟨k + 1, by omega, by go_num, by rw [Ha.out, Hd.out]; rfl⟩
                      case measure => simp [intOf]; omega
                  · go_wp2_with fail
                    go_round
                    case rel => exact ⟨k + 1, by omega, by go_num, by rw [Ha.out]; simp⟩
                    case measure => simp [intOf]; omega
                · have hkm : k = m := by omega
                  subst hkm
                  have hfin : (R7.take k).any (fun d => decide (d ≠ 0)) = M := by rw [HMo.out, List.take_of_length_le (by rw [Hl17.out]; exact Nat.le_refl _)]
                  rw [hfin]
                  clear hfin HMo HDb Hcell Hl17
                  cases a
                  · cases M
                    · have hR : resV false (2 * N + 0) false = N := by
                        unfold resV
                        have e1 : (2 * N + 0) / 2 = N := by omega
                        have e2 : (2 * N + 0) % 2 = 0 := by omega
                        rw [e1, e2]
                        simp
                      have HV := HVal.out
                      rw [hR] at HV
                      by_cases hin : -2147483648 ≤ N ∧ N ≤ 2147483648
                      · have hb : isB (N) = true := decide_eq_true hin
                        rw [hb] at HV
                        have hvv := Lib.hid HV
                        have Hb := Lib.hid hb
                        clear HV hb hR hin
                        go_wp2_with fail
                        refine (mis_any _ _).mono ?_
                        rintro e w' ⟨rfl, rfl⟩
                        rw [Hb.out]
                        go_wp2_with fail
                        exact bodyPost_ret (v := .tuple #[.int .i64 (N), .int .i64 0]) (by simp [results, Try.results21, go_sem]) rfl ⟨by rw [hvv.out.1, hvv.out.2]; rfl, hB⟩
                      · have hb : isB (N) = false := decide_eq_false hin
                        rw [hb] at HV
                        have hvv := Lib.hid HV
                        have Hb := Lib.hid hb
                        clear HV hb hR hin
                        go_wp2_with fail
                        refine (mis_any _ _).mono ?_
                        rintro e w' ⟨rfl, rfl⟩
                        rw [Hb.out]
                        go_wp2_with fail
                        exact bodyPost_ret (v := .tuple #[.int .i64 0, .int .i64 6]) (by simp [results, Try.results21, go_sem]) rfl ⟨by rw [hvv.out.1, hvv.out.2]; rfl, hB⟩
                    · have hR : resV false (2 * N + 0) true = N := by
                        unfold resV
                        have e1 : (2 * N + 0) / 2 = N := by omega
                        have e2 : (2 * N + 0) % 2 = 0 := by omega
                        rw [e1, e2]
                        simp
                      have HV := HVal.out
                      rw [hR] at HV
                      by_cases hin : -2147483648 ≤ N ∧ N ≤ 2147483648
                      · have hb : isB (N) = true := decide_eq_true hin
                        rw [hb] at HV
                        have hvv := Lib.hid HV
                        have Hb := Lib.hid hb
                        clear HV hb hR hin
                        go_wp2_with fail
                        refine (mis_any _ _).mono ?_
                        rintro e w' ⟨rfl, rfl⟩
                        rw [Hb.out]
                        go_wp2_with fail
                        exact bodyPost_ret (v := .tuple #[.int .i64 (N), .int .i64 0]) (by simp [results, Try.results21, go_sem]) rfl ⟨by rw [hvv.out.1, hvv.out.2]; rfl, hB⟩
                      · have hb : isB (N) = false := decide_eq_false hin
                        rw [hb] at HV
                        have hvv := Lib.hid HV
                        have Hb := Lib.hid hb
                        clear HV hb hR hin
                        go_wp2_with fail
                        refine (mis_any _ _).mono ?_
                        rintro e w' ⟨rfl, rfl⟩
                        rw [Hb.out]
                        go_wp2_with fail
                        exact bodyPost_ret (v := .tuple #[.int .i64 0, .int .i64 6]) (by simp [results, Try.results21, go_sem]) rfl ⟨by rw [hvv.out.1, hvv.out.2]; rfl, hB⟩
                  · cases M
                    · have hR : resV true (2 * N + 0) false = -N := by
                        unfold resV
                        have e1 : (2 * N + 0) / 2 = N := by omega
                        have e2 : (2 * N + 0) % 2 = 0 := by omega
                        rw [e1, e2]
                        simp
                      have HV := HVal.out
                      rw [hR] at HV
                      by_cases hin : -2147483648 ≤ -N ∧ -N ≤ 2147483648
                      · have hb : isB (-N) = true := decide_eq_true hin
                        rw [hb] at HV
                        have hvv := Lib.hid HV
                        have Hb := Lib.hid hb
                        clear HV hb hR hin
                        go_wp2_with fail
                        refine (mis_any _ _).mono ?_
                        rintro e w' ⟨rfl, rfl⟩
                        rw [Hb.out]
                        go_wp2_with fail
                        exact bodyPost_ret (v := .tuple #[.int .i64 (-N), .int .i64 0]) (by simp [results, Try.results21, go_sem]) rfl ⟨by rw [hvv.out.1, hvv.out.2]; rfl, hB⟩
                      · have hb : isB (-N) = false := decide_eq_false hin
                        rw [hb] at HV
                        have hvv := Lib.hid HV
                        have Hb := Lib.hid hb
                        clear HV hb hR hin
                        go_wp2_with fail
                        refine (mis_any _ _).mono ?_
                        rintro e w' ⟨rfl, rfl⟩
                        rw [Hb.out]
                        go_wp2_with fail
                        exact bodyPost_ret (v := .tuple #[.int .i64 0, .int .i64 6]) (by simp [results, Try.results21, go_sem]) rfl ⟨by rw [hvv.out.1, hvv.out.2]; rfl, hB⟩
                    · have hR : resV true (2 * N + 0) true = -N := by
                        unfold resV
                        have e1 : (2 * N + 0) / 2 = N := by omega
                        have e2 : (2 * N + 0) % 2 = 0 := by omega
                        rw [e1, e2]
                        simp
                      have HV := HVal.out
                      rw [hR] at HV
                      by_cases hin : -2147483648 ≤ -N ∧ -N ≤ 2147483648
                      · have hb : isB (-N) = true := decide_eq_true hin
                        rw [hb] at HV
                        have hvv := Lib.hid HV
                        have Hb := Lib.hid hb
                        clear HV hb hR hin
                        go_wp2_with fail
                        refine (mis_any _ _).mono ?_
                        rintro e w' ⟨rfl, rfl⟩
                        rw [Hb.out]
                        go_wp2_with fail
                        exact bodyPost_ret (v := .tuple #[.int .i64 (-N), .int .i64 0]) (by simp [results, Try.results21, go_sem]) rfl ⟨by rw [hvv.out.1, hvv.out.2]; rfl, hB⟩
                      · have hb : isB (-N) = false := decide_eq_false hin
                        rw [hb] at HV
                        have hvv := Lib.hid HV
                        have Hb := Lib.hid hb
                        clear HV hb hR hin
                        go_wp2_with fail
                        refine (mis_any _ _).mono ?_
                        rintro e w' ⟨rfl, rfl⟩
                        rw [Hb.out]
                        go_wp2_with fail
                        exact bodyPost_ret (v := .tuple #[.int .i64 0, .int .i64 6]) (by simp [results, Try.results21, go_sem]) rfl ⟨by rw [hvv.out.1, hvv.out.2]; rfl, hB⟩
            · go_wp2_with fail
              go_loop [12, 52] (fun v12 v52 => ∃ k : Nat, k ≤ m ∧ v52 = .int .i64 k ∧ v12 = .bool ((R7.take k).any (fun d => decide (d ≠ 0)))) (fun _ v => m - (intOf v).toNat)
              case atStart => exact ⟨0, Nat.zero_le _, rfl, by simp⟩
              case round =>
                obtain ⟨k, hk, rfl, rfl⟩ := hrel
                by_cases hlt : k < m
                · obtain ⟨g, rfl, hc⟩ := Hcell.out k hlt
                  have hd := HDb.out k
                  have ha := any_succ R7 k (by rw [Hl17.out]; exact hlt)
                  obtain ⟨D, hD⟩ : ∃ D, R7.getD k 0 = D := ⟨_, rfl⟩
                  rw [hD] at hc hd ha
                  obtain ⟨hd1, hd2⟩ := hd
                  obtain ⟨q, hq⟩ : ∃ q, (R7.take k).any (fun d => decide (d ≠ 0)) = q := ⟨_, rfl⟩
                  rw [hq] at ha ⊢
                  have Ha := Lib.hid ha
                  clear hD hq ha
                  cases q
                  · by_cases hD0 : D = 0
                    · subst hD0
                      go_wp2_with fail
                      go_round
                      case rel => exact ⟨k + 1, by omega, by go_num, by rw [Ha.out]; rfl⟩
                      case measure => simp [intOf]; omega
                    · have hDb : (D != 0) = true := by simpa using hD0
                      have Hd := Lib.hid (decide_eq_true hD0)
                      go_wp2_with fail
                      go_round
                      case rel => exact ⟨k + 1, by omega, by go_num, by rw [Ha.out, Hd.out]; rfl⟩
                      case measure => simp [intOf]; omega
                  · go_wp2_with fail
                    go_round
                    case rel => exact ⟨k + 1, by omega, by go_num, by rw [Ha.out]; simp⟩
                    case measure => simp [intOf]; omega
                · have hkm : k = m := by omega
                  subst hkm
                  have hfin : (R7.take k).any (fun d => decide (d ≠ 0)) = M := by rw [HMo.out, List.take_of_length_le (by rw [Hl17.out]; exact Nat.le_refl _)]
                  rw [hfin]
                  clear hfin HMo HDb Hcell Hl17
                  cases a
                  · cases M
                    · have hR : resV false (2 * N + 1) false = N + 1 := by
                        unfold resV
                        have e1 : (2 * N + 1) / 2 = N := by omega
                        have e2 : (2 * N + 1) % 2 = 1 := by omega
                        rw [e1, e2]
                        simp
                      have HV := HVal.out
                      rw [hR] at HV
                      by_cases hin : -2147483648 ≤ N + 1 ∧ N + 1 ≤ 2147483648
                      · have hb : isB (N + 1) = true := decide_eq_true hin
                        rw [hb] at HV
                        have hvv := Lib.hid HV
                        have Hb := Lib.hid hb
                        clear HV hb hR hin
                        go_wp2_with fail
                        refine (mis_any _ _).mono ?_
                        rintro e w' ⟨rfl, rfl⟩
                        rw [Hb.out]
                        go_wp2_with fail
                        exact bodyPost_ret (v := .tuple #[.int .i64 (N + 1), .int .i64 0]) (by simp [results, Try.results21, go_sem]) rfl ⟨by rw [hvv.out.1, hvv.out.2]; rfl, hB⟩
                      · have hb : isB (N + 1) = false := decide_eq_false hin
                        rw [hb] at HV
                        have hvv := Lib.hid HV
                        have Hb := Lib.hid hb
                        clear HV hb hR hin
                        go_wp2_with fail
                        refine (mis_any _ _).mono ?_
                        rintro e w' ⟨rfl, rfl⟩
                        rw [Hb.out]
                        go_wp2_with fail
                        exact bodyPost_ret (v := .tuple #[.int .i64 0, .int .i64 6]) (by simp [results, Try.results21, go_sem]) rfl ⟨by rw [hvv.out.1, hvv.out.2]; rfl, hB⟩
                    · have hR : resV false (2 * N + 1) true = N + 1 := by
                        unfold resV
                        have e1 : (2 * N + 1) / 2 = N := by omega
                        have e2 : (2 * N + 1) % 2 = 1 := by omega
                        rw [e1, e2]
                        simp
                      have HV := HVal.out
                      rw [hR] at HV
                      by_cases hin : -2147483648 ≤ N + 1 ∧ N + 1 ≤ 2147483648
                      · have hb : isB (N + 1) = true := decide_eq_true hin
                        rw [hb] at HV
                        have hvv := Lib.hid HV
                        have Hb := Lib.hid hb
                        clear HV hb hR hin
                        go_wp2_with fail
                        refine (mis_any _ _).mono ?_
                        rintro e w' ⟨rfl, rfl⟩
                        rw [Hb.out]
                        go_wp2_with fail
                        exact bodyPost_ret (v := .tuple #[.int .i64 (N + 1), .int .i64 0]) (by simp [results, Try.results21, go_sem]) rfl ⟨by rw [hvv.out.1, hvv.out.2]; rfl, hB⟩
                      · have hb : isB (N + 1) = false := decide_eq_false hin
                        rw [hb] at HV
                        have hvv := Lib.hid HV
                        have Hb := Lib.hid hb
                        clear HV hb hR hin
                        go_wp2_with fail
                        refine (mis_any _ _).mono ?_
                        rintro e w' ⟨rfl, rfl⟩
                        rw [Hb.out]
                        go_wp2_with fail
                        exact bodyPost_ret (v := .tuple #[.int .i64 0, .int .i64 6]) (by simp [results, Try.results21, go_sem]) rfl ⟨by rw [hvv.out.1, hvv.out.2]; rfl, hB⟩
                  · cases M
                    · have hR : resV true (2 * N + 1) false = -N := by
                        unfold resV
                        have e1 : (2 * N + 1) / 2 = N := by omega
                        have e2 : (2 * N + 1) % 2 = 1 := by omega
                        rw [e1, e2]
                        simp
                      have HV := HVal.out
                      rw [hR] at HV
                      by_cases hin : -2147483648 ≤ -N ∧ -N ≤ 2147483648
                      · have hb : isB (-N) = true := decide_eq_true hin
                        rw [hb] at HV
                        have hvv := Lib.hid HV
                        have Hb := Lib.hid hb
                        clear HV hb hR hin
                        go_wp2_with fail
                        refine (mis_any _ _).mono ?_
                        rintro e w' ⟨rfl, rfl⟩
                        rw [Hb.out]
                        go_wp2_with fail
                        exact bodyPost_ret (v := .tuple #[.int .i64 (-N), .int .i64 0]) (by simp [results, Try.results21, go_sem]) rfl ⟨by rw [hvv.out.1, hvv.out.2]; rfl, hB⟩
                      · have hb : isB (-N) = false := decide_eq_false hin
                        rw [hb] at HV
                        have hvv := Lib.hid HV
                        have Hb := Lib.hid hb
                        clear HV hb hR hin
                        go_wp2_with fail
                        refine (mis_any _ _).mono ?_
                        rintro e w' ⟨rfl, rfl⟩
                        rw [Hb.out]
                        go_wp2_with fail
                        exact bodyPost_ret (v := .tuple #[.int .i64 0, .int .i64 6]) (by simp [results, Try.results21, go_sem]) rfl ⟨by rw [hvv.out.1, hvv.out.2]; rfl, hB⟩
                    · have hR : resV true (2 * N + 1) true = -(N + 1) := by
                        unfold resV
                        have e1 : (2 * N + 1) / 2 = N := by omega
                        have e2 : (2 * N + 1) % 2 = 1 := by omega
                        rw [e1, e2]
                        simp
                      have HV := HVal.out
                      rw [hR] at HV
                      by_cases hin : -2147483648 ≤ -(N + 1) ∧ -(N + 1) ≤ 2147483648
                      · have hb : isB (-(N + 1)) = true := decide_eq_true hin
                        rw [hb] at HV
                        have hvv := Lib.hid HV
                        have Hb := Lib.hid hb
                        clear HV hb hR hin
                        go_wp2_with fail
                        refine (mis_any _ _).mono ?_
                        rintro e w' ⟨rfl, rfl⟩
                        rw [Hb.out]
                        go_wp2_with fail
                        exact bodyPost_ret (v := .tuple #[.int .i64 (-(N + 1)), .int .i64 0]) (by simp [results, Try.results21, go_sem]) rfl ⟨by rw [hvv.out.1, hvv.out.2]; rfl, hB⟩
                      · have hb : isB (-(N + 1)) = false := decide_eq_false hin
                        rw [hb] at HV
                        have hvv := Lib.hid HV
                        have Hb := Lib.hid hb
                        clear HV hb hR hin
                        go_wp2_with fail
                        refine (mis_any _ _).mono ?_
                        rintro e w' ⟨rfl, rfl⟩
                        rw [Hb.out]
                        go_wp2_with fail
                        exact bodyPost_ret (v := .tuple #[.int .i64 0, .int .i64 6]) (by simp [results, Try.results21, go_sem]) rfl ⟨by rw [hvv.out.1, hvv.out.2]; rfl, hB⟩
      · have hb : isB (resV a T M) = false := by
          refine resV_big ?_ ?_
          · have h1 := pow_pos' m
            have h2 : 131072 * fl L pt.toNat ≤ T := by
              rw [← hpv.1]
              refine (Int.le_ediv_iff_mul_le h1).2 ?_
              have h3 := (fvr_bd hRd).1
              rw [Int.mul_assoc]
              omega
            omega
          · rw [← hpv.1]
            refine Int.ediv_nonneg ?_ (Int.le_of_lt (pow_pos' m))
            have h3 := (fvr_bd hRd).1
            have h4 := Int.mul_nonneg (show (0 : Int) ≤ fl L pt.toNat by omega) (Int.le_of_lt (pow_pos' m))
            omega
        have hvv := HVal.out
        rw [hb] at hvv
        have hvv := Lib.hid hvv
        clear hb hpv
        go_wp2_with fail
        exact bodyPost_ret (v := .tuple #[.int .i64 0, .int .i64 6]) (by simp [results, Try.results21, go_sem]) rfl ⟨by rw [hvv.out.1, hvv.out.2]; rfl, hB⟩
end Go.Proofs.Ytilchjpjmfaghaa.T3
