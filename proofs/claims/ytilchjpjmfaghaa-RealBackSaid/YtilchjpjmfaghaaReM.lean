/- chapter 01: the reference's times and Parse. -/
import Derived.Test.YtilchjpjmfaghaaReL
import Derived.Laws.MakeOwn
import Derived.WalkKit
import Derived.Lib.Hide
import Derived.Deep.QuietTactic
import Derived.BigQuiet
import Derived.Lib.QuietBelow
import Derived.Deep.RegionHeld3
import Derived.WalkLawsBesides
import Derived.WalkSpells
import Derived.Outline
import Derived.Deep.DeepFit
import Derived.Maps.AppendAt
import Derived.Deep.AppendLies
import Derived.Deep.CutRange
import Derived.OpenShut
namespace Go.Proofs.Ytilchjpjmfaghaa.T3
set_option linter.unusedSimpArgs false
set_option linter.unusedVariables false
open Go.RowKit Go.Lib
set_option maxHeartbeats 4000000
set_option maxRecDepth 100000
theorem make_int (L : Nat) (hL : L ≤ 16777216) (w : World) : Sem.run Try.prog (Instr.makeSlice 47 (.int .i64 (L : Int)) (.int .i64 (L : Int))) w = .ok (.slice (some ⟨w.heap.size, 0, none⟩) L L) (w.alloc (.cells (i64s (List.replicate L 0)).toArray 3)) := by
  obtain ⟨i, hi, hz, hs, hb⟩ := info_split info_int
  rw [run_makeSlice (P := Try.prog) w 47 3 i _ Try.underlying47 hi hz .i64 .i64 (L : Int) (L : Int) (by omega) (by omega) (by rw [hs]; omega) (by rw [hb]; omega) (by omega), hs]
  have : madeCells #[.int .i64 0] L = (i64s (List.replicate L 0)).toArray := by
    unfold madeCells i64s
    apply Array.ext
    · simp
    · intro i h1 h2
      simp [Nat.mod_one]
  simp [this, Value.cells]
theorem times_any (L : List Int) (base : Nat) (x : Option Addr) (cap : Nat) (w : World) (hown : w.ownsRow base 3 1 (.slice x L.length cap) L.length (i64s L)) (hL : isD L) (hlen : L.length ≤ 1000) :
    Calls Try.prog 60 #[.slice x L.length cap] w fun e w' => ∃ g : Nat, e = .returned (.slice (some ⟨g, 0, none⟩) (L.length + 6) (L.length + 6)) ∧ Below w.heap.size w w' ∧ w'.heap[g]? = some (.cells (i64s (tms L)).toArray 3 (0, 0)) := by
  have hcell : ∀ i, i < L.length → ∃ g, x = some ⟨g, 0, none⟩ ∧ w.cell? ⟨g, i, none⟩ = some (.int .i64 (L.getD i 0)) := by
    intro i hi
    rcases own_cases hown with ⟨_, e0⟩ | ⟨g, k, e, _⟩
    · omega
    · cases e
      exact ⟨g, rfl, own_cell hown (by simp [i64s, List.getElem?_eq_getElem hi, List.getD_eq_getElem?_getD])⟩
  have hDb := fun j => isD_getD hL j
  have htb := fun t => (tm_bd (L := L.drop t) (fun x hx => hL x (List.mem_of_mem_drop hx))).2
  have hst : ∀ s, s < L.length → (tm (L.drop s)) = ((L.getD s 0 * 131072 + (tm (L.drop (s + 1))).2) % 10 :: (tm (L.drop (s + 1))).1, (L.getD s 0 * 131072 + (tm (L.drop (s + 1))).2) / 10) := by
    intro s hs
    rw [List.drop_eq_getElem_cons hs, tm, List.getD_eq_getElem?_getD, List.getElem?_eq_getElem hs]
    rfl
  have hd0 : (tm (L.drop L.length)) = ([], 0) := by simp [tm]
  have hdz : tm (L.drop 0) = tm L := by rw [List.drop_zero]
  have hlenr : ∀ t, t ≤ L.length → (tm (L.drop t)).1.length = L.length - t := fun t ht => by rw [tm_len, List.length_drop]
  have htms : lead 6 (tm L).2 (tm L).1 = tms L := rfl
  have Hcell := Lib.hid hcell
  have HDb := Lib.hid hDb
  have Htb := Lib.hid htb
  have Hst := Lib.hid hst
  have Hd0 := Lib.hid hd0
  have Hdz := Lib.hid hdz
  have Hlr := Lib.hid hlenr
  have Htms := Lib.hid htms
  obtain ⟨n, hn⟩ : ∃ n, L.length = n := ⟨_, rfl⟩
  rw [hn] at hlen Hcell Hst Hd0 Hlr ⊢
  clear hown hcell hDb htb hst hd0 hdz hlenr htms hn
  have hmk : ∀ w : World, Sem.run Try.prog (Instr.makeSlice 47 (.int .i64 ((n : Int) + 6)) (.int .i64 ((n : Int) + 6))) w = .ok (.slice (some ⟨w.heap.size, 0, none⟩) (n + 6) (n + 6)) (w.alloc (.cells (i64s (List.replicate (n + 6) 0)).toArray 3)) := fun w => by
    have h := make_int (n + 6) (by omega) w
    rwa [show ((n + 6 : Nat) : Int) = (n : Int) + 6 by omega] at h
  go_enter Try.func60, Try.ntmps60
  go_wp2_with fail
  have hr0 : (w.alloc (.cells (i64s (List.replicate (n + 6) 0)).toArray 3 (0, 0))).heap[w.heap.size]? = some (.cells (i64s (List.replicate (n + 6) 0)).toArray 3 (0, 0)) := rw_new rfl
  have hr1 : (w.alloc (.cells (i64s (List.replicate (n + 6) 0)).toArray 3 (0, 0))).heap[w.heap.size]? = some (.cells (i64s (List.replicate (n + 6) 0 ++ (tm (L.drop n)).1)).toArray 3 (0, 0)) := by rw [Hd0.out, List.append_nil]; exact hr0
  have hB0 : RowKit.Below w.heap.size w (w.alloc (.cells (i64s (List.replicate (n + 6) 0)).toArray 3 (0, 0))) := Below.alloc (Below.refl _ w) (Nat.le_refl _) _
  have hc0 : (tm (L.drop n)).2 = 0 := by rw [Hd0.out]
  have Hc0 := Lib.hid hc0
  clear hr0 hmk hc0
  go_loopw [4, 5] (fun v4 v5 wr => ∃ t : Nat, t ≤ n ∧ v5 = .int .i64 ((t : Int) - 1) ∧ v4 = .int .i64 (tm (L.drop t)).2 ∧ RowKit.Below w.heap.size w wr ∧ wr.heap[w.heap.size]? = some (.cells (i64s (List.replicate (t + 6) 0 ++ (tm (L.drop t)).1)).toArray 3 (0, 0))) (fun _ v _ => (intOf v + 1).toNat)
  case atStart => exact ⟨n, Nat.le_refl _, rfl, by rw [Hc0.out], hB0, hr1⟩
  case round =>
    clear hr1 hB0
    obtain ⟨t, ht, rfl, rfl, hB, hrow⟩ := hrel
    have hct := Htb.out t
    rcases Nat.eq_zero_or_pos t with h0 | h0
    · subst h0
      rw [show (((0 : Nat) : Int) - 1) = -1 from rfl]
      rw [Hdz.out] at hct hrow ⊢
      obtain ⟨c, hc⟩ : ∃ c, (tm L).2 = c := ⟨_, rfl⟩
      obtain ⟨R, hR⟩ : ∃ R, (tm L).1 = R := ⟨_, rfl⟩
      have hRl := Hlr.out 0 (Nat.zero_le _)
      have htms := Htms.out
      rw [Hdz.out, hR] at hRl
      rw [hc, hR] at htms
      rw [hc] at hct ⊢
      rw [hR] at hrow
      obtain ⟨hc1, hc2⟩ := hct
      have Htms := Lib.hid htms
      have HRl := Lib.hid hRl
      clear hc hR hRl htms
      go_wp2_with fail
      go_loopw [4, 7] (fun v4 v7 wr => ∃ (j : Nat) (c' : Int) (R' : List Int), j ≤ 6 ∧ v7 = .int .i64 ((j : Int) - 1) ∧ v4 = .int .i64 c' ∧ (0 ≤ c' ∧ c' ≤ 131072) ∧ j + R'.length = n + 6 ∧ lead j c' R' = tms L ∧ RowKit.Below w.heap.size w wr ∧ wr.heap[w.heap.size]? = some (.cells (i64s (List.replicate j 0 ++ R')).toArray 3 (0, 0))) (fun _ v _ => (intOf v + 1).toNat)
      case atStart => exact ⟨6, c, R, Nat.le_refl _, rfl, rfl, ⟨hc1, hc2⟩, by have := HRl.out; omega, Htms.out, hB, by rw [Nat.zero_add] at hrow; exact hrow⟩
      case round =>
        clear hB hrow hc1 hc2 Htms HRl
        obtain ⟨j, c', R', hj, rfl, rfl, hcb, hlr, hld, hB, hrow⟩ := hrel
        obtain ⟨hc1, hc2⟩ := hcb
        rcases Nat.eq_zero_or_pos j with h0 | h0
        · subst h0
          rw [show (((0 : Nat) : Int) - 1) = -1 from rfl]
          have e1 : R' = tms L := hld
          subst e1
          rw [show List.replicate 0 (0 : Int) ++ tms L = tms L from rfl] at hrow
          clear hld hlr
          go_wp2_with fail
          go_ret
          exact ⟨_, rfl, hB, hrow⟩
        · obtain ⟨s, rfl⟩ : ∃ s, j = s + 1 := ⟨j - 1, by omega⟩
          rw [show (((s + 1 : Nat) : Int) - 1) = s by omega]
          have hset : (i64s (List.replicate (s + 1) 0 ++ R')).toArray.setIfInBounds s (.int .i64 (c' % 10)) = (i64s (List.replicate s 0 ++ (c' % 10 :: R'))).toArray := by
            rw [toArr_set, List.replicate_succ', List.append_assoc, List.set_append, if_neg (by simp), show s - (List.replicate s (0 : Int)).length = 0 by simp]
            rfl
          have hq : decide (s < (i64s (List.replicate (s + 1) 0 ++ R')).toArray.size) = true := decide_eq_true (by simp [i64s]; omega)
          have Hset := Lib.hid hset
          have Hld := Lib.hid (show lead s (c' / 10) (c' % 10 :: R') = tms L from hld)
          have Hlr2 := Lib.hid hlr
          have hs6 : s ≤ 5 := by omega
          clear hset hld hlr
          go_wp2_with (first | ((with_reducible refine rw_list ?_); ((with_reducible apply wpList_store_cell); (case ho => with_reducible rfl); (case hgd => with_reducible rfl); (case hx => rfl); (case hy => exact ev_tmp rfl); (case h1 => rfl)); (case hg => exact hrow); (case hi => kernel_rfl); (case hcs => exact Hset.out); (case hlt => exact hq)))
          go_roundw
          case rel => exact ⟨s, c' / 10, c' % 10 :: R', by omega, rfl, rfl, by omega, by have := Hlr2.out; simp; omega, Hld.out, bw_set hB (Nat.le_refl _), rw_self hrow⟩
          case measure => simp [intOf]
    · obtain ⟨s, rfl⟩ : ∃ s, t = s + 1 := ⟨t - 1, by omega⟩
      rw [show (((s + 1 : Nat) : Int) - 1) = s by omega]
      obtain ⟨g, rfl, hc⟩ := Hcell.out s (by omega)
      have hc2 := below_cell' hc hB (Nat.le_refl _)
      have hs := Hst.out s (by omega)
      have hd := HDb.out s
      have hset : (i64s (List.replicate (s + 1 + 6) 0 ++ (tm (L.drop (s + 1))).1)).toArray.setIfInBounds (s + 6) (.int .i64 ((L.getD s 0 * 131072 + (tm (L.drop (s + 1))).2) % 10)) = (i64s (List.replicate (s + 6) 0 ++ (tm (L.drop s)).1)).toArray := by
        rw [toArr_set, hs, show s + 1 + 6 = (s + 6) + 1 by omega, List.replicate_succ', List.append_assoc, List.set_append, if_neg (by simp), show s + 6 - (List.replicate (s + 6) (0 : Int)).length = 0 by simp]
        rfl
      have hq : decide (s + 6 < (i64s (List.replicate (s + 1 + 6) 0 ++ (tm (L.drop (s + 1))).1)).toArray.size) = true := decide_eq_true (by simp [i64s]; omega)
      have hs2 : (tm (L.drop s)).2 = (L.getD s 0 * 131072 + (tm (L.drop (s + 1))).2) / 10 := by rw [hs]
      obtain ⟨D, hD⟩ : ∃ D, L.getD s 0 = D := ⟨_, rfl⟩
      obtain ⟨c, hce⟩ : ∃ c, (tm (L.drop (s + 1))).2 = c := ⟨_, rfl⟩
      rw [hD] at hc2 hd hset hs2
      rw [hce] at hct hset hs2 ⊢
      obtain ⟨hd1, hd2⟩ := hd
      obtain ⟨hct1, hct2⟩ := hct
      have Hset := Lib.hid hset
      have Hs2 := Lib.hid hs2
      obtain ⟨s6, hs6⟩ : ∃ s6, s + 6 = s6 := ⟨_, rfl⟩
      have hs6c : (s : Int) + 6 = (s6 : Int) := by omega
      rw [hs6] at Hset hq
      clear hset hs hs2 hD hce hc
      go_wp2_with (first | ((with_reducible refine rw_list ?_); ((with_reducible apply wpList_store_cell); (case ho => with_reducible rfl); (case hgd => with_reducible rfl); (case hx => rfl); (case hy => exact ev_tmp rfl); (case h1 => rfl)); (case hg => exact hrow); (case hi => kernel_rfl); (case hcs => exact Hset.out); (case hlt => exact hq)))
      go_roundw
      case rel => exact ⟨s, by omega, rfl, by rw [Hs2.out], bw_set hB (Nat.le_refl _), by rw [hs6]; exact rw_self hrow⟩
      case measure => simp [intOf]
theorem up_neg2 {T : Int} (h : 0 ≤ T) : (-T) / 2 = resV true T true := by
  have := up_neg1 h
  rwa [Int.sub_add_cancel] at this
def oA (O : List Int) (q i : Nat) : Bool := ((O.take i).drop q).any (fun d => decide (d ≠ 0))
theorem oA_no {O : List Int} {q i : Nat} (h : i ≤ q) : oA O q i = false := by
  unfold oA
  rw [List.drop_eq_nil_of_le (by rw [List.length_take]; omega)]
  rfl
theorem oA_yes {O : List Int} {q i : Nat} (h : q ≤ i) (hi : i < O.length) : oA O q (i + 1) = (oA O q i || decide (O.getD i 0 ≠ 0)) := by
  unfold oA
  rw [List.take_succ_eq_append_getElem hi, List.drop_append_of_le_length (by rw [List.length_take]; omega), List.any_append, List.getD_eq_getElem?_getD, List.getElem?_eq_getElem hi]
  simp
theorem rparse_any (S : ByteArray) (w : World) (hS : S.size ≤ 9223372036854775807) :
    Calls Try.prog 22 #[.string S] w fun e w' => e = .returned (.tuple #[.int .i64 (pV S), .int .i64 (pE S)]) ∧ Below w.heap.size w w' := by
  by_cases h40 : 40 < S.size
  · have hB := Below.refl w.heap.size w
    have e1 := Lib.hid (show pV S = 0 from if_pos h40)
    have e2 := Lib.hid (show pE S = 3 from if_pos h40)
    go_enter Try.func22, Try.ntmps22
    go_wp2_with fail
    exact bodyPost_ret (v := .tuple #[.int .i64 0, .int .i64 3]) (by simp [results, Try.results22, go_sem]) rfl ⟨by rw [e1.out, e2.out], hB⟩
  · have eV : pV S = if dOk S = true then (if isB (pRs S) = true then pRs S else 0) else 0 := if_neg h40
    have eE : pE S = if dOk S = true then (if isB (pRs S) = true then 0 else 6) else 5 := if_neg h40
    rw [eV, eE]
    clear eV eE
    have hrd := fun (w : World) => read_any S w (by omega)
    cases hok : dOk S
    · have Hok := Lib.hid hok
      have Hrd := Lib.hid hrd
      clear hok hrd
      go_enter Try.func22, Try.ntmps22
      go_wp2_with fail
      refine (Hrd.out w).mono ?_
      rintro e w1 ⟨a, v, pt, rfl, hB, _⟩
      rw [Hok.out]
      go_wp2_with fail
      exact bodyPost_ret (v := .tuple #[.int .i64 0, .int .i64 5]) (by simp [results, Try.results22, go_sem]) rfl ⟨by rfl, hB⟩
    · have Hok := Lib.hid hok
      have hx := dEx_bd hok
      have hnS := dN_le S
      have hL := dI_isD S
      have hlen := dI_len S
      have hpt : dPt S = dN1 S + dEx S := rfl
      have hov := o_val hL (dPt S - (dI S).length)
      have hdN : dN S = dN1 S + dN2 S := rfl
      have hRs : pRs S = resV (sgN S 0) (pT S) (pM S) := rfl
      rw [show tT (fvr (dI S)) (dPt S - (dI S).length) = pT S from rfl, show tM (fvr (dI S)) (dPt S - (dI S).length) = pM S from rfl] at hov
      have hE : dPt S - ((dI S).length : Int) = dEx S - dN2 S := by rw [hlen]; omega
      rw [hE] at hov
      obtain ⟨L, hLe⟩ : ∃ q, dI S = q := ⟨_, rfl⟩
      obtain ⟨neg, hne⟩ : ∃ q, sgN S 0 = q := ⟨_, rfl⟩
      obtain ⟨T, hTe⟩ : ∃ q, pT S = q := ⟨_, rfl⟩
      obtain ⟨M, hMe⟩ : ∃ q, pM S = q := ⟨_, rfl⟩
      obtain ⟨RS, hRe⟩ : ∃ q, pRs S = q := ⟨_, rfl⟩
      obtain ⟨E, hEe⟩ : ∃ q, dEx S - (dN2 S : Int) = q := ⟨_, rfl⟩
      have hE1 : -1041 ≤ E ∧ E ≤ 1000 := by omega
      rw [hLe, hTe, hMe, hEe] at hov
      rw [hLe] at hL hlen
      rw [hne, hTe, hMe, hRe] at hRs
      rw [hRe, if_pos rfl, if_pos rfl]
      obtain ⟨VV, hVV⟩ : ∃ q, (if isB RS = true then RS else (0 : Int)) = q := ⟨_, rfl⟩
      obtain ⟨EV, hEV⟩ : ∃ q, (if isB RS = true then (0 : Int) else 6) = q := ⟨_, rfl⟩
      have hVal : VV = (if isB (resV neg T M) = true then resV neg T M else 0) ∧ EV = (if isB (resV neg T M) = true then 0 else 6) := by rw [← hVV, ← hEV, ← hRs]; exact ⟨rfl, rfl⟩
      rw [hVV, hEV]
      have HVal := Lib.hid hVal
      have hL40 : L.length ≤ 40 := by omega
      have hT0 : 0 ≤ T := by rw [← hov.1]; exact (fl_mono (tms_isD hL) _ 0).1
      have hOl := tms_len L
      have hOd := tms_isD hL
      have htim := fun (w : World) x cap base hown => times_any L base x cap w hown hL (by omega)
      obtain ⟨O, hO⟩ : ∃ O, tms L = O := ⟨_, rfl⟩
      rw [hO] at hov hOl hOd
      simp only [hO] at htim
      obtain ⟨q, hq⟩ : ∃ q, oq O E = q := ⟨_, rfl⟩
      rw [hq] at hov
      have hq' : q = ((O.length : Int) + E).toNat := hq.symm
      have Hrd := Lib.hid hrd
      have Hne := Lib.hid hne
      have Hlen := Lib.hid hlen
      have Hov := Lib.hid hov
      have HEe := Lib.hid hEe
      have HLe := Lib.hid hLe
      have Htim := Lib.hid htim
      have Hq := Lib.hid hq'
      clear hok hrd hx hnS hlen hpt hov hRs hVV hEV hVal hLe hne hTe hMe hRe hEe hE hdN hO hq hq' htim hL
      obtain ⟨hE1, hE2⟩ := hE1
      go_enter Try.func22, Try.ntmps22
      go_wp2_with fail
      refine (Hrd.out w).mono ?_
      rintro e w1 ⟨sg, v, ex, rfl, hB, hrest⟩
      obtain ⟨hsg, hex, hown⟩ := hrest Hok.out
      rw [Hok.out]
      have hex2 : ex = E := hex.trans HEe.out
      rw [Hne.out] at hsg
      rw [HLe.out, ← Hlen.out] at hown
      have Hsg := Lib.hid hsg
      subst hex2
      have hsz := hB.size
      obtain ⟨x, cap, rfl⟩ := own_form hown
      clear hex hrest hsg
      go_wp2_with fail
      refine (Htim.out _ _ _ _ hown).mono ?_
      rintro e w2 ⟨g, rfl, hB2, hrow⟩
      have hB3 := hB.trans (hB2.mono hsz)
      clear hB hB2 hown
      have hB := hB3
      clear hB3 hsz
      obtain ⟨n6, hn6⟩ : ∃ n6, L.length + 6 = n6 := ⟨_, rfl⟩
      rw [hn6] at hOl ⊢
      have hn46 : n6 ≤ 46 := by omega
      have hqq := Hq.out
      rw [hOl] at hqq
      have hmax := max2 ex 0
      obtain ⟨m0, hm0⟩ : ∃ m0 : Nat, max ex 0 = (m0 : Int) := ⟨(max ex 0).toNat, by omega⟩
      rw [hm0] at hmax
      have hm1 : m0 ≤ 1000 := by omega
      have hcell : ∀ i, i < n6 → w2.cell? ⟨g, i, none⟩ = some (.int .i64 (O.getD i 0)) := fun i hi => by
        rw [cell_of_row _ _ i _ _ _ hrow]
        exact toArr_get (by rw [hOl]; exact hi)
      have hDb := fun j => isD_getD hOd j
      have hqt : q ≤ n6 + m0 := by omega
      have hq0 : 0 < m0 → q = n6 + m0 := fun h => by omega
      have hqc : ∀ i : Nat, i < q ↔ (i : Int) < (n6 : Int) + ex := fun i => by omega
      have Hqc := Lib.hid hqc
      have Hq0 := Lib.hid hq0
      have Hcell := Lib.hid hcell
      have HDb := Lib.hid hDb
      have HOl := Lib.hid hOl
      have Hfm := Lib.hid (fun i => (fl_mono hOd i 0).1)
      clear hrow hcell hDb hOl hOd hn6 hqq hm0 hqc hq0
      go_wp2_with fail
      go_loop [9, 10, 11] (fun v9 v10 v11 => ∃ i : Nat, i ≤ n6 + m0 ∧ v11 = .int .i64 i ∧ v9 = .int .i64 (min (fl O (min i q)) 1099511627776) ∧ v10 = .bool (oA O q i)) (fun _ _ v => n6 + m0 - (intOf v).toNat)
      case atStart => exact ⟨0, Nat.zero_le _, rfl, by rw [show min 0 q = 0 by omega]; rfl, by rw [oA_no (Nat.zero_le _)]⟩
      case round =>
        obtain ⟨i, hi, rfl, rfl, rfl⟩ := hrel
        have hf0 := Hfm.out (min i q)
        by_cases hlt : i < n6 + m0
        · have hltI : (i : Int) < (n6 : Int) + (m0 : Int) := by omega
          have hd := HDb.out i
          by_cases hiq : i < q
          · have hiqI := (Hqc.out i).1 hiq
            have hfs : fl O (i + 1) = 10 * fl O i + O.getD i 0 := rfl
            rw [oA_no (show i ≤ q by omega), show min i q = i by omega] at *
            have hno := Lib.hid (oA_no (O := O) (show i + 1 ≤ q by omega))
            obtain ⟨D, hD⟩ : ∃ D, O.getD i 0 = D := ⟨_, rfl⟩
            obtain ⟨V, hV⟩ : ∃ V, min (fl O i) 1099511627776 = V := ⟨_, rfl⟩
            rw [hD] at hd hfs
            obtain ⟨hd1, hd2⟩ := hd
            have hV0 : 0 ≤ V ∧ V ≤ 1099511627776 := by omega
            have hnx : min (10 * V + D) 1099511627776 = min (fl O (i + 1)) 1099511627776 := by omega
            obtain ⟨hV1, hV2⟩ := hV0
            rw [hV]
            by_cases hil : i < n6
            · have hc := Hcell.out i hil
              rw [hD] at hc
              have hmin := min2 (10 * V + D) 1099511627776
              rw [hnx] at hmin
              obtain ⟨X, hX⟩ : ∃ X, min (fl O (i + 1)) 1099511627776 = X := ⟨_, rfl⟩
              rw [hX] at hmin
              have HX := Lib.hid hX
              clear hnx hX hV hD hfs hf0
              go_wp2_with fail
              go_round
              case rel => exact ⟨i + 1, by omega, by go_num, by rw [show min (i + 1) q = i + 1 by omega, HX.out], by rw [hno.out]⟩
              case measure => simp [intOf]; omega
            · have hD0 : D = 0 := by rw [← hD, List.getD_eq_getElem?_getD, List.getElem?_eq_none (by rw [HOl.out]; omega)]; rfl
              subst hD0
              have hmin := min2 (10 * V) 1099511627776
              rw [Int.add_zero] at hnx
              rw [hnx] at hmin
              obtain ⟨X, hX⟩ : ∃ X, min (fl O (i + 1)) 1099511627776 = X := ⟨_, rfl⟩
              rw [hX] at hmin
              have HX := Lib.hid hX
              clear hnx hX hV hD hfs hf0
              go_wp2_with fail
              go_round
              case rel => exact ⟨i + 1, by omega, by go_num, by rw [show min (i + 1) q = i + 1 by omega, HX.out], by rw [hno.out]⟩
              case measure => simp [intOf]; omega
          · have hiqI : ¬ (i : Int) < (n6 : Int) + ex := fun h => hiq ((Hqc.out i).2 h)
            have hil : i < n6 := by
              rcases Nat.eq_zero_or_pos m0 with h | h
              · omega
              · have := Hq0.out h; omega
            have hc := Hcell.out i hil
            have hya := oA_yes (O := O) (show q ≤ i by omega) (by rw [HOl.out]; exact hil)
            have hmq : min (i + 1) q = min i q := by omega
            obtain ⟨D, hD⟩ : ∃ D, O.getD i 0 = D := ⟨_, rfl⟩
            obtain ⟨V, hV⟩ : ∃ V, min (fl O (min i q)) 1099511627776 = V := ⟨_, rfl⟩
            obtain ⟨b, hb⟩ : ∃ b, oA O q i = b := ⟨_, rfl⟩
            rw [hD] at hc hd hya
            rw [hb] at hya ⊢
            rw [hV]
            obtain ⟨hd1, hd2⟩ := hd
            have Hya := Lib.hid hya
            have Hmq := Lib.hid hmq
            have HV := Lib.hid hV
            clear hya hmq hV hb hD hf0
            cases b
            · by_cases hD0 : D = 0
              · subst hD0
                go_wp2_with fail
                go_round
                case rel => exact ⟨i + 1, by omega, by go_num, by rw [Hmq.out, HV.out], by rw [Hya.out]; rfl⟩
                case measure => simp [intOf]; omega
              · have hDb : (D != 0) = true := by simpa using hD0
                have Hd := Lib.hid (decide_eq_true hD0)
                go_wp2_with fail
                go_round
                case rel => exact ⟨i + 1, by omega, by go_num, by rw [Hmq.out, HV.out], by rw [Hya.out, Hd.out]; rfl⟩
                case measure => simp [intOf]; omega
            · go_wp2_with fail
              go_round
              case rel => exact ⟨i + 1, by omega, by go_num, by rw [Hmq.out, HV.out], by rw [Hya.out]; simp⟩
              case measure => simp [intOf]; omega
        · have hie : i = n6 + m0 := by omega
          subst hie
          have hov := Hov.out
          have hall : oA O q (n6 + m0) = M := by
            unfold oA
            rw [List.take_of_length_le (by rw [HOl.out]; omega)]
            exact hov.2
          rw [hall, show min (n6 + m0) q = q by omega, hov.1]
          obtain ⟨NN, hNN⟩ : ∃ NN, min T 1099511627776 = NN := ⟨_, rfl⟩
          rw [hNN]
          have hNN1 : 0 ≤ NN ∧ NN ≤ 1099511627776 := by omega
          obtain ⟨hNN1, hNN2⟩ := hNN1
          have hNN := hNN.symm
          have hltI : ¬ ((n6 : Int) + (m0 : Int) < (n6 : Int) + (m0 : Int)) := by omega
          have hsg := Hsg.out
          clear hov hall hf0 Hov Hcell HDb Hfm
          cases neg
          · have hs1 : sg = 1 := hsg
            subst hs1
            clear hsg
            cases M
            · have HV := HVal.out
              have hRR : isB (resV false T false) = isB ((NN + 1) / 2) ∧ (isB (resV false T false) = true → resV false T false = (NN + 1) / 2) := by
                by_cases hTC : T ≤ 1099511627776
                · have e1 : NN = T := by rw [hNN]; omega
                  rw [e1, up_pos hT0 false]
                  exact ⟨rfl, fun _ => rfl⟩
                · have e1 : NN = 1099511627776 := by rw [hNN]; omega
                  have h1 := resV_big (neg := false) (more := false) (show 2147483648 < T / 2 by omega) hT0
                  rw [h1, e1]
                  refine ⟨?_, fun h => absurd h (by simp)⟩
                  exact (decide_eq_false (by omega)).symm
              have HV2 : VV = (if isB ((NN + 1) / 2) = true then (NN + 1) / 2 else 0) ∧ EV = (if isB ((NN + 1) / 2) = true then 0 else 6) := by
                rw [hRR.1] at HV
                rw [HV.1, HV.2]
                refine ⟨?_, rfl⟩
                split
                · rename_i g
                  exact hRR.2 (by rw [hRR.1]; exact g)
                · rfl
              have hfl := Lib.hid (fun w => rfloor_any (NN + 1) 2 w (by omega) (by omega) (by omega) (by omega))
              obtain ⟨r, hr⟩ : ∃ r, (NN + 1) / 2 = r := ⟨_, rfl⟩
              rw [hr] at HV2 hfl
              have hrb : -9223372036854775807 ≤ r ∧ r ≤ 9223372036854775807 := by omega
              obtain ⟨hrb1, hrb2⟩ := hrb
              have HV := HV2
              have HVh := Lib.hid HV
              clear HV HV2 hRR hr hNN HVal hT0
              go_wp2_with fail
              refine (hfl.out _).mono ?_
              rintro e w' ⟨rfl, rfl⟩
              have HV := HVh.out
              by_cases hin : -2147483648 ≤ r ∧ r ≤ 2147483648
              · have hb : isB r = true := decide_eq_true hin
                rw [hb] at HV
                have hvv := Lib.hid HV
                have Hb := Lib.hid hb
                clear HV hb hin
                go_wp2_with fail
                refine (ris_any _ _).mono ?_
                rintro e w' ⟨rfl, rfl⟩
                rw [Hb.out]
                go_wp2_with fail
                exact bodyPost_ret (v := .tuple #[.int .i64 r, .int .i64 0]) (by simp [results, Try.results22, go_sem]) rfl ⟨by rw [hvv.out.1, hvv.out.2]; rfl, hB⟩
              · have hb : isB r = false := decide_eq_false hin
                rw [hb] at HV
                have hvv := Lib.hid HV
                have Hb := Lib.hid hb
                clear HV hb hin
                go_wp2_with fail
                refine (ris_any _ _).mono ?_
                rintro e w' ⟨rfl, rfl⟩
                rw [Hb.out]
                go_wp2_with fail
                exact bodyPost_ret (v := .tuple #[.int .i64 0, .int .i64 6]) (by simp [results, Try.results22, go_sem]) rfl ⟨by rw [hvv.out.1, hvv.out.2]; rfl, hB⟩
            · have HV := HVal.out
              have hRR : isB (resV false T true) = isB ((NN + 1) / 2) ∧ (isB (resV false T true) = true → resV false T true = (NN + 1) / 2) := by
                by_cases hTC : T ≤ 1099511627776
                · have e1 : NN = T := by rw [hNN]; omega
                  rw [e1, up_pos hT0 true]
                  exact ⟨rfl, fun _ => rfl⟩
                · have e1 : NN = 1099511627776 := by rw [hNN]; omega
                  have h1 := resV_big (neg := false) (more := true) (show 2147483648 < T / 2 by omega) hT0
                  rw [h1, e1]
                  refine ⟨?_, fun h => absurd h (by simp)⟩
                  exact (decide_eq_false (by omega)).symm
              have HV2 : VV = (if isB ((NN + 1) / 2) = true then (NN + 1) / 2 else 0) ∧ EV = (if isB ((NN + 1) / 2) = true then 0 else 6) := by
                rw [hRR.1] at HV
                rw [HV.1, HV.2]
                refine ⟨?_, rfl⟩
                split
                · rename_i g
                  exact hRR.2 (by rw [hRR.1]; exact g)
                · rfl
              have hfl := Lib.hid (fun w => rfloor_any (NN + 1) 2 w (by omega) (by omega) (by omega) (by omega))
              obtain ⟨r, hr⟩ : ∃ r, (NN + 1) / 2 = r := ⟨_, rfl⟩
              rw [hr] at HV2 hfl
              have hrb : -9223372036854775807 ≤ r ∧ r ≤ 9223372036854775807 := by omega
              obtain ⟨hrb1, hrb2⟩ := hrb
              have HV := HV2
              have HVh := Lib.hid HV
              clear HV HV2 hRR hr hNN HVal hT0
              go_wp2_with fail
              refine (hfl.out _).mono ?_
              rintro e w' ⟨rfl, rfl⟩
              have HV := HVh.out
              by_cases hin : -2147483648 ≤ r ∧ r ≤ 2147483648
              · have hb : isB r = true := decide_eq_true hin
                rw [hb] at HV
                have hvv := Lib.hid HV
                have Hb := Lib.hid hb
                clear HV hb hin
                go_wp2_with fail
                refine (ris_any _ _).mono ?_
                rintro e w' ⟨rfl, rfl⟩
                rw [Hb.out]
                go_wp2_with fail
                exact bodyPost_ret (v := .tuple #[.int .i64 r, .int .i64 0]) (by simp [results, Try.results22, go_sem]) rfl ⟨by rw [hvv.out.1, hvv.out.2]; rfl, hB⟩
              · have hb : isB r = false := decide_eq_false hin
                rw [hb] at HV
                have hvv := Lib.hid HV
                have Hb := Lib.hid hb
                clear HV hb hin
                go_wp2_with fail
                refine (ris_any _ _).mono ?_
                rintro e w' ⟨rfl, rfl⟩
                rw [Hb.out]
                go_wp2_with fail
                exact bodyPost_ret (v := .tuple #[.int .i64 0, .int .i64 6]) (by simp [results, Try.results22, go_sem]) rfl ⟨by rw [hvv.out.1, hvv.out.2]; rfl, hB⟩
          · have hs1 : sg = -1 := hsg
            subst hs1
            clear hsg
            cases M
            · have HV := HVal.out
              have hRR : isB (resV true T false) = isB ((-NN + 1) / 2) ∧ (isB (resV true T false) = true → resV true T false = (-NN + 1) / 2) := by
                by_cases hTC : T ≤ 1099511627776
                · have e1 : NN = T := by rw [hNN]; omega
                  rw [e1, up_neg0 hT0]
                  exact ⟨rfl, fun _ => rfl⟩
                · have e1 : NN = 1099511627776 := by rw [hNN]; omega
                  have h1 := resV_big (neg := true) (more := false) (show 2147483648 < T / 2 by omega) hT0
                  rw [h1, e1]
                  refine ⟨?_, fun h => absurd h (by simp)⟩
                  exact (decide_eq_false (by omega)).symm
              have HV2 : VV = (if isB ((-NN + 1) / 2) = true then (-NN + 1) / 2 else 0) ∧ EV = (if isB ((-NN + 1) / 2) = true then 0 else 6) := by
                rw [hRR.1] at HV
                rw [HV.1, HV.2]
                refine ⟨?_, rfl⟩
                split
                · rename_i g
                  exact hRR.2 (by rw [hRR.1]; exact g)
                · rfl
              have hfl := Lib.hid (fun w => rfloor_any (-NN + 1) 2 w (by omega) (by omega) (by omega) (by omega))
              obtain ⟨r, hr⟩ : ∃ r, (-NN + 1) / 2 = r := ⟨_, rfl⟩
              rw [hr] at HV2 hfl
              have hrb : -9223372036854775807 ≤ r ∧ r ≤ 9223372036854775807 := by omega
              obtain ⟨hrb1, hrb2⟩ := hrb
              have HV := HV2
              have HVh := Lib.hid HV
              clear HV HV2 hRR hr hNN HVal hT0
              go_wp2_with fail
              refine (hfl.out _).mono ?_
              rintro e w' ⟨rfl, rfl⟩
              have HV := HVh.out
              by_cases hin : -2147483648 ≤ r ∧ r ≤ 2147483648
              · have hb : isB r = true := decide_eq_true hin
                rw [hb] at HV
                have hvv := Lib.hid HV
                have Hb := Lib.hid hb
                clear HV hb hin
                go_wp2_with fail
                refine (ris_any _ _).mono ?_
                rintro e w' ⟨rfl, rfl⟩
                rw [Hb.out]
                go_wp2_with fail
                exact bodyPost_ret (v := .tuple #[.int .i64 r, .int .i64 0]) (by simp [results, Try.results22, go_sem]) rfl ⟨by rw [hvv.out.1, hvv.out.2]; rfl, hB⟩
              · have hb : isB r = false := decide_eq_false hin
                rw [hb] at HV
                have hvv := Lib.hid HV
                have Hb := Lib.hid hb
                clear HV hb hin
                go_wp2_with fail
                refine (ris_any _ _).mono ?_
                rintro e w' ⟨rfl, rfl⟩
                rw [Hb.out]
                go_wp2_with fail
                exact bodyPost_ret (v := .tuple #[.int .i64 0, .int .i64 6]) (by simp [results, Try.results22, go_sem]) rfl ⟨by rw [hvv.out.1, hvv.out.2]; rfl, hB⟩
            · have HV := HVal.out
              have hRR : isB (resV true T true) = isB ((-NN) / 2) ∧ (isB (resV true T true) = true → resV true T true = (-NN) / 2) := by
                by_cases hTC : T ≤ 1099511627776
                · have e1 : NN = T := by rw [hNN]; omega
                  rw [e1, up_neg2 hT0]
                  exact ⟨rfl, fun _ => rfl⟩
                · have e1 : NN = 1099511627776 := by rw [hNN]; omega
                  have h1 := resV_big (neg := true) (more := true) (show 2147483648 < T / 2 by omega) hT0
                  rw [h1, e1]
                  refine ⟨?_, fun h => absurd h (by simp)⟩
                  exact (decide_eq_false (by omega)).symm
              have HV2 : VV = (if isB ((-NN) / 2) = true then (-NN) / 2 else 0) ∧ EV = (if isB ((-NN) / 2) = true then 0 else 6) := by
                rw [hRR.1] at HV
                rw [HV.1, HV.2]
                refine ⟨?_, rfl⟩
                split
                · rename_i g
                  exact hRR.2 (by rw [hRR.1]; exact g)
                · rfl
              have hfl := Lib.hid (fun w => rfloor_any (-NN) 2 w (by omega) (by omega) (by omega) (by omega))
              obtain ⟨r, hr⟩ : ∃ r, (-NN) / 2 = r := ⟨_, rfl⟩
              rw [hr] at HV2 hfl
              have hrb : -9223372036854775807 ≤ r ∧ r ≤ 9223372036854775807 := by omega
              obtain ⟨hrb1, hrb2⟩ := hrb
              have HV := HV2
              have HVh := Lib.hid HV
              clear HV HV2 hRR hr hNN HVal hT0
              go_wp2_with fail
              refine (hfl.out _).mono ?_
              rintro e w' ⟨rfl, rfl⟩
              have HV := HVh.out
              by_cases hin : -2147483648 ≤ r ∧ r ≤ 2147483648
              · have hb : isB r = true := decide_eq_true hin
                rw [hb] at HV
                have hvv := Lib.hid HV
                have Hb := Lib.hid hb
                clear HV hb hin
                go_wp2_with fail
                refine (ris_any _ _).mono ?_
                rintro e w' ⟨rfl, rfl⟩
                rw [Hb.out]
                go_wp2_with fail
                exact bodyPost_ret (v := .tuple #[.int .i64 r, .int .i64 0]) (by simp [results, Try.results22, go_sem]) rfl ⟨by rw [hvv.out.1, hvv.out.2]; rfl, hB⟩
              · have hb : isB r = false := decide_eq_false hin
                rw [hb] at HV
                have hvv := Lib.hid HV
                have Hb := Lib.hid hb
                clear HV hb hin
                go_wp2_with fail
                refine (ris_any _ _).mono ?_
                rintro e w' ⟨rfl, rfl⟩
                rw [Hb.out]
                go_wp2_with fail
                exact bodyPost_ret (v := .tuple #[.int .i64 0, .int .i64 6]) (by simp [results, Try.results22, go_sem]) rfl ⟨by rw [hvv.out.1, hvv.out.2]; rfl, hB⟩
end Go.Proofs.Ytilchjpjmfaghaa.T3
