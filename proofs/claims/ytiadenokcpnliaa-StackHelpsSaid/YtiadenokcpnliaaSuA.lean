/- chapter 12: the reference: counts, Mark. -/
import Derived.Test.YtiadenokcpnliaaStZ
import Derived.WalkKit
import Derived.Lib.Hide
import Derived.Deep.QuietTactic
import Derived.BigQuiet
import Derived.Lib.QuietBelow
import Derived.Deep.RegionHeld3
import Derived.WalkLawsBesides
import Derived.WalkSpells
import Derived.Outline
import Derived.Deep.DeepFit
import Derived.Maps.AppendAt
import Derived.Deep.AppendLies
import Derived.Deep.CutRange
import Derived.OpenShut
namespace Go.Proofs.Ytiadenokcpnliaa.T3
set_option linter.unusedSimpArgs false
set_option linter.unusedVariables false
open Go.RowKit
attribute [local go_sem] Oper.semAt_some
set_option maxHeartbeats 4000000
set_option maxRecDepth 100000

/-- the index of the last mark among the first objects, or -1 -/
def lastK (L : List Ob) : Nat → Int
  | 0 => -1
  | i + 1 => if (at_ L i).k = 1 then i else lastK L i
theorem lastK_bd (L : List Ob) : ∀ i, -1 ≤ lastK L i ∧ lastK L i < (i : Int)
  | 0 => by simp [lastK]
  | i + 1 => by
    have := lastK_bd L i
    unfold lastK
    split <;> omega
theorem lastK_none (L : List Ob) : ∀ i, lastK L i < 0 → ∀ j, j < i → (at_ L j).k ≠ 1
  | 0, _, j, hj => by omega
  | i + 1, h, j, hj => by
    unfold lastK at h
    by_cases hk : (at_ L i).k = 1
    · rw [if_pos hk] at h; omega
    · rw [if_neg hk] at h
      rcases Nat.lt_or_ge j i with h1 | h1
      · exact lastK_none L i h j h1
      · rwa [show j = i by omega]
theorem lastK_some (L : List Ob) : ∀ i p : Nat, lastK L i = p → (at_ L p).k = 1 ∧ ∀ j, p < j → j < i → (at_ L j).k ≠ 1
  | 0, p, h => by unfold lastK at h; omega
  | i + 1, p, h => by
    unfold lastK at h
    by_cases hk : (at_ L i).k = 1
    · rw [if_pos hk] at h
      have : p = i := by omega
      subst this
      exact ⟨hk, fun j h1 h2 => by omega⟩
    · rw [if_neg hk] at h
      obtain ⟨h1, h2⟩ := lastK_some L i p h
      refine ⟨h1, fun j h3 h4 => ?_⟩
      rcases Nat.lt_or_ge j i with h5 | h5
      · exact h2 j h3 h5
      · rwa [show j = i by omega]
theorem lastK_above (L : List Ob) : (lastK L L.length < 0 → aboveV L = -1) ∧ (∀ p : Nat, lastK L L.length = p → aboveV L = ((L.length - 1 - p : Nat) : Int)) := by
  constructor
  · intro h
    refine above_none fun j hj o ho => ?_
    have := lastK_none L _ h (L.length - 1 - j) (by omega)
    rw [at_get (by omega)] at ho
    cases ho
    exact this
  · intro p hp
    have hb := lastK_bd L L.length
    obtain ⟨h1, h2⟩ := lastK_some L _ p hp
    refine above_some (i := L.length - 1 - p) (by omega) (o := at_ L p) ?_ h1 fun j hj o ho => ?_
    · rw [show L.length - 1 - (L.length - 1 - p) = p by omega]
      exact at_get (by omega)
    · rw [at_get (by omega)] at ho
      cases ho
      exact h2 _ (by omega) (by omega)
theorem mark_any {A : Nat → Prop} {x : Option Addr} {len cap : Nat} {R : List Value} {L : List Ob} (w : World) (h : SL A w x len cap L) (hR : OkR R) :
    Calls Try.prog 41 #[.agg (stA (.slice x len cap) R)] w fun e w' => e = .returned (.int .i64 (lastK L len)) ∧ Below w.heap.size w w' := by
  have hln := h.ln
  have hsm := h.sm
  go_enter Try.func41, Try.ntmps41
  go_upto_region 3 with fail
  generalize hwy_ : World.alloc _ _ = wy
  have hB_wy : Below w.heap.size w wy := bw_eq hwy_ (by with_reducible repeat (first | exact Below.refl _ _ | assumption | ((first | refine Below.alloc ?_ ?b_ _ | refine bw_set ?_ ?b_ | refine Below.setCell ?_ ?b_ _); case b_ => first | omega | (simp; done) | (simp; omega)) | refine Below.drew ?_ | refine below_drewN ?_ _))
  have hx_ := rw_eq (k := w.heap.size) hwy_ (by with_reducible repeat (first | assumption | (refine rw_new ?e_; case e_ => first | rfl | (simp; done) | (simp; omega)) | apply rw_self | (apply rw_other; case hn => first | omega | (simp; omega)) | apply rw_alloc | apply rw_drew | apply rw_drewN))
  (try clear hp)
  have hp := hx_
  clear hx_
  have hl_hp := rw_lt hp
  clear hwy_
  have hpc := (cell_of_row _ _ 0 _ _ _ hp).trans (stA_get _ _)
  have hob := h.ob.below (B := w.heap.size) hB_wy (Nat.le_refl _)
  clear hp
  go_loopw [3, 4] (fun v3 v4 wr => ∃ i : Nat, i ≤ len ∧ v3 = .int .i64 (lastK L i) ∧ v4 = .int .i64 i ∧ wr = wy) (fun _ v4 _ => len - (intOf v4).toNat)
  case atStart => exact ⟨0, Nat.zero_le _, rfl, rfl, rfl⟩
  case round =>
    obtain ⟨i, hi, rfl, rfl, rfl⟩ := hrel
    by_cases hlt : i < len
    · obtain ⟨b, off, hxe⟩ := hob.some_of (by omega)
      rw [hxe] at hob hpc
      obtain ⟨c0, _⟩ := hob.at (at_get (L := L) (i := i) (by omega))
      have hst : lastK L (i + 1) = if (at_ L i).k = 1 then (i : Int) else lastK L i := rfl
      obtain ⟨q, hq⟩ : ∃ q, (at_ L i).k = q := ⟨_, rfl⟩
      obtain ⟨a, ha⟩ : ∃ a, lastK L i = a := ⟨_, rfl⟩
      rw [hq] at c0 hst
      rw [ha] at hst ⊢
      have Hst := Lib.hid hst
      clear hq ha hst hxe hob
      by_cases hk : q = 1
      · subst hk
        go_wp2_with fail
        go_roundw
        case rel => exact ⟨i + 1, by omega, by rw [Hst.out]; rfl, by go_num, by first | trivial | rfl⟩
        case measure => simp [intOf]; omega
      · have hkk : (q == 1) = false := by simpa using hk
        go_wp2_with fail
        go_roundw
        case rel => exact ⟨i + 1, by omega, by rw [Hst.out, if_neg hk], by go_num, by first | trivial | rfl⟩
        case measure => simp [intOf]; omega
    · have hin : i = len := by omega
      subst hin
      obtain ⟨a, ha⟩ : ∃ a, lastK L i = a := ⟨_, rfl⟩
      have Ha := Lib.hid ha
      rw [ha]
      clear ha
      go_wp2_with fail
      (try simp only [Exit.noGoto])
      go_ret
      exact ⟨by rw [Ha.out]; rfl, (by with_reducible repeat (first | exact Below.refl _ _ | assumption | ((first | refine Below.alloc ?_ ?b_ _ | refine bw_set ?_ ?b_ | refine Below.setCell ?_ ?b_ _); case b_ => first | omega | (simp; done) | (simp; omega)) | refine Below.drew ?_ | refine below_drewN ?_ _))⟩
theorem counts_any {A : Nat → Prop} {x : Option Addr} {len cap : Nat} {R : List Value} {L : List Ob} (n more : Nat) (hn0 : 0 < n) (hn : n ≤ 2) (hm : more ≤ 1) (w : World) (h : SL A w x len cap L) (hR : OkR R) :
    Calls Try.prog 39 #[.agg (stA (.slice x len cap) R), .int .i64 n, .int .i64 more] w fun e w' => e = .returned (.int .i64 (ctE L n more)) ∧ Below w.heap.size w w' := by
  have hln := h.ln
  have hsm := h.sm
  by_cases hu : len < n
  · rw [show ctE L n more = 20 from ctE_under (by omega)]
    go_enter Try.func39, Try.ntmps39
    go_wp2_with (first | ((with_reducible refine rw_list ?_); (with_reducible apply wpList_append_eq); (case ho => with_reducible rfl); (case hgd => with_reducible rfl); (case hs => first | exact ev_const | exact ev_tmp rfl); (case hx => first | exact ev_const | exact ev_tmp rfl); (case hr => exact hap _)) | ((with_reducible refine rw_list ?_); (first | ((with_reducible apply wpList_load_cell); (case ho => with_reducible rfl); (case hgd => with_reducible rfl); (case hx => rfl); (case hu => first | exact Try.underlying22 | exact Try.underlying3 | exact Try.underlying55 | exact Try.underlying9 | exact Try.underlying4); (case hd => rfl)) | ((with_reducible apply wpList_load_row); (case ho => with_reducible rfl); (case hgd => with_reducible rfl); (case hx => rfl); (case hu => first | exact Try.underlying49 | exact Try.underlying83 | exact Try.underlying43); (case hd => rfl)) | ((with_reducible apply wpList_store_row); (case ho => with_reducible rfl); (case hgd => with_reducible rfl); (case hx => rfl); (case hy => rfl)) | ((with_reducible apply wpList_store_cell); (case ho => with_reducible rfl); (case hgd => with_reducible rfl); (case hx => rfl); (case hy => first | exact ev_const | exact ev_tmp rfl); (case h1 => rfl))); (case hg => exact (by with_reducible repeat (first | assumption | (refine rw_new ?e_; case e_ => first | rfl | (simp; done) | (simp; omega)) | apply rw_self | (apply rw_other; case hn => first | omega | (simp; omega)) | apply rw_alloc | apply rw_drew | apply rw_drewN))); (try case hv => first | exact stA_get _ _ | exact hcur0 | rfl); (try case hi => first | exact hR.i49 _ | exact hR.i83 _ | kernel_rfl); (try case hold => first | exact hR.z _ _ | exact hR.sz _ _ | rfl); (try case h1 => first | exact hR.all _ rfl | kernel_rfl); (try case hlt => first | exact stA_lt _ _ | rfl); (try case hcs => first | exact stA_set _ _ _ | ((try simp only [List.setIfInBounds_toArray, List.set_cons_succ, List.set_cons_zero]); rfl))))
    go_ret
    exact ⟨rfl, (by with_reducible repeat (first | exact Below.refl _ _ | assumption | ((first | refine Below.alloc ?_ ?b_ _ | refine bw_set ?_ ?b_ | refine Below.setCell ?_ ?b_ _); case b_ => first | omega | (simp; done) | (simp; omega)) | refine Below.drew ?_ | refine below_drewN ?_ _))⟩
  · obtain ⟨p, hp0⟩ : ∃ p, len - n = p := ⟨_, rfl⟩
    have hp1 : (len : Int) - (n : Int) = (p : Int) := by omega
    have hpl : p < len := by omega
    obtain ⟨b, off, hxe⟩ := h.ob.some_of (by omega)
    subst hxe
    have hd : L.length - n = p := by omega
    have hN : ctN L n = (at_ L p).n := by
      unfold ctN at_
      rw [hd, List.getD_eq_getElem?_getD, List.getElem?_drop, ← List.getD_eq_getElem?_getD, Nat.add_zero]
    clear hp0
    go_enter Try.func39, Try.ntmps39
    go_upto_region 1 with fail
    generalize hwy_ : World.alloc _ _ = wy
    have hB_wy : Below w.heap.size w wy := bw_eq hwy_ (by with_reducible repeat (first | exact Below.refl _ _ | assumption | ((first | refine Below.alloc ?_ ?b_ _ | refine bw_set ?_ ?b_ | refine Below.setCell ?_ ?b_ _); case b_ => first | omega | (simp; done) | (simp; omega)) | refine Below.drew ?_ | refine below_drewN ?_ _))
    have hx_ := rw_eq (k := w.heap.size) hwy_ (by with_reducible repeat (first | assumption | (refine rw_new ?e_; case e_ => first | rfl | (simp; done) | (simp; omega)) | apply rw_self | (apply rw_other; case hn => first | omega | (simp; omega)) | apply rw_alloc | apply rw_drew | apply rw_drewN))
    (try clear hp)
    have hp := hx_
    clear hx_
    have hl_hp := rw_lt hp
    clear hwy_
    have hpc := (cell_of_row _ _ 0 _ _ _ hp).trans (stA_get _ _)
    have hob := h.ob.below (B := w.heap.size) hB_wy (Nat.le_refl _)
    clear hp
    go_upto_region 5 with fail
    go_loopw [8] (fun v wr => ∃ j : Nat, p ≤ j ∧ j ≤ len ∧ v = .int .i64 j ∧ (∀ t, p ≤ t → t < j → (at_ L t).k = 3) ∧ wr = wy) (fun v _ => len - (intOf v).toNat)
    case atStart => exact ⟨p, Nat.le_refl _, by omega, rfl, fun t h1 h2 => by omega, rfl⟩
    case round =>
      obtain ⟨j, hj, hj2, rfl, hall, rfl⟩ := hrel
      by_cases hlt : j < len
      · obtain ⟨c0, _⟩ := hob.at (at_get (L := L) (i := j) (by omega))
        obtain ⟨q, hq⟩ : ∃ q, (at_ L j).k = q := ⟨_, rfl⟩
        rw [hq] at c0
        by_cases hk : q = 3
        · subst hk
          have Hall := Lib.hid (show ∀ t, p ≤ t → t < j + 1 → (at_ L t).k = 3 from fun t h1 h2 => by
            rcases Nat.lt_or_ge t j with h3 | h3
            · exact hall t h1 h3
            · rwa [show t = j by omega])
          clear hq hall hob
          go_wp2_with fail
          go_roundw
          case rel => exact ⟨j + 1, by omega, by omega, by go_num, Hall.out, by first | trivial | rfl⟩
          case measure => simp [intOf]; omega
        · have hkk : (q == 3) = false := by simpa using hk
          have He := Lib.hid (show ctE L n more = 22 from ctE_type (by omega) (fun hA => by
            have := hA (at_ L j) (by
              rw [hd]
              refine List.mem_of_getElem? (i := j - p) ?_
              rw [List.getElem?_drop, show p + (j - p) = j by omega]
              exact at_get (by omega))
            exact hk (hq ▸ this)))
          clear hq hall hob
          go_wp2_with fail
          (try simp only [Exit.noGoto])
          go_ret
          exact ⟨by rw [He.out]; rfl, (by with_reducible repeat (first | exact Below.refl _ _ | assumption | ((first | refine Below.alloc ?_ ?b_ _ | refine bw_set ?_ ?b_ | refine Below.setCell ?_ ?b_ _); case b_ => first | omega | (simp; done) | (simp; omega)) | refine Below.drew ?_ | refine below_drewN ?_ _))⟩
      · have hin : j = len := by omega
        have hA : allI (L.drop (L.length - n)) := by
          rw [hd]
          intro o ho
          obtain ⟨t, ht⟩ := List.getElem?_of_mem ho
          rw [List.getElem?_drop] at ht
          have htl : p + t < L.length := by
            rcases Nat.lt_or_ge (p + t) L.length with h1 | h1
            · exact h1
            · rw [List.getElem?_eq_none h1] at ht; cases ht
          rw [at_get htl] at ht
          cases ht
          exact hall _ (by omega) (by omega)
        obtain ⟨_, _, c2, _⟩ := hob.at (at_get (L := L) (i := p) (by omega))
        obtain ⟨N, hNN⟩ : ∃ N, (at_ L p).n = N := ⟨_, rfl⟩
        rw [hNN] at c2 hN
        subst hin
        clear hNN hall hob
        by_cases hneg : N < 0
        · have He := Lib.hid (show ctE L n more = 23 from ctE_neg (by omega) hA (by rw [hN]; exact hneg))
          clear hN hA
          go_wp2_with fail
          (try simp only [Exit.noGoto])
          go_ret
          exact ⟨by rw [He.out]; rfl, (by with_reducible repeat (first | exact Below.refl _ _ | assumption | ((first | refine Below.alloc ?_ ?b_ _ | refine bw_set ?_ ?b_ | refine Below.setCell ?_ ?b_ _); case b_ => first | omega | (simp; done) | (simp; omega)) | refine Below.drew ?_ | refine below_drewN ?_ _))⟩
        · by_cases hbig : (p : Int) + 1 - more ≤ N
          · have He := Lib.hid (show ctE L n more = 20 from ctE_far (by omega) hA (by rw [hN]; omega) (by rw [hN, hd]; exact hbig))
            clear hN hA
            by_cases hlen : (j : Int) < N
            · go_wp2_with fail
              (try simp only [Exit.noGoto])
              go_ret
              exact ⟨by rw [He.out]; rfl, (by with_reducible repeat (first | exact Below.refl _ _ | assumption | ((first | refine Below.alloc ?_ ?b_ _ | refine bw_set ?_ ?b_ | refine Below.setCell ?_ ?b_ _); case b_ => first | omega | (simp; done) | (simp; omega)) | refine Below.drew ?_ | refine below_drewN ?_ _))⟩
            · have hgt : (p : Int) < N + more := by omega
              go_wp2_with fail
              (try simp only [Exit.noGoto])
              go_ret
              exact ⟨by rw [He.out]; rfl, (by with_reducible repeat (first | exact Below.refl _ _ | assumption | ((first | refine Below.alloc ?_ ?b_ _ | refine bw_set ?_ ?b_ | refine Below.setCell ?_ ?b_ _); case b_ => first | omega | (simp; done) | (simp; omega)) | refine Below.drew ?_ | refine below_drewN ?_ _))⟩
          · have He := Lib.hid (show ctE L n more = 0 from ctE_zero (by omega) hA (by rw [hN]; omega) (by rw [hN, hd]; omega))
            clear hN hA
            have hlen : ¬ (j : Int) < N := by omega
            have hgt : ¬ (p : Int) < N + more := by omega
            go_wp2_with fail
            (try simp only [Exit.noGoto])
            go_ret
            exact ⟨by rw [He.out]; rfl, (by with_reducible repeat (first | exact Below.refl _ _ | assumption | ((first | refine Below.alloc ?_ ?b_ _ | refine bw_set ?_ ?b_ | refine Below.setCell ?_ ?b_ _); case b_ => first | omega | (simp; done) | (simp; omega)) | refine Below.drew ?_ | refine below_drewN ?_ _))⟩
end Go.Proofs.Ytiadenokcpnliaa.T3
