/- chapter 12: the reference: roll. -/
import Derived.Test.YtiadenokcpnliaaSuD
import Derived.WalkKit
import Derived.Lib.Hide
import Derived.Deep.QuietTactic
import Derived.BigQuiet
import Derived.Lib.QuietBelow
import Derived.Deep.RegionHeld3
import Derived.WalkLawsBesides
import Derived.WalkSpells
import Derived.Outline
import Derived.Deep.DeepFit
import Derived.Maps.AppendAt
import Derived.Deep.AppendLies
import Derived.Deep.CutRange
import Derived.OpenShut
namespace Go.Proofs.Ytiadenokcpnliaa.T3
set_option linter.unusedSimpArgs false
set_option linter.unusedVariables false
open Go.RowKit
attribute [local go_sem] Oper.semAt_some
set_option maxHeartbeats 4000000
set_option maxRecDepth 100000

theorem emod_tmod (x : Int) (k : Nat) (hk : 0 < k) : -(k : Int) < x.tmod k ∧ x.tmod k < k ∧ (x.tmod k < 0 → x % (k : Int) = x.tmod k + k) ∧ (0 ≤ x.tmod k → x % (k : Int) = x.tmod k) := by
  have hk' : (0 : Int) < k := by omega
  have h1 := Int.tmod_lt_of_pos x hk'
  have h2 := Int.tmod_lt_of_pos (-x) hk'
  rw [Int.neg_tmod] at h2
  have h3 := Int.mul_tdiv_add_tmod x (k : Int)
  have h4 : x % (k : Int) = x.tmod k % (k : Int) := by
    conv => lhs; rw [← h3]
    rw [Int.add_comm, Int.add_mul_emod_self_left]
  refine ⟨by omega, h1, fun h => ?_, fun h => ?_⟩
  · rw [h4, ← Int.add_emod_right, Int.emod_eq_of_lt (by omega) (by omega)]
  · rw [h4, Int.emod_eq_of_lt h h1]
theorem from_is (i J : Int) (k : Nat) (hk : 0 < k) : (i - J.tmod k) % (k : Int) = (i - J) % (k : Int) := by
  have h3 := Int.mul_tdiv_add_tmod J (k : Int)
  have : i - J.tmod k = (i - J) + (k : Int) * J.tdiv k := by omega
  rw [this, Int.add_mul_emod_self_left]
theorem rd_roll : OpD ⟨#[114, 111, 108, 108]⟩ rollR := by
  intro A x len cap R L w h hR
  have hz := zeroS
  have hle := h.le
  have hmx := h.mx
  have hsm := h.sm
  have hln := h.ln
  by_cases hc : ctE L 2 0 = 0
  · obtain ⟨q1, _, q3, q4⟩ := ctE_ok hc
    rw [hln] at q1 q4
    obtain ⟨p, hp0⟩ : ∃ p, len - 1 = p := ⟨_, rfl⟩
    have hp1 : (len : Int) - 1 = (p : Int) := by omega
    have hpl : p < len := by omega
    obtain ⟨p2, hp2⟩ : ∃ p2, len - 2 = p2 := ⟨_, rfl⟩
    have hp21 : (len : Int) - 2 = (p2 : Int) := by omega
    have hpl2 : p2 < len := by omega
    obtain ⟨k, hk⟩ : ∃ k : Nat, ctN L 2 = k := ⟨(ctN L 2).toNat, by omega⟩
    rw [hk, hp2] at q4
    have hN : (at_ L p2).n = k := by rw [← hk, ctN_at, hln, hp2]
    obtain ⟨lo, hlo⟩ : ∃ lo, p2 - k = lo := ⟨_, rfl⟩
    have hlo1 : (p2 : Int) - (k : Int) = (lo : Int) := by omega
    obtain ⟨k2, hk2⟩ : ∃ k2, k + 2 = k2 := ⟨_, rfl⟩
    have hk21 : (k : Int) + 2 = (k2 : Int) := by omega
    obtain ⟨T, hT⟩ : ∃ T, (L.take p2).drop lo = T := ⟨_, rfl⟩
    have hTl : T.length = k := by rw [← hT]; simp; omega
    have hTat : ∀ m, m < k → at_ T m = at_ L (lo + m) := fun m hm => by
      rw [← hT]; unfold at_
      rw [List.getD_eq_getElem?_getD, List.getElem?_drop, List.getElem?_take_of_lt (by omega), ← List.getD_eq_getElem?_getD]
    have hcl : ctL L 2 0 = T := by unfold ctL; rw [hln, hk, hp2, Int.toNat_natCast, Nat.add_zero, hlo, hT]
    obtain ⟨J, hJ⟩ : ∃ J, (at_ L p).n = J := ⟨_, rfl⟩
    have hcj : ctJ L = J := by
      unfold ctJ
      rw [hln, ← hJ]
      unfold at_
      rw [List.getD_eq_getElem?_getD, List.getElem?_drop, ← List.getD_eq_getElem?_getD, show len - 2 + 1 = p by omega]
    have hroll : rollR L = insR L k2 (rollV T J) := by
      unfold rollR
      rw [if_pos hc, hcl, hcj, hTl]
      by_cases h0 : k = 0
      · rw [if_pos h0]
        have : rollV T J = [] := List.eq_nil_of_length_eq_zero (by rw [rollV_len]; omega)
        rw [this, show k2 = 2 by omega]
      · rw [if_neg h0, hk2]
    rw [hroll]
    obtain ⟨b, off, rfl⟩ := h.ob.some_of (by omega)
    have Hc := Lib.hid hc
    have hNhl2 := hN
    have hNhl3 := hJ
    have hk2l : k2 ≤ len := by omega
    have hkl : k ≤ 1000 := by omega
    clear hk hp0 hp2 hc q3 q4 hT hcl hcj hroll hlo hk2
    go_enter Try.func14, Try.ntmps14
    go_wp2_with (first | ((with_reducible refine rw_list ?_); (with_reducible apply wpList_append_eq); (case ho => with_reducible rfl); (case hgd => with_reducible rfl); (case hs => first | exact ev_const | exact ev_tmp rfl); (case hx => first | exact ev_const | exact ev_tmp rfl); (case hr => exact hap _)) | ((with_reducible refine rw_list ?_); (first | ((with_reducible apply wpList_load_cell); (case ho => with_reducible rfl); (case hgd => with_reducible rfl); (case hx => rfl); (case hu => first | exact Try.underlying22 | exact Try.underlying3 | exact Try.underlying55 | exact Try.underlying9 | exact Try.underlying4); (case hd => rfl)) | ((with_reducible apply wpList_load_row); (case ho => with_reducible rfl); (case hgd => with_reducible rfl); (case hx => rfl); (case hu => first | exact Try.underlying49 | exact Try.underlying83 | exact Try.underlying43); (case hd => rfl)) | ((with_reducible apply wpList_store_row); (case ho => with_reducible rfl); (case hgd => with_reducible rfl); (case hx => rfl); (case hy => rfl)) | ((with_reducible apply wpList_store_cell); (case ho => with_reducible rfl); (case hgd => with_reducible rfl); (case hx => rfl); (case hy => first | exact ev_const | exact ev_tmp rfl); (case h1 => rfl))); (case hg => exact (by with_reducible repeat (first | assumption | (refine rw_new ?e_; case e_ => first | rfl | (simp; done) | (simp; omega)) | apply rw_self | (apply rw_other; case hn => first | omega | (simp; omega)) | apply rw_alloc | apply rw_drew | apply rw_drewN))); (try case hv => first | exact stA_get _ _ | exact hcur0 | rfl); (try case hi => first | exact hR.i49 _ | exact hR.i83 _ | kernel_rfl); (try case hold => first | exact hR.z _ _ | exact hR.sz _ _ | rfl); (try case h1 => first | exact hR.all _ rfl | kernel_rfl); (try case hlt => first | exact stA_lt _ _ | rfl); (try case hcs => first | exact stA_set _ _ _ | ((try simp only [List.setIfInBounds_toArray, List.set_cons_succ, List.set_cons_zero]); rfl))))
    refine (counts_any 2 0 (by omega) (by omega) (by omega) _ (h.below (B := w.heap.size) (by with_reducible repeat (first | exact Below.refl _ _ | assumption | ((first | refine Below.alloc ?_ ?b_ _ | refine bw_set ?_ ?b_ | refine Below.setCell ?_ ?b_ _); case b_ => first | omega | (simp; done) | (simp; omega)) | refine Below.drew ?_ | refine below_drewN ?_ _)) (Nat.le_refl _)) hR).mono ?_
    rintro e w1 ⟨rfl, hb⟩
    have hs_w1 := hb.size
    (try simp at hs_w1)
    have hB_w1 : Below w.heap.size w w1 := below_then (w := w) (by with_reducible repeat (first | exact Below.refl _ _ | assumption | ((first | refine Below.alloc ?_ ?b_ _ | refine bw_set ?_ ?b_ | refine Below.setCell ?_ ?b_ _); case b_ => first | omega | (simp; done) | (simp; omega)) | refine Below.drew ?_ | refine below_drewN ?_ _)) (by first | omega | (simp; done) | (simp; omega) | (have hq_ := hb.size; omega)) hb
    have hx_ := rw_below (k := w.heap.size) hb (by with_reducible repeat (first | assumption | (refine rw_new ?e_; case e_ => first | rfl | (simp; done) | (simp; omega)) | apply rw_self | (apply rw_other; case hn => first | omega | (simp; omega)) | apply rw_alloc | apply rw_drew | apply rw_drewN))
    (try clear hp)
    have hp := hx_
    clear hx_
    have hx_ := rw_below (k := w.heap.size + 1) hb (by with_reducible repeat (first | assumption | (refine rw_new ?e_; case e_ => first | rfl | (simp; done) | (simp; omega)) | apply rw_self | (apply rw_other; case hn => first | omega | (simp; omega)) | apply rw_alloc | apply rw_drew | apply rw_drewN))
    (try clear hq)
    have hq := hx_
    clear hx_
    clear hb
    rw [Hc.out]
    go_upto_region 29 with (first | ((with_reducible refine rw_list ?_); (with_reducible apply wpList_append_eq); (case ho => with_reducible rfl); (case hgd => with_reducible rfl); (case hs => first | exact ev_const | exact ev_tmp rfl); (case hx => first | exact ev_const | exact ev_tmp rfl); (case hr => exact hap _)) | ((with_reducible refine rw_list ?_); (first | ((with_reducible apply wpList_load_cell); (case ho => with_reducible rfl); (case hgd => with_reducible rfl); (case hx => rfl); (case hu => first | exact Try.underlying22 | exact Try.underlying3 | exact Try.underlying55 | exact Try.underlying9 | exact Try.underlying4); (case hd => rfl)) | ((with_reducible apply wpList_load_row); (case ho => with_reducible rfl); (case hgd => with_reducible rfl); (case hx => rfl); (case hu => first | exact Try.underlying49 | exact Try.underlying83 | exact Try.underlying43); (case hd => rfl)) | ((with_reducible apply wpList_store_row); (case ho => with_reducible rfl); (case hgd => with_reducible rfl); (case hx => rfl); (case hy => rfl)) | ((with_reducible apply wpList_store_cell); (case ho => with_reducible rfl); (case hgd => with_reducible rfl); (case hx => rfl); (case hy => first | exact ev_const | exact ev_tmp rfl); (case h1 => rfl))); (case hg => exact (by with_reducible repeat (first | assumption | (refine rw_new ?e_; case e_ => first | rfl | (simp; done) | (simp; omega)) | apply rw_self | (apply rw_other; case hn => first | omega | (simp; omega)) | apply rw_alloc | apply rw_drew | apply rw_drewN))); (try case hv => first | exact stA_get _ _ | exact hcur0 | rfl); (try case hi => first | exact hR.i49 _ | exact hR.i83 _ | kernel_rfl); (try case hold => first | exact hR.z _ _ | exact hR.sz _ _ | rfl); (try case h1 => first | exact hR.all _ rfl | kernel_rfl); (try case hlt => first | exact stA_lt _ _ | rfl); (try case hcs => first | exact stA_set _ _ _ | ((try simp only [List.setIfInBounds_toArray, List.set_cons_succ, List.set_cons_zero]); rfl))))
    have hl2 : ∀ w', Held w1 [w.heap.size + 1] w' → (loadVar 3 ⟨b, off + p2 * 7 + 2, none⟩).run Try.prog w' = .ok (.int .i64 k) w' := fun w' hH => by
      have := h.heldn hB_w1 (by omega) hH b off p2 _ rfl (at_get (L := L) (i := p2) (by omega))
      rwa [hNhl2] at this
    have hl3 : ∀ w', Held w1 [w.heap.size + 1] w' → (loadVar 3 ⟨b, off + p * 7 + 2, none⟩).run Try.prog w' = .ok (.int .i64 J) w' := fun w' hH => by
      have := h.heldn hB_w1 (by omega) hH b off p _ rfl (at_get (L := L) (i := p) (by omega))
      rwa [hNhl3] at this
    have hlp : w.heap.size < w1.heap.size := rw_lt hp
    have hlq : w.heap.size + 1 < w1.heap.size := rw_lt hq
    have hSS : Held w1 [w.heap.size + 1] w1.drew := Held.refl _ _
    refine wp_region_ord (.s 0 .p (.s 1 .l (.s 2 .p (.s 3 .p (.s 4 .p (.s 5 .p (.s 6 .l (.s 7 .p (.s 8 .l (.s 9 .p (.s 10 .p (.s 11 .p (.s 12 .p (.s 13 .l (.s 14 .p (.s 15 .p .done)))))))))))))))) (Held w1 [w.heap.size + 1]) (by kernel_rfl) (by kernel_rfl) (fun _ _ _ _ _ h => h) hSS ?_
    (apply wpOrd_p2 rfl rfl rfl rfl rfl; (intro w' K hK; (first | go_big_move | go_big_op | go_wp2_with fail); exact hK))
    (apply wpOrd_l2 rfl rfl rfl rfl rfl; (intro w' K hS' hK; (first | (refine wp_load_cell 22 _ rfl _ 0 rfl _ _ _ _ _ ((hS' _ hlp (by simp)).trans hp) Try.underlying22 rfl (stA_get _ _) ?_) | (refine wp_load_run 3 _ rfl rfl (hl2 w' hS') ?_) | (refine wp_load_run 3 _ rfl rfl (hl3 w' hS') ?_)); exact hK); (first | exact hSS | assumption))
    (apply wpOrd_p2 rfl rfl rfl rfl rfl; (intro w' K hK; (first | go_big_move | go_big_op | go_wp2_with fail); exact hK))
    (apply wpOrd_p2 rfl rfl rfl rfl rfl; (intro w' K hK; (first | go_big_move | go_big_op | go_wp2_with fail); exact hK))
    (apply wpOrd_p2 rfl rfl rfl rfl rfl; (intro w' K hK; (first | go_big_move | go_big_op | go_wp2_with fail); exact hK))
    (apply wpOrd_p2 rfl rfl rfl rfl rfl; (intro w' K hK; (first | go_big_move | go_big_op | go_wp2_with fail); exact hK))
    (apply wpOrd_l2 rfl rfl rfl rfl rfl; (intro w' K hS' hK; (first | (refine wp_load_cell 22 _ rfl _ 0 rfl _ _ _ _ _ ((hS' _ hlp (by simp)).trans hp) Try.underlying22 rfl (stA_get _ _) ?_) | (refine wp_load_run 3 _ rfl rfl (hl2 w' hS') ?_) | (refine wp_load_run 3 _ rfl rfl (hl3 w' hS') ?_)); exact hK); (first | exact hSS | assumption))
    (apply wpOrd_p2 rfl rfl rfl rfl rfl; (intro w' K hK; (first | go_big_move | go_big_op | go_wp2_with fail); exact hK))
    (apply wpOrd_l2 rfl rfl rfl rfl rfl; (intro w' K hS' hK; (first | (refine wp_load_cell 22 _ rfl _ 0 rfl _ _ _ _ _ ((hS' _ hlp (by simp)).trans hp) Try.underlying22 rfl (stA_get _ _) ?_) | (refine wp_load_run 3 _ rfl rfl (hl2 w' hS') ?_) | (refine wp_load_run 3 _ rfl rfl (hl3 w' hS') ?_)); exact hK); (first | exact hSS | assumption))
    (apply wpOrd_p2 rfl rfl rfl rfl rfl; (intro w' K hK; (first | go_big_move | go_big_op | go_wp2_with fail); exact hK))
    (apply wpOrd_p2 rfl rfl rfl rfl rfl; (intro w' K hK; (first | go_big_move | go_big_op | go_wp2_with fail); exact hK))
    (apply wpOrd_p2 rfl rfl rfl rfl rfl; (intro w' K hK; (first | go_big_move | go_big_op | go_wp2_with fail); exact hK))
    (apply wpOrd_p2 rfl rfl rfl rfl rfl; (intro w' K hK; (first | go_big_move | go_big_op | go_wp2_with fail); exact hK))
    (apply wpOrd_l2 rfl rfl rfl rfl rfl; (intro w' K hS' hK; (first | (refine wp_load_cell 22 _ rfl _ 0 rfl _ _ _ _ _ ((hS' _ hlp (by simp)).trans hp) Try.underlying22 rfl (stA_get _ _) ?_) | (refine wp_load_run 3 _ rfl rfl (hl2 w' hS') ?_) | (refine wp_load_run 3 _ rfl rfl (hl3 w' hS') ?_)); exact hK); (first | exact hSS | assumption))
    (apply wpOrd_p2 rfl rfl rfl rfl rfl; (intro w' K hK; (first | go_big_move | go_big_op | go_wp2_with fail); exact hK))
    (apply wpOrd_p2 rfl rfl rfl rfl rfl; (intro w' K hK; (first | go_big_move | go_big_op | go_wp2_with fail); exact hK))
    refine wpOrd_nil ?_
    skip
    clear hl2 hl3 hSS hNhl2 hNhl3
    generalize hwy_ : World.drew _ = w2
    have hB_w2 : Below w.heap.size w w2 := bw_eq hwy_ (by with_reducible repeat (first | exact Below.refl _ _ | assumption | ((first | refine Below.alloc ?_ ?b_ _ | refine bw_set ?_ ?b_ | refine Below.setCell ?_ ?b_ _); case b_ => first | omega | (simp; done) | (simp; omega)) | refine Below.drew ?_ | refine below_drewN ?_ _))
    have hp := rw_eq hwy_ (rw_drew hp)
    have hq := rw_eq hwy_ (rw_drew hq)
    clear hwy_ hlp hlq hB_w1 hs_w1
    have hlp := rw_lt hp
    have hlq := rw_lt hq
    go_upto_region 32 with fail
    go_loopw [13, 14] (fun v13 v14 wr => ∃ i : Nat, i ≤ k ∧ v14 = .int .i64 i ∧ Below w2.heap.size w2 wr ∧ wr.ownsRow w2.heap.size 43 7 v13 i (flat ((rollV T J).take i))) (fun _ v _ => k - (intOf v).toNat)
    case atStart => exact ⟨0, Nat.zero_le _, rfl, Below.refl _ _, by simpa [flat] using World.ownsRow_nil _ _ _ _⟩
    case round =>
      obtain ⟨i, hi, rfl, hB, hown⟩ := hrel
      have hsz := hB.size
      have hp3 := rw_below hB hp
      have hq3 := rw_below hB hq
      have hB_wr : Below w.heap.size w wr := below_then (w := w) hB_w2 (by first | omega | (simp; done) | (simp; omega)) hB
      have hobr := h.ob.below (B := w.heap.size) hB_wr (Nat.le_refl _)
      by_cases hlt : i < k
      · obtain ⟨r1, r2, _, _⟩ := emod_tmod J k (by omega)
        obtain ⟨f1, f2, f3, f4⟩ := emod_tmod ((i : Int) - J.tmod k) k (by omega)
        rw [from_is _ _ _ (by omega)] at f3 f4
        obtain ⟨r, hr⟩ : ∃ r, J.tmod (k : Int) = r := ⟨_, rfl⟩
        rw [hr] at r1 r2 f1 f2 f3 f4
        obtain ⟨f, hf⟩ : ∃ f, ((i : Int) - r).tmod (k : Int) = f := ⟨_, rfl⟩
        rw [hf] at f1 f2 f3 f4
        have hk0 : (k : Int) ≠ 0 := by omega
        by_cases hneg : f < 0
        · obtain ⟨g, hgg⟩ : ∃ g : Nat, f + (k : Int) = g := ⟨(f + k).toNat, by omega⟩
          have hg : (((i : Int) - J) % (k : Int)).toNat = g := by rw [f3 hneg, hgg]; rfl
          obtain ⟨q, hqn⟩ : ∃ q, lo + g = q := ⟨_, rfl⟩
          have hqi : (lo : Int) + (g : Int) = (q : Int) := by omega
          clear f3 f4
          have hlq1 : q < len := by omega
          obtain ⟨o0, ho0⟩ : ∃ o, at_ L q = o := ⟨_, rfl⟩
          have hl0 := hobr.load (at_get (L := L) (i := q) (by omega))
          rw [ho0] at hl0
          have Htk := Lib.hid (show (rollV T J).take i ++ [o0] = (rollV T J).take (i + 1) by
            rw [List.take_add_one, at_get (L := rollV T J) (i := i) (by rw [rollV_len]; omega), rollV_get T J i (by omega), hTl, hg, hTat _ (by omega), hqn, ho0]
            rfl)
          obtain ⟨g2, cap', W', hap, hown', hbW, hgr, hgl2, hbg⟩ := app_ob wr w2.heap.size _ i _ hown o0 (by omega) (by omega)
          have hp' := (hbW.block w.heap.size (by omega)).trans hp3
          have hq' := (hbW.block (w.heap.size + 1) (by omega)).trans hq3
          rw [Htk.out] at hown'
          clear hgr ho0 hqn hTat hobr
          go_wp2_with (first | ((with_reducible refine rw_list ?_); (with_reducible apply wpList_load_run); (case hgd => with_reducible rfl); (case ho => with_reducible rfl); (case hx => rfl); (case hr => exact hl0)) | (first | ((with_reducible refine rw_list ?_); (with_reducible apply wpList_append_eq); (case ho => with_reducible rfl); (case hgd => with_reducible rfl); (case hs => first | exact ev_const | exact ev_tmp rfl); (case hx => first | exact ev_const | exact ev_tmp rfl); (case hr => exact hap _)) | ((with_reducible refine rw_list ?_); (first | ((with_reducible apply wpList_load_cell); (case ho => with_reducible rfl); (case hgd => with_reducible rfl); (case hx => rfl); (case hu => first | exact Try.underlying22 | exact Try.underlying3 | exact Try.underlying55 | exact Try.underlying9 | exact Try.underlying4); (case hd => rfl)) | ((with_reducible apply wpList_load_row); (case ho => with_reducible rfl); (case hgd => with_reducible rfl); (case hx => rfl); (case hu => first | exact Try.underlying49 | exact Try.underlying83 | exact Try.underlying43); (case hd => rfl)) | ((with_reducible apply wpList_store_row); (case ho => with_reducible rfl); (case hgd => with_reducible rfl); (case hx => rfl); (case hy => rfl)) | ((with_reducible apply wpList_store_cell); (case ho => with_reducible rfl); (case hgd => with_reducible rfl); (case hx => rfl); (case hy => first | exact ev_const | exact ev_tmp rfl); (case h1 => rfl))); (case hg => exact (by with_reducible repeat (first | assumption | (refine rw_new ?e_; case e_ => first | rfl | (simp; done) | (simp; omega)) | apply rw_self | (apply rw_other; case hn => first | omega | (simp; omega)) | apply rw_alloc | apply rw_drew | apply rw_drewN))); (try case hv => first | exact stA_get _ _ | exact hcur0 | rfl); (try case hi => first | exact hR.i49 _ | exact hR.i83 _ | kernel_rfl); (try case hold => first | exact hR.z _ _ | exact hR.sz _ _ | rfl); (try case h1 => first | exact hR.all _ rfl | kernel_rfl); (try case hlt => first | exact stA_lt _ _ | rfl); (try case hcs => first | exact stA_set _ _ _ | ((try simp only [List.setIfInBounds_toArray, List.set_cons_succ, List.set_cons_zero]); rfl)))))
          go_roundw
          case rel => exact ⟨i + 1, by omega, by go_num, hB.trans hbW, hown'⟩
          case measure => simp [intOf]; omega
        · obtain ⟨g, rfl⟩ : ∃ g : Nat, f = g := ⟨f.toNat, by omega⟩
          have hg : (((i : Int) - J) % (k : Int)).toNat = g := by rw [f4 (by omega)]; rfl
          obtain ⟨q, hqn⟩ : ∃ q, lo + g = q := ⟨_, rfl⟩
          have hqi : (lo : Int) + (g : Int) = (q : Int) := by omega
          clear f3 f4
          have hlq1 : q < len := by omega
          obtain ⟨o0, ho0⟩ : ∃ o, at_ L q = o := ⟨_, rfl⟩
          have hl0 := hobr.load (at_get (L := L) (i := q) (by omega))
          rw [ho0] at hl0
          have Htk := Lib.hid (show (rollV T J).take i ++ [o0] = (rollV T J).take (i + 1) by
            rw [List.take_add_one, at_get (L := rollV T J) (i := i) (by rw [rollV_len]; omega), rollV_get T J i (by omega), hTl, hg, hTat _ (by omega), hqn, ho0]
            rfl)
          obtain ⟨g2, cap', W', hap, hown', hbW, hgr, hgl2, hbg⟩ := app_ob wr w2.heap.size _ i _ hown o0 (by omega) (by omega)
          have hp' := (hbW.block w.heap.size (by omega)).trans hp3
          have hq' := (hbW.block (w.heap.size + 1) (by omega)).trans hq3
          rw [Htk.out] at hown'
          clear hgr ho0 hqn hTat hobr
          go_wp2_with (first | ((with_reducible refine rw_list ?_); (with_reducible apply wpList_load_run); (case hgd => with_reducible rfl); (case ho => with_reducible rfl); (case hx => rfl); (case hr => exact hl0)) | (first | ((with_reducible refine rw_list ?_); (with_reducible apply wpList_append_eq); (case ho => with_reducible rfl); (case hgd => with_reducible rfl); (case hs => first | exact ev_const | exact ev_tmp rfl); (case hx => first | exact ev_const | exact ev_tmp rfl); (case hr => exact hap _)) | ((with_reducible refine rw_list ?_); (first | ((with_reducible apply wpList_load_cell); (case ho => with_reducible rfl); (case hgd => with_reducible rfl); (case hx => rfl); (case hu => first | exact Try.underlying22 | exact Try.underlying3 | exact Try.underlying55 | exact Try.underlying9 | exact Try.underlying4); (case hd => rfl)) | ((with_reducible apply wpList_load_row); (case ho => with_reducible rfl); (case hgd => with_reducible rfl); (case hx => rfl); (case hu => first | exact Try.underlying49 | exact Try.underlying83 | exact Try.underlying43); (case hd => rfl)) | ((with_reducible apply wpList_store_row); (case ho => with_reducible rfl); (case hgd => with_reducible rfl); (case hx => rfl); (case hy => rfl)) | ((with_reducible apply wpList_store_cell); (case ho => with_reducible rfl); (case hgd => with_reducible rfl); (case hx => rfl); (case hy => first | exact ev_const | exact ev_tmp rfl); (case h1 => rfl))); (case hg => exact (by with_reducible repeat (first | assumption | (refine rw_new ?e_; case e_ => first | rfl | (simp; done) | (simp; omega)) | apply rw_self | (apply rw_other; case hn => first | omega | (simp; omega)) | apply rw_alloc | apply rw_drew | apply rw_drewN))); (try case hv => first | exact stA_get _ _ | exact hcur0 | rfl); (try case hi => first | exact hR.i49 _ | exact hR.i83 _ | kernel_rfl); (try case hold => first | exact hR.z _ _ | exact hR.sz _ _ | rfl); (try case h1 => first | exact hR.all _ rfl | kernel_rfl); (try case hlt => first | exact stA_lt _ _ | rfl); (try case hcs => first | exact stA_set _ _ _ | ((try simp only [List.setIfInBounds_toArray, List.set_cons_succ, List.set_cons_zero]); rfl)))))
          go_roundw
          case rel => exact ⟨i + 1, by omega, by go_num, hB.trans hbW, hown'⟩
          case measure => simp [intOf]; omega
      · have hin : k = i := by omega
        subst hin
        rw [List.take_of_length_le (by rw [rollV_len]; omega)] at hown
        obtain ⟨x', cap', hv, hS0⟩ := SL.of_own hown (by omega)
        subst hv
        clear hown
        have hS0 : SL (Out A w.heap.size (w.heap.size + 2)) wr x' k cap' (rollV T J) := hS0.mono (fun b _ hb => .inr (by omega))
        go_wp2_with (first | ((with_reducible refine rw_list ?_); (with_reducible apply wpList_append_eq); (case ho => with_reducible rfl); (case hgd => with_reducible rfl); (case hs => first | exact ev_const | exact ev_tmp rfl); (case hx => first | exact ev_const | exact ev_tmp rfl); (case hr => exact hap _)) | ((with_reducible refine rw_list ?_); (first | ((with_reducible apply wpList_load_cell); (case ho => with_reducible rfl); (case hgd => with_reducible rfl); (case hx => rfl); (case hu => first | exact Try.underlying22 | exact Try.underlying3 | exact Try.underlying55 | exact Try.underlying9 | exact Try.underlying4); (case hd => rfl)) | ((with_reducible apply wpList_load_row); (case ho => with_reducible rfl); (case hgd => with_reducible rfl); (case hx => rfl); (case hu => first | exact Try.underlying49 | exact Try.underlying83 | exact Try.underlying43); (case hd => rfl)) | ((with_reducible apply wpList_store_row); (case ho => with_reducible rfl); (case hgd => with_reducible rfl); (case hx => rfl); (case hy => rfl)) | ((with_reducible apply wpList_store_cell); (case ho => with_reducible rfl); (case hgd => with_reducible rfl); (case hx => rfl); (case hy => first | exact ev_const | exact ev_tmp rfl); (case h1 => rfl))); (case hg => exact (by with_reducible repeat (first | assumption | (refine rw_new ?e_; case e_ => first | rfl | (simp; done) | (simp; omega)) | apply rw_self | (apply rw_other; case hn => first | omega | (simp; omega)) | apply rw_alloc | apply rw_drew | apply rw_drewN))); (try case hv => first | exact stA_get _ _ | exact hcur0 | rfl); (try case hi => first | exact hR.i49 _ | exact hR.i83 _ | kernel_rfl); (try case hold => first | exact hR.z _ _ | exact hR.sz _ _ | rfl); (try case h1 => first | exact hR.all _ rfl | kernel_rfl); (try case hlt => first | exact stA_lt _ _ | rfl); (try case hcs => first | exact stA_set _ _ _ | ((try simp only [List.setIfInBounds_toArray, List.set_cons_succ, List.set_cons_zero]); rfl))))
        refine (inst_any k2 hk2l _ ((h.out (w.heap.size + 2)).below (B := w.heap.size) (by with_reducible repeat (first | exact Below.refl _ _ | assumption | ((first | refine Below.alloc ?_ ?b_ _ | refine bw_set ?_ ?b_ | refine Below.setCell ?_ ?b_ _); case b_ => first | omega | (simp; done) | (simp; omega)) | refine Below.drew ?_ | refine below_drewN ?_ _)) (Nat.le_refl _)) hS0 hR).mono ?_
        rintro e w3 ⟨⟨z, n1, cap1, rfl, hS⟩, hB1⟩
        have hb := hB1
        clear hB1
        have hs_w3 := hb.size
        (try simp at hs_w3)
        have hB_w3 : Below w.heap.size w w3 := below_then (w := w) (by with_reducible repeat (first | exact Below.refl _ _ | assumption | ((first | refine Below.alloc ?_ ?b_ _ | refine bw_set ?_ ?b_ | refine Below.setCell ?_ ?b_ _); case b_ => first | omega | (simp; done) | (simp; omega)) | refine Below.drew ?_ | refine below_drewN ?_ _)) (by first | omega | (simp; done) | (simp; omega) | (have hq_ := hb.size; omega)) hb
        have hx_ := rw_below (k := w.heap.size) hb (by with_reducible repeat (first | assumption | (refine rw_new ?e_; case e_ => first | rfl | (simp; done) | (simp; omega)) | apply rw_self | (apply rw_other; case hn => first | omega | (simp; omega)) | apply rw_alloc | apply rw_drew | apply rw_drewN))
        (try clear hp3)
        have hp3 := hx_
        clear hx_
        have hx_ := rw_below (k := w.heap.size + 1) hb (by with_reducible repeat (first | assumption | (refine rw_new ?e_; case e_ => first | rfl | (simp; done) | (simp; omega)) | apply rw_self | (apply rw_other; case hn => first | omega | (simp; omega)) | apply rw_alloc | apply rw_drew | apply rw_drewN))
        (try clear hq3)
        have hq3 := hx_
        clear hx_
        clear hb
        have hS := hS.inn (by first | omega | (simp; done) | (simp; omega))
        go_wp2_with (first | ((with_reducible refine rw_list ?_); (with_reducible apply wpList_append_eq); (case ho => with_reducible rfl); (case hgd => with_reducible rfl); (case hs => first | exact ev_const | exact ev_tmp rfl); (case hx => first | exact ev_const | exact ev_tmp rfl); (case hr => exact hap _)) | ((with_reducible refine rw_list ?_); (first | ((with_reducible apply wpList_load_cell); (case ho => with_reducible rfl); (case hgd => with_reducible rfl); (case hx => rfl); (case hu => first | exact Try.underlying22 | exact Try.underlying3 | exact Try.underlying55 | exact Try.underlying9 | exact Try.underlying4); (case hd => rfl)) | ((with_reducible apply wpList_load_row); (case ho => with_reducible rfl); (case hgd => with_reducible rfl); (case hx => rfl); (case hu => first | exact Try.underlying49 | exact Try.underlying83 | exact Try.underlying43); (case hd => rfl)) | ((with_reducible apply wpList_store_row); (case ho => with_reducible rfl); (case hgd => with_reducible rfl); (case hx => rfl); (case hy => rfl)) | ((with_reducible apply wpList_store_cell); (case ho => with_reducible rfl); (case hgd => with_reducible rfl); (case hx => rfl); (case hy => first | exact ev_const | exact ev_tmp rfl); (case h1 => rfl))); (case hg => exact (by with_reducible repeat (first | assumption | (refine rw_new ?e_; case e_ => first | rfl | (simp; done) | (simp; omega)) | apply rw_self | (apply rw_other; case hn => first | omega | (simp; omega)) | apply rw_alloc | apply rw_drew | apply rw_drewN))); (try case hv => first | exact stA_get _ _ | exact hcur0 | rfl); (try case hi => first | exact hR.i49 _ | exact hR.i83 _ | kernel_rfl); (try case hold => first | exact hR.z _ _ | exact hR.sz _ _ | rfl); (try case h1 => first | exact hR.all _ rfl | kernel_rfl); (try case hlt => first | exact stA_lt _ _ | rfl); (try case hcs => first | exact stA_set _ _ _ | ((try simp only [List.setIfInBounds_toArray, List.set_cons_succ, List.set_cons_zero]); rfl))))
        refine bodyPost_ret (v := _) (results_cell_tmp Try.results14 _ _ _ _ _ _ _ (by rfl) (by with_reducible repeat (first | assumption | (refine rw_new ?e_; case e_ => first | rfl | (simp; done) | (simp; omega)) | apply rw_self | (apply rw_other; case hn => first | omega | (simp; omega)) | apply rw_alloc | apply rw_drew | apply rw_drewN)) Try.underlying49 rfl (by exact hR.i49 _)) rfl ⟨⟨_, _, _, rfl, ?_⟩, (by with_reducible repeat (first | exact Below.refl _ _ | assumption | ((first | refine Below.alloc ?_ ?b_ _ | refine bw_set ?_ ?b_ | refine Below.setCell ?_ ?b_ _); case b_ => first | omega | (simp; done) | (simp; omega)) | refine Below.drew ?_ | refine below_drewN ?_ _))⟩
        exact (SL.fin (hS.keep (by first | omega | (simp; done) | (simp; omega)) (fun b hA hlt => by have hA := out_or hA; (try simp at hA); (with_reducible repeat (first | rfl | (refine (setRow_other _ _ _ _ ?n_).trans ?_; case n_ => first | omega | (simp; omega)) | (refine (Below.heap_alloc _ _ _ ?n_).trans ?_; case n_ => first | omega | (simp; omega)))))) (by first | omega | (simp; done) | (simp; omega)))
  · rw [show rollR L = (ctE L 2 0, L) from if_neg hc]
    obtain ⟨er, her⟩ : ∃ er, ctE L 2 0 = er := ⟨_, rfl⟩
    rw [her] at hc ⊢
    have Her := Lib.hid her
    have hc2 : (er == 0) = false := by simpa using hc
    clear her
    go_enter Try.func14, Try.ntmps14
    go_wp2_with (first | ((with_reducible refine rw_list ?_); (with_reducible apply wpList_append_eq); (case ho => with_reducible rfl); (case hgd => with_reducible rfl); (case hs => first | exact ev_const | exact ev_tmp rfl); (case hx => first | exact ev_const | exact ev_tmp rfl); (case hr => exact hap _)) | ((with_reducible refine rw_list ?_); (first | ((with_reducible apply wpList_load_cell); (case ho => with_reducible rfl); (case hgd => with_reducible rfl); (case hx => rfl); (case hu => first | exact Try.underlying22 | exact Try.underlying3 | exact Try.underlying55 | exact Try.underlying9 | exact Try.underlying4); (case hd => rfl)) | ((with_reducible apply wpList_load_row); (case ho => with_reducible rfl); (case hgd => with_reducible rfl); (case hx => rfl); (case hu => first | exact Try.underlying49 | exact Try.underlying83 | exact Try.underlying43); (case hd => rfl)) | ((with_reducible apply wpList_store_row); (case ho => with_reducible rfl); (case hgd => with_reducible rfl); (case hx => rfl); (case hy => rfl)) | ((with_reducible apply wpList_store_cell); (case ho => with_reducible rfl); (case hgd => with_reducible rfl); (case hx => rfl); (case hy => first | exact ev_const | exact ev_tmp rfl); (case h1 => rfl))); (case hg => exact (by with_reducible repeat (first | assumption | (refine rw_new ?e_; case e_ => first | rfl | (simp; done) | (simp; omega)) | apply rw_self | (apply rw_other; case hn => first | omega | (simp; omega)) | apply rw_alloc | apply rw_drew | apply rw_drewN))); (try case hv => first | exact stA_get _ _ | exact hcur0 | rfl); (try case hi => first | exact hR.i49 _ | exact hR.i83 _ | kernel_rfl); (try case hold => first | exact hR.z _ _ | exact hR.sz _ _ | rfl); (try case h1 => first | exact hR.all _ rfl | kernel_rfl); (try case hlt => first | exact stA_lt _ _ | rfl); (try case hcs => first | exact stA_set _ _ _ | ((try simp only [List.setIfInBounds_toArray, List.set_cons_succ, List.set_cons_zero]); rfl))))
    refine (counts_any 2 0 (by omega) (by omega) (by omega) _ (h.below (B := w.heap.size) (by with_reducible repeat (first | exact Below.refl _ _ | assumption | ((first | refine Below.alloc ?_ ?b_ _ | refine bw_set ?_ ?b_ | refine Below.setCell ?_ ?b_ _); case b_ => first | omega | (simp; done) | (simp; omega)) | refine Below.drew ?_ | refine below_drewN ?_ _)) (Nat.le_refl _)) hR).mono ?_
    rintro e w1 ⟨rfl, hb⟩
    have hs_w1 := hb.size
    (try simp at hs_w1)
    have hB_w1 : Below w.heap.size w w1 := below_then (w := w) (by with_reducible repeat (first | exact Below.refl _ _ | assumption | ((first | refine Below.alloc ?_ ?b_ _ | refine bw_set ?_ ?b_ | refine Below.setCell ?_ ?b_ _); case b_ => first | omega | (simp; done) | (simp; omega)) | refine Below.drew ?_ | refine below_drewN ?_ _)) (by first | omega | (simp; done) | (simp; omega) | (have hq_ := hb.size; omega)) hb
    have hx_ := rw_below (k := w.heap.size) hb (by with_reducible repeat (first | assumption | (refine rw_new ?e_; case e_ => first | rfl | (simp; done) | (simp; omega)) | apply rw_self | (apply rw_other; case hn => first | omega | (simp; omega)) | apply rw_alloc | apply rw_drew | apply rw_drewN))
    (try clear hp)
    have hp := hx_
    clear hx_
    have hx_ := rw_below (k := w.heap.size + 1) hb (by with_reducible repeat (first | assumption | (refine rw_new ?e_; case e_ => first | rfl | (simp; done) | (simp; omega)) | apply rw_self | (apply rw_other; case hn => first | omega | (simp; omega)) | apply rw_alloc | apply rw_drew | apply rw_drewN))
    (try clear hq)
    have hq := hx_
    clear hx_
    clear hb
    rw [Her.out]
    go_wp2_with (first | ((with_reducible refine rw_list ?_); (with_reducible apply wpList_append_eq); (case ho => with_reducible rfl); (case hgd => with_reducible rfl); (case hs => first | exact ev_const | exact ev_tmp rfl); (case hx => first | exact ev_const | exact ev_tmp rfl); (case hr => exact hap _)) | ((with_reducible refine rw_list ?_); (first | ((with_reducible apply wpList_load_cell); (case ho => with_reducible rfl); (case hgd => with_reducible rfl); (case hx => rfl); (case hu => first | exact Try.underlying22 | exact Try.underlying3 | exact Try.underlying55 | exact Try.underlying9 | exact Try.underlying4); (case hd => rfl)) | ((with_reducible apply wpList_load_row); (case ho => with_reducible rfl); (case hgd => with_reducible rfl); (case hx => rfl); (case hu => first | exact Try.underlying49 | exact Try.underlying83 | exact Try.underlying43); (case hd => rfl)) | ((with_reducible apply wpList_store_row); (case ho => with_reducible rfl); (case hgd => with_reducible rfl); (case hx => rfl); (case hy => rfl)) | ((with_reducible apply wpList_store_cell); (case ho => with_reducible rfl); (case hgd => with_reducible rfl); (case hx => rfl); (case hy => first | exact ev_const | exact ev_tmp rfl); (case h1 => rfl))); (case hg => exact (by with_reducible repeat (first | assumption | (refine rw_new ?e_; case e_ => first | rfl | (simp; done) | (simp; omega)) | apply rw_self | (apply rw_other; case hn => first | omega | (simp; omega)) | apply rw_alloc | apply rw_drew | apply rw_drewN))); (try case hv => first | exact stA_get _ _ | exact hcur0 | rfl); (try case hi => first | exact hR.i49 _ | exact hR.i83 _ | kernel_rfl); (try case hold => first | exact hR.z _ _ | exact hR.sz _ _ | rfl); (try case h1 => first | exact hR.all _ rfl | kernel_rfl); (try case hlt => first | exact stA_lt _ _ | rfl); (try case hcs => first | exact stA_set _ _ _ | ((try simp only [List.setIfInBounds_toArray, List.set_cons_succ, List.set_cons_zero]); rfl))))
    refine bodyPost_ret (v := _) (results_cell_tmp Try.results14 _ _ _ _ _ _ _ (by rfl) (by with_reducible repeat (first | assumption | (refine rw_new ?e_; case e_ => first | rfl | (simp; done) | (simp; omega)) | apply rw_self | (apply rw_other; case hn => first | omega | (simp; omega)) | apply rw_alloc | apply rw_drew | apply rw_drewN)) Try.underlying49 rfl (by exact hR.i49 _)) rfl ⟨⟨_, _, _, rfl, ?_⟩, (by with_reducible repeat (first | exact Below.refl _ _ | assumption | ((first | refine Below.alloc ?_ ?b_ _ | refine bw_set ?_ ?b_ | refine Below.setCell ?_ ?b_ _); case b_ => first | omega | (simp; done) | (simp; omega)) | refine Below.drew ?_ | refine below_drewN ?_ _))⟩
    exact (h.out w.heap.size).below (B := w.heap.size) (by with_reducible repeat (first | exact Below.refl _ _ | assumption | ((first | refine Below.alloc ?_ ?b_ _ | refine bw_set ?_ ?b_ | refine Below.setCell ?_ ?b_ _); case b_ => first | omega | (simp; done) | (simp; omega)) | refine Below.drew ?_ | refine below_drewN ?_ _)) (Nat.le_refl _)
end Go.Proofs.Ytiadenokcpnliaa.T3
