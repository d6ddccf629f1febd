/- chapter 27: the reference's Spot. -/
import Derived.Test.YtdkkjlapmaageaaToP
import Derived.Deep.CutRange
import Derived.WalkKit
import Derived.Lib.Hide
import Derived.Deep.QuietTactic
import Derived.BigQuiet
import Derived.Lib.QuietBelow
import Derived.Deep.RegionHeld3
import Derived.WalkLawsBesides
import Derived.WalkSpells
import Derived.Outline
import Derived.Deep.DeepFit
import Derived.Maps.AppendAt
import Derived.Deep.AppendLies

namespace Go.Proofs.Ytdkkjlapmaageaa.T3
set_option linter.unusedSimpArgs false
set_option linter.unusedVariables false
open Go.RowKit Go.Sort Go.Lib Go.Shelf
set_option maxHeartbeats 1000000
set_option maxRecDepth 100000

theorem abs_any (v : Int) (w : World) (h : -1024 ≤ v) (h' : v ≤ 1024) : Calls Try.prog 46 #[.int .i64 v] w fun e w' => e = .returned (.int .i64 (max v (-v))) ∧ w = w' := by
  have hmax := max2 v (-v)
  go_enter Try.func46, Try.ntmps46
  go_wp2_with fail
  go_ret
  exact ⟨rfl, rfl⟩
theorem value_any (k W H : Int) (i j : Int) (w : World) (hk : 0 ≤ k ∧ k ≤ 2) (hW : 1 ≤ W ∧ W ≤ 16) (hH : 1 ≤ H ∧ H ≤ 16) (hi : 0 ≤ i ∧ i < 16) (hj : 0 ≤ j ∧ j < 16) :
    Calls Try.prog 35 #[.int .i64 k, .int .i64 W, .int .i64 H, .int .i64 i, .int .i64 j] w fun e w' => e = .returned (.int .i64 (spv k ((2 * i + 1 - W) * H) ((2 * j + 1 - H) * W))) ∧ w = w' := by
  obtain ⟨t1, t2⟩ := mul_bd (a := 2 * i + 1 - W) (b := H) (X := 31) (Y := 16) (by omega) (by omega) (by omega) (by omega)
  obtain ⟨t3, t4⟩ := mul_bd (a := 2 * j + 1 - H) (b := W) (X := 31) (Y := 16) (by omega) (by omega) (by omega) (by omega)
  simp only [Int.reduceMul, Int.reduceNeg] at t1 t2 t3 t4
  obtain ⟨u, hu⟩ : ∃ u, (2 * i + 1 - W) * H = u := ⟨_, rfl⟩
  obtain ⟨v, hv⟩ : ∃ v, (2 * j + 1 - H) * W = v := ⟨_, rfl⟩
  have ha := fun w => abs_any u w (by omega) (by omega)
  have hb := fun w => abs_any v w (by omega) (by omega)
  obtain ⟨hi1, hi2⟩ := hi
  obtain ⟨hj1, hj2⟩ := hj
  obtain ⟨hW1, hW2⟩ := hW
  obtain ⟨hH1, hH2⟩ := hH
  rw [hu] at t1 t2 ⊢
  rw [hv] at t3 t4 ⊢
  obtain ⟨q1, q2⟩ := mul_bd (a := u) (b := u) (X := 1024) (Y := 1024) (by omega) (by omega) (by omega) (by omega)
  obtain ⟨q3, q4⟩ := mul_bd (a := v) (b := v) (X := 1024) (Y := 1024) (by omega) (by omega) (by omega) (by omega)
  simp only [Int.reduceMul, Int.reduceNeg] at q1 q2 q3 q4
  have m1 : 0 ≤ max u (-u) ∧ max u (-u) ≤ 1024 := by omega
  have m2 : 0 ≤ max v (-v) ∧ max v (-v) ≤ 1024 := by omega
  obtain ⟨m1, m1'⟩ := m1
  obtain ⟨m2, m2'⟩ := m2
  rcases (show k = 0 ∨ k = 1 ∨ k = 2 by omega) with rfl | rfl | rfl
  · go_enter Try.func35, Try.ntmps35
    go_wp2_with fail
    go_ret
    exact ⟨rfl, rfl⟩
  · go_enter Try.func35, Try.ntmps35
    go_wp2_with fail
    refine (hb _).mono ?_
    rintro e w1 ⟨rfl, rfl⟩
    go_wp2_with fail
    go_ret
    exact ⟨rfl, rfl⟩
  · show Calls _ _ _ _ fun e w' => e = .returned (.int .i64 (max u (-u) + max v (-v))) ∧ w = w'
    obtain ⟨a, hau⟩ : ∃ a, max u (-u) = a := ⟨_, rfl⟩
    obtain ⟨b, hbv⟩ : ∃ b, max v (-v) = b := ⟨_, rfl⟩
    rw [hau] at m1 m1' ha ⊢
    rw [hbv] at m2 m2' hb ⊢
    clear hau hbv
    go_enter Try.func35, Try.ntmps35
    go_wp2_with fail
    refine (ha _).mono ?_
    rintro e w1 ⟨rfl, rfl⟩
    go_wp2_with fail
    refine (hb _).mono ?_
    rintro e w1 ⟨rfl, rfl⟩
    go_wp2_with fail
    go_ret
    exact ⟨rfl, rfl⟩
theorem rspot_bad (k W H : Int) (w : World) (hbad : ¬ ((0 ≤ k ∧ k ≤ 2) ∧ (1 ≤ W ∧ W ≤ 16) ∧ 1 ≤ H ∧ H ≤ 16)) :
    Calls Try.prog 11 #[.int .i64 k, .int .i64 W, .int .i64 H] w fun e w' => e = .returned (.tuple #[.agg #[.int .i64 0, .int .i64 0, .string ⟨#[]⟩], .int .i64 2]) ∧ RowKit.Below w.heap.size w w' := by
  by_cases g0 : k < 0
  · clear hbad
    go_enter Try.func11, Try.ntmps11
    go_wp2_with ((with_reducible refine rw_list ?_); (first | ((with_reducible apply wpList_load_cell); (case ho => with_reducible rfl); (case hgd => with_reducible rfl); (case hx => rfl); (case hu => first | exact Try.underlying26); (case hd => rfl)) | ((with_reducible apply wpList_load_row); (case ho => with_reducible rfl); (case hgd => with_reducible rfl); (case hx => rfl); (case hu => first | exact Try.underlying26); (case hd => rfl)) | ((with_reducible apply wpList_store_row); (case ho => with_reducible rfl); (case hgd => with_reducible rfl); (case hx => rfl); (case hy => rfl)) | ((with_reducible apply wpList_store_cell); (case ho => with_reducible rfl); (case hgd => with_reducible rfl); (case hx => rfl); (case hy => first | exact ev_const | exact ev_tmp rfl); (case h1 => rfl))); (case hg => exact (by with_reducible repeat (first | assumption | (refine rw_new ?e_; case e_ => first | rfl | (simp; done) | (simp; omega)) | apply rw_self | (apply rw_other; case hn => first | omega | (simp; omega)) | apply rw_alloc | apply rw_drew | apply rw_drewN))); (try case hv => rfl); (try case hi => kernel_rfl); (try case hold => rfl); (try case h1 => kernel_rfl); (try case hlt => rfl); (try case hcs => ((try simp only [List.setIfInBounds_toArray, List.set_cons_succ, List.set_cons_zero]); rfl)))
    exact bodyPost_ret (v := _) (results_cell_tmp Try.results11 _ _ _ _ _ _ _ (by rfl) (by with_reducible repeat (first | assumption | (refine rw_new ?e_; case e_ => first | rfl | (simp; done) | (simp; omega)) | apply rw_self | (apply rw_other; case hn => first | omega | (simp; omega)) | apply rw_alloc | apply rw_drew | apply rw_drewN)) Try.underlying26 rfl (by kernel_rfl)) rfl ⟨rfl, (by with_reducible repeat (first | exact Below.refl _ _ | assumption | ((first | refine Below.alloc ?_ ?b_ _ | refine bw_set ?_ ?b_ | refine Below.setCell ?_ ?b_ _); case b_ => first | omega | (simp; done) | (simp; omega)) | refine Below.drew ?_ | refine below_drewN ?_ _))⟩
  by_cases g1 : 2 < k
  · clear hbad
    go_enter Try.func11, Try.ntmps11
    go_wp2_with ((with_reducible refine rw_list ?_); (first | ((with_reducible apply wpList_load_cell); (case ho => with_reducible rfl); (case hgd => with_reducible rfl); (case hx => rfl); (case hu => first | exact Try.underlying26); (case hd => rfl)) | ((with_reducible apply wpList_load_row); (case ho => with_reducible rfl); (case hgd => with_reducible rfl); (case hx => rfl); (case hu => first | exact Try.underlying26); (case hd => rfl)) | ((with_reducible apply wpList_store_row); (case ho => with_reducible rfl); (case hgd => with_reducible rfl); (case hx => rfl); (case hy => rfl)) | ((with_reducible apply wpList_store_cell); (case ho => with_reducible rfl); (case hgd => with_reducible rfl); (case hx => rfl); (case hy => first | exact ev_const | exact ev_tmp rfl); (case h1 => rfl))); (case hg => exact (by with_reducible repeat (first | assumption | (refine rw_new ?e_; case e_ => first | rfl | (simp; done) | (simp; omega)) | apply rw_self | (apply rw_other; case hn => first | omega | (simp; omega)) | apply rw_alloc | apply rw_drew | apply rw_drewN))); (try case hv => rfl); (try case hi => kernel_rfl); (try case hold => rfl); (try case h1 => kernel_rfl); (try case hlt => rfl); (try case hcs => ((try simp only [List.setIfInBounds_toArray, List.set_cons_succ, List.set_cons_zero]); rfl)))
    exact bodyPost_ret (v := _) (results_cell_tmp Try.results11 _ _ _ _ _ _ _ (by rfl) (by with_reducible repeat (first | assumption | (refine rw_new ?e_; case e_ => first | rfl | (simp; done) | (simp; omega)) | apply rw_self | (apply rw_other; case hn => first | omega | (simp; omega)) | apply rw_alloc | apply rw_drew | apply rw_drewN)) Try.underlying26 rfl (by kernel_rfl)) rfl ⟨rfl, (by with_reducible repeat (first | exact Below.refl _ _ | assumption | ((first | refine Below.alloc ?_ ?b_ _ | refine bw_set ?_ ?b_ | refine Below.setCell ?_ ?b_ _); case b_ => first | omega | (simp; done) | (simp; omega)) | refine Below.drew ?_ | refine below_drewN ?_ _))⟩
  by_cases g2 : W < 1
  · clear hbad
    go_enter Try.func11, Try.ntmps11
    go_wp2_with ((with_reducible refine rw_list ?_); (first | ((with_reducible apply wpList_load_cell); (case ho => with_reducible rfl); (case hgd => with_reducible rfl); (case hx => rfl); (case hu => first | exact Try.underlying26); (case hd => rfl)) | ((with_reducible apply wpList_load_row); (case ho => with_reducible rfl); (case hgd => with_reducible rfl); (case hx => rfl); (case hu => first | exact Try.underlying26); (case hd => rfl)) | ((with_reducible apply wpList_store_row); (case ho => with_reducible rfl); (case hgd => with_reducible rfl); (case hx => rfl); (case hy => rfl)) | ((with_reducible apply wpList_store_cell); (case ho => with_reducible rfl); (case hgd => with_reducible rfl); (case hx => rfl); (case hy => first | exact ev_const | exact ev_tmp rfl); (case h1 => rfl))); (case hg => exact (by with_reducible repeat (first | assumption | (refine rw_new ?e_; case e_ => first | rfl | (simp; done) | (simp; omega)) | apply rw_self | (apply rw_other; case hn => first | omega | (simp; omega)) | apply rw_alloc | apply rw_drew | apply rw_drewN))); (try case hv => rfl); (try case hi => kernel_rfl); (try case hold => rfl); (try case h1 => kernel_rfl); (try case hlt => rfl); (try case hcs => ((try simp only [List.setIfInBounds_toArray, List.set_cons_succ, List.set_cons_zero]); rfl)))
    exact bodyPost_ret (v := _) (results_cell_tmp Try.results11 _ _ _ _ _ _ _ (by rfl) (by with_reducible repeat (first | assumption | (refine rw_new ?e_; case e_ => first | rfl | (simp; done) | (simp; omega)) | apply rw_self | (apply rw_other; case hn => first | omega | (simp; omega)) | apply rw_alloc | apply rw_drew | apply rw_drewN)) Try.underlying26 rfl (by kernel_rfl)) rfl ⟨rfl, (by with_reducible repeat (first | exact Below.refl _ _ | assumption | ((first | refine Below.alloc ?_ ?b_ _ | refine bw_set ?_ ?b_ | refine Below.setCell ?_ ?b_ _); case b_ => first | omega | (simp; done) | (simp; omega)) | refine Below.drew ?_ | refine below_drewN ?_ _))⟩
  by_cases g3 : 16 < W
  · clear hbad
    go_enter Try.func11, Try.ntmps11
    go_wp2_with ((with_reducible refine rw_list ?_); (first | ((with_reducible apply wpList_load_cell); (case ho => with_reducible rfl); (case hgd => with_reducible rfl); (case hx => rfl); (case hu => first | exact Try.underlying26); (case hd => rfl)) | ((with_reducible apply wpList_load_row); (case ho => with_reducible rfl); (case hgd => with_reducible rfl); (case hx => rfl); (case hu => first | exact Try.underlying26); (case hd => rfl)) | ((with_reducible apply wpList_store_row); (case ho => with_reducible rfl); (case hgd => with_reducible rfl); (case hx => rfl); (case hy => rfl)) | ((with_reducible apply wpList_store_cell); (case ho => with_reducible rfl); (case hgd => with_reducible rfl); (case hx => rfl); (case hy => first | exact ev_const | exact ev_tmp rfl); (case h1 => rfl))); (case hg => exact (by with_reducible repeat (first | assumption | (refine rw_new ?e_; case e_ => first | rfl | (simp; done) | (simp; omega)) | apply rw_self | (apply rw_other; case hn => first | omega | (simp; omega)) | apply rw_alloc | apply rw_drew | apply rw_drewN))); (try case hv => rfl); (try case hi => kernel_rfl); (try case hold => rfl); (try case h1 => kernel_rfl); (try case hlt => rfl); (try case hcs => ((try simp only [List.setIfInBounds_toArray, List.set_cons_succ, List.set_cons_zero]); rfl)))
    exact bodyPost_ret (v := _) (results_cell_tmp Try.results11 _ _ _ _ _ _ _ (by rfl) (by with_reducible repeat (first | assumption | (refine rw_new ?e_; case e_ => first | rfl | (simp; done) | (simp; omega)) | apply rw_self | (apply rw_other; case hn => first | omega | (simp; omega)) | apply rw_alloc | apply rw_drew | apply rw_drewN)) Try.underlying26 rfl (by kernel_rfl)) rfl ⟨rfl, (by with_reducible repeat (first | exact Below.refl _ _ | assumption | ((first | refine Below.alloc ?_ ?b_ _ | refine bw_set ?_ ?b_ | refine Below.setCell ?_ ?b_ _); case b_ => first | omega | (simp; done) | (simp; omega)) | refine Below.drew ?_ | refine below_drewN ?_ _))⟩
  by_cases g4 : H < 1
  · clear hbad
    go_enter Try.func11, Try.ntmps11
    go_wp2_with ((with_reducible refine rw_list ?_); (first | ((with_reducible apply wpList_load_cell); (case ho => with_reducible rfl); (case hgd => with_reducible rfl); (case hx => rfl); (case hu => first | exact Try.underlying26); (case hd => rfl)) | ((with_reducible apply wpList_load_row); (case ho => with_reducible rfl); (case hgd => with_reducible rfl); (case hx => rfl); (case hu => first | exact Try.underlying26); (case hd => rfl)) | ((with_reducible apply wpList_store_row); (case ho => with_reducible rfl); (case hgd => with_reducible rfl); (case hx => rfl); (case hy => rfl)) | ((with_reducible apply wpList_store_cell); (case ho => with_reducible rfl); (case hgd => with_reducible rfl); (case hx => rfl); (case hy => first | exact ev_const | exact ev_tmp rfl); (case h1 => rfl))); (case hg => exact (by with_reducible repeat (first | assumption | (refine rw_new ?e_; case e_ => first | rfl | (simp; done) | (simp; omega)) | apply rw_self | (apply rw_other; case hn => first | omega | (simp; omega)) | apply rw_alloc | apply rw_drew | apply rw_drewN))); (try case hv => rfl); (try case hi => kernel_rfl); (try case hold => rfl); (try case h1 => kernel_rfl); (try case hlt => rfl); (try case hcs => ((try simp only [List.setIfInBounds_toArray, List.set_cons_succ, List.set_cons_zero]); rfl)))
    exact bodyPost_ret (v := _) (results_cell_tmp Try.results11 _ _ _ _ _ _ _ (by rfl) (by with_reducible repeat (first | assumption | (refine rw_new ?e_; case e_ => first | rfl | (simp; done) | (simp; omega)) | apply rw_self | (apply rw_other; case hn => first | omega | (simp; omega)) | apply rw_alloc | apply rw_drew | apply rw_drewN)) Try.underlying26 rfl (by kernel_rfl)) rfl ⟨rfl, (by with_reducible repeat (first | exact Below.refl _ _ | assumption | ((first | refine Below.alloc ?_ ?b_ _ | refine bw_set ?_ ?b_ | refine Below.setCell ?_ ?b_ _); case b_ => first | omega | (simp; done) | (simp; omega)) | refine Below.drew ?_ | refine below_drewN ?_ _))⟩
  by_cases g5 : 16 < H
  · clear hbad
    go_enter Try.func11, Try.ntmps11
    go_wp2_with ((with_reducible refine rw_list ?_); (first | ((with_reducible apply wpList_load_cell); (case ho => with_reducible rfl); (case hgd => with_reducible rfl); (case hx => rfl); (case hu => first | exact Try.underlying26); (case hd => rfl)) | ((with_reducible apply wpList_load_row); (case ho => with_reducible rfl); (case hgd => with_reducible rfl); (case hx => rfl); (case hu => first | exact Try.underlying26); (case hd => rfl)) | ((with_reducible apply wpList_store_row); (case ho => with_reducible rfl); (case hgd => with_reducible rfl); (case hx => rfl); (case hy => rfl)) | ((with_reducible apply wpList_store_cell); (case ho => with_reducible rfl); (case hgd => with_reducible rfl); (case hx => rfl); (case hy => first | exact ev_const | exact ev_tmp rfl); (case h1 => rfl))); (case hg => exact (by with_reducible repeat (first | assumption | (refine rw_new ?e_; case e_ => first | rfl | (simp; done) | (simp; omega)) | apply rw_self | (apply rw_other; case hn => first | omega | (simp; omega)) | apply rw_alloc | apply rw_drew | apply rw_drewN))); (try case hv => rfl); (try case hi => kernel_rfl); (try case hold => rfl); (try case h1 => kernel_rfl); (try case hlt => rfl); (try case hcs => ((try simp only [List.setIfInBounds_toArray, List.set_cons_succ, List.set_cons_zero]); rfl)))
    exact bodyPost_ret (v := _) (results_cell_tmp Try.results11 _ _ _ _ _ _ _ (by rfl) (by with_reducible repeat (first | assumption | (refine rw_new ?e_; case e_ => first | rfl | (simp; done) | (simp; omega)) | apply rw_self | (apply rw_other; case hn => first | omega | (simp; omega)) | apply rw_alloc | apply rw_drew | apply rw_drewN)) Try.underlying26 rfl (by kernel_rfl)) rfl ⟨rfl, (by with_reducible repeat (first | exact Below.refl _ _ | assumption | ((first | refine Below.alloc ?_ ?b_ _ | refine bw_set ?_ ?b_ | refine Below.setCell ?_ ?b_ _); case b_ => first | omega | (simp; done) | (simp; omega)) | refine Below.drew ?_ | refine below_drewN ?_ _))⟩
  exact absurd ⟨⟨by omega, by omega⟩, ⟨by omega, by omega⟩, by omega, by omega⟩ hbad
theorem infoU8 : (Try.prog.info? 5).map (fun i => (i.zero, i.size, i.bytes)) = some (some (.int .u8 0), 1, 1) := by kernel_rfl
theorem vpx {k W H : Int} {m h t : Nat} (hm : m ≤ 16) (hh : h ≤ 16) (ht : t < m * h) : spv k ((2 * ((t : Int).tmod (m : Int)) + 1 - W) * H) ((2 * ((t : Int).tdiv (m : Int)) + 1 - H) * W) = pvt k W H m t ∧ (0 ≤ (t : Int).tmod m ∧ (t : Int).tmod m < 16) ∧ 0 ≤ (t : Int).tdiv m ∧ (t : Int).tdiv m < 16 := by
  have hm0 : 0 < m := by rcases Nat.eq_zero_or_pos m with h0 | h0; (subst h0; omega); exact h0
  have a1 := Nat.mod_lt t hm0
  have b1 : t / m < h := Nat.div_lt_of_lt_mul ht
  rw [Int.tmod_eq_emod_of_nonneg (by omega), Int.tdiv_eq_ediv_of_nonneg (by omega), ← Int.natCast_emod, ← Int.natCast_ediv]
  refine ⟨?_, ⟨Int.natCast_nonneg _, by omega⟩, Int.natCast_nonneg _, by omega⟩
  unfold pvt pval pu pv
  show _ = spv k ((2 * ((t % m % 16 : Nat) : Int) + 1 - W) * H) ((2 * ((t / m % 16 : Nat) : Int) + 1 - H) * W)
  rw [Nat.mod_eq_of_lt (a := t % m) (by omega), Nat.mod_eq_of_lt (a := t / m) (by omega)]
theorem rkc_yes {k W H : Int} {m p q : Nat} (h : bef k W H m q p) : rkc k W H m p (q + 1) = rkc k W H m p q + 1 := by simp [rkc, h]
theorem rkc_no {k W H : Int} {m p q : Nat} (h : ¬ bef k W H m q p) : rkc k W H m p (q + 1) = rkc k W H m p q := by simp [rkc, h]
theorem rspot_ok (k W H : Int) (w : World) (hk : 0 ≤ k ∧ k ≤ 2) (hW : 1 ≤ W ∧ W ≤ 16) (hH : 1 ≤ H ∧ H ≤ 16) :
    Calls Try.prog 11 #[.int .i64 k, .int .i64 W, .int .i64 H] w fun e w' => e = .returned (.tuple #[.agg #[.int .i64 W, .int .i64 H, .string (spotS k W H)], .int .i64 0]) ∧ RowKit.Below w.heap.size w w' := by
  obtain ⟨m, hm⟩ : ∃ m : Nat, W = m := ⟨W.toNat, by omega⟩
  obtain ⟨h, hh⟩ : ∃ h : Nat, H = h := ⟨H.toNat, by omega⟩
  have hmn : m ≤ 16 := by omega
  have hhn : h ≤ 16 := by omega
  have hsS : spotS k W H = strU (m * h) (spotF k W H m (m * h)) := by
    rw [spotS, show W.toNat = m by omega, show H.toNat = h by omega]
  have hval : ∀ t : Nat, t < m * h → ∃ I J : Int, (t : Int).tmod W = I ∧ (t : Int).tdiv W = J ∧ (0 ≤ I ∧ I < 16) ∧ (0 ≤ J ∧ J < 16) ∧ ∀ w, Calls Try.prog 35 #[.int .i64 k, .int .i64 W, .int .i64 H, .int .i64 I, .int .i64 J] w fun e w' => e = .returned (.int .i64 (pvt k W H m t)) ∧ w = w' := by
    intro t ht
    obtain ⟨e1, e2, e3⟩ := vpx (k := k) (W := W) (H := H) hmn hhn ht
    rw [← hm] at e1 e2 e3
    refine ⟨_, _, rfl, rfl, e2, e3, fun w => ?_⟩
    have := value_any k W H ((t : Int).tmod W) ((t : Int).tdiv W) w hk hW hH e2 e3
    rw [e1] at this
    exact this
  have hspF : ∀ p, p < m * h → spotF k W H m (m * h) p = (255 * (rkc k W H m p (m * h) : Int)) / ((m * h : Nat) : Int) := by
    intro p hp
    unfold spotF
    rw [rk_rkc k W H hmn hhn hp _ (Nat.le_refl _)]
  have hbd : ∀ j, j < m * h → 0 ≤ spotF k W H m (m * h) j ∧ spotF k W H m (m * h) j ≤ 255 := fun j hj => by
    have := spotF_bd k W H hmn hhn hj
    omega
  have hWH : W * H = ((m * h : Nat) : Int) := by rw [hm, hh]; simp
  have hn0 : 1 ≤ m * h := Nat.mul_pos (by omega) (by omega)
  have hn1 : m * h ≤ 16 * 16 := Nat.mul_le_mul hmn hhn
  have hW0 : W ≠ 0 := by omega
  clear hm hh hmn hhn
  obtain ⟨n, hn⟩ : ∃ n, m * h = n := ⟨_, rfl⟩
  rw [hn] at hsS hval hspF hbd hWH hn0 hn1
  clear hn
  rw [hsS]
  obtain ⟨f, hf⟩ : ∃ f, spotF k W H m n = f := ⟨_, rfl⟩
  rw [hf] at hspF hbd ⊢
  obtain ⟨i0, hi, hz0, hz1, hz2⟩ := info_parts infoU8
  have Hval := Lib.hid hval
  have HspF := Lib.hid hspF
  have Hbd := Lib.hid hbd
  have hN0 : (n : Int) ≠ 0 := by omega
  clear hf hsS hval hspF hbd
  obtain ⟨hk1, hk2⟩ := hk
  obtain ⟨hW1, hW2⟩ := hW
  obtain ⟨hH1, hH2⟩ := hH
  go_enter Try.func11, Try.ntmps11
  go_upto_region 3 with fail
  obtain ⟨wy, hwy⟩ : ∃ wy, wy = w.alloc (.cells #[.int .i64 0, .int .i64 0, .string ⟨#[]⟩] 26 (0, 0)) := ⟨_, rfl⟩
  have hz : wy.heap[w.heap.size]? = some (.cells #[.int .i64 0, .int .i64 0, .string ⟨#[]⟩] 26 (0, 0)) := by rw [hwy]; exact rw_new rfl
  have hB_wy : RowKit.Below w.heap.size w wy := by rw [hwy]; exact Below.alloc (Below.refl _ _) (Nat.le_refl _) _
  have hl_wy := rw_lt hz
  rw [← hwy]
  clear hwy
  go_wp2_with fail
  go_loopw [8, 9] (fun v8 v9 wr => ∃ p : Nat, p ≤ n ∧ v9 = .int .i64 p ∧ wr.ownsRow wy.heap.size 5 1 v8 p ((List.range p).map fun t => .int .u8 (f t)) ∧ RowKit.Below wy.heap.size wy wr) (fun _ v _ => n - (intOf v).toNat)
  case atStart => exact ⟨0, Nat.zero_le _, rfl, World.ownsRow_nil _ _ _ _, RowKit.Below.refl _ _⟩
  case round =>
    obtain ⟨p, hp, rfl, hown, hnx⟩ := hrel
    have hsw := hnx.size
    by_cases hlt : p < n
    · obtain ⟨I, J, eI, eJ, ⟨I1, I2⟩, ⟨J1, J2⟩, hcal⟩ := Hval.out p hlt
      have Hcal := Lib.hid hcal
      clear hcal
      obtain ⟨bq, hbq⟩ : ∃ bq, pvt k W H m p = bq := ⟨_, rfl⟩
      rw [hbq] at Hcal
      have Hbq := Lib.hid hbq
      clear hbq
      go_upto_region 8 with fail
      refine wp_region_ord (.s 0 .p (.s 1 .p (.s 2 .p (.s 3 .p (.s 4 .p (.s 5 .p (.s 6 .p (.s 7 .p (.s 8 .p (.s 9 .e (.s 10 .p .done))))))))))) (Held wr []) (by kernel_rfl) (by kernel_rfl) (fun _ _ _ _ _ h => h) (Held.refl _ _) ?_
      (apply wpOrd_p2 rfl rfl rfl rfl rfl; (intro w' K hK; (first | go_big_move | go_big_op | go_wp2_with fail); exact hK))
      (apply wpOrd_p2 rfl rfl rfl rfl rfl; (intro w' K hK; (first | go_big_move | go_big_op | go_wp2_with fail); exact hK))
      (apply wpOrd_p2 rfl rfl rfl rfl rfl; (intro w' K hK; (first | go_big_move | go_big_op | go_wp2_with fail); exact hK))
      (apply wpOrd_p2 rfl rfl rfl rfl rfl; (intro w' K hK; (first | go_big_move | go_big_op | go_wp2_with fail); exact hK))
      (apply wpOrd_p2 rfl rfl rfl rfl rfl; (intro w' K hK; (first | go_big_move | go_big_op | go_wp2_with fail); exact hK))
      (apply wpOrd_p2 rfl rfl rfl rfl rfl; (intro w' K hK; (first | go_big_move | go_big_op | go_wp2_with fail); exact hK))
      (apply wpOrd_p2 rfl rfl rfl rfl rfl; (intro w' K hK; (first | go_big_move | go_big_op | go_wp2_with fail); exact hK))
      (apply wpOrd_p2 rfl rfl rfl rfl rfl; (intro w' K hK; (first | go_big_move | go_big_op | go_wp2_with fail); exact hK))
      (apply wpOrd_p2 rfl rfl rfl rfl rfl; (intro w' K hK; (first | go_big_move | go_big_op | go_wp2_with fail); exact hK))
      (refine wpOrd_e1 rfl rfl (fun K hK => ?_)); (first | go_big_op | go_wp2_with fail)
      refine (Hcal.out _).mono ?_; rintro e w9 ⟨rfl, rfl⟩; refine hK _ _ (by repeat (first | with_reducible exact Held.refl _ _ | with_reducible assumption | with_reducible refine Held.drew ?_ | ((with_reducible refine Held.alloc ?_ ?hb_ _); (case hb_ => first | omega | (simp; done) | (simp; omega))) | ((with_reducible refine Held.setCell ?_ _ _ ?hb_); (case hb_ => (refine .inl ?_); first | omega | (simp; done) | (simp; omega))))) ?_; clear hK K
      (apply wpOrd_p2 rfl rfl rfl rfl rfl; (intro w' K hK; (first | go_big_move | go_big_op | go_wp2_with fail); exact hK))
      refine wpOrd_nil ?_
      skip
      obtain ⟨wo, hwo⟩ : ∃ wo, wo = wr.drew := ⟨_, rfl⟩
      have hown' : wo.ownsRow wy.heap.size 5 1 u8 p ((List.range p).map fun t => .int .u8 (f t)) := by rw [hwo]; exact hown
      have hnx' : RowKit.Below wy.heap.size wy wo := by rw [hwo]; exact Below.drew hnx
      rw [← hwo]
      clear hwo hown hnx hsw eI eJ I1 I2 J1 J2 Hcal
      go_wp2_with fail
      go_loopw [10, 12] (fun v10 v12 wr => ∃ q : Nat, q ≤ n ∧ v12 = .int .i64 q ∧ v10 = .int .i64 (rkc k W H m p q) ∧ wr.ownsRow wy.heap.size 5 1 u8 p ((List.range p).map fun t => .int .u8 (f t)) ∧ RowKit.Below wy.heap.size wy wr) (fun _ v _ => n - (intOf v).toNat)
      case atStart => exact ⟨0, Nat.zero_le _, rfl, rfl, hown', hnx'⟩
      case round =>
        clear hown' hnx'
        obtain ⟨q, hq, rfl, rfl, hown, hnx⟩ := hrel
        have hsw := hnx.size
        have hrl := (rkc_le k W H m p q).1
        by_cases hlq : q < n
        · obtain ⟨I, J, eI, eJ, ⟨I1, I2⟩, ⟨J1, J2⟩, hcal⟩ := Hval.out q hlq
          have Hcal := Lib.hid hcal
          clear hcal
          obtain ⟨aq, haq⟩ : ∃ aq, pvt k W H m q = aq := ⟨_, rfl⟩
          rw [haq] at Hcal
          have Haq := Lib.hid haq
          clear haq
          go_upto_region 12 with fail
          refine wp_region_ord (.s 0 .p (.s 1 .p (.s 2 .p (.s 3 .p (.s 4 .p (.s 5 .p (.s 6 .p (.s 7 .p (.s 8 .p (.s 9 .e (.s 10 .p .done))))))))))) (Held wr []) (by kernel_rfl) (by kernel_rfl) (fun _ _ _ _ _ h => h) (Held.refl _ _) ?_
          (apply wpOrd_p2 rfl rfl rfl rfl rfl; (intro w' K hK; (first | go_big_move | go_big_op | go_wp2_with fail); exact hK))
          (apply wpOrd_p2 rfl rfl rfl rfl rfl; (intro w' K hK; (first | go_big_move | go_big_op | go_wp2_with fail); exact hK))
          (apply wpOrd_p2 rfl rfl rfl rfl rfl; (intro w' K hK; (first | go_big_move | go_big_op | go_wp2_with fail); exact hK))
          (apply wpOrd_p2 rfl rfl rfl rfl rfl; (intro w' K hK; (first | go_big_move | go_big_op | go_wp2_with fail); exact hK))
          (apply wpOrd_p2 rfl rfl rfl rfl rfl; (intro w' K hK; (first | go_big_move | go_big_op | go_wp2_with fail); exact hK))
          (apply wpOrd_p2 rfl rfl rfl rfl rfl; (intro w' K hK; (first | go_big_move | go_big_op | go_wp2_with fail); exact hK))
          (apply wpOrd_p2 rfl rfl rfl rfl rfl; (intro w' K hK; (first | go_big_move | go_big_op | go_wp2_with fail); exact hK))
          (apply wpOrd_p2 rfl rfl rfl rfl rfl; (intro w' K hK; (first | go_big_move | go_big_op | go_wp2_with fail); exact hK))
          (apply wpOrd_p2 rfl rfl rfl rfl rfl; (intro w' K hK; (first | go_big_move | go_big_op | go_wp2_with fail); exact hK))
          (refine wpOrd_e1 rfl rfl (fun K hK => ?_)); (first | go_big_op | go_wp2_with fail)
          refine (Hcal.out _).mono ?_; rintro e w9 ⟨rfl, rfl⟩; refine hK _ _ (by repeat (first | with_reducible exact Held.refl _ _ | with_reducible assumption | with_reducible refine Held.drew ?_ | ((with_reducible refine Held.alloc ?_ ?hb_ _); (case hb_ => first | omega | (simp; done) | (simp; omega))) | ((with_reducible refine Held.setCell ?_ _ _ ?hb_); (case hb_ => (refine .inl ?_); first | omega | (simp; done) | (simp; omega))))) ?_; clear hK K
          (apply wpOrd_p2 rfl rfl rfl rfl rfl; (intro w' K hK; (first | go_big_move | go_big_op | go_wp2_with fail); exact hK))
          refine wpOrd_nil ?_
          skip
          obtain ⟨wv, hwv⟩ : ∃ wv, wv = wr.drew := ⟨_, rfl⟩
          have hown' : wv.ownsRow wy.heap.size 5 1 u8 p ((List.range p).map fun t => .int .u8 (f t)) := by rw [hwv]; exact hown
          have hnx' : RowKit.Below wy.heap.size wy wv := by rw [hwv]; exact Below.drew hnx
          rw [← hwv]
          clear hwv hown hnx hsw eI eJ I1 I2 J1 J2 Hcal
          have hown := hown'
          have hnx := hnx'
          clear hown' hnx'
          rcases Int.lt_trichotomy aq bq with g | g | g
          ·
            skip
            have e1 := Lib.hid (rkc_yes (k := k) (W := W) (H := H) (m := m) (p := p) (q := q) (by unfold bef; rw [Hbq.out, Haq.out]; omega))
            obtain ⟨c, hc⟩ : ∃ c : Nat, rkc k W H m p q = c := ⟨_, rfl⟩
            rw [hc] at hrl e1 ⊢
            clear hc
            go_wp2_with fail
            go_roundw
            case rel => exact ⟨q + 1, by omega, by go_num, by rw [e1.out]; go_num, hown, hnx⟩
            case measure => simp [intOf]; omega
          · by_cases g2 : q < p
            ·
              skip
              have e1 := Lib.hid (rkc_yes (k := k) (W := W) (H := H) (m := m) (p := p) (q := q) (by unfold bef; rw [Hbq.out, Haq.out]; omega))
              obtain ⟨c, hc⟩ : ∃ c : Nat, rkc k W H m p q = c := ⟨_, rfl⟩
              rw [hc] at hrl e1 ⊢
              clear hc
              go_wp2_with fail
              go_roundw
              case rel => exact ⟨q + 1, by omega, by go_num, by rw [e1.out]; go_num, hown, hnx⟩
              case measure => simp [intOf]; omega
            ·
              skip
              have e1 := Lib.hid (rkc_no (k := k) (W := W) (H := H) (m := m) (p := p) (q := q) (by unfold bef; rw [Hbq.out, Haq.out]; omega))
              obtain ⟨c, hc⟩ : ∃ c : Nat, rkc k W H m p q = c := ⟨_, rfl⟩
              rw [hc] at hrl e1 ⊢
              clear hc
              go_wp2_with fail
              go_roundw
              case rel => exact ⟨q + 1, by omega, by go_num, by rw [e1.out], hown, hnx⟩
              case measure => simp [intOf]; omega
          ·
            (have g3 : ¬ aq < bq := (by omega)); (have g4 : ¬ aq = bq := (by omega))
            have e1 := Lib.hid (rkc_no (k := k) (W := W) (H := H) (m := m) (p := p) (q := q) (by unfold bef; rw [Hbq.out, Haq.out]; omega))
            obtain ⟨c, hc⟩ : ∃ c : Nat, rkc k W H m p q = c := ⟨_, rfl⟩
            rw [hc] at hrl e1 ⊢
            clear hc
            go_wp2_with fail
            go_roundw
            case rel => exact ⟨q + 1, by omega, by go_num, by rw [e1.out], hown, hnx⟩
            case measure => simp [intOf]; omega
        · have hqn : q = n := by omega
          subst hqn
          obtain ⟨c, hc⟩ : ∃ c : Nat, rkc k W H m p q = c := ⟨_, rfl⟩
          have e1 := HspF.out p hlt
          rw [hc] at hrl e1 ⊢
          have e2 := Hbd.out p hlt
          rw [e1] at e2
          have e3 : (255 * (c : Int)).tdiv (q : Int) = f p := by rw [e1, Int.tdiv_eq_ediv_of_nonneg (by omega)]
          have e4 := Hbd.out p hlt
          obtain ⟨V, hV⟩ : ∃ V, f p = V := ⟨_, rfl⟩
          rw [hV] at e3 e4
          obtain ⟨e5, e6⟩ := e4
          have HV := Lib.hid hV
          clear e1 e2 hV hc
          go_wp2_with (at_builtin; refine wpList_append_own _ rfl _ _ 22 rfl wy.heap.size 5 i0 (.int .u8 0) 1 1 Try.underlying22 hi hz0 hz1 hz2 rfl (by decide) _ _ _ rfl (hown.alloc _) ⟨wr.heap.size, 0, none⟩ 1 1 [.int .u8 V] rfl rfl ?c1 ?c2 ?c3 ?c4 ?c5 ?_)
          case c1 =>
            intro x u hu
            match x, hu with
            | 0, hu => simp at hu; subst hu; simp [Addr.add]
          case c2 => intro u hu; simp at hu; rcases hu with rfl; rfl
          case c3 => unfold maxLen; omega
          case c4 => omega
          case c5 => simp; omega
          intro v' w3 hown' hgrow _
          have hnx' : RowKit.Below wy.heap.size wy w3 := (hnx.alloc (by omega) _).grown hgrow (by simp; omega) (own_base hown)
          clear hgrow hown
          go_wp2_with fail
          go_roundw
          case rel =>
            refine ⟨p + 1, by omega, by go_num, ?_, hnx'⟩
            rw [List.range_succ, List.map_append, List.map_cons, List.map_nil, HV.out]
            exact hown'
          case measure => simp [intOf]; omega
    · have hpn : p = n := by omega
      subst hpn
      obtain ⟨gb, cap, rfl, hgb, hgl⟩ := hown.form (by omega)
      have hcv := Lib.run_convert_whole (P := Try.prog) wr 22 5 9 Try.underlying22 Try.underlying5 Try.underlying9 gb 0 (strU p f) (own_bytes hown Hbd.out) cap
      rw [strU_size] at hcv
      have hrw := (hnx.block w.heap.size hl_wy).trans hz
      have hB_wr : RowKit.Below w.heap.size w wr := hB_wy.trans (hnx.mono (by omega))
      clear hown
      go_upto_region 16 with fail
      go_wp2_with ((with_reducible refine rw_list ?_); (first | ((with_reducible apply wpList_load_cell); (case ho => with_reducible rfl); (case hgd => with_reducible rfl); (case hx => rfl); (case hu => first | exact Try.underlying26); (case hd => rfl)) | ((with_reducible apply wpList_load_row); (case ho => with_reducible rfl); (case hgd => with_reducible rfl); (case hx => rfl); (case hu => first | exact Try.underlying26); (case hd => rfl)) | ((with_reducible apply wpList_store_row); (case ho => with_reducible rfl); (case hgd => with_reducible rfl); (case hx => rfl); (case hy => rfl)) | ((with_reducible apply wpList_store_cell); (case ho => with_reducible rfl); (case hgd => with_reducible rfl); (case hx => rfl); (case hy => first | exact ev_const | exact ev_tmp rfl); (case h1 => rfl))); (case hg => exact (by with_reducible repeat (first | assumption | (refine rw_new ?e_; case e_ => first | rfl | (simp; done) | (simp; omega)) | apply rw_self | (apply rw_other; case hn => first | omega | (simp; omega)) | apply rw_alloc | apply rw_drew | apply rw_drewN))); (try case hv => rfl); (try case hi => kernel_rfl); (try case hold => rfl); (try case h1 => kernel_rfl); (try case hlt => rfl); (try case hcs => ((try simp only [List.setIfInBounds_toArray, List.set_cons_succ, List.set_cons_zero]); rfl)))
      exact bodyPost_ret (v := _) (results_cell_tmp Try.results11 _ _ _ _ _ _ _ (by rfl) (by with_reducible repeat (first | assumption | (refine rw_new ?e_; case e_ => first | rfl | (simp; done) | (simp; omega)) | apply rw_self | (apply rw_other; case hn => first | omega | (simp; omega)) | apply rw_alloc | apply rw_drew | apply rw_drewN)) Try.underlying26 rfl (by kernel_rfl)) rfl ⟨rfl, (by with_reducible repeat (first | exact Below.refl _ _ | assumption | ((first | refine Below.alloc ?_ ?b_ _ | refine bw_set ?_ ?b_ | refine Below.setCell ?_ ?b_ _); case b_ => first | omega | (simp; done) | (simp; omega)) | refine Below.drew ?_ | refine below_drewN ?_ _))⟩
end Go.Proofs.Ytdkkjlapmaageaa.T3
