/- chaselaw20's near, within, sine and applies. -/
import Derived.Test.YtpgaibkjokoanaaMxV
import Derived.Test.YtpgaibkjokoanaaMxK
import Derived.Test.YtpgaibkjokoanaaMxR
import Derived.WalkKit
import Derived.Lib.Hide
import Derived.Deep.QuietTactic
import Derived.BigQuiet
import Derived.Lib.QuietBelow
import Derived.Deep.RegionHeld3
import Derived.WalkLawsBesides
import Derived.WalkSpells
import Derived.Outline
import Derived.Deep.DeepFit
import Derived.Maps.AppendAt
import Derived.Deep.AppendLies
namespace Go.Proofs.Ytpgaibkjokoanaa.T3
set_option linter.unusedSimpArgs false
set_option linter.unusedVariables false
open Go.RowKit
set_option maxHeartbeats 1000000
theorem near_ok (q n d : Int) (w : World) (h1 : (2 * q - 1) * d ≤ 2 * n) (h2 : 2 * n < (2 * q + 1) * d) (b1 : -4611686018427387904 ≤ (2 * q - 1) * d) (b2 : (2 * q - 1) * d ≤ 4611686018427387904) (b3 : -4611686018427387904 ≤ (2 * q + 1) * d) (b4 : (2 * q + 1) * d ≤ 4611686018427387904) (q1 : -1152921504606846976 ≤ q) (q2 : q ≤ 1152921504606846976) (n1 : -2305843009213693952 ≤ n) (n2 : n ≤ 2305843009213693952) :
    Calls Try.prog 22 #[.int .i64 q, .int .i64 n, .int .i64 d] w fun e w' => e = .returned (.bool true) ∧ w = w' := by
  go_enter Try.func22, Try.ntmps22
  go_wp2_with fail
  go_ret
  exact ⟨rfl, rfl⟩
theorem within_ok (x n d : Int) (w : World) (x1 : -2147483648 ≤ x) (x2 : x ≤ 2147483648) (hd : 0 < d) (hd2 : d ≤ 2147483648) (n1 : -1125899906842624 ≤ n) (n2 : n ≤ 1125899906842624) (h1 : (2 * x - 1) * d ≤ 2 * (65536 * n)) (h2 : 2 * (65536 * n) < (2 * x + 1) * d) :
    Calls Try.prog 25 #[.int .i64 x, .int .i64 n, .int .i64 d] w fun e w' => e = .returned (.bool true) ∧ w = w' := by
  obtain ⟨p1, p2⟩ := within_plain x n d h1 h2
  clear h1 h2
  obtain ⟨t, ht⟩ : ∃ t, x / 65536 = t := ⟨_, rfl⟩
  rw [ht] at p1 p2
  have t1 : -32768 ≤ t := by omega
  have t2 : t ≤ 32768 := by omega
  have r1 : 0 ≤ x - t * 65536 := by omega
  have r2 : x - t * 65536 ≤ 65535 := by omega
  obtain ⟨m1, m2⟩ := mul_bd t1 t2 (show -2147483648 ≤ d by omega) hd2
  obtain ⟨m3, m4⟩ := mul_bd (show -131073 ≤ 2 * (x - t * 65536) - 1 by omega) (show 2 * (x - t * 65536) - 1 ≤ 131073 by omega) (show -2147483648 ≤ d by omega) hd2
  obtain ⟨m5, m6⟩ := mul_bd (show -131073 ≤ 2 * (x - t * 65536) + 1 by omega) (show 2 * (x - t * 65536) + 1 ≤ 131073 by omega) (show -2147483648 ≤ d by omega) hd2
  simp only [Int.reduceMul, Int.reduceNeg] at m1 m2 m3 m4 m5 m6
  have ht := Lib.hid ht
  go_enter Try.func25, Try.ntmps25
  go_wp2_with fail
  refine (floor_any _ _ _ (by omega) (by omega) (by omega) (by omega)).mono ?_
  rintro e w' ⟨rfl, rfl⟩
  rw [ht.out]
  go_wp2_with fail
  refine (floor_any _ _ _ (by omega) (by omega) (by omega) (by omega)).mono ?_
  rintro e w' ⟨rfl, rfl⟩
  rw [ht.out]
  go_wp2_with fail
  go_ret
  exact ⟨rfl, rfl⟩
theorem sine_any (k : Int) (w : World) (k1 : -32768 ≤ k) (k2 : k ≤ 32768) :
    Calls Try.prog 39 #[.int .i64 k] w fun e w' => e = .returned (.int .i64 (sAny (k * 65536))) ∧ Below w.heap.size w w' := by
  have hB : withinB 2147483648 [k * 65536] = true := by simp [withinB]; omega
  have h1 := Lib.hid (show snE (k * 65536) = 0 by rw [snE, if_pos hB])
  have h2 := Lib.hid (show snV (k * 65536) = sAny (k * 65536) by rw [snV, if_pos hB])
  clear hB
  go_enter Try.func39, Try.ntmps39
  go_wp2_with fail
  refine (msine_any _ _).mono ?_
  rintro e w1 ⟨rfl, hb⟩
  have hs_w1 := hb.size
  (try simp at hs_w1)
  have hB_w1 : Below w.heap.size w w1 := below_then (w := w) (by with_reducible repeat (first | exact Below.refl _ _ | assumption | ((first | refine Below.alloc ?_ ?b_ _ | refine bw_set ?_ ?b_ | refine Below.setCell ?_ ?b_ _); case b_ => first | omega | (simp; done) | (simp; omega)) | refine Below.drew ?_ | refine below_drewN ?_ _)) (by first | omega | (simp; done) | (simp; omega) | (have hq_ := hb.size; omega)) hb
  clear hb
  rw [h1.out, h2.out]
  go_wp2_with fail
  go_ret
  exact ⟨rfl, (by with_reducible repeat (first | exact Below.refl _ _ | assumption | ((first | refine Below.alloc ?_ ?b_ _ | refine bw_set ?_ ?b_ | refine Below.setCell ?_ ?b_ _); case b_ => first | omega | (simp; done) | (simp; omega)) | refine Below.drew ?_ | refine below_drewN ?_ _))⟩
theorem applies_ok (A B C D E F x y px py want : Int) (w : World) (h1 : apX A B C D E F x y = px) (h2 : apY A B C D E F x y = py) (h3 : apE A B C D E F x y = want) :
    Calls Try.prog 53 #[.agg #[.int .i64 A, .int .i64 B, .int .i64 C, .int .i64 D, .int .i64 E, .int .i64 F], .int .i64 x, .int .i64 y, .agg #[.int .i64 px, .int .i64 py], .int .i64 want] w fun e w' => e = .returned (.bool true) ∧ Below w.heap.size w w' := by
  have h1 := Lib.hid h1
  have h2 := Lib.hid h2
  have h3 := Lib.hid h3
  go_enter Try.func53, Try.ntmps53
  go_wp2_with ((with_reducible refine rw_list ?_); (first | ((with_reducible apply wpList_load_cell); (case ho => with_reducible rfl); (case hgd => with_reducible rfl); (case hx => rfl); (case hu => first | exact Try.underlying25 | exact Try.underlying28 | exact Try.underlying3); (case hd => rfl)) | ((with_reducible apply wpList_load_row); (case ho => with_reducible rfl); (case hgd => with_reducible rfl); (case hx => rfl); (case hu => first | exact Try.underlying25 | exact Try.underlying28 | exact Try.underlying3); (case hd => rfl)) | ((with_reducible apply wpList_store_row); (case ho => with_reducible rfl); (case hgd => with_reducible rfl); (case hx => rfl); (case hy => rfl)) | ((with_reducible apply wpList_store_cell); (case ho => with_reducible rfl); (case hgd => with_reducible rfl); (case hx => rfl); (case hy => first | exact ev_const | exact ev_tmp rfl); (case h1 => rfl))); (case hg => exact (by with_reducible repeat (first | assumption | (refine rw_new ?e_; case e_ => first | rfl | (simp; done) | (simp; omega)) | apply rw_self | (apply rw_other; case hn => first | omega | (simp; omega)) | apply rw_alloc | apply rw_drew | apply rw_drewN))); (try case hv => rfl); (try case hi => kernel_rfl); (try case hold => rfl); (try case h1 => kernel_rfl); (try case hlt => rfl); (try case hcs => ((try simp only [List.setIfInBounds_toArray, List.set_cons_succ, List.set_cons_zero]); rfl)))
  refine (map_any _ _ _ _ _ _ _ _ _).mono ?_
  rintro e w1 ⟨rfl, hb⟩
  have hs_w1 := hb.size
  (try simp at hs_w1)
  have hB_w1 : Below w.heap.size w w1 := below_then (w := w) (by with_reducible repeat (first | exact Below.refl _ _ | assumption | ((first | refine Below.alloc ?_ ?b_ _ | refine bw_set ?_ ?b_ | refine Below.setCell ?_ ?b_ _); case b_ => first | omega | (simp; done) | (simp; omega)) | refine Below.drew ?_ | refine below_drewN ?_ _)) (by first | omega | (simp; done) | (simp; omega) | (have hq_ := hb.size; omega)) hb
  have hx_ := rw_below (k := w.heap.size + 1) hb (by with_reducible repeat (first | assumption | (refine rw_new ?e_; case e_ => first | rfl | (simp; done) | (simp; omega)) | apply rw_self | (apply rw_other; case hn => first | omega | (simp; omega)) | apply rw_alloc | apply rw_drew | apply rw_drewN))
  (try clear hn)
  (try clear hnc0 hnc1)
  have hn := hx_
  clear hx_
  obtain ⟨hnc0, hnc1⟩ := cel2 hn
  clear hb
  rw [h1.out, h2.out, h3.out]
  go_wp2_with ((with_reducible refine rw_list ?_); (first | ((with_reducible apply wpList_load_cell); (case ho => with_reducible rfl); (case hgd => with_reducible rfl); (case hx => rfl); (case hu => first | exact Try.underlying25 | exact Try.underlying28 | exact Try.underlying3); (case hd => rfl)) | ((with_reducible apply wpList_load_row); (case ho => with_reducible rfl); (case hgd => with_reducible rfl); (case hx => rfl); (case hu => first | exact Try.underlying25 | exact Try.underlying28 | exact Try.underlying3); (case hd => rfl)) | ((with_reducible apply wpList_store_row); (case ho => with_reducible rfl); (case hgd => with_reducible rfl); (case hx => rfl); (case hy => rfl)) | ((with_reducible apply wpList_store_cell); (case ho => with_reducible rfl); (case hgd => with_reducible rfl); (case hx => rfl); (case hy => first | exact ev_const | exact ev_tmp rfl); (case h1 => rfl))); (case hg => exact (by with_reducible repeat (first | assumption | (refine rw_new ?e_; case e_ => first | rfl | (simp; done) | (simp; omega)) | apply rw_self | (apply rw_other; case hn => first | omega | (simp; omega)) | apply rw_alloc | apply rw_drew | apply rw_drewN))); (try case hv => rfl); (try case hi => kernel_rfl); (try case hold => rfl); (try case h1 => kernel_rfl); (try case hlt => rfl); (try case hcs => ((try simp only [List.setIfInBounds_toArray, List.set_cons_succ, List.set_cons_zero]); rfl)))
  go_ret
  exact ⟨rfl, (by with_reducible repeat (first | exact Below.refl _ _ | assumption | ((first | refine Below.alloc ?_ ?b_ _ | refine bw_set ?_ ?b_ | refine Below.setCell ?_ ?b_ _); case b_ => first | omega | (simp; done) | (simp; omega)) | refine Below.drew ?_ | refine below_drewN ?_ _))⟩
end Go.Proofs.Ytpgaibkjokoanaa.T3
