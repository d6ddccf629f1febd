/- Pair's matrices and reals. -/
import Derived.Test.YtpgaibkjokoanaaMxL
import Derived.Test.YtpgaibkjokoanaaDraM
import Derived.Test.YtpgaibkjokoanaaGrow
import Derived.WalkKit
import Derived.Lib.Hide
import Derived.Deep.QuietTactic
import Derived.BigQuiet
import Derived.Lib.QuietBelow
import Derived.Deep.RegionHeld3
import Derived.WalkLawsBesides
import Derived.WalkSpells
import Derived.Outline
import Derived.Deep.DeepFit
import Derived.Maps.AppendAt
import Derived.Deep.AppendLies
import Derived.Deep.MidRow
namespace Go.Proofs.Ytpgaibkjokoanaa.T3
set_option linter.unusedSimpArgs false
set_option linter.unusedVariables false
open Go.RowKit
set_option maxHeartbeats 2000000
theorem range_row {w : World} {g t : Nat} {fr : Nat × Nat} (all : List Value) (o n : Nat) (h : w.heap[g]? = some (.cells all.toArray t fr)) : w.rangeAt g o ((all.drop o).take n) := by
  intro j v hj
  have h1 : all[o + j]? = some v := by
    rw [List.getElem?_take] at hj
    split at hj
    · rw [List.getElem?_drop] at hj
      exact hj
    · simp at hj
  rw [cell_of_row w g (o + j) _ _ _ h]
  simpa using h1
/-- a valid matrix -/
def MatV (v : Value) : Prop := ∃ A B C D E F : Int, Hid (mOk A B C D E F) ∧ v = .agg #[.int .i64 A, .int .i64 B, .int .i64 C, .int .i64 D, .int .i64 E, .int .i64 F]
theorem reals_any (k a0 a1 a2 a3 a4 a5 l b0 b1 b2 b3 b4 b5 x0 x1 x2 x3 x4 x5 n0 n1 n2 n3 px py : Int) (w : World) :
    Calls Try.prog 11 #[.agg #[.int .u8 k, .int .i32 a0, .int .i32 a1, .int .i32 a2, .int .i32 a3, .int .i32 a4, .int .i32 a5, .int .u8 l, .int .i32 b0, .int .i32 b1, .int .i32 b2, .int .i32 b3, .int .i32 b4, .int .i32 b5, .int .i64 x0, .int .i64 x1, .int .i64 x2, .int .i64 x3, .int .i64 x4, .int .i64 x5, .int .i64 n0, .int .i64 n1, .int .i64 n2, .int .i64 n3, .int .i64 px, .int .i64 py]] w fun e w' => e = .returned (.agg #[.int .i64 n0, .int .i64 n1, .int .i64 (n0.tmod 2147483649), .int .i64 (n1.tmod 2147483649), .int .i64 (n2.tmod 3000000), .int .i64 (n3.tmod 3000000)]) ∧ Below w.heap.size w w' := by
  go_enter Try.func11, Try.ntmps11
  go_wp2_with ((with_reducible refine rw_list ?_); (first | ((with_reducible apply wpList_load_cell); (case ho => with_reducible rfl); (case hgd => with_reducible rfl); (case hx => rfl); (case hu => first | exact Try.underlying25 | exact Try.underlying37 | exact Try.underlying32 | exact Try.underlying31 | exact Try.underlying3 | exact Try.underlying23); (case hd => rfl)) | ((with_reducible apply wpList_load_row); (case ho => with_reducible rfl); (case hgd => with_reducible rfl); (case hx => rfl); (case hu => first | exact Try.underlying25 | exact Try.underlying37 | exact Try.underlying32 | exact Try.underlying31 | exact Try.underlying3 | exact Try.underlying23); (case hd => rfl)) | ((with_reducible apply wpList_store_row); (case ho => with_reducible rfl); (case hgd => with_reducible rfl); (case hx => rfl); (case hy => rfl)) | ((with_reducible apply wpList_store_cell); (case ho => with_reducible rfl); (case hgd => with_reducible rfl); (case hx => rfl); (case hy => first | exact ev_const | exact ev_tmp rfl); (case h1 => rfl))); (case hg => exact (by with_reducible repeat (first | assumption | (refine rw_new ?e_; case e_ => first | rfl | (simp; done) | (simp; omega)) | apply rw_self | (apply rw_other; case hn => first | omega | (simp; omega)) | apply rw_alloc | apply rw_drew | apply rw_drewN))); (try case hv => rfl); (try case hi => kernel_rfl); (try case hold => rfl); (try case h1 => kernel_rfl); (try case hlt => rfl); (try case hcs => ((try simp only [List.setIfInBounds_toArray, List.set_cons_succ, List.set_cons_zero]); rfl)))
  exact bodyPost_ret (v := _) (results_cell_row Try.results11 _ _ _ _ _ _ _ (by rfl) (by with_reducible repeat (first | assumption | (refine rw_new ?e_; case e_ => first | rfl | (simp; done) | (simp; omega)) | apply rw_self | (apply rw_other; case hn => first | omega | (simp; omega)) | apply rw_alloc | apply rw_drew | apply rw_drewN)) Try.underlying32 rfl (by kernel_rfl)) rfl ⟨rfl, (by with_reducible repeat (first | exact Below.refl _ _ | assumption | ((first | refine Below.alloc ?_ ?b_ _ | refine bw_set ?_ ?b_ | refine Below.setCell ?_ ?b_ _); case b_ => first | omega | (simp; done) | (simp; omega)) | refine Below.drew ?_ | refine below_drewN ?_ _))⟩
theorem mats_any (k a0 a1 a2 a3 a4 a5 l b0 b1 b2 b3 b4 b5 x0 x1 x2 x3 x4 x5 n0 n1 n2 n3 px py : Int) (w : World) (sk : 0 ≤ k ∧ k ≤ 255) (sl : 0 ≤ l ∧ l ≤ 255) (sa0 : i32ok a0) (sa1 : i32ok a1) (sa2 : i32ok a2) (sa3 : i32ok a3) (sa4 : i32ok a4) (sa5 : i32ok a5) (sb0 : i32ok b0) (sb1 : i32ok b1) (sb2 : i32ok b2) (sb3 : i32ok b3) (sb4 : i32ok b4) (sb5 : i32ok b5) :
    Calls Try.prog 14 #[.agg #[.int .u8 k, .int .i32 a0, .int .i32 a1, .int .i32 a2, .int .i32 a3, .int .i32 a4, .int .i32 a5, .int .u8 l, .int .i32 b0, .int .i32 b1, .int .i32 b2, .int .i32 b3, .int .i32 b4, .int .i32 b5, .int .i64 x0, .int .i64 x1, .int .i64 x2, .int .i64 x3, .int .i64 x4, .int .i64 x5, .int .i64 n0, .int .i64 n1, .int .i64 n2, .int .i64 n3, .int .i64 px, .int .i64 py]] w fun e w' => (∃ A B C D E F A' B' C' D' E' F' : Int, mOk A B C D E F ∧ mOk A' B' C' D' E' F' ∧ e = .returned (.agg #[.int .i64 A, .int .i64 B, .int .i64 C, .int .i64 D, .int .i64 E, .int .i64 F, .int .i64 A', .int .i64 B', .int .i64 C', .int .i64 D', .int .i64 E', .int .i64 F', .int .i64 x0, .int .i64 x1, .int .i64 x2, .int .i64 x3, .int .i64 x4, .int .i64 x5])) ∧ Below w.heap.size w w' := by
  go_enter Try.func14, Try.ntmps14
  go_wp2_with ((with_reducible refine rw_list ?_); (first | ((with_reducible apply wpList_load_cell); (case ho => with_reducible rfl); (case hgd => with_reducible rfl); (case hx => rfl); (case hu => first | exact Try.underlying25 | exact Try.underlying37 | exact Try.underlying32 | exact Try.underlying31 | exact Try.underlying3 | exact Try.underlying23); (case hd => rfl)) | ((with_reducible apply wpList_load_row); (case ho => with_reducible rfl); (case hgd => with_reducible rfl); (case hx => rfl); (case hu => first | exact Try.underlying25 | exact Try.underlying37 | exact Try.underlying32 | exact Try.underlying31 | exact Try.underlying3 | exact Try.underlying23); (case hd => rfl)) | ((with_reducible apply wpList_store_row); (case ho => with_reducible rfl); (case hgd => with_reducible rfl); (case hx => rfl); (case hy => rfl)) | ((with_reducible apply wpList_store_cell); (case ho => with_reducible rfl); (case hgd => with_reducible rfl); (case hx => rfl); (case hy => first | exact ev_const | exact ev_tmp rfl); (case h1 => rfl))); (case hg => exact (by with_reducible repeat (first | assumption | (refine rw_new ?e_; case e_ => first | rfl | (simp; done) | (simp; omega)) | apply rw_self | (apply rw_other; case hn => first | omega | (simp; omega)) | apply rw_alloc | apply rw_drew | apply rw_drewN))); (try case hv => rfl); (try case hi => kernel_rfl); (try case hold => rfl); (try case h1 => kernel_rfl); (try case hlt => rfl); (try case hcs => ((try simp only [List.setIfInBounds_toArray, List.set_cons_succ, List.set_cons_zero]); rfl)))
  generalize hwy_ : World.alloc _ _ = wy
  have hB_wy : Below w.heap.size w wy := bw_eq hwy_ (by with_reducible repeat (first | exact Below.refl _ _ | assumption | ((first | refine Below.alloc ?_ ?b_ _ | refine bw_set ?_ ?b_ | refine Below.setCell ?_ ?b_ _); case b_ => first | omega | (simp; done) | (simp; omega)) | refine Below.drew ?_ | refine below_drewN ?_ _))
  have hx_ := rw_eq (k := w.heap.size) hwy_ (by with_reducible repeat (first | assumption | (refine rw_new ?e_; case e_ => first | rfl | (simp; done) | (simp; omega)) | apply rw_self | (apply rw_other; case hn => first | omega | (simp; omega)) | apply rw_alloc | apply rw_drew | apply rw_drewN))
  (try clear hp)
  have hp := hx_
  clear hx_
  have hl_hp := rw_lt hp
  have hx_ := rw_eq (k := w.heap.size + 1) hwy_ (by with_reducible repeat (first | assumption | (refine rw_new ?e_; case e_ => first | rfl | (simp; done) | (simp; omega)) | apply rw_self | (apply rw_other; case hn => first | omega | (simp; omega)) | apply rw_alloc | apply rw_drew | apply rw_drewN))
  (try clear hq)
  have hq := hx_
  clear hx_
  have hl_hq := rw_lt hq
  clear hwy_
  refine wp_region_grow [(0, none), (1, none), (3, none), (4, none), (6, none), (7, none), (2, some (.val MatV)), (5, some (.val MatV)), (8, none)] (.s 9 .e .done) ?g1_ ?g2_ ?g3_ ?_
  case g1_ => kernel_rfl
  case g2_ => kernel_rfl
  case g3_ => exact fun _ _ _ _ _ h => h
  (apply wpG_p rfl rfl rfl rfl rfl; (intro w' K hK; (first | go_big_op | go_wp2_with fail); exact hK))
  (apply wpG_l rfl rfl rfl rfl rfl; (intro w' K hC hK; (have hp' := rw_below hC.1 hp; refine wp_load_mid 23 _ rfl w.heap.size 0 rfl [.int .u8 k, .int .i32 a0, .int .i32 a1, .int .i32 a2, .int .i32 a3, .int .i32 a4, .int .i32 a5] _ (range_row [.int .u8 k, .int .i32 a0, .int .i32 a1, .int .i32 a2, .int .i32 a3, .int .i32 a4, .int .i32 a5, .int .u8 l, .int .i32 b0, .int .i32 b1, .int .i32 b2, .int .i32 b3, .int .i32 b4, .int .i32 b5, .int .i64 x0, .int .i64 x1, .int .i64 x2, .int .i64 x3, .int .i64 x4, .int .i64 x5, .int .i64 n0, .int .i64 n1, .int .i64 n2, .int .i64 n3, .int .i64 px, .int .i64 py] 0 7 hp') Try.underlying23 rfl (by kernel_rfl) ?_); exact hK); (case he => first | rfl | (simp [Act.put, *]; done)))
  (apply wpG_p rfl rfl rfl rfl rfl; (intro w' K hK; (first | go_big_op | go_wp2_with fail); exact hK))
  (apply wpG_l rfl rfl rfl rfl rfl; (intro w' K hC hK; (have hp' := rw_below hC.1 hp; refine wp_load_mid 23 _ rfl w.heap.size 7 rfl [.int .u8 l, .int .i32 b0, .int .i32 b1, .int .i32 b2, .int .i32 b3, .int .i32 b4, .int .i32 b5] _ (range_row [.int .u8 k, .int .i32 a0, .int .i32 a1, .int .i32 a2, .int .i32 a3, .int .i32 a4, .int .i32 a5, .int .u8 l, .int .i32 b0, .int .i32 b1, .int .i32 b2, .int .i32 b3, .int .i32 b4, .int .i32 b5, .int .i64 x0, .int .i64 x1, .int .i64 x2, .int .i64 x3, .int .i64 x4, .int .i64 x5, .int .i64 n0, .int .i64 n1, .int .i64 n2, .int .i64 n3, .int .i64 px, .int .i64 py] 7 7 hp') Try.underlying23 rfl (by kernel_rfl) ?_); exact hK); (case he => first | rfl | (simp [Act.put, *]; done)))
  (apply wpG_p rfl rfl rfl rfl rfl; (intro w' K hK; (first | go_big_op | go_wp2_with fail); exact hK))
  (apply wpG_l rfl rfl rfl rfl rfl; (intro w' K hC hK; (have hp' := rw_below hC.1 hp; refine wp_load_mid 25 _ rfl w.heap.size 14 rfl [.int .i64 x0, .int .i64 x1, .int .i64 x2, .int .i64 x3, .int .i64 x4, .int .i64 x5] _ (range_row [.int .u8 k, .int .i32 a0, .int .i32 a1, .int .i32 a2, .int .i32 a3, .int .i32 a4, .int .i32 a5, .int .u8 l, .int .i32 b0, .int .i32 b1, .int .i32 b2, .int .i32 b3, .int .i32 b4, .int .i32 b5, .int .i64 x0, .int .i64 x1, .int .i64 x2, .int .i64 x3, .int .i64 x4, .int .i64 x5, .int .i64 n0, .int .i64 n1, .int .i64 n2, .int .i64 n3, .int .i64 px, .int .i64 py] 14 6 hp') Try.underlying25 rfl (by kernel_rfl) ?_); exact hK); (case he => first | rfl | (simp [Act.put, *]; done)))
  refine wpG_g (d := 5) rfl rfl rfl rfl (by first | exact ⟨_, 0, rfl⟩ | (exact ⟨_, 0, 0, 0, 0, 0, 0, Lib.hid (by decide), rfl⟩)) (fun w' K hC hK => ?_) (fun v hv => ?_)
  · (have hr' := hC.old; simp at hr'; (first | go_big_op | go_wp2_with fail); (refine Calls.mono (dmatrix_any _ _ _ _ _ _ _ _ sk sa0 sa1 sa2 sa3 sa4 sa5) ?_; rintro e w2 ⟨⟨A, B, C, D, E, F, hm, rfl⟩, hb2⟩; exact hK _ _ ⟨A, B, C, D, E, F, Lib.hid hm, rfl⟩ hb2 trivial))
  obtain ⟨A, B, C, D, E, F, hm1, rfl⟩ := hv
  refine wpG_g (d := 8) rfl rfl rfl rfl (by first | exact ⟨_, 0, rfl⟩ | (exact ⟨_, 0, 0, 0, 0, 0, 0, Lib.hid (by decide), rfl⟩)) (fun w' K hC hK => ?_) (fun v hv => ?_)
  · (have hr' := hC.old; simp at hr'; (first | go_big_op | go_wp2_with fail); (refine Calls.mono (dmatrix_any _ _ _ _ _ _ _ _ sl sb0 sb1 sb2 sb3 sb4 sb5) ?_; rintro e w2 ⟨⟨A, B, C, D, E, F, hm, rfl⟩, hb2⟩; exact hK _ _ ⟨A, B, C, D, E, F, Lib.hid hm, rfl⟩ hb2 trivial))
  obtain ⟨A', B', C', D', E', F', hm2, rfl⟩ := hv
  (apply wpG_p rfl rfl rfl rfl rfl; (intro w' K hK; (first | go_big_op | go_wp2_with fail); exact hK))
  refine wpG_nil (fun w3 hB1 hG hD => ?_)
  clear hG; have hq3 := rw_below hB1 (rw_drew hq); have hB3 := below_then (w := w) (Below.drew hB_wy) (by have := hB_wy.size; simp; omega) hB1; clear hB1 hq hp
  (try clear hD)
  refine wpOrd_e1 rfl rfl (fun K hK => ?_)
  refine wp_store_row 37 _ _ rfl (w.heap.size + 1) _ rfl rfl _ _ hq3 (by kernel_rfl) rfl (by kernel_rfl) ?_; refine hK _ _ trivial ?_; clear hK K
  refine wpOrd_nil ?_
  skip
  go_wp2_with fail
  exact bodyPost_ret (v := _) (results_cell_row Try.results14 _ _ _ _ _ _ _ (by rfl) (by with_reducible repeat (first | assumption | (refine rw_new ?e_; case e_ => first | rfl | (simp; done) | (simp; omega)) | apply rw_self | (apply rw_other; case hn => first | omega | (simp; omega)) | apply rw_alloc | apply rw_drew | apply rw_drewN)) Try.underlying37 rfl (by kernel_rfl)) rfl ⟨⟨_, _, _, _, _, _, _, _, _, _, _, _, hm1.out, hm2.out, rfl⟩, (by with_reducible repeat (first | exact Below.refl _ _ | assumption | ((first | refine Below.alloc ?_ ?b_ _ | refine bw_set ?_ ?b_ | refine Below.setCell ?_ ?b_ _); case b_ => first | omega | (simp; done) | (simp; omega)) | refine Below.drew ?_ | refine below_drewN ?_ _))⟩
end Go.Proofs.Ytpgaibkjokoanaa.T3
