/- MatrixExact: the walk. -/
import Derived.Test.YtpgaibkjokoanaaMxZ
import Derived.WalkKit
import Derived.Lib.Hide
import Derived.Deep.QuietTactic
import Derived.BigQuiet
import Derived.Lib.QuietBelow
import Derived.Deep.RegionHeld3
import Derived.WalkLawsBesides
import Derived.WalkSpells
import Derived.Outline
import Derived.Deep.DeepFit
import Derived.Maps.AppendAt
import Derived.Deep.AppendLies
import Derived.Deep.CutRange
import Derived.OpenShut
import Derived.Maps.RangeWalk
import Derived.Test.YtpgaibkjokoanaaGrow2
namespace Go.Proofs.Ytpgaibkjokoanaa.T3
set_option linter.unusedSimpArgs false
set_option linter.unusedVariables false
open Go.RowKit
set_option maxHeartbeats 40000000
set_option maxRecDepth 100000
theorem cell_as (w : World) (x : Obj) (cs : Array Value) (b o : Nat) (h : b < w.heap.size) : ((w.alloc x).setRow w.heap.size cs).cell? ⟨b, o, none⟩ = w.cell? ⟨b, o, none⟩ := by
  rw [cell_setRow_other _ _ _ _ (by simp; omega)]
  exact World.cell?_alloc_lt _ _ _ h
theorem cell_as_new (w : World) (old : Array Value) (t : TypeId) (cs : Array Value) (o : Nat) : ((w.alloc (.cells old t)).setRow w.heap.size cs).cell? ⟨w.heap.size, o, none⟩ = cs[o]? :=
  cell_setRow_same _ _ _ old cs t (0, 0) (heap_alloc_new w _)
theorem map_ok {A B C D E F x y : Int} (h : mOk A B C D E F) (x1 : -2147483648 ≤ x) (x2 : x ≤ 2147483648) (y1 : -2147483648 ≤ y) (y2 : y ≤ 2147483648) (w : World) :
    Calls Try.prog 21 #[.agg #[.int .i64 A, .int .i64 B, .int .i64 C, .int .i64 D, .int .i64 E, .int .i64 F], .int .i64 x, .int .i64 y] w fun e w' => e = .returned (.tuple #[.agg #[.int .i64 (dvX (A * x + C * y + E * 65536) (B * x + D * y + F * 65536)), .int .i64 (dvY (A * x + C * y + E * 65536) (B * x + D * y + F * 65536))], .int .i64 (dvE (A * x + C * y + E * 65536) (B * x + D * y + F * 65536))]) ∧ Below w.heap.size w w' := by
  have hw : withinB 2147483648 [x, y] = true := by simp [withinB]; omega
  have hv : vldE A B C D E F [x, y] = 0 := by unfold vldE; rw [if_pos h, if_pos hw]
  have := map_any A B C D E F x y w
  rw [apX, apY, apE, if_pos hv, if_pos hv, if_pos hv] at this
  exact this
/-- what the image of a point is asked -/
theorem dv_ask (u v : Int) : (∃ X Y : Int, dvX u v = X ∧ dvY u v = Y ∧ dvE u v = 0 ∧ -8192 ≤ X ∧ X ≤ 8192 ∧ -8192 ≤ Y ∧ Y ≤ 8192 ∧ (2 * X - 1) * 268435456 ≤ 2 * u ∧ 2 * u < (2 * X + 1) * 268435456 ∧ (2 * Y - 1) * 268435456 ≤ 2 * v ∧ 2 * v < (2 * Y + 1) * 268435456) ∨
    (dvX u v = 0 ∧ dvY u v = 0 ∧ dvE u v = 26 ∧ (2199023255552 ≤ u ∨ 2199023255552 ≤ -u ∨ 2199023255552 ≤ v ∨ 2199023255552 ≤ -v)) := by
  have a := r28_near u
  have b := r28_near v
  by_cases h : dvIn u v = true
  · refine .inl ⟨r28 u, r28 v, if_pos h, if_pos h, if_pos h, ?_⟩
    unfold dvIn at h
    simp [withinB] at h
    omega
  · refine .inr ⟨if_neg h, if_neg h, if_neg h, ?_⟩
    unfold dvIn at h
    simp [withinB] at h
    omega
/-- what a product is asked -/
theorem cc_ask {A B C D E F A' B' C' D' E' F' : Int} (h : mOk A B C D E F) (h' : mOk A' B' C' D' E' F') : (∃ v0 v1 v2 v3 v4 v5 : Int, ∀ w : World, Calls Try.prog 23 #[.agg #[.int .i64 A, .int .i64 B, .int .i64 C, .int .i64 D, .int .i64 E, .int .i64 F], .agg #[.int .i64 A', .int .i64 B', .int .i64 C', .int .i64 D', .int .i64 E', .int .i64 F']] w fun e w' => e = .returned (.tuple #[.agg #[.int .i64 v0, .int .i64 v1, .int .i64 v2, .int .i64 v3, .int .i64 v4, .int .i64 v5], .int .i64 26]) ∧ Below w.heap.size w w') ∨
    (∃ q0 q1 q2 q3 q4 q5 : Int, (2 * q0 - 1) * 65536 ≤ 2 * (A * A' + B * C') ∧ 2 * (A * A' + B * C') < (2 * q0 + 1) * 65536 ∧ (2 * q1 - 1) * 65536 ≤ 2 * (A * B' + B * D') ∧ 2 * (A * B' + B * D') < (2 * q1 + 1) * 65536 ∧ (2 * q2 - 1) * 65536 ≤ 2 * (C * A' + D * C') ∧ 2 * (C * A' + D * C') < (2 * q2 + 1) * 65536 ∧ (2 * q3 - 1) * 65536 ≤ 2 * (C * B' + D * D') ∧ 2 * (C * B' + D * D') < (2 * q3 + 1) * 65536 ∧ (2 * q4 - 1) * 65536 ≤ 2 * (E * A' + F * C') ∧ 2 * (E * A' + F * C') < (2 * q4 + 1) * 65536 ∧ (2 * q5 - 1) * 65536 ≤ 2 * (E * B' + F * D') ∧ 2 * (E * B' + F * D') < (2 * q5 + 1) * 65536 ∧ ∀ w : World, Calls Try.prog 23 #[.agg #[.int .i64 A, .int .i64 B, .int .i64 C, .int .i64 D, .int .i64 E, .int .i64 F], .agg #[.int .i64 A', .int .i64 B', .int .i64 C', .int .i64 D', .int .i64 E', .int .i64 F']] w fun e w' => e = .returned (.tuple #[.agg #[.int .i64 q0, .int .i64 q1, .int .i64 q2, .int .i64 q3, .int .i64 (q4 + E'), .int .i64 (q5 + F')], .int .i64 0]) ∧ Below w.heap.size w w') := by
  have e := ccB_t h h'
  have hc := fun w => mcc_any A B C D E F A' B' C' D' E' F' w
  rw [e.1, e.2] at hc
  have n0 := r16_near (A * A' + B * C')
  have n1 := r16_near (A * B' + B * D')
  have n2 := r16_near (C * A' + D * C')
  have n3 := r16_near (C * B' + D * D')
  have n4 := r16_near (E * A' + F * C')
  have n5 := r16_near (E * B' + F * D')
  obtain ⟨q0, hq0⟩ : ∃ q, r16 (A * A' + B * C') = q := ⟨_, rfl⟩
  obtain ⟨q1, hq1⟩ : ∃ q, r16 (A * B' + B * D') = q := ⟨_, rfl⟩
  obtain ⟨q2, hq2⟩ : ∃ q, r16 (C * A' + D * C') = q := ⟨_, rfl⟩
  obtain ⟨q3, hq3⟩ : ∃ q, r16 (C * B' + D * D') = q := ⟨_, rfl⟩
  obtain ⟨q4, hq4⟩ : ∃ q, r16 (E * A' + F * C') = q := ⟨_, rfl⟩
  obtain ⟨q5, hq5⟩ : ∃ q, r16 (E * B' + F * D') = q := ⟨_, rfl⟩
  rw [hq0, hq1, hq2, hq3, hq4, hq5] at hc
  rw [hq0] at n0
  rw [hq1] at n1
  rw [hq2] at n2
  rw [hq3] at n3
  rw [hq4] at n4
  rw [hq5] at n5
  by_cases hm : mOkB q0 q1 q2 q3 (q4 + E') (q5 + F') = true
  · rw [hm] at hc
    exact .inr ⟨q0, q1, q2, q3, q4, q5, n0.1, n0.2, n1.1, n1.2, n2.1, n2.2, n3.1, n3.2, n4.1, n4.2, n5.1, n5.2, hc⟩
  · rw [show mOkB q0 q1 q2 q3 (q4 + E') (q5 + F') = false by simpa using hm] at hc
    exact .inl ⟨0, 0, 0, 0, 0, 0, hc⟩
theorem exact_walk (k a0 a1 a2 a3 a4 a5 l b0 b1 b2 b3 b4 b5 x0 x1 x2 x3 x4 x5 n0 n1 n2 n3 px py : Int) (w : World) (s_k : (Lit.int .u8 k).wf = true) (s_a0 : (Lit.int .i32 a0).wf = true) (s_a1 : (Lit.int .i32 a1).wf = true) (s_a2 : (Lit.int .i32 a2).wf = true) (s_a3 : (Lit.int .i32 a3).wf = true) (s_a4 : (Lit.int .i32 a4).wf = true) (s_a5 : (Lit.int .i32 a5).wf = true) (s_l : (Lit.int .u8 l).wf = true) (s_b0 : (Lit.int .i32 b0).wf = true) (s_b1 : (Lit.int .i32 b1).wf = true) (s_b2 : (Lit.int .i32 b2).wf = true) (s_b3 : (Lit.int .i32 b3).wf = true) (s_b4 : (Lit.int .i32 b4).wf = true) (s_b5 : (Lit.int .i32 b5).wf = true) (s_x0 : (Lit.int .i64 x0).wf = true) (s_x1 : (Lit.int .i64 x1).wf = true) (s_x2 : (Lit.int .i64 x2).wf = true) (s_x3 : (Lit.int .i64 x3).wf = true) (s_x4 : (Lit.int .i64 x4).wf = true) (s_x5 : (Lit.int .i64 x5).wf = true) (s_n0 : (Lit.int .i64 n0).wf = true) (s_n1 : (Lit.int .i64 n1).wf = true) (s_n2 : (Lit.int .i64 n2).wf = true) (s_n3 : (Lit.int .i64 n3).wf = true) (s_px : (Lit.int .i64 px).wf = true) (s_py : (Lit.int .i64 py).wf = true) :
    Calls Try.prog 4 #[.agg #[.int .u8 k, .int .i32 a0, .int .i32 a1, .int .i32 a2, .int .i32 a3, .int .i32 a4, .int .i32 a5, .int .u8 l, .int .i32 b0, .int .i32 b1, .int .i32 b2, .int .i32 b3, .int .i32 b4, .int .i32 b5, .int .i64 x0, .int .i64 x1, .int .i64 x2, .int .i64 x3, .int .i64 x4, .int .i64 x5, .int .i64 n0, .int .i64 n1, .int .i64 n2, .int .i64 n3, .int .i64 px, .int .i64 py]] w fun e w' => e = .returned (.bool true) ∧ Below w.heap.size w w' := by
  go_enter Try.func4, Try.ntmps4
  go_wp2_with ((with_reducible refine rw_list ?_); (first | ((with_reducible apply wpList_load_cell); (case ho => with_reducible rfl); (case hgd => with_reducible rfl); (case hx => rfl); (case hu => first | exact Try.underlying30 | exact Try.underlying25 | exact Try.underlying28 | exact Try.underlying31 | exact Try.underlying3); (case hd => rfl)) | ((with_reducible apply wpList_load_row); (case ho => with_reducible rfl); (case hgd => with_reducible rfl); (case hx => rfl); (case hu => first | exact Try.underlying30 | exact Try.underlying25 | exact Try.underlying28 | exact Try.underlying31 | exact Try.underlying3); (case hd => rfl)) | ((with_reducible apply wpList_store_row); (case ho => with_reducible rfl); (case hgd => with_reducible rfl); (case hx => rfl); (case hy => rfl)) | ((with_reducible apply wpList_store_cell); (case ho => with_reducible rfl); (case hgd => with_reducible rfl); (case hx => rfl); (case hy => first | exact ev_const | exact ev_tmp rfl); (case h1 => rfl))); (case hg => exact (by with_reducible repeat (first | assumption | (refine rw_new ?e_; case e_ => first | rfl | (simp; done) | (simp; omega)) | apply rw_self | (apply rw_other; case hn => first | omega | (simp; omega)) | apply rw_alloc | apply rw_drew | apply rw_drewN))); (try case hv => rfl); (try case hi => kernel_rfl); (try case hold => rfl); (try case h1 => kernel_rfl); (try case hlt => rfl); (try case hcs => ((try simp only [List.setIfInBounds_toArray, List.set_cons_succ, List.set_cons_zero]); rfl)))
  refine (works_any _).mono ?_
  rintro e w1 ⟨rfl, hb⟩
  have hs_w1 := hb.size
  (try simp at hs_w1)
  have hB_w1 : Below w.heap.size w w1 := below_then (w := w) (by with_reducible repeat (first | exact Below.refl _ _ | assumption | ((first | refine Below.alloc ?_ ?b_ _ | refine bw_set ?_ ?b_ | refine Below.setCell ?_ ?b_ _); case b_ => first | omega | (simp; done) | (simp; omega)) | refine Below.drew ?_ | refine below_drewN ?_ _)) (by first | omega | (simp; done) | (simp; omega) | (have hq_ := hb.size; omega)) hb
  have hx_ := rw_below (k := w.heap.size) hb (by with_reducible repeat (first | assumption | (refine rw_new ?e_; case e_ => first | rfl | (simp; done) | (simp; omega)) | apply rw_self | (apply rw_other; case hn => first | omega | (simp; omega)) | apply rw_alloc | apply rw_drew | apply rw_drewN))
  (try clear hp)
  have hp := hx_
  clear hx_
  clear hb
  go_wp2_with ((with_reducible refine rw_list ?_); (first | ((with_reducible apply wpList_load_cell); (case ho => with_reducible rfl); (case hgd => with_reducible rfl); (case hx => rfl); (case hu => first | exact Try.underlying30 | exact Try.underlying25 | exact Try.underlying28 | exact Try.underlying31 | exact Try.underlying3); (case hd => rfl)) | ((with_reducible apply wpList_load_row); (case ho => with_reducible rfl); (case hgd => with_reducible rfl); (case hx => rfl); (case hu => first | exact Try.underlying30 | exact Try.underlying25 | exact Try.underlying28 | exact Try.underlying31 | exact Try.underlying3); (case hd => rfl)) | ((with_reducible apply wpList_store_row); (case ho => with_reducible rfl); (case hgd => with_reducible rfl); (case hx => rfl); (case hy => rfl)) | ((with_reducible apply wpList_store_cell); (case ho => with_reducible rfl); (case hgd => with_reducible rfl); (case hx => rfl); (case hy => first | exact ev_const | exact ev_tmp rfl); (case h1 => rfl))); (case hg => exact (by with_reducible repeat (first | assumption | (refine rw_new ?e_; case e_ => first | rfl | (simp; done) | (simp; omega)) | apply rw_self | (apply rw_other; case hn => first | omega | (simp; omega)) | apply rw_alloc | apply rw_drew | apply rw_drewN))); (try case hv => rfl); (try case hi => kernel_rfl); (try case hold => rfl); (try case h1 => kernel_rfl); (try case hlt => rfl); (try case hcs => ((try simp only [List.setIfInBounds_toArray, List.set_cons_succ, List.set_cons_zero]); rfl)))
  have hlp := rw_lt hp
  refine wp_region_grow [(0, none), (1, none), (3, none), (4, none), (2, some (.val MatV)), (5, some (.val MatV)), (6, some (.blk (fun b => .pointer (some ⟨b, 0, none⟩)) (.cells #[.int .i64 0, .int .i64 0, .int .i64 0, .int .i64 0, .int .i64 0, .int .i64 0] 25))), (7, some (.blk (fun b => .pointer (some ⟨b, 0, none⟩)) (.cells #[.int .i64 0, .int .i64 0, .int .i64 0, .int .i64 0, .int .i64 0, .int .i64 0] 25)))] (.s 8 .e (.s 9 .e .done)) ?g1_ ?g2_ ?g3_ ?_
  case g1_ => kernel_rfl
  case g2_ => kernel_rfl
  case g3_ => exact fun _ _ _ _ _ h => h
  (apply wpG_p rfl rfl rfl rfl rfl; (intro w' K hK; (first | go_big_op | go_wp2_with fail); exact hK))
  (apply wpG_l rfl rfl rfl rfl rfl; (intro w' K hC hK; (refine wp_load_mid 23 _ rfl w.heap.size 0 rfl [.int .u8 k, .int .i32 a0, .int .i32 a1, .int .i32 a2, .int .i32 a3, .int .i32 a4, .int .i32 a5] _ (range_row [.int .u8 k, .int .i32 a0, .int .i32 a1, .int .i32 a2, .int .i32 a3, .int .i32 a4, .int .i32 a5, .int .u8 l, .int .i32 b0, .int .i32 b1, .int .i32 b2, .int .i32 b3, .int .i32 b4, .int .i32 b5, .int .i64 x0, .int .i64 x1, .int .i64 x2, .int .i64 x3, .int .i64 x4, .int .i64 x5, .int .i64 n0, .int .i64 n1, .int .i64 n2, .int .i64 n3, .int .i64 px, .int .i64 py] 0 7 (rw_below hC.1 hp)) Try.underlying23 rfl (by kernel_rfl) ?_); change K (Act.put _ (some 16) _) _; simp only [Act.put, List.setIfInBounds_toArray, List.set_cons_succ, List.set_cons_zero]; exact hK); (case he => first | rfl | (simp [Act.put, *]; done)))
  (apply wpG_p rfl rfl rfl rfl rfl; (intro w' K hK; (first | go_big_op | go_wp2_with fail); exact hK))
  (apply wpG_l rfl rfl rfl rfl rfl; (intro w' K hC hK; (refine wp_load_mid 23 _ rfl w.heap.size 7 rfl [.int .u8 l, .int .i32 b0, .int .i32 b1, .int .i32 b2, .int .i32 b3, .int .i32 b4, .int .i32 b5] _ (range_row [.int .u8 k, .int .i32 a0, .int .i32 a1, .int .i32 a2, .int .i32 a3, .int .i32 a4, .int .i32 a5, .int .u8 l, .int .i32 b0, .int .i32 b1, .int .i32 b2, .int .i32 b3, .int .i32 b4, .int .i32 b5, .int .i64 x0, .int .i64 x1, .int .i64 x2, .int .i64 x3, .int .i64 x4, .int .i64 x5, .int .i64 n0, .int .i64 n1, .int .i64 n2, .int .i64 n3, .int .i64 px, .int .i64 py] 7 7 (rw_below hC.1 hp)) Try.underlying23 rfl (by kernel_rfl) ?_); change K (Act.put _ (some 19) _) _; simp only [Act.put, List.setIfInBounds_toArray, List.set_cons_succ, List.set_cons_zero]; exact hK); (case he => first | rfl | (simp [Act.put, *]; done)))
  refine wpG_g2 (d := 17) rfl rfl rfl rfl (by first | exact ⟨_, 0, rfl⟩ | (exact ⟨_, 0, 0, 0, 0, 0, 0, Lib.hid (by decide), rfl⟩)) (fun v => by simp only [Act.put, List.setIfInBounds_toArray, List.set_cons_succ, List.set_cons_zero]; rfl) (fun w' K hC hK => ?_) (fun v hv => ?_)
  · (have hr' := hC.old; simp at hr'; (first | go_big_op | go_wp2_with fail); (refine Calls.mono (dmatrix_any _ _ _ _ _ _ _ _ (bounds_u8 s_k) (bounds_i32 s_a0) (bounds_i32 s_a1) (bounds_i32 s_a2) (bounds_i32 s_a3) (bounds_i32 s_a4) (bounds_i32 s_a5)) ?_; rintro e w2_ ⟨⟨A, B, C, D, E, F, hm, rfl⟩, hb2_⟩; exact hK _ _ ⟨A, B, C, D, E, F, Lib.hid hm, rfl⟩ hb2_ trivial))
  obtain ⟨A, B, C, D, E, F, H, rfl⟩ := hv
  refine wpG_g2 (d := 20) rfl rfl rfl rfl (by first | exact ⟨_, 0, rfl⟩ | (exact ⟨_, 0, 0, 0, 0, 0, 0, Lib.hid (by decide), rfl⟩)) (fun v => by simp only [Act.put, List.setIfInBounds_toArray, List.set_cons_succ, List.set_cons_zero]; rfl) (fun w' K hC hK => ?_) (fun v hv => ?_)
  · (have hr' := hC.old; simp at hr'; (first | go_big_op | go_wp2_with fail); (refine Calls.mono (dmatrix_any _ _ _ _ _ _ _ _ (bounds_u8 s_l) (bounds_i32 s_b0) (bounds_i32 s_b1) (bounds_i32 s_b2) (bounds_i32 s_b3) (bounds_i32 s_b4) (bounds_i32 s_b5)) ?_; rintro e w2_ ⟨⟨A, B, C, D, E, F, hm, rfl⟩, hb2_⟩; exact hK _ _ ⟨A, B, C, D, E, F, Lib.hid hm, rfl⟩ hb2_ trivial))
  obtain ⟨A', B', C', D', E', F', H', rfl⟩ := hv
  refine wpG_g2 (d := 3) rfl rfl rfl rfl (by first | exact ⟨_, 0, rfl⟩ | (fail)) (fun v => by simp only [Act.put, List.setIfInBounds_toArray, List.set_cons_succ, List.set_cons_zero]; rfl) (fun w' K hC hK => ?_) (fun v hv => ?_)
  · (have hr' := hC.old; simp at hr'; (first | go_big_op | go_wp2_with fail); (exact hK _ _ ⟨_, rfl⟩ (Below.alloc (Below.refl _ _) (Nat.le_refl _) _) ⟨_, rfl, Nat.le_refl _, by simp, heap_alloc_new _ _⟩))
  obtain ⟨b6, rfl⟩ := hv
  refine wpG_g2 (d := 4) rfl rfl rfl rfl (by first | exact ⟨_, 0, rfl⟩ | (fail)) (fun v => by simp only [Act.put, List.setIfInBounds_toArray, List.set_cons_succ, List.set_cons_zero]; rfl) (fun w' K hC hK => ?_) (fun v hv => ?_)
  · (have hr' := hC.old; simp at hr'; (first | go_big_op | go_wp2_with fail); (exact hK _ _ ⟨_, rfl⟩ (Below.alloc (Below.refl _ _) (Nat.le_refl _) _) ⟨_, rfl, Nat.le_refl _, by simp, heap_alloc_new _ _⟩))
  obtain ⟨b7, rfl⟩ := hv
  refine wpG_nil (fun w2 hB1 hG hD => ?_)
  obtain ⟨y1, y2, e1, e2, l1, l2, nb, g6, g7⟩ := hD _ (List.mem_of_find?_eq_some (p := fun p => p.1 == 6) rfl) _ (List.mem_of_find?_eq_some (p := fun p => p.1 == 7) rfl) (by simp) _ _ _ _ rfl rfl; cases e1; cases e2; clear hG hD
  (try clear hD)
  refine wpOrd_e1 rfl rfl (fun K hK => ?_)
  refine wp_store_row 25 _ _ rfl b6 _ rfl rfl _ _ g6 (by kernel_rfl) rfl (by kernel_rfl) ?_; refine hK _ _ trivial ?_; clear hK K
  refine wpOrd_e1 rfl rfl (fun K hK => ?_)
  refine wp_store_row 25 _ _ rfl b7 _ rfl rfl _ _ (rw_other nb.symm g7) (by kernel_rfl) rfl (by kernel_rfl) ?_; refine hK _ _ trivial ?_; clear hK K
  refine wpOrd_nil ?_
  skip
  have hB2 := below_then (w := w) (Below.drew hB_w1) (by have := hB_w1.size; simp; omega) hB1
  have hs2 := hB1.size
  (try simp at hs2)
  have hp2 := rw_below hB1 (rw_drew hp)
  (try simp at l1)
  (try simp at l2)
  clear hB1 hp
  generalize hwy_ : World.setRow _ _ _ = wy
  have hB_wy : Below w.heap.size w wy := bw_eq hwy_ (by with_reducible repeat (first | exact Below.refl _ _ | assumption | ((first | refine Below.alloc ?_ ?b_ _ | refine bw_set ?_ ?b_ | refine Below.setCell ?_ ?b_ _); case b_ => first | omega | (simp; done) | (simp; omega)) | refine Below.drew ?_ | refine below_drewN ?_ _))
  have hx_ := rw_eq (k := w.heap.size) hwy_ (by with_reducible repeat (first | assumption | (refine rw_new ?e_; case e_ => first | rfl | (simp; done) | (simp; omega)) | apply rw_self | (apply rw_other; case hn => first | omega | (simp; omega)) | apply rw_alloc | apply rw_drew | apply rw_drewN))
  (try clear hp2)
  have hp2 := hx_
  clear hx_
  have hl_hp2 := rw_lt hp2
  have hx_ := rw_eq (k := b6) hwy_ (by with_reducible repeat (first | assumption | (refine rw_new ?e_; case e_ => first | rfl | (simp; done) | (simp; omega)) | apply rw_self | (apply rw_other; case hn => first | omega | (simp; omega)) | apply rw_alloc | apply rw_drew | apply rw_drewN))
  (try clear ha)
  have ha := hx_
  clear hx_
  have hl_ha := rw_lt ha
  have hx_ := rw_eq (k := b7) hwy_ (by with_reducible repeat (first | assumption | (refine rw_new ?e_; case e_ => first | rfl | (simp; done) | (simp; omega)) | apply rw_self | (apply rw_other; case hn => first | omega | (simp; omega)) | apply rw_alloc | apply rw_drew | apply rw_drewN))
  (try clear hb2)
  have hb2 := hx_
  clear hx_
  have hl_hb2 := rw_lt hb2
  clear hwy_
  clear g6 g7 hB2
  (try go_frame)
  go_wp2_with fail
  (try go_frame)
  refine wp_region_grow [(0, none), (1, none), (2, none), (3, none), (4, none), (5, none), (6, none), (7, none), (8, none), (9, none)] .done ?g1_ ?g2_ ?g3_ ?_
  case g1_ => kernel_rfl
  case g2_ => kernel_rfl
  case g3_ => exact fun _ _ _ _ _ h => h
  (apply wpG_p rfl rfl rfl rfl rfl; (intro w' K hK; (first | go_big_op | go_wp2_with fail); exact hK))
  (apply wpG_p rfl rfl rfl rfl rfl; (intro w' K hK; (first | go_big_op | go_wp2_with fail); exact hK))
  (apply wpG_l rfl rfl rfl rfl rfl; (intro w' K hC hK; (refine wp_load_cell 3 _ rfl (w.heap.size) 20 rfl _ _ _ _ _ (rw_below hC.1 hp2) Try.underlying3 rfl rfl ?_); change K (Act.put _ (some 23) _) _; simp only [Act.put, List.setIfInBounds_toArray, List.set_cons_succ, List.set_cons_zero]; exact hK); (case he => first | rfl | (simp [Act.put, *]; done)))
  (apply wpG_p rfl rfl rfl rfl rfl; (intro w' K hK; (first | go_big_op | go_wp2_with fail); exact hK))
  (apply wpG_p rfl rfl rfl rfl rfl; (intro w' K hK; (first | go_big_op | go_wp2_with fail); exact hK))
  (apply wpG_p rfl rfl rfl rfl rfl; (intro w' K hK; (first | go_big_op | go_wp2_with fail); exact hK))
  (apply wpG_l rfl rfl rfl rfl rfl; (intro w' K hC hK; (refine wp_load_cell 3 _ rfl (w.heap.size) 21 rfl _ _ _ _ _ (rw_below hC.1 hp2) Try.underlying3 rfl rfl ?_); change K (Act.put _ (some 27) _) _; simp only [Act.put, List.setIfInBounds_toArray, List.set_cons_succ, List.set_cons_zero]; exact hK); (case he => first | rfl | (simp [Act.put, *]; done)))
  (apply wpG_p rfl rfl rfl rfl rfl; (intro w' K hK; (first | go_big_op | go_wp2_with fail); exact hK))
  (apply wpG_p rfl rfl rfl rfl rfl; (intro w' K hK; (first | go_big_op | go_wp2_with fail); exact hK))
  (apply wpG_p rfl rfl rfl rfl rfl; (intro w' K hK; (first | go_big_op | go_wp2_with fail); exact hK))
  refine wpG_nil (fun w3 hB1 hG hD => ?_)
  clear hG
  (try clear hD)
  refine wpOrd_nil ?_
  have hb := hB1
  clear hB1
  have hs_w3 := hb.size
  (try simp at hs_w3)
  have hB_w3 : Below w.heap.size w w3 := below_then (w := w) (by with_reducible repeat (first | exact Below.refl _ _ | assumption | ((first | refine Below.alloc ?_ ?b_ _ | refine bw_set ?_ ?b_ | refine Below.setCell ?_ ?b_ _); case b_ => first | omega | (simp; done) | (simp; omega)) | refine Below.drew ?_ | refine below_drewN ?_ _)) (by first | omega | (simp; done) | (simp; omega) | (have hq_ := hb.size; omega)) hb
  have hx_ := rw_below (k := b6) hb (by with_reducible repeat (first | assumption | (refine rw_new ?e_; case e_ => first | rfl | (simp; done) | (simp; omega)) | apply rw_self | (apply rw_other; case hn => first | omega | (simp; omega)) | apply rw_alloc | apply rw_drew | apply rw_drewN))
  (try clear ha)
  have ha := hx_
  clear hx_
  have hx_ := rw_below (k := b7) hb (by with_reducible repeat (first | assumption | (refine rw_new ?e_; case e_ => first | rfl | (simp; done) | (simp; omega)) | apply rw_self | (apply rw_other; case hn => first | omega | (simp; omega)) | apply rw_alloc | apply rw_drew | apply rw_drewN))
  (try clear hb2)
  have hb2 := hx_
  clear hx_
  clear hb
  obtain ⟨x, hx⟩ : ∃ x, n0.tmod 2147483649 = x := ⟨_, rfl⟩
  obtain ⟨y, hy⟩ : ∃ y, n1.tmod 2147483649 = y := ⟨_, rfl⟩
  obtain ⟨x1, x2⟩ : -2147483648 ≤ x ∧ x ≤ 2147483648 := by
    have p1 := Int.lt_tmod_of_pos n0 (show (0 : Int) < 2147483649 by omega)
    have p2 := Int.tmod_lt_of_pos n0 (show (0 : Int) < 2147483649 by omega)
    omega
  obtain ⟨y1, y2⟩ : -2147483648 ≤ y ∧ y ≤ 2147483648 := by
    have p1 := Int.lt_tmod_of_pos n1 (show (0 : Int) < 2147483649 by omega)
    have p2 := Int.tmod_lt_of_pos n1 (show (0 : Int) < 2147483649 by omega)
    omega
  go_wp2_with fail
  rw [hx, hy]
  clear hx hy
  obtain ⟨⟨A1, A2⟩, ⟨B1, B2⟩, ⟨C1, C2⟩, ⟨D1, D2⟩, ⟨E1, E2⟩, F1, F2⟩ := H.out
  obtain ⟨⟨A1', A2'⟩, ⟨B1', B2'⟩, ⟨C1', C2'⟩, ⟨D1', D2'⟩, ⟨E1', E2'⟩, F1', F2'⟩ := H'.out
  obtain ⟨g0, h0⟩ := mul_bd A1 A2 x1 x2
  obtain ⟨g1, h1⟩ := mul_bd C1 C2 y1 y2
  obtain ⟨g2, h2⟩ := mul_bd B1 B2 x1 x2
  obtain ⟨g3, h3⟩ := mul_bd D1 D2 y1 y2
  simp only [Int.reduceMul, Int.reduceNeg] at g0 h0 g1 h1 g2 h2 g3 h3
  (try go_frame)
  refine wp_region_grow [(0, none), (1, none), (2, none), (3, none), (4, none), (5, none), (6, none), (7, none), (8, none), (9, none), (10, none), (11, none), (12, none), (13, none), (14, none), (15, none), (16, none), (17, none), (18, none), (19, none), (20, none), (21, none), (22, none), (23, none), (24, none), (25, none), (26, none), (27, none)] .done ?g1_ ?g2_ ?g3_ ?_
  case g1_ => kernel_rfl
  case g2_ => kernel_rfl
  case g3_ => exact fun _ _ _ _ _ h => h
  (apply wpG_p rfl rfl rfl rfl rfl; (intro w' K hK; (first | go_big_op | go_wp2_with fail); exact hK))
  (apply wpG_l rfl rfl rfl rfl rfl; (intro w' K hC hK; (refine wp_load_cell 3 _ rfl (b6) 0 rfl _ _ _ _ _ (rw_below hC.1 ha) Try.underlying3 rfl rfl ?_); change K (Act.put _ (some 30) _) _; simp only [Act.put, List.setIfInBounds_toArray, List.set_cons_succ, List.set_cons_zero]; exact hK); (case he => first | rfl | (simp [Act.put, *]; done)))
  (apply wpG_p rfl rfl rfl rfl rfl; (intro w' K hK; (first | go_big_op | go_wp2_with fail); exact hK))
  (apply wpG_p rfl rfl rfl rfl rfl; (intro w' K hK; (first | go_big_op | go_wp2_with fail); exact hK))
  (apply wpG_p rfl rfl rfl rfl rfl; (intro w' K hK; (first | go_big_op | go_wp2_with fail); exact hK))
  (apply wpG_l rfl rfl rfl rfl rfl; (intro w' K hC hK; (refine wp_load_cell 3 _ rfl (b6) 2 rfl _ _ _ _ _ (rw_below hC.1 ha) Try.underlying3 rfl rfl ?_); change K (Act.put _ (some 34) _) _; simp only [Act.put, List.setIfInBounds_toArray, List.set_cons_succ, List.set_cons_zero]; exact hK); (case he => first | rfl | (simp [Act.put, *]; done)))
  (apply wpG_p rfl rfl rfl rfl rfl; (intro w' K hK; (first | go_big_op | go_wp2_with fail); exact hK))
  (apply wpG_p rfl rfl rfl rfl rfl; (intro w' K hK; (first | go_big_op | go_wp2_with fail); exact hK))
  (apply wpG_p rfl rfl rfl rfl rfl; (intro w' K hK; (first | go_big_op | go_wp2_with fail); exact hK))
  (apply wpG_p rfl rfl rfl rfl rfl; (intro w' K hK; (first | go_big_op | go_wp2_with fail); exact hK))
  (apply wpG_l rfl rfl rfl rfl rfl; (intro w' K hC hK; (refine wp_load_cell 3 _ rfl (b6) 4 rfl _ _ _ _ _ (rw_below hC.1 ha) Try.underlying3 rfl rfl ?_); change K (Act.put _ (some 39) _) _; simp only [Act.put, List.setIfInBounds_toArray, List.set_cons_succ, List.set_cons_zero]; exact hK); (case he => first | rfl | (simp [Act.put, *]; done)))
  (apply wpG_p rfl rfl rfl rfl rfl; (intro w' K hK; (first | go_big_op | go_wp2_with fail); exact hK))
  (apply wpG_p rfl rfl rfl rfl rfl; (intro w' K hK; (first | go_big_op | go_wp2_with fail); exact hK))
  (apply wpG_p rfl rfl rfl rfl rfl; (intro w' K hK; (first | go_big_op | go_wp2_with fail); exact hK))
  (apply wpG_l rfl rfl rfl rfl rfl; (intro w' K hC hK; (refine wp_load_cell 3 _ rfl (b6) 1 rfl _ _ _ _ _ (rw_below hC.1 ha) Try.underlying3 rfl rfl ?_); change K (Act.put _ (some 43) _) _; simp only [Act.put, List.setIfInBounds_toArray, List.set_cons_succ, List.set_cons_zero]; exact hK); (case he => first | rfl | (simp [Act.put, *]; done)))
  (apply wpG_p rfl rfl rfl rfl rfl; (intro w' K hK; (first | go_big_op | go_wp2_with fail); exact hK))
  (apply wpG_p rfl rfl rfl rfl rfl; (intro w' K hK; (first | go_big_op | go_wp2_with fail); exact hK))
  (apply wpG_p rfl rfl rfl rfl rfl; (intro w' K hK; (first | go_big_op | go_wp2_with fail); exact hK))
  (apply wpG_l rfl rfl rfl rfl rfl; (intro w' K hC hK; (refine wp_load_cell 3 _ rfl (b6) 3 rfl _ _ _ _ _ (rw_below hC.1 ha) Try.underlying3 rfl rfl ?_); change K (Act.put _ (some 47) _) _; simp only [Act.put, List.setIfInBounds_toArray, List.set_cons_succ, List.set_cons_zero]; exact hK); (case he => first | rfl | (simp [Act.put, *]; done)))
  (apply wpG_p rfl rfl rfl rfl rfl; (intro w' K hK; (first | go_big_op | go_wp2_with fail); exact hK))
  (apply wpG_p rfl rfl rfl rfl rfl; (intro w' K hK; (first | go_big_op | go_wp2_with fail); exact hK))
  (apply wpG_p rfl rfl rfl rfl rfl; (intro w' K hK; (first | go_big_op | go_wp2_with fail); exact hK))
  (apply wpG_p rfl rfl rfl rfl rfl; (intro w' K hK; (first | go_big_op | go_wp2_with fail); exact hK))
  (apply wpG_l rfl rfl rfl rfl rfl; (intro w' K hC hK; (refine wp_load_cell 3 _ rfl (b6) 5 rfl _ _ _ _ _ (rw_below hC.1 ha) Try.underlying3 rfl rfl ?_); change K (Act.put _ (some 52) _) _; simp only [Act.put, List.setIfInBounds_toArray, List.set_cons_succ, List.set_cons_zero]; exact hK); (case he => first | rfl | (simp [Act.put, *]; done)))
  (apply wpG_p rfl rfl rfl rfl rfl; (intro w' K hK; (first | go_big_op | go_wp2_with fail); exact hK))
  (apply wpG_p rfl rfl rfl rfl rfl; (intro w' K hK; (first | go_big_op | go_wp2_with fail); exact hK))
  (apply wpG_p rfl rfl rfl rfl rfl; (intro w' K hK; (first | go_big_op | go_wp2_with fail); exact hK))
  (apply wpG_p rfl rfl rfl rfl rfl; (intro w' K hK; (first | go_big_op | go_wp2_with fail); exact hK))
  refine wpG_nil (fun w4 hB1 hG hD => ?_)
  clear hG
  (try clear hD)
  refine wpOrd_nil ?_
  have hb := hB1
  clear hB1
  have hs_w4 := hb.size
  (try simp at hs_w4)
  have hB_w4 : Below w.heap.size w w4 := below_then (w := w) (by with_reducible repeat (first | exact Below.refl _ _ | assumption | ((first | refine Below.alloc ?_ ?b_ _ | refine bw_set ?_ ?b_ | refine Below.setCell ?_ ?b_ _); case b_ => first | omega | (simp; done) | (simp; omega)) | refine Below.drew ?_ | refine below_drewN ?_ _)) (by first | omega | (simp; done) | (simp; omega) | (have hq_ := hb.size; omega)) hb
  have hx_ := rw_below (k := b6) hb (by with_reducible repeat (first | assumption | (refine rw_new ?e_; case e_ => first | rfl | (simp; done) | (simp; omega)) | apply rw_self | (apply rw_other; case hn => first | omega | (simp; omega)) | apply rw_alloc | apply rw_drew | apply rw_drewN))
  (try clear ha)
  (try clear hac0 hac1 hac2 hac3 hac4 hac5)
  have ha := hx_
  clear hx_
  obtain ⟨hac0, hac1, hac2, hac3, hac4, hac5⟩ := cel6 ha
  have hx_ := rw_below (k := b7) hb (by with_reducible repeat (first | assumption | (refine rw_new ?e_; case e_ => first | rfl | (simp; done) | (simp; omega)) | apply rw_self | (apply rw_other; case hn => first | omega | (simp; omega)) | apply rw_alloc | apply rw_drew | apply rw_drewN))
  (try clear hb2)
  (try clear hb2c0 hb2c1 hb2c2 hb2c3 hb2c4 hb2c5)
  have hb2 := hx_
  clear hx_
  obtain ⟨hb2c0, hb2c1, hb2c2, hb2c3, hb2c4, hb2c5⟩ := cel6 hb2
  clear hb
  go_wp2_with fail
  obtain ⟨u, hu⟩ : ∃ u, A * x + C * y + E * 65536 = u := ⟨_, rfl⟩
  obtain ⟨v, hv⟩ : ∃ v, B * x + D * y + F * 65536 = v := ⟨_, rfl⟩
  have u1 : -1152921504606846976 ≤ u := by omega
  have u2 : u ≤ 1152921504606846976 := by omega
  have v1 : -1152921504606846976 ≤ v := by omega
  have v2 : v ≤ 1152921504606846976 := by omega
  have hmap := fun w => map_ok H.out x1 x2 y1 y2 w
  rw [hu, hv] at hmap
  rw [hu, hv]
  clear hu hv g0 h0 g1 h1 g2 h2 g3 h3
  obtain ⟨g0, h0⟩ := mul_bd A1 A2 A1' A2'
  obtain ⟨g1, h1⟩ := mul_bd B1 B2 C1' C2'
  obtain ⟨g2, h2⟩ := mul_bd A1 A2 B1' B2'
  obtain ⟨g3, h3⟩ := mul_bd B1 B2 D1' D2'
  obtain ⟨g4, h4⟩ := mul_bd C1 C2 A1' A2'
  obtain ⟨g5, h5⟩ := mul_bd D1 D2 C1' C2'
  obtain ⟨g6, h6⟩ := mul_bd C1 C2 B1' B2'
  obtain ⟨g7, h7⟩ := mul_bd D1 D2 D1' D2'
  obtain ⟨g8, h8⟩ := mul_bd E1 E2 A1' A2'
  obtain ⟨g9, h9⟩ := mul_bd F1 F2 C1' C2'
  obtain ⟨g10, h10⟩ := mul_bd E1 E2 B1' B2'
  obtain ⟨g11, h11⟩ := mul_bd F1 F2 D1' D2'
  simp only [Int.reduceMul, Int.reduceNeg] at g0 h0 g1 h1 g2 h2 g3 h3 g4 h4 g5 h5 g6 h6 g7 h7 g8 h8 g9 h9 g10 h10 g11 h11
  go_wp2_with ((with_reducible refine rw_list ?_); (first | ((with_reducible apply wpList_load_cell); (case ho => with_reducible rfl); (case hgd => with_reducible rfl); (case hx => rfl); (case hu => first | exact Try.underlying30 | exact Try.underlying25 | exact Try.underlying28 | exact Try.underlying31 | exact Try.underlying3); (case hd => rfl)) | ((with_reducible apply wpList_load_row); (case ho => with_reducible rfl); (case hgd => with_reducible rfl); (case hx => rfl); (case hu => first | exact Try.underlying30 | exact Try.underlying25 | exact Try.underlying28 | exact Try.underlying31 | exact Try.underlying3); (case hd => rfl)) | ((with_reducible apply wpList_store_row); (case ho => with_reducible rfl); (case hgd => with_reducible rfl); (case hx => rfl); (case hy => rfl)) | ((with_reducible apply wpList_store_cell); (case ho => with_reducible rfl); (case hgd => with_reducible rfl); (case hx => rfl); (case hy => first | exact ev_const | exact ev_tmp rfl); (case h1 => rfl))); (case hg => exact (by with_reducible repeat (first | assumption | (refine rw_new ?e_; case e_ => first | rfl | (simp; done) | (simp; omega)) | apply rw_self | (apply rw_other; case hn => first | omega | (simp; omega)) | apply rw_alloc | apply rw_drew | apply rw_drewN))); (try case hv => rfl); (try case hi => kernel_rfl); (try case hold => rfl); (try case h1 => kernel_rfl); (try case hlt => rfl); (try case hcs => ((try simp only [List.setIfInBounds_toArray, List.set_cons_succ, List.set_cons_zero]); rfl)))
  refine (hmap _).mono ?_
  rintro e w5 ⟨rfl, hb⟩
  have hs_w5 := hb.size
  (try simp at hs_w5)
  have hB_w5 : Below w.heap.size w w5 := below_then (w := w) (by with_reducible repeat (first | exact Below.refl _ _ | assumption | ((first | refine Below.alloc ?_ ?b_ _ | refine bw_set ?_ ?b_ | refine Below.setCell ?_ ?b_ _); case b_ => first | omega | (simp; done) | (simp; omega)) | refine Below.drew ?_ | refine below_drewN ?_ _)) (by first | omega | (simp; done) | (simp; omega) | (have hq_ := hb.size; omega)) hb
  have hx_ := rw_below (k := b6) hb (by with_reducible repeat (first | assumption | (refine rw_new ?e_; case e_ => first | rfl | (simp; done) | (simp; omega)) | apply rw_self | (apply rw_other; case hn => first | omega | (simp; omega)) | apply rw_alloc | apply rw_drew | apply rw_drewN))
  (try clear ha)
  (try clear hac0 hac1 hac2 hac3 hac4 hac5)
  have ha := hx_
  clear hx_
  obtain ⟨hac0, hac1, hac2, hac3, hac4, hac5⟩ := cel6 ha
  have hx_ := rw_below (k := b7) hb (by with_reducible repeat (first | assumption | (refine rw_new ?e_; case e_ => first | rfl | (simp; done) | (simp; omega)) | apply rw_self | (apply rw_other; case hn => first | omega | (simp; omega)) | apply rw_alloc | apply rw_drew | apply rw_drewN))
  (try clear hb2)
  (try clear hb2c0 hb2c1 hb2c2 hb2c3 hb2c4 hb2c5)
  have hb2 := hx_
  clear hx_
  obtain ⟨hb2c0, hb2c1, hb2c2, hb2c3, hb2c4, hb2c5⟩ := cel6 hb2
  clear hb
  clear hmap
  rcases dv_ask u v with ⟨X, Y, e1, e2, e3, X1, X2, Y1, Y2, s1, s2, s3, s4⟩ | ⟨e1, e2, e3, hmx⟩
  · skip
    rw [e1, e2, e3]
    go_upto_region 7 with ((with_reducible refine rw_list ?_); (first | ((with_reducible apply wpList_load_cell); (case ho => with_reducible rfl); (case hgd => with_reducible rfl); (case hx => rfl); (case hu => first | exact Try.underlying30 | exact Try.underlying25 | exact Try.underlying28 | exact Try.underlying31 | exact Try.underlying3); (case hd => rfl)) | ((with_reducible apply wpList_load_row); (case ho => with_reducible rfl); (case hgd => with_reducible rfl); (case hx => rfl); (case hu => first | exact Try.underlying30 | exact Try.underlying25 | exact Try.underlying28 | exact Try.underlying31 | exact Try.underlying3); (case hd => rfl)) | ((with_reducible apply wpList_store_row); (case ho => with_reducible rfl); (case hgd => with_reducible rfl); (case hx => rfl); (case hy => rfl)) | ((with_reducible apply wpList_store_cell); (case ho => with_reducible rfl); (case hgd => with_reducible rfl); (case hx => rfl); (case hy => first | exact ev_const | exact ev_tmp rfl); (case h1 => rfl))); (case hg => exact (by with_reducible repeat (first | assumption | (refine rw_new ?e_; case e_ => first | rfl | (simp; done) | (simp; omega)) | apply rw_self | (apply rw_other; case hn => first | omega | (simp; omega)) | apply rw_alloc | apply rw_drew | apply rw_drewN))); (try case hv => rfl); (try case hi => kernel_rfl); (try case hold => rfl); (try case h1 => kernel_rfl); (try case hlt => rfl); (try case hcs => ((try simp only [List.setIfInBounds_toArray, List.set_cons_succ, List.set_cons_zero]); rfl)))
    generalize hwy_ : World.setRow _ _ _ = wu
    have hB_wu : Below w.heap.size w wu := bw_eq hwy_ (by with_reducible repeat (first | exact Below.refl _ _ | assumption | ((first | refine Below.alloc ?_ ?b_ _ | refine bw_set ?_ ?b_ | refine Below.setCell ?_ ?b_ _); case b_ => first | omega | (simp; done) | (simp; omega)) | refine Below.drew ?_ | refine below_drewN ?_ _))
    have hx_ := rw_eq (k := b6) hwy_ (by with_reducible repeat (first | assumption | (refine rw_new ?e_; case e_ => first | rfl | (simp; done) | (simp; omega)) | apply rw_self | (apply rw_other; case hn => first | omega | (simp; omega)) | apply rw_alloc | apply rw_drew | apply rw_drewN))
    (try clear ha)
    have ha := hx_
    clear hx_
    have hl_ha := rw_lt ha
    (try clear hac0 hac1 hac2 hac3 hac4 hac5)
    obtain ⟨hac0, hac1, hac2, hac3, hac4, hac5⟩ := cel6 ha
    have hx_ := rw_eq (k := b7) hwy_ (by with_reducible repeat (first | assumption | (refine rw_new ?e_; case e_ => first | rfl | (simp; done) | (simp; omega)) | apply rw_self | (apply rw_other; case hn => first | omega | (simp; omega)) | apply rw_alloc | apply rw_drew | apply rw_drewN))
    (try clear hb2)
    have hb2 := hx_
    clear hx_
    have hl_hb2 := rw_lt hb2
    (try clear hb2c0 hb2c1 hb2c2 hb2c3 hb2c4 hb2c5)
    obtain ⟨hb2c0, hb2c1, hb2c2, hb2c3, hb2c4, hb2c5⟩ := cel6 hb2
    have hx_ := rw_eq (k := w5.heap.size) hwy_ (by with_reducible repeat (first | assumption | (refine rw_new ?e_; case e_ => first | rfl | (simp; done) | (simp; omega)) | apply rw_self | (apply rw_other; case hn => first | omega | (simp; omega)) | apply rw_alloc | apply rw_drew | apply rw_drewN))
    (try clear hd)
    have hd := hx_
    clear hx_
    have hl_hd := rw_lt hd
    (try clear hdc0 hdc1)
    obtain ⟨hdc0, hdc1⟩ := cel2 hd
    clear hwy_
    go_wp2_with ((with_reducible refine rw_list ?_); (first | ((with_reducible apply wpList_load_cell); (case ho => with_reducible rfl); (case hgd => with_reducible rfl); (case hx => rfl); (case hu => first | exact Try.underlying30 | exact Try.underlying25 | exact Try.underlying28 | exact Try.underlying31 | exact Try.underlying3); (case hd => rfl)) | ((with_reducible apply wpList_load_row); (case ho => with_reducible rfl); (case hgd => with_reducible rfl); (case hx => rfl); (case hu => first | exact Try.underlying30 | exact Try.underlying25 | exact Try.underlying28 | exact Try.underlying31 | exact Try.underlying3); (case hd => rfl)) | ((with_reducible apply wpList_store_row); (case ho => with_reducible rfl); (case hgd => with_reducible rfl); (case hx => rfl); (case hy => rfl)) | ((with_reducible apply wpList_store_cell); (case ho => with_reducible rfl); (case hgd => with_reducible rfl); (case hx => rfl); (case hy => first | exact ev_const | exact ev_tmp rfl); (case h1 => rfl))); (case hg => exact (by with_reducible repeat (first | assumption | (refine rw_new ?e_; case e_ => first | rfl | (simp; done) | (simp; omega)) | apply rw_self | (apply rw_other; case hn => first | omega | (simp; omega)) | apply rw_alloc | apply rw_drew | apply rw_drewN))); (try case hv => rfl); (try case hi => kernel_rfl); (try case hold => rfl); (try case h1 => kernel_rfl); (try case hlt => rfl); (try case hcs => ((try simp only [List.setIfInBounds_toArray, List.set_cons_succ, List.set_cons_zero]); rfl)))
    refine (near_ok _ _ _ _ (by omega) (by omega) (by omega) (by omega) (by omega) (by omega) (by omega) (by omega) (by omega) (by omega)).mono ?_
    rintro e w' ⟨rfl, rfl⟩
    go_wp2_with ((with_reducible refine rw_list ?_); (first | ((with_reducible apply wpList_load_cell); (case ho => with_reducible rfl); (case hgd => with_reducible rfl); (case hx => rfl); (case hu => first | exact Try.underlying30 | exact Try.underlying25 | exact Try.underlying28 | exact Try.underlying31 | exact Try.underlying3); (case hd => rfl)) | ((with_reducible apply wpList_load_row); (case ho => with_reducible rfl); (case hgd => with_reducible rfl); (case hx => rfl); (case hu => first | exact Try.underlying30 | exact Try.underlying25 | exact Try.underlying28 | exact Try.underlying31 | exact Try.underlying3); (case hd => rfl)) | ((with_reducible apply wpList_store_row); (case ho => with_reducible rfl); (case hgd => with_reducible rfl); (case hx => rfl); (case hy => rfl)) | ((with_reducible apply wpList_store_cell); (case ho => with_reducible rfl); (case hgd => with_reducible rfl); (case hx => rfl); (case hy => first | exact ev_const | exact ev_tmp rfl); (case h1 => rfl))); (case hg => exact (by with_reducible repeat (first | assumption | (refine rw_new ?e_; case e_ => first | rfl | (simp; done) | (simp; omega)) | apply rw_self | (apply rw_other; case hn => first | omega | (simp; omega)) | apply rw_alloc | apply rw_drew | apply rw_drewN))); (try case hv => rfl); (try case hi => kernel_rfl); (try case hold => rfl); (try case h1 => kernel_rfl); (try case hlt => rfl); (try case hcs => ((try simp only [List.setIfInBounds_toArray, List.set_cons_succ, List.set_cons_zero]); rfl)))
    refine (near_ok _ _ _ _ (by omega) (by omega) (by omega) (by omega) (by omega) (by omega) (by omega) (by omega) (by omega) (by omega)).mono ?_
    rintro e w' ⟨rfl, rfl⟩
    go_wp2_with ((with_reducible refine rw_list ?_); (first | ((with_reducible apply wpList_load_cell); (case ho => with_reducible rfl); (case hgd => with_reducible rfl); (case hx => rfl); (case hu => first | exact Try.underlying30 | exact Try.underlying25 | exact Try.underlying28 | exact Try.underlying31 | exact Try.underlying3); (case hd => rfl)) | ((with_reducible apply wpList_load_row); (case ho => with_reducible rfl); (case hgd => with_reducible rfl); (case hx => rfl); (case hu => first | exact Try.underlying30 | exact Try.underlying25 | exact Try.underlying28 | exact Try.underlying31 | exact Try.underlying3); (case hd => rfl)) | ((with_reducible apply wpList_store_row); (case ho => with_reducible rfl); (case hgd => with_reducible rfl); (case hx => rfl); (case hy => rfl)) | ((with_reducible apply wpList_store_cell); (case ho => with_reducible rfl); (case hgd => with_reducible rfl); (case hx => rfl); (case hy => first | exact ev_const | exact ev_tmp rfl); (case h1 => rfl))); (case hg => exact (by with_reducible repeat (first | assumption | (refine rw_new ?e_; case e_ => first | rfl | (simp; done) | (simp; omega)) | apply rw_self | (apply rw_other; case hn => first | omega | (simp; omega)) | apply rw_alloc | apply rw_drew | apply rw_drewN))); (try case hv => rfl); (try case hi => kernel_rfl); (try case hold => rfl); (try case h1 => kernel_rfl); (try case hlt => rfl); (try case hcs => ((try simp only [List.setIfInBounds_toArray, List.set_cons_succ, List.set_cons_zero]); rfl)))
    rcases cc_ask H.out H'.out with ⟨v0, v1, v2, v3, v4, v5, hcc⟩ | ⟨q0, q1, q2, q3, q4, q5, m0, k0, m1, k1, m2, k2, m3, k3, m4, k4, m5, k5, hcc⟩
    · skip
      refine (hcc _).mono ?_
      rintro e w6 ⟨rfl, hb⟩
      have hs_w6 := hb.size
      (try simp at hs_w6)
      have hB_w6 : Below w.heap.size w w6 := below_then (w := w) (by with_reducible repeat (first | exact Below.refl _ _ | assumption | ((first | refine Below.alloc ?_ ?b_ _ | refine bw_set ?_ ?b_ | refine Below.setCell ?_ ?b_ _); case b_ => first | omega | (simp; done) | (simp; omega)) | refine Below.drew ?_ | refine below_drewN ?_ _)) (by first | omega | (simp; done) | (simp; omega) | (have hq_ := hb.size; omega)) hb
      have hx_ := rw_below (k := b6) hb (by with_reducible repeat (first | assumption | (refine rw_new ?e_; case e_ => first | rfl | (simp; done) | (simp; omega)) | apply rw_self | (apply rw_other; case hn => first | omega | (simp; omega)) | apply rw_alloc | apply rw_drew | apply rw_drewN))
      (try clear ha)
      (try clear hac0 hac1 hac2 hac3 hac4 hac5)
      have ha := hx_
      clear hx_
      obtain ⟨hac0, hac1, hac2, hac3, hac4, hac5⟩ := cel6 ha
      have hx_ := rw_below (k := b7) hb (by with_reducible repeat (first | assumption | (refine rw_new ?e_; case e_ => first | rfl | (simp; done) | (simp; omega)) | apply rw_self | (apply rw_other; case hn => first | omega | (simp; omega)) | apply rw_alloc | apply rw_drew | apply rw_drewN))
      (try clear hb2)
      (try clear hb2c0 hb2c1 hb2c2 hb2c3 hb2c4 hb2c5)
      have hb2 := hx_
      clear hx_
      obtain ⟨hb2c0, hb2c1, hb2c2, hb2c3, hb2c4, hb2c5⟩ := cel6 hb2
      clear hb
      go_wp2_with ((with_reducible refine rw_list ?_); (first | ((with_reducible apply wpList_load_cell); (case ho => with_reducible rfl); (case hgd => with_reducible rfl); (case hx => rfl); (case hu => first | exact Try.underlying30 | exact Try.underlying25 | exact Try.underlying28 | exact Try.underlying31 | exact Try.underlying3); (case hd => rfl)) | ((with_reducible apply wpList_load_row); (case ho => with_reducible rfl); (case hgd => with_reducible rfl); (case hx => rfl); (case hu => first | exact Try.underlying30 | exact Try.underlying25 | exact Try.underlying28 | exact Try.underlying31 | exact Try.underlying3); (case hd => rfl)) | ((with_reducible apply wpList_store_row); (case ho => with_reducible rfl); (case hgd => with_reducible rfl); (case hx => rfl); (case hy => rfl)) | ((with_reducible apply wpList_store_cell); (case ho => with_reducible rfl); (case hgd => with_reducible rfl); (case hx => rfl); (case hy => first | exact ev_const | exact ev_tmp rfl); (case h1 => rfl))); (case hg => exact (by with_reducible repeat (first | assumption | (refine rw_new ?e_; case e_ => first | rfl | (simp; done) | (simp; omega)) | apply rw_self | (apply rw_other; case hn => first | omega | (simp; omega)) | apply rw_alloc | apply rw_drew | apply rw_drewN))); (try case hv => rfl); (try case hi => kernel_rfl); (try case hold => rfl); (try case h1 => kernel_rfl); (try case hlt => rfl); (try case hcs => ((try simp only [List.setIfInBounds_toArray, List.set_cons_succ, List.set_cons_zero]); rfl)))
      go_ret
      exact ⟨rfl, (by with_reducible repeat (first | exact Below.refl _ _ | assumption | ((first | refine Below.alloc ?_ ?b_ _ | refine bw_set ?_ ?b_ | refine Below.setCell ?_ ?b_ _); case b_ => first | omega | (simp; done) | (simp; omega)) | refine Below.drew ?_ | refine below_drewN ?_ _))⟩
    · skip
      refine (hcc _).mono ?_
      rintro e w6 ⟨rfl, hb⟩
      have hs_w6 := hb.size
      (try simp at hs_w6)
      have hB_w6 : Below w.heap.size w w6 := below_then (w := w) (by with_reducible repeat (first | exact Below.refl _ _ | assumption | ((first | refine Below.alloc ?_ ?b_ _ | refine bw_set ?_ ?b_ | refine Below.setCell ?_ ?b_ _); case b_ => first | omega | (simp; done) | (simp; omega)) | refine Below.drew ?_ | refine below_drewN ?_ _)) (by first | omega | (simp; done) | (simp; omega) | (have hq_ := hb.size; omega)) hb
      have hx_ := rw_below (k := b6) hb (by with_reducible repeat (first | assumption | (refine rw_new ?e_; case e_ => first | rfl | (simp; done) | (simp; omega)) | apply rw_self | (apply rw_other; case hn => first | omega | (simp; omega)) | apply rw_alloc | apply rw_drew | apply rw_drewN))
      (try clear ha)
      (try clear hac0 hac1 hac2 hac3 hac4 hac5)
      have ha := hx_
      clear hx_
      obtain ⟨hac0, hac1, hac2, hac3, hac4, hac5⟩ := cel6 ha
      have hx_ := rw_below (k := b7) hb (by with_reducible repeat (first | assumption | (refine rw_new ?e_; case e_ => first | rfl | (simp; done) | (simp; omega)) | apply rw_self | (apply rw_other; case hn => first | omega | (simp; omega)) | apply rw_alloc | apply rw_drew | apply rw_drewN))
      (try clear hb2)
      (try clear hb2c0 hb2c1 hb2c2 hb2c3 hb2c4 hb2c5)
      have hb2 := hx_
      clear hx_
      obtain ⟨hb2c0, hb2c1, hb2c2, hb2c3, hb2c4, hb2c5⟩ := cel6 hb2
      clear hb
      go_upto_region 13 with ((with_reducible refine rw_list ?_); (first | ((with_reducible apply wpList_load_cell); (case ho => with_reducible rfl); (case hgd => with_reducible rfl); (case hx => rfl); (case hu => first | exact Try.underlying30 | exact Try.underlying25 | exact Try.underlying28 | exact Try.underlying31 | exact Try.underlying3); (case hd => rfl)) | ((with_reducible apply wpList_load_row); (case ho => with_reducible rfl); (case hgd => with_reducible rfl); (case hx => rfl); (case hu => first | exact Try.underlying30 | exact Try.underlying25 | exact Try.underlying28 | exact Try.underlying31 | exact Try.underlying3); (case hd => rfl)) | ((with_reducible apply wpList_store_row); (case ho => with_reducible rfl); (case hgd => with_reducible rfl); (case hx => rfl); (case hy => rfl)) | ((with_reducible apply wpList_store_cell); (case ho => with_reducible rfl); (case hgd => with_reducible rfl); (case hx => rfl); (case hy => first | exact ev_const | exact ev_tmp rfl); (case h1 => rfl))); (case hg => exact (by with_reducible repeat (first | assumption | (refine rw_new ?e_; case e_ => first | rfl | (simp; done) | (simp; omega)) | apply rw_self | (apply rw_other; case hn => first | omega | (simp; omega)) | apply rw_alloc | apply rw_drew | apply rw_drewN))); (try case hv => rfl); (try case hi => kernel_rfl); (try case hold => rfl); (try case h1 => kernel_rfl); (try case hlt => rfl); (try case hcs => ((try simp only [List.setIfInBounds_toArray, List.set_cons_succ, List.set_cons_zero]); rfl)))
      generalize hwy_ : World.setRow _ _ _ = wv
      have hB_wv : Below w.heap.size w wv := bw_eq hwy_ (by with_reducible repeat (first | exact Below.refl _ _ | assumption | ((first | refine Below.alloc ?_ ?b_ _ | refine bw_set ?_ ?b_ | refine Below.setCell ?_ ?b_ _); case b_ => first | omega | (simp; done) | (simp; omega)) | refine Below.drew ?_ | refine below_drewN ?_ _))
      have hx_ := rw_eq (k := b6) hwy_ (by with_reducible repeat (first | assumption | (refine rw_new ?e_; case e_ => first | rfl | (simp; done) | (simp; omega)) | apply rw_self | (apply rw_other; case hn => first | omega | (simp; omega)) | apply rw_alloc | apply rw_drew | apply rw_drewN))
      (try clear ha)
      have ha := hx_
      clear hx_
      have hl_ha := rw_lt ha
      (try clear hac0 hac1 hac2 hac3 hac4 hac5)
      obtain ⟨hac0, hac1, hac2, hac3, hac4, hac5⟩ := cel6 ha
      have hx_ := rw_eq (k := b7) hwy_ (by with_reducible repeat (first | assumption | (refine rw_new ?e_; case e_ => first | rfl | (simp; done) | (simp; omega)) | apply rw_self | (apply rw_other; case hn => first | omega | (simp; omega)) | apply rw_alloc | apply rw_drew | apply rw_drewN))
      (try clear hb2)
      have hb2 := hx_
      clear hx_
      have hl_hb2 := rw_lt hb2
      (try clear hb2c0 hb2c1 hb2c2 hb2c3 hb2c4 hb2c5)
      obtain ⟨hb2c0, hb2c1, hb2c2, hb2c3, hb2c4, hb2c5⟩ := cel6 hb2
      have hx_ := rw_eq (k := w6.heap.size) hwy_ (by with_reducible repeat (first | assumption | (refine rw_new ?e_; case e_ => first | rfl | (simp; done) | (simp; omega)) | apply rw_self | (apply rw_other; case hn => first | omega | (simp; omega)) | apply rw_alloc | apply rw_drew | apply rw_drewN))
      (try clear hc)
      have hc := hx_
      clear hx_
      have hl_hc := rw_lt hc
      (try clear hcc0 hcc1 hcc2 hcc3 hcc4 hcc5)
      obtain ⟨hcc0, hcc1, hcc2, hcc3, hcc4, hcc5⟩ := cel6 hc
      clear hwy_
      go_wp2_with fail
      refine (near_ok _ _ _ _ (by omega) (by omega) (by omega) (by omega) (by omega) (by omega) (by omega) (by omega) (by omega) (by omega)).mono ?_
      rintro e w' ⟨rfl, rfl⟩
      go_wp2_with fail
      refine (near_ok _ _ _ _ (by omega) (by omega) (by omega) (by omega) (by omega) (by omega) (by omega) (by omega) (by omega) (by omega)).mono ?_
      rintro e w' ⟨rfl, rfl⟩
      go_wp2_with fail
      refine (near_ok _ _ _ _ (by omega) (by omega) (by omega) (by omega) (by omega) (by omega) (by omega) (by omega) (by omega) (by omega)).mono ?_
      rintro e w' ⟨rfl, rfl⟩
      go_wp2_with fail
      refine (near_ok _ _ _ _ (by omega) (by omega) (by omega) (by omega) (by omega) (by omega) (by omega) (by omega) (by omega) (by omega)).mono ?_
      rintro e w' ⟨rfl, rfl⟩
      go_wp2_with fail
      refine (near_ok _ _ _ _ (by omega) (by omega) (by omega) (by omega) (by omega) (by omega) (by omega) (by omega) (by omega) (by omega)).mono ?_
      rintro e w' ⟨rfl, rfl⟩
      go_wp2_with fail
      refine (near_ok _ _ _ _ (by omega) (by omega) (by omega) (by omega) (by omega) (by omega) (by omega) (by omega) (by omega) (by omega)).mono ?_
      rintro e w' ⟨rfl, rfl⟩
      go_wp2_with fail
      go_ret
      exact ⟨rfl, (by with_reducible repeat (first | exact Below.refl _ _ | assumption | ((first | refine Below.alloc ?_ ?b_ _ | refine bw_set ?_ ?b_ | refine Below.setCell ?_ ?b_ _); case b_ => first | omega | (simp; done) | (simp; omega)) | refine Below.drew ?_ | refine below_drewN ?_ _))⟩
  · skip
    obtain ⟨M, hmax, M1, M2, M3, M4, _⟩ := max4 u v
    have hM : 2199023255552 ≤ M := by omega
    rw [e1, e2, e3]
    go_wp2_with ((with_reducible refine rw_list ?_); (first | ((with_reducible apply wpList_load_cell); (case ho => with_reducible rfl); (case hgd => with_reducible rfl); (case hx => rfl); (case hu => first | exact Try.underlying30 | exact Try.underlying25 | exact Try.underlying28 | exact Try.underlying31 | exact Try.underlying3); (case hd => rfl)) | ((with_reducible apply wpList_load_row); (case ho => with_reducible rfl); (case hgd => with_reducible rfl); (case hx => rfl); (case hu => first | exact Try.underlying30 | exact Try.underlying25 | exact Try.underlying28 | exact Try.underlying31 | exact Try.underlying3); (case hd => rfl)) | ((with_reducible apply wpList_store_row); (case ho => with_reducible rfl); (case hgd => with_reducible rfl); (case hx => rfl); (case hy => rfl)) | ((with_reducible apply wpList_store_cell); (case ho => with_reducible rfl); (case hgd => with_reducible rfl); (case hx => rfl); (case hy => first | exact ev_const | exact ev_tmp rfl); (case h1 => rfl))); (case hg => exact (by with_reducible repeat (first | assumption | (refine rw_new ?e_; case e_ => first | rfl | (simp; done) | (simp; omega)) | apply rw_self | (apply rw_other; case hn => first | omega | (simp; omega)) | apply rw_alloc | apply rw_drew | apply rw_drewN))); (try case hv => rfl); (try case hi => kernel_rfl); (try case hold => rfl); (try case h1 => kernel_rfl); (try case hlt => rfl); (try case hcs => ((try simp only [List.setIfInBounds_toArray, List.set_cons_succ, List.set_cons_zero]); rfl)))
    rcases cc_ask H.out H'.out with ⟨v0, v1, v2, v3, v4, v5, hcc⟩ | ⟨q0, q1, q2, q3, q4, q5, m0, k0, m1, k1, m2, k2, m3, k3, m4, k4, m5, k5, hcc⟩
    · skip
      refine (hcc _).mono ?_
      rintro e w6 ⟨rfl, hb⟩
      have hs_w6 := hb.size
      (try simp at hs_w6)
      have hB_w6 : Below w.heap.size w w6 := below_then (w := w) (by with_reducible repeat (first | exact Below.refl _ _ | assumption | ((first | refine Below.alloc ?_ ?b_ _ | refine bw_set ?_ ?b_ | refine Below.setCell ?_ ?b_ _); case b_ => first | omega | (simp; done) | (simp; omega)) | refine Below.drew ?_ | refine below_drewN ?_ _)) (by first | omega | (simp; done) | (simp; omega) | (have hq_ := hb.size; omega)) hb
      have hx_ := rw_below (k := b6) hb (by with_reducible repeat (first | assumption | (refine rw_new ?e_; case e_ => first | rfl | (simp; done) | (simp; omega)) | apply rw_self | (apply rw_other; case hn => first | omega | (simp; omega)) | apply rw_alloc | apply rw_drew | apply rw_drewN))
      (try clear ha)
      (try clear hac0 hac1 hac2 hac3 hac4 hac5)
      have ha := hx_
      clear hx_
      obtain ⟨hac0, hac1, hac2, hac3, hac4, hac5⟩ := cel6 ha
      have hx_ := rw_below (k := b7) hb (by with_reducible repeat (first | assumption | (refine rw_new ?e_; case e_ => first | rfl | (simp; done) | (simp; omega)) | apply rw_self | (apply rw_other; case hn => first | omega | (simp; omega)) | apply rw_alloc | apply rw_drew | apply rw_drewN))
      (try clear hb2)
      (try clear hb2c0 hb2c1 hb2c2 hb2c3 hb2c4 hb2c5)
      have hb2 := hx_
      clear hx_
      obtain ⟨hb2c0, hb2c1, hb2c2, hb2c3, hb2c4, hb2c5⟩ := cel6 hb2
      clear hb
      go_wp2_with ((with_reducible refine rw_list ?_); (first | ((with_reducible apply wpList_load_cell); (case ho => with_reducible rfl); (case hgd => with_reducible rfl); (case hx => rfl); (case hu => first | exact Try.underlying30 | exact Try.underlying25 | exact Try.underlying28 | exact Try.underlying31 | exact Try.underlying3); (case hd => rfl)) | ((with_reducible apply wpList_load_row); (case ho => with_reducible rfl); (case hgd => with_reducible rfl); (case hx => rfl); (case hu => first | exact Try.underlying30 | exact Try.underlying25 | exact Try.underlying28 | exact Try.underlying31 | exact Try.underlying3); (case hd => rfl)) | ((with_reducible apply wpList_store_row); (case ho => with_reducible rfl); (case hgd => with_reducible rfl); (case hx => rfl); (case hy => rfl)) | ((with_reducible apply wpList_store_cell); (case ho => with_reducible rfl); (case hgd => with_reducible rfl); (case hx => rfl); (case hy => first | exact ev_const | exact ev_tmp rfl); (case h1 => rfl))); (case hg => exact (by with_reducible repeat (first | assumption | (refine rw_new ?e_; case e_ => first | rfl | (simp; done) | (simp; omega)) | apply rw_self | (apply rw_other; case hn => first | omega | (simp; omega)) | apply rw_alloc | apply rw_drew | apply rw_drewN))); (try case hv => rfl); (try case hi => kernel_rfl); (try case hold => rfl); (try case h1 => kernel_rfl); (try case hlt => rfl); (try case hcs => ((try simp only [List.setIfInBounds_toArray, List.set_cons_succ, List.set_cons_zero]); rfl)))
      go_ret
      exact ⟨rfl, (by with_reducible repeat (first | exact Below.refl _ _ | assumption | ((first | refine Below.alloc ?_ ?b_ _ | refine bw_set ?_ ?b_ | refine Below.setCell ?_ ?b_ _); case b_ => first | omega | (simp; done) | (simp; omega)) | refine Below.drew ?_ | refine below_drewN ?_ _))⟩
    · skip
      refine (hcc _).mono ?_
      rintro e w6 ⟨rfl, hb⟩
      have hs_w6 := hb.size
      (try simp at hs_w6)
      have hB_w6 : Below w.heap.size w w6 := below_then (w := w) (by with_reducible repeat (first | exact Below.refl _ _ | assumption | ((first | refine Below.alloc ?_ ?b_ _ | refine bw_set ?_ ?b_ | refine Below.setCell ?_ ?b_ _); case b_ => first | omega | (simp; done) | (simp; omega)) | refine Below.drew ?_ | refine below_drewN ?_ _)) (by first | omega | (simp; done) | (simp; omega) | (have hq_ := hb.size; omega)) hb
      have hx_ := rw_below (k := b6) hb (by with_reducible repeat (first | assumption | (refine rw_new ?e_; case e_ => first | rfl | (simp; done) | (simp; omega)) | apply rw_self | (apply rw_other; case hn => first | omega | (simp; omega)) | apply rw_alloc | apply rw_drew | apply rw_drewN))
      (try clear ha)
      (try clear hac0 hac1 hac2 hac3 hac4 hac5)
      have ha := hx_
      clear hx_
      obtain ⟨hac0, hac1, hac2, hac3, hac4, hac5⟩ := cel6 ha
      have hx_ := rw_below (k := b7) hb (by with_reducible repeat (first | assumption | (refine rw_new ?e_; case e_ => first | rfl | (simp; done) | (simp; omega)) | apply rw_self | (apply rw_other; case hn => first | omega | (simp; omega)) | apply rw_alloc | apply rw_drew | apply rw_drewN))
      (try clear hb2)
      (try clear hb2c0 hb2c1 hb2c2 hb2c3 hb2c4 hb2c5)
      have hb2 := hx_
      clear hx_
      obtain ⟨hb2c0, hb2c1, hb2c2, hb2c3, hb2c4, hb2c5⟩ := cel6 hb2
      clear hb
      go_upto_region 13 with ((with_reducible refine rw_list ?_); (first | ((with_reducible apply wpList_load_cell); (case ho => with_reducible rfl); (case hgd => with_reducible rfl); (case hx => rfl); (case hu => first | exact Try.underlying30 | exact Try.underlying25 | exact Try.underlying28 | exact Try.underlying31 | exact Try.underlying3); (case hd => rfl)) | ((with_reducible apply wpList_load_row); (case ho => with_reducible rfl); (case hgd => with_reducible rfl); (case hx => rfl); (case hu => first | exact Try.underlying30 | exact Try.underlying25 | exact Try.underlying28 | exact Try.underlying31 | exact Try.underlying3); (case hd => rfl)) | ((with_reducible apply wpList_store_row); (case ho => with_reducible rfl); (case hgd => with_reducible rfl); (case hx => rfl); (case hy => rfl)) | ((with_reducible apply wpList_store_cell); (case ho => with_reducible rfl); (case hgd => with_reducible rfl); (case hx => rfl); (case hy => first | exact ev_const | exact ev_tmp rfl); (case h1 => rfl))); (case hg => exact (by with_reducible repeat (first | assumption | (refine rw_new ?e_; case e_ => first | rfl | (simp; done) | (simp; omega)) | apply rw_self | (apply rw_other; case hn => first | omega | (simp; omega)) | apply rw_alloc | apply rw_drew | apply rw_drewN))); (try case hv => rfl); (try case hi => kernel_rfl); (try case hold => rfl); (try case h1 => kernel_rfl); (try case hlt => rfl); (try case hcs => ((try simp only [List.setIfInBounds_toArray, List.set_cons_succ, List.set_cons_zero]); rfl)))
      generalize hwy_ : World.setRow _ _ _ = wv
      have hB_wv : Below w.heap.size w wv := bw_eq hwy_ (by with_reducible repeat (first | exact Below.refl _ _ | assumption | ((first | refine Below.alloc ?_ ?b_ _ | refine bw_set ?_ ?b_ | refine Below.setCell ?_ ?b_ _); case b_ => first | omega | (simp; done) | (simp; omega)) | refine Below.drew ?_ | refine below_drewN ?_ _))
      have hx_ := rw_eq (k := b6) hwy_ (by with_reducible repeat (first | assumption | (refine rw_new ?e_; case e_ => first | rfl | (simp; done) | (simp; omega)) | apply rw_self | (apply rw_other; case hn => first | omega | (simp; omega)) | apply rw_alloc | apply rw_drew | apply rw_drewN))
      (try clear ha)
      have ha := hx_
      clear hx_
      have hl_ha := rw_lt ha
      (try clear hac0 hac1 hac2 hac3 hac4 hac5)
      obtain ⟨hac0, hac1, hac2, hac3, hac4, hac5⟩ := cel6 ha
      have hx_ := rw_eq (k := b7) hwy_ (by with_reducible repeat (first | assumption | (refine rw_new ?e_; case e_ => first | rfl | (simp; done) | (simp; omega)) | apply rw_self | (apply rw_other; case hn => first | omega | (simp; omega)) | apply rw_alloc | apply rw_drew | apply rw_drewN))
      (try clear hb2)
      have hb2 := hx_
      clear hx_
      have hl_hb2 := rw_lt hb2
      (try clear hb2c0 hb2c1 hb2c2 hb2c3 hb2c4 hb2c5)
      obtain ⟨hb2c0, hb2c1, hb2c2, hb2c3, hb2c4, hb2c5⟩ := cel6 hb2
      have hx_ := rw_eq (k := w6.heap.size) hwy_ (by with_reducible repeat (first | assumption | (refine rw_new ?e_; case e_ => first | rfl | (simp; done) | (simp; omega)) | apply rw_self | (apply rw_other; case hn => first | omega | (simp; omega)) | apply rw_alloc | apply rw_drew | apply rw_drewN))
      (try clear hc)
      have hc := hx_
      clear hx_
      have hl_hc := rw_lt hc
      (try clear hcc0 hcc1 hcc2 hcc3 hcc4 hcc5)
      obtain ⟨hcc0, hcc1, hcc2, hcc3, hcc4, hcc5⟩ := cel6 hc
      clear hwy_
      go_wp2_with fail
      refine (near_ok _ _ _ _ (by omega) (by omega) (by omega) (by omega) (by omega) (by omega) (by omega) (by omega) (by omega) (by omega)).mono ?_
      rintro e w' ⟨rfl, rfl⟩
      go_wp2_with fail
      refine (near_ok _ _ _ _ (by omega) (by omega) (by omega) (by omega) (by omega) (by omega) (by omega) (by omega) (by omega) (by omega)).mono ?_
      rintro e w' ⟨rfl, rfl⟩
      go_wp2_with fail
      refine (near_ok _ _ _ _ (by omega) (by omega) (by omega) (by omega) (by omega) (by omega) (by omega) (by omega) (by omega) (by omega)).mono ?_
      rintro e w' ⟨rfl, rfl⟩
      go_wp2_with fail
      refine (near_ok _ _ _ _ (by omega) (by omega) (by omega) (by omega) (by omega) (by omega) (by omega) (by omega) (by omega) (by omega)).mono ?_
      rintro e w' ⟨rfl, rfl⟩
      go_wp2_with fail
      refine (near_ok _ _ _ _ (by omega) (by omega) (by omega) (by omega) (by omega) (by omega) (by omega) (by omega) (by omega) (by omega)).mono ?_
      rintro e w' ⟨rfl, rfl⟩
      go_wp2_with fail
      refine (near_ok _ _ _ _ (by omega) (by omega) (by omega) (by omega) (by omega) (by omega) (by omega) (by omega) (by omega) (by omega)).mono ?_
      rintro e w' ⟨rfl, rfl⟩
      go_wp2_with fail
      go_ret
      exact ⟨rfl, (by with_reducible repeat (first | exact Below.refl _ _ | assumption | ((first | refine Below.alloc ?_ ?b_ _ | refine bw_set ?_ ?b_ | refine Below.setCell ?_ ?b_ _); case b_ => first | omega | (simp; done) | (simp; omega)) | refine Below.drew ?_ | refine below_drewN ?_ _))⟩
end Go.Proofs.Ytpgaibkjokoanaa.T3
