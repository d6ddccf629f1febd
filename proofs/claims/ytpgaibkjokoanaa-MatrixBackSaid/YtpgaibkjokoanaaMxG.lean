/- The reference's Concat returns what the plain forms tell. -/
import Derived.Test.YtpgaibkjokoanaaMxF
import Derived.WalkKit
import Derived.Lib.Hide
import Derived.Deep.QuietTactic
import Derived.BigQuiet
import Derived.Lib.QuietBelow
import Derived.Deep.RegionHeld3
import Derived.WalkLawsBesides
import Derived.WalkSpells
import Derived.Outline
import Derived.Deep.DeepFit
import Derived.Maps.AppendAt
import Derived.Deep.AppendLies
namespace Go.Proofs.Ytpgaibkjokoanaa.T3
set_option linter.unusedSimpArgs false
set_option linter.unusedVariables false
open Go.RowKit
set_option maxHeartbeats 2000000
theorem rcc_any (A B C D E F A' B' C' D' E' F' : Int) (w : World) :
    Calls Try.prog 34 #[.agg #[.int .i64 A, .int .i64 B, .int .i64 C, .int .i64 D, .int .i64 E, .int .i64 F], .agg #[.int .i64 A', .int .i64 B', .int .i64 C', .int .i64 D', .int .i64 E', .int .i64 F']] w fun e w' => e = .returned (.tuple #[.agg #[.int .i64 (zif (ccB A B C D E F A' B' C' D' E' F') (r16 (A * A' + B * C'))), .int .i64 (zif (ccB A B C D E F A' B' C' D' E' F') (r16 (A * B' + B * D'))), .int .i64 (zif (ccB A B C D E F A' B' C' D' E' F') (r16 (C * A' + D * C'))), .int .i64 (zif (ccB A B C D E F A' B' C' D' E' F') (r16 (C * B' + D * D'))), .int .i64 (zif (ccB A B C D E F A' B' C' D' E' F') ((r16 (E * A' + F * C')) + E')), .int .i64 (zif (ccB A B C D E F A' B' C' D' E' F') ((r16 (E * B' + F * D')) + F'))], .int .i64 (ccE A B C D E F A' B' C' D' E' F')]) ∧ Below w.heap.size w w' := by
  by_cases hh : mOk A B C D E F ∧ mOk A' B' C' D' E' F'
  · obtain ⟨h, h'⟩ := hh
    rw [(ccB_t h h').1, (ccB_t h h').2]
    have HE := Lib.hid (mOkB_t h)
    have HE' := Lib.hid (mOkB_t h')
    obtain ⟨⟨a1, a2⟩, ⟨b1, b2⟩, ⟨c1, c2⟩, ⟨d1, d2⟩, ⟨e1, e2⟩, f1, f2⟩ := h
    obtain ⟨⟨A1, A2⟩, ⟨B1, B2⟩, ⟨C1, C2⟩, ⟨D1, D2⟩, ⟨E1, E2⟩, F1, F2⟩ := h'
    obtain ⟨p0, q0⟩ := mul_bd a1 a2 A1 A2
    obtain ⟨p1, q1⟩ := mul_bd b1 b2 C1 C2
    obtain ⟨p2, q2⟩ := mul_bd a1 a2 B1 B2
    obtain ⟨p3, q3⟩ := mul_bd b1 b2 D1 D2
    obtain ⟨p4, q4⟩ := mul_bd c1 c2 A1 A2
    obtain ⟨p5, q5⟩ := mul_bd d1 d2 C1 C2
    obtain ⟨p6, q6⟩ := mul_bd c1 c2 B1 B2
    obtain ⟨p7, q7⟩ := mul_bd d1 d2 D1 D2
    obtain ⟨p8, q8⟩ := mul_bd e1 e2 A1 A2
    obtain ⟨p9, q9⟩ := mul_bd f1 f2 C1 C2
    obtain ⟨p10, q10⟩ := mul_bd e1 e2 B1 B2
    obtain ⟨p11, q11⟩ := mul_bd f1 f2 D1 D2
    simp only [Int.reduceMul, Int.reduceNeg] at p0 q0 p1 q1 p2 q2 p3 q3 p4 q4 p5 q5 p6 q6 p7 q7 p8 q8 p9 q9 p10 q10 p11 q11
    obtain ⟨u4, v4⟩ := (r16_bd (E * A' + F * C') 1152921504606846976 (by omega) (by omega)).resolve_right (by omega)
    obtain ⟨u5, v5⟩ := (r16_bd (E * B' + F * D') 1152921504606846976 (by omega) (by omega)).resolve_right (by omega)
    go_enter Try.func34, Try.ntmps34
    go_wp2_with ((with_reducible refine rw_list ?_); (first | ((with_reducible apply wpList_load_cell); (case ho => with_reducible rfl); (case hgd => with_reducible rfl); (case hx => rfl); (case hu => first | exact Try.underlying25 | exact Try.underlying73 | exact Try.underlying31 | exact Try.underlying3); (case hd => rfl)) | ((with_reducible apply wpList_load_row); (case ho => with_reducible rfl); (case hgd => with_reducible rfl); (case hx => rfl); (case hu => first | exact Try.underlying25 | exact Try.underlying73 | exact Try.underlying31 | exact Try.underlying3); (case hd => rfl)) | ((with_reducible apply wpList_store_row); (case ho => with_reducible rfl); (case hgd => with_reducible rfl); (case hx => rfl); (case hy => rfl)) | ((with_reducible apply wpList_store_cell); (case ho => with_reducible rfl); (case hgd => with_reducible rfl); (case hx => rfl); (case hy => first | exact ev_const | exact ev_tmp rfl); (case h1 => rfl))); (case hg => exact (by with_reducible repeat (first | assumption | (refine rw_new ?e_; case e_ => first | rfl | (simp; done) | (simp; omega)) | apply rw_self | (apply rw_other; case hn => first | omega | (simp; omega)) | apply rw_alloc | apply rw_drew | apply rw_drewN))); (try case hv => rfl); (try case hi => kernel_rfl); (try case hold => rfl); (try case h1 => kernel_rfl); (try case hlt => rfl); (try case hcs => ((try simp only [List.setIfInBounds_toArray, List.set_cons_succ, List.set_cons_zero]); rfl)))
    refine (rright_any _ _ _ _ _ _ _).mono ?_
    rintro e w1 ⟨rfl, hb⟩
    have hs_w1 := hb.size
    (try simp at hs_w1)
    have hB_w1 : Below w.heap.size w w1 := below_then (w := w) (by with_reducible repeat (first | exact Below.refl _ _ | assumption | ((first | refine Below.alloc ?_ ?b_ _ | refine bw_set ?_ ?b_ | refine Below.setCell ?_ ?b_ _); case b_ => first | omega | (simp; done) | (simp; omega)) | refine Below.drew ?_ | refine below_drewN ?_ _)) (by first | omega | (simp; done) | (simp; omega) | (have hq_ := hb.size; omega)) hb
    have hx_ := rw_below (k := w.heap.size) hb (by with_reducible repeat (first | assumption | (refine rw_new ?e_; case e_ => first | rfl | (simp; done) | (simp; omega)) | apply rw_self | (apply rw_other; case hn => first | omega | (simp; omega)) | apply rw_alloc | apply rw_drew | apply rw_drewN))
    (try clear hm)
    (try clear hmc0 hmc1 hmc2 hmc3 hmc4 hmc5)
    have hm := hx_
    clear hx_
    obtain ⟨hmc0, hmc1, hmc2, hmc3, hmc4, hmc5⟩ := cel6 hm
    have hx_ := rw_below (k := w.heap.size + 1) hb (by with_reducible repeat (first | assumption | (refine rw_new ?e_; case e_ => first | rfl | (simp; done) | (simp; omega)) | apply rw_self | (apply rw_other; case hn => first | omega | (simp; omega)) | apply rw_alloc | apply rw_drew | apply rw_drewN))
    (try clear hn)
    (try clear hnc0 hnc1 hnc2 hnc3 hnc4 hnc5)
    have hn := hx_
    clear hx_
    obtain ⟨hnc0, hnc1, hnc2, hnc3, hnc4, hnc5⟩ := cel6 hn
    have hx_ := rw_below (k := w.heap.size + 2) hb (by with_reducible repeat (first | assumption | (refine rw_new ?e_; case e_ => first | rfl | (simp; done) | (simp; omega)) | apply rw_self | (apply rw_other; case hn => first | omega | (simp; omega)) | apply rw_alloc | apply rw_drew | apply rw_drewN))
    (try clear hq)
    have hq := hx_
    clear hx_
    clear hb
    rw [HE.out]
    go_wp2_with ((with_reducible refine rw_list ?_); (first | ((with_reducible apply wpList_load_cell); (case ho => with_reducible rfl); (case hgd => with_reducible rfl); (case hx => rfl); (case hu => first | exact Try.underlying25 | exact Try.underlying73 | exact Try.underlying31 | exact Try.underlying3); (case hd => rfl)) | ((with_reducible apply wpList_load_row); (case ho => with_reducible rfl); (case hgd => with_reducible rfl); (case hx => rfl); (case hu => first | exact Try.underlying25 | exact Try.underlying73 | exact Try.underlying31 | exact Try.underlying3); (case hd => rfl)) | ((with_reducible apply wpList_store_row); (case ho => with_reducible rfl); (case hgd => with_reducible rfl); (case hx => rfl); (case hy => rfl)) | ((with_reducible apply wpList_store_cell); (case ho => with_reducible rfl); (case hgd => with_reducible rfl); (case hx => rfl); (case hy => first | exact ev_const | exact ev_tmp rfl); (case h1 => rfl))); (case hg => exact (by with_reducible repeat (first | assumption | (refine rw_new ?e_; case e_ => first | rfl | (simp; done) | (simp; omega)) | apply rw_self | (apply rw_other; case hn => first | omega | (simp; omega)) | apply rw_alloc | apply rw_drew | apply rw_drewN))); (try case hv => rfl); (try case hi => kernel_rfl); (try case hold => rfl); (try case h1 => kernel_rfl); (try case hlt => rfl); (try case hcs => ((try simp only [List.setIfInBounds_toArray, List.set_cons_succ, List.set_cons_zero]); rfl)))
    refine (rright_any _ _ _ _ _ _ _).mono ?_
    rintro e w2 ⟨rfl, hb⟩
    have hs_w2 := hb.size
    (try simp at hs_w2)
    have hB_w2 : Below w.heap.size w w2 := below_then (w := w) (by with_reducible repeat (first | exact Below.refl _ _ | assumption | ((first | refine Below.alloc ?_ ?b_ _ | refine bw_set ?_ ?b_ | refine Below.setCell ?_ ?b_ _); case b_ => first | omega | (simp; done) | (simp; omega)) | refine Below.drew ?_ | refine below_drewN ?_ _)) (by first | omega | (simp; done) | (simp; omega) | (have hq_ := hb.size; omega)) hb
    have hx_ := rw_below (k := w.heap.size) hb (by with_reducible repeat (first | assumption | (refine rw_new ?e_; case e_ => first | rfl | (simp; done) | (simp; omega)) | apply rw_self | (apply rw_other; case hn => first | omega | (simp; omega)) | apply rw_alloc | apply rw_drew | apply rw_drewN))
    (try clear hm)
    (try clear hmc0 hmc1 hmc2 hmc3 hmc4 hmc5)
    have hm := hx_
    clear hx_
    obtain ⟨hmc0, hmc1, hmc2, hmc3, hmc4, hmc5⟩ := cel6 hm
    have hx_ := rw_below (k := w.heap.size + 1) hb (by with_reducible repeat (first | assumption | (refine rw_new ?e_; case e_ => first | rfl | (simp; done) | (simp; omega)) | apply rw_self | (apply rw_other; case hn => first | omega | (simp; omega)) | apply rw_alloc | apply rw_drew | apply rw_drewN))
    (try clear hn)
    (try clear hnc0 hnc1 hnc2 hnc3 hnc4 hnc5)
    have hn := hx_
    clear hx_
    obtain ⟨hnc0, hnc1, hnc2, hnc3, hnc4, hnc5⟩ := cel6 hn
    have hx_ := rw_below (k := w.heap.size + 2) hb (by with_reducible repeat (first | assumption | (refine rw_new ?e_; case e_ => first | rfl | (simp; done) | (simp; omega)) | apply rw_self | (apply rw_other; case hn => first | omega | (simp; omega)) | apply rw_alloc | apply rw_drew | apply rw_drewN))
    (try clear hq)
    have hq := hx_
    clear hx_
    clear hb
    rw [HE'.out]
    go_wp2_with ((with_reducible refine rw_list ?_); (first | ((with_reducible apply wpList_load_cell); (case ho => with_reducible rfl); (case hgd => with_reducible rfl); (case hx => rfl); (case hu => first | exact Try.underlying25 | exact Try.underlying73 | exact Try.underlying31 | exact Try.underlying3); (case hd => rfl)) | ((with_reducible apply wpList_load_row); (case ho => with_reducible rfl); (case hgd => with_reducible rfl); (case hx => rfl); (case hu => first | exact Try.underlying25 | exact Try.underlying73 | exact Try.underlying31 | exact Try.underlying3); (case hd => rfl)) | ((with_reducible apply wpList_store_row); (case ho => with_reducible rfl); (case hgd => with_reducible rfl); (case hx => rfl); (case hy => rfl)) | ((with_reducible apply wpList_store_cell); (case ho => with_reducible rfl); (case hgd => with_reducible rfl); (case hx => rfl); (case hy => first | exact ev_const | exact ev_tmp rfl); (case h1 => rfl))); (case hg => exact (by with_reducible repeat (first | assumption | (refine rw_new ?e_; case e_ => first | rfl | (simp; done) | (simp; omega)) | apply rw_self | (apply rw_other; case hn => first | omega | (simp; omega)) | apply rw_alloc | apply rw_drew | apply rw_drewN))); (try case hv => rfl); (try case hi => kernel_rfl); (try case hold => rfl); (try case h1 => kernel_rfl); (try case hlt => rfl); (try case hcs => ((try simp only [List.setIfInBounds_toArray, List.set_cons_succ, List.set_cons_zero]); rfl)))
    simp only [List.append_eq, List.cons_append, List.nil_append]
    have hlm := rw_lt hm
    have hln := rw_lt hn
    refine wp_region_grow [(0, none), (1, none), (2, none), (3, none), (4, none), (5, none), (6, none), (7, none), (8, none), (9, none), (10, none), (12, none), (13, none), (14, none), (15, none), (16, none), (17, none), (18, none), (19, none), (20, none), (21, none), (22, none), (24, none), (25, none), (26, none), (27, none), (28, none), (29, none), (30, none), (31, none), (32, none), (33, none), (34, none), (36, none), (37, none), (38, none), (39, none), (40, none), (41, none), (42, none), (43, none), (44, none), (45, none), (46, none), (48, none), (49, none), (50, none), (51, none), (52, none), (53, none), (54, none), (55, none), (56, none), (57, none), (58, none), (60, none), (61, none), (63, none), (64, none), (65, none), (66, none), (67, none), (68, none), (69, none), (70, none), (71, none), (72, none), (73, none), (75, none), (76, none), (11, some (.val (fun v => v = .int .i64 (r16 (A * A' + B * C'))))), (23, some (.val (fun v => v = .int .i64 (r16 (A * B' + B * D'))))), (35, some (.val (fun v => v = .int .i64 (r16 (C * A' + D * C'))))), (47, some (.val (fun v => v = .int .i64 (r16 (C * B' + D * D'))))), (59, some (.val (fun v => v = .int .i64 (r16 (E * A' + F * C'))))), (62, none), (74, some (.val (fun v => v = .int .i64 (r16 (E * B' + F * D'))))), (77, none), (78, none), (79, some (.val (fun v => v = .tuple #[.agg #[.int .i64 (zif (mOkB (r16 (A * A' + B * C')) (r16 (A * B' + B * D')) (r16 (C * A' + D * C')) (r16 (C * B' + D * D')) ((r16 (E * A' + F * C')) + E') ((r16 (E * B' + F * D')) + F')) (r16 (A * A' + B * C'))), .int .i64 (zif (mOkB (r16 (A * A' + B * C')) (r16 (A * B' + B * D')) (r16 (C * A' + D * C')) (r16 (C * B' + D * D')) ((r16 (E * A' + F * C')) + E') ((r16 (E * B' + F * D')) + F')) (r16 (A * B' + B * D'))), .int .i64 (zif (mOkB (r16 (A * A' + B * C')) (r16 (A * B' + B * D')) (r16 (C * A' + D * C')) (r16 (C * B' + D * D')) ((r16 (E * A' + F * C')) + E') ((r16 (E * B' + F * D')) + F')) (r16 (C * A' + D * C'))), .int .i64 (zif (mOkB (r16 (A * A' + B * C')) (r16 (A * B' + B * D')) (r16 (C * A' + D * C')) (r16 (C * B' + D * D')) ((r16 (E * A' + F * C')) + E') ((r16 (E * B' + F * D')) + F')) (r16 (C * B' + D * D'))), .int .i64 (zif (mOkB (r16 (A * A' + B * C')) (r16 (A * B' + B * D')) (r16 (C * A' + D * C')) (r16 (C * B' + D * D')) ((r16 (E * A' + F * C')) + E') ((r16 (E * B' + F * D')) + F')) ((r16 (E * A' + F * C')) + E')), .int .i64 (zif (mOkB (r16 (A * A' + B * C')) (r16 (A * B' + B * D')) (r16 (C * A' + D * C')) (r16 (C * B' + D * D')) ((r16 (E * A' + F * C')) + E') ((r16 (E * B' + F * D')) + F')) ((r16 (E * B' + F * D')) + F'))], .int .i64 (lmE (mOkB (r16 (A * A' + B * C')) (r16 (A * B' + B * D')) (r16 (C * A' + D * C')) (r16 (C * B' + D * D')) ((r16 (E * A' + F * C')) + E') ((r16 (E * B' + F * D')) + F')))]))), (80, none), (81, none)] (.s 82 .e (.s 83 .p .done)) ?g1_ ?g2_ ?g3_ ?_
    case g1_ => kernel_rfl
    case g2_ => kernel_rfl
    case g3_ => exact fun _ _ _ _ _ h => h
    (apply wpG_p rfl rfl rfl rfl rfl; (intro w' K hK; (first | go_big_op | go_wp2_with fail); exact hK))
    (apply wpG_l rfl rfl rfl rfl rfl; (intro w' K hC hK; (have hr' := hC.old; simp at hr'); (first | go_big_op | go_wp2_with fail); exact hK); (case he => first | rfl | (simp [Act.put, *]; done)))
    (apply wpG_p rfl rfl rfl rfl rfl; (intro w' K hK; (first | go_big_op | go_wp2_with fail); exact hK))
    (apply wpG_l rfl rfl rfl rfl rfl; (intro w' K hC hK; (have hr' := hC.old; simp at hr'); (first | go_big_op | go_wp2_with fail); exact hK); (case he => first | rfl | (simp [Act.put, *]; done)))
    (apply wpG_p rfl rfl rfl rfl rfl; (intro w' K hK; (first | go_big_op | go_wp2_with fail); exact hK))
    (apply wpG_p rfl rfl rfl rfl rfl; (intro w' K hK; (first | go_big_op | go_wp2_with fail); exact hK))
    (apply wpG_l rfl rfl rfl rfl rfl; (intro w' K hC hK; (have hr' := hC.old; simp at hr'); (first | go_big_op | go_wp2_with fail); exact hK); (case he => first | rfl | (simp [Act.put, *]; done)))
    (apply wpG_p rfl rfl rfl rfl rfl; (intro w' K hK; (first | go_big_op | go_wp2_with fail); exact hK))
    (apply wpG_l rfl rfl rfl rfl rfl; (intro w' K hC hK; (have hr' := hC.old; simp at hr'); (first | go_big_op | go_wp2_with fail); exact hK); (case he => first | rfl | (simp [Act.put, *]; done)))
    (apply wpG_p rfl rfl rfl rfl rfl; (intro w' K hK; (first | go_big_op | go_wp2_with fail); exact hK))
    (apply wpG_p rfl rfl rfl rfl rfl; (intro w' K hK; (first | go_big_op | go_wp2_with fail); exact hK))
    (apply wpG_p rfl rfl rfl rfl rfl; (intro w' K hK; (first | go_big_op | go_wp2_with fail); exact hK))
    (apply wpG_l rfl rfl rfl rfl rfl; (intro w' K hC hK; (have hr' := hC.old; simp at hr'); (first | go_big_op | go_wp2_with fail); exact hK); (case he => first | rfl | (simp [Act.put, *]; done)))
    (apply wpG_p rfl rfl rfl rfl rfl; (intro w' K hK; (first | go_big_op | go_wp2_with fail); exact hK))
    (apply wpG_l rfl rfl rfl rfl rfl; (intro w' K hC hK; (have hr' := hC.old; simp at hr'); (first | go_big_op | go_wp2_with fail); exact hK); (case he => first | rfl | (simp [Act.put, *]; done)))
    (apply wpG_p rfl rfl rfl rfl rfl; (intro w' K hK; (first | go_big_op | go_wp2_with fail); exact hK))
    (apply wpG_p rfl rfl rfl rfl rfl; (intro w' K hK; (first | go_big_op | go_wp2_with fail); exact hK))
    (apply wpG_l rfl rfl rfl rfl rfl; (intro w' K hC hK; (have hr' := hC.old; simp at hr'); (first | go_big_op | go_wp2_with fail); exact hK); (case he => first | rfl | (simp [Act.put, *]; done)))
    (apply wpG_p rfl rfl rfl rfl rfl; (intro w' K hK; (first | go_big_op | go_wp2_with fail); exact hK))
    (apply wpG_l rfl rfl rfl rfl rfl; (intro w' K hC hK; (have hr' := hC.old; simp at hr'); (first | go_big_op | go_wp2_with fail); exact hK); (case he => first | rfl | (simp [Act.put, *]; done)))
    (apply wpG_p rfl rfl rfl rfl rfl; (intro w' K hK; (first | go_big_op | go_wp2_with fail); exact hK))
    (apply wpG_p rfl rfl rfl rfl rfl; (intro w' K hK; (first | go_big_op | go_wp2_with fail); exact hK))
    (apply wpG_p rfl rfl rfl rfl rfl; (intro w' K hK; (first | go_big_op | go_wp2_with fail); exact hK))
    (apply wpG_l rfl rfl rfl rfl rfl; (intro w' K hC hK; (have hr' := hC.old; simp at hr'); (first | go_big_op | go_wp2_with fail); exact hK); (case he => first | rfl | (simp [Act.put, *]; done)))
    (apply wpG_p rfl rfl rfl rfl rfl; (intro w' K hK; (first | go_big_op | go_wp2_with fail); exact hK))
    (apply wpG_l rfl rfl rfl rfl rfl; (intro w' K hC hK; (have hr' := hC.old; simp at hr'); (first | go_big_op | go_wp2_with fail); exact hK); (case he => first | rfl | (simp [Act.put, *]; done)))
    (apply wpG_p rfl rfl rfl rfl rfl; (intro w' K hK; (first | go_big_op | go_wp2_with fail); exact hK))
    (apply wpG_p rfl rfl rfl rfl rfl; (intro w' K hK; (first | go_big_op | go_wp2_with fail); exact hK))
    (apply wpG_l rfl rfl rfl rfl rfl; (intro w' K hC hK; (have hr' := hC.old; simp at hr'); (first | go_big_op | go_wp2_with fail); exact hK); (case he => first | rfl | (simp [Act.put, *]; done)))
    (apply wpG_p rfl rfl rfl rfl rfl; (intro w' K hK; (first | go_big_op | go_wp2_with fail); exact hK))
    (apply wpG_l rfl rfl rfl rfl rfl; (intro w' K hC hK; (have hr' := hC.old; simp at hr'); (first | go_big_op | go_wp2_with fail); exact hK); (case he => first | rfl | (simp [Act.put, *]; done)))
    (apply wpG_p rfl rfl rfl rfl rfl; (intro w' K hK; (first | go_big_op | go_wp2_with fail); exact hK))
    (apply wpG_p rfl rfl rfl rfl rfl; (intro w' K hK; (first | go_big_op | go_wp2_with fail); exact hK))
    (apply wpG_p rfl rfl rfl rfl rfl; (intro w' K hK; (first | go_big_op | go_wp2_with fail); exact hK))
    (apply wpG_l rfl rfl rfl rfl rfl; (intro w' K hC hK; (have hr' := hC.old; simp at hr'); (first | go_big_op | go_wp2_with fail); exact hK); (case he => first | rfl | (simp [Act.put, *]; done)))
    (apply wpG_p rfl rfl rfl rfl rfl; (intro w' K hK; (first | go_big_op | go_wp2_with fail); exact hK))
    (apply wpG_l rfl rfl rfl rfl rfl; (intro w' K hC hK; (have hr' := hC.old; simp at hr'); (first | go_big_op | go_wp2_with fail); exact hK); (case he => first | rfl | (simp [Act.put, *]; done)))
    (apply wpG_p rfl rfl rfl rfl rfl; (intro w' K hK; (first | go_big_op | go_wp2_with fail); exact hK))
    (apply wpG_p rfl rfl rfl rfl rfl; (intro w' K hK; (first | go_big_op | go_wp2_with fail); exact hK))
    (apply wpG_l rfl rfl rfl rfl rfl; (intro w' K hC hK; (have hr' := hC.old; simp at hr'); (first | go_big_op | go_wp2_with fail); exact hK); (case he => first | rfl | (simp [Act.put, *]; done)))
    (apply wpG_p rfl rfl rfl rfl rfl; (intro w' K hK; (first | go_big_op | go_wp2_with fail); exact hK))
    (apply wpG_l rfl rfl rfl rfl rfl; (intro w' K hC hK; (have hr' := hC.old; simp at hr'); (first | go_big_op | go_wp2_with fail); exact hK); (case he => first | rfl | (simp [Act.put, *]; done)))
    (apply wpG_p rfl rfl rfl rfl rfl; (intro w' K hK; (first | go_big_op | go_wp2_with fail); exact hK))
    (apply wpG_p rfl rfl rfl rfl rfl; (intro w' K hK; (first | go_big_op | go_wp2_with fail); exact hK))
    (apply wpG_p rfl rfl rfl rfl rfl; (intro w' K hK; (first | go_big_op | go_wp2_with fail); exact hK))
    (apply wpG_l rfl rfl rfl rfl rfl; (intro w' K hC hK; (have hr' := hC.old; simp at hr'); (first | go_big_op | go_wp2_with fail); exact hK); (case he => first | rfl | (simp [Act.put, *]; done)))
    (apply wpG_p rfl rfl rfl rfl rfl; (intro w' K hK; (first | go_big_op | go_wp2_with fail); exact hK))
    (apply wpG_l rfl rfl rfl rfl rfl; (intro w' K hC hK; (have hr' := hC.old; simp at hr'); (first | go_big_op | go_wp2_with fail); exact hK); (case he => first | rfl | (simp [Act.put, *]; done)))
    (apply wpG_p rfl rfl rfl rfl rfl; (intro w' K hK; (first | go_big_op | go_wp2_with fail); exact hK))
    (apply wpG_p rfl rfl rfl rfl rfl; (intro w' K hK; (first | go_big_op | go_wp2_with fail); exact hK))
    (apply wpG_l rfl rfl rfl rfl rfl; (intro w' K hC hK; (have hr' := hC.old; simp at hr'); (first | go_big_op | go_wp2_with fail); exact hK); (case he => first | rfl | (simp [Act.put, *]; done)))
    (apply wpG_p rfl rfl rfl rfl rfl; (intro w' K hK; (first | go_big_op | go_wp2_with fail); exact hK))
    (apply wpG_l rfl rfl rfl rfl rfl; (intro w' K hC hK; (have hr' := hC.old; simp at hr'); (first | go_big_op | go_wp2_with fail); exact hK); (case he => first | rfl | (simp [Act.put, *]; done)))
    (apply wpG_p rfl rfl rfl rfl rfl; (intro w' K hK; (first | go_big_op | go_wp2_with fail); exact hK))
    (apply wpG_p rfl rfl rfl rfl rfl; (intro w' K hK; (first | go_big_op | go_wp2_with fail); exact hK))
    (apply wpG_p rfl rfl rfl rfl rfl; (intro w' K hK; (first | go_big_op | go_wp2_with fail); exact hK))
    (apply wpG_l rfl rfl rfl rfl rfl; (intro w' K hC hK; (have hr' := hC.old; simp at hr'); (first | go_big_op | go_wp2_with fail); exact hK); (case he => first | rfl | (simp [Act.put, *]; done)))
    (apply wpG_p rfl rfl rfl rfl rfl; (intro w' K hK; (first | go_big_op | go_wp2_with fail); exact hK))
    (apply wpG_l rfl rfl rfl rfl rfl; (intro w' K hC hK; (have hr' := hC.old; simp at hr'); (first | go_big_op | go_wp2_with fail); exact hK); (case he => first | rfl | (simp [Act.put, *]; done)))
    (apply wpG_p rfl rfl rfl rfl rfl; (intro w' K hK; (first | go_big_op | go_wp2_with fail); exact hK))
    (apply wpG_l rfl rfl rfl rfl rfl; (intro w' K hC hK; (have hr' := hC.old; simp at hr'); (first | go_big_op | go_wp2_with fail); exact hK); (case he => first | rfl | (simp [Act.put, *]; done)))
    (apply wpG_p rfl rfl rfl rfl rfl; (intro w' K hK; (first | go_big_op | go_wp2_with fail); exact hK))
    (apply wpG_p rfl rfl rfl rfl rfl; (intro w' K hK; (first | go_big_op | go_wp2_with fail); exact hK))
    (apply wpG_l rfl rfl rfl rfl rfl; (intro w' K hC hK; (have hr' := hC.old; simp at hr'); (first | go_big_op | go_wp2_with fail); exact hK); (case he => first | rfl | (simp [Act.put, *]; done)))
    (apply wpG_p rfl rfl rfl rfl rfl; (intro w' K hK; (first | go_big_op | go_wp2_with fail); exact hK))
    (apply wpG_l rfl rfl rfl rfl rfl; (intro w' K hC hK; (have hr' := hC.old; simp at hr'); (first | go_big_op | go_wp2_with fail); exact hK); (case he => first | rfl | (simp [Act.put, *]; done)))
    (apply wpG_p rfl rfl rfl rfl rfl; (intro w' K hK; (first | go_big_op | go_wp2_with fail); exact hK))
    (apply wpG_p rfl rfl rfl rfl rfl; (intro w' K hK; (first | go_big_op | go_wp2_with fail); exact hK))
    (apply wpG_p rfl rfl rfl rfl rfl; (intro w' K hK; (first | go_big_op | go_wp2_with fail); exact hK))
    (apply wpG_l rfl rfl rfl rfl rfl; (intro w' K hC hK; (have hr' := hC.old; simp at hr'); (first | go_big_op | go_wp2_with fail); exact hK); (case he => first | rfl | (simp [Act.put, *]; done)))
    refine wpG_g (d := 26) rfl rfl rfl rfl (by first | exact ⟨_, 0, rfl⟩ | (exact ⟨_, rfl⟩)) (fun w' K hC hK => ?_) (fun v hv => ?_)
    · (have hr' := hC.old; simp at hr'; (first | go_big_op | go_wp2_with fail); (refine Calls.mono (rround16 (A * A' + B * C') _ (by omega) (by omega)) ?_; rintro e w2 ⟨rfl, rfl⟩; exact hK _ _ (by rfl) (Below.refl _ _) trivial))
    obtain rfl := hv
    refine wpG_g (d := 38) rfl rfl rfl rfl (by first | exact ⟨_, 0, rfl⟩ | (exact ⟨_, rfl⟩)) (fun w' K hC hK => ?_) (fun v hv => ?_)
    · (have hr' := hC.old; simp at hr'; (first | go_big_op | go_wp2_with fail); (refine Calls.mono (rround16 (A * B' + B * D') _ (by omega) (by omega)) ?_; rintro e w2 ⟨rfl, rfl⟩; exact hK _ _ (by rfl) (Below.refl _ _) trivial))
    obtain rfl := hv
    refine wpG_g (d := 50) rfl rfl rfl rfl (by first | exact ⟨_, 0, rfl⟩ | (exact ⟨_, rfl⟩)) (fun w' K hC hK => ?_) (fun v hv => ?_)
    · (have hr' := hC.old; simp at hr'; (first | go_big_op | go_wp2_with fail); (refine Calls.mono (rround16 (C * A' + D * C') _ (by omega) (by omega)) ?_; rintro e w2 ⟨rfl, rfl⟩; exact hK _ _ (by rfl) (Below.refl _ _) trivial))
    obtain rfl := hv
    refine wpG_g (d := 62) rfl rfl rfl rfl (by first | exact ⟨_, 0, rfl⟩ | (exact ⟨_, rfl⟩)) (fun w' K hC hK => ?_) (fun v hv => ?_)
    · (have hr' := hC.old; simp at hr'; (first | go_big_op | go_wp2_with fail); (refine Calls.mono (rround16 (C * B' + D * D') _ (by omega) (by omega)) ?_; rintro e w2 ⟨rfl, rfl⟩; exact hK _ _ (by rfl) (Below.refl _ _) trivial))
    obtain rfl := hv
    refine wpG_g (d := 74) rfl rfl rfl rfl (by first | exact ⟨_, 0, rfl⟩ | (exact ⟨_, rfl⟩)) (fun w' K hC hK => ?_) (fun v hv => ?_)
    · (have hr' := hC.old; simp at hr'; (first | go_big_op | go_wp2_with fail); (refine Calls.mono (rround16 (E * A' + F * C') _ (by omega) (by omega)) ?_; rintro e w2 ⟨rfl, rfl⟩; exact hK _ _ (by rfl) (Below.refl _ _) trivial))
    obtain rfl := hv
    (apply wpG_p rfl rfl rfl rfl rfl; (intro w' K hK; (first | go_big_op | go_wp2_with fail); exact hK))
    refine wpG_g (d := 89) rfl rfl rfl rfl (by first | exact ⟨_, 0, rfl⟩ | (exact ⟨_, rfl⟩)) (fun w' K hC hK => ?_) (fun v hv => ?_)
    · (have hr' := hC.old; simp at hr'; (first | go_big_op | go_wp2_with fail); (refine Calls.mono (rround16 (E * B' + F * D') _ (by omega) (by omega)) ?_; rintro e w2 ⟨rfl, rfl⟩; exact hK _ _ (by rfl) (Below.refl _ _) trivial))
    obtain rfl := hv
    (apply wpG_p rfl rfl rfl rfl rfl; (intro w' K hK; (first | go_big_op | go_wp2_with fail); exact hK))
    (apply wpG_p rfl rfl rfl rfl rfl; (intro w' K hK; (first | go_big_op | go_wp2_with fail); exact hK))
    refine wpG_g (d := 94) rfl rfl rfl rfl (by first | exact ⟨_, 0, rfl⟩ | (exact ⟨_, rfl⟩)) (fun w' K hC hK => ?_) (fun v hv => ?_)
    · (have hr' := hC.old; simp at hr'; (first | go_big_op | go_wp2_with fail); (refine Calls.mono (rend_any _ _ _ _ _ _ _) ?_; rintro e w2 ⟨rfl, hb2⟩; exact hK _ _ (by rfl) hb2 trivial))
    obtain rfl := hv
    (apply wpG_p rfl rfl rfl rfl rfl; (intro w' K hK; (first | go_big_op | go_wp2_with fail); exact hK))
    (apply wpG_p rfl rfl rfl rfl rfl; (intro w' K hK; (first | go_big_op | go_wp2_with fail); exact hK))
    refine wpG_nil (fun wz hB1 hG hD => ?_)
    clear hG hD; have hqz := rw_below (k := w.heap.size + 2) hB1 (by with_reducible repeat (first | assumption | (refine rw_new ?e_; case e_ => first | rfl | (simp; done) | (simp; omega)) | apply rw_self | (apply rw_other; case hn => first | omega | (simp; omega)) | apply rw_alloc | apply rw_drew | apply rw_drewN)); have hBz : Below w.heap.size w wz := below_then (w := w) (by with_reducible repeat (first | exact Below.refl _ _ | assumption | ((first | refine Below.alloc ?_ ?b_ _ | refine bw_set ?_ ?b_ | refine Below.setCell ?_ ?b_ _); case b_ => first | omega | (simp; done) | (simp; omega)) | refine Below.drew ?_ | refine below_drewN ?_ _)) (by first | omega | (simp; omega)) hB1
    (try clear hD)
    refine wpOrd_e1 rfl rfl (fun K hK => ?_)
    refine wp_store_row 25 _ _ rfl (w.heap.size + 2) _ rfl rfl _ _ hqz (by kernel_rfl) rfl (by kernel_rfl) ?_; refine hK _ _ trivial ?_; clear hK K
    (apply wpOrd_p2 rfl rfl rfl rfl rfl; (intro w' K hK; (first | go_big_move | go_big_op | go_wp2_with fail); exact hK))
    refine wpOrd_nil ?_
    skip
    go_wp2_with ((with_reducible refine rw_list ?_); (first | ((with_reducible apply wpList_load_cell); (case ho => with_reducible rfl); (case hgd => with_reducible rfl); (case hx => rfl); (case hu => first | exact Try.underlying25 | exact Try.underlying73 | exact Try.underlying31 | exact Try.underlying3); (case hd => rfl)) | ((with_reducible apply wpList_load_row); (case ho => with_reducible rfl); (case hgd => with_reducible rfl); (case hx => rfl); (case hu => first | exact Try.underlying25 | exact Try.underlying73 | exact Try.underlying31 | exact Try.underlying3); (case hd => rfl)) | ((with_reducible apply wpList_store_row); (case ho => with_reducible rfl); (case hgd => with_reducible rfl); (case hx => rfl); (case hy => rfl)) | ((with_reducible apply wpList_store_cell); (case ho => with_reducible rfl); (case hgd => with_reducible rfl); (case hx => rfl); (case hy => first | exact ev_const | exact ev_tmp rfl); (case h1 => rfl))); (case hg => exact (by with_reducible repeat (first | assumption | (refine rw_new ?e_; case e_ => first | rfl | (simp; done) | (simp; omega)) | apply rw_self | (apply rw_other; case hn => first | omega | (simp; omega)) | apply rw_alloc | apply rw_drew | apply rw_drewN))); (try case hv => rfl); (try case hi => kernel_rfl); (try case hold => rfl); (try case h1 => kernel_rfl); (try case hlt => rfl); (try case hcs => ((try simp only [List.setIfInBounds_toArray, List.set_cons_succ, List.set_cons_zero]); rfl)))
    exact bodyPost_ret (v := _) (results_cell_tmp Try.results34 _ _ _ _ _ _ _ (by rfl) (by with_reducible repeat (first | assumption | (refine rw_new ?e_; case e_ => first | rfl | (simp; done) | (simp; omega)) | apply rw_self | (apply rw_other; case hn => first | omega | (simp; omega)) | apply rw_alloc | apply rw_drew | apply rw_drewN)) Try.underlying25 rfl (by kernel_rfl)) rfl ⟨rfl, (by with_reducible repeat (first | exact Below.refl _ _ | assumption | ((first | refine Below.alloc ?_ ?b_ _ | refine bw_set ?_ ?b_ | refine Below.setCell ?_ ?b_ _); case b_ => first | omega | (simp; done) | (simp; omega)) | refine Below.drew ?_ | refine below_drewN ?_ _))⟩
  · rw [(ccB_f hh).1, (ccB_f hh).2]
    simp only [zif_f]
    by_cases h : mOk A B C D E F
    · have h' : ¬ mOk A' B' C' D' E' F' := fun h' => hh ⟨h, h'⟩
      have HE := Lib.hid (mOkB_t h)
      have HE' := Lib.hid (mOkB_f h')
      go_enter Try.func34, Try.ntmps34
      go_wp2_with ((with_reducible refine rw_list ?_); (first | ((with_reducible apply wpList_load_cell); (case ho => with_reducible rfl); (case hgd => with_reducible rfl); (case hx => rfl); (case hu => first | exact Try.underlying25 | exact Try.underlying73 | exact Try.underlying31 | exact Try.underlying3); (case hd => rfl)) | ((with_reducible apply wpList_load_row); (case ho => with_reducible rfl); (case hgd => with_reducible rfl); (case hx => rfl); (case hu => first | exact Try.underlying25 | exact Try.underlying73 | exact Try.underlying31 | exact Try.underlying3); (case hd => rfl)) | ((with_reducible apply wpList_store_row); (case ho => with_reducible rfl); (case hgd => with_reducible rfl); (case hx => rfl); (case hy => rfl)) | ((with_reducible apply wpList_store_cell); (case ho => with_reducible rfl); (case hgd => with_reducible rfl); (case hx => rfl); (case hy => first | exact ev_const | exact ev_tmp rfl); (case h1 => rfl))); (case hg => exact (by with_reducible repeat (first | assumption | (refine rw_new ?e_; case e_ => first | rfl | (simp; done) | (simp; omega)) | apply rw_self | (apply rw_other; case hn => first | omega | (simp; omega)) | apply rw_alloc | apply rw_drew | apply rw_drewN))); (try case hv => rfl); (try case hi => kernel_rfl); (try case hold => rfl); (try case h1 => kernel_rfl); (try case hlt => rfl); (try case hcs => ((try simp only [List.setIfInBounds_toArray, List.set_cons_succ, List.set_cons_zero]); rfl)))
      refine (rright_any _ _ _ _ _ _ _).mono ?_
      rintro e w1 ⟨rfl, hb⟩
      have hs_w1 := hb.size
      (try simp at hs_w1)
      have hB_w1 : Below w.heap.size w w1 := below_then (w := w) (by with_reducible repeat (first | exact Below.refl _ _ | assumption | ((first | refine Below.alloc ?_ ?b_ _ | refine bw_set ?_ ?b_ | refine Below.setCell ?_ ?b_ _); case b_ => first | omega | (simp; done) | (simp; omega)) | refine Below.drew ?_ | refine below_drewN ?_ _)) (by first | omega | (simp; done) | (simp; omega) | (have hq_ := hb.size; omega)) hb
      have hx_ := rw_below (k := w.heap.size + 1) hb (by with_reducible repeat (first | assumption | (refine rw_new ?e_; case e_ => first | rfl | (simp; done) | (simp; omega)) | apply rw_self | (apply rw_other; case hn => first | omega | (simp; omega)) | apply rw_alloc | apply rw_drew | apply rw_drewN))
      (try clear hn)
      (try clear hnc0 hnc1 hnc2 hnc3 hnc4 hnc5)
      have hn := hx_
      clear hx_
      obtain ⟨hnc0, hnc1, hnc2, hnc3, hnc4, hnc5⟩ := cel6 hn
      have hx_ := rw_below (k := w.heap.size + 2) hb (by with_reducible repeat (first | assumption | (refine rw_new ?e_; case e_ => first | rfl | (simp; done) | (simp; omega)) | apply rw_self | (apply rw_other; case hn => first | omega | (simp; omega)) | apply rw_alloc | apply rw_drew | apply rw_drewN))
      (try clear hq)
      have hq := hx_
      clear hx_
      clear hb
      rw [HE.out]
      go_wp2_with ((with_reducible refine rw_list ?_); (first | ((with_reducible apply wpList_load_cell); (case ho => with_reducible rfl); (case hgd => with_reducible rfl); (case hx => rfl); (case hu => first | exact Try.underlying25 | exact Try.underlying73 | exact Try.underlying31 | exact Try.underlying3); (case hd => rfl)) | ((with_reducible apply wpList_load_row); (case ho => with_reducible rfl); (case hgd => with_reducible rfl); (case hx => rfl); (case hu => first | exact Try.underlying25 | exact Try.underlying73 | exact Try.underlying31 | exact Try.underlying3); (case hd => rfl)) | ((with_reducible apply wpList_store_row); (case ho => with_reducible rfl); (case hgd => with_reducible rfl); (case hx => rfl); (case hy => rfl)) | ((with_reducible apply wpList_store_cell); (case ho => with_reducible rfl); (case hgd => with_reducible rfl); (case hx => rfl); (case hy => first | exact ev_const | exact ev_tmp rfl); (case h1 => rfl))); (case hg => exact (by with_reducible repeat (first | assumption | (refine rw_new ?e_; case e_ => first | rfl | (simp; done) | (simp; omega)) | apply rw_self | (apply rw_other; case hn => first | omega | (simp; omega)) | apply rw_alloc | apply rw_drew | apply rw_drewN))); (try case hv => rfl); (try case hi => kernel_rfl); (try case hold => rfl); (try case h1 => kernel_rfl); (try case hlt => rfl); (try case hcs => ((try simp only [List.setIfInBounds_toArray, List.set_cons_succ, List.set_cons_zero]); rfl)))
      refine (rright_any _ _ _ _ _ _ _).mono ?_
      rintro e w2 ⟨rfl, hb⟩
      have hs_w2 := hb.size
      (try simp at hs_w2)
      have hB_w2 : Below w.heap.size w w2 := below_then (w := w) (by with_reducible repeat (first | exact Below.refl _ _ | assumption | ((first | refine Below.alloc ?_ ?b_ _ | refine bw_set ?_ ?b_ | refine Below.setCell ?_ ?b_ _); case b_ => first | omega | (simp; done) | (simp; omega)) | refine Below.drew ?_ | refine below_drewN ?_ _)) (by first | omega | (simp; done) | (simp; omega) | (have hq_ := hb.size; omega)) hb
      have hx_ := rw_below (k := w.heap.size + 2) hb (by with_reducible repeat (first | assumption | (refine rw_new ?e_; case e_ => first | rfl | (simp; done) | (simp; omega)) | apply rw_self | (apply rw_other; case hn => first | omega | (simp; omega)) | apply rw_alloc | apply rw_drew | apply rw_drewN))
      (try clear hq)
      have hq := hx_
      clear hx_
      clear hb
      rw [HE'.out]
      go_wp2_with ((with_reducible refine rw_list ?_); (first | ((with_reducible apply wpList_load_cell); (case ho => with_reducible rfl); (case hgd => with_reducible rfl); (case hx => rfl); (case hu => first | exact Try.underlying25 | exact Try.underlying73 | exact Try.underlying31 | exact Try.underlying3); (case hd => rfl)) | ((with_reducible apply wpList_load_row); (case ho => with_reducible rfl); (case hgd => with_reducible rfl); (case hx => rfl); (case hu => first | exact Try.underlying25 | exact Try.underlying73 | exact Try.underlying31 | exact Try.underlying3); (case hd => rfl)) | ((with_reducible apply wpList_store_row); (case ho => with_reducible rfl); (case hgd => with_reducible rfl); (case hx => rfl); (case hy => rfl)) | ((with_reducible apply wpList_store_cell); (case ho => with_reducible rfl); (case hgd => with_reducible rfl); (case hx => rfl); (case hy => first | exact ev_const | exact ev_tmp rfl); (case h1 => rfl))); (case hg => exact (by with_reducible repeat (first | assumption | (refine rw_new ?e_; case e_ => first | rfl | (simp; done) | (simp; omega)) | apply rw_self | (apply rw_other; case hn => first | omega | (simp; omega)) | apply rw_alloc | apply rw_drew | apply rw_drewN))); (try case hv => rfl); (try case hi => kernel_rfl); (try case hold => rfl); (try case h1 => kernel_rfl); (try case hlt => rfl); (try case hcs => ((try simp only [List.setIfInBounds_toArray, List.set_cons_succ, List.set_cons_zero]); rfl)))
      exact bodyPost_ret (v := _) (results_cell_tmp Try.results34 _ _ _ _ _ _ _ (by rfl) (by with_reducible repeat (first | assumption | (refine rw_new ?e_; case e_ => first | rfl | (simp; done) | (simp; omega)) | apply rw_self | (apply rw_other; case hn => first | omega | (simp; omega)) | apply rw_alloc | apply rw_drew | apply rw_drewN)) Try.underlying25 rfl (by kernel_rfl)) rfl ⟨rfl, (by with_reducible repeat (first | exact Below.refl _ _ | assumption | ((first | refine Below.alloc ?_ ?b_ _ | refine bw_set ?_ ?b_ | refine Below.setCell ?_ ?b_ _); case b_ => first | omega | (simp; done) | (simp; omega)) | refine Below.drew ?_ | refine below_drewN ?_ _))⟩
    · have HE := Lib.hid (mOkB_f h)
      go_enter Try.func34, Try.ntmps34
      go_wp2_with ((with_reducible refine rw_list ?_); (first | ((with_reducible apply wpList_load_cell); (case ho => with_reducible rfl); (case hgd => with_reducible rfl); (case hx => rfl); (case hu => first | exact Try.underlying25 | exact Try.underlying73 | exact Try.underlying31 | exact Try.underlying3); (case hd => rfl)) | ((with_reducible apply wpList_load_row); (case ho => with_reducible rfl); (case hgd => with_reducible rfl); (case hx => rfl); (case hu => first | exact Try.underlying25 | exact Try.underlying73 | exact Try.underlying31 | exact Try.underlying3); (case hd => rfl)) | ((with_reducible apply wpList_store_row); (case ho => with_reducible rfl); (case hgd => with_reducible rfl); (case hx => rfl); (case hy => rfl)) | ((with_reducible apply wpList_store_cell); (case ho => with_reducible rfl); (case hgd => with_reducible rfl); (case hx => rfl); (case hy => first | exact ev_const | exact ev_tmp rfl); (case h1 => rfl))); (case hg => exact (by with_reducible repeat (first | assumption | (refine rw_new ?e_; case e_ => first | rfl | (simp; done) | (simp; omega)) | apply rw_self | (apply rw_other; case hn => first | omega | (simp; omega)) | apply rw_alloc | apply rw_drew | apply rw_drewN))); (try case hv => rfl); (try case hi => kernel_rfl); (try case hold => rfl); (try case h1 => kernel_rfl); (try case hlt => rfl); (try case hcs => ((try simp only [List.setIfInBounds_toArray, List.set_cons_succ, List.set_cons_zero]); rfl)))
      refine (rright_any _ _ _ _ _ _ _).mono ?_
      rintro e w1 ⟨rfl, hb⟩
      have hs_w1 := hb.size
      (try simp at hs_w1)
      have hB_w1 : Below w.heap.size w w1 := below_then (w := w) (by with_reducible repeat (first | exact Below.refl _ _ | assumption | ((first | refine Below.alloc ?_ ?b_ _ | refine bw_set ?_ ?b_ | refine Below.setCell ?_ ?b_ _); case b_ => first | omega | (simp; done) | (simp; omega)) | refine Below.drew ?_ | refine below_drewN ?_ _)) (by first | omega | (simp; done) | (simp; omega) | (have hq_ := hb.size; omega)) hb
      have hx_ := rw_below (k := w.heap.size + 2) hb (by with_reducible repeat (first | assumption | (refine rw_new ?e_; case e_ => first | rfl | (simp; done) | (simp; omega)) | apply rw_self | (apply rw_other; case hn => first | omega | (simp; omega)) | apply rw_alloc | apply rw_drew | apply rw_drewN))
      (try clear hq)
      have hq := hx_
      clear hx_
      clear hb
      rw [HE.out]
      go_wp2_with ((with_reducible refine rw_list ?_); (first | ((with_reducible apply wpList_load_cell); (case ho => with_reducible rfl); (case hgd => with_reducible rfl); (case hx => rfl); (case hu => first | exact Try.underlying25 | exact Try.underlying73 | exact Try.underlying31 | exact Try.underlying3); (case hd => rfl)) | ((with_reducible apply wpList_load_row); (case ho => with_reducible rfl); (case hgd => with_reducible rfl); (case hx => rfl); (case hu => first | exact Try.underlying25 | exact Try.underlying73 | exact Try.underlying31 | exact Try.underlying3); (case hd => rfl)) | ((with_reducible apply wpList_store_row); (case ho => with_reducible rfl); (case hgd => with_reducible rfl); (case hx => rfl); (case hy => rfl)) | ((with_reducible apply wpList_store_cell); (case ho => with_reducible rfl); (case hgd => with_reducible rfl); (case hx => rfl); (case hy => first | exact ev_const | exact ev_tmp rfl); (case h1 => rfl))); (case hg => exact (by with_reducible repeat (first | assumption | (refine rw_new ?e_; case e_ => first | rfl | (simp; done) | (simp; omega)) | apply rw_self | (apply rw_other; case hn => first | omega | (simp; omega)) | apply rw_alloc | apply rw_drew | apply rw_drewN))); (try case hv => rfl); (try case hi => kernel_rfl); (try case hold => rfl); (try case h1 => kernel_rfl); (try case hlt => rfl); (try case hcs => ((try simp only [List.setIfInBounds_toArray, List.set_cons_succ, List.set_cons_zero]); rfl)))
      exact bodyPost_ret (v := _) (results_cell_tmp Try.results34 _ _ _ _ _ _ _ (by rfl) (by with_reducible repeat (first | assumption | (refine rw_new ?e_; case e_ => first | rfl | (simp; done) | (simp; omega)) | apply rw_self | (apply rw_other; case hn => first | omega | (simp; omega)) | apply rw_alloc | apply rw_drew | apply rw_drewN)) Try.underlying25 rfl (by kernel_rfl)) rfl ⟨rfl, (by with_reducible repeat (first | exact Below.refl _ _ | assumption | ((first | refine Below.alloc ?_ ?b_ _ | refine bw_set ?_ ?b_ | refine Below.setCell ?_ ?b_ _); case b_ => first | omega | (simp; done) | (simp; omega)) | refine Below.drew ?_ | refine below_drewN ?_ _))⟩
end Go.Proofs.Ytpgaibkjokoanaa.T3
