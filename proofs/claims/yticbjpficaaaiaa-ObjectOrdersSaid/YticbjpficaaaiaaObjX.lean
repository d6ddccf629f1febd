/- object.Compare and KindName return what the plain forms tell. -/
import Derived.Test.YticbjpficaaaiaaObjW
import Derived.WalkKit
import Derived.Lib.Hide
import Derived.Deep.QuietTactic
import Derived.BigQuiet
import Derived.Lib.QuietBelow
import Derived.Deep.RegionHeld3
import Derived.WalkLawsBesides
import Derived.WalkSpells
import Derived.Outline
import Derived.Deep.DeepFit
import Derived.Maps.AppendAt
import Derived.Deep.AppendLies
namespace Go.Proofs.Yticbjpficaaaiaa.T3
set_option linter.unusedSimpArgs false
set_option linter.unusedVariables false
open Go.RowKit
set_option maxHeartbeats 1000000
theorem ocmp_noa (k : Int) (X : Bool) (N : Int) (S : ByteArray) (R O L : Int) (k' : Int) (X' : Bool) (N' : Int) (S' : ByteArray) (R' O' L' : Int) (w : World) (h : ¬ okO k N S.size R O L) :
    Calls Try.prog 17 #[.agg #[.int .i64 k, .bool X, .int .i64 N, .string S, .int .i64 R, .int .i64 O, .int .i64 L], .agg #[.int .i64 k', .bool X', .int .i64 N', .string S', .int .i64 R', .int .i64 O', .int .i64 L']] w fun e w' => e = .returned (.tuple #[.int .i64 0, .int .i64 200]) ∧ Below w.heap.size w w' := by
  have HV := Lib.hid (show oErr k N S R O L = 200 from if_neg h)
  all_goals go_enter Try.func17, Try.ntmps17
  all_goals go_wp2_with ((with_reducible refine rw_list ?_); (first | ((with_reducible apply wpList_load_cell); (case ho => with_reducible rfl); (case hgd => with_reducible rfl); (case hx => rfl); (case hu => first | exact Try.underlying23 | exact Try.underlying61 | exact Try.underlying3 | exact Try.underlying4 | exact Try.underlying9 | exact Try.underlying25); (case hd => rfl)) | ((with_reducible apply wpList_load_row); (case ho => with_reducible rfl); (case hgd => with_reducible rfl); (case hx => rfl); (case hu => first | exact Try.underlying23 | exact Try.underlying61 | exact Try.underlying3 | exact Try.underlying4 | exact Try.underlying9 | exact Try.underlying25); (case hd => rfl)) | ((with_reducible apply wpList_store_row); (case ho => with_reducible rfl); (case hgd => with_reducible rfl); (case hx => rfl); (case hy => rfl)) | ((with_reducible apply wpList_store_cell); (case ho => with_reducible rfl); (case hgd => with_reducible rfl); (case hx => rfl); (case hy => first | exact ev_const | exact ev_tmp rfl); (case h1 => rfl))); (case hg => exact (by with_reducible repeat (first | assumption | (refine rw_new ?e_; case e_ => first | rfl | (simp; done) | (simp; omega)) | apply rw_self | (apply rw_other; case hn => first | omega | (simp; omega)) | apply rw_alloc | apply rw_drew | apply rw_drewN))); (try case hv => rfl); (try case hi => kernel_rfl); (try case hold => rfl); (try case h1 => kernel_rfl); (try case hlt => rfl); (try case hcs => ((try simp only [List.setIfInBounds_toArray, List.set_cons_succ, List.set_cons_zero]); rfl)))
  all_goals refine (ocheck_any _ _ _ _ _ _ _ _).mono ?_
  all_goals rintro e w1 ⟨rfl, hb⟩
  all_goals have hs_w1 := hb.size
  all_goals (try simp at hs_w1)
  all_goals have hB_w1 : Below w.heap.size w w1 := below_then (w := w) (by with_reducible repeat (first | exact Below.refl _ _ | assumption | ((first | refine Below.alloc ?_ ?b_ _ | refine bw_set ?_ ?b_ | refine Below.setCell ?_ ?b_ _); case b_ => first | omega | (simp; done) | (simp; omega)) | refine Below.drew ?_ | refine below_drewN ?_ _)) (by first | omega | (simp; done) | (simp; omega) | (have hq_ := hb.size; omega)) hb
  all_goals have hx_ := rw_below (k := w.heap.size) hb (by with_reducible repeat (first | assumption | (refine rw_new ?e_; case e_ => first | rfl | (simp; done) | (simp; omega)) | apply rw_self | (apply rw_other; case hn => first | omega | (simp; omega)) | apply rw_alloc | apply rw_drew | apply rw_drewN))
  all_goals (try clear hp)
  all_goals (try clear hpc0 hpc1 hpc2 hpc3 hpc4 hpc5 hpc6)
  all_goals have hp := hx_
  all_goals clear hx_
  all_goals obtain ⟨hpc0, hpc1, hpc2, hpc3, hpc4, hpc5, hpc6⟩ := cel7 hp
  all_goals have hx_ := rw_below (k := w.heap.size + 1) hb (by with_reducible repeat (first | assumption | (refine rw_new ?e_; case e_ => first | rfl | (simp; done) | (simp; omega)) | apply rw_self | (apply rw_other; case hn => first | omega | (simp; omega)) | apply rw_alloc | apply rw_drew | apply rw_drewN))
  all_goals (try clear hq)
  all_goals (try clear hqc0 hqc1 hqc2 hqc3 hqc4 hqc5 hqc6)
  all_goals have hq := hx_
  all_goals clear hx_
  all_goals obtain ⟨hqc0, hqc1, hqc2, hqc3, hqc4, hqc5, hqc6⟩ := cel7 hq
  all_goals clear hb
  all_goals rw [HV.out]
  all_goals go_wp2_with ((with_reducible refine rw_list ?_); (first | ((with_reducible apply wpList_load_cell); (case ho => with_reducible rfl); (case hgd => with_reducible rfl); (case hx => rfl); (case hu => first | exact Try.underlying23 | exact Try.underlying61 | exact Try.underlying3 | exact Try.underlying4 | exact Try.underlying9 | exact Try.underlying25); (case hd => rfl)) | ((with_reducible apply wpList_load_row); (case ho => with_reducible rfl); (case hgd => with_reducible rfl); (case hx => rfl); (case hu => first | exact Try.underlying23 | exact Try.underlying61 | exact Try.underlying3 | exact Try.underlying4 | exact Try.underlying9 | exact Try.underlying25); (case hd => rfl)) | ((with_reducible apply wpList_store_row); (case ho => with_reducible rfl); (case hgd => with_reducible rfl); (case hx => rfl); (case hy => rfl)) | ((with_reducible apply wpList_store_cell); (case ho => with_reducible rfl); (case hgd => with_reducible rfl); (case hx => rfl); (case hy => first | exact ev_const | exact ev_tmp rfl); (case h1 => rfl))); (case hg => exact (by with_reducible repeat (first | assumption | (refine rw_new ?e_; case e_ => first | rfl | (simp; done) | (simp; omega)) | apply rw_self | (apply rw_other; case hn => first | omega | (simp; omega)) | apply rw_alloc | apply rw_drew | apply rw_drewN))); (try case hv => rfl); (try case hi => kernel_rfl); (try case hold => rfl); (try case h1 => kernel_rfl); (try case hlt => rfl); (try case hcs => ((try simp only [List.setIfInBounds_toArray, List.set_cons_succ, List.set_cons_zero]); rfl)))
  all_goals exact bodyPost_ret (v := .tuple #[.int .i64 0, .int .i64 200]) (by simp [results, Try.results17, go_sem]) rfl ⟨rfl, (by with_reducible repeat (first | exact Below.refl _ _ | assumption | ((first | refine Below.alloc ?_ ?b_ _ | refine bw_set ?_ ?b_ | refine Below.setCell ?_ ?b_ _); case b_ => first | omega | (simp; done) | (simp; omega)) | refine Below.drew ?_ | refine below_drewN ?_ _))⟩
theorem ocmp_nob (k : Int) (X : Bool) (N : Int) (S : ByteArray) (R O L : Int) (k' : Int) (X' : Bool) (N' : Int) (S' : ByteArray) (R' O' L' : Int) (w : World) (h : okO k N S.size R O L) (h' : ¬ okO k' N' S'.size R' O' L') :
    Calls Try.prog 17 #[.agg #[.int .i64 k, .bool X, .int .i64 N, .string S, .int .i64 R, .int .i64 O, .int .i64 L], .agg #[.int .i64 k', .bool X', .int .i64 N', .string S', .int .i64 R', .int .i64 O', .int .i64 L']] w fun e w' => e = .returned (.tuple #[.int .i64 0, .int .i64 200]) ∧ Below w.heap.size w w' := by
  have HV := Lib.hid (show oErr k N S R O L = 0 from if_pos h)
  have HW := Lib.hid (show oErr k' N' S' R' O' L' = 200 from if_neg h')
  all_goals go_enter Try.func17, Try.ntmps17
  all_goals go_wp2_with ((with_reducible refine rw_list ?_); (first | ((with_reducible apply wpList_load_cell); (case ho => with_reducible rfl); (case hgd => with_reducible rfl); (case hx => rfl); (case hu => first | exact Try.underlying23 | exact Try.underlying61 | exact Try.underlying3 | exact Try.underlying4 | exact Try.underlying9 | exact Try.underlying25); (case hd => rfl)) | ((with_reducible apply wpList_load_row); (case ho => with_reducible rfl); (case hgd => with_reducible rfl); (case hx => rfl); (case hu => first | exact Try.underlying23 | exact Try.underlying61 | exact Try.underlying3 | exact Try.underlying4 | exact Try.underlying9 | exact Try.underlying25); (case hd => rfl)) | ((with_reducible apply wpList_store_row); (case ho => with_reducible rfl); (case hgd => with_reducible rfl); (case hx => rfl); (case hy => rfl)) | ((with_reducible apply wpList_store_cell); (case ho => with_reducible rfl); (case hgd => with_reducible rfl); (case hx => rfl); (case hy => first | exact ev_const | exact ev_tmp rfl); (case h1 => rfl))); (case hg => exact (by with_reducible repeat (first | assumption | (refine rw_new ?e_; case e_ => first | rfl | (simp; done) | (simp; omega)) | apply rw_self | (apply rw_other; case hn => first | omega | (simp; omega)) | apply rw_alloc | apply rw_drew | apply rw_drewN))); (try case hv => rfl); (try case hi => kernel_rfl); (try case hold => rfl); (try case h1 => kernel_rfl); (try case hlt => rfl); (try case hcs => ((try simp only [List.setIfInBounds_toArray, List.set_cons_succ, List.set_cons_zero]); rfl)))
  all_goals refine (ocheck_any _ _ _ _ _ _ _ _).mono ?_
  all_goals rintro e w1 ⟨rfl, hb⟩
  all_goals have hs_w1 := hb.size
  all_goals (try simp at hs_w1)
  all_goals have hB_w1 : Below w.heap.size w w1 := below_then (w := w) (by with_reducible repeat (first | exact Below.refl _ _ | assumption | ((first | refine Below.alloc ?_ ?b_ _ | refine bw_set ?_ ?b_ | refine Below.setCell ?_ ?b_ _); case b_ => first | omega | (simp; done) | (simp; omega)) | refine Below.drew ?_ | refine below_drewN ?_ _)) (by first | omega | (simp; done) | (simp; omega) | (have hq_ := hb.size; omega)) hb
  all_goals have hx_ := rw_below (k := w.heap.size) hb (by with_reducible repeat (first | assumption | (refine rw_new ?e_; case e_ => first | rfl | (simp; done) | (simp; omega)) | apply rw_self | (apply rw_other; case hn => first | omega | (simp; omega)) | apply rw_alloc | apply rw_drew | apply rw_drewN))
  all_goals (try clear hp)
  all_goals (try clear hpc0 hpc1 hpc2 hpc3 hpc4 hpc5 hpc6)
  all_goals have hp := hx_
  all_goals clear hx_
  all_goals obtain ⟨hpc0, hpc1, hpc2, hpc3, hpc4, hpc5, hpc6⟩ := cel7 hp
  all_goals have hx_ := rw_below (k := w.heap.size + 1) hb (by with_reducible repeat (first | assumption | (refine rw_new ?e_; case e_ => first | rfl | (simp; done) | (simp; omega)) | apply rw_self | (apply rw_other; case hn => first | omega | (simp; omega)) | apply rw_alloc | apply rw_drew | apply rw_drewN))
  all_goals (try clear hq)
  all_goals (try clear hqc0 hqc1 hqc2 hqc3 hqc4 hqc5 hqc6)
  all_goals have hq := hx_
  all_goals clear hx_
  all_goals obtain ⟨hqc0, hqc1, hqc2, hqc3, hqc4, hqc5, hqc6⟩ := cel7 hq
  all_goals clear hb
  all_goals rw [HV.out]
  all_goals go_wp2_with ((with_reducible refine rw_list ?_); (first | ((with_reducible apply wpList_load_cell); (case ho => with_reducible rfl); (case hgd => with_reducible rfl); (case hx => rfl); (case hu => first | exact Try.underlying23 | exact Try.underlying61 | exact Try.underlying3 | exact Try.underlying4 | exact Try.underlying9 | exact Try.underlying25); (case hd => rfl)) | ((with_reducible apply wpList_load_row); (case ho => with_reducible rfl); (case hgd => with_reducible rfl); (case hx => rfl); (case hu => first | exact Try.underlying23 | exact Try.underlying61 | exact Try.underlying3 | exact Try.underlying4 | exact Try.underlying9 | exact Try.underlying25); (case hd => rfl)) | ((with_reducible apply wpList_store_row); (case ho => with_reducible rfl); (case hgd => with_reducible rfl); (case hx => rfl); (case hy => rfl)) | ((with_reducible apply wpList_store_cell); (case ho => with_reducible rfl); (case hgd => with_reducible rfl); (case hx => rfl); (case hy => first | exact ev_const | exact ev_tmp rfl); (case h1 => rfl))); (case hg => exact (by with_reducible repeat (first | assumption | (refine rw_new ?e_; case e_ => first | rfl | (simp; done) | (simp; omega)) | apply rw_self | (apply rw_other; case hn => first | omega | (simp; omega)) | apply rw_alloc | apply rw_drew | apply rw_drewN))); (try case hv => rfl); (try case hi => kernel_rfl); (try case hold => rfl); (try case h1 => kernel_rfl); (try case hlt => rfl); (try case hcs => ((try simp only [List.setIfInBounds_toArray, List.set_cons_succ, List.set_cons_zero]); rfl)))
  all_goals refine (ocheck_any _ _ _ _ _ _ _ _).mono ?_
  all_goals rintro e w2 ⟨rfl, hb⟩
  all_goals have hs_w2 := hb.size
  all_goals (try simp at hs_w2)
  all_goals have hB_w2 : Below w.heap.size w w2 := below_then (w := w) (by with_reducible repeat (first | exact Below.refl _ _ | assumption | ((first | refine Below.alloc ?_ ?b_ _ | refine bw_set ?_ ?b_ | refine Below.setCell ?_ ?b_ _); case b_ => first | omega | (simp; done) | (simp; omega)) | refine Below.drew ?_ | refine below_drewN ?_ _)) (by first | omega | (simp; done) | (simp; omega) | (have hq_ := hb.size; omega)) hb
  all_goals have hx_ := rw_below (k := w.heap.size) hb (by with_reducible repeat (first | assumption | (refine rw_new ?e_; case e_ => first | rfl | (simp; done) | (simp; omega)) | apply rw_self | (apply rw_other; case hn => first | omega | (simp; omega)) | apply rw_alloc | apply rw_drew | apply rw_drewN))
  all_goals (try clear hp)
  all_goals (try clear hpc0 hpc1 hpc2 hpc3 hpc4 hpc5 hpc6)
  all_goals have hp := hx_
  all_goals clear hx_
  all_goals obtain ⟨hpc0, hpc1, hpc2, hpc3, hpc4, hpc5, hpc6⟩ := cel7 hp
  all_goals have hx_ := rw_below (k := w.heap.size + 1) hb (by with_reducible repeat (first | assumption | (refine rw_new ?e_; case e_ => first | rfl | (simp; done) | (simp; omega)) | apply rw_self | (apply rw_other; case hn => first | omega | (simp; omega)) | apply rw_alloc | apply rw_drew | apply rw_drewN))
  all_goals (try clear hq)
  all_goals (try clear hqc0 hqc1 hqc2 hqc3 hqc4 hqc5 hqc6)
  all_goals have hq := hx_
  all_goals clear hx_
  all_goals obtain ⟨hqc0, hqc1, hqc2, hqc3, hqc4, hqc5, hqc6⟩ := cel7 hq
  all_goals clear hb
  all_goals rw [HW.out]
  all_goals go_wp2_with ((with_reducible refine rw_list ?_); (first | ((with_reducible apply wpList_load_cell); (case ho => with_reducible rfl); (case hgd => with_reducible rfl); (case hx => rfl); (case hu => first | exact Try.underlying23 | exact Try.underlying61 | exact Try.underlying3 | exact Try.underlying4 | exact Try.underlying9 | exact Try.underlying25); (case hd => rfl)) | ((with_reducible apply wpList_load_row); (case ho => with_reducible rfl); (case hgd => with_reducible rfl); (case hx => rfl); (case hu => first | exact Try.underlying23 | exact Try.underlying61 | exact Try.underlying3 | exact Try.underlying4 | exact Try.underlying9 | exact Try.underlying25); (case hd => rfl)) | ((with_reducible apply wpList_store_row); (case ho => with_reducible rfl); (case hgd => with_reducible rfl); (case hx => rfl); (case hy => rfl)) | ((with_reducible apply wpList_store_cell); (case ho => with_reducible rfl); (case hgd => with_reducible rfl); (case hx => rfl); (case hy => first | exact ev_const | exact ev_tmp rfl); (case h1 => rfl))); (case hg => exact (by with_reducible repeat (first | assumption | (refine rw_new ?e_; case e_ => first | rfl | (simp; done) | (simp; omega)) | apply rw_self | (apply rw_other; case hn => first | omega | (simp; omega)) | apply rw_alloc | apply rw_drew | apply rw_drewN))); (try case hv => rfl); (try case hi => kernel_rfl); (try case hold => rfl); (try case h1 => kernel_rfl); (try case hlt => rfl); (try case hcs => ((try simp only [List.setIfInBounds_toArray, List.set_cons_succ, List.set_cons_zero]); rfl)))
  all_goals exact bodyPost_ret (v := .tuple #[.int .i64 0, .int .i64 200]) (by simp [results, Try.results17, go_sem]) rfl ⟨rfl, (by with_reducible repeat (first | exact Below.refl _ _ | assumption | ((first | refine Below.alloc ?_ ?b_ _ | refine bw_set ?_ ?b_ | refine Below.setCell ?_ ?b_ _); case b_ => first | omega | (simp; done) | (simp; omega)) | refine Below.drew ?_ | refine below_drewN ?_ _))⟩
theorem ocmp_tya (k : Int) (X : Bool) (N : Int) (S : ByteArray) (R O L : Int) (k' : Int) (X' : Bool) (N' : Int) (S' : ByteArray) (R' O' L' : Int) (w : World) (h : okO k N S.size R O L) (h' : okO k' N' S'.size R' O' L') (hn : ¬ isNum k) :
    Calls Try.prog 17 #[.agg #[.int .i64 k, .bool X, .int .i64 N, .string S, .int .i64 R, .int .i64 O, .int .i64 L], .agg #[.int .i64 k', .bool X', .int .i64 N', .string S', .int .i64 R', .int .i64 O', .int .i64 L']] w fun e w' => e = .returned (.tuple #[.int .i64 0, .int .i64 22]) ∧ Below w.heap.size w w' := by
  have HV := Lib.hid (show oErr k N S R O L = 0 from if_pos h)
  have HW := Lib.hid (show oErr k' N' S' R' O' L' = 0 from if_pos h')
  all_goals go_enter Try.func17, Try.ntmps17
  all_goals go_wp2_with ((with_reducible refine rw_list ?_); (first | ((with_reducible apply wpList_load_cell); (case ho => with_reducible rfl); (case hgd => with_reducible rfl); (case hx => rfl); (case hu => first | exact Try.underlying23 | exact Try.underlying61 | exact Try.underlying3 | exact Try.underlying4 | exact Try.underlying9 | exact Try.underlying25); (case hd => rfl)) | ((with_reducible apply wpList_load_row); (case ho => with_reducible rfl); (case hgd => with_reducible rfl); (case hx => rfl); (case hu => first | exact Try.underlying23 | exact Try.underlying61 | exact Try.underlying3 | exact Try.underlying4 | exact Try.underlying9 | exact Try.underlying25); (case hd => rfl)) | ((with_reducible apply wpList_store_row); (case ho => with_reducible rfl); (case hgd => with_reducible rfl); (case hx => rfl); (case hy => rfl)) | ((with_reducible apply wpList_store_cell); (case ho => with_reducible rfl); (case hgd => with_reducible rfl); (case hx => rfl); (case hy => first | exact ev_const | exact ev_tmp rfl); (case h1 => rfl))); (case hg => exact (by with_reducible repeat (first | assumption | (refine rw_new ?e_; case e_ => first | rfl | (simp; done) | (simp; omega)) | apply rw_self | (apply rw_other; case hn => first | omega | (simp; omega)) | apply rw_alloc | apply rw_drew | apply rw_drewN))); (try case hv => rfl); (try case hi => kernel_rfl); (try case hold => rfl); (try case h1 => kernel_rfl); (try case hlt => rfl); (try case hcs => ((try simp only [List.setIfInBounds_toArray, List.set_cons_succ, List.set_cons_zero]); rfl)))
  all_goals refine (ocheck_any _ _ _ _ _ _ _ _).mono ?_
  all_goals rintro e w1 ⟨rfl, hb⟩
  all_goals have hs_w1 := hb.size
  all_goals (try simp at hs_w1)
  all_goals have hB_w1 : Below w.heap.size w w1 := below_then (w := w) (by with_reducible repeat (first | exact Below.refl _ _ | assumption | ((first | refine Below.alloc ?_ ?b_ _ | refine bw_set ?_ ?b_ | refine Below.setCell ?_ ?b_ _); case b_ => first | omega | (simp; done) | (simp; omega)) | refine Below.drew ?_ | refine below_drewN ?_ _)) (by first | omega | (simp; done) | (simp; omega) | (have hq_ := hb.size; omega)) hb
  all_goals have hx_ := rw_below (k := w.heap.size) hb (by with_reducible repeat (first | assumption | (refine rw_new ?e_; case e_ => first | rfl | (simp; done) | (simp; omega)) | apply rw_self | (apply rw_other; case hn => first | omega | (simp; omega)) | apply rw_alloc | apply rw_drew | apply rw_drewN))
  all_goals (try clear hp)
  all_goals (try clear hpc0 hpc1 hpc2 hpc3 hpc4 hpc5 hpc6)
  all_goals have hp := hx_
  all_goals clear hx_
  all_goals obtain ⟨hpc0, hpc1, hpc2, hpc3, hpc4, hpc5, hpc6⟩ := cel7 hp
  all_goals have hx_ := rw_below (k := w.heap.size + 1) hb (by with_reducible repeat (first | assumption | (refine rw_new ?e_; case e_ => first | rfl | (simp; done) | (simp; omega)) | apply rw_self | (apply rw_other; case hn => first | omega | (simp; omega)) | apply rw_alloc | apply rw_drew | apply rw_drewN))
  all_goals (try clear hq)
  all_goals (try clear hqc0 hqc1 hqc2 hqc3 hqc4 hqc5 hqc6)
  all_goals have hq := hx_
  all_goals clear hx_
  all_goals obtain ⟨hqc0, hqc1, hqc2, hqc3, hqc4, hqc5, hqc6⟩ := cel7 hq
  all_goals clear hb
  all_goals rw [HV.out]
  all_goals go_wp2_with ((with_reducible refine rw_list ?_); (first | ((with_reducible apply wpList_load_cell); (case ho => with_reducible rfl); (case hgd => with_reducible rfl); (case hx => rfl); (case hu => first | exact Try.underlying23 | exact Try.underlying61 | exact Try.underlying3 | exact Try.underlying4 | exact Try.underlying9 | exact Try.underlying25); (case hd => rfl)) | ((with_reducible apply wpList_load_row); (case ho => with_reducible rfl); (case hgd => with_reducible rfl); (case hx => rfl); (case hu => first | exact Try.underlying23 | exact Try.underlying61 | exact Try.underlying3 | exact Try.underlying4 | exact Try.underlying9 | exact Try.underlying25); (case hd => rfl)) | ((with_reducible apply wpList_store_row); (case ho => with_reducible rfl); (case hgd => with_reducible rfl); (case hx => rfl); (case hy => rfl)) | ((with_reducible apply wpList_store_cell); (case ho => with_reducible rfl); (case hgd => with_reducible rfl); (case hx => rfl); (case hy => first | exact ev_const | exact ev_tmp rfl); (case h1 => rfl))); (case hg => exact (by with_reducible repeat (first | assumption | (refine rw_new ?e_; case e_ => first | rfl | (simp; done) | (simp; omega)) | apply rw_self | (apply rw_other; case hn => first | omega | (simp; omega)) | apply rw_alloc | apply rw_drew | apply rw_drewN))); (try case hv => rfl); (try case hi => kernel_rfl); (try case hold => rfl); (try case h1 => kernel_rfl); (try case hlt => rfl); (try case hcs => ((try simp only [List.setIfInBounds_toArray, List.set_cons_succ, List.set_cons_zero]); rfl)))
  all_goals refine (ocheck_any _ _ _ _ _ _ _ _).mono ?_
  all_goals rintro e w2 ⟨rfl, hb⟩
  all_goals have hs_w2 := hb.size
  all_goals (try simp at hs_w2)
  all_goals have hB_w2 : Below w.heap.size w w2 := below_then (w := w) (by with_reducible repeat (first | exact Below.refl _ _ | assumption | ((first | refine Below.alloc ?_ ?b_ _ | refine bw_set ?_ ?b_ | refine Below.setCell ?_ ?b_ _); case b_ => first | omega | (simp; done) | (simp; omega)) | refine Below.drew ?_ | refine below_drewN ?_ _)) (by first | omega | (simp; done) | (simp; omega) | (have hq_ := hb.size; omega)) hb
  all_goals have hx_ := rw_below (k := w.heap.size) hb (by with_reducible repeat (first | assumption | (refine rw_new ?e_; case e_ => first | rfl | (simp; done) | (simp; omega)) | apply rw_self | (apply rw_other; case hn => first | omega | (simp; omega)) | apply rw_alloc | apply rw_drew | apply rw_drewN))
  all_goals (try clear hp)
  all_goals (try clear hpc0 hpc1 hpc2 hpc3 hpc4 hpc5 hpc6)
  all_goals have hp := hx_
  all_goals clear hx_
  all_goals obtain ⟨hpc0, hpc1, hpc2, hpc3, hpc4, hpc5, hpc6⟩ := cel7 hp
  all_goals have hx_ := rw_below (k := w.heap.size + 1) hb (by with_reducible repeat (first | assumption | (refine rw_new ?e_; case e_ => first | rfl | (simp; done) | (simp; omega)) | apply rw_self | (apply rw_other; case hn => first | omega | (simp; omega)) | apply rw_alloc | apply rw_drew | apply rw_drewN))
  all_goals (try clear hq)
  all_goals (try clear hqc0 hqc1 hqc2 hqc3 hqc4 hqc5 hqc6)
  all_goals have hq := hx_
  all_goals clear hx_
  all_goals obtain ⟨hqc0, hqc1, hqc2, hqc3, hqc4, hqc5, hqc6⟩ := cel7 hq
  all_goals clear hb
  all_goals rw [HW.out]
  all_goals go_wp2_with ((with_reducible refine rw_list ?_); (first | ((with_reducible apply wpList_load_cell); (case ho => with_reducible rfl); (case hgd => with_reducible rfl); (case hx => rfl); (case hu => first | exact Try.underlying23 | exact Try.underlying61 | exact Try.underlying3 | exact Try.underlying4 | exact Try.underlying9 | exact Try.underlying25); (case hd => rfl)) | ((with_reducible apply wpList_load_row); (case ho => with_reducible rfl); (case hgd => with_reducible rfl); (case hx => rfl); (case hu => first | exact Try.underlying23 | exact Try.underlying61 | exact Try.underlying3 | exact Try.underlying4 | exact Try.underlying9 | exact Try.underlying25); (case hd => rfl)) | ((with_reducible apply wpList_store_row); (case ho => with_reducible rfl); (case hgd => with_reducible rfl); (case hx => rfl); (case hy => rfl)) | ((with_reducible apply wpList_store_cell); (case ho => with_reducible rfl); (case hgd => with_reducible rfl); (case hx => rfl); (case hy => first | exact ev_const | exact ev_tmp rfl); (case h1 => rfl))); (case hg => exact (by with_reducible repeat (first | assumption | (refine rw_new ?e_; case e_ => first | rfl | (simp; done) | (simp; omega)) | apply rw_self | (apply rw_other; case hn => first | omega | (simp; omega)) | apply rw_alloc | apply rw_drew | apply rw_drewN))); (try case hv => rfl); (try case hi => kernel_rfl); (try case hold => rfl); (try case h1 => kernel_rfl); (try case hlt => rfl); (try case hcs => ((try simp only [List.setIfInBounds_toArray, List.set_cons_succ, List.set_cons_zero]); rfl)))
  all_goals refine (ovalue_ty _ _ _ _ _ _ _ _ h hn).mono ?_
  all_goals rintro e w3 ⟨rfl, hb⟩
  all_goals have hs_w3 := hb.size
  all_goals (try simp at hs_w3)
  all_goals have hB_w3 : Below w.heap.size w w3 := below_then (w := w) (by with_reducible repeat (first | exact Below.refl _ _ | assumption | ((first | refine Below.alloc ?_ ?b_ _ | refine bw_set ?_ ?b_ | refine Below.setCell ?_ ?b_ _); case b_ => first | omega | (simp; done) | (simp; omega)) | refine Below.drew ?_ | refine below_drewN ?_ _)) (by first | omega | (simp; done) | (simp; omega) | (have hq_ := hb.size; omega)) hb
  all_goals have hx_ := rw_below (k := w.heap.size) hb (by with_reducible repeat (first | assumption | (refine rw_new ?e_; case e_ => first | rfl | (simp; done) | (simp; omega)) | apply rw_self | (apply rw_other; case hn => first | omega | (simp; omega)) | apply rw_alloc | apply rw_drew | apply rw_drewN))
  all_goals (try clear hp)
  all_goals (try clear hpc0 hpc1 hpc2 hpc3 hpc4 hpc5 hpc6)
  all_goals have hp := hx_
  all_goals clear hx_
  all_goals obtain ⟨hpc0, hpc1, hpc2, hpc3, hpc4, hpc5, hpc6⟩ := cel7 hp
  all_goals have hx_ := rw_below (k := w.heap.size + 1) hb (by with_reducible repeat (first | assumption | (refine rw_new ?e_; case e_ => first | rfl | (simp; done) | (simp; omega)) | apply rw_self | (apply rw_other; case hn => first | omega | (simp; omega)) | apply rw_alloc | apply rw_drew | apply rw_drewN))
  all_goals (try clear hq)
  all_goals (try clear hqc0 hqc1 hqc2 hqc3 hqc4 hqc5 hqc6)
  all_goals have hq := hx_
  all_goals clear hx_
  all_goals obtain ⟨hqc0, hqc1, hqc2, hqc3, hqc4, hqc5, hqc6⟩ := cel7 hq
  all_goals clear hb
  all_goals go_wp2_with ((with_reducible refine rw_list ?_); (first | ((with_reducible apply wpList_load_cell); (case ho => with_reducible rfl); (case hgd => with_reducible rfl); (case hx => rfl); (case hu => first | exact Try.underlying23 | exact Try.underlying61 | exact Try.underlying3 | exact Try.underlying4 | exact Try.underlying9 | exact Try.underlying25); (case hd => rfl)) | ((with_reducible apply wpList_load_row); (case ho => with_reducible rfl); (case hgd => with_reducible rfl); (case hx => rfl); (case hu => first | exact Try.underlying23 | exact Try.underlying61 | exact Try.underlying3 | exact Try.underlying4 | exact Try.underlying9 | exact Try.underlying25); (case hd => rfl)) | ((with_reducible apply wpList_store_row); (case ho => with_reducible rfl); (case hgd => with_reducible rfl); (case hx => rfl); (case hy => rfl)) | ((with_reducible apply wpList_store_cell); (case ho => with_reducible rfl); (case hgd => with_reducible rfl); (case hx => rfl); (case hy => first | exact ev_const | exact ev_tmp rfl); (case h1 => rfl))); (case hg => exact (by with_reducible repeat (first | assumption | (refine rw_new ?e_; case e_ => first | rfl | (simp; done) | (simp; omega)) | apply rw_self | (apply rw_other; case hn => first | omega | (simp; omega)) | apply rw_alloc | apply rw_drew | apply rw_drewN))); (try case hv => rfl); (try case hi => kernel_rfl); (try case hold => rfl); (try case h1 => kernel_rfl); (try case hlt => rfl); (try case hcs => ((try simp only [List.setIfInBounds_toArray, List.set_cons_succ, List.set_cons_zero]); rfl)))
  all_goals exact bodyPost_ret (v := .tuple #[.int .i64 0, .int .i64 22]) (by simp [results, Try.results17, go_sem]) rfl ⟨rfl, (by with_reducible repeat (first | exact Below.refl _ _ | assumption | ((first | refine Below.alloc ?_ ?b_ _ | refine bw_set ?_ ?b_ | refine Below.setCell ?_ ?b_ _); case b_ => first | omega | (simp; done) | (simp; omega)) | refine Below.drew ?_ | refine below_drewN ?_ _))⟩
theorem ocmp_tyb (k : Int) (X : Bool) (N : Int) (S : ByteArray) (R O L : Int) (k' : Int) (X' : Bool) (N' : Int) (S' : ByteArray) (R' O' L' : Int) (w : World) (h : okO k N S.size R O L) (h' : okO k' N' S'.size R' O' L') (hn : isNum k) (hn' : ¬ isNum k') :
    Calls Try.prog 17 #[.agg #[.int .i64 k, .bool X, .int .i64 N, .string S, .int .i64 R, .int .i64 O, .int .i64 L], .agg #[.int .i64 k', .bool X', .int .i64 N', .string S', .int .i64 R', .int .i64 O', .int .i64 L']] w fun e w' => e = .returned (.tuple #[.int .i64 0, .int .i64 22]) ∧ Below w.heap.size w w' := by
  have HV := Lib.hid (show oErr k N S R O L = 0 from if_pos h)
  have HW := Lib.hid (show oErr k' N' S' R' O' L' = 0 from if_pos h')
  all_goals go_enter Try.func17, Try.ntmps17
  all_goals go_wp2_with ((with_reducible refine rw_list ?_); (first | ((with_reducible apply wpList_load_cell); (case ho => with_reducible rfl); (case hgd => with_reducible rfl); (case hx => rfl); (case hu => first | exact Try.underlying23 | exact Try.underlying61 | exact Try.underlying3 | exact Try.underlying4 | exact Try.underlying9 | exact Try.underlying25); (case hd => rfl)) | ((with_reducible apply wpList_load_row); (case ho => with_reducible rfl); (case hgd => with_reducible rfl); (case hx => rfl); (case hu => first | exact Try.underlying23 | exact Try.underlying61 | exact Try.underlying3 | exact Try.underlying4 | exact Try.underlying9 | exact Try.underlying25); (case hd => rfl)) | ((with_reducible apply wpList_store_row); (case ho => with_reducible rfl); (case hgd => with_reducible rfl); (case hx => rfl); (case hy => rfl)) | ((with_reducible apply wpList_store_cell); (case ho => with_reducible rfl); (case hgd => with_reducible rfl); (case hx => rfl); (case hy => first | exact ev_const | exact ev_tmp rfl); (case h1 => rfl))); (case hg => exact (by with_reducible repeat (first | assumption | (refine rw_new ?e_; case e_ => first | rfl | (simp; done) | (simp; omega)) | apply rw_self | (apply rw_other; case hn => first | omega | (simp; omega)) | apply rw_alloc | apply rw_drew | apply rw_drewN))); (try case hv => rfl); (try case hi => kernel_rfl); (try case hold => rfl); (try case h1 => kernel_rfl); (try case hlt => rfl); (try case hcs => ((try simp only [List.setIfInBounds_toArray, List.set_cons_succ, List.set_cons_zero]); rfl)))
  all_goals refine (ocheck_any _ _ _ _ _ _ _ _).mono ?_
  all_goals rintro e w1 ⟨rfl, hb⟩
  all_goals have hs_w1 := hb.size
  all_goals (try simp at hs_w1)
  all_goals have hB_w1 : Below w.heap.size w w1 := below_then (w := w) (by with_reducible repeat (first | exact Below.refl _ _ | assumption | ((first | refine Below.alloc ?_ ?b_ _ | refine bw_set ?_ ?b_ | refine Below.setCell ?_ ?b_ _); case b_ => first | omega | (simp; done) | (simp; omega)) | refine Below.drew ?_ | refine below_drewN ?_ _)) (by first | omega | (simp; done) | (simp; omega) | (have hq_ := hb.size; omega)) hb
  all_goals have hx_ := rw_below (k := w.heap.size) hb (by with_reducible repeat (first | assumption | (refine rw_new ?e_; case e_ => first | rfl | (simp; done) | (simp; omega)) | apply rw_self | (apply rw_other; case hn => first | omega | (simp; omega)) | apply rw_alloc | apply rw_drew | apply rw_drewN))
  all_goals (try clear hp)
  all_goals (try clear hpc0 hpc1 hpc2 hpc3 hpc4 hpc5 hpc6)
  all_goals have hp := hx_
  all_goals clear hx_
  all_goals obtain ⟨hpc0, hpc1, hpc2, hpc3, hpc4, hpc5, hpc6⟩ := cel7 hp
  all_goals have hx_ := rw_below (k := w.heap.size + 1) hb (by with_reducible repeat (first | assumption | (refine rw_new ?e_; case e_ => first | rfl | (simp; done) | (simp; omega)) | apply rw_self | (apply rw_other; case hn => first | omega | (simp; omega)) | apply rw_alloc | apply rw_drew | apply rw_drewN))
  all_goals (try clear hq)
  all_goals (try clear hqc0 hqc1 hqc2 hqc3 hqc4 hqc5 hqc6)
  all_goals have hq := hx_
  all_goals clear hx_
  all_goals obtain ⟨hqc0, hqc1, hqc2, hqc3, hqc4, hqc5, hqc6⟩ := cel7 hq
  all_goals clear hb
  all_goals rw [HV.out]
  all_goals go_wp2_with ((with_reducible refine rw_list ?_); (first | ((with_reducible apply wpList_load_cell); (case ho => with_reducible rfl); (case hgd => with_reducible rfl); (case hx => rfl); (case hu => first | exact Try.underlying23 | exact Try.underlying61 | exact Try.underlying3 | exact Try.underlying4 | exact Try.underlying9 | exact Try.underlying25); (case hd => rfl)) | ((with_reducible apply wpList_load_row); (case ho => with_reducible rfl); (case hgd => with_reducible rfl); (case hx => rfl); (case hu => first | exact Try.underlying23 | exact Try.underlying61 | exact Try.underlying3 | exact Try.underlying4 | exact Try.underlying9 | exact Try.underlying25); (case hd => rfl)) | ((with_reducible apply wpList_store_row); (case ho => with_reducible rfl); (case hgd => with_reducible rfl); (case hx => rfl); (case hy => rfl)) | ((with_reducible apply wpList_store_cell); (case ho => with_reducible rfl); (case hgd => with_reducible rfl); (case hx => rfl); (case hy => first | exact ev_const | exact ev_tmp rfl); (case h1 => rfl))); (case hg => exact (by with_reducible repeat (first | assumption | (refine rw_new ?e_; case e_ => first | rfl | (simp; done) | (simp; omega)) | apply rw_self | (apply rw_other; case hn => first | omega | (simp; omega)) | apply rw_alloc | apply rw_drew | apply rw_drewN))); (try case hv => rfl); (try case hi => kernel_rfl); (try case hold => rfl); (try case h1 => kernel_rfl); (try case hlt => rfl); (try case hcs => ((try simp only [List.setIfInBounds_toArray, List.set_cons_succ, List.set_cons_zero]); rfl)))
  all_goals refine (ocheck_any _ _ _ _ _ _ _ _).mono ?_
  all_goals rintro e w2 ⟨rfl, hb⟩
  all_goals have hs_w2 := hb.size
  all_goals (try simp at hs_w2)
  all_goals have hB_w2 : Below w.heap.size w w2 := below_then (w := w) (by with_reducible repeat (first | exact Below.refl _ _ | assumption | ((first | refine Below.alloc ?_ ?b_ _ | refine bw_set ?_ ?b_ | refine Below.setCell ?_ ?b_ _); case b_ => first | omega | (simp; done) | (simp; omega)) | refine Below.drew ?_ | refine below_drewN ?_ _)) (by first | omega | (simp; done) | (simp; omega) | (have hq_ := hb.size; omega)) hb
  all_goals have hx_ := rw_below (k := w.heap.size) hb (by with_reducible repeat (first | assumption | (refine rw_new ?e_; case e_ => first | rfl | (simp; done) | (simp; omega)) | apply rw_self | (apply rw_other; case hn => first | omega | (simp; omega)) | apply rw_alloc | apply rw_drew | apply rw_drewN))
  all_goals (try clear hp)
  all_goals (try clear hpc0 hpc1 hpc2 hpc3 hpc4 hpc5 hpc6)
  all_goals have hp := hx_
  all_goals clear hx_
  all_goals obtain ⟨hpc0, hpc1, hpc2, hpc3, hpc4, hpc5, hpc6⟩ := cel7 hp
  all_goals have hx_ := rw_below (k := w.heap.size + 1) hb (by with_reducible repeat (first | assumption | (refine rw_new ?e_; case e_ => first | rfl | (simp; done) | (simp; omega)) | apply rw_self | (apply rw_other; case hn => first | omega | (simp; omega)) | apply rw_alloc | apply rw_drew | apply rw_drewN))
  all_goals (try clear hq)
  all_goals (try clear hqc0 hqc1 hqc2 hqc3 hqc4 hqc5 hqc6)
  all_goals have hq := hx_
  all_goals clear hx_
  all_goals obtain ⟨hqc0, hqc1, hqc2, hqc3, hqc4, hqc5, hqc6⟩ := cel7 hq
  all_goals clear hb
  all_goals rw [HW.out]
  all_goals go_wp2_with ((with_reducible refine rw_list ?_); (first | ((with_reducible apply wpList_load_cell); (case ho => with_reducible rfl); (case hgd => with_reducible rfl); (case hx => rfl); (case hu => first | exact Try.underlying23 | exact Try.underlying61 | exact Try.underlying3 | exact Try.underlying4 | exact Try.underlying9 | exact Try.underlying25); (case hd => rfl)) | ((with_reducible apply wpList_load_row); (case ho => with_reducible rfl); (case hgd => with_reducible rfl); (case hx => rfl); (case hu => first | exact Try.underlying23 | exact Try.underlying61 | exact Try.underlying3 | exact Try.underlying4 | exact Try.underlying9 | exact Try.underlying25); (case hd => rfl)) | ((with_reducible apply wpList_store_row); (case ho => with_reducible rfl); (case hgd => with_reducible rfl); (case hx => rfl); (case hy => rfl)) | ((with_reducible apply wpList_store_cell); (case ho => with_reducible rfl); (case hgd => with_reducible rfl); (case hx => rfl); (case hy => first | exact ev_const | exact ev_tmp rfl); (case h1 => rfl))); (case hg => exact (by with_reducible repeat (first | assumption | (refine rw_new ?e_; case e_ => first | rfl | (simp; done) | (simp; omega)) | apply rw_self | (apply rw_other; case hn => first | omega | (simp; omega)) | apply rw_alloc | apply rw_drew | apply rw_drewN))); (try case hv => rfl); (try case hi => kernel_rfl); (try case hold => rfl); (try case h1 => kernel_rfl); (try case hlt => rfl); (try case hcs => ((try simp only [List.setIfInBounds_toArray, List.set_cons_succ, List.set_cons_zero]); rfl)))
  all_goals refine (ovalue_ok _ _ _ _ _ _ _ _ h hn).mono ?_
  all_goals rintro e w3 ⟨rfl, hb⟩
  all_goals have hs_w3 := hb.size
  all_goals (try simp at hs_w3)
  all_goals have hB_w3 : Below w.heap.size w w3 := below_then (w := w) (by with_reducible repeat (first | exact Below.refl _ _ | assumption | ((first | refine Below.alloc ?_ ?b_ _ | refine bw_set ?_ ?b_ | refine Below.setCell ?_ ?b_ _); case b_ => first | omega | (simp; done) | (simp; omega)) | refine Below.drew ?_ | refine below_drewN ?_ _)) (by first | omega | (simp; done) | (simp; omega) | (have hq_ := hb.size; omega)) hb
  all_goals have hx_ := rw_below (k := w.heap.size) hb (by with_reducible repeat (first | assumption | (refine rw_new ?e_; case e_ => first | rfl | (simp; done) | (simp; omega)) | apply rw_self | (apply rw_other; case hn => first | omega | (simp; omega)) | apply rw_alloc | apply rw_drew | apply rw_drewN))
  all_goals (try clear hp)
  all_goals (try clear hpc0 hpc1 hpc2 hpc3 hpc4 hpc5 hpc6)
  all_goals have hp := hx_
  all_goals clear hx_
  all_goals obtain ⟨hpc0, hpc1, hpc2, hpc3, hpc4, hpc5, hpc6⟩ := cel7 hp
  all_goals have hx_ := rw_below (k := w.heap.size + 1) hb (by with_reducible repeat (first | assumption | (refine rw_new ?e_; case e_ => first | rfl | (simp; done) | (simp; omega)) | apply rw_self | (apply rw_other; case hn => first | omega | (simp; omega)) | apply rw_alloc | apply rw_drew | apply rw_drewN))
  all_goals (try clear hq)
  all_goals (try clear hqc0 hqc1 hqc2 hqc3 hqc4 hqc5 hqc6)
  all_goals have hq := hx_
  all_goals clear hx_
  all_goals obtain ⟨hqc0, hqc1, hqc2, hqc3, hqc4, hqc5, hqc6⟩ := cel7 hq
  all_goals clear hb
  all_goals go_wp2_with ((with_reducible refine rw_list ?_); (first | ((with_reducible apply wpList_load_cell); (case ho => with_reducible rfl); (case hgd => with_reducible rfl); (case hx => rfl); (case hu => first | exact Try.underlying23 | exact Try.underlying61 | exact Try.underlying3 | exact Try.underlying4 | exact Try.underlying9 | exact Try.underlying25); (case hd => rfl)) | ((with_reducible apply wpList_load_row); (case ho => with_reducible rfl); (case hgd => with_reducible rfl); (case hx => rfl); (case hu => first | exact Try.underlying23 | exact Try.underlying61 | exact Try.underlying3 | exact Try.underlying4 | exact Try.underlying9 | exact Try.underlying25); (case hd => rfl)) | ((with_reducible apply wpList_store_row); (case ho => with_reducible rfl); (case hgd => with_reducible rfl); (case hx => rfl); (case hy => rfl)) | ((with_reducible apply wpList_store_cell); (case ho => with_reducible rfl); (case hgd => with_reducible rfl); (case hx => rfl); (case hy => first | exact ev_const | exact ev_tmp rfl); (case h1 => rfl))); (case hg => exact (by with_reducible repeat (first | assumption | (refine rw_new ?e_; case e_ => first | rfl | (simp; done) | (simp; omega)) | apply rw_self | (apply rw_other; case hn => first | omega | (simp; omega)) | apply rw_alloc | apply rw_drew | apply rw_drewN))); (try case hv => rfl); (try case hi => kernel_rfl); (try case hold => rfl); (try case h1 => kernel_rfl); (try case hlt => rfl); (try case hcs => ((try simp only [List.setIfInBounds_toArray, List.set_cons_succ, List.set_cons_zero]); rfl)))
  all_goals refine (ovalue_ty _ _ _ _ _ _ _ _ h' hn').mono ?_
  all_goals rintro e w4 ⟨rfl, hb⟩
  all_goals have hs_w4 := hb.size
  all_goals (try simp at hs_w4)
  all_goals have hB_w4 : Below w.heap.size w w4 := below_then (w := w) (by with_reducible repeat (first | exact Below.refl _ _ | assumption | ((first | refine Below.alloc ?_ ?b_ _ | refine bw_set ?_ ?b_ | refine Below.setCell ?_ ?b_ _); case b_ => first | omega | (simp; done) | (simp; omega)) | refine Below.drew ?_ | refine below_drewN ?_ _)) (by first | omega | (simp; done) | (simp; omega) | (have hq_ := hb.size; omega)) hb
  all_goals have hx_ := rw_below (k := w.heap.size) hb (by with_reducible repeat (first | assumption | (refine rw_new ?e_; case e_ => first | rfl | (simp; done) | (simp; omega)) | apply rw_self | (apply rw_other; case hn => first | omega | (simp; omega)) | apply rw_alloc | apply rw_drew | apply rw_drewN))
  all_goals (try clear hp)
  all_goals (try clear hpc0 hpc1 hpc2 hpc3 hpc4 hpc5 hpc6)
  all_goals have hp := hx_
  all_goals clear hx_
  all_goals obtain ⟨hpc0, hpc1, hpc2, hpc3, hpc4, hpc5, hpc6⟩ := cel7 hp
  all_goals have hx_ := rw_below (k := w.heap.size + 1) hb (by with_reducible repeat (first | assumption | (refine rw_new ?e_; case e_ => first | rfl | (simp; done) | (simp; omega)) | apply rw_self | (apply rw_other; case hn => first | omega | (simp; omega)) | apply rw_alloc | apply rw_drew | apply rw_drewN))
  all_goals (try clear hq)
  all_goals (try clear hqc0 hqc1 hqc2 hqc3 hqc4 hqc5 hqc6)
  all_goals have hq := hx_
  all_goals clear hx_
  all_goals obtain ⟨hqc0, hqc1, hqc2, hqc3, hqc4, hqc5, hqc6⟩ := cel7 hq
  all_goals clear hb
  all_goals go_wp2_with ((with_reducible refine rw_list ?_); (first | ((with_reducible apply wpList_load_cell); (case ho => with_reducible rfl); (case hgd => with_reducible rfl); (case hx => rfl); (case hu => first | exact Try.underlying23 | exact Try.underlying61 | exact Try.underlying3 | exact Try.underlying4 | exact Try.underlying9 | exact Try.underlying25); (case hd => rfl)) | ((with_reducible apply wpList_load_row); (case ho => with_reducible rfl); (case hgd => with_reducible rfl); (case hx => rfl); (case hu => first | exact Try.underlying23 | exact Try.underlying61 | exact Try.underlying3 | exact Try.underlying4 | exact Try.underlying9 | exact Try.underlying25); (case hd => rfl)) | ((with_reducible apply wpList_store_row); (case ho => with_reducible rfl); (case hgd => with_reducible rfl); (case hx => rfl); (case hy => rfl)) | ((with_reducible apply wpList_store_cell); (case ho => with_reducible rfl); (case hgd => with_reducible rfl); (case hx => rfl); (case hy => first | exact ev_const | exact ev_tmp rfl); (case h1 => rfl))); (case hg => exact (by with_reducible repeat (first | assumption | (refine rw_new ?e_; case e_ => first | rfl | (simp; done) | (simp; omega)) | apply rw_self | (apply rw_other; case hn => first | omega | (simp; omega)) | apply rw_alloc | apply rw_drew | apply rw_drewN))); (try case hv => rfl); (try case hi => kernel_rfl); (try case hold => rfl); (try case h1 => kernel_rfl); (try case hlt => rfl); (try case hcs => ((try simp only [List.setIfInBounds_toArray, List.set_cons_succ, List.set_cons_zero]); rfl)))
  all_goals exact bodyPost_ret (v := .tuple #[.int .i64 0, .int .i64 22]) (by simp [results, Try.results17, go_sem]) rfl ⟨rfl, (by with_reducible repeat (first | exact Below.refl _ _ | assumption | ((first | refine Below.alloc ?_ ?b_ _ | refine bw_set ?_ ?b_ | refine Below.setCell ?_ ?b_ _); case b_ => first | omega | (simp; done) | (simp; omega)) | refine Below.drew ?_ | refine below_drewN ?_ _))⟩
theorem ocmp_ok (k : Int) (X : Bool) (N : Int) (S : ByteArray) (R O L : Int) (k' : Int) (X' : Bool) (N' : Int) (S' : ByteArray) (R' O' L' : Int) (w : World) (h : okO k N S.size R O L) (h' : okO k' N' S'.size R' O' L') (hn : isNum k) (hn' : isNum k') :
    Calls Try.prog 17 #[.agg #[.int .i64 k, .bool X, .int .i64 N, .string S, .int .i64 R, .int .i64 O, .int .i64 L], .agg #[.int .i64 k', .bool X', .int .i64 N', .string S', .int .i64 R', .int .i64 O', .int .i64 L']] w fun e w' => e = .returned (.tuple #[.int .i64 (cmpI (oVal k N) (oVal k' N')), .int .i64 0]) ∧ Below w.heap.size w w' := by
  have HV := Lib.hid (show oErr k N S R O L = 0 from if_pos h)
  have HW := Lib.hid (show oErr k' N' S' R' O' L' = 0 from if_pos h')
  have hc : (oVal k N < oVal k' N' ∧ cmpI (oVal k N) (oVal k' N') = -1) ∨ ((¬ oVal k N < oVal k' N' ∧ oVal k' N' < oVal k N) ∧ cmpI (oVal k N) (oVal k' N') = 1) ∨ ((¬ oVal k N < oVal k' N' ∧ ¬ oVal k' N' < oVal k N) ∧ cmpI (oVal k N) (oVal k' N') = 0) := by
    unfold cmpI
    by_cases a : oVal k N < oVal k' N'
    · exact .inl ⟨a, if_pos a⟩
    · by_cases b : oVal k' N' < oVal k N
      · exact .inr (.inl ⟨⟨a, b⟩, by rw [if_neg a, if_pos b]⟩)
      · exact .inr (.inr ⟨⟨a, b⟩, by rw [if_neg a, if_neg b]⟩)
  rcases hc with ⟨a, hv⟩ | ⟨⟨a, b⟩, hv⟩ | ⟨⟨a, b⟩, hv⟩
  all_goals rw [hv]
  all_goals clear hv
  all_goals go_enter Try.func17, Try.ntmps17
  all_goals go_wp2_with ((with_reducible refine rw_list ?_); (first | ((with_reducible apply wpList_load_cell); (case ho => with_reducible rfl); (case hgd => with_reducible rfl); (case hx => rfl); (case hu => first | exact Try.underlying23 | exact Try.underlying61 | exact Try.underlying3 | exact Try.underlying4 | exact Try.underlying9 | exact Try.underlying25); (case hd => rfl)) | ((with_reducible apply wpList_load_row); (case ho => with_reducible rfl); (case hgd => with_reducible rfl); (case hx => rfl); (case hu => first | exact Try.underlying23 | exact Try.underlying61 | exact Try.underlying3 | exact Try.underlying4 | exact Try.underlying9 | exact Try.underlying25); (case hd => rfl)) | ((with_reducible apply wpList_store_row); (case ho => with_reducible rfl); (case hgd => with_reducible rfl); (case hx => rfl); (case hy => rfl)) | ((with_reducible apply wpList_store_cell); (case ho => with_reducible rfl); (case hgd => with_reducible rfl); (case hx => rfl); (case hy => first | exact ev_const | exact ev_tmp rfl); (case h1 => rfl))); (case hg => exact (by with_reducible repeat (first | assumption | (refine rw_new ?e_; case e_ => first | rfl | (simp; done) | (simp; omega)) | apply rw_self | (apply rw_other; case hn => first | omega | (simp; omega)) | apply rw_alloc | apply rw_drew | apply rw_drewN))); (try case hv => rfl); (try case hi => kernel_rfl); (try case hold => rfl); (try case h1 => kernel_rfl); (try case hlt => rfl); (try case hcs => ((try simp only [List.setIfInBounds_toArray, List.set_cons_succ, List.set_cons_zero]); rfl)))
  all_goals refine (ocheck_any _ _ _ _ _ _ _ _).mono ?_
  all_goals rintro e w1 ⟨rfl, hb⟩
  all_goals have hs_w1 := hb.size
  all_goals (try simp at hs_w1)
  all_goals have hB_w1 : Below w.heap.size w w1 := below_then (w := w) (by with_reducible repeat (first | exact Below.refl _ _ | assumption | ((first | refine Below.alloc ?_ ?b_ _ | refine bw_set ?_ ?b_ | refine Below.setCell ?_ ?b_ _); case b_ => first | omega | (simp; done) | (simp; omega)) | refine Below.drew ?_ | refine below_drewN ?_ _)) (by first | omega | (simp; done) | (simp; omega) | (have hq_ := hb.size; omega)) hb
  all_goals have hx_ := rw_below (k := w.heap.size) hb (by with_reducible repeat (first | assumption | (refine rw_new ?e_; case e_ => first | rfl | (simp; done) | (simp; omega)) | apply rw_self | (apply rw_other; case hn => first | omega | (simp; omega)) | apply rw_alloc | apply rw_drew | apply rw_drewN))
  all_goals (try clear hp)
  all_goals (try clear hpc0 hpc1 hpc2 hpc3 hpc4 hpc5 hpc6)
  all_goals have hp := hx_
  all_goals clear hx_
  all_goals obtain ⟨hpc0, hpc1, hpc2, hpc3, hpc4, hpc5, hpc6⟩ := cel7 hp
  all_goals have hx_ := rw_below (k := w.heap.size + 1) hb (by with_reducible repeat (first | assumption | (refine rw_new ?e_; case e_ => first | rfl | (simp; done) | (simp; omega)) | apply rw_self | (apply rw_other; case hn => first | omega | (simp; omega)) | apply rw_alloc | apply rw_drew | apply rw_drewN))
  all_goals (try clear hq)
  all_goals (try clear hqc0 hqc1 hqc2 hqc3 hqc4 hqc5 hqc6)
  all_goals have hq := hx_
  all_goals clear hx_
  all_goals obtain ⟨hqc0, hqc1, hqc2, hqc3, hqc4, hqc5, hqc6⟩ := cel7 hq
  all_goals clear hb
  all_goals rw [HV.out]
  all_goals go_wp2_with ((with_reducible refine rw_list ?_); (first | ((with_reducible apply wpList_load_cell); (case ho => with_reducible rfl); (case hgd => with_reducible rfl); (case hx => rfl); (case hu => first | exact Try.underlying23 | exact Try.underlying61 | exact Try.underlying3 | exact Try.underlying4 | exact Try.underlying9 | exact Try.underlying25); (case hd => rfl)) | ((with_reducible apply wpList_load_row); (case ho => with_reducible rfl); (case hgd => with_reducible rfl); (case hx => rfl); (case hu => first | exact Try.underlying23 | exact Try.underlying61 | exact Try.underlying3 | exact Try.underlying4 | exact Try.underlying9 | exact Try.underlying25); (case hd => rfl)) | ((with_reducible apply wpList_store_row); (case ho => with_reducible rfl); (case hgd => with_reducible rfl); (case hx => rfl); (case hy => rfl)) | ((with_reducible apply wpList_store_cell); (case ho => with_reducible rfl); (case hgd => with_reducible rfl); (case hx => rfl); (case hy => first | exact ev_const | exact ev_tmp rfl); (case h1 => rfl))); (case hg => exact (by with_reducible repeat (first | assumption | (refine rw_new ?e_; case e_ => first | rfl | (simp; done) | (simp; omega)) | apply rw_self | (apply rw_other; case hn => first | omega | (simp; omega)) | apply rw_alloc | apply rw_drew | apply rw_drewN))); (try case hv => rfl); (try case hi => kernel_rfl); (try case hold => rfl); (try case h1 => kernel_rfl); (try case hlt => rfl); (try case hcs => ((try simp only [List.setIfInBounds_toArray, List.set_cons_succ, List.set_cons_zero]); rfl)))
  all_goals refine (ocheck_any _ _ _ _ _ _ _ _).mono ?_
  all_goals rintro e w2 ⟨rfl, hb⟩
  all_goals have hs_w2 := hb.size
  all_goals (try simp at hs_w2)
  all_goals have hB_w2 : Below w.heap.size w w2 := below_then (w := w) (by with_reducible repeat (first | exact Below.refl _ _ | assumption | ((first | refine Below.alloc ?_ ?b_ _ | refine bw_set ?_ ?b_ | refine Below.setCell ?_ ?b_ _); case b_ => first | omega | (simp; done) | (simp; omega)) | refine Below.drew ?_ | refine below_drewN ?_ _)) (by first | omega | (simp; done) | (simp; omega) | (have hq_ := hb.size; omega)) hb
  all_goals have hx_ := rw_below (k := w.heap.size) hb (by with_reducible repeat (first | assumption | (refine rw_new ?e_; case e_ => first | rfl | (simp; done) | (simp; omega)) | apply rw_self | (apply rw_other; case hn => first | omega | (simp; omega)) | apply rw_alloc | apply rw_drew | apply rw_drewN))
  all_goals (try clear hp)
  all_goals (try clear hpc0 hpc1 hpc2 hpc3 hpc4 hpc5 hpc6)
  all_goals have hp := hx_
  all_goals clear hx_
  all_goals obtain ⟨hpc0, hpc1, hpc2, hpc3, hpc4, hpc5, hpc6⟩ := cel7 hp
  all_goals have hx_ := rw_below (k := w.heap.size + 1) hb (by with_reducible repeat (first | assumption | (refine rw_new ?e_; case e_ => first | rfl | (simp; done) | (simp; omega)) | apply rw_self | (apply rw_other; case hn => first | omega | (simp; omega)) | apply rw_alloc | apply rw_drew | apply rw_drewN))
  all_goals (try clear hq)
  all_goals (try clear hqc0 hqc1 hqc2 hqc3 hqc4 hqc5 hqc6)
  all_goals have hq := hx_
  all_goals clear hx_
  all_goals obtain ⟨hqc0, hqc1, hqc2, hqc3, hqc4, hqc5, hqc6⟩ := cel7 hq
  all_goals clear hb
  all_goals rw [HW.out]
  all_goals go_wp2_with ((with_reducible refine rw_list ?_); (first | ((with_reducible apply wpList_load_cell); (case ho => with_reducible rfl); (case hgd => with_reducible rfl); (case hx => rfl); (case hu => first | exact Try.underlying23 | exact Try.underlying61 | exact Try.underlying3 | exact Try.underlying4 | exact Try.underlying9 | exact Try.underlying25); (case hd => rfl)) | ((with_reducible apply wpList_load_row); (case ho => with_reducible rfl); (case hgd => with_reducible rfl); (case hx => rfl); (case hu => first | exact Try.underlying23 | exact Try.underlying61 | exact Try.underlying3 | exact Try.underlying4 | exact Try.underlying9 | exact Try.underlying25); (case hd => rfl)) | ((with_reducible apply wpList_store_row); (case ho => with_reducible rfl); (case hgd => with_reducible rfl); (case hx => rfl); (case hy => rfl)) | ((with_reducible apply wpList_store_cell); (case ho => with_reducible rfl); (case hgd => with_reducible rfl); (case hx => rfl); (case hy => first | exact ev_const | exact ev_tmp rfl); (case h1 => rfl))); (case hg => exact (by with_reducible repeat (first | assumption | (refine rw_new ?e_; case e_ => first | rfl | (simp; done) | (simp; omega)) | apply rw_self | (apply rw_other; case hn => first | omega | (simp; omega)) | apply rw_alloc | apply rw_drew | apply rw_drewN))); (try case hv => rfl); (try case hi => kernel_rfl); (try case hold => rfl); (try case h1 => kernel_rfl); (try case hlt => rfl); (try case hcs => ((try simp only [List.setIfInBounds_toArray, List.set_cons_succ, List.set_cons_zero]); rfl)))
  all_goals refine (ovalue_ok _ _ _ _ _ _ _ _ h hn).mono ?_
  all_goals rintro e w3 ⟨rfl, hb⟩
  all_goals have hs_w3 := hb.size
  all_goals (try simp at hs_w3)
  all_goals have hB_w3 : Below w.heap.size w w3 := below_then (w := w) (by with_reducible repeat (first | exact Below.refl _ _ | assumption | ((first | refine Below.alloc ?_ ?b_ _ | refine bw_set ?_ ?b_ | refine Below.setCell ?_ ?b_ _); case b_ => first | omega | (simp; done) | (simp; omega)) | refine Below.drew ?_ | refine below_drewN ?_ _)) (by first | omega | (simp; done) | (simp; omega) | (have hq_ := hb.size; omega)) hb
  all_goals have hx_ := rw_below (k := w.heap.size) hb (by with_reducible repeat (first | assumption | (refine rw_new ?e_; case e_ => first | rfl | (simp; done) | (simp; omega)) | apply rw_self | (apply rw_other; case hn => first | omega | (simp; omega)) | apply rw_alloc | apply rw_drew | apply rw_drewN))
  all_goals (try clear hp)
  all_goals (try clear hpc0 hpc1 hpc2 hpc3 hpc4 hpc5 hpc6)
  all_goals have hp := hx_
  all_goals clear hx_
  all_goals obtain ⟨hpc0, hpc1, hpc2, hpc3, hpc4, hpc5, hpc6⟩ := cel7 hp
  all_goals have hx_ := rw_below (k := w.heap.size + 1) hb (by with_reducible repeat (first | assumption | (refine rw_new ?e_; case e_ => first | rfl | (simp; done) | (simp; omega)) | apply rw_self | (apply rw_other; case hn => first | omega | (simp; omega)) | apply rw_alloc | apply rw_drew | apply rw_drewN))
  all_goals (try clear hq)
  all_goals (try clear hqc0 hqc1 hqc2 hqc3 hqc4 hqc5 hqc6)
  all_goals have hq := hx_
  all_goals clear hx_
  all_goals obtain ⟨hqc0, hqc1, hqc2, hqc3, hqc4, hqc5, hqc6⟩ := cel7 hq
  all_goals clear hb
  all_goals go_wp2_with ((with_reducible refine rw_list ?_); (first | ((with_reducible apply wpList_load_cell); (case ho => with_reducible rfl); (case hgd => with_reducible rfl); (case hx => rfl); (case hu => first | exact Try.underlying23 | exact Try.underlying61 | exact Try.underlying3 | exact Try.underlying4 | exact Try.underlying9 | exact Try.underlying25); (case hd => rfl)) | ((with_reducible apply wpList_load_row); (case ho => with_reducible rfl); (case hgd => with_reducible rfl); (case hx => rfl); (case hu => first | exact Try.underlying23 | exact Try.underlying61 | exact Try.underlying3 | exact Try.underlying4 | exact Try.underlying9 | exact Try.underlying25); (case hd => rfl)) | ((with_reducible apply wpList_store_row); (case ho => with_reducible rfl); (case hgd => with_reducible rfl); (case hx => rfl); (case hy => rfl)) | ((with_reducible apply wpList_store_cell); (case ho => with_reducible rfl); (case hgd => with_reducible rfl); (case hx => rfl); (case hy => first | exact ev_const | exact ev_tmp rfl); (case h1 => rfl))); (case hg => exact (by with_reducible repeat (first | assumption | (refine rw_new ?e_; case e_ => first | rfl | (simp; done) | (simp; omega)) | apply rw_self | (apply rw_other; case hn => first | omega | (simp; omega)) | apply rw_alloc | apply rw_drew | apply rw_drewN))); (try case hv => rfl); (try case hi => kernel_rfl); (try case hold => rfl); (try case h1 => kernel_rfl); (try case hlt => rfl); (try case hcs => ((try simp only [List.setIfInBounds_toArray, List.set_cons_succ, List.set_cons_zero]); rfl)))
  all_goals refine (ovalue_ok _ _ _ _ _ _ _ _ h' hn').mono ?_
  all_goals rintro e w4 ⟨rfl, hb⟩
  all_goals have hs_w4 := hb.size
  all_goals (try simp at hs_w4)
  all_goals have hB_w4 : Below w.heap.size w w4 := below_then (w := w) (by with_reducible repeat (first | exact Below.refl _ _ | assumption | ((first | refine Below.alloc ?_ ?b_ _ | refine bw_set ?_ ?b_ | refine Below.setCell ?_ ?b_ _); case b_ => first | omega | (simp; done) | (simp; omega)) | refine Below.drew ?_ | refine below_drewN ?_ _)) (by first | omega | (simp; done) | (simp; omega) | (have hq_ := hb.size; omega)) hb
  all_goals have hx_ := rw_below (k := w.heap.size) hb (by with_reducible repeat (first | assumption | (refine rw_new ?e_; case e_ => first | rfl | (simp; done) | (simp; omega)) | apply rw_self | (apply rw_other; case hn => first | omega | (simp; omega)) | apply rw_alloc | apply rw_drew | apply rw_drewN))
  all_goals (try clear hp)
  all_goals (try clear hpc0 hpc1 hpc2 hpc3 hpc4 hpc5 hpc6)
  all_goals have hp := hx_
  all_goals clear hx_
  all_goals obtain ⟨hpc0, hpc1, hpc2, hpc3, hpc4, hpc5, hpc6⟩ := cel7 hp
  all_goals have hx_ := rw_below (k := w.heap.size + 1) hb (by with_reducible repeat (first | assumption | (refine rw_new ?e_; case e_ => first | rfl | (simp; done) | (simp; omega)) | apply rw_self | (apply rw_other; case hn => first | omega | (simp; omega)) | apply rw_alloc | apply rw_drew | apply rw_drewN))
  all_goals (try clear hq)
  all_goals (try clear hqc0 hqc1 hqc2 hqc3 hqc4 hqc5 hqc6)
  all_goals have hq := hx_
  all_goals clear hx_
  all_goals obtain ⟨hqc0, hqc1, hqc2, hqc3, hqc4, hqc5, hqc6⟩ := cel7 hq
  all_goals clear hb
  all_goals go_wp2_with ((with_reducible refine rw_list ?_); (first | ((with_reducible apply wpList_load_cell); (case ho => with_reducible rfl); (case hgd => with_reducible rfl); (case hx => rfl); (case hu => first | exact Try.underlying23 | exact Try.underlying61 | exact Try.underlying3 | exact Try.underlying4 | exact Try.underlying9 | exact Try.underlying25); (case hd => rfl)) | ((with_reducible apply wpList_load_row); (case ho => with_reducible rfl); (case hgd => with_reducible rfl); (case hx => rfl); (case hu => first | exact Try.underlying23 | exact Try.underlying61 | exact Try.underlying3 | exact Try.underlying4 | exact Try.underlying9 | exact Try.underlying25); (case hd => rfl)) | ((with_reducible apply wpList_store_row); (case ho => with_reducible rfl); (case hgd => with_reducible rfl); (case hx => rfl); (case hy => rfl)) | ((with_reducible apply wpList_store_cell); (case ho => with_reducible rfl); (case hgd => with_reducible rfl); (case hx => rfl); (case hy => first | exact ev_const | exact ev_tmp rfl); (case h1 => rfl))); (case hg => exact (by with_reducible repeat (first | assumption | (refine rw_new ?e_; case e_ => first | rfl | (simp; done) | (simp; omega)) | apply rw_self | (apply rw_other; case hn => first | omega | (simp; omega)) | apply rw_alloc | apply rw_drew | apply rw_drewN))); (try case hv => rfl); (try case hi => kernel_rfl); (try case hold => rfl); (try case h1 => kernel_rfl); (try case hlt => rfl); (try case hcs => ((try simp only [List.setIfInBounds_toArray, List.set_cons_succ, List.set_cons_zero]); rfl)))
  all_goals exact bodyPost_ret (v := .tuple #[.int .i64 _, .int .i64 0]) (by simp [results, Try.results17, go_sem]) rfl ⟨rfl, (by with_reducible repeat (first | exact Below.refl _ _ | assumption | ((first | refine Below.alloc ?_ ?b_ _ | refine bw_set ?_ ?b_ | refine Below.setCell ?_ ?b_ _); case b_ => first | omega | (simp; done) | (simp; omega)) | refine Below.drew ?_ | refine below_drewN ?_ _))⟩
theorem oname_no (k : Int) (X : Bool) (N : Int) (S : ByteArray) (R O L : Int) (w : World) (h : ¬ okO k N S.size R O L) :
    Calls Try.prog 12 #[.agg #[.int .i64 k, .bool X, .int .i64 N, .string S, .int .i64 R, .int .i64 O, .int .i64 L]] w fun e w' => e = .returned (.tuple #[.string ⟨#[]⟩, .int .i64 200]) ∧ Below w.heap.size w w' := by
  have HV := Lib.hid (show oErr k N S R O L = 200 from if_neg h)
  all_goals go_enter Try.func12, Try.ntmps12
  all_goals go_wp2_with ((with_reducible refine rw_list ?_); (first | ((with_reducible apply wpList_load_cell); (case ho => with_reducible rfl); (case hgd => with_reducible rfl); (case hx => rfl); (case hu => first | exact Try.underlying23 | exact Try.underlying61 | exact Try.underlying3 | exact Try.underlying4 | exact Try.underlying9 | exact Try.underlying25); (case hd => rfl)) | ((with_reducible apply wpList_load_row); (case ho => with_reducible rfl); (case hgd => with_reducible rfl); (case hx => rfl); (case hu => first | exact Try.underlying23 | exact Try.underlying61 | exact Try.underlying3 | exact Try.underlying4 | exact Try.underlying9 | exact Try.underlying25); (case hd => rfl)) | ((with_reducible apply wpList_store_row); (case ho => with_reducible rfl); (case hgd => with_reducible rfl); (case hx => rfl); (case hy => rfl)) | ((with_reducible apply wpList_store_cell); (case ho => with_reducible rfl); (case hgd => with_reducible rfl); (case hx => rfl); (case hy => first | exact ev_const | exact ev_tmp rfl); (case h1 => rfl))); (case hg => exact (by with_reducible repeat (first | assumption | (refine rw_new ?e_; case e_ => first | rfl | (simp; done) | (simp; omega)) | apply rw_self | (apply rw_other; case hn => first | omega | (simp; omega)) | apply rw_alloc | apply rw_drew | apply rw_drewN))); (try case hv => rfl); (try case hi => kernel_rfl); (try case hold => rfl); (try case h1 => kernel_rfl); (try case hlt => rfl); (try case hcs => ((try simp only [List.setIfInBounds_toArray, List.set_cons_succ, List.set_cons_zero]); rfl)))
  all_goals refine (ocheck_any _ _ _ _ _ _ _ _).mono ?_
  all_goals rintro e w1 ⟨rfl, hb⟩
  all_goals have hs_w1 := hb.size
  all_goals (try simp at hs_w1)
  all_goals have hB_w1 : Below w.heap.size w w1 := below_then (w := w) (by with_reducible repeat (first | exact Below.refl _ _ | assumption | ((first | refine Below.alloc ?_ ?b_ _ | refine bw_set ?_ ?b_ | refine Below.setCell ?_ ?b_ _); case b_ => first | omega | (simp; done) | (simp; omega)) | refine Below.drew ?_ | refine below_drewN ?_ _)) (by first | omega | (simp; done) | (simp; omega) | (have hq_ := hb.size; omega)) hb
  all_goals have hx_ := rw_below (k := w.heap.size) hb (by with_reducible repeat (first | assumption | (refine rw_new ?e_; case e_ => first | rfl | (simp; done) | (simp; omega)) | apply rw_self | (apply rw_other; case hn => first | omega | (simp; omega)) | apply rw_alloc | apply rw_drew | apply rw_drewN))
  all_goals (try clear hp)
  all_goals (try clear hpc0 hpc1 hpc2 hpc3 hpc4 hpc5 hpc6)
  all_goals have hp := hx_
  all_goals clear hx_
  all_goals obtain ⟨hpc0, hpc1, hpc2, hpc3, hpc4, hpc5, hpc6⟩ := cel7 hp
  all_goals clear hb
  all_goals rw [HV.out]
  all_goals go_wp2_with ((with_reducible refine rw_list ?_); (first | ((with_reducible apply wpList_load_cell); (case ho => with_reducible rfl); (case hgd => with_reducible rfl); (case hx => rfl); (case hu => first | exact Try.underlying23 | exact Try.underlying61 | exact Try.underlying3 | exact Try.underlying4 | exact Try.underlying9 | exact Try.underlying25); (case hd => rfl)) | ((with_reducible apply wpList_load_row); (case ho => with_reducible rfl); (case hgd => with_reducible rfl); (case hx => rfl); (case hu => first | exact Try.underlying23 | exact Try.underlying61 | exact Try.underlying3 | exact Try.underlying4 | exact Try.underlying9 | exact Try.underlying25); (case hd => rfl)) | ((with_reducible apply wpList_store_row); (case ho => with_reducible rfl); (case hgd => with_reducible rfl); (case hx => rfl); (case hy => rfl)) | ((with_reducible apply wpList_store_cell); (case ho => with_reducible rfl); (case hgd => with_reducible rfl); (case hx => rfl); (case hy => first | exact ev_const | exact ev_tmp rfl); (case h1 => rfl))); (case hg => exact (by with_reducible repeat (first | assumption | (refine rw_new ?e_; case e_ => first | rfl | (simp; done) | (simp; omega)) | apply rw_self | (apply rw_other; case hn => first | omega | (simp; omega)) | apply rw_alloc | apply rw_drew | apply rw_drewN))); (try case hv => rfl); (try case hi => kernel_rfl); (try case hold => rfl); (try case h1 => kernel_rfl); (try case hlt => rfl); (try case hcs => ((try simp only [List.setIfInBounds_toArray, List.set_cons_succ, List.set_cons_zero]); rfl)))
  all_goals exact bodyPost_ret (v := .tuple #[.string ⟨#[]⟩, .int .i64 200]) (by simp [results, Try.results12, go_sem]) rfl ⟨rfl, (by with_reducible repeat (first | exact Below.refl _ _ | assumption | ((first | refine Below.alloc ?_ ?b_ _ | refine bw_set ?_ ?b_ | refine Below.setCell ?_ ?b_ _); case b_ => first | omega | (simp; done) | (simp; omega)) | refine Below.drew ?_ | refine below_drewN ?_ _))⟩
theorem oname_ok (k : Int) (X : Bool) (N : Int) (S : ByteArray) (R O L : Int) (w : World) (h : okO k N S.size R O L) :
    Calls Try.prog 12 #[.agg #[.int .i64 k, .bool X, .int .i64 N, .string S, .int .i64 R, .int .i64 O, .int .i64 L]] w fun e w' => e = .returned (.tuple #[.string (kName k), .int .i64 0]) ∧ Below w.heap.size w w' := by
  have HV := Lib.hid (show oErr k N S R O L = 0 from if_pos h)
  have hix := kinds_at k h.1
  all_goals go_enter Try.func12, Try.ntmps12
  all_goals go_wp2_with ((with_reducible refine rw_list ?_); (first | ((with_reducible apply wpList_load_cell); (case ho => with_reducible rfl); (case hgd => with_reducible rfl); (case hx => rfl); (case hu => first | exact Try.underlying23 | exact Try.underlying61 | exact Try.underlying3 | exact Try.underlying4 | exact Try.underlying9 | exact Try.underlying25); (case hd => rfl)) | ((with_reducible apply wpList_load_row); (case ho => with_reducible rfl); (case hgd => with_reducible rfl); (case hx => rfl); (case hu => first | exact Try.underlying23 | exact Try.underlying61 | exact Try.underlying3 | exact Try.underlying4 | exact Try.underlying9 | exact Try.underlying25); (case hd => rfl)) | ((with_reducible apply wpList_store_row); (case ho => with_reducible rfl); (case hgd => with_reducible rfl); (case hx => rfl); (case hy => rfl)) | ((with_reducible apply wpList_store_cell); (case ho => with_reducible rfl); (case hgd => with_reducible rfl); (case hx => rfl); (case hy => first | exact ev_const | exact ev_tmp rfl); (case h1 => rfl))); (case hg => exact (by with_reducible repeat (first | assumption | (refine rw_new ?e_; case e_ => first | rfl | (simp; done) | (simp; omega)) | apply rw_self | (apply rw_other; case hn => first | omega | (simp; omega)) | apply rw_alloc | apply rw_drew | apply rw_drewN))); (try case hv => rfl); (try case hi => kernel_rfl); (try case hold => rfl); (try case h1 => kernel_rfl); (try case hlt => rfl); (try case hcs => ((try simp only [List.setIfInBounds_toArray, List.set_cons_succ, List.set_cons_zero]); rfl)))
  all_goals refine (ocheck_any _ _ _ _ _ _ _ _).mono ?_
  all_goals rintro e w1 ⟨rfl, hb⟩
  all_goals have hs_w1 := hb.size
  all_goals (try simp at hs_w1)
  all_goals have hB_w1 : Below w.heap.size w w1 := below_then (w := w) (by with_reducible repeat (first | exact Below.refl _ _ | assumption | ((first | refine Below.alloc ?_ ?b_ _ | refine bw_set ?_ ?b_ | refine Below.setCell ?_ ?b_ _); case b_ => first | omega | (simp; done) | (simp; omega)) | refine Below.drew ?_ | refine below_drewN ?_ _)) (by first | omega | (simp; done) | (simp; omega) | (have hq_ := hb.size; omega)) hb
  all_goals have hx_ := rw_below (k := w.heap.size) hb (by with_reducible repeat (first | assumption | (refine rw_new ?e_; case e_ => first | rfl | (simp; done) | (simp; omega)) | apply rw_self | (apply rw_other; case hn => first | omega | (simp; omega)) | apply rw_alloc | apply rw_drew | apply rw_drewN))
  all_goals (try clear hp)
  all_goals (try clear hpc0 hpc1 hpc2 hpc3 hpc4 hpc5 hpc6)
  all_goals have hp := hx_
  all_goals clear hx_
  all_goals obtain ⟨hpc0, hpc1, hpc2, hpc3, hpc4, hpc5, hpc6⟩ := cel7 hp
  all_goals clear hb
  all_goals rw [HV.out]
  all_goals go_wp2_with ((with_reducible refine rw_list ?_); (first | ((with_reducible apply wpList_load_cell); (case ho => with_reducible rfl); (case hgd => with_reducible rfl); (case hx => rfl); (case hu => first | exact Try.underlying23 | exact Try.underlying61 | exact Try.underlying3 | exact Try.underlying4 | exact Try.underlying9 | exact Try.underlying25); (case hd => rfl)) | ((with_reducible apply wpList_load_row); (case ho => with_reducible rfl); (case hgd => with_reducible rfl); (case hx => rfl); (case hu => first | exact Try.underlying23 | exact Try.underlying61 | exact Try.underlying3 | exact Try.underlying4 | exact Try.underlying9 | exact Try.underlying25); (case hd => rfl)) | ((with_reducible apply wpList_store_row); (case ho => with_reducible rfl); (case hgd => with_reducible rfl); (case hx => rfl); (case hy => rfl)) | ((with_reducible apply wpList_store_cell); (case ho => with_reducible rfl); (case hgd => with_reducible rfl); (case hx => rfl); (case hy => first | exact ev_const | exact ev_tmp rfl); (case h1 => rfl))); (case hg => exact (by with_reducible repeat (first | assumption | (refine rw_new ?e_; case e_ => first | rfl | (simp; done) | (simp; omega)) | apply rw_self | (apply rw_other; case hn => first | omega | (simp; omega)) | apply rw_alloc | apply rw_drew | apply rw_drewN))); (try case hv => rfl); (try case hi => kernel_rfl); (try case hold => rfl); (try case h1 => kernel_rfl); (try case hlt => rfl); (try case hcs => ((try simp only [List.setIfInBounds_toArray, List.set_cons_succ, List.set_cons_zero]); rfl)))
  have hl1 : w.heap.size < w1.heap.size := rw_lt hp
  refine wp_region_grow [(1, none), (2, none), (0, some (.val (fun v => v = .agg kinds78))), (3, none), (4, none), (5, none), (6, none)] .done ?g1_ ?g2_ ?g3_ ?_
  case g1_ => kernel_rfl
  case g2_ => kernel_rfl
  case g3_ => exact fun _ _ _ _ _ h => h
  (apply wpG_p rfl rfl rfl rfl rfl; (intro w' K hK; (first | go_big_op | go_wp2_with fail); exact hK))
  (apply wpG_l rfl rfl rfl rfl rfl; (intro w' K hC hK; (have hr' := hC.old; simp at hr'); (first | go_big_op | go_wp2_with fail); exact hK); (case he => first | rfl | (simp [Act.put, *]; done)))
  refine wpG_g (d := 10) rfl rfl rfl rfl (by first | exact ⟨_, 0, rfl⟩ | (exact ⟨_, rfl⟩)) (fun w' K hC hK => ?_) (fun v hv => ?_)
  · (have hr' := hC.old; simp at hr'; (first | go_big_op | go_wp2_with fail); (refine Calls.mono (kinds_any _) ?_; rintro e w2 ⟨rfl, hb2⟩; exact hK _ _ rfl hb2 trivial))
  obtain rfl := hv
  (apply wpG_p rfl rfl rfl rfl rfl; (intro w' K hK; (first | go_big_op | go_wp2_with fail); exact hK))
  (apply wpG_p rfl rfl rfl rfl rfl; (intro w' K hK; (first | go_big_op | go_wp2_with fail); exact hK))
  (apply wpG_p rfl rfl rfl rfl rfl; (intro w' K hK; (first | go_big_op | go_wp2_with fail); exact hK))
  (apply wpG_p rfl rfl rfl rfl rfl; (intro w' K hK; (first | go_big_op | go_wp2_with fail); exact hK))
  refine wpG_nil (fun wz hB1 hG hD => ?_)
  clear hG
  (try clear hD)
  refine wpOrd_nil ?_
  have hBz : Below w.heap.size w wz := below_then (w := w) (by with_reducible repeat (first | exact Below.refl _ _ | assumption | ((first | refine Below.alloc ?_ ?b_ _ | refine bw_set ?_ ?b_ | refine Below.setCell ?_ ?b_ _); case b_ => first | omega | (simp; done) | (simp; omega)) | refine Below.drew ?_ | refine below_drewN ?_ _)) (by simp; omega) hB1
  all_goals go_wp2_with ((with_reducible refine rw_list ?_); (first | ((with_reducible apply wpList_load_cell); (case ho => with_reducible rfl); (case hgd => with_reducible rfl); (case hx => rfl); (case hu => first | exact Try.underlying23 | exact Try.underlying61 | exact Try.underlying3 | exact Try.underlying4 | exact Try.underlying9 | exact Try.underlying25); (case hd => rfl)) | ((with_reducible apply wpList_load_row); (case ho => with_reducible rfl); (case hgd => with_reducible rfl); (case hx => rfl); (case hu => first | exact Try.underlying23 | exact Try.underlying61 | exact Try.underlying3 | exact Try.underlying4 | exact Try.underlying9 | exact Try.underlying25); (case hd => rfl)) | ((with_reducible apply wpList_store_row); (case ho => with_reducible rfl); (case hgd => with_reducible rfl); (case hx => rfl); (case hy => rfl)) | ((with_reducible apply wpList_store_cell); (case ho => with_reducible rfl); (case hgd => with_reducible rfl); (case hx => rfl); (case hy => first | exact ev_const | exact ev_tmp rfl); (case h1 => rfl))); (case hg => exact (by with_reducible repeat (first | assumption | (refine rw_new ?e_; case e_ => first | rfl | (simp; done) | (simp; omega)) | apply rw_self | (apply rw_other; case hn => first | omega | (simp; omega)) | apply rw_alloc | apply rw_drew | apply rw_drewN))); (try case hv => rfl); (try case hi => kernel_rfl); (try case hold => rfl); (try case h1 => kernel_rfl); (try case hlt => rfl); (try case hcs => ((try simp only [List.setIfInBounds_toArray, List.set_cons_succ, List.set_cons_zero]); rfl)))
  all_goals exact bodyPost_ret (v := .tuple #[.string (kName k), .int .i64 0]) (by simp [results, Try.results12, go_sem]) rfl ⟨rfl, (by with_reducible repeat (first | exact Below.refl _ _ | assumption | ((first | refine Below.alloc ?_ ?b_ _ | refine bw_set ?_ ?b_ | refine Below.setCell ?_ ?b_ _); case b_ => first | omega | (simp; done) | (simp; omega)) | refine Below.drew ?_ | refine below_drewN ?_ _))⟩
end Go.Proofs.Yticbjpficaaaiaa.T3
