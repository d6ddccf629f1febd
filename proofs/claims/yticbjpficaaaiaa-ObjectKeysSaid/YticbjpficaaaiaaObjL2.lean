/- ObjectKeys: the walk. -/
import Derived.Test.YticbjpficaaaiaaObjJ
import Derived.Test.YticbjpficaaaiaaObjH
import Derived.Test.YticbjpficaaaiaaObjZ
import Derived.OpenShut
import Derived.WalkKit
import Derived.Lib.Hide
import Derived.Deep.QuietTactic
import Derived.BigQuiet
import Derived.Lib.QuietBelow
import Derived.Deep.RegionHeld3
import Derived.WalkLawsBesides
import Derived.WalkSpells
import Derived.Outline
import Derived.Deep.DeepFit
import Derived.Maps.AppendAt
import Derived.Deep.AppendLies
namespace Go.Proofs.Yticbjpficaaaiaa.T3
set_option linter.unusedSimpArgs false
set_option linter.unusedVariables false
open Go.RowKit
set_option maxRecDepth 100000
set_option maxHeartbeats 4000000
theorem keys_walk (k : Int) (X : Bool) (N : Int) (S : ByteArray) (R O L : Int) (w : World)  (s_a0_Kind : (Lit.int .i64 k).wf = true) (s_a0_N : (Lit.int .i64 N).wf = true) (s_a0_Name : S.size ≤ maxLen) (s_a0_Ref : (Lit.int .i64 R).wf = true) (s_a0_Off : (Lit.int .i64 O).wf = true) (s_a0_Len : (Lit.int .i64 L).wf = true) :
    Calls Try.prog 5 #[.agg #[.int .i64 k, .bool X, .int .i64 N, .string S, .int .i64 R, .int .i64 O, .int .i64 L]] w fun e w' => e = .returned (.bool true) ∧ Below w.heap.size w w' := by
  have hN := (bounds_i64 s_a0_N).2
  clear s_a0_Kind s_a0_N s_a0_Name s_a0_Ref s_a0_Off s_a0_Len
  by_cases h : okO k N S.size R O L
  · have hd := Lib.hid (show decide (okO k N S.size R O L) = true from decide_eq_true h)
    by_cases k0 : k = 0
    · have k0' := Lib.hid k0
      have t0 : (k == 0) = true := by simpa using k0
      clear k0
      go_enter Try.func5, Try.ntmps5
      go_wp2_with ((with_reducible refine rw_list ?_); (first | ((with_reducible apply wpList_load_cell); (case ho => with_reducible rfl); (case hgd => with_reducible rfl); (case hx => rfl); (case hu => first | exact Try.underlying23 | exact Try.underlying61 | exact Try.underlying3 | exact Try.underlying4 | exact Try.underlying9 | exact Try.underlying25); (case hd => rfl)) | ((with_reducible apply wpList_load_row); (case ho => with_reducible rfl); (case hgd => with_reducible rfl); (case hx => rfl); (case hu => first | exact Try.underlying23 | exact Try.underlying61 | exact Try.underlying3 | exact Try.underlying4 | exact Try.underlying9 | exact Try.underlying25); (case hd => rfl)) | ((with_reducible apply wpList_store_row); (case ho => with_reducible rfl); (case hgd => with_reducible rfl); (case hx => rfl); (case hy => rfl)) | ((with_reducible apply wpList_store_cell); (case ho => with_reducible rfl); (case hgd => with_reducible rfl); (case hx => rfl); (case hy => first | exact ev_const | exact ev_tmp rfl); (case h1 => rfl))); (case hg => exact (by with_reducible repeat (first | assumption | (refine rw_new ?e_; case e_ => first | rfl | (simp; done) | (simp; omega)) | apply rw_self | (apply rw_other; case hn => first | omega | (simp; omega)) | apply rw_alloc | apply rw_drew | apply rw_drewN))); (try case hv => rfl); (try case hi => kernel_rfl); (try case hold => rfl); (try case h1 => kernel_rfl); (try case hlt => rfl); (try case hcs => ((try simp only [List.setIfInBounds_toArray, List.set_cons_succ, List.set_cons_zero]); rfl)))
      refine (wakes_any _).mono ?_
      rintro e w1 ⟨rfl, hb⟩
      have hs_w1 := hb.size
      (try simp at hs_w1)
      have hB_w1 : Below w.heap.size w w1 := below_then (w := w) (by with_reducible repeat (first | exact Below.refl _ _ | assumption | ((first | refine Below.alloc ?_ ?b_ _ | refine bw_set ?_ ?b_ | refine Below.setCell ?_ ?b_ _); case b_ => first | omega | (simp; done) | (simp; omega)) | refine Below.drew ?_ | refine below_drewN ?_ _)) (by first | omega | (simp; done) | (simp; omega) | (have hq_ := hb.size; omega)) hb
      have hx_ := rw_below (k := w.heap.size) hb (by with_reducible repeat (first | assumption | (refine rw_new ?e_; case e_ => first | rfl | (simp; done) | (simp; omega)) | apply rw_self | (apply rw_other; case hn => first | omega | (simp; omega)) | apply rw_alloc | apply rw_drew | apply rw_drewN))
      (try clear hp)
      (try clear hpc0 hpc1 hpc2 hpc3 hpc4 hpc5 hpc6)
      have hp := hx_
      clear hx_
      obtain ⟨hpc0, hpc1, hpc2, hpc3, hpc4, hpc5, hpc6⟩ := cel7 hp
      clear hb
      go_wp2_with ((with_reducible refine rw_list ?_); (first | ((with_reducible apply wpList_load_cell); (case ho => with_reducible rfl); (case hgd => with_reducible rfl); (case hx => rfl); (case hu => first | exact Try.underlying23 | exact Try.underlying61 | exact Try.underlying3 | exact Try.underlying4 | exact Try.underlying9 | exact Try.underlying25); (case hd => rfl)) | ((with_reducible apply wpList_load_row); (case ho => with_reducible rfl); (case hgd => with_reducible rfl); (case hx => rfl); (case hu => first | exact Try.underlying23 | exact Try.underlying61 | exact Try.underlying3 | exact Try.underlying4 | exact Try.underlying9 | exact Try.underlying25); (case hd => rfl)) | ((with_reducible apply wpList_store_row); (case ho => with_reducible rfl); (case hgd => with_reducible rfl); (case hx => rfl); (case hy => rfl)) | ((with_reducible apply wpList_store_cell); (case ho => with_reducible rfl); (case hgd => with_reducible rfl); (case hx => rfl); (case hy => first | exact ev_const | exact ev_tmp rfl); (case h1 => rfl))); (case hg => exact (by with_reducible repeat (first | assumption | (refine rw_new ?e_; case e_ => first | rfl | (simp; done) | (simp; omega)) | apply rw_self | (apply rw_other; case hn => first | omega | (simp; omega)) | apply rw_alloc | apply rw_drew | apply rw_drewN))); (try case hv => rfl); (try case hi => kernel_rfl); (try case hold => rfl); (try case h1 => kernel_rfl); (try case hlt => rfl); (try case hcs => ((try simp only [List.setIfInBounds_toArray, List.set_cons_succ, List.set_cons_zero]); rfl)))
      refine (okey_null _ _ _ _ _ _ _ _ h k0'.out).mono ?_
      rintro e w2 ⟨rfl, hb⟩
      have hs_w2 := hb.size
      (try simp at hs_w2)
      have hB_w2 : Below w.heap.size w w2 := below_then (w := w) (by with_reducible repeat (first | exact Below.refl _ _ | assumption | ((first | refine Below.alloc ?_ ?b_ _ | refine bw_set ?_ ?b_ | refine Below.setCell ?_ ?b_ _); case b_ => first | omega | (simp; done) | (simp; omega)) | refine Below.drew ?_ | refine below_drewN ?_ _)) (by first | omega | (simp; done) | (simp; omega) | (have hq_ := hb.size; omega)) hb
      have hx_ := rw_below (k := w.heap.size) hb (by with_reducible repeat (first | assumption | (refine rw_new ?e_; case e_ => first | rfl | (simp; done) | (simp; omega)) | apply rw_self | (apply rw_other; case hn => first | omega | (simp; omega)) | apply rw_alloc | apply rw_drew | apply rw_drewN))
      (try clear hp)
      (try clear hpc0 hpc1 hpc2 hpc3 hpc4 hpc5 hpc6)
      have hp := hx_
      clear hx_
      obtain ⟨hpc0, hpc1, hpc2, hpc3, hpc4, hpc5, hpc6⟩ := cel7 hp
      clear hb
      go_wp2_with ((with_reducible refine rw_list ?_); (first | ((with_reducible apply wpList_load_cell); (case ho => with_reducible rfl); (case hgd => with_reducible rfl); (case hx => rfl); (case hu => first | exact Try.underlying23 | exact Try.underlying61 | exact Try.underlying3 | exact Try.underlying4 | exact Try.underlying9 | exact Try.underlying25); (case hd => rfl)) | ((with_reducible apply wpList_load_row); (case ho => with_reducible rfl); (case hgd => with_reducible rfl); (case hx => rfl); (case hu => first | exact Try.underlying23 | exact Try.underlying61 | exact Try.underlying3 | exact Try.underlying4 | exact Try.underlying9 | exact Try.underlying25); (case hd => rfl)) | ((with_reducible apply wpList_store_row); (case ho => with_reducible rfl); (case hgd => with_reducible rfl); (case hx => rfl); (case hy => rfl)) | ((with_reducible apply wpList_store_cell); (case ho => with_reducible rfl); (case hgd => with_reducible rfl); (case hx => rfl); (case hy => first | exact ev_const | exact ev_tmp rfl); (case h1 => rfl))); (case hg => exact (by with_reducible repeat (first | assumption | (refine rw_new ?e_; case e_ => first | rfl | (simp; done) | (simp; omega)) | apply rw_self | (apply rw_other; case hn => first | omega | (simp; omega)) | apply rw_alloc | apply rw_drew | apply rw_drewN))); (try case hv => rfl); (try case hi => kernel_rfl); (try case hold => rfl); (try case h1 => kernel_rfl); (try case hlt => rfl); (try case hcs => ((try simp only [List.setIfInBounds_toArray, List.set_cons_succ, List.set_cons_zero]); rfl)))
      refine (right_any _ _ _ _ _ _ _ _ hN).mono ?_
      rintro e w3 ⟨rfl, hb⟩
      have hs_w3 := hb.size
      (try simp at hs_w3)
      have hB_w3 : Below w.heap.size w w3 := below_then (w := w) (by with_reducible repeat (first | exact Below.refl _ _ | assumption | ((first | refine Below.alloc ?_ ?b_ _ | refine bw_set ?_ ?b_ | refine Below.setCell ?_ ?b_ _); case b_ => first | omega | (simp; done) | (simp; omega)) | refine Below.drew ?_ | refine below_drewN ?_ _)) (by first | omega | (simp; done) | (simp; omega) | (have hq_ := hb.size; omega)) hb
      have hx_ := rw_below (k := w.heap.size) hb (by with_reducible repeat (first | assumption | (refine rw_new ?e_; case e_ => first | rfl | (simp; done) | (simp; omega)) | apply rw_self | (apply rw_other; case hn => first | omega | (simp; omega)) | apply rw_alloc | apply rw_drew | apply rw_drewN))
      (try clear hp)
      (try clear hpc0 hpc1 hpc2 hpc3 hpc4 hpc5 hpc6)
      have hp := hx_
      clear hx_
      obtain ⟨hpc0, hpc1, hpc2, hpc3, hpc4, hpc5, hpc6⟩ := cel7 hp
      have hx_ := rw_below (k := w2.heap.size) hb (by with_reducible repeat (first | assumption | (refine rw_new ?e_; case e_ => first | rfl | (simp; done) | (simp; omega)) | apply rw_self | (apply rw_other; case hn => first | omega | (simp; omega)) | apply rw_alloc | apply rw_drew | apply rw_drewN))
      (try clear hq)
      (try clear hqc0 hqc1 hqc2 hqc3 hqc4 hqc5 hqc6)
      have hq := hx_
      clear hx_
      obtain ⟨hqc0, hqc1, hqc2, hqc3, hqc4, hqc5, hqc6⟩ := cel7 hq
      clear hb
      have hl := rw_lt hp
      have hl2 := rw_lt hq
      rw [hd.out]
      go_wp2_with ((with_reducible refine rw_list ?_); (first | ((with_reducible apply wpList_load_cell); (case ho => with_reducible rfl); (case hgd => with_reducible rfl); (case hx => rfl); (case hu => first | exact Try.underlying23 | exact Try.underlying61 | exact Try.underlying3 | exact Try.underlying4 | exact Try.underlying9 | exact Try.underlying25); (case hd => rfl)) | ((with_reducible apply wpList_load_row); (case ho => with_reducible rfl); (case hgd => with_reducible rfl); (case hx => rfl); (case hu => first | exact Try.underlying23 | exact Try.underlying61 | exact Try.underlying3 | exact Try.underlying4 | exact Try.underlying9 | exact Try.underlying25); (case hd => rfl)) | ((with_reducible apply wpList_store_row); (case ho => with_reducible rfl); (case hgd => with_reducible rfl); (case hx => rfl); (case hy => rfl)) | ((with_reducible apply wpList_store_cell); (case ho => with_reducible rfl); (case hgd => with_reducible rfl); (case hx => rfl); (case hy => first | exact ev_const | exact ev_tmp rfl); (case h1 => rfl))); (case hg => exact (by with_reducible repeat (first | assumption | (refine rw_new ?e_; case e_ => first | rfl | (simp; done) | (simp; omega)) | apply rw_self | (apply rw_other; case hn => first | omega | (simp; omega)) | apply rw_alloc | apply rw_drew | apply rw_drewN))); (try case hv => rfl); (try case hi => kernel_rfl); (try case hold => rfl); (try case h1 => kernel_rfl); (try case hlt => rfl); (try case hcs => ((try simp only [List.setIfInBounds_toArray, List.set_cons_succ, List.set_cons_zero]); rfl)))
      go_ret
      exact ⟨rfl, (by with_reducible repeat (first | exact Below.refl _ _ | assumption | ((first | refine Below.alloc ?_ ?b_ _ | refine bw_set ?_ ?b_ | refine Below.setCell ?_ ?b_ _); case b_ => first | omega | (simp; done) | (simp; omega)) | refine Below.drew ?_ | refine below_drewN ?_ _))⟩
    · by_cases k6 : k = 6
      · have k6' := Lib.hid k6
        have t0 : (k == 0) = false := by simpa using k0
        have t6 : (k == 6) = true := by simpa using k6
        clear k0 k6
        go_enter Try.func5, Try.ntmps5
        go_wp2_with ((with_reducible refine rw_list ?_); (first | ((with_reducible apply wpList_load_cell); (case ho => with_reducible rfl); (case hgd => with_reducible rfl); (case hx => rfl); (case hu => first | exact Try.underlying23 | exact Try.underlying61 | exact Try.underlying3 | exact Try.underlying4 | exact Try.underlying9 | exact Try.underlying25); (case hd => rfl)) | ((with_reducible apply wpList_load_row); (case ho => with_reducible rfl); (case hgd => with_reducible rfl); (case hx => rfl); (case hu => first | exact Try.underlying23 | exact Try.underlying61 | exact Try.underlying3 | exact Try.underlying4 | exact Try.underlying9 | exact Try.underlying25); (case hd => rfl)) | ((with_reducible apply wpList_store_row); (case ho => with_reducible rfl); (case hgd => with_reducible rfl); (case hx => rfl); (case hy => rfl)) | ((with_reducible apply wpList_store_cell); (case ho => with_reducible rfl); (case hgd => with_reducible rfl); (case hx => rfl); (case hy => first | exact ev_const | exact ev_tmp rfl); (case h1 => rfl))); (case hg => exact (by with_reducible repeat (first | assumption | (refine rw_new ?e_; case e_ => first | rfl | (simp; done) | (simp; omega)) | apply rw_self | (apply rw_other; case hn => first | omega | (simp; omega)) | apply rw_alloc | apply rw_drew | apply rw_drewN))); (try case hv => rfl); (try case hi => kernel_rfl); (try case hold => rfl); (try case h1 => kernel_rfl); (try case hlt => rfl); (try case hcs => ((try simp only [List.setIfInBounds_toArray, List.set_cons_succ, List.set_cons_zero]); rfl)))
        refine (wakes_any _).mono ?_
        rintro e w1 ⟨rfl, hb⟩
        have hs_w1 := hb.size
        (try simp at hs_w1)
        have hB_w1 : Below w.heap.size w w1 := below_then (w := w) (by with_reducible repeat (first | exact Below.refl _ _ | assumption | ((first | refine Below.alloc ?_ ?b_ _ | refine bw_set ?_ ?b_ | refine Below.setCell ?_ ?b_ _); case b_ => first | omega | (simp; done) | (simp; omega)) | refine Below.drew ?_ | refine below_drewN ?_ _)) (by first | omega | (simp; done) | (simp; omega) | (have hq_ := hb.size; omega)) hb
        have hx_ := rw_below (k := w.heap.size) hb (by with_reducible repeat (first | assumption | (refine rw_new ?e_; case e_ => first | rfl | (simp; done) | (simp; omega)) | apply rw_self | (apply rw_other; case hn => first | omega | (simp; omega)) | apply rw_alloc | apply rw_drew | apply rw_drewN))
        (try clear hp)
        (try clear hpc0 hpc1 hpc2 hpc3 hpc4 hpc5 hpc6)
        have hp := hx_
        clear hx_
        obtain ⟨hpc0, hpc1, hpc2, hpc3, hpc4, hpc5, hpc6⟩ := cel7 hp
        clear hb
        go_wp2_with ((with_reducible refine rw_list ?_); (first | ((with_reducible apply wpList_load_cell); (case ho => with_reducible rfl); (case hgd => with_reducible rfl); (case hx => rfl); (case hu => first | exact Try.underlying23 | exact Try.underlying61 | exact Try.underlying3 | exact Try.underlying4 | exact Try.underlying9 | exact Try.underlying25); (case hd => rfl)) | ((with_reducible apply wpList_load_row); (case ho => with_reducible rfl); (case hgd => with_reducible rfl); (case hx => rfl); (case hu => first | exact Try.underlying23 | exact Try.underlying61 | exact Try.underlying3 | exact Try.underlying4 | exact Try.underlying9 | exact Try.underlying25); (case hd => rfl)) | ((with_reducible apply wpList_store_row); (case ho => with_reducible rfl); (case hgd => with_reducible rfl); (case hx => rfl); (case hy => rfl)) | ((with_reducible apply wpList_store_cell); (case ho => with_reducible rfl); (case hgd => with_reducible rfl); (case hx => rfl); (case hy => first | exact ev_const | exact ev_tmp rfl); (case h1 => rfl))); (case hg => exact (by with_reducible repeat (first | assumption | (refine rw_new ?e_; case e_ => first | rfl | (simp; done) | (simp; omega)) | apply rw_self | (apply rw_other; case hn => first | omega | (simp; omega)) | apply rw_alloc | apply rw_drew | apply rw_drewN))); (try case hv => rfl); (try case hi => kernel_rfl); (try case hold => rfl); (try case h1 => kernel_rfl); (try case hlt => rfl); (try case hcs => ((try simp only [List.setIfInBounds_toArray, List.set_cons_succ, List.set_cons_zero]); rfl)))
        refine (okey_str _ _ _ _ _ _ _ _ h k6'.out).mono ?_
        rintro e w2 ⟨rfl, hb⟩
        have hs_w2 := hb.size
        (try simp at hs_w2)
        have hB_w2 : Below w.heap.size w w2 := below_then (w := w) (by with_reducible repeat (first | exact Below.refl _ _ | assumption | ((first | refine Below.alloc ?_ ?b_ _ | refine bw_set ?_ ?b_ | refine Below.setCell ?_ ?b_ _); case b_ => first | omega | (simp; done) | (simp; omega)) | refine Below.drew ?_ | refine below_drewN ?_ _)) (by first | omega | (simp; done) | (simp; omega) | (have hq_ := hb.size; omega)) hb
        have hx_ := rw_below (k := w.heap.size) hb (by with_reducible repeat (first | assumption | (refine rw_new ?e_; case e_ => first | rfl | (simp; done) | (simp; omega)) | apply rw_self | (apply rw_other; case hn => first | omega | (simp; omega)) | apply rw_alloc | apply rw_drew | apply rw_drewN))
        (try clear hp)
        (try clear hpc0 hpc1 hpc2 hpc3 hpc4 hpc5 hpc6)
        have hp := hx_
        clear hx_
        obtain ⟨hpc0, hpc1, hpc2, hpc3, hpc4, hpc5, hpc6⟩ := cel7 hp
        clear hb
        go_wp2_with ((with_reducible refine rw_list ?_); (first | ((with_reducible apply wpList_load_cell); (case ho => with_reducible rfl); (case hgd => with_reducible rfl); (case hx => rfl); (case hu => first | exact Try.underlying23 | exact Try.underlying61 | exact Try.underlying3 | exact Try.underlying4 | exact Try.underlying9 | exact Try.underlying25); (case hd => rfl)) | ((with_reducible apply wpList_load_row); (case ho => with_reducible rfl); (case hgd => with_reducible rfl); (case hx => rfl); (case hu => first | exact Try.underlying23 | exact Try.underlying61 | exact Try.underlying3 | exact Try.underlying4 | exact Try.underlying9 | exact Try.underlying25); (case hd => rfl)) | ((with_reducible apply wpList_store_row); (case ho => with_reducible rfl); (case hgd => with_reducible rfl); (case hx => rfl); (case hy => rfl)) | ((with_reducible apply wpList_store_cell); (case ho => with_reducible rfl); (case hgd => with_reducible rfl); (case hx => rfl); (case hy => first | exact ev_const | exact ev_tmp rfl); (case h1 => rfl))); (case hg => exact (by with_reducible repeat (first | assumption | (refine rw_new ?e_; case e_ => first | rfl | (simp; done) | (simp; omega)) | apply rw_self | (apply rw_other; case hn => first | omega | (simp; omega)) | apply rw_alloc | apply rw_drew | apply rw_drewN))); (try case hv => rfl); (try case hi => kernel_rfl); (try case hold => rfl); (try case h1 => kernel_rfl); (try case hlt => rfl); (try case hcs => ((try simp only [List.setIfInBounds_toArray, List.set_cons_succ, List.set_cons_zero]); rfl)))
        refine (right_any _ _ _ _ _ _ _ _ hN).mono ?_
        rintro e w3 ⟨rfl, hb⟩
        have hs_w3 := hb.size
        (try simp at hs_w3)
        have hB_w3 : Below w.heap.size w w3 := below_then (w := w) (by with_reducible repeat (first | exact Below.refl _ _ | assumption | ((first | refine Below.alloc ?_ ?b_ _ | refine bw_set ?_ ?b_ | refine Below.setCell ?_ ?b_ _); case b_ => first | omega | (simp; done) | (simp; omega)) | refine Below.drew ?_ | refine below_drewN ?_ _)) (by first | omega | (simp; done) | (simp; omega) | (have hq_ := hb.size; omega)) hb
        have hx_ := rw_below (k := w.heap.size) hb (by with_reducible repeat (first | assumption | (refine rw_new ?e_; case e_ => first | rfl | (simp; done) | (simp; omega)) | apply rw_self | (apply rw_other; case hn => first | omega | (simp; omega)) | apply rw_alloc | apply rw_drew | apply rw_drewN))
        (try clear hp)
        (try clear hpc0 hpc1 hpc2 hpc3 hpc4 hpc5 hpc6)
        have hp := hx_
        clear hx_
        obtain ⟨hpc0, hpc1, hpc2, hpc3, hpc4, hpc5, hpc6⟩ := cel7 hp
        have hx_ := rw_below (k := w2.heap.size) hb (by with_reducible repeat (first | assumption | (refine rw_new ?e_; case e_ => first | rfl | (simp; done) | (simp; omega)) | apply rw_self | (apply rw_other; case hn => first | omega | (simp; omega)) | apply rw_alloc | apply rw_drew | apply rw_drewN))
        (try clear hq)
        (try clear hqc0 hqc1 hqc2 hqc3 hqc4 hqc5 hqc6)
        have hq := hx_
        clear hx_
        obtain ⟨hqc0, hqc1, hqc2, hqc3, hqc4, hqc5, hqc6⟩ := cel7 hq
        clear hb
        have hl := rw_lt hp
        have hl2 := rw_lt hq
        rw [hd.out]
        go_wp2_with ((with_reducible refine rw_list ?_); (first | ((with_reducible apply wpList_load_cell); (case ho => with_reducible rfl); (case hgd => with_reducible rfl); (case hx => rfl); (case hu => first | exact Try.underlying23 | exact Try.underlying61 | exact Try.underlying3 | exact Try.underlying4 | exact Try.underlying9 | exact Try.underlying25); (case hd => rfl)) | ((with_reducible apply wpList_load_row); (case ho => with_reducible rfl); (case hgd => with_reducible rfl); (case hx => rfl); (case hu => first | exact Try.underlying23 | exact Try.underlying61 | exact Try.underlying3 | exact Try.underlying4 | exact Try.underlying9 | exact Try.underlying25); (case hd => rfl)) | ((with_reducible apply wpList_store_row); (case ho => with_reducible rfl); (case hgd => with_reducible rfl); (case hx => rfl); (case hy => rfl)) | ((with_reducible apply wpList_store_cell); (case ho => with_reducible rfl); (case hgd => with_reducible rfl); (case hx => rfl); (case hy => first | exact ev_const | exact ev_tmp rfl); (case h1 => rfl))); (case hg => exact (by with_reducible repeat (first | assumption | (refine rw_new ?e_; case e_ => first | rfl | (simp; done) | (simp; omega)) | apply rw_self | (apply rw_other; case hn => first | omega | (simp; omega)) | apply rw_alloc | apply rw_drew | apply rw_drewN))); (try case hv => rfl); (try case hi => kernel_rfl); (try case hold => rfl); (try case h1 => kernel_rfl); (try case hlt => rfl); (try case hcs => ((try simp only [List.setIfInBounds_toArray, List.set_cons_succ, List.set_cons_zero]); rfl)))
        go_ret
        exact ⟨rfl, (by with_reducible repeat (first | exact Below.refl _ _ | assumption | ((first | refine Below.alloc ?_ ?b_ _ | refine bw_set ?_ ?b_ | refine Below.setCell ?_ ?b_ _); case b_ => first | omega | (simp; done) | (simp; omega)) | refine Below.drew ?_ | refine below_drewN ?_ _))⟩
      · have t0 : (k == 0) = false := by simpa using k0
        have t6 : (k == 6) = false := by simpa using k6
        by_cases k4 : k = 4
        · obtain ⟨h1, h2⟩ : -2147483648 ≤ N ∧ N ≤ 2147483648 := by have := num_ok h (.inr k4); omega
          subst k4
          by_cases hm : N.tmod 65536 = 0
          · have hm' := Lib.hid hm
            clear hm
            go_enter Try.func5, Try.ntmps5
            go_wp2_with ((with_reducible refine rw_list ?_); (first | ((with_reducible apply wpList_load_cell); (case ho => with_reducible rfl); (case hgd => with_reducible rfl); (case hx => rfl); (case hu => first | exact Try.underlying23 | exact Try.underlying61 | exact Try.underlying3 | exact Try.underlying4 | exact Try.underlying9 | exact Try.underlying25); (case hd => rfl)) | ((with_reducible apply wpList_load_row); (case ho => with_reducible rfl); (case hgd => with_reducible rfl); (case hx => rfl); (case hu => first | exact Try.underlying23 | exact Try.underlying61 | exact Try.underlying3 | exact Try.underlying4 | exact Try.underlying9 | exact Try.underlying25); (case hd => rfl)) | ((with_reducible apply wpList_store_row); (case ho => with_reducible rfl); (case hgd => with_reducible rfl); (case hx => rfl); (case hy => rfl)) | ((with_reducible apply wpList_store_cell); (case ho => with_reducible rfl); (case hgd => with_reducible rfl); (case hx => rfl); (case hy => first | exact ev_const | exact ev_tmp rfl); (case h1 => rfl))); (case hg => exact (by with_reducible repeat (first | assumption | (refine rw_new ?e_; case e_ => first | rfl | (simp; done) | (simp; omega)) | apply rw_self | (apply rw_other; case hn => first | omega | (simp; omega)) | apply rw_alloc | apply rw_drew | apply rw_drewN))); (try case hv => rfl); (try case hi => kernel_rfl); (try case hold => rfl); (try case h1 => kernel_rfl); (try case hlt => rfl); (try case hcs => ((try simp only [List.setIfInBounds_toArray, List.set_cons_succ, List.set_cons_zero]); rfl)))
            refine (wakes_any _).mono ?_
            rintro e w1 ⟨rfl, hb⟩
            have hs_w1 := hb.size
            (try simp at hs_w1)
            have hB_w1 : Below w.heap.size w w1 := below_then (w := w) (by with_reducible repeat (first | exact Below.refl _ _ | assumption | ((first | refine Below.alloc ?_ ?b_ _ | refine bw_set ?_ ?b_ | refine Below.setCell ?_ ?b_ _); case b_ => first | omega | (simp; done) | (simp; omega)) | refine Below.drew ?_ | refine below_drewN ?_ _)) (by first | omega | (simp; done) | (simp; omega) | (have hq_ := hb.size; omega)) hb
            have hx_ := rw_below (k := w.heap.size) hb (by with_reducible repeat (first | assumption | (refine rw_new ?e_; case e_ => first | rfl | (simp; done) | (simp; omega)) | apply rw_self | (apply rw_other; case hn => first | omega | (simp; omega)) | apply rw_alloc | apply rw_drew | apply rw_drewN))
            (try clear hp)
            (try clear hpc0 hpc1 hpc2 hpc3 hpc4 hpc5 hpc6)
            have hp := hx_
            clear hx_
            obtain ⟨hpc0, hpc1, hpc2, hpc3, hpc4, hpc5, hpc6⟩ := cel7 hp
            clear hb
            go_wp2_with ((with_reducible refine rw_list ?_); (first | ((with_reducible apply wpList_load_cell); (case ho => with_reducible rfl); (case hgd => with_reducible rfl); (case hx => rfl); (case hu => first | exact Try.underlying23 | exact Try.underlying61 | exact Try.underlying3 | exact Try.underlying4 | exact Try.underlying9 | exact Try.underlying25); (case hd => rfl)) | ((with_reducible apply wpList_load_row); (case ho => with_reducible rfl); (case hgd => with_reducible rfl); (case hx => rfl); (case hu => first | exact Try.underlying23 | exact Try.underlying61 | exact Try.underlying3 | exact Try.underlying4 | exact Try.underlying9 | exact Try.underlying25); (case hd => rfl)) | ((with_reducible apply wpList_store_row); (case ho => with_reducible rfl); (case hgd => with_reducible rfl); (case hx => rfl); (case hy => rfl)) | ((with_reducible apply wpList_store_cell); (case ho => with_reducible rfl); (case hgd => with_reducible rfl); (case hx => rfl); (case hy => first | exact ev_const | exact ev_tmp rfl); (case h1 => rfl))); (case hg => exact (by with_reducible repeat (first | assumption | (refine rw_new ?e_; case e_ => first | rfl | (simp; done) | (simp; omega)) | apply rw_self | (apply rw_other; case hn => first | omega | (simp; omega)) | apply rw_alloc | apply rw_drew | apply rw_drewN))); (try case hv => rfl); (try case hi => kernel_rfl); (try case hold => rfl); (try case h1 => kernel_rfl); (try case hlt => rfl); (try case hcs => ((try simp only [List.setIfInBounds_toArray, List.set_cons_succ, List.set_cons_zero]); rfl)))
            refine (okey_int _ _ _ _ _ _ _ _ h rfl hm'.out).mono ?_
            rintro e w2 ⟨rfl, hb⟩
            have hs_w2 := hb.size
            (try simp at hs_w2)
            have hB_w2 : Below w.heap.size w w2 := below_then (w := w) (by with_reducible repeat (first | exact Below.refl _ _ | assumption | ((first | refine Below.alloc ?_ ?b_ _ | refine bw_set ?_ ?b_ | refine Below.setCell ?_ ?b_ _); case b_ => first | omega | (simp; done) | (simp; omega)) | refine Below.drew ?_ | refine below_drewN ?_ _)) (by first | omega | (simp; done) | (simp; omega) | (have hq_ := hb.size; omega)) hb
            have hx_ := rw_below (k := w.heap.size) hb (by with_reducible repeat (first | assumption | (refine rw_new ?e_; case e_ => first | rfl | (simp; done) | (simp; omega)) | apply rw_self | (apply rw_other; case hn => first | omega | (simp; omega)) | apply rw_alloc | apply rw_drew | apply rw_drewN))
            (try clear hp)
            (try clear hpc0 hpc1 hpc2 hpc3 hpc4 hpc5 hpc6)
            have hp := hx_
            clear hx_
            obtain ⟨hpc0, hpc1, hpc2, hpc3, hpc4, hpc5, hpc6⟩ := cel7 hp
            clear hb
            go_wp2_with ((with_reducible refine rw_list ?_); (first | ((with_reducible apply wpList_load_cell); (case ho => with_reducible rfl); (case hgd => with_reducible rfl); (case hx => rfl); (case hu => first | exact Try.underlying23 | exact Try.underlying61 | exact Try.underlying3 | exact Try.underlying4 | exact Try.underlying9 | exact Try.underlying25); (case hd => rfl)) | ((with_reducible apply wpList_load_row); (case ho => with_reducible rfl); (case hgd => with_reducible rfl); (case hx => rfl); (case hu => first | exact Try.underlying23 | exact Try.underlying61 | exact Try.underlying3 | exact Try.underlying4 | exact Try.underlying9 | exact Try.underlying25); (case hd => rfl)) | ((with_reducible apply wpList_store_row); (case ho => with_reducible rfl); (case hgd => with_reducible rfl); (case hx => rfl); (case hy => rfl)) | ((with_reducible apply wpList_store_cell); (case ho => with_reducible rfl); (case hgd => with_reducible rfl); (case hx => rfl); (case hy => first | exact ev_const | exact ev_tmp rfl); (case h1 => rfl))); (case hg => exact (by with_reducible repeat (first | assumption | (refine rw_new ?e_; case e_ => first | rfl | (simp; done) | (simp; omega)) | apply rw_self | (apply rw_other; case hn => first | omega | (simp; omega)) | apply rw_alloc | apply rw_drew | apply rw_drewN))); (try case hv => rfl); (try case hi => kernel_rfl); (try case hold => rfl); (try case h1 => kernel_rfl); (try case hlt => rfl); (try case hcs => ((try simp only [List.setIfInBounds_toArray, List.set_cons_succ, List.set_cons_zero]); rfl)))
            refine (right_any _ _ _ _ _ _ _ _ hN).mono ?_
            rintro e w3 ⟨rfl, hb⟩
            have hs_w3 := hb.size
            (try simp at hs_w3)
            have hB_w3 : Below w.heap.size w w3 := below_then (w := w) (by with_reducible repeat (first | exact Below.refl _ _ | assumption | ((first | refine Below.alloc ?_ ?b_ _ | refine bw_set ?_ ?b_ | refine Below.setCell ?_ ?b_ _); case b_ => first | omega | (simp; done) | (simp; omega)) | refine Below.drew ?_ | refine below_drewN ?_ _)) (by first | omega | (simp; done) | (simp; omega) | (have hq_ := hb.size; omega)) hb
            have hx_ := rw_below (k := w.heap.size) hb (by with_reducible repeat (first | assumption | (refine rw_new ?e_; case e_ => first | rfl | (simp; done) | (simp; omega)) | apply rw_self | (apply rw_other; case hn => first | omega | (simp; omega)) | apply rw_alloc | apply rw_drew | apply rw_drewN))
            (try clear hp)
            (try clear hpc0 hpc1 hpc2 hpc3 hpc4 hpc5 hpc6)
            have hp := hx_
            clear hx_
            obtain ⟨hpc0, hpc1, hpc2, hpc3, hpc4, hpc5, hpc6⟩ := cel7 hp
            have hx_ := rw_below (k := w2.heap.size) hb (by with_reducible repeat (first | assumption | (refine rw_new ?e_; case e_ => first | rfl | (simp; done) | (simp; omega)) | apply rw_self | (apply rw_other; case hn => first | omega | (simp; omega)) | apply rw_alloc | apply rw_drew | apply rw_drewN))
            (try clear hq)
            (try clear hqc0 hqc1 hqc2 hqc3 hqc4 hqc5 hqc6)
            have hq := hx_
            clear hx_
            obtain ⟨hqc0, hqc1, hqc2, hqc3, hqc4, hqc5, hqc6⟩ := cel7 hq
            clear hb
            have hl := rw_lt hp
            have hl2 := rw_lt hq
            rw [hd.out]
            go_wp2_with ((with_reducible refine rw_list ?_); (first | ((with_reducible apply wpList_load_cell); (case ho => with_reducible rfl); (case hgd => with_reducible rfl); (case hx => rfl); (case hu => first | exact Try.underlying23 | exact Try.underlying61 | exact Try.underlying3 | exact Try.underlying4 | exact Try.underlying9 | exact Try.underlying25); (case hd => rfl)) | ((with_reducible apply wpList_load_row); (case ho => with_reducible rfl); (case hgd => with_reducible rfl); (case hx => rfl); (case hu => first | exact Try.underlying23 | exact Try.underlying61 | exact Try.underlying3 | exact Try.underlying4 | exact Try.underlying9 | exact Try.underlying25); (case hd => rfl)) | ((with_reducible apply wpList_store_row); (case ho => with_reducible rfl); (case hgd => with_reducible rfl); (case hx => rfl); (case hy => rfl)) | ((with_reducible apply wpList_store_cell); (case ho => with_reducible rfl); (case hgd => with_reducible rfl); (case hx => rfl); (case hy => first | exact ev_const | exact ev_tmp rfl); (case h1 => rfl))); (case hg => exact (by with_reducible repeat (first | assumption | (refine rw_new ?e_; case e_ => first | rfl | (simp; done) | (simp; omega)) | apply rw_self | (apply rw_other; case hn => first | omega | (simp; omega)) | apply rw_alloc | apply rw_drew | apply rw_drewN))); (try case hv => rfl); (try case hi => kernel_rfl); (try case hold => rfl); (try case h1 => kernel_rfl); (try case hlt => rfl); (try case hcs => ((try simp only [List.setIfInBounds_toArray, List.set_cons_succ, List.set_cons_zero]); rfl)))
            refine wp_region_grow [(0, none), (1, none), (2, some (.val (fun v => v = .agg #[.int .i64 3, .bool false, .int .i64 (tInt 4 N), .string ⟨#[]⟩, .int .i64 0, .int .i64 0, .int .i64 0]))), (3, none), (4, none), (5, none), (6, none), (7, none), (8, none)] .done ?g1_ ?g2_ ?g3_ ?_
            case g1_ => kernel_rfl
            case g2_ => kernel_rfl
            case g3_ => exact fun _ _ _ _ _ h => h
            (apply wpG_l rfl rfl rfl rfl rfl; (intro w' K hC hK; (have hr' := hC.old; simp at hr'); (first | go_big_op | go_wp2_with fail); exact hK); (case he => first | rfl | (simp [Act.put, *]; done)))
            (apply wpG_l rfl rfl rfl rfl rfl; (intro w' K hC hK; (have hr' := hC.old; simp at hr'); (first | go_big_op | go_wp2_with fail); exact hK); (case he => first | rfl | (simp [Act.put, *]; done)))
            refine wpG_g (d := 41) rfl rfl rfl rfl (by first | exact ⟨_, 0, rfl⟩ | (exact ⟨_, rfl⟩)) (fun w' K hC hK => ?_) (fun v hv => ?_)
            · (have hr' := hC.old; simp at hr'; (first | go_big_op | go_wp2_with fail); (refine Calls.mono (rkey_int _ _ _ _ _ _ _ h1 h2 hm'.out) ?_; rintro e w4 ⟨rfl, hb4⟩; exact hK _ _ (by rfl) hb4 trivial))
            obtain rfl := hv
            (apply wpG_p rfl rfl rfl rfl rfl; (intro w' K hK; (first | go_big_op | go_wp2_with fail); exact hK))
            (apply wpG_p rfl rfl rfl rfl rfl; (intro w' K hK; (first | go_big_op | go_wp2_with fail); exact hK))
            (apply wpG_p rfl rfl rfl rfl rfl; (intro w' K hK; (first | go_big_op | go_wp2_with fail); exact hK))
            (apply wpG_p rfl rfl rfl rfl rfl; (intro w' K hK; (first | go_big_op | go_wp2_with fail); exact hK))
            (apply wpG_p rfl rfl rfl rfl rfl; (intro w' K hK; (first | go_big_op | go_wp2_with fail); exact hK))
            (apply wpG_p rfl rfl rfl rfl rfl; (intro w' K hK; (first | go_big_op | go_wp2_with fail); exact hK))
            refine wpG_nil (fun wz hB1 hG hD => ?_)
            clear hG
            (try clear hD)
            refine wpOrd_nil ?_
            have hb := hB1
            clear hB1
            have hs_wz := hb.size
            (try simp at hs_wz)
            have hB_wz : Below w.heap.size w wz := below_then (w := w) (by with_reducible repeat (first | exact Below.refl _ _ | assumption | ((first | refine Below.alloc ?_ ?b_ _ | refine bw_set ?_ ?b_ | refine Below.setCell ?_ ?b_ _); case b_ => first | omega | (simp; done) | (simp; omega)) | refine Below.drew ?_ | refine below_drewN ?_ _)) (by first | omega | (simp; done) | (simp; omega) | (have hq_ := hb.size; omega)) hb
            clear hb
            go_wp2_with ((with_reducible refine rw_list ?_); (first | ((with_reducible apply wpList_load_cell); (case ho => with_reducible rfl); (case hgd => with_reducible rfl); (case hx => rfl); (case hu => first | exact Try.underlying23 | exact Try.underlying61 | exact Try.underlying3 | exact Try.underlying4 | exact Try.underlying9 | exact Try.underlying25); (case hd => rfl)) | ((with_reducible apply wpList_load_row); (case ho => with_reducible rfl); (case hgd => with_reducible rfl); (case hx => rfl); (case hu => first | exact Try.underlying23 | exact Try.underlying61 | exact Try.underlying3 | exact Try.underlying4 | exact Try.underlying9 | exact Try.underlying25); (case hd => rfl)) | ((with_reducible apply wpList_store_row); (case ho => with_reducible rfl); (case hgd => with_reducible rfl); (case hx => rfl); (case hy => rfl)) | ((with_reducible apply wpList_store_cell); (case ho => with_reducible rfl); (case hgd => with_reducible rfl); (case hx => rfl); (case hy => first | exact ev_const | exact ev_tmp rfl); (case h1 => rfl))); (case hg => exact (by with_reducible repeat (first | assumption | (refine rw_new ?e_; case e_ => first | rfl | (simp; done) | (simp; omega)) | apply rw_self | (apply rw_other; case hn => first | omega | (simp; omega)) | apply rw_alloc | apply rw_drew | apply rw_drewN))); (try case hv => rfl); (try case hi => kernel_rfl); (try case hold => rfl); (try case h1 => kernel_rfl); (try case hlt => rfl); (try case hcs => ((try simp only [List.setIfInBounds_toArray, List.set_cons_succ, List.set_cons_zero]); rfl)))
            go_ret
            exact ⟨rfl, (by with_reducible repeat (first | exact Below.refl _ _ | assumption | ((first | refine Below.alloc ?_ ?b_ _ | refine bw_set ?_ ?b_ | refine Below.setCell ?_ ?b_ _); case b_ => first | omega | (simp; done) | (simp; omega)) | refine Below.drew ?_ | refine below_drewN ?_ _))⟩
          · have hm' := Lib.hid hm
            clear hm
            go_enter Try.func5, Try.ntmps5
            go_wp2_with ((with_reducible refine rw_list ?_); (first | ((with_reducible apply wpList_load_cell); (case ho => with_reducible rfl); (case hgd => with_reducible rfl); (case hx => rfl); (case hu => first | exact Try.underlying23 | exact Try.underlying61 | exact Try.underlying3 | exact Try.underlying4 | exact Try.underlying9 | exact Try.underlying25); (case hd => rfl)) | ((with_reducible apply wpList_load_row); (case ho => with_reducible rfl); (case hgd => with_reducible rfl); (case hx => rfl); (case hu => first | exact Try.underlying23 | exact Try.underlying61 | exact Try.underlying3 | exact Try.underlying4 | exact Try.underlying9 | exact Try.underlying25); (case hd => rfl)) | ((with_reducible apply wpList_store_row); (case ho => with_reducible rfl); (case hgd => with_reducible rfl); (case hx => rfl); (case hy => rfl)) | ((with_reducible apply wpList_store_cell); (case ho => with_reducible rfl); (case hgd => with_reducible rfl); (case hx => rfl); (case hy => first | exact ev_const | exact ev_tmp rfl); (case h1 => rfl))); (case hg => exact (by with_reducible repeat (first | assumption | (refine rw_new ?e_; case e_ => first | rfl | (simp; done) | (simp; omega)) | apply rw_self | (apply rw_other; case hn => first | omega | (simp; omega)) | apply rw_alloc | apply rw_drew | apply rw_drewN))); (try case hv => rfl); (try case hi => kernel_rfl); (try case hold => rfl); (try case h1 => kernel_rfl); (try case hlt => rfl); (try case hcs => ((try simp only [List.setIfInBounds_toArray, List.set_cons_succ, List.set_cons_zero]); rfl)))
            refine (wakes_any _).mono ?_
            rintro e w1 ⟨rfl, hb⟩
            have hs_w1 := hb.size
            (try simp at hs_w1)
            have hB_w1 : Below w.heap.size w w1 := below_then (w := w) (by with_reducible repeat (first | exact Below.refl _ _ | assumption | ((first | refine Below.alloc ?_ ?b_ _ | refine bw_set ?_ ?b_ | refine Below.setCell ?_ ?b_ _); case b_ => first | omega | (simp; done) | (simp; omega)) | refine Below.drew ?_ | refine below_drewN ?_ _)) (by first | omega | (simp; done) | (simp; omega) | (have hq_ := hb.size; omega)) hb
            have hx_ := rw_below (k := w.heap.size) hb (by with_reducible repeat (first | assumption | (refine rw_new ?e_; case e_ => first | rfl | (simp; done) | (simp; omega)) | apply rw_self | (apply rw_other; case hn => first | omega | (simp; omega)) | apply rw_alloc | apply rw_drew | apply rw_drewN))
            (try clear hp)
            (try clear hpc0 hpc1 hpc2 hpc3 hpc4 hpc5 hpc6)
            have hp := hx_
            clear hx_
            obtain ⟨hpc0, hpc1, hpc2, hpc3, hpc4, hpc5, hpc6⟩ := cel7 hp
            clear hb
            go_wp2_with ((with_reducible refine rw_list ?_); (first | ((with_reducible apply wpList_load_cell); (case ho => with_reducible rfl); (case hgd => with_reducible rfl); (case hx => rfl); (case hu => first | exact Try.underlying23 | exact Try.underlying61 | exact Try.underlying3 | exact Try.underlying4 | exact Try.underlying9 | exact Try.underlying25); (case hd => rfl)) | ((with_reducible apply wpList_load_row); (case ho => with_reducible rfl); (case hgd => with_reducible rfl); (case hx => rfl); (case hu => first | exact Try.underlying23 | exact Try.underlying61 | exact Try.underlying3 | exact Try.underlying4 | exact Try.underlying9 | exact Try.underlying25); (case hd => rfl)) | ((with_reducible apply wpList_store_row); (case ho => with_reducible rfl); (case hgd => with_reducible rfl); (case hx => rfl); (case hy => rfl)) | ((with_reducible apply wpList_store_cell); (case ho => with_reducible rfl); (case hgd => with_reducible rfl); (case hx => rfl); (case hy => first | exact ev_const | exact ev_tmp rfl); (case h1 => rfl))); (case hg => exact (by with_reducible repeat (first | assumption | (refine rw_new ?e_; case e_ => first | rfl | (simp; done) | (simp; omega)) | apply rw_self | (apply rw_other; case hn => first | omega | (simp; omega)) | apply rw_alloc | apply rw_drew | apply rw_drewN))); (try case hv => rfl); (try case hi => kernel_rfl); (try case hold => rfl); (try case h1 => kernel_rfl); (try case hlt => rfl); (try case hcs => ((try simp only [List.setIfInBounds_toArray, List.set_cons_succ, List.set_cons_zero]); rfl)))
            refine (okey_self _ _ _ _ _ _ _ _ h k0 k6 (fun _ => hm'.out)).mono ?_
            rintro e w2 ⟨rfl, hb⟩
            have hs_w2 := hb.size
            (try simp at hs_w2)
            have hB_w2 : Below w.heap.size w w2 := below_then (w := w) (by with_reducible repeat (first | exact Below.refl _ _ | assumption | ((first | refine Below.alloc ?_ ?b_ _ | refine bw_set ?_ ?b_ | refine Below.setCell ?_ ?b_ _); case b_ => first | omega | (simp; done) | (simp; omega)) | refine Below.drew ?_ | refine below_drewN ?_ _)) (by first | omega | (simp; done) | (simp; omega) | (have hq_ := hb.size; omega)) hb
            have hx_ := rw_below (k := w.heap.size) hb (by with_reducible repeat (first | assumption | (refine rw_new ?e_; case e_ => first | rfl | (simp; done) | (simp; omega)) | apply rw_self | (apply rw_other; case hn => first | omega | (simp; omega)) | apply rw_alloc | apply rw_drew | apply rw_drewN))
            (try clear hp)
            (try clear hpc0 hpc1 hpc2 hpc3 hpc4 hpc5 hpc6)
            have hp := hx_
            clear hx_
            obtain ⟨hpc0, hpc1, hpc2, hpc3, hpc4, hpc5, hpc6⟩ := cel7 hp
            clear hb
            go_wp2_with ((with_reducible refine rw_list ?_); (first | ((with_reducible apply wpList_load_cell); (case ho => with_reducible rfl); (case hgd => with_reducible rfl); (case hx => rfl); (case hu => first | exact Try.underlying23 | exact Try.underlying61 | exact Try.underlying3 | exact Try.underlying4 | exact Try.underlying9 | exact Try.underlying25); (case hd => rfl)) | ((with_reducible apply wpList_load_row); (case ho => with_reducible rfl); (case hgd => with_reducible rfl); (case hx => rfl); (case hu => first | exact Try.underlying23 | exact Try.underlying61 | exact Try.underlying3 | exact Try.underlying4 | exact Try.underlying9 | exact Try.underlying25); (case hd => rfl)) | ((with_reducible apply wpList_store_row); (case ho => with_reducible rfl); (case hgd => with_reducible rfl); (case hx => rfl); (case hy => rfl)) | ((with_reducible apply wpList_store_cell); (case ho => with_reducible rfl); (case hgd => with_reducible rfl); (case hx => rfl); (case hy => first | exact ev_const | exact ev_tmp rfl); (case h1 => rfl))); (case hg => exact (by with_reducible repeat (first | assumption | (refine rw_new ?e_; case e_ => first | rfl | (simp; done) | (simp; omega)) | apply rw_self | (apply rw_other; case hn => first | omega | (simp; omega)) | apply rw_alloc | apply rw_drew | apply rw_drewN))); (try case hv => rfl); (try case hi => kernel_rfl); (try case hold => rfl); (try case h1 => kernel_rfl); (try case hlt => rfl); (try case hcs => ((try simp only [List.setIfInBounds_toArray, List.set_cons_succ, List.set_cons_zero]); rfl)))
            refine (right_any _ _ _ _ _ _ _ _ hN).mono ?_
            rintro e w3 ⟨rfl, hb⟩
            have hs_w3 := hb.size
            (try simp at hs_w3)
            have hB_w3 : Below w.heap.size w w3 := below_then (w := w) (by with_reducible repeat (first | exact Below.refl _ _ | assumption | ((first | refine Below.alloc ?_ ?b_ _ | refine bw_set ?_ ?b_ | refine Below.setCell ?_ ?b_ _); case b_ => first | omega | (simp; done) | (simp; omega)) | refine Below.drew ?_ | refine below_drewN ?_ _)) (by first | omega | (simp; done) | (simp; omega) | (have hq_ := hb.size; omega)) hb
            have hx_ := rw_below (k := w.heap.size) hb (by with_reducible repeat (first | assumption | (refine rw_new ?e_; case e_ => first | rfl | (simp; done) | (simp; omega)) | apply rw_self | (apply rw_other; case hn => first | omega | (simp; omega)) | apply rw_alloc | apply rw_drew | apply rw_drewN))
            (try clear hp)
            (try clear hpc0 hpc1 hpc2 hpc3 hpc4 hpc5 hpc6)
            have hp := hx_
            clear hx_
            obtain ⟨hpc0, hpc1, hpc2, hpc3, hpc4, hpc5, hpc6⟩ := cel7 hp
            have hx_ := rw_below (k := w2.heap.size) hb (by with_reducible repeat (first | assumption | (refine rw_new ?e_; case e_ => first | rfl | (simp; done) | (simp; omega)) | apply rw_self | (apply rw_other; case hn => first | omega | (simp; omega)) | apply rw_alloc | apply rw_drew | apply rw_drewN))
            (try clear hq)
            (try clear hqc0 hqc1 hqc2 hqc3 hqc4 hqc5 hqc6)
            have hq := hx_
            clear hx_
            obtain ⟨hqc0, hqc1, hqc2, hqc3, hqc4, hqc5, hqc6⟩ := cel7 hq
            clear hb
            have hl := rw_lt hp
            have hl2 := rw_lt hq
            rw [hd.out]
            go_wp2_with ((with_reducible refine rw_list ?_); (first | ((with_reducible apply wpList_load_cell); (case ho => with_reducible rfl); (case hgd => with_reducible rfl); (case hx => rfl); (case hu => first | exact Try.underlying23 | exact Try.underlying61 | exact Try.underlying3 | exact Try.underlying4 | exact Try.underlying9 | exact Try.underlying25); (case hd => rfl)) | ((with_reducible apply wpList_load_row); (case ho => with_reducible rfl); (case hgd => with_reducible rfl); (case hx => rfl); (case hu => first | exact Try.underlying23 | exact Try.underlying61 | exact Try.underlying3 | exact Try.underlying4 | exact Try.underlying9 | exact Try.underlying25); (case hd => rfl)) | ((with_reducible apply wpList_store_row); (case ho => with_reducible rfl); (case hgd => with_reducible rfl); (case hx => rfl); (case hy => rfl)) | ((with_reducible apply wpList_store_cell); (case ho => with_reducible rfl); (case hgd => with_reducible rfl); (case hx => rfl); (case hy => first | exact ev_const | exact ev_tmp rfl); (case h1 => rfl))); (case hg => exact (by with_reducible repeat (first | assumption | (refine rw_new ?e_; case e_ => first | rfl | (simp; done) | (simp; omega)) | apply rw_self | (apply rw_other; case hn => first | omega | (simp; omega)) | apply rw_alloc | apply rw_drew | apply rw_drewN))); (try case hv => rfl); (try case hi => kernel_rfl); (try case hold => rfl); (try case h1 => kernel_rfl); (try case hlt => rfl); (try case hcs => ((try simp only [List.setIfInBounds_toArray, List.set_cons_succ, List.set_cons_zero]); rfl)))
            refine wp_region_grow [(0, none), (1, none), (2, some (.val (fun v => v = .agg #[.int .i64 4, .bool false, .int .i64 N, .string S, .int .i64 R, .int .i64 O, .int .i64 L]))), (3, none), (4, none), (5, none), (6, none), (7, none), (8, none)] .done ?g1_ ?g2_ ?g3_ ?_
            case g1_ => kernel_rfl
            case g2_ => kernel_rfl
            case g3_ => exact fun _ _ _ _ _ h => h
            (apply wpG_l rfl rfl rfl rfl rfl; (intro w' K hC hK; (have hr' := hC.old; simp at hr'); (first | go_big_op | go_wp2_with fail); exact hK); (case he => first | rfl | (simp [Act.put, *]; done)))
            (apply wpG_l rfl rfl rfl rfl rfl; (intro w' K hC hK; (have hr' := hC.old; simp at hr'); (first | go_big_op | go_wp2_with fail); exact hK); (case he => first | rfl | (simp [Act.put, *]; done)))
            refine wpG_g (d := 41) rfl rfl rfl rfl (by first | exact ⟨_, 0, rfl⟩ | (exact ⟨_, rfl⟩)) (fun w' K hC hK => ?_) (fun v hv => ?_)
            · (have hr' := hC.old; simp at hr'; (first | go_big_op | go_wp2_with fail); (refine Calls.mono (rkey_real _ _ _ _ _ _ _ h1 h2 hm'.out) ?_; rintro e w4 ⟨rfl, hb4⟩; exact hK _ _ (by rfl) hb4 trivial))
            obtain rfl := hv
            (apply wpG_p rfl rfl rfl rfl rfl; (intro w' K hK; (first | go_big_op | go_wp2_with fail); exact hK))
            (apply wpG_p rfl rfl rfl rfl rfl; (intro w' K hK; (first | go_big_op | go_wp2_with fail); exact hK))
            (apply wpG_p rfl rfl rfl rfl rfl; (intro w' K hK; (first | go_big_op | go_wp2_with fail); exact hK))
            (apply wpG_p rfl rfl rfl rfl rfl; (intro w' K hK; (first | go_big_op | go_wp2_with fail); exact hK))
            (apply wpG_p rfl rfl rfl rfl rfl; (intro w' K hK; (first | go_big_op | go_wp2_with fail); exact hK))
            (apply wpG_p rfl rfl rfl rfl rfl; (intro w' K hK; (first | go_big_op | go_wp2_with fail); exact hK))
            refine wpG_nil (fun wz hB1 hG hD => ?_)
            clear hG
            (try clear hD)
            refine wpOrd_nil ?_
            have hb := hB1
            clear hB1
            have hs_wz := hb.size
            (try simp at hs_wz)
            have hB_wz : Below w.heap.size w wz := below_then (w := w) (by with_reducible repeat (first | exact Below.refl _ _ | assumption | ((first | refine Below.alloc ?_ ?b_ _ | refine bw_set ?_ ?b_ | refine Below.setCell ?_ ?b_ _); case b_ => first | omega | (simp; done) | (simp; omega)) | refine Below.drew ?_ | refine below_drewN ?_ _)) (by first | omega | (simp; done) | (simp; omega) | (have hq_ := hb.size; omega)) hb
            clear hb
            go_wp2_with ((with_reducible refine rw_list ?_); (first | ((with_reducible apply wpList_load_cell); (case ho => with_reducible rfl); (case hgd => with_reducible rfl); (case hx => rfl); (case hu => first | exact Try.underlying23 | exact Try.underlying61 | exact Try.underlying3 | exact Try.underlying4 | exact Try.underlying9 | exact Try.underlying25); (case hd => rfl)) | ((with_reducible apply wpList_load_row); (case ho => with_reducible rfl); (case hgd => with_reducible rfl); (case hx => rfl); (case hu => first | exact Try.underlying23 | exact Try.underlying61 | exact Try.underlying3 | exact Try.underlying4 | exact Try.underlying9 | exact Try.underlying25); (case hd => rfl)) | ((with_reducible apply wpList_store_row); (case ho => with_reducible rfl); (case hgd => with_reducible rfl); (case hx => rfl); (case hy => rfl)) | ((with_reducible apply wpList_store_cell); (case ho => with_reducible rfl); (case hgd => with_reducible rfl); (case hx => rfl); (case hy => first | exact ev_const | exact ev_tmp rfl); (case h1 => rfl))); (case hg => exact (by with_reducible repeat (first | assumption | (refine rw_new ?e_; case e_ => first | rfl | (simp; done) | (simp; omega)) | apply rw_self | (apply rw_other; case hn => first | omega | (simp; omega)) | apply rw_alloc | apply rw_drew | apply rw_drewN))); (try case hv => rfl); (try case hi => kernel_rfl); (try case hold => rfl); (try case h1 => kernel_rfl); (try case hlt => rfl); (try case hcs => ((try simp only [List.setIfInBounds_toArray, List.set_cons_succ, List.set_cons_zero]); rfl)))
            go_ret
            exact ⟨rfl, (by with_reducible repeat (first | exact Below.refl _ _ | assumption | ((first | refine Below.alloc ?_ ?b_ _ | refine bw_set ?_ ?b_ | refine Below.setCell ?_ ?b_ _); case b_ => first | omega | (simp; done) | (simp; omega)) | refine Below.drew ?_ | refine below_drewN ?_ _))⟩
        · skip
          go_enter Try.func5, Try.ntmps5
          go_wp2_with ((with_reducible refine rw_list ?_); (first | ((with_reducible apply wpList_load_cell); (case ho => with_reducible rfl); (case hgd => with_reducible rfl); (case hx => rfl); (case hu => first | exact Try.underlying23 | exact Try.underlying61 | exact Try.underlying3 | exact Try.underlying4 | exact Try.underlying9 | exact Try.underlying25); (case hd => rfl)) | ((with_reducible apply wpList_load_row); (case ho => with_reducible rfl); (case hgd => with_reducible rfl); (case hx => rfl); (case hu => first | exact Try.underlying23 | exact Try.underlying61 | exact Try.underlying3 | exact Try.underlying4 | exact Try.underlying9 | exact Try.underlying25); (case hd => rfl)) | ((with_reducible apply wpList_store_row); (case ho => with_reducible rfl); (case hgd => with_reducible rfl); (case hx => rfl); (case hy => rfl)) | ((with_reducible apply wpList_store_cell); (case ho => with_reducible rfl); (case hgd => with_reducible rfl); (case hx => rfl); (case hy => first | exact ev_const | exact ev_tmp rfl); (case h1 => rfl))); (case hg => exact (by with_reducible repeat (first | assumption | (refine rw_new ?e_; case e_ => first | rfl | (simp; done) | (simp; omega)) | apply rw_self | (apply rw_other; case hn => first | omega | (simp; omega)) | apply rw_alloc | apply rw_drew | apply rw_drewN))); (try case hv => rfl); (try case hi => kernel_rfl); (try case hold => rfl); (try case h1 => kernel_rfl); (try case hlt => rfl); (try case hcs => ((try simp only [List.setIfInBounds_toArray, List.set_cons_succ, List.set_cons_zero]); rfl)))
          refine (wakes_any _).mono ?_
          rintro e w1 ⟨rfl, hb⟩
          have hs_w1 := hb.size
          (try simp at hs_w1)
          have hB_w1 : Below w.heap.size w w1 := below_then (w := w) (by with_reducible repeat (first | exact Below.refl _ _ | assumption | ((first | refine Below.alloc ?_ ?b_ _ | refine bw_set ?_ ?b_ | refine Below.setCell ?_ ?b_ _); case b_ => first | omega | (simp; done) | (simp; omega)) | refine Below.drew ?_ | refine below_drewN ?_ _)) (by first | omega | (simp; done) | (simp; omega) | (have hq_ := hb.size; omega)) hb
          have hx_ := rw_below (k := w.heap.size) hb (by with_reducible repeat (first | assumption | (refine rw_new ?e_; case e_ => first | rfl | (simp; done) | (simp; omega)) | apply rw_self | (apply rw_other; case hn => first | omega | (simp; omega)) | apply rw_alloc | apply rw_drew | apply rw_drewN))
          (try clear hp)
          (try clear hpc0 hpc1 hpc2 hpc3 hpc4 hpc5 hpc6)
          have hp := hx_
          clear hx_
          obtain ⟨hpc0, hpc1, hpc2, hpc3, hpc4, hpc5, hpc6⟩ := cel7 hp
          clear hb
          go_wp2_with ((with_reducible refine rw_list ?_); (first | ((with_reducible apply wpList_load_cell); (case ho => with_reducible rfl); (case hgd => with_reducible rfl); (case hx => rfl); (case hu => first | exact Try.underlying23 | exact Try.underlying61 | exact Try.underlying3 | exact Try.underlying4 | exact Try.underlying9 | exact Try.underlying25); (case hd => rfl)) | ((with_reducible apply wpList_load_row); (case ho => with_reducible rfl); (case hgd => with_reducible rfl); (case hx => rfl); (case hu => first | exact Try.underlying23 | exact Try.underlying61 | exact Try.underlying3 | exact Try.underlying4 | exact Try.underlying9 | exact Try.underlying25); (case hd => rfl)) | ((with_reducible apply wpList_store_row); (case ho => with_reducible rfl); (case hgd => with_reducible rfl); (case hx => rfl); (case hy => rfl)) | ((with_reducible apply wpList_store_cell); (case ho => with_reducible rfl); (case hgd => with_reducible rfl); (case hx => rfl); (case hy => first | exact ev_const | exact ev_tmp rfl); (case h1 => rfl))); (case hg => exact (by with_reducible repeat (first | assumption | (refine rw_new ?e_; case e_ => first | rfl | (simp; done) | (simp; omega)) | apply rw_self | (apply rw_other; case hn => first | omega | (simp; omega)) | apply rw_alloc | apply rw_drew | apply rw_drewN))); (try case hv => rfl); (try case hi => kernel_rfl); (try case hold => rfl); (try case h1 => kernel_rfl); (try case hlt => rfl); (try case hcs => ((try simp only [List.setIfInBounds_toArray, List.set_cons_succ, List.set_cons_zero]); rfl)))
          refine (okey_self _ _ _ _ _ _ _ _ h k0 k6 (fun h => absurd h k4)).mono ?_
          rintro e w2 ⟨rfl, hb⟩
          have hs_w2 := hb.size
          (try simp at hs_w2)
          have hB_w2 : Below w.heap.size w w2 := below_then (w := w) (by with_reducible repeat (first | exact Below.refl _ _ | assumption | ((first | refine Below.alloc ?_ ?b_ _ | refine bw_set ?_ ?b_ | refine Below.setCell ?_ ?b_ _); case b_ => first | omega | (simp; done) | (simp; omega)) | refine Below.drew ?_ | refine below_drewN ?_ _)) (by first | omega | (simp; done) | (simp; omega) | (have hq_ := hb.size; omega)) hb
          have hx_ := rw_below (k := w.heap.size) hb (by with_reducible repeat (first | assumption | (refine rw_new ?e_; case e_ => first | rfl | (simp; done) | (simp; omega)) | apply rw_self | (apply rw_other; case hn => first | omega | (simp; omega)) | apply rw_alloc | apply rw_drew | apply rw_drewN))
          (try clear hp)
          (try clear hpc0 hpc1 hpc2 hpc3 hpc4 hpc5 hpc6)
          have hp := hx_
          clear hx_
          obtain ⟨hpc0, hpc1, hpc2, hpc3, hpc4, hpc5, hpc6⟩ := cel7 hp
          clear hb
          go_wp2_with ((with_reducible refine rw_list ?_); (first | ((with_reducible apply wpList_load_cell); (case ho => with_reducible rfl); (case hgd => with_reducible rfl); (case hx => rfl); (case hu => first | exact Try.underlying23 | exact Try.underlying61 | exact Try.underlying3 | exact Try.underlying4 | exact Try.underlying9 | exact Try.underlying25); (case hd => rfl)) | ((with_reducible apply wpList_load_row); (case ho => with_reducible rfl); (case hgd => with_reducible rfl); (case hx => rfl); (case hu => first | exact Try.underlying23 | exact Try.underlying61 | exact Try.underlying3 | exact Try.underlying4 | exact Try.underlying9 | exact Try.underlying25); (case hd => rfl)) | ((with_reducible apply wpList_store_row); (case ho => with_reducible rfl); (case hgd => with_reducible rfl); (case hx => rfl); (case hy => rfl)) | ((with_reducible apply wpList_store_cell); (case ho => with_reducible rfl); (case hgd => with_reducible rfl); (case hx => rfl); (case hy => first | exact ev_const | exact ev_tmp rfl); (case h1 => rfl))); (case hg => exact (by with_reducible repeat (first | assumption | (refine rw_new ?e_; case e_ => first | rfl | (simp; done) | (simp; omega)) | apply rw_self | (apply rw_other; case hn => first | omega | (simp; omega)) | apply rw_alloc | apply rw_drew | apply rw_drewN))); (try case hv => rfl); (try case hi => kernel_rfl); (try case hold => rfl); (try case h1 => kernel_rfl); (try case hlt => rfl); (try case hcs => ((try simp only [List.setIfInBounds_toArray, List.set_cons_succ, List.set_cons_zero]); rfl)))
          refine (right_any _ _ _ _ _ _ _ _ hN).mono ?_
          rintro e w3 ⟨rfl, hb⟩
          have hs_w3 := hb.size
          (try simp at hs_w3)
          have hB_w3 : Below w.heap.size w w3 := below_then (w := w) (by with_reducible repeat (first | exact Below.refl _ _ | assumption | ((first | refine Below.alloc ?_ ?b_ _ | refine bw_set ?_ ?b_ | refine Below.setCell ?_ ?b_ _); case b_ => first | omega | (simp; done) | (simp; omega)) | refine Below.drew ?_ | refine below_drewN ?_ _)) (by first | omega | (simp; done) | (simp; omega) | (have hq_ := hb.size; omega)) hb
          have hx_ := rw_below (k := w.heap.size) hb (by with_reducible repeat (first | assumption | (refine rw_new ?e_; case e_ => first | rfl | (simp; done) | (simp; omega)) | apply rw_self | (apply rw_other; case hn => first | omega | (simp; omega)) | apply rw_alloc | apply rw_drew | apply rw_drewN))
          (try clear hp)
          (try clear hpc0 hpc1 hpc2 hpc3 hpc4 hpc5 hpc6)
          have hp := hx_
          clear hx_
          obtain ⟨hpc0, hpc1, hpc2, hpc3, hpc4, hpc5, hpc6⟩ := cel7 hp
          have hx_ := rw_below (k := w2.heap.size) hb (by with_reducible repeat (first | assumption | (refine rw_new ?e_; case e_ => first | rfl | (simp; done) | (simp; omega)) | apply rw_self | (apply rw_other; case hn => first | omega | (simp; omega)) | apply rw_alloc | apply rw_drew | apply rw_drewN))
          (try clear hq)
          (try clear hqc0 hqc1 hqc2 hqc3 hqc4 hqc5 hqc6)
          have hq := hx_
          clear hx_
          obtain ⟨hqc0, hqc1, hqc2, hqc3, hqc4, hqc5, hqc6⟩ := cel7 hq
          clear hb
          have hl := rw_lt hp
          have hl2 := rw_lt hq
          rw [hd.out]
          go_wp2_with ((with_reducible refine rw_list ?_); (first | ((with_reducible apply wpList_load_cell); (case ho => with_reducible rfl); (case hgd => with_reducible rfl); (case hx => rfl); (case hu => first | exact Try.underlying23 | exact Try.underlying61 | exact Try.underlying3 | exact Try.underlying4 | exact Try.underlying9 | exact Try.underlying25); (case hd => rfl)) | ((with_reducible apply wpList_load_row); (case ho => with_reducible rfl); (case hgd => with_reducible rfl); (case hx => rfl); (case hu => first | exact Try.underlying23 | exact Try.underlying61 | exact Try.underlying3 | exact Try.underlying4 | exact Try.underlying9 | exact Try.underlying25); (case hd => rfl)) | ((with_reducible apply wpList_store_row); (case ho => with_reducible rfl); (case hgd => with_reducible rfl); (case hx => rfl); (case hy => rfl)) | ((with_reducible apply wpList_store_cell); (case ho => with_reducible rfl); (case hgd => with_reducible rfl); (case hx => rfl); (case hy => first | exact ev_const | exact ev_tmp rfl); (case h1 => rfl))); (case hg => exact (by with_reducible repeat (first | assumption | (refine rw_new ?e_; case e_ => first | rfl | (simp; done) | (simp; omega)) | apply rw_self | (apply rw_other; case hn => first | omega | (simp; omega)) | apply rw_alloc | apply rw_drew | apply rw_drewN))); (try case hv => rfl); (try case hi => kernel_rfl); (try case hold => rfl); (try case h1 => kernel_rfl); (try case hlt => rfl); (try case hcs => ((try simp only [List.setIfInBounds_toArray, List.set_cons_succ, List.set_cons_zero]); rfl)))
          refine wp_region_grow [(0, none), (1, none), (2, some (.val (fun v => v = .agg #[.int .i64 k, .bool false, .int .i64 N, .string S, .int .i64 R, .int .i64 O, .int .i64 L]))), (3, none), (4, none), (5, none), (6, none), (7, none), (8, none)] .done ?g1_ ?g2_ ?g3_ ?_
          case g1_ => kernel_rfl
          case g2_ => kernel_rfl
          case g3_ => exact fun _ _ _ _ _ h => h
          (apply wpG_l rfl rfl rfl rfl rfl; (intro w' K hC hK; (have hr' := hC.old; simp at hr'); (first | go_big_op | go_wp2_with fail); exact hK); (case he => first | rfl | (simp [Act.put, *]; done)))
          (apply wpG_l rfl rfl rfl rfl rfl; (intro w' K hC hK; (have hr' := hC.old; simp at hr'); (first | go_big_op | go_wp2_with fail); exact hK); (case he => first | rfl | (simp [Act.put, *]; done)))
          refine wpG_g (d := 41) rfl rfl rfl rfl (by first | exact ⟨_, 0, rfl⟩ | (exact ⟨_, rfl⟩)) (fun w' K hC hK => ?_) (fun v hv => ?_)
          · (have hr' := hC.old; simp at hr'; (first | go_big_op | go_wp2_with fail); (refine Calls.mono (rkey_other _ _ _ _ _ _ _ _ k4) ?_; rintro e w4 ⟨rfl, hb4⟩; exact hK _ _ (by rfl) hb4 trivial))
          obtain rfl := hv
          (apply wpG_p rfl rfl rfl rfl rfl; (intro w' K hK; (first | go_big_op | go_wp2_with fail); exact hK))
          (apply wpG_p rfl rfl rfl rfl rfl; (intro w' K hK; (first | go_big_op | go_wp2_with fail); exact hK))
          (apply wpG_p rfl rfl rfl rfl rfl; (intro w' K hK; (first | go_big_op | go_wp2_with fail); exact hK))
          (apply wpG_p rfl rfl rfl rfl rfl; (intro w' K hK; (first | go_big_op | go_wp2_with fail); exact hK))
          (apply wpG_p rfl rfl rfl rfl rfl; (intro w' K hK; (first | go_big_op | go_wp2_with fail); exact hK))
          (apply wpG_p rfl rfl rfl rfl rfl; (intro w' K hK; (first | go_big_op | go_wp2_with fail); exact hK))
          refine wpG_nil (fun wz hB1 hG hD => ?_)
          clear hG
          (try clear hD)
          refine wpOrd_nil ?_
          have hb := hB1
          clear hB1
          have hs_wz := hb.size
          (try simp at hs_wz)
          have hB_wz : Below w.heap.size w wz := below_then (w := w) (by with_reducible repeat (first | exact Below.refl _ _ | assumption | ((first | refine Below.alloc ?_ ?b_ _ | refine bw_set ?_ ?b_ | refine Below.setCell ?_ ?b_ _); case b_ => first | omega | (simp; done) | (simp; omega)) | refine Below.drew ?_ | refine below_drewN ?_ _)) (by first | omega | (simp; done) | (simp; omega) | (have hq_ := hb.size; omega)) hb
          clear hb
          go_wp2_with ((with_reducible refine rw_list ?_); (first | ((with_reducible apply wpList_load_cell); (case ho => with_reducible rfl); (case hgd => with_reducible rfl); (case hx => rfl); (case hu => first | exact Try.underlying23 | exact Try.underlying61 | exact Try.underlying3 | exact Try.underlying4 | exact Try.underlying9 | exact Try.underlying25); (case hd => rfl)) | ((with_reducible apply wpList_load_row); (case ho => with_reducible rfl); (case hgd => with_reducible rfl); (case hx => rfl); (case hu => first | exact Try.underlying23 | exact Try.underlying61 | exact Try.underlying3 | exact Try.underlying4 | exact Try.underlying9 | exact Try.underlying25); (case hd => rfl)) | ((with_reducible apply wpList_store_row); (case ho => with_reducible rfl); (case hgd => with_reducible rfl); (case hx => rfl); (case hy => rfl)) | ((with_reducible apply wpList_store_cell); (case ho => with_reducible rfl); (case hgd => with_reducible rfl); (case hx => rfl); (case hy => first | exact ev_const | exact ev_tmp rfl); (case h1 => rfl))); (case hg => exact (by with_reducible repeat (first | assumption | (refine rw_new ?e_; case e_ => first | rfl | (simp; done) | (simp; omega)) | apply rw_self | (apply rw_other; case hn => first | omega | (simp; omega)) | apply rw_alloc | apply rw_drew | apply rw_drewN))); (try case hv => rfl); (try case hi => kernel_rfl); (try case hold => rfl); (try case h1 => kernel_rfl); (try case hlt => rfl); (try case hcs => ((try simp only [List.setIfInBounds_toArray, List.set_cons_succ, List.set_cons_zero]); rfl)))
          go_ret
          exact ⟨rfl, (by with_reducible repeat (first | exact Below.refl _ _ | assumption | ((first | refine Below.alloc ?_ ?b_ _ | refine bw_set ?_ ?b_ | refine Below.setCell ?_ ?b_ _); case b_ => first | omega | (simp; done) | (simp; omega)) | refine Below.drew ?_ | refine below_drewN ?_ _))⟩
  · have hd := Lib.hid (show decide (okO k N S.size R O L) = false from decide_eq_false h)
    go_enter Try.func5, Try.ntmps5
    go_wp2_with ((with_reducible refine rw_list ?_); (first | ((with_reducible apply wpList_load_cell); (case ho => with_reducible rfl); (case hgd => with_reducible rfl); (case hx => rfl); (case hu => first | exact Try.underlying23 | exact Try.underlying61 | exact Try.underlying3 | exact Try.underlying4 | exact Try.underlying9 | exact Try.underlying25); (case hd => rfl)) | ((with_reducible apply wpList_load_row); (case ho => with_reducible rfl); (case hgd => with_reducible rfl); (case hx => rfl); (case hu => first | exact Try.underlying23 | exact Try.underlying61 | exact Try.underlying3 | exact Try.underlying4 | exact Try.underlying9 | exact Try.underlying25); (case hd => rfl)) | ((with_reducible apply wpList_store_row); (case ho => with_reducible rfl); (case hgd => with_reducible rfl); (case hx => rfl); (case hy => rfl)) | ((with_reducible apply wpList_store_cell); (case ho => with_reducible rfl); (case hgd => with_reducible rfl); (case hx => rfl); (case hy => first | exact ev_const | exact ev_tmp rfl); (case h1 => rfl))); (case hg => exact (by with_reducible repeat (first | assumption | (refine rw_new ?e_; case e_ => first | rfl | (simp; done) | (simp; omega)) | apply rw_self | (apply rw_other; case hn => first | omega | (simp; omega)) | apply rw_alloc | apply rw_drew | apply rw_drewN))); (try case hv => rfl); (try case hi => kernel_rfl); (try case hold => rfl); (try case h1 => kernel_rfl); (try case hlt => rfl); (try case hcs => ((try simp only [List.setIfInBounds_toArray, List.set_cons_succ, List.set_cons_zero]); rfl)))
    refine (wakes_any _).mono ?_
    rintro e w1 ⟨rfl, hb⟩
    have hs_w1 := hb.size
    (try simp at hs_w1)
    have hB_w1 : Below w.heap.size w w1 := below_then (w := w) (by with_reducible repeat (first | exact Below.refl _ _ | assumption | ((first | refine Below.alloc ?_ ?b_ _ | refine bw_set ?_ ?b_ | refine Below.setCell ?_ ?b_ _); case b_ => first | omega | (simp; done) | (simp; omega)) | refine Below.drew ?_ | refine below_drewN ?_ _)) (by first | omega | (simp; done) | (simp; omega) | (have hq_ := hb.size; omega)) hb
    have hx_ := rw_below (k := w.heap.size) hb (by with_reducible repeat (first | assumption | (refine rw_new ?e_; case e_ => first | rfl | (simp; done) | (simp; omega)) | apply rw_self | (apply rw_other; case hn => first | omega | (simp; omega)) | apply rw_alloc | apply rw_drew | apply rw_drewN))
    (try clear hp)
    (try clear hpc0 hpc1 hpc2 hpc3 hpc4 hpc5 hpc6)
    have hp := hx_
    clear hx_
    obtain ⟨hpc0, hpc1, hpc2, hpc3, hpc4, hpc5, hpc6⟩ := cel7 hp
    clear hb
    go_wp2_with ((with_reducible refine rw_list ?_); (first | ((with_reducible apply wpList_load_cell); (case ho => with_reducible rfl); (case hgd => with_reducible rfl); (case hx => rfl); (case hu => first | exact Try.underlying23 | exact Try.underlying61 | exact Try.underlying3 | exact Try.underlying4 | exact Try.underlying9 | exact Try.underlying25); (case hd => rfl)) | ((with_reducible apply wpList_load_row); (case ho => with_reducible rfl); (case hgd => with_reducible rfl); (case hx => rfl); (case hu => first | exact Try.underlying23 | exact Try.underlying61 | exact Try.underlying3 | exact Try.underlying4 | exact Try.underlying9 | exact Try.underlying25); (case hd => rfl)) | ((with_reducible apply wpList_store_row); (case ho => with_reducible rfl); (case hgd => with_reducible rfl); (case hx => rfl); (case hy => rfl)) | ((with_reducible apply wpList_store_cell); (case ho => with_reducible rfl); (case hgd => with_reducible rfl); (case hx => rfl); (case hy => first | exact ev_const | exact ev_tmp rfl); (case h1 => rfl))); (case hg => exact (by with_reducible repeat (first | assumption | (refine rw_new ?e_; case e_ => first | rfl | (simp; done) | (simp; omega)) | apply rw_self | (apply rw_other; case hn => first | omega | (simp; omega)) | apply rw_alloc | apply rw_drew | apply rw_drewN))); (try case hv => rfl); (try case hi => kernel_rfl); (try case hold => rfl); (try case h1 => kernel_rfl); (try case hlt => rfl); (try case hcs => ((try simp only [List.setIfInBounds_toArray, List.set_cons_succ, List.set_cons_zero]); rfl)))
    refine (okey_no _ _ _ _ _ _ _ _ h).mono ?_
    rintro e w2 ⟨rfl, hb⟩
    have hs_w2 := hb.size
    (try simp at hs_w2)
    have hB_w2 : Below w.heap.size w w2 := below_then (w := w) (by with_reducible repeat (first | exact Below.refl _ _ | assumption | ((first | refine Below.alloc ?_ ?b_ _ | refine bw_set ?_ ?b_ | refine Below.setCell ?_ ?b_ _); case b_ => first | omega | (simp; done) | (simp; omega)) | refine Below.drew ?_ | refine below_drewN ?_ _)) (by first | omega | (simp; done) | (simp; omega) | (have hq_ := hb.size; omega)) hb
    have hx_ := rw_below (k := w.heap.size) hb (by with_reducible repeat (first | assumption | (refine rw_new ?e_; case e_ => first | rfl | (simp; done) | (simp; omega)) | apply rw_self | (apply rw_other; case hn => first | omega | (simp; omega)) | apply rw_alloc | apply rw_drew | apply rw_drewN))
    (try clear hp)
    (try clear hpc0 hpc1 hpc2 hpc3 hpc4 hpc5 hpc6)
    have hp := hx_
    clear hx_
    obtain ⟨hpc0, hpc1, hpc2, hpc3, hpc4, hpc5, hpc6⟩ := cel7 hp
    clear hb
    go_wp2_with ((with_reducible refine rw_list ?_); (first | ((with_reducible apply wpList_load_cell); (case ho => with_reducible rfl); (case hgd => with_reducible rfl); (case hx => rfl); (case hu => first | exact Try.underlying23 | exact Try.underlying61 | exact Try.underlying3 | exact Try.underlying4 | exact Try.underlying9 | exact Try.underlying25); (case hd => rfl)) | ((with_reducible apply wpList_load_row); (case ho => with_reducible rfl); (case hgd => with_reducible rfl); (case hx => rfl); (case hu => first | exact Try.underlying23 | exact Try.underlying61 | exact Try.underlying3 | exact Try.underlying4 | exact Try.underlying9 | exact Try.underlying25); (case hd => rfl)) | ((with_reducible apply wpList_store_row); (case ho => with_reducible rfl); (case hgd => with_reducible rfl); (case hx => rfl); (case hy => rfl)) | ((with_reducible apply wpList_store_cell); (case ho => with_reducible rfl); (case hgd => with_reducible rfl); (case hx => rfl); (case hy => first | exact ev_const | exact ev_tmp rfl); (case h1 => rfl))); (case hg => exact (by with_reducible repeat (first | assumption | (refine rw_new ?e_; case e_ => first | rfl | (simp; done) | (simp; omega)) | apply rw_self | (apply rw_other; case hn => first | omega | (simp; omega)) | apply rw_alloc | apply rw_drew | apply rw_drewN))); (try case hv => rfl); (try case hi => kernel_rfl); (try case hold => rfl); (try case h1 => kernel_rfl); (try case hlt => rfl); (try case hcs => ((try simp only [List.setIfInBounds_toArray, List.set_cons_succ, List.set_cons_zero]); rfl)))
    refine (right_any _ _ _ _ _ _ _ _ hN).mono ?_
    rintro e w3 ⟨rfl, hb⟩
    have hs_w3 := hb.size
    (try simp at hs_w3)
    have hB_w3 : Below w.heap.size w w3 := below_then (w := w) (by with_reducible repeat (first | exact Below.refl _ _ | assumption | ((first | refine Below.alloc ?_ ?b_ _ | refine bw_set ?_ ?b_ | refine Below.setCell ?_ ?b_ _); case b_ => first | omega | (simp; done) | (simp; omega)) | refine Below.drew ?_ | refine below_drewN ?_ _)) (by first | omega | (simp; done) | (simp; omega) | (have hq_ := hb.size; omega)) hb
    have hx_ := rw_below (k := w.heap.size) hb (by with_reducible repeat (first | assumption | (refine rw_new ?e_; case e_ => first | rfl | (simp; done) | (simp; omega)) | apply rw_self | (apply rw_other; case hn => first | omega | (simp; omega)) | apply rw_alloc | apply rw_drew | apply rw_drewN))
    (try clear hp)
    (try clear hpc0 hpc1 hpc2 hpc3 hpc4 hpc5 hpc6)
    have hp := hx_
    clear hx_
    obtain ⟨hpc0, hpc1, hpc2, hpc3, hpc4, hpc5, hpc6⟩ := cel7 hp
    have hx_ := rw_below (k := w2.heap.size) hb (by with_reducible repeat (first | assumption | (refine rw_new ?e_; case e_ => first | rfl | (simp; done) | (simp; omega)) | apply rw_self | (apply rw_other; case hn => first | omega | (simp; omega)) | apply rw_alloc | apply rw_drew | apply rw_drewN))
    (try clear hq)
    (try clear hqc0 hqc1 hqc2 hqc3 hqc4 hqc5 hqc6)
    have hq := hx_
    clear hx_
    obtain ⟨hqc0, hqc1, hqc2, hqc3, hqc4, hqc5, hqc6⟩ := cel7 hq
    clear hb
    have hl := rw_lt hp
    have hl2 := rw_lt hq
    rw [hd.out]
    go_wp2_with ((with_reducible refine rw_list ?_); (first | ((with_reducible apply wpList_load_cell); (case ho => with_reducible rfl); (case hgd => with_reducible rfl); (case hx => rfl); (case hu => first | exact Try.underlying23 | exact Try.underlying61 | exact Try.underlying3 | exact Try.underlying4 | exact Try.underlying9 | exact Try.underlying25); (case hd => rfl)) | ((with_reducible apply wpList_load_row); (case ho => with_reducible rfl); (case hgd => with_reducible rfl); (case hx => rfl); (case hu => first | exact Try.underlying23 | exact Try.underlying61 | exact Try.underlying3 | exact Try.underlying4 | exact Try.underlying9 | exact Try.underlying25); (case hd => rfl)) | ((with_reducible apply wpList_store_row); (case ho => with_reducible rfl); (case hgd => with_reducible rfl); (case hx => rfl); (case hy => rfl)) | ((with_reducible apply wpList_store_cell); (case ho => with_reducible rfl); (case hgd => with_reducible rfl); (case hx => rfl); (case hy => first | exact ev_const | exact ev_tmp rfl); (case h1 => rfl))); (case hg => exact (by with_reducible repeat (first | assumption | (refine rw_new ?e_; case e_ => first | rfl | (simp; done) | (simp; omega)) | apply rw_self | (apply rw_other; case hn => first | omega | (simp; omega)) | apply rw_alloc | apply rw_drew | apply rw_drewN))); (try case hv => rfl); (try case hi => kernel_rfl); (try case hold => rfl); (try case h1 => kernel_rfl); (try case hlt => rfl); (try case hcs => ((try simp only [List.setIfInBounds_toArray, List.set_cons_succ, List.set_cons_zero]); rfl)))
    go_ret
    exact ⟨rfl, (by with_reducible repeat (first | exact Below.refl _ _ | assumption | ((first | refine Below.alloc ?_ ?b_ _ | refine bw_set ?_ ?b_ | refine Below.setCell ?_ ?b_ _); case b_ => first | omega | (simp; done) | (simp; omega)) | refine Below.drew ?_ | refine below_drewN ?_ _))⟩
end Go.Proofs.Yticbjpficaaaiaa.T3
