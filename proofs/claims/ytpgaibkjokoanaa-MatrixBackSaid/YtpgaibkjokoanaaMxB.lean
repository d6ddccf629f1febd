/- matrix.valid, device, Apply and Vector return what the plain forms tell. -/
import Derived.Test.YtpgaibkjokoanaaMxA
import Derived.WalkKit
import Derived.Lib.Hide
import Derived.Deep.QuietTactic
import Derived.BigQuiet
import Derived.Lib.QuietBelow
import Derived.Deep.RegionHeld3
import Derived.WalkLawsBesides
import Derived.WalkSpells
import Derived.Outline
import Derived.Deep.DeepFit
import Derived.Maps.AppendAt
import Derived.Deep.AppendLies
namespace Go.Proofs.Ytpgaibkjokoanaa.T3
set_option linter.unusedSimpArgs false
set_option linter.unusedVariables false
open Go.RowKit
set_option maxHeartbeats 1000000
theorem row_cells {w : World} {g t : Nat} {fr : Nat × Nat} (l : List Int) (h : w.heap[g]? = some (.cells (l.map (Value.int .i64)).toArray t fr)) : ∀ j, j < l.length → w.cell? ⟨g, 0 + j, none⟩ = some (.int .i64 (l.getD j 0)) := by
  intro j hj
  rw [cell_of_row w g (0 + j) _ _ _ h]
  simp [List.getElem?_eq_getElem hj, List.getD_eq_getElem?_getD]
def vldE (A B C D E F : Int) (l : List Int) : Int := if mOk A B C D E F then (if withinB 2147483648 l = true then 0 else 2) else 300
theorem mvalid_any (A B C D E F : Int) (l : List Int) (hl : l.length ≤ 100) (g k : Nat) (w : World) (hg : w.heap[g]? = some (.cells (l.map (Value.int .i64)).toArray 3 (0, 0))) :
    Calls Try.prog 44 #[.agg #[.int .i64 A, .int .i64 B, .int .i64 C, .int .i64 D, .int .i64 E, .int .i64 F], .slice (some ⟨g, 0, none⟩) l.length k] w fun e w' => e = .returned (.int .i64 (vldE A B C D E F l)) ∧ Below w.heap.size w w' := by
  have hgl := rw_lt hg
  by_cases hm : mOk A B C D E F
  · have HE := Lib.hid (show mErr A B C D E F = 0 from if_pos hm)
    by_cases hw : withinB 2147483648 l = true
    · have HV := Lib.hid (show vldE A B C D E F l = 0 by rw [vldE, if_pos hm, if_pos hw])
      have Hw := Lib.hid hw
      clear hw
      go_enter Try.func44, Try.ntmps44
      go_wp2_with ((with_reducible refine rw_list ?_); (first | ((with_reducible apply wpList_load_cell); (case ho => with_reducible rfl); (case hgd => with_reducible rfl); (case hx => rfl); (case hu => first | exact Try.underlying25 | exact Try.underlying3); (case hd => rfl)) | ((with_reducible apply wpList_load_row); (case ho => with_reducible rfl); (case hgd => with_reducible rfl); (case hx => rfl); (case hu => first | exact Try.underlying25 | exact Try.underlying3); (case hd => rfl)) | ((with_reducible apply wpList_store_row); (case ho => with_reducible rfl); (case hgd => with_reducible rfl); (case hx => rfl); (case hy => rfl)) | ((with_reducible apply wpList_store_cell); (case ho => with_reducible rfl); (case hgd => with_reducible rfl); (case hx => rfl); (case hy => first | exact ev_const | exact ev_tmp rfl); (case h1 => rfl))); (case hg => exact (by with_reducible repeat (first | assumption | (refine rw_new ?e_; case e_ => first | rfl | (simp; done) | (simp; omega)) | apply rw_self | (apply rw_other; case hn => first | omega | (simp; omega)) | apply rw_alloc | apply rw_drew | apply rw_drewN))); (try case hv => rfl); (try case hi => kernel_rfl); (try case hold => rfl); (try case h1 => kernel_rfl); (try case hlt => rfl); (try case hcs => ((try simp only [List.setIfInBounds_toArray, List.set_cons_succ, List.set_cons_zero]); rfl)))
      refine (mcheck_any _ _ _ _ _ _ _).mono ?_
      rintro e w1 ⟨rfl, hb⟩
      have hs_w1 := hb.size
      (try simp at hs_w1)
      have hB_w1 : Below w.heap.size w w1 := below_then (w := w) (by with_reducible repeat (first | exact Below.refl _ _ | assumption | ((first | refine Below.alloc ?_ ?b_ _ | refine bw_set ?_ ?b_ | refine Below.setCell ?_ ?b_ _); case b_ => first | omega | (simp; done) | (simp; omega)) | refine Below.drew ?_ | refine below_drewN ?_ _)) (by first | omega | (simp; done) | (simp; omega) | (have hq_ := hb.size; omega)) hb
      have hx_ := rw_below (k := g) hb (by with_reducible repeat (first | assumption | (refine rw_new ?e_; case e_ => first | rfl | (simp; done) | (simp; omega)) | apply rw_self | (apply rw_other; case hn => first | omega | (simp; omega)) | apply rw_alloc | apply rw_drew | apply rw_drewN))
      (try clear hg)
      have hg := hx_
      clear hx_
      clear hb
      rw [HE.out]
      go_wp2_with ((with_reducible refine rw_list ?_); (first | ((with_reducible apply wpList_load_cell); (case ho => with_reducible rfl); (case hgd => with_reducible rfl); (case hx => rfl); (case hu => first | exact Try.underlying25 | exact Try.underlying3); (case hd => rfl)) | ((with_reducible apply wpList_load_row); (case ho => with_reducible rfl); (case hgd => with_reducible rfl); (case hx => rfl); (case hu => first | exact Try.underlying25 | exact Try.underlying3); (case hd => rfl)) | ((with_reducible apply wpList_store_row); (case ho => with_reducible rfl); (case hgd => with_reducible rfl); (case hx => rfl); (case hy => rfl)) | ((with_reducible apply wpList_store_cell); (case ho => with_reducible rfl); (case hgd => with_reducible rfl); (case hx => rfl); (case hy => first | exact ev_const | exact ev_tmp rfl); (case h1 => rfl))); (case hg => exact (by with_reducible repeat (first | assumption | (refine rw_new ?e_; case e_ => first | rfl | (simp; done) | (simp; omega)) | apply rw_self | (apply rw_other; case hn => first | omega | (simp; omega)) | apply rw_alloc | apply rw_drew | apply rw_drewN))); (try case hv => rfl); (try case hi => kernel_rfl); (try case hold => rfl); (try case h1 => kernel_rfl); (try case hlt => rfl); (try case hcs => ((try simp only [List.setIfInBounds_toArray, List.set_cons_succ, List.set_cons_zero]); rfl)))
      refine (within_any _ l g 0 k _ (by omega) (by omega) hl (row_cells l hg)).mono ?_
      rintro e w2 ⟨rfl, rfl⟩
      rw [Hw.out]
      go_wp2_with ((with_reducible refine rw_list ?_); (first | ((with_reducible apply wpList_load_cell); (case ho => with_reducible rfl); (case hgd => with_reducible rfl); (case hx => rfl); (case hu => first | exact Try.underlying25 | exact Try.underlying3); (case hd => rfl)) | ((with_reducible apply wpList_load_row); (case ho => with_reducible rfl); (case hgd => with_reducible rfl); (case hx => rfl); (case hu => first | exact Try.underlying25 | exact Try.underlying3); (case hd => rfl)) | ((with_reducible apply wpList_store_row); (case ho => with_reducible rfl); (case hgd => with_reducible rfl); (case hx => rfl); (case hy => rfl)) | ((with_reducible apply wpList_store_cell); (case ho => with_reducible rfl); (case hgd => with_reducible rfl); (case hx => rfl); (case hy => first | exact ev_const | exact ev_tmp rfl); (case h1 => rfl))); (case hg => exact (by with_reducible repeat (first | assumption | (refine rw_new ?e_; case e_ => first | rfl | (simp; done) | (simp; omega)) | apply rw_self | (apply rw_other; case hn => first | omega | (simp; omega)) | apply rw_alloc | apply rw_drew | apply rw_drewN))); (try case hv => rfl); (try case hi => kernel_rfl); (try case hold => rfl); (try case h1 => kernel_rfl); (try case hlt => rfl); (try case hcs => ((try simp only [List.setIfInBounds_toArray, List.set_cons_succ, List.set_cons_zero]); rfl)))
      go_ret
      exact ⟨by rw [HV.out]; rfl, (by with_reducible repeat (first | exact Below.refl _ _ | assumption | ((first | refine Below.alloc ?_ ?b_ _ | refine bw_set ?_ ?b_ | refine Below.setCell ?_ ?b_ _); case b_ => first | omega | (simp; done) | (simp; omega)) | refine Below.drew ?_ | refine below_drewN ?_ _))⟩
    · have HV := Lib.hid (show vldE A B C D E F l = 2 by rw [vldE, if_pos hm, if_neg hw])
      have Hw := Lib.hid (show withinB 2147483648 l = false by simpa using hw)
      clear hw
      go_enter Try.func44, Try.ntmps44
      go_wp2_with ((with_reducible refine rw_list ?_); (first | ((with_reducible apply wpList_load_cell); (case ho => with_reducible rfl); (case hgd => with_reducible rfl); (case hx => rfl); (case hu => first | exact Try.underlying25 | exact Try.underlying3); (case hd => rfl)) | ((with_reducible apply wpList_load_row); (case ho => with_reducible rfl); (case hgd => with_reducible rfl); (case hx => rfl); (case hu => first | exact Try.underlying25 | exact Try.underlying3); (case hd => rfl)) | ((with_reducible apply wpList_store_row); (case ho => with_reducible rfl); (case hgd => with_reducible rfl); (case hx => rfl); (case hy => rfl)) | ((with_reducible apply wpList_store_cell); (case ho => with_reducible rfl); (case hgd => with_reducible rfl); (case hx => rfl); (case hy => first | exact ev_const | exact ev_tmp rfl); (case h1 => rfl))); (case hg => exact (by with_reducible repeat (first | assumption | (refine rw_new ?e_; case e_ => first | rfl | (simp; done) | (simp; omega)) | apply rw_self | (apply rw_other; case hn => first | omega | (simp; omega)) | apply rw_alloc | apply rw_drew | apply rw_drewN))); (try case hv => rfl); (try case hi => kernel_rfl); (try case hold => rfl); (try case h1 => kernel_rfl); (try case hlt => rfl); (try case hcs => ((try simp only [List.setIfInBounds_toArray, List.set_cons_succ, List.set_cons_zero]); rfl)))
      refine (mcheck_any _ _ _ _ _ _ _).mono ?_
      rintro e w1 ⟨rfl, hb⟩
      have hs_w1 := hb.size
      (try simp at hs_w1)
      have hB_w1 : Below w.heap.size w w1 := below_then (w := w) (by with_reducible repeat (first | exact Below.refl _ _ | assumption | ((first | refine Below.alloc ?_ ?b_ _ | refine bw_set ?_ ?b_ | refine Below.setCell ?_ ?b_ _); case b_ => first | omega | (simp; done) | (simp; omega)) | refine Below.drew ?_ | refine below_drewN ?_ _)) (by first | omega | (simp; done) | (simp; omega) | (have hq_ := hb.size; omega)) hb
      have hx_ := rw_below (k := g) hb (by with_reducible repeat (first | assumption | (refine rw_new ?e_; case e_ => first | rfl | (simp; done) | (simp; omega)) | apply rw_self | (apply rw_other; case hn => first | omega | (simp; omega)) | apply rw_alloc | apply rw_drew | apply rw_drewN))
      (try clear hg)
      have hg := hx_
      clear hx_
      clear hb
      rw [HE.out]
      go_wp2_with ((with_reducible refine rw_list ?_); (first | ((with_reducible apply wpList_load_cell); (case ho => with_reducible rfl); (case hgd => with_reducible rfl); (case hx => rfl); (case hu => first | exact Try.underlying25 | exact Try.underlying3); (case hd => rfl)) | ((with_reducible apply wpList_load_row); (case ho => with_reducible rfl); (case hgd => with_reducible rfl); (case hx => rfl); (case hu => first | exact Try.underlying25 | exact Try.underlying3); (case hd => rfl)) | ((with_reducible apply wpList_store_row); (case ho => with_reducible rfl); (case hgd => with_reducible rfl); (case hx => rfl); (case hy => rfl)) | ((with_reducible apply wpList_store_cell); (case ho => with_reducible rfl); (case hgd => with_reducible rfl); (case hx => rfl); (case hy => first | exact ev_const | exact ev_tmp rfl); (case h1 => rfl))); (case hg => exact (by with_reducible repeat (first | assumption | (refine rw_new ?e_; case e_ => first | rfl | (simp; done) | (simp; omega)) | apply rw_self | (apply rw_other; case hn => first | omega | (simp; omega)) | apply rw_alloc | apply rw_drew | apply rw_drewN))); (try case hv => rfl); (try case hi => kernel_rfl); (try case hold => rfl); (try case h1 => kernel_rfl); (try case hlt => rfl); (try case hcs => ((try simp only [List.setIfInBounds_toArray, List.set_cons_succ, List.set_cons_zero]); rfl)))
      refine (within_any _ l g 0 k _ (by omega) (by omega) hl (row_cells l hg)).mono ?_
      rintro e w2 ⟨rfl, rfl⟩
      rw [Hw.out]
      go_wp2_with ((with_reducible refine rw_list ?_); (first | ((with_reducible apply wpList_load_cell); (case ho => with_reducible rfl); (case hgd => with_reducible rfl); (case hx => rfl); (case hu => first | exact Try.underlying25 | exact Try.underlying3); (case hd => rfl)) | ((with_reducible apply wpList_load_row); (case ho => with_reducible rfl); (case hgd => with_reducible rfl); (case hx => rfl); (case hu => first | exact Try.underlying25 | exact Try.underlying3); (case hd => rfl)) | ((with_reducible apply wpList_store_row); (case ho => with_reducible rfl); (case hgd => with_reducible rfl); (case hx => rfl); (case hy => rfl)) | ((with_reducible apply wpList_store_cell); (case ho => with_reducible rfl); (case hgd => with_reducible rfl); (case hx => rfl); (case hy => first | exact ev_const | exact ev_tmp rfl); (case h1 => rfl))); (case hg => exact (by with_reducible repeat (first | assumption | (refine rw_new ?e_; case e_ => first | rfl | (simp; done) | (simp; omega)) | apply rw_self | (apply rw_other; case hn => first | omega | (simp; omega)) | apply rw_alloc | apply rw_drew | apply rw_drewN))); (try case hv => rfl); (try case hi => kernel_rfl); (try case hold => rfl); (try case h1 => kernel_rfl); (try case hlt => rfl); (try case hcs => ((try simp only [List.setIfInBounds_toArray, List.set_cons_succ, List.set_cons_zero]); rfl)))
      go_ret
      exact ⟨by rw [HV.out]; rfl, (by with_reducible repeat (first | exact Below.refl _ _ | assumption | ((first | refine Below.alloc ?_ ?b_ _ | refine bw_set ?_ ?b_ | refine Below.setCell ?_ ?b_ _); case b_ => first | omega | (simp; done) | (simp; omega)) | refine Below.drew ?_ | refine below_drewN ?_ _))⟩
  · have HE := Lib.hid (show mErr A B C D E F = 300 from if_neg hm)
    have HV := Lib.hid (show vldE A B C D E F l = 300 by rw [vldE, if_neg hm])
    go_enter Try.func44, Try.ntmps44
    go_wp2_with ((with_reducible refine rw_list ?_); (first | ((with_reducible apply wpList_load_cell); (case ho => with_reducible rfl); (case hgd => with_reducible rfl); (case hx => rfl); (case hu => first | exact Try.underlying25 | exact Try.underlying3); (case hd => rfl)) | ((with_reducible apply wpList_load_row); (case ho => with_reducible rfl); (case hgd => with_reducible rfl); (case hx => rfl); (case hu => first | exact Try.underlying25 | exact Try.underlying3); (case hd => rfl)) | ((with_reducible apply wpList_store_row); (case ho => with_reducible rfl); (case hgd => with_reducible rfl); (case hx => rfl); (case hy => rfl)) | ((with_reducible apply wpList_store_cell); (case ho => with_reducible rfl); (case hgd => with_reducible rfl); (case hx => rfl); (case hy => first | exact ev_const | exact ev_tmp rfl); (case h1 => rfl))); (case hg => exact (by with_reducible repeat (first | assumption | (refine rw_new ?e_; case e_ => first | rfl | (simp; done) | (simp; omega)) | apply rw_self | (apply rw_other; case hn => first | omega | (simp; omega)) | apply rw_alloc | apply rw_drew | apply rw_drewN))); (try case hv => rfl); (try case hi => kernel_rfl); (try case hold => rfl); (try case h1 => kernel_rfl); (try case hlt => rfl); (try case hcs => ((try simp only [List.setIfInBounds_toArray, List.set_cons_succ, List.set_cons_zero]); rfl)))
    refine (mcheck_any _ _ _ _ _ _ _).mono ?_
    rintro e w1 ⟨rfl, hb⟩
    have hs_w1 := hb.size
    (try simp at hs_w1)
    have hB_w1 : Below w.heap.size w w1 := below_then (w := w) (by with_reducible repeat (first | exact Below.refl _ _ | assumption | ((first | refine Below.alloc ?_ ?b_ _ | refine bw_set ?_ ?b_ | refine Below.setCell ?_ ?b_ _); case b_ => first | omega | (simp; done) | (simp; omega)) | refine Below.drew ?_ | refine below_drewN ?_ _)) (by first | omega | (simp; done) | (simp; omega) | (have hq_ := hb.size; omega)) hb
    have hx_ := rw_below (k := g) hb (by with_reducible repeat (first | assumption | (refine rw_new ?e_; case e_ => first | rfl | (simp; done) | (simp; omega)) | apply rw_self | (apply rw_other; case hn => first | omega | (simp; omega)) | apply rw_alloc | apply rw_drew | apply rw_drewN))
    (try clear hg)
    have hg := hx_
    clear hx_
    clear hb
    rw [HE.out]
    go_wp2_with ((with_reducible refine rw_list ?_); (first | ((with_reducible apply wpList_load_cell); (case ho => with_reducible rfl); (case hgd => with_reducible rfl); (case hx => rfl); (case hu => first | exact Try.underlying25 | exact Try.underlying3); (case hd => rfl)) | ((with_reducible apply wpList_load_row); (case ho => with_reducible rfl); (case hgd => with_reducible rfl); (case hx => rfl); (case hu => first | exact Try.underlying25 | exact Try.underlying3); (case hd => rfl)) | ((with_reducible apply wpList_store_row); (case ho => with_reducible rfl); (case hgd => with_reducible rfl); (case hx => rfl); (case hy => rfl)) | ((with_reducible apply wpList_store_cell); (case ho => with_reducible rfl); (case hgd => with_reducible rfl); (case hx => rfl); (case hy => first | exact ev_const | exact ev_tmp rfl); (case h1 => rfl))); (case hg => exact (by with_reducible repeat (first | assumption | (refine rw_new ?e_; case e_ => first | rfl | (simp; done) | (simp; omega)) | apply rw_self | (apply rw_other; case hn => first | omega | (simp; omega)) | apply rw_alloc | apply rw_drew | apply rw_drewN))); (try case hv => rfl); (try case hi => kernel_rfl); (try case hold => rfl); (try case h1 => kernel_rfl); (try case hlt => rfl); (try case hcs => ((try simp only [List.setIfInBounds_toArray, List.set_cons_succ, List.set_cons_zero]); rfl)))
    go_ret
    exact ⟨by rw [HV.out]; rfl, (by with_reducible repeat (first | exact Below.refl _ _ | assumption | ((first | refine Below.alloc ?_ ?b_ _ | refine bw_set ?_ ?b_ | refine Below.setCell ?_ ?b_ _); case b_ => first | omega | (simp; done) | (simp; omega)) | refine Below.drew ?_ | refine below_drewN ?_ _))⟩
theorem vld_bd {A B C D E F x y : Int} (h : vldE A B C D E F [x, y] = 0) : (-16777216 ≤ A ∧ A ≤ 16777216) ∧ (-16777216 ≤ B ∧ B ≤ 16777216) ∧ (-16777216 ≤ C ∧ C ≤ 16777216) ∧ (-16777216 ≤ D ∧ D ≤ 16777216) ∧ (-536870912 ≤ E ∧ E ≤ 536870912) ∧ (-536870912 ≤ F) ∧ (F ≤ 536870912) ∧ (-2147483648 ≤ x ∧ x ≤ 2147483648) ∧ -2147483648 ≤ y ∧ y ≤ 2147483648 := by
  unfold vldE at h
  split at h
  · rename_i hm
    unfold mOk at hm
    split at h
    · rename_i hw
      simp [withinB] at hw
      omega
    · omega
  · omega
def dvIn (x y : Int) : Bool := withinB 8192 [r28 x, r28 y]
def dvE (x y : Int) : Int := if dvIn x y = true then 0 else 26
def dvX (x y : Int) : Int := if dvIn x y = true then r28 x else 0
def dvY (x y : Int) : Int := if dvIn x y = true then r28 y else 0
theorem mdevice_any (x y : Int) (w : World) (h1 : -4611686018427387904 ≤ x) (h2 : x ≤ 4611686018427387904) (h3 : -4611686018427387904 ≤ y) (h4 : y ≤ 4611686018427387904) :
    Calls Try.prog 54 #[.int .i64 x, .int .i64 y] w fun e w' => e = .returned (.tuple #[.agg #[.int .i64 (dvX x y), .int .i64 (dvY x y)], .int .i64 (dvE x y)]) ∧ Below w.heap.size w w' := by
  by_cases h : dvIn x y = true
  · rw [show dvX x y = r28 x from if_pos h, show dvY x y = r28 y from if_pos h, show dvE x y = 0 from if_pos h]
    have Hw := Lib.hid h
    clear h
    go_enter Try.func54, Try.ntmps54
    go_wp2_with ((with_reducible refine rw_list ?_); (first | ((with_reducible apply wpList_load_cell); (case ho => with_reducible rfl); (case hgd => with_reducible rfl); (case hx => rfl); (case hu => first | exact Try.underlying28 | exact Try.underlying3); (case hd => rfl)) | ((with_reducible apply wpList_load_row); (case ho => with_reducible rfl); (case hgd => with_reducible rfl); (case hx => rfl); (case hu => first | exact Try.underlying28 | exact Try.underlying3); (case hd => rfl)) | ((with_reducible apply wpList_store_row); (case ho => with_reducible rfl); (case hgd => with_reducible rfl); (case hx => rfl); (case hy => rfl)) | ((with_reducible apply wpList_store_cell); (case ho => with_reducible rfl); (case hgd => with_reducible rfl); (case hx => rfl); (case hy => first | exact ev_const | exact ev_tmp rfl); (case h1 => rfl))); (case hg => exact (by with_reducible repeat (first | assumption | (refine rw_new ?e_; case e_ => first | rfl | (simp; done) | (simp; omega)) | apply rw_self | (apply rw_other; case hn => first | omega | (simp; omega)) | apply rw_alloc | apply rw_drew | apply rw_drewN))); (try case hv => rfl); (try case hi => kernel_rfl); (try case hold => rfl); (try case h1 => kernel_rfl); (try case hlt => rfl); (try case hcs => ((try simp only [List.setIfInBounds_toArray, List.set_cons_succ, List.set_cons_zero]); rfl)))
    refine (mround28 _ _ h1 h2).mono ?_
    rintro e w' ⟨rfl, rfl⟩
    go_wp2_with ((with_reducible refine rw_list ?_); (first | ((with_reducible apply wpList_load_cell); (case ho => with_reducible rfl); (case hgd => with_reducible rfl); (case hx => rfl); (case hu => first | exact Try.underlying28 | exact Try.underlying3); (case hd => rfl)) | ((with_reducible apply wpList_load_row); (case ho => with_reducible rfl); (case hgd => with_reducible rfl); (case hx => rfl); (case hu => first | exact Try.underlying28 | exact Try.underlying3); (case hd => rfl)) | ((with_reducible apply wpList_store_row); (case ho => with_reducible rfl); (case hgd => with_reducible rfl); (case hx => rfl); (case hy => rfl)) | ((with_reducible apply wpList_store_cell); (case ho => with_reducible rfl); (case hgd => with_reducible rfl); (case hx => rfl); (case hy => first | exact ev_const | exact ev_tmp rfl); (case h1 => rfl))); (case hg => exact (by with_reducible repeat (first | assumption | (refine rw_new ?e_; case e_ => first | rfl | (simp; done) | (simp; omega)) | apply rw_self | (apply rw_other; case hn => first | omega | (simp; omega)) | apply rw_alloc | apply rw_drew | apply rw_drewN))); (try case hv => rfl); (try case hi => kernel_rfl); (try case hold => rfl); (try case h1 => kernel_rfl); (try case hlt => rfl); (try case hcs => ((try simp only [List.setIfInBounds_toArray, List.set_cons_succ, List.set_cons_zero]); rfl)))
    refine (mround28 _ _ h3 h4).mono ?_
    rintro e w' ⟨rfl, rfl⟩
    go_wp2_with ((with_reducible refine rw_list ?_); (first | ((with_reducible apply wpList_load_cell); (case ho => with_reducible rfl); (case hgd => with_reducible rfl); (case hx => rfl); (case hu => first | exact Try.underlying28 | exact Try.underlying3); (case hd => rfl)) | ((with_reducible apply wpList_load_row); (case ho => with_reducible rfl); (case hgd => with_reducible rfl); (case hx => rfl); (case hu => first | exact Try.underlying28 | exact Try.underlying3); (case hd => rfl)) | ((with_reducible apply wpList_store_row); (case ho => with_reducible rfl); (case hgd => with_reducible rfl); (case hx => rfl); (case hy => rfl)) | ((with_reducible apply wpList_store_cell); (case ho => with_reducible rfl); (case hgd => with_reducible rfl); (case hx => rfl); (case hy => first | exact ev_const | exact ev_tmp rfl); (case h1 => rfl))); (case hg => exact (by with_reducible repeat (first | assumption | (refine rw_new ?e_; case e_ => first | rfl | (simp; done) | (simp; omega)) | apply rw_self | (apply rw_other; case hn => first | omega | (simp; omega)) | apply rw_alloc | apply rw_drew | apply rw_drewN))); (try case hv => rfl); (try case hi => kernel_rfl); (try case hold => rfl); (try case h1 => kernel_rfl); (try case hlt => rfl); (try case hcs => ((try simp only [List.setIfInBounds_toArray, List.set_cons_succ, List.set_cons_zero]); rfl)))
    refine (within_any _ [r28 x, r28 y] _ 0 2 _ (by omega) (by omega) (by simp) (row_cells [r28 x, r28 y] (rw_new (by simp)))).mono ?_
    rintro e w2 ⟨rfl, rfl⟩
    rw [show withinB 8192 [r28 x, r28 y] = true from Hw.out]
    go_wp2_with ((with_reducible refine rw_list ?_); (first | ((with_reducible apply wpList_load_cell); (case ho => with_reducible rfl); (case hgd => with_reducible rfl); (case hx => rfl); (case hu => first | exact Try.underlying28 | exact Try.underlying3); (case hd => rfl)) | ((with_reducible apply wpList_load_row); (case ho => with_reducible rfl); (case hgd => with_reducible rfl); (case hx => rfl); (case hu => first | exact Try.underlying28 | exact Try.underlying3); (case hd => rfl)) | ((with_reducible apply wpList_store_row); (case ho => with_reducible rfl); (case hgd => with_reducible rfl); (case hx => rfl); (case hy => rfl)) | ((with_reducible apply wpList_store_cell); (case ho => with_reducible rfl); (case hgd => with_reducible rfl); (case hx => rfl); (case hy => first | exact ev_const | exact ev_tmp rfl); (case h1 => rfl))); (case hg => exact (by with_reducible repeat (first | assumption | (refine rw_new ?e_; case e_ => first | rfl | (simp; done) | (simp; omega)) | apply rw_self | (apply rw_other; case hn => first | omega | (simp; omega)) | apply rw_alloc | apply rw_drew | apply rw_drewN))); (try case hv => rfl); (try case hi => kernel_rfl); (try case hold => rfl); (try case h1 => kernel_rfl); (try case hlt => rfl); (try case hcs => ((try simp only [List.setIfInBounds_toArray, List.set_cons_succ, List.set_cons_zero]); rfl)))
    exact bodyPost_ret (v := _) (results_cell_tmp Try.results54 _ _ _ _ _ _ _ (by rfl) (by with_reducible repeat (first | assumption | (refine rw_new ?e_; case e_ => first | rfl | (simp; done) | (simp; omega)) | apply rw_self | (apply rw_other; case hn => first | omega | (simp; omega)) | apply rw_alloc | apply rw_drew | apply rw_drewN)) Try.underlying28 rfl (by kernel_rfl)) rfl ⟨rfl, (by with_reducible repeat (first | exact Below.refl _ _ | assumption | ((first | refine Below.alloc ?_ ?b_ _ | refine bw_set ?_ ?b_ | refine Below.setCell ?_ ?b_ _); case b_ => first | omega | (simp; done) | (simp; omega)) | refine Below.drew ?_ | refine below_drewN ?_ _))⟩
  · rw [show dvX x y = 0 from if_neg h, show dvY x y = 0 from if_neg h, show dvE x y = 26 from if_neg h]
    have Hw := Lib.hid (show dvIn x y = false by simpa using h)
    clear h
    go_enter Try.func54, Try.ntmps54
    go_wp2_with ((with_reducible refine rw_list ?_); (first | ((with_reducible apply wpList_load_cell); (case ho => with_reducible rfl); (case hgd => with_reducible rfl); (case hx => rfl); (case hu => first | exact Try.underlying28 | exact Try.underlying3); (case hd => rfl)) | ((with_reducible apply wpList_load_row); (case ho => with_reducible rfl); (case hgd => with_reducible rfl); (case hx => rfl); (case hu => first | exact Try.underlying28 | exact Try.underlying3); (case hd => rfl)) | ((with_reducible apply wpList_store_row); (case ho => with_reducible rfl); (case hgd => with_reducible rfl); (case hx => rfl); (case hy => rfl)) | ((with_reducible apply wpList_store_cell); (case ho => with_reducible rfl); (case hgd => with_reducible rfl); (case hx => rfl); (case hy => first | exact ev_const | exact ev_tmp rfl); (case h1 => rfl))); (case hg => exact (by with_reducible repeat (first | assumption | (refine rw_new ?e_; case e_ => first | rfl | (simp; done) | (simp; omega)) | apply rw_self | (apply rw_other; case hn => first | omega | (simp; omega)) | apply rw_alloc | apply rw_drew | apply rw_drewN))); (try case hv => rfl); (try case hi => kernel_rfl); (try case hold => rfl); (try case h1 => kernel_rfl); (try case hlt => rfl); (try case hcs => ((try simp only [List.setIfInBounds_toArray, List.set_cons_succ, List.set_cons_zero]); rfl)))
    refine (mround28 _ _ h1 h2).mono ?_
    rintro e w' ⟨rfl, rfl⟩
    go_wp2_with ((with_reducible refine rw_list ?_); (first | ((with_reducible apply wpList_load_cell); (case ho => with_reducible rfl); (case hgd => with_reducible rfl); (case hx => rfl); (case hu => first | exact Try.underlying28 | exact Try.underlying3); (case hd => rfl)) | ((with_reducible apply wpList_load_row); (case ho => with_reducible rfl); (case hgd => with_reducible rfl); (case hx => rfl); (case hu => first | exact Try.underlying28 | exact Try.underlying3); (case hd => rfl)) | ((with_reducible apply wpList_store_row); (case ho => with_reducible rfl); (case hgd => with_reducible rfl); (case hx => rfl); (case hy => rfl)) | ((with_reducible apply wpList_store_cell); (case ho => with_reducible rfl); (case hgd => with_reducible rfl); (case hx => rfl); (case hy => first | exact ev_const | exact ev_tmp rfl); (case h1 => rfl))); (case hg => exact (by with_reducible repeat (first | assumption | (refine rw_new ?e_; case e_ => first | rfl | (simp; done) | (simp; omega)) | apply rw_self | (apply rw_other; case hn => first | omega | (simp; omega)) | apply rw_alloc | apply rw_drew | apply rw_drewN))); (try case hv => rfl); (try case hi => kernel_rfl); (try case hold => rfl); (try case h1 => kernel_rfl); (try case hlt => rfl); (try case hcs => ((try simp only [List.setIfInBounds_toArray, List.set_cons_succ, List.set_cons_zero]); rfl)))
    refine (mround28 _ _ h3 h4).mono ?_
    rintro e w' ⟨rfl, rfl⟩
    go_wp2_with ((with_reducible refine rw_list ?_); (first | ((with_reducible apply wpList_load_cell); (case ho => with_reducible rfl); (case hgd => with_reducible rfl); (case hx => rfl); (case hu => first | exact Try.underlying28 | exact Try.underlying3); (case hd => rfl)) | ((with_reducible apply wpList_load_row); (case ho => with_reducible rfl); (case hgd => with_reducible rfl); (case hx => rfl); (case hu => first | exact Try.underlying28 | exact Try.underlying3); (case hd => rfl)) | ((with_reducible apply wpList_store_row); (case ho => with_reducible rfl); (case hgd => with_reducible rfl); (case hx => rfl); (case hy => rfl)) | ((with_reducible apply wpList_store_cell); (case ho => with_reducible rfl); (case hgd => with_reducible rfl); (case hx => rfl); (case hy => first | exact ev_const | exact ev_tmp rfl); (case h1 => rfl))); (case hg => exact (by with_reducible repeat (first | assumption | (refine rw_new ?e_; case e_ => first | rfl | (simp; done) | (simp; omega)) | apply rw_self | (apply rw_other; case hn => first | omega | (simp; omega)) | apply rw_alloc | apply rw_drew | apply rw_drewN))); (try case hv => rfl); (try case hi => kernel_rfl); (try case hold => rfl); (try case h1 => kernel_rfl); (try case hlt => rfl); (try case hcs => ((try simp only [List.setIfInBounds_toArray, List.set_cons_succ, List.set_cons_zero]); rfl)))
    refine (within_any _ [r28 x, r28 y] _ 0 2 _ (by omega) (by omega) (by simp) (row_cells [r28 x, r28 y] (rw_new (by simp)))).mono ?_
    rintro e w2 ⟨rfl, rfl⟩
    rw [show withinB 8192 [r28 x, r28 y] = false from Hw.out]
    go_wp2_with ((with_reducible refine rw_list ?_); (first | ((with_reducible apply wpList_load_cell); (case ho => with_reducible rfl); (case hgd => with_reducible rfl); (case hx => rfl); (case hu => first | exact Try.underlying28 | exact Try.underlying3); (case hd => rfl)) | ((with_reducible apply wpList_load_row); (case ho => with_reducible rfl); (case hgd => with_reducible rfl); (case hx => rfl); (case hu => first | exact Try.underlying28 | exact Try.underlying3); (case hd => rfl)) | ((with_reducible apply wpList_store_row); (case ho => with_reducible rfl); (case hgd => with_reducible rfl); (case hx => rfl); (case hy => rfl)) | ((with_reducible apply wpList_store_cell); (case ho => with_reducible rfl); (case hgd => with_reducible rfl); (case hx => rfl); (case hy => first | exact ev_const | exact ev_tmp rfl); (case h1 => rfl))); (case hg => exact (by with_reducible repeat (first | assumption | (refine rw_new ?e_; case e_ => first | rfl | (simp; done) | (simp; omega)) | apply rw_self | (apply rw_other; case hn => first | omega | (simp; omega)) | apply rw_alloc | apply rw_drew | apply rw_drewN))); (try case hv => rfl); (try case hi => kernel_rfl); (try case hold => rfl); (try case h1 => kernel_rfl); (try case hlt => rfl); (try case hcs => ((try simp only [List.setIfInBounds_toArray, List.set_cons_succ, List.set_cons_zero]); rfl)))
    exact bodyPost_ret (v := _) (results_cell_tmp Try.results54 _ _ _ _ _ _ _ (by rfl) (by with_reducible repeat (first | assumption | (refine rw_new ?e_; case e_ => first | rfl | (simp; done) | (simp; omega)) | apply rw_self | (apply rw_other; case hn => first | omega | (simp; omega)) | apply rw_alloc | apply rw_drew | apply rw_drewN)) Try.underlying28 rfl (by kernel_rfl)) rfl ⟨rfl, (by with_reducible repeat (first | exact Below.refl _ _ | assumption | ((first | refine Below.alloc ?_ ?b_ _ | refine bw_set ?_ ?b_ | refine Below.setCell ?_ ?b_ _); case b_ => first | omega | (simp; done) | (simp; omega)) | refine Below.drew ?_ | refine below_drewN ?_ _))⟩
def apE (A B C D E F x y : Int) : Int := if vldE A B C D E F [x, y] = 0 then dvE (A * x + C * y + E * 65536) (B * x + D * y + F * 65536) else vldE A B C D E F [x, y]
def apX (A B C D E F x y : Int) : Int := if vldE A B C D E F [x, y] = 0 then dvX (A * x + C * y + E * 65536) (B * x + D * y + F * 65536) else 0
def apY (A B C D E F x y : Int) : Int := if vldE A B C D E F [x, y] = 0 then dvY (A * x + C * y + E * 65536) (B * x + D * y + F * 65536) else 0
theorem map_any (A B C D E F x y : Int) (w : World) :
    Calls Try.prog 21 #[.agg #[.int .i64 A, .int .i64 B, .int .i64 C, .int .i64 D, .int .i64 E, .int .i64 F], .int .i64 x, .int .i64 y] w fun e w' => e = .returned (.tuple #[.agg #[.int .i64 (apX A B C D E F x y), .int .i64 (apY A B C D E F x y)], .int .i64 (apE A B C D E F x y)]) ∧ Below w.heap.size w w' := by
  by_cases hv : vldE A B C D E F [x, y] = 0
  · rw [show apX A B C D E F x y = dvX (A * x + C * y + E * 65536) (B * x + D * y + F * 65536) from if_pos hv, show apY A B C D E F x y = dvY (A * x + C * y + E * 65536) (B * x + D * y + F * 65536) from if_pos hv, show apE A B C D E F x y = dvE (A * x + C * y + E * 65536) (B * x + D * y + F * 65536) from if_pos hv]
    obtain ⟨⟨a1, a2⟩, ⟨b1, b2⟩, ⟨c1, c2⟩, ⟨d1, d2⟩, ⟨e1, e2⟩, f1, f2, ⟨x1, x2⟩, y1, y2⟩ := vld_bd hv
    obtain ⟨p1, p2⟩ := mul_bd a1 a2 x1 x2
    obtain ⟨p3, p4⟩ := mul_bd c1 c2 y1 y2
    obtain ⟨s1, s2⟩ := mul_bd b1 b2 x1 x2
    obtain ⟨s3, s4⟩ := mul_bd d1 d2 y1 y2
    simp only [Int.reduceMul, Int.reduceNeg] at p1 p2 p3 p4 s1 s2 s3 s4
    have HV := Lib.hid hv
    clear hv
    go_enter Try.func21, Try.ntmps21
    go_wp2_with ((with_reducible refine rw_list ?_); (first | ((with_reducible apply wpList_load_cell); (case ho => with_reducible rfl); (case hgd => with_reducible rfl); (case hx => rfl); (case hu => first | exact Try.underlying25 | exact Try.underlying28 | exact Try.underlying3); (case hd => rfl)) | ((with_reducible apply wpList_load_row); (case ho => with_reducible rfl); (case hgd => with_reducible rfl); (case hx => rfl); (case hu => first | exact Try.underlying25 | exact Try.underlying28 | exact Try.underlying3); (case hd => rfl)) | ((with_reducible apply wpList_store_row); (case ho => with_reducible rfl); (case hgd => with_reducible rfl); (case hx => rfl); (case hy => rfl)) | ((with_reducible apply wpList_store_cell); (case ho => with_reducible rfl); (case hgd => with_reducible rfl); (case hx => rfl); (case hy => first | exact ev_const | exact ev_tmp rfl); (case h1 => rfl))); (case hg => exact (by with_reducible repeat (first | assumption | (refine rw_new ?e_; case e_ => first | rfl | (simp; done) | (simp; omega)) | apply rw_self | (apply rw_other; case hn => first | omega | (simp; omega)) | apply rw_alloc | apply rw_drew | apply rw_drewN))); (try case hv => rfl); (try case hi => kernel_rfl); (try case hold => rfl); (try case h1 => kernel_rfl); (try case hlt => rfl); (try case hcs => ((try simp only [List.setIfInBounds_toArray, List.set_cons_succ, List.set_cons_zero]); rfl)))
    refine (mvalid_any A B C D E F [x, y] (by simp) _ 2 _ (rw_new (by simp))).mono ?_
    rintro e w1 ⟨rfl, hb⟩
    have hs_w1 := hb.size
    (try simp at hs_w1)
    have hB_w1 : Below w.heap.size w w1 := below_then (w := w) (by with_reducible repeat (first | exact Below.refl _ _ | assumption | ((first | refine Below.alloc ?_ ?b_ _ | refine bw_set ?_ ?b_ | refine Below.setCell ?_ ?b_ _); case b_ => first | omega | (simp; done) | (simp; omega)) | refine Below.drew ?_ | refine below_drewN ?_ _)) (by first | omega | (simp; done) | (simp; omega) | (have hq_ := hb.size; omega)) hb
    have hx_ := rw_below (k := w.heap.size) hb (by with_reducible repeat (first | assumption | (refine rw_new ?e_; case e_ => first | rfl | (simp; done) | (simp; omega)) | apply rw_self | (apply rw_other; case hn => first | omega | (simp; omega)) | apply rw_alloc | apply rw_drew | apply rw_drewN))
    (try clear hm)
    (try clear hmc0 hmc1 hmc2 hmc3 hmc4 hmc5)
    have hm := hx_
    clear hx_
    obtain ⟨hmc0, hmc1, hmc2, hmc3, hmc4, hmc5⟩ := cel6 hm
    have hx_ := rw_below (k := w.heap.size + 1) hb (by with_reducible repeat (first | assumption | (refine rw_new ?e_; case e_ => first | rfl | (simp; done) | (simp; omega)) | apply rw_self | (apply rw_other; case hn => first | omega | (simp; omega)) | apply rw_alloc | apply rw_drew | apply rw_drewN))
    (try clear hq)
    have hq := hx_
    clear hx_
    clear hb
    rw [HV.out]
    have hl := rw_lt hm
    go_wp2_with ((with_reducible refine rw_list ?_); (first | ((with_reducible apply wpList_load_cell); (case ho => with_reducible rfl); (case hgd => with_reducible rfl); (case hx => rfl); (case hu => first | exact Try.underlying25 | exact Try.underlying28 | exact Try.underlying3); (case hd => rfl)) | ((with_reducible apply wpList_load_row); (case ho => with_reducible rfl); (case hgd => with_reducible rfl); (case hx => rfl); (case hu => first | exact Try.underlying25 | exact Try.underlying28 | exact Try.underlying3); (case hd => rfl)) | ((with_reducible apply wpList_store_row); (case ho => with_reducible rfl); (case hgd => with_reducible rfl); (case hx => rfl); (case hy => rfl)) | ((with_reducible apply wpList_store_cell); (case ho => with_reducible rfl); (case hgd => with_reducible rfl); (case hx => rfl); (case hy => first | exact ev_const | exact ev_tmp rfl); (case h1 => rfl))); (case hg => exact (by with_reducible repeat (first | assumption | (refine rw_new ?e_; case e_ => first | rfl | (simp; done) | (simp; omega)) | apply rw_self | (apply rw_other; case hn => first | omega | (simp; omega)) | apply rw_alloc | apply rw_drew | apply rw_drewN))); (try case hv => rfl); (try case hi => kernel_rfl); (try case hold => rfl); (try case h1 => kernel_rfl); (try case hlt => rfl); (try case hcs => ((try simp only [List.setIfInBounds_toArray, List.set_cons_succ, List.set_cons_zero]); rfl)))
    refine wp_region_grow [(0, none), (1, none), (2, none), (3, none), (4, none), (5, none), (6, none), (7, none), (10, none), (11, none), (12, none), (13, none), (14, none), (15, none), (16, none), (17, none), (8, some (.blk (fun b => .slice (some ⟨b, 0, none⟩) 6 6) (.cells #[.int .i64 A, .int .i64 x, .int .i64 C, .int .i64 y, .int .i64 E, .int .i64 65536] 3))), (9, some (.val (fun v => v = .int .i64 (A * x + C * y + E * 65536)))), (18, some (.blk (fun b => .slice (some ⟨b, 0, none⟩) 6 6) (.cells #[.int .i64 B, .int .i64 x, .int .i64 D, .int .i64 y, .int .i64 F, .int .i64 65536] 3))), (19, some (.val (fun v => v = .int .i64 (B * x + D * y + F * 65536)))), (20, some (.val (fun v => v = .tuple #[.agg #[.int .i64 (dvX (A * x + C * y + E * 65536) (B * x + D * y + F * 65536)), .int .i64 (dvY (A * x + C * y + E * 65536) (B * x + D * y + F * 65536))], .int .i64 (dvE (A * x + C * y + E * 65536) (B * x + D * y + F * 65536))]))), (21, none), (22, none)] (.s 23 .e (.s 24 .p .done)) ?g1_ ?g2_ ?g3_ ?_
    case g1_ => kernel_rfl
    case g2_ => kernel_rfl
    case g3_ => exact fun _ _ _ _ _ h => h
    (apply wpG_p rfl rfl rfl rfl rfl; (intro w' K hK; (first | go_big_op | go_wp2_with fail); exact hK))
    (apply wpG_l rfl rfl rfl rfl rfl; (intro w' K hC hK; (have hr' := hC.old; simp at hr'); (first | go_big_op | go_wp2_with fail); exact hK); (case he => first | rfl | (simp [Act.put, *]; done)))
    (apply wpG_p rfl rfl rfl rfl rfl; (intro w' K hK; (first | go_big_op | go_wp2_with fail); exact hK))
    (apply wpG_p rfl rfl rfl rfl rfl; (intro w' K hK; (first | go_big_op | go_wp2_with fail); exact hK))
    (apply wpG_l rfl rfl rfl rfl rfl; (intro w' K hC hK; (have hr' := hC.old; simp at hr'); (first | go_big_op | go_wp2_with fail); exact hK); (case he => first | rfl | (simp [Act.put, *]; done)))
    (apply wpG_p rfl rfl rfl rfl rfl; (intro w' K hK; (first | go_big_op | go_wp2_with fail); exact hK))
    (apply wpG_p rfl rfl rfl rfl rfl; (intro w' K hK; (first | go_big_op | go_wp2_with fail); exact hK))
    (apply wpG_l rfl rfl rfl rfl rfl; (intro w' K hC hK; (have hr' := hC.old; simp at hr'); (first | go_big_op | go_wp2_with fail); exact hK); (case he => first | rfl | (simp [Act.put, *]; done)))
    (apply wpG_p rfl rfl rfl rfl rfl; (intro w' K hK; (first | go_big_op | go_wp2_with fail); exact hK))
    (apply wpG_l rfl rfl rfl rfl rfl; (intro w' K hC hK; (have hr' := hC.old; simp at hr'); (first | go_big_op | go_wp2_with fail); exact hK); (case he => first | rfl | (simp [Act.put, *]; done)))
    (apply wpG_p rfl rfl rfl rfl rfl; (intro w' K hK; (first | go_big_op | go_wp2_with fail); exact hK))
    (apply wpG_p rfl rfl rfl rfl rfl; (intro w' K hK; (first | go_big_op | go_wp2_with fail); exact hK))
    (apply wpG_l rfl rfl rfl rfl rfl; (intro w' K hC hK; (have hr' := hC.old; simp at hr'); (first | go_big_op | go_wp2_with fail); exact hK); (case he => first | rfl | (simp [Act.put, *]; done)))
    (apply wpG_p rfl rfl rfl rfl rfl; (intro w' K hK; (first | go_big_op | go_wp2_with fail); exact hK))
    (apply wpG_p rfl rfl rfl rfl rfl; (intro w' K hK; (first | go_big_op | go_wp2_with fail); exact hK))
    (apply wpG_l rfl rfl rfl rfl rfl; (intro w' K hC hK; (have hr' := hC.old; simp at hr'); (first | go_big_op | go_wp2_with fail); exact hK); (case he => first | rfl | (simp [Act.put, *]; done)))
    refine wpG_g (d := 26) rfl rfl rfl rfl (by first | exact ⟨_, 0, rfl⟩ | (fail)) (fun w' K hC hK => ?_) (fun v hv => ?_)
    · (have hr' := hC.old; simp at hr'; (first | go_big_op | go_wp2_with fail); (exact hK _ _ ⟨_, rfl⟩ (Below.alloc (Below.refl _ _) (Nat.le_refl _) _) ⟨_, rfl, Nat.le_refl _, by simp, heap_alloc_new _ _⟩))
    obtain ⟨b8, rfl⟩ := hv
    refine wpG_g (d := 27) rfl rfl rfl rfl (by first | exact ⟨_, 0, rfl⟩ | (exact ⟨_, rfl⟩)) (fun w' K hC hK => ?_) (fun v hv => ?_)
    · (have hr' := hC.old; simp at hr'; (first | go_big_op | go_wp2_with fail); (obtain ⟨b', e3, h3a, h3b, h3⟩ := hC.get 8 rfl (by kernel_rfl); cases e3; refine Calls.mono (mdot6 _ _ _ _ _ _ _ 6 _ h3 (by omega) (by omega) (by omega) (by omega) (by omega) (by omega)) ?_; rintro e w2 ⟨rfl, hb2⟩; exact hK _ _ (by rfl) hb2 trivial))
    obtain rfl := hv
    refine wpG_g (d := 36) rfl rfl rfl rfl (by first | exact ⟨_, 0, rfl⟩ | (fail)) (fun w' K hC hK => ?_) (fun v hv => ?_)
    · (have hr' := hC.old; simp at hr'; (first | go_big_op | go_wp2_with fail); (exact hK _ _ ⟨_, rfl⟩ (Below.alloc (Below.refl _ _) (Nat.le_refl _) _) ⟨_, rfl, Nat.le_refl _, by simp, heap_alloc_new _ _⟩))
    obtain ⟨b18, rfl⟩ := hv
    refine wpG_g (d := 37) rfl rfl rfl rfl (by first | exact ⟨_, 0, rfl⟩ | (exact ⟨_, rfl⟩)) (fun w' K hC hK => ?_) (fun v hv => ?_)
    · (have hr' := hC.old; simp at hr'; (first | go_big_op | go_wp2_with fail); (obtain ⟨b', e3, h3a, h3b, h3⟩ := hC.get 18 rfl (by kernel_rfl); cases e3; refine Calls.mono (mdot6 _ _ _ _ _ _ _ 6 _ h3 (by omega) (by omega) (by omega) (by omega) (by omega) (by omega)) ?_; rintro e w2 ⟨rfl, hb2⟩; exact hK _ _ (by rfl) hb2 trivial))
    obtain rfl := hv
    refine wpG_g (d := 38) rfl rfl rfl rfl (by first | exact ⟨_, 0, rfl⟩ | (exact ⟨_, rfl⟩)) (fun w' K hC hK => ?_) (fun v hv => ?_)
    · (have hr' := hC.old; simp at hr'; (first | go_big_op | go_wp2_with fail); (refine Calls.mono (mdevice_any _ _ _ (by omega) (by omega) (by omega) (by omega)) ?_; rintro e w2 ⟨rfl, hb2⟩; exact hK _ _ (by rfl) hb2 trivial))
    obtain rfl := hv
    (apply wpG_p rfl rfl rfl rfl rfl; (intro w' K hK; (first | go_big_op | go_wp2_with fail); exact hK))
    (apply wpG_p rfl rfl rfl rfl rfl; (intro w' K hK; (first | go_big_op | go_wp2_with fail); exact hK))
    refine wpG_nil (fun wz hB1 hG hD => ?_)
    clear hG hD; have hqz := rw_below (k := w.heap.size + 1) hB1 (by with_reducible repeat (first | assumption | (refine rw_new ?e_; case e_ => first | rfl | (simp; done) | (simp; omega)) | apply rw_self | (apply rw_other; case hn => first | omega | (simp; omega)) | apply rw_alloc | apply rw_drew | apply rw_drewN)); have hBz : Below w.heap.size w wz := below_then (w := w) (by with_reducible repeat (first | exact Below.refl _ _ | assumption | ((first | refine Below.alloc ?_ ?b_ _ | refine bw_set ?_ ?b_ | refine Below.setCell ?_ ?b_ _); case b_ => first | omega | (simp; done) | (simp; omega)) | refine Below.drew ?_ | refine below_drewN ?_ _)) (by first | omega | (simp; omega)) hB1
    (try clear hD)
    refine wpOrd_e1 rfl rfl (fun K hK => ?_)
    refine wp_store_row 28 _ _ rfl (w.heap.size + 1) _ rfl rfl _ _ hqz (by kernel_rfl) rfl (by kernel_rfl) ?_; refine hK _ _ trivial ?_; clear hK K
    (apply wpOrd_p2 rfl rfl rfl rfl rfl; (intro w' K hK; (first | go_big_move | go_big_op | go_wp2_with fail); exact hK))
    refine wpOrd_nil ?_
    skip
    go_wp2_with ((with_reducible refine rw_list ?_); (first | ((with_reducible apply wpList_load_cell); (case ho => with_reducible rfl); (case hgd => with_reducible rfl); (case hx => rfl); (case hu => first | exact Try.underlying25 | exact Try.underlying28 | exact Try.underlying3); (case hd => rfl)) | ((with_reducible apply wpList_load_row); (case ho => with_reducible rfl); (case hgd => with_reducible rfl); (case hx => rfl); (case hu => first | exact Try.underlying25 | exact Try.underlying28 | exact Try.underlying3); (case hd => rfl)) | ((with_reducible apply wpList_store_row); (case ho => with_reducible rfl); (case hgd => with_reducible rfl); (case hx => rfl); (case hy => rfl)) | ((with_reducible apply wpList_store_cell); (case ho => with_reducible rfl); (case hgd => with_reducible rfl); (case hx => rfl); (case hy => first | exact ev_const | exact ev_tmp rfl); (case h1 => rfl))); (case hg => exact (by with_reducible repeat (first | assumption | (refine rw_new ?e_; case e_ => first | rfl | (simp; done) | (simp; omega)) | apply rw_self | (apply rw_other; case hn => first | omega | (simp; omega)) | apply rw_alloc | apply rw_drew | apply rw_drewN))); (try case hv => rfl); (try case hi => kernel_rfl); (try case hold => rfl); (try case h1 => kernel_rfl); (try case hlt => rfl); (try case hcs => ((try simp only [List.setIfInBounds_toArray, List.set_cons_succ, List.set_cons_zero]); rfl)))
    exact bodyPost_ret (v := _) (results_cell_tmp Try.results21 _ _ _ _ _ _ _ (by rfl) (by with_reducible repeat (first | assumption | (refine rw_new ?e_; case e_ => first | rfl | (simp; done) | (simp; omega)) | apply rw_self | (apply rw_other; case hn => first | omega | (simp; omega)) | apply rw_alloc | apply rw_drew | apply rw_drewN)) Try.underlying28 rfl (by kernel_rfl)) rfl ⟨rfl, (by with_reducible repeat (first | exact Below.refl _ _ | assumption | ((first | refine Below.alloc ?_ ?b_ _ | refine bw_set ?_ ?b_ | refine Below.setCell ?_ ?b_ _); case b_ => first | omega | (simp; done) | (simp; omega)) | refine Below.drew ?_ | refine below_drewN ?_ _))⟩
  · rw [show apX A B C D E F x y = 0 from if_neg hv, show apY A B C D E F x y = 0 from if_neg hv, show apE A B C D E F x y = vldE A B C D E F [x, y] from if_neg hv]
    have hn : (vldE A B C D E F [x, y] != 0) = true := by simpa using hv
    generalize hv2 : vldE A B C D E F [x, y] = ve at *
    have hv2 := Lib.hid hv2
    go_enter Try.func21, Try.ntmps21
    go_wp2_with ((with_reducible refine rw_list ?_); (first | ((with_reducible apply wpList_load_cell); (case ho => with_reducible rfl); (case hgd => with_reducible rfl); (case hx => rfl); (case hu => first | exact Try.underlying25 | exact Try.underlying28 | exact Try.underlying3); (case hd => rfl)) | ((with_reducible apply wpList_load_row); (case ho => with_reducible rfl); (case hgd => with_reducible rfl); (case hx => rfl); (case hu => first | exact Try.underlying25 | exact Try.underlying28 | exact Try.underlying3); (case hd => rfl)) | ((with_reducible apply wpList_store_row); (case ho => with_reducible rfl); (case hgd => with_reducible rfl); (case hx => rfl); (case hy => rfl)) | ((with_reducible apply wpList_store_cell); (case ho => with_reducible rfl); (case hgd => with_reducible rfl); (case hx => rfl); (case hy => first | exact ev_const | exact ev_tmp rfl); (case h1 => rfl))); (case hg => exact (by with_reducible repeat (first | assumption | (refine rw_new ?e_; case e_ => first | rfl | (simp; done) | (simp; omega)) | apply rw_self | (apply rw_other; case hn => first | omega | (simp; omega)) | apply rw_alloc | apply rw_drew | apply rw_drewN))); (try case hv => rfl); (try case hi => kernel_rfl); (try case hold => rfl); (try case h1 => kernel_rfl); (try case hlt => rfl); (try case hcs => ((try simp only [List.setIfInBounds_toArray, List.set_cons_succ, List.set_cons_zero]); rfl)))
    refine (mvalid_any A B C D E F [x, y] (by simp) _ 2 _ (rw_new (by simp))).mono ?_
    rintro e w1 ⟨rfl, hb⟩
    have hs_w1 := hb.size
    (try simp at hs_w1)
    have hB_w1 : Below w.heap.size w w1 := below_then (w := w) (by with_reducible repeat (first | exact Below.refl _ _ | assumption | ((first | refine Below.alloc ?_ ?b_ _ | refine bw_set ?_ ?b_ | refine Below.setCell ?_ ?b_ _); case b_ => first | omega | (simp; done) | (simp; omega)) | refine Below.drew ?_ | refine below_drewN ?_ _)) (by first | omega | (simp; done) | (simp; omega) | (have hq_ := hb.size; omega)) hb
    have hx_ := rw_below (k := w.heap.size) hb (by with_reducible repeat (first | assumption | (refine rw_new ?e_; case e_ => first | rfl | (simp; done) | (simp; omega)) | apply rw_self | (apply rw_other; case hn => first | omega | (simp; omega)) | apply rw_alloc | apply rw_drew | apply rw_drewN))
    (try clear hm)
    (try clear hmc0 hmc1 hmc2 hmc3 hmc4 hmc5)
    have hm := hx_
    clear hx_
    obtain ⟨hmc0, hmc1, hmc2, hmc3, hmc4, hmc5⟩ := cel6 hm
    have hx_ := rw_below (k := w.heap.size + 1) hb (by with_reducible repeat (first | assumption | (refine rw_new ?e_; case e_ => first | rfl | (simp; done) | (simp; omega)) | apply rw_self | (apply rw_other; case hn => first | omega | (simp; omega)) | apply rw_alloc | apply rw_drew | apply rw_drewN))
    (try clear hq)
    have hq := hx_
    clear hx_
    clear hb
    rw [hv2.out]
    go_wp2_with ((with_reducible refine rw_list ?_); (first | ((with_reducible apply wpList_load_cell); (case ho => with_reducible rfl); (case hgd => with_reducible rfl); (case hx => rfl); (case hu => first | exact Try.underlying25 | exact Try.underlying28 | exact Try.underlying3); (case hd => rfl)) | ((with_reducible apply wpList_load_row); (case ho => with_reducible rfl); (case hgd => with_reducible rfl); (case hx => rfl); (case hu => first | exact Try.underlying25 | exact Try.underlying28 | exact Try.underlying3); (case hd => rfl)) | ((with_reducible apply wpList_store_row); (case ho => with_reducible rfl); (case hgd => with_reducible rfl); (case hx => rfl); (case hy => rfl)) | ((with_reducible apply wpList_store_cell); (case ho => with_reducible rfl); (case hgd => with_reducible rfl); (case hx => rfl); (case hy => first | exact ev_const | exact ev_tmp rfl); (case h1 => rfl))); (case hg => exact (by with_reducible repeat (first | assumption | (refine rw_new ?e_; case e_ => first | rfl | (simp; done) | (simp; omega)) | apply rw_self | (apply rw_other; case hn => first | omega | (simp; omega)) | apply rw_alloc | apply rw_drew | apply rw_drewN))); (try case hv => rfl); (try case hi => kernel_rfl); (try case hold => rfl); (try case h1 => kernel_rfl); (try case hlt => rfl); (try case hcs => ((try simp only [List.setIfInBounds_toArray, List.set_cons_succ, List.set_cons_zero]); rfl)))
    exact bodyPost_ret (v := _) (results_cell_tmp Try.results21 _ _ _ _ _ _ _ (by rfl) (by with_reducible repeat (first | assumption | (refine rw_new ?e_; case e_ => first | rfl | (simp; done) | (simp; omega)) | apply rw_self | (apply rw_other; case hn => first | omega | (simp; omega)) | apply rw_alloc | apply rw_drew | apply rw_drewN)) Try.underlying28 rfl (by kernel_rfl)) rfl ⟨rfl, (by with_reducible repeat (first | exact Below.refl _ _ | assumption | ((first | refine Below.alloc ?_ ?b_ _ | refine bw_set ?_ ?b_ | refine Below.setCell ?_ ?b_ _); case b_ => first | omega | (simp; done) | (simp; omega)) | refine Below.drew ?_ | refine below_drewN ?_ _))⟩
def veE (A B C D E F x y : Int) : Int := if vldE A B C D E F [x, y] = 0 then dvE (A * x + C * y) (B * x + D * y) else vldE A B C D E F [x, y]
def veX (A B C D E F x y : Int) : Int := if vldE A B C D E F [x, y] = 0 then dvX (A * x + C * y) (B * x + D * y) else 0
def veY (A B C D E F x y : Int) : Int := if vldE A B C D E F [x, y] = 0 then dvY (A * x + C * y) (B * x + D * y) else 0
theorem mve_any (A B C D E F x y : Int) (w : World) :
    Calls Try.prog 30 #[.agg #[.int .i64 A, .int .i64 B, .int .i64 C, .int .i64 D, .int .i64 E, .int .i64 F], .int .i64 x, .int .i64 y] w fun e w' => e = .returned (.tuple #[.agg #[.int .i64 (veX A B C D E F x y), .int .i64 (veY A B C D E F x y)], .int .i64 (veE A B C D E F x y)]) ∧ Below w.heap.size w w' := by
  by_cases hv : vldE A B C D E F [x, y] = 0
  · rw [show veX A B C D E F x y = dvX (A * x + C * y) (B * x + D * y) from if_pos hv, show veY A B C D E F x y = dvY (A * x + C * y) (B * x + D * y) from if_pos hv, show veE A B C D E F x y = dvE (A * x + C * y) (B * x + D * y) from if_pos hv]
    obtain ⟨⟨a1, a2⟩, ⟨b1, b2⟩, ⟨c1, c2⟩, ⟨d1, d2⟩, ⟨e1, e2⟩, f1, f2, ⟨x1, x2⟩, y1, y2⟩ := vld_bd hv
    obtain ⟨p1, p2⟩ := mul_bd a1 a2 x1 x2
    obtain ⟨p3, p4⟩ := mul_bd c1 c2 y1 y2
    obtain ⟨s1, s2⟩ := mul_bd b1 b2 x1 x2
    obtain ⟨s3, s4⟩ := mul_bd d1 d2 y1 y2
    simp only [Int.reduceMul, Int.reduceNeg] at p1 p2 p3 p4 s1 s2 s3 s4
    have HV := Lib.hid hv
    clear hv
    go_enter Try.func30, Try.ntmps30
    go_wp2_with ((with_reducible refine rw_list ?_); (first | ((with_reducible apply wpList_load_cell); (case ho => with_reducible rfl); (case hgd => with_reducible rfl); (case hx => rfl); (case hu => first | exact Try.underlying25 | exact Try.underlying28 | exact Try.underlying3); (case hd => rfl)) | ((with_reducible apply wpList_load_row); (case ho => with_reducible rfl); (case hgd => with_reducible rfl); (case hx => rfl); (case hu => first | exact Try.underlying25 | exact Try.underlying28 | exact Try.underlying3); (case hd => rfl)) | ((with_reducible apply wpList_store_row); (case ho => with_reducible rfl); (case hgd => with_reducible rfl); (case hx => rfl); (case hy => rfl)) | ((with_reducible apply wpList_store_cell); (case ho => with_reducible rfl); (case hgd => with_reducible rfl); (case hx => rfl); (case hy => first | exact ev_const | exact ev_tmp rfl); (case h1 => rfl))); (case hg => exact (by with_reducible repeat (first | assumption | (refine rw_new ?e_; case e_ => first | rfl | (simp; done) | (simp; omega)) | apply rw_self | (apply rw_other; case hn => first | omega | (simp; omega)) | apply rw_alloc | apply rw_drew | apply rw_drewN))); (try case hv => rfl); (try case hi => kernel_rfl); (try case hold => rfl); (try case h1 => kernel_rfl); (try case hlt => rfl); (try case hcs => ((try simp only [List.setIfInBounds_toArray, List.set_cons_succ, List.set_cons_zero]); rfl)))
    refine (mvalid_any A B C D E F [x, y] (by simp) _ 2 _ (rw_new (by simp))).mono ?_
    rintro e w1 ⟨rfl, hb⟩
    have hs_w1 := hb.size
    (try simp at hs_w1)
    have hB_w1 : Below w.heap.size w w1 := below_then (w := w) (by with_reducible repeat (first | exact Below.refl _ _ | assumption | ((first | refine Below.alloc ?_ ?b_ _ | refine bw_set ?_ ?b_ | refine Below.setCell ?_ ?b_ _); case b_ => first | omega | (simp; done) | (simp; omega)) | refine Below.drew ?_ | refine below_drewN ?_ _)) (by first | omega | (simp; done) | (simp; omega) | (have hq_ := hb.size; omega)) hb
    have hx_ := rw_below (k := w.heap.size) hb (by with_reducible repeat (first | assumption | (refine rw_new ?e_; case e_ => first | rfl | (simp; done) | (simp; omega)) | apply rw_self | (apply rw_other; case hn => first | omega | (simp; omega)) | apply rw_alloc | apply rw_drew | apply rw_drewN))
    (try clear hm)
    (try clear hmc0 hmc1 hmc2 hmc3 hmc4 hmc5)
    have hm := hx_
    clear hx_
    obtain ⟨hmc0, hmc1, hmc2, hmc3, hmc4, hmc5⟩ := cel6 hm
    have hx_ := rw_below (k := w.heap.size + 1) hb (by with_reducible repeat (first | assumption | (refine rw_new ?e_; case e_ => first | rfl | (simp; done) | (simp; omega)) | apply rw_self | (apply rw_other; case hn => first | omega | (simp; omega)) | apply rw_alloc | apply rw_drew | apply rw_drewN))
    (try clear hq)
    have hq := hx_
    clear hx_
    clear hb
    rw [HV.out]
    have hl := rw_lt hm
    go_wp2_with ((with_reducible refine rw_list ?_); (first | ((with_reducible apply wpList_load_cell); (case ho => with_reducible rfl); (case hgd => with_reducible rfl); (case hx => rfl); (case hu => first | exact Try.underlying25 | exact Try.underlying28 | exact Try.underlying3); (case hd => rfl)) | ((with_reducible apply wpList_load_row); (case ho => with_reducible rfl); (case hgd => with_reducible rfl); (case hx => rfl); (case hu => first | exact Try.underlying25 | exact Try.underlying28 | exact Try.underlying3); (case hd => rfl)) | ((with_reducible apply wpList_store_row); (case ho => with_reducible rfl); (case hgd => with_reducible rfl); (case hx => rfl); (case hy => rfl)) | ((with_reducible apply wpList_store_cell); (case ho => with_reducible rfl); (case hgd => with_reducible rfl); (case hx => rfl); (case hy => first | exact ev_const | exact ev_tmp rfl); (case h1 => rfl))); (case hg => exact (by with_reducible repeat (first | assumption | (refine rw_new ?e_; case e_ => first | rfl | (simp; done) | (simp; omega)) | apply rw_self | (apply rw_other; case hn => first | omega | (simp; omega)) | apply rw_alloc | apply rw_drew | apply rw_drewN))); (try case hv => rfl); (try case hi => kernel_rfl); (try case hold => rfl); (try case h1 => kernel_rfl); (try case hlt => rfl); (try case hcs => ((try simp only [List.setIfInBounds_toArray, List.set_cons_succ, List.set_cons_zero]); rfl)))
    refine wp_region_grow [(0, none), (1, none), (2, none), (3, none), (4, none), (5, none), (8, none), (9, none), (10, none), (11, none), (12, none), (13, none), (6, some (.blk (fun b => .slice (some ⟨b, 0, none⟩) 4 4) (.cells #[.int .i64 A, .int .i64 x, .int .i64 C, .int .i64 y] 3))), (7, some (.val (fun v => v = .int .i64 (A * x + C * y)))), (14, some (.blk (fun b => .slice (some ⟨b, 0, none⟩) 4 4) (.cells #[.int .i64 B, .int .i64 x, .int .i64 D, .int .i64 y] 3))), (15, some (.val (fun v => v = .int .i64 (B * x + D * y)))), (16, some (.val (fun v => v = .tuple #[.agg #[.int .i64 (dvX (A * x + C * y) (B * x + D * y)), .int .i64 (dvY (A * x + C * y) (B * x + D * y))], .int .i64 (dvE (A * x + C * y) (B * x + D * y))]))), (17, none), (18, none)] (.s 19 .e (.s 20 .p .done)) ?g1_ ?g2_ ?g3_ ?_
    case g1_ => kernel_rfl
    case g2_ => kernel_rfl
    case g3_ => exact fun _ _ _ _ _ h => h
    (apply wpG_p rfl rfl rfl rfl rfl; (intro w' K hK; (first | go_big_op | go_wp2_with fail); exact hK))
    (apply wpG_l rfl rfl rfl rfl rfl; (intro w' K hC hK; (have hr' := hC.old; simp at hr'); (first | go_big_op | go_wp2_with fail); exact hK); (case he => first | rfl | (simp [Act.put, *]; done)))
    (apply wpG_p rfl rfl rfl rfl rfl; (intro w' K hK; (first | go_big_op | go_wp2_with fail); exact hK))
    (apply wpG_p rfl rfl rfl rfl rfl; (intro w' K hK; (first | go_big_op | go_wp2_with fail); exact hK))
    (apply wpG_l rfl rfl rfl rfl rfl; (intro w' K hC hK; (have hr' := hC.old; simp at hr'); (first | go_big_op | go_wp2_with fail); exact hK); (case he => first | rfl | (simp [Act.put, *]; done)))
    (apply wpG_p rfl rfl rfl rfl rfl; (intro w' K hK; (first | go_big_op | go_wp2_with fail); exact hK))
    (apply wpG_p rfl rfl rfl rfl rfl; (intro w' K hK; (first | go_big_op | go_wp2_with fail); exact hK))
    (apply wpG_l rfl rfl rfl rfl rfl; (intro w' K hC hK; (have hr' := hC.old; simp at hr'); (first | go_big_op | go_wp2_with fail); exact hK); (case he => first | rfl | (simp [Act.put, *]; done)))
    (apply wpG_p rfl rfl rfl rfl rfl; (intro w' K hK; (first | go_big_op | go_wp2_with fail); exact hK))
    (apply wpG_p rfl rfl rfl rfl rfl; (intro w' K hK; (first | go_big_op | go_wp2_with fail); exact hK))
    (apply wpG_l rfl rfl rfl rfl rfl; (intro w' K hC hK; (have hr' := hC.old; simp at hr'); (first | go_big_op | go_wp2_with fail); exact hK); (case he => first | rfl | (simp [Act.put, *]; done)))
    (apply wpG_p rfl rfl rfl rfl rfl; (intro w' K hK; (first | go_big_op | go_wp2_with fail); exact hK))
    refine wpG_g (d := 24) rfl rfl rfl rfl (by first | exact ⟨_, 0, rfl⟩ | (fail)) (fun w' K hC hK => ?_) (fun v hv => ?_)
    · (have hr' := hC.old; simp at hr'; (first | go_big_op | go_wp2_with fail); (exact hK _ _ ⟨_, rfl⟩ (Below.alloc (Below.refl _ _) (Nat.le_refl _) _) ⟨_, rfl, Nat.le_refl _, by simp, heap_alloc_new _ _⟩))
    obtain ⟨b6, rfl⟩ := hv
    refine wpG_g (d := 25) rfl rfl rfl rfl (by first | exact ⟨_, 0, rfl⟩ | (exact ⟨_, rfl⟩)) (fun w' K hC hK => ?_) (fun v hv => ?_)
    · (have hr' := hC.old; simp at hr'; (first | go_big_op | go_wp2_with fail); (obtain ⟨b', e3, h3a, h3b, h3⟩ := hC.get 6 rfl (by kernel_rfl); cases e3; refine Calls.mono (mdot4 _ _ _ _ _ 4 _ h3 (by omega) (by omega) (by omega) (by omega)) ?_; rintro e w2 ⟨rfl, hb2⟩; exact hK _ _ (by rfl) hb2 trivial))
    obtain rfl := hv
    refine wpG_g (d := 32) rfl rfl rfl rfl (by first | exact ⟨_, 0, rfl⟩ | (fail)) (fun w' K hC hK => ?_) (fun v hv => ?_)
    · (have hr' := hC.old; simp at hr'; (first | go_big_op | go_wp2_with fail); (exact hK _ _ ⟨_, rfl⟩ (Below.alloc (Below.refl _ _) (Nat.le_refl _) _) ⟨_, rfl, Nat.le_refl _, by simp, heap_alloc_new _ _⟩))
    obtain ⟨b14, rfl⟩ := hv
    refine wpG_g (d := 33) rfl rfl rfl rfl (by first | exact ⟨_, 0, rfl⟩ | (exact ⟨_, rfl⟩)) (fun w' K hC hK => ?_) (fun v hv => ?_)
    · (have hr' := hC.old; simp at hr'; (first | go_big_op | go_wp2_with fail); (obtain ⟨b', e3, h3a, h3b, h3⟩ := hC.get 14 rfl (by kernel_rfl); cases e3; refine Calls.mono (mdot4 _ _ _ _ _ 4 _ h3 (by omega) (by omega) (by omega) (by omega)) ?_; rintro e w2 ⟨rfl, hb2⟩; exact hK _ _ (by rfl) hb2 trivial))
    obtain rfl := hv
    refine wpG_g (d := 34) rfl rfl rfl rfl (by first | exact ⟨_, 0, rfl⟩ | (exact ⟨_, rfl⟩)) (fun w' K hC hK => ?_) (fun v hv => ?_)
    · (have hr' := hC.old; simp at hr'; (first | go_big_op | go_wp2_with fail); (refine Calls.mono (mdevice_any _ _ _ (by omega) (by omega) (by omega) (by omega)) ?_; rintro e w2 ⟨rfl, hb2⟩; exact hK _ _ (by rfl) hb2 trivial))
    obtain rfl := hv
    (apply wpG_p rfl rfl rfl rfl rfl; (intro w' K hK; (first | go_big_op | go_wp2_with fail); exact hK))
    (apply wpG_p rfl rfl rfl rfl rfl; (intro w' K hK; (first | go_big_op | go_wp2_with fail); exact hK))
    refine wpG_nil (fun wz hB1 hG hD => ?_)
    clear hG hD; have hqz := rw_below (k := w.heap.size + 1) hB1 (by with_reducible repeat (first | assumption | (refine rw_new ?e_; case e_ => first | rfl | (simp; done) | (simp; omega)) | apply rw_self | (apply rw_other; case hn => first | omega | (simp; omega)) | apply rw_alloc | apply rw_drew | apply rw_drewN)); have hBz : Below w.heap.size w wz := below_then (w := w) (by with_reducible repeat (first | exact Below.refl _ _ | assumption | ((first | refine Below.alloc ?_ ?b_ _ | refine bw_set ?_ ?b_ | refine Below.setCell ?_ ?b_ _); case b_ => first | omega | (simp; done) | (simp; omega)) | refine Below.drew ?_ | refine below_drewN ?_ _)) (by first | omega | (simp; omega)) hB1
    (try clear hD)
    refine wpOrd_e1 rfl rfl (fun K hK => ?_)
    refine wp_store_row 28 _ _ rfl (w.heap.size + 1) _ rfl rfl _ _ hqz (by kernel_rfl) rfl (by kernel_rfl) ?_; refine hK _ _ trivial ?_; clear hK K
    (apply wpOrd_p2 rfl rfl rfl rfl rfl; (intro w' K hK; (first | go_big_move | go_big_op | go_wp2_with fail); exact hK))
    refine wpOrd_nil ?_
    skip
    go_wp2_with ((with_reducible refine rw_list ?_); (first | ((with_reducible apply wpList_load_cell); (case ho => with_reducible rfl); (case hgd => with_reducible rfl); (case hx => rfl); (case hu => first | exact Try.underlying25 | exact Try.underlying28 | exact Try.underlying3); (case hd => rfl)) | ((with_reducible apply wpList_load_row); (case ho => with_reducible rfl); (case hgd => with_reducible rfl); (case hx => rfl); (case hu => first | exact Try.underlying25 | exact Try.underlying28 | exact Try.underlying3); (case hd => rfl)) | ((with_reducible apply wpList_store_row); (case ho => with_reducible rfl); (case hgd => with_reducible rfl); (case hx => rfl); (case hy => rfl)) | ((with_reducible apply wpList_store_cell); (case ho => with_reducible rfl); (case hgd => with_reducible rfl); (case hx => rfl); (case hy => first | exact ev_const | exact ev_tmp rfl); (case h1 => rfl))); (case hg => exact (by with_reducible repeat (first | assumption | (refine rw_new ?e_; case e_ => first | rfl | (simp; done) | (simp; omega)) | apply rw_self | (apply rw_other; case hn => first | omega | (simp; omega)) | apply rw_alloc | apply rw_drew | apply rw_drewN))); (try case hv => rfl); (try case hi => kernel_rfl); (try case hold => rfl); (try case h1 => kernel_rfl); (try case hlt => rfl); (try case hcs => ((try simp only [List.setIfInBounds_toArray, List.set_cons_succ, List.set_cons_zero]); rfl)))
    exact bodyPost_ret (v := _) (results_cell_tmp Try.results30 _ _ _ _ _ _ _ (by rfl) (by with_reducible repeat (first | assumption | (refine rw_new ?e_; case e_ => first | rfl | (simp; done) | (simp; omega)) | apply rw_self | (apply rw_other; case hn => first | omega | (simp; omega)) | apply rw_alloc | apply rw_drew | apply rw_drewN)) Try.underlying28 rfl (by kernel_rfl)) rfl ⟨rfl, (by with_reducible repeat (first | exact Below.refl _ _ | assumption | ((first | refine Below.alloc ?_ ?b_ _ | refine bw_set ?_ ?b_ | refine Below.setCell ?_ ?b_ _); case b_ => first | omega | (simp; done) | (simp; omega)) | refine Below.drew ?_ | refine below_drewN ?_ _))⟩
  · rw [show veX A B C D E F x y = 0 from if_neg hv, show veY A B C D E F x y = 0 from if_neg hv, show veE A B C D E F x y = vldE A B C D E F [x, y] from if_neg hv]
    have hn : (vldE A B C D E F [x, y] != 0) = true := by simpa using hv
    generalize hv2 : vldE A B C D E F [x, y] = ve at *
    have hv2 := Lib.hid hv2
    go_enter Try.func30, Try.ntmps30
    go_wp2_with ((with_reducible refine rw_list ?_); (first | ((with_reducible apply wpList_load_cell); (case ho => with_reducible rfl); (case hgd => with_reducible rfl); (case hx => rfl); (case hu => first | exact Try.underlying25 | exact Try.underlying28 | exact Try.underlying3); (case hd => rfl)) | ((with_reducible apply wpList_load_row); (case ho => with_reducible rfl); (case hgd => with_reducible rfl); (case hx => rfl); (case hu => first | exact Try.underlying25 | exact Try.underlying28 | exact Try.underlying3); (case hd => rfl)) | ((with_reducible apply wpList_store_row); (case ho => with_reducible rfl); (case hgd => with_reducible rfl); (case hx => rfl); (case hy => rfl)) | ((with_reducible apply wpList_store_cell); (case ho => with_reducible rfl); (case hgd => with_reducible rfl); (case hx => rfl); (case hy => first | exact ev_const | exact ev_tmp rfl); (case h1 => rfl))); (case hg => exact (by with_reducible repeat (first | assumption | (refine rw_new ?e_; case e_ => first | rfl | (simp; done) | (simp; omega)) | apply rw_self | (apply rw_other; case hn => first | omega | (simp; omega)) | apply rw_alloc | apply rw_drew | apply rw_drewN))); (try case hv => rfl); (try case hi => kernel_rfl); (try case hold => rfl); (try case h1 => kernel_rfl); (try case hlt => rfl); (try case hcs => ((try simp only [List.setIfInBounds_toArray, List.set_cons_succ, List.set_cons_zero]); rfl)))
    refine (mvalid_any A B C D E F [x, y] (by simp) _ 2 _ (rw_new (by simp))).mono ?_
    rintro e w1 ⟨rfl, hb⟩
    have hs_w1 := hb.size
    (try simp at hs_w1)
    have hB_w1 : Below w.heap.size w w1 := below_then (w := w) (by with_reducible repeat (first | exact Below.refl _ _ | assumption | ((first | refine Below.alloc ?_ ?b_ _ | refine bw_set ?_ ?b_ | refine Below.setCell ?_ ?b_ _); case b_ => first | omega | (simp; done) | (simp; omega)) | refine Below.drew ?_ | refine below_drewN ?_ _)) (by first | omega | (simp; done) | (simp; omega) | (have hq_ := hb.size; omega)) hb
    have hx_ := rw_below (k := w.heap.size) hb (by with_reducible repeat (first | assumption | (refine rw_new ?e_; case e_ => first | rfl | (simp; done) | (simp; omega)) | apply rw_self | (apply rw_other; case hn => first | omega | (simp; omega)) | apply rw_alloc | apply rw_drew | apply rw_drewN))
    (try clear hm)
    (try clear hmc0 hmc1 hmc2 hmc3 hmc4 hmc5)
    have hm := hx_
    clear hx_
    obtain ⟨hmc0, hmc1, hmc2, hmc3, hmc4, hmc5⟩ := cel6 hm
    have hx_ := rw_below (k := w.heap.size + 1) hb (by with_reducible repeat (first | assumption | (refine rw_new ?e_; case e_ => first | rfl | (simp; done) | (simp; omega)) | apply rw_self | (apply rw_other; case hn => first | omega | (simp; omega)) | apply rw_alloc | apply rw_drew | apply rw_drewN))
    (try clear hq)
    have hq := hx_
    clear hx_
    clear hb
    rw [hv2.out]
    go_wp2_with ((with_reducible refine rw_list ?_); (first | ((with_reducible apply wpList_load_cell); (case ho => with_reducible rfl); (case hgd => with_reducible rfl); (case hx => rfl); (case hu => first | exact Try.underlying25 | exact Try.underlying28 | exact Try.underlying3); (case hd => rfl)) | ((with_reducible apply wpList_load_row); (case ho => with_reducible rfl); (case hgd => with_reducible rfl); (case hx => rfl); (case hu => first | exact Try.underlying25 | exact Try.underlying28 | exact Try.underlying3); (case hd => rfl)) | ((with_reducible apply wpList_store_row); (case ho => with_reducible rfl); (case hgd => with_reducible rfl); (case hx => rfl); (case hy => rfl)) | ((with_reducible apply wpList_store_cell); (case ho => with_reducible rfl); (case hgd => with_reducible rfl); (case hx => rfl); (case hy => first | exact ev_const | exact ev_tmp rfl); (case h1 => rfl))); (case hg => exact (by with_reducible repeat (first | assumption | (refine rw_new ?e_; case e_ => first | rfl | (simp; done) | (simp; omega)) | apply rw_self | (apply rw_other; case hn => first | omega | (simp; omega)) | apply rw_alloc | apply rw_drew | apply rw_drewN))); (try case hv => rfl); (try case hi => kernel_rfl); (try case hold => rfl); (try case h1 => kernel_rfl); (try case hlt => rfl); (try case hcs => ((try simp only [List.setIfInBounds_toArray, List.set_cons_succ, List.set_cons_zero]); rfl)))
    exact bodyPost_ret (v := _) (results_cell_tmp Try.results30 _ _ _ _ _ _ _ (by rfl) (by with_reducible repeat (first | assumption | (refine rw_new ?e_; case e_ => first | rfl | (simp; done) | (simp; omega)) | apply rw_self | (apply rw_other; case hn => first | omega | (simp; omega)) | apply rw_alloc | apply rw_drew | apply rw_drewN)) Try.underlying28 rfl (by kernel_rfl)) rfl ⟨rfl, (by with_reducible repeat (first | exact Below.refl _ _ | assumption | ((first | refine Below.alloc ?_ ?b_ _ | refine bw_set ?_ ?b_ | refine Below.setCell ?_ ?b_ _); case b_ => first | omega | (simp; done) | (simp; omega)) | refine Below.drew ?_ | refine below_drewN ?_ _))⟩
end Go.Proofs.Ytpgaibkjokoanaa.T3
