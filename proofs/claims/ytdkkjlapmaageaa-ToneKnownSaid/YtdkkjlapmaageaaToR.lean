/- chapter 27: a draft makes a valid tile. -/
import Derived.Test.YtdkkjlapmaageaaToQ
import Derived.Test.YtdkkjlapmaageaaDraF
import Derived.Deep.CutRange
import Derived.WalkKit
import Derived.Lib.Hide
import Derived.Deep.QuietTactic
import Derived.BigQuiet
import Derived.Lib.QuietBelow
import Derived.Deep.RegionHeld3
import Derived.WalkLawsBesides
import Derived.WalkSpells
import Derived.Outline
import Derived.Deep.DeepFit
import Derived.Maps.AppendAt
import Derived.Deep.AppendLies

namespace Go.Proofs.Ytdkkjlapmaageaa.T3
set_option linter.unusedSimpArgs false
set_option linter.unusedVariables false
open Go.RowKit Go.Sort Go.Lib Go.Shelf
set_option maxHeartbeats 1000000
set_option maxRecDepth 100000

theorem draft_any (K Wd Hd : Int) (x : Option Addr) (len cap : Nat) (w : World) (hK : 0 ≤ K ∧ K ≤ 255) (hWd : 0 ≤ Wd ∧ Wd ≤ 255) (hHd : 0 ≤ Hd ∧ Hd ≤ 255) (hx : Octets w x len) (hlen : len ≤ 9223372036854775807) :
    Calls Try.prog 9 #[.agg #[.int .u8 K, .int .u8 Wd, .int .u8 Hd, .slice x len cap]] w fun e w' => (∃ T : ByteArray, okT (1 + Wd % 16) (1 + Hd % 16) T ∧ e = .returned (.agg #[.int .i64 (1 + Wd % 16), .int .i64 (1 + Hd % 16), .string T])) ∧ RowKit.Below w.heap.size w w' := by
  have hW1 : 1 ≤ 1 + Wd % 16 ∧ 1 + Wd % 16 ≤ 16 := by omega
  have hH1 : 1 ≤ 1 + Hd % 16 ∧ 1 + Hd % 16 ≤ 16 := by omega
  obtain ⟨hK1, hK2⟩ := hK
  obtain ⟨hWd1, hWd2⟩ := hWd
  obtain ⟨hHd1, hHd2⟩ := hHd
  obtain ⟨W, hW⟩ : ∃ W, 1 + Wd % 16 = W := ⟨_, rfl⟩
  obtain ⟨H, hH⟩ : ∃ H, 1 + Hd % 16 = H := ⟨_, rfl⟩
  obtain ⟨k, hk⟩ : ∃ k, K % 4 = k := ⟨_, rfl⟩
  have hk2 : 0 ≤ k ∧ k ≤ 3 := by omega
  rw [hW] at hW1 ⊢
  rw [hH] at hH1 ⊢
  go_enter Try.func9, Try.ntmps9
  go_wp2_with fail
  obtain ⟨wy, hwy⟩ : ∃ wy, wy = (w.alloc (.cells #[.int .u8 K, .int .u8 Wd, .int .u8 Hd, .slice x len cap] 24 (0, 0))).alloc (.cells #[.int .i64 0, .int .i64 0, .string ⟨#[]⟩] 26 (0, 0)) := ⟨_, rfl⟩
  have hd : wy.heap[w.heap.size]? = some (.cells #[.int .u8 K, .int .u8 Wd, .int .u8 Hd, .slice x len cap] 24 (0, 0)) := by rw [hwy]; exact rw_alloc (rw_new rfl)
  have hz : wy.heap[w.heap.size + 1]? = some (.cells #[.int .i64 0, .int .i64 0, .string ⟨#[]⟩] 26 (0, 0)) := by rw [hwy]; exact rw_new (by simp)
  have hB_wy : RowKit.Below w.heap.size w wy := by rw [hwy]; exact (by repeat (first | with_reducible exact Below.refl _ _ | with_reducible assumption | ((with_reducible refine Below.alloc ?_ ?hb_ _); (case hb_ => first | omega | (simp; done) | (simp; omega))) | ((with_reducible refine Below.setCell ?_ ?hb_ _); (case hb_ => first | omega | (simp; done) | (simp; omega))) | with_reducible refine Below.drew ?_ | with_reducible refine below_drewN ?_ _))
  rw [← hwy]
  clear hwy
  obtain ⟨d0, d1, d2, d3⟩ := cel4 hd
  have hl0 := rw_lt hd
  have hl1 := rw_lt hz
  refine wp_region_ord (.s 0 .p (.s 1 .l (.s 2 .p (.s 3 .p (.s 4 .p (.s 5 .p (.s 6 .l (.s 7 .p (.s 8 .p (.s 9 .p (.s 10 .p (.s 11 .p .done)))))))))))) (Held wy []) (by kernel_rfl) (by kernel_rfl) (fun _ _ _ _ _ h => h) (Held.refl _ _) ?_
  (apply wpOrd_p2 rfl rfl rfl rfl rfl; (intro w' K hK; (first | go_big_move | go_big_op | go_wp2_with fail); exact hK))
  (apply wpOrd_l2 rfl rfl rfl rfl rfl; (intro w' K hS' hK; (have hr' := hS'.cell; simp at hr'; (first | go_big_op | go_wp2_with fail); exact hK)); (first | assumption | exact Held.refl _ _ | exact Held.of_below (by repeat (first | with_reducible exact Below.refl _ _ | with_reducible assumption | ((with_reducible refine Below.alloc ?_ ?hb_ _); (case hb_ => first | omega | (simp; done) | (simp; omega))) | ((with_reducible refine Below.setCell ?_ ?hb_ _); (case hb_ => first | omega | (simp; done) | (simp; omega))) | with_reducible refine Below.drew ?_ | with_reducible refine below_drewN ?_ _))))
  (apply wpOrd_p2 rfl rfl rfl rfl rfl; (intro w' K hK; (first | go_big_move | go_big_op | go_wp2_with fail); exact hK))
  (apply wpOrd_p2 rfl rfl rfl rfl rfl; (intro w' K hK; (first | go_big_move | go_big_op | go_wp2_with fail); exact hK))
  (apply wpOrd_p2 rfl rfl rfl rfl rfl; (intro w' K hK; (first | go_big_move | go_big_op | go_wp2_with fail); exact hK))
  (apply wpOrd_p2 rfl rfl rfl rfl rfl; (intro w' K hK; (first | go_big_move | go_big_op | go_wp2_with fail); exact hK))
  (apply wpOrd_l2 rfl rfl rfl rfl rfl; (intro w' K hS' hK; (have hr' := hS'.cell; simp at hr'; (first | go_big_op | go_wp2_with fail); exact hK)); (first | assumption | exact Held.refl _ _ | exact Held.of_below (by repeat (first | with_reducible exact Below.refl _ _ | with_reducible assumption | ((with_reducible refine Below.alloc ?_ ?hb_ _); (case hb_ => first | omega | (simp; done) | (simp; omega))) | ((with_reducible refine Below.setCell ?_ ?hb_ _); (case hb_ => first | omega | (simp; done) | (simp; omega))) | with_reducible refine Below.drew ?_ | with_reducible refine below_drewN ?_ _))))
  (apply wpOrd_p2 rfl rfl rfl rfl rfl; (intro w' K hK; (first | go_big_move | go_big_op | go_wp2_with fail); exact hK))
  (apply wpOrd_p2 rfl rfl rfl rfl rfl; (intro w' K hK; (first | go_big_move | go_big_op | go_wp2_with fail); exact hK))
  (apply wpOrd_p2 rfl rfl rfl rfl rfl; (intro w' K hK; (first | go_big_move | go_big_op | go_wp2_with fail); exact hK))
  (apply wpOrd_p2 rfl rfl rfl rfl rfl; (intro w' K hK; (first | go_big_move | go_big_op | go_wp2_with fail); exact hK))
  (apply wpOrd_p2 rfl rfl rfl rfl rfl; (intro w' K hK; (first | go_big_move | go_big_op | go_wp2_with fail); exact hK))
  refine wpOrd_nil ?_
  skip
  by_cases hk3 : k < 3
  · have hspot := fun w => rspot_ok k W H w (by omega) hW1 hH1
    have hokS := Lib.hid (spot_ok k W H hW1 hH1)
    obtain ⟨S, hS⟩ : ∃ S, spotS k W H = S := ⟨_, rfl⟩
    rw [hS] at hspot hokS
    clear hS hW hH
    go_wp2_with ((with_reducible refine rw_list ?_); (first | ((with_reducible apply wpList_load_cell); (case ho => with_reducible rfl); (case hgd => with_reducible rfl); (case hx => rfl); (case hu => first | exact Try.underlying26 | exact Try.underlying5); (case hd => rfl)) | ((with_reducible apply wpList_load_row); (case ho => with_reducible rfl); (case hgd => with_reducible rfl); (case hx => rfl); (case hu => first | exact Try.underlying26 | exact Try.underlying5); (case hd => rfl)) | ((with_reducible apply wpList_store_row); (case ho => with_reducible rfl); (case hgd => with_reducible rfl); (case hx => rfl); (case hy => rfl)) | ((with_reducible apply wpList_store_cell); (case ho => with_reducible rfl); (case hgd => with_reducible rfl); (case hx => rfl); (case hy => first | exact ev_const | exact ev_tmp rfl); (case h1 => rfl))); (case hg => exact (by with_reducible repeat (first | assumption | (refine rw_new ?e_; case e_ => first | rfl | (simp; done) | (simp; omega)) | apply rw_self | (apply rw_other; case hn => first | omega | (simp; omega)) | apply rw_alloc | apply rw_drew | apply rw_drewN))); (try case hv => rfl); (try case hi => kernel_rfl); (try case hold => rfl); (try case h1 => kernel_rfl); (try case hlt => rfl); (try case hcs => ((try simp only [List.setIfInBounds_toArray, List.set_cons_succ, List.set_cons_zero]); rfl)))
    refine (hspot _).mono ?_
    rintro e w2 ⟨rfl, hb⟩
    have hs_w2 := hb.size
    (try simp at hs_w2)
    have hB_w2 : Below w.heap.size w w2 := below_then (w := w) (by with_reducible repeat (first | exact Below.refl _ _ | assumption | ((first | refine Below.alloc ?_ ?b_ _ | refine bw_set ?_ ?b_ | refine Below.setCell ?_ ?b_ _); case b_ => first | omega | (simp; done) | (simp; omega)) | refine Below.drew ?_ | refine below_drewN ?_ _)) (by first | omega | (simp; done) | (simp; omega) | (have hq_ := hb.size; omega)) hb
    have hx_ := rw_below (k := w.heap.size + 1) hb (by with_reducible repeat (first | assumption | (refine rw_new ?e_; case e_ => first | rfl | (simp; done) | (simp; omega)) | apply rw_self | (apply rw_other; case hn => first | omega | (simp; omega)) | apply rw_alloc | apply rw_drew | apply rw_drewN))
    (try clear hz)
    have hz := hx_
    clear hx_
    clear hb
    go_wp2_with ((with_reducible refine rw_list ?_); (first | ((with_reducible apply wpList_load_cell); (case ho => with_reducible rfl); (case hgd => with_reducible rfl); (case hx => rfl); (case hu => first | exact Try.underlying26 | exact Try.underlying5); (case hd => rfl)) | ((with_reducible apply wpList_load_row); (case ho => with_reducible rfl); (case hgd => with_reducible rfl); (case hx => rfl); (case hu => first | exact Try.underlying26 | exact Try.underlying5); (case hd => rfl)) | ((with_reducible apply wpList_store_row); (case ho => with_reducible rfl); (case hgd => with_reducible rfl); (case hx => rfl); (case hy => rfl)) | ((with_reducible apply wpList_store_cell); (case ho => with_reducible rfl); (case hgd => with_reducible rfl); (case hx => rfl); (case hy => first | exact ev_const | exact ev_tmp rfl); (case h1 => rfl))); (case hg => exact (by with_reducible repeat (first | assumption | (refine rw_new ?e_; case e_ => first | rfl | (simp; done) | (simp; omega)) | apply rw_self | (apply rw_other; case hn => first | omega | (simp; omega)) | apply rw_alloc | apply rw_drew | apply rw_drewN))); (try case hv => rfl); (try case hi => kernel_rfl); (try case hold => rfl); (try case h1 => kernel_rfl); (try case hlt => rfl); (try case hcs => ((try simp only [List.setIfInBounds_toArray, List.set_cons_succ, List.set_cons_zero]); rfl)))
    exact bodyPost_ret (v := _) (results_cell_row Try.results9 _ _ _ _ _ _ _ (by rfl) (by with_reducible repeat (first | assumption | (refine rw_new ?e_; case e_ => first | rfl | (simp; done) | (simp; omega)) | apply rw_self | (apply rw_other; case hn => first | omega | (simp; omega)) | apply rw_alloc | apply rw_drew | apply rw_drewN)) Try.underlying26 rfl (by kernel_rfl)) rfl ⟨⟨S, hokS.out, rfl⟩, (by with_reducible repeat (first | exact Below.refl _ _ | assumption | ((first | refine Below.alloc ?_ ?b_ _ | refine bw_set ?_ ?b_ | refine Below.setCell ?_ ?b_ _); case b_ => first | omega | (simp; done) | (simp; omega)) | refine Below.drew ?_ | refine below_drewN ?_ _))⟩
  · have hk4 : k = 3 := by omega
    obtain ⟨m0, m1⟩ := mul_bd (a := W) (b := H) (X := 16) (Y := 16) (by omega) (by omega) (by omega) (by omega)
    simp only [Int.reduceMul, Int.reduceNeg] at m0 m1
    have m2 : 1 ≤ W * H := Int.mul_pos (by omega) (by omega)
    obtain ⟨L, hL⟩ : ∃ L : Nat, W * H = (L : Int) := ⟨(W * H).toNat, by omega⟩
    have hL4 : L ≤ 256 := by omega
    have hmk := make_u8 L (by omega)
    have HL := Lib.hid hL
    rw [hL] at m0 m1 m2
    clear hW hH
    go_wp2_with fail
    obtain ⟨wo, hwo⟩ : ∃ wo, wo = (wy.alloc (.cells (rowU L fun _ => 0) 5 (0, 0))).drew := ⟨_, rfl⟩
    rw [← hwo]
    have hB_wo : RowKit.Below w.heap.size w wo := by rw [hwo]; exact (by with_reducible repeat (first | exact Below.refl _ _ | assumption | ((first | refine Below.alloc ?_ ?b_ _ | refine bw_set ?_ ?b_ | refine Below.setCell ?_ ?b_ _); case b_ => first | omega | (simp; done) | (simp; omega)) | refine Below.drew ?_ | refine below_drewN ?_ _))
    have hd' : wo.heap[w.heap.size]? = some (.cells #[.int .u8 K, .int .u8 Wd, .int .u8 Hd, .slice x len cap] 24 (0, 0)) := by rw [hwo]; exact rw_drew (rw_alloc hd)
    have hz' : wo.heap[w.heap.size + 1]? = some (.cells #[.int .i64 0, .int .i64 0, .string ⟨#[]⟩] 26 (0, 0)) := by rw [hwo]; exact rw_drew (rw_alloc hz)
    have hr' : wo.heap[wy.heap.size]? = some (.cells (rowU L fun _ => 0) 5 (0, 0)) := by rw [hwo]; exact rw_drew (rw_new rfl)
    clear hwo hd hz d0 d1 d2 d3 hmk
    go_loopw [8] (fun v wr => ∃ (i : Nat) (g : Nat → Int), i ≤ L ∧ v = .int .i64 i ∧ (∀ j, 0 ≤ g j ∧ g j < 255) ∧ RowKit.Below w.heap.size w wr ∧ wr.heap[w.heap.size]? = some (.cells #[.int .u8 K, .int .u8 Wd, .int .u8 Hd, .slice x len cap] 24 (0, 0)) ∧ wr.heap[w.heap.size + 1]? = some (.cells #[.int .i64 0, .int .i64 0, .string ⟨#[]⟩] 26 (0, 0)) ∧ wr.heap[wy.heap.size]? = some (.cells (rowU L g) 5 (0, 0))) (fun v _ => L - (intOf v).toNat)
    case atStart => exact ⟨0, _, Nat.zero_le _, rfl, fun _ => by omega, hB_wo, hd', hz', hr'⟩
    case round =>
      clear hB_wo hd' hz' hr'
      obtain ⟨i, fn, hi, rfl, hfn, hB, hd, hz, hout⟩ := hrel
      obtain ⟨d0, d1, d2, d3⟩ := cel4 hd
      have hld := rw_lt hd
      have hlr := rw_lt hout
      by_cases hin : i < L ∧ 0 < len
      · obtain ⟨hin, hlen0⟩ := hin
        rcases hx with hx | ⟨bx, ox, rfl, hbx, hoct⟩
        · omega
        have hmod : Int.tmod (i : Int) (len : Int) = ((i % len : Nat) : Int) := by rw [Int.tmod_eq_emod_of_nonneg (by omega)]; rfl
        have hml : i % len < len := Nat.mod_lt _ hlen0
        obtain ⟨v, hv0, hv1, hv⟩ := hoct (i % len) hml
        have hcx : wr.cell? ⟨bx, ox + i % len, none⟩ = some (.int .u8 v) := (hB.cell (p := ⟨bx, ox + i % len, none⟩) hbx).trans hv
        have hbr : bx < wr.heap.size := by omega
        have hx1 : w.heap.size ≠ wy.heap.size := by omega
        have hx2 : bx ≠ wy.heap.size := by omega
        have hci : wr.cell? ⟨wy.heap.size, i, none⟩ = some (.int .u8 (fn i)) := by rw [cell_of_row _ _ i _ _ _ hout, rowU_get hin]
        have hfi : wr.frozen? ⟨wy.heap.size, i, none⟩ = false := frozen_of_row _ _ i _ _ hout
        go_wp2_with fail
        refine wp_region_ord (.s 0 .p (.s 1 .p (.s 2 .p (.s 3 .l (.s 4 .p (.s 5 .p (.s 6 .l (.s 7 .p (.s 8 .p (.s 9 .p (.s 10 .l (.s 11 .p (.s 12 .p (.s 13 .e .done)))))))))))))) (Held wr [wy.heap.size]) (by kernel_rfl) (by kernel_rfl) (fun _ _ _ _ _ h => h) (Held.refl _ _) ?_
        (apply wpOrd_p2 rfl rfl rfl rfl rfl; (intro w' K hK; (first | go_big_move | go_big_op | go_wp2_with fail); exact hK))
        (apply wpOrd_p2 rfl rfl rfl rfl rfl; (intro w' K hK; (first | go_big_move | go_big_op | go_wp2_with fail); exact hK))
        (apply wpOrd_p2 rfl rfl rfl rfl rfl; (intro w' K hK; (first | go_big_move | go_big_op | go_wp2_with fail); exact hK))
        (apply wpOrd_l2 rfl rfl rfl rfl rfl; (intro w' K hS' hK; (have hr' := hS'.cell; simp at hr'; (first | go_big_op | go_wp2_with fail); exact hK)); (first | assumption | exact Held.refl _ _ | exact Held.of_below (by repeat (first | with_reducible exact Below.refl _ _ | with_reducible assumption | ((with_reducible refine Below.alloc ?_ ?hb_ _); (case hb_ => first | omega | (simp; done) | (simp; omega))) | ((with_reducible refine Below.setCell ?_ ?hb_ _); (case hb_ => first | omega | (simp; done) | (simp; omega))) | with_reducible refine Below.drew ?_ | with_reducible refine below_drewN ?_ _))))
        (apply wpOrd_p2 rfl rfl rfl rfl rfl; (intro w' K hK; (first | go_big_move | go_big_op | go_wp2_with fail); exact hK))
        (apply wpOrd_p2 rfl rfl rfl rfl rfl; (intro w' K hK; (first | go_big_move | go_big_op | go_wp2_with fail); exact hK))
        (apply wpOrd_l2 rfl rfl rfl rfl rfl; (intro w' K hS' hK; (have hr' := hS'.cell; simp at hr'; (first | go_big_op | go_wp2_with fail); exact hK)); (first | assumption | exact Held.refl _ _ | exact Held.of_below (by repeat (first | with_reducible exact Below.refl _ _ | with_reducible assumption | ((with_reducible refine Below.alloc ?_ ?hb_ _); (case hb_ => first | omega | (simp; done) | (simp; omega))) | ((with_reducible refine Below.setCell ?_ ?hb_ _); (case hb_ => first | omega | (simp; done) | (simp; omega))) | with_reducible refine Below.drew ?_ | with_reducible refine below_drewN ?_ _))))
        (apply wpOrd_p2 rfl rfl rfl rfl rfl; (intro w' K hK; (first | go_big_move | go_big_op | go_wp2_with fail); exact hK))
        (apply wpOrd_p2 rfl rfl rfl rfl rfl; (intro w' K hK; (first | go_big_move | go_big_op | go_wp2_with fail); exact hK))
        (apply wpOrd_p2 rfl rfl rfl rfl rfl; (intro w' K hK; (first | go_big_move | go_big_op | go_wp2_with fail); exact hK))
        (apply wpOrd_l2 rfl rfl rfl rfl rfl; (intro w' K hS' hK; (have hr' := hS'.cell; simp at hr'; (first | go_big_op | go_wp2_with fail); exact hK)); (first | assumption | exact Held.refl _ _ | exact Held.of_below (by repeat (first | with_reducible exact Below.refl _ _ | with_reducible assumption | ((with_reducible refine Below.alloc ?_ ?hb_ _); (case hb_ => first | omega | (simp; done) | (simp; omega))) | ((with_reducible refine Below.setCell ?_ ?hb_ _); (case hb_ => first | omega | (simp; done) | (simp; omega))) | with_reducible refine Below.drew ?_ | with_reducible refine below_drewN ?_ _))))
        (apply wpOrd_p2 rfl rfl rfl rfl rfl; (intro w' K hK; (first | go_big_move | go_big_op | go_wp2_with fail); exact hK))
        (apply wpOrd_p2 rfl rfl rfl rfl rfl; (intro w' K hK; (first | go_big_move | go_big_op | go_wp2_with fail); exact hK))
        (refine wpOrd_e1 rfl rfl (fun K hK => ?_)); (first | go_big_op | go_wp2_with fail)
        refine hK _ _ (Held.setCell (Held.drew (Held.refl _ _)) _ _ (.inr (by simp))) ?_; clear hK K
        refine wpOrd_nil ?_
        go_wp2_with fail
        go_roundw
        case rel =>
          refine ⟨i + 1, fun j => if j = i then v % 255 else fn j, by omega, by go_num, ?_, (by repeat (first | with_reducible exact Below.refl _ _ | with_reducible assumption | ((with_reducible refine Below.alloc ?_ ?hb_ _); (case hb_ => first | omega | (simp; done) | (simp; omega))) | ((with_reducible refine Below.setCell ?_ ?hb_ _); (case hb_ => first | omega | (simp; done) | (simp; omega))) | with_reducible refine Below.drew ?_ | with_reducible refine below_drewN ?_ _)), (heap_setCell_other wr _ _ _ (by simp; omega)).trans hd, (heap_setCell_other wr _ _ _ (by simp; omega)).trans hz, (heap_setCell_same wr _ _ _ _ _ hout).trans (by rw [rowU_set])⟩
          intro j
          have hj := hfn j
          dsimp only
          split <;> omega
        case measure => simp [intOf]; omega
      · have hin' : L = i ∨ len = 0 := by omega
        have hcv := Lib.run_convert_whole (P := Try.prog) wr 22 5 9 Try.underlying22 Try.underlying5 Try.underlying9 wy.heap.size 0 (strU L fn) (strU_bytes (fun j => by have := hfn j; omega) hout) L
        rw [strU_size] at hcv
        have hokS := Lib.hid (show okT W H (strU L fn) from ⟨hW1, hH1, by rw [strU_size]; exact HL.out.symm, fun q hq => by rw [strU_size] at hq; rw [strU_oct hq (by have := hfn q; omega)]; have := hfn q; omega⟩)
        rcases hin' with hq | hq
        all_goals subst hq
        all_goals go_wp2_with ((with_reducible refine rw_list ?_); (first | ((with_reducible apply wpList_load_cell); (case ho => with_reducible rfl); (case hgd => with_reducible rfl); (case hx => rfl); (case hu => first | exact Try.underlying26); (case hd => rfl)) | ((with_reducible apply wpList_load_row); (case ho => with_reducible rfl); (case hgd => with_reducible rfl); (case hx => rfl); (case hu => first | exact Try.underlying26); (case hd => rfl)) | ((with_reducible apply wpList_store_row); (case ho => with_reducible rfl); (case hgd => with_reducible rfl); (case hx => rfl); (case hy => rfl)) | ((with_reducible apply wpList_store_cell); (case ho => with_reducible rfl); (case hgd => with_reducible rfl); (case hx => rfl); (case hy => first | exact ev_const | exact ev_tmp rfl); (case h1 => rfl))); (case hg => exact (by with_reducible repeat (first | assumption | (refine rw_new ?e_; case e_ => first | rfl | (simp; done) | (simp; omega)) | apply rw_self | (apply rw_other; case hn => first | omega | (simp; omega)) | apply rw_alloc | apply rw_drew | apply rw_drewN))); (try case hv => rfl); (try case hi => kernel_rfl); (try case hold => rfl); (try case h1 => kernel_rfl); (try case hlt => rfl); (try case hcs => ((try simp only [List.setIfInBounds_toArray, List.set_cons_succ, List.set_cons_zero]); rfl)))
        all_goals exact bodyPost_ret (v := _) (results_cell_row Try.results9 _ _ _ _ _ _ _ (by rfl) (by with_reducible repeat (first | assumption | (refine rw_new ?e_; case e_ => first | rfl | (simp; done) | (simp; omega)) | apply rw_self | (apply rw_other; case hn => first | omega | (simp; omega)) | apply rw_alloc | apply rw_drew | apply rw_drewN)) Try.underlying26 rfl (by kernel_rfl)) rfl ⟨⟨_, hokS.out, rfl⟩, (by with_reducible repeat (first | exact Below.refl _ _ | assumption | ((first | refine Below.alloc ?_ ?b_ _ | refine bw_set ?_ ?b_ | refine Below.setCell ?_ ?b_ _); case b_ => first | omega | (simp; done) | (simp; omega)) | refine Below.drew ?_ | refine below_drewN ?_ _))⟩
end Go.Proofs.Ytdkkjlapmaageaa.T3
