/- The closure that quotients returns, for d < 0; and for all d. -/
import Derived.Test.YtpgaibkjokoanaaMxQ
import Derived.WalkKit
import Derived.Lib.Hide
import Derived.Deep.QuietTactic
import Derived.BigQuiet
import Derived.Lib.QuietBelow
import Derived.Deep.RegionHeld3
import Derived.WalkLawsBesides
import Derived.WalkSpells
import Derived.Outline
import Derived.Deep.DeepFit
import Derived.Maps.AppendAt
import Derived.Deep.AppendLies
namespace Go.Proofs.Ytpgaibkjokoanaa.T3
set_option linter.unusedSimpArgs false
set_option linter.unusedVariables false
open Go.RowKit
set_option maxHeartbeats 1000000
theorem mquo_neg (n d : Int) (b : Nat) (w : World) (hcl : w.heap[b]? = some (.cells #[.int .i64 (-d)] 3 (0, 0))) (hd : 0 < d) (hd2 : d ≤ 1125899906842624) (h1 : -1152921504606846976 ≤ n) (h2 : n ≤ 1152921504606846976) :
    Calls Try.prog 60 #[.int .i64 (-n), .pointer (some ⟨b, 0, none⟩)] w fun e w' => e = .returned (.tuple #[.int .i64 (qtV n d), .bool (qtB n d)]) ∧ Below w.heap.size w w' := by
  have hz : ¬ d = 0 := by omega
  have hz2 : ¬ -d = 0 := by omega
  have hbl := rw_lt hcl
  have cb := cell_of_row w b 0 _ _ _ hcl
  simp at cb
  obtain ⟨t1, t2⟩ := tdiv_bd n d 1152921504606846976 (by omega) (by omega)
  have r1 := Int.lt_tmod_of_pos n hd
  have r2 := Int.tmod_lt_of_pos n hd
  obtain ⟨f1, f2⟩ := tdiv_floor n d hd
  obtain ⟨t, ht⟩ : ∃ t, n.tdiv d = t := ⟨_, rfl⟩
  obtain ⟨r, hr⟩ : ∃ r, n.tmod d = r := ⟨_, rfl⟩
  rw [ht] at t1 t2 f1 f2
  rw [hr] at r1 r2 f1 f2
  by_cases hn : r < 0
  · skip
    obtain ⟨g1, g2⟩ := f1 hn
    have hch := qt_chain n d hd
    have hqb : qtB n d = withinB 16777216 [t - 1] := by rw [qtB, g1]
    have hqv := show qtV n d = if qtB n d = true then (65536 * n) / d + (if d ≤ 2 * ((65536 * n) % d) then 1 else 0) else 0 from rfl
    rw [g1, g2] at hch
    rw [← hch.1, ← hch.2] at hqv
    simp only [Int.mul_comm 256] at hqv
    clear f1 f2 g1 g2 hch
    by_cases hw : withinB 16777216 [t - 1] = true
    · have q1 : -16777216 ≤ t - 1 ∧ t - 1 ≤ 16777216 := by simpa [withinB] using hw
      obtain ⟨q1, q2⟩ := q1
      rw [hqb.trans hw, if_pos rfl] at hqv
      have hqb := Lib.hid (hqb.trans hw)
      have hw := Lib.hid hw
      obtain ⟨a1, a2, a3, a4⟩ := step_bd (r + d) d (by omega) (by omega)
      obtain ⟨b1, b2, b3, b4⟩ := step_bd ((r + d) * 256 % d) d a3 a4
      by_cases hc : d ≤ 2 * ((r + d) * 256 % d * 256 % d)
      · rw [if_pos hc] at hqv
        have hqv := Lib.hid hqv
        rw [hqv.out, hqb.out]
        go_enter Try.func60, Try.ntmps60
        go_wp2_with fail
        refine wp_region_grow [(0, none), (1, none), (2, none), (3, none)] .done ?g1_ ?g2_ ?g3_ ?_
        case g1_ => kernel_rfl
        case g2_ => kernel_rfl
        case g3_ => exact fun _ _ _ _ _ h => h
        (apply wpG_p rfl rfl rfl rfl rfl; (intro w' K hK; (first | go_big_op | go_wp2_with fail); exact hK))
        (apply wpG_l rfl rfl rfl rfl rfl; (intro w' K hC hK; (have hr' := hC.old; simp at hr'); (first | go_big_op | go_wp2_with fail); exact hK); (case he => first | rfl | (simp [Act.put, *]; done)))
        (apply wpG_p rfl rfl rfl rfl rfl; (intro w' K hK; (first | go_big_op | go_wp2_with fail); exact hK))
        (apply wpG_p rfl rfl rfl rfl rfl; (intro w' K hK; (first | go_big_op | go_wp2_with fail); exact hK))
        refine wpG_nil (fun w1 hB1 hG hD => ?_)
        clear hG
        (try clear hD)
        refine wpOrd_nil ?_
        have hb := hB1
        clear hB1
        have hs_w1 := hb.size
        (try simp at hs_w1)
        have hB_w1 : Below w.heap.size w w1 := below_then (w := w) (by with_reducible repeat (first | exact Below.refl _ _ | assumption | ((first | refine Below.alloc ?_ ?b_ _ | refine bw_set ?_ ?b_ | refine Below.setCell ?_ ?b_ _); case b_ => first | omega | (simp; done) | (simp; omega)) | refine Below.drew ?_ | refine below_drewN ?_ _)) (by first | omega | (simp; done) | (simp; omega) | (have hq_ := hb.size; omega)) hb
        have hx_ := rw_below (k := b) hb (by with_reducible repeat (first | assumption | (refine rw_new ?e_; case e_ => first | rfl | (simp; done) | (simp; omega)) | apply rw_self | (apply rw_other; case hn => first | omega | (simp; omega)) | apply rw_alloc | apply rw_drew | apply rw_drewN))
        (try clear hcl)
        have hcl := hx_
        clear hx_
        clear hb
        go_wp2_with fail
        refine wp_region_grow [(0, none), (1, none), (2, none), (3, none), (4, none), (5, none), (6, none), (7, none)] .done ?g1_ ?g2_ ?g3_ ?_
        case g1_ => kernel_rfl
        case g2_ => kernel_rfl
        case g3_ => exact fun _ _ _ _ _ h => h
        (apply wpG_p rfl rfl rfl rfl rfl; (intro w' K hK; (first | go_big_op | go_wp2_with fail); exact hK))
        (apply wpG_p rfl rfl rfl rfl rfl; (intro w' K hK; (first | go_big_op | go_wp2_with fail); exact hK))
        (apply wpG_p rfl rfl rfl rfl rfl; (intro w' K hK; (first | go_big_op | go_wp2_with fail); exact hK))
        (apply wpG_p rfl rfl rfl rfl rfl; (intro w' K hK; (first | go_big_op | go_wp2_with fail); exact hK))
        (apply wpG_p rfl rfl rfl rfl rfl; (intro w' K hK; (first | go_big_op | go_wp2_with fail); exact hK))
        (apply wpG_p rfl rfl rfl rfl rfl; (intro w' K hK; (first | go_big_op | go_wp2_with fail); exact hK))
        (apply wpG_p rfl rfl rfl rfl rfl; (intro w' K hK; (first | go_big_op | go_wp2_with fail); exact hK))
        (apply wpG_p rfl rfl rfl rfl rfl; (intro w' K hK; (first | go_big_op | go_wp2_with fail); exact hK))
        refine wpG_nil (fun w2 hB1 hG hD => ?_)
        clear hG
        (try clear hD)
        refine wpOrd_nil ?_
        have hb := hB1
        clear hB1
        have hs_w2 := hb.size
        (try simp at hs_w2)
        have hB_w2 : Below w.heap.size w w2 := below_then (w := w) (by with_reducible repeat (first | exact Below.refl _ _ | assumption | ((first | refine Below.alloc ?_ ?b_ _ | refine bw_set ?_ ?b_ | refine Below.setCell ?_ ?b_ _); case b_ => first | omega | (simp; done) | (simp; omega)) | refine Below.drew ?_ | refine below_drewN ?_ _)) (by first | omega | (simp; done) | (simp; omega) | (have hq_ := hb.size; omega)) hb
        clear hb
        go_wp2_with fail
        refine (within_any 16777216 [t - 1] _ 0 1 _ (by omega) (by omega) (by simp) (row_cells [t - 1] (rw_new (by simp)))).mono ?_
        rintro e w' ⟨rfl, rfl⟩
        rw [hw.out]
        go_wp2_with fail
        go_loopw [6, 7, 33] (fun v6 v7 i wr => QuoRel d (t - 1) (r + d) v6 v7 i ∧ Below w.heap.size w wr) (fun _ _ i _ => 2 - (intOf i).toNat)
        case atStart => exact ⟨Or.inl ⟨rfl, rfl, rfl⟩, (by with_reducible repeat (first | exact Below.refl _ _ | assumption | ((first | refine Below.alloc ?_ ?b_ _ | refine bw_set ?_ ?b_ | refine Below.setCell ?_ ?b_ _); case b_ => first | omega | (simp; done) | (simp; omega)) | refine Below.drew ?_ | refine below_drewN ?_ _))⟩
        case round =>
          obtain ⟨hR, hB⟩ := hrel
          rcases hR with ⟨rfl, rfl, rfl⟩ | ⟨rfl, rfl, rfl⟩ | ⟨rfl, rfl, rfl⟩
          · go_wp2_with fail
            refine wp_region_grow [(0, none), (1, none), (2, none), (3, none), (4, none), (5, none), (6, none), (7, none), (8, none), (9, none), (10, none)] .done ?g1_ ?g2_ ?g3_ ?_
            case g1_ => kernel_rfl
            case g2_ => kernel_rfl
            case g3_ => exact fun _ _ _ _ _ h => h
            (apply wpG_p rfl rfl rfl rfl rfl; (intro w' K hK; (first | go_big_op | go_wp2_with fail); exact hK))
            (apply wpG_p rfl rfl rfl rfl rfl; (intro w' K hK; (first | go_big_op | go_wp2_with fail); exact hK))
            (apply wpG_p rfl rfl rfl rfl rfl; (intro w' K hK; (first | go_big_op | go_wp2_with fail); exact hK))
            (apply wpG_p rfl rfl rfl rfl rfl; (intro w' K hK; (first | go_big_op | go_wp2_with fail); exact hK))
            (apply wpG_p rfl rfl rfl rfl rfl; (intro w' K hK; (first | go_big_op | go_wp2_with fail); exact hK))
            (apply wpG_p rfl rfl rfl rfl rfl; (intro w' K hK; (first | go_big_op | go_wp2_with fail); exact hK))
            (apply wpG_p rfl rfl rfl rfl rfl; (intro w' K hK; (first | go_big_op | go_wp2_with fail); exact hK))
            (apply wpG_p rfl rfl rfl rfl rfl; (intro w' K hK; (first | go_big_op | go_wp2_with fail); exact hK))
            (apply wpG_p rfl rfl rfl rfl rfl; (intro w' K hK; (first | go_big_op | go_wp2_with fail); exact hK))
            (apply wpG_p rfl rfl rfl rfl rfl; (intro w' K hK; (first | go_big_op | go_wp2_with fail); exact hK))
            (apply wpG_p rfl rfl rfl rfl rfl; (intro w' K hK; (first | go_big_op | go_wp2_with fail); exact hK))
            refine wpG_nil (fun wz hB1 hG hD => ?_)
            clear hG
            (try clear hD)
            refine wpOrd_nil ?_
            have hBz : Below w.heap.size w wz := below_then (Below.drew hB) (by have := hB.size; simp; omega) hB1
            go_wp2_with fail
            go_roundw
            case rel => exact ⟨Or.inr (Or.inl ⟨quo_eq _ _ (by first | rfl | (simp only [Int.mul_comm _ 256]; done) | (simp only [Int.mul_comm _ 256]; omega)), quo_eq _ _ (by first | rfl | (simp only [Int.mul_comm _ 256]; done) | (simp only [Int.mul_comm _ 256]; omega)), rfl⟩), hBz⟩
            case measure => simp [intOf]
          · go_wp2_with fail
            refine wp_region_grow [(0, none), (1, none), (2, none), (3, none), (4, none), (5, none), (6, none), (7, none), (8, none), (9, none), (10, none)] .done ?g1_ ?g2_ ?g3_ ?_
            case g1_ => kernel_rfl
            case g2_ => kernel_rfl
            case g3_ => exact fun _ _ _ _ _ h => h
            (apply wpG_p rfl rfl rfl rfl rfl; (intro w' K hK; (first | go_big_op | go_wp2_with fail); exact hK))
            (apply wpG_p rfl rfl rfl rfl rfl; (intro w' K hK; (first | go_big_op | go_wp2_with fail); exact hK))
            (apply wpG_p rfl rfl rfl rfl rfl; (intro w' K hK; (first | go_big_op | go_wp2_with fail); exact hK))
            (apply wpG_p rfl rfl rfl rfl rfl; (intro w' K hK; (first | go_big_op | go_wp2_with fail); exact hK))
            (apply wpG_p rfl rfl rfl rfl rfl; (intro w' K hK; (first | go_big_op | go_wp2_with fail); exact hK))
            (apply wpG_p rfl rfl rfl rfl rfl; (intro w' K hK; (first | go_big_op | go_wp2_with fail); exact hK))
            (apply wpG_p rfl rfl rfl rfl rfl; (intro w' K hK; (first | go_big_op | go_wp2_with fail); exact hK))
            (apply wpG_p rfl rfl rfl rfl rfl; (intro w' K hK; (first | go_big_op | go_wp2_with fail); exact hK))
            (apply wpG_p rfl rfl rfl rfl rfl; (intro w' K hK; (first | go_big_op | go_wp2_with fail); exact hK))
            (apply wpG_p rfl rfl rfl rfl rfl; (intro w' K hK; (first | go_big_op | go_wp2_with fail); exact hK))
            (apply wpG_p rfl rfl rfl rfl rfl; (intro w' K hK; (first | go_big_op | go_wp2_with fail); exact hK))
            refine wpG_nil (fun wz hB1 hG hD => ?_)
            clear hG
            (try clear hD)
            refine wpOrd_nil ?_
            have hBz : Below w.heap.size w wz := below_then (Below.drew hB) (by have := hB.size; simp; omega) hB1
            go_wp2_with fail
            go_roundw
            case rel => exact ⟨Or.inr (Or.inr ⟨quo_eq _ _ (by first | rfl | (simp only [Int.mul_comm _ 256]; done) | (simp only [Int.mul_comm _ 256]; omega)), quo_eq _ _ (by first | rfl | (simp only [Int.mul_comm _ 256]; done) | (simp only [Int.mul_comm _ 256]; omega)), rfl⟩), hBz⟩
            case measure => simp [intOf]
          · go_wp2_with fail
            exact bodyPost_ret (v := .tuple #[.int .i64 _, .bool true]) (by simp [results, Try.results60, go_sem]) rfl ⟨rfl, hB⟩
      · rw [if_neg hc] at hqv
        have hqv := Lib.hid hqv
        rw [hqv.out, hqb.out]
        go_enter Try.func60, Try.ntmps60
        go_wp2_with fail
        refine wp_region_grow [(0, none), (1, none), (2, none), (3, none)] .done ?g1_ ?g2_ ?g3_ ?_
        case g1_ => kernel_rfl
        case g2_ => kernel_rfl
        case g3_ => exact fun _ _ _ _ _ h => h
        (apply wpG_p rfl rfl rfl rfl rfl; (intro w' K hK; (first | go_big_op | go_wp2_with fail); exact hK))
        (apply wpG_l rfl rfl rfl rfl rfl; (intro w' K hC hK; (have hr' := hC.old; simp at hr'); (first | go_big_op | go_wp2_with fail); exact hK); (case he => first | rfl | (simp [Act.put, *]; done)))
        (apply wpG_p rfl rfl rfl rfl rfl; (intro w' K hK; (first | go_big_op | go_wp2_with fail); exact hK))
        (apply wpG_p rfl rfl rfl rfl rfl; (intro w' K hK; (first | go_big_op | go_wp2_with fail); exact hK))
        refine wpG_nil (fun w1 hB1 hG hD => ?_)
        clear hG
        (try clear hD)
        refine wpOrd_nil ?_
        have hb := hB1
        clear hB1
        have hs_w1 := hb.size
        (try simp at hs_w1)
        have hB_w1 : Below w.heap.size w w1 := below_then (w := w) (by with_reducible repeat (first | exact Below.refl _ _ | assumption | ((first | refine Below.alloc ?_ ?b_ _ | refine bw_set ?_ ?b_ | refine Below.setCell ?_ ?b_ _); case b_ => first | omega | (simp; done) | (simp; omega)) | refine Below.drew ?_ | refine below_drewN ?_ _)) (by first | omega | (simp; done) | (simp; omega) | (have hq_ := hb.size; omega)) hb
        have hx_ := rw_below (k := b) hb (by with_reducible repeat (first | assumption | (refine rw_new ?e_; case e_ => first | rfl | (simp; done) | (simp; omega)) | apply rw_self | (apply rw_other; case hn => first | omega | (simp; omega)) | apply rw_alloc | apply rw_drew | apply rw_drewN))
        (try clear hcl)
        have hcl := hx_
        clear hx_
        clear hb
        go_wp2_with fail
        refine wp_region_grow [(0, none), (1, none), (2, none), (3, none), (4, none), (5, none), (6, none), (7, none)] .done ?g1_ ?g2_ ?g3_ ?_
        case g1_ => kernel_rfl
        case g2_ => kernel_rfl
        case g3_ => exact fun _ _ _ _ _ h => h
        (apply wpG_p rfl rfl rfl rfl rfl; (intro w' K hK; (first | go_big_op | go_wp2_with fail); exact hK))
        (apply wpG_p rfl rfl rfl rfl rfl; (intro w' K hK; (first | go_big_op | go_wp2_with fail); exact hK))
        (apply wpG_p rfl rfl rfl rfl rfl; (intro w' K hK; (first | go_big_op | go_wp2_with fail); exact hK))
        (apply wpG_p rfl rfl rfl rfl rfl; (intro w' K hK; (first | go_big_op | go_wp2_with fail); exact hK))
        (apply wpG_p rfl rfl rfl rfl rfl; (intro w' K hK; (first | go_big_op | go_wp2_with fail); exact hK))
        (apply wpG_p rfl rfl rfl rfl rfl; (intro w' K hK; (first | go_big_op | go_wp2_with fail); exact hK))
        (apply wpG_p rfl rfl rfl rfl rfl; (intro w' K hK; (first | go_big_op | go_wp2_with fail); exact hK))
        (apply wpG_p rfl rfl rfl rfl rfl; (intro w' K hK; (first | go_big_op | go_wp2_with fail); exact hK))
        refine wpG_nil (fun w2 hB1 hG hD => ?_)
        clear hG
        (try clear hD)
        refine wpOrd_nil ?_
        have hb := hB1
        clear hB1
        have hs_w2 := hb.size
        (try simp at hs_w2)
        have hB_w2 : Below w.heap.size w w2 := below_then (w := w) (by with_reducible repeat (first | exact Below.refl _ _ | assumption | ((first | refine Below.alloc ?_ ?b_ _ | refine bw_set ?_ ?b_ | refine Below.setCell ?_ ?b_ _); case b_ => first | omega | (simp; done) | (simp; omega)) | refine Below.drew ?_ | refine below_drewN ?_ _)) (by first | omega | (simp; done) | (simp; omega) | (have hq_ := hb.size; omega)) hb
        clear hb
        go_wp2_with fail
        refine (within_any 16777216 [t - 1] _ 0 1 _ (by omega) (by omega) (by simp) (row_cells [t - 1] (rw_new (by simp)))).mono ?_
        rintro e w' ⟨rfl, rfl⟩
        rw [hw.out]
        go_wp2_with fail
        go_loopw [6, 7, 33] (fun v6 v7 i wr => QuoRel d (t - 1) (r + d) v6 v7 i ∧ Below w.heap.size w wr) (fun _ _ i _ => 2 - (intOf i).toNat)
        case atStart => exact ⟨Or.inl ⟨rfl, rfl, rfl⟩, (by with_reducible repeat (first | exact Below.refl _ _ | assumption | ((first | refine Below.alloc ?_ ?b_ _ | refine bw_set ?_ ?b_ | refine Below.setCell ?_ ?b_ _); case b_ => first | omega | (simp; done) | (simp; omega)) | refine Below.drew ?_ | refine below_drewN ?_ _))⟩
        case round =>
          obtain ⟨hR, hB⟩ := hrel
          rcases hR with ⟨rfl, rfl, rfl⟩ | ⟨rfl, rfl, rfl⟩ | ⟨rfl, rfl, rfl⟩
          · go_wp2_with fail
            refine wp_region_grow [(0, none), (1, none), (2, none), (3, none), (4, none), (5, none), (6, none), (7, none), (8, none), (9, none), (10, none)] .done ?g1_ ?g2_ ?g3_ ?_
            case g1_ => kernel_rfl
            case g2_ => kernel_rfl
            case g3_ => exact fun _ _ _ _ _ h => h
            (apply wpG_p rfl rfl rfl rfl rfl; (intro w' K hK; (first | go_big_op | go_wp2_with fail); exact hK))
            (apply wpG_p rfl rfl rfl rfl rfl; (intro w' K hK; (first | go_big_op | go_wp2_with fail); exact hK))
            (apply wpG_p rfl rfl rfl rfl rfl; (intro w' K hK; (first | go_big_op | go_wp2_with fail); exact hK))
            (apply wpG_p rfl rfl rfl rfl rfl; (intro w' K hK; (first | go_big_op | go_wp2_with fail); exact hK))
            (apply wpG_p rfl rfl rfl rfl rfl; (intro w' K hK; (first | go_big_op | go_wp2_with fail); exact hK))
            (apply wpG_p rfl rfl rfl rfl rfl; (intro w' K hK; (first | go_big_op | go_wp2_with fail); exact hK))
            (apply wpG_p rfl rfl rfl rfl rfl; (intro w' K hK; (first | go_big_op | go_wp2_with fail); exact hK))
            (apply wpG_p rfl rfl rfl rfl rfl; (intro w' K hK; (first | go_big_op | go_wp2_with fail); exact hK))
            (apply wpG_p rfl rfl rfl rfl rfl; (intro w' K hK; (first | go_big_op | go_wp2_with fail); exact hK))
            (apply wpG_p rfl rfl rfl rfl rfl; (intro w' K hK; (first | go_big_op | go_wp2_with fail); exact hK))
            (apply wpG_p rfl rfl rfl rfl rfl; (intro w' K hK; (first | go_big_op | go_wp2_with fail); exact hK))
            refine wpG_nil (fun wz hB1 hG hD => ?_)
            clear hG
            (try clear hD)
            refine wpOrd_nil ?_
            have hBz : Below w.heap.size w wz := below_then (Below.drew hB) (by have := hB.size; simp; omega) hB1
            go_wp2_with fail
            go_roundw
            case rel => exact ⟨Or.inr (Or.inl ⟨quo_eq _ _ (by first | rfl | (simp only [Int.mul_comm _ 256]; done) | (simp only [Int.mul_comm _ 256]; omega)), quo_eq _ _ (by first | rfl | (simp only [Int.mul_comm _ 256]; done) | (simp only [Int.mul_comm _ 256]; omega)), rfl⟩), hBz⟩
            case measure => simp [intOf]
          · go_wp2_with fail
            refine wp_region_grow [(0, none), (1, none), (2, none), (3, none), (4, none), (5, none), (6, none), (7, none), (8, none), (9, none), (10, none)] .done ?g1_ ?g2_ ?g3_ ?_
            case g1_ => kernel_rfl
            case g2_ => kernel_rfl
            case g3_ => exact fun _ _ _ _ _ h => h
            (apply wpG_p rfl rfl rfl rfl rfl; (intro w' K hK; (first | go_big_op | go_wp2_with fail); exact hK))
            (apply wpG_p rfl rfl rfl rfl rfl; (intro w' K hK; (first | go_big_op | go_wp2_with fail); exact hK))
            (apply wpG_p rfl rfl rfl rfl rfl; (intro w' K hK; (first | go_big_op | go_wp2_with fail); exact hK))
            (apply wpG_p rfl rfl rfl rfl rfl; (intro w' K hK; (first | go_big_op | go_wp2_with fail); exact hK))
            (apply wpG_p rfl rfl rfl rfl rfl; (intro w' K hK; (first | go_big_op | go_wp2_with fail); exact hK))
            (apply wpG_p rfl rfl rfl rfl rfl; (intro w' K hK; (first | go_big_op | go_wp2_with fail); exact hK))
            (apply wpG_p rfl rfl rfl rfl rfl; (intro w' K hK; (first | go_big_op | go_wp2_with fail); exact hK))
            (apply wpG_p rfl rfl rfl rfl rfl; (intro w' K hK; (first | go_big_op | go_wp2_with fail); exact hK))
            (apply wpG_p rfl rfl rfl rfl rfl; (intro w' K hK; (first | go_big_op | go_wp2_with fail); exact hK))
            (apply wpG_p rfl rfl rfl rfl rfl; (intro w' K hK; (first | go_big_op | go_wp2_with fail); exact hK))
            (apply wpG_p rfl rfl rfl rfl rfl; (intro w' K hK; (first | go_big_op | go_wp2_with fail); exact hK))
            refine wpG_nil (fun wz hB1 hG hD => ?_)
            clear hG
            (try clear hD)
            refine wpOrd_nil ?_
            have hBz : Below w.heap.size w wz := below_then (Below.drew hB) (by have := hB.size; simp; omega) hB1
            go_wp2_with fail
            go_roundw
            case rel => exact ⟨Or.inr (Or.inr ⟨quo_eq _ _ (by first | rfl | (simp only [Int.mul_comm _ 256]; done) | (simp only [Int.mul_comm _ 256]; omega)), quo_eq _ _ (by first | rfl | (simp only [Int.mul_comm _ 256]; done) | (simp only [Int.mul_comm _ 256]; omega)), rfl⟩), hBz⟩
            case measure => simp [intOf]
          · go_wp2_with fail
            exact bodyPost_ret (v := .tuple #[.int .i64 _, .bool true]) (by simp [results, Try.results60, go_sem]) rfl ⟨rfl, hB⟩
    · have hwf : withinB 16777216 [t - 1] = false := by simpa using hw
      rw [hqb.trans hwf, if_neg (by decide)] at hqv
      have hqb := Lib.hid (hqb.trans hwf)
      have hw := Lib.hid hwf
      have hqv := Lib.hid hqv
      clear hwf
      rw [hqv.out, hqb.out]
      go_enter Try.func60, Try.ntmps60
      go_wp2_with fail
      refine wp_region_grow [(0, none), (1, none), (2, none), (3, none)] .done ?g1_ ?g2_ ?g3_ ?_
      case g1_ => kernel_rfl
      case g2_ => kernel_rfl
      case g3_ => exact fun _ _ _ _ _ h => h
      (apply wpG_p rfl rfl rfl rfl rfl; (intro w' K hK; (first | go_big_op | go_wp2_with fail); exact hK))
      (apply wpG_l rfl rfl rfl rfl rfl; (intro w' K hC hK; (have hr' := hC.old; simp at hr'); (first | go_big_op | go_wp2_with fail); exact hK); (case he => first | rfl | (simp [Act.put, *]; done)))
      (apply wpG_p rfl rfl rfl rfl rfl; (intro w' K hK; (first | go_big_op | go_wp2_with fail); exact hK))
      (apply wpG_p rfl rfl rfl rfl rfl; (intro w' K hK; (first | go_big_op | go_wp2_with fail); exact hK))
      refine wpG_nil (fun w1 hB1 hG hD => ?_)
      clear hG
      (try clear hD)
      refine wpOrd_nil ?_
      have hb := hB1
      clear hB1
      have hs_w1 := hb.size
      (try simp at hs_w1)
      have hB_w1 : Below w.heap.size w w1 := below_then (w := w) (by with_reducible repeat (first | exact Below.refl _ _ | assumption | ((first | refine Below.alloc ?_ ?b_ _ | refine bw_set ?_ ?b_ | refine Below.setCell ?_ ?b_ _); case b_ => first | omega | (simp; done) | (simp; omega)) | refine Below.drew ?_ | refine below_drewN ?_ _)) (by first | omega | (simp; done) | (simp; omega) | (have hq_ := hb.size; omega)) hb
      have hx_ := rw_below (k := b) hb (by with_reducible repeat (first | assumption | (refine rw_new ?e_; case e_ => first | rfl | (simp; done) | (simp; omega)) | apply rw_self | (apply rw_other; case hn => first | omega | (simp; omega)) | apply rw_alloc | apply rw_drew | apply rw_drewN))
      (try clear hcl)
      have hcl := hx_
      clear hx_
      clear hb
      go_wp2_with fail
      refine wp_region_grow [(0, none), (1, none), (2, none), (3, none), (4, none), (5, none), (6, none), (7, none)] .done ?g1_ ?g2_ ?g3_ ?_
      case g1_ => kernel_rfl
      case g2_ => kernel_rfl
      case g3_ => exact fun _ _ _ _ _ h => h
      (apply wpG_p rfl rfl rfl rfl rfl; (intro w' K hK; (first | go_big_op | go_wp2_with fail); exact hK))
      (apply wpG_p rfl rfl rfl rfl rfl; (intro w' K hK; (first | go_big_op | go_wp2_with fail); exact hK))
      (apply wpG_p rfl rfl rfl rfl rfl; (intro w' K hK; (first | go_big_op | go_wp2_with fail); exact hK))
      (apply wpG_p rfl rfl rfl rfl rfl; (intro w' K hK; (first | go_big_op | go_wp2_with fail); exact hK))
      (apply wpG_p rfl rfl rfl rfl rfl; (intro w' K hK; (first | go_big_op | go_wp2_with fail); exact hK))
      (apply wpG_p rfl rfl rfl rfl rfl; (intro w' K hK; (first | go_big_op | go_wp2_with fail); exact hK))
      (apply wpG_p rfl rfl rfl rfl rfl; (intro w' K hK; (first | go_big_op | go_wp2_with fail); exact hK))
      (apply wpG_p rfl rfl rfl rfl rfl; (intro w' K hK; (first | go_big_op | go_wp2_with fail); exact hK))
      refine wpG_nil (fun w2 hB1 hG hD => ?_)
      clear hG
      (try clear hD)
      refine wpOrd_nil ?_
      have hb := hB1
      clear hB1
      have hs_w2 := hb.size
      (try simp at hs_w2)
      have hB_w2 : Below w.heap.size w w2 := below_then (w := w) (by with_reducible repeat (first | exact Below.refl _ _ | assumption | ((first | refine Below.alloc ?_ ?b_ _ | refine bw_set ?_ ?b_ | refine Below.setCell ?_ ?b_ _); case b_ => first | omega | (simp; done) | (simp; omega)) | refine Below.drew ?_ | refine below_drewN ?_ _)) (by first | omega | (simp; done) | (simp; omega) | (have hq_ := hb.size; omega)) hb
      clear hb
      go_wp2_with fail
      refine (within_any 16777216 [t - 1] _ 0 1 _ (by omega) (by omega) (by simp) (row_cells [t - 1] (rw_new (by simp)))).mono ?_
      rintro e w' ⟨rfl, rfl⟩
      rw [hw.out]
      go_wp2_with fail
      exact bodyPost_ret (v := .tuple #[.int .i64 0, .bool false]) (by simp [results, Try.results60, go_sem]) rfl ⟨rfl, (by with_reducible repeat (first | exact Below.refl _ _ | assumption | ((first | refine Below.alloc ?_ ?b_ _ | refine bw_set ?_ ?b_ | refine Below.setCell ?_ ?b_ _); case b_ => first | omega | (simp; done) | (simp; omega)) | refine Below.drew ?_ | refine below_drewN ?_ _))⟩
  · skip
    obtain ⟨g1, g2⟩ := f2 hn
    have hch := qt_chain n d hd
    have hqb : qtB n d = withinB 16777216 [t] := by rw [qtB, g1]
    have hqv := show qtV n d = if qtB n d = true then (65536 * n) / d + (if d ≤ 2 * ((65536 * n) % d) then 1 else 0) else 0 from rfl
    rw [g1, g2] at hch
    rw [← hch.1, ← hch.2] at hqv
    simp only [Int.mul_comm 256] at hqv
    clear f1 f2 g1 g2 hch
    by_cases hw : withinB 16777216 [t] = true
    · have q1 : -16777216 ≤ t ∧ t ≤ 16777216 := by simpa [withinB] using hw
      obtain ⟨q1, q2⟩ := q1
      rw [hqb.trans hw, if_pos rfl] at hqv
      have hqb := Lib.hid (hqb.trans hw)
      have hw := Lib.hid hw
      obtain ⟨a1, a2, a3, a4⟩ := step_bd r d (by omega) (by omega)
      obtain ⟨b1, b2, b3, b4⟩ := step_bd (r * 256 % d) d a3 a4
      by_cases hc : d ≤ 2 * (r * 256 % d * 256 % d)
      · rw [if_pos hc] at hqv
        have hqv := Lib.hid hqv
        rw [hqv.out, hqb.out]
        go_enter Try.func60, Try.ntmps60
        go_wp2_with fail
        refine wp_region_grow [(0, none), (1, none), (2, none), (3, none)] .done ?g1_ ?g2_ ?g3_ ?_
        case g1_ => kernel_rfl
        case g2_ => kernel_rfl
        case g3_ => exact fun _ _ _ _ _ h => h
        (apply wpG_p rfl rfl rfl rfl rfl; (intro w' K hK; (first | go_big_op | go_wp2_with fail); exact hK))
        (apply wpG_l rfl rfl rfl rfl rfl; (intro w' K hC hK; (have hr' := hC.old; simp at hr'); (first | go_big_op | go_wp2_with fail); exact hK); (case he => first | rfl | (simp [Act.put, *]; done)))
        (apply wpG_p rfl rfl rfl rfl rfl; (intro w' K hK; (first | go_big_op | go_wp2_with fail); exact hK))
        (apply wpG_p rfl rfl rfl rfl rfl; (intro w' K hK; (first | go_big_op | go_wp2_with fail); exact hK))
        refine wpG_nil (fun w1 hB1 hG hD => ?_)
        clear hG
        (try clear hD)
        refine wpOrd_nil ?_
        have hb := hB1
        clear hB1
        have hs_w1 := hb.size
        (try simp at hs_w1)
        have hB_w1 : Below w.heap.size w w1 := below_then (w := w) (by with_reducible repeat (first | exact Below.refl _ _ | assumption | ((first | refine Below.alloc ?_ ?b_ _ | refine bw_set ?_ ?b_ | refine Below.setCell ?_ ?b_ _); case b_ => first | omega | (simp; done) | (simp; omega)) | refine Below.drew ?_ | refine below_drewN ?_ _)) (by first | omega | (simp; done) | (simp; omega) | (have hq_ := hb.size; omega)) hb
        have hx_ := rw_below (k := b) hb (by with_reducible repeat (first | assumption | (refine rw_new ?e_; case e_ => first | rfl | (simp; done) | (simp; omega)) | apply rw_self | (apply rw_other; case hn => first | omega | (simp; omega)) | apply rw_alloc | apply rw_drew | apply rw_drewN))
        (try clear hcl)
        have hcl := hx_
        clear hx_
        clear hb
        go_wp2_with fail
        refine wp_region_grow [(0, none), (1, none), (2, none), (3, none), (4, none), (5, none), (6, none), (7, none)] .done ?g1_ ?g2_ ?g3_ ?_
        case g1_ => kernel_rfl
        case g2_ => kernel_rfl
        case g3_ => exact fun _ _ _ _ _ h => h
        (apply wpG_p rfl rfl rfl rfl rfl; (intro w' K hK; (first | go_big_op | go_wp2_with fail); exact hK))
        (apply wpG_p rfl rfl rfl rfl rfl; (intro w' K hK; (first | go_big_op | go_wp2_with fail); exact hK))
        (apply wpG_p rfl rfl rfl rfl rfl; (intro w' K hK; (first | go_big_op | go_wp2_with fail); exact hK))
        (apply wpG_p rfl rfl rfl rfl rfl; (intro w' K hK; (first | go_big_op | go_wp2_with fail); exact hK))
        (apply wpG_p rfl rfl rfl rfl rfl; (intro w' K hK; (first | go_big_op | go_wp2_with fail); exact hK))
        (apply wpG_p rfl rfl rfl rfl rfl; (intro w' K hK; (first | go_big_op | go_wp2_with fail); exact hK))
        (apply wpG_p rfl rfl rfl rfl rfl; (intro w' K hK; (first | go_big_op | go_wp2_with fail); exact hK))
        (apply wpG_p rfl rfl rfl rfl rfl; (intro w' K hK; (first | go_big_op | go_wp2_with fail); exact hK))
        refine wpG_nil (fun w2 hB1 hG hD => ?_)
        clear hG
        (try clear hD)
        refine wpOrd_nil ?_
        have hb := hB1
        clear hB1
        have hs_w2 := hb.size
        (try simp at hs_w2)
        have hB_w2 : Below w.heap.size w w2 := below_then (w := w) (by with_reducible repeat (first | exact Below.refl _ _ | assumption | ((first | refine Below.alloc ?_ ?b_ _ | refine bw_set ?_ ?b_ | refine Below.setCell ?_ ?b_ _); case b_ => first | omega | (simp; done) | (simp; omega)) | refine Below.drew ?_ | refine below_drewN ?_ _)) (by first | omega | (simp; done) | (simp; omega) | (have hq_ := hb.size; omega)) hb
        clear hb
        go_wp2_with fail
        refine (within_any 16777216 [t] _ 0 1 _ (by omega) (by omega) (by simp) (row_cells [t] (rw_new (by simp)))).mono ?_
        rintro e w' ⟨rfl, rfl⟩
        rw [hw.out]
        go_wp2_with fail
        go_loopw [6, 7, 33] (fun v6 v7 i wr => QuoRel d t r v6 v7 i ∧ Below w.heap.size w wr) (fun _ _ i _ => 2 - (intOf i).toNat)
        case atStart => exact ⟨Or.inl ⟨rfl, rfl, rfl⟩, (by with_reducible repeat (first | exact Below.refl _ _ | assumption | ((first | refine Below.alloc ?_ ?b_ _ | refine bw_set ?_ ?b_ | refine Below.setCell ?_ ?b_ _); case b_ => first | omega | (simp; done) | (simp; omega)) | refine Below.drew ?_ | refine below_drewN ?_ _))⟩
        case round =>
          obtain ⟨hR, hB⟩ := hrel
          rcases hR with ⟨rfl, rfl, rfl⟩ | ⟨rfl, rfl, rfl⟩ | ⟨rfl, rfl, rfl⟩
          · go_wp2_with fail
            refine wp_region_grow [(0, none), (1, none), (2, none), (3, none), (4, none), (5, none), (6, none), (7, none), (8, none), (9, none), (10, none)] .done ?g1_ ?g2_ ?g3_ ?_
            case g1_ => kernel_rfl
            case g2_ => kernel_rfl
            case g3_ => exact fun _ _ _ _ _ h => h
            (apply wpG_p rfl rfl rfl rfl rfl; (intro w' K hK; (first | go_big_op | go_wp2_with fail); exact hK))
            (apply wpG_p rfl rfl rfl rfl rfl; (intro w' K hK; (first | go_big_op | go_wp2_with fail); exact hK))
            (apply wpG_p rfl rfl rfl rfl rfl; (intro w' K hK; (first | go_big_op | go_wp2_with fail); exact hK))
            (apply wpG_p rfl rfl rfl rfl rfl; (intro w' K hK; (first | go_big_op | go_wp2_with fail); exact hK))
            (apply wpG_p rfl rfl rfl rfl rfl; (intro w' K hK; (first | go_big_op | go_wp2_with fail); exact hK))
            (apply wpG_p rfl rfl rfl rfl rfl; (intro w' K hK; (first | go_big_op | go_wp2_with fail); exact hK))
            (apply wpG_p rfl rfl rfl rfl rfl; (intro w' K hK; (first | go_big_op | go_wp2_with fail); exact hK))
            (apply wpG_p rfl rfl rfl rfl rfl; (intro w' K hK; (first | go_big_op | go_wp2_with fail); exact hK))
            (apply wpG_p rfl rfl rfl rfl rfl; (intro w' K hK; (first | go_big_op | go_wp2_with fail); exact hK))
            (apply wpG_p rfl rfl rfl rfl rfl; (intro w' K hK; (first | go_big_op | go_wp2_with fail); exact hK))
            (apply wpG_p rfl rfl rfl rfl rfl; (intro w' K hK; (first | go_big_op | go_wp2_with fail); exact hK))
            refine wpG_nil (fun wz hB1 hG hD => ?_)
            clear hG
            (try clear hD)
            refine wpOrd_nil ?_
            have hBz : Below w.heap.size w wz := below_then (Below.drew hB) (by have := hB.size; simp; omega) hB1
            go_wp2_with fail
            go_roundw
            case rel => exact ⟨Or.inr (Or.inl ⟨quo_eq _ _ (by first | rfl | (simp only [Int.mul_comm _ 256]; done) | (simp only [Int.mul_comm _ 256]; omega)), quo_eq _ _ (by first | rfl | (simp only [Int.mul_comm _ 256]; done) | (simp only [Int.mul_comm _ 256]; omega)), rfl⟩), hBz⟩
            case measure => simp [intOf]
          · go_wp2_with fail
            refine wp_region_grow [(0, none), (1, none), (2, none), (3, none), (4, none), (5, none), (6, none), (7, none), (8, none), (9, none), (10, none)] .done ?g1_ ?g2_ ?g3_ ?_
            case g1_ => kernel_rfl
            case g2_ => kernel_rfl
            case g3_ => exact fun _ _ _ _ _ h => h
            (apply wpG_p rfl rfl rfl rfl rfl; (intro w' K hK; (first | go_big_op | go_wp2_with fail); exact hK))
            (apply wpG_p rfl rfl rfl rfl rfl; (intro w' K hK; (first | go_big_op | go_wp2_with fail); exact hK))
            (apply wpG_p rfl rfl rfl rfl rfl; (intro w' K hK; (first | go_big_op | go_wp2_with fail); exact hK))
            (apply wpG_p rfl rfl rfl rfl rfl; (intro w' K hK; (first | go_big_op | go_wp2_with fail); exact hK))
            (apply wpG_p rfl rfl rfl rfl rfl; (intro w' K hK; (first | go_big_op | go_wp2_with fail); exact hK))
            (apply wpG_p rfl rfl rfl rfl rfl; (intro w' K hK; (first | go_big_op | go_wp2_with fail); exact hK))
            (apply wpG_p rfl rfl rfl rfl rfl; (intro w' K hK; (first | go_big_op | go_wp2_with fail); exact hK))
            (apply wpG_p rfl rfl rfl rfl rfl; (intro w' K hK; (first | go_big_op | go_wp2_with fail); exact hK))
            (apply wpG_p rfl rfl rfl rfl rfl; (intro w' K hK; (first | go_big_op | go_wp2_with fail); exact hK))
            (apply wpG_p rfl rfl rfl rfl rfl; (intro w' K hK; (first | go_big_op | go_wp2_with fail); exact hK))
            (apply wpG_p rfl rfl rfl rfl rfl; (intro w' K hK; (first | go_big_op | go_wp2_with fail); exact hK))
            refine wpG_nil (fun wz hB1 hG hD => ?_)
            clear hG
            (try clear hD)
            refine wpOrd_nil ?_
            have hBz : Below w.heap.size w wz := below_then (Below.drew hB) (by have := hB.size; simp; omega) hB1
            go_wp2_with fail
            go_roundw
            case rel => exact ⟨Or.inr (Or.inr ⟨quo_eq _ _ (by first | rfl | (simp only [Int.mul_comm _ 256]; done) | (simp only [Int.mul_comm _ 256]; omega)), quo_eq _ _ (by first | rfl | (simp only [Int.mul_comm _ 256]; done) | (simp only [Int.mul_comm _ 256]; omega)), rfl⟩), hBz⟩
            case measure => simp [intOf]
          · go_wp2_with fail
            exact bodyPost_ret (v := .tuple #[.int .i64 _, .bool true]) (by simp [results, Try.results60, go_sem]) rfl ⟨rfl, hB⟩
      · rw [if_neg hc] at hqv
        have hqv := Lib.hid hqv
        rw [hqv.out, hqb.out]
        go_enter Try.func60, Try.ntmps60
        go_wp2_with fail
        refine wp_region_grow [(0, none), (1, none), (2, none), (3, none)] .done ?g1_ ?g2_ ?g3_ ?_
        case g1_ => kernel_rfl
        case g2_ => kernel_rfl
        case g3_ => exact fun _ _ _ _ _ h => h
        (apply wpG_p rfl rfl rfl rfl rfl; (intro w' K hK; (first | go_big_op | go_wp2_with fail); exact hK))
        (apply wpG_l rfl rfl rfl rfl rfl; (intro w' K hC hK; (have hr' := hC.old; simp at hr'); (first | go_big_op | go_wp2_with fail); exact hK); (case he => first | rfl | (simp [Act.put, *]; done)))
        (apply wpG_p rfl rfl rfl rfl rfl; (intro w' K hK; (first | go_big_op | go_wp2_with fail); exact hK))
        (apply wpG_p rfl rfl rfl rfl rfl; (intro w' K hK; (first | go_big_op | go_wp2_with fail); exact hK))
        refine wpG_nil (fun w1 hB1 hG hD => ?_)
        clear hG
        (try clear hD)
        refine wpOrd_nil ?_
        have hb := hB1
        clear hB1
        have hs_w1 := hb.size
        (try simp at hs_w1)
        have hB_w1 : Below w.heap.size w w1 := below_then (w := w) (by with_reducible repeat (first | exact Below.refl _ _ | assumption | ((first | refine Below.alloc ?_ ?b_ _ | refine bw_set ?_ ?b_ | refine Below.setCell ?_ ?b_ _); case b_ => first | omega | (simp; done) | (simp; omega)) | refine Below.drew ?_ | refine below_drewN ?_ _)) (by first | omega | (simp; done) | (simp; omega) | (have hq_ := hb.size; omega)) hb
        have hx_ := rw_below (k := b) hb (by with_reducible repeat (first | assumption | (refine rw_new ?e_; case e_ => first | rfl | (simp; done) | (simp; omega)) | apply rw_self | (apply rw_other; case hn => first | omega | (simp; omega)) | apply rw_alloc | apply rw_drew | apply rw_drewN))
        (try clear hcl)
        have hcl := hx_
        clear hx_
        clear hb
        go_wp2_with fail
        refine wp_region_grow [(0, none), (1, none), (2, none), (3, none), (4, none), (5, none), (6, none), (7, none)] .done ?g1_ ?g2_ ?g3_ ?_
        case g1_ => kernel_rfl
        case g2_ => kernel_rfl
        case g3_ => exact fun _ _ _ _ _ h => h
        (apply wpG_p rfl rfl rfl rfl rfl; (intro w' K hK; (first | go_big_op | go_wp2_with fail); exact hK))
        (apply wpG_p rfl rfl rfl rfl rfl; (intro w' K hK; (first | go_big_op | go_wp2_with fail); exact hK))
        (apply wpG_p rfl rfl rfl rfl rfl; (intro w' K hK; (first | go_big_op | go_wp2_with fail); exact hK))
        (apply wpG_p rfl rfl rfl rfl rfl; (intro w' K hK; (first | go_big_op | go_wp2_with fail); exact hK))
        (apply wpG_p rfl rfl rfl rfl rfl; (intro w' K hK; (first | go_big_op | go_wp2_with fail); exact hK))
        (apply wpG_p rfl rfl rfl rfl rfl; (intro w' K hK; (first | go_big_op | go_wp2_with fail); exact hK))
        (apply wpG_p rfl rfl rfl rfl rfl; (intro w' K hK; (first | go_big_op | go_wp2_with fail); exact hK))
        (apply wpG_p rfl rfl rfl rfl rfl; (intro w' K hK; (first | go_big_op | go_wp2_with fail); exact hK))
        refine wpG_nil (fun w2 hB1 hG hD => ?_)
        clear hG
        (try clear hD)
        refine wpOrd_nil ?_
        have hb := hB1
        clear hB1
        have hs_w2 := hb.size
        (try simp at hs_w2)
        have hB_w2 : Below w.heap.size w w2 := below_then (w := w) (by with_reducible repeat (first | exact Below.refl _ _ | assumption | ((first | refine Below.alloc ?_ ?b_ _ | refine bw_set ?_ ?b_ | refine Below.setCell ?_ ?b_ _); case b_ => first | omega | (simp; done) | (simp; omega)) | refine Below.drew ?_ | refine below_drewN ?_ _)) (by first | omega | (simp; done) | (simp; omega) | (have hq_ := hb.size; omega)) hb
        clear hb
        go_wp2_with fail
        refine (within_any 16777216 [t] _ 0 1 _ (by omega) (by omega) (by simp) (row_cells [t] (rw_new (by simp)))).mono ?_
        rintro e w' ⟨rfl, rfl⟩
        rw [hw.out]
        go_wp2_with fail
        go_loopw [6, 7, 33] (fun v6 v7 i wr => QuoRel d t r v6 v7 i ∧ Below w.heap.size w wr) (fun _ _ i _ => 2 - (intOf i).toNat)
        case atStart => exact ⟨Or.inl ⟨rfl, rfl, rfl⟩, (by with_reducible repeat (first | exact Below.refl _ _ | assumption | ((first | refine Below.alloc ?_ ?b_ _ | refine bw_set ?_ ?b_ | refine Below.setCell ?_ ?b_ _); case b_ => first | omega | (simp; done) | (simp; omega)) | refine Below.drew ?_ | refine below_drewN ?_ _))⟩
        case round =>
          obtain ⟨hR, hB⟩ := hrel
          rcases hR with ⟨rfl, rfl, rfl⟩ | ⟨rfl, rfl, rfl⟩ | ⟨rfl, rfl, rfl⟩
          · go_wp2_with fail
            refine wp_region_grow [(0, none), (1, none), (2, none), (3, none), (4, none), (5, none), (6, none), (7, none), (8, none), (9, none), (10, none)] .done ?g1_ ?g2_ ?g3_ ?_
            case g1_ => kernel_rfl
            case g2_ => kernel_rfl
            case g3_ => exact fun _ _ _ _ _ h => h
            (apply wpG_p rfl rfl rfl rfl rfl; (intro w' K hK; (first | go_big_op | go_wp2_with fail); exact hK))
            (apply wpG_p rfl rfl rfl rfl rfl; (intro w' K hK; (first | go_big_op | go_wp2_with fail); exact hK))
            (apply wpG_p rfl rfl rfl rfl rfl; (intro w' K hK; (first | go_big_op | go_wp2_with fail); exact hK))
            (apply wpG_p rfl rfl rfl rfl rfl; (intro w' K hK; (first | go_big_op | go_wp2_with fail); exact hK))
            (apply wpG_p rfl rfl rfl rfl rfl; (intro w' K hK; (first | go_big_op | go_wp2_with fail); exact hK))
            (apply wpG_p rfl rfl rfl rfl rfl; (intro w' K hK; (first | go_big_op | go_wp2_with fail); exact hK))
            (apply wpG_p rfl rfl rfl rfl rfl; (intro w' K hK; (first | go_big_op | go_wp2_with fail); exact hK))
            (apply wpG_p rfl rfl rfl rfl rfl; (intro w' K hK; (first | go_big_op | go_wp2_with fail); exact hK))
            (apply wpG_p rfl rfl rfl rfl rfl; (intro w' K hK; (first | go_big_op | go_wp2_with fail); exact hK))
            (apply wpG_p rfl rfl rfl rfl rfl; (intro w' K hK; (first | go_big_op | go_wp2_with fail); exact hK))
            (apply wpG_p rfl rfl rfl rfl rfl; (intro w' K hK; (first | go_big_op | go_wp2_with fail); exact hK))
            refine wpG_nil (fun wz hB1 hG hD => ?_)
            clear hG
            (try clear hD)
            refine wpOrd_nil ?_
            have hBz : Below w.heap.size w wz := below_then (Below.drew hB) (by have := hB.size; simp; omega) hB1
            go_wp2_with fail
            go_roundw
            case rel => exact ⟨Or.inr (Or.inl ⟨quo_eq _ _ (by first | rfl | (simp only [Int.mul_comm _ 256]; done) | (simp only [Int.mul_comm _ 256]; omega)), quo_eq _ _ (by first | rfl | (simp only [Int.mul_comm _ 256]; done) | (simp only [Int.mul_comm _ 256]; omega)), rfl⟩), hBz⟩
            case measure => simp [intOf]
          · go_wp2_with fail
            refine wp_region_grow [(0, none), (1, none), (2, none), (3, none), (4, none), (5, none), (6, none), (7, none), (8, none), (9, none), (10, none)] .done ?g1_ ?g2_ ?g3_ ?_
            case g1_ => kernel_rfl
            case g2_ => kernel_rfl
            case g3_ => exact fun _ _ _ _ _ h => h
            (apply wpG_p rfl rfl rfl rfl rfl; (intro w' K hK; (first | go_big_op | go_wp2_with fail); exact hK))
            (apply wpG_p rfl rfl rfl rfl rfl; (intro w' K hK; (first | go_big_op | go_wp2_with fail); exact hK))
            (apply wpG_p rfl rfl rfl rfl rfl; (intro w' K hK; (first | go_big_op | go_wp2_with fail); exact hK))
            (apply wpG_p rfl rfl rfl rfl rfl; (intro w' K hK; (first | go_big_op | go_wp2_with fail); exact hK))
            (apply wpG_p rfl rfl rfl rfl rfl; (intro w' K hK; (first | go_big_op | go_wp2_with fail); exact hK))
            (apply wpG_p rfl rfl rfl rfl rfl; (intro w' K hK; (first | go_big_op | go_wp2_with fail); exact hK))
            (apply wpG_p rfl rfl rfl rfl rfl; (intro w' K hK; (first | go_big_op | go_wp2_with fail); exact hK))
            (apply wpG_p rfl rfl rfl rfl rfl; (intro w' K hK; (first | go_big_op | go_wp2_with fail); exact hK))
            (apply wpG_p rfl rfl rfl rfl rfl; (intro w' K hK; (first | go_big_op | go_wp2_with fail); exact hK))
            (apply wpG_p rfl rfl rfl rfl rfl; (intro w' K hK; (first | go_big_op | go_wp2_with fail); exact hK))
            (apply wpG_p rfl rfl rfl rfl rfl; (intro w' K hK; (first | go_big_op | go_wp2_with fail); exact hK))
            refine wpG_nil (fun wz hB1 hG hD => ?_)
            clear hG
            (try clear hD)
            refine wpOrd_nil ?_
            have hBz : Below w.heap.size w wz := below_then (Below.drew hB) (by have := hB.size; simp; omega) hB1
            go_wp2_with fail
            go_roundw
            case rel => exact ⟨Or.inr (Or.inr ⟨quo_eq _ _ (by first | rfl | (simp only [Int.mul_comm _ 256]; done) | (simp only [Int.mul_comm _ 256]; omega)), quo_eq _ _ (by first | rfl | (simp only [Int.mul_comm _ 256]; done) | (simp only [Int.mul_comm _ 256]; omega)), rfl⟩), hBz⟩
            case measure => simp [intOf]
          · go_wp2_with fail
            exact bodyPost_ret (v := .tuple #[.int .i64 _, .bool true]) (by simp [results, Try.results60, go_sem]) rfl ⟨rfl, hB⟩
    · have hwf : withinB 16777216 [t] = false := by simpa using hw
      rw [hqb.trans hwf, if_neg (by decide)] at hqv
      have hqb := Lib.hid (hqb.trans hwf)
      have hw := Lib.hid hwf
      have hqv := Lib.hid hqv
      clear hwf
      rw [hqv.out, hqb.out]
      go_enter Try.func60, Try.ntmps60
      go_wp2_with fail
      refine wp_region_grow [(0, none), (1, none), (2, none), (3, none)] .done ?g1_ ?g2_ ?g3_ ?_
      case g1_ => kernel_rfl
      case g2_ => kernel_rfl
      case g3_ => exact fun _ _ _ _ _ h => h
      (apply wpG_p rfl rfl rfl rfl rfl; (intro w' K hK; (first | go_big_op | go_wp2_with fail); exact hK))
      (apply wpG_l rfl rfl rfl rfl rfl; (intro w' K hC hK; (have hr' := hC.old; simp at hr'); (first | go_big_op | go_wp2_with fail); exact hK); (case he => first | rfl | (simp [Act.put, *]; done)))
      (apply wpG_p rfl rfl rfl rfl rfl; (intro w' K hK; (first | go_big_op | go_wp2_with fail); exact hK))
      (apply wpG_p rfl rfl rfl rfl rfl; (intro w' K hK; (first | go_big_op | go_wp2_with fail); exact hK))
      refine wpG_nil (fun w1 hB1 hG hD => ?_)
      clear hG
      (try clear hD)
      refine wpOrd_nil ?_
      have hb := hB1
      clear hB1
      have hs_w1 := hb.size
      (try simp at hs_w1)
      have hB_w1 : Below w.heap.size w w1 := below_then (w := w) (by with_reducible repeat (first | exact Below.refl _ _ | assumption | ((first | refine Below.alloc ?_ ?b_ _ | refine bw_set ?_ ?b_ | refine Below.setCell ?_ ?b_ _); case b_ => first | omega | (simp; done) | (simp; omega)) | refine Below.drew ?_ | refine below_drewN ?_ _)) (by first | omega | (simp; done) | (simp; omega) | (have hq_ := hb.size; omega)) hb
      have hx_ := rw_below (k := b) hb (by with_reducible repeat (first | assumption | (refine rw_new ?e_; case e_ => first | rfl | (simp; done) | (simp; omega)) | apply rw_self | (apply rw_other; case hn => first | omega | (simp; omega)) | apply rw_alloc | apply rw_drew | apply rw_drewN))
      (try clear hcl)
      have hcl := hx_
      clear hx_
      clear hb
      go_wp2_with fail
      refine wp_region_grow [(0, none), (1, none), (2, none), (3, none), (4, none), (5, none), (6, none), (7, none)] .done ?g1_ ?g2_ ?g3_ ?_
      case g1_ => kernel_rfl
      case g2_ => kernel_rfl
      case g3_ => exact fun _ _ _ _ _ h => h
      (apply wpG_p rfl rfl rfl rfl rfl; (intro w' K hK; (first | go_big_op | go_wp2_with fail); exact hK))
      (apply wpG_p rfl rfl rfl rfl rfl; (intro w' K hK; (first | go_big_op | go_wp2_with fail); exact hK))
      (apply wpG_p rfl rfl rfl rfl rfl; (intro w' K hK; (first | go_big_op | go_wp2_with fail); exact hK))
      (apply wpG_p rfl rfl rfl rfl rfl; (intro w' K hK; (first | go_big_op | go_wp2_with fail); exact hK))
      (apply wpG_p rfl rfl rfl rfl rfl; (intro w' K hK; (first | go_big_op | go_wp2_with fail); exact hK))
      (apply wpG_p rfl rfl rfl rfl rfl; (intro w' K hK; (first | go_big_op | go_wp2_with fail); exact hK))
      (apply wpG_p rfl rfl rfl rfl rfl; (intro w' K hK; (first | go_big_op | go_wp2_with fail); exact hK))
      (apply wpG_p rfl rfl rfl rfl rfl; (intro w' K hK; (first | go_big_op | go_wp2_with fail); exact hK))
      refine wpG_nil (fun w2 hB1 hG hD => ?_)
      clear hG
      (try clear hD)
      refine wpOrd_nil ?_
      have hb := hB1
      clear hB1
      have hs_w2 := hb.size
      (try simp at hs_w2)
      have hB_w2 : Below w.heap.size w w2 := below_then (w := w) (by with_reducible repeat (first | exact Below.refl _ _ | assumption | ((first | refine Below.alloc ?_ ?b_ _ | refine bw_set ?_ ?b_ | refine Below.setCell ?_ ?b_ _); case b_ => first | omega | (simp; done) | (simp; omega)) | refine Below.drew ?_ | refine below_drewN ?_ _)) (by first | omega | (simp; done) | (simp; omega) | (have hq_ := hb.size; omega)) hb
      clear hb
      go_wp2_with fail
      refine (within_any 16777216 [t] _ 0 1 _ (by omega) (by omega) (by simp) (row_cells [t] (rw_new (by simp)))).mono ?_
      rintro e w' ⟨rfl, rfl⟩
      rw [hw.out]
      go_wp2_with fail
      exact bodyPost_ret (v := .tuple #[.int .i64 0, .bool false]) (by simp [results, Try.results60, go_sem]) rfl ⟨rfl, (by with_reducible repeat (first | exact Below.refl _ _ | assumption | ((first | refine Below.alloc ?_ ?b_ _ | refine bw_set ?_ ?b_ | refine Below.setCell ?_ ?b_ _); case b_ => first | omega | (simp; done) | (simp; omega)) | refine Below.drew ?_ | refine below_drewN ?_ _))⟩
def sgn (d n : Int) : Int := if d < 0 then -n else n
def qaB (n d : Int) : Bool := qtB (sgn d n) (sgn d d)
def qaV (n d : Int) : Int := qtV (sgn d n) (sgn d d)
theorem mquo_any (n d : Int) (b : Nat) (w : World) (hcl : w.heap[b]? = some (.cells #[.int .i64 d] 3 (0, 0))) (hd : ¬ d = 0) (hd1 : -1125899906842624 ≤ d) (hd2 : d ≤ 1125899906842624) (h1 : -1152921504606846976 ≤ n) (h2 : n ≤ 1152921504606846976) :
    Calls Try.prog 60 #[.int .i64 n, .pointer (some ⟨b, 0, none⟩)] w fun e w' => e = .returned (.tuple #[.int .i64 (qaV n d), .bool (qaB n d)]) ∧ Below w.heap.size w w' := by
  unfold qaV qaB sgn
  by_cases c : d < 0
  · rw [if_pos c, if_pos c]
    obtain ⟨d', hd'⟩ : ∃ d', d' = -d := ⟨_, rfl⟩
    obtain ⟨n', hn'⟩ : ∃ n', n' = -n := ⟨_, rfl⟩
    have e1 : d = -d' := by omega
    have e2 : n = -n' := by omega
    rw [← hd', ← hn']
    subst e1
    subst e2
    exact mquo_neg n' d' b w hcl (by omega) (by omega) (by omega) (by omega)
  · rw [if_neg c, if_neg c]
    exact mquo_pos n d b w hcl (by omega) hd2 h1 h2
end Go.Proofs.Ytpgaibkjokoanaa.T3
