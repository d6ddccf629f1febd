/- The reference's Right and Names. -/
import Derived.Test.YticbjpficaaaiaaObjG1
import Derived.Test.YticbjpficaaaiaaObjG2
import Derived.Test.YticbjpficaaaiaaObjG3
import Derived.Test.YticbjpficaaaiaaObjG4
import Derived.WalkKit
import Derived.Lib.Hide
import Derived.Deep.QuietTactic
import Derived.BigQuiet
import Derived.Lib.QuietBelow
import Derived.Deep.RegionHeld3
import Derived.WalkLawsBesides
import Derived.WalkSpells
import Derived.Outline
import Derived.Deep.DeepFit
import Derived.Maps.AppendAt
import Derived.Deep.AppendLies
namespace Go.Proofs.Yticbjpficaaaiaa.T3
set_option linter.unusedSimpArgs false
set_option linter.unusedVariables false
open Go.RowKit
set_option maxRecDepth 100000
set_option maxHeartbeats 2000000
theorem right_any (k : Int) (X : Bool) (N : Int) (S : ByteArray) (R O L : Int) (w : World) (hN : N ≤ 9223372036854775807) :
    Calls Try.prog 13 #[.agg #[.int .i64 k, .bool X, .int .i64 N, .string S, .int .i64 R, .int .i64 O, .int .i64 L]] w fun e w' => e = .returned (.bool (decide (okO k N S.size R O L))) ∧ Below w.heap.size w w' := by
  by_cases hk : 0 ≤ k ∧ k < 13
  · have hc : k = 0 ∨ k = 1 ∨ k = 2 ∨ k = 3 ∨ k = 4 ∨ k = 5 ∨ k = 6 ∨ k = 7 ∨ k = 8 ∨ k = 9 ∨ k = 10 ∨ k = 11 ∨ k = 12 := by omega
    rcases hc with rfl | rfl | rfl | rfl | rfl | rfl | rfl | rfl | rfl | rfl | rfl | rfl | rfl
    · exact right_0 X N S R O L w hN
    · exact right_1 X N S R O L w hN
    · exact right_2 X N S R O L w hN
    · exact right_3 X N S R O L w hN
    · exact right_4 X N S R O L w hN
    · exact right_5 X N S R O L w hN
    · exact right_6 X N S R O L w hN
    · exact right_7 X N S R O L w hN
    · exact right_8 X N S R O L w hN
    · exact right_9 X N S R O L w hN
    · exact right_10 X N S R O L w hN
    · exact right_11 X N S R O L w hN
    · exact right_12 X N S R O L w hN
  · have HV := Lib.hid (show decide (okO k N S.size R O L) = false from decide_eq_false fun h => hk h.1)
    have hb : (decide (0 ≤ k) && decide (k ≤ 12)) = false := by
      by_cases c : 0 ≤ k
      · have c2 : ¬ k ≤ 12 := fun h => hk ⟨c, by omega⟩
        simp [c2]
      · simp [c]
    have hb := Lib.hid hb
    clear hk
    go_enter Try.func13, Try.ntmps13
    go_wp2_with fail
    refine wp_region_grow [(0, none), (1, none), (2, some (.val (fun v => v = .bool false))), (3, none), (4, none), (5, none), (6, none), (7, none), (8, none), (9, none), (10, none), (11, none), (12, none), (13, none)] .done ?g1_ ?g2_ ?g3_ ?_
    case g1_ => kernel_rfl
    case g2_ => kernel_rfl
    case g3_ => exact fun _ _ _ _ _ h => h
    (apply wpG_p rfl rfl rfl rfl rfl; (intro w' K hK; (first | go_big_op | go_wp2_with fail); exact hK))
    (apply wpG_l rfl rfl rfl rfl rfl; (intro w' K hC hK; (have hr' := hC.old; simp at hr'); (first | go_big_op | go_wp2_with fail); exact hK); (case he => first | rfl | (simp [Act.put, *]; done)))
    refine wpG_g (d := 5) rfl rfl rfl rfl (by first | exact ⟨_, 0, rfl⟩ | (exact ⟨_, rfl⟩)) (fun w' K hC hK => ?_) (fun v hv => ?_)
    · (have hr' := hC.old; simp at hr'; (first | go_big_op | go_wp2_with fail); (refine Calls.mono (rin_any _ _ _ _) ?_; rintro e w2 ⟨rfl, rfl⟩; exact hK _ _ (by show Value.bool _ = _; rw [hb.out]) (Below.refl _ _) trivial))
    obtain rfl := hv
    (apply wpG_p rfl rfl rfl rfl rfl; (intro w' K hK; (first | go_big_op | go_wp2_with fail); exact hK))
    (apply wpG_p rfl rfl rfl rfl rfl; (intro w' K hK; (first | go_big_op | go_wp2_with fail); exact hK))
    refine wpG_skip rfl rfl rfl ?_
    refine wpG_skip rfl rfl rfl ?_
    refine wpG_skip rfl rfl rfl ?_
    refine wpG_skip rfl rfl rfl ?_
    refine wpG_skip rfl rfl rfl ?_
    refine wpG_skip rfl rfl rfl ?_
    refine wpG_skip rfl rfl rfl ?_
    refine wpG_skip rfl rfl rfl ?_
    (apply wpG_p rfl rfl rfl rfl rfl; (intro w' K hK; (first | go_big_op | go_wp2_with fail); exact hK))
    refine wpG_nil (fun w1 hB1 hG hD => ?_)
    clear hG
    (try clear hD)
    refine wpOrd_nil ?_
    have hb := hB1
    clear hB1
    have hs_w1 := hb.size
    (try simp at hs_w1)
    have hB_w1 : Below w.heap.size w w1 := below_then (w := w) (by with_reducible repeat (first | exact Below.refl _ _ | assumption | ((first | refine Below.alloc ?_ ?b_ _ | refine bw_set ?_ ?b_ | refine Below.setCell ?_ ?b_ _); case b_ => first | omega | (simp; done) | (simp; omega)) | refine Below.drew ?_ | refine below_drewN ?_ _)) (by first | omega | (simp; done) | (simp; omega) | (have hq_ := hb.size; omega)) hb
    clear hb
    go_wp2_with ((with_reducible refine rw_list ?_); (first | ((with_reducible apply wpList_load_cell); (case ho => with_reducible rfl); (case hgd => with_reducible rfl); (case hx => rfl); (case hu => first | exact Try.underlying23 | exact Try.underlying61 | exact Try.underlying3 | exact Try.underlying4 | exact Try.underlying9 | exact Try.underlying25); (case hd => rfl)) | ((with_reducible apply wpList_load_row); (case ho => with_reducible rfl); (case hgd => with_reducible rfl); (case hx => rfl); (case hu => first | exact Try.underlying23 | exact Try.underlying61 | exact Try.underlying3 | exact Try.underlying4 | exact Try.underlying9 | exact Try.underlying25); (case hd => rfl)) | ((with_reducible apply wpList_store_row); (case ho => with_reducible rfl); (case hgd => with_reducible rfl); (case hx => rfl); (case hy => rfl)) | ((with_reducible apply wpList_store_cell); (case ho => with_reducible rfl); (case hgd => with_reducible rfl); (case hx => rfl); (case hy => first | exact ev_const | exact ev_tmp rfl); (case h1 => rfl))); (case hg => exact (by with_reducible repeat (first | assumption | (refine rw_new ?e_; case e_ => first | rfl | (simp; done) | (simp; omega)) | apply rw_self | (apply rw_other; case hn => first | omega | (simp; omega)) | apply rw_alloc | apply rw_drew | apply rw_drewN))); (try case hv => rfl); (try case hi => kernel_rfl); (try case hold => rfl); (try case h1 => kernel_rfl); (try case hlt => rfl); (try case hcs => ((try simp only [List.setIfInBounds_toArray, List.set_cons_succ, List.set_cons_zero]); rfl)))
    go_ret
    exact ⟨by rw [HV.out]; rfl, (by with_reducible repeat (first | exact Below.refl _ _ | assumption | ((first | refine Below.alloc ?_ ?b_ _ | refine bw_set ?_ ?b_ | refine Below.setCell ?_ ?b_ _); case b_ => first | omega | (simp; done) | (simp; omega)) | refine Below.drew ?_ | refine below_drewN ?_ _))⟩
def names13 : Array Value := #[.string ⟨#[110, 117, 108, 108, 116, 121, 112, 101]⟩, .string ⟨#[109, 97, 114, 107, 116, 121, 112, 101]⟩, .string ⟨#[98, 111, 111, 108, 101, 97, 110, 116, 121, 112, 101]⟩, .string ⟨#[105, 110, 116, 101, 103, 101, 114, 116, 121, 112, 101]⟩, .string ⟨#[114, 101, 97, 108, 116, 121, 112, 101]⟩, .string ⟨#[110, 97, 109, 101, 116, 121, 112, 101]⟩, .string ⟨#[115, 116, 114, 105, 110, 103, 116, 121, 112, 101]⟩, .string ⟨#[97, 114, 114, 97, 121, 116, 121, 112, 101]⟩, .string ⟨#[112, 97, 99, 107, 101, 100, 97, 114, 114, 97, 121, 116, 121, 112, 101]⟩, .string ⟨#[100, 105, 99, 116, 116, 121, 112, 101]⟩, .string ⟨#[111, 112, 101, 114, 97, 116, 111, 114, 116, 121, 112, 101]⟩, .string ⟨#[102, 105, 108, 101, 116, 121, 112, 101]⟩, .string ⟨#[115, 97, 118, 101, 116, 121, 112, 101]⟩]
theorem names_at (k : Int) (hk : 0 ≤ k ∧ k < 13) : names13[k.toNat]? = some (.string (kName k)) := by
  have hc : k = 0 ∨ k = 1 ∨ k = 2 ∨ k = 3 ∨ k = 4 ∨ k = 5 ∨ k = 6 ∨ k = 7 ∨ k = 8 ∨ k = 9 ∨ k = 10 ∨ k = 11 ∨ k = 12 := by omega
  rcases hc with rfl | rfl | rfl | rfl | rfl | rfl | rfl | rfl | rfl | rfl | rfl | rfl | rfl <;> rfl
theorem rnames_any (w : World) : Calls Try.prog 15 #[] w fun e w' => e = .returned (.slice (some ⟨w.heap.size, 0, none⟩) 13 13) ∧ w' = w.alloc (.cells names13 9) := by
  go_enter Try.func15, Try.ntmps15
  go_wp2_with fail
  go_ret
  exact ⟨rfl, rfl⟩
end Go.Proofs.Yticbjpficaaaiaa.T3
