/- chapter 12: the operator roll. -/
import Derived.Test.YtiadenokcpnliaaStH
import Derived.WalkKit
import Derived.Lib.Hide
import Derived.Deep.QuietTactic
import Derived.BigQuiet
import Derived.Lib.QuietBelow
import Derived.Deep.RegionHeld3
import Derived.WalkLawsBesides
import Derived.WalkSpells
import Derived.Outline
import Derived.Deep.DeepFit
import Derived.Maps.AppendAt
import Derived.Deep.AppendLies
import Derived.Deep.CutRange
import Derived.Laws.MakeOwn
import Derived.OpenShut
namespace Go.Proofs.Ytiadenokcpnliaa.T3
set_option linter.unusedSimpArgs false
set_option linter.unusedVariables false
open Go.RowKit
attribute [local go_sem] Oper.semAt_some
set_option maxHeartbeats 4000000
set_option maxRecDepth 100000

theorem to_math {i J N : Int} (h0 : 0 ≤ i) (h1 : i < N) : ((i + J.tmod N).tmod N + N).tmod N = (i + J) % N := by
  have hN : 0 < N := by omega
  have a1 := Int.lt_tmod_of_pos J hN
  have a2 := Int.tmod_lt_of_pos J hN
  have b1 := Int.lt_tmod_of_pos (i + J.tmod N) hN
  rw [Int.tmod_eq_emod_of_nonneg (by omega), Int.add_emod_right]
  have e : ∀ x : Int, x.tmod N % N = x % N := fun x => by
    have := Int.tmod_add_mul_tdiv x N
    conv => rhs; rw [← this]
    rw [Int.add_mul_emod_self_left]
  rw [e, Int.add_emod, e, ← Int.add_emod]
theorem to_any (c g vc : Nat) (cur : Array Value) (i N J : Int) (w : World) (hc : w.heap[c]? = some (.cells #[.slice (some ⟨g, 0, none⟩) 2 vc] 38 (0, 0))) (hg : w.heap[g]? = some (.cells cur 3 (0, 0))) (hv : 2 ≤ vc) (hcur0 : cur[0]? = some (.int .i64 N)) (hcur1 : cur[1]? = some (.int .i64 J)) (h0 : 0 ≤ i) (h1 : i < N) (h2 : N ≤ 1000) :
    Calls Try.prog 47 #[.int .i64 i, .pointer (some ⟨c, 0, none⟩)] w fun e w' => e = .returned (.int .i64 ((i + J) % N)) ∧ Below w.heap.size w w' := by
  have hN : 0 < N := by omega
  have a1 := Int.lt_tmod_of_pos J hN
  have a2 := Int.tmod_lt_of_pos J hN
  have b1 := Int.lt_tmod_of_pos (i + J.tmod N) hN
  have b2 := Int.tmod_lt_of_pos (i + J.tmod N) hN
  have hm := to_math (J := J) h0 h1
  have c1 := Int.emod_nonneg (i + J) (show N ≠ 0 by omega)
  have c2 := Int.emod_lt_of_pos (i + J) hN
  obtain ⟨v, hv3⟩ : ∃ v, (i + J) % N = v := ⟨_, rfl⟩
  rw [hv3] at hm c1 c2
  rw [hv3]
  obtain ⟨r1, e1⟩ : ∃ r, J.tmod N = r := ⟨_, rfl⟩
  rw [e1] at hm a1 a2 b1 b2
  obtain ⟨r2, e2⟩ : ∃ r, (i + r1).tmod N = r := ⟨_, rfl⟩
  rw [e2] at hm b1 b2
  have hN0 : ¬ N = 0 := by omega
  have hlc := rw_lt hc
  have hlg := rw_lt hg
  clear hv3
  go_enter Try.func47, Try.ntmps47
  go_wp2_with fail
  have hSS : Held w [] w.drew := Held.refl _ _
  refine wp_region_ord (.s 0 .p (.s 1 .l (.s 2 .p (.s 3 .l (.s 4 .l (.s 5 .p (.s 6 .l (.s 7 .p (.s 8 .p (.s 9 .l (.s 10 .p (.s 11 .l (.s 12 .p (.s 13 .l (.s 14 .p (.s 15 .l (.s 16 .p (.s 17 .l (.s 18 .p (.s 19 .l (.s 20 .p (.s 21 .p .done)))))))))))))))))))))) (Held w []) (by kernel_rfl) (by kernel_rfl) (fun _ _ _ _ _ h => h) hSS ?_
  (apply wpOrd_p2 rfl rfl rfl rfl rfl; (intro w' K hK; (first | go_big_move | go_big_op | go_wp2_with fail); exact hK))
  (apply wpOrd_l2 rfl rfl rfl rfl rfl; (intro w' K hS' hK; (first | (refine wp_load_cell 38 _ rfl _ 0 rfl _ _ _ _ _ ((hS' _ hlc (by simp)).trans hc) Try.underlying38 rfl rfl ?_) | (refine wp_load_cell 3 _ rfl _ 0 rfl _ _ _ _ _ ((hS' _ hlg (by simp)).trans hg) Try.underlying3 rfl hcur0 ?_) | (refine wp_load_cell 3 _ rfl _ 1 rfl _ _ _ _ _ ((hS' _ hlg (by simp)).trans hg) Try.underlying3 rfl hcur1 ?_)); exact hK); (first | exact hSS | assumption))
  (apply wpOrd_p2 rfl rfl rfl rfl rfl; (intro w' K hK; (first | go_big_move | go_big_op | go_wp2_with fail); exact hK))
  (apply wpOrd_l2 rfl rfl rfl rfl rfl; (intro w' K hS' hK; (first | (refine wp_load_cell 38 _ rfl _ 0 rfl _ _ _ _ _ ((hS' _ hlc (by simp)).trans hc) Try.underlying38 rfl rfl ?_) | (refine wp_load_cell 3 _ rfl _ 0 rfl _ _ _ _ _ ((hS' _ hlg (by simp)).trans hg) Try.underlying3 rfl hcur0 ?_) | (refine wp_load_cell 3 _ rfl _ 1 rfl _ _ _ _ _ ((hS' _ hlg (by simp)).trans hg) Try.underlying3 rfl hcur1 ?_)); exact hK); (first | exact hSS | assumption))
  (apply wpOrd_l2 rfl rfl rfl rfl rfl; (intro w' K hS' hK; (first | (refine wp_load_cell 38 _ rfl _ 0 rfl _ _ _ _ _ ((hS' _ hlc (by simp)).trans hc) Try.underlying38 rfl rfl ?_) | (refine wp_load_cell 3 _ rfl _ 0 rfl _ _ _ _ _ ((hS' _ hlg (by simp)).trans hg) Try.underlying3 rfl hcur0 ?_) | (refine wp_load_cell 3 _ rfl _ 1 rfl _ _ _ _ _ ((hS' _ hlg (by simp)).trans hg) Try.underlying3 rfl hcur1 ?_)); exact hK); (first | exact hSS | assumption))
  (apply wpOrd_p2 rfl rfl rfl rfl rfl; (intro w' K hK; (first | go_big_move | go_big_op | go_wp2_with fail); exact hK))
  (apply wpOrd_l2 rfl rfl rfl rfl rfl; (intro w' K hS' hK; (first | (refine wp_load_cell 38 _ rfl _ 0 rfl _ _ _ _ _ ((hS' _ hlc (by simp)).trans hc) Try.underlying38 rfl rfl ?_) | (refine wp_load_cell 3 _ rfl _ 0 rfl _ _ _ _ _ ((hS' _ hlg (by simp)).trans hg) Try.underlying3 rfl hcur0 ?_) | (refine wp_load_cell 3 _ rfl _ 1 rfl _ _ _ _ _ ((hS' _ hlg (by simp)).trans hg) Try.underlying3 rfl hcur1 ?_)); exact hK); (first | exact hSS | assumption))
  (apply wpOrd_p2 rfl rfl rfl rfl rfl; (intro w' K hK; (first | go_big_move | go_big_op | go_wp2_with fail); exact hK))
  (apply wpOrd_p2 rfl rfl rfl rfl rfl; (intro w' K hK; (first | go_big_move | go_big_op | go_wp2_with fail); exact hK))
  (apply wpOrd_l2 rfl rfl rfl rfl rfl; (intro w' K hS' hK; (first | (refine wp_load_cell 38 _ rfl _ 0 rfl _ _ _ _ _ ((hS' _ hlc (by simp)).trans hc) Try.underlying38 rfl rfl ?_) | (refine wp_load_cell 3 _ rfl _ 0 rfl _ _ _ _ _ ((hS' _ hlg (by simp)).trans hg) Try.underlying3 rfl hcur0 ?_) | (refine wp_load_cell 3 _ rfl _ 1 rfl _ _ _ _ _ ((hS' _ hlg (by simp)).trans hg) Try.underlying3 rfl hcur1 ?_)); exact hK); (first | exact hSS | assumption))
  (apply wpOrd_p2 rfl rfl rfl rfl rfl; (intro w' K hK; (first | go_big_move | go_big_op | go_wp2_with fail); exact hK))
  (apply wpOrd_l2 rfl rfl rfl rfl rfl; (intro w' K hS' hK; (first | (refine wp_load_cell 38 _ rfl _ 0 rfl _ _ _ _ _ ((hS' _ hlc (by simp)).trans hc) Try.underlying38 rfl rfl ?_) | (refine wp_load_cell 3 _ rfl _ 0 rfl _ _ _ _ _ ((hS' _ hlg (by simp)).trans hg) Try.underlying3 rfl hcur0 ?_) | (refine wp_load_cell 3 _ rfl _ 1 rfl _ _ _ _ _ ((hS' _ hlg (by simp)).trans hg) Try.underlying3 rfl hcur1 ?_)); exact hK); (first | exact hSS | assumption))
  (apply wpOrd_p2 rfl rfl rfl rfl rfl; (intro w' K hK; (first | go_big_move | go_big_op | go_wp2_with fail); exact hK))
  (apply wpOrd_l2 rfl rfl rfl rfl rfl; (intro w' K hS' hK; (first | (refine wp_load_cell 38 _ rfl _ 0 rfl _ _ _ _ _ ((hS' _ hlc (by simp)).trans hc) Try.underlying38 rfl rfl ?_) | (refine wp_load_cell 3 _ rfl _ 0 rfl _ _ _ _ _ ((hS' _ hlg (by simp)).trans hg) Try.underlying3 rfl hcur0 ?_) | (refine wp_load_cell 3 _ rfl _ 1 rfl _ _ _ _ _ ((hS' _ hlg (by simp)).trans hg) Try.underlying3 rfl hcur1 ?_)); exact hK); (first | exact hSS | assumption))
  (apply wpOrd_p2 rfl rfl rfl rfl rfl; (intro w' K hK; (first | go_big_move | go_big_op | go_wp2_with fail); exact hK))
  (apply wpOrd_l2 rfl rfl rfl rfl rfl; (intro w' K hS' hK; (first | (refine wp_load_cell 38 _ rfl _ 0 rfl _ _ _ _ _ ((hS' _ hlc (by simp)).trans hc) Try.underlying38 rfl rfl ?_) | (refine wp_load_cell 3 _ rfl _ 0 rfl _ _ _ _ _ ((hS' _ hlg (by simp)).trans hg) Try.underlying3 rfl hcur0 ?_) | (refine wp_load_cell 3 _ rfl _ 1 rfl _ _ _ _ _ ((hS' _ hlg (by simp)).trans hg) Try.underlying3 rfl hcur1 ?_)); exact hK); (first | exact hSS | assumption))
  (apply wpOrd_p2 rfl rfl rfl rfl rfl; (intro w' K hK; (first | go_big_move | go_big_op | go_wp2_with fail); exact hK))
  (apply wpOrd_l2 rfl rfl rfl rfl rfl; (intro w' K hS' hK; (first | (refine wp_load_cell 38 _ rfl _ 0 rfl _ _ _ _ _ ((hS' _ hlc (by simp)).trans hc) Try.underlying38 rfl rfl ?_) | (refine wp_load_cell 3 _ rfl _ 0 rfl _ _ _ _ _ ((hS' _ hlg (by simp)).trans hg) Try.underlying3 rfl hcur0 ?_) | (refine wp_load_cell 3 _ rfl _ 1 rfl _ _ _ _ _ ((hS' _ hlg (by simp)).trans hg) Try.underlying3 rfl hcur1 ?_)); exact hK); (first | exact hSS | assumption))
  (apply wpOrd_p2 rfl rfl rfl rfl rfl; (intro w' K hK; (first | go_big_move | go_big_op | go_wp2_with fail); exact hK))
  (apply wpOrd_l2 rfl rfl rfl rfl rfl; (intro w' K hS' hK; (first | (refine wp_load_cell 38 _ rfl _ 0 rfl _ _ _ _ _ ((hS' _ hlc (by simp)).trans hc) Try.underlying38 rfl rfl ?_) | (refine wp_load_cell 3 _ rfl _ 0 rfl _ _ _ _ _ ((hS' _ hlg (by simp)).trans hg) Try.underlying3 rfl hcur0 ?_) | (refine wp_load_cell 3 _ rfl _ 1 rfl _ _ _ _ _ ((hS' _ hlg (by simp)).trans hg) Try.underlying3 rfl hcur1 ?_)); exact hK); (first | exact hSS | assumption))
  (apply wpOrd_p2 rfl rfl rfl rfl rfl; (intro w' K hK; (first | go_big_move | go_big_op | go_wp2_with fail); exact hK))
  (apply wpOrd_p2 rfl rfl rfl rfl rfl; (intro w' K hK; (first | go_big_move | go_big_op | go_wp2_with fail); exact hK))
  refine wpOrd_nil ?_
  skip
  go_wp2_with fail
  go_ret
  exact ⟨rfl, (by with_reducible repeat (first | exact Below.refl _ _ | assumption | ((first | refine Below.alloc ?_ ?b_ _ | refine bw_set ?_ ?b_ | refine Below.setCell ?_ ?b_ _); case b_ => first | omega | (simp; done) | (simp; omega)) | refine Below.drew ?_ | refine below_drewN ?_ _))⟩
end Go.Proofs.Ytiadenokcpnliaa.T3
