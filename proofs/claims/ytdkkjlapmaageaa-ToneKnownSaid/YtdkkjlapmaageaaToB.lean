/- chapter 27: the closure that Spot sorts by. -/
import Derived.Test.YtdkkjlapmaageaaToA
import Derived.WalkKit
import Derived.Lib.Hide
import Derived.Deep.QuietTactic
import Derived.BigQuiet
import Derived.Lib.QuietBelow
import Derived.Deep.RegionHeld3
import Derived.WalkLawsBesides
import Derived.WalkSpells
import Derived.Outline
import Derived.Deep.DeepFit
import Derived.Maps.AppendAt
import Derived.Deep.AppendLies
namespace Go.Proofs.Ytdkkjlapmaageaa.T3
set_option linter.unusedSimpArgs false
set_option linter.unusedVariables false
open Go.RowKit Go.Sort Go.Lib
set_option maxHeartbeats 1000000
set_option maxRecDepth 100000
def sbd (u v : Int) : Prop := (-1024 ≤ u ∧ u ≤ 1024) ∧ -1024 ≤ v ∧ v ≤ 1024
/-- the comparison -/
def spc (k i j u v i' j' u' v' : Int) : Int := fstV (cmpV (spv k u v) (spv k u' v')) (cmpV j j') (cmpV i i')
theorem clo_any (k : Int) (g b : Nat) (i j u v i' j' u' v' : Int) (w : World) {t : TypeId} (hb : w.heap[b]? = some (.cells #[.func (.func g) #[] #[]] t (0, 0)))
    (hcf : ∀ (args : Array Value) (w : World), (callFunc g args).run Try.prog w = .ok (.enter g args) w)
    (hval : ∀ (i j u v : Int) (w : World), sbd u v → Calls Try.prog g #[.agg #[.int .i64 i, .int .i64 j, .int .i64 u, .int .i64 v]] w fun e w' => e = .returned (.int .i64 (spv k u v)) ∧ Lays w w') (h1 : sbd u v) (h2 : sbd u' v') :
    Calls Try.prog 32 #[.agg #[.int .i64 i, .int .i64 j, .int .i64 u, .int .i64 v], .agg #[.int .i64 i', .int .i64 j', .int .i64 u', .int .i64 v'], .pointer (some ⟨b, 0, none⟩)] w fun e w' => e = .returned (.int .i64 (spc k i j u v i' j' u' v')) ∧ Lays w w' := by
  have hv1 := fun W => hval i j u v W h1
  have hv2 := fun W => hval i' j' u' v' W h2
  unfold spc
  generalize spv k u v = s at hv1 ⊢
  generalize spv k u' v' = s' at hv2 ⊢
  clear hval h1 h2
  have hlb := rw_lt hb
  go_enter Try.func32, Try.ntmps32
  go_wp2_with fail
  obtain ⟨wy, hwy⟩ : ∃ wy, wy = (w.alloc (.cells #[.int .i64 i, .int .i64 j, .int .i64 u, .int .i64 v] 62 (0, 0))).alloc (.cells #[.int .i64 i', .int .i64 j', .int .i64 u', .int .i64 v'] 62 (0, 0)) := ⟨_, rfl⟩
  have hp : wy.heap[w.heap.size]? = some (.cells #[.int .i64 i, .int .i64 j, .int .i64 u, .int .i64 v] 62 (0, 0)) := by rw [hwy]; exact rw_alloc (rw_new rfl)
  have hq : wy.heap[w.heap.size + 1]? = some (.cells #[.int .i64 i', .int .i64 j', .int .i64 u', .int .i64 v'] 62 (0, 0)) := by rw [hwy]; exact rw_new (by simp)
  have hc : wy.heap[b]? = some (.cells #[.func (.func g) #[] #[]] t (0, 0)) := by rw [hwy]; exact rw_alloc (rw_alloc hb)
  have hl0 : Lays w wy := by rw [hwy]; exact ((Lays.refl w).alloc _).alloc _
  rw [← hwy]
  clear hwy hb hlb
  obtain ⟨hp0, hp1, hp2, hp3⟩ := cel4 hp
  obtain ⟨hq0, hq1, hq2, hq3⟩ := cel4 hq
  have hc0 := cel1 hc
  have hlp := rw_lt hp
  have hlq := rw_lt hq
  have hlc := rw_lt hc
  refine wp_region_ord (.s 0 .l (.s 1 .l (.s 3 .l (.s 4 .l (.s 7 .p (.s 8 .l (.s 9 .p (.s 10 .l (.s 12 .p (.s 13 .l (.s 14 .p (.s 15 .l (.s 2 .e (.s 5 .e (.s 6 .e (.s 11 .e (.s 16 .e (.s 17 .e (.s 18 .e (.s 19 .p .done)))))))))))))))))))) (Held wy []) (by kernel_rfl) (by kernel_rfl) (fun _ _ _ _ _ h => h) (Held.refl _ _) ?_
  (apply wpOrd_l2 rfl rfl rfl rfl rfl; (intro w' K hS' hK; (have hr' := hS'.cell; simp at hr'; (first | go_big_op | go_wp2_with fail); exact hK)); (first | assumption | exact Held.refl _ _ | exact Held.of_below (by repeat (first | with_reducible exact Below.refl _ _ | with_reducible assumption | ((with_reducible refine Below.alloc ?_ ?hb_ _); (case hb_ => first | omega | (simp; done) | (simp; omega))) | ((with_reducible refine Below.setCell ?_ ?hb_ _); (case hb_ => first | omega | (simp; done) | (simp; omega))) | with_reducible refine Below.drew ?_ | with_reducible refine below_drewN ?_ _))))
  (apply wpOrd_l2 rfl rfl rfl rfl rfl; (intro w' K hS' hK; (have hr' := hS'.cell; simp at hr'; (first | go_big_op | go_wp2_with fail); exact hK)); (first | assumption | exact Held.refl _ _ | exact Held.of_below (by repeat (first | with_reducible exact Below.refl _ _ | with_reducible assumption | ((with_reducible refine Below.alloc ?_ ?hb_ _); (case hb_ => first | omega | (simp; done) | (simp; omega))) | ((with_reducible refine Below.setCell ?_ ?hb_ _); (case hb_ => first | omega | (simp; done) | (simp; omega))) | with_reducible refine Below.drew ?_ | with_reducible refine below_drewN ?_ _))))
  (apply wpOrd_l2 rfl rfl rfl rfl rfl; (intro w' K hS' hK; (have hr' := hS'.cell; simp at hr'; (first | go_big_op | go_wp2_with fail); exact hK)); (first | assumption | exact Held.refl _ _ | exact Held.of_below (by repeat (first | with_reducible exact Below.refl _ _ | with_reducible assumption | ((with_reducible refine Below.alloc ?_ ?hb_ _); (case hb_ => first | omega | (simp; done) | (simp; omega))) | ((with_reducible refine Below.setCell ?_ ?hb_ _); (case hb_ => first | omega | (simp; done) | (simp; omega))) | with_reducible refine Below.drew ?_ | with_reducible refine below_drewN ?_ _))))
  (apply wpOrd_l2 rfl rfl rfl rfl rfl; (intro w' K hS' hK; (have hr' := hS'.cell; simp at hr'; (first | go_big_op | go_wp2_with fail); exact hK)); (first | assumption | exact Held.refl _ _ | exact Held.of_below (by repeat (first | with_reducible exact Below.refl _ _ | with_reducible assumption | ((with_reducible refine Below.alloc ?_ ?hb_ _); (case hb_ => first | omega | (simp; done) | (simp; omega))) | ((with_reducible refine Below.setCell ?_ ?hb_ _); (case hb_ => first | omega | (simp; done) | (simp; omega))) | with_reducible refine Below.drew ?_ | with_reducible refine below_drewN ?_ _))))
  (apply wpOrd_p2 rfl rfl rfl rfl rfl; (intro w' K hK; (first | go_big_move | go_big_op | go_wp2_with fail); exact hK))
  (apply wpOrd_l2 rfl rfl rfl rfl rfl; (intro w' K hS' hK; (have hr' := hS'.cell; simp at hr'; (first | go_big_op | go_wp2_with fail); exact hK)); (first | assumption | exact Held.refl _ _ | exact Held.of_below (by repeat (first | with_reducible exact Below.refl _ _ | with_reducible assumption | ((with_reducible refine Below.alloc ?_ ?hb_ _); (case hb_ => first | omega | (simp; done) | (simp; omega))) | ((with_reducible refine Below.setCell ?_ ?hb_ _); (case hb_ => first | omega | (simp; done) | (simp; omega))) | with_reducible refine Below.drew ?_ | with_reducible refine below_drewN ?_ _))))
  (apply wpOrd_p2 rfl rfl rfl rfl rfl; (intro w' K hK; (first | go_big_move | go_big_op | go_wp2_with fail); exact hK))
  (apply wpOrd_l2 rfl rfl rfl rfl rfl; (intro w' K hS' hK; (have hr' := hS'.cell; simp at hr'; (first | go_big_op | go_wp2_with fail); exact hK)); (first | assumption | exact Held.refl _ _ | exact Held.of_below (by repeat (first | with_reducible exact Below.refl _ _ | with_reducible assumption | ((with_reducible refine Below.alloc ?_ ?hb_ _); (case hb_ => first | omega | (simp; done) | (simp; omega))) | ((with_reducible refine Below.setCell ?_ ?hb_ _); (case hb_ => first | omega | (simp; done) | (simp; omega))) | with_reducible refine Below.drew ?_ | with_reducible refine below_drewN ?_ _))))
  (apply wpOrd_p2 rfl rfl rfl rfl rfl; (intro w' K hK; (first | go_big_move | go_big_op | go_wp2_with fail); exact hK))
  (apply wpOrd_l2 rfl rfl rfl rfl rfl; (intro w' K hS' hK; (have hr' := hS'.cell; simp at hr'; (first | go_big_op | go_wp2_with fail); exact hK)); (first | assumption | exact Held.refl _ _ | exact Held.of_below (by repeat (first | with_reducible exact Below.refl _ _ | with_reducible assumption | ((with_reducible refine Below.alloc ?_ ?hb_ _); (case hb_ => first | omega | (simp; done) | (simp; omega))) | ((with_reducible refine Below.setCell ?_ ?hb_ _); (case hb_ => first | omega | (simp; done) | (simp; omega))) | with_reducible refine Below.drew ?_ | with_reducible refine below_drewN ?_ _))))
  (apply wpOrd_p2 rfl rfl rfl rfl rfl; (intro w' K hK; (first | go_big_move | go_big_op | go_wp2_with fail); exact hK))
  (apply wpOrd_l2 rfl rfl rfl rfl rfl; (intro w' K hS' hK; (have hr' := hS'.cell; simp at hr'; (first | go_big_op | go_wp2_with fail); exact hK)); (first | assumption | exact Held.refl _ _ | exact Held.of_below (by repeat (first | with_reducible exact Below.refl _ _ | with_reducible assumption | ((with_reducible refine Below.alloc ?_ ?hb_ _); (case hb_ => first | omega | (simp; done) | (simp; omega))) | ((with_reducible refine Below.setCell ?_ ?hb_ _); (case hb_ => first | omega | (simp; done) | (simp; omega))) | with_reducible refine Below.drew ?_ | with_reducible refine below_drewN ?_ _))))
  (refine wpOrd_e1 rfl rfl (fun K hK => ?_)); (first | go_big_op | go_wp2_with fail)
  refine (hv1 _).mono ?_; rintro e w2 ⟨rfl, hb2⟩; have hV2 := (Lays.refl wy).drew.trans hb2; clear hb2; refine hK _ _ (Held.of_below hV2.below) ?_; clear hK K
  (refine wpOrd_e1 rfl rfl (fun K hK => ?_)); (first | go_big_op | go_wp2_with fail)
  refine (hv2 _).mono ?_; rintro e w5 ⟨rfl, hb5⟩; have hV5 := hV2.trans hb5; clear hb5; refine hK _ _ (Held.of_below hV5.below) ?_; clear hK K
  (refine wpOrd_e1 rfl rfl (fun K hK => ?_)); (first | go_big_op | go_wp2_with fail)
  refine (cmp_any _ _ _).mono ?_; rintro e w6 ⟨rfl, rfl⟩; refine hK _ _ (Held.of_below hV5.below) ?_; clear hK K
  (refine wpOrd_e1 rfl rfl (fun K hK => ?_)); (first | go_big_op | go_wp2_with fail)
  refine (cmp_any _ _ _).mono ?_; rintro e w6 ⟨rfl, rfl⟩; refine hK _ _ (Held.of_below hV5.below) ?_; clear hK K
  (refine wpOrd_e1 rfl rfl (fun K hK => ?_)); (first | go_big_op | go_wp2_with fail)
  refine (cmp_any _ _ _).mono ?_; rintro e w6 ⟨rfl, rfl⟩; refine hK _ _ (Held.of_below hV5.below) ?_; clear hK K
  (refine wpOrd_e1 rfl rfl (fun K hK => ?_)); (first | go_big_op | go_wp2_with fail)
  refine hK _ _ (Held.of_below (hV5.alloc _).below) ?_; clear hK K
  (refine wpOrd_e1 rfl rfl (fun K hK => ?_)); (first | go_big_op | go_wp2_with fail)
  refine (first_any _ _ _ _ _ _ (rw_new rfl)).mono ?_; rintro e w6 ⟨rfl, rfl⟩; refine hK _ _ (Held.of_below (hV5.alloc _).below) ?_; clear hK K
  (apply wpOrd_p2 rfl rfl rfl rfl rfl; (intro w' K hK; (first | go_big_move | go_big_op | go_wp2_with fail); exact hK))
  refine wpOrd_nil ?_
  skip
  go_wp2_with fail
  go_ret
  exact ⟨rfl, hl0.trans (hV5.alloc _)⟩
end Go.Proofs.Ytdkkjlapmaageaa.T3
