/- sample.Check: ErrImage for an invalid picture. -/
import Derived.Test.YtkkeahnmmpcceaaSamA
import Derived.Test.YtkkeahnmmpcceaaOrd
import Derived.WalkKit
import Derived.Lib.Hide
import Derived.Deep.QuietTactic
import Derived.BigQuiet
import Derived.Lib.QuietBelow
import Derived.Deep.RegionHeld3
import Derived.WalkLawsBesides
import Derived.WalkSpells
import Derived.Outline
import Derived.Deep.DeepFit
import Derived.Maps.AppendAt
import Derived.Deep.AppendLies
namespace Go.Proofs.Ytkkeahnmmpcceaa
open Go.RowKit

def pOk (W H N : Int) (S : ByteArray) (A B C D E F : Int) : Prop := (1 ≤ W ∧ W ≤ 64) ∧ (1 ≤ H ∧ H ≤ 64) ∧ (N = 1 ∨ N = 3 ∨ N = 4) ∧ mOk A B C D E F ∧ (S.size : Int) = W * H * N
instance (W H N : Int) (S : ByteArray) (A B C D E F : Int) : Decidable (pOk W H N S A B C D E F) := by unfold pOk; infer_instance
def pErr (W H N : Int) (S : ByteArray) (A B C D E F : Int) : Int := if pOk W H N S A B C D E F then 0 else 380
def allP (W H N : Int) (A B C D E F : Int) : Bool := allB [decide (1 ≤ W), decide (W ≤ 64), decide (1 ≤ H), decide (H ≤ 64), (N == 1 || N == 3 || N == 4), decide (mErr A B C D E F = 0)]

theorem whn_bd {W H N : Int} (a1 : 1 ≤ W) (a2 : W ≤ 64) (b1 : 1 ≤ H) (b2 : H ≤ 64) (hN : (N == 1) = true ∨ (N == 3) = true ∨ (N == 4) = true) : -4096 ≤ W * H ∧ W * H ≤ 4096 ∧ -16384 ≤ W * H * N ∧ W * H * N ≤ 16384 := by
  have h := mul_bd (a := W) (b := H) (X := 64) (Y := 64) (by omega) a2 (by omega) b2
  have hN' : N = 1 ∨ N = 3 ∨ N = 4 := by simpa using hN
  have g := mul_bd (a := W * H) (b := N) (X := 4096) (Y := 4) (by omega) (by omega) (by omega) (by omega)
  omega
theorem mErr_zero {A B C D E F : Int} (h : mErr A B C D E F = 0) : mOk A B C D E F := by
  unfold mErr at h
  split at h
  · assumption
  · simp at h
theorem allB_ok {W H : Int} {A B C D E F : Int} {nb : Bool} (h1 : 1 ≤ W ∧ W ≤ 64) (h2 : 1 ≤ H ∧ H ≤ 64) (h3 : nb = true) (h4 : mOk A B C D E F) : allB [decide (1 ≤ W), decide (W ≤ 64), decide (1 ≤ H), decide (H ≤ 64), nb, mErr A B C D E F == 0] = true := by
  simp [allB, h1, h2, h3, mErr, h4]
theorem allB_six {a b c d e f : Bool} (h : allB [a, b, c, d, e, f] = true) : a = true ∧ b = true ∧ c = true ∧ d = true ∧ e = true ∧ f = true := by
  simpa [allB] using h
set_option maxHeartbeats 2000000 in
theorem scheck_any (W H N : Int) (S : ByteArray) (A B C D E F : Int) (w : World) (hS : S.size ≤ 9223372036854775807) :
    Calls Try.prog 10 #[.agg #[.int .i64 W, .int .i64 H, .int .i64 N, .string S, .int .i64 A, .int .i64 B, .int .i64 C, .int .i64 D, .int .i64 E, .int .i64 F]] w fun e w' => e = .returned (.int .i64 (pErr W H N S A B C D E F)) ∧ Below w.heap.size w w' := by
  go_enter Try.func10, Try.ntmps10
  go_wp2_with fail
  refine wp_region_ord (.s 0 .p (.s 1 .l (.s 2 .p (.s 3 .p (.s 4 .l (.s 5 .p (.s 6 .p (.s 7 .l (.s 8 .p (.s 9 .p (.s 10 .l (.s 11 .p (.s 12 .p (.s 13 .l (.s 14 .p (.s 15 .p (.s 16 .p (.s 17 .l (.s 18 .p (.s 19 .p (.s 20 .p (.s 21 .p (.s 22 .l (.s 23 .p (.s 24 .p (.s 25 .p (.s 26 .l (.s 27 .e (.s 28 .p (.s 29 .e (.s 30 .e (.s 31 .p (.s 32 .p (.s 33 .p (.s 34 .l (.s 35 .p (.s 36 .p (.s 37 .l (.s 38 .p (.s 39 .l (.s 40 .p (.s 41 .p (.s 42 .l (.s 43 .p (.s 44 .p (.s 45 .p .done)))))))))))))))))))))))))))))))))))))))))))))) (Held (w.alloc (.cells #[.int .i64 W, .int .i64 H, .int .i64 N, .string S, .int .i64 A, .int .i64 B, .int .i64 C, .int .i64 D, .int .i64 E, .int .i64 F] 30)) []) (by kernel_rfl) (by kernel_rfl) (fun _ _ _ _ _ h => h) (Held.refl _ _) ?_
  by_cases n1 : (N == 1) = true
  · skip
    (apply wpOrd_p2 rfl rfl rfl rfl rfl; (intro w' K hK; (first | go_big_move | go_big_op | go_wp2_with fail); exact hK))
    (apply wpOrd_l2 rfl rfl rfl rfl rfl; (intro w' K hS' hK; (have hr' := hS'.cell; simp at hr'; (first | go_big_op | go_wp2_with fail); exact hK)); (first | assumption | exact Held.refl _ _ | exact Held.of_below (by repeat (first | with_reducible exact Below.refl _ _ | with_reducible assumption | ((with_reducible refine Below.alloc ?_ ?hb_ _); (case hb_ => first | omega | (simp; done) | (simp; omega))) | ((with_reducible refine Below.setCell ?_ ?hb_ _); (case hb_ => first | omega | (simp; done) | (simp; omega))) | with_reducible refine Below.drew ?_ | with_reducible refine below_drewN ?_ _))))
    (apply wpOrd_p2 rfl rfl rfl rfl rfl; (intro w' K hK; (first | go_big_move | go_big_op | go_wp2_with fail); exact hK))
    (apply wpOrd_p2 rfl rfl rfl rfl rfl; (intro w' K hK; (first | go_big_move | go_big_op | go_wp2_with fail); exact hK))
    (apply wpOrd_l2 rfl rfl rfl rfl rfl; (intro w' K hS' hK; (have hr' := hS'.cell; simp at hr'; (first | go_big_op | go_wp2_with fail); exact hK)); (first | assumption | exact Held.refl _ _ | exact Held.of_below (by repeat (first | with_reducible exact Below.refl _ _ | with_reducible assumption | ((with_reducible refine Below.alloc ?_ ?hb_ _); (case hb_ => first | omega | (simp; done) | (simp; omega))) | ((with_reducible refine Below.setCell ?_ ?hb_ _); (case hb_ => first | omega | (simp; done) | (simp; omega))) | with_reducible refine Below.drew ?_ | with_reducible refine below_drewN ?_ _))))
    (apply wpOrd_p2 rfl rfl rfl rfl rfl; (intro w' K hK; (first | go_big_move | go_big_op | go_wp2_with fail); exact hK))
    (apply wpOrd_p2 rfl rfl rfl rfl rfl; (intro w' K hK; (first | go_big_move | go_big_op | go_wp2_with fail); exact hK))
    (apply wpOrd_l2 rfl rfl rfl rfl rfl; (intro w' K hS' hK; (have hr' := hS'.cell; simp at hr'; (first | go_big_op | go_wp2_with fail); exact hK)); (first | assumption | exact Held.refl _ _ | exact Held.of_below (by repeat (first | with_reducible exact Below.refl _ _ | with_reducible assumption | ((with_reducible refine Below.alloc ?_ ?hb_ _); (case hb_ => first | omega | (simp; done) | (simp; omega))) | ((with_reducible refine Below.setCell ?_ ?hb_ _); (case hb_ => first | omega | (simp; done) | (simp; omega))) | with_reducible refine Below.drew ?_ | with_reducible refine below_drewN ?_ _))))
    (apply wpOrd_p2 rfl rfl rfl rfl rfl; (intro w' K hK; (first | go_big_move | go_big_op | go_wp2_with fail); exact hK))
    (apply wpOrd_p2 rfl rfl rfl rfl rfl; (intro w' K hK; (first | go_big_move | go_big_op | go_wp2_with fail); exact hK))
    (apply wpOrd_l2 rfl rfl rfl rfl rfl; (intro w' K hS' hK; (have hr' := hS'.cell; simp at hr'; (first | go_big_op | go_wp2_with fail); exact hK)); (first | assumption | exact Held.refl _ _ | exact Held.of_below (by repeat (first | with_reducible exact Below.refl _ _ | with_reducible assumption | ((with_reducible refine Below.alloc ?_ ?hb_ _); (case hb_ => first | omega | (simp; done) | (simp; omega))) | ((with_reducible refine Below.setCell ?_ ?hb_ _); (case hb_ => first | omega | (simp; done) | (simp; omega))) | with_reducible refine Below.drew ?_ | with_reducible refine below_drewN ?_ _))))
    (apply wpOrd_p2 rfl rfl rfl rfl rfl; (intro w' K hK; (first | go_big_move | go_big_op | go_wp2_with fail); exact hK))
    (apply wpOrd_p2 rfl rfl rfl rfl rfl; (intro w' K hK; (first | go_big_move | go_big_op | go_wp2_with fail); exact hK))
    (apply wpOrd_l2 rfl rfl rfl rfl rfl; (intro w' K hS' hK; (have hr' := hS'.cell; simp at hr'; (first | go_big_op | go_wp2_with fail); exact hK)); (first | assumption | exact Held.refl _ _ | exact Held.of_below (by repeat (first | with_reducible exact Below.refl _ _ | with_reducible assumption | ((with_reducible refine Below.alloc ?_ ?hb_ _); (case hb_ => first | omega | (simp; done) | (simp; omega))) | ((with_reducible refine Below.setCell ?_ ?hb_ _); (case hb_ => first | omega | (simp; done) | (simp; omega))) | with_reducible refine Below.drew ?_ | with_reducible refine below_drewN ?_ _))))
    (apply wpOrd_p2 rfl rfl rfl rfl rfl; (intro w' K hK; (first | go_big_move | go_big_op | go_wp2_with fail); exact hK))
    (apply wpOrd_p2 rfl rfl rfl rfl rfl; (intro w' K hK; (first | go_big_move | go_big_op | go_wp2_with fail); exact hK))
    refine wpOrd_skip rfl rfl rfl ?_
    refine wpOrd_skip rfl rfl rfl ?_
    refine wpOrd_skip rfl rfl rfl ?_
    (apply wpOrd_p2 rfl rfl rfl rfl rfl; (intro w' K hK; (first | go_big_move | go_big_op | go_wp2_with fail); exact hK))
    (apply wpOrd_p2 rfl rfl rfl rfl rfl; (intro w' K hK; (first | go_big_move | go_big_op | go_wp2_with fail); exact hK))
    refine wpOrd_skip rfl rfl rfl ?_
    refine wpOrd_skip rfl rfl rfl ?_
    refine wpOrd_skip rfl rfl rfl ?_
    (apply wpOrd_p2 rfl rfl rfl rfl rfl; (intro w' K hK; (first | go_big_move | go_big_op | go_wp2_with fail); exact hK))
    (apply wpOrd_p2 rfl rfl rfl rfl rfl; (intro w' K hK; (first | go_big_move | go_big_op | go_wp2_with fail); exact hK))
    (apply wpOrd_l2 rfl rfl rfl rfl rfl; (intro w' K hS' hK; (have hr' := hS'.cell; simp at hr'; (first | go_big_op | go_wp2_with fail); exact hK)); (first | assumption | exact Held.refl _ _ | exact Held.of_below (by repeat (first | with_reducible exact Below.refl _ _ | with_reducible assumption | ((with_reducible refine Below.alloc ?_ ?hb_ _); (case hb_ => first | omega | (simp; done) | (simp; omega))) | ((with_reducible refine Below.setCell ?_ ?hb_ _); (case hb_ => first | omega | (simp; done) | (simp; omega))) | with_reducible refine Below.drew ?_ | with_reducible refine below_drewN ?_ _))))
    (refine wpOrd_e1 rfl rfl (fun K hK => ?_); first | go_big_op | go_wp2_with fail); refine (mcheck_any _ _ _ _ _ _ _).mono ?_; rintro e w1 ⟨rfl, hb1⟩; (have hs1 : w.heap.size + 1 ≤ w1.heap.size := by simpa using hb1.size); (have hH1 := Held.then (X := []) (Held.drew (Held.refl _ _)) (by simp) hb1); refine hK _ _ hH1 ?_; clear hK K
    (apply wpOrd_p2 rfl rfl rfl rfl rfl; (intro w' K hK; (first | go_big_move | go_big_op | go_wp2_with fail); exact hK))
    (refine wpOrd_e1 rfl rfl (fun K hK => ?_); first | go_big_op | go_wp2_with fail); refine hK _ _ (Held.alloc hH1 (by simp; omega) _) ?_; clear hK K
    (refine wpOrd_e1 rfl rfl (fun K hK => ?_); first | go_big_op | go_wp2_with fail)
    refine (all_any [decide (1 ≤ W), decide (W ≤ 64), decide (1 ≤ H), decide (H ≤ 64), true, mErr A B C D E F == 0] _ 0 _ _ (by simp) (lit_bools _ _ _ _ rfl)).mono ?_
    rintro e w2 ⟨rfl, rfl⟩
    refine hK _ _ (Held.alloc hH1 (by simp; omega) _) ?_
    clear hK K
    by_cases hall : allB [decide (1 ≤ W), decide (W ≤ 64), decide (1 ≤ H), decide (H ≤ 64), true, mErr A B C D E F == 0] = true
    · rw [hall]
      obtain ⟨k1, k2, k3, k4, k5, k6⟩ := allB_six hall
      have k7 : mErr A B C D E F = 0 := by simpa using k6
      obtain ⟨p1, p2, q1, q2⟩ := whn_bd (of_decide_eq_true k1) (of_decide_eq_true k2) (of_decide_eq_true k3) (of_decide_eq_true k4) (N := N) (by first | exact .inl n1 | exact .inr (.inl n3) | exact .inr (.inr k5))
      have Hh := Lib.hid (show (1 ≤ W ∧ W ≤ 64) ∧ (1 ≤ H ∧ H ≤ 64) ∧ (N = 1 ∨ N = 3 ∨ N = 4) ∧ mOk A B C D E F from ⟨⟨of_decide_eq_true k1, of_decide_eq_true k2⟩, ⟨of_decide_eq_true k3, of_decide_eq_true k4⟩, by first | exact .inl (by simpa using n1) | exact .inr (.inl (by simpa using n3)) | exact .inr (.inr (by simpa using k5)), mErr_zero k7⟩)
      clear k1 k2 k3 k4 k5 k6 k7 hall
      have hH2 := Held.alloc (o := Obj.cells (List.map Value.bool [decide (1 ≤ W), decide (W ≤ 64), decide (1 ≤ H), decide (H ≤ 64), true, mErr A B C D E F == 0]).toArray 4) hH1 (by simp; omega)
      (apply wpOrd_p2 rfl rfl rfl rfl rfl; (intro w' K hK; (first | go_big_move | go_big_op | go_wp2_with fail); exact hK))
      (apply wpOrd_p2 rfl rfl rfl rfl rfl; (intro w' K hK; (first | go_big_move | go_big_op | go_wp2_with fail); exact hK))
      (apply wpOrd_p2 rfl rfl rfl rfl rfl; (intro w' K hK; (first | go_big_move | go_big_op | go_wp2_with fail); exact hK))
      (apply wpOrd_l2 rfl rfl rfl rfl rfl; (intro w' K hS' hK; (have hr' := hS'.cell; simp at hr'; (first | go_big_op | go_wp2_with fail); exact hK)); (first | assumption | exact Held.refl _ _ | exact Held.of_below (by repeat (first | with_reducible exact Below.refl _ _ | with_reducible assumption | ((with_reducible refine Below.alloc ?_ ?hb_ _); (case hb_ => first | omega | (simp; done) | (simp; omega))) | ((with_reducible refine Below.setCell ?_ ?hb_ _); (case hb_ => first | omega | (simp; done) | (simp; omega))) | with_reducible refine Below.drew ?_ | with_reducible refine below_drewN ?_ _))))
      (apply wpOrd_p2 rfl rfl rfl rfl rfl; (intro w' K hK; (first | go_big_move | go_big_op | go_wp2_with fail); exact hK))
      (apply wpOrd_p2 rfl rfl rfl rfl rfl; (intro w' K hK; (first | go_big_move | go_big_op | go_wp2_with fail); exact hK))
      (apply wpOrd_l2 rfl rfl rfl rfl rfl; (intro w' K hS' hK; (have hr' := hS'.cell; simp at hr'; (first | go_big_op | go_wp2_with fail); exact hK)); (first | assumption | exact Held.refl _ _ | exact Held.of_below (by repeat (first | with_reducible exact Below.refl _ _ | with_reducible assumption | ((with_reducible refine Below.alloc ?_ ?hb_ _); (case hb_ => first | omega | (simp; done) | (simp; omega))) | ((with_reducible refine Below.setCell ?_ ?hb_ _); (case hb_ => first | omega | (simp; done) | (simp; omega))) | with_reducible refine Below.drew ?_ | with_reducible refine below_drewN ?_ _))))
      (apply wpOrd_p2 rfl rfl rfl rfl rfl; (intro w' K hK; (first | go_big_move | go_big_op | go_wp2_with fail); exact hK))
      (apply wpOrd_l2 rfl rfl rfl rfl rfl; (intro w' K hS' hK; (have hr' := hS'.cell; simp at hr'; (first | go_big_op | go_wp2_with fail); exact hK)); (first | assumption | exact Held.refl _ _ | exact Held.of_below (by repeat (first | with_reducible exact Below.refl _ _ | with_reducible assumption | ((with_reducible refine Below.alloc ?_ ?hb_ _); (case hb_ => first | omega | (simp; done) | (simp; omega))) | ((with_reducible refine Below.setCell ?_ ?hb_ _); (case hb_ => first | omega | (simp; done) | (simp; omega))) | with_reducible refine Below.drew ?_ | with_reducible refine below_drewN ?_ _))))
      (apply wpOrd_p2 rfl rfl rfl rfl rfl; (intro w' K hK; (first | go_big_move | go_big_op | go_wp2_with fail); exact hK))
      (apply wpOrd_p2 rfl rfl rfl rfl rfl; (intro w' K hK; (first | go_big_move | go_big_op | go_wp2_with fail); exact hK))
      (apply wpOrd_l2 rfl rfl rfl rfl rfl; (intro w' K hS' hK; (have hr' := hS'.cell; simp at hr'; (first | go_big_op | go_wp2_with fail); exact hK)); (first | assumption | exact Held.refl _ _ | exact Held.of_below (by repeat (first | with_reducible exact Below.refl _ _ | with_reducible assumption | ((with_reducible refine Below.alloc ?_ ?hb_ _); (case hb_ => first | omega | (simp; done) | (simp; omega))) | ((with_reducible refine Below.setCell ?_ ?hb_ _); (case hb_ => first | omega | (simp; done) | (simp; omega))) | with_reducible refine Below.drew ?_ | with_reducible refine below_drewN ?_ _))))
      (apply wpOrd_p2 rfl rfl rfl rfl rfl; (intro w' K hK; (first | go_big_move | go_big_op | go_wp2_with fail); exact hK))
      (apply wpOrd_p2 rfl rfl rfl rfl rfl; (intro w' K hK; (first | go_big_move | go_big_op | go_wp2_with fail); exact hK))
      (apply wpOrd_p2 rfl rfl rfl rfl rfl; (intro w' K hK; (first | go_big_move | go_big_op | go_wp2_with fail); exact hK))
      refine wpOrd_nil ?_
      go_wp2_with fail
      all_goals (
        first
        | (have hz : ((S.size : Int) != W * H * N) = false := by assumption
           go_ret
           exact ⟨ret_int (by rw [pErr, if_pos ⟨Hh.out.1, Hh.out.2.1, Hh.out.2.2.1, Hh.out.2.2.2, by simpa using hz⟩]), (Below.alloc (below_then (Below.drew (Below.alloc (Below.refl _ w) (Nat.le_refl _) _)) (by simp) hb1) (by omega) _)⟩)
        | (have hz : ((S.size : Int) != W * H * N) = true := by assumption
           go_ret
           exact ⟨ret_int (by rw [pErr, if_neg (fun h => by simp at hz; exact hz h.2.2.2.2)]), (Below.alloc (below_then (Below.drew (Below.alloc (Below.refl _ w) (Nat.le_refl _) _)) (by simp) hb1) (by omega) _)⟩))
    · have hall' : allB [decide (1 ≤ W), decide (W ≤ 64), decide (1 ≤ H), decide (H ≤ 64), true, mErr A B C D E F == 0] = false := by simpa using hall
      rw [hall']
      (apply wpOrd_p2 rfl rfl rfl rfl rfl; (intro w' K hK; (first | go_big_move | go_big_op | go_wp2_with fail); exact hK))
      (apply wpOrd_p2 rfl rfl rfl rfl rfl; (intro w' K hK; (first | go_big_move | go_big_op | go_wp2_with fail); exact hK))
      refine wpOrd_skip rfl rfl rfl ?_
      refine wpOrd_skip rfl rfl rfl ?_
      refine wpOrd_skip rfl rfl rfl ?_
      refine wpOrd_skip rfl rfl rfl ?_
      refine wpOrd_skip rfl rfl rfl ?_
      refine wpOrd_skip rfl rfl rfl ?_
      refine wpOrd_skip rfl rfl rfl ?_
      refine wpOrd_skip rfl rfl rfl ?_
      refine wpOrd_skip rfl rfl rfl ?_
      refine wpOrd_skip rfl rfl rfl ?_
      refine wpOrd_skip rfl rfl rfl ?_
      refine wpOrd_skip rfl rfl rfl ?_
      (apply wpOrd_p2 rfl rfl rfl rfl rfl; (intro w' K hK; (first | go_big_move | go_big_op | go_wp2_with fail); exact hK))
      refine wpOrd_nil ?_
      go_wp2_with fail
      go_ret
      exact ⟨ret_int (by rw [pErr, if_neg (fun h => hall (allB_ok h.1 h.2.1 (by first | rfl | (have hN := h.2.2.1; simp at n1' n3' ⊢; omega)) h.2.2.2.1))]), (Below.alloc (below_then (Below.drew (Below.alloc (Below.refl _ w) (Nat.le_refl _) _)) (by simp) hb1) (by omega) _)⟩
  have n1' : (N == 1) = false := by simpa using n1
  clear n1
  by_cases n3 : (N == 3) = true
  · skip
    (apply wpOrd_p2 rfl rfl rfl rfl rfl; (intro w' K hK; (first | go_big_move | go_big_op | go_wp2_with fail); exact hK))
    (apply wpOrd_l2 rfl rfl rfl rfl rfl; (intro w' K hS' hK; (have hr' := hS'.cell; simp at hr'; (first | go_big_op | go_wp2_with fail); exact hK)); (first | assumption | exact Held.refl _ _ | exact Held.of_below (by repeat (first | with_reducible exact Below.refl _ _ | with_reducible assumption | ((with_reducible refine Below.alloc ?_ ?hb_ _); (case hb_ => first | omega | (simp; done) | (simp; omega))) | ((with_reducible refine Below.setCell ?_ ?hb_ _); (case hb_ => first | omega | (simp; done) | (simp; omega))) | with_reducible refine Below.drew ?_ | with_reducible refine below_drewN ?_ _))))
    (apply wpOrd_p2 rfl rfl rfl rfl rfl; (intro w' K hK; (first | go_big_move | go_big_op | go_wp2_with fail); exact hK))
    (apply wpOrd_p2 rfl rfl rfl rfl rfl; (intro w' K hK; (first | go_big_move | go_big_op | go_wp2_with fail); exact hK))
    (apply wpOrd_l2 rfl rfl rfl rfl rfl; (intro w' K hS' hK; (have hr' := hS'.cell; simp at hr'; (first | go_big_op | go_wp2_with fail); exact hK)); (first | assumption | exact Held.refl _ _ | exact Held.of_below (by repeat (first | with_reducible exact Below.refl _ _ | with_reducible assumption | ((with_reducible refine Below.alloc ?_ ?hb_ _); (case hb_ => first | omega | (simp; done) | (simp; omega))) | ((with_reducible refine Below.setCell ?_ ?hb_ _); (case hb_ => first | omega | (simp; done) | (simp; omega))) | with_reducible refine Below.drew ?_ | with_reducible refine below_drewN ?_ _))))
    (apply wpOrd_p2 rfl rfl rfl rfl rfl; (intro w' K hK; (first | go_big_move | go_big_op | go_wp2_with fail); exact hK))
    (apply wpOrd_p2 rfl rfl rfl rfl rfl; (intro w' K hK; (first | go_big_move | go_big_op | go_wp2_with fail); exact hK))
    (apply wpOrd_l2 rfl rfl rfl rfl rfl; (intro w' K hS' hK; (have hr' := hS'.cell; simp at hr'; (first | go_big_op | go_wp2_with fail); exact hK)); (first | assumption | exact Held.refl _ _ | exact Held.of_below (by repeat (first | with_reducible exact Below.refl _ _ | with_reducible assumption | ((with_reducible refine Below.alloc ?_ ?hb_ _); (case hb_ => first | omega | (simp; done) | (simp; omega))) | ((with_reducible refine Below.setCell ?_ ?hb_ _); (case hb_ => first | omega | (simp; done) | (simp; omega))) | with_reducible refine Below.drew ?_ | with_reducible refine below_drewN ?_ _))))
    (apply wpOrd_p2 rfl rfl rfl rfl rfl; (intro w' K hK; (first | go_big_move | go_big_op | go_wp2_with fail); exact hK))
    (apply wpOrd_p2 rfl rfl rfl rfl rfl; (intro w' K hK; (first | go_big_move | go_big_op | go_wp2_with fail); exact hK))
    (apply wpOrd_l2 rfl rfl rfl rfl rfl; (intro w' K hS' hK; (have hr' := hS'.cell; simp at hr'; (first | go_big_op | go_wp2_with fail); exact hK)); (first | assumption | exact Held.refl _ _ | exact Held.of_below (by repeat (first | with_reducible exact Below.refl _ _ | with_reducible assumption | ((with_reducible refine Below.alloc ?_ ?hb_ _); (case hb_ => first | omega | (simp; done) | (simp; omega))) | ((with_reducible refine Below.setCell ?_ ?hb_ _); (case hb_ => first | omega | (simp; done) | (simp; omega))) | with_reducible refine Below.drew ?_ | with_reducible refine below_drewN ?_ _))))
    (apply wpOrd_p2 rfl rfl rfl rfl rfl; (intro w' K hK; (first | go_big_move | go_big_op | go_wp2_with fail); exact hK))
    (apply wpOrd_p2 rfl rfl rfl rfl rfl; (intro w' K hK; (first | go_big_move | go_big_op | go_wp2_with fail); exact hK))
    (apply wpOrd_l2 rfl rfl rfl rfl rfl; (intro w' K hS' hK; (have hr' := hS'.cell; simp at hr'; (first | go_big_op | go_wp2_with fail); exact hK)); (first | assumption | exact Held.refl _ _ | exact Held.of_below (by repeat (first | with_reducible exact Below.refl _ _ | with_reducible assumption | ((with_reducible refine Below.alloc ?_ ?hb_ _); (case hb_ => first | omega | (simp; done) | (simp; omega))) | ((with_reducible refine Below.setCell ?_ ?hb_ _); (case hb_ => first | omega | (simp; done) | (simp; omega))) | with_reducible refine Below.drew ?_ | with_reducible refine below_drewN ?_ _))))
    (apply wpOrd_p2 rfl rfl rfl rfl rfl; (intro w' K hK; (first | go_big_move | go_big_op | go_wp2_with fail); exact hK))
    (apply wpOrd_p2 rfl rfl rfl rfl rfl; (intro w' K hK; (first | go_big_move | go_big_op | go_wp2_with fail); exact hK))
    (apply wpOrd_p2 rfl rfl rfl rfl rfl; (intro w' K hK; (first | go_big_move | go_big_op | go_wp2_with fail); exact hK))
    (apply wpOrd_l2 rfl rfl rfl rfl rfl; (intro w' K hS' hK; (have hr' := hS'.cell; simp at hr'; (first | go_big_op | go_wp2_with fail); exact hK)); (first | assumption | exact Held.refl _ _ | exact Held.of_below (by repeat (first | with_reducible exact Below.refl _ _ | with_reducible assumption | ((with_reducible refine Below.alloc ?_ ?hb_ _); (case hb_ => first | omega | (simp; done) | (simp; omega))) | ((with_reducible refine Below.setCell ?_ ?hb_ _); (case hb_ => first | omega | (simp; done) | (simp; omega))) | with_reducible refine Below.drew ?_ | with_reducible refine below_drewN ?_ _))))
    (apply wpOrd_p2 rfl rfl rfl rfl rfl; (intro w' K hK; (first | go_big_move | go_big_op | go_wp2_with fail); exact hK))
    (apply wpOrd_p2 rfl rfl rfl rfl rfl; (intro w' K hK; (first | go_big_move | go_big_op | go_wp2_with fail); exact hK))
    (apply wpOrd_p2 rfl rfl rfl rfl rfl; (intro w' K hK; (first | go_big_move | go_big_op | go_wp2_with fail); exact hK))
    refine wpOrd_skip rfl rfl rfl ?_
    refine wpOrd_skip rfl rfl rfl ?_
    refine wpOrd_skip rfl rfl rfl ?_
    (apply wpOrd_p2 rfl rfl rfl rfl rfl; (intro w' K hK; (first | go_big_move | go_big_op | go_wp2_with fail); exact hK))
    (apply wpOrd_p2 rfl rfl rfl rfl rfl; (intro w' K hK; (first | go_big_move | go_big_op | go_wp2_with fail); exact hK))
    (apply wpOrd_l2 rfl rfl rfl rfl rfl; (intro w' K hS' hK; (have hr' := hS'.cell; simp at hr'; (first | go_big_op | go_wp2_with fail); exact hK)); (first | assumption | exact Held.refl _ _ | exact Held.of_below (by repeat (first | with_reducible exact Below.refl _ _ | with_reducible assumption | ((with_reducible refine Below.alloc ?_ ?hb_ _); (case hb_ => first | omega | (simp; done) | (simp; omega))) | ((with_reducible refine Below.setCell ?_ ?hb_ _); (case hb_ => first | omega | (simp; done) | (simp; omega))) | with_reducible refine Below.drew ?_ | with_reducible refine below_drewN ?_ _))))
    (refine wpOrd_e1 rfl rfl (fun K hK => ?_); first | go_big_op | go_wp2_with fail); refine (mcheck_any _ _ _ _ _ _ _).mono ?_; rintro e w1 ⟨rfl, hb1⟩; (have hs1 : w.heap.size + 1 ≤ w1.heap.size := by simpa using hb1.size); (have hH1 := Held.then (X := []) (Held.drew (Held.refl _ _)) (by simp) hb1); refine hK _ _ hH1 ?_; clear hK K
    (apply wpOrd_p2 rfl rfl rfl rfl rfl; (intro w' K hK; (first | go_big_move | go_big_op | go_wp2_with fail); exact hK))
    (refine wpOrd_e1 rfl rfl (fun K hK => ?_); first | go_big_op | go_wp2_with fail); refine hK _ _ (Held.alloc hH1 (by simp; omega) _) ?_; clear hK K
    (refine wpOrd_e1 rfl rfl (fun K hK => ?_); first | go_big_op | go_wp2_with fail)
    refine (all_any [decide (1 ≤ W), decide (W ≤ 64), decide (1 ≤ H), decide (H ≤ 64), true, mErr A B C D E F == 0] _ 0 _ _ (by simp) (lit_bools _ _ _ _ rfl)).mono ?_
    rintro e w2 ⟨rfl, rfl⟩
    refine hK _ _ (Held.alloc hH1 (by simp; omega) _) ?_
    clear hK K
    by_cases hall : allB [decide (1 ≤ W), decide (W ≤ 64), decide (1 ≤ H), decide (H ≤ 64), true, mErr A B C D E F == 0] = true
    · rw [hall]
      obtain ⟨k1, k2, k3, k4, k5, k6⟩ := allB_six hall
      have k7 : mErr A B C D E F = 0 := by simpa using k6
      obtain ⟨p1, p2, q1, q2⟩ := whn_bd (of_decide_eq_true k1) (of_decide_eq_true k2) (of_decide_eq_true k3) (of_decide_eq_true k4) (N := N) (by first | exact .inl n1 | exact .inr (.inl n3) | exact .inr (.inr k5))
      have Hh := Lib.hid (show (1 ≤ W ∧ W ≤ 64) ∧ (1 ≤ H ∧ H ≤ 64) ∧ (N = 1 ∨ N = 3 ∨ N = 4) ∧ mOk A B C D E F from ⟨⟨of_decide_eq_true k1, of_decide_eq_true k2⟩, ⟨of_decide_eq_true k3, of_decide_eq_true k4⟩, by first | exact .inl (by simpa using n1) | exact .inr (.inl (by simpa using n3)) | exact .inr (.inr (by simpa using k5)), mErr_zero k7⟩)
      clear k1 k2 k3 k4 k5 k6 k7 hall
      have hH2 := Held.alloc (o := Obj.cells (List.map Value.bool [decide (1 ≤ W), decide (W ≤ 64), decide (1 ≤ H), decide (H ≤ 64), true, mErr A B C D E F == 0]).toArray 4) hH1 (by simp; omega)
      (apply wpOrd_p2 rfl rfl rfl rfl rfl; (intro w' K hK; (first | go_big_move | go_big_op | go_wp2_with fail); exact hK))
      (apply wpOrd_p2 rfl rfl rfl rfl rfl; (intro w' K hK; (first | go_big_move | go_big_op | go_wp2_with fail); exact hK))
      (apply wpOrd_p2 rfl rfl rfl rfl rfl; (intro w' K hK; (first | go_big_move | go_big_op | go_wp2_with fail); exact hK))
      (apply wpOrd_l2 rfl rfl rfl rfl rfl; (intro w' K hS' hK; (have hr' := hS'.cell; simp at hr'; (first | go_big_op | go_wp2_with fail); exact hK)); (first | assumption | exact Held.refl _ _ | exact Held.of_below (by repeat (first | with_reducible exact Below.refl _ _ | with_reducible assumption | ((with_reducible refine Below.alloc ?_ ?hb_ _); (case hb_ => first | omega | (simp; done) | (simp; omega))) | ((with_reducible refine Below.setCell ?_ ?hb_ _); (case hb_ => first | omega | (simp; done) | (simp; omega))) | with_reducible refine Below.drew ?_ | with_reducible refine below_drewN ?_ _))))
      (apply wpOrd_p2 rfl rfl rfl rfl rfl; (intro w' K hK; (first | go_big_move | go_big_op | go_wp2_with fail); exact hK))
      (apply wpOrd_p2 rfl rfl rfl rfl rfl; (intro w' K hK; (first | go_big_move | go_big_op | go_wp2_with fail); exact hK))
      (apply wpOrd_l2 rfl rfl rfl rfl rfl; (intro w' K hS' hK; (have hr' := hS'.cell; simp at hr'; (first | go_big_op | go_wp2_with fail); exact hK)); (first | assumption | exact Held.refl _ _ | exact Held.of_below (by repeat (first | with_reducible exact Below.refl _ _ | with_reducible assumption | ((with_reducible refine Below.alloc ?_ ?hb_ _); (case hb_ => first | omega | (simp; done) | (simp; omega))) | ((with_reducible refine Below.setCell ?_ ?hb_ _); (case hb_ => first | omega | (simp; done) | (simp; omega))) | with_reducible refine Below.drew ?_ | with_reducible refine below_drewN ?_ _))))
      (apply wpOrd_p2 rfl rfl rfl rfl rfl; (intro w' K hK; (first | go_big_move | go_big_op | go_wp2_with fail); exact hK))
      (apply wpOrd_l2 rfl rfl rfl rfl rfl; (intro w' K hS' hK; (have hr' := hS'.cell; simp at hr'; (first | go_big_op | go_wp2_with fail); exact hK)); (first | assumption | exact Held.refl _ _ | exact Held.of_below (by repeat (first | with_reducible exact Below.refl _ _ | with_reducible assumption | ((with_reducible refine Below.alloc ?_ ?hb_ _); (case hb_ => first | omega | (simp; done) | (simp; omega))) | ((with_reducible refine Below.setCell ?_ ?hb_ _); (case hb_ => first | omega | (simp; done) | (simp; omega))) | with_reducible refine Below.drew ?_ | with_reducible refine below_drewN ?_ _))))
      (apply wpOrd_p2 rfl rfl rfl rfl rfl; (intro w' K hK; (first | go_big_move | go_big_op | go_wp2_with fail); exact hK))
      (apply wpOrd_p2 rfl rfl rfl rfl rfl; (intro w' K hK; (first | go_big_move | go_big_op | go_wp2_with fail); exact hK))
      (apply wpOrd_l2 rfl rfl rfl rfl rfl; (intro w' K hS' hK; (have hr' := hS'.cell; simp at hr'; (first | go_big_op | go_wp2_with fail); exact hK)); (first | assumption | exact Held.refl _ _ | exact Held.of_below (by repeat (first | with_reducible exact Below.refl _ _ | with_reducible assumption | ((with_reducible refine Below.alloc ?_ ?hb_ _); (case hb_ => first | omega | (simp; done) | (simp; omega))) | ((with_reducible refine Below.setCell ?_ ?hb_ _); (case hb_ => first | omega | (simp; done) | (simp; omega))) | with_reducible refine Below.drew ?_ | with_reducible refine below_drewN ?_ _))))
      (apply wpOrd_p2 rfl rfl rfl rfl rfl; (intro w' K hK; (first | go_big_move | go_big_op | go_wp2_with fail); exact hK))
      (apply wpOrd_p2 rfl rfl rfl rfl rfl; (intro w' K hK; (first | go_big_move | go_big_op | go_wp2_with fail); exact hK))
      (apply wpOrd_p2 rfl rfl rfl rfl rfl; (intro w' K hK; (first | go_big_move | go_big_op | go_wp2_with fail); exact hK))
      refine wpOrd_nil ?_
      go_wp2_with fail
      all_goals (
        first
        | (have hz : ((S.size : Int) != W * H * N) = false := by assumption
           go_ret
           exact ⟨ret_int (by rw [pErr, if_pos ⟨Hh.out.1, Hh.out.2.1, Hh.out.2.2.1, Hh.out.2.2.2, by simpa using hz⟩]), (Below.alloc (below_then (Below.drew (Below.alloc (Below.refl _ w) (Nat.le_refl _) _)) (by simp) hb1) (by omega) _)⟩)
        | (have hz : ((S.size : Int) != W * H * N) = true := by assumption
           go_ret
           exact ⟨ret_int (by rw [pErr, if_neg (fun h => by simp at hz; exact hz h.2.2.2.2)]), (Below.alloc (below_then (Below.drew (Below.alloc (Below.refl _ w) (Nat.le_refl _) _)) (by simp) hb1) (by omega) _)⟩))
    · have hall' : allB [decide (1 ≤ W), decide (W ≤ 64), decide (1 ≤ H), decide (H ≤ 64), true, mErr A B C D E F == 0] = false := by simpa using hall
      rw [hall']
      (apply wpOrd_p2 rfl rfl rfl rfl rfl; (intro w' K hK; (first | go_big_move | go_big_op | go_wp2_with fail); exact hK))
      (apply wpOrd_p2 rfl rfl rfl rfl rfl; (intro w' K hK; (first | go_big_move | go_big_op | go_wp2_with fail); exact hK))
      refine wpOrd_skip rfl rfl rfl ?_
      refine wpOrd_skip rfl rfl rfl ?_
      refine wpOrd_skip rfl rfl rfl ?_
      refine wpOrd_skip rfl rfl rfl ?_
      refine wpOrd_skip rfl rfl rfl ?_
      refine wpOrd_skip rfl rfl rfl ?_
      refine wpOrd_skip rfl rfl rfl ?_
      refine wpOrd_skip rfl rfl rfl ?_
      refine wpOrd_skip rfl rfl rfl ?_
      refine wpOrd_skip rfl rfl rfl ?_
      refine wpOrd_skip rfl rfl rfl ?_
      refine wpOrd_skip rfl rfl rfl ?_
      (apply wpOrd_p2 rfl rfl rfl rfl rfl; (intro w' K hK; (first | go_big_move | go_big_op | go_wp2_with fail); exact hK))
      refine wpOrd_nil ?_
      go_wp2_with fail
      go_ret
      exact ⟨ret_int (by rw [pErr, if_neg (fun h => hall (allB_ok h.1 h.2.1 (by first | rfl | (have hN := h.2.2.1; simp at n1' n3' ⊢; omega)) h.2.2.2.1))]), (Below.alloc (below_then (Below.drew (Below.alloc (Below.refl _ w) (Nat.le_refl _) _)) (by simp) hb1) (by omega) _)⟩
  have n3' : (N == 3) = false := by simpa using n3
  clear n3
  · skip
    (apply wpOrd_p2 rfl rfl rfl rfl rfl; (intro w' K hK; (first | go_big_move | go_big_op | go_wp2_with fail); exact hK))
    (apply wpOrd_l2 rfl rfl rfl rfl rfl; (intro w' K hS' hK; (have hr' := hS'.cell; simp at hr'; (first | go_big_op | go_wp2_with fail); exact hK)); (first | assumption | exact Held.refl _ _ | exact Held.of_below (by repeat (first | with_reducible exact Below.refl _ _ | with_reducible assumption | ((with_reducible refine Below.alloc ?_ ?hb_ _); (case hb_ => first | omega | (simp; done) | (simp; omega))) | ((with_reducible refine Below.setCell ?_ ?hb_ _); (case hb_ => first | omega | (simp; done) | (simp; omega))) | with_reducible refine Below.drew ?_ | with_reducible refine below_drewN ?_ _))))
    (apply wpOrd_p2 rfl rfl rfl rfl rfl; (intro w' K hK; (first | go_big_move | go_big_op | go_wp2_with fail); exact hK))
    (apply wpOrd_p2 rfl rfl rfl rfl rfl; (intro w' K hK; (first | go_big_move | go_big_op | go_wp2_with fail); exact hK))
    (apply wpOrd_l2 rfl rfl rfl rfl rfl; (intro w' K hS' hK; (have hr' := hS'.cell; simp at hr'; (first | go_big_op | go_wp2_with fail); exact hK)); (first | assumption | exact Held.refl _ _ | exact Held.of_below (by repeat (first | with_reducible exact Below.refl _ _ | with_reducible assumption | ((with_reducible refine Below.alloc ?_ ?hb_ _); (case hb_ => first | omega | (simp; done) | (simp; omega))) | ((with_reducible refine Below.setCell ?_ ?hb_ _); (case hb_ => first | omega | (simp; done) | (simp; omega))) | with_reducible refine Below.drew ?_ | with_reducible refine below_drewN ?_ _))))
    (apply wpOrd_p2 rfl rfl rfl rfl rfl; (intro w' K hK; (first | go_big_move | go_big_op | go_wp2_with fail); exact hK))
    (apply wpOrd_p2 rfl rfl rfl rfl rfl; (intro w' K hK; (first | go_big_move | go_big_op | go_wp2_with fail); exact hK))
    (apply wpOrd_l2 rfl rfl rfl rfl rfl; (intro w' K hS' hK; (have hr' := hS'.cell; simp at hr'; (first | go_big_op | go_wp2_with fail); exact hK)); (first | assumption | exact Held.refl _ _ | exact Held.of_below (by repeat (first | with_reducible exact Below.refl _ _ | with_reducible assumption | ((with_reducible refine Below.alloc ?_ ?hb_ _); (case hb_ => first | omega | (simp; done) | (simp; omega))) | ((with_reducible refine Below.setCell ?_ ?hb_ _); (case hb_ => first | omega | (simp; done) | (simp; omega))) | with_reducible refine Below.drew ?_ | with_reducible refine below_drewN ?_ _))))
    (apply wpOrd_p2 rfl rfl rfl rfl rfl; (intro w' K hK; (first | go_big_move | go_big_op | go_wp2_with fail); exact hK))
    (apply wpOrd_p2 rfl rfl rfl rfl rfl; (intro w' K hK; (first | go_big_move | go_big_op | go_wp2_with fail); exact hK))
    (apply wpOrd_l2 rfl rfl rfl rfl rfl; (intro w' K hS' hK; (have hr' := hS'.cell; simp at hr'; (first | go_big_op | go_wp2_with fail); exact hK)); (first | assumption | exact Held.refl _ _ | exact Held.of_below (by repeat (first | with_reducible exact Below.refl _ _ | with_reducible assumption | ((with_reducible refine Below.alloc ?_ ?hb_ _); (case hb_ => first | omega | (simp; done) | (simp; omega))) | ((with_reducible refine Below.setCell ?_ ?hb_ _); (case hb_ => first | omega | (simp; done) | (simp; omega))) | with_reducible refine Below.drew ?_ | with_reducible refine below_drewN ?_ _))))
    (apply wpOrd_p2 rfl rfl rfl rfl rfl; (intro w' K hK; (first | go_big_move | go_big_op | go_wp2_with fail); exact hK))
    (apply wpOrd_p2 rfl rfl rfl rfl rfl; (intro w' K hK; (first | go_big_move | go_big_op | go_wp2_with fail); exact hK))
    (apply wpOrd_l2 rfl rfl rfl rfl rfl; (intro w' K hS' hK; (have hr' := hS'.cell; simp at hr'; (first | go_big_op | go_wp2_with fail); exact hK)); (first | assumption | exact Held.refl _ _ | exact Held.of_below (by repeat (first | with_reducible exact Below.refl _ _ | with_reducible assumption | ((with_reducible refine Below.alloc ?_ ?hb_ _); (case hb_ => first | omega | (simp; done) | (simp; omega))) | ((with_reducible refine Below.setCell ?_ ?hb_ _); (case hb_ => first | omega | (simp; done) | (simp; omega))) | with_reducible refine Below.drew ?_ | with_reducible refine below_drewN ?_ _))))
    (apply wpOrd_p2 rfl rfl rfl rfl rfl; (intro w' K hK; (first | go_big_move | go_big_op | go_wp2_with fail); exact hK))
    (apply wpOrd_p2 rfl rfl rfl rfl rfl; (intro w' K hK; (first | go_big_move | go_big_op | go_wp2_with fail); exact hK))
    (apply wpOrd_p2 rfl rfl rfl rfl rfl; (intro w' K hK; (first | go_big_move | go_big_op | go_wp2_with fail); exact hK))
    (apply wpOrd_l2 rfl rfl rfl rfl rfl; (intro w' K hS' hK; (have hr' := hS'.cell; simp at hr'; (first | go_big_op | go_wp2_with fail); exact hK)); (first | assumption | exact Held.refl _ _ | exact Held.of_below (by repeat (first | with_reducible exact Below.refl _ _ | with_reducible assumption | ((with_reducible refine Below.alloc ?_ ?hb_ _); (case hb_ => first | omega | (simp; done) | (simp; omega))) | ((with_reducible refine Below.setCell ?_ ?hb_ _); (case hb_ => first | omega | (simp; done) | (simp; omega))) | with_reducible refine Below.drew ?_ | with_reducible refine below_drewN ?_ _))))
    (apply wpOrd_p2 rfl rfl rfl rfl rfl; (intro w' K hK; (first | go_big_move | go_big_op | go_wp2_with fail); exact hK))
    (apply wpOrd_p2 rfl rfl rfl rfl rfl; (intro w' K hK; (first | go_big_move | go_big_op | go_wp2_with fail); exact hK))
    (apply wpOrd_p2 rfl rfl rfl rfl rfl; (intro w' K hK; (first | go_big_move | go_big_op | go_wp2_with fail); exact hK))
    (apply wpOrd_p2 rfl rfl rfl rfl rfl; (intro w' K hK; (first | go_big_move | go_big_op | go_wp2_with fail); exact hK))
    (apply wpOrd_l2 rfl rfl rfl rfl rfl; (intro w' K hS' hK; (have hr' := hS'.cell; simp at hr'; (first | go_big_op | go_wp2_with fail); exact hK)); (first | assumption | exact Held.refl _ _ | exact Held.of_below (by repeat (first | with_reducible exact Below.refl _ _ | with_reducible assumption | ((with_reducible refine Below.alloc ?_ ?hb_ _); (case hb_ => first | omega | (simp; done) | (simp; omega))) | ((with_reducible refine Below.setCell ?_ ?hb_ _); (case hb_ => first | omega | (simp; done) | (simp; omega))) | with_reducible refine Below.drew ?_ | with_reducible refine below_drewN ?_ _))))
    (apply wpOrd_p2 rfl rfl rfl rfl rfl; (intro w' K hK; (first | go_big_move | go_big_op | go_wp2_with fail); exact hK))
    (apply wpOrd_p2 rfl rfl rfl rfl rfl; (intro w' K hK; (first | go_big_move | go_big_op | go_wp2_with fail); exact hK))
    (apply wpOrd_p2 rfl rfl rfl rfl rfl; (intro w' K hK; (first | go_big_move | go_big_op | go_wp2_with fail); exact hK))
    (apply wpOrd_l2 rfl rfl rfl rfl rfl; (intro w' K hS' hK; (have hr' := hS'.cell; simp at hr'; (first | go_big_op | go_wp2_with fail); exact hK)); (first | assumption | exact Held.refl _ _ | exact Held.of_below (by repeat (first | with_reducible exact Below.refl _ _ | with_reducible assumption | ((with_reducible refine Below.alloc ?_ ?hb_ _); (case hb_ => first | omega | (simp; done) | (simp; omega))) | ((with_reducible refine Below.setCell ?_ ?hb_ _); (case hb_ => first | omega | (simp; done) | (simp; omega))) | with_reducible refine Below.drew ?_ | with_reducible refine below_drewN ?_ _))))
    (refine wpOrd_e1 rfl rfl (fun K hK => ?_); first | go_big_op | go_wp2_with fail); refine (mcheck_any _ _ _ _ _ _ _).mono ?_; rintro e w1 ⟨rfl, hb1⟩; (have hs1 : w.heap.size + 1 ≤ w1.heap.size := by simpa using hb1.size); (have hH1 := Held.then (X := []) (Held.drew (Held.refl _ _)) (by simp) hb1); refine hK _ _ hH1 ?_; clear hK K
    (apply wpOrd_p2 rfl rfl rfl rfl rfl; (intro w' K hK; (first | go_big_move | go_big_op | go_wp2_with fail); exact hK))
    (refine wpOrd_e1 rfl rfl (fun K hK => ?_); first | go_big_op | go_wp2_with fail); refine hK _ _ (Held.alloc hH1 (by simp; omega) _) ?_; clear hK K
    (refine wpOrd_e1 rfl rfl (fun K hK => ?_); first | go_big_op | go_wp2_with fail)
    refine (all_any [decide (1 ≤ W), decide (W ≤ 64), decide (1 ≤ H), decide (H ≤ 64), N == 4, mErr A B C D E F == 0] _ 0 _ _ (by simp) (lit_bools _ _ _ _ rfl)).mono ?_
    rintro e w2 ⟨rfl, rfl⟩
    refine hK _ _ (Held.alloc hH1 (by simp; omega) _) ?_
    clear hK K
    by_cases hall : allB [decide (1 ≤ W), decide (W ≤ 64), decide (1 ≤ H), decide (H ≤ 64), N == 4, mErr A B C D E F == 0] = true
    · rw [hall]
      obtain ⟨k1, k2, k3, k4, k5, k6⟩ := allB_six hall
      have k7 : mErr A B C D E F = 0 := by simpa using k6
      obtain ⟨p1, p2, q1, q2⟩ := whn_bd (of_decide_eq_true k1) (of_decide_eq_true k2) (of_decide_eq_true k3) (of_decide_eq_true k4) (N := N) (by first | exact .inl n1 | exact .inr (.inl n3) | exact .inr (.inr k5))
      have Hh := Lib.hid (show (1 ≤ W ∧ W ≤ 64) ∧ (1 ≤ H ∧ H ≤ 64) ∧ (N = 1 ∨ N = 3 ∨ N = 4) ∧ mOk A B C D E F from ⟨⟨of_decide_eq_true k1, of_decide_eq_true k2⟩, ⟨of_decide_eq_true k3, of_decide_eq_true k4⟩, by first | exact .inl (by simpa using n1) | exact .inr (.inl (by simpa using n3)) | exact .inr (.inr (by simpa using k5)), mErr_zero k7⟩)
      clear k1 k2 k3 k4 k5 k6 k7 hall
      have hH2 := Held.alloc (o := Obj.cells (List.map Value.bool [decide (1 ≤ W), decide (W ≤ 64), decide (1 ≤ H), decide (H ≤ 64), N == 4, mErr A B C D E F == 0]).toArray 4) hH1 (by simp; omega)
      (apply wpOrd_p2 rfl rfl rfl rfl rfl; (intro w' K hK; (first | go_big_move | go_big_op | go_wp2_with fail); exact hK))
      (apply wpOrd_p2 rfl rfl rfl rfl rfl; (intro w' K hK; (first | go_big_move | go_big_op | go_wp2_with fail); exact hK))
      (apply wpOrd_p2 rfl rfl rfl rfl rfl; (intro w' K hK; (first | go_big_move | go_big_op | go_wp2_with fail); exact hK))
      (apply wpOrd_l2 rfl rfl rfl rfl rfl; (intro w' K hS' hK; (have hr' := hS'.cell; simp at hr'; (first | go_big_op | go_wp2_with fail); exact hK)); (first | assumption | exact Held.refl _ _ | exact Held.of_below (by repeat (first | with_reducible exact Below.refl _ _ | with_reducible assumption | ((with_reducible refine Below.alloc ?_ ?hb_ _); (case hb_ => first | omega | (simp; done) | (simp; omega))) | ((with_reducible refine Below.setCell ?_ ?hb_ _); (case hb_ => first | omega | (simp; done) | (simp; omega))) | with_reducible refine Below.drew ?_ | with_reducible refine below_drewN ?_ _))))
      (apply wpOrd_p2 rfl rfl rfl rfl rfl; (intro w' K hK; (first | go_big_move | go_big_op | go_wp2_with fail); exact hK))
      (apply wpOrd_p2 rfl rfl rfl rfl rfl; (intro w' K hK; (first | go_big_move | go_big_op | go_wp2_with fail); exact hK))
      (apply wpOrd_l2 rfl rfl rfl rfl rfl; (intro w' K hS' hK; (have hr' := hS'.cell; simp at hr'; (first | go_big_op | go_wp2_with fail); exact hK)); (first | assumption | exact Held.refl _ _ | exact Held.of_below (by repeat (first | with_reducible exact Below.refl _ _ | with_reducible assumption | ((with_reducible refine Below.alloc ?_ ?hb_ _); (case hb_ => first | omega | (simp; done) | (simp; omega))) | ((with_reducible refine Below.setCell ?_ ?hb_ _); (case hb_ => first | omega | (simp; done) | (simp; omega))) | with_reducible refine Below.drew ?_ | with_reducible refine below_drewN ?_ _))))
      (apply wpOrd_p2 rfl rfl rfl rfl rfl; (intro w' K hK; (first | go_big_move | go_big_op | go_wp2_with fail); exact hK))
      (apply wpOrd_l2 rfl rfl rfl rfl rfl; (intro w' K hS' hK; (have hr' := hS'.cell; simp at hr'; (first | go_big_op | go_wp2_with fail); exact hK)); (first | assumption | exact Held.refl _ _ | exact Held.of_below (by repeat (first | with_reducible exact Below.refl _ _ | with_reducible assumption | ((with_reducible refine Below.alloc ?_ ?hb_ _); (case hb_ => first | omega | (simp; done) | (simp; omega))) | ((with_reducible refine Below.setCell ?_ ?hb_ _); (case hb_ => first | omega | (simp; done) | (simp; omega))) | with_reducible refine Below.drew ?_ | with_reducible refine below_drewN ?_ _))))
      (apply wpOrd_p2 rfl rfl rfl rfl rfl; (intro w' K hK; (first | go_big_move | go_big_op | go_wp2_with fail); exact hK))
      (apply wpOrd_p2 rfl rfl rfl rfl rfl; (intro w' K hK; (first | go_big_move | go_big_op | go_wp2_with fail); exact hK))
      (apply wpOrd_l2 rfl rfl rfl rfl rfl; (intro w' K hS' hK; (have hr' := hS'.cell; simp at hr'; (first | go_big_op | go_wp2_with fail); exact hK)); (first | assumption | exact Held.refl _ _ | exact Held.of_below (by repeat (first | with_reducible exact Below.refl _ _ | with_reducible assumption | ((with_reducible refine Below.alloc ?_ ?hb_ _); (case hb_ => first | omega | (simp; done) | (simp; omega))) | ((with_reducible refine Below.setCell ?_ ?hb_ _); (case hb_ => first | omega | (simp; done) | (simp; omega))) | with_reducible refine Below.drew ?_ | with_reducible refine below_drewN ?_ _))))
      (apply wpOrd_p2 rfl rfl rfl rfl rfl; (intro w' K hK; (first | go_big_move | go_big_op | go_wp2_with fail); exact hK))
      (apply wpOrd_p2 rfl rfl rfl rfl rfl; (intro w' K hK; (first | go_big_move | go_big_op | go_wp2_with fail); exact hK))
      (apply wpOrd_p2 rfl rfl rfl rfl rfl; (intro w' K hK; (first | go_big_move | go_big_op | go_wp2_with fail); exact hK))
      refine wpOrd_nil ?_
      go_wp2_with fail
      all_goals (
        first
        | (have hz : ((S.size : Int) != W * H * N) = false := by assumption
           go_ret
           exact ⟨ret_int (by rw [pErr, if_pos ⟨Hh.out.1, Hh.out.2.1, Hh.out.2.2.1, Hh.out.2.2.2, by simpa using hz⟩]), (Below.alloc (below_then (Below.drew (Below.alloc (Below.refl _ w) (Nat.le_refl _) _)) (by simp) hb1) (by omega) _)⟩)
        | (have hz : ((S.size : Int) != W * H * N) = true := by assumption
           go_ret
           exact ⟨ret_int (by rw [pErr, if_neg (fun h => by simp at hz; exact hz h.2.2.2.2)]), (Below.alloc (below_then (Below.drew (Below.alloc (Below.refl _ w) (Nat.le_refl _) _)) (by simp) hb1) (by omega) _)⟩))
    · have hall' : allB [decide (1 ≤ W), decide (W ≤ 64), decide (1 ≤ H), decide (H ≤ 64), N == 4, mErr A B C D E F == 0] = false := by simpa using hall
      rw [hall']
      (apply wpOrd_p2 rfl rfl rfl rfl rfl; (intro w' K hK; (first | go_big_move | go_big_op | go_wp2_with fail); exact hK))
      (apply wpOrd_p2 rfl rfl rfl rfl rfl; (intro w' K hK; (first | go_big_move | go_big_op | go_wp2_with fail); exact hK))
      refine wpOrd_skip rfl rfl rfl ?_
      refine wpOrd_skip rfl rfl rfl ?_
      refine wpOrd_skip rfl rfl rfl ?_
      refine wpOrd_skip rfl rfl rfl ?_
      refine wpOrd_skip rfl rfl rfl ?_
      refine wpOrd_skip rfl rfl rfl ?_
      refine wpOrd_skip rfl rfl rfl ?_
      refine wpOrd_skip rfl rfl rfl ?_
      refine wpOrd_skip rfl rfl rfl ?_
      refine wpOrd_skip rfl rfl rfl ?_
      refine wpOrd_skip rfl rfl rfl ?_
      refine wpOrd_skip rfl rfl rfl ?_
      (apply wpOrd_p2 rfl rfl rfl rfl rfl; (intro w' K hK; (first | go_big_move | go_big_op | go_wp2_with fail); exact hK))
      refine wpOrd_nil ?_
      go_wp2_with fail
      go_ret
      exact ⟨ret_int (by rw [pErr, if_neg (fun h => hall (allB_ok h.1 h.2.1 (by first | rfl | (have hN := h.2.2.1; simp at n1' n3' ⊢; omega)) h.2.2.2.1))]), (Below.alloc (below_then (Below.drew (Below.alloc (Below.refl _ w) (Nat.le_refl _) _)) (by simp) hb1) (by omega) _)⟩
end Go.Proofs.Ytkkeahnmmpcceaa
