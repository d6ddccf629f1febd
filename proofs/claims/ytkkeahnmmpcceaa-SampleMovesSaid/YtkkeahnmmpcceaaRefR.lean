/- chaseref28.Right and Check: which pictures are valid. -/
import Derived.Test.YtkkeahnmmpcceaaSamC
import Derived.WalkKit
import Derived.Lib.Hide
import Derived.Deep.QuietTactic
import Derived.BigQuiet
import Derived.Lib.QuietBelow
import Derived.Deep.RegionHeld3
import Derived.WalkLawsBesides
import Derived.WalkSpells
import Derived.Outline
import Derived.Deep.DeepFit
import Derived.Maps.AppendAt
import Derived.Deep.AppendLies
namespace Go.Proofs.Ytkkeahnmmpcceaa
open Go.RowKit

def pOkB (W H N : Int) (S : ByteArray) (A B C D E F : Int) : Bool := decide (pOk W H N S A B C D E F)
theorem pOkB_false {W H N : Int} {S : ByteArray} {A B C D E F : Int} (h : ¬ ((1 ≤ W ∧ W ≤ 64) ∧ (1 ≤ H ∧ H ≤ 64) ∧ (N = 1 ∨ N = 3 ∨ N = 4))) : pOkB W H N S A B C D E F = false := by
  unfold pOkB pOk
  exact decide_eq_false (fun k => h ⟨k.1, k.2.1, k.2.2.1⟩)
theorem pOkB_true {W H N : Int} {S : ByteArray} {A B C D E F : Int} (h : (1 ≤ W ∧ W ≤ 64) ∧ (1 ≤ H ∧ H ≤ 64) ∧ (N = 1 ∨ N = 3 ∨ N = 4)) : pOkB W H N S A B C D E F = (((S.size : Int) == W * H * N) && mOkB A B C D E F) := by
  unfold pOkB pOk mOkB
  rw [Bool.eq_iff_iff]
  simp [h.1, h.2.1, h.2.2]
  exact And.comm
set_option maxHeartbeats 1000000 in
theorem right28_any (W H N : Int) (S : ByteArray) (A B C D E F : Int) (w : World) (hS : S.size ≤ 9223372036854775807) :
    Calls Try.prog 24 #[.agg #[.int .i64 W, .int .i64 H, .int .i64 N, .string S, .int .i64 A, .int .i64 B, .int .i64 C, .int .i64 D, .int .i64 E, .int .i64 F]] w fun e w' => e = .returned (.bool (pOkB W H N S A B C D E F)) ∧ Below w.heap.size w w' := by
  by_cases h : (1 ≤ W ∧ W ≤ 64) ∧ (1 ≤ H ∧ H ≤ 64) ∧ (N = 1 ∨ N = 3 ∨ N = 4)
  · have HV := Lib.hid (pOkB_true (S := S) (A := A) (B := B) (C := C) (D := D) (E := E) (F := F) h)
    obtain ⟨⟨w1, w2⟩, ⟨h1, h2⟩, hN⟩ := h
    obtain ⟨p1, p2, q1, q2⟩ := whn_bd w1 w2 h1 h2 (N := N) (by simpa using hN)
    by_cases hz : ((S.size : Int) == W * H * N) = true
    · have hq : (S.size : Int) = W * H * N := by simpa using hz
      have Hz := Lib.hid hz
      clear hz
      rcases hN with rfl | rfl | rfl <;> (
        (try rw [Int.mul_one] at hq)
        go_enter Try.func24, Try.ntmps24
        go_wp2_with fail
        refine (rright_any _ _ _ _ _ _ _).mono ?_
        rintro e w1 ⟨rfl, hb1⟩
        go_wp2_with fail
        go_ret
        exact ⟨ret_bool (by rw [HV.out, Hz.out]; rfl), (below_then (Below.alloc (Below.refl _ w) (Nat.le_refl _) _) (by simp) hb1)⟩)
    · have Hz := Lib.hid (show ((S.size : Int) == W * H * N) = false by simpa using hz)
      have hq : ¬ (S.size : Int) = W * H * N := by simpa using hz
      clear hz
      rcases hN with rfl | rfl | rfl <;> (
        (try rw [Int.mul_one] at hq)
        go_enter Try.func24, Try.ntmps24
        go_wp2_with fail
        go_ret
        exact ⟨ret_bool (by rw [HV.out, Hz.out]; rfl), (by repeat (first | with_reducible exact Below.refl _ _ | with_reducible assumption | ((with_reducible refine Below.alloc ?_ ?hb_ _); (case hb_ => first | omega | (simp; done) | (simp; omega))) | ((with_reducible refine Below.setCell ?_ ?hb_ _); (case hb_ => first | omega | (simp; done) | (simp; omega))) | with_reducible refine Below.drew ?_ | with_reducible refine below_drewN ?_ _))⟩)
  · have HV := Lib.hid (pOkB_false (S := S) (A := A) (B := B) (C := C) (D := D) (E := E) (F := F) h)
    go_enter Try.func24, Try.ntmps24
    go_wp2_with fail
    all_goals first
      | (exfalso; simp at *; omega)
      | (go_ret; exact ⟨ret_bool HV.out.symm, (by repeat (first | with_reducible exact Below.refl _ _ | with_reducible assumption | ((with_reducible refine Below.alloc ?_ ?hb_ _); (case hb_ => first | omega | (simp; done) | (simp; omega))) | ((with_reducible refine Below.setCell ?_ ?hb_ _); (case hb_ => first | omega | (simp; done) | (simp; omega))) | with_reducible refine Below.drew ?_ | with_reducible refine below_drewN ?_ _))⟩)

theorem check28_any (W H N : Int) (S : ByteArray) (A B C D E F : Int) (w : World) (hS : S.size ≤ 9223372036854775807) :
    Calls Try.prog 11 #[.agg #[.int .i64 W, .int .i64 H, .int .i64 N, .string S, .int .i64 A, .int .i64 B, .int .i64 C, .int .i64 D, .int .i64 E, .int .i64 F]] w fun e w' => e = .returned (.int .i64 (pErr W H N S A B C D E F)) ∧ Below w.heap.size w w' := by
  by_cases h : pOk W H N S A B C D E F
  · have H1 := Lib.hid (show pOkB W H N S A B C D E F = true from decide_eq_true h)
    have H2 := Lib.hid (show pErr W H N S A B C D E F = 0 by rw [pErr, if_pos h])
    clear h
    go_enter Try.func11, Try.ntmps11
    go_wp2_with fail
    refine (right28_any _ _ _ _ _ _ _ _ _ _ _ hS).mono ?_
    rintro e w1 ⟨rfl, hb1⟩
    rw [H1.out]
    go_wp2_with fail
    go_ret
    exact ⟨ret_int H2.out.symm, (below_then (Below.alloc (Below.refl _ w) (Nat.le_refl _) _) (by simp) hb1)⟩
  · have H1 := Lib.hid (show pOkB W H N S A B C D E F = false from decide_eq_false h)
    have H2 := Lib.hid (show pErr W H N S A B C D E F = 380 by rw [pErr, if_neg h])
    clear h
    go_enter Try.func11, Try.ntmps11
    go_wp2_with fail
    refine (right28_any _ _ _ _ _ _ _ _ _ _ _ hS).mono ?_
    rintro e w1 ⟨rfl, hb1⟩
    rw [H1.out]
    go_wp2_with fail
    go_ret
    exact ⟨ret_int H2.out.symm, (below_then (Below.alloc (Below.refl _ w) (Nat.le_refl _) _) (by simp) hb1)⟩
end Go.Proofs.Ytkkeahnmmpcceaa
