/- The reference's gray, rgb and Sample of layer 26: the same inks as color.Sample. -/
import Derived.Test.YtkkeahnmmpcceaaColS
import Derived.WalkKit
import Derived.Lib.Hide
import Derived.Deep.QuietTactic
import Derived.BigQuiet
import Derived.Lib.QuietBelow
import Derived.Deep.RegionHeld3
import Derived.WalkLawsBesides
import Derived.WalkSpells
import Derived.Outline
import Derived.Deep.DeepFit
import Derived.Maps.AppendAt
import Derived.Deep.AppendLies
namespace Go.Proofs.Ytkkeahnmmpcceaa
open Go.RowKit

set_option maxHeartbeats 400000 in
theorem gray_any (g : Int) (w : World) (h : 0 ≤ g) (h' : g ≤ 255) :
    Calls Try.prog 41 #[.int .i64 g] w fun e w' => e = .returned (.agg #[.int .i64 0, .int .i64 0, .int .i64 0, .int .i64 (255 - g)]) ∧ Below w.heap.size w w' := by
  go_enter Try.func41, Try.ntmps41
  go_wp2
  exact bodyPost_ret (v := .agg #[.int .i64 0, .int .i64 0, .int .i64 0, .int .i64 (255 - g)]) (by simp [results, Try.results41, go_sem]) rfl ⟨rfl, (by repeat (first | with_reducible exact Below.refl _ _ | with_reducible assumption | ((with_reducible refine Below.alloc ?_ ?hb_ _); (case hb_ => first | omega | (simp; done) | (simp; omega))) | ((with_reducible refine Below.setCell ?_ ?hb_ _); (case hb_ => first | omega | (simp; done) | (simp; omega))) | with_reducible refine Below.drew ?_ | with_reducible refine below_drewN ?_ _))⟩

def min3 (a b c : Int) : Int := if c < (if b < a then b else a) then c else if b < a then b else a
theorem min3_max {a b c : Int} : min3 (255 - a) (255 - b) (255 - c) = 255 - max3 a b c := by unfold min3 max3; split <;> (try split) <;> (try split) <;> (try split) <;> omega
set_option maxHeartbeats 400000 in
theorem rgb_any (a b c : Int) (w : World) (h0 : 0 ≤ a) (h0' : a ≤ 255) (h1 : 0 ≤ b) (h1' : b ≤ 255) (h2 : 0 ≤ c) (h2' : c ≤ 255) :
    Calls Try.prog 42 #[.int .i64 a, .int .i64 b, .int .i64 c] w fun e w' => e = .returned (.agg #[.int .i64 (255 - a - (255 - max3 a b c)), .int .i64 (255 - b - (255 - max3 a b c)), .int .i64 (255 - c - (255 - max3 a b c)), .int .i64 (255 - max3 a b c)]) ∧ Below w.heap.size w w' := by
  by_cases p : a < b
  · by_cases q : b < c
    · have Hm := Lib.hid (show max3 a b c = c by rw [max3, if_pos p, if_pos q])
      go_enter Try.func42, Try.ntmps42
      go_wp2_with fail
      exact bodyPost_ret (v := .agg #[.int .i64 (255 - a - (255 - c)), .int .i64 (255 - b - (255 - c)), .int .i64 (255 - c - (255 - c)), .int .i64 (255 - c)]) (by simp [results, Try.results42, go_sem]) rfl ⟨by rw [Hm.out], (by repeat (first | with_reducible exact Below.refl _ _ | with_reducible assumption | ((with_reducible refine Below.alloc ?_ ?hb_ _); (case hb_ => first | omega | (simp; done) | (simp; omega))) | ((with_reducible refine Below.setCell ?_ ?hb_ _); (case hb_ => first | omega | (simp; done) | (simp; omega))) | with_reducible refine Below.drew ?_ | with_reducible refine below_drewN ?_ _))⟩
    · have Hm := Lib.hid (show max3 a b c = b by rw [max3, if_pos p, if_neg q])
      go_enter Try.func42, Try.ntmps42
      go_wp2_with fail
      exact bodyPost_ret (v := .agg #[.int .i64 (255 - a - (255 - b)), .int .i64 (255 - b - (255 - b)), .int .i64 (255 - c - (255 - b)), .int .i64 (255 - b)]) (by simp [results, Try.results42, go_sem]) rfl ⟨by rw [Hm.out], (by repeat (first | with_reducible exact Below.refl _ _ | with_reducible assumption | ((with_reducible refine Below.alloc ?_ ?hb_ _); (case hb_ => first | omega | (simp; done) | (simp; omega))) | ((with_reducible refine Below.setCell ?_ ?hb_ _); (case hb_ => first | omega | (simp; done) | (simp; omega))) | with_reducible refine Below.drew ?_ | with_reducible refine below_drewN ?_ _))⟩
  · by_cases q : a < c
    · have Hm := Lib.hid (show max3 a b c = c by rw [max3, if_neg p, if_pos q])
      go_enter Try.func42, Try.ntmps42
      go_wp2_with fail
      exact bodyPost_ret (v := .agg #[.int .i64 (255 - a - (255 - c)), .int .i64 (255 - b - (255 - c)), .int .i64 (255 - c - (255 - c)), .int .i64 (255 - c)]) (by simp [results, Try.results42, go_sem]) rfl ⟨by rw [Hm.out], (by repeat (first | with_reducible exact Below.refl _ _ | with_reducible assumption | ((with_reducible refine Below.alloc ?_ ?hb_ _); (case hb_ => first | omega | (simp; done) | (simp; omega))) | ((with_reducible refine Below.setCell ?_ ?hb_ _); (case hb_ => first | omega | (simp; done) | (simp; omega))) | with_reducible refine Below.drew ?_ | with_reducible refine below_drewN ?_ _))⟩
    · have Hm := Lib.hid (show max3 a b c = a by rw [max3, if_neg p, if_neg q])
      go_enter Try.func42, Try.ntmps42
      go_wp2_with fail
      exact bodyPost_ret (v := .agg #[.int .i64 (255 - a - (255 - a)), .int .i64 (255 - b - (255 - a)), .int .i64 (255 - c - (255 - a)), .int .i64 (255 - a)]) (by simp [results, Try.results42, go_sem]) rfl ⟨by rw [Hm.out], (by repeat (first | with_reducible exact Below.refl _ _ | with_reducible assumption | ((with_reducible refine Below.alloc ?_ ?hb_ _); (case hb_ => first | omega | (simp; done) | (simp; omega))) | ((with_reducible refine Below.setCell ?_ ?hb_ _); (case hb_ => first | omega | (simp; done) | (simp; omega))) | with_reducible refine Below.drew ?_ | with_reducible refine below_drewN ?_ _))⟩

theorem bz_at (s : ByteArray) (i : Nat) : ∀ h : i < s.size, (((s[i]'h).toNat : Nat) : Int) = bz s i := fun h => by
  have h' : i < s.data.toList.length := by rw [Array.length_toList]; exact h
  unfold bz
  rw [List.getD_eq_getElem?_getD, List.getElem?_eq_getElem h']
  rfl
set_option maxHeartbeats 1000000 in
theorem rsample_1 (s : ByteArray) (w : World) (hs : s.size = 1) :
    Calls Try.prog 35 #[.string s] w fun e w' => e = .returned (.tuple #[inkOf s, .int .i64 (sampE s)]) ∧ Below w.heap.size w w' := by
  have H1 := Lib.hid (show inkOf s = .agg #[.int .i64 0, .int .i64 0, .int .i64 0, .int .i64 (255 - bz s 0)] by simp [inkOf, hs])
  have H2 := Lib.hid (show sampE s = 0 by simp [sampE, hs])
  have b0 : ∀ h : 0 < s.size, (((s[0]'h).toNat : Nat) : Int) = bz s 0 := bz_at s 0
  obtain ⟨z0, y0⟩ := bz_bd s 0
  go_enter Try.func35, Try.ntmps35
  go_wp2_with fail
  refine (gray_any _ _ z0 y0).mono ?_
  rintro e w1 ⟨rfl, hb1⟩
  have h4 : w1.heap[w.heap.size]? = some (.cells #[.int .i64 0, .int .i64 0, .int .i64 0, .int .i64 0] 41 (0, 0)) := by
    rw [hb1.block _ (by simp)]
    exact heap_alloc_new w _
  have hs1 : w.heap.size + 1 ≤ w1.heap.size := by simpa using hb1.size
  have hB1 : Below w.heap.size w w1 := below_then (Below.alloc (Below.refl _ w) (Nat.le_refl _) _) (by simp) hb1
  have r0 : w1.cell? ⟨w.heap.size, 0, none⟩ = some (.int .i64 0) := by simp [World.cell?, h4]
  have r1 : w1.cell? ⟨w.heap.size, 1, none⟩ = some (.int .i64 0) := by simp [World.cell?, h4]
  have r2 : w1.cell? ⟨w.heap.size, 2, none⟩ = some (.int .i64 0) := by simp [World.cell?, h4]
  have r3 : w1.cell? ⟨w.heap.size, 3, none⟩ = some (.int .i64 0) := by simp [World.cell?, h4]
  have f0 : w1.frozen? ⟨w.heap.size, 0, none⟩ = false := by simp [World.frozen?, h4]
  have f1 : w1.frozen? ⟨w.heap.size, 1, none⟩ = false := by simp [World.frozen?, h4]
  have f2 : w1.frozen? ⟨w.heap.size, 2, none⟩ = false := by simp [World.frozen?, h4]
  have f3 : w1.frozen? ⟨w.heap.size, 3, none⟩ = false := by simp [World.frozen?, h4]
  clear h4 hb1
  go_wp2_with fail
  exact bodyPost_ret (v := .tuple #[.agg #[.int .i64 0, .int .i64 0, .int .i64 0, .int .i64 (255 - bz s 0)], .int .i64 0]) (by simp [results, Try.results35, go_sem, r0, r1, r2, r3]) rfl ⟨by rw [H1.out, H2.out], (by repeat (first | with_reducible exact Below.refl _ _ | with_reducible assumption | ((with_reducible refine Below.alloc ?_ ?hb_ _); (case hb_ => first | omega | (simp; done) | (simp; omega))) | ((with_reducible refine Below.setCell ?_ ?hb_ _); (case hb_ => first | omega | (simp; done) | (simp; omega))) | with_reducible refine Below.drew ?_ | with_reducible refine below_drewN ?_ _))⟩
set_option maxHeartbeats 1000000 in
theorem rsample_3 (s : ByteArray) (w : World) (hs : s.size = 3) :
    Calls Try.prog 35 #[.string s] w fun e w' => e = .returned (.tuple #[inkOf s, .int .i64 (sampE s)]) ∧ Below w.heap.size w w' := by
  have H1 := Lib.hid (show inkOf s = .agg #[.int .i64 (255 - bz s 0 - (255 - max3 (bz s 0) (bz s 1) (bz s 2))), .int .i64 (255 - bz s 1 - (255 - max3 (bz s 0) (bz s 1) (bz s 2))), .int .i64 (255 - bz s 2 - (255 - max3 (bz s 0) (bz s 1) (bz s 2))), .int .i64 (255 - max3 (bz s 0) (bz s 1) (bz s 2))] by simp [inkOf, hs])
  have H2 := Lib.hid (show sampE s = 0 by simp [sampE, hs])
  have b0 : ∀ h : 0 < s.size, (((s[0]'h).toNat : Nat) : Int) = bz s 0 := bz_at s 0
  obtain ⟨z0, y0⟩ := bz_bd s 0
  have b1 : ∀ h : 1 < s.size, (((s[1]'h).toNat : Nat) : Int) = bz s 1 := bz_at s 1
  obtain ⟨z1, y1⟩ := bz_bd s 1
  have b2 : ∀ h : 2 < s.size, (((s[2]'h).toNat : Nat) : Int) = bz s 2 := bz_at s 2
  obtain ⟨z2, y2⟩ := bz_bd s 2
  go_enter Try.func35, Try.ntmps35
  go_wp2_with fail
  refine wp_region_ord (.s 0 .p (.s 1 .p (.s 2 .p (.s 3 .p (.s 4 .p (.s 5 .p (.s 6 .p (.s 7 .p (.s 8 .p (.s 9 .e (.s 10 .e (.s 11 .p .done)))))))))))) (fun _ => True) (by kernel_rfl) (by kernel_rfl) (fun _ _ _ _ _ h => h) trivial ?_
  (apply wpOrd_p2 rfl rfl rfl rfl rfl; (intro w' K hK; (first | go_big_move | go_big_op | go_wp2_with fail); exact hK))
  (apply wpOrd_p2 rfl rfl rfl rfl rfl; (intro w' K hK; (first | go_big_move | go_big_op | go_wp2_with fail); exact hK))
  (apply wpOrd_p2 rfl rfl rfl rfl rfl; (intro w' K hK; (first | go_big_move | go_big_op | go_wp2_with fail); exact hK))
  (apply wpOrd_p2 rfl rfl rfl rfl rfl; (intro w' K hK; (first | go_big_move | go_big_op | go_wp2_with fail); exact hK))
  (apply wpOrd_p2 rfl rfl rfl rfl rfl; (intro w' K hK; (first | go_big_move | go_big_op | go_wp2_with fail); exact hK))
  (apply wpOrd_p2 rfl rfl rfl rfl rfl; (intro w' K hK; (first | go_big_move | go_big_op | go_wp2_with fail); exact hK))
  (apply wpOrd_p2 rfl rfl rfl rfl rfl; (intro w' K hK; (first | go_big_move | go_big_op | go_wp2_with fail); exact hK))
  (apply wpOrd_p2 rfl rfl rfl rfl rfl; (intro w' K hK; (first | go_big_move | go_big_op | go_wp2_with fail); exact hK))
  (apply wpOrd_p2 rfl rfl rfl rfl rfl; (intro w' K hK; (first | go_big_move | go_big_op | go_wp2_with fail); exact hK))
  (refine wpOrd_e1 rfl rfl (fun K hK => ?_); first | go_big_op | go_wp2_with fail)
  refine (rgb_any _ _ _ _ z0 y0 z1 y1 z2 y2).mono ?_
  rintro e w1 ⟨rfl, hb1⟩
  have h4 : w1.heap[w.heap.size]? = some (.cells #[.int .i64 0, .int .i64 0, .int .i64 0, .int .i64 0] 41 (0, 0)) := by
    rw [hb1.block _ (by simp)]
    exact heap_alloc_new w _
  have hs1 : w.heap.size + 1 ≤ w1.heap.size := by simpa using hb1.size
  have hB1 : Below w.heap.size w w1 := below_then (Below.drew (Below.alloc (Below.refl _ w) (Nat.le_refl _) _)) (by simp) hb1
  have r0 : w1.cell? ⟨w.heap.size, 0, none⟩ = some (.int .i64 0) := by simp [World.cell?, h4]
  have r1 : w1.cell? ⟨w.heap.size, 1, none⟩ = some (.int .i64 0) := by simp [World.cell?, h4]
  have r2 : w1.cell? ⟨w.heap.size, 2, none⟩ = some (.int .i64 0) := by simp [World.cell?, h4]
  have r3 : w1.cell? ⟨w.heap.size, 3, none⟩ = some (.int .i64 0) := by simp [World.cell?, h4]
  have f0 : w1.frozen? ⟨w.heap.size, 0, none⟩ = false := by simp [World.frozen?, h4]
  have f1 : w1.frozen? ⟨w.heap.size, 1, none⟩ = false := by simp [World.frozen?, h4]
  have f2 : w1.frozen? ⟨w.heap.size, 2, none⟩ = false := by simp [World.frozen?, h4]
  have f3 : w1.frozen? ⟨w.heap.size, 3, none⟩ = false := by simp [World.frozen?, h4]
  clear h4 hb1
  refine hK _ _ trivial ?_
  clear hK K
  (refine wpOrd_e1 rfl rfl (fun K hK => ?_); first | go_big_op | go_wp2_with fail); refine hK _ _ trivial ?_; clear hK K
  (apply wpOrd_p2 rfl rfl rfl rfl rfl; (intro w' K hK; (first | go_big_move | go_big_op | go_wp2_with fail); exact hK))
  refine wpOrd_nil ?_
  go_wp2_with fail
  exact bodyPost_ret (v := .tuple #[.agg #[.int .i64 (255 - bz s 0 - (255 - max3 (bz s 0) (bz s 1) (bz s 2))), .int .i64 (255 - bz s 1 - (255 - max3 (bz s 0) (bz s 1) (bz s 2))), .int .i64 (255 - bz s 2 - (255 - max3 (bz s 0) (bz s 1) (bz s 2))), .int .i64 (255 - max3 (bz s 0) (bz s 1) (bz s 2))], .int .i64 0]) (by simp [results, Try.results35, go_sem, r0, r1, r2, r3]) rfl ⟨by rw [H1.out, H2.out], (by repeat (first | with_reducible exact Below.refl _ _ | with_reducible assumption | ((with_reducible refine Below.alloc ?_ ?hb_ _); (case hb_ => first | omega | (simp; done) | (simp; omega))) | ((with_reducible refine Below.setCell ?_ ?hb_ _); (case hb_ => first | omega | (simp; done) | (simp; omega))) | with_reducible refine Below.drew ?_ | with_reducible refine below_drewN ?_ _))⟩
set_option maxHeartbeats 1000000 in
theorem rsample_4 (s : ByteArray) (w : World) (hs : s.size = 4) :
    Calls Try.prog 35 #[.string s] w fun e w' => e = .returned (.tuple #[inkOf s, .int .i64 (sampE s)]) ∧ Below w.heap.size w w' := by
  have H1 := Lib.hid (show inkOf s = .agg #[.int .i64 (bz s 0), .int .i64 (bz s 1), .int .i64 (bz s 2), .int .i64 (bz s 3)] by simp [inkOf, hs])
  have H2 := Lib.hid (show sampE s = 0 by simp [sampE, hs])
  have b0 : ∀ h : 0 < s.size, (((s[0]'h).toNat : Nat) : Int) = bz s 0 := bz_at s 0
  obtain ⟨z0, y0⟩ := bz_bd s 0
  have b1 : ∀ h : 1 < s.size, (((s[1]'h).toNat : Nat) : Int) = bz s 1 := bz_at s 1
  obtain ⟨z1, y1⟩ := bz_bd s 1
  have b2 : ∀ h : 2 < s.size, (((s[2]'h).toNat : Nat) : Int) = bz s 2 := bz_at s 2
  obtain ⟨z2, y2⟩ := bz_bd s 2
  have b3 : ∀ h : 3 < s.size, (((s[3]'h).toNat : Nat) : Int) = bz s 3 := bz_at s 3
  obtain ⟨z3, y3⟩ := bz_bd s 3
  go_enter Try.func35, Try.ntmps35
  go_wp2_with fail
  refine wp_region_ord (.s 0 .p (.s 1 .p (.s 2 .p (.s 3 .p (.s 4 .p (.s 5 .p (.s 6 .p (.s 7 .p (.s 8 .p (.s 9 .p (.s 10 .p (.s 11 .p (.s 12 .p (.s 13 .e (.s 14 .p .done))))))))))))))) (fun _ => True) (by kernel_rfl) (by kernel_rfl) (fun _ _ _ _ _ h => h) trivial ?_
  (apply wpOrd_p2 rfl rfl rfl rfl rfl; (intro w' K hK; (first | go_big_move | go_big_op | go_wp2_with fail); exact hK))
  (apply wpOrd_p2 rfl rfl rfl rfl rfl; (intro w' K hK; (first | go_big_move | go_big_op | go_wp2_with fail); exact hK))
  (apply wpOrd_p2 rfl rfl rfl rfl rfl; (intro w' K hK; (first | go_big_move | go_big_op | go_wp2_with fail); exact hK))
  (apply wpOrd_p2 rfl rfl rfl rfl rfl; (intro w' K hK; (first | go_big_move | go_big_op | go_wp2_with fail); exact hK))
  (apply wpOrd_p2 rfl rfl rfl rfl rfl; (intro w' K hK; (first | go_big_move | go_big_op | go_wp2_with fail); exact hK))
  (apply wpOrd_p2 rfl rfl rfl rfl rfl; (intro w' K hK; (first | go_big_move | go_big_op | go_wp2_with fail); exact hK))
  (apply wpOrd_p2 rfl rfl rfl rfl rfl; (intro w' K hK; (first | go_big_move | go_big_op | go_wp2_with fail); exact hK))
  (apply wpOrd_p2 rfl rfl rfl rfl rfl; (intro w' K hK; (first | go_big_move | go_big_op | go_wp2_with fail); exact hK))
  (apply wpOrd_p2 rfl rfl rfl rfl rfl; (intro w' K hK; (first | go_big_move | go_big_op | go_wp2_with fail); exact hK))
  (apply wpOrd_p2 rfl rfl rfl rfl rfl; (intro w' K hK; (first | go_big_move | go_big_op | go_wp2_with fail); exact hK))
  (apply wpOrd_p2 rfl rfl rfl rfl rfl; (intro w' K hK; (first | go_big_move | go_big_op | go_wp2_with fail); exact hK))
  (apply wpOrd_p2 rfl rfl rfl rfl rfl; (intro w' K hK; (first | go_big_move | go_big_op | go_wp2_with fail); exact hK))
  (apply wpOrd_p2 rfl rfl rfl rfl rfl; (intro w' K hK; (first | go_big_move | go_big_op | go_wp2_with fail); exact hK))
  (refine wpOrd_e1 rfl rfl (fun K hK => ?_); first | go_big_op | go_wp2_with fail); refine hK _ _ trivial ?_; clear hK K
  (apply wpOrd_p2 rfl rfl rfl rfl rfl; (intro w' K hK; (first | go_big_move | go_big_op | go_wp2_with fail); exact hK))
  refine wpOrd_nil ?_
  go_wp2_with fail
  exact bodyPost_ret (v := .tuple #[.agg #[.int .i64 (bz s 0), .int .i64 (bz s 1), .int .i64 (bz s 2), .int .i64 (bz s 3)], .int .i64 0]) (by simp [results, Try.results35, go_sem]) rfl ⟨by rw [H1.out, H2.out], (by repeat (first | with_reducible exact Below.refl _ _ | with_reducible assumption | ((with_reducible refine Below.alloc ?_ ?hb_ _); (case hb_ => first | omega | (simp; done) | (simp; omega))) | ((with_reducible refine Below.setCell ?_ ?hb_ _); (case hb_ => first | omega | (simp; done) | (simp; omega))) | with_reducible refine Below.drew ?_ | with_reducible refine below_drewN ?_ _))⟩
set_option maxHeartbeats 1000000 in
theorem rsample_no (s : ByteArray) (w : World) (h1 : ¬ s.size = 1) (h3 : ¬ s.size = 3) (h4 : ¬ s.size = 4) :
    Calls Try.prog 35 #[.string s] w fun e w' => e = .returned (.tuple #[inkOf s, .int .i64 (sampE s)]) ∧ Below w.heap.size w w' := by
  have H1 := Lib.hid (show inkOf s = .agg #[.int .i64 0, .int .i64 0, .int .i64 0, .int .i64 0] by simp [inkOf, h1, h3, h4])
  have H2 := Lib.hid (show sampE s = 2 by simp [sampE, h1, h3, h4])
  have e1 : ((s.size : Int) == 1) = false := by simp; omega
  have e3 : ((s.size : Int) == 3) = false := by simp; omega
  have e4 : ((s.size : Int) == 4) = false := by simp; omega
  go_enter Try.func35, Try.ntmps35
  go_wp2_with fail
  exact bodyPost_ret (v := .tuple #[.agg #[.int .i64 0, .int .i64 0, .int .i64 0, .int .i64 0], .int .i64 2]) (by simp [results, Try.results35, go_sem]) rfl ⟨by rw [H1.out, H2.out], (by repeat (first | with_reducible exact Below.refl _ _ | with_reducible assumption | ((with_reducible refine Below.alloc ?_ ?hb_ _); (case hb_ => first | omega | (simp; done) | (simp; omega))) | ((with_reducible refine Below.setCell ?_ ?hb_ _); (case hb_ => first | omega | (simp; done) | (simp; omega))) | with_reducible refine Below.drew ?_ | with_reducible refine below_drewN ?_ _))⟩
theorem rsample_any (s : ByteArray) (w : World) :
    Calls Try.prog 35 #[.string s] w fun e w' => e = .returned (.tuple #[inkOf s, .int .i64 (sampE s)]) ∧ Below w.heap.size w w' := by
  by_cases h1 : s.size = 1
  · exact rsample_1 s w h1
  · by_cases h3 : s.size = 3
    · exact rsample_3 s w h3
    · by_cases h4 : s.size = 4
      · exact rsample_4 s w h4
      · exact rsample_no s w h1 h3 h4
end Go.Proofs.Ytkkeahnmmpcceaa
