/- sample.At: the ink of the sample under a pixel. -/
import Derived.Test.YtkkeahnmmpcceaaSamC
import Derived.Test.YtkkeahnmmpcceaaColS
import Derived.WalkKit
import Derived.Lib.Hide
import Derived.Deep.QuietTactic
import Derived.BigQuiet
import Derived.Lib.QuietBelow
import Derived.Deep.RegionHeld3
import Derived.WalkLawsBesides
import Derived.WalkSpells
import Derived.Outline
import Derived.Deep.DeepFit
import Derived.Maps.AppendAt
import Derived.Deep.AppendLies
namespace Go.Proofs.Ytkkeahnmmpcceaa
open Go.RowKit

/-- the octets of the sample under a pixel -/
def atS (W N : Int) (S : ByteArray) (I J : Int) : ByteArray := S.extract ((J * W + I) * N).toNat ((J * W + I) * N + N).toNat
theorem atS_size {W H N : Int} {S : ByteArray} {I J : Int} (h1 : 0 ≤ I) (h2 : I < W) (h3 : 0 ≤ J) (h4 : J < H) (hw : W ≤ 64) (hh : H ≤ 64) (hN : N = 1 ∨ N = 3 ∨ N = 4) (hs : (S.size : Int) = W * H * N) :
    (0 ≤ J * W ∧ J * W ≤ 4096) ∧ (0 ≤ (J * W + I) * N ∧ (J * W + I) * N + N ≤ S.size) ∧ (S.size : Int) ≤ 16384 := by
  have a1 : 0 ≤ J * W := Int.mul_nonneg h3 (by omega)
  have a2 : J * W ≤ (H - 1) * W := Int.mul_le_mul_of_nonneg_right (by omega) (by omega)
  have a3 : (H - 1) * W + W = W * H := by rw [Int.sub_mul, Int.one_mul, Int.mul_comm H W]; omega
  have a4 : W * H ≤ 64 * 64 := Int.mul_le_mul hw hh (by omega) (by omega)
  refine ⟨⟨a1, by omega⟩, ?_, ?_⟩ <;> rcases hN with rfl | rfl | rfl <;> omega
theorem ink_agg (s : ByteArray) : ∃ a b c d, inkOf s = .agg #[.int .i64 a, .int .i64 b, .int .i64 c, .int .i64 d] := by
  unfold inkOf
  split
  · exact ⟨_, _, _, _, rfl⟩
  · split
    · exact ⟨_, _, _, _, rfl⟩
    · split <;> exact ⟨_, _, _, _, rfl⟩
theorem heap_alloc_at (w : World) (o : Obj) (k : Nat) (h : k = w.heap.size) : (w.alloc o).heap[k]? = some o := by
  subst h
  exact heap_alloc_new w o
theorem ink0 {w : World} {b t : Nat} (h : w.heap[b]? = some (.cells #[.int .i64 0, .int .i64 0, .int .i64 0, .int .i64 0] t (0, 0))) :
    (w.cell? ⟨b, 0, none⟩ = some (.int .i64 0) ∧ w.cell? ⟨b, 1, none⟩ = some (.int .i64 0) ∧ w.cell? ⟨b, 2, none⟩ = some (.int .i64 0) ∧ w.cell? ⟨b, 3, none⟩ = some (.int .i64 0)) ∧
    (w.frozen? ⟨b, 0, none⟩ = false ∧ w.frozen? ⟨b, 1, none⟩ = false ∧ w.frozen? ⟨b, 2, none⟩ = false ∧ w.frozen? ⟨b, 3, none⟩ = false) := by
  refine ⟨⟨?_, ?_, ?_, ?_⟩, ⟨?_, ?_, ?_, ?_⟩⟩ <;> simp [World.cell?, World.frozen?, h]
theorem atS_two {W N : Int} {S : ByteArray} {I J : Int} (h : 0 ≤ (J * W + I) * N) (h' : (J * W + I) * N + N ≤ S.size) (hN : 0 ≤ N) : (S.extract ((J * W + I) * N).toNat S.size).extract 0 N.toNat = atS W N S I J := by
  unfold atS
  rw [ByteArray.extract_extract]
  congr 1
  omega
theorem atS_E {W N : Int} {S : ByteArray} {I J : Int} (h : 0 ≤ (J * W + I) * N) (h' : (J * W + I) * N + N ≤ S.size) (hN : N = 1 ∨ N = 3 ∨ N = 4) : sampE (atS W N S I J) = 0 := by
  have hz : (atS W N S I J).size = N.toNat := by
    unfold atS
    rw [ByteArray.size_extract]
    omega
  unfold sampE
  rw [if_pos (by omega)]
set_option maxHeartbeats 2000000 in
theorem sat_in (W H N : Int) (S : ByteArray) (A B C D E F x y I J : Int) (w : World) (hS : S.size ≤ 9223372036854775807) (hP : placeV W H N S A B C D E F x y = .tuple #[.int .i64 I, .int .i64 J, .bool true, .int .i64 0])
    (h1 : 0 ≤ I) (h2 : I < W) (h3 : 0 ≤ J) (h4 : J < H) (hw : W ≤ 64) (hh : H ≤ 64) (hN : N = 1 ∨ N = 3 ∨ N = 4) (hs : (S.size : Int) = W * H * N) :
    Calls Try.prog 14 #[.agg #[.int .i64 W, .int .i64 H, .int .i64 N, .string S, .int .i64 A, .int .i64 B, .int .i64 C, .int .i64 D, .int .i64 E, .int .i64 F], .int .i64 x, .int .i64 y] w fun e w' => e = .returned (.tuple #[inkOf (atS W N S I J), .bool true, .int .i64 0]) ∧ Below w.heap.size w w' := by
  have HP := Lib.hid hP
  obtain ⟨⟨k1, k2⟩, ⟨k3, k4⟩, k5⟩ := atS_size h1 h2 h3 h4 hw hh hN hs
  have Hx := Lib.hid (atS_two (S := S) (W := W) (I := I) (J := J) k3 k4 (by omega))
  have HE := Lib.hid (atS_E (S := S) (W := W) (I := I) (J := J) k3 k4 hN)
  obtain ⟨i0, i1, i2, i3, hink⟩ := ink_agg (atS W N S I J)
  have HI := Lib.hid hink
  clear hP hink
  go_enter Try.func14, Try.ntmps14
  go_wp2_with fail
  refine (splace_any _ _ _ _ _ _ _ _ _ _ _ _ _ hS).mono ?_
  rintro e w1 ⟨rfl, hb1⟩
  rw [HP.out]
  have hs1 : w.heap.size + 2 ≤ w1.heap.size := by simpa using hb1.size
  have hlt1 : w.heap.size < w1.heap.size := by omega
  obtain ⟨hc1, hf1⟩ := bcell hb1
  have c0 : w1.cell? ⟨w.heap.size, 0, none⟩ = some (.int .i64 W) := by rw [hc1 _ _ (by simp; omega)]; simp
  have c2 : w1.cell? ⟨w.heap.size, 2, none⟩ = some (.int .i64 N) := by rw [hc1 _ _ (by simp; omega)]; simp
  have c3 : w1.cell? ⟨w.heap.size, 3, none⟩ = some (.string S) := by rw [hc1 _ _ (by simp; omega)]; simp
  clear hc1 hf1
  have h4 : w1.heap[w.heap.size + 1]? = some (.cells #[.int .i64 0, .int .i64 0, .int .i64 0, .int .i64 0] 41 (0, 0)) := by
    rw [hb1.block _ (by simp)]
    exact heap_alloc_at _ _ _ (by simp)
  have hB1 : Below w.heap.size w w1 := below_then (Below.alloc (Below.alloc (Below.refl _ w) (Nat.le_refl _) _) (by simp) _) (by simp; omega) hb1
  clear hb1
  go_wp2_with fail
  refine wp_region_ord (.s 0 .p (.s 1 .l (.s 2 .p (.s 3 .p (.s 4 .l (.s 5 .p (.s 6 .p (.s 7 .p (.s 8 .p (.s 9 .l (.s 10 .p (.s 11 .p (.s 12 .p (.s 13 .l (.s 14 .p (.f 15 (.s 16 .p (.s 17 .p (.s 18 .p (.s 19 .e (.s 20 .e (.s 21 .p .done)))))) 19 (.s 15 .e (.s 16 .p (.s 17 .p (.s 18 .p (.s 20 .e (.s 21 .p .done)))))))))))))))))))))) (Held w1 []) (by kernel_rfl) (by kernel_rfl) (fun _ _ _ _ _ h => h) (Held.refl _ _) ?_
  (apply wpOrd_p2 rfl rfl rfl rfl rfl; (intro w' K hK; (first | go_big_move | go_big_op | go_wp2_with fail); exact hK))
  (apply wpOrd_l2 rfl rfl rfl rfl rfl; (intro w' K hS' hK; (have hr' := hS'.cell; simp at hr'; (first | go_big_op | go_wp2_with fail); exact hK)); (first | assumption | exact Held.refl _ _ | exact Held.of_below (by repeat (first | with_reducible exact Below.refl _ _ | with_reducible assumption | ((with_reducible refine Below.alloc ?_ ?hb_ _); (case hb_ => first | omega | (simp; done) | (simp; omega))) | ((with_reducible refine Below.setCell ?_ ?hb_ _); (case hb_ => first | omega | (simp; done) | (simp; omega))) | with_reducible refine Below.drew ?_ | with_reducible refine below_drewN ?_ _))))
  (apply wpOrd_p2 rfl rfl rfl rfl rfl; (intro w' K hK; (first | go_big_move | go_big_op | go_wp2_with fail); exact hK))
  (apply wpOrd_p2 rfl rfl rfl rfl rfl; (intro w' K hK; (first | go_big_move | go_big_op | go_wp2_with fail); exact hK))
  (apply wpOrd_l2 rfl rfl rfl rfl rfl; (intro w' K hS' hK; (have hr' := hS'.cell; simp at hr'; (first | go_big_op | go_wp2_with fail); exact hK)); (first | assumption | exact Held.refl _ _ | exact Held.of_below (by repeat (first | with_reducible exact Below.refl _ _ | with_reducible assumption | ((with_reducible refine Below.alloc ?_ ?hb_ _); (case hb_ => first | omega | (simp; done) | (simp; omega))) | ((with_reducible refine Below.setCell ?_ ?hb_ _); (case hb_ => first | omega | (simp; done) | (simp; omega))) | with_reducible refine Below.drew ?_ | with_reducible refine below_drewN ?_ _))))
  (apply wpOrd_p2 rfl rfl rfl rfl rfl; (intro w' K hK; (first | go_big_move | go_big_op | go_wp2_with fail); exact hK))
  (apply wpOrd_p2 rfl rfl rfl rfl rfl; (intro w' K hK; (first | go_big_move | go_big_op | go_wp2_with fail); exact hK))
  (apply wpOrd_p2 rfl rfl rfl rfl rfl; (intro w' K hK; (first | go_big_move | go_big_op | go_wp2_with fail); exact hK))
  (apply wpOrd_p2 rfl rfl rfl rfl rfl; (intro w' K hK; (first | go_big_move | go_big_op | go_wp2_with fail); exact hK))
  (apply wpOrd_l2 rfl rfl rfl rfl rfl; (intro w' K hS' hK; (have hr' := hS'.cell; simp at hr'; (first | go_big_op | go_wp2_with fail); exact hK)); (first | assumption | exact Held.refl _ _ | exact Held.of_below (by repeat (first | with_reducible exact Below.refl _ _ | with_reducible assumption | ((with_reducible refine Below.alloc ?_ ?hb_ _); (case hb_ => first | omega | (simp; done) | (simp; omega))) | ((with_reducible refine Below.setCell ?_ ?hb_ _); (case hb_ => first | omega | (simp; done) | (simp; omega))) | with_reducible refine Below.drew ?_ | with_reducible refine below_drewN ?_ _))))
  (apply wpOrd_p2 rfl rfl rfl rfl rfl; (intro w' K hK; (first | go_big_move | go_big_op | go_wp2_with fail); exact hK))
  (apply wpOrd_p2 rfl rfl rfl rfl rfl; (intro w' K hK; (first | go_big_move | go_big_op | go_wp2_with fail); exact hK))
  (apply wpOrd_p2 rfl rfl rfl rfl rfl; (intro w' K hK; (first | go_big_move | go_big_op | go_wp2_with fail); exact hK))
  (apply wpOrd_l2 rfl rfl rfl rfl rfl; (intro w' K hS' hK; (have hr' := hS'.cell; simp at hr'; (first | go_big_op | go_wp2_with fail); exact hK)); (first | assumption | exact Held.refl _ _ | exact Held.of_below (by repeat (first | with_reducible exact Below.refl _ _ | with_reducible assumption | ((with_reducible refine Below.alloc ?_ ?hb_ _); (case hb_ => first | omega | (simp; done) | (simp; omega))) | ((with_reducible refine Below.setCell ?_ ?hb_ _); (case hb_ => first | omega | (simp; done) | (simp; omega))) | with_reducible refine Below.drew ?_ | with_reducible refine below_drewN ?_ _))))
  (apply wpOrd_p2 rfl rfl rfl rfl rfl; (intro w' K hK; (first | go_big_move | go_big_op | go_wp2_with fail); exact hK))
  refine wpOrd_f rfl rfl rfl rfl (fun K hK => ?_) (fun K hK => ?_)
  · (first | go_big_op | go_wp2_with fail)
    rw [Hx.out]; refine (csample_any _ _).mono ?_; rintro e w2 ⟨rfl, hb2⟩; rw [HE.out, HI.out]; (have hs2 : w1.heap.size ≤ w2.heap.size := by simpa using hb2.size); (have hl2 : w.heap.size + 1 < w2.heap.size := by omega); (have hH2 := Held.then (X := []) (Held.drew (Held.refl w1 [])) (by simp) hb2); (have hB2 : Below w.heap.size w w2 := below_then (Below.drew hB1) (by simp; omega) hb2); clear hb2; (have h5 := (hH2 (w.heap.size + 1) (by omega) (by simp)).trans h4); obtain ⟨⟨r0, r1, r2, r3⟩, f0, f1, f2, f3⟩ := ink0 h5; clear h5; refine hK _ _ hH2 ?_; clear hK K
    (apply wpOrd_p2 rfl rfl rfl rfl rfl; (intro w' K hK; (first | go_big_move | go_big_op | go_wp2_with fail); exact hK))
    (apply wpOrd_p2 rfl rfl rfl rfl rfl; (intro w' K hK; (first | go_big_move | go_big_op | go_wp2_with fail); exact hK))
    (apply wpOrd_p2 rfl rfl rfl rfl rfl; (intro w' K hK; (first | go_big_move | go_big_op | go_wp2_with fail); exact hK))
    (refine wpOrd_e1 rfl rfl (fun K hK => ?_)); (first | go_big_op | go_wp2_with fail)
    refine hK _ _ (by repeat (first | with_reducible exact Held.refl _ _ | with_reducible assumption | with_reducible refine Held.drew ?_ | ((with_reducible refine Held.alloc ?_ ?hb_ _); (case hb_ => first | omega | (simp; done) | (simp; omega))) | ((with_reducible refine Held.setCell ?_ _ _ ?hb_); (case hb_ => (refine .inl ?_); first | omega | (simp; done) | (simp; omega))))) ?_; clear hK K
    (refine wpOrd_e1 rfl rfl (fun K hK => ?_)); (first | go_big_op | go_wp2_with fail)
    refine hK _ _ (by repeat (first | with_reducible exact Held.refl _ _ | with_reducible assumption | with_reducible refine Held.drew ?_ | ((with_reducible refine Held.alloc ?_ ?hb_ _); (case hb_ => first | omega | (simp; done) | (simp; omega))) | ((with_reducible refine Held.setCell ?_ _ _ ?hb_); (case hb_ => (refine .inl ?_); first | omega | (simp; done) | (simp; omega))))) ?_; clear hK K
    (apply wpOrd_p2 rfl rfl rfl rfl rfl; (intro w' K hK; (first | go_big_move | go_big_op | go_wp2_with fail); exact hK))
    refine wpOrd_nil ?_
    go_wp2_with fail; exact bodyPost_ret (v := .tuple #[.agg #[.int .i64 i0, .int .i64 i1, .int .i64 i2, .int .i64 i3], .bool true, .int .i64 0]) (by simp [results, Try.results14, go_sem, r0, r1, r2, r3, World.cell?_alloc_lt, hl2]) rfl ⟨by rw [HI.out], (by repeat (first | with_reducible exact Below.refl _ _ | with_reducible assumption | ((with_reducible refine Below.alloc ?_ ?hb_ _); (case hb_ => first | omega | (simp; done) | (simp; omega))) | ((with_reducible refine Below.setCell ?_ ?hb_ _); (case hb_ => first | omega | (simp; done) | (simp; omega))) | with_reducible refine Below.drew ?_ | with_reducible refine below_drewN ?_ _))⟩
  · (first | go_big_op | go_wp2_with fail)
    refine hK _ _ (by repeat (first | with_reducible exact Held.refl _ _ | with_reducible assumption | with_reducible refine Held.drew ?_ | ((with_reducible refine Held.alloc ?_ ?hb_ _); (case hb_ => first | omega | (simp; done) | (simp; omega))) | ((with_reducible refine Held.setCell ?_ _ _ ?hb_); (case hb_ => (refine .inl ?_); first | omega | (simp; done) | (simp; omega))))) ?_; clear hK K
    (refine wpOrd_e1 rfl rfl (fun K hK => ?_)); (first | go_big_op | go_wp2_with fail)
    rw [Hx.out]; refine (csample_any _ _).mono ?_; rintro e w2 ⟨rfl, hb2⟩; rw [HE.out, HI.out]; (have hs2 : w1.heap.size + 1 ≤ w2.heap.size := by simpa using hb2.size); (have hl2 : w.heap.size + 1 < w2.heap.size := by omega); (have hH2 := Held.then (X := []) (Held.alloc (o := .cells #[.int .i64 0, .int .i64 0, .int .i64 0, .int .i64 0] 41) (Held.drew (Held.refl w1 [])) (by simp)) (by simp) hb2); (have hB2 : Below w.heap.size w w2 := below_then (Below.alloc (Below.drew hB1) (by simp; omega) _) (by simp; omega) hb2); (have h6 : w2.heap[w1.heap.size]? = some (.cells #[.int .i64 0, .int .i64 0, .int .i64 0, .int .i64 0] 41 (0, 0)) := (hb2.block _ (by simp)).trans (heap_alloc_at _ _ _ rfl)); obtain ⟨⟨s0, s1, s2, s3⟩, g0, g1, g2, g3⟩ := ink0 h6; clear h6 hb2; (have hl3 : w1.heap.size < w2.heap.size := by omega); (have hl4 : w.heap.size + 1 ≠ w1.heap.size := by omega); (have hl5 : w1.heap.size ≠ w.heap.size + 1 := by omega); (have h5 := (hH2 (w.heap.size + 1) (by omega) (by simp)).trans h4); obtain ⟨⟨r0, r1, r2, r3⟩, f0, f1, f2, f3⟩ := ink0 h5; clear h5; refine hK _ _ hH2 ?_; clear hK K
    (apply wpOrd_p2 rfl rfl rfl rfl rfl; (intro w' K hK; (first | go_big_move | go_big_op | go_wp2_with fail); exact hK))
    (apply wpOrd_p2 rfl rfl rfl rfl rfl; (intro w' K hK; (first | go_big_move | go_big_op | go_wp2_with fail); exact hK))
    (apply wpOrd_p2 rfl rfl rfl rfl rfl; (intro w' K hK; (first | go_big_move | go_big_op | go_wp2_with fail); exact hK))
    (refine wpOrd_e1 rfl rfl (fun K hK => ?_)); (first | go_big_op | go_wp2_with fail)
    refine hK _ _ (by repeat (first | with_reducible exact Held.refl _ _ | with_reducible assumption | with_reducible refine Held.drew ?_ | ((with_reducible refine Held.alloc ?_ ?hb_ _); (case hb_ => first | omega | (simp; done) | (simp; omega))) | ((with_reducible refine Held.setCell ?_ _ _ ?hb_); (case hb_ => (refine .inl ?_); first | omega | (simp; done) | (simp; omega))))) ?_; clear hK K
    (apply wpOrd_p2 rfl rfl rfl rfl rfl; (intro w' K hK; (first | go_big_move | go_big_op | go_wp2_with fail); exact hK))
    refine wpOrd_nil ?_
    go_wp2_with fail; exact bodyPost_ret (v := .tuple #[.agg #[.int .i64 i0, .int .i64 i1, .int .i64 i2, .int .i64 i3], .bool true, .int .i64 0]) (by simp [results, Try.results14, go_sem, r0, r1, r2, r3, World.cell?_alloc_lt, hl2]) rfl ⟨by rw [HI.out], (by repeat (first | with_reducible exact Below.refl _ _ | with_reducible assumption | ((with_reducible refine Below.alloc ?_ ?hb_ _); (case hb_ => first | omega | (simp; done) | (simp; omega))) | ((with_reducible refine Below.setCell ?_ ?hb_ _); (case hb_ => first | omega | (simp; done) | (simp; omega))) | with_reducible refine Below.drew ?_ | with_reducible refine below_drewN ?_ _))⟩
set_option maxHeartbeats 1000000 in
theorem sat_no (W H N : Int) (S : ByteArray) (A B C D E F x y I J e0 : Int) (w : World) (hS : S.size ≤ 9223372036854775807) (hP : placeV W H N S A B C D E F x y = .tuple #[.int .i64 I, .int .i64 J, .bool false, .int .i64 e0]) :
    Calls Try.prog 14 #[.agg #[.int .i64 W, .int .i64 H, .int .i64 N, .string S, .int .i64 A, .int .i64 B, .int .i64 C, .int .i64 D, .int .i64 E, .int .i64 F], .int .i64 x, .int .i64 y] w fun e w' => e = .returned (.tuple #[.agg #[.int .i64 0, .int .i64 0, .int .i64 0, .int .i64 0], .bool false, .int .i64 e0]) ∧ Below w.heap.size w w' := by
  have HP := Lib.hid hP
  clear hP
  go_enter Try.func14, Try.ntmps14
  go_wp2_with fail
  refine (splace_any _ _ _ _ _ _ _ _ _ _ _ _ _ hS).mono ?_
  rintro e w1 ⟨rfl, hb1⟩
  rw [HP.out]
  have hs1 : w.heap.size + 2 ≤ w1.heap.size := by simpa using hb1.size
  have h4 : w1.heap[w.heap.size + 1]? = some (.cells #[.int .i64 0, .int .i64 0, .int .i64 0, .int .i64 0] 41 (0, 0)) := by
    rw [hb1.block _ (by simp)]
    exact heap_alloc_at _ _ _ (by simp)
  have hB1 : Below w.heap.size w w1 := below_then (Below.alloc (Below.alloc (Below.refl _ w) (Nat.le_refl _) _) (by simp) _) (by simp; omega) hb1
  obtain ⟨⟨r0, r1, r2, r3⟩, f0, f1, f2, f3⟩ := ink0 h4
  clear h4 hb1
  go_wp2_with fail
  all_goals exact bodyPost_ret (v := .tuple #[.agg #[.int .i64 0, .int .i64 0, .int .i64 0, .int .i64 0], .bool false, .int .i64 e0]) (by simp [results, Try.results14, go_sem, r0, r1, r2, r3, *]) rfl ⟨rfl, (by repeat (first | with_reducible exact Below.refl _ _ | with_reducible assumption | ((with_reducible refine Below.alloc ?_ ?hb_ _); (case hb_ => first | omega | (simp; done) | (simp; omega))) | ((with_reducible refine Below.setCell ?_ ?hb_ _); (case hb_ => first | omega | (simp; done) | (simp; omega))) | with_reducible refine Below.drew ?_ | with_reducible refine below_drewN ?_ _))⟩
/-- what a pixel shows: the ink, whether there is one, the error -/
def atV (W H N : Int) (S : ByteArray) (A B C D E F x y : Int) : Value := .tuple #[if placeIs W H N S A B C D E F x y then inkOf (atS W N S (placeI W H N S A B C D E F x y) (placeJ W H N S A B C D E F x y)) else .agg #[.int .i64 0, .int .i64 0, .int .i64 0, .int .i64 0], .bool (placeIs W H N S A B C D E F x y), .int .i64 (placeE W H N S A B C D E F x y)]
theorem place_is {W H N : Int} {S : ByteArray} {A B C D E F x y : Int} (h : placeIs W H N S A B C D E F x y = true) :
    placeE W H N S A B C D E F x y = 0 ∧ pOk W H N S A B C D E F ∧ (0 ≤ placeI W H N S A B C D E F x y ∧ placeI W H N S A B C D E F x y < W) ∧ (0 ≤ placeJ W H N S A B C D E F x y ∧ placeJ W H N S A B C D E F x y < H) := by
  have hI : placeI W H N S A B C D E F x y = iOf A B C D E F x y := by rw [placeI, if_pos h]
  have hJ : placeJ W H N S A B C D E F x y = jOf A B C D E F x y := by rw [placeJ, if_pos h]
  rw [hI, hJ]
  simp only [placeIs, Bool.and_eq_true, decide_eq_true_eq, inP] at h
  obtain ⟨h0, _, h1, h2, h3, h4⟩ := h
  refine ⟨h0, ?_, ⟨h1, h2⟩, h3, h4⟩
  by_cases hp : pOk W H N S A B C D E F
  · exact hp
  · rw [placeE, if_neg hp] at h0
    omega
theorem sat_any (W H N : Int) (S : ByteArray) (A B C D E F x y : Int) (w : World) (hS : S.size ≤ 9223372036854775807) :
    Calls Try.prog 14 #[.agg #[.int .i64 W, .int .i64 H, .int .i64 N, .string S, .int .i64 A, .int .i64 B, .int .i64 C, .int .i64 D, .int .i64 E, .int .i64 F], .int .i64 x, .int .i64 y] w fun e w' => e = .returned (atV W H N S A B C D E F x y) ∧ Below w.heap.size w w' := by
  by_cases h : placeIs W H N S A B C D E F x y = true
  · obtain ⟨h0, hp, ⟨h1, h2⟩, h3, h4⟩ := place_is h
    rw [show atV W H N S A B C D E F x y = .tuple #[inkOf (atS W N S (placeI W H N S A B C D E F x y) (placeJ W H N S A B C D E F x y)), .bool true, .int .i64 0] by rw [atV, h, h0]; simp]
    exact sat_in W H N S A B C D E F x y _ _ w hS (by rw [placeV, h, h0]) h1 h2 h3 h4 hp.1.2 hp.2.1.2 hp.2.2.1 hp.2.2.2.2
  · have h' : placeIs W H N S A B C D E F x y = false := by simpa using h
    rw [show atV W H N S A B C D E F x y = .tuple #[.agg #[.int .i64 0, .int .i64 0, .int .i64 0, .int .i64 0], .bool false, .int .i64 (placeE W H N S A B C D E F x y)] by rw [atV, h']; simp]
    exact sat_no W H N S A B C D E F x y _ _ _ w hS (by rw [placeV, h'])
end Go.Proofs.Ytkkeahnmmpcceaa
