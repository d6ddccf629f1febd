/- chaseref28.Ink and At. -/
import Derived.Test.YtkkeahnmmpcceaaRefP
import Derived.WalkKit
import Derived.Lib.Hide
import Derived.Deep.QuietTactic
import Derived.BigQuiet
import Derived.Lib.QuietBelow
import Derived.Deep.RegionHeld3
import Derived.WalkLawsBesides
import Derived.WalkSpells
import Derived.Outline
import Derived.Deep.DeepFit
import Derived.Maps.AppendAt
import Derived.Deep.AppendLies
namespace Go.Proofs.Ytkkeahnmmpcceaa
open Go.RowKit

set_option maxHeartbeats 1000000 in
theorem rink_any (W H N : Int) (S : ByteArray) (A B C D E F I J : Int) (w : World)
    (h1 : 0 ≤ I) (h2 : I < W) (h3 : 0 ≤ J) (h4 : J < H) (hw : W ≤ 64) (hh : H ≤ 64) (hN : N = 1 ∨ N = 3 ∨ N = 4) (hs : (S.size : Int) = W * H * N) :
    Calls Try.prog 28 #[.agg #[.int .i64 W, .int .i64 H, .int .i64 N, .string S, .int .i64 A, .int .i64 B, .int .i64 C, .int .i64 D, .int .i64 E, .int .i64 F], .int .i64 I, .int .i64 J] w fun e w' => e = .returned (inkOf (atS W N S I J)) ∧ Below w.heap.size w w' := by
  obtain ⟨⟨k1, k2⟩, ⟨k3, k4⟩, k5⟩ := atS_size h1 h2 h3 h4 hw hh hN hs
  have Hx := Lib.hid (show S.extract ((J * W + I) * N).toNat ((J * W + I) * N + N).toNat = atS W N S I J from rfl)
  have HE := Lib.hid (atS_E (S := S) (W := W) (I := I) (J := J) k3 k4 hN)
  obtain ⟨i0, i1, i2, i3, hink⟩ := ink_agg (atS W N S I J)
  have HI := Lib.hid hink
  clear hink hs
  go_enter Try.func28, Try.ntmps28
  go_wp2_with fail
  rw [Hx.out]
  refine (rsample_any _ _).mono ?_
  rintro e w1 ⟨rfl, hb1⟩
  rw [HE.out, HI.out]
  have hs1 : w.heap.size + 2 ≤ w1.heap.size := by simpa using hb1.size
  have h4 : w1.heap[w.heap.size + 1]? = some (.cells #[.int .i64 0, .int .i64 0, .int .i64 0, .int .i64 0] 41 (0, 0)) := by
    rw [hb1.block _ (by simp)]
    exact heap_alloc_at _ _ _ (by simp)
  have hB1 : Below w.heap.size w w1 := below_then (Below.alloc (Below.alloc (Below.refl _ w) (Nat.le_refl _) _) (by simp) _) (by simp; omega) hb1
  have hl : w.heap.size + 1 < w1.heap.size := by omega
  obtain ⟨⟨r0, r1, r2, r3⟩, f0, f1, f2, f3⟩ := ink0 h4
  clear h4 hb1
  go_wp2_with fail
  exact bodyPost_ret (v := .agg #[.int .i64 i0, .int .i64 i1, .int .i64 i2, .int .i64 i3]) (by simp [results, Try.results28, go_sem, r0, r1, r2, r3, World.cell?_alloc_lt, hl]) rfl ⟨by rw [HI.out], (by repeat (first | with_reducible exact Below.refl _ _ | with_reducible assumption | ((with_reducible refine Below.alloc ?_ ?hb_ _); (case hb_ => first | omega | (simp; done) | (simp; omega))) | ((with_reducible refine Below.setCell ?_ ?hb_ _); (case hb_ => first | omega | (simp; done) | (simp; omega))) | with_reducible refine Below.drew ?_ | with_reducible refine below_drewN ?_ _))⟩

set_option maxHeartbeats 1000000 in
theorem rat_any (W H N : Int) (S : ByteArray) (A B C D E F x y : Int) (w : World) (hS : S.size ≤ 9223372036854775807) :
    Calls Try.prog 15 #[.agg #[.int .i64 W, .int .i64 H, .int .i64 N, .string S, .int .i64 A, .int .i64 B, .int .i64 C, .int .i64 D, .int .i64 E, .int .i64 F], .int .i64 x, .int .i64 y] w fun e w' => e = .returned (atV W H N S A B C D E F x y) ∧ Below w.heap.size w w' := by
  by_cases h : placeIs W H N S A B C D E F x y = true
  · obtain ⟨h0, hp, ⟨h1, h2⟩, h3, h4⟩ := place_is h
    have HP := Lib.hid (show placeV W H N S A B C D E F x y = .tuple #[.int .i64 (placeI W H N S A B C D E F x y), .int .i64 (placeJ W H N S A B C D E F x y), .bool true, .int .i64 0] by rw [placeV, h, h0])
    have HV := Lib.hid (show atV W H N S A B C D E F x y = .tuple #[inkOf (atS W N S (placeI W H N S A B C D E F x y) (placeJ W H N S A B C D E F x y)), .bool true, .int .i64 0] by rw [atV, h, h0]; simp)
    have HQ := Lib.hid hp
    obtain ⟨i0, i1, i2, i3, hink⟩ := ink_agg (atS W N S (placeI W H N S A B C D E F x y) (placeJ W H N S A B C D E F x y))
    have HI := Lib.hid hink
    clear hink h h0 hp
    go_enter Try.func15, Try.ntmps15
    go_wp2_with fail
    refine (rplace_any _ _ _ _ _ _ _ _ _ _ _ _ _ hS).mono ?_
    rintro e w1 ⟨rfl, hb1⟩
    rw [HP.out]
    have hs1 : w.heap.size + 2 ≤ w1.heap.size := by simpa using hb1.size
    have hl1 : w.heap.size + 1 < w1.heap.size := by omega
    have h5 : w1.heap[w.heap.size + 1]? = some (.cells #[.int .i64 0, .int .i64 0, .int .i64 0, .int .i64 0] 41 (0, 0)) := by
      rw [hb1.block _ (by simp)]
      exact heap_alloc_at _ _ _ (by simp)
    have h6 : w1.heap[w.heap.size]? = some (.cells #[.int .i64 W, .int .i64 H, .int .i64 N, .string S, .int .i64 A, .int .i64 B, .int .i64 C, .int .i64 D, .int .i64 E, .int .i64 F] 30 (0, 0)) := by
      rw [hb1.block _ (by simp; omega), Below.heap_alloc _ _ _ (by simp)]
      exact heap_alloc_new w _
    have hB1 : Below w.heap.size w w1 := below_then (Below.alloc (Below.alloc (Below.refl _ w) (Nat.le_refl _) _) (by simp) _) (by simp; omega) hb1
    obtain ⟨c0, c1, c2, c3, c4, c5, c6, c7, c8, c9⟩ := pic10 h6
    clear h6 hb1
    go_wp2_with fail
    refine (rink_any _ _ _ _ _ _ _ _ _ _ _ _ _ h1 h2 h3 h4 HQ.out.1.2 HQ.out.2.1.2 HQ.out.2.2.1 HQ.out.2.2.2.2).mono ?_
    rintro e w2 ⟨rfl, hb2⟩
    rw [HI.out]
    have hB2 : Below w.heap.size w w2 := below_then hB1 (by omega) hb2
    obtain ⟨⟨r0, r1, r2, r3⟩, f0, f1, f2, f3⟩ := ink0 ((hb2.block _ hl1).trans h5)
    clear h5 hb2 c0 c1 c2 c3 c4 c5 c6 c7 c8 c9
    go_wp2_with fail
    exact bodyPost_ret (v := .tuple #[.agg #[.int .i64 i0, .int .i64 i1, .int .i64 i2, .int .i64 i3], .bool true, .int .i64 0]) (by simp [results, Try.results15, go_sem, r0, r1, r2, r3]) rfl ⟨by rw [HV.out, HI.out], (by repeat (first | with_reducible exact Below.refl _ _ | with_reducible assumption | ((with_reducible refine Below.alloc ?_ ?hb_ _); (case hb_ => first | omega | (simp; done) | (simp; omega))) | ((with_reducible refine Below.setCell ?_ ?hb_ _); (case hb_ => first | omega | (simp; done) | (simp; omega))) | with_reducible refine Below.drew ?_ | with_reducible refine below_drewN ?_ _))⟩
  · have h' : placeIs W H N S A B C D E F x y = false := by simpa using h
    have HP := Lib.hid (show placeV W H N S A B C D E F x y = .tuple #[.int .i64 (placeI W H N S A B C D E F x y), .int .i64 (placeJ W H N S A B C D E F x y), .bool false, .int .i64 (placeE W H N S A B C D E F x y)] by rw [placeV, h'])
    have HV := Lib.hid (show atV W H N S A B C D E F x y = .tuple #[.agg #[.int .i64 0, .int .i64 0, .int .i64 0, .int .i64 0], .bool false, .int .i64 (placeE W H N S A B C D E F x y)] by rw [atV, h']; simp)
    obtain ⟨I, hI⟩ : ∃ I, I = placeI W H N S A B C D E F x y := ⟨_, rfl⟩
    obtain ⟨J, hJ⟩ : ∃ J, J = placeJ W H N S A B C D E F x y := ⟨_, rfl⟩
    obtain ⟨e0, he⟩ : ∃ e0, e0 = placeE W H N S A B C D E F x y := ⟨_, rfl⟩
    rw [← hI, ← hJ, ← he] at HP
    rw [← he] at HV
    clear h h' hI hJ he
    go_enter Try.func15, Try.ntmps15
    go_wp2_with fail
    refine (rplace_any _ _ _ _ _ _ _ _ _ _ _ _ _ hS).mono ?_
    rintro e w1 ⟨rfl, hb1⟩
    rw [HP.out]
    have hs1 : w.heap.size + 2 ≤ w1.heap.size := by simpa using hb1.size
    have h4 : w1.heap[w.heap.size + 1]? = some (.cells #[.int .i64 0, .int .i64 0, .int .i64 0, .int .i64 0] 41 (0, 0)) := by
      rw [hb1.block _ (by simp)]
      exact heap_alloc_at _ _ _ (by simp)
    have hB1 : Below w.heap.size w w1 := below_then (Below.alloc (Below.alloc (Below.refl _ w) (Nat.le_refl _) _) (by simp) _) (by simp; omega) hb1
    obtain ⟨⟨r0, r1, r2, r3⟩, f0, f1, f2, f3⟩ := ink0 h4
    clear h4 hb1
    go_wp2_with fail
    all_goals exact bodyPost_ret (v := .tuple #[.agg #[.int .i64 0, .int .i64 0, .int .i64 0, .int .i64 0], .bool false, .int .i64 e0]) (by simp [results, Try.results15, go_sem, r0, r1, r2, r3, *]) rfl ⟨by rw [HV.out], (by repeat (first | with_reducible exact Below.refl _ _ | with_reducible assumption | ((with_reducible refine Below.alloc ?_ ?hb_ _); (case hb_ => first | omega | (simp; done) | (simp; omega))) | ((with_reducible refine Below.setCell ?_ ?hb_ _); (case hb_ => first | omega | (simp; done) | (simp; omega))) | with_reducible refine Below.drew ?_ | with_reducible refine below_drewN ?_ _))⟩
end Go.Proofs.Ytkkeahnmmpcceaa
