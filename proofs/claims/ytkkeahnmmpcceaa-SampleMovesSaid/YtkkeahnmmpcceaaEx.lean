/- The helpers of the laws: few, example, lies, none. -/
import Derived.Test.YtkkeahnmmpcceaaRefI
import Derived.ChangeKeysEq
import Derived.WalkKit
import Derived.Lib.Hide
import Derived.Deep.QuietTactic
import Derived.BigQuiet
import Derived.Lib.QuietBelow
import Derived.Deep.RegionHeld3
import Derived.WalkLawsBesides
import Derived.WalkSpells
import Derived.Outline
import Derived.Deep.DeepFit
import Derived.Maps.AppendAt
import Derived.Deep.AppendLies
namespace Go.Proofs.Ytkkeahnmmpcceaa
open Go.RowKit

/-- == of two inks -/
theorem eql4 (a b c d a' b' c' d' : Int) (w : World) : Sem.run Try.prog (Op.equalIn 10000 41 (.agg #[.int .i64 a, .int .i64 b, .int .i64 c, .int .i64 d]) (.agg #[.int .i64 a', .int .i64 b', .int .i64 c', .int .i64 d'])) w = .ok (a == a' && (b == b' && (c == c' && d == d'))) w := by
  obtain ⟨i, hi⟩ : ∃ i, Try.prog.info? 3 = some i := Option.isSome_iff_exists.1 (by kernel_rfl)
  have p0 : ∀ a b c d : Int, (part 3 #[.int .i64 a, .int .i64 b, .int .i64 c, .int .i64 d] (0 * 1)).run Try.prog w = .ok (.int .i64 a) w := fun a b c d => by kernel_rfl
  have p1 : ∀ a b c d : Int, (part 3 #[.int .i64 a, .int .i64 b, .int .i64 c, .int .i64 d] (1 * 1)).run Try.prog w = .ok (.int .i64 b) w := fun a b c d => by kernel_rfl
  have p2 : ∀ a b c d : Int, (part 3 #[.int .i64 a, .int .i64 b, .int .i64 c, .int .i64 d] (2 * 1)).run Try.prog w = .ok (.int .i64 c) w := fun a b c d => by kernel_rfl
  have p3 : ∀ a b c d : Int, (part 3 #[.int .i64 a, .int .i64 b, .int .i64 c, .int .i64 d] (3 * 1)).run Try.prog w = .ok (.int .i64 d) w := fun a b c d => by kernel_rfl
  have e0 : ∀ a b : Int, (Op.equalIn 9999 3 (.int .i64 a) (.int .i64 b)).run Try.prog w = .ok (a == b) w := fun a b => run_equalIn_int w 9998 3 .i64 .i64 a b Try.underlying3
  rw [show (10000:Nat) = 9999+1 from rfl, run_equalIn_array w 9999 _ _ Try.underlying41 hi, show Try.prog.cellsOf 3 = 1 by kernel_rfl]
  rw [show List.range 4 = [0, 1, 2, 3] from rfl]
  simp only [Op.eqItems, Sem.run_bind, p0, p1, p2, p3, e0, Result.andThen_ok]
  by_cases h1 : a = a'
  · by_cases h2 : b = b'
    · by_cases h3 : c = c'
      · by_cases h4 : d = d' <;> simp [h1, h2, h3, h4, p0, p1, p2, p3, e0]
      · simp [h1, h2, h3, p0, p1, p2, p3, e0]
    · simp [h1, h2, p0, p1, p2, p3, e0]
  · simp [h1, p0, p1, p2, p3, e0]

def exS : ByteArray := ⟨#[0, 85, 170, 255]⟩
theorem example_any (w : World) :
    Calls Try.prog 18 #[] w fun e w' => e = .returned (.agg #[.int .i64 2, .int .i64 2, .int .i64 1, .string exS, .int .i64 196608, .int .i64 0, .int .i64 0, .int .i64 196608, .int .i64 655360, .int .i64 1310720]) ∧ Below w.heap.size w w' := by
  go_enter Try.func18, Try.ntmps18
  go_wp2_with fail
  exact bodyPost_ret (v := .agg #[.int .i64 2, .int .i64 2, .int .i64 1, .string exS, .int .i64 196608, .int .i64 0, .int .i64 0, .int .i64 196608, .int .i64 655360, .int .i64 1310720]) (by simp [results, Try.results18, go_sem, exS]) rfl ⟨rfl, (by repeat (first | with_reducible exact Below.refl _ _ | with_reducible assumption | ((with_reducible refine Below.alloc ?_ ?hb_ _); (case hb_ => first | omega | (simp; done) | (simp; omega))) | ((with_reducible refine Below.setCell ?_ ?hb_ _); (case hb_ => first | omega | (simp; done) | (simp; omega))) | with_reducible refine Below.drew ?_ | with_reducible refine below_drewN ?_ _))⟩

set_option maxHeartbeats 1000000 in
theorem lies_yes (W H N : Int) (S : ByteArray) (A B C D E F x y i j : Int) (w : World) (hS : S.size ≤ 9223372036854775807) (hP : placeV W H N S A B C D E F x y = .tuple #[.int .i64 i, .int .i64 j, .bool true, .int .i64 0]) :
    Calls Try.prog 20 #[.agg #[.int .i64 W, .int .i64 H, .int .i64 N, .string S, .int .i64 A, .int .i64 B, .int .i64 C, .int .i64 D, .int .i64 E, .int .i64 F], .int .i64 x, .int .i64 y, .int .i64 i, .int .i64 j] w fun e w' => e = .returned (.bool true) ∧ Below w.heap.size w w' := by
  have HP := Lib.hid hP
  clear hP
  go_enter Try.func20, Try.ntmps20
  go_wp2_with fail
  refine (splace_any _ _ _ _ _ _ _ _ _ _ _ _ _ hS).mono ?_
  rintro e w1 ⟨rfl, hb1⟩
  rw [HP.out]
  have hB1 : Below w.heap.size w w1 := below_then (Below.alloc (Below.refl _ w) (Nat.le_refl _) _) (by simp) hb1
  clear hb1
  go_wp2_with fail
  go_ret
  exact ⟨rfl, (by repeat (first | with_reducible exact Below.refl _ _ | with_reducible assumption | ((with_reducible refine Below.alloc ?_ ?hb_ _); (case hb_ => first | omega | (simp; done) | (simp; omega))) | ((with_reducible refine Below.setCell ?_ ?hb_ _); (case hb_ => first | omega | (simp; done) | (simp; omega))) | with_reducible refine Below.drew ?_ | with_reducible refine below_drewN ?_ _))⟩

set_option maxHeartbeats 1000000 in
theorem none_yes (W H N : Int) (S : ByteArray) (A B C D E F x y : Int) (w : World) (hS : S.size ≤ 9223372036854775807) (hP : placeV W H N S A B C D E F x y = .tuple #[.int .i64 0, .int .i64 0, .bool false, .int .i64 0]) :
    Calls Try.prog 19 #[.agg #[.int .i64 W, .int .i64 H, .int .i64 N, .string S, .int .i64 A, .int .i64 B, .int .i64 C, .int .i64 D, .int .i64 E, .int .i64 F], .int .i64 x, .int .i64 y] w fun e w' => e = .returned (.bool true) ∧ Below w.heap.size w w' := by
  have HA := Lib.hid (show atV W H N S A B C D E F x y = .tuple #[.agg #[.int .i64 0, .int .i64 0, .int .i64 0, .int .i64 0], .bool false, .int .i64 0] by
    simp only [placeV, Value.tuple.injEq, Array.mk.injEq, List.cons.injEq, Value.bool.injEq, Value.int.injEq, true_and, and_true] at hP
    rw [atV, hP.2.2.1, hP.2.2.2]
    rfl)
  have HP := Lib.hid hP
  clear hP
  go_enter Try.func19, Try.ntmps19
  go_wp2_with fail
  refine (splace_any _ _ _ _ _ _ _ _ _ _ _ _ _ hS).mono ?_
  rintro e w1 ⟨rfl, hb1⟩
  rw [HP.out]
  have hs1 : w.heap.size + 1 ≤ w1.heap.size := by simpa using hb1.size
  have h4 : w1.heap[w.heap.size]? = some (.cells #[.int .i64 W, .int .i64 H, .int .i64 N, .string S, .int .i64 A, .int .i64 B, .int .i64 C, .int .i64 D, .int .i64 E, .int .i64 F] 30 (0, 0)) := by
    rw [hb1.block _ (by simp)]
    exact heap_alloc_new w _
  have hB1 : Below w.heap.size w w1 := below_then (Below.alloc (Below.refl _ w) (Nat.le_refl _) _) (by simp) hb1
  obtain ⟨c0, c1, c2, c3, c4, c5, c6, c7, c8, c9⟩ := pic10 h4
  clear h4 hb1
  go_wp2_with fail
  refine (sat_any _ _ _ _ _ _ _ _ _ _ _ _ _ hS).mono ?_
  rintro e w2 ⟨rfl, hb2⟩
  rw [HA.out]
  have hB2 : Below w.heap.size w w2 := below_then hB1 (by omega) hb2
  have hs2 : w.heap.size ≤ w2.heap.size := hB2.size
  clear hb2 c0 c1 c2 c3 c4 c5 c6 c7 c8 c9
  go_wp2_with fail
  rw [eql4]
  go_simp
  go_wp2_with fail
  go_ret
  exact ⟨rfl, (by repeat (first | with_reducible exact Below.refl _ _ | with_reducible assumption | ((with_reducible refine Below.alloc ?_ ?hb_ _); (case hb_ => first | omega | (simp; done) | (simp; omega))) | ((with_reducible refine Below.setCell ?_ ?hb_ _); (case hb_ => first | omega | (simp; done) | (simp; omega))) | with_reducible refine Below.drew ?_ | with_reducible refine below_drewN ?_ _))⟩
end Go.Proofs.Ytkkeahnmmpcceaa
