/- MatrixSines: the walk. -/
import Derived.Test.YtpgaibkjokoanaaMxX
import Derived.WalkKit
import Derived.Lib.Hide
import Derived.Deep.QuietTactic
import Derived.BigQuiet
import Derived.Lib.QuietBelow
import Derived.Deep.RegionHeld3
import Derived.WalkLawsBesides
import Derived.WalkSpells
import Derived.Outline
import Derived.Deep.DeepFit
import Derived.Maps.AppendAt
import Derived.Deep.AppendLies
import Derived.Deep.CutRange
import Derived.OpenShut
namespace Go.Proofs.Ytpgaibkjokoanaa.T3
set_option linter.unusedSimpArgs false
set_option linter.unusedVariables false
open Go.RowKit
set_option maxHeartbeats 4000000
set_option maxRecDepth 100000
theorem cell_as (w : World) (x : Obj) (cs : Array Value) (b o : Nat) (h : b < w.heap.size) : ((w.alloc x).setRow w.heap.size cs).cell? ⟨b, o, none⟩ = w.cell? ⟨b, o, none⟩ := by
  rw [cell_setRow_other _ _ _ _ (by simp; omega)]
  exact World.cell?_alloc_lt _ _ _ h
theorem cell_as_new (w : World) (old : Array Value) (t : TypeId) (cs : Array Value) (o : Nat) : ((w.alloc (.cells old t)).setRow w.heap.size cs).cell? ⟨w.heap.size, o, none⟩ = cs[o]? :=
  cell_setRow_same _ _ _ old cs t (0, 0) (heap_alloc_new w _)
theorem sines_ask (n : Int) : ∃ a, sAny n = a ∧ sAny (-n) = -a ∧ sAny (n + 23592960) = a ∧ sAny (11796480 - n) = a ∧ -65536 ≤ a ∧ a ≤ 65536 :=
  ⟨_, rfl, sAny_neg n, sAny_per n, sAny_half n, sAny_one n⟩
theorem rises_ask (l h : Int) (h0 : 0 ≤ l) (h1 : l ≤ h) (h2 : h ≤ 5898240) : ∃ x y, sAny l = x ∧ sAny h = y ∧ x ≤ y ∧ 0 ≤ x := by
  refine ⟨_, _, rfl, rfl, ?_, ?_⟩
  · rw [sAny_lo h0 (by omega), sAny_lo (by omega) (by omega)]
    exact sLo_mono h0 h1 h2
  · rw [sAny_lo h0 (by omega)]
    exact (sLo_one h0 (by omega)).1
theorem msine_ok (n : Int) (w : World) (h1 : -2147483648 ≤ n) (h2 : n ≤ 2147483648) : Calls Try.prog 12 #[.int .i64 n] w fun e w' => e = .returned (.tuple #[.int .i64 (sAny n), .int .i64 0]) ∧ Below w.heap.size w w' := by
  have hw : withinB 2147483648 [n] = true := by simp [withinB]; omega
  have e1 : snV n = sAny n := if_pos hw
  have e2 : snE n = 0 := if_pos hw
  have := msine_any n w
  rw [e1, e2] at this
  exact this
theorem sines_walk (a m : Int) (w : World) (s_a : (Lit.int .i32 a).wf = true) (s_m : (Lit.int .u16 m).wf = true) :
    Calls Try.prog 5 #[.int .i32 a, .int .u16 m] w fun e w' => e = .returned (.bool true) ∧ Below w.heap.size w w' := by
  have b0 := bounds_i32 s_a
  have b1 := bounds_u16 s_m
  obtain ⟨t1, t2⟩ := show -2100297728 < a.tmod 2100297728 ∧ a.tmod 2100297728 < 2100297728 from ⟨Int.lt_tmod_of_pos a (by omega), Int.tmod_lt_of_pos a (by omega)⟩
  obtain ⟨n, hn⟩ : ∃ n, a.tmod 2100297728 = n := ⟨_, rfl⟩
  rw [hn] at t1 t2
  obtain ⟨s, q1, q2, q3, q4, q5, q6⟩ := sines_ask n
  have q1 := Lib.hid q1
  have q2 := Lib.hid q2
  have q3 := Lib.hid q3
  have q4 := Lib.hid q4
  obtain ⟨l, hl⟩ : ∃ l, a % 4294967296 % 5898240 = l := ⟨_, rfl⟩
  have l0 : 0 ≤ l := by omega
  have l1 : l < 5898240 := by omega
  by_cases hmin : l + m ≤ 5898240
  · skip
    obtain ⟨x, y, g1, g2, g3, g4⟩ := rises_ask l (l + m) l0 (by omega) (by omega)
    have g1 := Lib.hid g1
    have g2 := Lib.hid g2
    go_enter Try.func5, Try.ntmps5
    go_wp2_with fail
    refine (works_any _).mono ?_
    rintro e w1 ⟨rfl, hb⟩
    have hs_w1 := hb.size
    (try simp at hs_w1)
    have hB_w1 : Below w.heap.size w w1 := below_then (w := w) (by with_reducible repeat (first | exact Below.refl _ _ | assumption | ((first | refine Below.alloc ?_ ?b_ _ | refine bw_set ?_ ?b_ | refine Below.setCell ?_ ?b_ _); case b_ => first | omega | (simp; done) | (simp; omega)) | refine Below.drew ?_ | refine below_drewN ?_ _)) (by first | omega | (simp; done) | (simp; omega) | (have hq_ := hb.size; omega)) hb
    clear hb
    go_wp2_with fail
    refine (msine_ok _ _ (by omega) (by omega)).mono ?_
    rintro e w2 ⟨rfl, hb⟩
    have hs_w2 := hb.size
    (try simp at hs_w2)
    have hB_w2 : Below w.heap.size w w2 := below_then (w := w) (by with_reducible repeat (first | exact Below.refl _ _ | assumption | ((first | refine Below.alloc ?_ ?b_ _ | refine bw_set ?_ ?b_ | refine Below.setCell ?_ ?b_ _); case b_ => first | omega | (simp; done) | (simp; omega)) | refine Below.drew ?_ | refine below_drewN ?_ _)) (by first | omega | (simp; done) | (simp; omega) | (have hq_ := hb.size; omega)) hb
    clear hb
    rw [q1.out]
    go_wp2_with fail
    refine (msine_ok _ _ (by omega) (by omega)).mono ?_
    rintro e w3 ⟨rfl, hb⟩
    have hs_w3 := hb.size
    (try simp at hs_w3)
    have hB_w3 : Below w.heap.size w w3 := below_then (w := w) (by with_reducible repeat (first | exact Below.refl _ _ | assumption | ((first | refine Below.alloc ?_ ?b_ _ | refine bw_set ?_ ?b_ | refine Below.setCell ?_ ?b_ _); case b_ => first | omega | (simp; done) | (simp; omega)) | refine Below.drew ?_ | refine below_drewN ?_ _)) (by first | omega | (simp; done) | (simp; omega) | (have hq_ := hb.size; omega)) hb
    clear hb
    rw [q2.out]
    go_wp2_with fail
    refine (msine_ok _ _ (by omega) (by omega)).mono ?_
    rintro e w4 ⟨rfl, hb⟩
    have hs_w4 := hb.size
    (try simp at hs_w4)
    have hB_w4 : Below w.heap.size w w4 := below_then (w := w) (by with_reducible repeat (first | exact Below.refl _ _ | assumption | ((first | refine Below.alloc ?_ ?b_ _ | refine bw_set ?_ ?b_ | refine Below.setCell ?_ ?b_ _); case b_ => first | omega | (simp; done) | (simp; omega)) | refine Below.drew ?_ | refine below_drewN ?_ _)) (by first | omega | (simp; done) | (simp; omega) | (have hq_ := hb.size; omega)) hb
    clear hb
    rw [q3.out]
    go_wp2_with fail
    refine (msine_ok _ _ (by omega) (by omega)).mono ?_
    rintro e w5 ⟨rfl, hb⟩
    have hs_w5 := hb.size
    (try simp at hs_w5)
    have hB_w5 : Below w.heap.size w w5 := below_then (w := w) (by with_reducible repeat (first | exact Below.refl _ _ | assumption | ((first | refine Below.alloc ?_ ?b_ _ | refine bw_set ?_ ?b_ | refine Below.setCell ?_ ?b_ _); case b_ => first | omega | (simp; done) | (simp; omega)) | refine Below.drew ?_ | refine below_drewN ?_ _)) (by first | omega | (simp; done) | (simp; omega) | (have hq_ := hb.size; omega)) hb
    clear hb
    rw [q4.out]
    go_wp2_with fail
    refine (msine_ok _ _ (by omega) (by omega)).mono ?_
    rintro e w6 ⟨rfl, hb⟩
    have hs_w6 := hb.size
    (try simp at hs_w6)
    have hB_w6 : Below w.heap.size w w6 := below_then (w := w) (by with_reducible repeat (first | exact Below.refl _ _ | assumption | ((first | refine Below.alloc ?_ ?b_ _ | refine bw_set ?_ ?b_ | refine Below.setCell ?_ ?b_ _); case b_ => first | omega | (simp; done) | (simp; omega)) | refine Below.drew ?_ | refine below_drewN ?_ _)) (by first | omega | (simp; done) | (simp; omega) | (have hq_ := hb.size; omega)) hb
    clear hb
    rw [g1.out]
    go_wp2_with fail
    refine (msine_ok _ _ (by omega) (by omega)).mono ?_
    rintro e w7 ⟨rfl, hb⟩
    have hs_w7 := hb.size
    (try simp at hs_w7)
    have hB_w7 : Below w.heap.size w w7 := below_then (w := w) (by with_reducible repeat (first | exact Below.refl _ _ | assumption | ((first | refine Below.alloc ?_ ?b_ _ | refine bw_set ?_ ?b_ | refine Below.setCell ?_ ?b_ _); case b_ => first | omega | (simp; done) | (simp; omega)) | refine Below.drew ?_ | refine below_drewN ?_ _)) (by first | omega | (simp; done) | (simp; omega) | (have hq_ := hb.size; omega)) hb
    clear hb
    rw [g2.out]
    go_wp2_with fail
    go_ret
    exact ⟨rfl, (by with_reducible repeat (first | exact Below.refl _ _ | assumption | ((first | refine Below.alloc ?_ ?b_ _ | refine bw_set ?_ ?b_ | refine Below.setCell ?_ ?b_ _); case b_ => first | omega | (simp; done) | (simp; omega)) | refine Below.drew ?_ | refine below_drewN ?_ _))⟩
  · skip
    obtain ⟨x, y, g1, g2, g3, g4⟩ := rises_ask l (5898240) l0 (by omega) (by omega)
    have g1 := Lib.hid g1
    have g2 := Lib.hid g2
    go_enter Try.func5, Try.ntmps5
    go_wp2_with fail
    refine (works_any _).mono ?_
    rintro e w1 ⟨rfl, hb⟩
    have hs_w1 := hb.size
    (try simp at hs_w1)
    have hB_w1 : Below w.heap.size w w1 := below_then (w := w) (by with_reducible repeat (first | exact Below.refl _ _ | assumption | ((first | refine Below.alloc ?_ ?b_ _ | refine bw_set ?_ ?b_ | refine Below.setCell ?_ ?b_ _); case b_ => first | omega | (simp; done) | (simp; omega)) | refine Below.drew ?_ | refine below_drewN ?_ _)) (by first | omega | (simp; done) | (simp; omega) | (have hq_ := hb.size; omega)) hb
    clear hb
    go_wp2_with fail
    refine (msine_ok _ _ (by omega) (by omega)).mono ?_
    rintro e w2 ⟨rfl, hb⟩
    have hs_w2 := hb.size
    (try simp at hs_w2)
    have hB_w2 : Below w.heap.size w w2 := below_then (w := w) (by with_reducible repeat (first | exact Below.refl _ _ | assumption | ((first | refine Below.alloc ?_ ?b_ _ | refine bw_set ?_ ?b_ | refine Below.setCell ?_ ?b_ _); case b_ => first | omega | (simp; done) | (simp; omega)) | refine Below.drew ?_ | refine below_drewN ?_ _)) (by first | omega | (simp; done) | (simp; omega) | (have hq_ := hb.size; omega)) hb
    clear hb
    rw [q1.out]
    go_wp2_with fail
    refine (msine_ok _ _ (by omega) (by omega)).mono ?_
    rintro e w3 ⟨rfl, hb⟩
    have hs_w3 := hb.size
    (try simp at hs_w3)
    have hB_w3 : Below w.heap.size w w3 := below_then (w := w) (by with_reducible repeat (first | exact Below.refl _ _ | assumption | ((first | refine Below.alloc ?_ ?b_ _ | refine bw_set ?_ ?b_ | refine Below.setCell ?_ ?b_ _); case b_ => first | omega | (simp; done) | (simp; omega)) | refine Below.drew ?_ | refine below_drewN ?_ _)) (by first | omega | (simp; done) | (simp; omega) | (have hq_ := hb.size; omega)) hb
    clear hb
    rw [q2.out]
    go_wp2_with fail
    refine (msine_ok _ _ (by omega) (by omega)).mono ?_
    rintro e w4 ⟨rfl, hb⟩
    have hs_w4 := hb.size
    (try simp at hs_w4)
    have hB_w4 : Below w.heap.size w w4 := below_then (w := w) (by with_reducible repeat (first | exact Below.refl _ _ | assumption | ((first | refine Below.alloc ?_ ?b_ _ | refine bw_set ?_ ?b_ | refine Below.setCell ?_ ?b_ _); case b_ => first | omega | (simp; done) | (simp; omega)) | refine Below.drew ?_ | refine below_drewN ?_ _)) (by first | omega | (simp; done) | (simp; omega) | (have hq_ := hb.size; omega)) hb
    clear hb
    rw [q3.out]
    go_wp2_with fail
    refine (msine_ok _ _ (by omega) (by omega)).mono ?_
    rintro e w5 ⟨rfl, hb⟩
    have hs_w5 := hb.size
    (try simp at hs_w5)
    have hB_w5 : Below w.heap.size w w5 := below_then (w := w) (by with_reducible repeat (first | exact Below.refl _ _ | assumption | ((first | refine Below.alloc ?_ ?b_ _ | refine bw_set ?_ ?b_ | refine Below.setCell ?_ ?b_ _); case b_ => first | omega | (simp; done) | (simp; omega)) | refine Below.drew ?_ | refine below_drewN ?_ _)) (by first | omega | (simp; done) | (simp; omega) | (have hq_ := hb.size; omega)) hb
    clear hb
    rw [q4.out]
    go_wp2_with fail
    refine (msine_ok _ _ (by omega) (by omega)).mono ?_
    rintro e w6 ⟨rfl, hb⟩
    have hs_w6 := hb.size
    (try simp at hs_w6)
    have hB_w6 : Below w.heap.size w w6 := below_then (w := w) (by with_reducible repeat (first | exact Below.refl _ _ | assumption | ((first | refine Below.alloc ?_ ?b_ _ | refine bw_set ?_ ?b_ | refine Below.setCell ?_ ?b_ _); case b_ => first | omega | (simp; done) | (simp; omega)) | refine Below.drew ?_ | refine below_drewN ?_ _)) (by first | omega | (simp; done) | (simp; omega) | (have hq_ := hb.size; omega)) hb
    clear hb
    rw [g1.out]
    go_wp2_with fail
    refine (msine_ok _ _ (by omega) (by omega)).mono ?_
    rintro e w7 ⟨rfl, hb⟩
    have hs_w7 := hb.size
    (try simp at hs_w7)
    have hB_w7 : Below w.heap.size w w7 := below_then (w := w) (by with_reducible repeat (first | exact Below.refl _ _ | assumption | ((first | refine Below.alloc ?_ ?b_ _ | refine bw_set ?_ ?b_ | refine Below.setCell ?_ ?b_ _); case b_ => first | omega | (simp; done) | (simp; omega)) | refine Below.drew ?_ | refine below_drewN ?_ _)) (by first | omega | (simp; done) | (simp; omega) | (have hq_ := hb.size; omega)) hb
    clear hb
    rw [g2.out]
    go_wp2_with fail
    go_ret
    exact ⟨rfl, (by with_reducible repeat (first | exact Below.refl _ _ | assumption | ((first | refine Below.alloc ?_ ?b_ _ | refine bw_set ?_ ?b_ | refine Below.setCell ?_ ?b_ _); case b_ => first | omega | (simp; done) | (simp; omega)) | refine Below.drew ?_ | refine below_drewN ?_ _))⟩
end Go.Proofs.Ytpgaibkjokoanaa.T3
