/- chaseref28.Under, Place, Ink and At. -/
import Derived.Test.YtkkeahnmmpcceaaRefR
import Derived.Test.YtkkeahnmmpcceaaRefS
import Derived.Test.YtkkeahnmmpcceaaAt
import Derived.WalkKit
import Derived.Lib.Hide
import Derived.Deep.QuietTactic
import Derived.BigQuiet
import Derived.Lib.QuietBelow
import Derived.Deep.RegionHeld3
import Derived.WalkLawsBesides
import Derived.WalkSpells
import Derived.Outline
import Derived.Deep.DeepFit
import Derived.Maps.AppendAt
import Derived.Deep.AppendLies
namespace Go.Proofs.Ytkkeahnmmpcceaa
open Go.RowKit

/-- the cells of a picture, out of its block -/
theorem pic10 {w : World} {b t : Nat} {v0 v1 v2 v3 v4 v5 v6 v7 v8 v9 : Value} (h : w.heap[b]? = some (.cells #[v0, v1, v2, v3, v4, v5, v6, v7, v8, v9] t (0, 0))) :
    w.cell? ⟨b, 0, none⟩ = some v0 ∧ w.cell? ⟨b, 1, none⟩ = some v1 ∧ w.cell? ⟨b, 2, none⟩ = some v2 ∧ w.cell? ⟨b, 3, none⟩ = some v3 ∧ w.cell? ⟨b, 4, none⟩ = some v4 ∧ w.cell? ⟨b, 5, none⟩ = some v5 ∧ w.cell? ⟨b, 6, none⟩ = some v6 ∧ w.cell? ⟨b, 7, none⟩ = some v7 ∧ w.cell? ⟨b, 8, none⟩ = some v8 ∧ w.cell? ⟨b, 9, none⟩ = some v9 := by
  refine ⟨?_, ?_, ?_, ?_, ?_, ?_, ?_, ?_, ?_, ?_⟩ <;> simp [World.cell?, h]
theorem sdiv_floor (n d : Int) : sdiv n (sgn d) (mag d) = rfloor n d := by
  unfold sdiv sgn mag rfloor
  by_cases h : d < 0
  · rw [if_pos h, if_pos h, if_pos h]
    congr 1
    omega
  · rw [if_neg h, if_neg h, if_neg h, Int.mul_one]
def uV (W H A B C D E F x y : Int) : Value := .tuple (if inP W H A B C D E F x y then #[.int .i64 (iOf A B C D E F x y), .int .i64 (jOf A B C D E F x y), .bool true] else #[.int .i64 0, .int .i64 0, .bool false])
set_option maxHeartbeats 1000000 in
theorem under_det0 (W H N : Int) (S : ByteArray) (A B C D E F x y : Int) (w : World) (hm : mOk A B C D E F) (hd : A * D - B * C = 0) :
    Calls Try.prog 27 #[.agg #[.int .i64 W, .int .i64 H, .int .i64 N, .string S, .int .i64 A, .int .i64 B, .int .i64 C, .int .i64 D, .int .i64 E, .int .i64 F], .int .i64 x, .int .i64 y] w fun e w' => e = .returned (uV W H A B C D E F x y) ∧ Below w.heap.size w w' := by
  have HV := Lib.hid (show uV W H A B C D E F x y = .tuple #[.int .i64 0, .int .i64 0, .bool false] by simp [uV, inP, hd])
  have Hm := Lib.hid hm
  have Hd := Lib.hid hd
  clear hm hd
  go_enter Try.func27, Try.ntmps27
  go_wp2_with fail
  refine (det_any _ _ _ _ _ _ _ Hm.out).mono ?_
  rintro e w1 ⟨rfl, hb1⟩
  rw [Hd.out]
  go_wp2_with fail
  exact bodyPost_ret (v := .tuple #[.int .i64 0, .int .i64 0, .bool false]) (by simp [results, Try.results27, go_sem]) rfl ⟨by rw [HV.out], below_then (Below.alloc (Below.refl _ w) (Nat.le_refl _) _) (by simp) hb1⟩
set_option maxHeartbeats 2000000 in
theorem under_in (W H N : Int) (S : ByteArray) (A B C D E F x y : Int) (w : World) (hm : mOk A B C D E F) (hp : pixOk x y = true) (hd : ¬ A * D - B * C = 0) :
    Calls Try.prog 27 #[.agg #[.int .i64 W, .int .i64 H, .int .i64 N, .string S, .int .i64 A, .int .i64 B, .int .i64 C, .int .i64 D, .int .i64 E, .int .i64 F], .int .i64 x, .int .i64 y] w fun e w' => e = .returned (uV W H A B C D E F x y) ∧ Below w.heap.size w w' := by
  have Hm := Lib.hid hm
  have hx : -1024 ≤ x ∧ x < 1024 ∧ -1024 ≤ y ∧ y < 1024 := by simpa [pixOk] using hp
  obtain ⟨x1, x2, y1, y2⟩ := hx
  obtain ⟨⟨m1, m2, m3, m4⟩, ⟨u1, u2, v1, v2⟩, ⟨i1, i2⟩, ⟨i3, i4⟩, ⟨i5, i6⟩, ⟨i7, i8⟩⟩ := place_bd x1 x2 y1 y2 hm
  clear hp hm
  have hxc : 65536 * x = x * 65536 := Int.mul_comm _ _
  have hyc : 65536 * y = y * 65536 := Int.mul_comm _ _
  have HI := Lib.hid (show rfloor (D * (x * 65536 + 32768 - E) - C * (y * 65536 + 32768 - F)) (A * D - B * C) = iOf A B C D E F x y by unfold iOf uOf; rw [sdiv_floor])
  have HJ := Lib.hid (show rfloor (A * (y * 65536 + 32768 - F) - B * (x * 65536 + 32768 - E)) (A * D - B * C) = jOf A B C D E F x y by unfold jOf uOf; rw [sdiv_floor])
  have HV := Lib.hid (show uV W H A B C D E F x y = .tuple (if (0 ≤ iOf A B C D E F x y ∧ iOf A B C D E F x y < W) ∧ (0 ≤ jOf A B C D E F x y ∧ jOf A B C D E F x y < H) then #[.int .i64 (iOf A B C D E F x y), .int .i64 (jOf A B C D E F x y), .bool true] else #[.int .i64 0, .int .i64 0, .bool false]) by simp [uV, inP, hd, and_assoc])
  have hd' : (A * D - B * C == 0) = false := by simpa using hd
  have Hd := Lib.hid hd
  clear hd
  go_enter Try.func27, Try.ntmps27
  go_wp2_with fail
  refine (det_any _ _ _ _ _ _ _ Hm.out).mono ?_
  rintro e w1 ⟨rfl, hb1⟩
  have hs1 : w.heap.size + 1 ≤ w1.heap.size := by simpa using hb1.size
  obtain ⟨hc1, hf1⟩ := bcell hb1
  have c0 : w1.cell? ⟨w.heap.size, 0, none⟩ = some (.int .i64 W) := by rw [hc1 _ _ (by simp)]; simp
  have c1 : w1.cell? ⟨w.heap.size, 1, none⟩ = some (.int .i64 H) := by rw [hc1 _ _ (by simp)]; simp
  have c4 : w1.cell? ⟨w.heap.size, 4, none⟩ = some (.int .i64 A) := by rw [hc1 _ _ (by simp)]; simp
  have c5 : w1.cell? ⟨w.heap.size, 5, none⟩ = some (.int .i64 B) := by rw [hc1 _ _ (by simp)]; simp
  have c6 : w1.cell? ⟨w.heap.size, 6, none⟩ = some (.int .i64 C) := by rw [hc1 _ _ (by simp)]; simp
  have c7 : w1.cell? ⟨w.heap.size, 7, none⟩ = some (.int .i64 D) := by rw [hc1 _ _ (by simp)]; simp
  have c8 : w1.cell? ⟨w.heap.size, 8, none⟩ = some (.int .i64 E) := by rw [hc1 _ _ (by simp)]; simp
  have c9 : w1.cell? ⟨w.heap.size, 9, none⟩ = some (.int .i64 F) := by rw [hc1 _ _ (by simp)]; simp
  have hB1 : Below w.heap.size w w1 := below_then (Below.alloc (Below.refl _ w) (Nat.le_refl _) _) (by simp) hb1
  clear hc1 hf1 hb1
  go_wp2_with fail
  go_quiet (fail)
  go_wp2_with fail
  go_quiet ((go_at_call 34; exact (rfloor_any _ _ _ Hd.out (by omega) (by omega) (by omega) (by omega)).mono fun _ _ h => ⟨h.1, _, h.2.symm⟩))
  rw [HI.out, HJ.out]
  go_wp2_with fail
  all_goals first
    | exact bodyPost_ret (v := .tuple #[.int .i64 0, .int .i64 0, .bool false]) (by simp [results, Try.results27, go_sem]) rfl ⟨by rw [HV.out, if_neg (by simp at *; omega)], (by repeat (first | with_reducible exact Below.refl _ _ | with_reducible assumption | ((with_reducible refine Below.alloc ?_ ?hb_ _); (case hb_ => first | omega | (simp; done) | (simp; omega))) | ((with_reducible refine Below.setCell ?_ ?hb_ _); (case hb_ => first | omega | (simp; done) | (simp; omega))) | with_reducible refine Below.drew ?_ | with_reducible refine below_drewN ?_ _))⟩
    | exact bodyPost_ret (v := .tuple #[.int .i64 (iOf A B C D E F x y), .int .i64 (jOf A B C D E F x y), .bool true]) (by simp [results, Try.results27, go_sem]) rfl ⟨by rw [HV.out, if_pos (by simp at *; omega)], (by repeat (first | with_reducible exact Below.refl _ _ | with_reducible assumption | ((with_reducible refine Below.alloc ?_ ?hb_ _); (case hb_ => first | omega | (simp; done) | (simp; omega))) | ((with_reducible refine Below.setCell ?_ ?hb_ _); (case hb_ => first | omega | (simp; done) | (simp; omega))) | with_reducible refine Below.drew ?_ | with_reducible refine below_drewN ?_ _))⟩
theorem under_any (W H N : Int) (S : ByteArray) (A B C D E F x y : Int) (w : World) (hm : mOk A B C D E F) (hp : pixOk x y = true) :
    Calls Try.prog 27 #[.agg #[.int .i64 W, .int .i64 H, .int .i64 N, .string S, .int .i64 A, .int .i64 B, .int .i64 C, .int .i64 D, .int .i64 E, .int .i64 F], .int .i64 x, .int .i64 y] w fun e w' => e = .returned (uV W H A B C D E F x y) ∧ Below w.heap.size w w' := by
  by_cases hd : A * D - B * C = 0
  · exact under_det0 W H N S A B C D E F x y w hm hd
  · exact under_in W H N S A B C D E F x y w hm hp hd
theorem uV_place {W H N : Int} {S : ByteArray} {A B C D E F : Int} (x y : Int) (h : pOk W H N S A B C D E F) (hp : pixOk x y = true) : uV W H A B C D E F x y = .tuple #[.int .i64 (placeI W H N S A B C D E F x y), .int .i64 (placeJ W H N S A B C D E F x y), .bool (placeIs W H N S A B C D E F x y)] ∧ placeE W H N S A B C D E F x y = 0 := by
  have h0 : placeE W H N S A B C D E F x y = 0 := by rw [placeE, if_pos h, if_pos hp]
  have hi : placeIs W H N S A B C D E F x y = inP W H A B C D E F x y := by rw [placeIs, h0]; simp
  refine ⟨?_, h0⟩
  unfold placeI placeJ
  rw [hi]
  unfold uV
  by_cases k : inP W H A B C D E F x y = true
  · simp [k]
  · simp [k]
set_option maxHeartbeats 1000000 in
theorem rplace_any (W H N : Int) (S : ByteArray) (A B C D E F x y : Int) (w : World) (hS : S.size ≤ 9223372036854775807) :
    Calls Try.prog 13 #[.agg #[.int .i64 W, .int .i64 H, .int .i64 N, .string S, .int .i64 A, .int .i64 B, .int .i64 C, .int .i64 D, .int .i64 E, .int .i64 F], .int .i64 x, .int .i64 y] w fun e w' => e = .returned (placeV W H N S A B C D E F x y) ∧ Below w.heap.size w w' := by
  by_cases h : pOk W H N S A B C D E F
  · have H1 := Lib.hid (show pOkB W H N S A B C D E F = true from decide_eq_true h)
    by_cases hp : pixOk x y = true
    · obtain ⟨hu, h0⟩ := uV_place x y h hp
      have HU := Lib.hid hu
      have HV := Lib.hid (show placeV W H N S A B C D E F x y = .tuple #[.int .i64 (placeI W H N S A B C D E F x y), .int .i64 (placeJ W H N S A B C D E F x y), .bool (placeIs W H N S A B C D E F x y), .int .i64 0] by rw [placeV, h0])
      have Hm := Lib.hid h.2.2.2.1
      have Hx := Lib.hid hp
      have HX := Lib.hid (show pixB x y = true by simpa [pixB, pixOk] using hp)
      clear hu h0 h hp
      go_enter Try.func13, Try.ntmps13
      go_wp2_with fail
      refine (right28_any _ _ _ _ _ _ _ _ _ _ _ hS).mono ?_
      rintro e w1 ⟨rfl, hb1⟩
      rw [H1.out]
      have hs1 : w.heap.size + 1 ≤ w1.heap.size := by simpa using hb1.size
      have h4 : w1.heap[w.heap.size]? = some (.cells #[.int .i64 W, .int .i64 H, .int .i64 N, .string S, .int .i64 A, .int .i64 B, .int .i64 C, .int .i64 D, .int .i64 E, .int .i64 F] 30 (0, 0)) := by
        rw [hb1.block _ (by simp)]
        exact heap_alloc_new w _
      have hB1 : Below w.heap.size w w1 := below_then (Below.alloc (Below.refl _ w) (Nat.le_refl _) _) (by simp) hb1
      obtain ⟨c0, c1, c2, c3, c4, c5, c6, c7, c8, c9⟩ := pic10 h4
      clear h4 hb1
      go_wp2_with fail
      refine (pixel_any _ _ _).mono ?_
      rintro e w2 ⟨rfl, rfl⟩
      rw [HX.out]
      go_wp2_with fail
      refine (under_any _ _ _ _ _ _ _ _ _ _ _ _ _ Hm.out Hx.out).mono ?_
      rintro e w3 ⟨rfl, hb3⟩
      rw [HU.out]
      have hB3 : Below w.heap.size w w3 := below_then hB1 (by omega) hb3
      go_wp2_with fail
      exact bodyPost_ret (v := .tuple #[.int .i64 (placeI W H N S A B C D E F x y), .int .i64 (placeJ W H N S A B C D E F x y), .bool (placeIs W H N S A B C D E F x y), .int .i64 0]) (by simp [results, Try.results13, go_sem]) rfl ⟨by rw [HV.out], (by repeat (first | with_reducible exact Below.refl _ _ | with_reducible assumption | ((with_reducible refine Below.alloc ?_ ?hb_ _); (case hb_ => first | omega | (simp; done) | (simp; omega))) | ((with_reducible refine Below.setCell ?_ ?hb_ _); (case hb_ => first | omega | (simp; done) | (simp; omega))) | with_reducible refine Below.drew ?_ | with_reducible refine below_drewN ?_ _))⟩
    · have hp' : pixOk x y = false := by simpa using hp
      have HX := Lib.hid (show pixB x y = false by simpa [pixB, pixOk] using hp)
      have HV := Lib.hid (place_arg (W := W) x y h hp')
      clear h hp hp'
      go_enter Try.func13, Try.ntmps13
      go_wp2_with fail
      refine (right28_any _ _ _ _ _ _ _ _ _ _ _ hS).mono ?_
      rintro e w1 ⟨rfl, hb1⟩
      rw [H1.out]
      have hB1 : Below w.heap.size w w1 := below_then (Below.alloc (Below.refl _ w) (Nat.le_refl _) _) (by simp) hb1
      go_wp2_with fail
      refine (pixel_any _ _ _).mono ?_
      rintro e w2 ⟨rfl, rfl⟩
      rw [HX.out]
      go_wp2_with fail
      exact bodyPost_ret (v := .tuple #[.int .i64 0, .int .i64 0, .bool false, .int .i64 2]) (by simp [results, Try.results13, go_sem]) rfl ⟨by rw [HV.out], (by repeat (first | with_reducible exact Below.refl _ _ | with_reducible assumption | ((with_reducible refine Below.alloc ?_ ?hb_ _); (case hb_ => first | omega | (simp; done) | (simp; omega))) | ((with_reducible refine Below.setCell ?_ ?hb_ _); (case hb_ => first | omega | (simp; done) | (simp; omega))) | with_reducible refine Below.drew ?_ | with_reducible refine below_drewN ?_ _))⟩
  · have H1 := Lib.hid (show pOkB W H N S A B C D E F = false from decide_eq_false h)
    have HV := Lib.hid (place_bad x y h)
    clear h
    go_enter Try.func13, Try.ntmps13
    go_wp2_with fail
    refine (right28_any _ _ _ _ _ _ _ _ _ _ _ hS).mono ?_
    rintro e w1 ⟨rfl, hb1⟩
    rw [H1.out]
    have hB1 : Below w.heap.size w w1 := below_then (Below.alloc (Below.refl _ w) (Nat.le_refl _) _) (by simp) hb1
    go_wp2_with fail
    exact bodyPost_ret (v := .tuple #[.int .i64 0, .int .i64 0, .bool false, .int .i64 380]) (by simp [results, Try.results13, go_sem]) rfl ⟨by rw [HV.out], (by repeat (first | with_reducible exact Below.refl _ _ | with_reducible assumption | ((with_reducible refine Below.alloc ?_ ?hb_ _); (case hb_ => first | omega | (simp; done) | (simp; omega))) | ((with_reducible refine Below.setCell ?_ ?hb_ _); (case hb_ => first | omega | (simp; done) | (simp; omega))) | with_reducible refine Below.drew ?_ | with_reducible refine below_drewN ?_ _))⟩
end Go.Proofs.Ytkkeahnmmpcceaa
