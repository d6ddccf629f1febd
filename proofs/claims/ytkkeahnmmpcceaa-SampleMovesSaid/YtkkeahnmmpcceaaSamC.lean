/- sample.Place: where a pixel lies in a picture. -/
import Derived.Test.YtkkeahnmmpcceaaSamB
import Derived.WalkKit
import Derived.Lib.Hide
import Derived.Deep.QuietTactic
import Derived.BigQuiet
import Derived.Lib.QuietBelow
import Derived.Deep.RegionHeld3
import Derived.WalkLawsBesides
import Derived.WalkSpells
import Derived.Outline
import Derived.Deep.DeepFit
import Derived.Maps.AppendAt
import Derived.Deep.AppendLies
namespace Go.Proofs.Ytkkeahnmmpcceaa
open Go.RowKit

/-- the place of a pixel: column, row, whether there is one, the error -/
def uOf (x E : Int) : Int := x * 65536 + 32768 - E
def iOf (A B C D E F x y : Int) : Int := sdiv (D * uOf x E - C * uOf y F) (sgn (A * D - B * C)) (mag (A * D - B * C))
def jOf (A B C D E F x y : Int) : Int := sdiv (A * uOf y F - B * uOf x E) (sgn (A * D - B * C)) (mag (A * D - B * C))
def inP (W H A B C D E F x y : Int) : Bool := !(A * D - B * C == 0) && (decide (0 ≤ iOf A B C D E F x y) && (decide (iOf A B C D E F x y < W) && (decide (0 ≤ jOf A B C D E F x y) && decide (jOf A B C D E F x y < H))))
def pixOk (x y : Int) : Bool := decide (-1024 ≤ x) && (decide (x < 1024) && (decide (-1024 ≤ y) && decide (y < 1024)))
def placeE (W H N : Int) (S : ByteArray) (A B C D E F x y : Int) : Int := if pOk W H N S A B C D E F then (if pixOk x y then 0 else 2) else 380
def placeIs (W H N : Int) (S : ByteArray) (A B C D E F x y : Int) : Bool := decide (placeE W H N S A B C D E F x y = 0) && inP W H A B C D E F x y
def placeI (W H N : Int) (S : ByteArray) (A B C D E F x y : Int) : Int := if placeIs W H N S A B C D E F x y then iOf A B C D E F x y else 0
def placeJ (W H N : Int) (S : ByteArray) (A B C D E F x y : Int) : Int := if placeIs W H N S A B C D E F x y then jOf A B C D E F x y else 0
def placeV (W H N : Int) (S : ByteArray) (A B C D E F x y : Int) : Value := .tuple #[.int .i64 (placeI W H N S A B C D E F x y), .int .i64 (placeJ W H N S A B C D E F x y), .bool (placeIs W H N S A B C D E F x y), .int .i64 (placeE W H N S A B C D E F x y)]

theorem place_bad {W H N : Int} {S : ByteArray} {A B C D E F : Int} (x y : Int) (h : ¬ pOk W H N S A B C D E F) : placeV W H N S A B C D E F x y = .tuple #[.int .i64 0, .int .i64 0, .bool false, .int .i64 380] := by
  simp [placeV, placeI, placeJ, placeIs, placeE, h]
theorem place_arg {W H N : Int} {S : ByteArray} {A B C D E F : Int} (x y : Int) (h : pOk W H N S A B C D E F) (hp : pixOk x y = false) : placeV W H N S A B C D E F x y = .tuple #[.int .i64 0, .int .i64 0, .bool false, .int .i64 2] := by
  simp [placeV, placeI, placeJ, placeIs, placeE, h, hp]
theorem place_out {W H N : Int} {S : ByteArray} {A B C D E F : Int} (x y : Int) (h : pOk W H N S A B C D E F) (hp : pixOk x y = true) (hi : inP W H A B C D E F x y = false) : placeV W H N S A B C D E F x y = .tuple #[.int .i64 0, .int .i64 0, .bool false, .int .i64 0] := by
  simp [placeV, placeI, placeJ, placeIs, placeE, h, hp, hi]
theorem place_in {W H N : Int} {S : ByteArray} {A B C D E F : Int} (x y : Int) (h : pOk W H N S A B C D E F) (hp : pixOk x y = true) (hi : inP W H A B C D E F x y = true) : placeV W H N S A B C D E F x y = .tuple #[.int .i64 (iOf A B C D E F x y), .int .i64 (jOf A B C D E F x y), .bool true, .int .i64 0] := by
  simp [placeV, placeI, placeJ, placeIs, placeE, h, hp, hi]

theorem sgn_or (d : Int) : sgn d = 1 ∨ sgn d = -1 := by unfold sgn; split <;> simp
theorem mag_pos {d : Int} (h : d ≠ 0) : 0 < mag d := by unfold mag; split <;> omega
theorem mag_le {d : Int} (h : -2305843009213693952 ≤ d) (h' : d ≤ 2305843009213693952) : mag d ≤ 2305843009213693952 := by unfold mag; split <;> omega
theorem bcell {W w1 : World} (hb : Below W.heap.size W w1) : (∀ b o, b < W.heap.size → w1.cell? ⟨b, o, none⟩ = W.cell? ⟨b, o, none⟩) ∧ (∀ b o, b < W.heap.size → w1.frozen? ⟨b, o, none⟩ = W.frozen? ⟨b, o, none⟩) :=
  ⟨fun b o h => hb.cell (p := ⟨b, o, none⟩) h, fun b o h => hb.frozen (p := ⟨b, o, none⟩) h⟩
/-- the bounds that the walk wants -/
theorem place_bd {A B C D E F x y : Int} (x1 : -1024 ≤ x) (x2 : x < 1024) (y1 : -1024 ≤ y) (y2 : y < 1024) (h : mOk A B C D E F) :
    (-281474976710656 ≤ A * D ∧ A * D ≤ 281474976710656 ∧ -281474976710656 ≤ B * C ∧ B * C ≤ 281474976710656) ∧
    (-1073741824 ≤ x * 65536 + 32768 - E ∧ x * 65536 + 32768 - E ≤ 1073741824 ∧ -1073741824 ≤ y * 65536 + 32768 - F ∧ y * 65536 + 32768 - F ≤ 1073741824) ∧
    (-18014398509481984 ≤ D * (x * 65536 + 32768 - E) ∧ D * (x * 65536 + 32768 - E) ≤ 18014398509481984) ∧ (-18014398509481984 ≤ C * (y * 65536 + 32768 - F) ∧ C * (y * 65536 + 32768 - F) ≤ 18014398509481984) ∧
    (-18014398509481984 ≤ A * (y * 65536 + 32768 - F) ∧ A * (y * 65536 + 32768 - F) ≤ 18014398509481984) ∧ (-18014398509481984 ≤ B * (x * 65536 + 32768 - E) ∧ B * (x * 65536 + 32768 - E) ≤ 18014398509481984) := by
  obtain ⟨⟨a1, a2⟩, ⟨b1, b2⟩, ⟨c1, c2⟩, ⟨d1, d2⟩, ⟨e1, e2⟩, ⟨f1, f2⟩⟩ := h
  have hu : -1073741824 ≤ x * 65536 + 32768 - E ∧ x * 65536 + 32768 - E ≤ 1073741824 := by omega
  have hv : -1073741824 ≤ y * 65536 + 32768 - F ∧ y * 65536 + 32768 - F ≤ 1073741824 := by omega
  have p := mul_bd a1 a2 d1 d2
  have q := mul_bd b1 b2 c1 c2
  have r1 := mul_bd d1 d2 hu.1 hu.2
  have r2 := mul_bd c1 c2 hv.1 hv.2
  have r3 := mul_bd a1 a2 hv.1 hv.2
  have r4 := mul_bd b1 b2 hu.1 hu.2
  exact ⟨⟨p.1, p.2, q.1, q.2⟩, ⟨hu.1, hu.2, hv.1, hv.2⟩, r1, r2, r3, r4⟩

set_option maxHeartbeats 1000000 in
theorem splace_bad (W H N : Int) (S : ByteArray) (A B C D E F x y : Int) (w : World) (hS : S.size ≤ 9223372036854775807) (h : ¬ pOk W H N S A B C D E F) :
    Calls Try.prog 12 #[.agg #[.int .i64 W, .int .i64 H, .int .i64 N, .string S, .int .i64 A, .int .i64 B, .int .i64 C, .int .i64 D, .int .i64 E, .int .i64 F], .int .i64 x, .int .i64 y] w fun e w' => e = .returned (.tuple #[.int .i64 0, .int .i64 0, .bool false, .int .i64 380]) ∧ Below w.heap.size w w' := by
  have He := Lib.hid (show pErr W H N S A B C D E F = 380 by rw [pErr, if_neg h])
  clear h
  go_enter Try.func12, Try.ntmps12
  go_wp2_with fail
  refine (scheck_any _ _ _ _ _ _ _ _ _ _ _ hS).mono ?_
  rintro e w1 ⟨rfl, hb1⟩
  rw [He.out]
  have hs1 : w.heap.size + 1 ≤ w1.heap.size := by simpa using hb1.size
  obtain ⟨hc1, hf1⟩ := bcell hb1
  go_wp2_with fail
  exact bodyPost_ret (v := .tuple #[.int .i64 0, .int .i64 0, .bool false, .int .i64 380]) (by simp [results, Try.results12, go_sem]) rfl ⟨rfl, below_then (Below.alloc (Below.refl _ w) (Nat.le_refl _) _) (by simp) hb1⟩
set_option maxHeartbeats 1000000 in
theorem splace_arg (W H N : Int) (S : ByteArray) (A B C D E F x y : Int) (w : World) (hS : S.size ≤ 9223372036854775807) (h : pOk W H N S A B C D E F) (hp : pixOk x y = false) :
    Calls Try.prog 12 #[.agg #[.int .i64 W, .int .i64 H, .int .i64 N, .string S, .int .i64 A, .int .i64 B, .int .i64 C, .int .i64 D, .int .i64 E, .int .i64 F], .int .i64 x, .int .i64 y] w fun e w' => e = .returned (.tuple #[.int .i64 0, .int .i64 0, .bool false, .int .i64 2]) ∧ Below w.heap.size w w' := by
  have He := Lib.hid (show pErr W H N S A B C D E F = 0 by rw [pErr, if_pos h])
  have Hp := Lib.hid (show allB [decide (-1024 ≤ x), decide (x < 1024), decide (-1024 ≤ y), decide (y < 1024)] = false by rw [← hp]; simp [allB, pixOk])
  clear h hp
  go_enter Try.func12, Try.ntmps12
  go_wp2_with fail
  refine (scheck_any _ _ _ _ _ _ _ _ _ _ _ hS).mono ?_
  rintro e w1 ⟨rfl, hb1⟩
  rw [He.out]
  have hs1 : w.heap.size + 1 ≤ w1.heap.size := by simpa using hb1.size
  obtain ⟨hc1, hf1⟩ := bcell hb1
  go_wp2_with fail
  refine (all_any [decide (-1024 ≤ x), decide (x < 1024), decide (-1024 ≤ y), decide (y < 1024)] _ 0 _ _ (by simp) (lit_bools _ _ _ _ rfl)).mono ?_
  rintro e w2 ⟨rfl, rfl⟩
  rw [Hp.out]
  go_wp2_with fail
  exact bodyPost_ret (v := .tuple #[.int .i64 0, .int .i64 0, .bool false, .int .i64 2]) (by simp [results, Try.results12, go_sem]) rfl ⟨rfl, Below.alloc (below_then (Below.alloc (Below.refl _ w) (Nat.le_refl _) _) (by simp) hb1) (by omega) _⟩
set_option maxHeartbeats 1000000 in
theorem splace_det0 (W H N : Int) (S : ByteArray) (A B C D E F x y : Int) (w : World) (hS : S.size ≤ 9223372036854775807) (h : pOk W H N S A B C D E F) (hp : pixOk x y = true) (hd : A * D - B * C = 0) :
    Calls Try.prog 12 #[.agg #[.int .i64 W, .int .i64 H, .int .i64 N, .string S, .int .i64 A, .int .i64 B, .int .i64 C, .int .i64 D, .int .i64 E, .int .i64 F], .int .i64 x, .int .i64 y] w fun e w' => e = .returned (.tuple #[.int .i64 0, .int .i64 0, .bool false, .int .i64 0]) ∧ Below w.heap.size w w' := by
  have He := Lib.hid (show pErr W H N S A B C D E F = 0 by rw [pErr, if_pos h])
  obtain ⟨_, _, _, hm, _⟩ := h
  have hx : -1024 ≤ x ∧ x < 1024 ∧ -1024 ≤ y ∧ y < 1024 := by simpa [pixOk] using hp
  obtain ⟨x1, x2, y1, y2⟩ := hx
  obtain ⟨⟨m1, m2, m3, m4⟩, ⟨u1, u2, v1, v2⟩, ⟨i1, i2⟩, ⟨i3, i4⟩, ⟨i5, i6⟩, ⟨i7, i8⟩⟩ := place_bd x1 x2 y1 y2 hm
  clear hp hm
  have hd' : (A * D - B * C == 0) = true := by simpa using hd
  clear hd
  go_enter Try.func12, Try.ntmps12
  go_wp2_with fail
  refine (scheck_any _ _ _ _ _ _ _ _ _ _ _ hS).mono ?_
  rintro e w1 ⟨rfl, hb1⟩
  rw [He.out]
  have hs1 : w.heap.size + 1 ≤ w1.heap.size := by simpa using hb1.size
  have hlt1 : w.heap.size < w1.heap.size := by omega
  obtain ⟨hc1, hf1⟩ := bcell hb1
  have c0 : w1.cell? ⟨w.heap.size, 0, none⟩ = some (.int .i64 W) := by rw [hc1 _ _ (by simp)]; simp
  have c1 : w1.cell? ⟨w.heap.size, 1, none⟩ = some (.int .i64 H) := by rw [hc1 _ _ (by simp)]; simp
  have c2 : w1.cell? ⟨w.heap.size, 2, none⟩ = some (.int .i64 N) := by rw [hc1 _ _ (by simp)]; simp
  have c3 : w1.cell? ⟨w.heap.size, 3, none⟩ = some (.string S) := by rw [hc1 _ _ (by simp)]; simp
  have c4 : w1.cell? ⟨w.heap.size, 4, none⟩ = some (.int .i64 A) := by rw [hc1 _ _ (by simp)]; simp
  have c5 : w1.cell? ⟨w.heap.size, 5, none⟩ = some (.int .i64 B) := by rw [hc1 _ _ (by simp)]; simp
  have c6 : w1.cell? ⟨w.heap.size, 6, none⟩ = some (.int .i64 C) := by rw [hc1 _ _ (by simp)]; simp
  have c7 : w1.cell? ⟨w.heap.size, 7, none⟩ = some (.int .i64 D) := by rw [hc1 _ _ (by simp)]; simp
  have c8 : w1.cell? ⟨w.heap.size, 8, none⟩ = some (.int .i64 E) := by rw [hc1 _ _ (by simp)]; simp
  have c9 : w1.cell? ⟨w.heap.size, 9, none⟩ = some (.int .i64 F) := by rw [hc1 _ _ (by simp)]; simp
  clear hc1 hf1
  have hB1 : Below w.heap.size w w1 := below_then (Below.alloc (Below.refl _ w) (Nat.le_refl _) _) (by simp) hb1
  clear hb1
  go_wp2_with fail
  refine (all_any [true, true, true, true] _ 0 _ _ (by simp) (lit_bools _ _ _ _ rfl)).mono ?_
  rintro e w2 ⟨rfl, rfl⟩
  rw [show allB [true, true, true, true] = true from rfl]
  go_wp2_with fail
  exact bodyPost_ret (v := .tuple #[.int .i64 0, .int .i64 0, .bool false, .int .i64 0]) (by simp [results, Try.results12, go_sem]) rfl ⟨rfl, (by repeat (first | with_reducible exact Below.refl _ _ | with_reducible assumption | ((with_reducible refine Below.alloc ?_ ?hb_ _); (case hb_ => first | omega | (simp; done) | (simp; omega))) | ((with_reducible refine Below.setCell ?_ ?hb_ _); (case hb_ => first | omega | (simp; done) | (simp; omega))) | with_reducible refine Below.drew ?_ | with_reducible refine below_drewN ?_ _))⟩
set_option maxHeartbeats 1000000 in
theorem splace_in (W H N : Int) (S : ByteArray) (A B C D E F x y : Int) (w : World) (hS : S.size ≤ 9223372036854775807) (h : pOk W H N S A B C D E F) (hp : pixOk x y = true) (hd : ¬ A * D - B * C = 0) (hi : inP W H A B C D E F x y = true) :
    Calls Try.prog 12 #[.agg #[.int .i64 W, .int .i64 H, .int .i64 N, .string S, .int .i64 A, .int .i64 B, .int .i64 C, .int .i64 D, .int .i64 E, .int .i64 F], .int .i64 x, .int .i64 y] w fun e w' => e = .returned (.tuple #[.int .i64 (iOf A B C D E F x y), .int .i64 (jOf A B C D E F x y), .bool true, .int .i64 0]) ∧ Below w.heap.size w w' := by
  have He := Lib.hid (show pErr W H N S A B C D E F = 0 by rw [pErr, if_pos h])
  obtain ⟨_, _, _, hm, _⟩ := h
  have hx : -1024 ≤ x ∧ x < 1024 ∧ -1024 ≤ y ∧ y < 1024 := by simpa [pixOk] using hp
  obtain ⟨x1, x2, y1, y2⟩ := hx
  obtain ⟨⟨m1, m2, m3, m4⟩, ⟨u1, u2, v1, v2⟩, ⟨i1, i2⟩, ⟨i3, i4⟩, ⟨i5, i6⟩, ⟨i7, i8⟩⟩ := place_bd x1 x2 y1 y2 hm
  clear hp hm
  have Hall := Lib.hid (show allB [decide (0 ≤ sdiv (D * (x * 65536 + 32768 - E) - C * (y * 65536 + 32768 - F)) (sgn (A * D - B * C)) (mag (A * D - B * C))), decide (sdiv (D * (x * 65536 + 32768 - E) - C * (y * 65536 + 32768 - F)) (sgn (A * D - B * C)) (mag (A * D - B * C)) < W), decide (0 ≤ sdiv (A * (y * 65536 + 32768 - F) - B * (x * 65536 + 32768 - E)) (sgn (A * D - B * C)) (mag (A * D - B * C))), decide (sdiv (A * (y * 65536 + 32768 - F) - B * (x * 65536 + 32768 - E)) (sgn (A * D - B * C)) (mag (A * D - B * C)) < H)] = true by
    have hdb : (A * D - B * C == 0) = false := by simpa using hd
    rw [← hi]; unfold inP; rw [hdb]; simp only [iOf, jOf, uOf, allB, List.all_cons, List.all_nil, id, Bool.and_true, Bool.not_false, Bool.true_and]
    try first | rfl | (rw [Bool.eq_iff_iff]; simp; done))
  clear hi
  have hd' : (A * D - B * C == 0) = false := by simpa using hd
  clear hd
  go_enter Try.func12, Try.ntmps12
  go_wp2_with fail
  refine (scheck_any _ _ _ _ _ _ _ _ _ _ _ hS).mono ?_
  rintro e w1 ⟨rfl, hb1⟩
  rw [He.out]
  have hs1 : w.heap.size + 1 ≤ w1.heap.size := by simpa using hb1.size
  have hlt1 : w.heap.size < w1.heap.size := by omega
  obtain ⟨hc1, hf1⟩ := bcell hb1
  have c0 : w1.cell? ⟨w.heap.size, 0, none⟩ = some (.int .i64 W) := by rw [hc1 _ _ (by simp)]; simp
  have c1 : w1.cell? ⟨w.heap.size, 1, none⟩ = some (.int .i64 H) := by rw [hc1 _ _ (by simp)]; simp
  have c2 : w1.cell? ⟨w.heap.size, 2, none⟩ = some (.int .i64 N) := by rw [hc1 _ _ (by simp)]; simp
  have c3 : w1.cell? ⟨w.heap.size, 3, none⟩ = some (.string S) := by rw [hc1 _ _ (by simp)]; simp
  have c4 : w1.cell? ⟨w.heap.size, 4, none⟩ = some (.int .i64 A) := by rw [hc1 _ _ (by simp)]; simp
  have c5 : w1.cell? ⟨w.heap.size, 5, none⟩ = some (.int .i64 B) := by rw [hc1 _ _ (by simp)]; simp
  have c6 : w1.cell? ⟨w.heap.size, 6, none⟩ = some (.int .i64 C) := by rw [hc1 _ _ (by simp)]; simp
  have c7 : w1.cell? ⟨w.heap.size, 7, none⟩ = some (.int .i64 D) := by rw [hc1 _ _ (by simp)]; simp
  have c8 : w1.cell? ⟨w.heap.size, 8, none⟩ = some (.int .i64 E) := by rw [hc1 _ _ (by simp)]; simp
  have c9 : w1.cell? ⟨w.heap.size, 9, none⟩ = some (.int .i64 F) := by rw [hc1 _ _ (by simp)]; simp
  clear hc1 hf1
  have hB1 : Below w.heap.size w w1 := below_then (Below.alloc (Below.refl _ w) (Nat.le_refl _) _) (by simp) hb1
  clear hb1
  go_wp2_with fail
  refine (all_any [true, true, true, true] _ 0 _ _ (by simp) (lit_bools _ _ _ _ rfl)).mono ?_
  rintro e w2 ⟨rfl, rfl⟩
  rw [show allB [true, true, true, true] = true from rfl]
  go_wp2_with fail
  refine (divides_any _ _ (by omega) (by omega)).mono ?_
  rintro e w2 ⟨b1, b2, rfl, hb1c, hb2c, hbel2⟩
  have hs2 : w1.heap.size + 2 ≤ w2.heap.size := by simpa using hbel2.size
  have hB2 : Below w.heap.size w w2 := below_then (w1 := (w1.alloc _).alloc _) (by repeat (first | with_reducible exact Below.refl _ _ | with_reducible assumption | ((with_reducible refine Below.alloc ?_ ?hb_ _); (case hb_ => first | omega | (simp; done) | (simp; omega))) | ((with_reducible refine Below.setCell ?_ ?hb_ _); (case hb_ => first | omega | (simp; done) | (simp; omega))) | with_reducible refine Below.drew ?_ | with_reducible refine below_drewN ?_ _)) (by simp; omega) hbel2
  have hlt2 : w.heap.size < w2.heap.size := by omega
  have hlt3 : w1.heap.size + 1 < w2.heap.size := by omega
  obtain ⟨hc2, _⟩ := bcell hbel2
  have d0 : w2.cell? ⟨w.heap.size, 0, none⟩ = some (.int .i64 W) := by
    rw [hc2 _ _ (by simp; omega), World.cell?_alloc_lt _ _ _ (by simp; omega), World.cell?_alloc_lt _ _ _ hlt1, c0]
  have d1 : w2.cell? ⟨w.heap.size, 1, none⟩ = some (.int .i64 H) := by
    rw [hc2 _ _ (by simp; omega), World.cell?_alloc_lt _ _ _ (by simp; omega), World.cell?_alloc_lt _ _ _ hlt1, c1]
  have m0 : w2.cell? ⟨w1.heap.size + 1, 0, none⟩ = some (.int .i64 A) := by rw [hc2 _ _ (by simp)]; simp
  have m1 : w2.cell? ⟨w1.heap.size + 1, 1, none⟩ = some (.int .i64 B) := by rw [hc2 _ _ (by simp)]; simp
  have m2 : w2.cell? ⟨w1.heap.size + 1, 2, none⟩ = some (.int .i64 C) := by rw [hc2 _ _ (by simp)]; simp
  have m3 : w2.cell? ⟨w1.heap.size + 1, 3, none⟩ = some (.int .i64 D) := by rw [hc2 _ _ (by simp)]; simp
  have m4 : w2.cell? ⟨w1.heap.size + 1, 4, none⟩ = some (.int .i64 E) := by rw [hc2 _ _ (by simp)]; simp
  have m5 : w2.cell? ⟨w1.heap.size + 1, 5, none⟩ = some (.int .i64 F) := by rw [hc2 _ _ (by simp)]; simp
  clear hc2 hbel2 c0 c1 c2 c3 c4 c5 c6 c7 c8 c9
  go_wp2_with fail
  go_quiet (fail)
  go_wp2_with fail
  go_quiet ((go_at_call 32; exact (div1_any _ _ _ _ _ _ (sgn_or _) (mag_pos (by simpa using hd')) (by omega) (by omega) (mag_le (by omega) (by omega)) (by simpa using hb1c) (by simpa using hb2c)).mono fun _ _ h => ⟨h.1, _, h.2.symm⟩))
  go_wp2_with fail
  refine (all_any [decide (0 ≤ sdiv (D * (x * 65536 + 32768 - E) - C * (y * 65536 + 32768 - F)) (sgn (A * D - B * C)) (mag (A * D - B * C))), decide (sdiv (D * (x * 65536 + 32768 - E) - C * (y * 65536 + 32768 - F)) (sgn (A * D - B * C)) (mag (A * D - B * C)) < W), decide (0 ≤ sdiv (A * (y * 65536 + 32768 - F) - B * (x * 65536 + 32768 - E)) (sgn (A * D - B * C)) (mag (A * D - B * C))), decide (sdiv (A * (y * 65536 + 32768 - F) - B * (x * 65536 + 32768 - E)) (sgn (A * D - B * C)) (mag (A * D - B * C)) < H)] _ 0 _ _ (by simp) (lit_bools _ _ _ _ (by simp))).mono ?_
  rintro e w3 ⟨rfl, rfl⟩
  rw [Hall.out]
  go_wp2_with fail
  exact bodyPost_ret (v := .tuple #[.int .i64 (iOf A B C D E F x y), .int .i64 (jOf A B C D E F x y), .bool true, .int .i64 0]) (by simp [results, Try.results12, go_sem, iOf, jOf, uOf]) rfl ⟨rfl, (by repeat (first | with_reducible exact Below.refl _ _ | with_reducible assumption | ((with_reducible refine Below.alloc ?_ ?hb_ _); (case hb_ => first | omega | (simp; done) | (simp; omega))) | ((with_reducible refine Below.setCell ?_ ?hb_ _); (case hb_ => first | omega | (simp; done) | (simp; omega))) | with_reducible refine Below.drew ?_ | with_reducible refine below_drewN ?_ _))⟩
set_option maxHeartbeats 1000000 in
theorem splace_out (W H N : Int) (S : ByteArray) (A B C D E F x y : Int) (w : World) (hS : S.size ≤ 9223372036854775807) (h : pOk W H N S A B C D E F) (hp : pixOk x y = true) (hd : ¬ A * D - B * C = 0) (hi : inP W H A B C D E F x y = false) :
    Calls Try.prog 12 #[.agg #[.int .i64 W, .int .i64 H, .int .i64 N, .string S, .int .i64 A, .int .i64 B, .int .i64 C, .int .i64 D, .int .i64 E, .int .i64 F], .int .i64 x, .int .i64 y] w fun e w' => e = .returned (.tuple #[.int .i64 0, .int .i64 0, .bool false, .int .i64 0]) ∧ Below w.heap.size w w' := by
  have He := Lib.hid (show pErr W H N S A B C D E F = 0 by rw [pErr, if_pos h])
  obtain ⟨_, _, _, hm, _⟩ := h
  have hx : -1024 ≤ x ∧ x < 1024 ∧ -1024 ≤ y ∧ y < 1024 := by simpa [pixOk] using hp
  obtain ⟨x1, x2, y1, y2⟩ := hx
  obtain ⟨⟨m1, m2, m3, m4⟩, ⟨u1, u2, v1, v2⟩, ⟨i1, i2⟩, ⟨i3, i4⟩, ⟨i5, i6⟩, ⟨i7, i8⟩⟩ := place_bd x1 x2 y1 y2 hm
  clear hp hm
  have Hall := Lib.hid (show allB [decide (0 ≤ sdiv (D * (x * 65536 + 32768 - E) - C * (y * 65536 + 32768 - F)) (sgn (A * D - B * C)) (mag (A * D - B * C))), decide (sdiv (D * (x * 65536 + 32768 - E) - C * (y * 65536 + 32768 - F)) (sgn (A * D - B * C)) (mag (A * D - B * C)) < W), decide (0 ≤ sdiv (A * (y * 65536 + 32768 - F) - B * (x * 65536 + 32768 - E)) (sgn (A * D - B * C)) (mag (A * D - B * C))), decide (sdiv (A * (y * 65536 + 32768 - F) - B * (x * 65536 + 32768 - E)) (sgn (A * D - B * C)) (mag (A * D - B * C)) < H)] = false by
    have hdb : (A * D - B * C == 0) = false := by simpa using hd
    rw [← hi]; unfold inP; rw [hdb]; simp only [iOf, jOf, uOf, allB, List.all_cons, List.all_nil, id, Bool.and_true, Bool.not_false, Bool.true_and]
    try first | rfl | (rw [Bool.eq_iff_iff]; simp; done))
  clear hi
  have hd' : (A * D - B * C == 0) = false := by simpa using hd
  clear hd
  go_enter Try.func12, Try.ntmps12
  go_wp2_with fail
  refine (scheck_any _ _ _ _ _ _ _ _ _ _ _ hS).mono ?_
  rintro e w1 ⟨rfl, hb1⟩
  rw [He.out]
  have hs1 : w.heap.size + 1 ≤ w1.heap.size := by simpa using hb1.size
  have hlt1 : w.heap.size < w1.heap.size := by omega
  obtain ⟨hc1, hf1⟩ := bcell hb1
  have c0 : w1.cell? ⟨w.heap.size, 0, none⟩ = some (.int .i64 W) := by rw [hc1 _ _ (by simp)]; simp
  have c1 : w1.cell? ⟨w.heap.size, 1, none⟩ = some (.int .i64 H) := by rw [hc1 _ _ (by simp)]; simp
  have c2 : w1.cell? ⟨w.heap.size, 2, none⟩ = some (.int .i64 N) := by rw [hc1 _ _ (by simp)]; simp
  have c3 : w1.cell? ⟨w.heap.size, 3, none⟩ = some (.string S) := by rw [hc1 _ _ (by simp)]; simp
  have c4 : w1.cell? ⟨w.heap.size, 4, none⟩ = some (.int .i64 A) := by rw [hc1 _ _ (by simp)]; simp
  have c5 : w1.cell? ⟨w.heap.size, 5, none⟩ = some (.int .i64 B) := by rw [hc1 _ _ (by simp)]; simp
  have c6 : w1.cell? ⟨w.heap.size, 6, none⟩ = some (.int .i64 C) := by rw [hc1 _ _ (by simp)]; simp
  have c7 : w1.cell? ⟨w.heap.size, 7, none⟩ = some (.int .i64 D) := by rw [hc1 _ _ (by simp)]; simp
  have c8 : w1.cell? ⟨w.heap.size, 8, none⟩ = some (.int .i64 E) := by rw [hc1 _ _ (by simp)]; simp
  have c9 : w1.cell? ⟨w.heap.size, 9, none⟩ = some (.int .i64 F) := by rw [hc1 _ _ (by simp)]; simp
  clear hc1 hf1
  have hB1 : Below w.heap.size w w1 := below_then (Below.alloc (Below.refl _ w) (Nat.le_refl _) _) (by simp) hb1
  clear hb1
  go_wp2_with fail
  refine (all_any [true, true, true, true] _ 0 _ _ (by simp) (lit_bools _ _ _ _ rfl)).mono ?_
  rintro e w2 ⟨rfl, rfl⟩
  rw [show allB [true, true, true, true] = true from rfl]
  go_wp2_with fail
  refine (divides_any _ _ (by omega) (by omega)).mono ?_
  rintro e w2 ⟨b1, b2, rfl, hb1c, hb2c, hbel2⟩
  have hs2 : w1.heap.size + 2 ≤ w2.heap.size := by simpa using hbel2.size
  have hB2 : Below w.heap.size w w2 := below_then (w1 := (w1.alloc _).alloc _) (by repeat (first | with_reducible exact Below.refl _ _ | with_reducible assumption | ((with_reducible refine Below.alloc ?_ ?hb_ _); (case hb_ => first | omega | (simp; done) | (simp; omega))) | ((with_reducible refine Below.setCell ?_ ?hb_ _); (case hb_ => first | omega | (simp; done) | (simp; omega))) | with_reducible refine Below.drew ?_ | with_reducible refine below_drewN ?_ _)) (by simp; omega) hbel2
  have hlt2 : w.heap.size < w2.heap.size := by omega
  have hlt3 : w1.heap.size + 1 < w2.heap.size := by omega
  obtain ⟨hc2, _⟩ := bcell hbel2
  have d0 : w2.cell? ⟨w.heap.size, 0, none⟩ = some (.int .i64 W) := by
    rw [hc2 _ _ (by simp; omega), World.cell?_alloc_lt _ _ _ (by simp; omega), World.cell?_alloc_lt _ _ _ hlt1, c0]
  have d1 : w2.cell? ⟨w.heap.size, 1, none⟩ = some (.int .i64 H) := by
    rw [hc2 _ _ (by simp; omega), World.cell?_alloc_lt _ _ _ (by simp; omega), World.cell?_alloc_lt _ _ _ hlt1, c1]
  have m0 : w2.cell? ⟨w1.heap.size + 1, 0, none⟩ = some (.int .i64 A) := by rw [hc2 _ _ (by simp)]; simp
  have m1 : w2.cell? ⟨w1.heap.size + 1, 1, none⟩ = some (.int .i64 B) := by rw [hc2 _ _ (by simp)]; simp
  have m2 : w2.cell? ⟨w1.heap.size + 1, 2, none⟩ = some (.int .i64 C) := by rw [hc2 _ _ (by simp)]; simp
  have m3 : w2.cell? ⟨w1.heap.size + 1, 3, none⟩ = some (.int .i64 D) := by rw [hc2 _ _ (by simp)]; simp
  have m4 : w2.cell? ⟨w1.heap.size + 1, 4, none⟩ = some (.int .i64 E) := by rw [hc2 _ _ (by simp)]; simp
  have m5 : w2.cell? ⟨w1.heap.size + 1, 5, none⟩ = some (.int .i64 F) := by rw [hc2 _ _ (by simp)]; simp
  clear hc2 hbel2 c0 c1 c2 c3 c4 c5 c6 c7 c8 c9
  go_wp2_with fail
  go_quiet (fail)
  go_wp2_with fail
  go_quiet ((go_at_call 32; exact (div1_any _ _ _ _ _ _ (sgn_or _) (mag_pos (by simpa using hd')) (by omega) (by omega) (mag_le (by omega) (by omega)) (by simpa using hb1c) (by simpa using hb2c)).mono fun _ _ h => ⟨h.1, _, h.2.symm⟩))
  go_wp2_with fail
  refine (all_any [decide (0 ≤ sdiv (D * (x * 65536 + 32768 - E) - C * (y * 65536 + 32768 - F)) (sgn (A * D - B * C)) (mag (A * D - B * C))), decide (sdiv (D * (x * 65536 + 32768 - E) - C * (y * 65536 + 32768 - F)) (sgn (A * D - B * C)) (mag (A * D - B * C)) < W), decide (0 ≤ sdiv (A * (y * 65536 + 32768 - F) - B * (x * 65536 + 32768 - E)) (sgn (A * D - B * C)) (mag (A * D - B * C))), decide (sdiv (A * (y * 65536 + 32768 - F) - B * (x * 65536 + 32768 - E)) (sgn (A * D - B * C)) (mag (A * D - B * C)) < H)] _ 0 _ _ (by simp) (lit_bools _ _ _ _ (by simp))).mono ?_
  rintro e w3 ⟨rfl, rfl⟩
  rw [Hall.out]
  go_wp2_with fail
  exact bodyPost_ret (v := .tuple #[.int .i64 0, .int .i64 0, .bool false, .int .i64 0]) (by simp [results, Try.results12, go_sem]) rfl ⟨rfl, (by repeat (first | with_reducible exact Below.refl _ _ | with_reducible assumption | ((with_reducible refine Below.alloc ?_ ?hb_ _); (case hb_ => first | omega | (simp; done) | (simp; omega))) | ((with_reducible refine Below.setCell ?_ ?hb_ _); (case hb_ => first | omega | (simp; done) | (simp; omega))) | with_reducible refine Below.drew ?_ | with_reducible refine below_drewN ?_ _))⟩

theorem splace_any (W H N : Int) (S : ByteArray) (A B C D E F x y : Int) (w : World) (hS : S.size ≤ 9223372036854775807) :
    Calls Try.prog 12 #[.agg #[.int .i64 W, .int .i64 H, .int .i64 N, .string S, .int .i64 A, .int .i64 B, .int .i64 C, .int .i64 D, .int .i64 E, .int .i64 F], .int .i64 x, .int .i64 y] w fun e w' => e = .returned (placeV W H N S A B C D E F x y) ∧ Below w.heap.size w w' := by
  by_cases h : pOk W H N S A B C D E F
  · by_cases hp : pixOk x y = true
    · by_cases hd : A * D - B * C = 0
      · rw [place_out x y h hp (by simp [inP, hd])]
        exact splace_det0 W H N S A B C D E F x y w hS h hp hd
      · by_cases hi : inP W H A B C D E F x y = true
        · rw [place_in x y h hp hi]
          exact splace_in W H N S A B C D E F x y w hS h hp hd hi
        · have hi' : inP W H A B C D E F x y = false := by simpa using hi
          rw [place_out x y h hp hi']
          exact splace_out W H N S A B C D E F x y w hS h hp hd hi'
    · have hp' : pixOk x y = false := by simpa using hp
      rw [place_arg x y h hp']
      exact splace_arg W H N S A B C D E F x y w hS h hp'
  · rw [place_bad x y h]
    exact splace_bad W H N S A B C D E F x y w hS h
end Go.Proofs.Ytkkeahnmmpcceaa
