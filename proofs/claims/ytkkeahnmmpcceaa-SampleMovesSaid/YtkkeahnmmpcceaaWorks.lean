/- works: the chapter's examples hold. -/
import Derived.Test.YtkkeahnmmpcceaaEx
import Derived.WalkKit
import Derived.Lib.Hide
import Derived.Deep.QuietTactic
import Derived.BigQuiet
import Derived.Lib.QuietBelow
import Derived.Deep.RegionHeld3
import Derived.WalkLawsBesides
import Derived.WalkSpells
import Derived.Outline
import Derived.Deep.DeepFit
import Derived.Maps.AppendAt
import Derived.Deep.AppendLies
import Derived.Deep.CutRange
namespace Go.Proofs.Ytkkeahnmmpcceaa
open Go.RowKit

theorem ink4 {w : World} {b t : Nat} {v0 v1 v2 v3 : Value} (h : w.heap[b]? = some (.cells #[v0, v1, v2, v3] t (0, 0))) :
    w.cell? ⟨b, 0, none⟩ = some v0 ∧ w.cell? ⟨b, 1, none⟩ = some v1 ∧ w.cell? ⟨b, 2, none⟩ = some v2 ∧ w.cell? ⟨b, 3, none⟩ = some v3 := by
  refine ⟨?_, ?_, ?_, ?_⟩ <;> simp [World.cell?, h]
theorem picf {w : World} {b t : Nat} {v0 v1 v2 v3 v4 v5 v6 v7 v8 v9 : Value} (h : w.heap[b]? = some (.cells #[v0, v1, v2, v3, v4, v5, v6, v7, v8, v9] t (0, 0))) :
    w.frozen? ⟨b, 4, none⟩ = false ∧ w.frozen? ⟨b, 5, none⟩ = false ∧ w.frozen? ⟨b, 6, none⟩ = false ∧ w.frozen? ⟨b, 7, none⟩ = false ∧ w.frozen? ⟨b, 8, none⟩ = false ∧ w.frozen? ⟨b, 9, none⟩ = false := by
  refine ⟨?_, ?_, ?_, ?_, ?_, ?_⟩ <;> simp [World.frozen?, h]
theorem exS_size : exS.size ≤ 9223372036854775807 := by decide
theorem sat_at (W H N : Int) (S : ByteArray) (A B C D E F x y : Int) (V : Value) (w : World) (hS : S.size ≤ 9223372036854775807) (hV : atV W H N S A B C D E F x y = V) :
    Calls Try.prog 14 #[.agg #[.int .i64 W, .int .i64 H, .int .i64 N, .string S, .int .i64 A, .int .i64 B, .int .i64 C, .int .i64 D, .int .i64 E, .int .i64 F], .int .i64 x, .int .i64 y] w fun e w' => e = .returned V ∧ Below w.heap.size w w' := by
  rw [← hV]
  exact sat_any _ _ _ _ _ _ _ _ _ _ _ _ _ hS
theorem splace_at (W H N : Int) (S : ByteArray) (A B C D E F x y : Int) (V : Value) (w : World) (hS : S.size ≤ 9223372036854775807) (hV : placeV W H N S A B C D E F x y = V) :
    Calls Try.prog 12 #[.agg #[.int .i64 W, .int .i64 H, .int .i64 N, .string S, .int .i64 A, .int .i64 B, .int .i64 C, .int .i64 D, .int .i64 E, .int .i64 F], .int .i64 x, .int .i64 y] w fun e w' => e = .returned V ∧ Below w.heap.size w w' := by
  rw [← hV]
  exact splace_any _ _ _ _ _ _ _ _ _ _ _ _ _ hS
set_option maxHeartbeats 4000000 in
theorem works_any (w : World) :
    Calls Try.prog 16 #[] w fun e w' => e = .returned (.bool true) ∧ Below w.heap.size w w' := by
  go_enter Try.func16, Try.ntmps16
  go_wp2_with fail
  refine (example_any _).mono ?_
  rintro e w1 ⟨rfl, hB⟩
  have hsz : w.heap.size ≤ w1.heap.size := hB.size
  go_wp2_with fail
  have hpp := heap_alloc_new w1 (.cells #[.int .i64 2, .int .i64 2, .int .i64 1, .string exS, .int .i64 196608, .int .i64 0, .int .i64 0, .int .i64 196608, .int .i64 655360, .int .i64 1310720] 30)
  have hlp : w1.heap.size < (w1.alloc (.cells #[.int .i64 2, .int .i64 2, .int .i64 1, .string exS, .int .i64 196608, .int .i64 0, .int .i64 0, .int .i64 196608, .int .i64 655360, .int .i64 1310720] 30)).heap.size := by simp
  obtain ⟨p0, p1, p2, p3, p4, p5, p6, p7, p8, p9⟩ := pic10 hpp
  refine (lies_yes 2 2 1 exS 196608 0 0 196608 655360 1310720 _ _ _ _ _ exS_size (by kernel_rfl)).mono ?_
  rintro e w2 ⟨rfl, hb⟩
  have hn : (w2).heap[w1.heap.size]? = _ := (hb.block (w1.heap.size) (by first | exact hlp | (simp; omega))).trans (by first | exact hpp | exact (Below.heap_alloc _ _ _ hlp).trans hpp)
  have hm : w1.heap.size < (w2).heap.size := by (have hq := hb.size; (try simp at hq); omega)
  clear hpp hlp
  have hpp := hn
  have hlp := hm
  clear hn hm
  clear p0 p1 p2 p3 p4 p5 p6 p7 p8 p9
  obtain ⟨p0, p1, p2, p3, p4, p5, p6, p7, p8, p9⟩ := pic10 hpp
  have hBn : Below w.heap.size w w2 := below_then (by first | exact hB | exact (by repeat (first | with_reducible exact Below.refl _ _ | with_reducible assumption | ((with_reducible refine Below.alloc ?_ ?hb_ _); (case hb_ => first | omega | (simp; done) | (simp; omega))) | ((with_reducible refine Below.setCell ?_ ?hb_ _); (case hb_ => first | omega | (simp; done) | (simp; omega))) | with_reducible refine Below.drew ?_ | with_reducible refine below_drewN ?_ _))) (by first | omega | (simp; omega)) hb
  have hsn : w.heap.size ≤ (w2).heap.size := hBn.size
  clear hB hsz hb
  have hB := hBn
  have hsz := hsn
  clear hBn hsn
  go_wp2_with fail
  refine (lies_yes 2 2 1 exS 196608 0 0 196608 655360 1310720 _ _ _ _ _ exS_size (by kernel_rfl)).mono ?_
  rintro e w3 ⟨rfl, hb⟩
  have hn : (w3).heap[w1.heap.size]? = _ := (hb.block (w1.heap.size) (by first | exact hlp | (simp; omega))).trans (by first | exact hpp | exact (Below.heap_alloc _ _ _ hlp).trans hpp)
  have hm : w1.heap.size < (w3).heap.size := by (have hq := hb.size; (try simp at hq); omega)
  clear hpp hlp
  have hpp := hn
  have hlp := hm
  clear hn hm
  clear p0 p1 p2 p3 p4 p5 p6 p7 p8 p9
  obtain ⟨p0, p1, p2, p3, p4, p5, p6, p7, p8, p9⟩ := pic10 hpp
  have hBn : Below w.heap.size w w3 := below_then (by first | exact hB | exact (by repeat (first | with_reducible exact Below.refl _ _ | with_reducible assumption | ((with_reducible refine Below.alloc ?_ ?hb_ _); (case hb_ => first | omega | (simp; done) | (simp; omega))) | ((with_reducible refine Below.setCell ?_ ?hb_ _); (case hb_ => first | omega | (simp; done) | (simp; omega))) | with_reducible refine Below.drew ?_ | with_reducible refine below_drewN ?_ _))) (by first | omega | (simp; omega)) hb
  have hsn : w.heap.size ≤ (w3).heap.size := hBn.size
  clear hB hsz hb
  have hB := hBn
  have hsz := hsn
  clear hBn hsn
  go_wp2_with fail
  refine (lies_yes 2 2 1 exS 196608 0 0 196608 655360 1310720 _ _ _ _ _ exS_size (by kernel_rfl)).mono ?_
  rintro e w4 ⟨rfl, hb⟩
  have hn : (w4).heap[w1.heap.size]? = _ := (hb.block (w1.heap.size) (by first | exact hlp | (simp; omega))).trans (by first | exact hpp | exact (Below.heap_alloc _ _ _ hlp).trans hpp)
  have hm : w1.heap.size < (w4).heap.size := by (have hq := hb.size; (try simp at hq); omega)
  clear hpp hlp
  have hpp := hn
  have hlp := hm
  clear hn hm
  clear p0 p1 p2 p3 p4 p5 p6 p7 p8 p9
  obtain ⟨p0, p1, p2, p3, p4, p5, p6, p7, p8, p9⟩ := pic10 hpp
  have hBn : Below w.heap.size w w4 := below_then (by first | exact hB | exact (by repeat (first | with_reducible exact Below.refl _ _ | with_reducible assumption | ((with_reducible refine Below.alloc ?_ ?hb_ _); (case hb_ => first | omega | (simp; done) | (simp; omega))) | ((with_reducible refine Below.setCell ?_ ?hb_ _); (case hb_ => first | omega | (simp; done) | (simp; omega))) | with_reducible refine Below.drew ?_ | with_reducible refine below_drewN ?_ _))) (by first | omega | (simp; omega)) hb
  have hsn : w.heap.size ≤ (w4).heap.size := hBn.size
  clear hB hsz hb
  have hB := hBn
  have hsz := hsn
  clear hBn hsn
  go_wp2_with fail
  refine (lies_yes 2 2 1 exS 196608 0 0 196608 655360 1310720 _ _ _ _ _ exS_size (by kernel_rfl)).mono ?_
  rintro e w5 ⟨rfl, hb⟩
  have hn : (w5).heap[w1.heap.size]? = _ := (hb.block (w1.heap.size) (by first | exact hlp | (simp; omega))).trans (by first | exact hpp | exact (Below.heap_alloc _ _ _ hlp).trans hpp)
  have hm : w1.heap.size < (w5).heap.size := by (have hq := hb.size; (try simp at hq); omega)
  clear hpp hlp
  have hpp := hn
  have hlp := hm
  clear hn hm
  clear p0 p1 p2 p3 p4 p5 p6 p7 p8 p9
  obtain ⟨p0, p1, p2, p3, p4, p5, p6, p7, p8, p9⟩ := pic10 hpp
  have hBn : Below w.heap.size w w5 := below_then (by first | exact hB | exact (by repeat (first | with_reducible exact Below.refl _ _ | with_reducible assumption | ((with_reducible refine Below.alloc ?_ ?hb_ _); (case hb_ => first | omega | (simp; done) | (simp; omega))) | ((with_reducible refine Below.setCell ?_ ?hb_ _); (case hb_ => first | omega | (simp; done) | (simp; omega))) | with_reducible refine Below.drew ?_ | with_reducible refine below_drewN ?_ _))) (by first | omega | (simp; omega)) hb
  have hsn : w.heap.size ≤ (w5).heap.size := hBn.size
  clear hB hsz hb
  have hB := hBn
  have hsz := hsn
  clear hBn hsn
  go_wp2_with fail
  refine (none_yes 2 2 1 exS 196608 0 0 196608 655360 1310720 _ _ _ exS_size (by kernel_rfl)).mono ?_
  rintro e w6 ⟨rfl, hb⟩
  have hn : (w6).heap[w1.heap.size]? = _ := (hb.block (w1.heap.size) (by first | exact hlp | (simp; omega))).trans (by first | exact hpp | exact (Below.heap_alloc _ _ _ hlp).trans hpp)
  have hm : w1.heap.size < (w6).heap.size := by (have hq := hb.size; (try simp at hq); omega)
  clear hpp hlp
  have hpp := hn
  have hlp := hm
  clear hn hm
  clear p0 p1 p2 p3 p4 p5 p6 p7 p8 p9
  obtain ⟨p0, p1, p2, p3, p4, p5, p6, p7, p8, p9⟩ := pic10 hpp
  have hBn : Below w.heap.size w w6 := below_then (by first | exact hB | exact (by repeat (first | with_reducible exact Below.refl _ _ | with_reducible assumption | ((with_reducible refine Below.alloc ?_ ?hb_ _); (case hb_ => first | omega | (simp; done) | (simp; omega))) | ((with_reducible refine Below.setCell ?_ ?hb_ _); (case hb_ => first | omega | (simp; done) | (simp; omega))) | with_reducible refine Below.drew ?_ | with_reducible refine below_drewN ?_ _))) (by first | omega | (simp; omega)) hb
  have hsn : w.heap.size ≤ (w6).heap.size := hBn.size
  clear hB hsz hb
  have hB := hBn
  have hsz := hsn
  clear hBn hsn
  go_wp2_with fail
  refine (none_yes 2 2 1 exS 196608 0 0 196608 655360 1310720 _ _ _ exS_size (by kernel_rfl)).mono ?_
  rintro e w7 ⟨rfl, hb⟩
  have hn : (w7).heap[w1.heap.size]? = _ := (hb.block (w1.heap.size) (by first | exact hlp | (simp; omega))).trans (by first | exact hpp | exact (Below.heap_alloc _ _ _ hlp).trans hpp)
  have hm : w1.heap.size < (w7).heap.size := by (have hq := hb.size; (try simp at hq); omega)
  clear hpp hlp
  have hpp := hn
  have hlp := hm
  clear hn hm
  clear p0 p1 p2 p3 p4 p5 p6 p7 p8 p9
  obtain ⟨p0, p1, p2, p3, p4, p5, p6, p7, p8, p9⟩ := pic10 hpp
  have hBn : Below w.heap.size w w7 := below_then (by first | exact hB | exact (by repeat (first | with_reducible exact Below.refl _ _ | with_reducible assumption | ((with_reducible refine Below.alloc ?_ ?hb_ _); (case hb_ => first | omega | (simp; done) | (simp; omega))) | ((with_reducible refine Below.setCell ?_ ?hb_ _); (case hb_ => first | omega | (simp; done) | (simp; omega))) | with_reducible refine Below.drew ?_ | with_reducible refine below_drewN ?_ _))) (by first | omega | (simp; omega)) hb
  have hsn : w.heap.size ≤ (w7).heap.size := hBn.size
  clear hB hsz hb
  have hB := hBn
  have hsz := hsn
  clear hBn hsn
  go_wp2_with fail
  refine (none_yes 2 2 1 exS 196608 0 0 196608 655360 1310720 _ _ _ exS_size (by kernel_rfl)).mono ?_
  rintro e w8 ⟨rfl, hb⟩
  have hn : (w8).heap[w1.heap.size]? = _ := (hb.block (w1.heap.size) (by first | exact hlp | (simp; omega))).trans (by first | exact hpp | exact (Below.heap_alloc _ _ _ hlp).trans hpp)
  have hm : w1.heap.size < (w8).heap.size := by (have hq := hb.size; (try simp at hq); omega)
  clear hpp hlp
  have hpp := hn
  have hlp := hm
  clear hn hm
  clear p0 p1 p2 p3 p4 p5 p6 p7 p8 p9
  obtain ⟨p0, p1, p2, p3, p4, p5, p6, p7, p8, p9⟩ := pic10 hpp
  have hBn : Below w.heap.size w w8 := below_then (by first | exact hB | exact (by repeat (first | with_reducible exact Below.refl _ _ | with_reducible assumption | ((with_reducible refine Below.alloc ?_ ?hb_ _); (case hb_ => first | omega | (simp; done) | (simp; omega))) | ((with_reducible refine Below.setCell ?_ ?hb_ _); (case hb_ => first | omega | (simp; done) | (simp; omega))) | with_reducible refine Below.drew ?_ | with_reducible refine below_drewN ?_ _))) (by first | omega | (simp; omega)) hb
  have hsn : w.heap.size ≤ (w8).heap.size := hBn.size
  clear hB hsz hb
  have hB := hBn
  have hsz := hsn
  clear hBn hsn
  go_wp2_with fail
  refine (none_yes 2 2 1 exS 196608 0 0 196608 655360 1310720 _ _ _ exS_size (by kernel_rfl)).mono ?_
  rintro e w9 ⟨rfl, hb⟩
  have hn : (w9).heap[w1.heap.size]? = _ := (hb.block (w1.heap.size) (by first | exact hlp | (simp; omega))).trans (by first | exact hpp | exact (Below.heap_alloc _ _ _ hlp).trans hpp)
  have hm : w1.heap.size < (w9).heap.size := by (have hq := hb.size; (try simp at hq); omega)
  clear hpp hlp
  have hpp := hn
  have hlp := hm
  clear hn hm
  clear p0 p1 p2 p3 p4 p5 p6 p7 p8 p9
  obtain ⟨p0, p1, p2, p3, p4, p5, p6, p7, p8, p9⟩ := pic10 hpp
  have hBn : Below w.heap.size w w9 := below_then (by first | exact hB | exact (by repeat (first | with_reducible exact Below.refl _ _ | with_reducible assumption | ((with_reducible refine Below.alloc ?_ ?hb_ _); (case hb_ => first | omega | (simp; done) | (simp; omega))) | ((with_reducible refine Below.setCell ?_ ?hb_ _); (case hb_ => first | omega | (simp; done) | (simp; omega))) | with_reducible refine Below.drew ?_ | with_reducible refine below_drewN ?_ _))) (by first | omega | (simp; omega)) hb
  have hsn : w.heap.size ≤ (w9).heap.size := hBn.size
  clear hB hsz hb
  have hB := hBn
  have hsz := hsn
  clear hBn hsn
  go_wp2_with fail
  refine (sat_at 2 2 1 exS 196608 0 0 196608 655360 1310720 13 23 (.tuple #[.agg #[.int .i64 0, .int .i64 0, .int .i64 0, .int .i64 0], .bool true, .int .i64 0]) _ exS_size (by kernel_rfl)).mono ?_
  rintro e w10 ⟨rfl, hb⟩
  have hn : (w10).heap[w1.heap.size]? = _ := (hb.block (w1.heap.size) (by first | exact hlp | (simp; omega))).trans (by first | exact hpp | exact (Below.heap_alloc _ _ _ hlp).trans hpp)
  have hm : w1.heap.size < (w10).heap.size := by (have hq := hb.size; (try simp at hq); omega)
  clear hpp hlp
  have hpp := hn
  have hlp := hm
  clear hn hm
  clear p0 p1 p2 p3 p4 p5 p6 p7 p8 p9
  obtain ⟨p0, p1, p2, p3, p4, p5, p6, p7, p8, p9⟩ := pic10 hpp
  have hBn : Below w.heap.size w w10 := below_then (by first | exact hB | exact (by repeat (first | with_reducible exact Below.refl _ _ | with_reducible assumption | ((with_reducible refine Below.alloc ?_ ?hb_ _); (case hb_ => first | omega | (simp; done) | (simp; omega))) | ((with_reducible refine Below.setCell ?_ ?hb_ _); (case hb_ => first | omega | (simp; done) | (simp; omega))) | with_reducible refine Below.drew ?_ | with_reducible refine below_drewN ?_ _))) (by first | omega | (simp; omega)) hb
  have hsn : w.heap.size ≤ (w10).heap.size := hBn.size
  clear hB hsz hb
  have hB := hBn
  have hsz := hsn
  clear hBn hsn
  go_wp2_with fail
  have hpa := heap_alloc_new w10 (.cells #[.int .i64 0, .int .i64 0, .int .i64 0, .int .i64 0] 41)
  have hla : w10.heap.size < (w10.alloc (.cells #[.int .i64 0, .int .i64 0, .int .i64 0, .int .i64 0] 41)).heap.size := by simp
  obtain ⟨a0, a1, a2, a3⟩ := ink4 hpa
  refine (sat_at 2 2 1 exS 196608 0 0 196608 655360 1310720 10 23 (.tuple #[.agg #[.int .i64 0, .int .i64 0, .int .i64 0, .int .i64 85], .bool true, .int .i64 0]) _ exS_size (by kernel_rfl)).mono ?_
  rintro e w11 ⟨rfl, hb⟩
  have hn : (w11).heap[w1.heap.size]? = _ := (hb.block (w1.heap.size) (by first | exact hlp | (simp; omega))).trans (by first | exact hpp | exact (Below.heap_alloc _ _ _ hlp).trans hpp)
  have hm : w1.heap.size < (w11).heap.size := by (have hq := hb.size; (try simp at hq); omega)
  clear hpp hlp
  have hpp := hn
  have hlp := hm
  clear hn hm
  clear p0 p1 p2 p3 p4 p5 p6 p7 p8 p9
  obtain ⟨p0, p1, p2, p3, p4, p5, p6, p7, p8, p9⟩ := pic10 hpp
  have hn : (w11).heap[w10.heap.size]? = _ := (hb.block (w10.heap.size) (by first | exact hla | (simp; omega))).trans (by first | exact hpa | exact (Below.heap_alloc _ _ _ hla).trans hpa)
  have hm : w10.heap.size < (w11).heap.size := by (have hq := hb.size; (try simp at hq); omega)
  clear hpa hla
  have hpa := hn
  have hla := hm
  clear hn hm
  clear a0 a1 a2 a3
  obtain ⟨a0, a1, a2, a3⟩ := ink4 hpa
  have hBn : Below w.heap.size w w11 := below_then (by first | exact hB | exact (by repeat (first | with_reducible exact Below.refl _ _ | with_reducible assumption | ((with_reducible refine Below.alloc ?_ ?hb_ _); (case hb_ => first | omega | (simp; done) | (simp; omega))) | ((with_reducible refine Below.setCell ?_ ?hb_ _); (case hb_ => first | omega | (simp; done) | (simp; omega))) | with_reducible refine Below.drew ?_ | with_reducible refine below_drewN ?_ _))) (by first | omega | (simp; omega)) hb
  have hsn : w.heap.size ≤ (w11).heap.size := hBn.size
  clear hB hsz hb
  have hB := hBn
  have hsz := hsn
  clear hBn hsn
  go_wp2_with fail
  have hpd := heap_alloc_new w11 (.cells #[.int .i64 0, .int .i64 0, .int .i64 0, .int .i64 85] 41)
  have hld : w11.heap.size < (w11.alloc (.cells #[.int .i64 0, .int .i64 0, .int .i64 0, .int .i64 85] 41)).heap.size := by simp
  obtain ⟨d0, d1, d2, d3⟩ := ink4 hpd
  have hx1 : w1.heap.size < w11.heap.size + 1 := by omega
  have hx2 : w1.heap.size < w11.heap.size + 1 + 1 := by omega
  have hx3 : w1.heap.size < w11.heap.size + 1 + 1 + 1 := by omega
  have hx4 : w1.heap.size < w11.heap.size + 1 + 1 + 1 + 1 := by omega
  go_cut [9, 10, 11] from 59 to 61 (fun v9 v10 v11 wx => ∃ i j k : Nat, v9 = .pointer (some ⟨w11.heap.size + i, 0, none⟩) ∧ v10 = .pointer (some ⟨w11.heap.size + j, 0, none⟩) ∧ v11 = .pointer (some ⟨w11.heap.size + k, 0, none⟩) ∧ ((i = 1 ∧ j = 2 ∧ k = 3) ∨ (i = 1 ∧ j = 3 ∧ k = 2) ∨ (i = 2 ∧ j = 1 ∧ k = 3) ∨ (i = 2 ∧ j = 3 ∧ k = 1) ∨ (i = 3 ∧ j = 1 ∧ k = 2) ∨ (i = 3 ∧ j = 2 ∧ k = 1)) ∧ wx = ((((w11.alloc (.cells #[.int .i64 0, .int .i64 0, .int .i64 0, .int .i64 85] 41)).alloc (.cells #[.int .i64 2, .int .i64 2, .int .i64 1, .string exS, .int .i64 196608, .int .i64 0, .int .i64 0, .int .i64 196608, .int .i64 655360, .int .i64 1310720] 30)).alloc (.cells #[.int .i64 2, .int .i64 2, .int .i64 1, .string exS, .int .i64 196608, .int .i64 0, .int .i64 0, .int .i64 196608, .int .i64 655360, .int .i64 1310720] 30)).alloc (.cells #[.int .i64 2, .int .i64 2, .int .i64 1, .string exS, .int .i64 196608, .int .i64 0, .int .i64 0, .int .i64 196608, .int .i64 655360, .int .i64 1310720] 30)).drew)
  case first =>
    go_region
    all_goals ((try go_wp2_with fail); go_meet; case rel => first | exact ⟨1, 2, 3, rfl, rfl, rfl, by simp, rfl⟩ | exact ⟨1, 3, 2, rfl, rfl, rfl, by simp, rfl⟩ | exact ⟨2, 1, 3, rfl, rfl, rfl, by simp, rfl⟩ | exact ⟨2, 3, 1, rfl, rfl, rfl, by simp, rfl⟩ | exact ⟨3, 1, 2, rfl, rfl, rfl, by simp, rfl⟩ | exact ⟨3, 2, 1, rfl, rfl, rfl, by simp, rfl⟩)
  case rest =>
    obtain ⟨i, j, k, rfl, rfl, rfl, hperm, hw⟩ := hcut
    have hBc : Below w.heap.size w wc := by
      rw [hw]
      exact (by repeat (first | with_reducible exact Below.refl _ _ | with_reducible assumption | ((with_reducible refine Below.alloc ?_ ?hb_ _); (case hb_ => first | omega | (simp; done) | (simp; omega))) | ((with_reducible refine Below.setCell ?_ ?hb_ _); (case hb_ => first | omega | (simp; done) | (simp; omega))) | with_reducible refine Below.drew ?_ | with_reducible refine below_drewN ?_ _))
    have hzc : wc.heap.size = w11.heap.size + 4 := by rw [hw]; simp
    have hq3 : wc.heap[w11.heap.size + 3]? = some (.cells #[.int .i64 2, .int .i64 2, .int .i64 1, .string exS, .int .i64 196608, .int .i64 0, .int .i64 0, .int .i64 196608, .int .i64 655360, .int .i64 1310720] 30 (0, 0)) := by rw [hw]; exact heap_alloc_at _ _ _ (by simp)
    have hq2 : wc.heap[w11.heap.size + 2]? = some (.cells #[.int .i64 2, .int .i64 2, .int .i64 1, .string exS, .int .i64 196608, .int .i64 0, .int .i64 0, .int .i64 196608, .int .i64 655360, .int .i64 1310720] 30 (0, 0)) := by rw [hw]; exact (Below.heap_alloc _ _ _ (by simp)).trans (heap_alloc_at _ _ _ (by simp))
    have hq1 : wc.heap[w11.heap.size + 1]? = some (.cells #[.int .i64 2, .int .i64 2, .int .i64 1, .string exS, .int .i64 196608, .int .i64 0, .int .i64 0, .int .i64 196608, .int .i64 655360, .int .i64 1310720] 30 (0, 0)) := by rw [hw]; exact (Below.heap_alloc _ _ _ (by simp)).trans ((Below.heap_alloc _ _ _ (by simp)).trans (heap_alloc_at _ _ _ (by simp)))
    have hqd : wc.heap[w11.heap.size]? = some (.cells #[.int .i64 0, .int .i64 0, .int .i64 0, .int .i64 85] 41 (0, 0)) := by rw [hw]; exact (Below.heap_alloc _ _ _ (by simp; omega)).trans ((Below.heap_alloc _ _ _ (by simp; omega)).trans ((Below.heap_alloc _ _ _ (by simp)).trans hpd))
    have hqa : wc.heap[w10.heap.size]? = some (.cells #[.int .i64 0, .int .i64 0, .int .i64 0, .int .i64 0] 41 (0, 0)) := by rw [hw]; exact (Below.heap_alloc _ _ _ (by simp; omega)).trans ((Below.heap_alloc _ _ _ (by simp; omega)).trans ((Below.heap_alloc _ _ _ (by simp; omega)).trans ((Below.heap_alloc _ _ _ (by omega)).trans hpa)))
    have hpl : wc.heap[w11.heap.size + i]? = some (.cells #[.int .i64 2, .int .i64 2, .int .i64 1, .string exS, .int .i64 196608, .int .i64 0, .int .i64 0, .int .i64 196608, .int .i64 655360, .int .i64 1310720] 30 (0, 0)) := by rcases hperm with ⟨rfl, rfl, rfl⟩ | ⟨rfl, rfl, rfl⟩ | ⟨rfl, rfl, rfl⟩ | ⟨rfl, rfl, rfl⟩ | ⟨rfl, rfl, rfl⟩ | ⟨rfl, rfl, rfl⟩ <;> assumption
    have hpm : wc.heap[w11.heap.size + j]? = some (.cells #[.int .i64 2, .int .i64 2, .int .i64 1, .string exS, .int .i64 196608, .int .i64 0, .int .i64 0, .int .i64 196608, .int .i64 655360, .int .i64 1310720] 30 (0, 0)) := by rcases hperm with ⟨rfl, rfl, rfl⟩ | ⟨rfl, rfl, rfl⟩ | ⟨rfl, rfl, rfl⟩ | ⟨rfl, rfl, rfl⟩ | ⟨rfl, rfl, rfl⟩ | ⟨rfl, rfl, rfl⟩ <;> assumption
    have hpn : wc.heap[w11.heap.size + k]? = some (.cells #[.int .i64 2, .int .i64 2, .int .i64 1, .string exS, .int .i64 196608, .int .i64 0, .int .i64 0, .int .i64 196608, .int .i64 655360, .int .i64 1310720] 30 (0, 0)) := by rcases hperm with ⟨rfl, rfl, rfl⟩ | ⟨rfl, rfl, rfl⟩ | ⟨rfl, rfl, rfl⟩ | ⟨rfl, rfl, rfl⟩ | ⟨rfl, rfl, rfl⟩ | ⟨rfl, rfl, rfl⟩ <;> assumption
    have hne : i ≠ j ∧ i ≠ k ∧ j ≠ k ∧ 1 ≤ i ∧ i ≤ 3 ∧ 1 ≤ j ∧ j ≤ 3 ∧ 1 ≤ k ∧ k ≤ 3 := by omega
    clear hw hperm hq1 hq2 hq3 hpp hpa hpd hB p0 p1 p2 p3 p4 p5 p6 p7 p8 p9 a0 a1 a2 a3 d0 d1 d2 d3
    obtain ⟨b9, h9⟩ : ∃ b, b = w11.heap.size + i := ⟨_, rfl⟩
    obtain ⟨b10, h10⟩ : ∃ b, b = w11.heap.size + j := ⟨_, rfl⟩
    obtain ⟨b11, h11⟩ : ∃ b, b = w11.heap.size + k := ⟨_, rfl⟩
    rw [← h9] at hpl ⊢
    rw [← h10] at hpm ⊢
    rw [← h11] at hpn ⊢
    have hB := hBc
    have hsc : w.heap.size ≤ wc.heap.size := hBc.size
    have hll : b9 < wc.heap.size := by omega
    have hlm : b10 < wc.heap.size := by omega
    have hln : b11 < wc.heap.size := by omega
    have n1 : b9 ≠ b10 := by omega
    have n2 : b9 ≠ b11 := by omega
    have n3 : b10 ≠ b11 := by omega
    have n4 : b10 ≠ b9 := by omega
    have n5 : b11 ≠ b9 := by omega
    have n6 : b11 ≠ b10 := by omega
    have na1 : w10.heap.size ≠ b9 := by omega
    have na2 : w10.heap.size ≠ b10 := by omega
    have na3 : w10.heap.size ≠ b11 := by omega
    have nd1 : w11.heap.size ≠ b9 := by omega
    have nd2 : w11.heap.size ≠ b10 := by omega
    have nd3 : w11.heap.size ≠ b11 := by omega
    have w9 : w.heap.size ≤ b9 := by omega
    have w10' : w.heap.size ≤ b10 := by omega
    have w11' : w.heap.size ≤ b11 := by omega
    have haa : w10.heap.size < wc.heap.size := by omega
    have hdd : w11.heap.size < wc.heap.size := by omega
    clear h9 h10 h11 hne hBc
    obtain ⟨l0, l1, l2, l3, l4, l5, l6, l7, l8, l9⟩ := pic10 hpl
    obtain ⟨m0, m1, m2, m3, m4, m5, m6, m7, m8, m9⟩ := pic10 hpm
    obtain ⟨k0, k1, k2, k3, k4, k5, k6, k7, k8, k9⟩ := pic10 hpn
    obtain ⟨fl4, _, _, _, fl8, _⟩ := picf hpl
    obtain ⟨fm4, fm5, fm6, fm7, fm8, fm9⟩ := picf hpm
    obtain ⟨fn4, fn5, fn6, fn7, fn8, fn9⟩ := picf hpn
    go_wp2_with fail
    refine (splace_at 2 2 1 exS 0 0 0 0 0 0 1024 0 (.tuple #[.int .i64 0, .int .i64 0, .bool false, .int .i64 2]) _ exS_size (by kernel_rfl)).mono ?_
    rintro e w12 ⟨rfl, hb⟩
    have hr : w12.heap[b9]? = some (.cells #[.int .i64 2, .int .i64 2, .int .i64 1, .string exS, .int .i64 (-196608), .int .i64 0, .int .i64 0, .int .i64 196608, .int .i64 1048576, .int .i64 1310720] 30 (0, 0)) := (hb.block _ (by simp; omega)).trans ((heap_setCell_other _ _ _ _ (by simp; omega)).trans ((heap_setCell_other _ _ _ _ (by simp; omega)).trans ((heap_setCell_other _ _ _ _ (by simp; omega)).trans ((heap_setCell_other _ _ _ _ (by simp; omega)).trans ((heap_setCell_other _ _ _ _ (by simp; omega)).trans ((heap_setCell_other _ _ _ _ (by simp; omega)).trans ((heap_setCell_other _ _ _ _ (by simp; omega)).trans ((heap_setCell_other _ _ _ _ (by simp; omega)).trans ((heap_setCell_other _ _ _ _ (by simp; omega)).trans ((heap_setCell_other _ _ _ _ (by simp; omega)).trans ((heap_setCell_other _ _ _ _ (by simp; omega)).trans ((heap_setCell_other _ _ _ _ (by simp; omega)).trans (heap_setCell_same _ _ _ _ _ _ (heap_setCell_same _ _ _ _ _ _ (hpl)))))))))))))))
    have hs : w12.heap[b10]? = some (.cells #[.int .i64 2, .int .i64 2, .int .i64 1, .string exS, .int .i64 0, .int .i64 65536, .int .i64 65536, .int .i64 0, .int .i64 0, .int .i64 0] 30 (0, 0)) := (hb.block _ (by simp; omega)).trans ((heap_setCell_other _ _ _ _ (by simp; omega)).trans ((heap_setCell_other _ _ _ _ (by simp; omega)).trans ((heap_setCell_other _ _ _ _ (by simp; omega)).trans ((heap_setCell_other _ _ _ _ (by simp; omega)).trans ((heap_setCell_other _ _ _ _ (by simp; omega)).trans ((heap_setCell_other _ _ _ _ (by simp; omega)).trans (heap_setCell_same _ _ _ _ _ _ (heap_setCell_same _ _ _ _ _ _ (heap_setCell_same _ _ _ _ _ _ (heap_setCell_same _ _ _ _ _ _ (heap_setCell_same _ _ _ _ _ _ (heap_setCell_same _ _ _ _ _ _ ((heap_setCell_other _ _ _ _ (by simp; omega)).trans ((heap_setCell_other _ _ _ _ (by simp; omega)).trans (hpm)))))))))))))))
    have ht : w12.heap[b11]? = some (.cells #[.int .i64 2, .int .i64 2, .int .i64 1, .string exS, .int .i64 0, .int .i64 0, .int .i64 0, .int .i64 0, .int .i64 0, .int .i64 0] 30 (0, 0)) := (hb.block _ (by simp; omega)).trans (heap_setCell_same _ _ _ _ _ _ (heap_setCell_same _ _ _ _ _ _ (heap_setCell_same _ _ _ _ _ _ (heap_setCell_same _ _ _ _ _ _ (heap_setCell_same _ _ _ _ _ _ (heap_setCell_same _ _ _ _ _ _ ((heap_setCell_other _ _ _ _ (by simp; omega)).trans ((heap_setCell_other _ _ _ _ (by simp; omega)).trans ((heap_setCell_other _ _ _ _ (by simp; omega)).trans ((heap_setCell_other _ _ _ _ (by simp; omega)).trans ((heap_setCell_other _ _ _ _ (by simp; omega)).trans ((heap_setCell_other _ _ _ _ (by simp; omega)).trans ((heap_setCell_other _ _ _ _ (by simp; omega)).trans ((heap_setCell_other _ _ _ _ (by simp; omega)).trans (hpn)))))))))))))))
    have ha : w12.heap[w10.heap.size]? = some (.cells #[.int .i64 0, .int .i64 0, .int .i64 0, .int .i64 0] 41 (0, 0)) := (hb.block _ (by simp; omega)).trans ((heap_setCell_other _ _ _ _ (by simp; omega)).trans ((heap_setCell_other _ _ _ _ (by simp; omega)).trans ((heap_setCell_other _ _ _ _ (by simp; omega)).trans ((heap_setCell_other _ _ _ _ (by simp; omega)).trans ((heap_setCell_other _ _ _ _ (by simp; omega)).trans ((heap_setCell_other _ _ _ _ (by simp; omega)).trans ((heap_setCell_other _ _ _ _ (by simp; omega)).trans ((heap_setCell_other _ _ _ _ (by simp; omega)).trans ((heap_setCell_other _ _ _ _ (by simp; omega)).trans ((heap_setCell_other _ _ _ _ (by simp; omega)).trans ((heap_setCell_other _ _ _ _ (by simp; omega)).trans ((heap_setCell_other _ _ _ _ (by simp; omega)).trans ((heap_setCell_other _ _ _ _ (by simp; omega)).trans ((heap_setCell_other _ _ _ _ (by simp; omega)).trans (hqa)))))))))))))))
    have hd : w12.heap[w11.heap.size]? = some (.cells #[.int .i64 0, .int .i64 0, .int .i64 0, .int .i64 85] 41 (0, 0)) := (hb.block _ (by simp; omega)).trans ((heap_setCell_other _ _ _ _ (by simp; omega)).trans ((heap_setCell_other _ _ _ _ (by simp; omega)).trans ((heap_setCell_other _ _ _ _ (by simp; omega)).trans ((heap_setCell_other _ _ _ _ (by simp; omega)).trans ((heap_setCell_other _ _ _ _ (by simp; omega)).trans ((heap_setCell_other _ _ _ _ (by simp; omega)).trans ((heap_setCell_other _ _ _ _ (by simp; omega)).trans ((heap_setCell_other _ _ _ _ (by simp; omega)).trans ((heap_setCell_other _ _ _ _ (by simp; omega)).trans ((heap_setCell_other _ _ _ _ (by simp; omega)).trans ((heap_setCell_other _ _ _ _ (by simp; omega)).trans ((heap_setCell_other _ _ _ _ (by simp; omega)).trans ((heap_setCell_other _ _ _ _ (by simp; omega)).trans ((heap_setCell_other _ _ _ _ (by simp; omega)).trans (hqd)))))))))))))))
    have hBn : Below w.heap.size w w12 := below_then (by exact (by repeat (first | with_reducible exact Below.refl _ _ | with_reducible assumption | ((with_reducible refine Below.alloc ?_ ?hb_ _); (case hb_ => first | omega | (simp; done) | (simp; omega))) | ((with_reducible refine Below.setCell ?_ ?hb_ _); (case hb_ => first | omega | (simp; done) | (simp; omega))) | with_reducible refine Below.drew ?_ | with_reducible refine below_drewN ?_ _))) (by simp; omega) hb
    have hlr : b9 < w12.heap.size := by have hq := hb.size; simp at hq; omega
    have hls : b10 < w12.heap.size := by have hq := hb.size; simp at hq; omega
    have hlt : b11 < w12.heap.size := by have hq := hb.size; simp at hq; omega
    have hsz12 : w.heap.size ≤ w12.heap.size := hBn.size
    clear hpl hpm hpn hqa hqd hB hsz hb l0 l1 l2 l3 l4 l5 l6 l7 l8 l9 m0 m1 m2 m3 m4 m5 m6 m7 m8 m9 k0 k1 k2 k3 k4 k5 k6 k7 k8 k9 fl4 fl8 fm4 fm5 fm6 fm7 fm8 fm9 fn4 fn5 fn6 fn7 fn8 fn9
    have hB := hBn
    have hsz := hsz12
    have hpr := hr
    have hps := hs
    have hpt := ht
    clear hBn hsz12 hr hs ht
    obtain ⟨a0, a1, a2, a3⟩ := ink4 ha
    obtain ⟨d0, d1, d2, d3⟩ := ink4 hd
    obtain ⟨r0, r1, r2, r3, r4, r5, r6, r7, r8, r9⟩ := pic10 hpr
    obtain ⟨s0, s1, s2, s3, s4, s5, s6, s7, s8, s9⟩ := pic10 hps
    obtain ⟨t0, t1, t2, t3, t4, t5, t6, t7, t8, t9⟩ := pic10 hpt
    go_wp2_with fail
    rw [eql4]
    go_simp
    go_wp2_with fail
    rw [eql4]
    go_simp
    go_wp2_with fail
    refine (lies_yes 2 2 1 exS (-196608) 0 0 196608 1048576 1310720 _ _ _ _ _ exS_size (by kernel_rfl)).mono ?_
    rintro e w13 ⟨rfl, hb⟩
    have hn : (w13).heap[b9]? = _ := (hb.block (b9) (by first | exact hlr | (simp; omega))).trans (by first | exact hpr | exact (Below.heap_alloc _ _ _ hlr).trans hpr)
    have hm : b9 < (w13).heap.size := by (have hq := hb.size; (try simp at hq); omega)
    clear hpr hlr
    have hpr := hn
    have hlr := hm
    clear hn hm
    clear r0 r1 r2 r3 r4 r5 r6 r7 r8 r9
    obtain ⟨r0, r1, r2, r3, r4, r5, r6, r7, r8, r9⟩ := pic10 hpr
    have hn : (w13).heap[b10]? = _ := (hb.block (b10) (by first | exact hls | (simp; omega))).trans (by first | exact hps | exact (Below.heap_alloc _ _ _ hls).trans hps)
    have hm : b10 < (w13).heap.size := by (have hq := hb.size; (try simp at hq); omega)
    clear hps hls
    have hps := hn
    have hls := hm
    clear hn hm
    clear s0 s1 s2 s3 s4 s5 s6 s7 s8 s9
    obtain ⟨s0, s1, s2, s3, s4, s5, s6, s7, s8, s9⟩ := pic10 hps
    have hn : (w13).heap[b11]? = _ := (hb.block (b11) (by first | exact hlt | (simp; omega))).trans (by first | exact hpt | exact (Below.heap_alloc _ _ _ hlt).trans hpt)
    have hm : b11 < (w13).heap.size := by (have hq := hb.size; (try simp at hq); omega)
    clear hpt hlt
    have hpt := hn
    have hlt := hm
    clear hn hm
    clear t0 t1 t2 t3 t4 t5 t6 t7 t8 t9
    obtain ⟨t0, t1, t2, t3, t4, t5, t6, t7, t8, t9⟩ := pic10 hpt
    have hBn : Below w.heap.size w w13 := below_then (by first | exact hB | exact (by repeat (first | with_reducible exact Below.refl _ _ | with_reducible assumption | ((with_reducible refine Below.alloc ?_ ?hb_ _); (case hb_ => first | omega | (simp; done) | (simp; omega))) | ((with_reducible refine Below.setCell ?_ ?hb_ _); (case hb_ => first | omega | (simp; done) | (simp; omega))) | with_reducible refine Below.drew ?_ | with_reducible refine below_drewN ?_ _))) (by first | omega | (simp; omega)) hb
    have hsn : w.heap.size ≤ (w13).heap.size := hBn.size
    clear hB hsz hb
    have hB := hBn
    have hsz := hsn
    clear hBn hsn
    go_wp2_with fail
    refine (lies_yes 2 2 1 exS (-196608) 0 0 196608 1048576 1310720 _ _ _ _ _ exS_size (by kernel_rfl)).mono ?_
    rintro e w14 ⟨rfl, hb⟩
    have hn : (w14).heap[b9]? = _ := (hb.block (b9) (by first | exact hlr | (simp; omega))).trans (by first | exact hpr | exact (Below.heap_alloc _ _ _ hlr).trans hpr)
    have hm : b9 < (w14).heap.size := by (have hq := hb.size; (try simp at hq); omega)
    clear hpr hlr
    have hpr := hn
    have hlr := hm
    clear hn hm
    clear r0 r1 r2 r3 r4 r5 r6 r7 r8 r9
    obtain ⟨r0, r1, r2, r3, r4, r5, r6, r7, r8, r9⟩ := pic10 hpr
    have hn : (w14).heap[b10]? = _ := (hb.block (b10) (by first | exact hls | (simp; omega))).trans (by first | exact hps | exact (Below.heap_alloc _ _ _ hls).trans hps)
    have hm : b10 < (w14).heap.size := by (have hq := hb.size; (try simp at hq); omega)
    clear hps hls
    have hps := hn
    have hls := hm
    clear hn hm
    clear s0 s1 s2 s3 s4 s5 s6 s7 s8 s9
    obtain ⟨s0, s1, s2, s3, s4, s5, s6, s7, s8, s9⟩ := pic10 hps
    have hn : (w14).heap[b11]? = _ := (hb.block (b11) (by first | exact hlt | (simp; omega))).trans (by first | exact hpt | exact (Below.heap_alloc _ _ _ hlt).trans hpt)
    have hm : b11 < (w14).heap.size := by (have hq := hb.size; (try simp at hq); omega)
    clear hpt hlt
    have hpt := hn
    have hlt := hm
    clear hn hm
    clear t0 t1 t2 t3 t4 t5 t6 t7 t8 t9
    obtain ⟨t0, t1, t2, t3, t4, t5, t6, t7, t8, t9⟩ := pic10 hpt
    have hBn : Below w.heap.size w w14 := below_then (by first | exact hB | exact (by repeat (first | with_reducible exact Below.refl _ _ | with_reducible assumption | ((with_reducible refine Below.alloc ?_ ?hb_ _); (case hb_ => first | omega | (simp; done) | (simp; omega))) | ((with_reducible refine Below.setCell ?_ ?hb_ _); (case hb_ => first | omega | (simp; done) | (simp; omega))) | with_reducible refine Below.drew ?_ | with_reducible refine below_drewN ?_ _))) (by first | omega | (simp; omega)) hb
    have hsn : w.heap.size ≤ (w14).heap.size := hBn.size
    clear hB hsz hb
    have hB := hBn
    have hsz := hsn
    clear hBn hsn
    go_wp2_with fail
    refine (lies_yes 2 2 1 exS 0 65536 65536 0 0 0 _ _ _ _ _ exS_size (by kernel_rfl)).mono ?_
    rintro e w15 ⟨rfl, hb⟩
    have hn : (w15).heap[b9]? = _ := (hb.block (b9) (by first | exact hlr | (simp; omega))).trans (by first | exact hpr | exact (Below.heap_alloc _ _ _ hlr).trans hpr)
    have hm : b9 < (w15).heap.size := by (have hq := hb.size; (try simp at hq); omega)
    clear hpr hlr
    have hpr := hn
    have hlr := hm
    clear hn hm
    clear r0 r1 r2 r3 r4 r5 r6 r7 r8 r9
    obtain ⟨r0, r1, r2, r3, r4, r5, r6, r7, r8, r9⟩ := pic10 hpr
    have hn : (w15).heap[b10]? = _ := (hb.block (b10) (by first | exact hls | (simp; omega))).trans (by first | exact hps | exact (Below.heap_alloc _ _ _ hls).trans hps)
    have hm : b10 < (w15).heap.size := by (have hq := hb.size; (try simp at hq); omega)
    clear hps hls
    have hps := hn
    have hls := hm
    clear hn hm
    clear s0 s1 s2 s3 s4 s5 s6 s7 s8 s9
    obtain ⟨s0, s1, s2, s3, s4, s5, s6, s7, s8, s9⟩ := pic10 hps
    have hn : (w15).heap[b11]? = _ := (hb.block (b11) (by first | exact hlt | (simp; omega))).trans (by first | exact hpt | exact (Below.heap_alloc _ _ _ hlt).trans hpt)
    have hm : b11 < (w15).heap.size := by (have hq := hb.size; (try simp at hq); omega)
    clear hpt hlt
    have hpt := hn
    have hlt := hm
    clear hn hm
    clear t0 t1 t2 t3 t4 t5 t6 t7 t8 t9
    obtain ⟨t0, t1, t2, t3, t4, t5, t6, t7, t8, t9⟩ := pic10 hpt
    have hBn : Below w.heap.size w w15 := below_then (by first | exact hB | exact (by repeat (first | with_reducible exact Below.refl _ _ | with_reducible assumption | ((with_reducible refine Below.alloc ?_ ?hb_ _); (case hb_ => first | omega | (simp; done) | (simp; omega))) | ((with_reducible refine Below.setCell ?_ ?hb_ _); (case hb_ => first | omega | (simp; done) | (simp; omega))) | with_reducible refine Below.drew ?_ | with_reducible refine below_drewN ?_ _))) (by first | omega | (simp; omega)) hb
    have hsn : w.heap.size ≤ (w15).heap.size := hBn.size
    clear hB hsz hb
    have hB := hBn
    have hsz := hsn
    clear hBn hsn
    go_wp2_with fail
    refine (lies_yes 2 2 1 exS 0 65536 65536 0 0 0 _ _ _ _ _ exS_size (by kernel_rfl)).mono ?_
    rintro e w16 ⟨rfl, hb⟩
    have hn : (w16).heap[b9]? = _ := (hb.block (b9) (by first | exact hlr | (simp; omega))).trans (by first | exact hpr | exact (Below.heap_alloc _ _ _ hlr).trans hpr)
    have hm : b9 < (w16).heap.size := by (have hq := hb.size; (try simp at hq); omega)
    clear hpr hlr
    have hpr := hn
    have hlr := hm
    clear hn hm
    clear r0 r1 r2 r3 r4 r5 r6 r7 r8 r9
    obtain ⟨r0, r1, r2, r3, r4, r5, r6, r7, r8, r9⟩ := pic10 hpr
    have hn : (w16).heap[b10]? = _ := (hb.block (b10) (by first | exact hls | (simp; omega))).trans (by first | exact hps | exact (Below.heap_alloc _ _ _ hls).trans hps)
    have hm : b10 < (w16).heap.size := by (have hq := hb.size; (try simp at hq); omega)
    clear hps hls
    have hps := hn
    have hls := hm
    clear hn hm
    clear s0 s1 s2 s3 s4 s5 s6 s7 s8 s9
    obtain ⟨s0, s1, s2, s3, s4, s5, s6, s7, s8, s9⟩ := pic10 hps
    have hn : (w16).heap[b11]? = _ := (hb.block (b11) (by first | exact hlt | (simp; omega))).trans (by first | exact hpt | exact (Below.heap_alloc _ _ _ hlt).trans hpt)
    have hm : b11 < (w16).heap.size := by (have hq := hb.size; (try simp at hq); omega)
    clear hpt hlt
    have hpt := hn
    have hlt := hm
    clear hn hm
    clear t0 t1 t2 t3 t4 t5 t6 t7 t8 t9
    obtain ⟨t0, t1, t2, t3, t4, t5, t6, t7, t8, t9⟩ := pic10 hpt
    have hBn : Below w.heap.size w w16 := below_then (by first | exact hB | exact (by repeat (first | with_reducible exact Below.refl _ _ | with_reducible assumption | ((with_reducible refine Below.alloc ?_ ?hb_ _); (case hb_ => first | omega | (simp; done) | (simp; omega))) | ((with_reducible refine Below.setCell ?_ ?hb_ _); (case hb_ => first | omega | (simp; done) | (simp; omega))) | with_reducible refine Below.drew ?_ | with_reducible refine below_drewN ?_ _))) (by first | omega | (simp; omega)) hb
    have hsn : w.heap.size ≤ (w16).heap.size := hBn.size
    clear hB hsz hb
    have hB := hBn
    have hsz := hsn
    clear hBn hsn
    go_wp2_with fail
    refine (none_yes 2 2 1 exS 0 0 0 0 0 0 _ _ _ exS_size (by kernel_rfl)).mono ?_
    rintro e w17 ⟨rfl, hb⟩
    have hn : (w17).heap[b9]? = _ := (hb.block (b9) (by first | exact hlr | (simp; omega))).trans (by first | exact hpr | exact (Below.heap_alloc _ _ _ hlr).trans hpr)
    have hm : b9 < (w17).heap.size := by (have hq := hb.size; (try simp at hq); omega)
    clear hpr hlr
    have hpr := hn
    have hlr := hm
    clear hn hm
    clear r0 r1 r2 r3 r4 r5 r6 r7 r8 r9
    obtain ⟨r0, r1, r2, r3, r4, r5, r6, r7, r8, r9⟩ := pic10 hpr
    have hn : (w17).heap[b10]? = _ := (hb.block (b10) (by first | exact hls | (simp; omega))).trans (by first | exact hps | exact (Below.heap_alloc _ _ _ hls).trans hps)
    have hm : b10 < (w17).heap.size := by (have hq := hb.size; (try simp at hq); omega)
    clear hps hls
    have hps := hn
    have hls := hm
    clear hn hm
    clear s0 s1 s2 s3 s4 s5 s6 s7 s8 s9
    obtain ⟨s0, s1, s2, s3, s4, s5, s6, s7, s8, s9⟩ := pic10 hps
    have hn : (w17).heap[b11]? = _ := (hb.block (b11) (by first | exact hlt | (simp; omega))).trans (by first | exact hpt | exact (Below.heap_alloc _ _ _ hlt).trans hpt)
    have hm : b11 < (w17).heap.size := by (have hq := hb.size; (try simp at hq); omega)
    clear hpt hlt
    have hpt := hn
    have hlt := hm
    clear hn hm
    clear t0 t1 t2 t3 t4 t5 t6 t7 t8 t9
    obtain ⟨t0, t1, t2, t3, t4, t5, t6, t7, t8, t9⟩ := pic10 hpt
    have hBn : Below w.heap.size w w17 := below_then (by first | exact hB | exact (by repeat (first | with_reducible exact Below.refl _ _ | with_reducible assumption | ((with_reducible refine Below.alloc ?_ ?hb_ _); (case hb_ => first | omega | (simp; done) | (simp; omega))) | ((with_reducible refine Below.setCell ?_ ?hb_ _); (case hb_ => first | omega | (simp; done) | (simp; omega))) | with_reducible refine Below.drew ?_ | with_reducible refine below_drewN ?_ _))) (by first | omega | (simp; omega)) hb
    have hsn : w.heap.size ≤ (w17).heap.size := hBn.size
    clear hB hsz hb
    have hB := hBn
    have hsz := hsn
    clear hBn hsn
    go_wp2_with fail
    go_ret
    exact ⟨rfl, hB⟩
end Go.Proofs.Ytkkeahnmmpcceaa
