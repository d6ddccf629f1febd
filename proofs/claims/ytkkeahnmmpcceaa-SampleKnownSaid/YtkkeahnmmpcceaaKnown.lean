/- SampleKnown: the walk. -/
import Derived.Test.YtkkeahnmmpcceaaKnA
import Derived.WalkKit
import Derived.Lib.Hide
import Derived.Deep.QuietTactic
import Derived.BigQuiet
import Derived.Lib.QuietBelow
import Derived.Deep.RegionHeld3
import Derived.WalkLawsBesides
import Derived.WalkSpells
import Derived.Outline
import Derived.Deep.DeepFit
import Derived.Maps.AppendAt
import Derived.Deep.AppendLies
namespace Go.Proofs.Ytkkeahnmmpcceaa
open Go.RowKit

set_option maxRecDepth 100000 in
set_option maxHeartbeats 8000000 in
theorem known_any (w : World) :
    Calls Try.prog 7 #[] w fun e w' => e = .returned (.bool true) ∧ Below w.heap.size w w' := by
  go_enter Try.func7, Try.ntmps7
  go_wp2_with fail
  refine (example_any _).mono ?_
  rintro e w1 ⟨rfl, hB⟩
  have hsz : w.heap.size ≤ w1.heap.size := hB.size
  go_wp2_with fail
  refine upon_eq (r := .ok (.value (.agg nine0)) (w1.alloc (.cells picC 30))) (by kernel_rfl) ?_
  have hz := zero90_is
  have h90 : nine0.size = 90 := by kernel_rfl
  have hst := store_new (P := Try.prog) (w1.alloc (.cells picC 30)) 54 zero90 nine0 (w1.heap.size + 1) (by simp) (by kernel_rfl) (by kernel_rfl)
  have n10 : nine0[10]? = some (.int .i64 2) := by kernel_rfl
  have n21 : nine0[21]? = some (.int .i64 2) := by kernel_rfl
  have n32 : nine0[32]? = some (.int .i64 1) := by kernel_rfl
  have n42 : nine0[42]? = some (.int .i64 1) := by kernel_rfl
  have n53 : nine0[53]? = some (.string exS) := by kernel_rfl
  have n63 : nine0[63]? = some (.string exS) := by kernel_rfl
  have n74 : nine0[74]? = some (.int .i64 196608) := by kernel_rfl
  have n89 : nine0[89]? = some (.int .i64 1310720) := by kernel_rfl
  go_wp2_with fail
  have hnb : ((((((((nine0.setIfInBounds 10 (Value.int IntKind.i64 0)).setIfInBounds 21 (Value.int IntKind.i64 65)).setIfInBounds 32 (Value.int IntKind.i64 2)).setIfInBounds 42 (Value.int IntKind.i64 5)).setIfInBounds 53 (Value.string { data := #[97, 98, 99] })).setIfInBounds 63 (Value.string { data := #[97, 98, 99, 100, 101] })).setIfInBounds 74 (Value.int IntKind.i64 16777217)).setIfInBounds 89 (Value.int IntKind.i64 (-536870913))) = bad9 := by kernel_rfl
  rw [hnb]
  clear hnb hz h90 n10 n21 n32 n42 n53 n63 n74 n89
  refine wp_load_row 54 _ rfl (w1.heap.size + 1) rfl _ bad9 _ _ (heap_alloc_at _ _ _ (by simp)) Try.underlying54 rfl (by kernel_rfl) ?_
  go_wp2_with fail
  go_loopw [59] (fun i wr => ∃ k : Nat, k ≤ 9 ∧ i = .int .i64 k ∧ Below w.heap.size w wr ∧ w.heap.size ≤ wr.heap.size ∧ w1.heap.size < wr.heap.size ∧ wr.heap[w1.heap.size]? = some (.cells #[.int .i64 2, .int .i64 2, .int .i64 1, .string exS, .int .i64 196608, .int .i64 0, .int .i64 0, .int .i64 196608, .int .i64 655360, .int .i64 1310720] 30 (0, 0))) (fun i _ => 9 - (intOf i).toNat)
  case atStart =>
    refine ⟨0, by omega, rfl, (by repeat (first | with_reducible exact Below.refl _ _ | with_reducible assumption | ((with_reducible refine Below.alloc ?_ ?hb_ _); (case hb_ => first | omega | (simp; done) | (simp; omega))) | ((with_reducible refine Below.setCell ?_ ?hb_ _); (case hb_ => first | omega | (simp; done) | (simp; omega))) | with_reducible refine Below.drew ?_ | with_reducible refine below_drewN ?_ _)), by simp; omega, by simp; omega, ?_⟩
    exact (Below.heap_alloc _ _ _ (by simp)).trans (heap_alloc_new w1 _)
  case round =>
    obtain ⟨k, hk, rfl, hB, hsz, hlp, hpp⟩ := hrel
    by_cases hlt : k < 9
    · have hk9 : k = 0 ∨ k = 1 ∨ k = 2 ∨ k = 3 ∨ k = 4 ∨ k = 5 ∨ k = 6 ∨ k = 7 ∨ k = 8 := by omega
      clear hk hlt
      have ix0 := bad9_0
      have ix1 := bad9_1
      have ix2 := bad9_2
      have ix3 := bad9_3
      have ix4 := bad9_4
      have ix5 := bad9_5
      have ix6 := bad9_6
      have ix7 := bad9_7
      have ix8 := bad9_8
      rcases hk9 with rfl | rfl | rfl | rfl | rfl | rfl | rfl | rfl | rfl <;> (
        go_wp2_with fail
        refine Calls.mono (splace_at _ _ _ _ _ _ _ _ _ _ _ _ (.tuple #[.int .i64 0, .int .i64 0, .bool false, .int .i64 380]) _ ?hS ?hV) ?_
        case hS => first | exact exS_size | decide
        case hV => kernel_rfl
        rintro e w2 ⟨rfl, hb⟩
        have hpq := (hb.block wr.heap.size (by simp)).trans (heap_alloc_new wr _)
        have hlq : wr.heap.size < w2.heap.size := by have hq := hb.size; (try simp at hq); omega
        have hpn := (hb.block w1.heap.size (by simp; omega)).trans ((Below.heap_alloc _ _ _ hlp).trans hpp)
        have hB2 : Below w.heap.size w w2 := below_then (by exact (by repeat (first | with_reducible exact Below.refl _ _ | with_reducible assumption | ((with_reducible refine Below.alloc ?_ ?hb_ _); (case hb_ => first | omega | (simp; done) | (simp; omega))) | ((with_reducible refine Below.setCell ?_ ?hb_ _); (case hb_ => first | omega | (simp; done) | (simp; omega))) | with_reducible refine Below.drew ?_ | with_reducible refine below_drewN ?_ _))) (by simp; omega) hb
        clear hb hB
        obtain ⟨q0, q1, q2, q3, q4, q5, q6, q7, q8, q9⟩ := pic10 hpq
        go_wp2_with fail
        refine Calls.mono (sat_at _ _ _ _ _ _ _ _ _ _ _ _ (.tuple #[.agg #[.int .i64 0, .int .i64 0, .int .i64 0, .int .i64 0], .bool false, .int .i64 380]) _ ?hS ?hV) ?_
        case hS => first | exact exS_size | decide
        case hV => kernel_rfl
        rintro e w3 ⟨rfl, hb⟩
        have hlq' : wr.heap.size < w3.heap.size := by have hq := hb.size; (try simp at hq); omega
        have hpq' := (hb.block wr.heap.size hlq).trans hpq
        have hpn' := (hb.block w1.heap.size (by omega)).trans hpn
        have hB3 : Below w.heap.size w w3 := below_then hB2 (by omega) hb
        clear hb hB2 q0 q1 q2 q3 q4 q5 q6 q7 q8 q9
        obtain ⟨q0, q1, q2, q3, q4, q5, q6, q7, q8, q9⟩ := pic10 hpq'
        go_wp2_with fail
        refine Calls.mono (scheck_at _ _ _ _ _ _ _ _ _ _ 380 _ ?hS ?hV) ?_
        case hS => first | exact exS_size | decide
        case hV => kernel_rfl
        rintro e w4 ⟨rfl, hb⟩
        have hlq4 : wr.heap.size < w4.heap.size := by have hq := hb.size; (try simp at hq); omega
        have hpn4 := (hb.block w1.heap.size (by simp; omega)).trans ((Below.heap_alloc _ _ _ (by omega)).trans hpn')
        have hB4 : Below w.heap.size w w4 := below_then (by exact (by repeat (first | with_reducible exact Below.refl _ _ | with_reducible assumption | ((with_reducible refine Below.alloc ?_ ?hb_ _); (case hb_ => first | omega | (simp; done) | (simp; omega))) | ((with_reducible refine Below.setCell ?_ ?hb_ _); (case hb_ => first | omega | (simp; done) | (simp; omega))) | with_reducible refine Below.drew ?_ | with_reducible refine below_drewN ?_ _))) (by simp; omega) hb
        clear hb hB3 q0 q1 q2 q3 q4 q5 q6 q7 q8 q9
        go_wp2_with fail
        go_roundw
        case rel =>
          refine ⟨_, ?kk, by go_num, hB4, by omega, by omega, hpn4⟩
          case kk => decide
        case measure => simp [intOf])
    · obtain rfl : k = 9 := by omega
      obtain ⟨p0, p1, p2, p3, p4, p5, p6, p7, p8, p9⟩ := pic10 hpp
      go_wp2_with fail
      refine (splace_at 2 2 1 exS 196608 0 0 196608 655360 1310720 (-1025) 0 (.tuple #[.int .i64 0, .int .i64 0, .bool false, .int .i64 2]) _ exS_size (by kernel_rfl)).mono ?_
      rintro e w2 ⟨rfl, hb⟩
      have hn : (w2).heap[w1.heap.size]? = _ := (hb.block (w1.heap.size) (by first | exact hlp | (simp; omega))).trans (by first | exact hpp | exact (Below.heap_alloc _ _ _ hlp).trans hpp | exact (Below.heap_alloc _ _ _ (by simp; omega)).trans ((Below.heap_alloc _ _ _ hlp).trans hpp) | exact (Below.heap_alloc _ _ _ (by simp; omega)).trans ((Below.heap_alloc _ _ _ (by simp; omega)).trans ((Below.heap_alloc _ _ _ hlp).trans hpp)) | exact (Below.heap_alloc _ _ _ (by simp; omega)).trans ((Below.heap_alloc _ _ _ (by simp; omega)).trans ((Below.heap_alloc _ _ _ (by simp; omega)).trans ((Below.heap_alloc _ _ _ hlp).trans hpp))))
      have hm : w1.heap.size < (w2).heap.size := by (have hq := hb.size; (try simp at hq); omega)
      clear hpp hlp
      have hpp := hn
      have hlp := hm
      clear hn hm
      clear p0 p1 p2 p3 p4 p5 p6 p7 p8 p9
      obtain ⟨p0, p1, p2, p3, p4, p5, p6, p7, p8, p9⟩ := pic10 hpp
      have hBn : Below w.heap.size w w2 := below_then (by first | exact hB | exact (by repeat (first | with_reducible exact Below.refl _ _ | with_reducible assumption | ((with_reducible refine Below.alloc ?_ ?hb_ _); (case hb_ => first | omega | (simp; done) | (simp; omega))) | ((with_reducible refine Below.setCell ?_ ?hb_ _); (case hb_ => first | omega | (simp; done) | (simp; omega))) | with_reducible refine Below.drew ?_ | with_reducible refine below_drewN ?_ _))) (by first | omega | (simp; omega)) hb
      have hsn : w.heap.size ≤ (w2).heap.size := hBn.size
      clear hB hsz hb
      have hB := hBn
      have hsz := hsn
      clear hBn hsn
      go_wp2_with fail
      refine (sat_at 2 2 1 exS 196608 0 0 196608 655360 1310720 0 1024 (.tuple #[.agg #[.int .i64 0, .int .i64 0, .int .i64 0, .int .i64 0], .bool false, .int .i64 2]) _ exS_size (by kernel_rfl)).mono ?_
      rintro e w3 ⟨rfl, hb⟩
      have hn : (w3).heap[w1.heap.size]? = _ := (hb.block (w1.heap.size) (by first | exact hlp | (simp; omega))).trans (by first | exact hpp | exact (Below.heap_alloc _ _ _ hlp).trans hpp | exact (Below.heap_alloc _ _ _ (by simp; omega)).trans ((Below.heap_alloc _ _ _ hlp).trans hpp) | exact (Below.heap_alloc _ _ _ (by simp; omega)).trans ((Below.heap_alloc _ _ _ (by simp; omega)).trans ((Below.heap_alloc _ _ _ hlp).trans hpp)) | exact (Below.heap_alloc _ _ _ (by simp; omega)).trans ((Below.heap_alloc _ _ _ (by simp; omega)).trans ((Below.heap_alloc _ _ _ (by simp; omega)).trans ((Below.heap_alloc _ _ _ hlp).trans hpp))))
      have hm : w1.heap.size < (w3).heap.size := by (have hq := hb.size; (try simp at hq); omega)
      clear hpp hlp
      have hpp := hn
      have hlp := hm
      clear hn hm
      clear p0 p1 p2 p3 p4 p5 p6 p7 p8 p9
      obtain ⟨p0, p1, p2, p3, p4, p5, p6, p7, p8, p9⟩ := pic10 hpp
      have hBn : Below w.heap.size w w3 := below_then (by first | exact hB | exact (by repeat (first | with_reducible exact Below.refl _ _ | with_reducible assumption | ((with_reducible refine Below.alloc ?_ ?hb_ _); (case hb_ => first | omega | (simp; done) | (simp; omega))) | ((with_reducible refine Below.setCell ?_ ?hb_ _); (case hb_ => first | omega | (simp; done) | (simp; omega))) | with_reducible refine Below.drew ?_ | with_reducible refine below_drewN ?_ _))) (by first | omega | (simp; omega)) hb
      have hsn : w.heap.size ≤ (w3).heap.size := hBn.size
      clear hB hsz hb
      have hB := hBn
      have hsz := hsn
      clear hBn hsn
      clear p0 p1 p2 p3 p4 p5 p6 p7 p8 p9 hpp hlp
      go_wp2_with fail
      refine Calls.mono (sat_at _ _ _ _ _ _ _ _ _ _ (-128) 127 (.tuple #[.agg #[.int .i64 0, .int .i64 255, .int .i64 127, .int .i64 0], .bool true, .int .i64 0]) _ ?hS ?hV) ?_
      case hS => decide
      case hV => kernel_rfl
      have hpx := heap_alloc_at (w3.alloc (.cells #[.int .i64 0, .int .i64 0, .int .i64 0, .int .i64 0] 41)) (.cells #[.int .i64 1, .int .i64 1, .int .i64 3, .string ⟨#[255, 0, 128]⟩, .int .i64 16777216, .int .i64 0, .int .i64 0, .int .i64 16777216, .int .i64 (-8388608), .int .i64 (-8388608)] 30) (w3.heap.size + 1) (by simp)
      have hlx : w3.heap.size + 1 < ((w3.alloc (.cells #[.int .i64 0, .int .i64 0, .int .i64 0, .int .i64 0] 41)).alloc (.cells #[.int .i64 1, .int .i64 1, .int .i64 3, .string ⟨#[255, 0, 128]⟩, .int .i64 16777216, .int .i64 0, .int .i64 0, .int .i64 16777216, .int .i64 (-8388608), .int .i64 (-8388608)] 30)).heap.size := by simp
      obtain ⟨x0, x1, x2, x3, x4, x5, x6, x7, x8, x9⟩ := pic10 hpx
      rintro e w4 ⟨rfl, hb⟩
      have hn : (w4).heap[w3.heap.size + 1]? = _ := (hb.block (w3.heap.size + 1) (by first | exact hlx | (simp; omega))).trans (by first | exact hpx | exact (Below.heap_alloc _ _ _ hlx).trans hpx | exact (Below.heap_alloc _ _ _ (by simp; omega)).trans ((Below.heap_alloc _ _ _ hlx).trans hpx) | exact (Below.heap_alloc _ _ _ (by simp; omega)).trans ((Below.heap_alloc _ _ _ (by simp; omega)).trans ((Below.heap_alloc _ _ _ hlx).trans hpx)) | exact (Below.heap_alloc _ _ _ (by simp; omega)).trans ((Below.heap_alloc _ _ _ (by simp; omega)).trans ((Below.heap_alloc _ _ _ (by simp; omega)).trans ((Below.heap_alloc _ _ _ hlx).trans hpx))))
      have hm : w3.heap.size + 1 < (w4).heap.size := by (have hq := hb.size; (try simp at hq); omega)
      clear hpx hlx
      have hpx := hn
      have hlx := hm
      clear hn hm
      clear x0 x1 x2 x3 x4 x5 x6 x7 x8 x9
      obtain ⟨x0, x1, x2, x3, x4, x5, x6, x7, x8, x9⟩ := pic10 hpx
      have hBn : Below w.heap.size w w4 := below_then (by first | exact hB | exact (by repeat (first | with_reducible exact Below.refl _ _ | with_reducible assumption | ((with_reducible refine Below.alloc ?_ ?hb_ _); (case hb_ => first | omega | (simp; done) | (simp; omega))) | ((with_reducible refine Below.setCell ?_ ?hb_ _); (case hb_ => first | omega | (simp; done) | (simp; omega))) | with_reducible refine Below.drew ?_ | with_reducible refine below_drewN ?_ _))) (by first | omega | (simp; omega)) hb
      have hsn : w.heap.size ≤ (w4).heap.size := hBn.size
      clear hB hsz hb
      have hB := hBn
      have hsz := hsn
      clear hBn hsn
      go_wp2_with fail
      have hpa := (Below.heap_alloc (w4.alloc (.cells #[.int .i64 0, .int .i64 255, .int .i64 127, .int .i64 0] 41)) (.cells #[.int .i64 2, .int .i64 1, .int .i64 4, .string ⟨#[97, 98, 99, 100, 101, 102, 103, 104]⟩, .int .i64 65536, .int .i64 0, .int .i64 0, .int .i64 65536, .int .i64 0, .int .i64 0] 30) w4.heap.size (by simp)).trans (heap_alloc_new w4 (.cells #[.int .i64 0, .int .i64 255, .int .i64 127, .int .i64 0] 41))
      have hla : w4.heap.size < ((w4.alloc (.cells #[.int .i64 0, .int .i64 255, .int .i64 127, .int .i64 0] 41)).alloc (.cells #[.int .i64 2, .int .i64 1, .int .i64 4, .string ⟨#[97, 98, 99, 100, 101, 102, 103, 104]⟩, .int .i64 65536, .int .i64 0, .int .i64 0, .int .i64 65536, .int .i64 0, .int .i64 0] 30)).heap.size := by simp; omega
      obtain ⟨a0, a1, a2, a3⟩ := ink4 hpa
      refine Calls.mono (sat_at _ _ _ _ _ _ _ _ _ _ 1 0 (.tuple #[.agg #[.int .i64 101, .int .i64 102, .int .i64 103, .int .i64 104], .bool true, .int .i64 0]) _ ?hS2 ?hV2) ?_
      case hS2 => decide
      case hV2 => kernel_rfl
      rintro e w5 ⟨rfl, hb⟩
      have hn : (w5).heap[w3.heap.size + 1]? = _ := (hb.block (w3.heap.size + 1) (by first | exact hlx | (simp; omega))).trans (by first | exact hpx | exact (Below.heap_alloc _ _ _ hlx).trans hpx | exact (Below.heap_alloc _ _ _ (by simp; omega)).trans ((Below.heap_alloc _ _ _ hlx).trans hpx) | exact (Below.heap_alloc _ _ _ (by simp; omega)).trans ((Below.heap_alloc _ _ _ (by simp; omega)).trans ((Below.heap_alloc _ _ _ hlx).trans hpx)) | exact (Below.heap_alloc _ _ _ (by simp; omega)).trans ((Below.heap_alloc _ _ _ (by simp; omega)).trans ((Below.heap_alloc _ _ _ (by simp; omega)).trans ((Below.heap_alloc _ _ _ hlx).trans hpx))))
      have hm : w3.heap.size + 1 < (w5).heap.size := by (have hq := hb.size; (try simp at hq); omega)
      clear hpx hlx
      have hpx := hn
      have hlx := hm
      clear hn hm
      clear x0 x1 x2 x3 x4 x5 x6 x7 x8 x9
      obtain ⟨x0, x1, x2, x3, x4, x5, x6, x7, x8, x9⟩ := pic10 hpx
      have hn : (w5).heap[w4.heap.size]? = _ := (hb.block (w4.heap.size) (by first | exact hla | (simp; omega))).trans (by first | exact hpa | exact (Below.heap_alloc _ _ _ hla).trans hpa | exact (Below.heap_alloc _ _ _ (by simp; omega)).trans ((Below.heap_alloc _ _ _ hla).trans hpa) | exact (Below.heap_alloc _ _ _ (by simp; omega)).trans ((Below.heap_alloc _ _ _ (by simp; omega)).trans ((Below.heap_alloc _ _ _ hla).trans hpa)) | exact (Below.heap_alloc _ _ _ (by simp; omega)).trans ((Below.heap_alloc _ _ _ (by simp; omega)).trans ((Below.heap_alloc _ _ _ (by simp; omega)).trans ((Below.heap_alloc _ _ _ hla).trans hpa))))
      have hm : w4.heap.size < (w5).heap.size := by (have hq := hb.size; (try simp at hq); omega)
      clear hpa hla
      have hpa := hn
      have hla := hm
      clear hn hm
      clear a0 a1 a2 a3
      obtain ⟨a0, a1, a2, a3⟩ := ink4 hpa
      have hBn : Below w.heap.size w w5 := below_then (by first | exact hB | exact (by repeat (first | with_reducible exact Below.refl _ _ | with_reducible assumption | ((with_reducible refine Below.alloc ?_ ?hb_ _); (case hb_ => first | omega | (simp; done) | (simp; omega))) | ((with_reducible refine Below.setCell ?_ ?hb_ _); (case hb_ => first | omega | (simp; done) | (simp; omega))) | with_reducible refine Below.drew ?_ | with_reducible refine below_drewN ?_ _))) (by first | omega | (simp; omega)) hb
      have hsn : w.heap.size ≤ (w5).heap.size := hBn.size
      clear hB hsz hb
      have hB := hBn
      have hsz := hsn
      clear hBn hsn
      have hmk := make_at ((w5.alloc (.cells #[.int .i64 101, .int .i64 102, .int .i64 103, .int .i64 104] 41)).alloc (.cells #[.int .i64 2, .int .i64 1, .int .i64 1, .string ⟨#[97, 98]⟩, .int .i64 32768, .int .i64 0, .int .i64 0, .int .i64 65536, .int .i64 0, .int .i64 0] 30)) (w5.heap.size + 1 + 1) (by simp)
      have hms := made_string_at ((w5.alloc (.cells #[.int .i64 101, .int .i64 102, .int .i64 103, .int .i64 104] 41)).alloc (.cells #[.int .i64 2, .int .i64 1, .int .i64 1, .string ⟨#[97, 98]⟩, .int .i64 32768, .int .i64 0, .int .i64 0, .int .i64 65536, .int .i64 0, .int .i64 0] 30)) 5 (w5.heap.size + 1 + 1) (by simp)
      go_wp2_with fail
      clear hmk hms
      have hpg := heap_alloc_at (((w5.alloc (.cells #[.int .i64 101, .int .i64 102, .int .i64 103, .int .i64 104] 41)).alloc (.cells #[.int .i64 2, .int .i64 1, .int .i64 1, .string ⟨#[97, 98]⟩, .int .i64 32768, .int .i64 0, .int .i64 0, .int .i64 65536, .int .i64 0, .int .i64 0] 30)).alloc (.cells (madeCells #[.int .u8 0] 4096) 5)) (.cells #[.int .i64 64, .int .i64 64, .int .i64 1, .string z4096, .int .i64 65536, .int .i64 0, .int .i64 0, .int .i64 65536, .int .i64 0, .int .i64 0] 30) (w5.heap.size + 1 + 1 + 1) (by simp)
      have hlg : w5.heap.size + 1 + 1 + 1 < ((((w5.alloc (.cells #[.int .i64 101, .int .i64 102, .int .i64 103, .int .i64 104] 41)).alloc (.cells #[.int .i64 2, .int .i64 1, .int .i64 1, .string ⟨#[97, 98]⟩, .int .i64 32768, .int .i64 0, .int .i64 0, .int .i64 65536, .int .i64 0, .int .i64 0] 30)).alloc (.cells (madeCells #[.int .u8 0] 4096) 5)).alloc (.cells #[.int .i64 64, .int .i64 64, .int .i64 1, .string z4096, .int .i64 65536, .int .i64 0, .int .i64 0, .int .i64 65536, .int .i64 0, .int .i64 0] 30)).heap.size := by simp
      have hph := (Below.heap_alloc (((w5.alloc (.cells #[.int .i64 101, .int .i64 102, .int .i64 103, .int .i64 104] 41)).alloc (.cells #[.int .i64 2, .int .i64 1, .int .i64 1, .string ⟨#[97, 98]⟩, .int .i64 32768, .int .i64 0, .int .i64 0, .int .i64 65536, .int .i64 0, .int .i64 0] 30)).alloc (.cells (madeCells #[.int .u8 0] 4096) 5)) (.cells #[.int .i64 64, .int .i64 64, .int .i64 1, .string z4096, .int .i64 65536, .int .i64 0, .int .i64 0, .int .i64 65536, .int .i64 0, .int .i64 0] 30) (w5.heap.size + 1) (by first | (simp; done) | (simp; omega))).trans ((Below.heap_alloc ((w5.alloc (.cells #[.int .i64 101, .int .i64 102, .int .i64 103, .int .i64 104] 41)).alloc (.cells #[.int .i64 2, .int .i64 1, .int .i64 1, .string ⟨#[97, 98]⟩, .int .i64 32768, .int .i64 0, .int .i64 0, .int .i64 65536, .int .i64 0, .int .i64 0] 30)) (.cells (madeCells #[.int .u8 0] 4096) 5) (w5.heap.size + 1) (by simp)).trans (heap_alloc_at (w5.alloc (.cells #[.int .i64 101, .int .i64 102, .int .i64 103, .int .i64 104] 41)) (.cells #[.int .i64 2, .int .i64 1, .int .i64 1, .string ⟨#[97, 98]⟩, .int .i64 32768, .int .i64 0, .int .i64 0, .int .i64 65536, .int .i64 0, .int .i64 0] 30) (w5.heap.size + 1) (by simp)))
      have hlh : w5.heap.size + 1 < ((((w5.alloc (.cells #[.int .i64 101, .int .i64 102, .int .i64 103, .int .i64 104] 41)).alloc (.cells #[.int .i64 2, .int .i64 1, .int .i64 1, .string ⟨#[97, 98]⟩, .int .i64 32768, .int .i64 0, .int .i64 0, .int .i64 65536, .int .i64 0, .int .i64 0] 30)).alloc (.cells (madeCells #[.int .u8 0] 4096) 5)).alloc (.cells #[.int .i64 64, .int .i64 64, .int .i64 1, .string z4096, .int .i64 65536, .int .i64 0, .int .i64 0, .int .i64 65536, .int .i64 0, .int .i64 0] 30)).heap.size := by first | (simp; done) | (simp; omega)
      have hpd := (Below.heap_alloc (((w5.alloc (.cells #[.int .i64 101, .int .i64 102, .int .i64 103, .int .i64 104] 41)).alloc (.cells #[.int .i64 2, .int .i64 1, .int .i64 1, .string ⟨#[97, 98]⟩, .int .i64 32768, .int .i64 0, .int .i64 0, .int .i64 65536, .int .i64 0, .int .i64 0] 30)).alloc (.cells (madeCells #[.int .u8 0] 4096) 5)) (.cells #[.int .i64 64, .int .i64 64, .int .i64 1, .string z4096, .int .i64 65536, .int .i64 0, .int .i64 0, .int .i64 65536, .int .i64 0, .int .i64 0] 30) w5.heap.size (by first | (simp; done) | (simp; omega))).trans ((Below.heap_alloc ((w5.alloc (.cells #[.int .i64 101, .int .i64 102, .int .i64 103, .int .i64 104] 41)).alloc (.cells #[.int .i64 2, .int .i64 1, .int .i64 1, .string ⟨#[97, 98]⟩, .int .i64 32768, .int .i64 0, .int .i64 0, .int .i64 65536, .int .i64 0, .int .i64 0] 30)) (.cells (madeCells #[.int .u8 0] 4096) 5) w5.heap.size (by first | (simp; done) | (simp; omega))).trans ((Below.heap_alloc (w5.alloc (.cells #[.int .i64 101, .int .i64 102, .int .i64 103, .int .i64 104] 41)) (.cells #[.int .i64 2, .int .i64 1, .int .i64 1, .string ⟨#[97, 98]⟩, .int .i64 32768, .int .i64 0, .int .i64 0, .int .i64 65536, .int .i64 0, .int .i64 0] 30) w5.heap.size (by first | (simp; done) | (simp; omega))).trans (heap_alloc_new w5 (.cells #[.int .i64 101, .int .i64 102, .int .i64 103, .int .i64 104] 41))))
      have hld : w5.heap.size < ((((w5.alloc (.cells #[.int .i64 101, .int .i64 102, .int .i64 103, .int .i64 104] 41)).alloc (.cells #[.int .i64 2, .int .i64 1, .int .i64 1, .string ⟨#[97, 98]⟩, .int .i64 32768, .int .i64 0, .int .i64 0, .int .i64 65536, .int .i64 0, .int .i64 0] 30)).alloc (.cells (madeCells #[.int .u8 0] 4096) 5)).alloc (.cells #[.int .i64 64, .int .i64 64, .int .i64 1, .string z4096, .int .i64 65536, .int .i64 0, .int .i64 0, .int .i64 65536, .int .i64 0, .int .i64 0] 30)).heap.size := by first | (simp; done) | (simp; omega)
      obtain ⟨g0, g1, g2, g3, g4, g5, g6, g7, g8, g9⟩ := pic10 hpg
      obtain ⟨h0, h1, h2, h3, h4, h5, h6, h7, h8, h9⟩ := pic10 hph
      obtain ⟨d0, d1, d2, d3⟩ := ink4 hpd
      refine (works_any _).mono ?_
      rintro e w6 ⟨rfl, hb⟩
      have hn : (w6).heap[w3.heap.size + 1]? = _ := (hb.block (w3.heap.size + 1) (by first | exact hlx | (simp; omega))).trans (by first | exact hpx | exact (Below.heap_alloc _ _ _ hlx).trans hpx | exact (Below.heap_alloc _ _ _ (by simp; omega)).trans ((Below.heap_alloc _ _ _ hlx).trans hpx) | exact (Below.heap_alloc _ _ _ (by simp; omega)).trans ((Below.heap_alloc _ _ _ (by simp; omega)).trans ((Below.heap_alloc _ _ _ hlx).trans hpx)) | exact (Below.heap_alloc _ _ _ (by simp; omega)).trans ((Below.heap_alloc _ _ _ (by simp; omega)).trans ((Below.heap_alloc _ _ _ (by simp; omega)).trans ((Below.heap_alloc _ _ _ hlx).trans hpx))))
      have hm : w3.heap.size + 1 < (w6).heap.size := by (have hq := hb.size; (try simp at hq); omega)
      clear hpx hlx
      have hpx := hn
      have hlx := hm
      clear hn hm
      clear x0 x1 x2 x3 x4 x5 x6 x7 x8 x9
      obtain ⟨x0, x1, x2, x3, x4, x5, x6, x7, x8, x9⟩ := pic10 hpx
      have hn : (w6).heap[w4.heap.size]? = _ := (hb.block (w4.heap.size) (by first | exact hla | (simp; omega))).trans (by first | exact hpa | exact (Below.heap_alloc _ _ _ hla).trans hpa | exact (Below.heap_alloc _ _ _ (by simp; omega)).trans ((Below.heap_alloc _ _ _ hla).trans hpa) | exact (Below.heap_alloc _ _ _ (by simp; omega)).trans ((Below.heap_alloc _ _ _ (by simp; omega)).trans ((Below.heap_alloc _ _ _ hla).trans hpa)) | exact (Below.heap_alloc _ _ _ (by simp; omega)).trans ((Below.heap_alloc _ _ _ (by simp; omega)).trans ((Below.heap_alloc _ _ _ (by simp; omega)).trans ((Below.heap_alloc _ _ _ hla).trans hpa))))
      have hm : w4.heap.size < (w6).heap.size := by (have hq := hb.size; (try simp at hq); omega)
      clear hpa hla
      have hpa := hn
      have hla := hm
      clear hn hm
      clear a0 a1 a2 a3
      obtain ⟨a0, a1, a2, a3⟩ := ink4 hpa
      have hn : (w6).heap[w5.heap.size]? = _ := (hb.block (w5.heap.size) (by first | exact hld | (simp; omega))).trans (by first | exact hpd | exact (Below.heap_alloc _ _ _ hld).trans hpd | exact (Below.heap_alloc _ _ _ (by simp; omega)).trans ((Below.heap_alloc _ _ _ hld).trans hpd) | exact (Below.heap_alloc _ _ _ (by simp; omega)).trans ((Below.heap_alloc _ _ _ (by simp; omega)).trans ((Below.heap_alloc _ _ _ hld).trans hpd)) | exact (Below.heap_alloc _ _ _ (by simp; omega)).trans ((Below.heap_alloc _ _ _ (by simp; omega)).trans ((Below.heap_alloc _ _ _ (by simp; omega)).trans ((Below.heap_alloc _ _ _ hld).trans hpd))))
      have hm : w5.heap.size < (w6).heap.size := by (have hq := hb.size; (try simp at hq); omega)
      clear hpd hld
      have hpd := hn
      have hld := hm
      clear hn hm
      clear d0 d1 d2 d3
      obtain ⟨d0, d1, d2, d3⟩ := ink4 hpd
      have hn : (w6).heap[w5.heap.size + 1]? = _ := (hb.block (w5.heap.size + 1) (by first | exact hlh | (simp; omega))).trans (by first | exact hph | exact (Below.heap_alloc _ _ _ hlh).trans hph | exact (Below.heap_alloc _ _ _ (by simp; omega)).trans ((Below.heap_alloc _ _ _ hlh).trans hph) | exact (Below.heap_alloc _ _ _ (by simp; omega)).trans ((Below.heap_alloc _ _ _ (by simp; omega)).trans ((Below.heap_alloc _ _ _ hlh).trans hph)) | exact (Below.heap_alloc _ _ _ (by simp; omega)).trans ((Below.heap_alloc _ _ _ (by simp; omega)).trans ((Below.heap_alloc _ _ _ (by simp; omega)).trans ((Below.heap_alloc _ _ _ hlh).trans hph))))
      have hm : w5.heap.size + 1 < (w6).heap.size := by (have hq := hb.size; (try simp at hq); omega)
      clear hph hlh
      have hph := hn
      have hlh := hm
      clear hn hm
      clear h0 h1 h2 h3 h4 h5 h6 h7 h8 h9
      obtain ⟨h0, h1, h2, h3, h4, h5, h6, h7, h8, h9⟩ := pic10 hph
      have hn : (w6).heap[w5.heap.size + 1 + 1 + 1]? = _ := (hb.block (w5.heap.size + 1 + 1 + 1) (by first | exact hlg | (simp; omega))).trans (by first | exact hpg | exact (Below.heap_alloc _ _ _ hlg).trans hpg | exact (Below.heap_alloc _ _ _ (by simp; omega)).trans ((Below.heap_alloc _ _ _ hlg).trans hpg) | exact (Below.heap_alloc _ _ _ (by simp; omega)).trans ((Below.heap_alloc _ _ _ (by simp; omega)).trans ((Below.heap_alloc _ _ _ hlg).trans hpg)) | exact (Below.heap_alloc _ _ _ (by simp; omega)).trans ((Below.heap_alloc _ _ _ (by simp; omega)).trans ((Below.heap_alloc _ _ _ (by simp; omega)).trans ((Below.heap_alloc _ _ _ hlg).trans hpg))))
      have hm : w5.heap.size + 1 + 1 + 1 < (w6).heap.size := by (have hq := hb.size; (try simp at hq); omega)
      clear hpg hlg
      have hpg := hn
      have hlg := hm
      clear hn hm
      clear g0 g1 g2 g3 g4 g5 g6 g7 g8 g9
      obtain ⟨g0, g1, g2, g3, g4, g5, g6, g7, g8, g9⟩ := pic10 hpg
      have hBn : Below w.heap.size w w6 := below_then (by first | exact hB | exact (by repeat (first | with_reducible exact Below.refl _ _ | with_reducible assumption | ((with_reducible refine Below.alloc ?_ ?hb_ _); (case hb_ => first | omega | (simp; done) | (simp; omega))) | ((with_reducible refine Below.setCell ?_ ?hb_ _); (case hb_ => first | omega | (simp; done) | (simp; omega))) | with_reducible refine Below.drew ?_ | with_reducible refine below_drewN ?_ _))) (by first | omega | (simp; omega)) hb
      have hsn : w.heap.size ≤ (w6).heap.size := hBn.size
      clear hB hsz hb
      have hB := hBn
      have hsz := hsn
      clear hBn hsn
      go_wp2_with fail
      rw [eql4]
      go_simp
      go_wp2_with fail
      refine Calls.mono (none_yes _ _ _ _ _ _ _ _ _ _ 128 0 _ ?hS3 ?hV3) ?_
      case hS3 => decide
      case hV3 => kernel_rfl
      rintro e w7 ⟨rfl, hb⟩
      have hn : (w7).heap[w3.heap.size + 1]? = _ := (hb.block (w3.heap.size + 1) (by first | exact hlx | (simp; omega))).trans (by first | exact hpx | exact (Below.heap_alloc _ _ _ hlx).trans hpx | exact (Below.heap_alloc _ _ _ (by simp; omega)).trans ((Below.heap_alloc _ _ _ hlx).trans hpx) | exact (Below.heap_alloc _ _ _ (by simp; omega)).trans ((Below.heap_alloc _ _ _ (by simp; omega)).trans ((Below.heap_alloc _ _ _ hlx).trans hpx)) | exact (Below.heap_alloc _ _ _ (by simp; omega)).trans ((Below.heap_alloc _ _ _ (by simp; omega)).trans ((Below.heap_alloc _ _ _ (by simp; omega)).trans ((Below.heap_alloc _ _ _ hlx).trans hpx))))
      have hm : w3.heap.size + 1 < (w7).heap.size := by (have hq := hb.size; (try simp at hq); omega)
      clear hpx hlx
      have hpx := hn
      have hlx := hm
      clear hn hm
      clear x0 x1 x2 x3 x4 x5 x6 x7 x8 x9
      obtain ⟨x0, x1, x2, x3, x4, x5, x6, x7, x8, x9⟩ := pic10 hpx
      have hn : (w7).heap[w5.heap.size]? = _ := (hb.block (w5.heap.size) (by first | exact hld | (simp; omega))).trans (by first | exact hpd | exact (Below.heap_alloc _ _ _ hld).trans hpd | exact (Below.heap_alloc _ _ _ (by simp; omega)).trans ((Below.heap_alloc _ _ _ hld).trans hpd) | exact (Below.heap_alloc _ _ _ (by simp; omega)).trans ((Below.heap_alloc _ _ _ (by simp; omega)).trans ((Below.heap_alloc _ _ _ hld).trans hpd)) | exact (Below.heap_alloc _ _ _ (by simp; omega)).trans ((Below.heap_alloc _ _ _ (by simp; omega)).trans ((Below.heap_alloc _ _ _ (by simp; omega)).trans ((Below.heap_alloc _ _ _ hld).trans hpd))))
      have hm : w5.heap.size < (w7).heap.size := by (have hq := hb.size; (try simp at hq); omega)
      clear hpd hld
      have hpd := hn
      have hld := hm
      clear hn hm
      clear d0 d1 d2 d3
      obtain ⟨d0, d1, d2, d3⟩ := ink4 hpd
      have hn : (w7).heap[w5.heap.size + 1]? = _ := (hb.block (w5.heap.size + 1) (by first | exact hlh | (simp; omega))).trans (by first | exact hph | exact (Below.heap_alloc _ _ _ hlh).trans hph | exact (Below.heap_alloc _ _ _ (by simp; omega)).trans ((Below.heap_alloc _ _ _ hlh).trans hph) | exact (Below.heap_alloc _ _ _ (by simp; omega)).trans ((Below.heap_alloc _ _ _ (by simp; omega)).trans ((Below.heap_alloc _ _ _ hlh).trans hph)) | exact (Below.heap_alloc _ _ _ (by simp; omega)).trans ((Below.heap_alloc _ _ _ (by simp; omega)).trans ((Below.heap_alloc _ _ _ (by simp; omega)).trans ((Below.heap_alloc _ _ _ hlh).trans hph))))
      have hm : w5.heap.size + 1 < (w7).heap.size := by (have hq := hb.size; (try simp at hq); omega)
      clear hph hlh
      have hph := hn
      have hlh := hm
      clear hn hm
      clear h0 h1 h2 h3 h4 h5 h6 h7 h8 h9
      obtain ⟨h0, h1, h2, h3, h4, h5, h6, h7, h8, h9⟩ := pic10 hph
      have hn : (w7).heap[w5.heap.size + 1 + 1 + 1]? = _ := (hb.block (w5.heap.size + 1 + 1 + 1) (by first | exact hlg | (simp; omega))).trans (by first | exact hpg | exact (Below.heap_alloc _ _ _ hlg).trans hpg | exact (Below.heap_alloc _ _ _ (by simp; omega)).trans ((Below.heap_alloc _ _ _ hlg).trans hpg) | exact (Below.heap_alloc _ _ _ (by simp; omega)).trans ((Below.heap_alloc _ _ _ (by simp; omega)).trans ((Below.heap_alloc _ _ _ hlg).trans hpg)) | exact (Below.heap_alloc _ _ _ (by simp; omega)).trans ((Below.heap_alloc _ _ _ (by simp; omega)).trans ((Below.heap_alloc _ _ _ (by simp; omega)).trans ((Below.heap_alloc _ _ _ hlg).trans hpg))))
      have hm : w5.heap.size + 1 + 1 + 1 < (w7).heap.size := by (have hq := hb.size; (try simp at hq); omega)
      clear hpg hlg
      have hpg := hn
      have hlg := hm
      clear hn hm
      clear g0 g1 g2 g3 g4 g5 g6 g7 g8 g9
      obtain ⟨g0, g1, g2, g3, g4, g5, g6, g7, g8, g9⟩ := pic10 hpg
      have hBn : Below w.heap.size w w7 := below_then (by first | exact hB | exact (by repeat (first | with_reducible exact Below.refl _ _ | with_reducible assumption | ((with_reducible refine Below.alloc ?_ ?hb_ _); (case hb_ => first | omega | (simp; done) | (simp; omega))) | ((with_reducible refine Below.setCell ?_ ?hb_ _); (case hb_ => first | omega | (simp; done) | (simp; omega))) | with_reducible refine Below.drew ?_ | with_reducible refine below_drewN ?_ _))) (by first | omega | (simp; omega)) hb
      have hsn : w.heap.size ≤ (w7).heap.size := hBn.size
      clear hB hsz hb
      have hB := hBn
      have hsz := hsn
      clear hBn hsn
      go_wp2_with fail
      refine Calls.mono (none_yes _ _ _ _ _ _ _ _ _ _ (-129) 0 _ ?hS4 ?hV4) ?_
      case hS4 => decide
      case hV4 => kernel_rfl
      rintro e w8 ⟨rfl, hb⟩
      have hn : (w8).heap[w5.heap.size]? = _ := (hb.block (w5.heap.size) (by first | exact hld | (simp; omega))).trans (by first | exact hpd | exact (Below.heap_alloc _ _ _ hld).trans hpd | exact (Below.heap_alloc _ _ _ (by simp; omega)).trans ((Below.heap_alloc _ _ _ hld).trans hpd) | exact (Below.heap_alloc _ _ _ (by simp; omega)).trans ((Below.heap_alloc _ _ _ (by simp; omega)).trans ((Below.heap_alloc _ _ _ hld).trans hpd)) | exact (Below.heap_alloc _ _ _ (by simp; omega)).trans ((Below.heap_alloc _ _ _ (by simp; omega)).trans ((Below.heap_alloc _ _ _ (by simp; omega)).trans ((Below.heap_alloc _ _ _ hld).trans hpd))))
      have hm : w5.heap.size < (w8).heap.size := by (have hq := hb.size; (try simp at hq); omega)
      clear hpd hld
      have hpd := hn
      have hld := hm
      clear hn hm
      clear d0 d1 d2 d3
      obtain ⟨d0, d1, d2, d3⟩ := ink4 hpd
      have hn : (w8).heap[w5.heap.size + 1]? = _ := (hb.block (w5.heap.size + 1) (by first | exact hlh | (simp; omega))).trans (by first | exact hph | exact (Below.heap_alloc _ _ _ hlh).trans hph | exact (Below.heap_alloc _ _ _ (by simp; omega)).trans ((Below.heap_alloc _ _ _ hlh).trans hph) | exact (Below.heap_alloc _ _ _ (by simp; omega)).trans ((Below.heap_alloc _ _ _ (by simp; omega)).trans ((Below.heap_alloc _ _ _ hlh).trans hph)) | exact (Below.heap_alloc _ _ _ (by simp; omega)).trans ((Below.heap_alloc _ _ _ (by simp; omega)).trans ((Below.heap_alloc _ _ _ (by simp; omega)).trans ((Below.heap_alloc _ _ _ hlh).trans hph))))
      have hm : w5.heap.size + 1 < (w8).heap.size := by (have hq := hb.size; (try simp at hq); omega)
      clear hph hlh
      have hph := hn
      have hlh := hm
      clear hn hm
      clear h0 h1 h2 h3 h4 h5 h6 h7 h8 h9
      obtain ⟨h0, h1, h2, h3, h4, h5, h6, h7, h8, h9⟩ := pic10 hph
      have hn : (w8).heap[w5.heap.size + 1 + 1 + 1]? = _ := (hb.block (w5.heap.size + 1 + 1 + 1) (by first | exact hlg | (simp; omega))).trans (by first | exact hpg | exact (Below.heap_alloc _ _ _ hlg).trans hpg | exact (Below.heap_alloc _ _ _ (by simp; omega)).trans ((Below.heap_alloc _ _ _ hlg).trans hpg) | exact (Below.heap_alloc _ _ _ (by simp; omega)).trans ((Below.heap_alloc _ _ _ (by simp; omega)).trans ((Below.heap_alloc _ _ _ hlg).trans hpg)) | exact (Below.heap_alloc _ _ _ (by simp; omega)).trans ((Below.heap_alloc _ _ _ (by simp; omega)).trans ((Below.heap_alloc _ _ _ (by simp; omega)).trans ((Below.heap_alloc _ _ _ hlg).trans hpg))))
      have hm : w5.heap.size + 1 + 1 + 1 < (w8).heap.size := by (have hq := hb.size; (try simp at hq); omega)
      clear hpg hlg
      have hpg := hn
      have hlg := hm
      clear hn hm
      clear g0 g1 g2 g3 g4 g5 g6 g7 g8 g9
      obtain ⟨g0, g1, g2, g3, g4, g5, g6, g7, g8, g9⟩ := pic10 hpg
      have hBn : Below w.heap.size w w8 := below_then (by first | exact hB | exact (by repeat (first | with_reducible exact Below.refl _ _ | with_reducible assumption | ((with_reducible refine Below.alloc ?_ ?hb_ _); (case hb_ => first | omega | (simp; done) | (simp; omega))) | ((with_reducible refine Below.setCell ?_ ?hb_ _); (case hb_ => first | omega | (simp; done) | (simp; omega))) | with_reducible refine Below.drew ?_ | with_reducible refine below_drewN ?_ _))) (by first | omega | (simp; omega)) hb
      have hsn : w.heap.size ≤ (w8).heap.size := hBn.size
      clear hB hsz hb
      have hB := hBn
      have hsz := hsn
      clear hBn hsn
      go_wp2_with fail
      rw [eql4]
      go_simp
      go_wp2_with fail
      refine Calls.mono (lies_yes _ _ _ _ _ _ _ _ _ _ 0 0 1 0 _ ?hS5 ?hV5) ?_
      case hS5 => decide
      case hV5 => kernel_rfl
      rintro e w9 ⟨rfl, hb⟩
      have hn : (w9).heap[w5.heap.size + 1 + 1 + 1]? = _ := (hb.block (w5.heap.size + 1 + 1 + 1) (by first | exact hlg | (simp; omega))).trans (by first | exact hpg | exact (Below.heap_alloc _ _ _ hlg).trans hpg | exact (Below.heap_alloc _ _ _ (by simp; omega)).trans ((Below.heap_alloc _ _ _ hlg).trans hpg) | exact (Below.heap_alloc _ _ _ (by simp; omega)).trans ((Below.heap_alloc _ _ _ (by simp; omega)).trans ((Below.heap_alloc _ _ _ hlg).trans hpg)) | exact (Below.heap_alloc _ _ _ (by simp; omega)).trans ((Below.heap_alloc _ _ _ (by simp; omega)).trans ((Below.heap_alloc _ _ _ (by simp; omega)).trans ((Below.heap_alloc _ _ _ hlg).trans hpg))))
      have hm : w5.heap.size + 1 + 1 + 1 < (w9).heap.size := by (have hq := hb.size; (try simp at hq); omega)
      clear hpg hlg
      have hpg := hn
      have hlg := hm
      clear hn hm
      clear g0 g1 g2 g3 g4 g5 g6 g7 g8 g9
      obtain ⟨g0, g1, g2, g3, g4, g5, g6, g7, g8, g9⟩ := pic10 hpg
      have hBn : Below w.heap.size w w9 := below_then (by first | exact hB | exact (by repeat (first | with_reducible exact Below.refl _ _ | with_reducible assumption | ((with_reducible refine Below.alloc ?_ ?hb_ _); (case hb_ => first | omega | (simp; done) | (simp; omega))) | ((with_reducible refine Below.setCell ?_ ?hb_ _); (case hb_ => first | omega | (simp; done) | (simp; omega))) | with_reducible refine Below.drew ?_ | with_reducible refine below_drewN ?_ _))) (by first | omega | (simp; omega)) hb
      have hsn : w.heap.size ≤ (w9).heap.size := hBn.size
      clear hB hsz hb
      have hB := hBn
      have hsz := hsn
      clear hBn hsn
      go_wp2_with fail
      refine (lies_yes 64 64 1 z4096 65536 0 0 65536 0 0 63 63 63 63 _ z4096_le big_in).mono ?_
      rintro e w10 ⟨rfl, hb⟩
      have hn : (w10).heap[w5.heap.size + 1 + 1 + 1]? = _ := (hb.block (w5.heap.size + 1 + 1 + 1) (by first | exact hlg | (simp; omega))).trans (by first | exact hpg | exact (Below.heap_alloc _ _ _ hlg).trans hpg | exact (Below.heap_alloc _ _ _ (by simp; omega)).trans ((Below.heap_alloc _ _ _ hlg).trans hpg) | exact (Below.heap_alloc _ _ _ (by simp; omega)).trans ((Below.heap_alloc _ _ _ (by simp; omega)).trans ((Below.heap_alloc _ _ _ hlg).trans hpg)) | exact (Below.heap_alloc _ _ _ (by simp; omega)).trans ((Below.heap_alloc _ _ _ (by simp; omega)).trans ((Below.heap_alloc _ _ _ (by simp; omega)).trans ((Below.heap_alloc _ _ _ hlg).trans hpg))))
      have hm : w5.heap.size + 1 + 1 + 1 < (w10).heap.size := by (have hq := hb.size; (try simp at hq); omega)
      clear hpg hlg
      have hpg := hn
      have hlg := hm
      clear hn hm
      clear g0 g1 g2 g3 g4 g5 g6 g7 g8 g9
      obtain ⟨g0, g1, g2, g3, g4, g5, g6, g7, g8, g9⟩ := pic10 hpg
      have hBn : Below w.heap.size w w10 := below_then (by first | exact hB | exact (by repeat (first | with_reducible exact Below.refl _ _ | with_reducible assumption | ((with_reducible refine Below.alloc ?_ ?hb_ _); (case hb_ => first | omega | (simp; done) | (simp; omega))) | ((with_reducible refine Below.setCell ?_ ?hb_ _); (case hb_ => first | omega | (simp; done) | (simp; omega))) | with_reducible refine Below.drew ?_ | with_reducible refine below_drewN ?_ _))) (by first | omega | (simp; omega)) hb
      have hsn : w.heap.size ≤ (w10).heap.size := hBn.size
      clear hB hsz hb
      have hB := hBn
      have hsz := hsn
      clear hBn hsn
      go_wp2_with fail
      refine (none_yes 64 64 1 z4096 65536 0 0 65536 0 0 (-1024) 1023 _ z4096_le big_out).mono ?_
      rintro e w11 ⟨rfl, hb⟩
      have hn : (w11).heap[w5.heap.size + 1 + 1 + 1]? = _ := (hb.block (w5.heap.size + 1 + 1 + 1) (by first | exact hlg | (simp; omega))).trans (by first | exact hpg | exact (Below.heap_alloc _ _ _ hlg).trans hpg | exact (Below.heap_alloc _ _ _ (by simp; omega)).trans ((Below.heap_alloc _ _ _ hlg).trans hpg) | exact (Below.heap_alloc _ _ _ (by simp; omega)).trans ((Below.heap_alloc _ _ _ (by simp; omega)).trans ((Below.heap_alloc _ _ _ hlg).trans hpg)) | exact (Below.heap_alloc _ _ _ (by simp; omega)).trans ((Below.heap_alloc _ _ _ (by simp; omega)).trans ((Below.heap_alloc _ _ _ (by simp; omega)).trans ((Below.heap_alloc _ _ _ hlg).trans hpg))))
      have hm : w5.heap.size + 1 + 1 + 1 < (w11).heap.size := by (have hq := hb.size; (try simp at hq); omega)
      clear hpg hlg
      have hpg := hn
      have hlg := hm
      clear hn hm
      clear g0 g1 g2 g3 g4 g5 g6 g7 g8 g9
      obtain ⟨g0, g1, g2, g3, g4, g5, g6, g7, g8, g9⟩ := pic10 hpg
      have hBn : Below w.heap.size w w11 := below_then (by first | exact hB | exact (by repeat (first | with_reducible exact Below.refl _ _ | with_reducible assumption | ((with_reducible refine Below.alloc ?_ ?hb_ _); (case hb_ => first | omega | (simp; done) | (simp; omega))) | ((with_reducible refine Below.setCell ?_ ?hb_ _); (case hb_ => first | omega | (simp; done) | (simp; omega))) | with_reducible refine Below.drew ?_ | with_reducible refine below_drewN ?_ _))) (by first | omega | (simp; omega)) hb
      have hsn : w.heap.size ≤ (w11).heap.size := hBn.size
      clear hB hsz hb
      have hB := hBn
      have hsz := hsn
      clear hBn hsn
      go_wp2_with fail
      refine (scheck_at 64 64 1 z4096 65536 0 0 65536 0 0 0 _ z4096_le big_err).mono ?_
      rintro e w12 ⟨rfl, hb⟩
      have hB12 := below_then (by first | exact hB | exact (by repeat (first | with_reducible exact Below.refl _ _ | with_reducible assumption | ((with_reducible refine Below.alloc ?_ ?hb_ _); (case hb_ => first | omega | (simp; done) | (simp; omega))) | ((with_reducible refine Below.setCell ?_ ?hb_ _); (case hb_ => first | omega | (simp; done) | (simp; omega))) | with_reducible refine Below.drew ?_ | with_reducible refine below_drewN ?_ _))) (by first | omega | (simp; omega)) hb
      go_wp2_with fail
      go_ret
      exact ⟨rfl, hB12⟩
end Go.Proofs.Ytkkeahnmmpcceaa
