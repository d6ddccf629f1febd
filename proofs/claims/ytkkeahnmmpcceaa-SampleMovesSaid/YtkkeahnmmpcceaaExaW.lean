/- SampleExact: the walk. -/
import Derived.Test.YtkkeahnmmpcceaaPlcW
import Derived.Test.YtkkeahnmmpcceaaPure
import Derived.WalkKit
import Derived.Lib.Hide
import Derived.Deep.QuietTactic
import Derived.BigQuiet
import Derived.Lib.QuietBelow
import Derived.Deep.RegionHeld3
import Derived.WalkLawsBesides
import Derived.WalkSpells
import Derived.Outline
import Derived.Deep.DeepFit
import Derived.Maps.AppendAt
import Derived.Deep.AppendLies
namespace Go.Proofs.Ytkkeahnmmpcceaa.T3
open Go.RowKit
theorem mat6 {w : World} {b t : Nat} {v0 v1 v2 v3 v4 v5 : Value} (h : w.heap[b]? = some (.cells #[v0, v1, v2, v3, v4, v5] t (0, 0))) :
    w.cell? ⟨b, 0, none⟩ = some v0 ∧ w.cell? ⟨b, 1, none⟩ = some v1 ∧ w.cell? ⟨b, 2, none⟩ = some v2 ∧ w.cell? ⟨b, 3, none⟩ = some v3 ∧ w.cell? ⟨b, 4, none⟩ = some v4 ∧ w.cell? ⟨b, 5, none⟩ = some v5 := by
  refine ⟨?_, ?_, ?_, ?_, ?_, ?_⟩ <;> simp [World.cell?, h]
theorem cel12 {w : World} {b t : Nat} {v0 v1 v2 v3 v4 v5 v6 v7 v8 v9 v10 v11 : Value} (h : w.heap[b]? = some (.cells #[v0, v1, v2, v3, v4, v5, v6, v7, v8, v9, v10, v11] t (0, 0))) :
    w.cell? ⟨b, 0, none⟩ = some v0 ∧ w.cell? ⟨b, 1, none⟩ = some v1 ∧ w.cell? ⟨b, 2, none⟩ = some v2 ∧ w.cell? ⟨b, 3, none⟩ = some v3 ∧ w.cell? ⟨b, 4, none⟩ = some v4 ∧ w.cell? ⟨b, 5, none⟩ = some v5 ∧ w.cell? ⟨b, 6, none⟩ = some v6 ∧ w.cell? ⟨b, 7, none⟩ = some v7 ∧ w.cell? ⟨b, 8, none⟩ = some v8 ∧ w.cell? ⟨b, 9, none⟩ = some v9 ∧ w.cell? ⟨b, 10, none⟩ = some v10 ∧ w.cell? ⟨b, 11, none⟩ = some v11 := by
  refine ⟨?_, ?_, ?_, ?_, ?_, ?_, ?_, ?_, ?_, ?_, ?_, ?_⟩ <;> simp [World.cell?, h]
/-- what SampleExact asks of a place -/
theorem exact_ask {W H N : Int} {S : ByteArray} {A B C D E F x y : Int} (h : pOk W H N S A B C D E F) (hp : pixOk x y = true) : ∃ (I J : Int) (is : Bool), placeV W H N S A B C D E F x y = .tuple #[.int .i64 I, .int .i64 J, .bool is, .int .i64 0] ∧ (0 ≤ I ∧ I ≤ 64) ∧ (0 ≤ J ∧ J ≤ 64) ∧ (A * D - B * C = 0 → is = false) ∧
    (0 < A * D - B * C → exactF W H I J is (A * D - B * C) (D * (65536 * x + 32768 - E) - C * (65536 * y + 32768 - F)) (A * (65536 * y + 32768 - F) - B * (65536 * x + 32768 - E))) ∧
    (A * D - B * C < 0 → exactF W H I J is (-(A * D - B * C)) (-(D * (65536 * x + 32768 - E) - C * (65536 * y + 32768 - F))) (-(A * (65536 * y + 32768 - F) - B * (65536 * x + 32768 - E)))) := by
  have hb : (0 ≤ placeI W H N S A B C D E F x y ∧ placeI W H N S A B C D E F x y ≤ 64) ∧ (0 ≤ placeJ W H N S A B C D E F x y ∧ placeJ W H N S A B C D E F x y ≤ 64) := by
    by_cases hi : placeIs W H N S A B C D E F x y = true
    · obtain ⟨_, _, ⟨h1, h2⟩, h3, h4⟩ := place_is hi
      have := h.1.2
      have := h.2.1.2
      omega
    · have hi' : placeIs W H N S A B C D E F x y = false := by simpa using hi
      simp [placeI, placeJ, hi']
  exact ⟨_, _, _, by rw [placeV, (place_ok h hp).1], hb.1, hb.2, exact_zero h hp, exact_pos h hp, exact_neg h hp⟩
theorem pix_i8 {x y : Int} (hx : -128 ≤ x ∧ x ≤ 127) (hy : -128 ≤ y ∧ y ≤ 127) : pixOk x y = true := by
  unfold pixOk
  simp only [Bool.and_eq_true, decide_eq_true_eq]
  omega
set_option maxRecDepth 100000 in
set_option maxHeartbeats 8000000 in
theorem exact_walk (a0_W : Int) (a0_H : Int) (a0_N : Int) (a0_Data : Option Addr) (a0_Data_l a0_Data_c : Nat) (a0_M_Kind : Int) (a0_M_A : Int) (a0_M_B : Int) (a0_M_C : Int) (a0_M_D : Int) (a0_M_E : Int) (a0_M_F : Int) (a0_Near : Bool) (a1 : Int) (a2 : Int) (w : World) (s_a0_W : (Lit.int .u8 a0_W).wf = true) (s_a0_H : (Lit.int .u8 a0_H).wf = true) (s_a0_N : (Lit.int .u8 a0_N).wf = true) (s_a0_Data : IsRow .u8 w a0_Data a0_Data_l a0_Data_c) (s_a0_M_Kind : (Lit.int .u8 a0_M_Kind).wf = true) (s_a0_M_A : (Lit.int .i32 a0_M_A).wf = true) (s_a0_M_B : (Lit.int .i32 a0_M_B).wf = true) (s_a0_M_C : (Lit.int .i32 a0_M_C).wf = true) (s_a0_M_D : (Lit.int .i32 a0_M_D).wf = true) (s_a0_M_E : (Lit.int .i32 a0_M_E).wf = true) (s_a0_M_F : (Lit.int .i32 a0_M_F).wf = true) (s_a1 : (Lit.int .i8 a1).wf = true) (s_a2 : (Lit.int .i8 a2).wf = true) :
  Calls Try.prog 5 #[.agg #[.int .u8 a0_W, .int .u8 a0_H, .int .u8 a0_N, .slice a0_Data a0_Data_l a0_Data_c, .int .u8 a0_M_Kind, .int .i32 a0_M_A, .int .i32 a0_M_B, .int .i32 a0_M_C, .int .i32 a0_M_D, .int .i32 a0_M_E, .int .i32 a0_M_F, .bool a0_Near], .int .i8 a1, .int .i8 a2] w fun e w' => e = .returned (.bool true) ∧ Below w.heap.size w w' := by
  have ho0 := s_a0_Data.octets
  have hle := s_a0_Data.le
  have hx1 := bounds_i8 s_a1
  have hx2 := bounds_i8 s_a2
  clear s_a0_Data s_a1 s_a2
  go_enter Try.func5, Try.ntmps5
  go_wp2_with fail
  refine (works_any _).mono ?_
  rintro e w1 ⟨rfl, hb⟩
  have hB : Below w.heap.size w w1 := below_then (Below.alloc (Below.refl _ w) (Nat.le_refl _) _) (by simp) hb
  have hsz : w.heap.size ≤ w1.heap.size := hB.size
  have hdr : w1.heap[w.heap.size]? = some (.cells #[.int .u8 a0_W, .int .u8 a0_H, .int .u8 a0_N, .slice a0_Data a0_Data_l a0_Data_c, .int .u8 a0_M_Kind, .int .i32 a0_M_A, .int .i32 a0_M_B, .int .i32 a0_M_C, .int .i32 a0_M_D, .int .i32 a0_M_E, .int .i32 a0_M_F, .bool a0_Near] 26 (0, 0)) := (hb.block _ (by simp)).trans (heap_alloc_new w _)
  have hld : w.heap.size < w1.heap.size := by have hq := hb.size; simp at hq; omega
  obtain ⟨d0, d1, d2, d3, d4, d5, d6, d7, d8, d9, d10, d11⟩ := cel12 hdr
  have ho1 := ho0.below hB (Nat.le_refl _)
  clear hb ho0
  go_wp2_with fail
  refine (dpicture_any _ _ _ _ _ _ _ _ _ _ _ _ _ _ _ (bounds_u8 s_a0_W) (bounds_u8 s_a0_H) (bounds_u8 s_a0_N) ho1 hle (bounds_u8 s_a0_M_Kind) (bounds_i32 s_a0_M_A) (bounds_i32 s_a0_M_B) (bounds_i32 s_a0_M_C) (bounds_i32 s_a0_M_D) (bounds_i32 s_a0_M_E) (bounds_i32 s_a0_M_F)).mono ?_
  rintro e w2 ⟨⟨W, H, N, S, A, B, C, D, E, F, hok, hw9, hh9, hnear, rfl⟩, hb⟩
  have hB2 := below_then hB hsz hb
  have hsz2 : w.heap.size ≤ w2.heap.size := hB2.size
  clear hB hb hsz hdr hld d0 d1 d2 d3 d4 d5 d6 d7 d8 d9 d10 d11 ho1 hle hnear s_a0_W s_a0_H s_a0_N s_a0_M_Kind s_a0_M_A s_a0_M_B s_a0_M_C s_a0_M_D s_a0_M_E s_a0_M_F
  have hB := hB2
  have hsz := hsz2
  clear hB2 hsz2
  have hpix := pix_i8 hx1 hx2
  obtain ⟨⟨b1, b2, b3, b4⟩, ⟨u1, u2, v1, v2⟩, ⟨r1, r2⟩, ⟨r3, r4⟩, ⟨r5, r6⟩, ⟨r7, r8⟩⟩ := place_bd (x := a1) (y := a2) (by omega) (by omega) (by omega) (by omega) hok.2.2.2.1
  rw [Int.mul_comm a1, Int.mul_comm a2] at *
  obtain ⟨I, J, is, hV, hI, hJ, hzero, hpos, hneg⟩ := exact_ask hok hpix
  have hWb := hok.1
  have hHb := hok.2.1
  have hSz := pOk_few hok hw9 hh9
  have HV := Lib.hid hV
  have Hz := Lib.hid hzero
  have Hp := Lib.hid hpos
  have Hn := Lib.hid hneg
  clear hV hzero hpos hneg hok hpix
  go_wp2_with fail
  have hpp := (Below.heap_alloc (w2.alloc (.cells #[.int .i64 W, .int .i64 H, .int .i64 N, .string S, .int .i64 A, .int .i64 B, .int .i64 C, .int .i64 D, .int .i64 E, .int .i64 F] 30)) (.cells #[.int .i64 A, .int .i64 B, .int .i64 C, .int .i64 D, .int .i64 E, .int .i64 F] 28) w2.heap.size (by simp)).trans (heap_alloc_new w2 (.cells #[.int .i64 W, .int .i64 H, .int .i64 N, .string S, .int .i64 A, .int .i64 B, .int .i64 C, .int .i64 D, .int .i64 E, .int .i64 F] 30))
  have hpm := heap_alloc_at (w2.alloc (.cells #[.int .i64 W, .int .i64 H, .int .i64 N, .string S, .int .i64 A, .int .i64 B, .int .i64 C, .int .i64 D, .int .i64 E, .int .i64 F] 30)) (.cells #[.int .i64 A, .int .i64 B, .int .i64 C, .int .i64 D, .int .i64 E, .int .i64 F] 28) (w2.heap.size + 1) (by simp)
  have hlp : w2.heap.size < ((w2.alloc (.cells #[.int .i64 W, .int .i64 H, .int .i64 N, .string S, .int .i64 A, .int .i64 B, .int .i64 C, .int .i64 D, .int .i64 E, .int .i64 F] 30)).alloc (.cells #[.int .i64 A, .int .i64 B, .int .i64 C, .int .i64 D, .int .i64 E, .int .i64 F] 28)).heap.size := by simp; omega
  have hlm : w2.heap.size + 1 < ((w2.alloc (.cells #[.int .i64 W, .int .i64 H, .int .i64 N, .string S, .int .i64 A, .int .i64 B, .int .i64 C, .int .i64 D, .int .i64 E, .int .i64 F] 30)).alloc (.cells #[.int .i64 A, .int .i64 B, .int .i64 C, .int .i64 D, .int .i64 E, .int .i64 F] 28)).heap.size := by simp
  obtain ⟨p0, p1, p2, p3, p4, p5, p6, p7, p8, p9⟩ := pic10 hpp
  obtain ⟨m0, m1, m2, m3, m4, m5⟩ := mat6 hpm
  refine (splace_any _ _ _ _ _ _ _ _ _ _ _ _ _ (by omega)).mono ?_
  rintro e w3 ⟨rfl, hb⟩
  rw [HV.out]
  have hn : (w3).heap[w2.heap.size]? = _ := (hb.block (w2.heap.size) (by first | exact hlp | (simp; omega))).trans (by first | exact hpp | exact (Below.heap_alloc _ _ _ hlp).trans hpp | exact (Below.heap_alloc _ _ _ (by simp; omega)).trans ((Below.heap_alloc _ _ _ hlp).trans hpp) | exact (Below.heap_alloc _ _ _ (by simp; omega)).trans ((Below.heap_alloc _ _ _ (by simp; omega)).trans ((Below.heap_alloc _ _ _ hlp).trans hpp)) | exact (Below.heap_alloc _ _ _ (by simp; omega)).trans ((Below.heap_alloc _ _ _ (by simp; omega)).trans ((Below.heap_alloc _ _ _ (by simp; omega)).trans ((Below.heap_alloc _ _ _ hlp).trans hpp))))
  have hm : w2.heap.size < (w3).heap.size := by (have hq := hb.size; (try simp at hq); omega)
  clear hpp hlp
  have hpp := hn
  have hlp := hm
  clear hn hm
  clear p0 p1 p2 p3 p4 p5 p6 p7 p8 p9
  obtain ⟨p0, p1, p2, p3, p4, p5, p6, p7, p8, p9⟩ := pic10 hpp
  have hn : (w3).heap[w2.heap.size + 1]? = _ := (hb.block (w2.heap.size + 1) (by first | exact hlm | (simp; omega))).trans (by first | exact hpm | exact (Below.heap_alloc _ _ _ hlm).trans hpm | exact (Below.heap_alloc _ _ _ (by simp; omega)).trans ((Below.heap_alloc _ _ _ hlm).trans hpm) | exact (Below.heap_alloc _ _ _ (by simp; omega)).trans ((Below.heap_alloc _ _ _ (by simp; omega)).trans ((Below.heap_alloc _ _ _ hlm).trans hpm)) | exact (Below.heap_alloc _ _ _ (by simp; omega)).trans ((Below.heap_alloc _ _ _ (by simp; omega)).trans ((Below.heap_alloc _ _ _ (by simp; omega)).trans ((Below.heap_alloc _ _ _ hlm).trans hpm))))
  have hm : w2.heap.size + 1 < (w3).heap.size := by (have hq := hb.size; (try simp at hq); omega)
  clear hpm hlm
  have hpm := hn
  have hlm := hm
  clear hn hm
  clear m0 m1 m2 m3 m4 m5
  obtain ⟨m0, m1, m2, m3, m4, m5⟩ := mat6 hpm
  have hBn : Below w.heap.size w w3 := below_then (by first | exact hB | exact (by repeat (first | with_reducible exact Below.refl _ _ | with_reducible assumption | ((with_reducible refine Below.alloc ?_ ?hb_ _); (case hb_ => first | omega | (simp; done) | (simp; omega))) | ((with_reducible refine Below.setCell ?_ ?hb_ _); (case hb_ => first | omega | (simp; done) | (simp; omega))) | with_reducible refine Below.drew ?_ | with_reducible refine below_drewN ?_ _))) (by first | omega | (simp; omega)) hb
  have hsn : w.heap.size ≤ (w3).heap.size := hBn.size
  clear hB hsz hb
  have hB := hBn
  have hsz := hsn
  clear hBn hsn
  by_cases hd0 : A * D - B * C = 0
  · obtain rfl : is = false := Hz.out hd0
    have Hd := Lib.hid hd0
    clear hd0
    have hd1 : (A * D - B * C == 0) = true := by simp [Hd.out]
    go_wp2_with fail
    go_ret
    exact ⟨rfl, hB⟩
  · go_wp2_with fail
    refine wp_region_ord (.s 0 .p (.s 1 .p (.s 2 .p (.s 3 .p (.s 4 .p (.s 5 .l (.s 6 .p (.s 7 .p (.s 8 .p (.s 9 .p (.s 10 .p (.s 11 .p (.s 12 .l (.s 13 .p (.s 14 .p (.s 15 .p .done)))))))))))))))) (Held w3 []) (by kernel_rfl) (by kernel_rfl) ?hQ11 ?hS11 ?_
    case hQ11 => exact fun _ _ _ _ _ h => h
    case hS11 => exact Held.refl _ _
    (apply wpOrd_p2 rfl rfl rfl rfl rfl; (intro w' K hK; (first | go_big_move | go_big_op | go_wp2_with fail); exact hK))
    (apply wpOrd_p2 rfl rfl rfl rfl rfl; (intro w' K hK; (first | go_big_move | go_big_op | go_wp2_with fail); exact hK))
    (apply wpOrd_p2 rfl rfl rfl rfl rfl; (intro w' K hK; (first | go_big_move | go_big_op | go_wp2_with fail); exact hK))
    (apply wpOrd_p2 rfl rfl rfl rfl rfl; (intro w' K hK; (first | go_big_move | go_big_op | go_wp2_with fail); exact hK))
    (apply wpOrd_p2 rfl rfl rfl rfl rfl; (intro w' K hK; (first | go_big_move | go_big_op | go_wp2_with fail); exact hK))
    (apply wpOrd_l2 rfl rfl rfl rfl rfl; (intro w' K hS' hK; (have hr' := hS'.cell; simp at hr'; (first | go_big_op | go_wp2_with fail); exact hK)); (first | assumption | exact Held.refl _ _ | exact Held.of_below (by repeat (first | with_reducible exact Below.refl _ _ | with_reducible assumption | ((with_reducible refine Below.alloc ?_ ?hb_ _); (case hb_ => first | omega | (simp; done) | (simp; omega))) | ((with_reducible refine Below.setCell ?_ ?hb_ _); (case hb_ => first | omega | (simp; done) | (simp; omega))) | with_reducible refine Below.drew ?_ | with_reducible refine below_drewN ?_ _))))
    (apply wpOrd_p2 rfl rfl rfl rfl rfl; (intro w' K hK; (first | go_big_move | go_big_op | go_wp2_with fail); exact hK))
    (apply wpOrd_p2 rfl rfl rfl rfl rfl; (intro w' K hK; (first | go_big_move | go_big_op | go_wp2_with fail); exact hK))
    (apply wpOrd_p2 rfl rfl rfl rfl rfl; (intro w' K hK; (first | go_big_move | go_big_op | go_wp2_with fail); exact hK))
    (apply wpOrd_p2 rfl rfl rfl rfl rfl; (intro w' K hK; (first | go_big_move | go_big_op | go_wp2_with fail); exact hK))
    (apply wpOrd_p2 rfl rfl rfl rfl rfl; (intro w' K hK; (first | go_big_move | go_big_op | go_wp2_with fail); exact hK))
    (apply wpOrd_p2 rfl rfl rfl rfl rfl; (intro w' K hK; (first | go_big_move | go_big_op | go_wp2_with fail); exact hK))
    (apply wpOrd_l2 rfl rfl rfl rfl rfl; (intro w' K hS' hK; (have hr' := hS'.cell; simp at hr'; (first | go_big_op | go_wp2_with fail); exact hK)); (first | assumption | exact Held.refl _ _ | exact Held.of_below (by repeat (first | with_reducible exact Below.refl _ _ | with_reducible assumption | ((with_reducible refine Below.alloc ?_ ?hb_ _); (case hb_ => first | omega | (simp; done) | (simp; omega))) | ((with_reducible refine Below.setCell ?_ ?hb_ _); (case hb_ => first | omega | (simp; done) | (simp; omega))) | with_reducible refine Below.drew ?_ | with_reducible refine below_drewN ?_ _))))
    (apply wpOrd_p2 rfl rfl rfl rfl rfl; (intro w' K hK; (first | go_big_move | go_big_op | go_wp2_with fail); exact hK))
    (apply wpOrd_p2 rfl rfl rfl rfl rfl; (intro w' K hK; (first | go_big_move | go_big_op | go_wp2_with fail); exact hK))
    (apply wpOrd_p2 rfl rfl rfl rfl rfl; (intro w' K hK; (first | go_big_move | go_big_op | go_wp2_with fail); exact hK))
    refine wpOrd_nil ?_
    go_wp2_with fail
    refine wp_region_ord (.s 0 .p (.s 1 .l (.s 2 .p (.s 3 .p (.s 4 .p (.s 5 .l (.s 6 .p (.s 7 .p (.s 8 .p (.s 9 .p (.s 10 .l (.s 11 .p (.s 12 .p (.s 13 .p (.s 14 .l (.s 15 .p (.s 16 .p (.s 17 .p (.s 18 .p (.s 19 .p .done)))))))))))))))))))) (Held w3 []) (by kernel_rfl) (by kernel_rfl) ?hQ12 ?hS12 ?_
    case hQ12 => exact fun _ _ _ _ _ h => h
    case hS12 => exact Held.refl _ _
    (apply wpOrd_p2 rfl rfl rfl rfl rfl; (intro w' K hK; (first | go_big_move | go_big_op | go_wp2_with fail); exact hK))
    (apply wpOrd_l2 rfl rfl rfl rfl rfl; (intro w' K hS' hK; (have hr' := hS'.cell; simp at hr'; (first | go_big_op | go_wp2_with fail); exact hK)); (first | assumption | exact Held.refl _ _ | exact Held.of_below (by repeat (first | with_reducible exact Below.refl _ _ | with_reducible assumption | ((with_reducible refine Below.alloc ?_ ?hb_ _); (case hb_ => first | omega | (simp; done) | (simp; omega))) | ((with_reducible refine Below.setCell ?_ ?hb_ _); (case hb_ => first | omega | (simp; done) | (simp; omega))) | with_reducible refine Below.drew ?_ | with_reducible refine below_drewN ?_ _))))
    (apply wpOrd_p2 rfl rfl rfl rfl rfl; (intro w' K hK; (first | go_big_move | go_big_op | go_wp2_with fail); exact hK))
    (apply wpOrd_p2 rfl rfl rfl rfl rfl; (intro w' K hK; (first | go_big_move | go_big_op | go_wp2_with fail); exact hK))
    (apply wpOrd_p2 rfl rfl rfl rfl rfl; (intro w' K hK; (first | go_big_move | go_big_op | go_wp2_with fail); exact hK))
    (apply wpOrd_l2 rfl rfl rfl rfl rfl; (intro w' K hS' hK; (have hr' := hS'.cell; simp at hr'; (first | go_big_op | go_wp2_with fail); exact hK)); (first | assumption | exact Held.refl _ _ | exact Held.of_below (by repeat (first | with_reducible exact Below.refl _ _ | with_reducible assumption | ((with_reducible refine Below.alloc ?_ ?hb_ _); (case hb_ => first | omega | (simp; done) | (simp; omega))) | ((with_reducible refine Below.setCell ?_ ?hb_ _); (case hb_ => first | omega | (simp; done) | (simp; omega))) | with_reducible refine Below.drew ?_ | with_reducible refine below_drewN ?_ _))))
    (apply wpOrd_p2 rfl rfl rfl rfl rfl; (intro w' K hK; (first | go_big_move | go_big_op | go_wp2_with fail); exact hK))
    (apply wpOrd_p2 rfl rfl rfl rfl rfl; (intro w' K hK; (first | go_big_move | go_big_op | go_wp2_with fail); exact hK))
    (apply wpOrd_p2 rfl rfl rfl rfl rfl; (intro w' K hK; (first | go_big_move | go_big_op | go_wp2_with fail); exact hK))
    (apply wpOrd_p2 rfl rfl rfl rfl rfl; (intro w' K hK; (first | go_big_move | go_big_op | go_wp2_with fail); exact hK))
    (apply wpOrd_l2 rfl rfl rfl rfl rfl; (intro w' K hS' hK; (have hr' := hS'.cell; simp at hr'; (first | go_big_op | go_wp2_with fail); exact hK)); (first | assumption | exact Held.refl _ _ | exact Held.of_below (by repeat (first | with_reducible exact Below.refl _ _ | with_reducible assumption | ((with_reducible refine Below.alloc ?_ ?hb_ _); (case hb_ => first | omega | (simp; done) | (simp; omega))) | ((with_reducible refine Below.setCell ?_ ?hb_ _); (case hb_ => first | omega | (simp; done) | (simp; omega))) | with_reducible refine Below.drew ?_ | with_reducible refine below_drewN ?_ _))))
    (apply wpOrd_p2 rfl rfl rfl rfl rfl; (intro w' K hK; (first | go_big_move | go_big_op | go_wp2_with fail); exact hK))
    (apply wpOrd_p2 rfl rfl rfl rfl rfl; (intro w' K hK; (first | go_big_move | go_big_op | go_wp2_with fail); exact hK))
    (apply wpOrd_p2 rfl rfl rfl rfl rfl; (intro w' K hK; (first | go_big_move | go_big_op | go_wp2_with fail); exact hK))
    (apply wpOrd_l2 rfl rfl rfl rfl rfl; (intro w' K hS' hK; (have hr' := hS'.cell; simp at hr'; (first | go_big_op | go_wp2_with fail); exact hK)); (first | assumption | exact Held.refl _ _ | exact Held.of_below (by repeat (first | with_reducible exact Below.refl _ _ | with_reducible assumption | ((with_reducible refine Below.alloc ?_ ?hb_ _); (case hb_ => first | omega | (simp; done) | (simp; omega))) | ((with_reducible refine Below.setCell ?_ ?hb_ _); (case hb_ => first | omega | (simp; done) | (simp; omega))) | with_reducible refine Below.drew ?_ | with_reducible refine below_drewN ?_ _))))
    (apply wpOrd_p2 rfl rfl rfl rfl rfl; (intro w' K hK; (first | go_big_move | go_big_op | go_wp2_with fail); exact hK))
    (apply wpOrd_p2 rfl rfl rfl rfl rfl; (intro w' K hK; (first | go_big_move | go_big_op | go_wp2_with fail); exact hK))
    (apply wpOrd_p2 rfl rfl rfl rfl rfl; (intro w' K hK; (first | go_big_move | go_big_op | go_wp2_with fail); exact hK))
    (apply wpOrd_p2 rfl rfl rfl rfl rfl; (intro w' K hK; (first | go_big_move | go_big_op | go_wp2_with fail); exact hK))
    (apply wpOrd_p2 rfl rfl rfl rfl rfl; (intro w' K hK; (first | go_big_move | go_big_op | go_wp2_with fail); exact hK))
    refine wpOrd_nil ?_
    go_upto_if 86 with fail
    go_cut [9, 16, 17] from 85 to 92 (fun v9 v16 v17 wx => ∃ dd a b : Int, v9 = .int .i64 dd ∧ v16 = .int .i64 a ∧ v17 = .int .i64 b ∧ (0 < dd ∧ dd ≤ 1125899906842624) ∧ (-72057594037927936 ≤ a ∧ a ≤ 72057594037927936) ∧ (-72057594037927936 ≤ b ∧ b ≤ 72057594037927936) ∧ exactF W H I J is dd a b ∧ Below w.heap.size w wx ∧ wx.heap[w2.heap.size]? = some (.cells #[.int .i64 W, .int .i64 H, .int .i64 N, .string S, .int .i64 A, .int .i64 B, .int .i64 C, .int .i64 D, .int .i64 E, .int .i64 F] 30 (0, 0)))
    case first =>
      by_cases hneg : A * D - B * C < 0
      · go_wp2_with fail
        go_meet
        case rel => exact ⟨_, _, _, rfl, rfl, rfl, by omega, by omega, by omega, Hn.out hneg, (by repeat (first | with_reducible exact Below.refl _ _ | with_reducible assumption | ((with_reducible refine Below.alloc ?_ ?hb_ _); (case hb_ => first | omega | (simp; done) | (simp; omega))) | ((with_reducible refine Below.setCell ?_ ?hb_ _); (case hb_ => first | omega | (simp; done) | (simp; omega))) | with_reducible refine Below.drew ?_ | with_reducible refine below_drewN ?_ _)), hpp⟩
      · go_wp2_with fail
        go_meet
        case rel => exact ⟨_, _, _, rfl, rfl, rfl, by omega, by omega, by omega, Hp.out (by omega), (by repeat (first | with_reducible exact Below.refl _ _ | with_reducible assumption | ((with_reducible refine Below.alloc ?_ ?hb_ _); (case hb_ => first | omega | (simp; done) | (simp; omega))) | ((with_reducible refine Below.setCell ?_ ?hb_ _); (case hb_ => first | omega | (simp; done) | (simp; omega))) | with_reducible refine Below.drew ?_ | with_reducible refine below_drewN ?_ _)), hpp⟩
    case rest =>
      clear hpp hB
      obtain ⟨dd, a, b, rfl, rfl, rfl, hdd, ha, hb', hF, hB, hpp⟩ := hcut
      clear p0 p1 p2 p3 p4 p5 p6 p7 p8 p9 m0 m1 m2 m3 m4 m5 hpm hlm hlp hsz
      obtain ⟨p0, p1, p2, p3, p4, p5, p6, p7, p8, p9⟩ := pic10 hpp
      have hlc : w2.heap.size < wc.heap.size := (Array.getElem?_eq_some_iff.1 hpp).1
      clear hpp
      have t0 := mul_bd (a := W) (b := dd) (X := 64) (Y := 1125899906842624) (by omega) (by omega) (by omega) (by omega)
      have t1 := mul_bd (a := H) (b := dd) (X := 64) (Y := 1125899906842624) (by omega) (by omega) (by omega) (by omega)
      have t2 := mul_bd (a := I) (b := dd) (X := 64) (Y := 1125899906842624) (by omega) (by omega) (by omega) (by omega)
      have t3 := mul_bd (a := J) (b := dd) (X := 64) (Y := 1125899906842624) (by omega) (by omega) (by omega) (by omega)
      have t4 := mul_bd (a := (I + 1)) (b := dd) (X := 65) (Y := 1125899906842624) (by omega) (by omega) (by omega) (by omega)
      have t5 := mul_bd (a := (J + 1)) (b := dd) (X := 65) (Y := 1125899906842624) (by omega) (by omega) (by omega) (by omega)
      obtain ⟨hall, hbt⟩ := hF
      cases is
      · have hno : ¬ (0 ≤ a ∧ 0 ≤ b ∧ a < W * dd ∧ b < H * dd) := by
          intro h
          simp [h.1, h.2.1, h.2.2.1, h.2.2.2] at hall
        clear hall hbt
        by_cases q1 : 0 ≤ a
        · by_cases q2 : 0 ≤ b
          · by_cases q3 : a < W * dd
            · have q4 : ¬ b < H * dd := fun h => hno ⟨q1, q2, q3, h⟩
              clear hno
              go_wp2_with fail
              go_ret
              exact ⟨rfl, (by repeat (first | with_reducible exact Below.refl _ _ | with_reducible assumption | ((with_reducible refine Below.alloc ?_ ?hb_ _); (case hb_ => first | omega | (simp; done) | (simp; omega))) | ((with_reducible refine Below.setCell ?_ ?hb_ _); (case hb_ => first | omega | (simp; done) | (simp; omega))) | with_reducible refine Below.drew ?_ | with_reducible refine below_drewN ?_ _))⟩
            · clear hno
              go_wp2_with fail
              go_ret
              exact ⟨rfl, (by repeat (first | with_reducible exact Below.refl _ _ | with_reducible assumption | ((with_reducible refine Below.alloc ?_ ?hb_ _); (case hb_ => first | omega | (simp; done) | (simp; omega))) | ((with_reducible refine Below.setCell ?_ ?hb_ _); (case hb_ => first | omega | (simp; done) | (simp; omega))) | with_reducible refine Below.drew ?_ | with_reducible refine below_drewN ?_ _))⟩
          · clear hno
            go_wp2_with fail
            go_ret
            exact ⟨rfl, (by repeat (first | with_reducible exact Below.refl _ _ | with_reducible assumption | ((with_reducible refine Below.alloc ?_ ?hb_ _); (case hb_ => first | omega | (simp; done) | (simp; omega))) | ((with_reducible refine Below.setCell ?_ ?hb_ _); (case hb_ => first | omega | (simp; done) | (simp; omega))) | with_reducible refine Below.drew ?_ | with_reducible refine below_drewN ?_ _))⟩
        · clear hno
          go_wp2_with fail
          go_ret
          exact ⟨rfl, (by repeat (first | with_reducible exact Below.refl _ _ | with_reducible assumption | ((with_reducible refine Below.alloc ?_ ?hb_ _); (case hb_ => first | omega | (simp; done) | (simp; omega))) | ((with_reducible refine Below.setCell ?_ ?hb_ _); (case hb_ => first | omega | (simp; done) | (simp; omega))) | with_reducible refine Below.drew ?_ | with_reducible refine below_drewN ?_ _))⟩
      · simp only [Bool.true_eq, Bool.and_eq_true, decide_eq_true_eq] at hall
        obtain ⟨q1, q2, q3, q4⟩ := hall
        obtain ⟨⟨k1, k2⟩, k3, k4⟩ := hbt rfl
        clear hbt
        go_wp2_with fail
        go_ret
        exact ⟨rfl, (by repeat (first | with_reducible exact Below.refl _ _ | with_reducible assumption | ((with_reducible refine Below.alloc ?_ ?hb_ _); (case hb_ => first | omega | (simp; done) | (simp; omega))) | ((with_reducible refine Below.setCell ?_ ?hb_ _); (case hb_ => first | omega | (simp; done) | (simp; omega))) | with_reducible refine Below.drew ?_ | with_reducible refine below_drewN ?_ _))⟩
end Go.Proofs.Ytkkeahnmmpcceaa.T3
