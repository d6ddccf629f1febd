/- SampleScales: the walk. -/
import Derived.Test.YtkkeahnmmpcceaaExaW
import Derived.WalkKit
import Derived.Lib.Hide
import Derived.Deep.QuietTactic
import Derived.BigQuiet
import Derived.Lib.QuietBelow
import Derived.Deep.RegionHeld3
import Derived.WalkLawsBesides
import Derived.WalkSpells
import Derived.Outline
import Derived.Deep.DeepFit
import Derived.Maps.AppendAt
import Derived.Deep.AppendLies
namespace Go.Proofs.Ytkkeahnmmpcceaa.T3
open Go.RowKit
/-- what SampleScales asks of a place -/
theorem scales_ask {W H N : Int} {S : ByteArray} {A B C D E F : Int} (h : pOk W H N S A B C D E F) (hW : W ≤ 9) (hH : H ≤ 9) {w1 h1 e0 f0 dx dy : Int} (hw : 1 ≤ w1 ∧ w1 ≤ 12) (hh : 1 ≤ h1 ∧ h1 ≤ 12) (he : -128 ≤ e0 ∧ e0 ≤ 127) (hf : -128 ≤ f0 ∧ f0 ≤ 127)
    (hdx : -1 ≤ dx ∧ dx ≤ W * w1) (hdy : -1 ≤ dy ∧ dy ≤ H * h1) : ∃ (I J : Int) (is : Bool) (i0 i1 i2 i3 : Int), placeV W H N S (w1 * 65536) 0 0 (h1 * 65536) (e0 * 65536) (f0 * 65536) (e0 + dx) (f0 + dy) = .tuple #[.int .i64 I, .int .i64 J, .bool is, .int .i64 0] ∧ atV W H N S (w1 * 65536) 0 0 (h1 * 65536) (e0 * 65536) (f0 * 65536) (e0 + dx) (f0 + dy) = .tuple #[.agg #[.int .i64 i0, .int .i64 i1, .int .i64 i2, .int .i64 i3], .bool is, .int .i64 0] ∧
      is = (decide (0 ≤ dx) && (decide (dx < W * w1) && (decide (0 ≤ dy) && decide (dy < H * h1)))) ∧
      (is = true → (dx.tdiv w1 = I ∧ dy.tdiv h1 = J) ∧ ((0 ≤ I ∧ I < W) ∧ 0 ≤ J ∧ J < H) ∧ (0 ≤ (J * W + I) * N ∧ (J * W + I) * N + N ≤ S.size) ∧ inkOf (atS W N S I J) = .agg #[.int .i64 i0, .int .i64 i1, .int .i64 i2, .int .i64 i3] ∧ sampE (atS W N S I J) = 0) ∧
      (is = false → (I = 0 ∧ J = 0) ∧ i0 = 0 ∧ i1 = 0 ∧ i2 = 0 ∧ i3 = 0) := by
  have m1 := mul_bd (a := W) (b := w1) (X := 9) (Y := 12) (by have := h.1.1; omega) hW (by omega) hw.2
  have m2 := mul_bd (a := H) (b := h1) (X := 9) (Y := 12) (by have := h.2.1.1; omega) hH (by omega) hh.2
  have hok : pOk W H N S (w1 * 65536) 0 0 (h1 * 65536) (e0 * 65536) (f0 * 65536) := ⟨h.1, h.2.1, h.2.2.1, by unfold mOk; omega, h.2.2.2.2⟩
  have hpix : pixOk (e0 + dx) (f0 + dy) = true := by
    unfold pixOk
    simp only [Bool.and_eq_true, decide_eq_true_eq]
    omega
  obtain ⟨h0, h2⟩ := place_ok hok hpix
  rw [scale_in (by omega) (by omega)] at h2
  obtain ⟨s1, s2⟩ := scale_of (w1 := w1) (h1 := h1) (e0 := e0) (f0 := f0) (dx := dx) (dy := dy) (by omega) (by omega)
  by_cases hi : placeIs W H N S (w1 * 65536) 0 0 (h1 * 65536) (e0 * 65536) (f0 * 65536) (e0 + dx) (f0 + dy) = true
  · obtain ⟨_, _, ⟨l1, l2⟩, l3, l4⟩ := place_is hi
    obtain ⟨_, ⟨k3, k4⟩, _⟩ := atS_size l1 l2 l3 l4 h.1.2 h.2.1.2 h.2.2.1 h.2.2.2.2
    have hI : placeI W H N S (w1 * 65536) 0 0 (h1 * 65536) (e0 * 65536) (f0 * 65536) (e0 + dx) (f0 + dy) = dx / w1 := by rw [placeI, if_pos hi, s1]
    have hJ : placeJ W H N S (w1 * 65536) 0 0 (h1 * 65536) (e0 * 65536) (f0 * 65536) (e0 + dx) (f0 + dy) = dy / h1 := by rw [placeJ, if_pos hi, s2]
    obtain ⟨i0, i1, i2, i3, hink⟩ := ink_agg (atS W N S (placeI W H N S (w1 * 65536) 0 0 (h1 * 65536) (e0 * 65536) (f0 * 65536) (e0 + dx) (f0 + dy)) (placeJ W H N S (w1 * 65536) 0 0 (h1 * 65536) (e0 * 65536) (f0 * 65536) (e0 + dx) (f0 + dy)))
    have hall := h2
    rw [hi] at hall
    simp only [Bool.true_eq, Bool.and_eq_true, decide_eq_true_eq] at hall
    refine ⟨placeI W H N S (w1 * 65536) 0 0 (h1 * 65536) (e0 * 65536) (f0 * 65536) (e0 + dx) (f0 + dy), placeJ W H N S (w1 * 65536) 0 0 (h1 * 65536) (e0 * 65536) (f0 * 65536) (e0 + dx) (f0 + dy), true, i0, i1, i2, i3, by rw [placeV, hi, h0], by rw [atV, hi, h0, if_pos rfl, hink], by rw [← h2, hi], fun _ => ⟨⟨?_, ?_⟩, ⟨⟨l1, l2⟩, l3, l4⟩, ⟨k3, k4⟩, hink, atS_E k3 k4 h.2.2.1⟩, fun hf => by cases hf⟩
    · rw [hI]; exact Int.tdiv_eq_ediv_of_nonneg (by omega)
    · rw [hJ]; exact Int.tdiv_eq_ediv_of_nonneg (by omega)
  · have hi' : placeIs W H N S (w1 * 65536) 0 0 (h1 * 65536) (e0 * 65536) (f0 * 65536) (e0 + dx) (f0 + dy) = false := by simpa using hi
    exact ⟨0, 0, false, 0, 0, 0, 0, by rw [placeV, placeI, placeJ, hi', h0]; rfl, by rw [atV, hi', h0]; rfl, by rw [← h2, hi'], fun hf => by (cases hf), fun _ => ⟨⟨rfl, rfl⟩, rfl, rfl, rfl, rfl⟩⟩
set_option maxRecDepth 100000 in
set_option maxHeartbeats 8000000 in
theorem scales_walk (a0_W : Int) (a0_H : Int) (a0_N : Int) (a0_Data : Option Addr) (a0_Data_l a0_Data_c : Nat) (a0_M_Kind : Int) (a0_M_A : Int) (a0_M_B : Int) (a0_M_C : Int) (a0_M_D : Int) (a0_M_E : Int) (a0_M_F : Int) (a0_Near : Bool) (a1_0 : Int) (a1_1 : Int) (a2_0 : Int) (a2_1 : Int) (a3 : Int) (a4 : Int) (w : World) (s_a0_W : (Lit.int .u8 a0_W).wf = true) (s_a0_H : (Lit.int .u8 a0_H).wf = true) (s_a0_N : (Lit.int .u8 a0_N).wf = true) (s_a0_Data : IsRow .u8 w a0_Data a0_Data_l a0_Data_c) (s_a0_M_Kind : (Lit.int .u8 a0_M_Kind).wf = true) (s_a0_M_A : (Lit.int .i32 a0_M_A).wf = true) (s_a0_M_B : (Lit.int .i32 a0_M_B).wf = true) (s_a0_M_C : (Lit.int .i32 a0_M_C).wf = true) (s_a0_M_D : (Lit.int .i32 a0_M_D).wf = true) (s_a0_M_E : (Lit.int .i32 a0_M_E).wf = true) (s_a0_M_F : (Lit.int .i32 a0_M_F).wf = true) (s_a1_0 : (Lit.int .u8 a1_0).wf = true) (s_a1_1 : (Lit.int .u8 a1_1).wf = true) (s_a2_0 : (Lit.int .i8 a2_0).wf = true) (s_a2_1 : (Lit.int .i8 a2_1).wf = true) (s_a3 : (Lit.int .u8 a3).wf = true) (s_a4 : (Lit.int .u8 a4).wf = true) :
  Calls Try.prog 4 #[.agg #[.int .u8 a0_W, .int .u8 a0_H, .int .u8 a0_N, .slice a0_Data a0_Data_l a0_Data_c, .int .u8 a0_M_Kind, .int .i32 a0_M_A, .int .i32 a0_M_B, .int .i32 a0_M_C, .int .i32 a0_M_D, .int .i32 a0_M_E, .int .i32 a0_M_F, .bool a0_Near], .agg #[.int .u8 a1_0, .int .u8 a1_1], .agg #[.int .i8 a2_0, .int .i8 a2_1], .int .u8 a3, .int .u8 a4] w fun e w' => e = .returned (.bool true) ∧ Below w.heap.size w w' := by
  have ho0 := s_a0_Data.octets
  have hle := s_a0_Data.le
  have hk0 := bounds_u8 s_a1_0
  have hk1 := bounds_u8 s_a1_1
  have he0 := bounds_i8 s_a2_0
  have hf0 := bounds_i8 s_a2_1
  have hx0 := bounds_u8 s_a3
  have hy0 := bounds_u8 s_a4
  clear s_a0_Data s_a1_0 s_a1_1 s_a2_0 s_a2_1 s_a3 s_a4
  go_enter Try.func4, Try.ntmps4
  go_wp2_with fail
  have hpd := (Below.heap_alloc ((w.alloc (.cells #[.int .u8 a0_W, .int .u8 a0_H, .int .u8 a0_N, .slice a0_Data a0_Data_l a0_Data_c, .int .u8 a0_M_Kind, .int .i32 a0_M_A, .int .i32 a0_M_B, .int .i32 a0_M_C, .int .i32 a0_M_D, .int .i32 a0_M_E, .int .i32 a0_M_F, .bool a0_Near] 26)).alloc (.cells #[.int .u8 a1_0, .int .u8 a1_1] 46)) (.cells #[.int .i8 a2_0, .int .i8 a2_1] 48) w.heap.size (by simp; omega)).trans ((Below.heap_alloc (w.alloc (.cells #[.int .u8 a0_W, .int .u8 a0_H, .int .u8 a0_N, .slice a0_Data a0_Data_l a0_Data_c, .int .u8 a0_M_Kind, .int .i32 a0_M_A, .int .i32 a0_M_B, .int .i32 a0_M_C, .int .i32 a0_M_D, .int .i32 a0_M_E, .int .i32 a0_M_F, .bool a0_Near] 26)) (.cells #[.int .u8 a1_0, .int .u8 a1_1] 46) w.heap.size (by simp)).trans (heap_alloc_new w (.cells #[.int .u8 a0_W, .int .u8 a0_H, .int .u8 a0_N, .slice a0_Data a0_Data_l a0_Data_c, .int .u8 a0_M_Kind, .int .i32 a0_M_A, .int .i32 a0_M_B, .int .i32 a0_M_C, .int .i32 a0_M_D, .int .i32 a0_M_E, .int .i32 a0_M_F, .bool a0_Near] 26)))
  have hld : w.heap.size < (((w.alloc (.cells #[.int .u8 a0_W, .int .u8 a0_H, .int .u8 a0_N, .slice a0_Data a0_Data_l a0_Data_c, .int .u8 a0_M_Kind, .int .i32 a0_M_A, .int .i32 a0_M_B, .int .i32 a0_M_C, .int .i32 a0_M_D, .int .i32 a0_M_E, .int .i32 a0_M_F, .bool a0_Near] 26)).alloc (.cells #[.int .u8 a1_0, .int .u8 a1_1] 46)).alloc (.cells #[.int .i8 a2_0, .int .i8 a2_1] 48)).heap.size := by simp; omega
  have hpk := (Below.heap_alloc ((w.alloc (.cells #[.int .u8 a0_W, .int .u8 a0_H, .int .u8 a0_N, .slice a0_Data a0_Data_l a0_Data_c, .int .u8 a0_M_Kind, .int .i32 a0_M_A, .int .i32 a0_M_B, .int .i32 a0_M_C, .int .i32 a0_M_D, .int .i32 a0_M_E, .int .i32 a0_M_F, .bool a0_Near] 26)).alloc (.cells #[.int .u8 a1_0, .int .u8 a1_1] 46)) (.cells #[.int .i8 a2_0, .int .i8 a2_1] 48) (w.heap.size + 1) (by simp)).trans (heap_alloc_at (w.alloc (.cells #[.int .u8 a0_W, .int .u8 a0_H, .int .u8 a0_N, .slice a0_Data a0_Data_l a0_Data_c, .int .u8 a0_M_Kind, .int .i32 a0_M_A, .int .i32 a0_M_B, .int .i32 a0_M_C, .int .i32 a0_M_D, .int .i32 a0_M_E, .int .i32 a0_M_F, .bool a0_Near] 26)) (.cells #[.int .u8 a1_0, .int .u8 a1_1] 46) (w.heap.size + 1) (by simp))
  have hlk : w.heap.size + 1 < (((w.alloc (.cells #[.int .u8 a0_W, .int .u8 a0_H, .int .u8 a0_N, .slice a0_Data a0_Data_l a0_Data_c, .int .u8 a0_M_Kind, .int .i32 a0_M_A, .int .i32 a0_M_B, .int .i32 a0_M_C, .int .i32 a0_M_D, .int .i32 a0_M_E, .int .i32 a0_M_F, .bool a0_Near] 26)).alloc (.cells #[.int .u8 a1_0, .int .u8 a1_1] 46)).alloc (.cells #[.int .i8 a2_0, .int .i8 a2_1] 48)).heap.size := by simp
  have hpa := heap_alloc_at ((w.alloc (.cells #[.int .u8 a0_W, .int .u8 a0_H, .int .u8 a0_N, .slice a0_Data a0_Data_l a0_Data_c, .int .u8 a0_M_Kind, .int .i32 a0_M_A, .int .i32 a0_M_B, .int .i32 a0_M_C, .int .i32 a0_M_D, .int .i32 a0_M_E, .int .i32 a0_M_F, .bool a0_Near] 26)).alloc (.cells #[.int .u8 a1_0, .int .u8 a1_1] 46)) (.cells #[.int .i8 a2_0, .int .i8 a2_1] 48) (w.heap.size + 1 + 1) (by simp)
  have hla : w.heap.size + 1 + 1 < (((w.alloc (.cells #[.int .u8 a0_W, .int .u8 a0_H, .int .u8 a0_N, .slice a0_Data a0_Data_l a0_Data_c, .int .u8 a0_M_Kind, .int .i32 a0_M_A, .int .i32 a0_M_B, .int .i32 a0_M_C, .int .i32 a0_M_D, .int .i32 a0_M_E, .int .i32 a0_M_F, .bool a0_Near] 26)).alloc (.cells #[.int .u8 a1_0, .int .u8 a1_1] 46)).alloc (.cells #[.int .i8 a2_0, .int .i8 a2_1] 48)).heap.size := by simp
  have hB : Below w.heap.size w w := Below.refl _ w
  have hsz : w.heap.size ≤ w.heap.size := Nat.le_refl _
  obtain ⟨d0, d1, d2, d3, d4, d5, d6, d7, d8, d9, d10, d11⟩ := cel12 hpd
  obtain ⟨k0, k1⟩ := cel2 hpk
  obtain ⟨a0, a1⟩ := cel2 hpa
  refine (works_any _).mono ?_
  rintro e w1 ⟨rfl, hb⟩
  have hn : (w1).heap[w.heap.size]? = _ := (hb.block (w.heap.size) (by first | exact hld | (simp; omega))).trans (by first | exact hpd | exact (Below.heap_alloc _ _ _ hld).trans hpd | exact (Below.heap_alloc _ _ _ (by simp; omega)).trans ((Below.heap_alloc _ _ _ hld).trans hpd) | exact (Below.heap_alloc _ _ _ (by simp; omega)).trans ((Below.heap_alloc _ _ _ (by simp; omega)).trans ((Below.heap_alloc _ _ _ hld).trans hpd)) | exact (Below.heap_alloc _ _ _ (by simp; omega)).trans ((Below.heap_alloc _ _ _ (by simp; omega)).trans ((Below.heap_alloc _ _ _ (by simp; omega)).trans ((Below.heap_alloc _ _ _ hld).trans hpd))))
  have hm : w.heap.size < (w1).heap.size := by (have hq := hb.size; (try simp at hq); omega)
  clear hpd hld
  have hpd := hn
  have hld := hm
  clear hn hm
  clear d0 d1 d2 d3 d4 d5 d6 d7 d8 d9 d10 d11
  obtain ⟨d0, d1, d2, d3, d4, d5, d6, d7, d8, d9, d10, d11⟩ := cel12 hpd
  have hn : (w1).heap[w.heap.size + 1]? = _ := (hb.block (w.heap.size + 1) (by first | exact hlk | (simp; omega))).trans (by first | exact hpk | exact (Below.heap_alloc _ _ _ hlk).trans hpk | exact (Below.heap_alloc _ _ _ (by simp; omega)).trans ((Below.heap_alloc _ _ _ hlk).trans hpk) | exact (Below.heap_alloc _ _ _ (by simp; omega)).trans ((Below.heap_alloc _ _ _ (by simp; omega)).trans ((Below.heap_alloc _ _ _ hlk).trans hpk)) | exact (Below.heap_alloc _ _ _ (by simp; omega)).trans ((Below.heap_alloc _ _ _ (by simp; omega)).trans ((Below.heap_alloc _ _ _ (by simp; omega)).trans ((Below.heap_alloc _ _ _ hlk).trans hpk))))
  have hm : w.heap.size + 1 < (w1).heap.size := by (have hq := hb.size; (try simp at hq); omega)
  clear hpk hlk
  have hpk := hn
  have hlk := hm
  clear hn hm
  clear k0 k1
  obtain ⟨k0, k1⟩ := cel2 hpk
  have hn : (w1).heap[w.heap.size + 1 + 1]? = _ := (hb.block (w.heap.size + 1 + 1) (by first | exact hla | (simp; omega))).trans (by first | exact hpa | exact (Below.heap_alloc _ _ _ hla).trans hpa | exact (Below.heap_alloc _ _ _ (by simp; omega)).trans ((Below.heap_alloc _ _ _ hla).trans hpa) | exact (Below.heap_alloc _ _ _ (by simp; omega)).trans ((Below.heap_alloc _ _ _ (by simp; omega)).trans ((Below.heap_alloc _ _ _ hla).trans hpa)) | exact (Below.heap_alloc _ _ _ (by simp; omega)).trans ((Below.heap_alloc _ _ _ (by simp; omega)).trans ((Below.heap_alloc _ _ _ (by simp; omega)).trans ((Below.heap_alloc _ _ _ hla).trans hpa))))
  have hm : w.heap.size + 1 + 1 < (w1).heap.size := by (have hq := hb.size; (try simp at hq); omega)
  clear hpa hla
  have hpa := hn
  have hla := hm
  clear hn hm
  clear a0 a1
  obtain ⟨a0, a1⟩ := cel2 hpa
  have hBn : Below w.heap.size w w1 := below_then (by first | exact hB | exact (by repeat (first | with_reducible exact Below.refl _ _ | with_reducible assumption | ((with_reducible refine Below.alloc ?_ ?hb_ _); (case hb_ => first | omega | (simp; done) | (simp; omega))) | ((with_reducible refine Below.setCell ?_ ?hb_ _); (case hb_ => first | omega | (simp; done) | (simp; omega))) | with_reducible refine Below.drew ?_ | with_reducible refine below_drewN ?_ _))) (by first | omega | (simp; omega)) hb
  have hsn : w.heap.size ≤ (w1).heap.size := hBn.size
  clear hB hsz hb
  have hB := hBn
  have hsz := hsn
  clear hBn hsn
  have ho1 := ho0.below hB (Nat.le_refl _)
  clear ho0
  go_wp2_with fail
  refine (dpicture_any _ _ _ _ _ _ _ _ _ _ _ _ _ _ _ (bounds_u8 s_a0_W) (bounds_u8 s_a0_H) (bounds_u8 s_a0_N) ho1 hle (bounds_u8 s_a0_M_Kind) (bounds_i32 s_a0_M_A) (bounds_i32 s_a0_M_B) (bounds_i32 s_a0_M_C) (bounds_i32 s_a0_M_D) (bounds_i32 s_a0_M_E) (bounds_i32 s_a0_M_F)).mono ?_
  rintro e w2 ⟨⟨W, H, N, S, A, B, C, D, E, F, hok, hw9, hh9, hnear, rfl⟩, hb⟩
  have hn : (w2).heap[w.heap.size + 1]? = _ := (hb.block (w.heap.size + 1) (by first | exact hlk | (simp; omega))).trans (by first | exact hpk | exact (Below.heap_alloc _ _ _ hlk).trans hpk | exact (Below.heap_alloc _ _ _ (by simp; omega)).trans ((Below.heap_alloc _ _ _ hlk).trans hpk) | exact (Below.heap_alloc _ _ _ (by simp; omega)).trans ((Below.heap_alloc _ _ _ (by simp; omega)).trans ((Below.heap_alloc _ _ _ hlk).trans hpk)) | exact (Below.heap_alloc _ _ _ (by simp; omega)).trans ((Below.heap_alloc _ _ _ (by simp; omega)).trans ((Below.heap_alloc _ _ _ (by simp; omega)).trans ((Below.heap_alloc _ _ _ hlk).trans hpk))))
  have hm : w.heap.size + 1 < (w2).heap.size := by (have hq := hb.size; (try simp at hq); omega)
  clear hpk hlk
  have hpk := hn
  have hlk := hm
  clear hn hm
  clear k0 k1
  obtain ⟨k0, k1⟩ := cel2 hpk
  have hn : (w2).heap[w.heap.size + 1 + 1]? = _ := (hb.block (w.heap.size + 1 + 1) (by first | exact hla | (simp; omega))).trans (by first | exact hpa | exact (Below.heap_alloc _ _ _ hla).trans hpa | exact (Below.heap_alloc _ _ _ (by simp; omega)).trans ((Below.heap_alloc _ _ _ hla).trans hpa) | exact (Below.heap_alloc _ _ _ (by simp; omega)).trans ((Below.heap_alloc _ _ _ (by simp; omega)).trans ((Below.heap_alloc _ _ _ hla).trans hpa)) | exact (Below.heap_alloc _ _ _ (by simp; omega)).trans ((Below.heap_alloc _ _ _ (by simp; omega)).trans ((Below.heap_alloc _ _ _ (by simp; omega)).trans ((Below.heap_alloc _ _ _ hla).trans hpa))))
  have hm : w.heap.size + 1 + 1 < (w2).heap.size := by (have hq := hb.size; (try simp at hq); omega)
  clear hpa hla
  have hpa := hn
  have hla := hm
  clear hn hm
  clear a0 a1
  obtain ⟨a0, a1⟩ := cel2 hpa
  have hBn : Below w.heap.size w w2 := below_then (by first | exact hB | exact (by repeat (first | with_reducible exact Below.refl _ _ | with_reducible assumption | ((with_reducible refine Below.alloc ?_ ?hb_ _); (case hb_ => first | omega | (simp; done) | (simp; omega))) | ((with_reducible refine Below.setCell ?_ ?hb_ _); (case hb_ => first | omega | (simp; done) | (simp; omega))) | with_reducible refine Below.drew ?_ | with_reducible refine below_drewN ?_ _))) (by first | omega | (simp; omega)) hb
  have hsn : w.heap.size ≤ (w2).heap.size := hBn.size
  clear hB hsz hb
  have hB := hBn
  have hsz := hsn
  clear hBn hsn
  clear d0 d1 d2 d3 d4 d5 d6 d7 d8 d9 d10 d11 hpd hld ho1 hle hnear s_a0_W s_a0_H s_a0_N s_a0_M_Kind s_a0_M_A s_a0_M_B s_a0_M_C s_a0_M_D s_a0_M_E s_a0_M_F
  have hWb := hok.1
  have hHb := hok.2.1
  have hSz := pOk_few hok hw9 hh9
  go_wp2_with fail
  have hl00 : w.heap.size < w2.heap.size := by omega
  go_cut [12, 13] from 33 to 42 (fun v12 v13 wx => ∃ w1 h1 : Int, v12 = .int .i64 w1 ∧ v13 = .int .i64 h1 ∧ (1 ≤ w1 ∧ w1 ≤ 12) ∧ (1 ≤ h1 ∧ h1 ≤ 12) ∧ Below w.heap.size w wx ∧ w2.heap.size < wx.heap.size ∧ wx.heap[w2.heap.size]? = some (.cells #[.int .i64 W, .int .i64 H, .int .i64 N, .string S, .int .i64 A, .int .i64 B, .int .i64 C, .int .i64 D, .int .i64 E, .int .i64 F] 30 (0, 0)) ∧ wx.heap[w.heap.size + 1 + 1]? = some (.cells #[.int .i8 a2_0, .int .i8 a2_1] 48 (0, 0)))
  case first =>
    refine wp_region_ord (.s 0 .p (.s 1 .l (.s 2 .p (.s 3 .p (.s 4 .p (.s 5 .p (.s 6 .l (.s 7 .p (.s 8 .p (.s 9 .p (.s 10 .p (.s 11 .p .done)))))))))))) (Held _ []) (by kernel_rfl) (by kernel_rfl) (fun _ _ _ _ _ h => h) (Held.refl _ _) ?_
    (apply wpOrd_p2 rfl rfl rfl rfl rfl; (intro w' K hK; (first | go_big_move | go_big_op | go_wp2_with fail); exact hK))
    (apply wpOrd_l2 rfl rfl rfl rfl rfl; (intro w' K hS' hK; (have hr' := hS'.cell; simp at hr'; (first | go_big_op | go_wp2_with fail); exact hK)); (first | assumption | exact Held.refl _ _ | exact Held.of_below (by repeat (first | with_reducible exact Below.refl _ _ | with_reducible assumption | ((with_reducible refine Below.alloc ?_ ?hb_ _); (case hb_ => first | omega | (simp; done) | (simp; omega))) | ((with_reducible refine Below.setCell ?_ ?hb_ _); (case hb_ => first | omega | (simp; done) | (simp; omega))) | with_reducible refine Below.drew ?_ | with_reducible refine below_drewN ?_ _))))
    (apply wpOrd_p2 rfl rfl rfl rfl rfl; (intro w' K hK; (first | go_big_move | go_big_op | go_wp2_with fail); exact hK))
    (apply wpOrd_p2 rfl rfl rfl rfl rfl; (intro w' K hK; (first | go_big_move | go_big_op | go_wp2_with fail); exact hK))
    (apply wpOrd_p2 rfl rfl rfl rfl rfl; (intro w' K hK; (first | go_big_move | go_big_op | go_wp2_with fail); exact hK))
    (apply wpOrd_p2 rfl rfl rfl rfl rfl; (intro w' K hK; (first | go_big_move | go_big_op | go_wp2_with fail); exact hK))
    (apply wpOrd_l2 rfl rfl rfl rfl rfl; (intro w' K hS' hK; (have hr' := hS'.cell; simp at hr'; (first | go_big_op | go_wp2_with fail); exact hK)); (first | assumption | exact Held.refl _ _ | exact Held.of_below (by repeat (first | with_reducible exact Below.refl _ _ | with_reducible assumption | ((with_reducible refine Below.alloc ?_ ?hb_ _); (case hb_ => first | omega | (simp; done) | (simp; omega))) | ((with_reducible refine Below.setCell ?_ ?hb_ _); (case hb_ => first | omega | (simp; done) | (simp; omega))) | with_reducible refine Below.drew ?_ | with_reducible refine below_drewN ?_ _))))
    (apply wpOrd_p2 rfl rfl rfl rfl rfl; (intro w' K hK; (first | go_big_move | go_big_op | go_wp2_with fail); exact hK))
    (apply wpOrd_p2 rfl rfl rfl rfl rfl; (intro w' K hK; (first | go_big_move | go_big_op | go_wp2_with fail); exact hK))
    (apply wpOrd_p2 rfl rfl rfl rfl rfl; (intro w' K hK; (first | go_big_move | go_big_op | go_wp2_with fail); exact hK))
    (apply wpOrd_p2 rfl rfl rfl rfl rfl; (intro w' K hK; (first | go_big_move | go_big_op | go_wp2_with fail); exact hK))
    (apply wpOrd_p2 rfl rfl rfl rfl rfl; (intro w' K hK; (first | go_big_move | go_big_op | go_wp2_with fail); exact hK))
    refine wpOrd_nil ?_
    go_wp2_with fail
    go_meet
    case rel => exact ⟨_, _, rfl, rfl, by omega, by omega, (by repeat (first | with_reducible exact Below.refl _ _ | with_reducible assumption | ((with_reducible refine Below.alloc ?_ ?hb_ _); (case hb_ => first | omega | (simp; done) | (simp; omega))) | ((with_reducible refine Below.setCell ?_ ?hb_ _); (case hb_ => first | omega | (simp; done) | (simp; omega))) | with_reducible refine Below.drew ?_ | with_reducible refine below_drewN ?_ _)), by simp, heap_alloc_new _ _, (Below.heap_alloc _ _ _ hla).trans hpa⟩
  case rest =>
    obtain ⟨w1, h1, rfl, rfl, hw1, hh1, hB', hlp, hpp, hpa'⟩ := hcut
    have hwp : w.heap.size + 1 + 1 < w2.heap.size := hla
    clear hB hpa a0 a1 k0 k1 hpk hlk hla hk0 hk1
    have hB := hB'
    have hpa := hpa'
    clear hB' hpa'
    have hla : w.heap.size + 1 + 1 < wc.heap.size := by omega
    obtain ⟨a0, a1⟩ := cel2 hpa
    obtain ⟨p0, p1, p2, p3, p4, p5, p6, p7, p8, p9⟩ := pic10 hpp
    have f4 := picf10 hpp 4
    have f5 := picf10 hpp 5
    have f6 := picf10 hpp 6
    have f7 := picf10 hpp 7
    have f8 := picf10 hpp 8
    have f9 := picf10 hpp 9
    have m1 := mul_bd (a := W) (b := w1) (X := 9) (Y := 12) (by omega) hw9 (by omega) hw1.2
    have m2 := mul_bd (a := H) (b := h1) (X := 9) (Y := 12) (by omega) hh9 (by omega) hh1.2
    have n1 : 1 ≤ W * w1 := Int.mul_pos (by omega) (by omega)
    have n2 : 1 ≤ H * h1 := Int.mul_pos (by omega) (by omega)
    have t1 := Int.emod_nonneg a3 (show W * w1 + 2 ≠ 0 by omega)
    have t2 := Int.emod_lt_of_pos a3 (show 0 < W * w1 + 2 by omega)
    have t3 := Int.emod_nonneg a4 (show H * h1 + 2 ≠ 0 by omega)
    have t4 := Int.emod_lt_of_pos a4 (show 0 < H * h1 + 2 by omega)
    go_wp2_with fail
    obtain ⟨wy, hwy⟩ : ∃ wy, wy = ((((((wc.setCell ⟨w2.heap.size, 4, none⟩ (.int .i64 (w1 * 65536))).setCell ⟨w2.heap.size, 5, none⟩ (.int .i64 0)).setCell ⟨w2.heap.size, 6, none⟩ (.int .i64 0)).setCell ⟨w2.heap.size, 7, none⟩ (.int .i64 (h1 * 65536))).setCell ⟨w2.heap.size, 8, none⟩ (.int .i64 (a2_0 * 65536))).setCell ⟨w2.heap.size, 9, none⟩ (.int .i64 (a2_1 * 65536))) := ⟨_, rfl⟩
    have hBy : Below w.heap.size w wy := by
      rw [hwy]
      exact (by repeat (first | with_reducible exact Below.refl _ _ | with_reducible assumption | ((with_reducible refine Below.alloc ?_ ?hb_ _); (case hb_ => first | omega | (simp; done) | (simp; omega))) | ((with_reducible refine Below.setCell ?_ ?hb_ _); (case hb_ => first | omega | (simp; done) | (simp; omega))) | with_reducible refine Below.drew ?_ | with_reducible refine below_drewN ?_ _))
    have hpy : wy.heap[w2.heap.size]? = some (.cells #[.int .i64 W, .int .i64 H, .int .i64 N, .string S, .int .i64 (w1 * 65536), .int .i64 0, .int .i64 0, .int .i64 (h1 * 65536), .int .i64 (a2_0 * 65536), .int .i64 (a2_1 * 65536)] 30 (0, 0)) := by rw [hwy]; exact heap_setCell_same _ _ _ _ _ _ (heap_setCell_same _ _ _ _ _ _ (heap_setCell_same _ _ _ _ _ _ (heap_setCell_same _ _ _ _ _ _ (heap_setCell_same _ _ _ _ _ _ (heap_setCell_same _ _ _ _ _ _ (hpp))))))
    have hay : wy.heap[w.heap.size + 1 + 1]? = some (.cells #[.int .i8 a2_0, .int .i8 a2_1] 48 (0, 0)) := by rw [hwy]; exact (heap_setCell_other _ _ _ _ (by simp; omega)).trans ((heap_setCell_other _ _ _ _ (by simp; omega)).trans ((heap_setCell_other _ _ _ _ (by simp; omega)).trans ((heap_setCell_other _ _ _ _ (by simp; omega)).trans ((heap_setCell_other _ _ _ _ (by simp; omega)).trans ((heap_setCell_other _ _ _ _ (by simp; omega)).trans (hpa))))))
    have hly : w2.heap.size < wy.heap.size := by rw [hwy]; simp; omega
    rw [← hwy]
    clear hwy hB hpp hpa a0 a1 p0 p1 p2 p3 p4 p5 p6 p7 p8 p9 f4 f5 f6 f7 f8 f9
    have hlz : w.heap.size + 1 + 1 < wy.heap.size := by omega
    obtain ⟨a0, a1⟩ := cel2 hay
    obtain ⟨p0, p1, p2, p3, p4, p5, p6, p7, p8, p9⟩ := pic10 hpy
    go_cut [14, 15] from 57 to 82 (fun v14 v15 wx => ∃ dx dy : Int, v14 = .int .i64 (a2_0 + dx) ∧ v15 = .int .i64 (a2_1 + dy) ∧ (-1 ≤ dx ∧ dx ≤ W * w1) ∧ (-1 ≤ dy ∧ dy ≤ H * h1) ∧ Below w.heap.size w wx ∧ w2.heap.size < wx.heap.size ∧ wx.heap[w2.heap.size]? = some (.cells #[.int .i64 W, .int .i64 H, .int .i64 N, .string S, .int .i64 (w1 * 65536), .int .i64 0, .int .i64 0, .int .i64 (h1 * 65536), .int .i64 (a2_0 * 65536), .int .i64 (a2_1 * 65536)] 30 (0, 0)) ∧ wx.heap[w.heap.size + 1 + 1]? = some (.cells #[.int .i8 a2_0, .int .i8 a2_1] 48 (0, 0)))
    case first =>
      refine wp_region_ord (.s 0 .p (.s 1 .l (.s 2 .p (.s 3 .p (.s 4 .p (.s 5 .p (.s 6 .p (.s 7 .l (.s 8 .p (.s 9 .p (.s 10 .p (.s 11 .p (.s 12 .p (.s 13 .p (.s 14 .l (.s 15 .p (.s 16 .p (.s 17 .p (.s 18 .p (.s 19 .p (.s 20 .l (.s 21 .p (.s 22 .p (.s 23 .p (.s 24 .p (.s 25 .p (.s 26 .p (.s 27 .p .done)))))))))))))))))))))))))))) (Held _ []) (by kernel_rfl) (by kernel_rfl) (fun _ _ _ _ _ h => h) (Held.refl _ _) ?_
      (apply wpOrd_p2 rfl rfl rfl rfl rfl; (intro w' K hK; (first | go_big_move | go_big_op | go_wp2_with fail); exact hK))
      (apply wpOrd_l2 rfl rfl rfl rfl rfl; (intro w' K hS' hK; (have hr' := hS'.cell; simp at hr'; (first | go_big_op | go_wp2_with fail); exact hK)); (first | assumption | exact Held.refl _ _ | exact Held.of_below (by repeat (first | with_reducible exact Below.refl _ _ | with_reducible assumption | ((with_reducible refine Below.alloc ?_ ?hb_ _); (case hb_ => first | omega | (simp; done) | (simp; omega))) | ((with_reducible refine Below.setCell ?_ ?hb_ _); (case hb_ => first | omega | (simp; done) | (simp; omega))) | with_reducible refine Below.drew ?_ | with_reducible refine below_drewN ?_ _))))
      (apply wpOrd_p2 rfl rfl rfl rfl rfl; (intro w' K hK; (first | go_big_move | go_big_op | go_wp2_with fail); exact hK))
      (apply wpOrd_p2 rfl rfl rfl rfl rfl; (intro w' K hK; (first | go_big_move | go_big_op | go_wp2_with fail); exact hK))
      (apply wpOrd_p2 rfl rfl rfl rfl rfl; (intro w' K hK; (first | go_big_move | go_big_op | go_wp2_with fail); exact hK))
      (apply wpOrd_p2 rfl rfl rfl rfl rfl; (intro w' K hK; (first | go_big_move | go_big_op | go_wp2_with fail); exact hK))
      (apply wpOrd_p2 rfl rfl rfl rfl rfl; (intro w' K hK; (first | go_big_move | go_big_op | go_wp2_with fail); exact hK))
      (apply wpOrd_l2 rfl rfl rfl rfl rfl; (intro w' K hS' hK; (have hr' := hS'.cell; simp at hr'; (first | go_big_op | go_wp2_with fail); exact hK)); (first | assumption | exact Held.refl _ _ | exact Held.of_below (by repeat (first | with_reducible exact Below.refl _ _ | with_reducible assumption | ((with_reducible refine Below.alloc ?_ ?hb_ _); (case hb_ => first | omega | (simp; done) | (simp; omega))) | ((with_reducible refine Below.setCell ?_ ?hb_ _); (case hb_ => first | omega | (simp; done) | (simp; omega))) | with_reducible refine Below.drew ?_ | with_reducible refine below_drewN ?_ _))))
      (apply wpOrd_p2 rfl rfl rfl rfl rfl; (intro w' K hK; (first | go_big_move | go_big_op | go_wp2_with fail); exact hK))
      (apply wpOrd_p2 rfl rfl rfl rfl rfl; (intro w' K hK; (first | go_big_move | go_big_op | go_wp2_with fail); exact hK))
      (apply wpOrd_p2 rfl rfl rfl rfl rfl; (intro w' K hK; (first | go_big_move | go_big_op | go_wp2_with fail); exact hK))
      (apply wpOrd_p2 rfl rfl rfl rfl rfl; (intro w' K hK; (first | go_big_move | go_big_op | go_wp2_with fail); exact hK))
      (apply wpOrd_p2 rfl rfl rfl rfl rfl; (intro w' K hK; (first | go_big_move | go_big_op | go_wp2_with fail); exact hK))
      (apply wpOrd_p2 rfl rfl rfl rfl rfl; (intro w' K hK; (first | go_big_move | go_big_op | go_wp2_with fail); exact hK))
      (apply wpOrd_l2 rfl rfl rfl rfl rfl; (intro w' K hS' hK; (have hr' := hS'.cell; simp at hr'; (first | go_big_op | go_wp2_with fail); exact hK)); (first | assumption | exact Held.refl _ _ | exact Held.of_below (by repeat (first | with_reducible exact Below.refl _ _ | with_reducible assumption | ((with_reducible refine Below.alloc ?_ ?hb_ _); (case hb_ => first | omega | (simp; done) | (simp; omega))) | ((with_reducible refine Below.setCell ?_ ?hb_ _); (case hb_ => first | omega | (simp; done) | (simp; omega))) | with_reducible refine Below.drew ?_ | with_reducible refine below_drewN ?_ _))))
      (apply wpOrd_p2 rfl rfl rfl rfl rfl; (intro w' K hK; (first | go_big_move | go_big_op | go_wp2_with fail); exact hK))
      (apply wpOrd_p2 rfl rfl rfl rfl rfl; (intro w' K hK; (first | go_big_move | go_big_op | go_wp2_with fail); exact hK))
      (apply wpOrd_p2 rfl rfl rfl rfl rfl; (intro w' K hK; (first | go_big_move | go_big_op | go_wp2_with fail); exact hK))
      (apply wpOrd_p2 rfl rfl rfl rfl rfl; (intro w' K hK; (first | go_big_move | go_big_op | go_wp2_with fail); exact hK))
      (apply wpOrd_p2 rfl rfl rfl rfl rfl; (intro w' K hK; (first | go_big_move | go_big_op | go_wp2_with fail); exact hK))
      (apply wpOrd_l2 rfl rfl rfl rfl rfl; (intro w' K hS' hK; (have hr' := hS'.cell; simp at hr'; (first | go_big_op | go_wp2_with fail); exact hK)); (first | assumption | exact Held.refl _ _ | exact Held.of_below (by repeat (first | with_reducible exact Below.refl _ _ | with_reducible assumption | ((with_reducible refine Below.alloc ?_ ?hb_ _); (case hb_ => first | omega | (simp; done) | (simp; omega))) | ((with_reducible refine Below.setCell ?_ ?hb_ _); (case hb_ => first | omega | (simp; done) | (simp; omega))) | with_reducible refine Below.drew ?_ | with_reducible refine below_drewN ?_ _))))
      (apply wpOrd_p2 rfl rfl rfl rfl rfl; (intro w' K hK; (first | go_big_move | go_big_op | go_wp2_with fail); exact hK))
      (apply wpOrd_p2 rfl rfl rfl rfl rfl; (intro w' K hK; (first | go_big_move | go_big_op | go_wp2_with fail); exact hK))
      (apply wpOrd_p2 rfl rfl rfl rfl rfl; (intro w' K hK; (first | go_big_move | go_big_op | go_wp2_with fail); exact hK))
      (apply wpOrd_p2 rfl rfl rfl rfl rfl; (intro w' K hK; (first | go_big_move | go_big_op | go_wp2_with fail); exact hK))
      (apply wpOrd_p2 rfl rfl rfl rfl rfl; (intro w' K hK; (first | go_big_move | go_big_op | go_wp2_with fail); exact hK))
      (apply wpOrd_p2 rfl rfl rfl rfl rfl; (intro w' K hK; (first | go_big_move | go_big_op | go_wp2_with fail); exact hK))
      (apply wpOrd_p2 rfl rfl rfl rfl rfl; (intro w' K hK; (first | go_big_move | go_big_op | go_wp2_with fail); exact hK))
      refine wpOrd_nil ?_
      go_wp2_with fail
      go_meet
      case rel => exact ⟨-1 + a3 % (W * w1 + 2), -1 + a4 % (H * h1 + 2), congrArg (Value.int .i64) (by omega), congrArg (Value.int .i64) (by omega), by omega, by omega, (by repeat (first | with_reducible exact Below.refl _ _ | with_reducible assumption | ((with_reducible refine Below.alloc ?_ ?hb_ _); (case hb_ => first | omega | (simp; done) | (simp; omega))) | ((with_reducible refine Below.setCell ?_ ?hb_ _); (case hb_ => first | omega | (simp; done) | (simp; omega))) | with_reducible refine Below.drew ?_ | with_reducible refine below_drewN ?_ _)), hly, hpy, hay⟩
    case rest =>
      clear hBy hpy hay hly hlz a0 a1 p0 p1 p2 p3 p4 p5 p6 p7 p8 p9 t1 t2 t3 t4 hx0 hy0
      obtain ⟨dx, dy, rfl, rfl, hdx, hdy, hB, hlp, hpp, hpa⟩ := hcut
      have hla : w.heap.size + 1 + 1 < wc.heap.size := by omega
      have hsz : w.heap.size ≤ wc.heap.size := by omega
      obtain ⟨a0, a1⟩ := cel2 hpa
      obtain ⟨p0, p1, p2, p3, p4, p5, p6, p7, p8, p9⟩ := pic10 hpp
      obtain ⟨I, J, is, i0, i1, i2, i3, hV, hA, his, hin, hout⟩ := scales_ask hok hw9 hh9 hw1 hh1 he0 hf0 hdx hdy
      have HV := Lib.hid hV
      have HA := Lib.hid hA
      have Hin := Lib.hid hin
      have Hout := Lib.hid hout
      have His := Lib.hid his
      have hNb := hok.2.2.1
      clear hV hA hin hout his hok
      go_wp2_with fail
      refine (splace_any _ _ _ _ _ _ _ _ _ _ _ _ _ (by omega)).mono ?_
      rintro e w4 ⟨rfl, hb⟩
      rw [HV.out]
      have hn : (w4).heap[w2.heap.size]? = _ := (hb.block (w2.heap.size) (by first | exact hlp | (simp; omega))).trans (by first | exact hpp | exact (Below.heap_alloc _ _ _ hlp).trans hpp | exact (Below.heap_alloc _ _ _ (by simp; omega)).trans ((Below.heap_alloc _ _ _ hlp).trans hpp) | exact (Below.heap_alloc _ _ _ (by simp; omega)).trans ((Below.heap_alloc _ _ _ (by simp; omega)).trans ((Below.heap_alloc _ _ _ hlp).trans hpp)) | exact (Below.heap_alloc _ _ _ (by simp; omega)).trans ((Below.heap_alloc _ _ _ (by simp; omega)).trans ((Below.heap_alloc _ _ _ (by simp; omega)).trans ((Below.heap_alloc _ _ _ hlp).trans hpp))))
      have hm : w2.heap.size < (w4).heap.size := by (have hq := hb.size; (try simp at hq); omega)
      clear hpp hlp
      have hpp := hn
      have hlp := hm
      clear hn hm
      clear p0 p1 p2 p3 p4 p5 p6 p7 p8 p9
      obtain ⟨p0, p1, p2, p3, p4, p5, p6, p7, p8, p9⟩ := pic10 hpp
      have hn : (w4).heap[w.heap.size + 1 + 1]? = _ := (hb.block (w.heap.size + 1 + 1) (by first | exact hla | (simp; omega))).trans (by first | exact hpa | exact (Below.heap_alloc _ _ _ hla).trans hpa | exact (Below.heap_alloc _ _ _ (by simp; omega)).trans ((Below.heap_alloc _ _ _ hla).trans hpa) | exact (Below.heap_alloc _ _ _ (by simp; omega)).trans ((Below.heap_alloc _ _ _ (by simp; omega)).trans ((Below.heap_alloc _ _ _ hla).trans hpa)) | exact (Below.heap_alloc _ _ _ (by simp; omega)).trans ((Below.heap_alloc _ _ _ (by simp; omega)).trans ((Below.heap_alloc _ _ _ (by simp; omega)).trans ((Below.heap_alloc _ _ _ hla).trans hpa))))
      have hm : w.heap.size + 1 + 1 < (w4).heap.size := by (have hq := hb.size; (try simp at hq); omega)
      clear hpa hla
      have hpa := hn
      have hla := hm
      clear hn hm
      clear a0 a1
      obtain ⟨a0, a1⟩ := cel2 hpa
      have hBn : Below w.heap.size w w4 := below_then (by first | exact hB | exact (by repeat (first | with_reducible exact Below.refl _ _ | with_reducible assumption | ((with_reducible refine Below.alloc ?_ ?hb_ _); (case hb_ => first | omega | (simp; done) | (simp; omega))) | ((with_reducible refine Below.setCell ?_ ?hb_ _); (case hb_ => first | omega | (simp; done) | (simp; omega))) | with_reducible refine Below.drew ?_ | with_reducible refine below_drewN ?_ _))) (by first | omega | (simp; omega)) hb
      have hsn : w.heap.size ≤ (w4).heap.size := hBn.size
      clear hB hsz hb
      have hB := hBn
      have hsz := hsn
      clear hBn hsn
      go_wp2_with fail
      refine (sat_any _ _ _ _ _ _ _ _ _ _ _ _ _ (by omega)).mono ?_
      rintro e w5 ⟨rfl, hb⟩
      rw [HA.out]
      have hn : (w5).heap[w2.heap.size]? = _ := (hb.block (w2.heap.size) (by first | exact hlp | (simp; omega))).trans (by first | exact hpp | exact (Below.heap_alloc _ _ _ hlp).trans hpp | exact (Below.heap_alloc _ _ _ (by simp; omega)).trans ((Below.heap_alloc _ _ _ hlp).trans hpp) | exact (Below.heap_alloc _ _ _ (by simp; omega)).trans ((Below.heap_alloc _ _ _ (by simp; omega)).trans ((Below.heap_alloc _ _ _ hlp).trans hpp)) | exact (Below.heap_alloc _ _ _ (by simp; omega)).trans ((Below.heap_alloc _ _ _ (by simp; omega)).trans ((Below.heap_alloc _ _ _ (by simp; omega)).trans ((Below.heap_alloc _ _ _ hlp).trans hpp))))
      have hm : w2.heap.size < (w5).heap.size := by (have hq := hb.size; (try simp at hq); omega)
      clear hpp hlp
      have hpp := hn
      have hlp := hm
      clear hn hm
      clear p0 p1 p2 p3 p4 p5 p6 p7 p8 p9
      obtain ⟨p0, p1, p2, p3, p4, p5, p6, p7, p8, p9⟩ := pic10 hpp
      have hn : (w5).heap[w.heap.size + 1 + 1]? = _ := (hb.block (w.heap.size + 1 + 1) (by first | exact hla | (simp; omega))).trans (by first | exact hpa | exact (Below.heap_alloc _ _ _ hla).trans hpa | exact (Below.heap_alloc _ _ _ (by simp; omega)).trans ((Below.heap_alloc _ _ _ hla).trans hpa) | exact (Below.heap_alloc _ _ _ (by simp; omega)).trans ((Below.heap_alloc _ _ _ (by simp; omega)).trans ((Below.heap_alloc _ _ _ hla).trans hpa)) | exact (Below.heap_alloc _ _ _ (by simp; omega)).trans ((Below.heap_alloc _ _ _ (by simp; omega)).trans ((Below.heap_alloc _ _ _ (by simp; omega)).trans ((Below.heap_alloc _ _ _ hla).trans hpa))))
      have hm : w.heap.size + 1 + 1 < (w5).heap.size := by (have hq := hb.size; (try simp at hq); omega)
      clear hpa hla
      have hpa := hn
      have hla := hm
      clear hn hm
      clear a0 a1
      obtain ⟨a0, a1⟩ := cel2 hpa
      have hBn : Below w.heap.size w w5 := below_then (by first | exact hB | exact (by repeat (first | with_reducible exact Below.refl _ _ | with_reducible assumption | ((with_reducible refine Below.alloc ?_ ?hb_ _); (case hb_ => first | omega | (simp; done) | (simp; omega))) | ((with_reducible refine Below.setCell ?_ ?hb_ _); (case hb_ => first | omega | (simp; done) | (simp; omega))) | with_reducible refine Below.drew ?_ | with_reducible refine below_drewN ?_ _))) (by first | omega | (simp; omega)) hb
      have hsn : w.heap.size ≤ (w5).heap.size := hBn.size
      clear hB hsz hb
      have hB := hBn
      have hsz := hsn
      clear hBn hsn
      go_wp2_with fail
      have hl01 : w.heap.size + 1 < w5.heap.size := by omega
      have hl02 : w.heap.size < w5.heap.size := by omega
      go_cut [23, 24] from 100 to 109 (fun v23 v24 wx => v23 = .int .i64 dx ∧ v24 = .int .i64 dy ∧ Below w.heap.size w wx ∧ w2.heap.size < wx.heap.size ∧ w5.heap.size < wx.heap.size ∧ wx.heap[w2.heap.size]? = some (.cells #[.int .i64 W, .int .i64 H, .int .i64 N, .string S, .int .i64 (w1 * 65536), .int .i64 0, .int .i64 0, .int .i64 (h1 * 65536), .int .i64 (a2_0 * 65536), .int .i64 (a2_1 * 65536)] 30 (0, 0)) ∧ wx.heap[w5.heap.size]? = some (.cells #[.int .i64 i0, .int .i64 i1, .int .i64 i2, .int .i64 i3] 41 (0, 0)))
      case first =>
        refine wp_region_ord (.s 0 .p (.s 1 .p (.s 2 .l (.s 3 .p (.s 4 .p (.s 5 .p (.s 6 .p (.s 7 .l (.s 8 .p (.s 9 .p (.s 10 .p (.s 11 .p .done)))))))))))) (Held _ []) (by kernel_rfl) (by kernel_rfl) (fun _ _ _ _ _ h => h) (Held.refl _ _) ?_
        (apply wpOrd_p2 rfl rfl rfl rfl rfl; (intro w' K hK; (first | go_big_move | go_big_op | go_wp2_with fail); exact hK))
        (apply wpOrd_p2 rfl rfl rfl rfl rfl; (intro w' K hK; (first | go_big_move | go_big_op | go_wp2_with fail); exact hK))
        (apply wpOrd_l2 rfl rfl rfl rfl rfl; (intro w' K hS' hK; (have hr' := hS'.cell; simp at hr'; (first | go_big_op | go_wp2_with fail); exact hK)); (first | assumption | exact Held.refl _ _ | exact Held.of_below (by repeat (first | with_reducible exact Below.refl _ _ | with_reducible assumption | ((with_reducible refine Below.alloc ?_ ?hb_ _); (case hb_ => first | omega | (simp; done) | (simp; omega))) | ((with_reducible refine Below.setCell ?_ ?hb_ _); (case hb_ => first | omega | (simp; done) | (simp; omega))) | with_reducible refine Below.drew ?_ | with_reducible refine below_drewN ?_ _))))
        (apply wpOrd_p2 rfl rfl rfl rfl rfl; (intro w' K hK; (first | go_big_move | go_big_op | go_wp2_with fail); exact hK))
        (apply wpOrd_p2 rfl rfl rfl rfl rfl; (intro w' K hK; (first | go_big_move | go_big_op | go_wp2_with fail); exact hK))
        (apply wpOrd_p2 rfl rfl rfl rfl rfl; (intro w' K hK; (first | go_big_move | go_big_op | go_wp2_with fail); exact hK))
        (apply wpOrd_p2 rfl rfl rfl rfl rfl; (intro w' K hK; (first | go_big_move | go_big_op | go_wp2_with fail); exact hK))
        (apply wpOrd_l2 rfl rfl rfl rfl rfl; (intro w' K hS' hK; (have hr' := hS'.cell; simp at hr'; (first | go_big_op | go_wp2_with fail); exact hK)); (first | assumption | exact Held.refl _ _ | exact Held.of_below (by repeat (first | with_reducible exact Below.refl _ _ | with_reducible assumption | ((with_reducible refine Below.alloc ?_ ?hb_ _); (case hb_ => first | omega | (simp; done) | (simp; omega))) | ((with_reducible refine Below.setCell ?_ ?hb_ _); (case hb_ => first | omega | (simp; done) | (simp; omega))) | with_reducible refine Below.drew ?_ | with_reducible refine below_drewN ?_ _))))
        (apply wpOrd_p2 rfl rfl rfl rfl rfl; (intro w' K hK; (first | go_big_move | go_big_op | go_wp2_with fail); exact hK))
        (apply wpOrd_p2 rfl rfl rfl rfl rfl; (intro w' K hK; (first | go_big_move | go_big_op | go_wp2_with fail); exact hK))
        (apply wpOrd_p2 rfl rfl rfl rfl rfl; (intro w' K hK; (first | go_big_move | go_big_op | go_wp2_with fail); exact hK))
        (apply wpOrd_p2 rfl rfl rfl rfl rfl; (intro w' K hK; (first | go_big_move | go_big_op | go_wp2_with fail); exact hK))
        refine wpOrd_nil ?_
        go_wp2_with fail
        go_meet
        case rel => exact ⟨congrArg (Value.int .i64) (by omega), congrArg (Value.int .i64) (by omega), (by repeat (first | with_reducible exact Below.refl _ _ | with_reducible assumption | ((with_reducible refine Below.alloc ?_ ?hb_ _); (case hb_ => first | omega | (simp; done) | (simp; omega))) | ((with_reducible refine Below.setCell ?_ ?hb_ _); (case hb_ => first | omega | (simp; done) | (simp; omega))) | with_reducible refine Below.drew ?_ | with_reducible refine below_drewN ?_ _)), by simp; omega, by simp, (Below.heap_alloc _ _ _ hlp).trans hpp, heap_alloc_new _ _⟩
      case rest =>
        clear a0 a1 p0 p1 p2 p3 p4 p5 p6 p7 p8 p9 hpp hpa hla hlp hB hsz hl01 hl02
        obtain ⟨rfl, rfl, hB, hlp, hlk, hpp, hpk⟩ := hcut
        have hsz : w.heap.size ≤ wc.heap.size := hB.size
        obtain ⟨p0, p1, p2, p3, p4, p5, p6, p7, p8, p9⟩ := pic10 hpp
        obtain ⟨k0, k1, k2, k3⟩ := ink4 hpk
        by_cases hall : 0 ≤ dx ∧ dx < W * w1 ∧ 0 ≤ dy ∧ dy < H * h1
        · obtain ⟨q1, q2, q3, q4⟩ := hall
          obtain rfl : is = true := by rw [His.out]; simp [q1, q2, q3, q4]
          obtain ⟨⟨t1, t2⟩, ⟨⟨l1, l2⟩, l3, l4⟩, ⟨l5, l6⟩, hink, hsE⟩ := Hin.out rfl
          have Hink := Lib.hid (show inkOf (S.extract ((J * W + I) * N).toNat ((J * W + I) * N + N).toNat) = _ from hink)
          have HsE := Lib.hid (show sampE (S.extract ((J * W + I) * N).toNat ((J * W + I) * N + N).toNat) = _ from hsE)
          clear hink hsE
          have g1 := mul_bd (a := J) (b := W) (X := 64) (Y := 64) (by omega) (by omega) (by omega) (by omega)
          go_wp2_with fail
          have t3 : dx / w1 = I := by rw [← t1, Int.tdiv_eq_ediv_of_nonneg q1]
          have t4 : dy / h1 = J := by rw [← t2, Int.tdiv_eq_ediv_of_nonneg q3]
          refine wp_region_ord (.s 0 .p (.s 1 .p (.s 2 .p (.s 3 .p (.s 4 .l (.s 5 .p (.s 6 .p (.s 7 .p (.s 8 .p (.s 9 .p (.s 10 .p (.s 11 .l (.s 12 .p (.s 13 .p .done)))))))))))))) (Held _ []) (by kernel_rfl) (by kernel_rfl) (fun _ _ _ _ _ h => h) (Held.refl _ _) ?_
          (apply wpOrd_p2 rfl rfl rfl rfl rfl; (intro w' K hK; (first | go_big_move | go_big_op | go_wp2_with fail); exact hK))
          (apply wpOrd_p2 rfl rfl rfl rfl rfl; (intro w' K hK; (first | go_big_move | go_big_op | go_wp2_with fail); exact hK))
          (apply wpOrd_p2 rfl rfl rfl rfl rfl; (intro w' K hK; (first | go_big_move | go_big_op | go_wp2_with fail); exact hK))
          (apply wpOrd_p2 rfl rfl rfl rfl rfl; (intro w' K hK; (first | go_big_move | go_big_op | go_wp2_with fail); exact hK))
          (apply wpOrd_l2 rfl rfl rfl rfl rfl; (intro w' K hS' hK; (have hr' := hS'.cell; simp at hr'; (first | go_big_op | go_wp2_with fail); exact hK)); (first | assumption | exact Held.refl _ _ | exact Held.of_below (by repeat (first | with_reducible exact Below.refl _ _ | with_reducible assumption | ((with_reducible refine Below.alloc ?_ ?hb_ _); (case hb_ => first | omega | (simp; done) | (simp; omega))) | ((with_reducible refine Below.setCell ?_ ?hb_ _); (case hb_ => first | omega | (simp; done) | (simp; omega))) | with_reducible refine Below.drew ?_ | with_reducible refine below_drewN ?_ _))))
          (apply wpOrd_p2 rfl rfl rfl rfl rfl; (intro w' K hK; (first | go_big_move | go_big_op | go_wp2_with fail); exact hK))
          (apply wpOrd_p2 rfl rfl rfl rfl rfl; (intro w' K hK; (first | go_big_move | go_big_op | go_wp2_with fail); exact hK))
          (apply wpOrd_p2 rfl rfl rfl rfl rfl; (intro w' K hK; (first | go_big_move | go_big_op | go_wp2_with fail); exact hK))
          (apply wpOrd_p2 rfl rfl rfl rfl rfl; (intro w' K hK; (first | go_big_move | go_big_op | go_wp2_with fail); exact hK))
          (apply wpOrd_p2 rfl rfl rfl rfl rfl; (intro w' K hK; (first | go_big_move | go_big_op | go_wp2_with fail); exact hK))
          (apply wpOrd_p2 rfl rfl rfl rfl rfl; (intro w' K hK; (first | go_big_move | go_big_op | go_wp2_with fail); exact hK))
          (apply wpOrd_l2 rfl rfl rfl rfl rfl; (intro w' K hS' hK; (have hr' := hS'.cell; simp at hr'; (first | go_big_op | go_wp2_with fail); exact hK)); (first | assumption | exact Held.refl _ _ | exact Held.of_below (by repeat (first | with_reducible exact Below.refl _ _ | with_reducible assumption | ((with_reducible refine Below.alloc ?_ ?hb_ _); (case hb_ => first | omega | (simp; done) | (simp; omega))) | ((with_reducible refine Below.setCell ?_ ?hb_ _); (case hb_ => first | omega | (simp; done) | (simp; omega))) | with_reducible refine Below.drew ?_ | with_reducible refine below_drewN ?_ _))))
          (apply wpOrd_p2 rfl rfl rfl rfl rfl; (intro w' K hK; (first | go_big_move | go_big_op | go_wp2_with fail); exact hK))
          (apply wpOrd_p2 rfl rfl rfl rfl rfl; (intro w' K hK; (first | go_big_move | go_big_op | go_wp2_with fail); exact hK))
          refine wpOrd_nil ?_
          go_wp2_with fail
          refine (csample_any _ _).mono ?_
          rintro e w6 ⟨rfl, hb⟩
          rw [Hink.out, HsE.out]
          have hn : (w6).heap[w5.heap.size]? = _ := (hb.block (w5.heap.size) (by first | exact hlk | (simp; omega))).trans (by first | exact hpk | exact (Below.heap_alloc _ _ _ hlk).trans hpk | exact (Below.heap_alloc _ _ _ (by simp; omega)).trans ((Below.heap_alloc _ _ _ hlk).trans hpk) | exact (Below.heap_alloc _ _ _ (by simp; omega)).trans ((Below.heap_alloc _ _ _ (by simp; omega)).trans ((Below.heap_alloc _ _ _ hlk).trans hpk)) | exact (Below.heap_alloc _ _ _ (by simp; omega)).trans ((Below.heap_alloc _ _ _ (by simp; omega)).trans ((Below.heap_alloc _ _ _ (by simp; omega)).trans ((Below.heap_alloc _ _ _ hlk).trans hpk))))
          have hm : w5.heap.size < (w6).heap.size := by (have hq := hb.size; (try simp at hq); omega)
          clear hpk hlk
          have hpk := hn
          have hlk := hm
          clear hn hm
          clear k0 k1 k2 k3
          obtain ⟨k0, k1, k2, k3⟩ := ink4 hpk
          have hBn : Below w.heap.size w w6 := below_then (by first | exact hB | exact (by repeat (first | with_reducible exact Below.refl _ _ | with_reducible assumption | ((with_reducible refine Below.alloc ?_ ?hb_ _); (case hb_ => first | omega | (simp; done) | (simp; omega))) | ((with_reducible refine Below.setCell ?_ ?hb_ _); (case hb_ => first | omega | (simp; done) | (simp; omega))) | with_reducible refine Below.drew ?_ | with_reducible refine below_drewN ?_ _))) (by first | omega | (simp; omega)) hb
          have hsn : w.heap.size ≤ (w6).heap.size := hBn.size
          clear hB hsz hb
          have hB := hBn
          have hsz := hsn
          clear hBn hsn
          go_wp2_with fail
          rw [eql4]
          go_simp
          go_wp2_with fail
          go_ret
          exact ⟨rfl, (by repeat (first | with_reducible exact Below.refl _ _ | with_reducible assumption | ((with_reducible refine Below.alloc ?_ ?hb_ _); (case hb_ => first | omega | (simp; done) | (simp; omega))) | ((with_reducible refine Below.setCell ?_ ?hb_ _); (case hb_ => first | omega | (simp; done) | (simp; omega))) | with_reducible refine Below.drew ?_ | with_reducible refine below_drewN ?_ _))⟩
        · have hfa : is = false := by
            rw [His.out]
            by_cases q1 : 0 ≤ dx <;> by_cases q2 : dx < W * w1 <;> by_cases q3 : 0 ≤ dy <;> by_cases q4 : dy < H * h1 <;> simp [q1, q2, q3, q4] <;> exact hall ⟨q1, q2, q3, q4⟩
          subst hfa
          obtain ⟨⟨rfl, rfl⟩, rfl, rfl, rfl, rfl⟩ := Hout.out rfl
          by_cases q1 : 0 ≤ dx
          · by_cases q2 : dx < W * w1
            · by_cases q3 : 0 ≤ dy
              · have q4 : ¬ dy < H * h1 := fun h => hall ⟨q1, q2, q3, h⟩
                clear hall
                go_wp2_with fail
                rw [eql4]
                go_simp
                go_wp2_with fail
                go_ret
                exact ⟨rfl, hB⟩
              · clear hall
                go_wp2_with fail
                rw [eql4]
                go_simp
                go_wp2_with fail
                go_ret
                exact ⟨rfl, hB⟩
            · clear hall
              go_wp2_with fail
              rw [eql4]
              go_simp
              go_wp2_with fail
              go_ret
              exact ⟨rfl, hB⟩
          · clear hall
            go_wp2_with fail
            rw [eql4]
            go_simp
            go_wp2_with fail
            go_ret
            exact ⟨rfl, hB⟩
end Go.Proofs.Ytkkeahnmmpcceaa.T3
