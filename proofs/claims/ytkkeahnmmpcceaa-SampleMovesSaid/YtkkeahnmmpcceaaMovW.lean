/- SampleMoves: the walk. -/
import Derived.Test.YtkkeahnmmpcceaaExaW
import Derived.WalkKit
import Derived.Lib.Hide
import Derived.Deep.QuietTactic
import Derived.BigQuiet
import Derived.Lib.QuietBelow
import Derived.Deep.RegionHeld3
import Derived.WalkLawsBesides
import Derived.WalkSpells
import Derived.Outline
import Derived.Deep.DeepFit
import Derived.Maps.AppendAt
import Derived.Deep.AppendLies
namespace Go.Proofs.Ytkkeahnmmpcceaa.T3
open Go.RowKit
theorem at_same {W N : Int} {S : ByteArray} {H A B C D E F x y H' A' B' C' D' E' F' x' y' : Int} (h1 : placeE W H N S A B C D E F x y = placeE W H' N S A' B' C' D' E' F' x' y') (h2 : placeIs W H N S A B C D E F x y = placeIs W H' N S A' B' C' D' E' F' x' y')
    (h3 : placeIs W H N S A B C D E F x y = true → placeI W H N S A B C D E F x y = placeI W H' N S A' B' C' D' E' F' x' y' ∧ placeJ W H N S A B C D E F x y = placeJ W H' N S A' B' C' D' E' F' x' y') : atV W H N S A B C D E F x y = atV W H' N S A' B' C' D' E' F' x' y' := by
  unfold atV
  by_cases hi : placeIs W H N S A B C D E F x y = true
  · rw [← h2, hi, (h3 hi).1, (h3 hi).2, h1]
  · have hi' : placeIs W H N S A B C D E F x y = false := by simpa using hi
    rw [← h2, hi', h1]
    rfl
theorem near_ok {W H N : Int} {S : ByteArray} {A B C D E F A' B' C' D' E' F' : Int} (h : pOk W H N S A B C D E F) (hm : mOk A' B' C' D' E' F') : pOk W H N S A' B' C' D' E' F' := ⟨h.1, h.2.1, h.2.2.1, hm, h.2.2.2.2⟩
/-- what SampleMoves asks of inks -/
theorem moves_at {W H N : Int} {S : ByteArray} {A B C D E F x y b c : Int} (h : pOk W H N S A B C D E F) (hn : (-400000 ≤ A ∧ A ≤ 400000) ∧ (-400000 ≤ B ∧ B ≤ 400000) ∧ (-400000 ≤ C ∧ C ≤ 400000) ∧ (-400000 ≤ D ∧ D ≤ 400000) ∧ (-3000000 ≤ E ∧ E ≤ 3000000) ∧ (-3000000 ≤ F ∧ F ≤ 3000000)) (hx : -128 ≤ x ∧ x ≤ 127) (hy : -128 ≤ y ∧ y ≤ 127) (hb : -128 ≤ b ∧ b ≤ 127) (hc : -128 ≤ c ∧ c ≤ 127) :
    ∃ (i0 i1 i2 i3 : Int) (is : Bool), atV W H N S A B C D E F x y = .tuple #[.agg #[.int .i64 i0, .int .i64 i1, .int .i64 i2, .int .i64 i3], .bool is, .int .i64 0] ∧ atV W H N S A B C D (E + b * 65536) (F + c * 65536) (x + b) (y + c) = .tuple #[.agg #[.int .i64 i0, .int .i64 i1, .int .i64 i2, .int .i64 i3], .bool is, .int .i64 0] ∧ atV W H N S B A D C F E y x = .tuple #[.agg #[.int .i64 i0, .int .i64 i1, .int .i64 i2, .int .i64 i3], .bool is, .int .i64 0] := by
  have hp := pix_i8 hx hy
  have hp2 : pixOk (x + b) (y + c) = true := by
    unfold pixOk
    simp only [Bool.and_eq_true, decide_eq_true_eq]
    omega
  have hk2 : pOk W H N S A B C D (E + b * 65536) (F + c * 65536) := near_ok h (by unfold mOk; omega)
  have hk3 : pOk W H N S B A D C F E := near_ok h (by unfold mOk; omega)
  obtain ⟨e1, p1⟩ := place_ok h hp
  obtain ⟨e2, p2⟩ := place_ok hk2 hp2
  obtain ⟨e3, p3⟩ := place_ok hk3 (pix_i8 hy hx)
  obtain ⟨m1, m2, m3⟩ := moved_of W H A B C D E F x y b c
  obtain ⟨t1, t2⟩ := turned_of W H A B C D E F x y
  obtain ⟨i0, i1, i2, i3, is, e, hV⟩ := atV_form W H N S A B C D E F x y
  have he : e = 0 := by
    have : atV W H N S A B C D E F x y = .tuple #[_, _, .int .i64 (placeE W H N S A B C D E F x y)] := rfl
    rw [this, e1] at hV
    exact ((by simpa using hV.symm : _ ∧ _ ∧ e = 0)).2.2
  subst he
  refine ⟨i0, i1, i2, i3, is, hV, ?_, ?_⟩
  · rw [← hV]
    refine (at_same (by rw [e1, e2]) (by rw [p1, p2, m3]) fun hi => ?_).symm
    have hi2 : placeIs W H N S A B C D (E + b * 65536) (F + c * 65536) (x + b) (y + c) = true := by rw [p2, m3, ← p1]; exact hi
    exact ⟨by rw [placeI, placeI, if_pos hi, if_pos hi2, m1], by rw [placeJ, placeJ, if_pos hi, if_pos hi2, m2]⟩
  · rw [← hV]
    refine (at_same (by rw [e1, e3]) (by rw [p1, p3, t1]) fun hi => ?_).symm
    have hi2 : placeIs W H N S B A D C F E y x = true := by rw [p3, t1, ← p1]; exact hi
    have hi3 : inP W H A B C D E F x y = true := by rw [← p1]; exact hi
    exact ⟨by rw [placeI, placeI, if_pos hi, if_pos hi2, (t2 hi3).1], by rw [placeJ, placeJ, if_pos hi, if_pos hi2, (t2 hi3).2]⟩
/-- .. and of places -/
theorem moves_place {W H N : Int} {S : ByteArray} {A B C D E F x y : Int} (h : pOk W H N S A B C D E F) (hW : W ≤ 9) (hn : (-400000 ≤ A ∧ A ≤ 400000) ∧ (-400000 ≤ B ∧ B ≤ 400000) ∧ (-400000 ≤ C ∧ C ≤ 400000) ∧ (-400000 ≤ D ∧ D ≤ 400000) ∧ (-3000000 ≤ E ∧ E ≤ 3000000) ∧ (-3000000 ≤ F ∧ F ≤ 3000000)) (hx : -128 ≤ x ∧ x ≤ 127) (hy : -128 ≤ y ∧ y ≤ 127) :
    ∃ (I J : Int) (one : Bool) (K L : Int) (two : Bool), placeV W H N S A B C D E F x y = .tuple #[.int .i64 I, .int .i64 J, .bool one, .int .i64 0] ∧ placeV W H N S (-A) (-B) C D (E + W * A) (F + W * B) x y = .tuple #[.int .i64 K, .int .i64 L, .bool two, .int .i64 0] ∧ (0 ≤ I ∧ I ≤ 64) ∧ (0 ≤ K ∧ K ≤ 64) ∧ (one = true → two = true → J = L ∧ (I + K = W - 1 ∨ I + K = W)) := by
  have hp := pix_i8 hx hy
  have w1 := mul_bd (a := W) (b := A) (X := 9) (Y := 400000) (by have := h.1.1; omega) hW hn.1.1 hn.1.2
  have w2 := mul_bd (a := W) (b := B) (X := 9) (Y := 400000) (by have := h.1.1; omega) hW hn.2.1.1 hn.2.1.2
  have hk2 : pOk W H N S (-A) (-B) C D (E + W * A) (F + W * B) := near_ok h (by unfold mOk; omega)
  obtain ⟨I, J, one, hV, hI, _, _⟩ := exact_ask h hp
  obtain ⟨K, L, two, hV2, hK, _, _⟩ := exact_ask hk2 hp
  obtain ⟨e1, p1⟩ := place_ok h hp
  obtain ⟨e2, p2⟩ := place_ok hk2 hp
  refine ⟨I, J, one, K, L, two, hV, hV2, hI, hK, fun h1 h2 => ?_⟩
  unfold placeV at hV hV2
  simp only [Value.tuple.injEq, Array.mk.injEq, List.cons.injEq, Value.int.injEq, Value.bool.injEq, true_and, and_true] at hV hV2
  obtain ⟨a1, a2, a3, _⟩ := hV
  obtain ⟨b1, b2, b3, _⟩ := hV2
  rw [h1] at a3
  rw [h2] at b3
  rw [placeI, if_pos a3] at a1
  rw [placeJ, if_pos a3] at a2
  rw [placeI, if_pos b3] at b1
  rw [placeJ, if_pos b3] at b2
  have hd : ¬ A * D - B * C = 0 := by
    intro h0
    rw [exact_zero h hp h0] at a3
    cases a3
  obtain ⟨m1, m2⟩ := mirror_of (W := W) (A := A) (B := B) (C := C) (D := D) (E := E) (F := F) (x := x) (y := y) hd
  rw [a2, b2] at m1
  rw [a1, b1] at m2
  exact ⟨m1.symm, m2⟩
set_option maxRecDepth 100000 in
set_option maxHeartbeats 8000000 in
theorem moves_walk (a0_W : Int) (a0_H : Int) (a0_N : Int) (a0_Data : Option Addr) (a0_Data_l a0_Data_c : Nat) (a0_M_Kind : Int) (a0_M_A : Int) (a0_M_B : Int) (a0_M_C : Int) (a0_M_D : Int) (a0_M_E : Int) (a0_M_F : Int) (a0_Near : Bool) (a1_0 : Int) (a1_1 : Int) (a2 : Int) (a3 : Int) (w : World) (s_a0_W : (Lit.int .u8 a0_W).wf = true) (s_a0_H : (Lit.int .u8 a0_H).wf = true) (s_a0_N : (Lit.int .u8 a0_N).wf = true) (s_a0_Data : IsRow .u8 w a0_Data a0_Data_l a0_Data_c) (s_a0_M_Kind : (Lit.int .u8 a0_M_Kind).wf = true) (s_a0_M_A : (Lit.int .i32 a0_M_A).wf = true) (s_a0_M_B : (Lit.int .i32 a0_M_B).wf = true) (s_a0_M_C : (Lit.int .i32 a0_M_C).wf = true) (s_a0_M_D : (Lit.int .i32 a0_M_D).wf = true) (s_a0_M_E : (Lit.int .i32 a0_M_E).wf = true) (s_a0_M_F : (Lit.int .i32 a0_M_F).wf = true) (s_a1_0 : (Lit.int .i8 a1_0).wf = true) (s_a1_1 : (Lit.int .i8 a1_1).wf = true) (s_a2 : (Lit.int .i8 a2).wf = true) (s_a3 : (Lit.int .i8 a3).wf = true) :
  Calls Try.prog 6 #[.agg #[.int .u8 a0_W, .int .u8 a0_H, .int .u8 a0_N, .slice a0_Data a0_Data_l a0_Data_c, .int .u8 a0_M_Kind, .int .i32 a0_M_A, .int .i32 a0_M_B, .int .i32 a0_M_C, .int .i32 a0_M_D, .int .i32 a0_M_E, .int .i32 a0_M_F, .bool a0_Near], .agg #[.int .i8 a1_0, .int .i8 a1_1], .int .i8 a2, .int .i8 a3] w fun e w' => e = .returned (.bool true) ∧ Below w.heap.size w w' := by
  have ho0 := s_a0_Data.octets
  have hle := s_a0_Data.le
  have hb0 := bounds_i8 s_a1_0
  have hb1 := bounds_i8 s_a1_1
  have hx0 := bounds_i8 s_a2
  have hy0 := bounds_i8 s_a3
  clear s_a0_Data s_a1_0 s_a1_1 s_a2 s_a3
  go_enter Try.func6, Try.ntmps6
  go_wp2_with fail
  have hpd := (Below.heap_alloc (w.alloc (.cells #[.int .u8 a0_W, .int .u8 a0_H, .int .u8 a0_N, .slice a0_Data a0_Data_l a0_Data_c, .int .u8 a0_M_Kind, .int .i32 a0_M_A, .int .i32 a0_M_B, .int .i32 a0_M_C, .int .i32 a0_M_D, .int .i32 a0_M_E, .int .i32 a0_M_F, .bool a0_Near] 26)) (.cells #[.int .i8 a1_0, .int .i8 a1_1] 48) w.heap.size (by simp)).trans (heap_alloc_new w (.cells #[.int .u8 a0_W, .int .u8 a0_H, .int .u8 a0_N, .slice a0_Data a0_Data_l a0_Data_c, .int .u8 a0_M_Kind, .int .i32 a0_M_A, .int .i32 a0_M_B, .int .i32 a0_M_C, .int .i32 a0_M_D, .int .i32 a0_M_E, .int .i32 a0_M_F, .bool a0_Near] 26))
  have hld : w.heap.size < ((w.alloc (.cells #[.int .u8 a0_W, .int .u8 a0_H, .int .u8 a0_N, .slice a0_Data a0_Data_l a0_Data_c, .int .u8 a0_M_Kind, .int .i32 a0_M_A, .int .i32 a0_M_B, .int .i32 a0_M_C, .int .i32 a0_M_D, .int .i32 a0_M_E, .int .i32 a0_M_F, .bool a0_Near] 26)).alloc (.cells #[.int .i8 a1_0, .int .i8 a1_1] 48)).heap.size := by simp; omega
  have hpk := heap_alloc_at (w.alloc (.cells #[.int .u8 a0_W, .int .u8 a0_H, .int .u8 a0_N, .slice a0_Data a0_Data_l a0_Data_c, .int .u8 a0_M_Kind, .int .i32 a0_M_A, .int .i32 a0_M_B, .int .i32 a0_M_C, .int .i32 a0_M_D, .int .i32 a0_M_E, .int .i32 a0_M_F, .bool a0_Near] 26)) (.cells #[.int .i8 a1_0, .int .i8 a1_1] 48) (w.heap.size + 1) (by simp)
  have hlk : w.heap.size + 1 < ((w.alloc (.cells #[.int .u8 a0_W, .int .u8 a0_H, .int .u8 a0_N, .slice a0_Data a0_Data_l a0_Data_c, .int .u8 a0_M_Kind, .int .i32 a0_M_A, .int .i32 a0_M_B, .int .i32 a0_M_C, .int .i32 a0_M_D, .int .i32 a0_M_E, .int .i32 a0_M_F, .bool a0_Near] 26)).alloc (.cells #[.int .i8 a1_0, .int .i8 a1_1] 48)).heap.size := by simp
  have hB : Below w.heap.size w w := Below.refl _ w
  have hsz : w.heap.size ≤ w.heap.size := Nat.le_refl _
  obtain ⟨d0, d1, d2, d3, d4, d5, d6, d7, d8, d9, d10, d11⟩ := cel12 hpd
  obtain ⟨k0, k1⟩ := cel2 hpk
  refine (works_any _).mono ?_
  rintro e w1 ⟨rfl, hb⟩
  have hn : (w1).heap[w.heap.size]? = _ := (hb.block (w.heap.size) (by first | exact hld | (simp; omega))).trans (by first | exact hpd | exact (Below.heap_alloc _ _ _ hld).trans hpd | exact (Below.heap_alloc _ _ _ (by simp; omega)).trans ((Below.heap_alloc _ _ _ hld).trans hpd) | exact (Below.heap_alloc _ _ _ (by simp; omega)).trans ((Below.heap_alloc _ _ _ (by simp; omega)).trans ((Below.heap_alloc _ _ _ hld).trans hpd)) | exact (Below.heap_alloc _ _ _ (by simp; omega)).trans ((Below.heap_alloc _ _ _ (by simp; omega)).trans ((Below.heap_alloc _ _ _ (by simp; omega)).trans ((Below.heap_alloc _ _ _ hld).trans hpd))))
  have hm : w.heap.size < (w1).heap.size := by (have hq := hb.size; (try simp at hq); omega)
  clear hpd hld
  have hpd := hn
  have hld := hm
  clear hn hm
  clear d0 d1 d2 d3 d4 d5 d6 d7 d8 d9 d10 d11
  obtain ⟨d0, d1, d2, d3, d4, d5, d6, d7, d8, d9, d10, d11⟩ := cel12 hpd
  have hn : (w1).heap[w.heap.size + 1]? = _ := (hb.block (w.heap.size + 1) (by first | exact hlk | (simp; omega))).trans (by first | exact hpk | exact (Below.heap_alloc _ _ _ hlk).trans hpk | exact (Below.heap_alloc _ _ _ (by simp; omega)).trans ((Below.heap_alloc _ _ _ hlk).trans hpk) | exact (Below.heap_alloc _ _ _ (by simp; omega)).trans ((Below.heap_alloc _ _ _ (by simp; omega)).trans ((Below.heap_alloc _ _ _ hlk).trans hpk)) | exact (Below.heap_alloc _ _ _ (by simp; omega)).trans ((Below.heap_alloc _ _ _ (by simp; omega)).trans ((Below.heap_alloc _ _ _ (by simp; omega)).trans ((Below.heap_alloc _ _ _ hlk).trans hpk))))
  have hm : w.heap.size + 1 < (w1).heap.size := by (have hq := hb.size; (try simp at hq); omega)
  clear hpk hlk
  have hpk := hn
  have hlk := hm
  clear hn hm
  clear k0 k1
  obtain ⟨k0, k1⟩ := cel2 hpk
  have hBn : Below w.heap.size w w1 := below_then (by first | exact hB | exact (by repeat (first | with_reducible exact Below.refl _ _ | with_reducible assumption | ((with_reducible refine Below.alloc ?_ ?hb_ _); (case hb_ => first | omega | (simp; done) | (simp; omega))) | ((with_reducible refine Below.setCell ?_ ?hb_ _); (case hb_ => first | omega | (simp; done) | (simp; omega))) | with_reducible refine Below.drew ?_ | with_reducible refine below_drewN ?_ _))) (by first | omega | (simp; omega)) hb
  have hsn : w.heap.size ≤ (w1).heap.size := hBn.size
  clear hB hsz hb
  have hB := hBn
  have hsz := hsn
  clear hBn hsn
  have fd : w1.frozen? ⟨w.heap.size, 11, none⟩ = false := frozen_of_row _ _ _ _ _ hpd
  go_wp2_with fail
  have hBs : Below w.heap.size w (w1.setCell ⟨w.heap.size, 11, none⟩ (.bool true)) := (by repeat (first | with_reducible exact Below.refl _ _ | with_reducible assumption | ((with_reducible refine Below.alloc ?_ ?hb_ _); (case hb_ => first | omega | (simp; done) | (simp; omega))) | ((with_reducible refine Below.setCell ?_ ?hb_ _); (case hb_ => first | omega | (simp; done) | (simp; omega))) | with_reducible refine Below.drew ?_ | with_reducible refine below_drewN ?_ _))
  have ho1 := ho0.below hBs (Nat.le_refl _)
  refine (dpicture_any _ _ _ _ _ _ _ _ _ _ _ _ _ _ _ (bounds_u8 s_a0_W) (bounds_u8 s_a0_H) (bounds_u8 s_a0_N) ho1 hle (bounds_u8 s_a0_M_Kind) (bounds_i32 s_a0_M_A) (bounds_i32 s_a0_M_B) (bounds_i32 s_a0_M_C) (bounds_i32 s_a0_M_D) (bounds_i32 s_a0_M_E) (bounds_i32 s_a0_M_F)).mono ?_
  rintro e w2 ⟨⟨W, H, N, S, A, B, C, D, E, F, hok, hw9, hh9, hnear, rfl⟩, hb⟩
  have hnr := hnear rfl
  have hB2 := below_then hBs (by simp; omega) hb
  have hpk2 : w2.heap[w.heap.size + 1]? = some (.cells #[.int .i8 a1_0, .int .i8 a1_1] 48 (0, 0)) := (hb.block _ (by simp; omega)).trans ((heap_setCell_other _ _ _ _ (by simp)).trans hpk)
  have hlk2 : w.heap.size + 1 < w2.heap.size := by have hq := hb.size; simp at hq; omega
  clear hB hBs hb hpk hlk k0 k1 hpd hld d0 d1 d2 d3 d4 d5 d6 d7 d8 d9 d10 d11 fd ho0 ho1 hle hnear hsz s_a0_W s_a0_H s_a0_N s_a0_M_Kind s_a0_M_A s_a0_M_B s_a0_M_C s_a0_M_D s_a0_M_E s_a0_M_F
  have hB := hB2
  have hpk := hpk2
  have hlk := hlk2
  have hsz : w.heap.size ≤ w2.heap.size := hB.size
  clear hB2 hpk2 hlk2
  have hq2 : w.heap.size + 1 < w2.heap.size := hlk
  obtain ⟨k0, k1⟩ := cel2 hpk
  obtain ⟨i0, i1, i2, i3, is, hA1, hA2, hA3⟩ := moves_at hok hnr hx0 hy0 hb0 hb1
  obtain ⟨I, J, one, K, L, two, hV1, hV2, hIb, hKb, hfin⟩ := moves_place hok hw9 hnr hx0 hy0
  have HA1 := Lib.hid hA1
  have HA2 := Lib.hid hA2
  have HA3 := Lib.hid hA3
  have HV1 := Lib.hid hV1
  have HV2 := Lib.hid hV2
  have Hfin := Lib.hid hfin
  have hWb := hok.1
  have hSz := pOk_few hok hw9 hh9
  obtain ⟨hna, hnb, hnc, hnd, hne, hnf⟩ := hnr
  clear hA1 hA2 hA3 hV1 hV2 hfin hok
  go_wp2_with fail
  have hpp := heap_alloc_new w2 (.cells #[.int .i64 W, .int .i64 H, .int .i64 N, .string S, .int .i64 A, .int .i64 B, .int .i64 C, .int .i64 D, .int .i64 E, .int .i64 F] 30)
  have hlp : w2.heap.size < (w2.alloc (.cells #[.int .i64 W, .int .i64 H, .int .i64 N, .string S, .int .i64 A, .int .i64 B, .int .i64 C, .int .i64 D, .int .i64 E, .int .i64 F] 30)).heap.size := by simp
  obtain ⟨p0, p1, p2, p3, p4, p5, p6, p7, p8, p9⟩ := pic10 hpp
  refine (sat_any _ _ _ _ _ _ _ _ _ _ _ _ _ (by omega)).mono ?_
  rintro e w3 ⟨rfl, hb⟩
  rw [HA1.out]
  have hn : (w3).heap[w2.heap.size]? = _ := (hb.block (w2.heap.size) (by first | exact hlp | (simp; omega))).trans (by first | exact hpp | exact (Below.heap_alloc _ _ _ hlp).trans hpp | exact (Below.heap_alloc _ _ _ (by simp; omega)).trans ((Below.heap_alloc _ _ _ hlp).trans hpp) | exact (Below.heap_alloc _ _ _ (by simp; omega)).trans ((Below.heap_alloc _ _ _ (by simp; omega)).trans ((Below.heap_alloc _ _ _ hlp).trans hpp)) | exact (Below.heap_alloc _ _ _ (by simp; omega)).trans ((Below.heap_alloc _ _ _ (by simp; omega)).trans ((Below.heap_alloc _ _ _ (by simp; omega)).trans ((Below.heap_alloc _ _ _ hlp).trans hpp))))
  have hm : w2.heap.size < (w3).heap.size := by (have hq := hb.size; (try simp at hq); omega)
  clear hpp hlp
  have hpp := hn
  have hlp := hm
  clear hn hm
  clear p0 p1 p2 p3 p4 p5 p6 p7 p8 p9
  obtain ⟨p0, p1, p2, p3, p4, p5, p6, p7, p8, p9⟩ := pic10 hpp
  have hn : (w3).heap[w.heap.size + 1]? = _ := (hb.block (w.heap.size + 1) (by first | exact hlk | (simp; omega))).trans (by first | exact hpk | exact (Below.heap_alloc _ _ _ hlk).trans hpk | exact (Below.heap_alloc _ _ _ (by simp; omega)).trans ((Below.heap_alloc _ _ _ hlk).trans hpk) | exact (Below.heap_alloc _ _ _ (by simp; omega)).trans ((Below.heap_alloc _ _ _ (by simp; omega)).trans ((Below.heap_alloc _ _ _ hlk).trans hpk)) | exact (Below.heap_alloc _ _ _ (by simp; omega)).trans ((Below.heap_alloc _ _ _ (by simp; omega)).trans ((Below.heap_alloc _ _ _ (by simp; omega)).trans ((Below.heap_alloc _ _ _ hlk).trans hpk))))
  have hm : w.heap.size + 1 < (w3).heap.size := by (have hq := hb.size; (try simp at hq); omega)
  clear hpk hlk
  have hpk := hn
  have hlk := hm
  clear hn hm
  clear k0 k1
  obtain ⟨k0, k1⟩ := cel2 hpk
  have hBn : Below w.heap.size w w3 := below_then (by first | exact hB | exact (by repeat (first | with_reducible exact Below.refl _ _ | with_reducible assumption | ((with_reducible refine Below.alloc ?_ ?hb_ _); (case hb_ => first | omega | (simp; done) | (simp; omega))) | ((with_reducible refine Below.setCell ?_ ?hb_ _); (case hb_ => first | omega | (simp; done) | (simp; omega))) | with_reducible refine Below.drew ?_ | with_reducible refine below_drewN ?_ _))) (by first | omega | (simp; omega)) hb
  have hsn : w.heap.size ≤ (w3).heap.size := hBn.size
  clear hB hsz hb
  have hB := hBn
  have hsz := hsn
  clear hBn hsn
  go_wp2_with fail
  obtain ⟨wy, hwy⟩ : ∃ wy, wy = ((w3.alloc (.cells #[.int .i64 i0, .int .i64 i1, .int .i64 i2, .int .i64 i3] 41)).alloc (.cells #[.int .i64 W, .int .i64 H, .int .i64 N, .string S, .int .i64 A, .int .i64 B, .int .i64 C, .int .i64 D, .int .i64 E, .int .i64 F] 30)) := ⟨_, rfl⟩
  have hBy : Below w.heap.size w wy := by
    rw [hwy]
    exact (by repeat (first | with_reducible exact Below.refl _ _ | with_reducible assumption | ((with_reducible refine Below.alloc ?_ ?hb_ _); (case hb_ => first | omega | (simp; done) | (simp; omega))) | ((with_reducible refine Below.setCell ?_ ?hb_ _); (case hb_ => first | omega | (simp; done) | (simp; omega))) | with_reducible refine Below.drew ?_ | with_reducible refine below_drewN ?_ _))
  have hpy : wy.heap[w2.heap.size]? = some (.cells #[.int .i64 W, .int .i64 H, .int .i64 N, .string S, .int .i64 A, .int .i64 B, .int .i64 C, .int .i64 D, .int .i64 E, .int .i64 F] 30 (0, 0)) := by rw [hwy]; exact (Below.heap_alloc _ _ _ (by simp; omega)).trans ((Below.heap_alloc _ _ _ hlp).trans hpp)
  have hky : wy.heap[w.heap.size + 1]? = some (.cells #[.int .i8 a1_0, .int .i8 a1_1] 48 (0, 0)) := by rw [hwy]; exact (Below.heap_alloc _ _ _ (by simp; omega)).trans ((Below.heap_alloc _ _ _ hlk).trans hpk)
  have hay : wy.heap[w3.heap.size]? = some (.cells #[.int .i64 i0, .int .i64 i1, .int .i64 i2, .int .i64 i3] 41 (0, 0)) := by rw [hwy]; exact (Below.heap_alloc _ _ _ (by simp)).trans (heap_alloc_new w3 _)
  have hmy : wy.heap[w3.heap.size + 1]? = some (.cells #[.int .i64 W, .int .i64 H, .int .i64 N, .string S, .int .i64 A, .int .i64 B, .int .i64 C, .int .i64 D, .int .i64 E, .int .i64 F] 30 (0, 0)) := by rw [hwy]; exact heap_alloc_at _ _ _ (by simp)
  have hly : wy.heap.size = w3.heap.size + 2 := by rw [hwy]; simp
  rw [← hwy]
  have hq1 : w2.heap.size < w3.heap.size := hlp
  clear hwy hB hpp hlp p0 p1 p2 p3 p4 p5 p6 p7 p8 p9 hpk hlk k0 k1
  have hl1 : w2.heap.size < wy.heap.size := by omega
  have hl2 : w.heap.size + 1 < wy.heap.size := by omega
  have hl3 : w3.heap.size + 1 < wy.heap.size := by omega
  have hl4 : w3.heap.size < wy.heap.size := by omega
  have e1 : w2.heap.size ≠ w3.heap.size + 1 := by omega
  have e2 : w.heap.size + 1 ≠ w3.heap.size + 1 := by omega
  have e3 : w.heap.size ≠ w3.heap.size := by omega
  have HL := Lib.hid hly
  clear hly
  obtain ⟨p0, p1, p2, p3, p4, p5, p6, p7, p8, p9⟩ := pic10 hpy
  obtain ⟨m0, m1, m2, m3, m4, m5, m6, m7, m8, m9⟩ := pic10 hmy
  obtain ⟨k0, k1⟩ := cel2 hky
  have f8 := picf10 hmy 8
  have f9 := picf10 hmy 9
  go_cut [] from 46 to 65 (fun wx => Below w.heap.size w wx ∧ wx.heap.size = w3.heap.size + 2 ∧ wx.heap[w2.heap.size]? = some (.cells #[.int .i64 W, .int .i64 H, .int .i64 N, .string S, .int .i64 A, .int .i64 B, .int .i64 C, .int .i64 D, .int .i64 E, .int .i64 F] 30 (0, 0)) ∧ wx.heap[w.heap.size + 1]? = some (.cells #[.int .i8 a1_0, .int .i8 a1_1] 48 (0, 0)) ∧ wx.heap[w3.heap.size]? = some (.cells #[.int .i64 i0, .int .i64 i1, .int .i64 i2, .int .i64 i3] 41 (0, 0)) ∧ wx.heap[w3.heap.size + 1]? = some (.cells #[.int .i64 W, .int .i64 H, .int .i64 N, .string S, .int .i64 A, .int .i64 B, .int .i64 C, .int .i64 D, .int .i64 (E + a1_0 * 65536), .int .i64 (F + a1_1 * 65536)] 30 (0, 0)))
  case first =>
    refine wp_region_ord (.s 0 .p (.s 1 .p (.s 2 .l (.s 3 .p (.s 4 .l (.s 5 .p (.s 6 .p (.s 7 .p (.s 8 .p (.s 9 .p (.s 10 .l (.s 11 .p (.s 12 .l (.s 13 .p (.s 14 .p (.s 15 .p (.s 16 .p (.s 17 .p (.s 18 .e (.s 19 .p (.s 20 .p (.s 21 .e .done)))))))))))))))))))))) (Held _ [w3.heap.size + 1]) (by kernel_rfl) (by kernel_rfl) (fun _ _ _ _ _ h => h) (Held.refl _ _) ?_
    (apply wpOrd_p2 rfl rfl rfl rfl rfl; (intro w' K hK; (first | go_big_move | go_big_op | go_wp2_with fail); exact hK))
    (apply wpOrd_p2 rfl rfl rfl rfl rfl; (intro w' K hK; (first | go_big_move | go_big_op | go_wp2_with fail); exact hK))
    (apply wpOrd_l2 rfl rfl rfl rfl rfl; (intro w' K hS' hK; (have hr' := hS'.cell; simp at hr'; (first | go_big_op | go_wp2_with fail); exact hK)); (first | assumption | exact Held.refl _ _ | exact Held.of_below (by repeat (first | with_reducible exact Below.refl _ _ | with_reducible assumption | ((with_reducible refine Below.alloc ?_ ?hb_ _); (case hb_ => first | omega | (simp; done) | (simp; omega))) | ((with_reducible refine Below.setCell ?_ ?hb_ _); (case hb_ => first | omega | (simp; done) | (simp; omega))) | with_reducible refine Below.drew ?_ | with_reducible refine below_drewN ?_ _))))
    (apply wpOrd_p2 rfl rfl rfl rfl rfl; (intro w' K hK; (first | go_big_move | go_big_op | go_wp2_with fail); exact hK))
    (apply wpOrd_l2 rfl rfl rfl rfl rfl; (intro w' K hS' hK; (have hr' := hS'.cell; simp at hr'; (first | go_big_op | go_wp2_with fail); exact hK)); (first | assumption | exact Held.refl _ _ | exact Held.of_below (by repeat (first | with_reducible exact Below.refl _ _ | with_reducible assumption | ((with_reducible refine Below.alloc ?_ ?hb_ _); (case hb_ => first | omega | (simp; done) | (simp; omega))) | ((with_reducible refine Below.setCell ?_ ?hb_ _); (case hb_ => first | omega | (simp; done) | (simp; omega))) | with_reducible refine Below.drew ?_ | with_reducible refine below_drewN ?_ _))))
    (apply wpOrd_p2 rfl rfl rfl rfl rfl; (intro w' K hK; (first | go_big_move | go_big_op | go_wp2_with fail); exact hK))
    (apply wpOrd_p2 rfl rfl rfl rfl rfl; (intro w' K hK; (first | go_big_move | go_big_op | go_wp2_with fail); exact hK))
    (apply wpOrd_p2 rfl rfl rfl rfl rfl; (intro w' K hK; (first | go_big_move | go_big_op | go_wp2_with fail); exact hK))
    (apply wpOrd_p2 rfl rfl rfl rfl rfl; (intro w' K hK; (first | go_big_move | go_big_op | go_wp2_with fail); exact hK))
    (apply wpOrd_p2 rfl rfl rfl rfl rfl; (intro w' K hK; (first | go_big_move | go_big_op | go_wp2_with fail); exact hK))
    (apply wpOrd_l2 rfl rfl rfl rfl rfl; (intro w' K hS' hK; (have hr' := hS'.cell; simp at hr'; (first | go_big_op | go_wp2_with fail); exact hK)); (first | assumption | exact Held.refl _ _ | exact Held.of_below (by repeat (first | with_reducible exact Below.refl _ _ | with_reducible assumption | ((with_reducible refine Below.alloc ?_ ?hb_ _); (case hb_ => first | omega | (simp; done) | (simp; omega))) | ((with_reducible refine Below.setCell ?_ ?hb_ _); (case hb_ => first | omega | (simp; done) | (simp; omega))) | with_reducible refine Below.drew ?_ | with_reducible refine below_drewN ?_ _))))
    (apply wpOrd_p2 rfl rfl rfl rfl rfl; (intro w' K hK; (first | go_big_move | go_big_op | go_wp2_with fail); exact hK))
    (apply wpOrd_l2 rfl rfl rfl rfl rfl; (intro w' K hS' hK; (have hr' := hS'.cell; simp at hr'; (first | go_big_op | go_wp2_with fail); exact hK)); (first | assumption | exact Held.refl _ _ | exact Held.of_below (by repeat (first | with_reducible exact Below.refl _ _ | with_reducible assumption | ((with_reducible refine Below.alloc ?_ ?hb_ _); (case hb_ => first | omega | (simp; done) | (simp; omega))) | ((with_reducible refine Below.setCell ?_ ?hb_ _); (case hb_ => first | omega | (simp; done) | (simp; omega))) | with_reducible refine Below.drew ?_ | with_reducible refine below_drewN ?_ _))))
    (apply wpOrd_p2 rfl rfl rfl rfl rfl; (intro w' K hK; (first | go_big_move | go_big_op | go_wp2_with fail); exact hK))
    (apply wpOrd_p2 rfl rfl rfl rfl rfl; (intro w' K hK; (first | go_big_move | go_big_op | go_wp2_with fail); exact hK))
    (apply wpOrd_p2 rfl rfl rfl rfl rfl; (intro w' K hK; (first | go_big_move | go_big_op | go_wp2_with fail); exact hK))
    (apply wpOrd_p2 rfl rfl rfl rfl rfl; (intro w' K hK; (first | go_big_move | go_big_op | go_wp2_with fail); exact hK))
    (apply wpOrd_p2 rfl rfl rfl rfl rfl; (intro w' K hK; (first | go_big_move | go_big_op | go_wp2_with fail); exact hK))
    (refine wpOrd_e1 rfl rfl (fun K hK => ?_)); (first | go_big_op | go_wp2_with fail)
    refine hK _ _ (Held.setCell (Held.refl _ _) _ _ (.inr (by simp))) ?_; clear hK K
    (apply wpOrd_p2 rfl rfl rfl rfl rfl; (intro w' K hK; (first | go_big_move | go_big_op | go_wp2_with fail); exact hK))
    (apply wpOrd_p2 rfl rfl rfl rfl rfl; (intro w' K hK; (first | go_big_move | go_big_op | go_wp2_with fail); exact hK))
    (refine wpOrd_e1 rfl rfl (fun K hK => ?_)); (first | go_big_op | go_wp2_with fail)
    refine hK _ _ (Held.setCell (Held.setCell (Held.refl _ _) _ _ (.inr (by simp))) _ _ (.inr (by simp))) ?_; clear hK K
    refine wpOrd_nil ?_
    go_wp2_with fail
    go_meet
    case rel => exact ⟨(by repeat (first | with_reducible exact Below.refl _ _ | with_reducible assumption | ((with_reducible refine Below.alloc ?_ ?hb_ _); (case hb_ => first | omega | (simp; done) | (simp; omega))) | ((with_reducible refine Below.setCell ?_ ?hb_ _); (case hb_ => first | omega | (simp; done) | (simp; omega))) | with_reducible refine Below.drew ?_ | with_reducible refine below_drewN ?_ _)), by have hq := HL.out; simp; omega, (heap_setCell_other _ _ _ _ (by simp; omega)).trans ((heap_setCell_other _ _ _ _ (by simp; omega)).trans hpy), (heap_setCell_other _ _ _ _ (by simp; omega)).trans ((heap_setCell_other _ _ _ _ (by simp; omega)).trans hky), (heap_setCell_other _ _ _ _ (by simp)).trans ((heap_setCell_other _ _ _ _ (by simp)).trans hay), heap_setCell_same _ _ _ _ _ _ (heap_setCell_same _ _ _ _ _ _ hmy)⟩
  case rest =>
    clear hBy hpy hky hay hmy HL hl1 hl2 hl3 hl4 p0 p1 p2 p3 p4 p5 p6 p7 p8 p9 m0 m1 m2 m3 m4 m5 m6 m7 m8 m9 k0 k1 f8 f9 e1 e2 e3
    obtain ⟨hB, hly, hpp, hpk, hpa, hpm⟩ := hcut
    have hlp : w2.heap.size < wc.heap.size := by omega
    have hlk : w.heap.size + 1 < wc.heap.size := by omega
    have hla : w3.heap.size < wc.heap.size := by omega
    have hlm : w3.heap.size + 1 < wc.heap.size := by omega
    have hsz : w.heap.size ≤ wc.heap.size := by omega
    clear hly
    obtain ⟨p0, p1, p2, p3, p4, p5, p6, p7, p8, p9⟩ := pic10 hpp
    obtain ⟨m0, m1, m2, m3, m4, m5, m6, m7, m8, m9⟩ := pic10 hpm
    obtain ⟨k0, k1⟩ := cel2 hpk
    have hpj := hpa
    have hlj := hla
    clear hpa hla
    obtain ⟨j0, j1, j2, j3⟩ := ink4 hpj
    go_wp2_with fail
    refine (sat_any _ _ _ _ _ _ _ _ _ _ _ _ _ (by omega)).mono ?_
    rintro e w4 ⟨rfl, hb⟩
    rw [HA2.out]
    have hn : (w4).heap[w2.heap.size]? = _ := (hb.block (w2.heap.size) (by first | exact hlp | (simp; omega))).trans (by first | exact hpp | exact (Below.heap_alloc _ _ _ hlp).trans hpp | exact (Below.heap_alloc _ _ _ (by simp; omega)).trans ((Below.heap_alloc _ _ _ hlp).trans hpp) | exact (Below.heap_alloc _ _ _ (by simp; omega)).trans ((Below.heap_alloc _ _ _ (by simp; omega)).trans ((Below.heap_alloc _ _ _ hlp).trans hpp)) | exact (Below.heap_alloc _ _ _ (by simp; omega)).trans ((Below.heap_alloc _ _ _ (by simp; omega)).trans ((Below.heap_alloc _ _ _ (by simp; omega)).trans ((Below.heap_alloc _ _ _ hlp).trans hpp))))
    have hm : w2.heap.size < (w4).heap.size := by (have hq := hb.size; (try simp at hq); omega)
    clear hpp hlp
    have hpp := hn
    have hlp := hm
    clear hn hm
    clear p0 p1 p2 p3 p4 p5 p6 p7 p8 p9
    obtain ⟨p0, p1, p2, p3, p4, p5, p6, p7, p8, p9⟩ := pic10 hpp
    have hn : (w4).heap[w3.heap.size]? = _ := (hb.block (w3.heap.size) (by first | exact hlj | (simp; omega))).trans (by first | exact hpj | exact (Below.heap_alloc _ _ _ hlj).trans hpj | exact (Below.heap_alloc _ _ _ (by simp; omega)).trans ((Below.heap_alloc _ _ _ hlj).trans hpj) | exact (Below.heap_alloc _ _ _ (by simp; omega)).trans ((Below.heap_alloc _ _ _ (by simp; omega)).trans ((Below.heap_alloc _ _ _ hlj).trans hpj)) | exact (Below.heap_alloc _ _ _ (by simp; omega)).trans ((Below.heap_alloc _ _ _ (by simp; omega)).trans ((Below.heap_alloc _ _ _ (by simp; omega)).trans ((Below.heap_alloc _ _ _ hlj).trans hpj))))
    have hm : w3.heap.size < (w4).heap.size := by (have hq := hb.size; (try simp at hq); omega)
    clear hpj hlj
    have hpj := hn
    have hlj := hm
    clear hn hm
    clear j0 j1 j2 j3
    obtain ⟨j0, j1, j2, j3⟩ := ink4 hpj
    have hBn : Below w.heap.size w w4 := below_then (by first | exact hB | exact (by repeat (first | with_reducible exact Below.refl _ _ | with_reducible assumption | ((with_reducible refine Below.alloc ?_ ?hb_ _); (case hb_ => first | omega | (simp; done) | (simp; omega))) | ((with_reducible refine Below.setCell ?_ ?hb_ _); (case hb_ => first | omega | (simp; done) | (simp; omega))) | with_reducible refine Below.drew ?_ | with_reducible refine below_drewN ?_ _))) (by first | omega | (simp; omega)) hb
    have hsn : w.heap.size ≤ (w4).heap.size := hBn.size
    clear hB hsz hb
    have hB := hBn
    have hsz := hsn
    clear hBn hsn
    clear m0 m1 m2 m3 m4 m5 m6 m7 m8 m9 k0 k1 hpk hlk hpm hlm
    go_wp2_with fail
    rw [eql4]
    go_simp
    go_wp2_with fail
    refine (sat_any _ _ _ _ _ _ _ _ _ _ _ _ _ (by omega)).mono ?_
    rintro e w5 ⟨rfl, hb⟩
    rw [HA3.out]
    have hn : (w5).heap[w2.heap.size]? = _ := (hb.block (w2.heap.size) (by first | exact hlp | (simp; omega))).trans (by first | exact hpp | exact (Below.heap_alloc _ _ _ hlp).trans hpp | exact (Below.heap_alloc _ _ _ (by simp; omega)).trans ((Below.heap_alloc _ _ _ hlp).trans hpp) | exact (Below.heap_alloc _ _ _ (by simp; omega)).trans ((Below.heap_alloc _ _ _ (by simp; omega)).trans ((Below.heap_alloc _ _ _ hlp).trans hpp)) | exact (Below.heap_alloc _ _ _ (by simp; omega)).trans ((Below.heap_alloc _ _ _ (by simp; omega)).trans ((Below.heap_alloc _ _ _ (by simp; omega)).trans ((Below.heap_alloc _ _ _ hlp).trans hpp))))
    have hm : w2.heap.size < (w5).heap.size := by (have hq := hb.size; (try simp at hq); omega)
    clear hpp hlp
    have hpp := hn
    have hlp := hm
    clear hn hm
    clear p0 p1 p2 p3 p4 p5 p6 p7 p8 p9
    obtain ⟨p0, p1, p2, p3, p4, p5, p6, p7, p8, p9⟩ := pic10 hpp
    have hn : (w5).heap[w3.heap.size]? = _ := (hb.block (w3.heap.size) (by first | exact hlj | (simp; omega))).trans (by first | exact hpj | exact (Below.heap_alloc _ _ _ hlj).trans hpj | exact (Below.heap_alloc _ _ _ (by simp; omega)).trans ((Below.heap_alloc _ _ _ hlj).trans hpj) | exact (Below.heap_alloc _ _ _ (by simp; omega)).trans ((Below.heap_alloc _ _ _ (by simp; omega)).trans ((Below.heap_alloc _ _ _ hlj).trans hpj)) | exact (Below.heap_alloc _ _ _ (by simp; omega)).trans ((Below.heap_alloc _ _ _ (by simp; omega)).trans ((Below.heap_alloc _ _ _ (by simp; omega)).trans ((Below.heap_alloc _ _ _ hlj).trans hpj))))
    have hm : w3.heap.size < (w5).heap.size := by (have hq := hb.size; (try simp at hq); omega)
    clear hpj hlj
    have hpj := hn
    have hlj := hm
    clear hn hm
    clear j0 j1 j2 j3
    obtain ⟨j0, j1, j2, j3⟩ := ink4 hpj
    have hBn : Below w.heap.size w w5 := below_then (by first | exact hB | exact (by repeat (first | with_reducible exact Below.refl _ _ | with_reducible assumption | ((with_reducible refine Below.alloc ?_ ?hb_ _); (case hb_ => first | omega | (simp; done) | (simp; omega))) | ((with_reducible refine Below.setCell ?_ ?hb_ _); (case hb_ => first | omega | (simp; done) | (simp; omega))) | with_reducible refine Below.drew ?_ | with_reducible refine below_drewN ?_ _))) (by first | omega | (simp; omega)) hb
    have hsn : w.heap.size ≤ (w5).heap.size := hBn.size
    clear hB hsz hb
    have hB := hBn
    have hsz := hsn
    clear hBn hsn
    go_wp2_with fail
    rw [eql4]
    go_simp
    go_wp2_with fail
    obtain ⟨wy, hwy⟩ : ∃ wy, wy = ((w5.alloc (.cells #[.int .i64 i0, .int .i64 i1, .int .i64 i2, .int .i64 i3] 41)).alloc (.cells #[.int .i64 W, .int .i64 H, .int .i64 N, .string S, .int .i64 A, .int .i64 B, .int .i64 C, .int .i64 D, .int .i64 E, .int .i64 F] 30)) := ⟨_, rfl⟩
    have hBy : Below w.heap.size w wy := by
      rw [hwy]
      exact (by repeat (first | with_reducible exact Below.refl _ _ | with_reducible assumption | ((with_reducible refine Below.alloc ?_ ?hb_ _); (case hb_ => first | omega | (simp; done) | (simp; omega))) | ((with_reducible refine Below.setCell ?_ ?hb_ _); (case hb_ => first | omega | (simp; done) | (simp; omega))) | with_reducible refine Below.drew ?_ | with_reducible refine below_drewN ?_ _))
    have hpy : wy.heap[w2.heap.size]? = some (.cells #[.int .i64 W, .int .i64 H, .int .i64 N, .string S, .int .i64 A, .int .i64 B, .int .i64 C, .int .i64 D, .int .i64 E, .int .i64 F] 30 (0, 0)) := by rw [hwy]; exact (Below.heap_alloc _ _ _ (by simp; omega)).trans ((Below.heap_alloc _ _ _ hlp).trans hpp)
    have hry : wy.heap[w5.heap.size + 1]? = some (.cells #[.int .i64 W, .int .i64 H, .int .i64 N, .string S, .int .i64 A, .int .i64 B, .int .i64 C, .int .i64 D, .int .i64 E, .int .i64 F] 30 (0, 0)) := by rw [hwy]; exact heap_alloc_at _ _ _ (by simp)
    have hly : wy.heap.size = w5.heap.size + 2 := by rw [hwy]; simp
    rw [← hwy]
    have e1 : w2.heap.size ≠ w5.heap.size + 1 := by omega
    have e2 : w5.heap.size + 1 ≠ w2.heap.size := by omega
    have hl1 : w2.heap.size < wy.heap.size := by omega
    have hl2 : w5.heap.size + 1 < wy.heap.size := by omega
    have HL := Lib.hid hly
    have hw25 : w.heap.size ≤ w5.heap.size := hsz
    have hw2 : w2.heap.size < w5.heap.size := hlp
    have mA := mul_bd (a := W) (b := A) (X := 9) (Y := 400000) (by omega) hw9 hna.1 hna.2
    have mB := mul_bd (a := W) (b := B) (X := 9) (Y := 400000) (by omega) hw9 hnb.1 hnb.2
    clear hly hwy hB hpp hlp p0 p1 p2 p3 p4 p5 p6 p7 p8 p9 hpj hlj j0 j1 j2 j3
    obtain ⟨p0, p1, p2, p3, p4, p5, p6, p7, p8, p9⟩ := pic10 hpy
    obtain ⟨r0, r1, r2, r3, r4, r5, r6, r7, r8, r9⟩ := pic10 hry
    have f4 := picf10 hry 4
    have f5 := picf10 hry 5
    go_cut [] from 144 to 155 (fun wx => Below w.heap.size w wx ∧ wx.heap.size = w5.heap.size + 2 ∧ wx.heap[w2.heap.size]? = some (.cells #[.int .i64 W, .int .i64 H, .int .i64 N, .string S, .int .i64 A, .int .i64 B, .int .i64 C, .int .i64 D, .int .i64 E, .int .i64 F] 30 (0, 0)) ∧ wx.heap[w5.heap.size + 1]? = some (.cells #[.int .i64 W, .int .i64 H, .int .i64 N, .string S, .int .i64 (-A), .int .i64 (-B), .int .i64 C, .int .i64 D, .int .i64 E, .int .i64 F] 30 (0, 0)))
    case first =>
      refine wp_region_ord (.s 0 .p (.s 1 .p (.s 2 .l (.s 3 .p (.s 4 .p (.s 5 .p (.s 6 .l (.s 7 .p (.s 8 .p (.s 9 .p (.s 10 .e (.s 11 .p (.s 12 .p (.s 13 .e .done)))))))))))))) (Held _ [w5.heap.size + 1]) (by kernel_rfl) (by kernel_rfl) (fun _ _ _ _ _ h => h) (Held.refl _ _) ?_
      (apply wpOrd_p2 rfl rfl rfl rfl rfl; (intro w' K hK; (first | go_big_move | go_big_op | go_wp2_with fail); exact hK))
      (apply wpOrd_p2 rfl rfl rfl rfl rfl; (intro w' K hK; (first | go_big_move | go_big_op | go_wp2_with fail); exact hK))
      (apply wpOrd_l2 rfl rfl rfl rfl rfl; (intro w' K hS' hK; (have hr' := hS'.cell; simp at hr'; (first | go_big_op | go_wp2_with fail); exact hK)); (first | assumption | exact Held.refl _ _ | exact Held.of_below (by repeat (first | with_reducible exact Below.refl _ _ | with_reducible assumption | ((with_reducible refine Below.alloc ?_ ?hb_ _); (case hb_ => first | omega | (simp; done) | (simp; omega))) | ((with_reducible refine Below.setCell ?_ ?hb_ _); (case hb_ => first | omega | (simp; done) | (simp; omega))) | with_reducible refine Below.drew ?_ | with_reducible refine below_drewN ?_ _))))
      (apply wpOrd_p2 rfl rfl rfl rfl rfl; (intro w' K hK; (first | go_big_move | go_big_op | go_wp2_with fail); exact hK))
      (apply wpOrd_p2 rfl rfl rfl rfl rfl; (intro w' K hK; (first | go_big_move | go_big_op | go_wp2_with fail); exact hK))
      (apply wpOrd_p2 rfl rfl rfl rfl rfl; (intro w' K hK; (first | go_big_move | go_big_op | go_wp2_with fail); exact hK))
      (apply wpOrd_l2 rfl rfl rfl rfl rfl; (intro w' K hS' hK; (have hr' := hS'.cell; simp at hr'; (first | go_big_op | go_wp2_with fail); exact hK)); (first | assumption | exact Held.refl _ _ | exact Held.of_below (by repeat (first | with_reducible exact Below.refl _ _ | with_reducible assumption | ((with_reducible refine Below.alloc ?_ ?hb_ _); (case hb_ => first | omega | (simp; done) | (simp; omega))) | ((with_reducible refine Below.setCell ?_ ?hb_ _); (case hb_ => first | omega | (simp; done) | (simp; omega))) | with_reducible refine Below.drew ?_ | with_reducible refine below_drewN ?_ _))))
      (apply wpOrd_p2 rfl rfl rfl rfl rfl; (intro w' K hK; (first | go_big_move | go_big_op | go_wp2_with fail); exact hK))
      (apply wpOrd_p2 rfl rfl rfl rfl rfl; (intro w' K hK; (first | go_big_move | go_big_op | go_wp2_with fail); exact hK))
      (apply wpOrd_p2 rfl rfl rfl rfl rfl; (intro w' K hK; (first | go_big_move | go_big_op | go_wp2_with fail); exact hK))
      (refine wpOrd_e1 rfl rfl (fun K hK => ?_)); (first | go_big_op | go_wp2_with fail)
      refine hK _ _ (Held.setCell (Held.refl _ _) _ _ (.inr (by simp))) ?_; clear hK K
      (apply wpOrd_p2 rfl rfl rfl rfl rfl; (intro w' K hK; (first | go_big_move | go_big_op | go_wp2_with fail); exact hK))
      (apply wpOrd_p2 rfl rfl rfl rfl rfl; (intro w' K hK; (first | go_big_move | go_big_op | go_wp2_with fail); exact hK))
      (refine wpOrd_e1 rfl rfl (fun K hK => ?_)); (first | go_big_op | go_wp2_with fail)
      refine hK _ _ (Held.setCell (Held.setCell (Held.refl _ _) _ _ (.inr (by simp))) _ _ (.inr (by simp))) ?_; clear hK K
      refine wpOrd_nil ?_
      go_wp2_with fail
      go_meet
      case rel => exact ⟨(by repeat (first | with_reducible exact Below.refl _ _ | with_reducible assumption | ((with_reducible refine Below.alloc ?_ ?hb_ _); (case hb_ => first | omega | (simp; done) | (simp; omega))) | ((with_reducible refine Below.setCell ?_ ?hb_ _); (case hb_ => first | omega | (simp; done) | (simp; omega))) | with_reducible refine Below.drew ?_ | with_reducible refine below_drewN ?_ _)), by have hq := HL.out; simp; omega, (heap_setCell_other _ _ _ _ (by simp; omega)).trans ((heap_setCell_other _ _ _ _ (by simp; omega)).trans hpy), heap_setCell_same _ _ _ _ _ _ (heap_setCell_same _ _ _ _ _ _ hry)⟩
    case rest =>
      clear HL hBy hpy hry hl1 hl2 p0 p1 p2 p3 p4 p5 p6 p7 p8 p9 r0 r1 r2 r3 r4 r5 r6 r7 r8 r9 f4 f5
      obtain ⟨hBy, hly, hpy, hry⟩ := hcut
      have hl1 : w2.heap.size < wc.heap.size := by omega
      have hl2 : w5.heap.size + 1 < wc.heap.size := by omega
      have hl3 : w.heap.size ≤ wc.heap.size := by omega
      have HL := Lib.hid hly
      clear hly
      obtain ⟨p0, p1, p2, p3, p4, p5, p6, p7, p8, p9⟩ := pic10 hpy
      obtain ⟨r0, r1, r2, r3, r4, r5, r6, r7, r8, r9⟩ := pic10 hry
      have f8 := picf10 hry 8
      have f9 := picf10 hry 9
      go_wp2_with fail
      go_cut [] from 156 to 179 (fun wx => Below w.heap.size w wx ∧ wx.heap.size = w5.heap.size + 2 ∧ wx.heap[w2.heap.size]? = some (.cells #[.int .i64 W, .int .i64 H, .int .i64 N, .string S, .int .i64 A, .int .i64 B, .int .i64 C, .int .i64 D, .int .i64 E, .int .i64 F] 30 (0, 0)) ∧ wx.heap[w5.heap.size + 1]? = some (.cells #[.int .i64 W, .int .i64 H, .int .i64 N, .string S, .int .i64 (-A), .int .i64 (-B), .int .i64 C, .int .i64 D, .int .i64 (E + W * A), .int .i64 (F + W * B)] 30 (0, 0)))
      case first =>
        refine wp_region_ord (.s 0 .p (.s 1 .p (.s 2 .l (.s 3 .p (.s 4 .l (.s 5 .p (.s 6 .p (.s 7 .l (.s 8 .p (.s 9 .p (.s 10 .p (.s 11 .p (.s 12 .l (.s 13 .p (.s 14 .l (.s 15 .p (.s 16 .p (.s 17 .l (.s 18 .p (.s 19 .p (.s 20 .p (.s 21 .p (.s 22 .e (.s 23 .p (.s 24 .p (.s 25 .e .done)))))))))))))))))))))))))) (Held _ [w5.heap.size + 1]) (by kernel_rfl) (by kernel_rfl) (fun _ _ _ _ _ h => h) (Held.refl _ _) ?_
        (apply wpOrd_p2 rfl rfl rfl rfl rfl; (intro w' K hK; (first | go_big_move | go_big_op | go_wp2_with fail); exact hK))
        (apply wpOrd_p2 rfl rfl rfl rfl rfl; (intro w' K hK; (first | go_big_move | go_big_op | go_wp2_with fail); exact hK))
        (apply wpOrd_l2 rfl rfl rfl rfl rfl; (intro w' K hS' hK; (have hr' := hS'.cell; simp at hr'; (first | go_big_op | go_wp2_with fail); exact hK)); (first | assumption | exact Held.refl _ _ | exact Held.of_below (by repeat (first | with_reducible exact Below.refl _ _ | with_reducible assumption | ((with_reducible refine Below.alloc ?_ ?hb_ _); (case hb_ => first | omega | (simp; done) | (simp; omega))) | ((with_reducible refine Below.setCell ?_ ?hb_ _); (case hb_ => first | omega | (simp; done) | (simp; omega))) | with_reducible refine Below.drew ?_ | with_reducible refine below_drewN ?_ _))))
        (apply wpOrd_p2 rfl rfl rfl rfl rfl; (intro w' K hK; (first | go_big_move | go_big_op | go_wp2_with fail); exact hK))
        (apply wpOrd_l2 rfl rfl rfl rfl rfl; (intro w' K hS' hK; (have hr' := hS'.cell; simp at hr'; (first | go_big_op | go_wp2_with fail); exact hK)); (first | assumption | exact Held.refl _ _ | exact Held.of_below (by repeat (first | with_reducible exact Below.refl _ _ | with_reducible assumption | ((with_reducible refine Below.alloc ?_ ?hb_ _); (case hb_ => first | omega | (simp; done) | (simp; omega))) | ((with_reducible refine Below.setCell ?_ ?hb_ _); (case hb_ => first | omega | (simp; done) | (simp; omega))) | with_reducible refine Below.drew ?_ | with_reducible refine below_drewN ?_ _))))
        (apply wpOrd_p2 rfl rfl rfl rfl rfl; (intro w' K hK; (first | go_big_move | go_big_op | go_wp2_with fail); exact hK))
        (apply wpOrd_p2 rfl rfl rfl rfl rfl; (intro w' K hK; (first | go_big_move | go_big_op | go_wp2_with fail); exact hK))
        (apply wpOrd_l2 rfl rfl rfl rfl rfl; (intro w' K hS' hK; (have hr' := hS'.cell; simp at hr'; (first | go_big_op | go_wp2_with fail); exact hK)); (first | assumption | exact Held.refl _ _ | exact Held.of_below (by repeat (first | with_reducible exact Below.refl _ _ | with_reducible assumption | ((with_reducible refine Below.alloc ?_ ?hb_ _); (case hb_ => first | omega | (simp; done) | (simp; omega))) | ((with_reducible refine Below.setCell ?_ ?hb_ _); (case hb_ => first | omega | (simp; done) | (simp; omega))) | with_reducible refine Below.drew ?_ | with_reducible refine below_drewN ?_ _))))
        (apply wpOrd_p2 rfl rfl rfl rfl rfl; (intro w' K hK; (first | go_big_move | go_big_op | go_wp2_with fail); exact hK))
        (apply wpOrd_p2 rfl rfl rfl rfl rfl; (intro w' K hK; (first | go_big_move | go_big_op | go_wp2_with fail); exact hK))
        (apply wpOrd_p2 rfl rfl rfl rfl rfl; (intro w' K hK; (first | go_big_move | go_big_op | go_wp2_with fail); exact hK))
        (apply wpOrd_p2 rfl rfl rfl rfl rfl; (intro w' K hK; (first | go_big_move | go_big_op | go_wp2_with fail); exact hK))
        (apply wpOrd_l2 rfl rfl rfl rfl rfl; (intro w' K hS' hK; (have hr' := hS'.cell; simp at hr'; (first | go_big_op | go_wp2_with fail); exact hK)); (first | assumption | exact Held.refl _ _ | exact Held.of_below (by repeat (first | with_reducible exact Below.refl _ _ | with_reducible assumption | ((with_reducible refine Below.alloc ?_ ?hb_ _); (case hb_ => first | omega | (simp; done) | (simp; omega))) | ((with_reducible refine Below.setCell ?_ ?hb_ _); (case hb_ => first | omega | (simp; done) | (simp; omega))) | with_reducible refine Below.drew ?_ | with_reducible refine below_drewN ?_ _))))
        (apply wpOrd_p2 rfl rfl rfl rfl rfl; (intro w' K hK; (first | go_big_move | go_big_op | go_wp2_with fail); exact hK))
        (apply wpOrd_l2 rfl rfl rfl rfl rfl; (intro w' K hS' hK; (have hr' := hS'.cell; simp at hr'; (first | go_big_op | go_wp2_with fail); exact hK)); (first | assumption | exact Held.refl _ _ | exact Held.of_below (by repeat (first | with_reducible exact Below.refl _ _ | with_reducible assumption | ((with_reducible refine Below.alloc ?_ ?hb_ _); (case hb_ => first | omega | (simp; done) | (simp; omega))) | ((with_reducible refine Below.setCell ?_ ?hb_ _); (case hb_ => first | omega | (simp; done) | (simp; omega))) | with_reducible refine Below.drew ?_ | with_reducible refine below_drewN ?_ _))))
        (apply wpOrd_p2 rfl rfl rfl rfl rfl; (intro w' K hK; (first | go_big_move | go_big_op | go_wp2_with fail); exact hK))
        (apply wpOrd_p2 rfl rfl rfl rfl rfl; (intro w' K hK; (first | go_big_move | go_big_op | go_wp2_with fail); exact hK))
        (apply wpOrd_l2 rfl rfl rfl rfl rfl; (intro w' K hS' hK; (have hr' := hS'.cell; simp at hr'; (first | go_big_op | go_wp2_with fail); exact hK)); (first | assumption | exact Held.refl _ _ | exact Held.of_below (by repeat (first | with_reducible exact Below.refl _ _ | with_reducible assumption | ((with_reducible refine Below.alloc ?_ ?hb_ _); (case hb_ => first | omega | (simp; done) | (simp; omega))) | ((with_reducible refine Below.setCell ?_ ?hb_ _); (case hb_ => first | omega | (simp; done) | (simp; omega))) | with_reducible refine Below.drew ?_ | with_reducible refine below_drewN ?_ _))))
        (apply wpOrd_p2 rfl rfl rfl rfl rfl; (intro w' K hK; (first | go_big_move | go_big_op | go_wp2_with fail); exact hK))
        (apply wpOrd_p2 rfl rfl rfl rfl rfl; (intro w' K hK; (first | go_big_move | go_big_op | go_wp2_with fail); exact hK))
        (apply wpOrd_p2 rfl rfl rfl rfl rfl; (intro w' K hK; (first | go_big_move | go_big_op | go_wp2_with fail); exact hK))
        (apply wpOrd_p2 rfl rfl rfl rfl rfl; (intro w' K hK; (first | go_big_move | go_big_op | go_wp2_with fail); exact hK))
        (refine wpOrd_e1 rfl rfl (fun K hK => ?_)); (first | go_big_op | go_wp2_with fail)
        refine hK _ _ (Held.setCell (Held.refl _ _) _ _ (.inr (by simp))) ?_; clear hK K
        (apply wpOrd_p2 rfl rfl rfl rfl rfl; (intro w' K hK; (first | go_big_move | go_big_op | go_wp2_with fail); exact hK))
        (apply wpOrd_p2 rfl rfl rfl rfl rfl; (intro w' K hK; (first | go_big_move | go_big_op | go_wp2_with fail); exact hK))
        (refine wpOrd_e1 rfl rfl (fun K hK => ?_)); (first | go_big_op | go_wp2_with fail)
        refine hK _ _ (Held.setCell (Held.setCell (Held.refl _ _) _ _ (.inr (by simp))) _ _ (.inr (by simp))) ?_; clear hK K
        refine wpOrd_nil ?_
        go_wp2_with fail
        go_meet
        case rel => exact ⟨(by repeat (first | with_reducible exact Below.refl _ _ | with_reducible assumption | ((with_reducible refine Below.alloc ?_ ?hb_ _); (case hb_ => first | omega | (simp; done) | (simp; omega))) | ((with_reducible refine Below.setCell ?_ ?hb_ _); (case hb_ => first | omega | (simp; done) | (simp; omega))) | with_reducible refine Below.drew ?_ | with_reducible refine below_drewN ?_ _)), by have hq := HL.out; simp; omega, (heap_setCell_other _ _ _ _ (by simp; omega)).trans ((heap_setCell_other _ _ _ _ (by simp; omega)).trans hpy), heap_setCell_same _ _ _ _ _ _ (heap_setCell_same _ _ _ _ _ _ hry)⟩
      case rest =>
        clear HL hBy hpy hry hl1 hl2 p0 p1 p2 p3 p4 p5 p6 p7 p8 p9 r0 r1 r2 r3 r4 r5 r6 r7 r8 r9 f8 f9
        obtain ⟨hBy, hly, hpy, hry⟩ := hcut
        have hl1 : w2.heap.size < wc.heap.size := by omega
        have hl2 : w5.heap.size + 1 < wc.heap.size := by omega
        have hl3 : w.heap.size ≤ wc.heap.size := by omega
        have HL := Lib.hid hly
        clear hly
        have hB := hBy
        have hpp := hpy
        have hlp := hl1
        have hpr := hry
        have hlr := hl2
        have hsz := hl3
        clear hBy hpy hry hl1 hl2 hl3 HL
        obtain ⟨p0, p1, p2, p3, p4, p5, p6, p7, p8, p9⟩ := pic10 hpp
        obtain ⟨r0, r1, r2, r3, r4, r5, r6, r7, r8, r9⟩ := pic10 hpr
        go_wp2_with fail
        refine (splace_any _ _ _ _ _ _ _ _ _ _ _ _ _ (by omega)).mono ?_
        rintro e w6 ⟨rfl, hb⟩
        rw [HV1.out]
        have hn : (w6).heap[w2.heap.size]? = _ := (hb.block (w2.heap.size) (by first | exact hlp | (simp; omega))).trans (by first | exact hpp | exact (Below.heap_alloc _ _ _ hlp).trans hpp | exact (Below.heap_alloc _ _ _ (by simp; omega)).trans ((Below.heap_alloc _ _ _ hlp).trans hpp) | exact (Below.heap_alloc _ _ _ (by simp; omega)).trans ((Below.heap_alloc _ _ _ (by simp; omega)).trans ((Below.heap_alloc _ _ _ hlp).trans hpp)) | exact (Below.heap_alloc _ _ _ (by simp; omega)).trans ((Below.heap_alloc _ _ _ (by simp; omega)).trans ((Below.heap_alloc _ _ _ (by simp; omega)).trans ((Below.heap_alloc _ _ _ hlp).trans hpp))))
        have hm : w2.heap.size < (w6).heap.size := by (have hq := hb.size; (try simp at hq); omega)
        clear hpp hlp
        have hpp := hn
        have hlp := hm
        clear hn hm
        clear p0 p1 p2 p3 p4 p5 p6 p7 p8 p9
        obtain ⟨p0, p1, p2, p3, p4, p5, p6, p7, p8, p9⟩ := pic10 hpp
        have hn : (w6).heap[w5.heap.size + 1]? = _ := (hb.block (w5.heap.size + 1) (by first | exact hlr | (simp; omega))).trans (by first | exact hpr | exact (Below.heap_alloc _ _ _ hlr).trans hpr | exact (Below.heap_alloc _ _ _ (by simp; omega)).trans ((Below.heap_alloc _ _ _ hlr).trans hpr) | exact (Below.heap_alloc _ _ _ (by simp; omega)).trans ((Below.heap_alloc _ _ _ (by simp; omega)).trans ((Below.heap_alloc _ _ _ hlr).trans hpr)) | exact (Below.heap_alloc _ _ _ (by simp; omega)).trans ((Below.heap_alloc _ _ _ (by simp; omega)).trans ((Below.heap_alloc _ _ _ (by simp; omega)).trans ((Below.heap_alloc _ _ _ hlr).trans hpr))))
        have hm : w5.heap.size + 1 < (w6).heap.size := by (have hq := hb.size; (try simp at hq); omega)
        clear hpr hlr
        have hpr := hn
        have hlr := hm
        clear hn hm
        clear r0 r1 r2 r3 r4 r5 r6 r7 r8 r9
        obtain ⟨r0, r1, r2, r3, r4, r5, r6, r7, r8, r9⟩ := pic10 hpr
        have hBn : Below w.heap.size w w6 := below_then (by first | exact hB | exact (by repeat (first | with_reducible exact Below.refl _ _ | with_reducible assumption | ((with_reducible refine Below.alloc ?_ ?hb_ _); (case hb_ => first | omega | (simp; done) | (simp; omega))) | ((with_reducible refine Below.setCell ?_ ?hb_ _); (case hb_ => first | omega | (simp; done) | (simp; omega))) | with_reducible refine Below.drew ?_ | with_reducible refine below_drewN ?_ _))) (by first | omega | (simp; omega)) hb
        have hsn : w.heap.size ≤ (w6).heap.size := hBn.size
        clear hB hsz hb
        have hB := hBn
        have hsz := hsn
        clear hBn hsn
        go_wp2_with fail
        refine (splace_any _ _ _ _ _ _ _ _ _ _ _ _ _ (by omega)).mono ?_
        rintro e w7 ⟨rfl, hb⟩
        rw [HV2.out]
        have hn : (w7).heap[w2.heap.size]? = _ := (hb.block (w2.heap.size) (by first | exact hlp | (simp; omega))).trans (by first | exact hpp | exact (Below.heap_alloc _ _ _ hlp).trans hpp | exact (Below.heap_alloc _ _ _ (by simp; omega)).trans ((Below.heap_alloc _ _ _ hlp).trans hpp) | exact (Below.heap_alloc _ _ _ (by simp; omega)).trans ((Below.heap_alloc _ _ _ (by simp; omega)).trans ((Below.heap_alloc _ _ _ hlp).trans hpp)) | exact (Below.heap_alloc _ _ _ (by simp; omega)).trans ((Below.heap_alloc _ _ _ (by simp; omega)).trans ((Below.heap_alloc _ _ _ (by simp; omega)).trans ((Below.heap_alloc _ _ _ hlp).trans hpp))))
        have hm : w2.heap.size < (w7).heap.size := by (have hq := hb.size; (try simp at hq); omega)
        clear hpp hlp
        have hpp := hn
        have hlp := hm
        clear hn hm
        clear p0 p1 p2 p3 p4 p5 p6 p7 p8 p9
        obtain ⟨p0, p1, p2, p3, p4, p5, p6, p7, p8, p9⟩ := pic10 hpp
        have hBn : Below w.heap.size w w7 := below_then (by first | exact hB | exact (by repeat (first | with_reducible exact Below.refl _ _ | with_reducible assumption | ((with_reducible refine Below.alloc ?_ ?hb_ _); (case hb_ => first | omega | (simp; done) | (simp; omega))) | ((with_reducible refine Below.setCell ?_ ?hb_ _); (case hb_ => first | omega | (simp; done) | (simp; omega))) | with_reducible refine Below.drew ?_ | with_reducible refine below_drewN ?_ _))) (by first | omega | (simp; omega)) hb
        have hsn : w.heap.size ≤ (w7).heap.size := hBn.size
        clear hB hsz hb
        have hB := hBn
        have hsz := hsn
        clear hBn hsn
        clear r0 r1 r2 r3 r4 r5 r6 r7 r8 r9 hpr hlr
        cases one
        · go_wp2_with fail
          go_ret
          exact ⟨rfl, hB⟩
        · cases two
          · go_wp2_with fail
            go_ret
            exact ⟨rfl, hB⟩
          · obtain ⟨rfl, hor⟩ := Hfin.out rfl rfl
            clear Hfin
            have hne : ¬ W = W - 1 := by omega
            rcases hor with hor | hor
            · go_wp2_with fail
              go_ret
              exact ⟨rfl, hB⟩
            · go_wp2_with fail
              go_ret
              exact ⟨rfl, hB⟩
end Go.Proofs.Ytkkeahnmmpcceaa.T3
