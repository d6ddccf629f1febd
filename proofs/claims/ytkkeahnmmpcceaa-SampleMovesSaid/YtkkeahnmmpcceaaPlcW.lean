/- SamplePlaces: the walk. -/
import Derived.Test.YtkkeahnmmpcceaaDraP
import Derived.Test.YtkkeahnmmpcceaaFew
import Derived.Test.YtkkeahnmmpcceaaWorks
import Derived.WalkKit
import Derived.Lib.Hide
import Derived.Deep.QuietTactic
import Derived.BigQuiet
import Derived.Lib.QuietBelow
import Derived.Deep.RegionHeld3
import Derived.WalkLawsBesides
import Derived.WalkSpells
import Derived.Outline
import Derived.Deep.DeepFit
import Derived.Maps.AppendAt
import Derived.Deep.AppendLies
namespace Go.Proofs.Ytkkeahnmmpcceaa
open Go.RowKit

theorem pOk_few {W H N : Int} {S : ByteArray} {A B C D E F : Int} (h : pOk W H N S A B C D E F) (hw : W ≤ 9) (hh : H ≤ 9) : S.size ≤ 1000 := by
  obtain ⟨⟨w1, _⟩, ⟨h1, _⟩, hN, _, hs⟩ := h
  have a : W * H ≤ 9 * 9 := Int.mul_le_mul hw hh (by omega) (by omega)
  have b : W * H * N ≤ 81 * 4 := Int.mul_le_mul a (by omega) (by omega) (by omega)
  omega
/-- one of the two pictures -/
theorem two_at (V0 V1 V2 V3 V4 V5 V6 V7 V8 V9 U0 U1 U2 U3 U4 U5 U6 U7 U8 U9 : Value) (w : World) : Sem.run Try.prog (Instr.index 33 (.agg #[V0, V1, V2, V3, V4, V5, V6, V7, V8, V9, U0, U1, U2, U3, U4, U5, U6, U7, U8, U9]) (.int .i64 0)) w = .ok (.agg #[V0, V1, V2, V3, V4, V5, V6, V7, V8, V9]) w ∧
    Sem.run Try.prog (Instr.index 33 (.agg #[V0, V1, V2, V3, V4, V5, V6, V7, V8, V9, U0, U1, U2, U3, U4, U5, U6, U7, U8, U9]) (.int .i64 1)) w = .ok (.agg #[U0, U1, U2, U3, U4, U5, U6, U7, U8, U9]) w := ⟨by kernel_rfl, by kernel_rfl⟩
/-- one of the four pixels -/
theorem four_at (a b c d e f g h : Int) (j : Nat) (hj : j < 4) : ∃ x y : Int, ∀ w, Sem.run Try.prog (Instr.index 37 (.agg #[.int .i64 a, .int .i64 b, .int .i64 c, .int .i64 d, .int .i64 e, .int .i64 f, .int .i64 g, .int .i64 h]) (.int .i64 j)) w = .ok (.agg #[.int .i64 x, .int .i64 y]) w := by
  have h4 : j = 0 ∨ j = 1 ∨ j = 2 ∨ j = 3 := by omega
  rcases h4 with rfl | rfl | rfl | rfl
  · exact ⟨a, b, fun w => by kernel_rfl⟩
  · exact ⟨c, d, fun w => by kernel_rfl⟩
  · exact ⟨e, f, fun w => by kernel_rfl⟩
  · exact ⟨g, h, fun w => by kernel_rfl⟩
theorem atV_form (W H N : Int) (S : ByteArray) (A B C D E F x y : Int) : ∃ (i0 i1 i2 i3 : Int) (b : Bool) (e : Int), atV W H N S A B C D E F x y = .tuple #[.agg #[.int .i64 i0, .int .i64 i1, .int .i64 i2, .int .i64 i3], .bool b, .int .i64 e] := by
  unfold atV
  split
  · obtain ⟨a, b, c, d, h⟩ := ink_agg (atS W N S (placeI W H N S A B C D E F x y) (placeJ W H N S A B C D E F x y))
    rw [h]
    exact ⟨_, _, _, _, _, _, rfl⟩
  · exact ⟨_, _, _, _, _, _, rfl⟩
theorem cel2 {w : World} {b t : Nat} {v0 v1 : Value} (h : w.heap[b]? = some (.cells #[v0, v1] t (0, 0))) : w.cell? ⟨b, 0, none⟩ = some v0 ∧ w.cell? ⟨b, 1, none⟩ = some v1 := by
  refine ⟨?_, ?_⟩ <;> simp [World.cell?, h]
theorem placeV_form (W H N : Int) (S : ByteArray) (A B C D E F x y : Int) : ∃ (i j : Int) (b : Bool) (e : Int), placeV W H N S A B C D E F x y = .tuple #[.int .i64 i, .int .i64 j, .bool b, .int .i64 e] := ⟨_, _, _, _, rfl⟩
end Go.Proofs.Ytkkeahnmmpcceaa
namespace Go.Proofs.Ytkkeahnmmpcceaa.T3
open Go.RowKit
set_option maxRecDepth 100000 in
set_option maxHeartbeats 8000000 in
theorem places_walk (a0_W : Int) (a0_H : Int) (a0_N : Int) (a0_Data : Option Addr) (a0_Data_l a0_Data_c : Nat) (a0_M_Kind : Int) (a0_M_A : Int) (a0_M_B : Int) (a0_M_C : Int) (a0_M_D : Int) (a0_M_E : Int) (a0_M_F : Int) (a0_Near : Bool) (a1_W : Int) (a1_H : Int) (a1_N : Int) (a1_Data : ByteArray) (a1_M_A : Int) (a1_M_B : Int) (a1_M_C : Int) (a1_M_D : Int) (a1_M_E : Int) (a1_M_F : Int) (x2 : Int) (x3 : Int) (w : World) (s_a0_W : (Lit.int .u8 a0_W).wf = true) (s_a0_H : (Lit.int .u8 a0_H).wf = true) (s_a0_N : (Lit.int .u8 a0_N).wf = true) (s_a0_Data : IsRow .u8 w a0_Data a0_Data_l a0_Data_c) (s_a0_M_Kind : (Lit.int .u8 a0_M_Kind).wf = true) (s_a0_M_A : (Lit.int .i32 a0_M_A).wf = true) (s_a0_M_B : (Lit.int .i32 a0_M_B).wf = true) (s_a0_M_C : (Lit.int .i32 a0_M_C).wf = true) (s_a0_M_D : (Lit.int .i32 a0_M_D).wf = true) (s_a0_M_E : (Lit.int .i32 a0_M_E).wf = true) (s_a0_M_F : (Lit.int .i32 a0_M_F).wf = true) (s_a1_W : (Lit.int .i64 a1_W).wf = true) (s_a1_H : (Lit.int .i64 a1_H).wf = true) (s_a1_N : (Lit.int .i64 a1_N).wf = true) (s_a1_Data : a1_Data.size ≤ maxLen) (s_a1_M_A : (Lit.int .i64 a1_M_A).wf = true) (s_a1_M_B : (Lit.int .i64 a1_M_B).wf = true) (s_a1_M_C : (Lit.int .i64 a1_M_C).wf = true) (s_a1_M_D : (Lit.int .i64 a1_M_D).wf = true) (s_a1_M_E : (Lit.int .i64 a1_M_E).wf = true) (s_a1_M_F : (Lit.int .i64 a1_M_F).wf = true) (s_a2 : (Lit.int .i64 x2).wf = true) (s_a3 : (Lit.int .i64 x3).wf = true) :
    Calls Try.prog 3 #[.agg #[.int .u8 a0_W, .int .u8 a0_H, .int .u8 a0_N, .slice a0_Data a0_Data_l a0_Data_c, .int .u8 a0_M_Kind, .int .i32 a0_M_A, .int .i32 a0_M_B, .int .i32 a0_M_C, .int .i32 a0_M_D, .int .i32 a0_M_E, .int .i32 a0_M_F, .bool a0_Near], .agg #[.int .i64 a1_W, .int .i64 a1_H, .int .i64 a1_N, .string a1_Data, .int .i64 a1_M_A, .int .i64 a1_M_B, .int .i64 a1_M_C, .int .i64 a1_M_D, .int .i64 a1_M_E, .int .i64 a1_M_F], .int .i64 x2, .int .i64 x3] w fun e w' => e = .returned (.bool true) ∧ Below w.heap.size w w' := by
  have ho0 := s_a0_Data.octets
  have hle := s_a0_Data.le
  clear s_a0_Data s_a1_W s_a1_H s_a1_N s_a1_M_A s_a1_M_B s_a1_M_C s_a1_M_D s_a1_M_E s_a1_M_F
  have hz2 : ∀ w, Sem.run Try.prog (zeroValue 33) w = .ok (.agg #[.int .i64 0, .int .i64 0, .int .i64 0, .string ⟨#[]⟩, .int .i64 0, .int .i64 0, .int .i64 0, .int .i64 0, .int .i64 0, .int .i64 0, .int .i64 0, .int .i64 0, .int .i64 0, .string ⟨#[]⟩, .int .i64 0, .int .i64 0, .int .i64 0, .int .i64 0, .int .i64 0, .int .i64 0]) w := fun w => by kernel_rfl
  go_enter Try.func3, Try.ntmps3
  go_wp2_with fail
  refine wp_region_grow [(0, none), (2, none), (5, none), (1, some (.val (fun v => ∃ (W H N : Int) (S : ByteArray) (A B C D E F : Int), S.size ≤ 1000 ∧ v = .agg #[.int .i64 W, .int .i64 H, .int .i64 N, .string S, .int .i64 A, .int .i64 B, .int .i64 C, .int .i64 D, .int .i64 E, .int .i64 F]))), (3, some (.val (fun v => ∃ T : ByteArray, T.size ≤ 1000 ∧ v = .agg #[.int .i64 a1_W, .int .i64 a1_H, .int .i64 a1_N, .string T, .int .i64 a1_M_A, .int .i64 a1_M_B, .int .i64 a1_M_C, .int .i64 a1_M_D, .int .i64 a1_M_E, .int .i64 a1_M_F]))), (4, none)] .done (by kernel_rfl) (by kernel_rfl) (fun _ _ _ _ _ h => h) ?_
  (apply wpG_l rfl rfl rfl rfl rfl; (intro w' K hC hK; (have hr' := hC.old; simp at hr'); (first | go_big_op | go_wp2_with fail); exact hK); (case he => first | rfl | (simp [Act.put, *]; done)))
  (apply wpG_l rfl rfl rfl rfl rfl; (intro w' K hC hK; (have hr' := hC.old; simp at hr'); (first | go_big_op | go_wp2_with fail); exact hK); (case he => first | rfl | (simp [Act.put, *]; done)))
  (apply wpG_p rfl rfl rfl rfl rfl; (intro w' K hK; (first | go_big_op | go_wp2_with fail); exact hK))
  refine wpG_g (d := 28) rfl rfl rfl rfl (by first | exact ⟨_, 0, rfl⟩ | (exact ⟨_, 0, 0, 0, ⟨#[]⟩, 0, 0, 0, 0, 0, 0, by decide, rfl⟩)) (fun w' K hC hK => ?_) (fun v hv => ?_)
  · (have hr' := hC.old; simp at hr'; (first | go_big_op | go_wp2_with fail); (refine Calls.mono (T3.dpicture_any _ _ _ _ _ _ _ _ _ _ _ _ _ _ _ (bounds_u8 s_a0_W) (bounds_u8 s_a0_H) (bounds_u8 s_a0_N) (ho0.below (below_then (Below.drew (Below.alloc (Below.alloc (Below.refl _ w) (Nat.le_refl _) _) (by simp) _)) (by simp; omega) hC.1) (Nat.le_refl _)) hle (bounds_u8 s_a0_M_Kind) (bounds_i32 s_a0_M_A) (bounds_i32 s_a0_M_B) (bounds_i32 s_a0_M_C) (bounds_i32 s_a0_M_D) (bounds_i32 s_a0_M_E) (bounds_i32 s_a0_M_F)) ?_; rintro e w2 ⟨⟨W1, H1, N1, S1, A1, B1, C1, D1, E1, F1, hok, hw, hh, _, rfl⟩, hb2⟩; exact hK _ _ ⟨W1, H1, N1, S1, A1, B1, C1, D1, E1, F1, pOk_few hok hw hh, rfl⟩ hb2 trivial))
  obtain ⟨W1, H1, N1, S1, A1, B1, C1, D1, E1, F1, hS1, rfl⟩ := hv
  refine wpG_g (d := 30) rfl rfl rfl rfl (by first | exact ⟨_, 0, rfl⟩ | (exact ⟨_, ⟨#[]⟩, by decide, rfl⟩)) (fun w' K hC hK => ?_) (fun v hv => ?_)
  · (have hr' := hC.old; simp at hr'; (first | go_big_op | go_wp2_with fail); (refine Calls.mono (few_any _ _ _ _ _ _ _ _ _ _ _ (by unfold maxLen at s_a1_Data; omega)) ?_; rintro e w2 ⟨⟨T, hT, rfl⟩, hb2⟩; exact hK _ _ ⟨T, hT, rfl⟩ hb2 trivial))
  obtain ⟨T, hT, rfl⟩ := hv
  (apply wpG_p rfl rfl rfl rfl rfl; (intro w' K hK; (first | go_big_op | go_wp2_with fail); exact hK))
  refine wpG_nil (fun w1 hB1 hG => ?_)
  clear hG
  refine wpOrd_nil ?_
  clear ho0 hle s_a0_W s_a0_H s_a0_N s_a0_M_Kind s_a0_M_A s_a0_M_B s_a0_M_C s_a0_M_D s_a0_M_E s_a0_M_F
  have hB : Below w.heap.size w w1 := below_then (Below.drew (Below.alloc (Below.alloc (Below.refl _ w) (Nat.le_refl _) _) (by simp) _)) (by simp; omega) hB1
  have hsz : w.heap.size ≤ w1.heap.size := hB.size
  clear hB1
  go_wp2_with fail
  go_loopw [32] (fun v wr => ∃ k : Nat, k ≤ 2 ∧ v = .int .i64 k ∧ Below w.heap.size w wr ∧ w.heap.size ≤ wr.heap.size) (fun v _ => 2 - (intOf v).toNat)
  case atStart => exact ⟨0, by omega, rfl, hB, hsz⟩
  case round =>
    clear hB hsz
    obtain ⟨k, hk, rfl, hB, hsz⟩ := hrel
    obtain ⟨wo, hwo⟩ : ∃ wo, wo = wr := ⟨wr, rfl⟩
    subst hwo
    by_cases hlt : k < 2
    · obtain ⟨W2, H2, N2, S2, A2, B2, C2, D2, E2, F2, hS2, hix⟩ : ∃ (W2 H2 N2 : Int) (S2 : ByteArray) (A2 B2 C2 D2 E2 F2 : Int), S2.size ≤ 1000 ∧ ∀ w, Sem.run Try.prog (Instr.index 33 (.agg #[.int .i64 W1, .int .i64 H1, .int .i64 N1, .string S1, .int .i64 A1, .int .i64 B1, .int .i64 C1, .int .i64 D1, .int .i64 E1, .int .i64 F1, .int .i64 a1_W, .int .i64 a1_H, .int .i64 a1_N, .string T, .int .i64 a1_M_A, .int .i64 a1_M_B, .int .i64 a1_M_C, .int .i64 a1_M_D, .int .i64 a1_M_E, .int .i64 a1_M_F]) (.int .i64 k)) w = .ok (.agg #[.int .i64 W2, .int .i64 H2, .int .i64 N2, .string S2, .int .i64 A2, .int .i64 B2, .int .i64 C2, .int .i64 D2, .int .i64 E2, .int .i64 F2]) w := by
        have h2 : k = 0 ∨ k = 1 := by omega
        rcases h2 with rfl | rfl
        · exact ⟨_, _, _, _, _, _, _, _, _, _, hS1, fun w => (two_at _ _ _ _ _ _ _ _ _ _ _ _ _ _ _ _ _ _ _ _ w).1⟩
        · exact ⟨_, _, _, _, _, _, _, _, _, _, hT, fun w => (two_at _ _ _ _ _ _ _ _ _ _ _ _ _ _ _ _ _ _ _ _ w).2⟩
      go_wp2_with fail
      clear hix
      refine wp_region_grow [(0, none), (2, none), (1, some (.val (fun v => v = .int .i64 (pErr W2 H2 N2 S2 A2 B2 C2 D2 E2 F2)))), (3, some (.val (fun v => v = .int .i64 (pErr W2 H2 N2 S2 A2 B2 C2 D2 E2 F2)))), (4, none)] .done (by kernel_rfl) (by kernel_rfl) (fun _ _ _ _ _ h => h) ?_
      (apply wpG_l rfl rfl rfl rfl rfl; (intro w' K hC hK; (have hr' := hC.old; simp at hr'); (first | go_big_op | go_wp2_with fail); exact hK); (case he => first | rfl | (simp [Act.put, *]; done)))
      (apply wpG_l rfl rfl rfl rfl rfl; (intro w' K hC hK; (have hr' := hC.old; simp at hr'); (first | go_big_op | go_wp2_with fail); exact hK); (case he => first | rfl | (simp [Act.put, *]; done)))
      refine wpG_g (d := 36) rfl rfl rfl rfl (by first | exact ⟨_, 0, rfl⟩ | (exact ⟨_, rfl⟩)) (fun w' K hC hK => ?_) (fun v hv => ?_)
      · (have hr' := hC.old; simp at hr'; (first | go_big_op | go_wp2_with fail); (refine Calls.mono (scheck_any _ _ _ _ _ _ _ _ _ _ _ (by omega)) ?_; rintro e w2 ⟨rfl, hb2⟩; exact hK _ _ rfl hb2 trivial))
      obtain rfl := hv
      refine wpG_g (d := 38) rfl rfl rfl rfl (by first | exact ⟨_, 0, rfl⟩ | (exact ⟨_, rfl⟩)) (fun w' K hC hK => ?_) (fun v hv => ?_)
      · (have hr' := hC.old; simp at hr'; (first | go_big_op | go_wp2_with fail); (refine Calls.mono (check28_any _ _ _ _ _ _ _ _ _ _ _ (by omega)) ?_; rintro e w2 ⟨rfl, hb2⟩; exact hK _ _ rfl hb2 trivial))
      obtain rfl := hv
      (apply wpG_p rfl rfl rfl rfl rfl; (intro w' K hK; (first | go_big_op | go_wp2_with fail); exact hK))
      refine wpG_nil (fun wz hB1 hG => ?_)
      clear hG
      refine wpOrd_nil ?_
      have hB3 : Below w.heap.size w wz := below_then (Below.drew (Below.alloc hB hsz _)) (by simp; omega) hB1
      have hpp0 : wz.heap[wo.heap.size]? = some (.cells #[.int .i64 W2, .int .i64 H2, .int .i64 N2, .string S2, .int .i64 A2, .int .i64 B2, .int .i64 C2, .int .i64 D2, .int .i64 E2, .int .i64 F2] 30 (0, 0)) := (hB1.block _ (by simp)).trans (heap_alloc_new wo _)
      have hlp0 : wo.heap.size < wz.heap.size := by have hq := hB1.size; simp at hq; omega
      clear hB1
      go_wp2_with fail
      go_loopw [59] (fun v wr => ∃ j : Nat, j ≤ 4 ∧ v = .int .i64 j ∧ Below w.heap.size w wr ∧ wo.heap.size < wr.heap.size ∧ wr.heap[wo.heap.size]? = some (.cells #[.int .i64 W2, .int .i64 H2, .int .i64 N2, .string S2, .int .i64 A2, .int .i64 B2, .int .i64 C2, .int .i64 D2, .int .i64 E2, .int .i64 F2] 30 (0, 0))) (fun v _ => 4 - (intOf v).toNat)
      case atStart => exact ⟨0, by omega, rfl, hB3, hlp0, hpp0⟩
      case round =>
        clear hB hB3 hpp0 hlp0
        obtain ⟨j, hj, rfl, hB, hlp, hpp⟩ := hrel
        have hsz2 : w.heap.size ≤ wr.heap.size := by omega
        by_cases hj4 : j < 4
        · obtain ⟨x, y, hxy⟩ := four_at x2 x3 (x2.tmod 1025) (x3.tmod 1025) (x2.tmod 40) (x3.tmod 40) (x2.tmod 8) (x3.tmod 8) j hj4
          obtain ⟨pi, pj, pb, pe, hpv⟩ := placeV_form W2 H2 N2 S2 A2 B2 C2 D2 E2 F2 x y
          obtain ⟨i0, i1, i2, i3, qb, qe, hqv⟩ := atV_form W2 H2 N2 S2 A2 B2 C2 D2 E2 F2 x y
          have HP := Lib.hid hpv
          have HQ := Lib.hid hqv
          clear hpv hqv
          obtain ⟨p0, p1, p2, p3, p4, p5, p6, p7, p8, p9⟩ := pic10 hpp
          have hsz : w.heap.size ≤ wr.heap.size := hsz2
          have hpq := heap_alloc_new wr (.cells #[.int .i64 x, .int .i64 y] 36)
          have hlq : wr.heap.size < (wr.alloc (.cells #[.int .i64 x, .int .i64 y] 36)).heap.size := by simp
          obtain ⟨q0, q1⟩ := cel2 hpq
          go_wp2_with fail
          refine (splace_any _ _ _ _ _ _ _ _ _ _ _ _ _ (by omega)).mono ?_
          rintro e w4 ⟨rfl, hb⟩
          rw [HP.out]
          have hn : (w4).heap[wo.heap.size]? = _ := (hb.block (wo.heap.size) (by first | exact hlp | (simp; omega))).trans (by first | exact hpp | exact (Below.heap_alloc _ _ _ hlp).trans hpp | exact (Below.heap_alloc _ _ _ (by simp; omega)).trans ((Below.heap_alloc _ _ _ hlp).trans hpp) | exact (Below.heap_alloc _ _ _ (by simp; omega)).trans ((Below.heap_alloc _ _ _ (by simp; omega)).trans ((Below.heap_alloc _ _ _ hlp).trans hpp)) | exact (Below.heap_alloc _ _ _ (by simp; omega)).trans ((Below.heap_alloc _ _ _ (by simp; omega)).trans ((Below.heap_alloc _ _ _ (by simp; omega)).trans ((Below.heap_alloc _ _ _ hlp).trans hpp))))
          have hm : wo.heap.size < (w4).heap.size := by (have hq := hb.size; (try simp at hq); omega)
          clear hpp hlp
          have hpp := hn
          have hlp := hm
          clear hn hm
          clear p0 p1 p2 p3 p4 p5 p6 p7 p8 p9
          obtain ⟨p0, p1, p2, p3, p4, p5, p6, p7, p8, p9⟩ := pic10 hpp
          have hn : (w4).heap[wr.heap.size]? = _ := (hb.block (wr.heap.size) (by first | exact hlq | (simp; omega))).trans (by first | exact hpq | exact (Below.heap_alloc _ _ _ hlq).trans hpq | exact (Below.heap_alloc _ _ _ (by simp; omega)).trans ((Below.heap_alloc _ _ _ hlq).trans hpq) | exact (Below.heap_alloc _ _ _ (by simp; omega)).trans ((Below.heap_alloc _ _ _ (by simp; omega)).trans ((Below.heap_alloc _ _ _ hlq).trans hpq)) | exact (Below.heap_alloc _ _ _ (by simp; omega)).trans ((Below.heap_alloc _ _ _ (by simp; omega)).trans ((Below.heap_alloc _ _ _ (by simp; omega)).trans ((Below.heap_alloc _ _ _ hlq).trans hpq))))
          have hm : wr.heap.size < (w4).heap.size := by (have hq := hb.size; (try simp at hq); omega)
          clear hpq hlq
          have hpq := hn
          have hlq := hm
          clear hn hm
          clear q0 q1
          obtain ⟨q0, q1⟩ := cel2 hpq
          have hBn : Below w.heap.size w w4 := below_then (by first | exact hB | exact (by repeat (first | with_reducible exact Below.refl _ _ | with_reducible assumption | ((with_reducible refine Below.alloc ?_ ?hb_ _); (case hb_ => first | omega | (simp; done) | (simp; omega))) | ((with_reducible refine Below.setCell ?_ ?hb_ _); (case hb_ => first | omega | (simp; done) | (simp; omega))) | with_reducible refine Below.drew ?_ | with_reducible refine below_drewN ?_ _))) (by first | omega | (simp; omega)) hb
          have hsn : w.heap.size ≤ (w4).heap.size := hBn.size
          clear hB hsz hb
          have hB := hBn
          have hsz := hsn
          clear hBn hsn
          go_wp2_with fail
          refine (rplace_any _ _ _ _ _ _ _ _ _ _ _ _ _ (by omega)).mono ?_
          rintro e w5 ⟨rfl, hb⟩
          rw [HP.out]
          have hn : (w5).heap[wo.heap.size]? = _ := (hb.block (wo.heap.size) (by first | exact hlp | (simp; omega))).trans (by first | exact hpp | exact (Below.heap_alloc _ _ _ hlp).trans hpp | exact (Below.heap_alloc _ _ _ (by simp; omega)).trans ((Below.heap_alloc _ _ _ hlp).trans hpp) | exact (Below.heap_alloc _ _ _ (by simp; omega)).trans ((Below.heap_alloc _ _ _ (by simp; omega)).trans ((Below.heap_alloc _ _ _ hlp).trans hpp)) | exact (Below.heap_alloc _ _ _ (by simp; omega)).trans ((Below.heap_alloc _ _ _ (by simp; omega)).trans ((Below.heap_alloc _ _ _ (by simp; omega)).trans ((Below.heap_alloc _ _ _ hlp).trans hpp))))
          have hm : wo.heap.size < (w5).heap.size := by (have hq := hb.size; (try simp at hq); omega)
          clear hpp hlp
          have hpp := hn
          have hlp := hm
          clear hn hm
          clear p0 p1 p2 p3 p4 p5 p6 p7 p8 p9
          obtain ⟨p0, p1, p2, p3, p4, p5, p6, p7, p8, p9⟩ := pic10 hpp
          have hn : (w5).heap[wr.heap.size]? = _ := (hb.block (wr.heap.size) (by first | exact hlq | (simp; omega))).trans (by first | exact hpq | exact (Below.heap_alloc _ _ _ hlq).trans hpq | exact (Below.heap_alloc _ _ _ (by simp; omega)).trans ((Below.heap_alloc _ _ _ hlq).trans hpq) | exact (Below.heap_alloc _ _ _ (by simp; omega)).trans ((Below.heap_alloc _ _ _ (by simp; omega)).trans ((Below.heap_alloc _ _ _ hlq).trans hpq)) | exact (Below.heap_alloc _ _ _ (by simp; omega)).trans ((Below.heap_alloc _ _ _ (by simp; omega)).trans ((Below.heap_alloc _ _ _ (by simp; omega)).trans ((Below.heap_alloc _ _ _ hlq).trans hpq))))
          have hm : wr.heap.size < (w5).heap.size := by (have hq := hb.size; (try simp at hq); omega)
          clear hpq hlq
          have hpq := hn
          have hlq := hm
          clear hn hm
          clear q0 q1
          obtain ⟨q0, q1⟩ := cel2 hpq
          have hBn : Below w.heap.size w w5 := below_then (by first | exact hB | exact (by repeat (first | with_reducible exact Below.refl _ _ | with_reducible assumption | ((with_reducible refine Below.alloc ?_ ?hb_ _); (case hb_ => first | omega | (simp; done) | (simp; omega))) | ((with_reducible refine Below.setCell ?_ ?hb_ _); (case hb_ => first | omega | (simp; done) | (simp; omega))) | with_reducible refine Below.drew ?_ | with_reducible refine below_drewN ?_ _))) (by first | omega | (simp; omega)) hb
          have hsn : w.heap.size ≤ (w5).heap.size := hBn.size
          clear hB hsz hb
          have hB := hBn
          have hsz := hsn
          clear hBn hsn
          go_wp2_with fail
          refine (sat_any _ _ _ _ _ _ _ _ _ _ _ _ _ (by omega)).mono ?_
          rintro e w6 ⟨rfl, hb⟩
          rw [HQ.out]
          have hn : (w6).heap[wo.heap.size]? = _ := (hb.block (wo.heap.size) (by first | exact hlp | (simp; omega))).trans (by first | exact hpp | exact (Below.heap_alloc _ _ _ hlp).trans hpp | exact (Below.heap_alloc _ _ _ (by simp; omega)).trans ((Below.heap_alloc _ _ _ hlp).trans hpp) | exact (Below.heap_alloc _ _ _ (by simp; omega)).trans ((Below.heap_alloc _ _ _ (by simp; omega)).trans ((Below.heap_alloc _ _ _ hlp).trans hpp)) | exact (Below.heap_alloc _ _ _ (by simp; omega)).trans ((Below.heap_alloc _ _ _ (by simp; omega)).trans ((Below.heap_alloc _ _ _ (by simp; omega)).trans ((Below.heap_alloc _ _ _ hlp).trans hpp))))
          have hm : wo.heap.size < (w6).heap.size := by (have hq := hb.size; (try simp at hq); omega)
          clear hpp hlp
          have hpp := hn
          have hlp := hm
          clear hn hm
          clear p0 p1 p2 p3 p4 p5 p6 p7 p8 p9
          obtain ⟨p0, p1, p2, p3, p4, p5, p6, p7, p8, p9⟩ := pic10 hpp
          have hn : (w6).heap[wr.heap.size]? = _ := (hb.block (wr.heap.size) (by first | exact hlq | (simp; omega))).trans (by first | exact hpq | exact (Below.heap_alloc _ _ _ hlq).trans hpq | exact (Below.heap_alloc _ _ _ (by simp; omega)).trans ((Below.heap_alloc _ _ _ hlq).trans hpq) | exact (Below.heap_alloc _ _ _ (by simp; omega)).trans ((Below.heap_alloc _ _ _ (by simp; omega)).trans ((Below.heap_alloc _ _ _ hlq).trans hpq)) | exact (Below.heap_alloc _ _ _ (by simp; omega)).trans ((Below.heap_alloc _ _ _ (by simp; omega)).trans ((Below.heap_alloc _ _ _ (by simp; omega)).trans ((Below.heap_alloc _ _ _ hlq).trans hpq))))
          have hm : wr.heap.size < (w6).heap.size := by (have hq := hb.size; (try simp at hq); omega)
          clear hpq hlq
          have hpq := hn
          have hlq := hm
          clear hn hm
          clear q0 q1
          obtain ⟨q0, q1⟩ := cel2 hpq
          have hBn : Below w.heap.size w w6 := below_then (by first | exact hB | exact (by repeat (first | with_reducible exact Below.refl _ _ | with_reducible assumption | ((with_reducible refine Below.alloc ?_ ?hb_ _); (case hb_ => first | omega | (simp; done) | (simp; omega))) | ((with_reducible refine Below.setCell ?_ ?hb_ _); (case hb_ => first | omega | (simp; done) | (simp; omega))) | with_reducible refine Below.drew ?_ | with_reducible refine below_drewN ?_ _))) (by first | omega | (simp; omega)) hb
          have hsn : w.heap.size ≤ (w6).heap.size := hBn.size
          clear hB hsz hb
          have hB := hBn
          have hsz := hsn
          clear hBn hsn
          go_wp2_with fail
          have hpa := heap_alloc_new w6 (.cells #[.int .i64 i0, .int .i64 i1, .int .i64 i2, .int .i64 i3] 41)
          have hla : w6.heap.size < (w6.alloc (.cells #[.int .i64 i0, .int .i64 i1, .int .i64 i2, .int .i64 i3] 41)).heap.size := by simp
          obtain ⟨a0, a1, a2, a3⟩ := ink4 hpa
          refine (rat_any _ _ _ _ _ _ _ _ _ _ _ _ _ (by omega)).mono ?_
          rintro e w7 ⟨rfl, hb⟩
          rw [HQ.out]
          have hn : (w7).heap[wo.heap.size]? = _ := (hb.block (wo.heap.size) (by first | exact hlp | (simp; omega))).trans (by first | exact hpp | exact (Below.heap_alloc _ _ _ hlp).trans hpp | exact (Below.heap_alloc _ _ _ (by simp; omega)).trans ((Below.heap_alloc _ _ _ hlp).trans hpp) | exact (Below.heap_alloc _ _ _ (by simp; omega)).trans ((Below.heap_alloc _ _ _ (by simp; omega)).trans ((Below.heap_alloc _ _ _ hlp).trans hpp)) | exact (Below.heap_alloc _ _ _ (by simp; omega)).trans ((Below.heap_alloc _ _ _ (by simp; omega)).trans ((Below.heap_alloc _ _ _ (by simp; omega)).trans ((Below.heap_alloc _ _ _ hlp).trans hpp))))
          have hm : wo.heap.size < (w7).heap.size := by (have hq := hb.size; (try simp at hq); omega)
          clear hpp hlp
          have hpp := hn
          have hlp := hm
          clear hn hm
          clear p0 p1 p2 p3 p4 p5 p6 p7 p8 p9
          obtain ⟨p0, p1, p2, p3, p4, p5, p6, p7, p8, p9⟩ := pic10 hpp
          have hn : (w7).heap[w6.heap.size]? = _ := (hb.block (w6.heap.size) (by first | exact hla | (simp; omega))).trans (by first | exact hpa | exact (Below.heap_alloc _ _ _ hla).trans hpa | exact (Below.heap_alloc _ _ _ (by simp; omega)).trans ((Below.heap_alloc _ _ _ hla).trans hpa) | exact (Below.heap_alloc _ _ _ (by simp; omega)).trans ((Below.heap_alloc _ _ _ (by simp; omega)).trans ((Below.heap_alloc _ _ _ hla).trans hpa)) | exact (Below.heap_alloc _ _ _ (by simp; omega)).trans ((Below.heap_alloc _ _ _ (by simp; omega)).trans ((Below.heap_alloc _ _ _ (by simp; omega)).trans ((Below.heap_alloc _ _ _ hla).trans hpa))))
          have hm : w6.heap.size < (w7).heap.size := by (have hq := hb.size; (try simp at hq); omega)
          clear hpa hla
          have hpa := hn
          have hla := hm
          clear hn hm
          clear a0 a1 a2 a3
          obtain ⟨a0, a1, a2, a3⟩ := ink4 hpa
          have hBn : Below w.heap.size w w7 := below_then (by first | exact hB | exact (by repeat (first | with_reducible exact Below.refl _ _ | with_reducible assumption | ((with_reducible refine Below.alloc ?_ ?hb_ _); (case hb_ => first | omega | (simp; done) | (simp; omega))) | ((with_reducible refine Below.setCell ?_ ?hb_ _); (case hb_ => first | omega | (simp; done) | (simp; omega))) | with_reducible refine Below.drew ?_ | with_reducible refine below_drewN ?_ _))) (by first | omega | (simp; omega)) hb
          have hsn : w.heap.size ≤ (w7).heap.size := hBn.size
          clear hB hsz hb
          have hB := hBn
          have hsz := hsn
          clear hBn hsn
          go_wp2_with fail
          rw [eql4]
          go_simp
          go_wp2_with fail
          go_roundw
          case rel => exact ⟨j + 1, by omega, by go_num, (by repeat (first | with_reducible exact Below.refl _ _ | with_reducible assumption | ((with_reducible refine Below.alloc ?_ ?hb_ _); (case hb_ => first | omega | (simp; done) | (simp; omega))) | ((with_reducible refine Below.setCell ?_ ?hb_ _); (case hb_ => first | omega | (simp; done) | (simp; omega))) | with_reducible refine Below.drew ?_ | with_reducible refine below_drewN ?_ _)), by simp; omega, (Below.heap_alloc _ _ _ hlp).trans hpp⟩
          case measure => simp [intOf]; omega
        · obtain rfl : j = 4 := by omega
          go_wp2_with fail
          go_roundw
          case rel => exact ⟨k + 1, by omega, by go_num, hB, by omega⟩
          case measure => simp [intOf]; omega
    · obtain rfl : k = 2 := by omega
      go_wp2_with fail
      refine (works_any _).mono ?_
      rintro e w9 ⟨rfl, hb⟩
      have hB9 := below_then hB hsz hb
      go_wp2_with fail
      go_ret
      exact ⟨rfl, hB9⟩
end Go.Proofs.Ytkkeahnmmpcceaa.T3
