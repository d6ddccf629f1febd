/- MatrixUnits: the walk. -/
import Derived.Test.YtpgaibkjokoanaaMxY
import Derived.WalkKit
import Derived.Lib.Hide
import Derived.Deep.QuietTactic
import Derived.BigQuiet
import Derived.Lib.QuietBelow
import Derived.Deep.RegionHeld3
import Derived.WalkLawsBesides
import Derived.WalkSpells
import Derived.Outline
import Derived.Deep.DeepFit
import Derived.Maps.AppendAt
import Derived.Deep.AppendLies
import Derived.Deep.CutRange
import Derived.OpenShut
import Derived.Maps.RangeWalk
import Derived.Test.YtpgaibkjokoanaaGrow2
namespace Go.Proofs.Ytpgaibkjokoanaa.T3
set_option linter.unusedSimpArgs false
set_option linter.unusedVariables false
open Go.RowKit
set_option maxHeartbeats 4000000
set_option maxRecDepth 100000
theorem cell_as (w : World) (x : Obj) (cs : Array Value) (b o : Nat) (h : b < w.heap.size) : ((w.alloc x).setRow w.heap.size cs).cell? ⟨b, o, none⟩ = w.cell? ⟨b, o, none⟩ := by
  rw [cell_setRow_other _ _ _ _ (by simp; omega)]
  exact World.cell?_alloc_lt _ _ _ h
theorem cell_as_new (w : World) (old : Array Value) (t : TypeId) (cs : Array Value) (o : Nat) : ((w.alloc (.cells old t)).setRow w.heap.size cs).cell? ⟨w.heap.size, o, none⟩ = cs[o]? :=
  cell_setRow_same _ _ _ old cs t (0, 0) (heap_alloc_new w _)
theorem r16_one (x : Int) : r16 (x * 65536) = x := by unfold r16; omega
theorem r16_one' (x : Int) : r16 (65536 * x) = x := by unfold r16; omega
theorem r16_zero : r16 0 = 0 := by decide
theorem bd_ok {A B C D E F : Int} (h : mOk A B C D E F) (x y : Int) (hx : -16777216 ≤ x ∧ x ≤ 16777216) (hy : -16777216 ≤ y ∧ y ≤ 16777216) : vldE A B C D E F [x, y] = 0 := by
  have hw : withinB 2147483648 [x, y] = true := by simp [withinB]; omega
  unfold vldE
  rw [if_pos h, if_pos hw]
theorem cu_l {A B C D E F : Int} (h : mOk A B C D E F) (w : World) : Calls Try.prog 23 #[.agg #[.int .i64 65536, .int .i64 0, .int .i64 0, .int .i64 65536, .int .i64 0, .int .i64 0], .agg #[.int .i64 A, .int .i64 B, .int .i64 C, .int .i64 D, .int .i64 E, .int .i64 F]] w fun e w' => e = .returned (.tuple #[.agg #[.int .i64 A, .int .i64 B, .int .i64 C, .int .i64 D, .int .i64 E, .int .i64 F], .int .i64 0]) ∧ Below w.heap.size w w' := by
  have hu : mOk 65536 0 0 65536 0 0 := by decide
  have e := ccB_t hu h
  simp only [Int.zero_mul, Int.add_zero, Int.zero_add, r16_one', r16_zero, mOkB_t h] at e
  have := mcc_any 65536 0 0 65536 0 0 A B C D E F w
  rw [e.1, e.2, show lmE true = 0 from rfl] at this
  simp only [zif_t, Int.zero_mul, Int.add_zero, Int.zero_add, r16_one', r16_zero] at this
  exact this
theorem cu_r {A B C D E F : Int} (h : mOk A B C D E F) (w : World) : Calls Try.prog 23 #[.agg #[.int .i64 A, .int .i64 B, .int .i64 C, .int .i64 D, .int .i64 E, .int .i64 F], .agg #[.int .i64 65536, .int .i64 0, .int .i64 0, .int .i64 65536, .int .i64 0, .int .i64 0]] w fun e w' => e = .returned (.tuple #[.agg #[.int .i64 A, .int .i64 B, .int .i64 C, .int .i64 D, .int .i64 E, .int .i64 F], .int .i64 0]) ∧ Below w.heap.size w w' := by
  have hu : mOk 65536 0 0 65536 0 0 := by decide
  have e := ccB_t h hu
  simp only [Int.mul_zero, Int.add_zero, Int.zero_add, r16_one, r16_zero, mOkB_t h] at e
  have := mcc_any A B C D E F 65536 0 0 65536 0 0 w
  rw [e.1, e.2, show lmE true = 0 from rfl] at this
  simp only [zif_t, Int.mul_zero, Int.add_zero, Int.zero_add, r16_one, r16_zero] at this
  exact this
theorem tr_0 {A B C D E F : Int} (h : mOk A B C D E F) (w : World) : Calls Try.prog 35 #[.agg #[.int .i64 A, .int .i64 B, .int .i64 C, .int .i64 D, .int .i64 E, .int .i64 F], .int .i64 0, .int .i64 0] w fun e w' => e = .returned (.tuple #[.agg #[.int .i64 A, .int .i64 B, .int .i64 C, .int .i64 D, .int .i64 E, .int .i64 F], .int .i64 0]) ∧ Below w.heap.size w w' := by
  have hv := bd_ok h 0 0 (by omega) (by omega)
  have e1 : trB A B C D E F 0 0 = true := by simp [trB, hv, r16_zero, mOkB_t h]
  have e2 : trE A B C D E F 0 0 = 0 := by simp [trE, hv, r16_zero, mOkB_t h, lmE]
  have := mtr_any A B C D E F 0 0 w
  rw [e1, e2] at this
  simp only [zif_t, Int.mul_zero, Int.add_zero, Int.zero_add, r16_zero] at this
  exact this
theorem sc_1 {A B C D E F : Int} (h : mOk A B C D E F) (w : World) : Calls Try.prog 37 #[.agg #[.int .i64 A, .int .i64 B, .int .i64 C, .int .i64 D, .int .i64 E, .int .i64 F], .int .i64 65536, .int .i64 65536] w fun e w' => e = .returned (.tuple #[.agg #[.int .i64 A, .int .i64 B, .int .i64 C, .int .i64 D, .int .i64 E, .int .i64 F], .int .i64 0]) ∧ Below w.heap.size w w' := by
  have hv := bd_ok h 65536 65536 (by omega) (by omega)
  have e1 : scB A B C D E F 65536 65536 = true := by simp [scB, hv, r16_one, mOkB_t h]
  have e2 : scE A B C D E F 65536 65536 = 0 := by simp [scE, hv, r16_one, mOkB_t h, lmE]
  have := msc_any A B C D E F 65536 65536 w
  rw [e1, e2] at this
  simp only [zif_t, r16_one] at this
  exact this
theorem rot_full {A B C D E F : Int} (h : mOk A B C D E F) (k : Int) (k1 : -90 < k) (k2 : k < 90) (w : World) : Calls Try.prog 15 #[.agg #[.int .i64 A, .int .i64 B, .int .i64 C, .int .i64 D, .int .i64 E, .int .i64 F], .int .i64 (k * 360 * 65536)] w fun e w' => e = .returned (.tuple #[.agg #[.int .i64 A, .int .i64 B, .int .i64 C, .int .i64 D, .int .i64 E, .int .i64 F], .int .i64 0]) ∧ Below w.heap.size w w' := by
  have hs : sAny (k * 360 * 65536) = 0 := by
    unfold sAny
    rw [show k * 360 * 65536 % 23592960 = 0 by omega]
    decide
  have hc : sAny (k * 360 * 65536 + 5898240) = 65536 := by
    unfold sAny
    rw [show (k * 360 * 65536 + 5898240) % 23592960 = 5898240 by omega]
    decide
  have hu : mOk 65536 0 0 65536 0 0 := by decide
  have e := ccB_t hu h
  simp only [Int.zero_mul, Int.add_zero, Int.zero_add, r16_one', r16_zero, mOkB_t h] at e
  have hw : withinB 2147483648 [k * 360 * 65536] = true := by simp [withinB]; omega
  have hv : vldE A B C D E F [k * 360 * 65536] = 0 := by unfold vldE; rw [if_pos h, if_pos hw]
  have e1 : rtB A B C D E F (k * 360 * 65536) 0 65536 = true := by rw [rtB, hv, Int.neg_zero, e.1]; rfl
  have e2 : rtE A B C D E F (k * 360 * 65536) 0 65536 = 0 := by rw [rtE, if_pos hv, Int.neg_zero, e.2]; rfl
  have := mrot_any A B C D E F (k * 360 * 65536) 0 65536 w hs hc
  rw [e1, e2] at this
  simp only [zif_t, Int.neg_zero, Int.zero_mul, Int.add_zero, Int.zero_add, r16_one', r16_zero] at this
  exact this
theorem tr_cc {A B C D E F : Int} (h : mOk A B C D E F) (x y : Int) (hx : -16777216 ≤ x ∧ x ≤ 16777216) (hy : -16777216 ≤ y ∧ y ≤ 16777216) : ∃ v0 v1 v2 v3 v4 v5 v6 : Int, (∀ w : World, Calls Try.prog 35 #[.agg #[.int .i64 A, .int .i64 B, .int .i64 C, .int .i64 D, .int .i64 E, .int .i64 F], .int .i64 x, .int .i64 y] w fun e w' => e = .returned (.tuple #[.agg #[.int .i64 v0, .int .i64 v1, .int .i64 v2, .int .i64 v3, .int .i64 v4, .int .i64 v5], .int .i64 v6]) ∧ Below w.heap.size w w') ∧ (∀ w : World, Calls Try.prog 23 #[.agg #[.int .i64 65536, .int .i64 0, .int .i64 0, .int .i64 65536, .int .i64 x, .int .i64 y], .agg #[.int .i64 A, .int .i64 B, .int .i64 C, .int .i64 D, .int .i64 E, .int .i64 F]] w fun e w' => e = .returned (.tuple #[.agg #[.int .i64 v0, .int .i64 v1, .int .i64 v2, .int .i64 v3, .int .i64 v4, .int .i64 v5], .int .i64 v6]) ∧ Below w.heap.size w w') := by
  have hv := bd_ok h x y hx hy
  have hu : mOk 65536 0 0 65536 x y := by unfold mOk; omega
  have e := ccB_t hu h
  simp only [Int.zero_mul, Int.add_zero, Int.zero_add, r16_one', r16_zero, Int.mul_comm x, Int.mul_comm y] at e
  have e1 : trB A B C D E F x y = ccB 65536 0 0 65536 x y A B C D E F := by rw [e.1, trB, hv]; simp
  have e2 : trE A B C D E F x y = ccE 65536 0 0 65536 x y A B C D E F := by rw [e.2, trE, if_pos hv]
  refine ⟨_, _, _, _, _, _, _, fun w => mtr_any A B C D E F x y w, fun w => ?_⟩
  have := mcc_any 65536 0 0 65536 x y A B C D E F w
  rw [← e1, ← e2] at this
  simp only [Int.zero_mul, Int.add_zero, Int.zero_add, r16_one', r16_zero, Int.mul_comm x, Int.mul_comm y] at this
  exact this
theorem sc_cc {A B C D E F : Int} (h : mOk A B C D E F) (x y : Int) (hx : -16777216 ≤ x ∧ x ≤ 16777216) (hy : -16777216 ≤ y ∧ y ≤ 16777216) : ∃ v0 v1 v2 v3 v4 v5 v6 : Int, (∀ w : World, Calls Try.prog 37 #[.agg #[.int .i64 A, .int .i64 B, .int .i64 C, .int .i64 D, .int .i64 E, .int .i64 F], .int .i64 x, .int .i64 y] w fun e w' => e = .returned (.tuple #[.agg #[.int .i64 v0, .int .i64 v1, .int .i64 v2, .int .i64 v3, .int .i64 v4, .int .i64 v5], .int .i64 v6]) ∧ Below w.heap.size w w') ∧ (∀ w : World, Calls Try.prog 23 #[.agg #[.int .i64 x, .int .i64 0, .int .i64 0, .int .i64 y, .int .i64 0, .int .i64 0], .agg #[.int .i64 A, .int .i64 B, .int .i64 C, .int .i64 D, .int .i64 E, .int .i64 F]] w fun e w' => e = .returned (.tuple #[.agg #[.int .i64 v0, .int .i64 v1, .int .i64 v2, .int .i64 v3, .int .i64 v4, .int .i64 v5], .int .i64 v6]) ∧ Below w.heap.size w w') := by
  have hv := bd_ok h x y hx hy
  have hu : mOk x 0 0 y 0 0 := by unfold mOk; omega
  have e := ccB_t hu h
  simp only [Int.zero_mul, Int.add_zero, Int.zero_add, r16_one', r16_zero, Int.mul_comm x, Int.mul_comm y] at e
  have e1 : scB A B C D E F x y = ccB x 0 0 y 0 0 A B C D E F := by rw [e.1, scB, hv]; simp
  have e2 : scE A B C D E F x y = ccE x 0 0 y 0 0 A B C D E F := by rw [e.2, scE, if_pos hv]
  refine ⟨_, _, _, _, _, _, _, fun w => msc_any A B C D E F x y w, fun w => ?_⟩
  have := mcc_any x 0 0 y 0 0 A B C D E F w
  rw [← e1, ← e2] at this
  simp only [Int.zero_mul, Int.add_zero, Int.zero_add, r16_one', r16_zero, Int.mul_comm x, Int.mul_comm y] at this
  exact this
theorem cel26 {w : World} {g t : Nat} {fr : Nat × Nat} (all : List Value) (h : w.heap[g]? = some (.cells all.toArray t fr)) (j : Nat) : w.cell? ⟨g, j, none⟩ = all[j]? := by
  rw [cell_of_row w g j _ _ _ h]
  simp
theorem units_walk (k a0 a1 a2 a3 a4 a5 l b0 b1 b2 b3 b4 b5 x0 x1 x2 x3 x4 x5 n0 n1 n2 n3 px py t : Int) (w : World) (s_k : (Lit.int .u8 k).wf = true) (s_a0 : (Lit.int .i32 a0).wf = true) (s_a1 : (Lit.int .i32 a1).wf = true) (s_a2 : (Lit.int .i32 a2).wf = true) (s_a3 : (Lit.int .i32 a3).wf = true) (s_a4 : (Lit.int .i32 a4).wf = true) (s_a5 : (Lit.int .i32 a5).wf = true) (s_l : (Lit.int .u8 l).wf = true) (s_b0 : (Lit.int .i32 b0).wf = true) (s_b1 : (Lit.int .i32 b1).wf = true) (s_b2 : (Lit.int .i32 b2).wf = true) (s_b3 : (Lit.int .i32 b3).wf = true) (s_b4 : (Lit.int .i32 b4).wf = true) (s_b5 : (Lit.int .i32 b5).wf = true) (s_x0 : (Lit.int .i64 x0).wf = true) (s_x1 : (Lit.int .i64 x1).wf = true) (s_x2 : (Lit.int .i64 x2).wf = true) (s_x3 : (Lit.int .i64 x3).wf = true) (s_x4 : (Lit.int .i64 x4).wf = true) (s_x5 : (Lit.int .i64 x5).wf = true) (s_n0 : (Lit.int .i64 n0).wf = true) (s_n1 : (Lit.int .i64 n1).wf = true) (s_n2 : (Lit.int .i64 n2).wf = true) (s_n3 : (Lit.int .i64 n3).wf = true) (s_px : (Lit.int .i64 px).wf = true) (s_py : (Lit.int .i64 py).wf = true) (s_t : (Lit.int .i8 t).wf = true) :
    Calls Try.prog 9 #[.agg #[.int .u8 k, .int .i32 a0, .int .i32 a1, .int .i32 a2, .int .i32 a3, .int .i32 a4, .int .i32 a5, .int .u8 l, .int .i32 b0, .int .i32 b1, .int .i32 b2, .int .i32 b3, .int .i32 b4, .int .i32 b5, .int .i64 x0, .int .i64 x1, .int .i64 x2, .int .i64 x3, .int .i64 x4, .int .i64 x5, .int .i64 n0, .int .i64 n1, .int .i64 n2, .int .i64 n3, .int .i64 px, .int .i64 py], .int .i8 t] w fun e w' => e = .returned (.bool true) ∧ Below w.heap.size w w' := by
  go_enter Try.func9, Try.ntmps9
  go_wp2_with ((with_reducible refine rw_list ?_); (first | ((with_reducible apply wpList_load_cell); (case ho => with_reducible rfl); (case hgd => with_reducible rfl); (case hx => rfl); (case hu => first | exact Try.underlying30 | exact Try.underlying25 | exact Try.underlying28 | exact Try.underlying31 | exact Try.underlying3); (case hd => rfl)) | ((with_reducible apply wpList_load_row); (case ho => with_reducible rfl); (case hgd => with_reducible rfl); (case hx => rfl); (case hu => first | exact Try.underlying30 | exact Try.underlying25 | exact Try.underlying28 | exact Try.underlying31 | exact Try.underlying3); (case hd => rfl)) | ((with_reducible apply wpList_store_row); (case ho => with_reducible rfl); (case hgd => with_reducible rfl); (case hx => rfl); (case hy => rfl)) | ((with_reducible apply wpList_store_cell); (case ho => with_reducible rfl); (case hgd => with_reducible rfl); (case hx => rfl); (case hy => first | exact ev_const | exact ev_tmp rfl); (case h1 => rfl))); (case hg => exact (by with_reducible repeat (first | assumption | (refine rw_new ?e_; case e_ => first | rfl | (simp; done) | (simp; omega)) | apply rw_self | (apply rw_other; case hn => first | omega | (simp; omega)) | apply rw_alloc | apply rw_drew | apply rw_drewN))); (try case hv => rfl); (try case hi => kernel_rfl); (try case hold => rfl); (try case h1 => kernel_rfl); (try case hlt => rfl); (try case hcs => ((try simp only [List.setIfInBounds_toArray, List.set_cons_succ, List.set_cons_zero]); rfl)))
  refine (works_any _).mono ?_
  rintro e w1 ⟨rfl, hb⟩
  have hs_w1 := hb.size
  (try simp at hs_w1)
  have hB_w1 : Below w.heap.size w w1 := below_then (w := w) (by with_reducible repeat (first | exact Below.refl _ _ | assumption | ((first | refine Below.alloc ?_ ?b_ _ | refine bw_set ?_ ?b_ | refine Below.setCell ?_ ?b_ _); case b_ => first | omega | (simp; done) | (simp; omega)) | refine Below.drew ?_ | refine below_drewN ?_ _)) (by first | omega | (simp; done) | (simp; omega) | (have hq_ := hb.size; omega)) hb
  have hx_ := rw_below (k := w.heap.size) hb (by with_reducible repeat (first | assumption | (refine rw_new ?e_; case e_ => first | rfl | (simp; done) | (simp; omega)) | apply rw_self | (apply rw_other; case hn => first | omega | (simp; omega)) | apply rw_alloc | apply rw_drew | apply rw_drewN))
  (try clear hp)
  have hp := hx_
  clear hx_
  clear hb
  have hcells := cel26 [.int .u8 k, .int .i32 a0, .int .i32 a1, .int .i32 a2, .int .i32 a3, .int .i32 a4, .int .i32 a5, .int .u8 l, .int .i32 b0, .int .i32 b1, .int .i32 b2, .int .i32 b3, .int .i32 b4, .int .i32 b5, .int .i64 x0, .int .i64 x1, .int .i64 x2, .int .i64 x3, .int .i64 x4, .int .i64 x5, .int .i64 n0, .int .i64 n1, .int .i64 n2, .int .i64 n3, .int .i64 px, .int .i64 py] hp
  have hz := fun j => hcells j
  clear hcells
  have c0 := hz 0
  have c1 := hz 1
  have c2 := hz 2
  have c3 := hz 3
  have c4 := hz 4
  have c5 := hz 5
  have c6 := hz 6
  simp only [List.getElem?_cons_zero, List.getElem?_cons_succ] at c0 c1 c2 c3 c4 c5 c6
  clear hz
  go_wp2_with ((with_reducible refine rw_list ?_); (first | ((with_reducible apply wpList_load_cell); (case ho => with_reducible rfl); (case hgd => with_reducible rfl); (case hx => rfl); (case hu => first | exact Try.underlying30 | exact Try.underlying25 | exact Try.underlying28 | exact Try.underlying31 | exact Try.underlying3); (case hd => rfl)) | ((with_reducible apply wpList_load_row); (case ho => with_reducible rfl); (case hgd => with_reducible rfl); (case hx => rfl); (case hu => first | exact Try.underlying30 | exact Try.underlying25 | exact Try.underlying28 | exact Try.underlying31 | exact Try.underlying3); (case hd => rfl)) | ((with_reducible apply wpList_store_row); (case ho => with_reducible rfl); (case hgd => with_reducible rfl); (case hx => rfl); (case hy => rfl)) | ((with_reducible apply wpList_store_cell); (case ho => with_reducible rfl); (case hgd => with_reducible rfl); (case hx => rfl); (case hy => first | exact ev_const | exact ev_tmp rfl); (case h1 => rfl))); (case hg => exact (by with_reducible repeat (first | assumption | (refine rw_new ?e_; case e_ => first | rfl | (simp; done) | (simp; omega)) | apply rw_self | (apply rw_other; case hn => first | omega | (simp; omega)) | apply rw_alloc | apply rw_drew | apply rw_drewN))); (try case hv => rfl); (try case hi => kernel_rfl); (try case hold => rfl); (try case h1 => kernel_rfl); (try case hlt => rfl); (try case hcs => ((try simp only [List.setIfInBounds_toArray, List.set_cons_succ, List.set_cons_zero]); rfl)))
  clear c0 c1 c2 c3 c4 c5 c6
  refine (dmatrix_any _ _ _ _ _ _ _ _ (bounds_u8 s_k) (bounds_i32 s_a0) (bounds_i32 s_a1) (bounds_i32 s_a2) (bounds_i32 s_a3) (bounds_i32 s_a4) (bounds_i32 s_a5)).mono ?_
  rintro e w2 ⟨⟨A, B, C, D, E, F, H, rfl⟩, hB1⟩
  have H := Lib.hid H
  have hb := hB1
  clear hB1
  have hs_w2 := hb.size
  (try simp at hs_w2)
  have hB_w2 : Below w.heap.size w w2 := below_then (w := w) (by with_reducible repeat (first | exact Below.refl _ _ | assumption | ((first | refine Below.alloc ?_ ?b_ _ | refine bw_set ?_ ?b_ | refine Below.setCell ?_ ?b_ _); case b_ => first | omega | (simp; done) | (simp; omega)) | refine Below.drew ?_ | refine below_drewN ?_ _)) (by first | omega | (simp; done) | (simp; omega) | (have hq_ := hb.size; omega)) hb
  have hx_ := rw_below (k := w.heap.size) hb (by with_reducible repeat (first | assumption | (refine rw_new ?e_; case e_ => first | rfl | (simp; done) | (simp; omega)) | apply rw_self | (apply rw_other; case hn => first | omega | (simp; omega)) | apply rw_alloc | apply rw_drew | apply rw_drewN))
  (try clear hp)
  have hp := hx_
  clear hx_
  clear hb
  go_wp2_with ((with_reducible refine rw_list ?_); (first | ((with_reducible apply wpList_load_cell); (case ho => with_reducible rfl); (case hgd => with_reducible rfl); (case hx => rfl); (case hu => first | exact Try.underlying30 | exact Try.underlying25 | exact Try.underlying28 | exact Try.underlying31 | exact Try.underlying3); (case hd => rfl)) | ((with_reducible apply wpList_load_row); (case ho => with_reducible rfl); (case hgd => with_reducible rfl); (case hx => rfl); (case hu => first | exact Try.underlying30 | exact Try.underlying25 | exact Try.underlying28 | exact Try.underlying31 | exact Try.underlying3); (case hd => rfl)) | ((with_reducible apply wpList_store_row); (case ho => with_reducible rfl); (case hgd => with_reducible rfl); (case hx => rfl); (case hy => rfl)) | ((with_reducible apply wpList_store_cell); (case ho => with_reducible rfl); (case hgd => with_reducible rfl); (case hx => rfl); (case hy => first | exact ev_const | exact ev_tmp rfl); (case h1 => rfl))); (case hg => exact (by with_reducible repeat (first | assumption | (refine rw_new ?e_; case e_ => first | rfl | (simp; done) | (simp; omega)) | apply rw_self | (apply rw_other; case hn => first | omega | (simp; omega)) | apply rw_alloc | apply rw_drew | apply rw_drewN))); (try case hv => rfl); (try case hi => kernel_rfl); (try case hold => rfl); (try case h1 => kernel_rfl); (try case hlt => rfl); (try case hcs => ((try simp only [List.setIfInBounds_toArray, List.set_cons_succ, List.set_cons_zero]); rfl)))
  generalize hwy_ : World.setRow _ _ _ = wy
  have hB_wy : Below w.heap.size w wy := bw_eq hwy_ (by with_reducible repeat (first | exact Below.refl _ _ | assumption | ((first | refine Below.alloc ?_ ?b_ _ | refine bw_set ?_ ?b_ | refine Below.setCell ?_ ?b_ _); case b_ => first | omega | (simp; done) | (simp; omega)) | refine Below.drew ?_ | refine below_drewN ?_ _))
  have hx_ := rw_eq (k := w.heap.size) hwy_ (by with_reducible repeat (first | assumption | (refine rw_new ?e_; case e_ => first | rfl | (simp; done) | (simp; omega)) | apply rw_self | (apply rw_other; case hn => first | omega | (simp; omega)) | apply rw_alloc | apply rw_drew | apply rw_drewN))
  (try clear hp)
  have hp := hx_
  clear hx_
  have hl_hp := rw_lt hp
  have hx_ := rw_eq (k := w2.heap.size) hwy_ (by with_reducible repeat (first | assumption | (refine rw_new ?e_; case e_ => first | rfl | (simp; done) | (simp; omega)) | apply rw_self | (apply rw_other; case hn => first | omega | (simp; omega)) | apply rw_alloc | apply rw_drew | apply rw_drewN))
  (try clear hm)
  have hm := hx_
  clear hx_
  have hl_hm := rw_lt hm
  clear hwy_
  have hmc := cel6 hm
  obtain ⟨hmc0, hmc1, hmc2, hmc3, hmc4, hmc5⟩ := hmc
  (try go_frame)
  go_cut [6, 7] from 31 to 36 (fun va vb wx => ∃ g : Nat, va = .pointer (some ⟨g, 0, none⟩) ∧ vb = .int .i64 0 ∧ Below w.heap.size w wx ∧ wx.heap[w.heap.size]? = some (.cells #[.int .u8 k, .int .i32 a0, .int .i32 a1, .int .i32 a2, .int .i32 a3, .int .i32 a4, .int .i32 a5, .int .u8 l, .int .i32 b0, .int .i32 b1, .int .i32 b2, .int .i32 b3, .int .i32 b4, .int .i32 b5, .int .i64 x0, .int .i64 x1, .int .i64 x2, .int .i64 x3, .int .i64 x4, .int .i64 x5, .int .i64 n0, .int .i64 n1, .int .i64 n2, .int .i64 n3, .int .i64 px, .int .i64 py] 30 (0, 0)) ∧ wx.heap[w2.heap.size]? = some (.cells #[.int .i64 A, .int .i64 B, .int .i64 C, .int .i64 D, .int .i64 E, .int .i64 F] 25 (0, 0)) ∧ wx.heap[g]? = some (.cells #[.int .i64 A, .int .i64 B, .int .i64 C, .int .i64 D, .int .i64 E, .int .i64 F] 25 (0, 0)))
  case first =>
    refine wp_region_ord (.s 1 .l (.f 0 (.f 2 (.s 3 .p (.s 4 .p (.s 5 .p (.s 6 .e (.s 7 .e (.s 8 .p .done)))))) 6 (.s 2 .e (.s 3 .p (.s 4 .p (.s 5 .p (.s 7 .e (.s 8 .p .done))))))) 6 (.s 0 .e (.s 2 .e (.s 3 .p (.s 4 .p (.s 5 .p (.s 7 .e (.s 8 .p .done))))))))) (Held wy []) (by kernel_rfl) (by kernel_rfl) (fun _ _ _ _ _ h => h) (Held.refl _ _) ?_
    (apply wpOrd_l2 rfl rfl rfl rfl rfl; (intro w' K hS' hK; (have hr' := hS'.cell; simp at hr'; (first | go_big_op | go_wp2_with fail); exact hK)); (first | assumption | exact Held.refl _ _ | exact Held.of_below (by repeat (first | with_reducible exact Below.refl _ _ | with_reducible assumption | ((with_reducible refine Below.alloc ?_ ?hb_ _); (case hb_ => first | omega | (simp; done) | (simp; omega))) | ((with_reducible refine Below.setCell ?_ ?hb_ _); (case hb_ => first | omega | (simp; done) | (simp; omega))) | with_reducible refine Below.drew ?_ | with_reducible refine below_drewN ?_ _))))
    refine wpOrd_f rfl rfl rfl rfl (fun K hK => ?_) (fun K hK => ?_)
    · (first | go_big_op | go_wp2_with fail)
      refine (munit_any _).mono ?_; rintro e q0 ⟨rfl, hb⟩; have hVq0 : Below wy.heap.size wy q0 := below_then (w := wy) (by with_reducible repeat (first | exact Below.refl _ _ | assumption | ((first | refine Below.alloc ?_ ?b_ _ | refine bw_set ?_ ?b_ | refine Below.setCell ?_ ?b_ _); case b_ => first | omega | (simp; done) | (simp; omega)) | refine Below.drew ?_ | refine below_drewN ?_ _)) (by first | (simp; done) | omega | (simp; omega)) hb; have hsq0 := hVq0.size; clear hb; refine hK _ _ (Held.of_below hVq0) ?_; clear hK K
      refine wpOrd_f rfl rfl rfl rfl (fun K hK => ?_) (fun K hK => ?_)
      · (first | go_big_op | go_wp2_with fail)
        refine (cu_l H.out _).mono ?_; rintro e q1 ⟨rfl, hb⟩; have hVq1 : Below wy.heap.size wy q1 := below_then (w := wy) (by with_reducible repeat (first | exact Below.refl _ _ | assumption | ((first | refine Below.alloc ?_ ?b_ _ | refine bw_set ?_ ?b_ | refine Below.setCell ?_ ?b_ _); case b_ => first | omega | (simp; done) | (simp; omega)) | refine Below.drew ?_ | refine below_drewN ?_ _)) (by first | (simp; done) | omega | (simp; omega)) hb; have hsq1 := hVq1.size; clear hb; refine hK _ _ (Held.of_below hVq1) ?_; clear hK K
        (apply wpOrd_p2 rfl rfl rfl rfl rfl; (intro w' K hK; (first | go_big_move | go_big_op | go_wp2_with fail); exact hK))
        (apply wpOrd_p2 rfl rfl rfl rfl rfl; (intro w' K hK; (first | go_big_move | go_big_op | go_wp2_with fail); exact hK))
        (apply wpOrd_p2 rfl rfl rfl rfl rfl; (intro w' K hK; (first | go_big_move | go_big_op | go_wp2_with fail); exact hK))
        (refine wpOrd_e1 rfl rfl (fun K hK => ?_)); (first | go_big_op | go_wp2_with fail)
        refine hK _ _ (Held.of_below (by with_reducible repeat (first | exact Below.refl _ _ | assumption | ((first | refine Below.alloc ?_ ?b_ _ | refine bw_set ?_ ?b_ | refine Below.setCell ?_ ?b_ _); case b_ => first | omega | (simp; done) | (simp; omega)) | refine Below.drew ?_ | refine below_drewN ?_ _))) ?_; clear hK K
        (refine wpOrd_e1 rfl rfl (fun K hK => ?_))
        refine wp_store_row 25 _ _ rfl (q1.heap.size) _ rfl rfl _ _ (rw_new rfl) (by kernel_rfl) rfl (by kernel_rfl) ?_; refine hK _ _ (Held.of_below (by with_reducible repeat (first | exact Below.refl _ _ | assumption | ((first | refine Below.alloc ?_ ?b_ _ | refine bw_set ?_ ?b_ | refine Below.setCell ?_ ?b_ _); case b_ => first | omega | (simp; done) | (simp; omega)) | refine Below.drew ?_ | refine below_drewN ?_ _))) ?_; clear hK K
        (apply wpOrd_p2 rfl rfl rfl rfl rfl; (intro w' K hK; (first | go_big_move | go_big_op | go_wp2_with fail); exact hK))
        refine wpOrd_nil ?_
        go_wp2_with fail
        go_meet
        have hBq := below_then (w := w) hB_wy (by have := hB_wy.size; omega) hVq1
        have hp' := rw_below hVq1 hp
        have hlhp' := rw_lt hp
        have hkhp' := rw_lt hp'
        clear hp
        have hm' := rw_below hVq1 hm
        have hlhm' := rw_lt hm
        have hkhm' := rw_lt hm'
        clear hm
        have hsb := hB_wy.size
        exact ⟨q1.heap.size, rfl, rfl, (by with_reducible repeat (first | exact Below.refl _ _ | assumption | ((first | refine Below.alloc ?_ ?b_ _ | refine bw_set ?_ ?b_ | refine Below.setCell ?_ ?b_ _); case b_ => first | omega | (simp; done) | (simp; omega)) | refine Below.drew ?_ | refine below_drewN ?_ _)), (by with_reducible repeat (first | assumption | (refine rw_new ?e_; case e_ => first | rfl | (simp; done) | (simp; omega)) | apply rw_self | (apply rw_other; case hn => first | omega | (simp; omega)) | apply rw_alloc | apply rw_drew | apply rw_drewN)), (by with_reducible repeat (first | assumption | (refine rw_new ?e_; case e_ => first | rfl | (simp; done) | (simp; omega)) | apply rw_self | (apply rw_other; case hn => first | omega | (simp; omega)) | apply rw_alloc | apply rw_drew | apply rw_drewN)), (by with_reducible repeat (first | assumption | (refine rw_new ?e_; case e_ => first | rfl | (simp; done) | (simp; omega)) | apply rw_self | (apply rw_other; case hn => first | omega | (simp; omega)) | apply rw_alloc | apply rw_drew | apply rw_drewN))⟩
      · (first | go_big_op | go_wp2_with fail)
        refine hK _ _ (Held.of_below (by with_reducible repeat (first | exact Below.refl _ _ | assumption | ((first | refine Below.alloc ?_ ?b_ _ | refine bw_set ?_ ?b_ | refine Below.setCell ?_ ?b_ _); case b_ => first | omega | (simp; done) | (simp; omega)) | refine Below.drew ?_ | refine below_drewN ?_ _))) ?_; clear hK K
        (refine wpOrd_e1 rfl rfl (fun K hK => ?_)); (first | go_big_op | go_wp2_with fail)
        refine (cu_l H.out _).mono ?_; rintro e q1 ⟨rfl, hb⟩; have hgr := rw_below (k := q0.heap.size) hb (rw_new rfl); have hVq1 : Below wy.heap.size wy q1 := below_then (w := wy) (by with_reducible repeat (first | exact Below.refl _ _ | assumption | ((first | refine Below.alloc ?_ ?b_ _ | refine bw_set ?_ ?b_ | refine Below.setCell ?_ ?b_ _); case b_ => first | omega | (simp; done) | (simp; omega)) | refine Below.drew ?_ | refine below_drewN ?_ _)) (by first | (simp; done) | omega | (simp; omega)) hb; have hsq1 := hVq1.size; clear hb; refine hK _ _ (Held.of_below hVq1) ?_; clear hK K
        (apply wpOrd_p2 rfl rfl rfl rfl rfl; (intro w' K hK; (first | go_big_move | go_big_op | go_wp2_with fail); exact hK))
        (apply wpOrd_p2 rfl rfl rfl rfl rfl; (intro w' K hK; (first | go_big_move | go_big_op | go_wp2_with fail); exact hK))
        (apply wpOrd_p2 rfl rfl rfl rfl rfl; (intro w' K hK; (first | go_big_move | go_big_op | go_wp2_with fail); exact hK))
        (refine wpOrd_e1 rfl rfl (fun K hK => ?_))
        refine wp_store_row 25 _ _ rfl (q0.heap.size) _ rfl rfl _ _ hgr (by kernel_rfl) rfl (by kernel_rfl) ?_; refine hK _ _ (Held.of_below (by with_reducible repeat (first | exact Below.refl _ _ | assumption | ((first | refine Below.alloc ?_ ?b_ _ | refine bw_set ?_ ?b_ | refine Below.setCell ?_ ?b_ _); case b_ => first | omega | (simp; done) | (simp; omega)) | refine Below.drew ?_ | refine below_drewN ?_ _))) ?_; clear hK K
        (apply wpOrd_p2 rfl rfl rfl rfl rfl; (intro w' K hK; (first | go_big_move | go_big_op | go_wp2_with fail); exact hK))
        refine wpOrd_nil ?_
        go_wp2_with fail
        go_meet
        have hBq := below_then (w := w) hB_wy (by have := hB_wy.size; omega) hVq1
        have hp' := rw_below hVq1 hp
        have hlhp' := rw_lt hp
        have hkhp' := rw_lt hp'
        clear hp
        have hm' := rw_below hVq1 hm
        have hlhm' := rw_lt hm
        have hkhm' := rw_lt hm'
        clear hm
        have hsb := hB_wy.size
        exact ⟨q0.heap.size, rfl, rfl, (by with_reducible repeat (first | exact Below.refl _ _ | assumption | ((first | refine Below.alloc ?_ ?b_ _ | refine bw_set ?_ ?b_ | refine Below.setCell ?_ ?b_ _); case b_ => first | omega | (simp; done) | (simp; omega)) | refine Below.drew ?_ | refine below_drewN ?_ _)), (by with_reducible repeat (first | assumption | (refine rw_new ?e_; case e_ => first | rfl | (simp; done) | (simp; omega)) | apply rw_self | (apply rw_other; case hn => first | omega | (simp; omega)) | apply rw_alloc | apply rw_drew | apply rw_drewN)), (by with_reducible repeat (first | assumption | (refine rw_new ?e_; case e_ => first | rfl | (simp; done) | (simp; omega)) | apply rw_self | (apply rw_other; case hn => first | omega | (simp; omega)) | apply rw_alloc | apply rw_drew | apply rw_drewN)), rw_self hgr⟩
    · (first | go_big_op | go_wp2_with fail)
      refine hK _ _ (Held.of_below (by with_reducible repeat (first | exact Below.refl _ _ | assumption | ((first | refine Below.alloc ?_ ?b_ _ | refine bw_set ?_ ?b_ | refine Below.setCell ?_ ?b_ _); case b_ => first | omega | (simp; done) | (simp; omega)) | refine Below.drew ?_ | refine below_drewN ?_ _))) ?_; clear hK K
      (refine wpOrd_e1 rfl rfl (fun K hK => ?_)); (first | go_big_op | go_wp2_with fail)
      refine (munit_any _).mono ?_; rintro e q0 ⟨rfl, hb⟩; have hgr := rw_below (k := wy.heap.size) hb (rw_new rfl); have hVq0 : Below wy.heap.size wy q0 := below_then (w := wy) (by with_reducible repeat (first | exact Below.refl _ _ | assumption | ((first | refine Below.alloc ?_ ?b_ _ | refine bw_set ?_ ?b_ | refine Below.setCell ?_ ?b_ _); case b_ => first | omega | (simp; done) | (simp; omega)) | refine Below.drew ?_ | refine below_drewN ?_ _)) (by first | (simp; done) | omega | (simp; omega)) hb; have hsq0 := hVq0.size; clear hb; refine hK _ _ (Held.of_below hVq0) ?_; clear hK K
      (refine wpOrd_e1 rfl rfl (fun K hK => ?_)); (first | go_big_op | go_wp2_with fail)
      refine (cu_l H.out _).mono ?_; rintro e q1 ⟨rfl, hb⟩; have hgr' := rw_below hb hgr; clear hgr; have hgr := hgr'; clear hgr'; have hVq1 : Below wy.heap.size wy q1 := below_then (w := wy) (by with_reducible repeat (first | exact Below.refl _ _ | assumption | ((first | refine Below.alloc ?_ ?b_ _ | refine bw_set ?_ ?b_ | refine Below.setCell ?_ ?b_ _); case b_ => first | omega | (simp; done) | (simp; omega)) | refine Below.drew ?_ | refine below_drewN ?_ _)) (by first | (simp; done) | omega | (simp; omega)) hb; have hsq1 := hVq1.size; clear hb; refine hK _ _ (Held.of_below hVq1) ?_; clear hK K
      (apply wpOrd_p2 rfl rfl rfl rfl rfl; (intro w' K hK; (first | go_big_move | go_big_op | go_wp2_with fail); exact hK))
      (apply wpOrd_p2 rfl rfl rfl rfl rfl; (intro w' K hK; (first | go_big_move | go_big_op | go_wp2_with fail); exact hK))
      (apply wpOrd_p2 rfl rfl rfl rfl rfl; (intro w' K hK; (first | go_big_move | go_big_op | go_wp2_with fail); exact hK))
      (refine wpOrd_e1 rfl rfl (fun K hK => ?_))
      refine wp_store_row 25 _ _ rfl (wy.heap.size) _ rfl rfl _ _ hgr (by kernel_rfl) rfl (by kernel_rfl) ?_; refine hK _ _ (Held.of_below (by with_reducible repeat (first | exact Below.refl _ _ | assumption | ((first | refine Below.alloc ?_ ?b_ _ | refine bw_set ?_ ?b_ | refine Below.setCell ?_ ?b_ _); case b_ => first | omega | (simp; done) | (simp; omega)) | refine Below.drew ?_ | refine below_drewN ?_ _))) ?_; clear hK K
      (apply wpOrd_p2 rfl rfl rfl rfl rfl; (intro w' K hK; (first | go_big_move | go_big_op | go_wp2_with fail); exact hK))
      refine wpOrd_nil ?_
      go_wp2_with fail
      go_meet
      have hBq := below_then (w := w) hB_wy (by have := hB_wy.size; omega) hVq1
      have hp' := rw_below hVq1 hp
      have hlhp' := rw_lt hp
      have hkhp' := rw_lt hp'
      clear hp
      have hm' := rw_below hVq1 hm
      have hlhm' := rw_lt hm
      have hkhm' := rw_lt hm'
      clear hm
      have hsb := hB_wy.size
      exact ⟨wy.heap.size, rfl, rfl, (by with_reducible repeat (first | exact Below.refl _ _ | assumption | ((first | refine Below.alloc ?_ ?b_ _ | refine bw_set ?_ ?b_ | refine Below.setCell ?_ ?b_ _); case b_ => first | omega | (simp; done) | (simp; omega)) | refine Below.drew ?_ | refine below_drewN ?_ _)), (by with_reducible repeat (first | assumption | (refine rw_new ?e_; case e_ => first | rfl | (simp; done) | (simp; omega)) | apply rw_self | (apply rw_other; case hn => first | omega | (simp; omega)) | apply rw_alloc | apply rw_drew | apply rw_drewN)), (by with_reducible repeat (first | assumption | (refine rw_new ?e_; case e_ => first | rfl | (simp; done) | (simp; omega)) | apply rw_self | (apply rw_other; case hn => first | omega | (simp; omega)) | apply rw_alloc | apply rw_drew | apply rw_drewN)), rw_self hgr⟩
  case rest =>
    clear hB_wy hp hm
    obtain ⟨ba, rfl, rfl, hB_wz, hp, hm, ha⟩ := hcut
    have hlq := rw_lt hm
    go_wp2_with fail
    obtain ⟨wz, hwz⟩ : ∃ wz, wz = wc := ⟨wc, rfl⟩
    subst hwz
    obtain ⟨hmc0, hmc1, hmc2, hmc3, hmc4, hmc5⟩ := cel6 hm
    (try go_frame)
    go_cut [8, 9] from 37 to 42 (fun va vb wx => ∃ g : Nat, va = .pointer (some ⟨g, 0, none⟩) ∧ vb = .int .i64 0 ∧ Below w.heap.size w wx ∧ wx.heap[w.heap.size]? = some (.cells #[.int .u8 k, .int .i32 a0, .int .i32 a1, .int .i32 a2, .int .i32 a3, .int .i32 a4, .int .i32 a5, .int .u8 l, .int .i32 b0, .int .i32 b1, .int .i32 b2, .int .i32 b3, .int .i32 b4, .int .i32 b5, .int .i64 x0, .int .i64 x1, .int .i64 x2, .int .i64 x3, .int .i64 x4, .int .i64 x5, .int .i64 n0, .int .i64 n1, .int .i64 n2, .int .i64 n3, .int .i64 px, .int .i64 py] 30 (0, 0)) ∧ wx.heap[w2.heap.size]? = some (.cells #[.int .i64 A, .int .i64 B, .int .i64 C, .int .i64 D, .int .i64 E, .int .i64 F] 25 (0, 0)) ∧ wx.heap[ba]? = some (.cells #[.int .i64 A, .int .i64 B, .int .i64 C, .int .i64 D, .int .i64 E, .int .i64 F] 25 (0, 0)) ∧ wx.heap[g]? = some (.cells #[.int .i64 A, .int .i64 B, .int .i64 C, .int .i64 D, .int .i64 E, .int .i64 F] 25 (0, 0)))
    case first =>
      refine wp_region_ord (.s 0 .l (.f 1 (.f 2 (.s 3 .p (.s 4 .p (.s 5 .p (.s 6 .e (.s 7 .e (.s 8 .p .done)))))) 6 (.s 2 .e (.s 3 .p (.s 4 .p (.s 5 .p (.s 7 .e (.s 8 .p .done))))))) 6 (.s 1 .e (.s 2 .e (.s 3 .p (.s 4 .p (.s 5 .p (.s 7 .e (.s 8 .p .done))))))))) (Held wz []) (by kernel_rfl) (by kernel_rfl) (fun _ _ _ _ _ h => h) (Held.refl _ _) ?_
      (apply wpOrd_l2 rfl rfl rfl rfl rfl; (intro w' K hS' hK; (have hr' := hS'.cell; simp at hr'; (first | go_big_op | go_wp2_with fail); exact hK)); (first | assumption | exact Held.refl _ _ | exact Held.of_below (by repeat (first | with_reducible exact Below.refl _ _ | with_reducible assumption | ((with_reducible refine Below.alloc ?_ ?hb_ _); (case hb_ => first | omega | (simp; done) | (simp; omega))) | ((with_reducible refine Below.setCell ?_ ?hb_ _); (case hb_ => first | omega | (simp; done) | (simp; omega))) | with_reducible refine Below.drew ?_ | with_reducible refine below_drewN ?_ _))))
      refine wpOrd_f rfl rfl rfl rfl (fun K hK => ?_) (fun K hK => ?_)
      · (first | go_big_op | go_wp2_with fail)
        refine (munit_any _).mono ?_; rintro e q0 ⟨rfl, hb⟩; have hVq0 : Below wz.heap.size wz q0 := below_then (w := wz) (by with_reducible repeat (first | exact Below.refl _ _ | assumption | ((first | refine Below.alloc ?_ ?b_ _ | refine bw_set ?_ ?b_ | refine Below.setCell ?_ ?b_ _); case b_ => first | omega | (simp; done) | (simp; omega)) | refine Below.drew ?_ | refine below_drewN ?_ _)) (by first | (simp; done) | omega | (simp; omega)) hb; have hsq0 := hVq0.size; clear hb; refine hK _ _ (Held.of_below hVq0) ?_; clear hK K
        refine wpOrd_f rfl rfl rfl rfl (fun K hK => ?_) (fun K hK => ?_)
        · (first | go_big_op | go_wp2_with fail)
          refine (cu_r H.out _).mono ?_; rintro e q1 ⟨rfl, hb⟩; have hVq1 : Below wz.heap.size wz q1 := below_then (w := wz) (by with_reducible repeat (first | exact Below.refl _ _ | assumption | ((first | refine Below.alloc ?_ ?b_ _ | refine bw_set ?_ ?b_ | refine Below.setCell ?_ ?b_ _); case b_ => first | omega | (simp; done) | (simp; omega)) | refine Below.drew ?_ | refine below_drewN ?_ _)) (by first | (simp; done) | omega | (simp; omega)) hb; have hsq1 := hVq1.size; clear hb; refine hK _ _ (Held.of_below hVq1) ?_; clear hK K
          (apply wpOrd_p2 rfl rfl rfl rfl rfl; (intro w' K hK; (first | go_big_move | go_big_op | go_wp2_with fail); exact hK))
          (apply wpOrd_p2 rfl rfl rfl rfl rfl; (intro w' K hK; (first | go_big_move | go_big_op | go_wp2_with fail); exact hK))
          (apply wpOrd_p2 rfl rfl rfl rfl rfl; (intro w' K hK; (first | go_big_move | go_big_op | go_wp2_with fail); exact hK))
          (refine wpOrd_e1 rfl rfl (fun K hK => ?_)); (first | go_big_op | go_wp2_with fail)
          refine hK _ _ (Held.of_below (by with_reducible repeat (first | exact Below.refl _ _ | assumption | ((first | refine Below.alloc ?_ ?b_ _ | refine bw_set ?_ ?b_ | refine Below.setCell ?_ ?b_ _); case b_ => first | omega | (simp; done) | (simp; omega)) | refine Below.drew ?_ | refine below_drewN ?_ _))) ?_; clear hK K
          (refine wpOrd_e1 rfl rfl (fun K hK => ?_))
          refine wp_store_row 25 _ _ rfl (q1.heap.size) _ rfl rfl _ _ (rw_new rfl) (by kernel_rfl) rfl (by kernel_rfl) ?_; refine hK _ _ (Held.of_below (by with_reducible repeat (first | exact Below.refl _ _ | assumption | ((first | refine Below.alloc ?_ ?b_ _ | refine bw_set ?_ ?b_ | refine Below.setCell ?_ ?b_ _); case b_ => first | omega | (simp; done) | (simp; omega)) | refine Below.drew ?_ | refine below_drewN ?_ _))) ?_; clear hK K
          (apply wpOrd_p2 rfl rfl rfl rfl rfl; (intro w' K hK; (first | go_big_move | go_big_op | go_wp2_with fail); exact hK))
          refine wpOrd_nil ?_
          go_wp2_with fail
          go_meet
          have hBq := below_then (w := w) hB_wz (by have := hB_wz.size; omega) hVq1
          have hp' := rw_below hVq1 hp
          have hlhp' := rw_lt hp
          have hkhp' := rw_lt hp'
          clear hp
          have hm' := rw_below hVq1 hm
          have hlhm' := rw_lt hm
          have hkhm' := rw_lt hm'
          clear hm
          have ha' := rw_below hVq1 ha
          have hlha' := rw_lt ha
          have hkha' := rw_lt ha'
          clear ha
          have hsb := hB_wz.size
          exact ⟨q1.heap.size, rfl, rfl, (by with_reducible repeat (first | exact Below.refl _ _ | assumption | ((first | refine Below.alloc ?_ ?b_ _ | refine bw_set ?_ ?b_ | refine Below.setCell ?_ ?b_ _); case b_ => first | omega | (simp; done) | (simp; omega)) | refine Below.drew ?_ | refine below_drewN ?_ _)), (by with_reducible repeat (first | assumption | (refine rw_new ?e_; case e_ => first | rfl | (simp; done) | (simp; omega)) | apply rw_self | (apply rw_other; case hn => first | omega | (simp; omega)) | apply rw_alloc | apply rw_drew | apply rw_drewN)), (by with_reducible repeat (first | assumption | (refine rw_new ?e_; case e_ => first | rfl | (simp; done) | (simp; omega)) | apply rw_self | (apply rw_other; case hn => first | omega | (simp; omega)) | apply rw_alloc | apply rw_drew | apply rw_drewN)), (by with_reducible repeat (first | assumption | (refine rw_new ?e_; case e_ => first | rfl | (simp; done) | (simp; omega)) | apply rw_self | (apply rw_other; case hn => first | omega | (simp; omega)) | apply rw_alloc | apply rw_drew | apply rw_drewN)), (by with_reducible repeat (first | assumption | (refine rw_new ?e_; case e_ => first | rfl | (simp; done) | (simp; omega)) | apply rw_self | (apply rw_other; case hn => first | omega | (simp; omega)) | apply rw_alloc | apply rw_drew | apply rw_drewN))⟩
        · (first | go_big_op | go_wp2_with fail)
          refine hK _ _ (Held.of_below (by with_reducible repeat (first | exact Below.refl _ _ | assumption | ((first | refine Below.alloc ?_ ?b_ _ | refine bw_set ?_ ?b_ | refine Below.setCell ?_ ?b_ _); case b_ => first | omega | (simp; done) | (simp; omega)) | refine Below.drew ?_ | refine below_drewN ?_ _))) ?_; clear hK K
          (refine wpOrd_e1 rfl rfl (fun K hK => ?_)); (first | go_big_op | go_wp2_with fail)
          refine (cu_r H.out _).mono ?_; rintro e q1 ⟨rfl, hb⟩; have hgr := rw_below (k := q0.heap.size) hb (rw_new rfl); have hVq1 : Below wz.heap.size wz q1 := below_then (w := wz) (by with_reducible repeat (first | exact Below.refl _ _ | assumption | ((first | refine Below.alloc ?_ ?b_ _ | refine bw_set ?_ ?b_ | refine Below.setCell ?_ ?b_ _); case b_ => first | omega | (simp; done) | (simp; omega)) | refine Below.drew ?_ | refine below_drewN ?_ _)) (by first | (simp; done) | omega | (simp; omega)) hb; have hsq1 := hVq1.size; clear hb; refine hK _ _ (Held.of_below hVq1) ?_; clear hK K
          (apply wpOrd_p2 rfl rfl rfl rfl rfl; (intro w' K hK; (first | go_big_move | go_big_op | go_wp2_with fail); exact hK))
          (apply wpOrd_p2 rfl rfl rfl rfl rfl; (intro w' K hK; (first | go_big_move | go_big_op | go_wp2_with fail); exact hK))
          (apply wpOrd_p2 rfl rfl rfl rfl rfl; (intro w' K hK; (first | go_big_move | go_big_op | go_wp2_with fail); exact hK))
          (refine wpOrd_e1 rfl rfl (fun K hK => ?_))
          refine wp_store_row 25 _ _ rfl (q0.heap.size) _ rfl rfl _ _ hgr (by kernel_rfl) rfl (by kernel_rfl) ?_; refine hK _ _ (Held.of_below (by with_reducible repeat (first | exact Below.refl _ _ | assumption | ((first | refine Below.alloc ?_ ?b_ _ | refine bw_set ?_ ?b_ | refine Below.setCell ?_ ?b_ _); case b_ => first | omega | (simp; done) | (simp; omega)) | refine Below.drew ?_ | refine below_drewN ?_ _))) ?_; clear hK K
          (apply wpOrd_p2 rfl rfl rfl rfl rfl; (intro w' K hK; (first | go_big_move | go_big_op | go_wp2_with fail); exact hK))
          refine wpOrd_nil ?_
          go_wp2_with fail
          go_meet
          have hBq := below_then (w := w) hB_wz (by have := hB_wz.size; omega) hVq1
          have hp' := rw_below hVq1 hp
          have hlhp' := rw_lt hp
          have hkhp' := rw_lt hp'
          clear hp
          have hm' := rw_below hVq1 hm
          have hlhm' := rw_lt hm
          have hkhm' := rw_lt hm'
          clear hm
          have ha' := rw_below hVq1 ha
          have hlha' := rw_lt ha
          have hkha' := rw_lt ha'
          clear ha
          have hsb := hB_wz.size
          exact ⟨q0.heap.size, rfl, rfl, (by with_reducible repeat (first | exact Below.refl _ _ | assumption | ((first | refine Below.alloc ?_ ?b_ _ | refine bw_set ?_ ?b_ | refine Below.setCell ?_ ?b_ _); case b_ => first | omega | (simp; done) | (simp; omega)) | refine Below.drew ?_ | refine below_drewN ?_ _)), (by with_reducible repeat (first | assumption | (refine rw_new ?e_; case e_ => first | rfl | (simp; done) | (simp; omega)) | apply rw_self | (apply rw_other; case hn => first | omega | (simp; omega)) | apply rw_alloc | apply rw_drew | apply rw_drewN)), (by with_reducible repeat (first | assumption | (refine rw_new ?e_; case e_ => first | rfl | (simp; done) | (simp; omega)) | apply rw_self | (apply rw_other; case hn => first | omega | (simp; omega)) | apply rw_alloc | apply rw_drew | apply rw_drewN)), (by with_reducible repeat (first | assumption | (refine rw_new ?e_; case e_ => first | rfl | (simp; done) | (simp; omega)) | apply rw_self | (apply rw_other; case hn => first | omega | (simp; omega)) | apply rw_alloc | apply rw_drew | apply rw_drewN)), rw_self hgr⟩
      · (first | go_big_op | go_wp2_with fail)
        refine hK _ _ (Held.of_below (by with_reducible repeat (first | exact Below.refl _ _ | assumption | ((first | refine Below.alloc ?_ ?b_ _ | refine bw_set ?_ ?b_ | refine Below.setCell ?_ ?b_ _); case b_ => first | omega | (simp; done) | (simp; omega)) | refine Below.drew ?_ | refine below_drewN ?_ _))) ?_; clear hK K
        (refine wpOrd_e1 rfl rfl (fun K hK => ?_)); (first | go_big_op | go_wp2_with fail)
        refine (munit_any _).mono ?_; rintro e q0 ⟨rfl, hb⟩; have hgr := rw_below (k := wz.heap.size) hb (rw_new rfl); have hVq0 : Below wz.heap.size wz q0 := below_then (w := wz) (by with_reducible repeat (first | exact Below.refl _ _ | assumption | ((first | refine Below.alloc ?_ ?b_ _ | refine bw_set ?_ ?b_ | refine Below.setCell ?_ ?b_ _); case b_ => first | omega | (simp; done) | (simp; omega)) | refine Below.drew ?_ | refine below_drewN ?_ _)) (by first | (simp; done) | omega | (simp; omega)) hb; have hsq0 := hVq0.size; clear hb; refine hK _ _ (Held.of_below hVq0) ?_; clear hK K
        (refine wpOrd_e1 rfl rfl (fun K hK => ?_)); (first | go_big_op | go_wp2_with fail)
        refine (cu_r H.out _).mono ?_; rintro e q1 ⟨rfl, hb⟩; have hgr' := rw_below hb hgr; clear hgr; have hgr := hgr'; clear hgr'; have hVq1 : Below wz.heap.size wz q1 := below_then (w := wz) (by with_reducible repeat (first | exact Below.refl _ _ | assumption | ((first | refine Below.alloc ?_ ?b_ _ | refine bw_set ?_ ?b_ | refine Below.setCell ?_ ?b_ _); case b_ => first | omega | (simp; done) | (simp; omega)) | refine Below.drew ?_ | refine below_drewN ?_ _)) (by first | (simp; done) | omega | (simp; omega)) hb; have hsq1 := hVq1.size; clear hb; refine hK _ _ (Held.of_below hVq1) ?_; clear hK K
        (apply wpOrd_p2 rfl rfl rfl rfl rfl; (intro w' K hK; (first | go_big_move | go_big_op | go_wp2_with fail); exact hK))
        (apply wpOrd_p2 rfl rfl rfl rfl rfl; (intro w' K hK; (first | go_big_move | go_big_op | go_wp2_with fail); exact hK))
        (apply wpOrd_p2 rfl rfl rfl rfl rfl; (intro w' K hK; (first | go_big_move | go_big_op | go_wp2_with fail); exact hK))
        (refine wpOrd_e1 rfl rfl (fun K hK => ?_))
        refine wp_store_row 25 _ _ rfl (wz.heap.size) _ rfl rfl _ _ hgr (by kernel_rfl) rfl (by kernel_rfl) ?_; refine hK _ _ (Held.of_below (by with_reducible repeat (first | exact Below.refl _ _ | assumption | ((first | refine Below.alloc ?_ ?b_ _ | refine bw_set ?_ ?b_ | refine Below.setCell ?_ ?b_ _); case b_ => first | omega | (simp; done) | (simp; omega)) | refine Below.drew ?_ | refine below_drewN ?_ _))) ?_; clear hK K
        (apply wpOrd_p2 rfl rfl rfl rfl rfl; (intro w' K hK; (first | go_big_move | go_big_op | go_wp2_with fail); exact hK))
        refine wpOrd_nil ?_
        go_wp2_with fail
        go_meet
        have hBq := below_then (w := w) hB_wz (by have := hB_wz.size; omega) hVq1
        have hp' := rw_below hVq1 hp
        have hlhp' := rw_lt hp
        have hkhp' := rw_lt hp'
        clear hp
        have hm' := rw_below hVq1 hm
        have hlhm' := rw_lt hm
        have hkhm' := rw_lt hm'
        clear hm
        have ha' := rw_below hVq1 ha
        have hlha' := rw_lt ha
        have hkha' := rw_lt ha'
        clear ha
        have hsb := hB_wz.size
        exact ⟨wz.heap.size, rfl, rfl, (by with_reducible repeat (first | exact Below.refl _ _ | assumption | ((first | refine Below.alloc ?_ ?b_ _ | refine bw_set ?_ ?b_ | refine Below.setCell ?_ ?b_ _); case b_ => first | omega | (simp; done) | (simp; omega)) | refine Below.drew ?_ | refine below_drewN ?_ _)), (by with_reducible repeat (first | assumption | (refine rw_new ?e_; case e_ => first | rfl | (simp; done) | (simp; omega)) | apply rw_self | (apply rw_other; case hn => first | omega | (simp; omega)) | apply rw_alloc | apply rw_drew | apply rw_drewN)), (by with_reducible repeat (first | assumption | (refine rw_new ?e_; case e_ => first | rfl | (simp; done) | (simp; omega)) | apply rw_self | (apply rw_other; case hn => first | omega | (simp; omega)) | apply rw_alloc | apply rw_drew | apply rw_drewN)), (by with_reducible repeat (first | assumption | (refine rw_new ?e_; case e_ => first | rfl | (simp; done) | (simp; omega)) | apply rw_self | (apply rw_other; case hn => first | omega | (simp; omega)) | apply rw_alloc | apply rw_drew | apply rw_drewN)), rw_self hgr⟩
    case rest =>
      clear hB_wz hp hm ha
      obtain ⟨bb, rfl, rfl, hB_wx, hp, hm, ha, hb3⟩ := hcut
      obtain ⟨wx, hwx⟩ : ∃ wx, wx = wc := ⟨wc, rfl⟩
      subst hwx
      have hsx := hB_wx.size
      have hlp := rw_lt hp
      have hlm := rw_lt hm
      have hla := rw_lt ha
      have hlb := rw_lt hb3
      have kt1 : -90 < t.tmod 90 := Int.lt_tmod_of_pos t (by omega)
      have kt2 : t.tmod 90 < 90 := Int.tmod_lt_of_pos t (by omega)
      have kb := bounds_i8 s_t
      go_wp2_with ((with_reducible refine rw_list ?_); (first | ((with_reducible apply wpList_load_cell); (case ho => with_reducible rfl); (case hgd => with_reducible rfl); (case hx => rfl); (case hu => first | exact Try.underlying30 | exact Try.underlying25 | exact Try.underlying28 | exact Try.underlying31 | exact Try.underlying3); (case hd => rfl)) | ((with_reducible apply wpList_load_row); (case ho => with_reducible rfl); (case hgd => with_reducible rfl); (case hx => rfl); (case hu => first | exact Try.underlying30 | exact Try.underlying25 | exact Try.underlying28 | exact Try.underlying31 | exact Try.underlying3); (case hd => rfl)) | ((with_reducible apply wpList_store_row); (case ho => with_reducible rfl); (case hgd => with_reducible rfl); (case hx => rfl); (case hy => rfl)) | ((with_reducible apply wpList_store_cell); (case ho => with_reducible rfl); (case hgd => with_reducible rfl); (case hx => rfl); (case hy => first | exact ev_const | exact ev_tmp rfl); (case h1 => rfl))); (case hg => exact (by with_reducible repeat (first | assumption | (refine rw_new ?e_; case e_ => first | rfl | (simp; done) | (simp; omega)) | apply rw_self | (apply rw_other; case hn => first | omega | (simp; omega)) | apply rw_alloc | apply rw_drew | apply rw_drewN))); (try case hv => rfl); (try case hi => kernel_rfl); (try case hold => rfl); (try case h1 => kernel_rfl); (try case hlt => rfl); (try case hcs => ((try simp only [List.setIfInBounds_toArray, List.set_cons_succ, List.set_cons_zero]); rfl)))
      refine (tr_0 H.out _).mono ?_
      rintro e w5 ⟨rfl, hb⟩
      have hs_w5 := hb.size
      (try simp at hs_w5)
      have hB_w5 : Below w.heap.size w w5 := below_then (w := w) (by with_reducible repeat (first | exact Below.refl _ _ | assumption | ((first | refine Below.alloc ?_ ?b_ _ | refine bw_set ?_ ?b_ | refine Below.setCell ?_ ?b_ _); case b_ => first | omega | (simp; done) | (simp; omega)) | refine Below.drew ?_ | refine below_drewN ?_ _)) (by first | omega | (simp; done) | (simp; omega) | (have hq_ := hb.size; omega)) hb
      have hx_ := rw_below (k := w.heap.size) hb (by with_reducible repeat (first | assumption | (refine rw_new ?e_; case e_ => first | rfl | (simp; done) | (simp; omega)) | apply rw_self | (apply rw_other; case hn => first | omega | (simp; omega)) | apply rw_alloc | apply rw_drew | apply rw_drewN))
      (try clear hp)
      have hp := hx_
      clear hx_
      have hx_ := rw_below (k := w2.heap.size) hb (by with_reducible repeat (first | assumption | (refine rw_new ?e_; case e_ => first | rfl | (simp; done) | (simp; omega)) | apply rw_self | (apply rw_other; case hn => first | omega | (simp; omega)) | apply rw_alloc | apply rw_drew | apply rw_drewN))
      (try clear hm)
      (try clear hmc0 hmc1 hmc2 hmc3 hmc4 hmc5)
      have hm := hx_
      clear hx_
      obtain ⟨hmc0, hmc1, hmc2, hmc3, hmc4, hmc5⟩ := cel6 hm
      have hx_ := rw_below (k := ba) hb (by with_reducible repeat (first | assumption | (refine rw_new ?e_; case e_ => first | rfl | (simp; done) | (simp; omega)) | apply rw_self | (apply rw_other; case hn => first | omega | (simp; omega)) | apply rw_alloc | apply rw_drew | apply rw_drewN))
      (try clear ha)
      (try clear hac0 hac1 hac2 hac3 hac4 hac5)
      have ha := hx_
      clear hx_
      obtain ⟨hac0, hac1, hac2, hac3, hac4, hac5⟩ := cel6 ha
      have hx_ := rw_below (k := bb) hb (by with_reducible repeat (first | assumption | (refine rw_new ?e_; case e_ => first | rfl | (simp; done) | (simp; omega)) | apply rw_self | (apply rw_other; case hn => first | omega | (simp; omega)) | apply rw_alloc | apply rw_drew | apply rw_drewN))
      (try clear hb3)
      (try clear hb3c0 hb3c1 hb3c2 hb3c3 hb3c4 hb3c5)
      have hb3 := hx_
      clear hx_
      obtain ⟨hb3c0, hb3c1, hb3c2, hb3c3, hb3c4, hb3c5⟩ := cel6 hb3
      clear hb
      go_wp2_with ((with_reducible refine rw_list ?_); (first | ((with_reducible apply wpList_load_cell); (case ho => with_reducible rfl); (case hgd => with_reducible rfl); (case hx => rfl); (case hu => first | exact Try.underlying30 | exact Try.underlying25 | exact Try.underlying28 | exact Try.underlying31 | exact Try.underlying3); (case hd => rfl)) | ((with_reducible apply wpList_load_row); (case ho => with_reducible rfl); (case hgd => with_reducible rfl); (case hx => rfl); (case hu => first | exact Try.underlying30 | exact Try.underlying25 | exact Try.underlying28 | exact Try.underlying31 | exact Try.underlying3); (case hd => rfl)) | ((with_reducible apply wpList_store_row); (case ho => with_reducible rfl); (case hgd => with_reducible rfl); (case hx => rfl); (case hy => rfl)) | ((with_reducible apply wpList_store_cell); (case ho => with_reducible rfl); (case hgd => with_reducible rfl); (case hx => rfl); (case hy => first | exact ev_const | exact ev_tmp rfl); (case h1 => rfl))); (case hg => exact (by with_reducible repeat (first | assumption | (refine rw_new ?e_; case e_ => first | rfl | (simp; done) | (simp; omega)) | apply rw_self | (apply rw_other; case hn => first | omega | (simp; omega)) | apply rw_alloc | apply rw_drew | apply rw_drewN))); (try case hv => rfl); (try case hi => kernel_rfl); (try case hold => rfl); (try case h1 => kernel_rfl); (try case hlt => rfl); (try case hcs => ((try simp only [List.setIfInBounds_toArray, List.set_cons_succ, List.set_cons_zero]); rfl)))
      refine (sc_1 H.out _).mono ?_
      rintro e w6 ⟨rfl, hb⟩
      have hs_w6 := hb.size
      (try simp at hs_w6)
      have hB_w6 : Below w.heap.size w w6 := below_then (w := w) (by with_reducible repeat (first | exact Below.refl _ _ | assumption | ((first | refine Below.alloc ?_ ?b_ _ | refine bw_set ?_ ?b_ | refine Below.setCell ?_ ?b_ _); case b_ => first | omega | (simp; done) | (simp; omega)) | refine Below.drew ?_ | refine below_drewN ?_ _)) (by first | omega | (simp; done) | (simp; omega) | (have hq_ := hb.size; omega)) hb
      have hx_ := rw_below (k := w.heap.size) hb (by with_reducible repeat (first | assumption | (refine rw_new ?e_; case e_ => first | rfl | (simp; done) | (simp; omega)) | apply rw_self | (apply rw_other; case hn => first | omega | (simp; omega)) | apply rw_alloc | apply rw_drew | apply rw_drewN))
      (try clear hp)
      have hp := hx_
      clear hx_
      have hx_ := rw_below (k := w2.heap.size) hb (by with_reducible repeat (first | assumption | (refine rw_new ?e_; case e_ => first | rfl | (simp; done) | (simp; omega)) | apply rw_self | (apply rw_other; case hn => first | omega | (simp; omega)) | apply rw_alloc | apply rw_drew | apply rw_drewN))
      (try clear hm)
      (try clear hmc0 hmc1 hmc2 hmc3 hmc4 hmc5)
      have hm := hx_
      clear hx_
      obtain ⟨hmc0, hmc1, hmc2, hmc3, hmc4, hmc5⟩ := cel6 hm
      have hx_ := rw_below (k := ba) hb (by with_reducible repeat (first | assumption | (refine rw_new ?e_; case e_ => first | rfl | (simp; done) | (simp; omega)) | apply rw_self | (apply rw_other; case hn => first | omega | (simp; omega)) | apply rw_alloc | apply rw_drew | apply rw_drewN))
      (try clear ha)
      (try clear hac0 hac1 hac2 hac3 hac4 hac5)
      have ha := hx_
      clear hx_
      obtain ⟨hac0, hac1, hac2, hac3, hac4, hac5⟩ := cel6 ha
      have hx_ := rw_below (k := bb) hb (by with_reducible repeat (first | assumption | (refine rw_new ?e_; case e_ => first | rfl | (simp; done) | (simp; omega)) | apply rw_self | (apply rw_other; case hn => first | omega | (simp; omega)) | apply rw_alloc | apply rw_drew | apply rw_drewN))
      (try clear hb3)
      (try clear hb3c0 hb3c1 hb3c2 hb3c3 hb3c4 hb3c5)
      have hb3 := hx_
      clear hx_
      obtain ⟨hb3c0, hb3c1, hb3c2, hb3c3, hb3c4, hb3c5⟩ := cel6 hb3
      have hx_ := rw_below (k := w5.heap.size) hb (by with_reducible repeat (first | assumption | (refine rw_new ?e_; case e_ => first | rfl | (simp; done) | (simp; omega)) | apply rw_self | (apply rw_other; case hn => first | omega | (simp; omega)) | apply rw_alloc | apply rw_drew | apply rw_drewN))
      (try clear hc)
      (try clear hcc0 hcc1 hcc2 hcc3 hcc4 hcc5)
      have hc := hx_
      clear hx_
      obtain ⟨hcc0, hcc1, hcc2, hcc3, hcc4, hcc5⟩ := cel6 hc
      clear hb
      go_wp2_with ((with_reducible refine rw_list ?_); (first | ((with_reducible apply wpList_load_cell); (case ho => with_reducible rfl); (case hgd => with_reducible rfl); (case hx => rfl); (case hu => first | exact Try.underlying30 | exact Try.underlying25 | exact Try.underlying28 | exact Try.underlying31 | exact Try.underlying3); (case hd => rfl)) | ((with_reducible apply wpList_load_row); (case ho => with_reducible rfl); (case hgd => with_reducible rfl); (case hx => rfl); (case hu => first | exact Try.underlying30 | exact Try.underlying25 | exact Try.underlying28 | exact Try.underlying31 | exact Try.underlying3); (case hd => rfl)) | ((with_reducible apply wpList_store_row); (case ho => with_reducible rfl); (case hgd => with_reducible rfl); (case hx => rfl); (case hy => rfl)) | ((with_reducible apply wpList_store_cell); (case ho => with_reducible rfl); (case hgd => with_reducible rfl); (case hx => rfl); (case hy => first | exact ev_const | exact ev_tmp rfl); (case h1 => rfl))); (case hg => exact (by with_reducible repeat (first | assumption | (refine rw_new ?e_; case e_ => first | rfl | (simp; done) | (simp; omega)) | apply rw_self | (apply rw_other; case hn => first | omega | (simp; omega)) | apply rw_alloc | apply rw_drew | apply rw_drewN))); (try case hv => rfl); (try case hi => kernel_rfl); (try case hold => rfl); (try case h1 => kernel_rfl); (try case hlt => rfl); (try case hcs => ((try simp only [List.setIfInBounds_toArray, List.set_cons_succ, List.set_cons_zero]); rfl)))
      refine (rot_full H.out _ kt1 kt2 _).mono ?_
      rintro e w7 ⟨rfl, hb⟩
      have hs_w7 := hb.size
      (try simp at hs_w7)
      have hB_w7 : Below w.heap.size w w7 := below_then (w := w) (by with_reducible repeat (first | exact Below.refl _ _ | assumption | ((first | refine Below.alloc ?_ ?b_ _ | refine bw_set ?_ ?b_ | refine Below.setCell ?_ ?b_ _); case b_ => first | omega | (simp; done) | (simp; omega)) | refine Below.drew ?_ | refine below_drewN ?_ _)) (by first | omega | (simp; done) | (simp; omega) | (have hq_ := hb.size; omega)) hb
      have hx_ := rw_below (k := w.heap.size) hb (by with_reducible repeat (first | assumption | (refine rw_new ?e_; case e_ => first | rfl | (simp; done) | (simp; omega)) | apply rw_self | (apply rw_other; case hn => first | omega | (simp; omega)) | apply rw_alloc | apply rw_drew | apply rw_drewN))
      (try clear hp)
      have hp := hx_
      clear hx_
      have hx_ := rw_below (k := w2.heap.size) hb (by with_reducible repeat (first | assumption | (refine rw_new ?e_; case e_ => first | rfl | (simp; done) | (simp; omega)) | apply rw_self | (apply rw_other; case hn => first | omega | (simp; omega)) | apply rw_alloc | apply rw_drew | apply rw_drewN))
      (try clear hm)
      (try clear hmc0 hmc1 hmc2 hmc3 hmc4 hmc5)
      have hm := hx_
      clear hx_
      obtain ⟨hmc0, hmc1, hmc2, hmc3, hmc4, hmc5⟩ := cel6 hm
      have hx_ := rw_below (k := ba) hb (by with_reducible repeat (first | assumption | (refine rw_new ?e_; case e_ => first | rfl | (simp; done) | (simp; omega)) | apply rw_self | (apply rw_other; case hn => first | omega | (simp; omega)) | apply rw_alloc | apply rw_drew | apply rw_drewN))
      (try clear ha)
      (try clear hac0 hac1 hac2 hac3 hac4 hac5)
      have ha := hx_
      clear hx_
      obtain ⟨hac0, hac1, hac2, hac3, hac4, hac5⟩ := cel6 ha
      have hx_ := rw_below (k := bb) hb (by with_reducible repeat (first | assumption | (refine rw_new ?e_; case e_ => first | rfl | (simp; done) | (simp; omega)) | apply rw_self | (apply rw_other; case hn => first | omega | (simp; omega)) | apply rw_alloc | apply rw_drew | apply rw_drewN))
      (try clear hb3)
      (try clear hb3c0 hb3c1 hb3c2 hb3c3 hb3c4 hb3c5)
      have hb3 := hx_
      clear hx_
      obtain ⟨hb3c0, hb3c1, hb3c2, hb3c3, hb3c4, hb3c5⟩ := cel6 hb3
      have hx_ := rw_below (k := w5.heap.size) hb (by with_reducible repeat (first | assumption | (refine rw_new ?e_; case e_ => first | rfl | (simp; done) | (simp; omega)) | apply rw_self | (apply rw_other; case hn => first | omega | (simp; omega)) | apply rw_alloc | apply rw_drew | apply rw_drewN))
      (try clear hc)
      (try clear hcc0 hcc1 hcc2 hcc3 hcc4 hcc5)
      have hc := hx_
      clear hx_
      obtain ⟨hcc0, hcc1, hcc2, hcc3, hcc4, hcc5⟩ := cel6 hc
      have hx_ := rw_below (k := w6.heap.size) hb (by with_reducible repeat (first | assumption | (refine rw_new ?e_; case e_ => first | rfl | (simp; done) | (simp; omega)) | apply rw_self | (apply rw_other; case hn => first | omega | (simp; omega)) | apply rw_alloc | apply rw_drew | apply rw_drewN))
      (try clear hd)
      (try clear hdc0 hdc1 hdc2 hdc3 hdc4 hdc5)
      have hd := hx_
      clear hx_
      obtain ⟨hdc0, hdc1, hdc2, hdc3, hdc4, hdc5⟩ := cel6 hd
      clear hb
      go_upto_region 9 with ((with_reducible refine rw_list ?_); (first | ((with_reducible apply wpList_load_cell); (case ho => with_reducible rfl); (case hgd => with_reducible rfl); (case hx => rfl); (case hu => first | exact Try.underlying30 | exact Try.underlying25 | exact Try.underlying28 | exact Try.underlying31 | exact Try.underlying3); (case hd => rfl)) | ((with_reducible apply wpList_load_row); (case ho => with_reducible rfl); (case hgd => with_reducible rfl); (case hx => rfl); (case hu => first | exact Try.underlying30 | exact Try.underlying25 | exact Try.underlying28 | exact Try.underlying31 | exact Try.underlying3); (case hd => rfl)) | ((with_reducible apply wpList_store_row); (case ho => with_reducible rfl); (case hgd => with_reducible rfl); (case hx => rfl); (case hy => rfl)) | ((with_reducible apply wpList_store_cell); (case ho => with_reducible rfl); (case hgd => with_reducible rfl); (case hx => rfl); (case hy => first | exact ev_const | exact ev_tmp rfl); (case h1 => rfl))); (case hg => exact (by with_reducible repeat (first | assumption | (refine rw_new ?e_; case e_ => first | rfl | (simp; done) | (simp; omega)) | apply rw_self | (apply rw_other; case hn => first | omega | (simp; omega)) | apply rw_alloc | apply rw_drew | apply rw_drewN))); (try case hv => rfl); (try case hi => kernel_rfl); (try case hold => rfl); (try case h1 => kernel_rfl); (try case hlt => rfl); (try case hcs => ((try simp only [List.setIfInBounds_toArray, List.set_cons_succ, List.set_cons_zero]); rfl)))
      generalize hwy_ : World.setRow _ _ _ = wv
      have hB_wv : Below w.heap.size w wv := bw_eq hwy_ (by with_reducible repeat (first | exact Below.refl _ _ | assumption | ((first | refine Below.alloc ?_ ?b_ _ | refine bw_set ?_ ?b_ | refine Below.setCell ?_ ?b_ _); case b_ => first | omega | (simp; done) | (simp; omega)) | refine Below.drew ?_ | refine below_drewN ?_ _))
      have hx_ := rw_eq (k := w.heap.size) hwy_ (by with_reducible repeat (first | assumption | (refine rw_new ?e_; case e_ => first | rfl | (simp; done) | (simp; omega)) | apply rw_self | (apply rw_other; case hn => first | omega | (simp; omega)) | apply rw_alloc | apply rw_drew | apply rw_drewN))
      (try clear hp)
      have hp := hx_
      clear hx_
      have hl_hp := rw_lt hp
      have hx_ := rw_eq (k := w2.heap.size) hwy_ (by with_reducible repeat (first | assumption | (refine rw_new ?e_; case e_ => first | rfl | (simp; done) | (simp; omega)) | apply rw_self | (apply rw_other; case hn => first | omega | (simp; omega)) | apply rw_alloc | apply rw_drew | apply rw_drewN))
      (try clear hm)
      have hm := hx_
      clear hx_
      have hl_hm := rw_lt hm
      (try clear hmc0 hmc1 hmc2 hmc3 hmc4 hmc5)
      obtain ⟨hmc0, hmc1, hmc2, hmc3, hmc4, hmc5⟩ := cel6 hm
      have hx_ := rw_eq (k := ba) hwy_ (by with_reducible repeat (first | assumption | (refine rw_new ?e_; case e_ => first | rfl | (simp; done) | (simp; omega)) | apply rw_self | (apply rw_other; case hn => first | omega | (simp; omega)) | apply rw_alloc | apply rw_drew | apply rw_drewN))
      (try clear ha)
      have ha := hx_
      clear hx_
      have hl_ha := rw_lt ha
      (try clear hac0 hac1 hac2 hac3 hac4 hac5)
      obtain ⟨hac0, hac1, hac2, hac3, hac4, hac5⟩ := cel6 ha
      have hx_ := rw_eq (k := bb) hwy_ (by with_reducible repeat (first | assumption | (refine rw_new ?e_; case e_ => first | rfl | (simp; done) | (simp; omega)) | apply rw_self | (apply rw_other; case hn => first | omega | (simp; omega)) | apply rw_alloc | apply rw_drew | apply rw_drewN))
      (try clear hb3)
      have hb3 := hx_
      clear hx_
      have hl_hb3 := rw_lt hb3
      (try clear hb3c0 hb3c1 hb3c2 hb3c3 hb3c4 hb3c5)
      obtain ⟨hb3c0, hb3c1, hb3c2, hb3c3, hb3c4, hb3c5⟩ := cel6 hb3
      have hx_ := rw_eq (k := w5.heap.size) hwy_ (by with_reducible repeat (first | assumption | (refine rw_new ?e_; case e_ => first | rfl | (simp; done) | (simp; omega)) | apply rw_self | (apply rw_other; case hn => first | omega | (simp; omega)) | apply rw_alloc | apply rw_drew | apply rw_drewN))
      (try clear hc)
      have hc := hx_
      clear hx_
      have hl_hc := rw_lt hc
      (try clear hcc0 hcc1 hcc2 hcc3 hcc4 hcc5)
      obtain ⟨hcc0, hcc1, hcc2, hcc3, hcc4, hcc5⟩ := cel6 hc
      have hx_ := rw_eq (k := w6.heap.size) hwy_ (by with_reducible repeat (first | assumption | (refine rw_new ?e_; case e_ => first | rfl | (simp; done) | (simp; omega)) | apply rw_self | (apply rw_other; case hn => first | omega | (simp; omega)) | apply rw_alloc | apply rw_drew | apply rw_drewN))
      (try clear hd)
      have hd := hx_
      clear hx_
      have hl_hd := rw_lt hd
      (try clear hdc0 hdc1 hdc2 hdc3 hdc4 hdc5)
      obtain ⟨hdc0, hdc1, hdc2, hdc3, hdc4, hdc5⟩ := cel6 hd
      have hx_ := rw_eq (k := w7.heap.size) hwy_ (by with_reducible repeat (first | assumption | (refine rw_new ?e_; case e_ => first | rfl | (simp; done) | (simp; omega)) | apply rw_self | (apply rw_other; case hn => first | omega | (simp; omega)) | apply rw_alloc | apply rw_drew | apply rw_drewN))
      (try clear he)
      have he := hx_
      clear hx_
      have hl_he := rw_lt he
      (try clear hec0 hec1 hec2 hec3 hec4 hec5)
      obtain ⟨hec0, hec1, hec2, hec3, hec4, hec5⟩ := cel6 he
      clear hwy_
      go_wp2_with ((with_reducible refine rw_list ?_); (first | ((with_reducible apply wpList_load_cell); (case ho => with_reducible rfl); (case hgd => with_reducible rfl); (case hx => rfl); (case hu => first | exact Try.underlying30 | exact Try.underlying25 | exact Try.underlying28 | exact Try.underlying31 | exact Try.underlying3); (case hd => rfl)) | ((with_reducible apply wpList_load_row); (case ho => with_reducible rfl); (case hgd => with_reducible rfl); (case hx => rfl); (case hu => first | exact Try.underlying30 | exact Try.underlying25 | exact Try.underlying28 | exact Try.underlying31 | exact Try.underlying3); (case hd => rfl)) | ((with_reducible apply wpList_store_row); (case ho => with_reducible rfl); (case hgd => with_reducible rfl); (case hx => rfl); (case hy => rfl)) | ((with_reducible apply wpList_store_cell); (case ho => with_reducible rfl); (case hgd => with_reducible rfl); (case hx => rfl); (case hy => first | exact ev_const | exact ev_tmp rfl); (case h1 => rfl))); (case hg => exact (by with_reducible repeat (first | assumption | (refine rw_new ?e_; case e_ => first | rfl | (simp; done) | (simp; omega)) | apply rw_self | (apply rw_other; case hn => first | omega | (simp; omega)) | apply rw_alloc | apply rw_drew | apply rw_drewN))); (try case hv => rfl); (try case hi => kernel_rfl); (try case hold => rfl); (try case h1 => kernel_rfl); (try case hlt => rfl); (try case hcs => ((try simp only [List.setIfInBounds_toArray, List.set_cons_succ, List.set_cons_zero]); rfl)))
      clear hc hd he hcc0 hcc1 hcc2 hcc3 hcc4 hcc5 hdc0 hdc1 hdc2 hdc3 hdc4 hdc5 hec0 hec1 hec2 hec3 hec4 hec5 ha hac0 hac1 hac2 hac3 hac4 hac5 hb3 hb3c0 hb3c1 hb3c2 hb3c3 hb3c4 hb3c5
      refine wp_region_grow [(0, none), (1, none), (2, none), (3, none), (4, none), (5, none), (6, none), (7, none), (8, none), (9, none)] .done ?g1_ ?g2_ ?g3_ ?_
      case g1_ => kernel_rfl
      case g2_ => kernel_rfl
      case g3_ => exact fun _ _ _ _ _ h => h
      (apply wpG_p rfl rfl rfl rfl rfl; (intro w' K hK; (first | go_big_op | go_wp2_with fail); exact hK))
      (apply wpG_p rfl rfl rfl rfl rfl; (intro w' K hK; (first | go_big_op | go_wp2_with fail); exact hK))
      (apply wpG_l rfl rfl rfl rfl rfl; (intro w' K hC hK; (refine wp_load_cell 3 _ rfl (w.heap.size) 20 rfl _ _ _ _ _ (rw_below hC.1 hp) Try.underlying3 rfl rfl ?_); exact hK); (case he => first | rfl | (simp [Act.put, *]; done)))
      (apply wpG_p rfl rfl rfl rfl rfl; (intro w' K hK; (first | go_big_op | go_wp2_with fail); exact hK))
      (apply wpG_p rfl rfl rfl rfl rfl; (intro w' K hK; (first | go_big_op | go_wp2_with fail); exact hK))
      (apply wpG_p rfl rfl rfl rfl rfl; (intro w' K hK; (first | go_big_op | go_wp2_with fail); exact hK))
      (apply wpG_l rfl rfl rfl rfl rfl; (intro w' K hC hK; (refine wp_load_cell 3 _ rfl (w.heap.size) 21 rfl _ _ _ _ _ (rw_below hC.1 hp) Try.underlying3 rfl rfl ?_); exact hK); (case he => first | rfl | (simp [Act.put, *]; done)))
      (apply wpG_p rfl rfl rfl rfl rfl; (intro w' K hK; (first | go_big_op | go_wp2_with fail); exact hK))
      (apply wpG_p rfl rfl rfl rfl rfl; (intro w' K hK; (first | go_big_op | go_wp2_with fail); exact hK))
      (apply wpG_p rfl rfl rfl rfl rfl; (intro w' K hK; (first | go_big_op | go_wp2_with fail); exact hK))
      refine wpG_nil (fun w8 hB1 hG hD => ?_)
      clear hG
      (try clear hD)
      refine wpOrd_nil ?_
      have hb := hB1
      clear hB1
      have hs_w8 := hb.size
      (try simp at hs_w8)
      have hB_w8 : Below w.heap.size w w8 := below_then (w := w) (by with_reducible repeat (first | exact Below.refl _ _ | assumption | ((first | refine Below.alloc ?_ ?b_ _ | refine bw_set ?_ ?b_ | refine Below.setCell ?_ ?b_ _); case b_ => first | omega | (simp; done) | (simp; omega)) | refine Below.drew ?_ | refine below_drewN ?_ _)) (by first | omega | (simp; done) | (simp; omega) | (have hq_ := hb.size; omega)) hb
      have hx_ := rw_below (k := w2.heap.size) hb (by with_reducible repeat (first | assumption | (refine rw_new ?e_; case e_ => first | rfl | (simp; done) | (simp; omega)) | apply rw_self | (apply rw_other; case hn => first | omega | (simp; omega)) | apply rw_alloc | apply rw_drew | apply rw_drewN))
      (try clear hm)
      (try clear hmc0 hmc1 hmc2 hmc3 hmc4 hmc5)
      have hm := hx_
      clear hx_
      obtain ⟨hmc0, hmc1, hmc2, hmc3, hmc4, hmc5⟩ := cel6 hm
      clear hb
      obtain ⟨x, hx⟩ : ∃ x, n0.tmod 16777217 = x := ⟨_, rfl⟩
      obtain ⟨y, hy⟩ : ∃ y, n1.tmod 16777217 = y := ⟨_, rfl⟩
      have hxb : -16777216 ≤ x ∧ x ≤ 16777216 := by
        have p1 := Int.lt_tmod_of_pos n0 (show (0 : Int) < 16777217 by omega)
        have p2 := Int.tmod_lt_of_pos n0 (show (0 : Int) < 16777217 by omega)
        omega
      have hyb : -16777216 ≤ y ∧ y ≤ 16777216 := by
        have p1 := Int.lt_tmod_of_pos n1 (show (0 : Int) < 16777217 by omega)
        have p2 := Int.tmod_lt_of_pos n1 (show (0 : Int) < 16777217 by omega)
        omega
      rw [hx, hy]
      clear hx hy
      obtain ⟨v0, v1, v2, v3, v4, v5, v6, hS, hS'⟩ := tr_cc H.out x y hxb hyb
      obtain ⟨u0, u1, u2, u3, u4, u5, u6, hT, hT'⟩ := sc_cc H.out x y hxb hyb
      go_wp2_with ((with_reducible refine rw_list ?_); (first | ((with_reducible apply wpList_load_cell); (case ho => with_reducible rfl); (case hgd => with_reducible rfl); (case hx => rfl); (case hu => first | exact Try.underlying30 | exact Try.underlying25 | exact Try.underlying28 | exact Try.underlying31 | exact Try.underlying3); (case hd => rfl)) | ((with_reducible apply wpList_load_row); (case ho => with_reducible rfl); (case hgd => with_reducible rfl); (case hx => rfl); (case hu => first | exact Try.underlying30 | exact Try.underlying25 | exact Try.underlying28 | exact Try.underlying31 | exact Try.underlying3); (case hd => rfl)) | ((with_reducible apply wpList_store_row); (case ho => with_reducible rfl); (case hgd => with_reducible rfl); (case hx => rfl); (case hy => rfl)) | ((with_reducible apply wpList_store_cell); (case ho => with_reducible rfl); (case hgd => with_reducible rfl); (case hx => rfl); (case hy => first | exact ev_const | exact ev_tmp rfl); (case h1 => rfl))); (case hg => exact (by with_reducible repeat (first | assumption | (refine rw_new ?e_; case e_ => first | rfl | (simp; done) | (simp; omega)) | apply rw_self | (apply rw_other; case hn => first | omega | (simp; omega)) | apply rw_alloc | apply rw_drew | apply rw_drewN))); (try case hv => rfl); (try case hi => kernel_rfl); (try case hold => rfl); (try case h1 => kernel_rfl); (try case hlt => rfl); (try case hcs => ((try simp only [List.setIfInBounds_toArray, List.set_cons_succ, List.set_cons_zero]); rfl)))
      refine (hS _).mono ?_
      rintro e w9 ⟨rfl, hb⟩
      have hs_w9 := hb.size
      (try simp at hs_w9)
      have hB_w9 : Below w.heap.size w w9 := below_then (w := w) (by with_reducible repeat (first | exact Below.refl _ _ | assumption | ((first | refine Below.alloc ?_ ?b_ _ | refine bw_set ?_ ?b_ | refine Below.setCell ?_ ?b_ _); case b_ => first | omega | (simp; done) | (simp; omega)) | refine Below.drew ?_ | refine below_drewN ?_ _)) (by first | omega | (simp; done) | (simp; omega) | (have hq_ := hb.size; omega)) hb
      have hx_ := rw_below (k := w2.heap.size) hb (by with_reducible repeat (first | assumption | (refine rw_new ?e_; case e_ => first | rfl | (simp; done) | (simp; omega)) | apply rw_self | (apply rw_other; case hn => first | omega | (simp; omega)) | apply rw_alloc | apply rw_drew | apply rw_drewN))
      (try clear hm)
      (try clear hmc0 hmc1 hmc2 hmc3 hmc4 hmc5)
      have hm := hx_
      clear hx_
      obtain ⟨hmc0, hmc1, hmc2, hmc3, hmc4, hmc5⟩ := cel6 hm
      clear hb
      go_wp2_with ((with_reducible refine rw_list ?_); (first | ((with_reducible apply wpList_load_cell); (case ho => with_reducible rfl); (case hgd => with_reducible rfl); (case hx => rfl); (case hu => first | exact Try.underlying30 | exact Try.underlying25 | exact Try.underlying28 | exact Try.underlying31 | exact Try.underlying3); (case hd => rfl)) | ((with_reducible apply wpList_load_row); (case ho => with_reducible rfl); (case hgd => with_reducible rfl); (case hx => rfl); (case hu => first | exact Try.underlying30 | exact Try.underlying25 | exact Try.underlying28 | exact Try.underlying31 | exact Try.underlying3); (case hd => rfl)) | ((with_reducible apply wpList_store_row); (case ho => with_reducible rfl); (case hgd => with_reducible rfl); (case hx => rfl); (case hy => rfl)) | ((with_reducible apply wpList_store_cell); (case ho => with_reducible rfl); (case hgd => with_reducible rfl); (case hx => rfl); (case hy => first | exact ev_const | exact ev_tmp rfl); (case h1 => rfl))); (case hg => exact (by with_reducible repeat (first | assumption | (refine rw_new ?e_; case e_ => first | rfl | (simp; done) | (simp; omega)) | apply rw_self | (apply rw_other; case hn => first | omega | (simp; omega)) | apply rw_alloc | apply rw_drew | apply rw_drewN))); (try case hv => rfl); (try case hi => kernel_rfl); (try case hold => rfl); (try case h1 => kernel_rfl); (try case hlt => rfl); (try case hcs => ((try simp only [List.setIfInBounds_toArray, List.set_cons_succ, List.set_cons_zero]); rfl)))
      refine (hS' _).mono ?_
      rintro e w10 ⟨rfl, hb⟩
      have hs_w10 := hb.size
      (try simp at hs_w10)
      have hB_w10 : Below w.heap.size w w10 := below_then (w := w) (by with_reducible repeat (first | exact Below.refl _ _ | assumption | ((first | refine Below.alloc ?_ ?b_ _ | refine bw_set ?_ ?b_ | refine Below.setCell ?_ ?b_ _); case b_ => first | omega | (simp; done) | (simp; omega)) | refine Below.drew ?_ | refine below_drewN ?_ _)) (by first | omega | (simp; done) | (simp; omega) | (have hq_ := hb.size; omega)) hb
      have hx_ := rw_below (k := w2.heap.size) hb (by with_reducible repeat (first | assumption | (refine rw_new ?e_; case e_ => first | rfl | (simp; done) | (simp; omega)) | apply rw_self | (apply rw_other; case hn => first | omega | (simp; omega)) | apply rw_alloc | apply rw_drew | apply rw_drewN))
      (try clear hm)
      (try clear hmc0 hmc1 hmc2 hmc3 hmc4 hmc5)
      have hm := hx_
      clear hx_
      obtain ⟨hmc0, hmc1, hmc2, hmc3, hmc4, hmc5⟩ := cel6 hm
      have hx_ := rw_below (k := w9.heap.size) hb (by with_reducible repeat (first | assumption | (refine rw_new ?e_; case e_ => first | rfl | (simp; done) | (simp; omega)) | apply rw_self | (apply rw_other; case hn => first | omega | (simp; omega)) | apply rw_alloc | apply rw_drew | apply rw_drewN))
      (try clear ha)
      (try clear hac0 hac1 hac2 hac3 hac4 hac5)
      have ha := hx_
      clear hx_
      obtain ⟨hac0, hac1, hac2, hac3, hac4, hac5⟩ := cel6 ha
      clear hb
      go_wp2_with ((with_reducible refine rw_list ?_); (first | ((with_reducible apply wpList_load_cell); (case ho => with_reducible rfl); (case hgd => with_reducible rfl); (case hx => rfl); (case hu => first | exact Try.underlying30 | exact Try.underlying25 | exact Try.underlying28 | exact Try.underlying31 | exact Try.underlying3); (case hd => rfl)) | ((with_reducible apply wpList_load_row); (case ho => with_reducible rfl); (case hgd => with_reducible rfl); (case hx => rfl); (case hu => first | exact Try.underlying30 | exact Try.underlying25 | exact Try.underlying28 | exact Try.underlying31 | exact Try.underlying3); (case hd => rfl)) | ((with_reducible apply wpList_store_row); (case ho => with_reducible rfl); (case hgd => with_reducible rfl); (case hx => rfl); (case hy => rfl)) | ((with_reducible apply wpList_store_cell); (case ho => with_reducible rfl); (case hgd => with_reducible rfl); (case hx => rfl); (case hy => first | exact ev_const | exact ev_tmp rfl); (case h1 => rfl))); (case hg => exact (by with_reducible repeat (first | assumption | (refine rw_new ?e_; case e_ => first | rfl | (simp; done) | (simp; omega)) | apply rw_self | (apply rw_other; case hn => first | omega | (simp; omega)) | apply rw_alloc | apply rw_drew | apply rw_drewN))); (try case hv => rfl); (try case hi => kernel_rfl); (try case hold => rfl); (try case h1 => kernel_rfl); (try case hlt => rfl); (try case hcs => ((try simp only [List.setIfInBounds_toArray, List.set_cons_succ, List.set_cons_zero]); rfl)))
      refine (hT _).mono ?_
      rintro e w11 ⟨rfl, hb⟩
      have hs_w11 := hb.size
      (try simp at hs_w11)
      have hB_w11 : Below w.heap.size w w11 := below_then (w := w) (by with_reducible repeat (first | exact Below.refl _ _ | assumption | ((first | refine Below.alloc ?_ ?b_ _ | refine bw_set ?_ ?b_ | refine Below.setCell ?_ ?b_ _); case b_ => first | omega | (simp; done) | (simp; omega)) | refine Below.drew ?_ | refine below_drewN ?_ _)) (by first | omega | (simp; done) | (simp; omega) | (have hq_ := hb.size; omega)) hb
      have hx_ := rw_below (k := w2.heap.size) hb (by with_reducible repeat (first | assumption | (refine rw_new ?e_; case e_ => first | rfl | (simp; done) | (simp; omega)) | apply rw_self | (apply rw_other; case hn => first | omega | (simp; omega)) | apply rw_alloc | apply rw_drew | apply rw_drewN))
      (try clear hm)
      (try clear hmc0 hmc1 hmc2 hmc3 hmc4 hmc5)
      have hm := hx_
      clear hx_
      obtain ⟨hmc0, hmc1, hmc2, hmc3, hmc4, hmc5⟩ := cel6 hm
      have hx_ := rw_below (k := w9.heap.size) hb (by with_reducible repeat (first | assumption | (refine rw_new ?e_; case e_ => first | rfl | (simp; done) | (simp; omega)) | apply rw_self | (apply rw_other; case hn => first | omega | (simp; omega)) | apply rw_alloc | apply rw_drew | apply rw_drewN))
      (try clear ha)
      (try clear hac0 hac1 hac2 hac3 hac4 hac5)
      have ha := hx_
      clear hx_
      obtain ⟨hac0, hac1, hac2, hac3, hac4, hac5⟩ := cel6 ha
      have hx_ := rw_below (k := w10.heap.size) hb (by with_reducible repeat (first | assumption | (refine rw_new ?e_; case e_ => first | rfl | (simp; done) | (simp; omega)) | apply rw_self | (apply rw_other; case hn => first | omega | (simp; omega)) | apply rw_alloc | apply rw_drew | apply rw_drewN))
      (try clear hb3)
      (try clear hb3c0 hb3c1 hb3c2 hb3c3 hb3c4 hb3c5)
      have hb3 := hx_
      clear hx_
      obtain ⟨hb3c0, hb3c1, hb3c2, hb3c3, hb3c4, hb3c5⟩ := cel6 hb3
      clear hb
      go_wp2_with ((with_reducible refine rw_list ?_); (first | ((with_reducible apply wpList_load_cell); (case ho => with_reducible rfl); (case hgd => with_reducible rfl); (case hx => rfl); (case hu => first | exact Try.underlying30 | exact Try.underlying25 | exact Try.underlying28 | exact Try.underlying31 | exact Try.underlying3); (case hd => rfl)) | ((with_reducible apply wpList_load_row); (case ho => with_reducible rfl); (case hgd => with_reducible rfl); (case hx => rfl); (case hu => first | exact Try.underlying30 | exact Try.underlying25 | exact Try.underlying28 | exact Try.underlying31 | exact Try.underlying3); (case hd => rfl)) | ((with_reducible apply wpList_store_row); (case ho => with_reducible rfl); (case hgd => with_reducible rfl); (case hx => rfl); (case hy => rfl)) | ((with_reducible apply wpList_store_cell); (case ho => with_reducible rfl); (case hgd => with_reducible rfl); (case hx => rfl); (case hy => first | exact ev_const | exact ev_tmp rfl); (case h1 => rfl))); (case hg => exact (by with_reducible repeat (first | assumption | (refine rw_new ?e_; case e_ => first | rfl | (simp; done) | (simp; omega)) | apply rw_self | (apply rw_other; case hn => first | omega | (simp; omega)) | apply rw_alloc | apply rw_drew | apply rw_drewN))); (try case hv => rfl); (try case hi => kernel_rfl); (try case hold => rfl); (try case h1 => kernel_rfl); (try case hlt => rfl); (try case hcs => ((try simp only [List.setIfInBounds_toArray, List.set_cons_succ, List.set_cons_zero]); rfl)))
      refine (hT' _).mono ?_
      rintro e w12 ⟨rfl, hb⟩
      have hs_w12 := hb.size
      (try simp at hs_w12)
      have hB_w12 : Below w.heap.size w w12 := below_then (w := w) (by with_reducible repeat (first | exact Below.refl _ _ | assumption | ((first | refine Below.alloc ?_ ?b_ _ | refine bw_set ?_ ?b_ | refine Below.setCell ?_ ?b_ _); case b_ => first | omega | (simp; done) | (simp; omega)) | refine Below.drew ?_ | refine below_drewN ?_ _)) (by first | omega | (simp; done) | (simp; omega) | (have hq_ := hb.size; omega)) hb
      have hx_ := rw_below (k := w9.heap.size) hb (by with_reducible repeat (first | assumption | (refine rw_new ?e_; case e_ => first | rfl | (simp; done) | (simp; omega)) | apply rw_self | (apply rw_other; case hn => first | omega | (simp; omega)) | apply rw_alloc | apply rw_drew | apply rw_drewN))
      (try clear ha)
      (try clear hac0 hac1 hac2 hac3 hac4 hac5)
      have ha := hx_
      clear hx_
      obtain ⟨hac0, hac1, hac2, hac3, hac4, hac5⟩ := cel6 ha
      have hx_ := rw_below (k := w10.heap.size) hb (by with_reducible repeat (first | assumption | (refine rw_new ?e_; case e_ => first | rfl | (simp; done) | (simp; omega)) | apply rw_self | (apply rw_other; case hn => first | omega | (simp; omega)) | apply rw_alloc | apply rw_drew | apply rw_drewN))
      (try clear hb3)
      (try clear hb3c0 hb3c1 hb3c2 hb3c3 hb3c4 hb3c5)
      have hb3 := hx_
      clear hx_
      obtain ⟨hb3c0, hb3c1, hb3c2, hb3c3, hb3c4, hb3c5⟩ := cel6 hb3
      have hx_ := rw_below (k := w11.heap.size) hb (by with_reducible repeat (first | assumption | (refine rw_new ?e_; case e_ => first | rfl | (simp; done) | (simp; omega)) | apply rw_self | (apply rw_other; case hn => first | omega | (simp; omega)) | apply rw_alloc | apply rw_drew | apply rw_drewN))
      (try clear hc)
      (try clear hcc0 hcc1 hcc2 hcc3 hcc4 hcc5)
      have hc := hx_
      clear hx_
      obtain ⟨hcc0, hcc1, hcc2, hcc3, hcc4, hcc5⟩ := cel6 hc
      clear hb
      have hlc := rw_lt hc
      have hcs := fun (x : Obj) (cs : Array Value) (b o : Nat) (h : b < w12.heap.size) => cell_as w12 x cs b o h
      have hcn := fun (old : Array Value) (t : TypeId) (cs : Array Value) (o : Nat) => cell_as_new w12 old t cs o
      go_wp2_with ((with_reducible refine rw_list ?_); (first | ((with_reducible apply wpList_load_cell); (case ho => with_reducible rfl); (case hgd => with_reducible rfl); (case hx => rfl); (case hu => first | exact Try.underlying30 | exact Try.underlying25 | exact Try.underlying28 | exact Try.underlying31 | exact Try.underlying3); (case hd => rfl)) | ((with_reducible apply wpList_load_row); (case ho => with_reducible rfl); (case hgd => with_reducible rfl); (case hx => rfl); (case hu => first | exact Try.underlying30 | exact Try.underlying25 | exact Try.underlying28 | exact Try.underlying31 | exact Try.underlying3); (case hd => rfl)) | ((with_reducible apply wpList_store_row); (case ho => with_reducible rfl); (case hgd => with_reducible rfl); (case hx => rfl); (case hy => rfl)) | ((with_reducible apply wpList_store_cell); (case ho => with_reducible rfl); (case hgd => with_reducible rfl); (case hx => rfl); (case hy => first | exact ev_const | exact ev_tmp rfl); (case h1 => rfl))); (case hg => exact (by with_reducible repeat (first | assumption | (refine rw_new ?e_; case e_ => first | rfl | (simp; done) | (simp; omega)) | apply rw_self | (apply rw_other; case hn => first | omega | (simp; omega)) | apply rw_alloc | apply rw_drew | apply rw_drewN))); (try case hv => rfl); (try case hi => kernel_rfl); (try case hold => rfl); (try case h1 => kernel_rfl); (try case hlt => rfl); (try case hcs => ((try simp only [List.setIfInBounds_toArray, List.set_cons_succ, List.set_cons_zero]); rfl)))
      go_ret
      exact ⟨rfl, (by with_reducible repeat (first | exact Below.refl _ _ | assumption | ((first | refine Below.alloc ?_ ?b_ _ | refine bw_set ?_ ?b_ | refine Below.setCell ?_ ?b_ _); case b_ => first | omega | (simp; done) | (simp; omega)) | refine Below.drew ?_ | refine below_drewN ?_ _))⟩
end Go.Proofs.Ytpgaibkjokoanaa.T3
