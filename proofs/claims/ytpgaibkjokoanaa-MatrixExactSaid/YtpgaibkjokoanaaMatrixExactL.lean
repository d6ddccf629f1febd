/- MatrixExact: the statement, out of its walk: for every input, without a condition. -/
import Derived.Test.YtpgaibkjokoanaaRows
import Derived.Test.YtpgaibkjokoanaaMxLf
import Derived.WalkKit
import Derived.ProofKit
import Derived.OpenShut
import Derived.ShutString
import Derived.ChangeOld
import Derived.Below
import Derived.SizedLaws
import Derived.Carry
import Derived.ChangeSlices
import Derived.ChangeArms
namespace Go.Proofs.Ytpgaibkjokoanaa.LiftMatrixExact
open Go.ChangeShapes Go.WideShapes Go.ChangeAt Go.RowKit
open Go.ChangeMaps (open_string shut_string)
set_option linter.unusedVariables false
set_option linter.unusedSimpArgs false
theorem own : ownKnob Try.prog.godebug = none := by kernel_rfl
theorem laidOut : laidOutB Try.prog = true := by kernel_rfl
theorem okAgg_struct {P : Program} {w : World} {r : Reach} {base : Nat} {t : TypeId} {v : Value} {fs : Array Field} (ht : P.underlying t = some (.struct fs)) (h : Value.okWide P w r base t v) : ∃ cs, v = .agg cs ∧ cs.size = P.cellsOf t := okWide_struct ht h
theorem okAgg_array {P : Program} {w : World} {r : Reach} {base : Nat} {t : TypeId} {v : Value} {n : Nat} {e : TypeId} (ht : P.underlying t = some (.array n e)) (h : Value.okWide P w r base t v) : ∃ cs, v = .agg cs ∧ cs.size = P.cellsOf t := by
  simp only [Value.okWide, ht] at h
  obtain ⟨cs, h1, h2, _⟩ := h
  exact ⟨cs, h1, h2⟩
set_option maxRecDepth 100000 in
theorem open30 {H : Type} {enc : TypeId × Value → H} {W : World} {base : Nat} {v : Value} {d : DataW H} {p : List MemPlace} (hval : Value.okWide Try.prog W .any base 30 v) (h : DataW.Trod enc Try.prog W 0 (fun _ => true) true 30 v d p) :
    ∃ (x_A_Kind : Int) (x_A_A : Int) (x_A_B : Int) (x_A_C : Int) (x_A_D : Int) (x_A_E : Int) (x_A_F : Int) (x_B_Kind : Int) (x_B_A : Int) (x_B_B : Int) (x_B_C : Int) (x_B_D : Int) (x_B_E : Int) (x_B_F : Int) (x_X_A : Int) (x_X_B : Int) (x_X_C : Int) (x_X_D : Int) (x_X_E : Int) (x_X_F : Int) (x_N_0 : Int) (x_N_1 : Int) (x_N_2 : Int) (x_N_3 : Int) (x_P_X : Int) (x_P_Y : Int), v = .agg #[.int .u8 x_A_Kind, .int .i32 x_A_A, .int .i32 x_A_B, .int .i32 x_A_C, .int .i32 x_A_D, .int .i32 x_A_E, .int .i32 x_A_F, .int .u8 x_B_Kind, .int .i32 x_B_A, .int .i32 x_B_B, .int .i32 x_B_C, .int .i32 x_B_D, .int .i32 x_B_E, .int .i32 x_B_F, .int .i64 x_X_A, .int .i64 x_X_B, .int .i64 x_X_C, .int .i64 x_X_D, .int .i64 x_X_E, .int .i64 x_X_F, .int .i64 x_N_0, .int .i64 x_N_1, .int .i64 x_N_2, .int .i64 x_N_3, .int .i64 x_P_X, .int .i64 x_P_Y] ∧ (Lit.int .u8 x_A_Kind).wf = true ∧ (Lit.int .i32 x_A_A).wf = true ∧ (Lit.int .i32 x_A_B).wf = true ∧ (Lit.int .i32 x_A_C).wf = true ∧ (Lit.int .i32 x_A_D).wf = true ∧ (Lit.int .i32 x_A_E).wf = true ∧ (Lit.int .i32 x_A_F).wf = true ∧ (Lit.int .u8 x_B_Kind).wf = true ∧ (Lit.int .i32 x_B_A).wf = true ∧ (Lit.int .i32 x_B_B).wf = true ∧ (Lit.int .i32 x_B_C).wf = true ∧ (Lit.int .i32 x_B_D).wf = true ∧ (Lit.int .i32 x_B_E).wf = true ∧ (Lit.int .i32 x_B_F).wf = true ∧ (Lit.int .i64 x_X_A).wf = true ∧ (Lit.int .i64 x_X_B).wf = true ∧ (Lit.int .i64 x_X_C).wf = true ∧ (Lit.int .i64 x_X_D).wf = true ∧ (Lit.int .i64 x_X_E).wf = true ∧ (Lit.int .i64 x_X_F).wf = true ∧ (Lit.int .i64 x_N_0).wf = true ∧ (Lit.int .i64 x_N_1).wf = true ∧ (Lit.int .i64 x_N_2).wf = true ∧ (Lit.int .i64 x_N_3).wf = true ∧ (Lit.int .i64 x_P_X).wf = true ∧ (Lit.int .i64 x_P_Y).wf = true := by
  have hc3 : Try.prog.cellsOf 3 = 1 := by kernel_rfl
  have hc5 : Try.prog.cellsOf 5 = 1 := by kernel_rfl
  have hc21 : Try.prog.cellsOf 21 = 1 := by kernel_rfl
  have hc23 : Try.prog.cellsOf 23 = 7 := by kernel_rfl
  have hc25 : Try.prog.cellsOf 25 = 6 := by kernel_rfl
  have hc26 : Try.prog.cellsOf 26 = 4 := by kernel_rfl
  have hc28 : Try.prog.cellsOf 28 = 2 := by kernel_rfl
  have hc30 : Try.prog.cellsOf 30 = 26 := by kernel_rfl
  obtain ⟨cs, rfl, hcs⟩ := okAgg_struct Try.underlying30 hval
  rw [hc30] at hcs
  obtain ⟨fuel, hy⟩ := h
  obtain ⟨l⟩ := cs
  simp only [Value.cells] at hy
  match l, hcs with
  | [c0, c1, c2, c3, c4, c5, c6, c7, c8, c9, c10, c11, c12, c13, c14, c15, c16, c17, c18, c19, c20, c21, c22, c23, c24, c25], _ =>
    obtain ⟨ys, m, _, hx, _, hl, hf⟩ := Go.DataW.trod_struct Try.underlying30 hy
    match ys, hl with
    | [y_0, y_1, y_2, y_3, y_4], _ =>
    have hy_0 := hf 0 _ rfl
    have hy_1 := hf 1 _ rfl
    have hy_2 := hf 2 _ rfl
    have hy_3 := hf 3 _ rfl
    have hy_4 := hf 4 _ rfl
    simp [hc3, hc5, hc21, hc23, hc25, hc26, hc28, hc30] at hy_0 hy_1 hy_2 hy_3 hy_4
    obtain ⟨ys_0, m_0, _, hx_0, _, hl_0, hf_0⟩ := Go.DataW.trod_struct Try.underlying23 hy_0
    match ys_0, hl_0 with
    | [y_0_0, y_0_1, y_0_2, y_0_3, y_0_4, y_0_5, y_0_6], _ =>
    have hy_0_0 := hf_0 0 _ rfl
    have hy_0_1 := hf_0 1 _ rfl
    have hy_0_2 := hf_0 2 _ rfl
    have hy_0_3 := hf_0 3 _ rfl
    have hy_0_4 := hf_0 4 _ rfl
    have hy_0_5 := hf_0 5 _ rfl
    have hy_0_6 := hf_0 6 _ rfl
    simp [hc3, hc5, hc21, hc23, hc25, hc26, hc28, hc30] at hy_0_0 hy_0_1 hy_0_2 hy_0_3 hy_0_4 hy_0_5 hy_0_6
    obtain ⟨x_A_Kind, e_x_A_Kind, x_x_A_Kind, s_x_A_Kind⟩ := Go.DataW.trod_int Try.underlying5 hy_0_0
    obtain ⟨x_A_A, e_x_A_A, x_x_A_A, s_x_A_A⟩ := Go.DataW.trod_int Try.underlying21 hy_0_1
    obtain ⟨x_A_B, e_x_A_B, x_x_A_B, s_x_A_B⟩ := Go.DataW.trod_int Try.underlying21 hy_0_2
    obtain ⟨x_A_C, e_x_A_C, x_x_A_C, s_x_A_C⟩ := Go.DataW.trod_int Try.underlying21 hy_0_3
    obtain ⟨x_A_D, e_x_A_D, x_x_A_D, s_x_A_D⟩ := Go.DataW.trod_int Try.underlying21 hy_0_4
    obtain ⟨x_A_E, e_x_A_E, x_x_A_E, s_x_A_E⟩ := Go.DataW.trod_int Try.underlying21 hy_0_5
    obtain ⟨x_A_F, e_x_A_F, x_x_A_F, s_x_A_F⟩ := Go.DataW.trod_int Try.underlying21 hy_0_6
    obtain ⟨ys_1, m_1, _, hx_1, _, hl_1, hf_1⟩ := Go.DataW.trod_struct Try.underlying23 hy_1
    match ys_1, hl_1 with
    | [y_1_0, y_1_1, y_1_2, y_1_3, y_1_4, y_1_5, y_1_6], _ =>
    have hy_1_0 := hf_1 0 _ rfl
    have hy_1_1 := hf_1 1 _ rfl
    have hy_1_2 := hf_1 2 _ rfl
    have hy_1_3 := hf_1 3 _ rfl
    have hy_1_4 := hf_1 4 _ rfl
    have hy_1_5 := hf_1 5 _ rfl
    have hy_1_6 := hf_1 6 _ rfl
    simp [hc3, hc5, hc21, hc23, hc25, hc26, hc28, hc30] at hy_1_0 hy_1_1 hy_1_2 hy_1_3 hy_1_4 hy_1_5 hy_1_6
    obtain ⟨x_B_Kind, e_x_B_Kind, x_x_B_Kind, s_x_B_Kind⟩ := Go.DataW.trod_int Try.underlying5 hy_1_0
    obtain ⟨x_B_A, e_x_B_A, x_x_B_A, s_x_B_A⟩ := Go.DataW.trod_int Try.underlying21 hy_1_1
    obtain ⟨x_B_B, e_x_B_B, x_x_B_B, s_x_B_B⟩ := Go.DataW.trod_int Try.underlying21 hy_1_2
    obtain ⟨x_B_C, e_x_B_C, x_x_B_C, s_x_B_C⟩ := Go.DataW.trod_int Try.underlying21 hy_1_3
    obtain ⟨x_B_D, e_x_B_D, x_x_B_D, s_x_B_D⟩ := Go.DataW.trod_int Try.underlying21 hy_1_4
    obtain ⟨x_B_E, e_x_B_E, x_x_B_E, s_x_B_E⟩ := Go.DataW.trod_int Try.underlying21 hy_1_5
    obtain ⟨x_B_F, e_x_B_F, x_x_B_F, s_x_B_F⟩ := Go.DataW.trod_int Try.underlying21 hy_1_6
    obtain ⟨ys_2, m_2, _, hx_2, _, hl_2, hf_2⟩ := Go.DataW.trod_struct Try.underlying25 hy_2
    match ys_2, hl_2 with
    | [y_2_0, y_2_1, y_2_2, y_2_3, y_2_4, y_2_5], _ =>
    have hy_2_0 := hf_2 0 _ rfl
    have hy_2_1 := hf_2 1 _ rfl
    have hy_2_2 := hf_2 2 _ rfl
    have hy_2_3 := hf_2 3 _ rfl
    have hy_2_4 := hf_2 4 _ rfl
    have hy_2_5 := hf_2 5 _ rfl
    simp [hc3, hc5, hc21, hc23, hc25, hc26, hc28, hc30] at hy_2_0 hy_2_1 hy_2_2 hy_2_3 hy_2_4 hy_2_5
    obtain ⟨x_X_A, e_x_X_A, x_x_X_A, s_x_X_A⟩ := Go.DataW.trod_int Try.underlying3 hy_2_0
    obtain ⟨x_X_B, e_x_X_B, x_x_X_B, s_x_X_B⟩ := Go.DataW.trod_int Try.underlying3 hy_2_1
    obtain ⟨x_X_C, e_x_X_C, x_x_X_C, s_x_X_C⟩ := Go.DataW.trod_int Try.underlying3 hy_2_2
    obtain ⟨x_X_D, e_x_X_D, x_x_X_D, s_x_X_D⟩ := Go.DataW.trod_int Try.underlying3 hy_2_3
    obtain ⟨x_X_E, e_x_X_E, x_x_X_E, s_x_X_E⟩ := Go.DataW.trod_int Try.underlying3 hy_2_4
    obtain ⟨x_X_F, e_x_X_F, x_x_X_F, s_x_X_F⟩ := Go.DataW.trod_int Try.underlying3 hy_2_5
    obtain ⟨ys_3, m_3, _, hx_3, _, hl_3, hf_3⟩ := Go.DataW.trod_array Try.underlying26 hy_3
    match ys_3, hl_3 with
    | [y_3_0, y_3_1, y_3_2, y_3_3], _ =>
    have hy_3_0 := hf_3 0 (by omega)
    have hy_3_1 := hf_3 1 (by omega)
    have hy_3_2 := hf_3 2 (by omega)
    have hy_3_3 := hf_3 3 (by omega)
    simp [hc3, hc5, hc21, hc23, hc25, hc26, hc28, hc30] at hy_3_0 hy_3_1 hy_3_2 hy_3_3
    obtain ⟨x_N_0, e_x_N_0, x_x_N_0, s_x_N_0⟩ := Go.DataW.trod_int Try.underlying3 hy_3_0
    obtain ⟨x_N_1, e_x_N_1, x_x_N_1, s_x_N_1⟩ := Go.DataW.trod_int Try.underlying3 hy_3_1
    obtain ⟨x_N_2, e_x_N_2, x_x_N_2, s_x_N_2⟩ := Go.DataW.trod_int Try.underlying3 hy_3_2
    obtain ⟨x_N_3, e_x_N_3, x_x_N_3, s_x_N_3⟩ := Go.DataW.trod_int Try.underlying3 hy_3_3
    obtain ⟨ys_4, m_4, _, hx_4, _, hl_4, hf_4⟩ := Go.DataW.trod_struct Try.underlying28 hy_4
    match ys_4, hl_4 with
    | [y_4_0, y_4_1], _ =>
    have hy_4_0 := hf_4 0 _ rfl
    have hy_4_1 := hf_4 1 _ rfl
    simp [hc3, hc5, hc21, hc23, hc25, hc26, hc28, hc30] at hy_4_0 hy_4_1
    obtain ⟨x_P_X, e_x_P_X, x_x_P_X, s_x_P_X⟩ := Go.DataW.trod_int Try.underlying3 hy_4_0
    obtain ⟨x_P_Y, e_x_P_Y, x_x_P_Y, s_x_P_Y⟩ := Go.DataW.trod_int Try.underlying3 hy_4_1
    simp at e_x_A_Kind e_x_A_A e_x_A_B e_x_A_C e_x_A_D e_x_A_E e_x_A_F e_x_B_Kind e_x_B_A e_x_B_B e_x_B_C e_x_B_D e_x_B_E e_x_B_F e_x_X_A e_x_X_B e_x_X_C e_x_X_D e_x_X_E e_x_X_F e_x_N_0 e_x_N_1 e_x_N_2 e_x_N_3 e_x_P_X e_x_P_Y
    subst e_x_A_Kind e_x_A_A e_x_A_B e_x_A_C e_x_A_D e_x_A_E e_x_A_F e_x_B_Kind e_x_B_A e_x_B_B e_x_B_C e_x_B_D e_x_B_E e_x_B_F e_x_X_A e_x_X_B e_x_X_C e_x_X_D e_x_X_E e_x_X_F e_x_N_0 e_x_N_1 e_x_N_2 e_x_N_3 e_x_P_X e_x_P_Y
    exact ⟨x_A_Kind, x_A_A, x_A_B, x_A_C, x_A_D, x_A_E, x_A_F, x_B_Kind, x_B_A, x_B_B, x_B_C, x_B_D, x_B_E, x_B_F, x_X_A, x_X_B, x_X_C, x_X_D, x_X_E, x_X_F, x_N_0, x_N_1, x_N_2, x_N_3, x_P_X, x_P_Y, rfl, s_x_A_Kind, s_x_A_A, s_x_A_B, s_x_A_C, s_x_A_D, s_x_A_E, s_x_A_F, s_x_B_Kind, s_x_B_A, s_x_B_B, s_x_B_C, s_x_B_D, s_x_B_E, s_x_B_F, s_x_X_A, s_x_X_B, s_x_X_C, s_x_X_D, s_x_X_E, s_x_X_F, s_x_N_0, s_x_N_1, s_x_N_2, s_x_N_3, s_x_P_X, s_x_P_Y⟩
set_option maxRecDepth 100000 in
theorem lifted (os : Os) (started : os.Started) (H : Type) (enc : TypeId × Value → H) :
    ReturnsInHanded {} Try.checked os 4 .any (Rows.matrixExactSpec.pre6 enc Try.prog Try.f4 Rows.matrixExactRow.domain false) (Rows.matrixExactSpec.post enc Try.prog Try.f4 false true false false) := by
  refine returnsInHanded_of_change_sized (C := Try.checked) own started (by kernel_rfl) Try.func4
    (ChangeSpec.witness6 (enc := enc) (C := Try.checked) false ⟨#[], #[.agg #[.int .u8 0, .int .i32 0, .int .i32 0, .int .i32 0, .int .i32 0, .int .i32 0, .int .i32 0, .int .u8 0, .int .i32 0, .int .i32 0, .int .i32 0, .int .i32 0, .int .i32 0, .int .i32 0, .int .i64 0, .int .i64 0, .int .i64 0, .int .i64 0, .int .i64 0, .int .i64 0, .int .i64 0, .int .i64 0, .int .i64 0, .int .i64 0, .int .i64 0, .int .i64 0]], []⟩ 8 (by kernel_rfl) (by kernel_rfl) (by kernel_rfl) (by kernel_rfl)) ?_
  intro W base args ds gs before hval0 hW hcnd hsz0 _
  have hval : ∀ (j : Nat) t v, Try.f4.params[j]? = some t → args[j]? = some v → Value.okWide Try.prog W .any base t v := hval0
  have hW' := hW
  obtain ⟨p, q, hA0, hV, rfl, hfz, hnd⟩ := hW
  have hA : DataW.TrodAll enc Try.prog W 0 (fun _ => true) true Try.f4.params.toList args.toList ds p := hA0
  rw [Try.params4] at hA hval
  obtain ⟨v0, vs0, d0, ds0, p0, q0, hargs, rfl, rfl, h0, r0⟩ := trodAll_cons hA
  obtain ⟨rfl, rfl, rfl⟩ := trodAll_nil r0
  obtain rfl : args = #[v0] := by cases args; simp_all
  obtain ⟨rfl, rfl⟩ := trodVars_none hV
  have k0 := h0
  have lt0 : ∀ x ∈ p0, x.block < W.heap.size := by obtain ⟨m, hm⟩ := k0; exact DataW.trod_lt m _ _ _ hm
  obtain ⟨a0_A_Kind, a0_A_A, a0_A_B, a0_A_C, a0_A_D, a0_A_E, a0_A_F, a0_B_Kind, a0_B_A, a0_B_B, a0_B_C, a0_B_D, a0_B_E, a0_B_F, a0_X_A, a0_X_B, a0_X_C, a0_X_D, a0_X_E, a0_X_F, a0_N_0, a0_N_1, a0_N_2, a0_N_3, a0_P_X, a0_P_Y, rfl, s_a0_A_Kind, s_a0_A_A, s_a0_A_B, s_a0_A_C, s_a0_A_D, s_a0_A_E, s_a0_A_F, s_a0_B_Kind, s_a0_B_A, s_a0_B_B, s_a0_B_C, s_a0_B_D, s_a0_B_E, s_a0_B_F, s_a0_X_A, s_a0_X_B, s_a0_X_C, s_a0_X_D, s_a0_X_E, s_a0_X_F, s_a0_N_0, s_a0_N_1, s_a0_N_2, s_a0_N_3, s_a0_P_X, s_a0_P_Y⟩ := open30 (hval 0 30 v0 rfl rfl) h0
  clear hA0 hval0 hsz0
  refine (T3.exact_walk a0_A_Kind a0_A_A a0_A_B a0_A_C a0_A_D a0_A_E a0_A_F a0_B_Kind a0_B_A a0_B_B a0_B_C a0_B_D a0_B_E a0_B_F a0_X_A a0_X_B a0_X_C a0_X_D a0_X_E a0_X_F a0_N_0 a0_N_1 a0_N_2 a0_N_3 a0_P_X a0_P_Y W s_a0_A_Kind s_a0_A_A s_a0_A_B s_a0_A_C s_a0_A_D s_a0_A_E s_a0_A_F s_a0_B_Kind s_a0_B_A s_a0_B_B s_a0_B_C s_a0_B_D s_a0_B_E s_a0_B_F s_a0_X_A s_a0_X_B s_a0_X_C s_a0_X_D s_a0_X_E s_a0_X_F s_a0_N_0 s_a0_N_1 s_a0_N_2 s_a0_N_3 s_a0_P_X s_a0_P_Y).mono fun e W' ⟨he, bel⟩ => ?_
  subst he
  exact ⟨_, rfl, _, _, _, [], _, [], hW', trodAll_mk1 (shut_bool Try.underlying4 _), (trodAll_cons_mk (Below.trod laidOut (by kernel_rfl) (of_decide_eq_true (by kernel_rfl)) k0 bel lt0) trodAll_mk0), rfl, bel.frame _, fun h => by cases h⟩
theorem over : Rows.matrixExactRow.holds Try.pinned (OpenSpec.ofChange Rows.matrixExactSpec) :=
  OpenClaim.holds_of_wide 4 Try.f4 rfl rfl rfl rfl rfl rfl rfl ⟨rfl, rfl, rfl, rfl, rfl⟩ rfl rfl rfl rfl rfl (by kernel_rfl) Try.func4 (by kernel_rfl)
    (of_decide_eq_true (by kernel_rfl)) (by unfold Func.isWrapper; first | (rw [if_pos (by decide +kernel)]; kernel_rfl) | (rw [if_neg (by decide +kernel)]; exact ⟨rfl, rfl⟩))
    (fun os started H enc _ => lifted os started H enc)
end Go.Proofs.Ytpgaibkjokoanaa.LiftMatrixExact
namespace Go.Proofs.Ytpgaibkjokoanaa
theorem matrixExact_holds : Rows.MatrixExactSaid := LiftMatrixExact.over
#print axioms matrixExact_holds
end Go.Proofs.Ytpgaibkjokoanaa
