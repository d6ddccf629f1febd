/- MatrixBack: the statement, out of its walk: for every input, without a condition. -/
import Derived.Test.YtpgaibkjokoanaaRows
import Derived.Test.YtpgaibkjokoanaaMxLg
import Derived.WalkKit
import Derived.ProofKit
import Derived.OpenShut
import Derived.ShutString
import Derived.ChangeOld
import Derived.Below
import Derived.SizedLaws
import Derived.Carry
import Derived.ChangeSlices
import Derived.ChangeArms
namespace Go.Proofs.Ytpgaibkjokoanaa.LiftMatrixBack
open Go.ChangeShapes Go.WideShapes Go.ChangeAt Go.RowKit
open Go.ChangeMaps (open_string shut_string)
set_option linter.unusedVariables false
set_option linter.unusedSimpArgs false
theorem own : ownKnob Try.prog.godebug = none := by kernel_rfl
theorem laidOut : laidOutB Try.prog = true := by kernel_rfl
theorem okAgg_struct {P : Program} {w : World} {r : Reach} {base : Nat} {t : TypeId} {v : Value} {fs : Array Field} (ht : P.underlying t = some (.struct fs)) (h : Value.okWide P w r base t v) : ∃ cs, v = .agg cs ∧ cs.size = P.cellsOf t := okWide_struct ht h
theorem okAgg_array {P : Program} {w : World} {r : Reach} {base : Nat} {t : TypeId} {v : Value} {n : Nat} {e : TypeId} (ht : P.underlying t = some (.array n e)) (h : Value.okWide P w r base t v) : ∃ cs, v = .agg cs ∧ cs.size = P.cellsOf t := by
  simp only [Value.okWide, ht] at h
  obtain ⟨cs, h1, h2, _⟩ := h
  exact ⟨cs, h1, h2⟩
set_option maxRecDepth 100000 in
theorem open28 {H : Type} {enc : TypeId × Value → H} {W : World} {base : Nat} {v : Value} {d : DataW H} {p : List MemPlace} (hval : Value.okWide Try.prog W .any base 28 v) (h : DataW.Trod enc Try.prog W 0 (fun _ => true) true 28 v d p) :
    ∃ (x_X : Int) (x_Y : Int), v = .agg #[.int .i64 x_X, .int .i64 x_Y] ∧ (Lit.int .i64 x_X).wf = true ∧ (Lit.int .i64 x_Y).wf = true := by
  have hc3 : Try.prog.cellsOf 3 = 1 := by kernel_rfl
  have hc28 : Try.prog.cellsOf 28 = 2 := by kernel_rfl
  obtain ⟨cs, rfl, hcs⟩ := okAgg_struct Try.underlying28 hval
  rw [hc28] at hcs
  obtain ⟨fuel, hy⟩ := h
  obtain ⟨l⟩ := cs
  simp only [Value.cells] at hy
  match l, hcs with
  | [c0, c1], _ =>
    obtain ⟨ys, m, _, hx, _, hl, hf⟩ := Go.DataW.trod_struct Try.underlying28 hy
    match ys, hl with
    | [y_0, y_1], _ =>
    have hy_0 := hf 0 _ rfl
    have hy_1 := hf 1 _ rfl
    simp [hc3, hc28] at hy_0 hy_1
    obtain ⟨x_X, e_x_X, x_x_X, s_x_X⟩ := Go.DataW.trod_int Try.underlying3 hy_0
    obtain ⟨x_Y, e_x_Y, x_x_Y, s_x_Y⟩ := Go.DataW.trod_int Try.underlying3 hy_1
    simp at e_x_X e_x_Y
    subst e_x_X e_x_Y
    exact ⟨x_X, x_Y, rfl, s_x_X, s_x_Y⟩
set_option maxRecDepth 100000 in
theorem open53 {H : Type} {enc : TypeId × Value → H} {W : World} {base : Nat} {v : Value} {d : DataW H} {p : List MemPlace} (hval : Value.okWide Try.prog W .any base 53 v) (h : DataW.Trod enc Try.prog W 0 (fun _ => true) true 53 v d p) :
    ∃ (x_0 : Int) (x_1 : Int), v = .agg #[.int .u8 x_0, .int .u8 x_1] ∧ (Lit.int .u8 x_0).wf = true ∧ (Lit.int .u8 x_1).wf = true := by
  have hc5 : Try.prog.cellsOf 5 = 1 := by kernel_rfl
  have hc53 : Try.prog.cellsOf 53 = 2 := by kernel_rfl
  obtain ⟨cs, rfl, hcs⟩ := okAgg_array Try.underlying53 hval
  rw [hc53] at hcs
  obtain ⟨fuel, hy⟩ := h
  obtain ⟨l⟩ := cs
  simp only [Value.cells] at hy
  match l, hcs with
  | [c0, c1], _ =>
    obtain ⟨ys, m, _, hx, _, hl, hf⟩ := Go.DataW.trod_array Try.underlying53 hy
    match ys, hl with
    | [y_0, y_1], _ =>
    have hy_0 := hf 0 (by omega)
    have hy_1 := hf 1 (by omega)
    simp [hc5, hc53] at hy_0 hy_1
    obtain ⟨x_0, e_x_0, x_x_0, s_x_0⟩ := Go.DataW.trod_int Try.underlying5 hy_0
    obtain ⟨x_1, e_x_1, x_x_1, s_x_1⟩ := Go.DataW.trod_int Try.underlying5 hy_1
    simp at e_x_0 e_x_1
    subst e_x_0 e_x_1
    exact ⟨x_0, x_1, rfl, s_x_0, s_x_1⟩
set_option maxRecDepth 100000 in
theorem lifted (os : Os) (started : os.Started) (H : Type) (enc : TypeId × Value → H) :
    ReturnsInHanded {} Try.checked os 6 .any (Rows.matrixBackSpec.pre6 enc Try.prog Try.f6 Rows.matrixBackRow.domain false) (Rows.matrixBackSpec.post enc Try.prog Try.f6 false true false false) := by
  refine returnsInHanded_of_change_sized (C := Try.checked) own started (by kernel_rfl) Try.func6
    (ChangeSpec.witness6 (enc := enc) (C := Try.checked) false ⟨#[], #[.int .i16 0, .int .i16 0, .int .i16 0, .int .i16 0, .int .i16 0, .int .i16 0, .agg #[.int .i64 0, .int .i64 0], .agg #[.int .u8 0, .int .u8 0]], []⟩ 8 (by kernel_rfl) (by kernel_rfl) (by kernel_rfl) (by kernel_rfl)) ?_
  intro W base args ds gs before hval0 hW hcnd hsz0 _
  have hval : ∀ (j : Nat) t v, Try.f6.params[j]? = some t → args[j]? = some v → Value.okWide Try.prog W .any base t v := hval0
  have hW' := hW
  obtain ⟨p, q, hA0, hV, rfl, hfz, hnd⟩ := hW
  have hA : DataW.TrodAll enc Try.prog W 0 (fun _ => true) true Try.f6.params.toList args.toList ds p := hA0
  rw [Try.params6] at hA hval
  obtain ⟨v0, vs0, d0, ds0, p0, q0, hargs, rfl, rfl, h0, r0⟩ := trodAll_cons hA
  obtain ⟨v1, vs1, d1, ds1, p1, q1, rfl, rfl, rfl, h1, r1⟩ := trodAll_cons r0
  obtain ⟨v2, vs2, d2, ds2, p2, q2, rfl, rfl, rfl, h2, r2⟩ := trodAll_cons r1
  obtain ⟨v3, vs3, d3, ds3, p3, q3, rfl, rfl, rfl, h3, r3⟩ := trodAll_cons r2
  obtain ⟨v4, vs4, d4, ds4, p4, q4, rfl, rfl, rfl, h4, r4⟩ := trodAll_cons r3
  obtain ⟨v5, vs5, d5, ds5, p5, q5, rfl, rfl, rfl, h5, r5⟩ := trodAll_cons r4
  obtain ⟨v6, vs6, d6, ds6, p6, q6, rfl, rfl, rfl, h6, r6⟩ := trodAll_cons r5
  obtain ⟨v7, vs7, d7, ds7, p7, q7, rfl, rfl, rfl, h7, r7⟩ := trodAll_cons r6
  obtain ⟨rfl, rfl, rfl⟩ := trodAll_nil r7
  obtain rfl : args = #[v0, v1, v2, v3, v4, v5, v6, v7] := by cases args; simp_all
  obtain ⟨rfl, rfl⟩ := trodVars_none hV
  obtain ⟨a0, rfl, rfl, rfl, s_a0⟩ := open_int Try.underlying52 (hval 0 52 v0 rfl rfl) h0
  obtain ⟨a1, rfl, rfl, rfl, s_a1⟩ := open_int Try.underlying52 (hval 1 52 v1 rfl rfl) h1
  obtain ⟨a2, rfl, rfl, rfl, s_a2⟩ := open_int Try.underlying52 (hval 2 52 v2 rfl rfl) h2
  obtain ⟨a3, rfl, rfl, rfl, s_a3⟩ := open_int Try.underlying52 (hval 3 52 v3 rfl rfl) h3
  obtain ⟨a4, rfl, rfl, rfl, s_a4⟩ := open_int Try.underlying52 (hval 4 52 v4 rfl rfl) h4
  obtain ⟨a5, rfl, rfl, rfl, s_a5⟩ := open_int Try.underlying52 (hval 5 52 v5 rfl rfl) h5
  have k6 := h6
  have lt6 : ∀ x ∈ p6, x.block < W.heap.size := by obtain ⟨m, hm⟩ := k6; exact DataW.trod_lt m _ _ _ hm
  obtain ⟨a6_X, a6_Y, rfl, s_a6_X, s_a6_Y⟩ := open28 (hval 6 28 v6 rfl rfl) h6
  have k7 := h7
  have lt7 : ∀ x ∈ p7, x.block < W.heap.size := by obtain ⟨m, hm⟩ := k7; exact DataW.trod_lt m _ _ _ hm
  obtain ⟨a7_0, a7_1, rfl, s_a7_0, s_a7_1⟩ := open53 (hval 7 53 v7 rfl rfl) h7
  clear hA0 hval0 hsz0
  refine (T3.back_walk a0 a1 a2 a3 a4 a5 a6_X a6_Y a7_0 a7_1 W s_a0 s_a1 s_a2 s_a3 s_a4 s_a5 s_a6_X s_a6_Y s_a7_0 s_a7_1).mono fun e W' ⟨he, bel⟩ => ?_
  subst he
  exact ⟨_, rfl, _, _, _, [], _, [], hW', trodAll_mk1 (shut_bool Try.underlying4 _), (trodAll_cons_mk (shut_int Try.underlying52 s_a0) (trodAll_cons_mk (shut_int Try.underlying52 s_a1) (trodAll_cons_mk (shut_int Try.underlying52 s_a2) (trodAll_cons_mk (shut_int Try.underlying52 s_a3) (trodAll_cons_mk (shut_int Try.underlying52 s_a4) (trodAll_cons_mk (shut_int Try.underlying52 s_a5) (trodAll_cons_mk (Below.trod laidOut (by kernel_rfl) (of_decide_eq_true (by kernel_rfl)) k6 bel lt6) (trodAll_cons_mk (Below.trod laidOut (by kernel_rfl) (of_decide_eq_true (by kernel_rfl)) k7 bel lt7) trodAll_mk0)))))))), rfl, bel.frame _, fun h => by cases h⟩
theorem over : Rows.matrixBackRow.holds Try.pinned (OpenSpec.ofChange Rows.matrixBackSpec) :=
  OpenClaim.holds_of_wide 6 Try.f6 rfl rfl rfl rfl rfl rfl rfl ⟨rfl, rfl, rfl, rfl, rfl⟩ rfl rfl rfl rfl rfl (by kernel_rfl) Try.func6 (by kernel_rfl)
    (of_decide_eq_true (by kernel_rfl)) (by unfold Func.isWrapper; first | (rw [if_pos (by decide +kernel)]; kernel_rfl) | (rw [if_neg (by decide +kernel)]; exact ⟨rfl, rfl⟩))
    (fun os started H enc _ => lifted os started H enc)
end Go.Proofs.Ytpgaibkjokoanaa.LiftMatrixBack
namespace Go.Proofs.Ytpgaibkjokoanaa
theorem matrixBack_holds : Rows.MatrixBackSaid := LiftMatrixBack.over
#print axioms matrixBack_holds
end Go.Proofs.Ytpgaibkjokoanaa
