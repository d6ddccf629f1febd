/- ObjectOrders: the statement, out of its walk: for every input, without a condition. -/
import Derived.Test.YticbjpficaaaiaaRows
import Derived.Test.YticbjpficaaaiaaObjL6
import Derived.WalkKit
import Derived.ProofKit
import Derived.OpenShut
import Derived.ShutString
import Derived.ChangeOld
import Derived.Below
import Derived.SizedLaws
import Derived.Carry
import Derived.ChangeSlices
import Derived.ChangeArms
namespace Go.Proofs.Yticbjpficaaaiaa.LiftObjectOrders
open Go.ChangeShapes Go.WideShapes Go.ChangeAt Go.RowKit
open Go.ChangeMaps (open_string shut_string)
set_option linter.unusedVariables false
set_option linter.unusedSimpArgs false
theorem own : ownKnob Try.prog.godebug = none := by kernel_rfl
theorem laidOut : laidOutB Try.prog = true := by kernel_rfl
theorem okAgg_struct {P : Program} {w : World} {r : Reach} {base : Nat} {t : TypeId} {v : Value} {fs : Array Field} (ht : P.underlying t = some (.struct fs)) (h : Value.okWide P w r base t v) : ∃ cs, v = .agg cs ∧ cs.size = P.cellsOf t := okWide_struct ht h
theorem okAgg_array {P : Program} {w : World} {r : Reach} {base : Nat} {t : TypeId} {v : Value} {n : Nat} {e : TypeId} (ht : P.underlying t = some (.array n e)) (h : Value.okWide P w r base t v) : ∃ cs, v = .agg cs ∧ cs.size = P.cellsOf t := by
  simp only [Value.okWide, ht] at h
  obtain ⟨cs, h1, h2, _⟩ := h
  exact ⟨cs, h1, h2⟩
set_option maxRecDepth 100000 in
theorem open42 {H : Type} {enc : TypeId × Value → H} {W : World} {base : Nat} {v : Value} {d : DataW H} {p : List MemPlace} (hval : Value.okWide Try.prog W .any base 42 v) (h : DataW.Trod enc Try.prog W 0 (fun _ => true) true 42 v d p) :
    ∃ (x_0 : Int) (x_1 : Int) (x_2 : Int), v = .agg #[.int .i64 x_0, .int .i64 x_1, .int .i64 x_2] ∧ (Lit.int .i64 x_0).wf = true ∧ (Lit.int .i64 x_1).wf = true ∧ (Lit.int .i64 x_2).wf = true := by
  have hc3 : Try.prog.cellsOf 3 = 1 := by kernel_rfl
  have hc42 : Try.prog.cellsOf 42 = 3 := by kernel_rfl
  obtain ⟨cs, rfl, hcs⟩ := okAgg_array Try.underlying42 hval
  rw [hc42] at hcs
  obtain ⟨fuel, hy⟩ := h
  obtain ⟨l⟩ := cs
  simp only [Value.cells] at hy
  match l, hcs with
  | [c0, c1, c2], _ =>
    obtain ⟨ys, m, _, hx, _, hl, hf⟩ := Go.DataW.trod_array Try.underlying42 hy
    match ys, hl with
    | [y_0, y_1, y_2], _ =>
    have hy_0 := hf 0 (by omega)
    have hy_1 := hf 1 (by omega)
    have hy_2 := hf 2 (by omega)
    simp [hc3, hc42] at hy_0 hy_1 hy_2
    obtain ⟨x_0, e_x_0, x_x_0, s_x_0⟩ := Go.DataW.trod_int Try.underlying3 hy_0
    obtain ⟨x_1, e_x_1, x_x_1, s_x_1⟩ := Go.DataW.trod_int Try.underlying3 hy_1
    obtain ⟨x_2, e_x_2, x_x_2, s_x_2⟩ := Go.DataW.trod_int Try.underlying3 hy_2
    simp at e_x_0 e_x_1 e_x_2
    subst e_x_0 e_x_1 e_x_2
    exact ⟨x_0, x_1, x_2, rfl, s_x_0, s_x_1, s_x_2⟩
set_option maxRecDepth 100000 in
theorem open43 {H : Type} {enc : TypeId × Value → H} {W : World} {base : Nat} {v : Value} {d : DataW H} {p : List MemPlace} (hval : Value.okWide Try.prog W .any base 43 v) (h : DataW.Trod enc Try.prog W 0 (fun _ => true) true 43 v d p) :
    ∃ (x_0 : Bool) (x_1 : Bool) (x_2 : Bool), v = .agg #[.bool x_0, .bool x_1, .bool x_2] := by
  have hc4 : Try.prog.cellsOf 4 = 1 := by kernel_rfl
  have hc43 : Try.prog.cellsOf 43 = 3 := by kernel_rfl
  obtain ⟨cs, rfl, hcs⟩ := okAgg_array Try.underlying43 hval
  rw [hc43] at hcs
  obtain ⟨fuel, hy⟩ := h
  obtain ⟨l⟩ := cs
  simp only [Value.cells] at hy
  match l, hcs with
  | [c0, c1, c2], _ =>
    obtain ⟨ys, m, _, hx, _, hl, hf⟩ := Go.DataW.trod_array Try.underlying43 hy
    match ys, hl with
    | [y_0, y_1, y_2], _ =>
    have hy_0 := hf 0 (by omega)
    have hy_1 := hf 1 (by omega)
    have hy_2 := hf 2 (by omega)
    simp [hc4, hc43] at hy_0 hy_1 hy_2
    obtain ⟨x_0, e_x_0, x_x_0⟩ := Go.DataW.trod_bool Try.underlying4 hy_0
    obtain ⟨x_1, e_x_1, x_x_1⟩ := Go.DataW.trod_bool Try.underlying4 hy_1
    obtain ⟨x_2, e_x_2, x_x_2⟩ := Go.DataW.trod_bool Try.underlying4 hy_2
    simp at e_x_0 e_x_1 e_x_2
    subst e_x_0 e_x_1 e_x_2
    exact ⟨x_0, x_1, x_2, rfl⟩
set_option maxRecDepth 100000 in
theorem lifted (os : Os) (started : os.Started) (H : Type) (enc : TypeId × Value → H) :
    ReturnsInHanded {} Try.checked os 6 .any (Rows.objectOrdersSpec.pre6 enc Try.prog Try.f6 Rows.objectOrdersRow.domain false) (Rows.objectOrdersSpec.post enc Try.prog Try.f6 false true false false) := by
  refine returnsInHanded_of_change_sized (C := Try.checked) own started (by kernel_rfl) Try.func6
    (ChangeSpec.witness6 (enc := enc) (C := Try.checked) false ⟨#[], #[.agg #[.int .i64 0, .int .i64 0, .int .i64 0], .agg #[.bool false, .bool false, .bool false]], []⟩ 8 (by kernel_rfl) (by kernel_rfl) (by kernel_rfl) (by kernel_rfl)) ?_
  intro W base args ds gs before hval0 hW hcnd hsz0 _
  have hval : ∀ (j : Nat) t v, Try.f6.params[j]? = some t → args[j]? = some v → Value.okWide Try.prog W .any base t v := hval0
  have hW' := hW
  obtain ⟨p, q, hA0, hV, rfl, hfz, hnd⟩ := hW
  have hA : DataW.TrodAll enc Try.prog W 0 (fun _ => true) true Try.f6.params.toList args.toList ds p := hA0
  rw [Try.params6] at hA hval
  obtain ⟨v0, vs0, d0, ds0, p0, q0, hargs, rfl, rfl, h0, r0⟩ := trodAll_cons hA
  obtain ⟨v1, vs1, d1, ds1, p1, q1, rfl, rfl, rfl, h1, r1⟩ := trodAll_cons r0
  obtain ⟨rfl, rfl, rfl⟩ := trodAll_nil r1
  obtain rfl : args = #[v0, v1] := by cases args; simp_all
  obtain ⟨rfl, rfl⟩ := trodVars_none hV
  have k0 := h0
  have lt0 : ∀ x ∈ p0, x.block < W.heap.size := by obtain ⟨m, hm⟩ := k0; exact DataW.trod_lt m _ _ _ hm
  obtain ⟨a0_0, a0_1, a0_2, rfl, s_a0_0, s_a0_1, s_a0_2⟩ := open42 (hval 0 42 v0 rfl rfl) h0
  have k1 := h1
  have lt1 : ∀ x ∈ p1, x.block < W.heap.size := by obtain ⟨m, hm⟩ := k1; exact DataW.trod_lt m _ _ _ hm
  obtain ⟨a1_0, a1_1, a1_2, rfl⟩ := open43 (hval 1 43 v1 rfl rfl) h1
  clear hA0 hval0 hsz0
  refine (T3.orders_walk a0_0 a0_1 a0_2 a1_0 a1_1 a1_2 W s_a0_0 s_a0_1 s_a0_2).mono fun e W' ⟨he, bel⟩ => ?_
  subst he
  exact ⟨_, rfl, _, _, _, [], _, [], hW', trodAll_mk1 (shut_bool Try.underlying4 _), (trodAll_cons_mk (Below.trod laidOut (by kernel_rfl) (of_decide_eq_true (by kernel_rfl)) k0 bel lt0) (trodAll_cons_mk (Below.trod laidOut (by kernel_rfl) (of_decide_eq_true (by kernel_rfl)) k1 bel lt1) trodAll_mk0)), rfl, bel.frame _, fun h => by cases h⟩
theorem over : Rows.objectOrdersRow.holds Try.pinned (OpenSpec.ofChange Rows.objectOrdersSpec) :=
  OpenClaim.holds_of_wide 6 Try.f6 rfl rfl rfl rfl rfl rfl rfl ⟨rfl, rfl, rfl, rfl, rfl⟩ rfl rfl rfl rfl rfl (by kernel_rfl) Try.func6 (by kernel_rfl)
    (of_decide_eq_true (by kernel_rfl)) (by unfold Func.isWrapper; first | (rw [if_pos (by decide +kernel)]; kernel_rfl) | (rw [if_neg (by decide +kernel)]; exact ⟨rfl, rfl⟩))
    (fun os started H enc _ => lifted os started H enc)
end Go.Proofs.Yticbjpficaaaiaa.LiftObjectOrders
namespace Go.Proofs.Yticbjpficaaaiaa
theorem objectOrders_holds : Rows.ObjectOrdersSaid := LiftObjectOrders.over
#print axioms objectOrders_holds
end Go.Proofs.Yticbjpficaaaiaa
