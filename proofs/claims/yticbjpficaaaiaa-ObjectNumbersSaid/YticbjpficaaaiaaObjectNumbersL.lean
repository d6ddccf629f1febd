/- ObjectNumbers: the statement, out of its walk: for every input, without a condition. -/
import Derived.Test.YticbjpficaaaiaaRows
import Derived.Test.YticbjpficaaaiaaObjN5
import Derived.WalkKit
import Derived.ProofKit
import Derived.OpenShut
import Derived.ShutString
import Derived.ChangeOld
import Derived.Below
import Derived.SizedLaws
import Derived.Carry
import Derived.ChangeSlices
import Derived.ChangeArms
namespace Go.Proofs.Yticbjpficaaaiaa.LiftObjectNumbers
open Go.ChangeShapes Go.WideShapes Go.ChangeAt Go.RowKit
open Go.ChangeMaps (open_string shut_string)
set_option linter.unusedVariables false
set_option linter.unusedSimpArgs false
theorem own : ownKnob Try.prog.godebug = none := by kernel_rfl
theorem laidOut : laidOutB Try.prog = true := by kernel_rfl
theorem okAgg_struct {P : Program} {w : World} {r : Reach} {base : Nat} {t : TypeId} {v : Value} {fs : Array Field} (ht : P.underlying t = some (.struct fs)) (h : Value.okWide P w r base t v) : ∃ cs, v = .agg cs ∧ cs.size = P.cellsOf t := okWide_struct ht h
theorem okAgg_array {P : Program} {w : World} {r : Reach} {base : Nat} {t : TypeId} {v : Value} {n : Nat} {e : TypeId} (ht : P.underlying t = some (.array n e)) (h : Value.okWide P w r base t v) : ∃ cs, v = .agg cs ∧ cs.size = P.cellsOf t := by
  simp only [Value.okWide, ht] at h
  obtain ⟨cs, h1, h2, _⟩ := h
  exact ⟨cs, h1, h2⟩
set_option maxRecDepth 100000 in
theorem open23 {H : Type} {enc : TypeId × Value → H} {W : World} {base : Nat} {v : Value} {d : DataW H} {p : List MemPlace} (hval : Value.okWide Try.prog W .any base 23 v) (h : DataW.Trod enc Try.prog W 0 (fun _ => true) true 23 v d p) :
    ∃ (x_Kind : Int) (x_Exec : Bool) (x_N : Int) (x_Name : ByteArray) (x_Ref : Int) (x_Off : Int) (x_Len : Int), v = .agg #[.int .i64 x_Kind, .bool x_Exec, .int .i64 x_N, .string x_Name, .int .i64 x_Ref, .int .i64 x_Off, .int .i64 x_Len] ∧ (Lit.int .i64 x_Kind).wf = true ∧ (Lit.int .i64 x_N).wf = true ∧ x_Name.size ≤ maxLen ∧ (Lit.int .i64 x_Ref).wf = true ∧ (Lit.int .i64 x_Off).wf = true ∧ (Lit.int .i64 x_Len).wf = true := by
  have hc3 : Try.prog.cellsOf 3 = 1 := by kernel_rfl
  have hc4 : Try.prog.cellsOf 4 = 1 := by kernel_rfl
  have hc9 : Try.prog.cellsOf 9 = 1 := by kernel_rfl
  have hc23 : Try.prog.cellsOf 23 = 7 := by kernel_rfl
  obtain ⟨cs, rfl, hcs⟩ := okAgg_struct Try.underlying23 hval
  rw [hc23] at hcs
  obtain ⟨fuel, hy⟩ := h
  obtain ⟨l⟩ := cs
  simp only [Value.cells] at hy
  match l, hcs with
  | [c0, c1, c2, c3, c4, c5, c6], _ =>
    obtain ⟨ys, m, _, hx, _, hl, hf⟩ := Go.DataW.trod_struct Try.underlying23 hy
    match ys, hl with
    | [y_0, y_1, y_2, y_3, y_4, y_5, y_6], _ =>
    have hy_0 := hf 0 _ rfl
    have hy_1 := hf 1 _ rfl
    have hy_2 := hf 2 _ rfl
    have hy_3 := hf 3 _ rfl
    have hy_4 := hf 4 _ rfl
    have hy_5 := hf 5 _ rfl
    have hy_6 := hf 6 _ rfl
    simp [hc3, hc4, hc9, hc23] at hy_0 hy_1 hy_2 hy_3 hy_4 hy_5 hy_6
    obtain ⟨x_Kind, e_x_Kind, x_x_Kind, s_x_Kind⟩ := Go.DataW.trod_int Try.underlying3 hy_0
    obtain ⟨x_Exec, e_x_Exec, x_x_Exec⟩ := Go.DataW.trod_bool Try.underlying4 hy_1
    obtain ⟨x_N, e_x_N, x_x_N, s_x_N⟩ := Go.DataW.trod_int Try.underlying3 hy_2
    obtain ⟨x_Name, e_x_Name, x_x_Name, s_x_Name⟩ := Go.DataW.trod_string Try.underlying9 hy_3
    obtain ⟨x_Ref, e_x_Ref, x_x_Ref, s_x_Ref⟩ := Go.DataW.trod_int Try.underlying3 hy_4
    obtain ⟨x_Off, e_x_Off, x_x_Off, s_x_Off⟩ := Go.DataW.trod_int Try.underlying3 hy_5
    obtain ⟨x_Len, e_x_Len, x_x_Len, s_x_Len⟩ := Go.DataW.trod_int Try.underlying3 hy_6
    simp at e_x_Kind e_x_Exec e_x_N e_x_Name e_x_Ref e_x_Off e_x_Len
    subst e_x_Kind e_x_Exec e_x_N e_x_Name e_x_Ref e_x_Off e_x_Len
    exact ⟨x_Kind, x_Exec, x_N, x_Name, x_Ref, x_Off, x_Len, rfl, s_x_Kind, s_x_N, s_x_Name, s_x_Ref, s_x_Off, s_x_Len⟩
set_option maxRecDepth 100000 in
theorem lifted (os : Os) (started : os.Started) (H : Type) (enc : TypeId × Value → H) :
    ReturnsInHanded {} Try.checked os 4 .any (Rows.objectNumbersSpec.pre6 enc Try.prog Try.f4 Rows.objectNumbersRow.domain false) (Rows.objectNumbersSpec.post enc Try.prog Try.f4 false true false false) := by
  refine returnsInHanded_of_change_sized (C := Try.checked) own started (by kernel_rfl) Try.func4
    (ChangeSpec.witness6 (enc := enc) (C := Try.checked) false ⟨#[], #[.agg #[.int .i64 0, .bool false, .int .i64 0, .string ByteArray.empty, .int .i64 0, .int .i64 0, .int .i64 0], .agg #[.int .i64 0, .bool false, .int .i64 0, .string ByteArray.empty, .int .i64 0, .int .i64 0, .int .i64 0]], []⟩ 8 (by kernel_rfl) (by kernel_rfl) (by kernel_rfl) (by kernel_rfl)) ?_
  intro W base args ds gs before hval0 hW hcnd hsz0 _
  have hval : ∀ (j : Nat) t v, Try.f4.params[j]? = some t → args[j]? = some v → Value.okWide Try.prog W .any base t v := hval0
  have hW' := hW
  obtain ⟨p, q, hA0, hV, rfl, hfz, hnd⟩ := hW
  have hA : DataW.TrodAll enc Try.prog W 0 (fun _ => true) true Try.f4.params.toList args.toList ds p := hA0
  rw [Try.params4] at hA hval
  obtain ⟨v0, vs0, d0, ds0, p0, q0, hargs, rfl, rfl, h0, r0⟩ := trodAll_cons hA
  obtain ⟨v1, vs1, d1, ds1, p1, q1, rfl, rfl, rfl, h1, r1⟩ := trodAll_cons r0
  obtain ⟨rfl, rfl, rfl⟩ := trodAll_nil r1
  obtain rfl : args = #[v0, v1] := by cases args; simp_all
  obtain ⟨rfl, rfl⟩ := trodVars_none hV
  have k0 := h0
  have lt0 : ∀ x ∈ p0, x.block < W.heap.size := by obtain ⟨m, hm⟩ := k0; exact DataW.trod_lt m _ _ _ hm
  obtain ⟨a0_Kind, a0_Exec, a0_N, a0_Name, a0_Ref, a0_Off, a0_Len, rfl, s_a0_Kind, s_a0_N, s_a0_Name, s_a0_Ref, s_a0_Off, s_a0_Len⟩ := open23 (hval 0 23 v0 rfl rfl) h0
  have k1 := h1
  have lt1 : ∀ x ∈ p1, x.block < W.heap.size := by obtain ⟨m, hm⟩ := k1; exact DataW.trod_lt m _ _ _ hm
  obtain ⟨a1_Kind, a1_Exec, a1_N, a1_Name, a1_Ref, a1_Off, a1_Len, rfl, s_a1_Kind, s_a1_N, s_a1_Name, s_a1_Ref, s_a1_Off, s_a1_Len⟩ := open23 (hval 1 23 v1 rfl rfl) h1
  clear hA0 hval0 hsz0
  refine (T3.nums_walk a0_Kind a0_Exec a0_N a0_Name a0_Ref a0_Off a0_Len a1_Kind a1_Exec a1_N a1_Name a1_Ref a1_Off a1_Len W s_a0_Kind s_a0_N s_a0_Name s_a0_Ref s_a0_Off s_a0_Len s_a1_Kind s_a1_N s_a1_Name s_a1_Ref s_a1_Off s_a1_Len).mono fun e W' ⟨he, bel⟩ => ?_
  subst he
  exact ⟨_, rfl, _, _, _, [], _, [], hW', trodAll_mk1 (shut_bool Try.underlying4 _), (trodAll_cons_mk (Below.trod laidOut (by kernel_rfl) (of_decide_eq_true (by kernel_rfl)) k0 bel lt0) (trodAll_cons_mk (Below.trod laidOut (by kernel_rfl) (of_decide_eq_true (by kernel_rfl)) k1 bel lt1) trodAll_mk0)), rfl, bel.frame _, fun h => by cases h⟩
theorem over : Rows.objectNumbersRow.holds Try.pinned (OpenSpec.ofChange Rows.objectNumbersSpec) :=
  OpenClaim.holds_of_wide 4 Try.f4 rfl rfl rfl rfl rfl rfl rfl ⟨rfl, rfl, rfl, rfl, rfl⟩ rfl rfl rfl rfl rfl (by kernel_rfl) Try.func4 (by kernel_rfl)
    (of_decide_eq_true (by kernel_rfl)) (by unfold Func.isWrapper; first | (rw [if_pos (by decide +kernel)]; kernel_rfl) | (rw [if_neg (by decide +kernel)]; exact ⟨rfl, rfl⟩))
    (fun os started H enc _ => lifted os started H enc)
end Go.Proofs.Yticbjpficaaaiaa.LiftObjectNumbers
namespace Go.Proofs.Yticbjpficaaaiaa
theorem objectNumbers_holds : Rows.ObjectNumbersSaid := LiftObjectNumbers.over
#print axioms objectNumbers_holds
end Go.Proofs.Yticbjpficaaaiaa
