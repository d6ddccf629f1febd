/- SampleMoves: the statement, out of its walk: for every input, without a condition. -/
import Derived.Test.YtkkeahnmmpcceaaRows
import Derived.Test.YtkkeahnmmpcceaaMovW
import Derived.WalkKit
import Derived.ProofKit
import Derived.OpenShut
import Derived.ShutString
import Derived.ChangeOld
import Derived.Below
import Derived.SizedLaws
import Derived.Carry
import Derived.ChangeSlices
import Derived.ChangeArms
namespace Go.Proofs.Ytkkeahnmmpcceaa.LiftSampleMoves
open Go.ChangeShapes Go.WideShapes Go.ChangeAt Go.RowKit
open Go.ChangeMaps (open_string shut_string)
set_option linter.unusedVariables false
set_option linter.unusedSimpArgs false
theorem own : ownKnob Try.prog.godebug = none := by kernel_rfl
theorem laidOut : laidOutB Try.prog = true := by kernel_rfl
theorem okAgg_struct {P : Program} {w : World} {r : Reach} {base : Nat} {t : TypeId} {v : Value} {fs : Array Field} (ht : P.underlying t = some (.struct fs)) (h : Value.okWide P w r base t v) : ∃ cs, v = .agg cs ∧ cs.size = P.cellsOf t := okWide_struct ht h
theorem okAgg_array {P : Program} {w : World} {r : Reach} {base : Nat} {t : TypeId} {v : Value} {n : Nat} {e : TypeId} (ht : P.underlying t = some (.array n e)) (h : Value.okWide P w r base t v) : ∃ cs, v = .agg cs ∧ cs.size = P.cellsOf t := by
  simp only [Value.okWide, ht] at h
  obtain ⟨cs, h1, h2, _⟩ := h
  exact ⟨cs, h1, h2⟩
theorem open_row {H : Type} {enc : TypeId × Value → H} {P : Program} {w : World} {held : Bool} {t e : TypeId} {k : IntKind} {fuel : Nat} {cs : List Value} {x : DataW H × List MemPlace} (ht : P.underlying t = some (.slice e)) (he : P.underlying e = some (.int k)) (hc : P.cellsOf e = 1)
    (h : DataW.trod enc P w 0 (fun _ => true) held fuel t cs = some x) : ∃ a len cap, cs = [.slice a len cap] ∧ IsRow k w a len cap := by
  rcases open_ints ht he hc h with ⟨hcs, _⟩ | ⟨a, l, c, zs, hcs, _, hl, hm, hz, _, hcell, hw⟩
  · exact ⟨_, _, _, hcs, .inl ⟨rfl, rfl, rfl⟩⟩
  · exact ⟨_, _, _, hcs, .inr ⟨a, zs, rfl, hl, hm, by simpa using hz, hcell, hw⟩⟩
set_option maxRecDepth 100000 in
theorem open26 {H : Type} {enc : TypeId × Value → H} {W : World} {base : Nat} {v : Value} {d : DataW H} {p : List MemPlace} (hval : Value.okWide Try.prog W .any base 26 v) (h : DataW.Trod enc Try.prog W 0 (fun _ => true) true 26 v d p) :
    ∃ (x_W : Int) (x_H : Int) (x_N : Int) (x_Data : Option Addr) (x_Data_l x_Data_c : Nat) (x_M_Kind : Int) (x_M_A : Int) (x_M_B : Int) (x_M_C : Int) (x_M_D : Int) (x_M_E : Int) (x_M_F : Int) (x_Near : Bool), v = .agg #[.int .u8 x_W, .int .u8 x_H, .int .u8 x_N, .slice x_Data x_Data_l x_Data_c, .int .u8 x_M_Kind, .int .i32 x_M_A, .int .i32 x_M_B, .int .i32 x_M_C, .int .i32 x_M_D, .int .i32 x_M_E, .int .i32 x_M_F, .bool x_Near] ∧ (Lit.int .u8 x_W).wf = true ∧ (Lit.int .u8 x_H).wf = true ∧ (Lit.int .u8 x_N).wf = true ∧ IsRow .u8 W x_Data x_Data_l x_Data_c ∧ (Lit.int .u8 x_M_Kind).wf = true ∧ (Lit.int .i32 x_M_A).wf = true ∧ (Lit.int .i32 x_M_B).wf = true ∧ (Lit.int .i32 x_M_C).wf = true ∧ (Lit.int .i32 x_M_D).wf = true ∧ (Lit.int .i32 x_M_E).wf = true ∧ (Lit.int .i32 x_M_F).wf = true := by
  have hc4 : Try.prog.cellsOf 4 = 1 := by kernel_rfl
  have hc5 : Try.prog.cellsOf 5 = 1 := by kernel_rfl
  have hc21 : Try.prog.cellsOf 21 = 1 := by kernel_rfl
  have hc22 : Try.prog.cellsOf 22 = 1 := by kernel_rfl
  have hc24 : Try.prog.cellsOf 24 = 7 := by kernel_rfl
  have hc26 : Try.prog.cellsOf 26 = 12 := by kernel_rfl
  obtain ⟨cs, rfl, hcs⟩ := okAgg_struct Try.underlying26 hval
  rw [hc26] at hcs
  obtain ⟨fuel, hy⟩ := h
  obtain ⟨l⟩ := cs
  simp only [Value.cells] at hy
  match l, hcs with
  | [c0, c1, c2, c3, c4, c5, c6, c7, c8, c9, c10, c11], _ =>
    obtain ⟨ys, m, _, hx, _, hl, hf⟩ := Go.DataW.trod_struct Try.underlying26 hy
    match ys, hl with
    | [y_0, y_1, y_2, y_3, y_4, y_5], _ =>
    have hy_0 := hf 0 _ rfl
    have hy_1 := hf 1 _ rfl
    have hy_2 := hf 2 _ rfl
    have hy_3 := hf 3 _ rfl
    have hy_4 := hf 4 _ rfl
    have hy_5 := hf 5 _ rfl
    simp [hc4, hc5, hc21, hc22, hc24, hc26] at hy_0 hy_1 hy_2 hy_3 hy_4 hy_5
    obtain ⟨x_W, e_x_W, x_x_W, s_x_W⟩ := Go.DataW.trod_int Try.underlying5 hy_0
    obtain ⟨x_H, e_x_H, x_x_H, s_x_H⟩ := Go.DataW.trod_int Try.underlying5 hy_1
    obtain ⟨x_N, e_x_N, x_x_N, s_x_N⟩ := Go.DataW.trod_int Try.underlying5 hy_2
    obtain ⟨x_Data, x_Data_l, x_Data_c, e_x_Data, s_x_Data⟩ := open_row Try.underlying22 Try.underlying5 hc5 hy_3
    obtain ⟨ys_4, m_4, _, hx_4, _, hl_4, hf_4⟩ := Go.DataW.trod_struct Try.underlying24 hy_4
    match ys_4, hl_4 with
    | [y_4_0, y_4_1, y_4_2, y_4_3, y_4_4, y_4_5, y_4_6], _ =>
    have hy_4_0 := hf_4 0 _ rfl
    have hy_4_1 := hf_4 1 _ rfl
    have hy_4_2 := hf_4 2 _ rfl
    have hy_4_3 := hf_4 3 _ rfl
    have hy_4_4 := hf_4 4 _ rfl
    have hy_4_5 := hf_4 5 _ rfl
    have hy_4_6 := hf_4 6 _ rfl
    simp [hc4, hc5, hc21, hc22, hc24, hc26] at hy_4_0 hy_4_1 hy_4_2 hy_4_3 hy_4_4 hy_4_5 hy_4_6
    obtain ⟨x_M_Kind, e_x_M_Kind, x_x_M_Kind, s_x_M_Kind⟩ := Go.DataW.trod_int Try.underlying5 hy_4_0
    obtain ⟨x_M_A, e_x_M_A, x_x_M_A, s_x_M_A⟩ := Go.DataW.trod_int Try.underlying21 hy_4_1
    obtain ⟨x_M_B, e_x_M_B, x_x_M_B, s_x_M_B⟩ := Go.DataW.trod_int Try.underlying21 hy_4_2
    obtain ⟨x_M_C, e_x_M_C, x_x_M_C, s_x_M_C⟩ := Go.DataW.trod_int Try.underlying21 hy_4_3
    obtain ⟨x_M_D, e_x_M_D, x_x_M_D, s_x_M_D⟩ := Go.DataW.trod_int Try.underlying21 hy_4_4
    obtain ⟨x_M_E, e_x_M_E, x_x_M_E, s_x_M_E⟩ := Go.DataW.trod_int Try.underlying21 hy_4_5
    obtain ⟨x_M_F, e_x_M_F, x_x_M_F, s_x_M_F⟩ := Go.DataW.trod_int Try.underlying21 hy_4_6
    obtain ⟨x_Near, e_x_Near, x_x_Near⟩ := Go.DataW.trod_bool Try.underlying4 hy_5
    simp at e_x_W e_x_H e_x_N e_x_Data e_x_M_Kind e_x_M_A e_x_M_B e_x_M_C e_x_M_D e_x_M_E e_x_M_F e_x_Near
    subst e_x_W e_x_H e_x_N e_x_Data e_x_M_Kind e_x_M_A e_x_M_B e_x_M_C e_x_M_D e_x_M_E e_x_M_F e_x_Near
    exact ⟨x_W, x_H, x_N, x_Data, x_Data_l, x_Data_c, x_M_Kind, x_M_A, x_M_B, x_M_C, x_M_D, x_M_E, x_M_F, x_Near, rfl, s_x_W, s_x_H, s_x_N, s_x_Data, s_x_M_Kind, s_x_M_A, s_x_M_B, s_x_M_C, s_x_M_D, s_x_M_E, s_x_M_F⟩
set_option maxRecDepth 100000 in
theorem open48 {H : Type} {enc : TypeId × Value → H} {W : World} {base : Nat} {v : Value} {d : DataW H} {p : List MemPlace} (hval : Value.okWide Try.prog W .any base 48 v) (h : DataW.Trod enc Try.prog W 0 (fun _ => true) true 48 v d p) :
    ∃ (x_0 : Int) (x_1 : Int), v = .agg #[.int .i8 x_0, .int .i8 x_1] ∧ (Lit.int .i8 x_0).wf = true ∧ (Lit.int .i8 x_1).wf = true := by
  have hc47 : Try.prog.cellsOf 47 = 1 := by kernel_rfl
  have hc48 : Try.prog.cellsOf 48 = 2 := by kernel_rfl
  obtain ⟨cs, rfl, hcs⟩ := okAgg_array Try.underlying48 hval
  rw [hc48] at hcs
  obtain ⟨fuel, hy⟩ := h
  obtain ⟨l⟩ := cs
  simp only [Value.cells] at hy
  match l, hcs with
  | [c0, c1], _ =>
    obtain ⟨ys, m, _, hx, _, hl, hf⟩ := Go.DataW.trod_array Try.underlying48 hy
    match ys, hl with
    | [y_0, y_1], _ =>
    have hy_0 := hf 0 (by omega)
    have hy_1 := hf 1 (by omega)
    simp [hc47, hc48] at hy_0 hy_1
    obtain ⟨x_0, e_x_0, x_x_0, s_x_0⟩ := Go.DataW.trod_int Try.underlying47 hy_0
    obtain ⟨x_1, e_x_1, x_x_1, s_x_1⟩ := Go.DataW.trod_int Try.underlying47 hy_1
    simp at e_x_0 e_x_1
    subst e_x_0 e_x_1
    exact ⟨x_0, x_1, rfl, s_x_0, s_x_1⟩
set_option maxRecDepth 100000 in
theorem lifted (os : Os) (started : os.Started) (H : Type) (enc : TypeId × Value → H) :
    ReturnsInHanded {} Try.checked os 6 .any (Rows.sampleMovesSpec.pre6 enc Try.prog Try.f6 Rows.sampleMovesRow.domain false) (Rows.sampleMovesSpec.post enc Try.prog Try.f6 false true false false) := by
  refine returnsInHanded_of_change_sized (C := Try.checked) own started (by kernel_rfl) Try.func6
    (ChangeSpec.witness6 (enc := enc) (C := Try.checked) false ⟨#[], #[.agg #[.int .u8 0, .int .u8 0, .int .u8 0, .slice none 0 0, .int .u8 0, .int .i32 0, .int .i32 0, .int .i32 0, .int .i32 0, .int .i32 0, .int .i32 0, .bool false], .agg #[.int .i8 0, .int .i8 0], .int .i8 0, .int .i8 0], []⟩ 8 (by kernel_rfl) (by kernel_rfl) (by kernel_rfl) (by kernel_rfl)) ?_
  intro W base args ds gs before hval0 hW hcnd hsz0 _
  have hval : ∀ (j : Nat) t v, Try.f6.params[j]? = some t → args[j]? = some v → Value.okWide Try.prog W .any base t v := hval0
  have hW' := hW
  obtain ⟨p, q, hA0, hV, rfl, hfz, hnd⟩ := hW
  have hA : DataW.TrodAll enc Try.prog W 0 (fun _ => true) true Try.f6.params.toList args.toList ds p := hA0
  rw [Try.params6] at hA hval
  obtain ⟨v0, vs0, d0, ds0, p0, q0, hargs, rfl, rfl, h0, r0⟩ := trodAll_cons hA
  obtain ⟨v1, vs1, d1, ds1, p1, q1, rfl, rfl, rfl, h1, r1⟩ := trodAll_cons r0
  obtain ⟨v2, vs2, d2, ds2, p2, q2, rfl, rfl, rfl, h2, r2⟩ := trodAll_cons r1
  obtain ⟨v3, vs3, d3, ds3, p3, q3, rfl, rfl, rfl, h3, r3⟩ := trodAll_cons r2
  obtain ⟨rfl, rfl, rfl⟩ := trodAll_nil r3
  obtain rfl : args = #[v0, v1, v2, v3] := by cases args; simp_all
  obtain ⟨rfl, rfl⟩ := trodVars_none hV
  have k0 := h0
  have lt0 : ∀ x ∈ p0, x.block < W.heap.size := by obtain ⟨m, hm⟩ := k0; exact DataW.trod_lt m _ _ _ hm
  obtain ⟨a0_W, a0_H, a0_N, a0_Data, a0_Data_l, a0_Data_c, a0_M_Kind, a0_M_A, a0_M_B, a0_M_C, a0_M_D, a0_M_E, a0_M_F, a0_Near, rfl, s_a0_W, s_a0_H, s_a0_N, s_a0_Data, s_a0_M_Kind, s_a0_M_A, s_a0_M_B, s_a0_M_C, s_a0_M_D, s_a0_M_E, s_a0_M_F⟩ := open26 (hval 0 26 v0 rfl rfl) h0
  have k1 := h1
  have lt1 : ∀ x ∈ p1, x.block < W.heap.size := by obtain ⟨m, hm⟩ := k1; exact DataW.trod_lt m _ _ _ hm
  obtain ⟨a1_0, a1_1, rfl, s_a1_0, s_a1_1⟩ := open48 (hval 1 48 v1 rfl rfl) h1
  obtain ⟨a2, rfl, rfl, rfl, s_a2⟩ := open_int Try.underlying47 (hval 2 47 v2 rfl rfl) h2
  obtain ⟨a3, rfl, rfl, rfl, s_a3⟩ := open_int Try.underlying47 (hval 3 47 v3 rfl rfl) h3
  clear hA0 hval0 hsz0
  refine (T3.moves_walk a0_W a0_H a0_N a0_Data a0_Data_l a0_Data_c a0_M_Kind a0_M_A a0_M_B a0_M_C a0_M_D a0_M_E a0_M_F a0_Near a1_0 a1_1 a2 a3 W s_a0_W s_a0_H s_a0_N s_a0_Data s_a0_M_Kind s_a0_M_A s_a0_M_B s_a0_M_C s_a0_M_D s_a0_M_E s_a0_M_F s_a1_0 s_a1_1 s_a2 s_a3).mono fun e W' ⟨he, bel⟩ => ?_
  subst he
  exact ⟨_, rfl, _, _, _, [], _, [], hW', trodAll_mk1 (shut_bool Try.underlying4 _), (trodAll_cons_mk (Below.trod laidOut (by kernel_rfl) (of_decide_eq_true (by kernel_rfl)) k0 bel lt0) (trodAll_cons_mk (Below.trod laidOut (by kernel_rfl) (of_decide_eq_true (by kernel_rfl)) k1 bel lt1) (trodAll_cons_mk (shut_int Try.underlying47 s_a2) (trodAll_cons_mk (shut_int Try.underlying47 s_a3) trodAll_mk0)))), rfl, bel.frame _, fun h => by cases h⟩
theorem over : Rows.sampleMovesRow.holds Try.pinned (OpenSpec.ofChange Rows.sampleMovesSpec) :=
  OpenClaim.holds_of_wide 6 Try.f6 rfl rfl rfl rfl rfl rfl rfl ⟨rfl, rfl, rfl, rfl, rfl⟩ rfl rfl rfl rfl rfl (by kernel_rfl) Try.func6 (by kernel_rfl)
    (of_decide_eq_true (by kernel_rfl)) (by unfold Func.isWrapper; first | (rw [if_pos (by decide +kernel)]; kernel_rfl) | (rw [if_neg (by decide +kernel)]; exact ⟨rfl, rfl⟩))
    (fun os started H enc _ => lifted os started H enc)
end Go.Proofs.Ytkkeahnmmpcceaa.LiftSampleMoves
namespace Go.Proofs.Ytkkeahnmmpcceaa
theorem sampleMoves_holds : Rows.SampleMovesSaid := LiftSampleMoves.over
#print axioms sampleMoves_holds
end Go.Proofs.Ytkkeahnmmpcceaa
