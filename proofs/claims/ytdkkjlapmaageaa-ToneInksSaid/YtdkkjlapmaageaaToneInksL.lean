/- ToneInks: the statement, out of its walk: for every input, without a condition. -/
import Derived.Test.YtdkkjlapmaageaaRows
import Derived.Test.YtdkkjlapmaageaaToL1
import Derived.WalkKit
import Derived.ProofKit
import Derived.OpenShut
import Derived.ShutString
import Derived.ChangeOld
import Derived.Below
import Derived.SizedLaws
import Derived.Carry
import Derived.ChangeSlices
import Derived.ChangeArms
namespace Go.Proofs.Ytdkkjlapmaageaa.LiftToneInks
open Go.ChangeShapes Go.WideShapes Go.ChangeAt Go.RowKit
open Go.ChangeMaps (open_string shut_string)
set_option linter.unusedVariables false
set_option linter.unusedSimpArgs false
theorem own : ownKnob Try.prog.godebug = none := by kernel_rfl
theorem laidOut : laidOutB Try.prog = true := by kernel_rfl
theorem okAgg_struct {P : Program} {w : World} {r : Reach} {base : Nat} {t : TypeId} {v : Value} {fs : Array Field} (ht : P.underlying t = some (.struct fs)) (h : Value.okWide P w r base t v) : ∃ cs, v = .agg cs ∧ cs.size = P.cellsOf t := okWide_struct ht h
theorem okAgg_array {P : Program} {w : World} {r : Reach} {base : Nat} {t : TypeId} {v : Value} {n : Nat} {e : TypeId} (ht : P.underlying t = some (.array n e)) (h : Value.okWide P w r base t v) : ∃ cs, v = .agg cs ∧ cs.size = P.cellsOf t := by
  simp only [Value.okWide, ht] at h
  obtain ⟨cs, h1, h2, _⟩ := h
  exact ⟨cs, h1, h2⟩
theorem open_row {H : Type} {enc : TypeId × Value → H} {P : Program} {w : World} {held : Bool} {t e : TypeId} {k : IntKind} {fuel : Nat} {cs : List Value} {x : DataW H × List MemPlace} (ht : P.underlying t = some (.slice e)) (he : P.underlying e = some (.int k)) (hc : P.cellsOf e = 1)
    (h : DataW.trod enc P w 0 (fun _ => true) held fuel t cs = some x) : ∃ a len cap, cs = [.slice a len cap] ∧ IsRow k w a len cap := by
  rcases open_ints ht he hc h with ⟨hcs, _⟩ | ⟨a, l, c, zs, hcs, _, hl, hm, hz, _, hcell, hw⟩
  · exact ⟨_, _, _, hcs, .inl ⟨rfl, rfl, rfl⟩⟩
  · exact ⟨_, _, _, hcs, .inr ⟨a, zs, rfl, hl, hm, by simpa using hz, hcell, hw⟩⟩
set_option maxRecDepth 100000 in
theorem open24 {H : Type} {enc : TypeId × Value → H} {W : World} {base : Nat} {v : Value} {d : DataW H} {p : List MemPlace} (hval : Value.okWide Try.prog W .any base 24 v) (h : DataW.Trod enc Try.prog W 0 (fun _ => true) true 24 v d p) :
    ∃ (x_Kind : Int) (x_W : Int) (x_H : Int) (x_T : Option Addr) (x_T_l x_T_c : Nat), v = .agg #[.int .u8 x_Kind, .int .u8 x_W, .int .u8 x_H, .slice x_T x_T_l x_T_c] ∧ (Lit.int .u8 x_Kind).wf = true ∧ (Lit.int .u8 x_W).wf = true ∧ (Lit.int .u8 x_H).wf = true ∧ IsRow .u8 W x_T x_T_l x_T_c := by
  have hc5 : Try.prog.cellsOf 5 = 1 := by kernel_rfl
  have hc22 : Try.prog.cellsOf 22 = 1 := by kernel_rfl
  have hc24 : Try.prog.cellsOf 24 = 4 := by kernel_rfl
  obtain ⟨cs, rfl, hcs⟩ := okAgg_struct Try.underlying24 hval
  rw [hc24] at hcs
  obtain ⟨fuel, hy⟩ := h
  obtain ⟨l⟩ := cs
  simp only [Value.cells] at hy
  match l, hcs with
  | [c0, c1, c2, c3], _ =>
    obtain ⟨ys, m, _, hx, _, hl, hf⟩ := Go.DataW.trod_struct Try.underlying24 hy
    match ys, hl with
    | [y_0, y_1, y_2, y_3], _ =>
    have hy_0 := hf 0 _ rfl
    have hy_1 := hf 1 _ rfl
    have hy_2 := hf 2 _ rfl
    have hy_3 := hf 3 _ rfl
    simp [hc5, hc22, hc24] at hy_0 hy_1 hy_2 hy_3
    obtain ⟨x_Kind, e_x_Kind, x_x_Kind, s_x_Kind⟩ := Go.DataW.trod_int Try.underlying5 hy_0
    obtain ⟨x_W, e_x_W, x_x_W, s_x_W⟩ := Go.DataW.trod_int Try.underlying5 hy_1
    obtain ⟨x_H, e_x_H, x_x_H, s_x_H⟩ := Go.DataW.trod_int Try.underlying5 hy_2
    obtain ⟨x_T, x_T_l, x_T_c, e_x_T, s_x_T⟩ := open_row Try.underlying22 Try.underlying5 hc5 hy_3
    simp at e_x_Kind e_x_W e_x_H e_x_T
    subst e_x_Kind e_x_W e_x_H e_x_T
    exact ⟨x_Kind, x_W, x_H, x_T, x_T_l, x_T_c, rfl, s_x_Kind, s_x_W, s_x_H, s_x_T⟩
set_option maxRecDepth 100000 in
theorem open40 {H : Type} {enc : TypeId × Value → H} {W : World} {base : Nat} {v : Value} {d : DataW H} {p : List MemPlace} (hval : Value.okWide Try.prog W .any base 40 v) (h : DataW.Trod enc Try.prog W 0 (fun _ => true) true 40 v d p) :
    ∃ (x_0 : Int) (x_1 : Int) (x_2 : Int) (x_3 : Int), v = .agg #[.int .u8 x_0, .int .u8 x_1, .int .u8 x_2, .int .u8 x_3] ∧ (Lit.int .u8 x_0).wf = true ∧ (Lit.int .u8 x_1).wf = true ∧ (Lit.int .u8 x_2).wf = true ∧ (Lit.int .u8 x_3).wf = true := by
  have hc5 : Try.prog.cellsOf 5 = 1 := by kernel_rfl
  have hc40 : Try.prog.cellsOf 40 = 4 := by kernel_rfl
  obtain ⟨cs, rfl, hcs⟩ := okAgg_array Try.underlying40 hval
  rw [hc40] at hcs
  obtain ⟨fuel, hy⟩ := h
  obtain ⟨l⟩ := cs
  simp only [Value.cells] at hy
  match l, hcs with
  | [c0, c1, c2, c3], _ =>
    obtain ⟨ys, m, _, hx, _, hl, hf⟩ := Go.DataW.trod_array Try.underlying40 hy
    match ys, hl with
    | [y_0, y_1, y_2, y_3], _ =>
    have hy_0 := hf 0 (by omega)
    have hy_1 := hf 1 (by omega)
    have hy_2 := hf 2 (by omega)
    have hy_3 := hf 3 (by omega)
    simp [hc5, hc40] at hy_0 hy_1 hy_2 hy_3
    obtain ⟨x_0, e_x_0, x_x_0, s_x_0⟩ := Go.DataW.trod_int Try.underlying5 hy_0
    obtain ⟨x_1, e_x_1, x_x_1, s_x_1⟩ := Go.DataW.trod_int Try.underlying5 hy_1
    obtain ⟨x_2, e_x_2, x_x_2, s_x_2⟩ := Go.DataW.trod_int Try.underlying5 hy_2
    obtain ⟨x_3, e_x_3, x_x_3, s_x_3⟩ := Go.DataW.trod_int Try.underlying5 hy_3
    simp at e_x_0 e_x_1 e_x_2 e_x_3
    subst e_x_0 e_x_1 e_x_2 e_x_3
    exact ⟨x_0, x_1, x_2, x_3, rfl, s_x_0, s_x_1, s_x_2, s_x_3⟩
set_option maxRecDepth 100000 in
theorem lifted (os : Os) (started : os.Started) (H : Type) (enc : TypeId × Value → H) :
    ReturnsInHanded {} Try.checked os 7 .any (Rows.toneInksSpec.pre6 enc Try.prog Try.f7 Rows.toneInksRow.domain false) (Rows.toneInksSpec.post enc Try.prog Try.f7 false true false false) := by
  refine returnsInHanded_of_change_sized (C := Try.checked) own started (by kernel_rfl) Try.func7
    (ChangeSpec.witness6 (enc := enc) (C := Try.checked) false ⟨#[], #[.agg #[.int .u8 0, .int .u8 0, .int .u8 0, .slice none 0 0], .agg #[.int .u8 0, .int .u8 0, .int .u8 0, .int .u8 0], .int .i32 0, .int .i32 0], []⟩ 8 (by kernel_rfl) (by kernel_rfl) (by kernel_rfl) (by kernel_rfl)) ?_
  intro W base args ds gs before hval0 hW hcnd hsz0 _
  have hval : ∀ (j : Nat) t v, Try.f7.params[j]? = some t → args[j]? = some v → Value.okWide Try.prog W .any base t v := hval0
  have hW' := hW
  obtain ⟨p, q, hA0, hV, rfl, hfz, hnd⟩ := hW
  have hA : DataW.TrodAll enc Try.prog W 0 (fun _ => true) true Try.f7.params.toList args.toList ds p := hA0
  rw [Try.params7] at hA hval
  obtain ⟨v0, vs0, d0, ds0, p0, q0, hargs, rfl, rfl, h0, r0⟩ := trodAll_cons hA
  obtain ⟨v1, vs1, d1, ds1, p1, q1, rfl, rfl, rfl, h1, r1⟩ := trodAll_cons r0
  obtain ⟨v2, vs2, d2, ds2, p2, q2, rfl, rfl, rfl, h2, r2⟩ := trodAll_cons r1
  obtain ⟨v3, vs3, d3, ds3, p3, q3, rfl, rfl, rfl, h3, r3⟩ := trodAll_cons r2
  obtain ⟨rfl, rfl, rfl⟩ := trodAll_nil r3
  obtain rfl : args = #[v0, v1, v2, v3] := by cases args; simp_all
  obtain ⟨rfl, rfl⟩ := trodVars_none hV
  have k0 := h0
  have lt0 : ∀ x ∈ p0, x.block < W.heap.size := by obtain ⟨m, hm⟩ := k0; exact DataW.trod_lt m _ _ _ hm
  obtain ⟨a0_Kind, a0_W, a0_H, a0_T, a0_T_l, a0_T_c, rfl, s_a0_Kind, s_a0_W, s_a0_H, s_a0_T⟩ := open24 (hval 0 24 v0 rfl rfl) h0
  have k1 := h1
  have lt1 : ∀ x ∈ p1, x.block < W.heap.size := by obtain ⟨m, hm⟩ := k1; exact DataW.trod_lt m _ _ _ hm
  obtain ⟨a1_0, a1_1, a1_2, a1_3, rfl, s_a1_0, s_a1_1, s_a1_2, s_a1_3⟩ := open40 (hval 1 40 v1 rfl rfl) h1
  obtain ⟨a2, rfl, rfl, rfl, s_a2⟩ := open_int Try.underlying21 (hval 2 21 v2 rfl rfl) h2
  obtain ⟨a3, rfl, rfl, rfl, s_a3⟩ := open_int Try.underlying21 (hval 3 21 v3 rfl rfl) h3
  clear hA0 hval0 hsz0
  refine (T3.inks_walk a0_Kind a0_W a0_H a0_T a0_T_l a0_T_c a1_0 a1_1 a1_2 a1_3 a2 a3 W s_a0_Kind s_a0_W s_a0_H s_a0_T s_a1_0 s_a1_1 s_a1_2 s_a1_3 s_a2 s_a3).mono fun e W' ⟨he, bel⟩ => ?_
  subst he
  exact ⟨_, rfl, _, _, _, [], _, [], hW', trodAll_mk1 (shut_bool Try.underlying4 _), (trodAll_cons_mk (Below.trod laidOut (by kernel_rfl) (of_decide_eq_true (by kernel_rfl)) k0 bel lt0) (trodAll_cons_mk (Below.trod laidOut (by kernel_rfl) (of_decide_eq_true (by kernel_rfl)) k1 bel lt1) (trodAll_cons_mk (shut_int Try.underlying21 s_a2) (trodAll_cons_mk (shut_int Try.underlying21 s_a3) trodAll_mk0)))), rfl, bel.frame _, fun h => by cases h⟩
theorem over : Rows.toneInksRow.holds Try.pinned (OpenSpec.ofChange Rows.toneInksSpec) :=
  OpenClaim.holds_of_wide 7 Try.f7 rfl rfl rfl rfl rfl rfl rfl ⟨rfl, rfl, rfl, rfl, rfl⟩ rfl rfl rfl rfl rfl (by kernel_rfl) Try.func7 (by kernel_rfl)
    (of_decide_eq_true (by kernel_rfl)) (by unfold Func.isWrapper; first | (rw [if_pos (by decide +kernel)]; kernel_rfl) | (rw [if_neg (by decide +kernel)]; exact ⟨rfl, rfl⟩))
    (fun os started H enc _ => lifted os started H enc)
end Go.Proofs.Ytdkkjlapmaageaa.LiftToneInks
namespace Go.Proofs.Ytdkkjlapmaageaa
theorem toneInks_holds : Rows.ToneInksSaid := LiftToneInks.over
#print axioms toneInks_holds
end Go.Proofs.Ytdkkjlapmaageaa
