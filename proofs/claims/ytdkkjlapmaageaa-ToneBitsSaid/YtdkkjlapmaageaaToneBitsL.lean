/- ToneBits: the statement, out of its walk: for every input, without a condition. -/
import Derived.Test.YtdkkjlapmaageaaRows
import Derived.Test.YtdkkjlapmaageaaToL4
import Derived.WalkKit
import Derived.ProofKit
import Derived.OpenShut
import Derived.ShutString
import Derived.ChangeOld
import Derived.Below
import Derived.SizedLaws
import Derived.Carry
import Derived.ChangeSlices
import Derived.ChangeArms
namespace Go.Proofs.Ytdkkjlapmaageaa.LiftToneBits
open Go.ChangeShapes Go.WideShapes Go.ChangeAt Go.RowKit
open Go.ChangeMaps (open_string shut_string)
set_option linter.unusedVariables false
set_option linter.unusedSimpArgs false
theorem own : ownKnob Try.prog.godebug = none := by kernel_rfl
theorem laidOut : laidOutB Try.prog = true := by kernel_rfl
theorem okAgg_struct {P : Program} {w : World} {r : Reach} {base : Nat} {t : TypeId} {v : Value} {fs : Array Field} (ht : P.underlying t = some (.struct fs)) (h : Value.okWide P w r base t v) : ∃ cs, v = .agg cs ∧ cs.size = P.cellsOf t := okWide_struct ht h
theorem okAgg_array {P : Program} {w : World} {r : Reach} {base : Nat} {t : TypeId} {v : Value} {n : Nat} {e : TypeId} (ht : P.underlying t = some (.array n e)) (h : Value.okWide P w r base t v) : ∃ cs, v = .agg cs ∧ cs.size = P.cellsOf t := by
  simp only [Value.okWide, ht] at h
  obtain ⟨cs, h1, h2, _⟩ := h
  exact ⟨cs, h1, h2⟩
theorem open_row {H : Type} {enc : TypeId × Value → H} {P : Program} {w : World} {held : Bool} {t e : TypeId} {k : IntKind} {fuel : Nat} {cs : List Value} {x : DataW H × List MemPlace} (ht : P.underlying t = some (.slice e)) (he : P.underlying e = some (.int k)) (hc : P.cellsOf e = 1)
    (h : DataW.trod enc P w 0 (fun _ => true) held fuel t cs = some x) : ∃ a len cap, cs = [.slice a len cap] ∧ IsRow k w a len cap := by
  rcases open_ints ht he hc h with ⟨hcs, _⟩ | ⟨a, l, c, zs, hcs, _, hl, hm, hz, _, hcell, hw⟩
  · exact ⟨_, _, _, hcs, .inl ⟨rfl, rfl, rfl⟩⟩
  · exact ⟨_, _, _, hcs, .inr ⟨a, zs, rfl, hl, hm, by simpa using hz, hcell, hw⟩⟩
set_option maxRecDepth 100000 in
theorem open24 {H : Type} {enc : TypeId × Value → H} {W : World} {base : Nat} {v : Value} {d : DataW H} {p : List MemPlace} (hval : Value.okWide Try.prog W .any base 24 v) (h : DataW.Trod enc Try.prog W 0 (fun _ => true) true 24 v d p) :
    ∃ (x_Kind : Int) (x_W : Int) (x_H : Int) (x_T : Option Addr) (x_T_l x_T_c : Nat), v = .agg #[.int .u8 x_Kind, .int .u8 x_W, .int .u8 x_H, .slice x_T x_T_l x_T_c] ∧ (Lit.int .u8 x_Kind).wf = true ∧ (Lit.int .u8 x_W).wf = true ∧ (Lit.int .u8 x_H).wf = true ∧ IsRow .u8 W x_T x_T_l x_T_c := by
  have hc5 : Try.prog.cellsOf 5 = 1 := by kernel_rfl
  have hc22 : Try.prog.cellsOf 22 = 1 := by kernel_rfl
  have hc24 : Try.prog.cellsOf 24 = 4 := by kernel_rfl
  obtain ⟨cs, rfl, hcs⟩ := okAgg_struct Try.underlying24 hval
  rw [hc24] at hcs
  obtain ⟨fuel, hy⟩ := h
  obtain ⟨l⟩ := cs
  simp only [Value.cells] at hy
  match l, hcs with
  | [c0, c1, c2, c3], _ =>
    obtain ⟨ys, m, _, hx, _, hl, hf⟩ := Go.DataW.trod_struct Try.underlying24 hy
    match ys, hl with
    | [y_0, y_1, y_2, y_3], _ =>
    have hy_0 := hf 0 _ rfl
    have hy_1 := hf 1 _ rfl
    have hy_2 := hf 2 _ rfl
    have hy_3 := hf 3 _ rfl
    simp [hc5, hc22, hc24] at hy_0 hy_1 hy_2 hy_3
    obtain ⟨x_Kind, e_x_Kind, x_x_Kind, s_x_Kind⟩ := Go.DataW.trod_int Try.underlying5 hy_0
    obtain ⟨x_W, e_x_W, x_x_W, s_x_W⟩ := Go.DataW.trod_int Try.underlying5 hy_1
    obtain ⟨x_H, e_x_H, x_x_H, s_x_H⟩ := Go.DataW.trod_int Try.underlying5 hy_2
    obtain ⟨x_T, x_T_l, x_T_c, e_x_T, s_x_T⟩ := open_row Try.underlying22 Try.underlying5 hc5 hy_3
    simp at e_x_Kind e_x_W e_x_H e_x_T
    subst e_x_Kind e_x_W e_x_H e_x_T
    exact ⟨x_Kind, x_W, x_H, x_T, x_T_l, x_T_c, rfl, s_x_Kind, s_x_W, s_x_H, s_x_T⟩
set_option maxRecDepth 100000 in
theorem open26 {H : Type} {enc : TypeId × Value → H} {W : World} {base : Nat} {v : Value} {d : DataW H} {p : List MemPlace} (hval : Value.okWide Try.prog W .any base 26 v) (h : DataW.Trod enc Try.prog W 0 (fun _ => true) true 26 v d p) :
    ∃ (x_W : Int) (x_H : Int) (x_T : ByteArray), v = .agg #[.int .i64 x_W, .int .i64 x_H, .string x_T] ∧ (Lit.int .i64 x_W).wf = true ∧ (Lit.int .i64 x_H).wf = true ∧ x_T.size ≤ maxLen := by
  have hc3 : Try.prog.cellsOf 3 = 1 := by kernel_rfl
  have hc9 : Try.prog.cellsOf 9 = 1 := by kernel_rfl
  have hc26 : Try.prog.cellsOf 26 = 3 := by kernel_rfl
  obtain ⟨cs, rfl, hcs⟩ := okAgg_struct Try.underlying26 hval
  rw [hc26] at hcs
  obtain ⟨fuel, hy⟩ := h
  obtain ⟨l⟩ := cs
  simp only [Value.cells] at hy
  match l, hcs with
  | [c0, c1, c2], _ =>
    obtain ⟨ys, m, _, hx, _, hl, hf⟩ := Go.DataW.trod_struct Try.underlying26 hy
    match ys, hl with
    | [y_0, y_1, y_2], _ =>
    have hy_0 := hf 0 _ rfl
    have hy_1 := hf 1 _ rfl
    have hy_2 := hf 2 _ rfl
    simp [hc3, hc9, hc26] at hy_0 hy_1 hy_2
    obtain ⟨x_W, e_x_W, x_x_W, s_x_W⟩ := Go.DataW.trod_int Try.underlying3 hy_0
    obtain ⟨x_H, e_x_H, x_x_H, s_x_H⟩ := Go.DataW.trod_int Try.underlying3 hy_1
    obtain ⟨x_T, e_x_T, x_x_T, s_x_T⟩ := Go.DataW.trod_string Try.underlying9 hy_2
    simp at e_x_W e_x_H e_x_T
    subst e_x_W e_x_H e_x_T
    exact ⟨x_W, x_H, x_T, rfl, s_x_W, s_x_H, s_x_T⟩
set_option maxRecDepth 100000 in
theorem open39 {H : Type} {enc : TypeId × Value → H} {W : World} {base : Nat} {v : Value} {d : DataW H} {p : List MemPlace} (hval : Value.okWide Try.prog W .any base 39 v) (h : DataW.Trod enc Try.prog W 0 (fun _ => true) true 39 v d p) :
    ∃ (x_0 : Int) (x_1 : Int) (x_2 : Int) (x_3 : Int), v = .agg #[.int .i64 x_0, .int .i64 x_1, .int .i64 x_2, .int .i64 x_3] ∧ (Lit.int .i64 x_0).wf = true ∧ (Lit.int .i64 x_1).wf = true ∧ (Lit.int .i64 x_2).wf = true ∧ (Lit.int .i64 x_3).wf = true := by
  have hc3 : Try.prog.cellsOf 3 = 1 := by kernel_rfl
  have hc39 : Try.prog.cellsOf 39 = 4 := by kernel_rfl
  obtain ⟨cs, rfl, hcs⟩ := okAgg_array Try.underlying39 hval
  rw [hc39] at hcs
  obtain ⟨fuel, hy⟩ := h
  obtain ⟨l⟩ := cs
  simp only [Value.cells] at hy
  match l, hcs with
  | [c0, c1, c2, c3], _ =>
    obtain ⟨ys, m, _, hx, _, hl, hf⟩ := Go.DataW.trod_array Try.underlying39 hy
    match ys, hl with
    | [y_0, y_1, y_2, y_3], _ =>
    have hy_0 := hf 0 (by omega)
    have hy_1 := hf 1 (by omega)
    have hy_2 := hf 2 (by omega)
    have hy_3 := hf 3 (by omega)
    simp [hc3, hc39] at hy_0 hy_1 hy_2 hy_3
    obtain ⟨x_0, e_x_0, x_x_0, s_x_0⟩ := Go.DataW.trod_int Try.underlying3 hy_0
    obtain ⟨x_1, e_x_1, x_x_1, s_x_1⟩ := Go.DataW.trod_int Try.underlying3 hy_1
    obtain ⟨x_2, e_x_2, x_x_2, s_x_2⟩ := Go.DataW.trod_int Try.underlying3 hy_2
    obtain ⟨x_3, e_x_3, x_x_3, s_x_3⟩ := Go.DataW.trod_int Try.underlying3 hy_3
    simp at e_x_0 e_x_1 e_x_2 e_x_3
    subst e_x_0 e_x_1 e_x_2 e_x_3
    exact ⟨x_0, x_1, x_2, x_3, rfl, s_x_0, s_x_1, s_x_2, s_x_3⟩
set_option maxRecDepth 100000 in
theorem open40 {H : Type} {enc : TypeId × Value → H} {W : World} {base : Nat} {v : Value} {d : DataW H} {p : List MemPlace} (hval : Value.okWide Try.prog W .any base 40 v) (h : DataW.Trod enc Try.prog W 0 (fun _ => true) true 40 v d p) :
    ∃ (x_0 : Int) (x_1 : Int) (x_2 : Int) (x_3 : Int), v = .agg #[.int .u8 x_0, .int .u8 x_1, .int .u8 x_2, .int .u8 x_3] ∧ (Lit.int .u8 x_0).wf = true ∧ (Lit.int .u8 x_1).wf = true ∧ (Lit.int .u8 x_2).wf = true ∧ (Lit.int .u8 x_3).wf = true := by
  have hc5 : Try.prog.cellsOf 5 = 1 := by kernel_rfl
  have hc40 : Try.prog.cellsOf 40 = 4 := by kernel_rfl
  obtain ⟨cs, rfl, hcs⟩ := okAgg_array Try.underlying40 hval
  rw [hc40] at hcs
  obtain ⟨fuel, hy⟩ := h
  obtain ⟨l⟩ := cs
  simp only [Value.cells] at hy
  match l, hcs with
  | [c0, c1, c2, c3], _ =>
    obtain ⟨ys, m, _, hx, _, hl, hf⟩ := Go.DataW.trod_array Try.underlying40 hy
    match ys, hl with
    | [y_0, y_1, y_2, y_3], _ =>
    have hy_0 := hf 0 (by omega)
    have hy_1 := hf 1 (by omega)
    have hy_2 := hf 2 (by omega)
    have hy_3 := hf 3 (by omega)
    simp [hc5, hc40] at hy_0 hy_1 hy_2 hy_3
    obtain ⟨x_0, e_x_0, x_x_0, s_x_0⟩ := Go.DataW.trod_int Try.underlying5 hy_0
    obtain ⟨x_1, e_x_1, x_x_1, s_x_1⟩ := Go.DataW.trod_int Try.underlying5 hy_1
    obtain ⟨x_2, e_x_2, x_x_2, s_x_2⟩ := Go.DataW.trod_int Try.underlying5 hy_2
    obtain ⟨x_3, e_x_3, x_x_3, s_x_3⟩ := Go.DataW.trod_int Try.underlying5 hy_3
    simp at e_x_0 e_x_1 e_x_2 e_x_3
    subst e_x_0 e_x_1 e_x_2 e_x_3
    exact ⟨x_0, x_1, x_2, x_3, rfl, s_x_0, s_x_1, s_x_2, s_x_3⟩
set_option maxRecDepth 100000 in
theorem lifted (os : Os) (started : os.Started) (H : Type) (enc : TypeId × Value → H) :
    ReturnsInHanded {} Try.checked os 4 .any (Rows.toneBitsSpec.pre6 enc Try.prog Try.f4 Rows.toneBitsRow.domain false) (Rows.toneBitsSpec.post enc Try.prog Try.f4 false true false false) := by
  refine returnsInHanded_of_change_sized (C := Try.checked) own started (by kernel_rfl) Try.func4
    (ChangeSpec.witness6 (enc := enc) (C := Try.checked) false ⟨#[], #[.agg #[.int .u8 0, .int .u8 0, .int .u8 0, .slice none 0 0], .agg #[.int .i64 0, .int .i64 0, .string ByteArray.empty], .int .i64 0, .int .i64 0, .int .i64 0, .agg #[.int .i64 0, .int .i64 0, .int .i64 0, .int .i64 0], .agg #[.int .u8 0, .int .u8 0, .int .u8 0, .int .u8 0]], []⟩ 8 (by kernel_rfl) (by kernel_rfl) (by kernel_rfl) (by kernel_rfl)) ?_
  intro W base args ds gs before hval0 hW hcnd hsz0 _
  have hval : ∀ (j : Nat) t v, Try.f4.params[j]? = some t → args[j]? = some v → Value.okWide Try.prog W .any base t v := hval0
  have hW' := hW
  obtain ⟨p, q, hA0, hV, rfl, hfz, hnd⟩ := hW
  have hA : DataW.TrodAll enc Try.prog W 0 (fun _ => true) true Try.f4.params.toList args.toList ds p := hA0
  rw [Try.params4] at hA hval
  obtain ⟨v0, vs0, d0, ds0, p0, q0, hargs, rfl, rfl, h0, r0⟩ := trodAll_cons hA
  obtain ⟨v1, vs1, d1, ds1, p1, q1, rfl, rfl, rfl, h1, r1⟩ := trodAll_cons r0
  obtain ⟨v2, vs2, d2, ds2, p2, q2, rfl, rfl, rfl, h2, r2⟩ := trodAll_cons r1
  obtain ⟨v3, vs3, d3, ds3, p3, q3, rfl, rfl, rfl, h3, r3⟩ := trodAll_cons r2
  obtain ⟨v4, vs4, d4, ds4, p4, q4, rfl, rfl, rfl, h4, r4⟩ := trodAll_cons r3
  obtain ⟨v5, vs5, d5, ds5, p5, q5, rfl, rfl, rfl, h5, r5⟩ := trodAll_cons r4
  obtain ⟨v6, vs6, d6, ds6, p6, q6, rfl, rfl, rfl, h6, r6⟩ := trodAll_cons r5
  obtain ⟨rfl, rfl, rfl⟩ := trodAll_nil r6
  obtain rfl : args = #[v0, v1, v2, v3, v4, v5, v6] := by cases args; simp_all
  obtain ⟨rfl, rfl⟩ := trodVars_none hV
  have k0 := h0
  have lt0 : ∀ x ∈ p0, x.block < W.heap.size := by obtain ⟨m, hm⟩ := k0; exact DataW.trod_lt m _ _ _ hm
  obtain ⟨a0_Kind, a0_W, a0_H, a0_T, a0_T_l, a0_T_c, rfl, s_a0_Kind, s_a0_W, s_a0_H, s_a0_T⟩ := open24 (hval 0 24 v0 rfl rfl) h0
  have k1 := h1
  have lt1 : ∀ x ∈ p1, x.block < W.heap.size := by obtain ⟨m, hm⟩ := k1; exact DataW.trod_lt m _ _ _ hm
  obtain ⟨a1_W, a1_H, a1_T, rfl, s_a1_W, s_a1_H, s_a1_T⟩ := open26 (hval 1 26 v1 rfl rfl) h1
  obtain ⟨a2, rfl, rfl, rfl, s_a2⟩ := open_int Try.underlying3 (hval 2 3 v2 rfl rfl) h2
  obtain ⟨a3, rfl, rfl, rfl, s_a3⟩ := open_int Try.underlying3 (hval 3 3 v3 rfl rfl) h3
  obtain ⟨a4, rfl, rfl, rfl, s_a4⟩ := open_int Try.underlying3 (hval 4 3 v4 rfl rfl) h4
  have k5 := h5
  have lt5 : ∀ x ∈ p5, x.block < W.heap.size := by obtain ⟨m, hm⟩ := k5; exact DataW.trod_lt m _ _ _ hm
  obtain ⟨a5_0, a5_1, a5_2, a5_3, rfl, s_a5_0, s_a5_1, s_a5_2, s_a5_3⟩ := open39 (hval 5 39 v5 rfl rfl) h5
  have k6 := h6
  have lt6 : ∀ x ∈ p6, x.block < W.heap.size := by obtain ⟨m, hm⟩ := k6; exact DataW.trod_lt m _ _ _ hm
  obtain ⟨a6_0, a6_1, a6_2, a6_3, rfl, s_a6_0, s_a6_1, s_a6_2, s_a6_3⟩ := open40 (hval 6 40 v6 rfl rfl) h6
  clear hA0 hval0 hsz0
  refine (T3.bits_walk a0_Kind a0_W a0_H a0_T a0_T_l a0_T_c a1_W a1_H a1_T a2 a3 a4 a5_0 a5_1 a5_2 a5_3 a6_0 a6_1 a6_2 a6_3 W s_a0_Kind s_a0_W s_a0_H s_a0_T s_a1_W s_a1_H s_a1_T s_a2 s_a3 s_a4 s_a5_0 s_a5_1 s_a5_2 s_a5_3 s_a6_0 s_a6_1 s_a6_2 s_a6_3).mono fun e W' ⟨he, bel⟩ => ?_
  subst he
  exact ⟨_, rfl, _, _, _, [], _, [], hW', trodAll_mk1 (shut_bool Try.underlying4 _), (trodAll_cons_mk (Below.trod laidOut (by kernel_rfl) (of_decide_eq_true (by kernel_rfl)) k0 bel lt0) (trodAll_cons_mk (Below.trod laidOut (by kernel_rfl) (of_decide_eq_true (by kernel_rfl)) k1 bel lt1) (trodAll_cons_mk (shut_int Try.underlying3 s_a2) (trodAll_cons_mk (shut_int Try.underlying3 s_a3) (trodAll_cons_mk (shut_int Try.underlying3 s_a4) (trodAll_cons_mk (Below.trod laidOut (by kernel_rfl) (of_decide_eq_true (by kernel_rfl)) k5 bel lt5) (trodAll_cons_mk (Below.trod laidOut (by kernel_rfl) (of_decide_eq_true (by kernel_rfl)) k6 bel lt6) trodAll_mk0))))))), rfl, bel.frame _, fun h => by cases h⟩
theorem over : Rows.toneBitsRow.holds Try.pinned (OpenSpec.ofChange Rows.toneBitsSpec) :=
  OpenClaim.holds_of_wide 4 Try.f4 rfl rfl rfl rfl rfl rfl rfl ⟨rfl, rfl, rfl, rfl, rfl⟩ rfl rfl rfl rfl rfl (by kernel_rfl) Try.func4 (by kernel_rfl)
    (of_decide_eq_true (by kernel_rfl)) (by unfold Func.isWrapper; first | (rw [if_pos (by decide +kernel)]; kernel_rfl) | (rw [if_neg (by decide +kernel)]; exact ⟨rfl, rfl⟩))
    (fun os started H enc _ => lifted os started H enc)
end Go.Proofs.Ytdkkjlapmaageaa.LiftToneBits
namespace Go.Proofs.Ytdkkjlapmaageaa
theorem toneBits_holds : Rows.ToneBitsSaid := LiftToneBits.over
#print axioms toneBits_holds
end Go.Proofs.Ytdkkjlapmaageaa
