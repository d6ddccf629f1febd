/- chapter 12: a state that came in. -/
import Derived.Test.YtiadenokcpnliaaStP
import Derived.WalkKit
import Derived.Lib.Hide
import Derived.Deep.QuietTactic
import Derived.BigQuiet
import Derived.Lib.QuietBelow
import Derived.Deep.RegionHeld3
import Derived.WalkLawsBesides
import Derived.WalkSpells
import Derived.Outline
import Derived.Deep.DeepFit
import Derived.Maps.AppendAt
import Derived.Deep.AppendLies
import Derived.Deep.CutRange
import Derived.OpenShut
import Derived.Test.YtiadenokcpnliaaRe
namespace Go.Proofs.Ytiadenokcpnliaa.T3
set_option linter.unusedSimpArgs false
set_option linter.unusedVariables false
open Go.RowKit
attribute [local go_sem] Oper.semAt_some
set_option maxHeartbeats 4000000
set_option maxRecDepth 100000

theorem ob_of {W : World} {es : List Value} (h : Rd Try.prog W 43 es) (hl : es.length = 7) : ∃ q : Ob, es = q.cs := by
  obtain ⟨k, c0, _⟩ := Rd.int_at (κ := .i64) 0 (by kernel_rfl) h
  obtain ⟨e, c1⟩ := Rd.bool_at 1 (by kernel_rfl) h
  obtain ⟨n, c2, _⟩ := Rd.int_at (κ := .i64) 2 (by kernel_rfl) h
  obtain ⟨s, c3, _⟩ := Rd.string_at 3 (by kernel_rfl) h
  obtain ⟨r, c4, _⟩ := Rd.int_at (κ := .i64) 4 (by kernel_rfl) h
  obtain ⟨f, c5, _⟩ := Rd.int_at (κ := .i64) 5 (by kernel_rfl) h
  obtain ⟨l, c6, _⟩ := Rd.int_at (κ := .i64) 6 (by kernel_rfl) h
  clear h
  match es, hl with
  | [v0, v1, v2, v3, v4, v5, v6], _ =>
    simp at c0 c1 c2 c3 c4 c5 c6
    subst c0 c1 c2 c3 c4 c5 c6
    exact ⟨⟨k, e, n, s, r, f, l⟩, rfl⟩
theorem obs_of {W : World} {x : Option Addr} {L : List (List Value)} (h : Els W x 7 L) (hL : ∀ es ∈ L, es.length = 7 ∧ Rd Try.prog W 43 es) : ∃ M : List Ob, M.length = L.length ∧ Obs (fun _ => True) W x M := by
  have hm : ∀ L : List (List Value), (∀ es ∈ L, es.length = 7 ∧ Rd Try.prog W 43 es) → ∃ M : List Ob, M.map Ob.cs = L := by
    intro L
    induction L with
    | nil => exact fun _ => ⟨[], rfl⟩
    | cons a L ih =>
      intro hL
      obtain ⟨q, hq⟩ := ob_of (hL a (by simp)).2 (hL a (by simp)).1
      obtain ⟨M, hM⟩ := ih (fun es hes => hL es (by simp [hes]))
      exact ⟨q :: M, by simp [hM, hq]⟩
  obtain ⟨M, hM⟩ := hm L hL
  refine ⟨M, by rw [← hM]; simp, ?_⟩
  rcases h with h | ⟨b, off, h1, h2, h3⟩
  · left
    rw [h] at hM
    simpa using hM
  · exact .inr ⟨b, off, h1, trivial, h2, fun i es hi j u hj => by rw [hM] at hi; exact h3 i es hi j u hj⟩
theorem obl_at {W : World} {t : TypeId} {cs : List Value} (k : Nat) (h : descAt Try.prog 8 t k = some (.slice 43)) (hr : Rd Try.prog W t cs) :
    ∃ (x : Option Addr) (len cap : Nat) (L : List Ob), cs[k]? = some (.slice x len cap) ∧ L.length = len ∧ Obs (fun _ => True) W x L ∧ len ≤ cap ∧ cap ≤ maxLen ∧ (x = none → len = 0) := by
  obtain ⟨x, len, cap, L, h1, h2, h3, h4, h5, h6, h7⟩ := Rd.slice_at (c := 7) k h (by kernel_rfl) (by decide) hr
  obtain ⟨M, hM, hO⟩ := obs_of h6 h7
  exact ⟨x, len, cap, M, h1, by omega, hO, h3, h4, fun h => (h5 h).1⟩
theorem ObL.at {W : World} {t : TypeId} {cs : List Value} (k : Nat) (h : descAt Try.prog 8 t k = some (.slice 43)) (hr : Rd Try.prog W t cs) : ∃ x len cap, cs[k]? = some (.slice x len cap) ∧ ObL W x len := by
  obtain ⟨x, len, cap, L, h1, h2, h3, h4, h5, _⟩ := obl_at k h hr
  exact ⟨x, len, cap, h1, L, h3, h2, by unfold maxLen at h5; omega⟩
theorem cell_of {W : World} {es : List Value} (h : Rd Try.prog W 101 es) (hl : es.length = 7) : CellOk W es := by
  obtain ⟨k, c0, _⟩ := Rd.int_at (κ := .i64) 0 (by kernel_rfl) h
  obtain ⟨s, c1, _⟩ := Rd.string_at 1 (by kernel_rfl) h
  obtain ⟨x1, l1, p1, c2, o1⟩ := ObL.at 2 (by kernel_rfl) h
  obtain ⟨x2, l2, p2, c3, o2⟩ := ObL.at 3 (by kernel_rfl) h
  obtain ⟨x3, l3, p3, c4, o3⟩ := ObL.at 4 (by kernel_rfl) h
  obtain ⟨m, c5, _⟩ := Rd.int_at (κ := .i64) 5 (by kernel_rfl) h
  obtain ⟨a, c6, _⟩ := Rd.int_at (κ := .i64) 6 (by kernel_rfl) h
  clear h
  match es, hl with
  | [v0, v1, v2, v3, v4, v5, v6], _ =>
    simp at c0 c1 c2 c3 c4 c5 c6
    subst c0 c1 c2 c3 c4 c5 c6
    exact ⟨k, s, x1, l1, p1, x2, l2, p2, x3, l3, p3, m, a, rfl, o1, o2, o3⟩
theorem HeapL.at {W : World} {t : TypeId} {cs : List Value} (k : Nat) (h : descAt Try.prog 8 t k = some (.slice 101)) (hr : Rd Try.prog W t cs) : ∃ x len cap, cs[k]? = some (.slice x len cap) ∧ HeapL W x len := by
  obtain ⟨x, len, cap, L, h1, h2, h3, h4, h5, h6, h7⟩ := Rd.slice_at (c := 7) k h (by kernel_rfl) (by decide) hr
  exact ⟨x, len, cap, h1, L, h6, h2, by unfold maxLen at h4; omega, fun es hes => cell_of (h7 es hes).2 (h7 es hes).1⟩
theorem snap_of {W : World} {es : List Value} (h : Rd Try.prog W 92 es) (hl : es.length = 3) : SnapOk W es := by
  obtain ⟨k, c0, _⟩ := Rd.int_at (κ := .i64) 0 (by kernel_rfl) h
  obtain ⟨x1, l1, p1, c1, o1⟩ := HeapL.at 1 (by kernel_rfl) h
  obtain ⟨a, c2, _⟩ := Rd.int_at (κ := .i64) 2 (by kernel_rfl) h
  clear h
  match es, hl with
  | [v0, v1, v2], _ =>
    simp at c0 c1 c2
    subst c0 c1 c2
    exact ⟨k, x1, l1, p1, a, rfl, o1⟩
theorem SnapL.at {W : World} {t : TypeId} {cs : List Value} (k : Nat) (h : descAt Try.prog 8 t k = some (.slice 92)) (hr : Rd Try.prog W t cs) : ∃ x len cap, cs[k]? = some (.slice x len cap) ∧ SnapL W x len := by
  obtain ⟨x, len, cap, L, h1, h2, h3, h4, h5, h6, h7⟩ := Rd.slice_at (c := 3) k h (by kernel_rfl) (by decide) hr
  exact ⟨x, len, cap, h1, L, h6, h2, by unfold maxLen at h4; omega, fun es hes => snap_of (h7 es hes).2 (h7 es hes).1⟩
theorem g_of {W : World} {es : List Value} (h : Rd Try.prog W 45 es) (hl : es.length = 57) : GOk es := by
  obtain ⟨m0, c0, _⟩ := Rd.int_at (κ := .i64) 0 (by kernel_rfl) h
  obtain ⟨m1, c1, _⟩ := Rd.int_at (κ := .i64) 1 (by kernel_rfl) h
  obtain ⟨m2, c2, _⟩ := Rd.int_at (κ := .i64) 2 (by kernel_rfl) h
  obtain ⟨m3, c3, _⟩ := Rd.int_at (κ := .i64) 3 (by kernel_rfl) h
  obtain ⟨m4, c4, _⟩ := Rd.int_at (κ := .i64) 4 (by kernel_rfl) h
  obtain ⟨m5, c5, _⟩ := Rd.int_at (κ := .i64) 5 (by kernel_rfl) h
  obtain ⟨m7, c7, _⟩ := Rd.int_at (κ := .i64) 7 (by kernel_rfl) h
  obtain ⟨m8, c8, _⟩ := Rd.int_at (κ := .i64) 8 (by kernel_rfl) h
  obtain ⟨m9, c9, _⟩ := Rd.int_at (κ := .i64) 9 (by kernel_rfl) h
  obtain ⟨m10, c10, _⟩ := Rd.int_at (κ := .i64) 10 (by kernel_rfl) h
  obtain ⟨m11, c11, _⟩ := Rd.int_at (κ := .i64) 11 (by kernel_rfl) h
  obtain ⟨m34, c34, _⟩ := Rd.int_at (κ := .i64) 34 (by kernel_rfl) h
  obtain ⟨m40, c40, _⟩ := Rd.int_at (κ := .i64) 40 (by kernel_rfl) h
  obtain ⟨m42, c42, _⟩ := Rd.int_at (κ := .i64) 42 (by kernel_rfl) h
  obtain ⟨m44, c44, _⟩ := Rd.int_at (κ := .i64) 44 (by kernel_rfl) h
  obtain ⟨m46, c46, _⟩ := Rd.int_at (κ := .i64) 46 (by kernel_rfl) h
  obtain ⟨m47, c47, _⟩ := Rd.int_at (κ := .i64) 47 (by kernel_rfl) h
  obtain ⟨m48, c48, _⟩ := Rd.int_at (κ := .i64) 48 (by kernel_rfl) h
  obtain ⟨m49, c49, _⟩ := Rd.int_at (κ := .i64) 49 (by kernel_rfl) h
  obtain ⟨m50, c50, _⟩ := Rd.int_at (κ := .i64) 50 (by kernel_rfl) h
  obtain ⟨m51, c51, _⟩ := Rd.int_at (κ := .i64) 51 (by kernel_rfl) h
  obtain ⟨m52, c52, _⟩ := Rd.int_at (κ := .i64) 52 (by kernel_rfl) h
  obtain ⟨m53, c53, _⟩ := Rd.int_at (κ := .i64) 53 (by kernel_rfl) h
  obtain ⟨m54, c54, _⟩ := Rd.int_at (κ := .i64) 54 (by kernel_rfl) h
  obtain ⟨m55, c55, _⟩ := Rd.int_at (κ := .i64) 55 (by kernel_rfl) h
  obtain ⟨m56, c56, _⟩ := Rd.int_at (κ := .i64) 56 (by kernel_rfl) h
  obtain ⟨x6, l6, p6, c6⟩ := Rd.slice_any 6 (by kernel_rfl) h
  obtain ⟨x41, l41, p41, c41⟩ := Rd.slice_any 41 (by kernel_rfl) h
  obtain ⟨e43, c43⟩ := Rd.bool_at 43 (by kernel_rfl) h
  obtain ⟨s45, c45, _⟩ := Rd.string_at 45 (by kernel_rfl) h
  clear h
  match es, hl with
  | v0 :: v1 :: v2 :: v3 :: v4 :: v5 :: v6 :: v7 :: v8 :: v9 :: v10 :: v11 :: v12 :: v13 :: v14 :: v15 :: v16 :: v17 :: v18 :: v19 :: v20 :: v21 :: v22 :: v23 :: v24 :: v25 :: v26 :: v27 :: v28 :: v29 :: v30 :: v31 :: v32 :: v33 :: v34 :: v35 :: v36 :: v37 :: v38 :: v39 :: v40 :: v41 :: v42 :: v43 :: v44 :: v45 :: v46 :: v47 :: v48 :: v49 :: v50 :: v51 :: v52 :: v53 :: v54 :: v55 :: v56 :: [], _ =>
    simp at c0 c1 c2 c3 c4 c5 c6 c7 c8 c9 c10 c11 c34 c40 c41 c42 c43 c44 c45 c46 c47 c48 c49 c50 c51 c52 c53 c54 c55 c56
    subst c0 c1 c2 c3 c4 c5 c6 c7 c8 c9 c10 c11 c34 c40 c41 c42 c43 c44 c45 c46 c47 c48 c49 c50 c51 c52 c53 c54 c55 c56
    exact ⟨fun k => [m0, m1, m2, m3, m4, m5, 0, m7, m8, m9, m10, m11, 0, 0, 0, 0, 0, 0, 0, 0, 0, 0, 0, 0, 0, 0, 0, 0, 0, 0, 0, 0, 0, 0, m34, 0, 0, 0, 0, 0, m40, 0, m42, 0, m44, 0, m46, m47, m48, m49, m50, m51, m52, m53, m54, m55, m56].getD k 0, x6, l6, p6, x41, l41, p41, e43, s45, fun k => [undef, undef, undef, undef, undef, undef, undef, undef, undef, undef, undef, undef, v12, v13, v14, v15, v16, v17, v18, v19, v20, v21, v22, v23, v24, v25, v26, v27, v28, v29, v30, v31, v32, v33, undef, v35, v36, v37, v38, v39, undef, undef, undef, undef, undef, undef, undef, undef, undef, undef, undef, undef, undef, undef, undef, undef, undef].getD k undef, rfl⟩
theorem GL.at {W : World} {t : TypeId} {cs : List Value} (k : Nat) (h : descAt Try.prog 8 t k = some (.slice 45)) (hr : Rd Try.prog W t cs) : ∃ x len cap, cs[k]? = some (.slice x len cap) ∧ GL W x len := by
  obtain ⟨x, len, cap, L, h1, h2, h3, h4, h5, h6, h7⟩ := Rd.slice_at (c := 57) k h (by kernel_rfl) (by decide) hr
  exact ⟨x, len, cap, h1, L, h6, h2, by unfold maxLen at h4; omega, fun es hes => g_of (h7 es hes).2 (h7 es hes).1⟩
theorem state_of {W : World} {cs : List Value} (h : Rd Try.prog W 49 cs) (hl : cs.length = 67) (h1 : ∀ u ∈ cs, u.oneCell' = true) :
    ∃ (x : Option Addr) (len cap : Nat) (R : List Value) (L : List Ob), cs = .slice x len cap :: R ∧ L.length = len ∧ Obs (fun _ => True) W x L ∧ len ≤ cap ∧ cap ≤ 9223372036854775807 ∧ (x = none → len = 0) ∧ RdR W R := by
  obtain ⟨x, len, cap, L, c0, hL1, hL2, hL3, hL4, hL5⟩ := obl_at 0 (by kernel_rfl) h
  obtain ⟨d, ld, cd, r0, o1⟩ := ObL.at 1 (by kernel_rfl) h
  obtain ⟨hp, lh, ch, r1, o2⟩ := HeapL.at 2 (by kernel_rfl) h
  obtain ⟨s, ls, cs', r2, o3⟩ := SnapL.at 3 (by kernel_rfl) h
  obtain ⟨made, r3, _⟩ := Rd.int_at (κ := .i64) 4 (by kernel_rfl) h
  obtain ⟨st, lst, cst, r61, o4⟩ := GL.at 62 (by kernel_rfl) h
  obtain ⟨mk_, lm, cm, r62⟩ := Rd.slice_any 63 (by kernel_rfl) h
  obtain ⟨pg, lp, cp, r63⟩ := Rd.slice_any 64 (by kernel_rfl) h
  obtain ⟨out, r64, _⟩ := Rd.string_at 65 (by kernel_rfl) h
  obtain ⟨seed, r65, _⟩ := Rd.int_at (κ := .i64) 66 (by kernel_rfl) h
  obtain ⟨_, hf⟩ := Rd.field Try.underlying49 h
  have e57 : Try.prog.cellsOf 45 = 57 := by kernel_rfl
  have hg : Rd Try.prog W 45 ((cs.drop 5).take (Try.prog.cellsOf 45)) := hf 5 _ rfl
  rw [e57] at hg
  obtain ⟨m, px, pl, pc, cx, cl, cc, fe, fs, u, hgo⟩ := g_of hg (by simp; omega)
  have rG : ∀ j v, (gC m px pl pc cx cl cc fe fs u)[j]? = some v → cs[5 + j]? = some v := fun j v hj => by
    rw [← hgo] at hj
    exact take_get hj
  clear hg hf hgo h
  cases cs with
  | nil => cases hl
  | cons a R =>
    simp at c0
    subst c0
    refine ⟨x, len, cap, R, L, rfl, hL1, hL2, hL3, by unfold maxLen at hL4; omega, hL5, ⟨by simpa using hl, fun u hu => h1 u (by simp [hu])⟩, d, ld, cd, hp, lh, ch, s, ls, cs', made, m, px, pl, pc, cx, cl, cc, fe, fs, u, st, lst, cst, mk_, lm, cm, pg, lp, cp, out, seed, r0, r1, r2, r3, fun j v hj => ?_, r61, r62, r63, r64, r65, o1, o2, o3, o4⟩
    have := rG j v hj
    rwa [show 5 + j = (4 + j) + 1 by omega, List.getElem?_cons_succ] at this

theorem okRow_struct {P : Program} {w : World} {r : Reach} {base : Nat} {t : TypeId} {v : Value} {fs : Array Field} (ht : P.underlying t = some (.struct fs)) (h : Value.okWide P w r base t v) : ∃ cs, v = .agg cs ∧ cs.size = P.cellsOf t ∧ Row.okWide P w r base t cs := by
  simp only [Value.okWide, ht] at h
  exact h
theorem open_state {H : Type} {enc : TypeId × Value → H} {W : World} {base : Nat} {v : Value} {d : DataW H} {p : List MemPlace} (hval : Value.okWide Try.prog W .any base 49 v) (h : DataW.Trod enc Try.prog W 0 (fun _ => true) true 49 v d p) :
    ∃ (x : Option Addr) (len cap : Nat) (R : List Value) (L : List Ob), v = .agg (stA (.slice x len cap) R) ∧ L.length = len ∧ Obs (fun _ => True) W x L ∧ len ≤ cap ∧ cap ≤ 9223372036854775807 ∧ (x = none → len = 0) ∧ RdR W R := by
  obtain ⟨cs, rfl, hcs, hrow⟩ := okRow_struct Try.underlying49 hval
  obtain ⟨x, len, cap, R, L, h0, h1⟩ := state_of (cs := cs.toList) (Rd.of h) (by rw [Array.length_toList, hcs]; kernel_rfl) (row_one hrow)
  exact ⟨x, len, cap, R, L, by rw [stA, ← h0], h1⟩
theorem open_objs {H : Type} {enc : TypeId × Value → H} {W : World} {a : Option Addr} {l c : Nat} {d : DataW H} {p : List MemPlace} (h : DataW.Trod enc Try.prog W 0 (fun _ => true) true 22 (.slice a l c) d p) :
    ∃ (L : List Ob), L.length = l ∧ Obs (fun _ => True) W a L ∧ l ≤ c ∧ c ≤ 9223372036854775807 ∧ (a = none → l = 0) := by
  obtain ⟨x, len, cap, L, h0, h1, h2, h3, h4, h5⟩ := obl_at 0 (by kernel_rfl) (Rd.of h)
  simp [Value.cells] at h0
  obtain ⟨rfl, rfl, rfl⟩ := h0
  exact ⟨L, h1, h2, h3, by unfold maxLen at h4; omega, h5⟩
end Go.Proofs.Ytiadenokcpnliaa.T3
