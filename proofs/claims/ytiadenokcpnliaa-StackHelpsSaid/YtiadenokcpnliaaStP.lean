/- chapter 12: states are alike. -/
import Derived.Test.YtiadenokcpnliaaStO
import Derived.WalkKit
import Derived.Lib.Hide
import Derived.Deep.QuietTactic
import Derived.BigQuiet
import Derived.Lib.QuietBelow
import Derived.Deep.RegionHeld3
import Derived.WalkLawsBesides
import Derived.WalkSpells
import Derived.Outline
import Derived.Deep.DeepFit
import Derived.Maps.AppendAt
import Derived.Deep.AppendLies
import Derived.Deep.CutRange
import Derived.OpenShut
namespace Go.Proofs.Ytiadenokcpnliaa.T3
set_option linter.unusedSimpArgs false
set_option linter.unusedVariables false
open Go.RowKit
attribute [local go_sem] Oper.semAt_some
set_option maxHeartbeats 4000000
set_option maxRecDepth 100000

theorem Held.setRow2 {w0 w : World} {X : List Nat} {g : Nat} {cs : Array Value} (h : Held w0 X w) (hg : w0.heap.size ≤ g) : Held w0 X (w.setRow g cs) := fun i hi hx => by
  rw [setRow_other w g i cs (by omega)]
  exact h i hi hx
theorem stA_at (v : Value) (R : List Value) (i : Nat) : (stA v R)[i + 1]? = R[i]? := by simp [stA]
theorem cel3 {w : World} {b t : Nat} {v0 v1 v2 : Value} (h : w.heap[b]? = some (.cells #[v0, v1, v2] t (0, 0))) : w.cell? ⟨b, 0, none⟩ = some v0 ∧ w.cell? ⟨b, 1, none⟩ = some v1 ∧ w.cell? ⟨b, 2, none⟩ = some v2 := by
  refine ⟨?_, ?_, ?_⟩ <;> simp [World.cell?, h]
theorem ag92 (w : World) : (isAgg 92).run Try.prog w = .ok true w := by kernel_rfl
theorem sz92 (w : World) : (sizeOf 92).run Try.prog w = .ok 3 w := by kernel_rfl
theorem ag45 (w : World) : (isAgg 45).run Try.prog w = .ok true w := by kernel_rfl
theorem sz45 (w : World) : (sizeOf 45).run Try.prog w = .ok 57 w := by kernel_rfl
theorem info3 : (Try.prog.info? 92).map (·.size) = some 3 := by kernel_rfl
def SnapOk (w : World) (es : List Value) : Prop := ∃ (n : Int) (x : Option Addr) (l c : Nat) (t : Int), es = [.int .i64 n, .slice x l c, .int .i64 t] ∧ HeapL w x l
theorem SnapOk.below {w w' : World} {B : Nat} {es : List Value} (h : SnapOk w es) (hb : Below B w w') (hB : w.heap.size ≤ B) : SnapOk w' es := by
  obtain ⟨n, x, l, c, t, rfl, h1⟩ := h
  exact ⟨n, x, l, c, t, rfl, h1.below hb hB⟩
def SnapL (w : World) (x : Option Addr) (l : Nat) : Prop := ∃ L, Els w x 3 L ∧ L.length = l ∧ l ≤ 9223372036854775807 ∧ ∀ es ∈ L, SnapOk w es
theorem SnapL.below {w w' : World} {B : Nat} {x : Option Addr} {l : Nat} (h : SnapL w x l) (hb : Below B w w') (hB : w.heap.size ≤ B) : SnapL w' x l := by
  obtain ⟨L, h1, h2, h3, h4⟩ := h
  exact ⟨L, h1.below hb hB, h2, h3, fun es hes => (h4 es hes).below hb hB⟩
def GOk (es : List Value) : Prop := ∃ (m : Nat → Int) (px : Option Addr) (pl pc : Nat) (cx : Option Addr) (cl cc : Nat) (fe : Bool) (fs : ByteArray) (u : Nat → Value), es = gC m px pl pc cx cl cc fe fs u
def GL (w : World) (x : Option Addr) (l : Nat) : Prop := ∃ L, Els w x 57 L ∧ L.length = l ∧ l ≤ 9223372036854775807 ∧ ∀ es ∈ L, GOk es
theorem GL.below {w w' : World} {B : Nat} {x : Option Addr} {l : Nat} (h : GL w x l) (hb : Below B w w') (hB : w.heap.size ≤ B) : GL w' x l := by
  obtain ⟨L, h1, h2, h3, h4⟩ := h
  exact ⟨L, h1.below hb hB, h2, h3, h4⟩
/-- the rest of a state, readable in a world -/
def RdR (w : World) (R : List Value) : Prop := OkR R ∧ ∃ (d : Option Addr) (ld cd : Nat) (h : Option Addr) (lh ch : Nat) (s : Option Addr) (ls cs : Nat) (made : Int) (m : Nat → Int) (px : Option Addr) (pl pc : Nat) (cx : Option Addr) (cl cc : Nat) (fe : Bool) (fs : ByteArray) (u : Nat → Value) (st : Option Addr) (lst cst : Nat) (mk_ : Option Addr) (lm cm : Nat) (pg : Option Addr) (lp cp : Nat) (out : ByteArray) (seed : Int),
  R[0]? = some (.slice d ld cd) ∧ R[1]? = some (.slice h lh ch) ∧ R[2]? = some (.slice s ls cs) ∧ R[3]? = some (.int .i64 made) ∧ (∀ j v, (gC m px pl pc cx cl cc fe fs u)[j]? = some v → R[4 + j]? = some v) ∧ R[61]? = some (.slice st lst cst) ∧ R[62]? = some (.slice mk_ lm cm) ∧ R[63]? = some (.slice pg lp cp) ∧ R[64]? = some (.string out) ∧ R[65]? = some (.int .i64 seed) ∧ ObL w d ld ∧ HeapL w h lh ∧ SnapL w s ls ∧ GL w st lst
theorem RdR.below {w w' : World} {B : Nat} {R : List Value} (h : RdR w R) (hb : Below B w w') (hB : w.heap.size ≤ B) : RdR w' R := by
  obtain ⟨h0, d, ld, cd, h, lh, ch, s, ls, cs, made, m, px, pl, pc, cx, cl, cc, fe, fs, u, st, lst, cst, mk_, lm, cm, pg, lp, cp, out, seed, r0, r1, r2, r3, rG, r61, r62, r63, r64, r65, o1, o2, o3, o4⟩ := h
  exact ⟨h0, d, ld, cd, h, lh, ch, s, ls, cs, made, m, px, pl, pc, cx, cl, cc, fe, fs, u, st, lst, cst, mk_, lm, cm, pg, lp, cp, out, seed, r0, r1, r2, r3, rG, r61, r62, r63, r64, r65, o1.below hb hB, o2.below hb hB, o3.below hb hB, o4.below hb hB⟩
theorem wpList_load_run {ops : Array Oper} {rest : List Oper} {o : Oper} {a : Act} {w : World} {Q : Exit → Act → World → Prop} (hgd : o.guard = none) (ty : TypeId) (x : Operand) (ho : o.op = .load ty x) {p : Addr} {v : Value} (hx : a.eval x = .pointer (some p)) (hr : (loadVar ty p).run Try.prog w = .ok v w)
    (h : wpList Try.prog ops Q rest (a.put o.dst v) w) : wpList Try.prog ops Q (o :: rest) a w :=
  wpList_plain hgd fun _ hK => wp_load_run ty x ho hx hr (hK _ _ h)
theorem box_G {w : World} {b t : Nat} {v : Value} {R : List Value} (m : Nat → Int) (px : Option Addr) (pl pc : Nat) (cx : Option Addr) (cl cc : Nat) (fe : Bool) (fs : ByteArray) (u : Nat → Value) (hb : w.heap[b]? = some (.cells (stA v R) t (0, 0))) (rG : ∀ j v, (gC m px pl pc cx cl cc fe fs u)[j]? = some v → R[4 + j]? = some v) : (loadVar 45 ⟨b, 5, none⟩).run Try.prog w = .ok (.agg (gC m px pl pc cx cl cc fe fs u).toArray) w :=
  load_es ag45 sz45 rfl fun j u hj => by
    rw [cell_of_row _ _ _ _ _ _ hb, show 5 + j = (4 + j) + 1 by omega, stA_at]
    exact rG j u hj
theorem ss_same {A B : Nat → Prop} {x y : Option Addr} {len c1 c2 : Nat} {L : List Ob} {R : List Value} (w : World) (hx : SL A w x len c1 L) (hy : SL B w y len c2 L) (hRd : RdR w R) :
    Calls Try.prog 15 #[.agg (stA (.slice x len c1) R), .agg (stA (.slice y len c2) R)] w fun e w' => e = .returned (.bool true) ∧ Below w.heap.size w w' := by
  obtain ⟨hR, d, ld, cd, h, lh, ch, s, ls, cs, made, m, px, pl, pc, cx, cl, cc, fe, fs, u, st, lst, cst, mk_, lm, cm, pg, lp, cp, out, seed, r0, r1, r2, r3, rG, r61, r62, r63, r64, r65, o1, o2, o3, o4⟩ := hRd
  go_enter Try.func15, Try.ntmps15
  go_upto_region 1 with fail
  generalize hwy_ : World.alloc _ _ = wy
  have hB_wy : Below w.heap.size w wy := bw_eq hwy_ (by with_reducible repeat (first | exact Below.refl _ _ | assumption | ((first | refine Below.alloc ?_ ?b_ _ | refine bw_set ?_ ?b_ | refine Below.setCell ?_ ?b_ _); case b_ => first | omega | (simp; done) | (simp; omega)) | refine Below.drew ?_ | refine below_drewN ?_ _))
  have hx_ := rw_eq (k := w.heap.size) hwy_ (by with_reducible repeat (first | assumption | (refine rw_new ?e_; case e_ => first | rfl | (simp; done) | (simp; omega)) | apply rw_self | (apply rw_other; case hn => first | omega | (simp; omega)) | apply rw_alloc | apply rw_drew | apply rw_drewN))
  (try clear hp)
  have hp := hx_
  clear hx_
  have hl_hp := rw_lt hp
  have hx_ := rw_eq (k := w.heap.size + 1) hwy_ (by with_reducible repeat (first | assumption | (refine rw_new ?e_; case e_ => first | rfl | (simp; done) | (simp; omega)) | apply rw_self | (apply rw_other; case hn => first | omega | (simp; omega)) | apply rw_alloc | apply rw_drew | apply rw_drewN))
  (try clear hq)
  have hq := hx_
  clear hx_
  have hl_hq := rw_lt hq
  clear hwy_
  have p0 := (cell_of_row _ _ 0 _ _ _ hp).trans (stA_get _ _)
  have q0 := (cell_of_row _ _ 0 _ _ _ hq).trans (stA_get _ _)
  have p1 := (cell_of_row _ _ 1 _ _ _ hp).trans ((stA_at _ R 0).trans r0)
  have q1 := (cell_of_row _ _ 1 _ _ _ hq).trans ((stA_at _ R 0).trans r0)
  have p2 := (cell_of_row _ _ 2 _ _ _ hp).trans ((stA_at _ R 1).trans r1)
  have q2 := (cell_of_row _ _ 2 _ _ _ hq).trans ((stA_at _ R 1).trans r1)
  have p3 := (cell_of_row _ _ 3 _ _ _ hp).trans ((stA_at _ R 2).trans r2)
  have q3 := (cell_of_row _ _ 3 _ _ _ hq).trans ((stA_at _ R 2).trans r2)
  have p4 := (cell_of_row _ _ 4 _ _ _ hp).trans ((stA_at _ R 3).trans r3)
  have q4 := (cell_of_row _ _ 4 _ _ _ hq).trans ((stA_at _ R 3).trans r3)
  have p62 := (cell_of_row _ _ 62 _ _ _ hp).trans ((stA_at _ R 61).trans r61)
  have q62 := (cell_of_row _ _ 62 _ _ _ hq).trans ((stA_at _ R 61).trans r61)
  have p63 := (cell_of_row _ _ 63 _ _ _ hp).trans ((stA_at _ R 62).trans r62)
  have q63 := (cell_of_row _ _ 63 _ _ _ hq).trans ((stA_at _ R 62).trans r62)
  have p64 := (cell_of_row _ _ 64 _ _ _ hp).trans ((stA_at _ R 63).trans r63)
  have q64 := (cell_of_row _ _ 64 _ _ _ hq).trans ((stA_at _ R 63).trans r63)
  have p65 := (cell_of_row _ _ 65 _ _ _ hp).trans ((stA_at _ R 64).trans r64)
  have q65 := (cell_of_row _ _ 65 _ _ _ hq).trans ((stA_at _ R 64).trans r64)
  have p66 := (cell_of_row _ _ 66 _ _ _ hp).trans ((stA_at _ R 65).trans r65)
  have q66 := (cell_of_row _ _ 66 _ _ _ hq).trans ((stA_at _ R 65).trans r65)
  go_wp2_with fail
  refine (so_same _ _ _ hx.ln (by have := hx.sm; omega) _ (hx.ob.below (B := w.heap.size) (by with_reducible repeat (first | exact Below.refl _ _ | assumption | ((first | refine Below.alloc ?_ ?b_ _ | refine bw_set ?_ ?b_ | refine Below.setCell ?_ ?b_ _); case b_ => first | omega | (simp; done) | (simp; omega)) | refine Below.drew ?_ | refine below_drewN ?_ _)) (Nat.le_refl _)) (hy.ob.below (B := w.heap.size) (by with_reducible repeat (first | exact Below.refl _ _ | assumption | ((first | refine Below.alloc ?_ ?b_ _ | refine bw_set ?_ ?b_ | refine Below.setCell ?_ ?b_ _); case b_ => first | omega | (simp; done) | (simp; omega)) | refine Below.drew ?_ | refine below_drewN ?_ _)) (Nat.le_refl _))).mono ?_
  rintro e w1 ⟨rfl, hb⟩
  have hs_w1 := hb.size
  (try simp at hs_w1)
  have hB_w1 : Below w.heap.size w w1 := below_then (w := w) (by with_reducible repeat (first | exact Below.refl _ _ | assumption | ((first | refine Below.alloc ?_ ?b_ _ | refine bw_set ?_ ?b_ | refine Below.setCell ?_ ?b_ _); case b_ => first | omega | (simp; done) | (simp; omega)) | refine Below.drew ?_ | refine below_drewN ?_ _)) (by first | omega | (simp; done) | (simp; omega) | (have hq_ := hb.size; omega)) hb
  have hx_ := rw_below (k := w.heap.size) hb (by with_reducible repeat (first | assumption | (refine rw_new ?e_; case e_ => first | rfl | (simp; done) | (simp; omega)) | apply rw_self | (apply rw_other; case hn => first | omega | (simp; omega)) | apply rw_alloc | apply rw_drew | apply rw_drewN))
  (try clear hp)
  have hp := hx_
  clear hx_
  have hx_ := rw_below (k := w.heap.size + 1) hb (by with_reducible repeat (first | assumption | (refine rw_new ?e_; case e_ => first | rfl | (simp; done) | (simp; omega)) | apply rw_self | (apply rw_other; case hn => first | omega | (simp; omega)) | apply rw_alloc | apply rw_drew | apply rw_drewN))
  (try clear hq)
  have hq := hx_
  clear hx_
  clear hb
  clear p0 q0 p1 q1 p2 q2 p3 q3 p4 q4 p62 q62 p63 q63 p64 q64 p65 q65 p66 q66
  have p0 := (cell_of_row _ _ 0 _ _ _ hp).trans (stA_get _ _)
  have q0 := (cell_of_row _ _ 0 _ _ _ hq).trans (stA_get _ _)
  have p1 := (cell_of_row _ _ 1 _ _ _ hp).trans ((stA_at _ R 0).trans r0)
  have q1 := (cell_of_row _ _ 1 _ _ _ hq).trans ((stA_at _ R 0).trans r0)
  have p2 := (cell_of_row _ _ 2 _ _ _ hp).trans ((stA_at _ R 1).trans r1)
  have q2 := (cell_of_row _ _ 2 _ _ _ hq).trans ((stA_at _ R 1).trans r1)
  have p3 := (cell_of_row _ _ 3 _ _ _ hp).trans ((stA_at _ R 2).trans r2)
  have q3 := (cell_of_row _ _ 3 _ _ _ hq).trans ((stA_at _ R 2).trans r2)
  have p4 := (cell_of_row _ _ 4 _ _ _ hp).trans ((stA_at _ R 3).trans r3)
  have q4 := (cell_of_row _ _ 4 _ _ _ hq).trans ((stA_at _ R 3).trans r3)
  have p62 := (cell_of_row _ _ 62 _ _ _ hp).trans ((stA_at _ R 61).trans r61)
  have q62 := (cell_of_row _ _ 62 _ _ _ hq).trans ((stA_at _ R 61).trans r61)
  have p63 := (cell_of_row _ _ 63 _ _ _ hp).trans ((stA_at _ R 62).trans r62)
  have q63 := (cell_of_row _ _ 63 _ _ _ hq).trans ((stA_at _ R 62).trans r62)
  have p64 := (cell_of_row _ _ 64 _ _ _ hp).trans ((stA_at _ R 63).trans r63)
  have q64 := (cell_of_row _ _ 64 _ _ _ hq).trans ((stA_at _ R 63).trans r63)
  have p65 := (cell_of_row _ _ 65 _ _ _ hp).trans ((stA_at _ R 64).trans r64)
  have q65 := (cell_of_row _ _ 65 _ _ _ hq).trans ((stA_at _ R 64).trans r64)
  have p66 := (cell_of_row _ _ 66 _ _ _ hp).trans ((stA_at _ R 65).trans r65)
  have q66 := (cell_of_row _ _ 66 _ _ _ hq).trans ((stA_at _ R 65).trans r65)
  go_wp2_with fail
  refine (so_obl _ _ _ (o1.below (B := w.heap.size) (by with_reducible repeat (first | exact Below.refl _ _ | assumption | ((first | refine Below.alloc ?_ ?b_ _ | refine bw_set ?_ ?b_ | refine Below.setCell ?_ ?b_ _); case b_ => first | omega | (simp; done) | (simp; omega)) | refine Below.drew ?_ | refine below_drewN ?_ _)) (Nat.le_refl _))).mono ?_
  rintro e w2 ⟨rfl, hb⟩
  have hs_w2 := hb.size
  (try simp at hs_w2)
  have hB_w2 : Below w.heap.size w w2 := below_then (w := w) (by with_reducible repeat (first | exact Below.refl _ _ | assumption | ((first | refine Below.alloc ?_ ?b_ _ | refine bw_set ?_ ?b_ | refine Below.setCell ?_ ?b_ _); case b_ => first | omega | (simp; done) | (simp; omega)) | refine Below.drew ?_ | refine below_drewN ?_ _)) (by first | omega | (simp; done) | (simp; omega) | (have hq_ := hb.size; omega)) hb
  have hx_ := rw_below (k := w.heap.size) hb (by with_reducible repeat (first | assumption | (refine rw_new ?e_; case e_ => first | rfl | (simp; done) | (simp; omega)) | apply rw_self | (apply rw_other; case hn => first | omega | (simp; omega)) | apply rw_alloc | apply rw_drew | apply rw_drewN))
  (try clear hp)
  have hp := hx_
  clear hx_
  have hx_ := rw_below (k := w.heap.size + 1) hb (by with_reducible repeat (first | assumption | (refine rw_new ?e_; case e_ => first | rfl | (simp; done) | (simp; omega)) | apply rw_self | (apply rw_other; case hn => first | omega | (simp; omega)) | apply rw_alloc | apply rw_drew | apply rw_drewN))
  (try clear hq)
  have hq := hx_
  clear hx_
  clear hb
  clear p0 q0 p1 q1 p2 q2 p3 q3 p4 q4 p62 q62 p63 q63 p64 q64 p65 q65 p66 q66
  have p0 := (cell_of_row _ _ 0 _ _ _ hp).trans (stA_get _ _)
  have q0 := (cell_of_row _ _ 0 _ _ _ hq).trans (stA_get _ _)
  have p1 := (cell_of_row _ _ 1 _ _ _ hp).trans ((stA_at _ R 0).trans r0)
  have q1 := (cell_of_row _ _ 1 _ _ _ hq).trans ((stA_at _ R 0).trans r0)
  have p2 := (cell_of_row _ _ 2 _ _ _ hp).trans ((stA_at _ R 1).trans r1)
  have q2 := (cell_of_row _ _ 2 _ _ _ hq).trans ((stA_at _ R 1).trans r1)
  have p3 := (cell_of_row _ _ 3 _ _ _ hp).trans ((stA_at _ R 2).trans r2)
  have q3 := (cell_of_row _ _ 3 _ _ _ hq).trans ((stA_at _ R 2).trans r2)
  have p4 := (cell_of_row _ _ 4 _ _ _ hp).trans ((stA_at _ R 3).trans r3)
  have q4 := (cell_of_row _ _ 4 _ _ _ hq).trans ((stA_at _ R 3).trans r3)
  have p62 := (cell_of_row _ _ 62 _ _ _ hp).trans ((stA_at _ R 61).trans r61)
  have q62 := (cell_of_row _ _ 62 _ _ _ hq).trans ((stA_at _ R 61).trans r61)
  have p63 := (cell_of_row _ _ 63 _ _ _ hp).trans ((stA_at _ R 62).trans r62)
  have q63 := (cell_of_row _ _ 63 _ _ _ hq).trans ((stA_at _ R 62).trans r62)
  have p64 := (cell_of_row _ _ 64 _ _ _ hp).trans ((stA_at _ R 63).trans r63)
  have q64 := (cell_of_row _ _ 64 _ _ _ hq).trans ((stA_at _ R 63).trans r63)
  have p65 := (cell_of_row _ _ 65 _ _ _ hp).trans ((stA_at _ R 64).trans r64)
  have q65 := (cell_of_row _ _ 65 _ _ _ hq).trans ((stA_at _ R 64).trans r64)
  have p66 := (cell_of_row _ _ 66 _ _ _ hp).trans ((stA_at _ R 65).trans r65)
  have q66 := (cell_of_row _ _ 66 _ _ _ hq).trans ((stA_at _ R 65).trans r65)
  go_wp2_with fail
  refine (same_heap _ _ _ (o2.below (B := w.heap.size) (by with_reducible repeat (first | exact Below.refl _ _ | assumption | ((first | refine Below.alloc ?_ ?b_ _ | refine bw_set ?_ ?b_ | refine Below.setCell ?_ ?b_ _); case b_ => first | omega | (simp; done) | (simp; omega)) | refine Below.drew ?_ | refine below_drewN ?_ _)) (Nat.le_refl _))).mono ?_
  rintro e w3 ⟨rfl, hb⟩
  have hs_w3 := hb.size
  (try simp at hs_w3)
  have hB_w3 : Below w.heap.size w w3 := below_then (w := w) (by with_reducible repeat (first | exact Below.refl _ _ | assumption | ((first | refine Below.alloc ?_ ?b_ _ | refine bw_set ?_ ?b_ | refine Below.setCell ?_ ?b_ _); case b_ => first | omega | (simp; done) | (simp; omega)) | refine Below.drew ?_ | refine below_drewN ?_ _)) (by first | omega | (simp; done) | (simp; omega) | (have hq_ := hb.size; omega)) hb
  have hx_ := rw_below (k := w.heap.size) hb (by with_reducible repeat (first | assumption | (refine rw_new ?e_; case e_ => first | rfl | (simp; done) | (simp; omega)) | apply rw_self | (apply rw_other; case hn => first | omega | (simp; omega)) | apply rw_alloc | apply rw_drew | apply rw_drewN))
  (try clear hp)
  have hp := hx_
  clear hx_
  have hx_ := rw_below (k := w.heap.size + 1) hb (by with_reducible repeat (first | assumption | (refine rw_new ?e_; case e_ => first | rfl | (simp; done) | (simp; omega)) | apply rw_self | (apply rw_other; case hn => first | omega | (simp; omega)) | apply rw_alloc | apply rw_drew | apply rw_drewN))
  (try clear hq)
  have hq := hx_
  clear hx_
  clear hb
  clear p0 q0 p1 q1 p2 q2 p3 q3 p4 q4 p62 q62 p63 q63 p64 q64 p65 q65 p66 q66
  have p0 := (cell_of_row _ _ 0 _ _ _ hp).trans (stA_get _ _)
  have q0 := (cell_of_row _ _ 0 _ _ _ hq).trans (stA_get _ _)
  have p1 := (cell_of_row _ _ 1 _ _ _ hp).trans ((stA_at _ R 0).trans r0)
  have q1 := (cell_of_row _ _ 1 _ _ _ hq).trans ((stA_at _ R 0).trans r0)
  have p2 := (cell_of_row _ _ 2 _ _ _ hp).trans ((stA_at _ R 1).trans r1)
  have q2 := (cell_of_row _ _ 2 _ _ _ hq).trans ((stA_at _ R 1).trans r1)
  have p3 := (cell_of_row _ _ 3 _ _ _ hp).trans ((stA_at _ R 2).trans r2)
  have q3 := (cell_of_row _ _ 3 _ _ _ hq).trans ((stA_at _ R 2).trans r2)
  have p4 := (cell_of_row _ _ 4 _ _ _ hp).trans ((stA_at _ R 3).trans r3)
  have q4 := (cell_of_row _ _ 4 _ _ _ hq).trans ((stA_at _ R 3).trans r3)
  have p62 := (cell_of_row _ _ 62 _ _ _ hp).trans ((stA_at _ R 61).trans r61)
  have q62 := (cell_of_row _ _ 62 _ _ _ hq).trans ((stA_at _ R 61).trans r61)
  have p63 := (cell_of_row _ _ 63 _ _ _ hp).trans ((stA_at _ R 62).trans r62)
  have q63 := (cell_of_row _ _ 63 _ _ _ hq).trans ((stA_at _ R 62).trans r62)
  have p64 := (cell_of_row _ _ 64 _ _ _ hp).trans ((stA_at _ R 63).trans r63)
  have q64 := (cell_of_row _ _ 64 _ _ _ hq).trans ((stA_at _ R 63).trans r63)
  have p65 := (cell_of_row _ _ 65 _ _ _ hp).trans ((stA_at _ R 64).trans r64)
  have q65 := (cell_of_row _ _ 65 _ _ _ hq).trans ((stA_at _ R 64).trans r64)
  have p66 := (cell_of_row _ _ 66 _ _ _ hp).trans ((stA_at _ R 65).trans r65)
  have q66 := (cell_of_row _ _ 66 _ _ _ hq).trans ((stA_at _ R 65).trans r65)
  go_wp2_with fail
  obtain ⟨LS, eS1, eS2, eS3, eS4⟩ := o3
  clear p0 q0 p1 q1 p2 q2 p3 q3 p4 q4 p62 q62 p63 q63 p64 q64 p65 q65 p66 q66
  have r2' := r2
  go_loopw [5] (fun v wr => ∃ i : Nat, i ≤ ls ∧ v = .int .i64 i ∧ Below w.heap.size w wr ∧ wr.heap[w.heap.size]? = some (.cells (stA (.slice x len c1) R) 49 (0, 0)) ∧ wr.heap[w.heap.size + 1]? = some (.cells (stA (.slice y len c2) R) 49 (0, 0))) (fun v _ => ls - (intOf v).toNat)
  case atStart => exact ⟨0, Nat.zero_le _, rfl, hB_w3, hp, hq⟩
  case round =>
    clear hp hq hB_w3 hs_w3 hB_w2 hs_w2 hB_w1 hs_w1 hB_wy
    obtain ⟨i, hi, rfl, hB, hp, hq⟩ := hrel
    have hsz := hB.size
    have hlp := rw_lt hp
    have hlq := rw_lt hq
    have p3 := (cell_of_row _ _ 3 _ _ _ hp).trans ((stA_at _ R 2).trans r2)
    have q3 := (cell_of_row _ _ 3 _ _ _ hq).trans ((stA_at _ R 2).trans r2)
    by_cases hlt : i < ls
    · obtain ⟨es, hes⟩ : ∃ es, LS[i]? = some es := ⟨_, List.getElem?_eq_getElem (by omega)⟩
      obtain ⟨n, hx1, hl1, hc1, t, rfl, hH⟩ := (eS4 es (List.mem_of_getElem? hes)).below hB (Nat.le_refl _)
      obtain ⟨b, off, rfl⟩ := els_some eS1 (by omega)
      have hEr := eS1.below hB (Nat.le_refl _)
      have hl0 : ∀ w', Held wr [] w' → (loadVar 92 ⟨b, off + i * 3, none⟩).run Try.prog w' = .ok (.agg #[.int .i64 n, .slice hx1 hl1 hc1, .int .i64 t]) w' := fun w' hH => els_load ag92 sz92 hEr hH hes rfl
      have hSS : Held wr [] wr.drew := Held.refl _ _
      clear hEr hes
      go_wp2_with fail
      clear p3 q3
      refine wp_region_ord (.s 0 .p (.s 1 .l (.s 2 .p (.s 3 .p (.s 4 .l (.s 5 .p (.s 6 .l (.s 7 .p (.s 8 .p (.s 9 .l (.f 10 (.s 11 .e (.s 12 .e (.s 13 .e .done))) 11 (.s 10 .e (.s 12 .e (.s 13 .e .done)))))))))))))) (Held wr []) (by kernel_rfl) (by kernel_rfl) (fun _ _ _ _ _ h => h) hSS ?_
      (apply wpOrd_p2 rfl rfl rfl rfl rfl; (intro w' K hK; (first | go_big_move | go_big_op | go_wp2_with fail); exact hK))
      (apply wpOrd_l2 rfl rfl rfl rfl rfl; (intro w' K hS' hK; (first | (refine wp_load_cell 24 _ rfl _ 3 rfl _ _ _ _ _ ((hS' _ hlp (by simp)).trans hp) Try.underlying24 rfl ((stA_at _ _ _).trans r2) ?_) | (refine wp_load_cell 24 _ rfl _ 3 rfl _ _ _ _ _ ((hS' _ hlq (by simp)).trans hq) Try.underlying24 rfl ((stA_at _ _ _).trans r2) ?_) | (refine wp_load_run 92 _ rfl rfl (hl0 w' hS') ?_)); exact hK); (first | exact hSS | assumption))
      (apply wpOrd_p2 rfl rfl rfl rfl rfl; (intro w' K hK; (first | go_big_move | go_big_op | go_wp2_with fail); exact hK))
      (apply wpOrd_p2 rfl rfl rfl rfl rfl; (intro w' K hK; (first | go_big_move | go_big_op | go_wp2_with fail); exact hK))
      (apply wpOrd_l2 rfl rfl rfl rfl rfl; (intro w' K hS' hK; (first | (refine wp_load_cell 24 _ rfl _ 3 rfl _ _ _ _ _ ((hS' _ hlp (by simp)).trans hp) Try.underlying24 rfl ((stA_at _ _ _).trans r2) ?_) | (refine wp_load_cell 24 _ rfl _ 3 rfl _ _ _ _ _ ((hS' _ hlq (by simp)).trans hq) Try.underlying24 rfl ((stA_at _ _ _).trans r2) ?_) | (refine wp_load_run 92 _ rfl rfl (hl0 w' hS') ?_)); exact hK); (first | exact hSS | assumption))
      (apply wpOrd_p2 rfl rfl rfl rfl rfl; (intro w' K hK; (first | go_big_move | go_big_op | go_wp2_with fail); exact hK))
      (apply wpOrd_l2 rfl rfl rfl rfl rfl; (intro w' K hS' hK; (first | (refine wp_load_cell 24 _ rfl _ 3 rfl _ _ _ _ _ ((hS' _ hlp (by simp)).trans hp) Try.underlying24 rfl ((stA_at _ _ _).trans r2) ?_) | (refine wp_load_cell 24 _ rfl _ 3 rfl _ _ _ _ _ ((hS' _ hlq (by simp)).trans hq) Try.underlying24 rfl ((stA_at _ _ _).trans r2) ?_) | (refine wp_load_run 92 _ rfl rfl (hl0 w' hS') ?_)); exact hK); (first | exact hSS | assumption))
      (apply wpOrd_p2 rfl rfl rfl rfl rfl; (intro w' K hK; (first | go_big_move | go_big_op | go_wp2_with fail); exact hK))
      (apply wpOrd_p2 rfl rfl rfl rfl rfl; (intro w' K hK; (first | go_big_move | go_big_op | go_wp2_with fail); exact hK))
      (apply wpOrd_l2 rfl rfl rfl rfl rfl; (intro w' K hS' hK; (first | (refine wp_load_cell 24 _ rfl _ 3 rfl _ _ _ _ _ ((hS' _ hlp (by simp)).trans hp) Try.underlying24 rfl ((stA_at _ _ _).trans r2) ?_) | (refine wp_load_cell 24 _ rfl _ 3 rfl _ _ _ _ _ ((hS' _ hlq (by simp)).trans hq) Try.underlying24 rfl ((stA_at _ _ _).trans r2) ?_) | (refine wp_load_run 92 _ rfl rfl (hl0 w' hS') ?_)); exact hK); (first | exact hSS | assumption))
      refine wpOrd_f rfl rfl rfl rfl (fun K hK => ?_) (fun K hK => ?_)
      · (first | go_big_op | go_wp2_with fail)
        refine hK _ _ (by with_reducible repeat (first | exact Held.refl _ _ | assumption | refine Held.drew ?_ | (refine Held.alloc ?_ ?s_ _; case s_ => first | omega | (simp; done) | (simp; omega)) | (refine Held.setRow2 ?_ ?g2_; case g2_ => first | omega | (simp; omega)))) ?_; clear hK K
        (refine wpOrd_e1 rfl rfl (fun K hK => ?_)); (first | go_big_op | go_wp2_with fail)
        refine hK _ _ (by with_reducible repeat (first | exact Held.refl _ _ | assumption | refine Held.drew ?_ | (refine Held.alloc ?_ ?s_ _; case s_ => first | omega | (simp; done) | (simp; omega)) | (refine Held.setRow2 ?_ ?g2_; case g2_ => first | omega | (simp; omega)))) ?_; clear hK K
        (refine wpOrd_e1 rfl rfl (fun K hK => ?_))
        refine wp_store_row 92 _ _ rfl (wr.heap.size) _ rfl rfl _ _ (by with_reducible repeat (first | assumption | (refine rw_new ?e_; case e_ => first | rfl | (simp; done) | (simp; omega)) | apply rw_self | (apply rw_other; case hn => first | omega | (simp; omega)) | apply rw_alloc | apply rw_drew | apply rw_drewN)) info3 (by rfl) (by first | kernel_rfl | simp [Value.oneCell']) ?_; refine hK _ _ (by with_reducible repeat (first | exact Held.refl _ _ | assumption | refine Held.drew ?_ | (refine Held.alloc ?_ ?s_ _; case s_ => first | omega | (simp; done) | (simp; omega)) | (refine Held.setRow2 ?_ ?g2_; case g2_ => first | omega | (simp; omega)))) ?_; clear hK K
        (refine wpOrd_e1 rfl rfl (fun K hK => ?_))
        refine wp_store_row 92 _ _ rfl (wr.heap.size + 1) _ rfl rfl _ _ (by with_reducible repeat (first | assumption | (refine rw_new ?e_; case e_ => first | rfl | (simp; done) | (simp; omega)) | apply rw_self | (apply rw_other; case hn => first | omega | (simp; omega)) | apply rw_alloc | apply rw_drew | apply rw_drewN)) info3 (by rfl) (by first | kernel_rfl | simp [Value.oneCell']) ?_; refine hK _ _ (by with_reducible repeat (first | exact Held.refl _ _ | assumption | refine Held.drew ?_ | (refine Held.alloc ?_ ?s_ _; case s_ => first | omega | (simp; done) | (simp; omega)) | (refine Held.setRow2 ?_ ?g2_; case g2_ => first | omega | (simp; omega)))) ?_; clear hK K
        refine wpOrd_nil ?_
        generalize hwy_ : World.setRow _ _ _ = wy
        have hBwy : Below wr.heap.size wr wy := bw_eq hwy_ (by with_reducible repeat (first | exact Below.refl _ _ | assumption | ((first | refine Below.alloc ?_ ?b_ _ | refine bw_set ?_ ?b_ | refine Below.setCell ?_ ?b_ _); case b_ => first | omega | (simp; done) | (simp; omega)) | refine Below.drew ?_ | refine below_drewN ?_ _))
        have hB_wy : Below w.heap.size w wy := bw_eq hwy_ (by with_reducible repeat (first | exact Below.refl _ _ | assumption | ((first | refine Below.alloc ?_ ?b_ _ | refine bw_set ?_ ?b_ | refine Below.setCell ?_ ?b_ _); case b_ => first | omega | (simp; done) | (simp; omega)) | refine Below.drew ?_ | refine below_drewN ?_ _))
        have hp := rw_eq (k := w.heap.size) hwy_ (by with_reducible repeat (first | assumption | (refine rw_new ?e_; case e_ => first | rfl | (simp; done) | (simp; omega)) | apply rw_self | (apply rw_other; case hn => first | omega | (simp; omega)) | apply rw_alloc | apply rw_drew | apply rw_drewN))
        have hq := rw_eq (k := w.heap.size + 1) hwy_ (by with_reducible repeat (first | assumption | (refine rw_new ?e_; case e_ => first | rfl | (simp; done) | (simp; omega)) | apply rw_self | (apply rw_other; case hn => first | omega | (simp; omega)) | apply rw_alloc | apply rw_drew | apply rw_drewN))
        have hu := rw_eq (k := wr.heap.size) hwy_ (by with_reducible repeat (first | assumption | (refine rw_new ?e_; case e_ => first | rfl | (simp; done) | (simp; omega)) | apply rw_self | (apply rw_other; case hn => first | omega | (simp; omega)) | apply rw_alloc | apply rw_drew | apply rw_drewN))
        have hv := rw_eq (k := wr.heap.size + 1) hwy_ (by with_reducible repeat (first | assumption | (refine rw_new ?e_; case e_ => first | rfl | (simp; done) | (simp; omega)) | apply rw_self | (apply rw_other; case hn => first | omega | (simp; omega)) | apply rw_alloc | apply rw_drew | apply rw_drewN))
        have hsy := hB_wy.size
        obtain ⟨u0, u1, u2⟩ := cel3 hu
        obtain ⟨v0, v1, v2⟩ := cel3 hv
        clear hwy_
        go_wp2_with fail
        refine (same_heap _ _ _ (hH.below (B := wr.heap.size) hBwy (Nat.le_refl _))).mono ?_
        rintro e w5 ⟨rfl, hb⟩
        have hs_w5 := hb.size
        (try simp at hs_w5)
        have hB_w5 : Below w.heap.size w w5 := below_then (w := w) (by with_reducible repeat (first | exact Below.refl _ _ | assumption | ((first | refine Below.alloc ?_ ?b_ _ | refine bw_set ?_ ?b_ | refine Below.setCell ?_ ?b_ _); case b_ => first | omega | (simp; done) | (simp; omega)) | refine Below.drew ?_ | refine below_drewN ?_ _)) (by first | omega | (simp; done) | (simp; omega) | (have hq_ := hb.size; omega)) hb
        have hx_ := rw_below (k := w.heap.size) hb (by with_reducible repeat (first | assumption | (refine rw_new ?e_; case e_ => first | rfl | (simp; done) | (simp; omega)) | apply rw_self | (apply rw_other; case hn => first | omega | (simp; omega)) | apply rw_alloc | apply rw_drew | apply rw_drewN))
        (try clear hp)
        have hp := hx_
        clear hx_
        have hx_ := rw_below (k := w.heap.size + 1) hb (by with_reducible repeat (first | assumption | (refine rw_new ?e_; case e_ => first | rfl | (simp; done) | (simp; omega)) | apply rw_self | (apply rw_other; case hn => first | omega | (simp; omega)) | apply rw_alloc | apply rw_drew | apply rw_drewN))
        (try clear hq)
        have hq := hx_
        clear hx_
        clear hb
        go_wp2_with fail
        go_roundw
        case rel => exact ⟨i + 1, by omega, by go_num, hB_w5, hp, hq⟩
        case measure => simp [intOf]; omega
      · (first | go_big_op | go_wp2_with fail)
        refine hK _ _ (by with_reducible repeat (first | exact Held.refl _ _ | assumption | refine Held.drew ?_ | (refine Held.alloc ?_ ?s_ _; case s_ => first | omega | (simp; done) | (simp; omega)) | (refine Held.setRow2 ?_ ?g2_; case g2_ => first | omega | (simp; omega)))) ?_; clear hK K
        (refine wpOrd_e1 rfl rfl (fun K hK => ?_)); (first | go_big_op | go_wp2_with fail)
        refine hK _ _ (by with_reducible repeat (first | exact Held.refl _ _ | assumption | refine Held.drew ?_ | (refine Held.alloc ?_ ?s_ _; case s_ => first | omega | (simp; done) | (simp; omega)) | (refine Held.setRow2 ?_ ?g2_; case g2_ => first | omega | (simp; omega)))) ?_; clear hK K
        (refine wpOrd_e1 rfl rfl (fun K hK => ?_))
        refine wp_store_row 92 _ _ rfl (wr.heap.size + 1) _ rfl rfl _ _ (by with_reducible repeat (first | assumption | (refine rw_new ?e_; case e_ => first | rfl | (simp; done) | (simp; omega)) | apply rw_self | (apply rw_other; case hn => first | omega | (simp; omega)) | apply rw_alloc | apply rw_drew | apply rw_drewN)) info3 (by rfl) (by first | kernel_rfl | simp [Value.oneCell']) ?_; refine hK _ _ (by with_reducible repeat (first | exact Held.refl _ _ | assumption | refine Held.drew ?_ | (refine Held.alloc ?_ ?s_ _; case s_ => first | omega | (simp; done) | (simp; omega)) | (refine Held.setRow2 ?_ ?g2_; case g2_ => first | omega | (simp; omega)))) ?_; clear hK K
        (refine wpOrd_e1 rfl rfl (fun K hK => ?_))
        refine wp_store_row 92 _ _ rfl (wr.heap.size) _ rfl rfl _ _ (by with_reducible repeat (first | assumption | (refine rw_new ?e_; case e_ => first | rfl | (simp; done) | (simp; omega)) | apply rw_self | (apply rw_other; case hn => first | omega | (simp; omega)) | apply rw_alloc | apply rw_drew | apply rw_drewN)) info3 (by rfl) (by first | kernel_rfl | simp [Value.oneCell']) ?_; refine hK _ _ (by with_reducible repeat (first | exact Held.refl _ _ | assumption | refine Held.drew ?_ | (refine Held.alloc ?_ ?s_ _; case s_ => first | omega | (simp; done) | (simp; omega)) | (refine Held.setRow2 ?_ ?g2_; case g2_ => first | omega | (simp; omega)))) ?_; clear hK K
        refine wpOrd_nil ?_
        generalize hwy_ : World.setRow _ _ _ = wy
        have hBwy : Below wr.heap.size wr wy := bw_eq hwy_ (by with_reducible repeat (first | exact Below.refl _ _ | assumption | ((first | refine Below.alloc ?_ ?b_ _ | refine bw_set ?_ ?b_ | refine Below.setCell ?_ ?b_ _); case b_ => first | omega | (simp; done) | (simp; omega)) | refine Below.drew ?_ | refine below_drewN ?_ _))
        have hB_wy : Below w.heap.size w wy := bw_eq hwy_ (by with_reducible repeat (first | exact Below.refl _ _ | assumption | ((first | refine Below.alloc ?_ ?b_ _ | refine bw_set ?_ ?b_ | refine Below.setCell ?_ ?b_ _); case b_ => first | omega | (simp; done) | (simp; omega)) | refine Below.drew ?_ | refine below_drewN ?_ _))
        have hp := rw_eq (k := w.heap.size) hwy_ (by with_reducible repeat (first | assumption | (refine rw_new ?e_; case e_ => first | rfl | (simp; done) | (simp; omega)) | apply rw_self | (apply rw_other; case hn => first | omega | (simp; omega)) | apply rw_alloc | apply rw_drew | apply rw_drewN))
        have hq := rw_eq (k := w.heap.size + 1) hwy_ (by with_reducible repeat (first | assumption | (refine rw_new ?e_; case e_ => first | rfl | (simp; done) | (simp; omega)) | apply rw_self | (apply rw_other; case hn => first | omega | (simp; omega)) | apply rw_alloc | apply rw_drew | apply rw_drewN))
        have hu := rw_eq (k := wr.heap.size) hwy_ (by with_reducible repeat (first | assumption | (refine rw_new ?e_; case e_ => first | rfl | (simp; done) | (simp; omega)) | apply rw_self | (apply rw_other; case hn => first | omega | (simp; omega)) | apply rw_alloc | apply rw_drew | apply rw_drewN))
        have hv := rw_eq (k := wr.heap.size + 1) hwy_ (by with_reducible repeat (first | assumption | (refine rw_new ?e_; case e_ => first | rfl | (simp; done) | (simp; omega)) | apply rw_self | (apply rw_other; case hn => first | omega | (simp; omega)) | apply rw_alloc | apply rw_drew | apply rw_drewN))
        have hsy := hB_wy.size
        obtain ⟨u0, u1, u2⟩ := cel3 hu
        obtain ⟨v0, v1, v2⟩ := cel3 hv
        clear hwy_
        go_wp2_with fail
        refine (same_heap _ _ _ (hH.below (B := wr.heap.size) hBwy (Nat.le_refl _))).mono ?_
        rintro e w5 ⟨rfl, hb⟩
        have hs_w5 := hb.size
        (try simp at hs_w5)
        have hB_w5 : Below w.heap.size w w5 := below_then (w := w) (by with_reducible repeat (first | exact Below.refl _ _ | assumption | ((first | refine Below.alloc ?_ ?b_ _ | refine bw_set ?_ ?b_ | refine Below.setCell ?_ ?b_ _); case b_ => first | omega | (simp; done) | (simp; omega)) | refine Below.drew ?_ | refine below_drewN ?_ _)) (by first | omega | (simp; done) | (simp; omega) | (have hq_ := hb.size; omega)) hb
        have hx_ := rw_below (k := w.heap.size) hb (by with_reducible repeat (first | assumption | (refine rw_new ?e_; case e_ => first | rfl | (simp; done) | (simp; omega)) | apply rw_self | (apply rw_other; case hn => first | omega | (simp; omega)) | apply rw_alloc | apply rw_drew | apply rw_drewN))
        (try clear hp)
        have hp := hx_
        clear hx_
        have hx_ := rw_below (k := w.heap.size + 1) hb (by with_reducible repeat (first | assumption | (refine rw_new ?e_; case e_ => first | rfl | (simp; done) | (simp; omega)) | apply rw_self | (apply rw_other; case hn => first | omega | (simp; omega)) | apply rw_alloc | apply rw_drew | apply rw_drewN))
        (try clear hq)
        have hq := hx_
        clear hx_
        clear hb
        go_wp2_with fail
        go_roundw
        case rel => exact ⟨i + 1, by omega, by go_num, hB_w5, hp, hq⟩
        case measure => simp [intOf]; omega
    · have hin : i = ls := by omega
      subst hin
      go_wp2_with fail
      clear p3 q3
      obtain ⟨LG, g1, g2, g3, g4⟩ := o4
      go_loopw [8] (fun v wq => ∃ i : Nat, i ≤ lst ∧ v = .int .i64 i ∧ Below w.heap.size w wq ∧ wq.heap[w.heap.size]? = some (.cells (stA (.slice x len c1) R) 49 (0, 0)) ∧ wq.heap[w.heap.size + 1]? = some (.cells (stA (.slice y len c2) R) 49 (0, 0))) (fun v _ => lst - (intOf v).toNat)
      case atStart => exact ⟨0, Nat.zero_le _, rfl, hB, hp, hq⟩
      case round =>
        clear hp hq hB hsz hlp hlq
        obtain ⟨i, hi2, rfl, hB, hp, hq⟩ := hrel
        have hsz := hB.size
        have hlp := rw_lt hp
        have hlq := rw_lt hq
        have p62 := (cell_of_row _ _ 62 _ _ _ hp).trans ((stA_at _ R 61).trans r61)
        have q62 := (cell_of_row _ _ 62 _ _ _ hq).trans ((stA_at _ R 61).trans r61)
        by_cases hlt2 : i < lst
        · obtain ⟨es, hes⟩ : ∃ es, LG[i]? = some es := ⟨_, List.getElem?_eq_getElem (by omega)⟩
          obtain ⟨m', px', pl', pc', cx', cl', cc', fe', fs', u', rfl⟩ := g4 es (List.mem_of_getElem? hes)
          obtain ⟨b, off, rfl⟩ := els_some g1 (by omega)
          have hEr := g1.below hB (Nat.le_refl _)
          have hl0 : ∀ w', Held wr [] w' → (loadVar 45 ⟨b, off + i * 57, none⟩).run Try.prog w' = .ok (.agg (gC m' px' pl' pc' cx' cl' cc' fe' fs' u').toArray) w' := fun w' hH => els_load ag45 sz45 hEr hH hes rfl
          have hSS : Held wr [] wr.drew := Held.refl _ _
          clear hEr hes
          go_wp2_with fail
          clear p62 q62
          refine wp_region_ord (.s 0 .p (.s 1 .l (.s 2 .p (.s 3 .p (.s 4 .l (.s 5 .p (.s 6 .l (.s 7 .p (.s 8 .p (.s 9 .l (.s 10 .e (.s 11 .p .done)))))))))))) (Held wr []) (by kernel_rfl) (by kernel_rfl) (fun _ _ _ _ _ h => h) hSS ?_
          (apply wpOrd_p2 rfl rfl rfl rfl rfl; (intro w' K hK; (first | go_big_move | go_big_op | go_wp2_with fail); exact hK))
          (apply wpOrd_l2 rfl rfl rfl rfl rfl; (intro w' K hS' hK; (first | (refine wp_load_cell 46 _ rfl _ 62 rfl _ _ _ _ _ ((hS' _ hlp (by simp)).trans hp) Try.underlying46 rfl ((stA_at _ _ _).trans r61) ?_) | (refine wp_load_cell 46 _ rfl _ 62 rfl _ _ _ _ _ ((hS' _ hlq (by simp)).trans hq) Try.underlying46 rfl ((stA_at _ _ _).trans r61) ?_) | (refine wp_load_run 45 _ rfl rfl (hl0 w' hS') ?_)); exact hK); (first | exact hSS | assumption))
          (apply wpOrd_p2 rfl rfl rfl rfl rfl; (intro w' K hK; (first | go_big_move | go_big_op | go_wp2_with fail); exact hK))
          (apply wpOrd_p2 rfl rfl rfl rfl rfl; (intro w' K hK; (first | go_big_move | go_big_op | go_wp2_with fail); exact hK))
          (apply wpOrd_l2 rfl rfl rfl rfl rfl; (intro w' K hS' hK; (first | (refine wp_load_cell 46 _ rfl _ 62 rfl _ _ _ _ _ ((hS' _ hlp (by simp)).trans hp) Try.underlying46 rfl ((stA_at _ _ _).trans r61) ?_) | (refine wp_load_cell 46 _ rfl _ 62 rfl _ _ _ _ _ ((hS' _ hlq (by simp)).trans hq) Try.underlying46 rfl ((stA_at _ _ _).trans r61) ?_) | (refine wp_load_run 45 _ rfl rfl (hl0 w' hS') ?_)); exact hK); (first | exact hSS | assumption))
          (apply wpOrd_p2 rfl rfl rfl rfl rfl; (intro w' K hK; (first | go_big_move | go_big_op | go_wp2_with fail); exact hK))
          (apply wpOrd_l2 rfl rfl rfl rfl rfl; (intro w' K hS' hK; (first | (refine wp_load_cell 46 _ rfl _ 62 rfl _ _ _ _ _ ((hS' _ hlp (by simp)).trans hp) Try.underlying46 rfl ((stA_at _ _ _).trans r61) ?_) | (refine wp_load_cell 46 _ rfl _ 62 rfl _ _ _ _ _ ((hS' _ hlq (by simp)).trans hq) Try.underlying46 rfl ((stA_at _ _ _).trans r61) ?_) | (refine wp_load_run 45 _ rfl rfl (hl0 w' hS') ?_)); exact hK); (first | exact hSS | assumption))
          (apply wpOrd_p2 rfl rfl rfl rfl rfl; (intro w' K hK; (first | go_big_move | go_big_op | go_wp2_with fail); exact hK))
          (apply wpOrd_p2 rfl rfl rfl rfl rfl; (intro w' K hK; (first | go_big_move | go_big_op | go_wp2_with fail); exact hK))
          (apply wpOrd_l2 rfl rfl rfl rfl rfl; (intro w' K hS' hK; (first | (refine wp_load_cell 46 _ rfl _ 62 rfl _ _ _ _ _ ((hS' _ hlp (by simp)).trans hp) Try.underlying46 rfl ((stA_at _ _ _).trans r61) ?_) | (refine wp_load_cell 46 _ rfl _ 62 rfl _ _ _ _ _ ((hS' _ hlq (by simp)).trans hq) Try.underlying46 rfl ((stA_at _ _ _).trans r61) ?_) | (refine wp_load_run 45 _ rfl rfl (hl0 w' hS') ?_)); exact hK); (first | exact hSS | assumption))
          (refine wpOrd_e1 rfl rfl (fun K hK => ?_)); (first | go_big_op | go_wp2_with fail)
          refine (sg_same m' px' pl' pc' cx' cl' cc' fe' fs' u' _).mono ?_; rintro e w5 ⟨rfl, hb⟩; have hB_w5 : Below w.heap.size w w5 := below_then (w := w) (by with_reducible repeat (first | exact Below.refl _ _ | assumption | ((first | refine Below.alloc ?_ ?b_ _ | refine bw_set ?_ ?b_ | refine Below.setCell ?_ ?b_ _); case b_ => first | omega | (simp; done) | (simp; omega)) | refine Below.drew ?_ | refine below_drewN ?_ _)) (by first | omega | (simp; done) | (simp; omega)) hb; have hp5 := rw_below hb (rw_drew hp); have hq5 := rw_below hb (rw_drew hq); have hH5 : Held wr [] w5 := Held.then (by with_reducible repeat (first | exact Held.refl _ _ | assumption | refine Held.drew ?_ | (refine Held.alloc ?_ ?s_ _; case s_ => first | omega | (simp; done) | (simp; omega)) | (refine Held.setRow ?_ ?g_; case g_ => simp))) (by first | omega | (simp; done) | (simp; omega)) hb; refine hK _ _ hH5 ?_; clear hK K hb
          (apply wpOrd_p2 rfl rfl rfl rfl rfl; (intro w' K hK; (first | go_big_move | go_big_op | go_wp2_with fail); exact hK))
          refine wpOrd_nil ?_
          skip
          go_wp2_with fail
          go_roundw
          case rel => exact ⟨i + 1, by omega, by go_num, hB_w5, hp5, hq5⟩
          case measure => simp [intOf]; omega
        · have hin : i = lst := by omega
          subst hin
          go_upto_region 14 with fail
          clear p62 q62
          have hg0 := box_G m px pl pc cx cl cc fe fs u hp rG
          have hg1 := box_G m px pl pc cx cl cc fe fs u hq rG
          go_wp2_with (first | ((with_reducible refine rw_list ?_); (with_reducible apply wpList_load_run); (case ho => with_reducible rfl); (case hgd => with_reducible rfl); (case hx => rfl); (case hr => first | exact hg0 | exact hg1)))
          refine (sg_same m px pl pc cx cl cc fe fs u _).mono ?_
          rintro e w6 ⟨rfl, hb⟩
          have hs_w6 := hb.size
          (try simp at hs_w6)
          have hB_w6 : Below w.heap.size w w6 := below_then (w := w) (by with_reducible repeat (first | exact Below.refl _ _ | assumption | ((first | refine Below.alloc ?_ ?b_ _ | refine bw_set ?_ ?b_ | refine Below.setCell ?_ ?b_ _); case b_ => first | omega | (simp; done) | (simp; omega)) | refine Below.drew ?_ | refine below_drewN ?_ _)) (by first | omega | (simp; done) | (simp; omega) | (have hq_ := hb.size; omega)) hb
          have hx_ := rw_below (k := w.heap.size) hb (by with_reducible repeat (first | assumption | (refine rw_new ?e_; case e_ => first | rfl | (simp; done) | (simp; omega)) | apply rw_self | (apply rw_other; case hn => first | omega | (simp; omega)) | apply rw_alloc | apply rw_drew | apply rw_drewN))
          (try clear hp)
          have hp := hx_
          clear hx_
          have hx_ := rw_below (k := w.heap.size + 1) hb (by with_reducible repeat (first | assumption | (refine rw_new ?e_; case e_ => first | rfl | (simp; done) | (simp; omega)) | apply rw_self | (apply rw_other; case hn => first | omega | (simp; omega)) | apply rw_alloc | apply rw_drew | apply rw_drewN))
          (try clear hq)
          have hq := hx_
          clear hx_
          clear hb
          clear hg0 hg1
          have p63 := (cell_of_row _ _ 63 _ _ _ hp).trans ((stA_at _ R 62).trans r62)
          have q63 := (cell_of_row _ _ 63 _ _ _ hq).trans ((stA_at _ R 62).trans r62)
          have p64 := (cell_of_row _ _ 64 _ _ _ hp).trans ((stA_at _ R 63).trans r63)
          have q64 := (cell_of_row _ _ 64 _ _ _ hq).trans ((stA_at _ R 63).trans r63)
          go_wp2_with fail
          go_ret
          exact ⟨rfl, (by with_reducible repeat (first | exact Below.refl _ _ | assumption | ((first | refine Below.alloc ?_ ?b_ _ | refine bw_set ?_ ?b_ | refine Below.setCell ?_ ?b_ _); case b_ => first | omega | (simp; done) | (simp; omega)) | refine Below.drew ?_ | refine below_drewN ?_ _))⟩
end Go.Proofs.Ytiadenokcpnliaa.T3
