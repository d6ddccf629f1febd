/- chapter 12: states are alike: cells, graphics. -/
import Derived.Test.YtiadenokcpnliaaStM
import Derived.WalkKit
import Derived.Lib.Hide
import Derived.Deep.QuietTactic
import Derived.BigQuiet
import Derived.Lib.QuietBelow
import Derived.Deep.RegionHeld3
import Derived.WalkLawsBesides
import Derived.WalkSpells
import Derived.Outline
import Derived.Deep.DeepFit
import Derived.Maps.AppendAt
import Derived.Deep.AppendLies
import Derived.Deep.CutRange
import Derived.ChangeKeysEq
import Derived.OpenShut
namespace Go.Proofs.Ytiadenokcpnliaa.T3
set_option linter.unusedSimpArgs false
set_option linter.unusedVariables false
open Go.RowKit
attribute [local go_sem] Oper.semAt_some
set_option maxHeartbeats 4000000
set_option maxRecDepth 100000

theorem cel7 {w : World} {b t : Nat} {v0 v1 v2 v3 v4 v5 v6 : Value} (h : w.heap[b]? = some (.cells #[v0, v1, v2, v3, v4, v5, v6] t (0, 0))) : w.cell? ⟨b, 0, none⟩ = some v0 ∧ w.cell? ⟨b, 1, none⟩ = some v1 ∧ w.cell? ⟨b, 2, none⟩ = some v2 ∧ w.cell? ⟨b, 3, none⟩ = some v3 ∧ w.cell? ⟨b, 4, none⟩ = some v4 ∧ w.cell? ⟨b, 5, none⟩ = some v5 ∧ w.cell? ⟨b, 6, none⟩ = some v6 := by
  refine ⟨?_, ?_, ?_, ?_, ?_, ?_, ?_⟩ <;> simp [World.cell?, h]
def ObL (w : World) (x : Option Addr) (l : Nat) : Prop := ∃ L, Obs (fun _ => True) w x L ∧ L.length = l ∧ l ≤ 9223372036854775807
theorem ObL.below {w w' : World} {B : Nat} {x : Option Addr} {l : Nat} (h : ObL w x l) (hb : Below B w w') (hB : w.heap.size ≤ B) : ObL w' x l := by
  obtain ⟨L, h1, h2⟩ := h
  exact ⟨L, h1.below hb hB, h2⟩
theorem so_obl {x : Option Addr} {l : Nat} (c1 c2 : Nat) (w : World) (h : ObL w x l) : Calls Try.prog 42 #[.slice x l c1, .slice x l c2] w fun e w' => e = .returned (.bool true) ∧ Below w.heap.size w w' := by
  obtain ⟨L, h1, h2, h3⟩ := h
  exact so_same l c1 c2 h2 h3 w h1 h1
def CellOk (w : World) (es : List Value) : Prop := ∃ (k : Int) (s : ByteArray) (x1 : Option Addr) (l1 c1 : Nat) (x2 : Option Addr) (l2 c2 : Nat) (x3 : Option Addr) (l3 c3 : Nat) (m a : Int), es = [.int .i64 k, .string s, .slice x1 l1 c1, .slice x2 l2 c2, .slice x3 l3 c3, .int .i64 m, .int .i64 a] ∧ ObL w x1 l1 ∧ ObL w x2 l2 ∧ ObL w x3 l3
theorem CellOk.below {w w' : World} {B : Nat} {es : List Value} (h : CellOk w es) (hb : Below B w w') (hB : w.heap.size ≤ B) : CellOk w' es := by
  obtain ⟨k, s, x1, l1, c1, x2, l2, c2, x3, l3, c3, m, a, rfl, h1, h2, h3⟩ := h
  exact ⟨k, s, x1, l1, c1, x2, l2, c2, x3, l3, c3, m, a, rfl, h1.below hb hB, h2.below hb hB, h3.below hb hB⟩
theorem sc_same (k : Int) (s : ByteArray) (x1 : Option Addr) (l1 c1 : Nat) (x2 : Option Addr) (l2 c2 : Nat) (x3 : Option Addr) (l3 c3 : Nat) (m a : Int) (w : World) (h1 : ObL w x1 l1) (h2 : ObL w x2 l2) (h3 : ObL w x3 l3) :
    Calls Try.prog 50 #[.agg #[.int .i64 k, .string s, .slice x1 l1 c1, .slice x2 l2 c2, .slice x3 l3 c3, .int .i64 m, .int .i64 a], .agg #[.int .i64 k, .string s, .slice x1 l1 c1, .slice x2 l2 c2, .slice x3 l3 c3, .int .i64 m, .int .i64 a]] w fun e w' => e = .returned (.bool true) ∧ Below w.heap.size w w' := by
  go_enter Try.func50, Try.ntmps50
  go_upto_region 1 with fail
  generalize hwy_ : World.alloc _ _ = wy
  have hB_wy : Below w.heap.size w wy := bw_eq hwy_ (by with_reducible repeat (first | exact Below.refl _ _ | assumption | ((first | refine Below.alloc ?_ ?b_ _ | refine bw_set ?_ ?b_ | refine Below.setCell ?_ ?b_ _); case b_ => first | omega | (simp; done) | (simp; omega)) | refine Below.drew ?_ | refine below_drewN ?_ _))
  have hx_ := rw_eq (k := w.heap.size) hwy_ (by with_reducible repeat (first | assumption | (refine rw_new ?e_; case e_ => first | rfl | (simp; done) | (simp; omega)) | apply rw_self | (apply rw_other; case hn => first | omega | (simp; omega)) | apply rw_alloc | apply rw_drew | apply rw_drewN))
  (try clear hp)
  have hp := hx_
  clear hx_
  have hl_hp := rw_lt hp
  (try clear hpc0 hpc1 hpc2 hpc3 hpc4 hpc5 hpc6)
  obtain ⟨hpc0, hpc1, hpc2, hpc3, hpc4, hpc5, hpc6⟩ := cel7 hp
  have hx_ := rw_eq (k := w.heap.size + 1) hwy_ (by with_reducible repeat (first | assumption | (refine rw_new ?e_; case e_ => first | rfl | (simp; done) | (simp; omega)) | apply rw_self | (apply rw_other; case hn => first | omega | (simp; omega)) | apply rw_alloc | apply rw_drew | apply rw_drewN))
  (try clear hq)
  have hq := hx_
  clear hx_
  have hl_hq := rw_lt hq
  (try clear hqc0 hqc1 hqc2 hqc3 hqc4 hqc5 hqc6)
  obtain ⟨hqc0, hqc1, hqc2, hqc3, hqc4, hqc5, hqc6⟩ := cel7 hq
  clear hwy_
  go_wp2_with fail
  refine (so_obl _ _ _ (h1.below (B := w.heap.size) (by with_reducible repeat (first | exact Below.refl _ _ | assumption | ((first | refine Below.alloc ?_ ?b_ _ | refine bw_set ?_ ?b_ | refine Below.setCell ?_ ?b_ _); case b_ => first | omega | (simp; done) | (simp; omega)) | refine Below.drew ?_ | refine below_drewN ?_ _)) (Nat.le_refl _))).mono ?_
  rintro e w1 ⟨rfl, hb⟩
  have hs_w1 := hb.size
  (try simp at hs_w1)
  have hB_w1 : Below w.heap.size w w1 := below_then (w := w) (by with_reducible repeat (first | exact Below.refl _ _ | assumption | ((first | refine Below.alloc ?_ ?b_ _ | refine bw_set ?_ ?b_ | refine Below.setCell ?_ ?b_ _); case b_ => first | omega | (simp; done) | (simp; omega)) | refine Below.drew ?_ | refine below_drewN ?_ _)) (by first | omega | (simp; done) | (simp; omega) | (have hq_ := hb.size; omega)) hb
  have hx_ := rw_below (k := w.heap.size) hb (by with_reducible repeat (first | assumption | (refine rw_new ?e_; case e_ => first | rfl | (simp; done) | (simp; omega)) | apply rw_self | (apply rw_other; case hn => first | omega | (simp; omega)) | apply rw_alloc | apply rw_drew | apply rw_drewN))
  (try clear hp)
  (try clear hpc0 hpc1 hpc2 hpc3 hpc4 hpc5 hpc6)
  have hp := hx_
  clear hx_
  obtain ⟨hpc0, hpc1, hpc2, hpc3, hpc4, hpc5, hpc6⟩ := cel7 hp
  have hx_ := rw_below (k := w.heap.size + 1) hb (by with_reducible repeat (first | assumption | (refine rw_new ?e_; case e_ => first | rfl | (simp; done) | (simp; omega)) | apply rw_self | (apply rw_other; case hn => first | omega | (simp; omega)) | apply rw_alloc | apply rw_drew | apply rw_drewN))
  (try clear hq)
  (try clear hqc0 hqc1 hqc2 hqc3 hqc4 hqc5 hqc6)
  have hq := hx_
  clear hx_
  obtain ⟨hqc0, hqc1, hqc2, hqc3, hqc4, hqc5, hqc6⟩ := cel7 hq
  clear hb
  go_wp2_with fail
  refine (so_obl _ _ _ (h2.below (B := w.heap.size) (by with_reducible repeat (first | exact Below.refl _ _ | assumption | ((first | refine Below.alloc ?_ ?b_ _ | refine bw_set ?_ ?b_ | refine Below.setCell ?_ ?b_ _); case b_ => first | omega | (simp; done) | (simp; omega)) | refine Below.drew ?_ | refine below_drewN ?_ _)) (Nat.le_refl _))).mono ?_
  rintro e w2 ⟨rfl, hb⟩
  have hs_w2 := hb.size
  (try simp at hs_w2)
  have hB_w2 : Below w.heap.size w w2 := below_then (w := w) (by with_reducible repeat (first | exact Below.refl _ _ | assumption | ((first | refine Below.alloc ?_ ?b_ _ | refine bw_set ?_ ?b_ | refine Below.setCell ?_ ?b_ _); case b_ => first | omega | (simp; done) | (simp; omega)) | refine Below.drew ?_ | refine below_drewN ?_ _)) (by first | omega | (simp; done) | (simp; omega) | (have hq_ := hb.size; omega)) hb
  have hx_ := rw_below (k := w.heap.size) hb (by with_reducible repeat (first | assumption | (refine rw_new ?e_; case e_ => first | rfl | (simp; done) | (simp; omega)) | apply rw_self | (apply rw_other; case hn => first | omega | (simp; omega)) | apply rw_alloc | apply rw_drew | apply rw_drewN))
  (try clear hp)
  (try clear hpc0 hpc1 hpc2 hpc3 hpc4 hpc5 hpc6)
  have hp := hx_
  clear hx_
  obtain ⟨hpc0, hpc1, hpc2, hpc3, hpc4, hpc5, hpc6⟩ := cel7 hp
  have hx_ := rw_below (k := w.heap.size + 1) hb (by with_reducible repeat (first | assumption | (refine rw_new ?e_; case e_ => first | rfl | (simp; done) | (simp; omega)) | apply rw_self | (apply rw_other; case hn => first | omega | (simp; omega)) | apply rw_alloc | apply rw_drew | apply rw_drewN))
  (try clear hq)
  (try clear hqc0 hqc1 hqc2 hqc3 hqc4 hqc5 hqc6)
  have hq := hx_
  clear hx_
  obtain ⟨hqc0, hqc1, hqc2, hqc3, hqc4, hqc5, hqc6⟩ := cel7 hq
  clear hb
  go_wp2_with fail
  refine (so_obl _ _ _ (h3.below (B := w.heap.size) (by with_reducible repeat (first | exact Below.refl _ _ | assumption | ((first | refine Below.alloc ?_ ?b_ _ | refine bw_set ?_ ?b_ | refine Below.setCell ?_ ?b_ _); case b_ => first | omega | (simp; done) | (simp; omega)) | refine Below.drew ?_ | refine below_drewN ?_ _)) (Nat.le_refl _))).mono ?_
  rintro e w3 ⟨rfl, hb⟩
  have hs_w3 := hb.size
  (try simp at hs_w3)
  have hB_w3 : Below w.heap.size w w3 := below_then (w := w) (by with_reducible repeat (first | exact Below.refl _ _ | assumption | ((first | refine Below.alloc ?_ ?b_ _ | refine bw_set ?_ ?b_ | refine Below.setCell ?_ ?b_ _); case b_ => first | omega | (simp; done) | (simp; omega)) | refine Below.drew ?_ | refine below_drewN ?_ _)) (by first | omega | (simp; done) | (simp; omega) | (have hq_ := hb.size; omega)) hb
  have hx_ := rw_below (k := w.heap.size) hb (by with_reducible repeat (first | assumption | (refine rw_new ?e_; case e_ => first | rfl | (simp; done) | (simp; omega)) | apply rw_self | (apply rw_other; case hn => first | omega | (simp; omega)) | apply rw_alloc | apply rw_drew | apply rw_drewN))
  (try clear hp)
  (try clear hpc0 hpc1 hpc2 hpc3 hpc4 hpc5 hpc6)
  have hp := hx_
  clear hx_
  obtain ⟨hpc0, hpc1, hpc2, hpc3, hpc4, hpc5, hpc6⟩ := cel7 hp
  have hx_ := rw_below (k := w.heap.size + 1) hb (by with_reducible repeat (first | assumption | (refine rw_new ?e_; case e_ => first | rfl | (simp; done) | (simp; omega)) | apply rw_self | (apply rw_other; case hn => first | omega | (simp; omega)) | apply rw_alloc | apply rw_drew | apply rw_drewN))
  (try clear hq)
  (try clear hqc0 hqc1 hqc2 hqc3 hqc4 hqc5 hqc6)
  have hq := hx_
  clear hx_
  obtain ⟨hqc0, hqc1, hqc2, hqc3, hqc4, hqc5, hqc6⟩ := cel7 hq
  clear hb
  go_wp2_with fail
  go_ret
  exact ⟨rfl, (by with_reducible repeat (first | exact Below.refl _ _ | assumption | ((first | refine Below.alloc ?_ ?b_ _ | refine bw_set ?_ ?b_ | refine Below.setCell ?_ ?b_ _); case b_ => first | omega | (simp; done) | (simp; omega)) | refine Below.drew ?_ | refine below_drewN ?_ _))⟩
theorem int_eq (d : Nat) (a : Int) (w : World) : (Op.equalIn (d + 1) 3 (.int .i64 a) (.int .i64 a)).run Try.prog w = .ok true w := by
  unfold Op.equalIn
  simp only [Sem.run_bind, run_underlying Try.underlying3, Result.andThen_ok]
  simp
theorem items_eq (cs : Array Value) (n : Nat) (f : Nat → Int) (hf : ∀ j, j < n → cs[j]? = some (.int .i64 (f j))) (w : World) : ∀ l : List Nat, (∀ j ∈ l, j < n) → (Op.eqItems 9999 3 1 cs cs l).run Try.prog w = .ok true w
  | [], _ => rfl
  | j :: l, h => by
    have hj := h j (by simp)
    have hp : (part 3 cs (j * 1)).run Try.prog w = .ok (.int .i64 (f j)) w := run_part_plain w (by kernel_rfl) (by rw [Nat.mul_one]; exact hf j hj)
    have he : (Op.equalIn 9999 3 (.int .i64 (f j)) (.int .i64 (f j))).run Try.prog w = .ok true w := int_eq 9998 _ w
    unfold Op.eqItems
    simp only [Sem.run_bind, hp, he, Result.andThen_ok]
    simp only [Bool.not_true, Bool.false_eq_true, if_false]
    exact items_eq cs n f hf w l (fun x hx => h x (by simp [hx]))
theorem ink_eq (a b c d : Int) (w : World) : (Op.equalIn 10000 30 (.agg #[.int .i64 a, .int .i64 b, .int .i64 c, .int .i64 d]) (.agg #[.int .i64 a, .int .i64 b, .int .i64 c, .int .i64 d])).run Try.prog w = .ok true w := by
  obtain ⟨i, hi⟩ := info_of_underlying Try.underlying3
  have h := run_equalIn_array (P := Try.prog) w 9999 #[.int .i64 a, .int .i64 b, .int .i64 c, .int .i64 d] #[.int .i64 a, .int .i64 b, .int .i64 c, .int .i64 d] Try.underlying30 hi
  have hc : Try.prog.cellsOf 3 = 1 := by kernel_rfl
  rw [hc, items_eq _ 4 (fun j => [a, b, c, d].getD j 0) (fun j hj => by
    have : j = 0 ∨ j = 1 ∨ j = 2 ∨ j = 3 := by omega
    rcases this with rfl | rfl | rfl | rfl <;> rfl) w _ (fun j hj => by simpa using hj)] at h
  exact h
def gC (m : Nat → Int) (px : Option Addr) (pl pc : Nat) (cx : Option Addr) (cl cc : Nat) (fe : Bool) (fs : ByteArray) (u : Nat → Value) : List Value := [.int .i64 (m 0), .int .i64 (m 1), .int .i64 (m 2), .int .i64 (m 3), .int .i64 (m 4), .int .i64 (m 5), .slice px pl pc, .int .i64 (m 7), .int .i64 (m 8), .int .i64 (m 9), .int .i64 (m 10), .int .i64 (m 11), u 12, u 13, u 14, u 15, u 16, u 17, u 18, u 19, u 20, u 21, u 22, u 23, u 24, u 25, u 26, u 27, u 28, u 29, u 30, u 31, u 32, u 33, .int .i64 (m 34), u 35, u 36, u 37, u 38, u 39, .int .i64 (m 40), .slice cx cl cc, .int .i64 (m 42), .bool fe, .int .i64 (m 44), .string fs, .int .i64 (m 46), .int .i64 (m 47), .int .i64 (m 48), .int .i64 (m 49), .int .i64 (m 50), .int .i64 (m 51), .int .i64 (m 52), .int .i64 (m 53), .int .i64 (m 54), .int .i64 (m 55), .int .i64 (m 56)]
theorem sg_same (m : Nat → Int) (px : Option Addr) (pl pc : Nat) (cx : Option Addr) (cl cc : Nat) (fe : Bool) (fs : ByteArray) (u : Nat → Value) (w : World) : Calls Try.prog 44 #[.agg #[.int .i64 (m 0), .int .i64 (m 1), .int .i64 (m 2), .int .i64 (m 3), .int .i64 (m 4), .int .i64 (m 5), .slice px pl pc, .int .i64 (m 7), .int .i64 (m 8), .int .i64 (m 9), .int .i64 (m 10), .int .i64 (m 11), u 12, u 13, u 14, u 15, u 16, u 17, u 18, u 19, u 20, u 21, u 22, u 23, u 24, u 25, u 26, u 27, u 28, u 29, u 30, u 31, u 32, u 33, .int .i64 (m 34), u 35, u 36, u 37, u 38, u 39, .int .i64 (m 40), .slice cx cl cc, .int .i64 (m 42), .bool fe, .int .i64 (m 44), .string fs, .int .i64 (m 46), .int .i64 (m 47), .int .i64 (m 48), .int .i64 (m 49), .int .i64 (m 50), .int .i64 (m 51), .int .i64 (m 52), .int .i64 (m 53), .int .i64 (m 54), .int .i64 (m 55), .int .i64 (m 56)], .agg #[.int .i64 (m 0), .int .i64 (m 1), .int .i64 (m 2), .int .i64 (m 3), .int .i64 (m 4), .int .i64 (m 5), .slice px pl pc, .int .i64 (m 7), .int .i64 (m 8), .int .i64 (m 9), .int .i64 (m 10), .int .i64 (m 11), u 12, u 13, u 14, u 15, u 16, u 17, u 18, u 19, u 20, u 21, u 22, u 23, u 24, u 25, u 26, u 27, u 28, u 29, u 30, u 31, u 32, u 33, .int .i64 (m 34), u 35, u 36, u 37, u 38, u 39, .int .i64 (m 40), .slice cx cl cc, .int .i64 (m 42), .bool fe, .int .i64 (m 44), .string fs, .int .i64 (m 46), .int .i64 (m 47), .int .i64 (m 48), .int .i64 (m 49), .int .i64 (m 50), .int .i64 (m 51), .int .i64 (m 52), .int .i64 (m 53), .int .i64 (m 54), .int .i64 (m 55), .int .i64 (m 56)]] w fun e w' => e = .returned (.bool true) ∧ Below w.heap.size w w' := by
  go_enter Try.func44, Try.ntmps44
  go_upto_region 1 with fail
  generalize hwy_ : World.alloc _ _ = wy
  have hB_wy : Below w.heap.size w wy := bw_eq hwy_ (by with_reducible repeat (first | exact Below.refl _ _ | assumption | ((first | refine Below.alloc ?_ ?b_ _ | refine bw_set ?_ ?b_ | refine Below.setCell ?_ ?b_ _); case b_ => first | omega | (simp; done) | (simp; omega)) | refine Below.drew ?_ | refine below_drewN ?_ _))
  have hx_ := rw_eq (k := w.heap.size) hwy_ (by with_reducible repeat (first | assumption | (refine rw_new ?e_; case e_ => first | rfl | (simp; done) | (simp; omega)) | apply rw_self | (apply rw_other; case hn => first | omega | (simp; omega)) | apply rw_alloc | apply rw_drew | apply rw_drewN))
  (try clear hp)
  have hp := hx_
  clear hx_
  have hl_hp := rw_lt hp
  have hx_ := rw_eq (k := w.heap.size + 1) hwy_ (by with_reducible repeat (first | assumption | (refine rw_new ?e_; case e_ => first | rfl | (simp; done) | (simp; omega)) | apply rw_self | (apply rw_other; case hn => first | omega | (simp; omega)) | apply rw_alloc | apply rw_drew | apply rw_drewN))
  (try clear hq)
  have hq := hx_
  clear hx_
  have hl_hq := rw_lt hq
  clear hwy_
  have p0 : wy.cell? ⟨w.heap.size, 0, none⟩ = some (.int .i64 (m 0)) := (cell_of_row _ _ _ _ _ _ hp).trans rfl
  have q0 : wy.cell? ⟨w.heap.size + 1, 0, none⟩ = some (.int .i64 (m 0)) := (cell_of_row _ _ _ _ _ _ hq).trans rfl
  have p1 : wy.cell? ⟨w.heap.size, 1, none⟩ = some (.int .i64 (m 1)) := (cell_of_row _ _ _ _ _ _ hp).trans rfl
  have q1 : wy.cell? ⟨w.heap.size + 1, 1, none⟩ = some (.int .i64 (m 1)) := (cell_of_row _ _ _ _ _ _ hq).trans rfl
  have p2 : wy.cell? ⟨w.heap.size, 2, none⟩ = some (.int .i64 (m 2)) := (cell_of_row _ _ _ _ _ _ hp).trans rfl
  have q2 : wy.cell? ⟨w.heap.size + 1, 2, none⟩ = some (.int .i64 (m 2)) := (cell_of_row _ _ _ _ _ _ hq).trans rfl
  have p3 : wy.cell? ⟨w.heap.size, 3, none⟩ = some (.int .i64 (m 3)) := (cell_of_row _ _ _ _ _ _ hp).trans rfl
  have q3 : wy.cell? ⟨w.heap.size + 1, 3, none⟩ = some (.int .i64 (m 3)) := (cell_of_row _ _ _ _ _ _ hq).trans rfl
  have p4 : wy.cell? ⟨w.heap.size, 4, none⟩ = some (.int .i64 (m 4)) := (cell_of_row _ _ _ _ _ _ hp).trans rfl
  have q4 : wy.cell? ⟨w.heap.size + 1, 4, none⟩ = some (.int .i64 (m 4)) := (cell_of_row _ _ _ _ _ _ hq).trans rfl
  have p5 : wy.cell? ⟨w.heap.size, 5, none⟩ = some (.int .i64 (m 5)) := (cell_of_row _ _ _ _ _ _ hp).trans rfl
  have q5 : wy.cell? ⟨w.heap.size + 1, 5, none⟩ = some (.int .i64 (m 5)) := (cell_of_row _ _ _ _ _ _ hq).trans rfl
  have p6 : wy.cell? ⟨w.heap.size, 6, none⟩ = some (.slice px pl pc) := (cell_of_row _ _ _ _ _ _ hp).trans rfl
  have q6 : wy.cell? ⟨w.heap.size + 1, 6, none⟩ = some (.slice px pl pc) := (cell_of_row _ _ _ _ _ _ hq).trans rfl
  have p7 : wy.cell? ⟨w.heap.size, 7, none⟩ = some (.int .i64 (m 7)) := (cell_of_row _ _ _ _ _ _ hp).trans rfl
  have q7 : wy.cell? ⟨w.heap.size + 1, 7, none⟩ = some (.int .i64 (m 7)) := (cell_of_row _ _ _ _ _ _ hq).trans rfl
  have p8 : wy.cell? ⟨w.heap.size, 8, none⟩ = some (.int .i64 (m 8)) := (cell_of_row _ _ _ _ _ _ hp).trans rfl
  have q8 : wy.cell? ⟨w.heap.size + 1, 8, none⟩ = some (.int .i64 (m 8)) := (cell_of_row _ _ _ _ _ _ hq).trans rfl
  have p9 : wy.cell? ⟨w.heap.size, 9, none⟩ = some (.int .i64 (m 9)) := (cell_of_row _ _ _ _ _ _ hp).trans rfl
  have q9 : wy.cell? ⟨w.heap.size + 1, 9, none⟩ = some (.int .i64 (m 9)) := (cell_of_row _ _ _ _ _ _ hq).trans rfl
  have p10 : wy.cell? ⟨w.heap.size, 10, none⟩ = some (.int .i64 (m 10)) := (cell_of_row _ _ _ _ _ _ hp).trans rfl
  have q10 : wy.cell? ⟨w.heap.size + 1, 10, none⟩ = some (.int .i64 (m 10)) := (cell_of_row _ _ _ _ _ _ hq).trans rfl
  have p11 : wy.cell? ⟨w.heap.size, 11, none⟩ = some (.int .i64 (m 11)) := (cell_of_row _ _ _ _ _ _ hp).trans rfl
  have q11 : wy.cell? ⟨w.heap.size + 1, 11, none⟩ = some (.int .i64 (m 11)) := (cell_of_row _ _ _ _ _ _ hq).trans rfl
  have p34 : wy.cell? ⟨w.heap.size, 34, none⟩ = some (.int .i64 (m 34)) := (cell_of_row _ _ _ _ _ _ hp).trans rfl
  have q34 : wy.cell? ⟨w.heap.size + 1, 34, none⟩ = some (.int .i64 (m 34)) := (cell_of_row _ _ _ _ _ _ hq).trans rfl
  have p40 : wy.cell? ⟨w.heap.size, 40, none⟩ = some (.int .i64 (m 40)) := (cell_of_row _ _ _ _ _ _ hp).trans rfl
  have q40 : wy.cell? ⟨w.heap.size + 1, 40, none⟩ = some (.int .i64 (m 40)) := (cell_of_row _ _ _ _ _ _ hq).trans rfl
  have p41 : wy.cell? ⟨w.heap.size, 41, none⟩ = some (.slice cx cl cc) := (cell_of_row _ _ _ _ _ _ hp).trans rfl
  have q41 : wy.cell? ⟨w.heap.size + 1, 41, none⟩ = some (.slice cx cl cc) := (cell_of_row _ _ _ _ _ _ hq).trans rfl
  have p42 : wy.cell? ⟨w.heap.size, 42, none⟩ = some (.int .i64 (m 42)) := (cell_of_row _ _ _ _ _ _ hp).trans rfl
  have q42 : wy.cell? ⟨w.heap.size + 1, 42, none⟩ = some (.int .i64 (m 42)) := (cell_of_row _ _ _ _ _ _ hq).trans rfl
  have p43 : wy.cell? ⟨w.heap.size, 43, none⟩ = some (.bool fe) := (cell_of_row _ _ _ _ _ _ hp).trans rfl
  have q43 : wy.cell? ⟨w.heap.size + 1, 43, none⟩ = some (.bool fe) := (cell_of_row _ _ _ _ _ _ hq).trans rfl
  have p44 : wy.cell? ⟨w.heap.size, 44, none⟩ = some (.int .i64 (m 44)) := (cell_of_row _ _ _ _ _ _ hp).trans rfl
  have q44 : wy.cell? ⟨w.heap.size + 1, 44, none⟩ = some (.int .i64 (m 44)) := (cell_of_row _ _ _ _ _ _ hq).trans rfl
  have p45 : wy.cell? ⟨w.heap.size, 45, none⟩ = some (.string fs) := (cell_of_row _ _ _ _ _ _ hp).trans rfl
  have q45 : wy.cell? ⟨w.heap.size + 1, 45, none⟩ = some (.string fs) := (cell_of_row _ _ _ _ _ _ hq).trans rfl
  have p46 : wy.cell? ⟨w.heap.size, 46, none⟩ = some (.int .i64 (m 46)) := (cell_of_row _ _ _ _ _ _ hp).trans rfl
  have q46 : wy.cell? ⟨w.heap.size + 1, 46, none⟩ = some (.int .i64 (m 46)) := (cell_of_row _ _ _ _ _ _ hq).trans rfl
  have p47 : wy.cell? ⟨w.heap.size, 47, none⟩ = some (.int .i64 (m 47)) := (cell_of_row _ _ _ _ _ _ hp).trans rfl
  have q47 : wy.cell? ⟨w.heap.size + 1, 47, none⟩ = some (.int .i64 (m 47)) := (cell_of_row _ _ _ _ _ _ hq).trans rfl
  have p48 : wy.cell? ⟨w.heap.size, 48, none⟩ = some (.int .i64 (m 48)) := (cell_of_row _ _ _ _ _ _ hp).trans rfl
  have q48 : wy.cell? ⟨w.heap.size + 1, 48, none⟩ = some (.int .i64 (m 48)) := (cell_of_row _ _ _ _ _ _ hq).trans rfl
  have p49 : wy.cell? ⟨w.heap.size, 49, none⟩ = some (.int .i64 (m 49)) := (cell_of_row _ _ _ _ _ _ hp).trans rfl
  have q49 : wy.cell? ⟨w.heap.size + 1, 49, none⟩ = some (.int .i64 (m 49)) := (cell_of_row _ _ _ _ _ _ hq).trans rfl
  have p50 : wy.cell? ⟨w.heap.size, 50, none⟩ = some (.int .i64 (m 50)) := (cell_of_row _ _ _ _ _ _ hp).trans rfl
  have q50 : wy.cell? ⟨w.heap.size + 1, 50, none⟩ = some (.int .i64 (m 50)) := (cell_of_row _ _ _ _ _ _ hq).trans rfl
  have p51 : wy.cell? ⟨w.heap.size, 51, none⟩ = some (.int .i64 (m 51)) := (cell_of_row _ _ _ _ _ _ hp).trans rfl
  have q51 : wy.cell? ⟨w.heap.size + 1, 51, none⟩ = some (.int .i64 (m 51)) := (cell_of_row _ _ _ _ _ _ hq).trans rfl
  have p52 : wy.cell? ⟨w.heap.size, 52, none⟩ = some (.int .i64 (m 52)) := (cell_of_row _ _ _ _ _ _ hp).trans rfl
  have q52 : wy.cell? ⟨w.heap.size + 1, 52, none⟩ = some (.int .i64 (m 52)) := (cell_of_row _ _ _ _ _ _ hq).trans rfl
  have p53 : wy.cell? ⟨w.heap.size, 53, none⟩ = some (.int .i64 (m 53)) := (cell_of_row _ _ _ _ _ _ hp).trans rfl
  have q53 : wy.cell? ⟨w.heap.size + 1, 53, none⟩ = some (.int .i64 (m 53)) := (cell_of_row _ _ _ _ _ _ hq).trans rfl
  have p54 : wy.cell? ⟨w.heap.size, 54, none⟩ = some (.int .i64 (m 54)) := (cell_of_row _ _ _ _ _ _ hp).trans rfl
  have q54 : wy.cell? ⟨w.heap.size + 1, 54, none⟩ = some (.int .i64 (m 54)) := (cell_of_row _ _ _ _ _ _ hq).trans rfl
  have p55 : wy.cell? ⟨w.heap.size, 55, none⟩ = some (.int .i64 (m 55)) := (cell_of_row _ _ _ _ _ _ hp).trans rfl
  have q55 : wy.cell? ⟨w.heap.size + 1, 55, none⟩ = some (.int .i64 (m 55)) := (cell_of_row _ _ _ _ _ _ hq).trans rfl
  have p56 : wy.cell? ⟨w.heap.size, 56, none⟩ = some (.int .i64 (m 56)) := (cell_of_row _ _ _ _ _ _ hp).trans rfl
  have q56 : wy.cell? ⟨w.heap.size + 1, 56, none⟩ = some (.int .i64 (m 56)) := (cell_of_row _ _ _ _ _ _ hq).trans rfl
  have hink := ink_eq
  go_wp2_with fail
  go_ret
  exact ⟨rfl, (by with_reducible repeat (first | exact Below.refl _ _ | assumption | ((first | refine Below.alloc ?_ ?b_ _ | refine bw_set ?_ ?b_ | refine Below.setCell ?_ ?b_ _); case b_ => first | omega | (simp; done) | (simp; omega)) | refine Below.drew ?_ | refine below_drewN ?_ _))⟩
end Go.Proofs.Ytiadenokcpnliaa.T3
