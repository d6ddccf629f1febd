/- chapter 12: the operators: pop, clear, mark, dup, copy, cleartomark. -/
import Derived.Test.YtiadenokcpnliaaStE
import Derived.WalkKit
import Derived.Lib.Hide
import Derived.Deep.QuietTactic
import Derived.BigQuiet
import Derived.Lib.QuietBelow
import Derived.Deep.RegionHeld3
import Derived.WalkLawsBesides
import Derived.WalkSpells
import Derived.Outline
import Derived.Deep.DeepFit
import Derived.Maps.AppendAt
import Derived.Deep.AppendLies
import Derived.Deep.CutRange
import Derived.OpenShut
import Derived.WalkMore
namespace Go.Proofs.Ytiadenokcpnliaa.T3
set_option linter.unusedSimpArgs false
set_option linter.unusedVariables false
open Go.RowKit
attribute [local go_sem] Oper.semAt_some
set_option maxHeartbeats 4000000
set_option maxRecDepth 100000

theorem SL.row {A : Nat → Prop} {w : World} {g : Nat} {t : TypeId} {fr : Nat × Nat} (M : List Ob) (m : Nat) (hm : M.length = m) (h1 : m ≤ 1000) (h : w.heap[g]? = some (.cells (flat M).toArray t fr)) (hA : A g) : SL A w (some ⟨g, 0, none⟩) m m M :=
  ⟨hm, Obs.of_row h (fun q u hq => by simpa using hq) hA, Nat.le_refl _, by omega, (fun h => by cases h), h1⟩
def mk : Ob := ⟨1, false, 0, ⟨#[]⟩, 0, 0, 0⟩
def it (n : Int) : Ob := ⟨3, false, n, ⟨#[]⟩, 0, 0, 0⟩
def insR (L : List Ob) (n : Nat) (M : List Ob) : Int × List Ob := (insE L n M, insV L n M)
def psR (L M : List Ob) : Int × List Ob := (psE L M, psV L M)
def OpC (f : Nat) (r : List Ob → Int × List Ob) : Prop := ∀ (A : Nat → Prop) (x : Option Addr) (len cap : Nat) (R : List Value) (L : List Ob) (w : World), SL A w x len cap L → OkR R →
  Calls Try.prog f #[.agg (stA (.slice x len cap) R)] w fun e w' => (∃ z n cap', e = .returned (.tuple #[.agg (stA (.slice z n cap') R), .int .i64 (r L).1]) ∧ SL (Out A w.heap.size w.heap.size) w' z n cap' (r L).2) ∧ Below w.heap.size w w'
def popR (L : List Ob) := insR L 1 []
theorem op_pop : OpC 27 popR := by
  intro A x len cap R L w h hR
  have hz := zeroS
  have hle := h.le
  have hmx := h.mx
  have hsm := h.sm
  go_enter Try.func27, Try.ntmps27
  go_wp2_with (first | ((with_reducible refine rw_list ?_); (with_reducible apply wpList_append_eq); (case ho => with_reducible rfl); (case hgd => with_reducible rfl); (case hs => first | exact ev_const | exact ev_tmp rfl); (case hx => first | exact ev_const | exact ev_tmp rfl); (case hr => exact hap _)) | ((with_reducible refine rw_list ?_); (first | ((with_reducible apply wpList_load_cell); (case ho => with_reducible rfl); (case hgd => with_reducible rfl); (case hx => rfl); (case hu => first | exact Try.underlying22 | exact Try.underlying3 | exact Try.underlying55 | exact Try.underlying9 | exact Try.underlying4); (case hd => rfl)) | ((with_reducible apply wpList_load_row); (case ho => with_reducible rfl); (case hgd => with_reducible rfl); (case hx => rfl); (case hu => first | exact Try.underlying49 | exact Try.underlying83 | exact Try.underlying43); (case hd => rfl)) | ((with_reducible apply wpList_store_row); (case ho => with_reducible rfl); (case hgd => with_reducible rfl); (case hx => rfl); (case hy => rfl)) | ((with_reducible apply wpList_store_cell); (case ho => with_reducible rfl); (case hgd => with_reducible rfl); (case hx => rfl); (case hy => first | exact ev_const | exact ev_tmp rfl); (case h1 => rfl))); (case hg => exact (by with_reducible repeat (first | assumption | (refine rw_new ?e_; case e_ => first | rfl | (simp; done) | (simp; omega)) | apply rw_self | (apply rw_other; case hn => first | omega | (simp; omega)) | apply rw_alloc | apply rw_drew | apply rw_drewN))); (try case hv => first | exact stA_get _ _ | exact hcur0 | rfl); (try case hi => first | exact hR.i49 _ | exact hR.i83 _ | kernel_rfl); (try case hold => first | exact hR.z _ _ | exact hR.sz _ _ | rfl); (try case h1 => first | exact hR.all _ rfl | kernel_rfl); (try case hlt => first | exact stA_lt _ _ | rfl); (try case hcs => first | exact stA_set _ _ _ | ((try simp only [List.setIfInBounds_toArray, List.set_cons_succ, List.set_cons_zero]); rfl))))
  refine (instead_any 1 (by omega) _ ((h.out (w.heap.size + 2)).below (B := w.heap.size) (by with_reducible repeat (first | exact Below.refl _ _ | assumption | ((first | refine Below.alloc ?_ ?b_ _ | refine bw_set ?_ ?b_ | refine Below.setCell ?_ ?b_ _); case b_ => first | omega | (simp; done) | (simp; omega)) | refine Below.drew ?_ | refine below_drewN ?_ _)) (Nat.le_refl _)) (SL.nil _ _) hR).mono ?_
  rintro e w1 ⟨⟨z, n1, cap1, rfl, hS⟩, hB1⟩
  have hb := hB1
  clear hB1
  have hs_w1 := hb.size
  (try simp at hs_w1)
  have hB_w1 : Below w.heap.size w w1 := below_then (w := w) (by with_reducible repeat (first | exact Below.refl _ _ | assumption | ((first | refine Below.alloc ?_ ?b_ _ | refine bw_set ?_ ?b_ | refine Below.setCell ?_ ?b_ _); case b_ => first | omega | (simp; done) | (simp; omega)) | refine Below.drew ?_ | refine below_drewN ?_ _)) (by first | omega | (simp; done) | (simp; omega) | (have hq_ := hb.size; omega)) hb
  have hx_ := rw_below (k := w.heap.size) hb (by with_reducible repeat (first | assumption | (refine rw_new ?e_; case e_ => first | rfl | (simp; done) | (simp; omega)) | apply rw_self | (apply rw_other; case hn => first | omega | (simp; omega)) | apply rw_alloc | apply rw_drew | apply rw_drewN))
  (try clear hp)
  have hp := hx_
  clear hx_
  have hx_ := rw_below (k := w.heap.size + 1) hb (by with_reducible repeat (first | assumption | (refine rw_new ?e_; case e_ => first | rfl | (simp; done) | (simp; omega)) | apply rw_self | (apply rw_other; case hn => first | omega | (simp; omega)) | apply rw_alloc | apply rw_drew | apply rw_drewN))
  (try clear hq)
  have hq := hx_
  clear hx_
  clear hb
  have hS := hS.inn (by first | omega | (simp; done) | (simp; omega))
  go_wp2_with (first | ((with_reducible refine rw_list ?_); (with_reducible apply wpList_append_eq); (case ho => with_reducible rfl); (case hgd => with_reducible rfl); (case hs => first | exact ev_const | exact ev_tmp rfl); (case hx => first | exact ev_const | exact ev_tmp rfl); (case hr => exact hap _)) | ((with_reducible refine rw_list ?_); (first | ((with_reducible apply wpList_load_cell); (case ho => with_reducible rfl); (case hgd => with_reducible rfl); (case hx => rfl); (case hu => first | exact Try.underlying22 | exact Try.underlying3 | exact Try.underlying55 | exact Try.underlying9 | exact Try.underlying4); (case hd => rfl)) | ((with_reducible apply wpList_load_row); (case ho => with_reducible rfl); (case hgd => with_reducible rfl); (case hx => rfl); (case hu => first | exact Try.underlying49 | exact Try.underlying83 | exact Try.underlying43); (case hd => rfl)) | ((with_reducible apply wpList_store_row); (case ho => with_reducible rfl); (case hgd => with_reducible rfl); (case hx => rfl); (case hy => rfl)) | ((with_reducible apply wpList_store_cell); (case ho => with_reducible rfl); (case hgd => with_reducible rfl); (case hx => rfl); (case hy => first | exact ev_const | exact ev_tmp rfl); (case h1 => rfl))); (case hg => exact (by with_reducible repeat (first | assumption | (refine rw_new ?e_; case e_ => first | rfl | (simp; done) | (simp; omega)) | apply rw_self | (apply rw_other; case hn => first | omega | (simp; omega)) | apply rw_alloc | apply rw_drew | apply rw_drewN))); (try case hv => first | exact stA_get _ _ | exact hcur0 | rfl); (try case hi => first | exact hR.i49 _ | exact hR.i83 _ | kernel_rfl); (try case hold => first | exact hR.z _ _ | exact hR.sz _ _ | rfl); (try case h1 => first | exact hR.all _ rfl | kernel_rfl); (try case hlt => first | exact stA_lt _ _ | rfl); (try case hcs => first | exact stA_set _ _ _ | ((try simp only [List.setIfInBounds_toArray, List.set_cons_succ, List.set_cons_zero]); rfl))))
  refine bodyPost_ret (v := _) (results_cell_tmp Try.results27 _ _ _ _ _ _ _ (by rfl) (by with_reducible repeat (first | assumption | (refine rw_new ?e_; case e_ => first | rfl | (simp; done) | (simp; omega)) | apply rw_self | (apply rw_other; case hn => first | omega | (simp; omega)) | apply rw_alloc | apply rw_drew | apply rw_drewN)) Try.underlying49 rfl (by exact hR.i49 _)) rfl ⟨⟨_, _, _, rfl, ?_⟩, (by with_reducible repeat (first | exact Below.refl _ _ | assumption | ((first | refine Below.alloc ?_ ?b_ _ | refine bw_set ?_ ?b_ | refine Below.setCell ?_ ?b_ _); case b_ => first | omega | (simp; done) | (simp; omega)) | refine Below.drew ?_ | refine below_drewN ?_ _))⟩
  exact (SL.fin (hS.keep (by first | omega | (simp; done) | (simp; omega)) (fun b hA hlt => by have hA := out_or hA; (try simp at hA); (with_reducible repeat (first | rfl | (refine (setRow_other _ _ _ _ ?n_).trans ?_; case n_ => first | omega | (simp; omega)) | (refine (Below.heap_alloc _ _ _ ?n_).trans ?_; case n_ => first | omega | (simp; omega)))))) (by first | omega | (simp; done) | (simp; omega)))
def clearR (L : List Ob) := insR L L.length []
theorem op_clear : OpC 33 clearR := by
  intro A x len cap R L w h hR
  have hz := zeroS
  have hle := h.le
  have hmx := h.mx
  have hsm := h.sm
  have hln := h.ln
  have e1 : clearR L = insR L len [] := by unfold clearR; rw [hln]
  rw [e1]
  clear e1 hln
  go_enter Try.func33, Try.ntmps33
  go_wp2_with (first | ((with_reducible refine rw_list ?_); (with_reducible apply wpList_append_eq); (case ho => with_reducible rfl); (case hgd => with_reducible rfl); (case hs => first | exact ev_const | exact ev_tmp rfl); (case hx => first | exact ev_const | exact ev_tmp rfl); (case hr => exact hap _)) | ((with_reducible refine rw_list ?_); (first | ((with_reducible apply wpList_load_cell); (case ho => with_reducible rfl); (case hgd => with_reducible rfl); (case hx => rfl); (case hu => first | exact Try.underlying22 | exact Try.underlying3 | exact Try.underlying55 | exact Try.underlying9 | exact Try.underlying4); (case hd => rfl)) | ((with_reducible apply wpList_load_row); (case ho => with_reducible rfl); (case hgd => with_reducible rfl); (case hx => rfl); (case hu => first | exact Try.underlying49 | exact Try.underlying83 | exact Try.underlying43); (case hd => rfl)) | ((with_reducible apply wpList_store_row); (case ho => with_reducible rfl); (case hgd => with_reducible rfl); (case hx => rfl); (case hy => rfl)) | ((with_reducible apply wpList_store_cell); (case ho => with_reducible rfl); (case hgd => with_reducible rfl); (case hx => rfl); (case hy => first | exact ev_const | exact ev_tmp rfl); (case h1 => rfl))); (case hg => exact (by with_reducible repeat (first | assumption | (refine rw_new ?e_; case e_ => first | rfl | (simp; done) | (simp; omega)) | apply rw_self | (apply rw_other; case hn => first | omega | (simp; omega)) | apply rw_alloc | apply rw_drew | apply rw_drewN))); (try case hv => first | exact stA_get _ _ | exact hcur0 | rfl); (try case hi => first | exact hR.i49 _ | exact hR.i83 _ | kernel_rfl); (try case hold => first | exact hR.z _ _ | exact hR.sz _ _ | rfl); (try case h1 => first | exact hR.all _ rfl | kernel_rfl); (try case hlt => first | exact stA_lt _ _ | rfl); (try case hcs => first | exact stA_set _ _ _ | ((try simp only [List.setIfInBounds_toArray, List.set_cons_succ, List.set_cons_zero]); rfl))))
  refine (instead_any len (by omega) _ ((h.out (w.heap.size + 2)).below (B := w.heap.size) (by with_reducible repeat (first | exact Below.refl _ _ | assumption | ((first | refine Below.alloc ?_ ?b_ _ | refine bw_set ?_ ?b_ | refine Below.setCell ?_ ?b_ _); case b_ => first | omega | (simp; done) | (simp; omega)) | refine Below.drew ?_ | refine below_drewN ?_ _)) (Nat.le_refl _)) (SL.nil _ _) hR).mono ?_
  rintro e w1 ⟨⟨z, n1, cap1, rfl, hS⟩, hB1⟩
  have hb := hB1
  clear hB1
  have hs_w1 := hb.size
  (try simp at hs_w1)
  have hB_w1 : Below w.heap.size w w1 := below_then (w := w) (by with_reducible repeat (first | exact Below.refl _ _ | assumption | ((first | refine Below.alloc ?_ ?b_ _ | refine bw_set ?_ ?b_ | refine Below.setCell ?_ ?b_ _); case b_ => first | omega | (simp; done) | (simp; omega)) | refine Below.drew ?_ | refine below_drewN ?_ _)) (by first | omega | (simp; done) | (simp; omega) | (have hq_ := hb.size; omega)) hb
  have hx_ := rw_below (k := w.heap.size) hb (by with_reducible repeat (first | assumption | (refine rw_new ?e_; case e_ => first | rfl | (simp; done) | (simp; omega)) | apply rw_self | (apply rw_other; case hn => first | omega | (simp; omega)) | apply rw_alloc | apply rw_drew | apply rw_drewN))
  (try clear hp)
  have hp := hx_
  clear hx_
  have hx_ := rw_below (k := w.heap.size + 1) hb (by with_reducible repeat (first | assumption | (refine rw_new ?e_; case e_ => first | rfl | (simp; done) | (simp; omega)) | apply rw_self | (apply rw_other; case hn => first | omega | (simp; omega)) | apply rw_alloc | apply rw_drew | apply rw_drewN))
  (try clear hq)
  have hq := hx_
  clear hx_
  clear hb
  have hS := hS.inn (by first | omega | (simp; done) | (simp; omega))
  go_wp2_with (first | ((with_reducible refine rw_list ?_); (with_reducible apply wpList_append_eq); (case ho => with_reducible rfl); (case hgd => with_reducible rfl); (case hs => first | exact ev_const | exact ev_tmp rfl); (case hx => first | exact ev_const | exact ev_tmp rfl); (case hr => exact hap _)) | ((with_reducible refine rw_list ?_); (first | ((with_reducible apply wpList_load_cell); (case ho => with_reducible rfl); (case hgd => with_reducible rfl); (case hx => rfl); (case hu => first | exact Try.underlying22 | exact Try.underlying3 | exact Try.underlying55 | exact Try.underlying9 | exact Try.underlying4); (case hd => rfl)) | ((with_reducible apply wpList_load_row); (case ho => with_reducible rfl); (case hgd => with_reducible rfl); (case hx => rfl); (case hu => first | exact Try.underlying49 | exact Try.underlying83 | exact Try.underlying43); (case hd => rfl)) | ((with_reducible apply wpList_store_row); (case ho => with_reducible rfl); (case hgd => with_reducible rfl); (case hx => rfl); (case hy => rfl)) | ((with_reducible apply wpList_store_cell); (case ho => with_reducible rfl); (case hgd => with_reducible rfl); (case hx => rfl); (case hy => first | exact ev_const | exact ev_tmp rfl); (case h1 => rfl))); (case hg => exact (by with_reducible repeat (first | assumption | (refine rw_new ?e_; case e_ => first | rfl | (simp; done) | (simp; omega)) | apply rw_self | (apply rw_other; case hn => first | omega | (simp; omega)) | apply rw_alloc | apply rw_drew | apply rw_drewN))); (try case hv => first | exact stA_get _ _ | exact hcur0 | rfl); (try case hi => first | exact hR.i49 _ | exact hR.i83 _ | kernel_rfl); (try case hold => first | exact hR.z _ _ | exact hR.sz _ _ | rfl); (try case h1 => first | exact hR.all _ rfl | kernel_rfl); (try case hlt => first | exact stA_lt _ _ | rfl); (try case hcs => first | exact stA_set _ _ _ | ((try simp only [List.setIfInBounds_toArray, List.set_cons_succ, List.set_cons_zero]); rfl))))
  refine bodyPost_ret (v := _) (results_cell_tmp Try.results33 _ _ _ _ _ _ _ (by rfl) (by with_reducible repeat (first | assumption | (refine rw_new ?e_; case e_ => first | rfl | (simp; done) | (simp; omega)) | apply rw_self | (apply rw_other; case hn => first | omega | (simp; omega)) | apply rw_alloc | apply rw_drew | apply rw_drewN)) Try.underlying49 rfl (by exact hR.i49 _)) rfl ⟨⟨_, _, _, rfl, ?_⟩, (by with_reducible repeat (first | exact Below.refl _ _ | assumption | ((first | refine Below.alloc ?_ ?b_ _ | refine bw_set ?_ ?b_ | refine Below.setCell ?_ ?b_ _); case b_ => first | omega | (simp; done) | (simp; omega)) | refine Below.drew ?_ | refine below_drewN ?_ _))⟩
  exact (SL.fin (hS.keep (by first | omega | (simp; done) | (simp; omega)) (fun b hA hlt => by have hA := out_or hA; (try simp at hA); (with_reducible repeat (first | rfl | (refine (setRow_other _ _ _ _ ?n_).trans ?_; case n_ => first | omega | (simp; omega)) | (refine (Below.heap_alloc _ _ _ ?n_).trans ?_; case n_ => first | omega | (simp; omega)))))) (by first | omega | (simp; done) | (simp; omega)))
def markR (L : List Ob) := psR L [mk]
theorem op_mark : OpC 35 markR := by
  intro A x len cap R L w h hR
  have hz := zeroS
  have hle := h.le
  have hmx := h.mx
  have hsm := h.sm
  go_enter Try.func35, Try.ntmps35
  go_wp2_with (first | ((with_reducible refine rw_list ?_); (with_reducible apply wpList_append_eq); (case ho => with_reducible rfl); (case hgd => with_reducible rfl); (case hs => first | exact ev_const | exact ev_tmp rfl); (case hx => first | exact ev_const | exact ev_tmp rfl); (case hr => exact hap _)) | ((with_reducible refine rw_list ?_); (first | ((with_reducible apply wpList_load_cell); (case ho => with_reducible rfl); (case hgd => with_reducible rfl); (case hx => rfl); (case hu => first | exact Try.underlying22 | exact Try.underlying3 | exact Try.underlying55 | exact Try.underlying9 | exact Try.underlying4); (case hd => rfl)) | ((with_reducible apply wpList_load_row); (case ho => with_reducible rfl); (case hgd => with_reducible rfl); (case hx => rfl); (case hu => first | exact Try.underlying49 | exact Try.underlying83 | exact Try.underlying43); (case hd => rfl)) | ((with_reducible apply wpList_store_row); (case ho => with_reducible rfl); (case hgd => with_reducible rfl); (case hx => rfl); (case hy => rfl)) | ((with_reducible apply wpList_store_cell); (case ho => with_reducible rfl); (case hgd => with_reducible rfl); (case hx => rfl); (case hy => first | exact ev_const | exact ev_tmp rfl); (case h1 => rfl))); (case hg => exact (by with_reducible repeat (first | assumption | (refine rw_new ?e_; case e_ => first | rfl | (simp; done) | (simp; omega)) | apply rw_self | (apply rw_other; case hn => first | omega | (simp; omega)) | apply rw_alloc | apply rw_drew | apply rw_drewN))); (try case hv => first | exact stA_get _ _ | exact hcur0 | rfl); (try case hi => first | exact hR.i49 _ | exact hR.i83 _ | kernel_rfl); (try case hold => first | exact hR.z _ _ | exact hR.sz _ _ | rfl); (try case h1 => first | exact hR.all _ rfl | kernel_rfl); (try case hlt => first | exact stA_lt _ _ | rfl); (try case hcs => first | exact stA_set _ _ _ | ((try simp only [List.setIfInBounds_toArray, List.set_cons_succ, List.set_cons_zero]); rfl))))
  refine (push_any _ ((h.out (w.heap.size + 2)).below (B := w.heap.size) (by with_reducible repeat (first | exact Below.refl _ _ | assumption | ((first | refine Below.alloc ?_ ?b_ _ | refine bw_set ?_ ?b_ | refine Below.setCell ?_ ?b_ _); case b_ => first | omega | (simp; done) | (simp; omega)) | refine Below.drew ?_ | refine below_drewN ?_ _)) (Nat.le_refl _)) (SL.row [mk] 1 rfl (by omega) (rw_new (by simp)) (.inr (by first | omega | (simp; done) | (simp; omega)))) hR).mono ?_
  rintro e w1 ⟨⟨z, n1, cap1, rfl, hS⟩, hB1⟩
  have hb := hB1
  clear hB1
  have hs_w1 := hb.size
  (try simp at hs_w1)
  have hB_w1 : Below w.heap.size w w1 := below_then (w := w) (by with_reducible repeat (first | exact Below.refl _ _ | assumption | ((first | refine Below.alloc ?_ ?b_ _ | refine bw_set ?_ ?b_ | refine Below.setCell ?_ ?b_ _); case b_ => first | omega | (simp; done) | (simp; omega)) | refine Below.drew ?_ | refine below_drewN ?_ _)) (by first | omega | (simp; done) | (simp; omega) | (have hq_ := hb.size; omega)) hb
  have hx_ := rw_below (k := w.heap.size) hb (by with_reducible repeat (first | assumption | (refine rw_new ?e_; case e_ => first | rfl | (simp; done) | (simp; omega)) | apply rw_self | (apply rw_other; case hn => first | omega | (simp; omega)) | apply rw_alloc | apply rw_drew | apply rw_drewN))
  (try clear hp)
  have hp := hx_
  clear hx_
  have hx_ := rw_below (k := w.heap.size + 1) hb (by with_reducible repeat (first | assumption | (refine rw_new ?e_; case e_ => first | rfl | (simp; done) | (simp; omega)) | apply rw_self | (apply rw_other; case hn => first | omega | (simp; omega)) | apply rw_alloc | apply rw_drew | apply rw_drewN))
  (try clear hq)
  have hq := hx_
  clear hx_
  clear hb
  have hS := hS.inn (by first | omega | (simp; done) | (simp; omega))
  go_wp2_with (first | ((with_reducible refine rw_list ?_); (with_reducible apply wpList_append_eq); (case ho => with_reducible rfl); (case hgd => with_reducible rfl); (case hs => first | exact ev_const | exact ev_tmp rfl); (case hx => first | exact ev_const | exact ev_tmp rfl); (case hr => exact hap _)) | ((with_reducible refine rw_list ?_); (first | ((with_reducible apply wpList_load_cell); (case ho => with_reducible rfl); (case hgd => with_reducible rfl); (case hx => rfl); (case hu => first | exact Try.underlying22 | exact Try.underlying3 | exact Try.underlying55 | exact Try.underlying9 | exact Try.underlying4); (case hd => rfl)) | ((with_reducible apply wpList_load_row); (case ho => with_reducible rfl); (case hgd => with_reducible rfl); (case hx => rfl); (case hu => first | exact Try.underlying49 | exact Try.underlying83 | exact Try.underlying43); (case hd => rfl)) | ((with_reducible apply wpList_store_row); (case ho => with_reducible rfl); (case hgd => with_reducible rfl); (case hx => rfl); (case hy => rfl)) | ((with_reducible apply wpList_store_cell); (case ho => with_reducible rfl); (case hgd => with_reducible rfl); (case hx => rfl); (case hy => first | exact ev_const | exact ev_tmp rfl); (case h1 => rfl))); (case hg => exact (by with_reducible repeat (first | assumption | (refine rw_new ?e_; case e_ => first | rfl | (simp; done) | (simp; omega)) | apply rw_self | (apply rw_other; case hn => first | omega | (simp; omega)) | apply rw_alloc | apply rw_drew | apply rw_drewN))); (try case hv => first | exact stA_get _ _ | exact hcur0 | rfl); (try case hi => first | exact hR.i49 _ | exact hR.i83 _ | kernel_rfl); (try case hold => first | exact hR.z _ _ | exact hR.sz _ _ | rfl); (try case h1 => first | exact hR.all _ rfl | kernel_rfl); (try case hlt => first | exact stA_lt _ _ | rfl); (try case hcs => first | exact stA_set _ _ _ | ((try simp only [List.setIfInBounds_toArray, List.set_cons_succ, List.set_cons_zero]); rfl))))
  refine bodyPost_ret (v := _) (results_cell_tmp Try.results35 _ _ _ _ _ _ _ (by rfl) (by with_reducible repeat (first | assumption | (refine rw_new ?e_; case e_ => first | rfl | (simp; done) | (simp; omega)) | apply rw_self | (apply rw_other; case hn => first | omega | (simp; omega)) | apply rw_alloc | apply rw_drew | apply rw_drewN)) Try.underlying49 rfl (by exact hR.i49 _)) rfl ⟨⟨_, _, _, rfl, ?_⟩, (by with_reducible repeat (first | exact Below.refl _ _ | assumption | ((first | refine Below.alloc ?_ ?b_ _ | refine bw_set ?_ ?b_ | refine Below.setCell ?_ ?b_ _); case b_ => first | omega | (simp; done) | (simp; omega)) | refine Below.drew ?_ | refine below_drewN ?_ _))⟩
  exact (SL.fin (hS.keep (by first | omega | (simp; done) | (simp; omega)) (fun b hA hlt => by have hA := out_or hA; (try simp at hA); (with_reducible repeat (first | rfl | (refine (setRow_other _ _ _ _ ?n_).trans ?_; case n_ => first | omega | (simp; omega)) | (refine (Below.heap_alloc _ _ _ ?n_).trans ?_; case n_ => first | omega | (simp; omega)))))) (by first | omega | (simp; done) | (simp; omega)))
def dupR (L : List Ob) : Int × List Ob := if L.length < 1 then (20, L) else psR L (L.drop (L.length - 1))
theorem op_dup : OpC 29 dupR := by
  intro A x len cap R L w h hR
  have hz := zeroS
  have hle := h.le
  have hmx := h.mx
  have hsm := h.sm
  have hln := h.ln
  by_cases hc : len < 1
  · rw [show dupR L = (20, L) by unfold dupR; rw [hln, if_pos hc]]
    have hlt : (len : Int) < 1 := by omega
    go_enter Try.func29, Try.ntmps29
    go_wp2_with (first | ((with_reducible refine rw_list ?_); (with_reducible apply wpList_append_eq); (case ho => with_reducible rfl); (case hgd => with_reducible rfl); (case hs => first | exact ev_const | exact ev_tmp rfl); (case hx => first | exact ev_const | exact ev_tmp rfl); (case hr => exact hap _)) | ((with_reducible refine rw_list ?_); (first | ((with_reducible apply wpList_load_cell); (case ho => with_reducible rfl); (case hgd => with_reducible rfl); (case hx => rfl); (case hu => first | exact Try.underlying22 | exact Try.underlying3 | exact Try.underlying55 | exact Try.underlying9 | exact Try.underlying4); (case hd => rfl)) | ((with_reducible apply wpList_load_row); (case ho => with_reducible rfl); (case hgd => with_reducible rfl); (case hx => rfl); (case hu => first | exact Try.underlying49 | exact Try.underlying83 | exact Try.underlying43); (case hd => rfl)) | ((with_reducible apply wpList_store_row); (case ho => with_reducible rfl); (case hgd => with_reducible rfl); (case hx => rfl); (case hy => rfl)) | ((with_reducible apply wpList_store_cell); (case ho => with_reducible rfl); (case hgd => with_reducible rfl); (case hx => rfl); (case hy => first | exact ev_const | exact ev_tmp rfl); (case h1 => rfl))); (case hg => exact (by with_reducible repeat (first | assumption | (refine rw_new ?e_; case e_ => first | rfl | (simp; done) | (simp; omega)) | apply rw_self | (apply rw_other; case hn => first | omega | (simp; omega)) | apply rw_alloc | apply rw_drew | apply rw_drewN))); (try case hv => first | exact stA_get _ _ | exact hcur0 | rfl); (try case hi => first | exact hR.i49 _ | exact hR.i83 _ | kernel_rfl); (try case hold => first | exact hR.z _ _ | exact hR.sz _ _ | rfl); (try case h1 => first | exact hR.all _ rfl | kernel_rfl); (try case hlt => first | exact stA_lt _ _ | rfl); (try case hcs => first | exact stA_set _ _ _ | ((try simp only [List.setIfInBounds_toArray, List.set_cons_succ, List.set_cons_zero]); rfl))))
    refine (top_big 1 (by omega) (by omega) _ hle hmx hR).mono ?_
    rintro e w1 ⟨rfl, hb⟩
    have hs_w1 := hb.size
    (try simp at hs_w1)
    have hB_w1 : Below w.heap.size w w1 := below_then (w := w) (by with_reducible repeat (first | exact Below.refl _ _ | assumption | ((first | refine Below.alloc ?_ ?b_ _ | refine bw_set ?_ ?b_ | refine Below.setCell ?_ ?b_ _); case b_ => first | omega | (simp; done) | (simp; omega)) | refine Below.drew ?_ | refine below_drewN ?_ _)) (by first | omega | (simp; done) | (simp; omega) | (have hq_ := hb.size; omega)) hb
    have hx_ := rw_below (k := w.heap.size) hb (by with_reducible repeat (first | assumption | (refine rw_new ?e_; case e_ => first | rfl | (simp; done) | (simp; omega)) | apply rw_self | (apply rw_other; case hn => first | omega | (simp; omega)) | apply rw_alloc | apply rw_drew | apply rw_drewN))
    (try clear hp)
    have hp := hx_
    clear hx_
    have hx_ := rw_below (k := w.heap.size + 1) hb (by with_reducible repeat (first | assumption | (refine rw_new ?e_; case e_ => first | rfl | (simp; done) | (simp; omega)) | apply rw_self | (apply rw_other; case hn => first | omega | (simp; omega)) | apply rw_alloc | apply rw_drew | apply rw_drewN))
    (try clear hq)
    have hq := hx_
    clear hx_
    clear hb
    go_wp2_with (first | ((with_reducible refine rw_list ?_); (with_reducible apply wpList_append_eq); (case ho => with_reducible rfl); (case hgd => with_reducible rfl); (case hs => first | exact ev_const | exact ev_tmp rfl); (case hx => first | exact ev_const | exact ev_tmp rfl); (case hr => exact hap _)) | ((with_reducible refine rw_list ?_); (first | ((with_reducible apply wpList_load_cell); (case ho => with_reducible rfl); (case hgd => with_reducible rfl); (case hx => rfl); (case hu => first | exact Try.underlying22 | exact Try.underlying3 | exact Try.underlying55 | exact Try.underlying9 | exact Try.underlying4); (case hd => rfl)) | ((with_reducible apply wpList_load_row); (case ho => with_reducible rfl); (case hgd => with_reducible rfl); (case hx => rfl); (case hu => first | exact Try.underlying49 | exact Try.underlying83 | exact Try.underlying43); (case hd => rfl)) | ((with_reducible apply wpList_store_row); (case ho => with_reducible rfl); (case hgd => with_reducible rfl); (case hx => rfl); (case hy => rfl)) | ((with_reducible apply wpList_store_cell); (case ho => with_reducible rfl); (case hgd => with_reducible rfl); (case hx => rfl); (case hy => first | exact ev_const | exact ev_tmp rfl); (case h1 => rfl))); (case hg => exact (by with_reducible repeat (first | assumption | (refine rw_new ?e_; case e_ => first | rfl | (simp; done) | (simp; omega)) | apply rw_self | (apply rw_other; case hn => first | omega | (simp; omega)) | apply rw_alloc | apply rw_drew | apply rw_drewN))); (try case hv => first | exact stA_get _ _ | exact hcur0 | rfl); (try case hi => first | exact hR.i49 _ | exact hR.i83 _ | kernel_rfl); (try case hold => first | exact hR.z _ _ | exact hR.sz _ _ | rfl); (try case h1 => first | exact hR.all _ rfl | kernel_rfl); (try case hlt => first | exact stA_lt _ _ | rfl); (try case hcs => first | exact stA_set _ _ _ | ((try simp only [List.setIfInBounds_toArray, List.set_cons_succ, List.set_cons_zero]); rfl))))
    refine bodyPost_ret (v := _) (results_cell_tmp Try.results29 _ _ _ _ _ _ _ (by rfl) (by with_reducible repeat (first | assumption | (refine rw_new ?e_; case e_ => first | rfl | (simp; done) | (simp; omega)) | apply rw_self | (apply rw_other; case hn => first | omega | (simp; omega)) | apply rw_alloc | apply rw_drew | apply rw_drewN)) Try.underlying49 rfl (by exact hR.i49 _)) rfl ⟨⟨_, _, _, rfl, ?_⟩, (by with_reducible repeat (first | exact Below.refl _ _ | assumption | ((first | refine Below.alloc ?_ ?b_ _ | refine bw_set ?_ ?b_ | refine Below.setCell ?_ ?b_ _); case b_ => first | omega | (simp; done) | (simp; omega)) | refine Below.drew ?_ | refine below_drewN ?_ _))⟩
    exact (h.out w.heap.size).below (B := w.heap.size) (by with_reducible repeat (first | exact Below.refl _ _ | assumption | ((first | refine Below.alloc ?_ ?b_ _ | refine bw_set ?_ ?b_ | refine Below.setCell ?_ ?b_ _); case b_ => first | omega | (simp; done) | (simp; omega)) | refine Below.drew ?_ | refine below_drewN ?_ _)) (Nat.le_refl _)
  · rw [show dupR L = psR L (L.drop (len - 1)) by unfold dupR; rw [hln, if_neg hc]]
    have hT := h.top (len - 1) (by omega)
    rw [show len - (len - 1) = 1 by omega] at hT
    go_enter Try.func29, Try.ntmps29
    go_wp2_with (first | ((with_reducible refine rw_list ?_); (with_reducible apply wpList_append_eq); (case ho => with_reducible rfl); (case hgd => with_reducible rfl); (case hs => first | exact ev_const | exact ev_tmp rfl); (case hx => first | exact ev_const | exact ev_tmp rfl); (case hr => exact hap _)) | ((with_reducible refine rw_list ?_); (first | ((with_reducible apply wpList_load_cell); (case ho => with_reducible rfl); (case hgd => with_reducible rfl); (case hx => rfl); (case hu => first | exact Try.underlying22 | exact Try.underlying3 | exact Try.underlying55 | exact Try.underlying9 | exact Try.underlying4); (case hd => rfl)) | ((with_reducible apply wpList_load_row); (case ho => with_reducible rfl); (case hgd => with_reducible rfl); (case hx => rfl); (case hu => first | exact Try.underlying49 | exact Try.underlying83 | exact Try.underlying43); (case hd => rfl)) | ((with_reducible apply wpList_store_row); (case ho => with_reducible rfl); (case hgd => with_reducible rfl); (case hx => rfl); (case hy => rfl)) | ((with_reducible apply wpList_store_cell); (case ho => with_reducible rfl); (case hgd => with_reducible rfl); (case hx => rfl); (case hy => first | exact ev_const | exact ev_tmp rfl); (case h1 => rfl))); (case hg => exact (by with_reducible repeat (first | assumption | (refine rw_new ?e_; case e_ => first | rfl | (simp; done) | (simp; omega)) | apply rw_self | (apply rw_other; case hn => first | omega | (simp; omega)) | apply rw_alloc | apply rw_drew | apply rw_drewN))); (try case hv => first | exact stA_get _ _ | exact hcur0 | rfl); (try case hi => first | exact hR.i49 _ | exact hR.i83 _ | kernel_rfl); (try case hold => first | exact hR.z _ _ | exact hR.sz _ _ | rfl); (try case h1 => first | exact hR.all _ rfl | kernel_rfl); (try case hlt => first | exact stA_lt _ _ | rfl); (try case hcs => first | exact stA_set _ _ _ | ((try simp only [List.setIfInBounds_toArray, List.set_cons_succ, List.set_cons_zero]); rfl))))
    refine (top_ok (len - 1) 1 (by omega) _ hle hmx hR).mono ?_
    rintro e w1 ⟨rfl, hb⟩
    have hs_w1 := hb.size
    (try simp at hs_w1)
    have hB_w1 : Below w.heap.size w w1 := below_then (w := w) (by with_reducible repeat (first | exact Below.refl _ _ | assumption | ((first | refine Below.alloc ?_ ?b_ _ | refine bw_set ?_ ?b_ | refine Below.setCell ?_ ?b_ _); case b_ => first | omega | (simp; done) | (simp; omega)) | refine Below.drew ?_ | refine below_drewN ?_ _)) (by first | omega | (simp; done) | (simp; omega) | (have hq_ := hb.size; omega)) hb
    have hx_ := rw_below (k := w.heap.size) hb (by with_reducible repeat (first | assumption | (refine rw_new ?e_; case e_ => first | rfl | (simp; done) | (simp; omega)) | apply rw_self | (apply rw_other; case hn => first | omega | (simp; omega)) | apply rw_alloc | apply rw_drew | apply rw_drewN))
    (try clear hp)
    have hp := hx_
    clear hx_
    have hx_ := rw_below (k := w.heap.size + 1) hb (by with_reducible repeat (first | assumption | (refine rw_new ?e_; case e_ => first | rfl | (simp; done) | (simp; omega)) | apply rw_self | (apply rw_other; case hn => first | omega | (simp; omega)) | apply rw_alloc | apply rw_drew | apply rw_drewN))
    (try clear hq)
    have hq := hx_
    clear hx_
    clear hb
    go_wp2_with (first | ((with_reducible refine rw_list ?_); (with_reducible apply wpList_append_eq); (case ho => with_reducible rfl); (case hgd => with_reducible rfl); (case hs => first | exact ev_const | exact ev_tmp rfl); (case hx => first | exact ev_const | exact ev_tmp rfl); (case hr => exact hap _)) | ((with_reducible refine rw_list ?_); (first | ((with_reducible apply wpList_load_cell); (case ho => with_reducible rfl); (case hgd => with_reducible rfl); (case hx => rfl); (case hu => first | exact Try.underlying22 | exact Try.underlying3 | exact Try.underlying55 | exact Try.underlying9 | exact Try.underlying4); (case hd => rfl)) | ((with_reducible apply wpList_load_row); (case ho => with_reducible rfl); (case hgd => with_reducible rfl); (case hx => rfl); (case hu => first | exact Try.underlying49 | exact Try.underlying83 | exact Try.underlying43); (case hd => rfl)) | ((with_reducible apply wpList_store_row); (case ho => with_reducible rfl); (case hgd => with_reducible rfl); (case hx => rfl); (case hy => rfl)) | ((with_reducible apply wpList_store_cell); (case ho => with_reducible rfl); (case hgd => with_reducible rfl); (case hx => rfl); (case hy => first | exact ev_const | exact ev_tmp rfl); (case h1 => rfl))); (case hg => exact (by with_reducible repeat (first | assumption | (refine rw_new ?e_; case e_ => first | rfl | (simp; done) | (simp; omega)) | apply rw_self | (apply rw_other; case hn => first | omega | (simp; omega)) | apply rw_alloc | apply rw_drew | apply rw_drewN))); (try case hv => first | exact stA_get _ _ | exact hcur0 | rfl); (try case hi => first | exact hR.i49 _ | exact hR.i83 _ | kernel_rfl); (try case hold => first | exact hR.z _ _ | exact hR.sz _ _ | rfl); (try case h1 => first | exact hR.all _ rfl | kernel_rfl); (try case hlt => first | exact stA_lt _ _ | rfl); (try case hcs => first | exact stA_set _ _ _ | ((try simp only [List.setIfInBounds_toArray, List.set_cons_succ, List.set_cons_zero]); rfl))))
    refine (push_any _ ((h.out (w.heap.size + 2)).below (B := w.heap.size) (by with_reducible repeat (first | exact Below.refl _ _ | assumption | ((first | refine Below.alloc ?_ ?b_ _ | refine bw_set ?_ ?b_ | refine Below.setCell ?_ ?b_ _); case b_ => first | omega | (simp; done) | (simp; omega)) | refine Below.drew ?_ | refine below_drewN ?_ _)) (Nat.le_refl _)) ((hT.out (w.heap.size + 2)).below (B := w.heap.size) (by with_reducible repeat (first | exact Below.refl _ _ | assumption | ((first | refine Below.alloc ?_ ?b_ _ | refine bw_set ?_ ?b_ | refine Below.setCell ?_ ?b_ _); case b_ => first | omega | (simp; done) | (simp; omega)) | refine Below.drew ?_ | refine below_drewN ?_ _)) (Nat.le_refl _)) hR).mono ?_
    rintro e w2 ⟨⟨z, n1, cap1, rfl, hS⟩, hB1⟩
    have hb := hB1
    clear hB1
    have hs_w2 := hb.size
    (try simp at hs_w2)
    have hB_w2 : Below w.heap.size w w2 := below_then (w := w) (by with_reducible repeat (first | exact Below.refl _ _ | assumption | ((first | refine Below.alloc ?_ ?b_ _ | refine bw_set ?_ ?b_ | refine Below.setCell ?_ ?b_ _); case b_ => first | omega | (simp; done) | (simp; omega)) | refine Below.drew ?_ | refine below_drewN ?_ _)) (by first | omega | (simp; done) | (simp; omega) | (have hq_ := hb.size; omega)) hb
    have hx_ := rw_below (k := w.heap.size) hb (by with_reducible repeat (first | assumption | (refine rw_new ?e_; case e_ => first | rfl | (simp; done) | (simp; omega)) | apply rw_self | (apply rw_other; case hn => first | omega | (simp; omega)) | apply rw_alloc | apply rw_drew | apply rw_drewN))
    (try clear hp)
    have hp := hx_
    clear hx_
    have hx_ := rw_below (k := w.heap.size + 1) hb (by with_reducible repeat (first | assumption | (refine rw_new ?e_; case e_ => first | rfl | (simp; done) | (simp; omega)) | apply rw_self | (apply rw_other; case hn => first | omega | (simp; omega)) | apply rw_alloc | apply rw_drew | apply rw_drewN))
    (try clear hq)
    have hq := hx_
    clear hx_
    clear hb
    have hS := hS.inn (by first | omega | (simp; done) | (simp; omega))
    go_wp2_with (first | ((with_reducible refine rw_list ?_); (with_reducible apply wpList_append_eq); (case ho => with_reducible rfl); (case hgd => with_reducible rfl); (case hs => first | exact ev_const | exact ev_tmp rfl); (case hx => first | exact ev_const | exact ev_tmp rfl); (case hr => exact hap _)) | ((with_reducible refine rw_list ?_); (first | ((with_reducible apply wpList_load_cell); (case ho => with_reducible rfl); (case hgd => with_reducible rfl); (case hx => rfl); (case hu => first | exact Try.underlying22 | exact Try.underlying3 | exact Try.underlying55 | exact Try.underlying9 | exact Try.underlying4); (case hd => rfl)) | ((with_reducible apply wpList_load_row); (case ho => with_reducible rfl); (case hgd => with_reducible rfl); (case hx => rfl); (case hu => first | exact Try.underlying49 | exact Try.underlying83 | exact Try.underlying43); (case hd => rfl)) | ((with_reducible apply wpList_store_row); (case ho => with_reducible rfl); (case hgd => with_reducible rfl); (case hx => rfl); (case hy => rfl)) | ((with_reducible apply wpList_store_cell); (case ho => with_reducible rfl); (case hgd => with_reducible rfl); (case hx => rfl); (case hy => first | exact ev_const | exact ev_tmp rfl); (case h1 => rfl))); (case hg => exact (by with_reducible repeat (first | assumption | (refine rw_new ?e_; case e_ => first | rfl | (simp; done) | (simp; omega)) | apply rw_self | (apply rw_other; case hn => first | omega | (simp; omega)) | apply rw_alloc | apply rw_drew | apply rw_drewN))); (try case hv => first | exact stA_get _ _ | exact hcur0 | rfl); (try case hi => first | exact hR.i49 _ | exact hR.i83 _ | kernel_rfl); (try case hold => first | exact hR.z _ _ | exact hR.sz _ _ | rfl); (try case h1 => first | exact hR.all _ rfl | kernel_rfl); (try case hlt => first | exact stA_lt _ _ | rfl); (try case hcs => first | exact stA_set _ _ _ | ((try simp only [List.setIfInBounds_toArray, List.set_cons_succ, List.set_cons_zero]); rfl))))
    refine bodyPost_ret (v := _) (results_cell_tmp Try.results29 _ _ _ _ _ _ _ (by rfl) (by with_reducible repeat (first | assumption | (refine rw_new ?e_; case e_ => first | rfl | (simp; done) | (simp; omega)) | apply rw_self | (apply rw_other; case hn => first | omega | (simp; omega)) | apply rw_alloc | apply rw_drew | apply rw_drewN)) Try.underlying49 rfl (by exact hR.i49 _)) rfl ⟨⟨_, _, _, rfl, ?_⟩, (by with_reducible repeat (first | exact Below.refl _ _ | assumption | ((first | refine Below.alloc ?_ ?b_ _ | refine bw_set ?_ ?b_ | refine Below.setCell ?_ ?b_ _); case b_ => first | omega | (simp; done) | (simp; omega)) | refine Below.drew ?_ | refine below_drewN ?_ _))⟩
    exact (SL.fin (hS.keep (by first | omega | (simp; done) | (simp; omega)) (fun b hA hlt => by have hA := out_or hA; (try simp at hA); (with_reducible repeat (first | rfl | (refine (setRow_other _ _ _ _ ?n_).trans ?_; case n_ => first | omega | (simp; omega)) | (refine (Below.heap_alloc _ _ _ ?n_).trans ?_; case n_ => first | omega | (simp; omega)))))) (by first | omega | (simp; done) | (simp; omega)))
def ctN (L : List Ob) (i : Nat) : Int := ((L.drop (L.length - i)).getD 0 mk).n
open Classical in
noncomputable def ctE (L : List Ob) (i more : Nat) : Int := if L.length < i then 20 else if ¬ allI (L.drop (L.length - i)) then 22 else if ctN L i < 0 then 23 else if ((L.length - i : Nat) : Int) + 1 - more ≤ ctN L i then 20 else 0
def ctL (L : List Ob) (i more : Nat) : List Ob := (L.take (L.length - i)).drop (L.length - i - ((ctN L i).toNat + more))
/-- an error of what is counted -/
theorem counted_err {A : Nat → Prop} {x : Option Addr} {len cap : Nat} {R : List Value} {L : List Ob} (n more : Nat) (hn0 : 0 < n) (hn : n ≤ 1000) (hm : more ≤ 1) (he : ctE L n more ≠ 0) (w : World) (h : SL A w x len cap L) (hR : OkR R) :
    Calls Try.prog 46 #[.agg (stA (.slice x len cap) R), .int .i64 n, .int .i64 more] w fun e w' => e = .returned (.tuple #[.slice none 0 0, .slice none 0 0, .int .i64 (ctE L n more)]) ∧ Below w.heap.size w w' := by
  have hln := h.ln
  unfold ctE at he ⊢
  rw [hln] at he ⊢
  by_cases h1 : len < n
  · rw [if_pos h1]
    exact counted_under n more h1 hn w h hR
  rw [if_neg h1] at he ⊢
  by_cases h2 : allI (L.drop (len - n))
  · rw [if_neg (fun hh => hh h2)] at he ⊢
    have hd : 0 < (L.drop (len - n)).length := by simp; omega
    have hi : (L.drop (len - n))[0]? = some ((L.drop (len - n)).getD 0 mk) := by simp [List.getD_eq_getElem?_getD, List.getElem?_eq_getElem hd]
    have hNe : ctN L n = ((L.drop (len - n)).getD 0 mk).n := by unfold ctN; rw [hln]
    by_cases h3 : ctN L n < 0
    · rw [if_pos h3]
      exact counted_neg (len - n) n more (by omega) hn0 h2 _ hi (ctN L n) hNe.symm h3 w h hR
    rw [if_neg h3] at he ⊢
    by_cases h4 : ((len - n : Nat) : Int) + 1 - more ≤ ctN L n
    · rw [if_pos h4]
      exact counted_far (len - n) n more (by omega) hn0 h2 _ hi (ctN L n) hNe.symm (by omega) hm h4 w h hR
    · rw [if_neg h4] at he
      exact absurd rfl he
  · rw [if_pos h2]
    exact counted_type (len - n) n more (by omega) h2 w h hR
theorem ctE_ok {L : List Ob} {n more : Nat} (he : ctE L n more = 0) : n ≤ L.length ∧ allI (L.drop (L.length - n)) ∧ 0 ≤ ctN L n ∧ ctN L n + more ≤ ((L.length - n : Nat) : Int) := by
  unfold ctE at he
  split at he
  · cases he
  split at he
  · cases he
  split at he
  · cases he
  split at he
  · cases he
  · rename_i h1 h2 h3 h4
    exact ⟨by omega, Classical.not_not.1 h2, by omega, by omega⟩
theorem counted_fine {A : Nat → Prop} {x : Option Addr} {len cap : Nat} {R : List Value} {L : List Ob} (n more : Nat) (hn0 : 0 < n) (hm : more ≤ 1) (he : ctE L n more = 0) (w : World) (h : SL A w x len cap L) (hR : OkR R) :
    ∃ y j, SL A w y j j (ctL L n more) ∧ (j : Int) = ctN L n + more ∧ ∀ (A' : Nat → Prop) (w : World), SL A' w x len cap L → Calls Try.prog 46 #[.agg (stA (.slice x len cap) R), .int .i64 n, .int .i64 more] w fun e w' => (∃ g vc cur, e = .returned (.tuple #[.slice y j j, .slice (some ⟨g, 0, none⟩) n vc, .int .i64 0]) ∧ w.heap.size ≤ g ∧ n ≤ vc ∧ vc ≤ 9223372036854775807 ∧ w'.heap[g]? = some (.cells cur 3 (0, 0)) ∧ ∀ i, i < n → cur[i]? = (ivals (L.drop (len - n)))[i]?) ∧ Below w.heap.size w w' := by
  have hln := h.ln
  obtain ⟨h1, h2, h3, h4⟩ := ctE_ok he
  unfold ctL
  rw [hln] at h1 h2 h4 ⊢
  have hd : 0 < (L.drop (len - n)).length := by simp; omega
  have hi : (L.drop (len - n))[0]? = some ((L.drop (len - n)).getD 0 mk) := by simp [List.getD_eq_getElem?_getD, List.getElem?_eq_getElem hd]
  have hNe : ctN L n = ((L.drop (len - n)).getD 0 mk).n := by unfold ctN; rw [hln]
  have hS := (h.take (len - n) (by omega)).top (len - n - ((ctN L n).toNat + more)) (by omega)
  rw [show len - n - (len - n - ((ctN L n).toNat + more)) = (ctN L n).toNat + more by omega] at hS
  exact ⟨_, _, hS, by omega, fun A' w hw => counted_ok (len - n) n more (by omega) hn0 h2 _ hi (ctN L n) hNe.symm (len - n - ((ctN L n).toNat + more)) ((ctN L n).toNat + more) hm (by omega) (by omega) (by omega) w hw hR⟩
noncomputable def copyR (L : List Ob) : Int × List Ob := if ctE L 1 0 = 0 then insR L 1 (ctL L 1 0) else (ctE L 1 0, L)
theorem op_copy : OpC 30 copyR := by
  intro A x len cap R L w h hR
  have hz := zeroS
  have hle := h.le
  have hmx := h.mx
  have hsm := h.sm
  by_cases hc : ctE L 1 0 = 0
  · rw [show copyR L = insR L 1 (ctL L 1 0) from if_pos hc]
    obtain ⟨y, j, hT, _, hcall⟩ := counted_fine 1 0 (by omega) (by omega) hc w h hR
    go_enter Try.func30, Try.ntmps30
    go_wp2_with (first | ((with_reducible refine rw_list ?_); (with_reducible apply wpList_append_eq); (case ho => with_reducible rfl); (case hgd => with_reducible rfl); (case hs => first | exact ev_const | exact ev_tmp rfl); (case hx => first | exact ev_const | exact ev_tmp rfl); (case hr => exact hap _)) | ((with_reducible refine rw_list ?_); (first | ((with_reducible apply wpList_load_cell); (case ho => with_reducible rfl); (case hgd => with_reducible rfl); (case hx => rfl); (case hu => first | exact Try.underlying22 | exact Try.underlying3 | exact Try.underlying55 | exact Try.underlying9 | exact Try.underlying4); (case hd => rfl)) | ((with_reducible apply wpList_load_row); (case ho => with_reducible rfl); (case hgd => with_reducible rfl); (case hx => rfl); (case hu => first | exact Try.underlying49 | exact Try.underlying83 | exact Try.underlying43); (case hd => rfl)) | ((with_reducible apply wpList_store_row); (case ho => with_reducible rfl); (case hgd => with_reducible rfl); (case hx => rfl); (case hy => rfl)) | ((with_reducible apply wpList_store_cell); (case ho => with_reducible rfl); (case hgd => with_reducible rfl); (case hx => rfl); (case hy => first | exact ev_const | exact ev_tmp rfl); (case h1 => rfl))); (case hg => exact (by with_reducible repeat (first | assumption | (refine rw_new ?e_; case e_ => first | rfl | (simp; done) | (simp; omega)) | apply rw_self | (apply rw_other; case hn => first | omega | (simp; omega)) | apply rw_alloc | apply rw_drew | apply rw_drewN))); (try case hv => first | exact stA_get _ _ | exact hcur0 | rfl); (try case hi => first | exact hR.i49 _ | exact hR.i83 _ | kernel_rfl); (try case hold => first | exact hR.z _ _ | exact hR.sz _ _ | rfl); (try case h1 => first | exact hR.all _ rfl | kernel_rfl); (try case hlt => first | exact stA_lt _ _ | rfl); (try case hcs => first | exact stA_set _ _ _ | ((try simp only [List.setIfInBounds_toArray, List.set_cons_succ, List.set_cons_zero]); rfl))))
    refine (hcall A _ (h.below (B := w.heap.size) (by with_reducible repeat (first | exact Below.refl _ _ | assumption | ((first | refine Below.alloc ?_ ?b_ _ | refine bw_set ?_ ?b_ | refine Below.setCell ?_ ?b_ _); case b_ => first | omega | (simp; done) | (simp; omega)) | refine Below.drew ?_ | refine below_drewN ?_ _)) (Nat.le_refl _))).mono ?_
    rintro e w1 ⟨⟨g, vc, cur, rfl, _, _, _, _, _⟩, hB1⟩
    have hb := hB1
    clear hB1
    have hs_w1 := hb.size
    (try simp at hs_w1)
    have hB_w1 : Below w.heap.size w w1 := below_then (w := w) (by with_reducible repeat (first | exact Below.refl _ _ | assumption | ((first | refine Below.alloc ?_ ?b_ _ | refine bw_set ?_ ?b_ | refine Below.setCell ?_ ?b_ _); case b_ => first | omega | (simp; done) | (simp; omega)) | refine Below.drew ?_ | refine below_drewN ?_ _)) (by first | omega | (simp; done) | (simp; omega) | (have hq_ := hb.size; omega)) hb
    have hx_ := rw_below (k := w.heap.size) hb (by with_reducible repeat (first | assumption | (refine rw_new ?e_; case e_ => first | rfl | (simp; done) | (simp; omega)) | apply rw_self | (apply rw_other; case hn => first | omega | (simp; omega)) | apply rw_alloc | apply rw_drew | apply rw_drewN))
    (try clear hp)
    have hp := hx_
    clear hx_
    have hx_ := rw_below (k := w.heap.size + 1) hb (by with_reducible repeat (first | assumption | (refine rw_new ?e_; case e_ => first | rfl | (simp; done) | (simp; omega)) | apply rw_self | (apply rw_other; case hn => first | omega | (simp; omega)) | apply rw_alloc | apply rw_drew | apply rw_drewN))
    (try clear hq)
    have hq := hx_
    clear hx_
    clear hb
    go_wp2_with (first | ((with_reducible refine rw_list ?_); (with_reducible apply wpList_append_eq); (case ho => with_reducible rfl); (case hgd => with_reducible rfl); (case hs => first | exact ev_const | exact ev_tmp rfl); (case hx => first | exact ev_const | exact ev_tmp rfl); (case hr => exact hap _)) | ((with_reducible refine rw_list ?_); (first | ((with_reducible apply wpList_load_cell); (case ho => with_reducible rfl); (case hgd => with_reducible rfl); (case hx => rfl); (case hu => first | exact Try.underlying22 | exact Try.underlying3 | exact Try.underlying55 | exact Try.underlying9 | exact Try.underlying4); (case hd => rfl)) | ((with_reducible apply wpList_load_row); (case ho => with_reducible rfl); (case hgd => with_reducible rfl); (case hx => rfl); (case hu => first | exact Try.underlying49 | exact Try.underlying83 | exact Try.underlying43); (case hd => rfl)) | ((with_reducible apply wpList_store_row); (case ho => with_reducible rfl); (case hgd => with_reducible rfl); (case hx => rfl); (case hy => rfl)) | ((with_reducible apply wpList_store_cell); (case ho => with_reducible rfl); (case hgd => with_reducible rfl); (case hx => rfl); (case hy => first | exact ev_const | exact ev_tmp rfl); (case h1 => rfl))); (case hg => exact (by with_reducible repeat (first | assumption | (refine rw_new ?e_; case e_ => first | rfl | (simp; done) | (simp; omega)) | apply rw_self | (apply rw_other; case hn => first | omega | (simp; omega)) | apply rw_alloc | apply rw_drew | apply rw_drewN))); (try case hv => first | exact stA_get _ _ | exact hcur0 | rfl); (try case hi => first | exact hR.i49 _ | exact hR.i83 _ | kernel_rfl); (try case hold => first | exact hR.z _ _ | exact hR.sz _ _ | rfl); (try case h1 => first | exact hR.all _ rfl | kernel_rfl); (try case hlt => first | exact stA_lt _ _ | rfl); (try case hcs => first | exact stA_set _ _ _ | ((try simp only [List.setIfInBounds_toArray, List.set_cons_succ, List.set_cons_zero]); rfl))))
    refine (instead_any 1 (by omega) _ ((h.out (w.heap.size + 2)).below (B := w.heap.size) (by with_reducible repeat (first | exact Below.refl _ _ | assumption | ((first | refine Below.alloc ?_ ?b_ _ | refine bw_set ?_ ?b_ | refine Below.setCell ?_ ?b_ _); case b_ => first | omega | (simp; done) | (simp; omega)) | refine Below.drew ?_ | refine below_drewN ?_ _)) (Nat.le_refl _)) ((hT.out (w.heap.size + 2)).below (B := w.heap.size) (by with_reducible repeat (first | exact Below.refl _ _ | assumption | ((first | refine Below.alloc ?_ ?b_ _ | refine bw_set ?_ ?b_ | refine Below.setCell ?_ ?b_ _); case b_ => first | omega | (simp; done) | (simp; omega)) | refine Below.drew ?_ | refine below_drewN ?_ _)) (Nat.le_refl _)) hR).mono ?_
    rintro e w2 ⟨⟨z, n1, cap1, rfl, hS⟩, hB1⟩
    have hb := hB1
    clear hB1
    have hs_w2 := hb.size
    (try simp at hs_w2)
    have hB_w2 : Below w.heap.size w w2 := below_then (w := w) (by with_reducible repeat (first | exact Below.refl _ _ | assumption | ((first | refine Below.alloc ?_ ?b_ _ | refine bw_set ?_ ?b_ | refine Below.setCell ?_ ?b_ _); case b_ => first | omega | (simp; done) | (simp; omega)) | refine Below.drew ?_ | refine below_drewN ?_ _)) (by first | omega | (simp; done) | (simp; omega) | (have hq_ := hb.size; omega)) hb
    have hx_ := rw_below (k := w.heap.size) hb (by with_reducible repeat (first | assumption | (refine rw_new ?e_; case e_ => first | rfl | (simp; done) | (simp; omega)) | apply rw_self | (apply rw_other; case hn => first | omega | (simp; omega)) | apply rw_alloc | apply rw_drew | apply rw_drewN))
    (try clear hp)
    have hp := hx_
    clear hx_
    have hx_ := rw_below (k := w.heap.size + 1) hb (by with_reducible repeat (first | assumption | (refine rw_new ?e_; case e_ => first | rfl | (simp; done) | (simp; omega)) | apply rw_self | (apply rw_other; case hn => first | omega | (simp; omega)) | apply rw_alloc | apply rw_drew | apply rw_drewN))
    (try clear hq)
    have hq := hx_
    clear hx_
    clear hb
    have hS := hS.inn (by first | omega | (simp; done) | (simp; omega))
    go_wp2_with (first | ((with_reducible refine rw_list ?_); (with_reducible apply wpList_append_eq); (case ho => with_reducible rfl); (case hgd => with_reducible rfl); (case hs => first | exact ev_const | exact ev_tmp rfl); (case hx => first | exact ev_const | exact ev_tmp rfl); (case hr => exact hap _)) | ((with_reducible refine rw_list ?_); (first | ((with_reducible apply wpList_load_cell); (case ho => with_reducible rfl); (case hgd => with_reducible rfl); (case hx => rfl); (case hu => first | exact Try.underlying22 | exact Try.underlying3 | exact Try.underlying55 | exact Try.underlying9 | exact Try.underlying4); (case hd => rfl)) | ((with_reducible apply wpList_load_row); (case ho => with_reducible rfl); (case hgd => with_reducible rfl); (case hx => rfl); (case hu => first | exact Try.underlying49 | exact Try.underlying83 | exact Try.underlying43); (case hd => rfl)) | ((with_reducible apply wpList_store_row); (case ho => with_reducible rfl); (case hgd => with_reducible rfl); (case hx => rfl); (case hy => rfl)) | ((with_reducible apply wpList_store_cell); (case ho => with_reducible rfl); (case hgd => with_reducible rfl); (case hx => rfl); (case hy => first | exact ev_const | exact ev_tmp rfl); (case h1 => rfl))); (case hg => exact (by with_reducible repeat (first | assumption | (refine rw_new ?e_; case e_ => first | rfl | (simp; done) | (simp; omega)) | apply rw_self | (apply rw_other; case hn => first | omega | (simp; omega)) | apply rw_alloc | apply rw_drew | apply rw_drewN))); (try case hv => first | exact stA_get _ _ | exact hcur0 | rfl); (try case hi => first | exact hR.i49 _ | exact hR.i83 _ | kernel_rfl); (try case hold => first | exact hR.z _ _ | exact hR.sz _ _ | rfl); (try case h1 => first | exact hR.all _ rfl | kernel_rfl); (try case hlt => first | exact stA_lt _ _ | rfl); (try case hcs => first | exact stA_set _ _ _ | ((try simp only [List.setIfInBounds_toArray, List.set_cons_succ, List.set_cons_zero]); rfl))))
    refine bodyPost_ret (v := _) (results_cell_tmp Try.results30 _ _ _ _ _ _ _ (by rfl) (by with_reducible repeat (first | assumption | (refine rw_new ?e_; case e_ => first | rfl | (simp; done) | (simp; omega)) | apply rw_self | (apply rw_other; case hn => first | omega | (simp; omega)) | apply rw_alloc | apply rw_drew | apply rw_drewN)) Try.underlying49 rfl (by exact hR.i49 _)) rfl ⟨⟨_, _, _, rfl, ?_⟩, (by with_reducible repeat (first | exact Below.refl _ _ | assumption | ((first | refine Below.alloc ?_ ?b_ _ | refine bw_set ?_ ?b_ | refine Below.setCell ?_ ?b_ _); case b_ => first | omega | (simp; done) | (simp; omega)) | refine Below.drew ?_ | refine below_drewN ?_ _))⟩
    exact (SL.fin (hS.keep (by first | omega | (simp; done) | (simp; omega)) (fun b hA hlt => by have hA := out_or hA; (try simp at hA); (with_reducible repeat (first | rfl | (refine (setRow_other _ _ _ _ ?n_).trans ?_; case n_ => first | omega | (simp; omega)) | (refine (Below.heap_alloc _ _ _ ?n_).trans ?_; case n_ => first | omega | (simp; omega)))))) (by first | omega | (simp; done) | (simp; omega)))
  · rw [show copyR L = (ctE L 1 0, L) from if_neg hc]
    have hcall := fun w h => counted_err (A := A) (x := x) (len := len) (cap := cap) (R := R) (L := L) 1 0 (by omega) (by omega) (by omega) hc w h hR
    obtain ⟨er, her⟩ : ∃ er, ctE L 1 0 = er := ⟨_, rfl⟩
    rw [her] at hc hcall ⊢
    have hc2 : (er == 0) = false := by simpa using hc
    clear her
    go_enter Try.func30, Try.ntmps30
    go_wp2_with (first | ((with_reducible refine rw_list ?_); (with_reducible apply wpList_append_eq); (case ho => with_reducible rfl); (case hgd => with_reducible rfl); (case hs => first | exact ev_const | exact ev_tmp rfl); (case hx => first | exact ev_const | exact ev_tmp rfl); (case hr => exact hap _)) | ((with_reducible refine rw_list ?_); (first | ((with_reducible apply wpList_load_cell); (case ho => with_reducible rfl); (case hgd => with_reducible rfl); (case hx => rfl); (case hu => first | exact Try.underlying22 | exact Try.underlying3 | exact Try.underlying55 | exact Try.underlying9 | exact Try.underlying4); (case hd => rfl)) | ((with_reducible apply wpList_load_row); (case ho => with_reducible rfl); (case hgd => with_reducible rfl); (case hx => rfl); (case hu => first | exact Try.underlying49 | exact Try.underlying83 | exact Try.underlying43); (case hd => rfl)) | ((with_reducible apply wpList_store_row); (case ho => with_reducible rfl); (case hgd => with_reducible rfl); (case hx => rfl); (case hy => rfl)) | ((with_reducible apply wpList_store_cell); (case ho => with_reducible rfl); (case hgd => with_reducible rfl); (case hx => rfl); (case hy => first | exact ev_const | exact ev_tmp rfl); (case h1 => rfl))); (case hg => exact (by with_reducible repeat (first | assumption | (refine rw_new ?e_; case e_ => first | rfl | (simp; done) | (simp; omega)) | apply rw_self | (apply rw_other; case hn => first | omega | (simp; omega)) | apply rw_alloc | apply rw_drew | apply rw_drewN))); (try case hv => first | exact stA_get _ _ | exact hcur0 | rfl); (try case hi => first | exact hR.i49 _ | exact hR.i83 _ | kernel_rfl); (try case hold => first | exact hR.z _ _ | exact hR.sz _ _ | rfl); (try case h1 => first | exact hR.all _ rfl | kernel_rfl); (try case hlt => first | exact stA_lt _ _ | rfl); (try case hcs => first | exact stA_set _ _ _ | ((try simp only [List.setIfInBounds_toArray, List.set_cons_succ, List.set_cons_zero]); rfl))))
    refine (hcall _ (h.below (B := w.heap.size) (by with_reducible repeat (first | exact Below.refl _ _ | assumption | ((first | refine Below.alloc ?_ ?b_ _ | refine bw_set ?_ ?b_ | refine Below.setCell ?_ ?b_ _); case b_ => first | omega | (simp; done) | (simp; omega)) | refine Below.drew ?_ | refine below_drewN ?_ _)) (Nat.le_refl _))).mono ?_
    rintro e w1 ⟨rfl, hb⟩
    have hs_w1 := hb.size
    (try simp at hs_w1)
    have hB_w1 : Below w.heap.size w w1 := below_then (w := w) (by with_reducible repeat (first | exact Below.refl _ _ | assumption | ((first | refine Below.alloc ?_ ?b_ _ | refine bw_set ?_ ?b_ | refine Below.setCell ?_ ?b_ _); case b_ => first | omega | (simp; done) | (simp; omega)) | refine Below.drew ?_ | refine below_drewN ?_ _)) (by first | omega | (simp; done) | (simp; omega) | (have hq_ := hb.size; omega)) hb
    have hx_ := rw_below (k := w.heap.size) hb (by with_reducible repeat (first | assumption | (refine rw_new ?e_; case e_ => first | rfl | (simp; done) | (simp; omega)) | apply rw_self | (apply rw_other; case hn => first | omega | (simp; omega)) | apply rw_alloc | apply rw_drew | apply rw_drewN))
    (try clear hp)
    have hp := hx_
    clear hx_
    have hx_ := rw_below (k := w.heap.size + 1) hb (by with_reducible repeat (first | assumption | (refine rw_new ?e_; case e_ => first | rfl | (simp; done) | (simp; omega)) | apply rw_self | (apply rw_other; case hn => first | omega | (simp; omega)) | apply rw_alloc | apply rw_drew | apply rw_drewN))
    (try clear hq)
    have hq := hx_
    clear hx_
    clear hb
    go_wp2_with (first | ((with_reducible refine rw_list ?_); (with_reducible apply wpList_append_eq); (case ho => with_reducible rfl); (case hgd => with_reducible rfl); (case hs => first | exact ev_const | exact ev_tmp rfl); (case hx => first | exact ev_const | exact ev_tmp rfl); (case hr => exact hap _)) | ((with_reducible refine rw_list ?_); (first | ((with_reducible apply wpList_load_cell); (case ho => with_reducible rfl); (case hgd => with_reducible rfl); (case hx => rfl); (case hu => first | exact Try.underlying22 | exact Try.underlying3 | exact Try.underlying55 | exact Try.underlying9 | exact Try.underlying4); (case hd => rfl)) | ((with_reducible apply wpList_load_row); (case ho => with_reducible rfl); (case hgd => with_reducible rfl); (case hx => rfl); (case hu => first | exact Try.underlying49 | exact Try.underlying83 | exact Try.underlying43); (case hd => rfl)) | ((with_reducible apply wpList_store_row); (case ho => with_reducible rfl); (case hgd => with_reducible rfl); (case hx => rfl); (case hy => rfl)) | ((with_reducible apply wpList_store_cell); (case ho => with_reducible rfl); (case hgd => with_reducible rfl); (case hx => rfl); (case hy => first | exact ev_const | exact ev_tmp rfl); (case h1 => rfl))); (case hg => exact (by with_reducible repeat (first | assumption | (refine rw_new ?e_; case e_ => first | rfl | (simp; done) | (simp; omega)) | apply rw_self | (apply rw_other; case hn => first | omega | (simp; omega)) | apply rw_alloc | apply rw_drew | apply rw_drewN))); (try case hv => first | exact stA_get _ _ | exact hcur0 | rfl); (try case hi => first | exact hR.i49 _ | exact hR.i83 _ | kernel_rfl); (try case hold => first | exact hR.z _ _ | exact hR.sz _ _ | rfl); (try case h1 => first | exact hR.all _ rfl | kernel_rfl); (try case hlt => first | exact stA_lt _ _ | rfl); (try case hcs => first | exact stA_set _ _ _ | ((try simp only [List.setIfInBounds_toArray, List.set_cons_succ, List.set_cons_zero]); rfl))))
    refine bodyPost_ret (v := _) (results_cell_tmp Try.results30 _ _ _ _ _ _ _ (by rfl) (by with_reducible repeat (first | assumption | (refine rw_new ?e_; case e_ => first | rfl | (simp; done) | (simp; omega)) | apply rw_self | (apply rw_other; case hn => first | omega | (simp; omega)) | apply rw_alloc | apply rw_drew | apply rw_drewN)) Try.underlying49 rfl (by exact hR.i49 _)) rfl ⟨⟨_, _, _, rfl, ?_⟩, (by with_reducible repeat (first | exact Below.refl _ _ | assumption | ((first | refine Below.alloc ?_ ?b_ _ | refine bw_set ?_ ?b_ | refine Below.setCell ?_ ?b_ _); case b_ => first | omega | (simp; done) | (simp; omega)) | refine Below.drew ?_ | refine below_drewN ?_ _))⟩
    exact (h.out w.heap.size).below (B := w.heap.size) (by with_reducible repeat (first | exact Below.refl _ _ | assumption | ((first | refine Below.alloc ?_ ?b_ _ | refine bw_set ?_ ?b_ | refine Below.setCell ?_ ?b_ _); case b_ => first | omega | (simp; done) | (simp; omega)) | refine Below.drew ?_ | refine below_drewN ?_ _)) (Nat.le_refl _)
end Go.Proofs.Ytiadenokcpnliaa.T3
