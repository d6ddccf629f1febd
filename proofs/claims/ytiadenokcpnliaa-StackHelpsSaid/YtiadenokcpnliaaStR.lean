/- chapter 12: gives, wakes. -/
import Derived.Test.YtiadenokcpnliaaStQ
import Derived.WalkKit
import Derived.Lib.Hide
import Derived.Deep.QuietTactic
import Derived.BigQuiet
import Derived.Lib.QuietBelow
import Derived.Deep.RegionHeld3
import Derived.WalkLawsBesides
import Derived.WalkSpells
import Derived.Outline
import Derived.Deep.DeepFit
import Derived.Maps.AppendAt
import Derived.Deep.AppendLies
import Derived.Deep.CutRange
import Derived.OpenShut
namespace Go.Proofs.Ytiadenokcpnliaa.T3
set_option linter.unusedSimpArgs false
set_option linter.unusedVariables false
open Go.RowKit
attribute [local go_sem] Oper.semAt_some
set_option maxHeartbeats 4000000
set_option maxRecDepth 100000

theorem gives_any {A B : Nat → Prop} {x y : Option Addr} {len cap n c : Nat} {R : List Value} {L M : List Ob} (S : ByteArray) (w : World) (hx : SL A w x len cap L) (hy : SL B w y n c M) (hRd : RdR w R) (h0 : doR S L = (0, M)) :
    Calls Try.prog 20 #[.string S, .agg (stA (.slice x len cap) R), .agg (stA (.slice y n c) R)] w fun e w' => e = .returned (.bool true) ∧ Below w.heap.size w w' := by
  have hz := zeroS
  have hR := hRd.1
  have H0 := Lib.hid h0
  clear h0
  go_enter Try.func20, Try.ntmps20
  go_wp2_with (first | ((with_reducible refine rw_list ?_); (with_reducible apply wpList_load_rowg); (case ho => with_reducible rfl); (case hw => rfl); (case hx => rfl); (case hu => first | exact Try.underlying49 | exact Try.underlying83); (case hg => exact (by with_reducible repeat (first | assumption | (refine rw_new ?e_; case e_ => first | rfl | (simp; done) | (simp; omega)) | apply rw_self | (apply rw_other; case hn => first | omega | (simp; omega)) | apply rw_alloc | apply rw_drew | apply rw_drewN))); (case hi => first | exact hR.i49 _ | exact hR.i83 _ | exact okR0.i49 _)) | (first | ((with_reducible refine rw_list ?_); (with_reducible apply wpList_append_eq); (case ho => with_reducible rfl); (case hgd => with_reducible rfl); (case hs => first | exact ev_const | exact ev_tmp rfl); (case hx => first | exact ev_const | exact ev_tmp rfl); (case hr => exact hap _)) | ((with_reducible refine rw_list ?_); (first | ((with_reducible apply wpList_load_cell); (case ho => with_reducible rfl); (case hgd => with_reducible rfl); (case hx => rfl); (case hu => first | exact Try.underlying22 | exact Try.underlying3 | exact Try.underlying55 | exact Try.underlying9 | exact Try.underlying4); (case hd => rfl)) | ((with_reducible apply wpList_load_row); (case ho => with_reducible rfl); (case hgd => with_reducible rfl); (case hx => rfl); (case hu => first | exact Try.underlying49 | exact Try.underlying83 | exact Try.underlying43); (case hd => rfl)) | ((with_reducible apply wpList_store_row); (case ho => with_reducible rfl); (case hgd => with_reducible rfl); (case hx => rfl); (case hy => rfl)) | ((with_reducible apply wpList_store_cell); (case ho => with_reducible rfl); (case hgd => with_reducible rfl); (case hx => rfl); (case hy => first | exact ev_const | exact ev_tmp rfl); (case h1 => rfl))); (case hg => exact (by with_reducible repeat (first | assumption | (refine rw_new ?e_; case e_ => first | rfl | (simp; done) | (simp; omega)) | apply rw_self | (apply rw_other; case hn => first | omega | (simp; omega)) | apply rw_alloc | apply rw_drew | apply rw_drewN))); (try case hv => first | exact stA_get _ _ | exact hcur0 | rfl); (try case hi => first | exact hR.i49 _ | exact hR.i83 _ | kernel_rfl); (try case hold => first | exact hR.z _ _ | exact hR.sz _ _ | rfl); (try case h1 => first | exact hR.all _ rfl | kernel_rfl); (try case hlt => first | exact stA_lt _ _ | rfl); (try case hcs => first | exact stA_set _ _ _ | ((try simp only [List.setIfInBounds_toArray, List.set_cons_succ, List.set_cons_zero]); rfl)))))
  refine (do_any S _ ((hx.out (w.heap.size + 2)).below (B := w.heap.size) (by with_reducible repeat (first | exact Below.refl _ _ | assumption | ((first | refine Below.alloc ?_ ?b_ _ | refine bw_set ?_ ?b_ | refine Below.setCell ?_ ?b_ _); case b_ => first | omega | (simp; done) | (simp; omega)) | refine Below.drew ?_ | refine below_drewN ?_ _)) (Nat.le_refl _)) hR).mono ?_
  rintro e w1 ⟨⟨z, n1, cap1, rfl, hS⟩, hB1⟩
  have hb := hB1
  clear hB1
  have hs_w1 := hb.size
  (try simp at hs_w1)
  have hB_w1 : Below w.heap.size w w1 := below_then (w := w) (by with_reducible repeat (first | exact Below.refl _ _ | assumption | ((first | refine Below.alloc ?_ ?b_ _ | refine bw_set ?_ ?b_ | refine Below.setCell ?_ ?b_ _); case b_ => first | omega | (simp; done) | (simp; omega)) | refine Below.drew ?_ | refine below_drewN ?_ _)) (by first | omega | (simp; done) | (simp; omega) | (have hq_ := hb.size; omega)) hb
  have hx_ := rw_below (k := w.heap.size) hb (by with_reducible repeat (first | assumption | (refine rw_new ?e_; case e_ => first | rfl | (simp; done) | (simp; omega)) | apply rw_self | (apply rw_other; case hn => first | omega | (simp; omega)) | apply rw_alloc | apply rw_drew | apply rw_drewN))
  (try clear hp)
  have hp := hx_
  clear hx_
  have hx_ := rw_below (k := w.heap.size + 1) hb (by with_reducible repeat (first | assumption | (refine rw_new ?e_; case e_ => first | rfl | (simp; done) | (simp; omega)) | apply rw_self | (apply rw_other; case hn => first | omega | (simp; omega)) | apply rw_alloc | apply rw_drew | apply rw_drewN))
  (try clear hq)
  have hq := hx_
  clear hx_
  clear hb
  rw [H0.out] at hS ⊢
  have hS : SL _ w1 z n1 cap1 M := hS
  have hnn : n1 = n := by have := hS.ln; have := hy.ln; omega
  subst hnn
  go_wp2_with (first | ((with_reducible refine rw_list ?_); (with_reducible apply wpList_load_rowg); (case ho => with_reducible rfl); (case hw => rfl); (case hx => rfl); (case hu => first | exact Try.underlying49 | exact Try.underlying83); (case hg => exact (by with_reducible repeat (first | assumption | (refine rw_new ?e_; case e_ => first | rfl | (simp; done) | (simp; omega)) | apply rw_self | (apply rw_other; case hn => first | omega | (simp; omega)) | apply rw_alloc | apply rw_drew | apply rw_drewN))); (case hi => first | exact hR.i49 _ | exact hR.i83 _ | exact okR0.i49 _)) | (first | ((with_reducible refine rw_list ?_); (with_reducible apply wpList_append_eq); (case ho => with_reducible rfl); (case hgd => with_reducible rfl); (case hs => first | exact ev_const | exact ev_tmp rfl); (case hx => first | exact ev_const | exact ev_tmp rfl); (case hr => exact hap _)) | ((with_reducible refine rw_list ?_); (first | ((with_reducible apply wpList_load_cell); (case ho => with_reducible rfl); (case hgd => with_reducible rfl); (case hx => rfl); (case hu => first | exact Try.underlying22 | exact Try.underlying3 | exact Try.underlying55 | exact Try.underlying9 | exact Try.underlying4); (case hd => rfl)) | ((with_reducible apply wpList_load_row); (case ho => with_reducible rfl); (case hgd => with_reducible rfl); (case hx => rfl); (case hu => first | exact Try.underlying49 | exact Try.underlying83 | exact Try.underlying43); (case hd => rfl)) | ((with_reducible apply wpList_store_row); (case ho => with_reducible rfl); (case hgd => with_reducible rfl); (case hx => rfl); (case hy => rfl)) | ((with_reducible apply wpList_store_cell); (case ho => with_reducible rfl); (case hgd => with_reducible rfl); (case hx => rfl); (case hy => first | exact ev_const | exact ev_tmp rfl); (case h1 => rfl))); (case hg => exact (by with_reducible repeat (first | assumption | (refine rw_new ?e_; case e_ => first | rfl | (simp; done) | (simp; omega)) | apply rw_self | (apply rw_other; case hn => first | omega | (simp; omega)) | apply rw_alloc | apply rw_drew | apply rw_drewN))); (try case hv => first | exact stA_get _ _ | exact hcur0 | rfl); (try case hi => first | exact hR.i49 _ | exact hR.i83 _ | kernel_rfl); (try case hold => first | exact hR.z _ _ | exact hR.sz _ _ | rfl); (try case h1 => first | exact hR.all _ rfl | kernel_rfl); (try case hlt => first | exact stA_lt _ _ | rfl); (try case hcs => first | exact stA_set _ _ _ | ((try simp only [List.setIfInBounds_toArray, List.set_cons_succ, List.set_cons_zero]); rfl)))))
  refine (ss_same _ (hS.below (B := w1.heap.size) (by with_reducible repeat (first | exact Below.refl _ _ | assumption | ((first | refine Below.alloc ?_ ?b_ _ | refine bw_set ?_ ?b_ | refine Below.setCell ?_ ?b_ _); case b_ => first | omega | (simp; done) | (simp; omega)) | refine Below.drew ?_ | refine below_drewN ?_ _)) (Nat.le_refl _)) (hy.below (B := w.heap.size) (by with_reducible repeat (first | exact Below.refl _ _ | assumption | ((first | refine Below.alloc ?_ ?b_ _ | refine bw_set ?_ ?b_ | refine Below.setCell ?_ ?b_ _); case b_ => first | omega | (simp; done) | (simp; omega)) | refine Below.drew ?_ | refine below_drewN ?_ _)) (Nat.le_refl _)) (hRd.below (B := w.heap.size) (by with_reducible repeat (first | exact Below.refl _ _ | assumption | ((first | refine Below.alloc ?_ ?b_ _ | refine bw_set ?_ ?b_ | refine Below.setCell ?_ ?b_ _); case b_ => first | omega | (simp; done) | (simp; omega)) | refine Below.drew ?_ | refine below_drewN ?_ _)) (Nat.le_refl _))).mono ?_
  rintro e w2 ⟨rfl, hb⟩
  have hs_w2 := hb.size
  (try simp at hs_w2)
  have hB_w2 : Below w.heap.size w w2 := below_then (w := w) (by with_reducible repeat (first | exact Below.refl _ _ | assumption | ((first | refine Below.alloc ?_ ?b_ _ | refine bw_set ?_ ?b_ | refine Below.setCell ?_ ?b_ _); case b_ => first | omega | (simp; done) | (simp; omega)) | refine Below.drew ?_ | refine below_drewN ?_ _)) (by first | omega | (simp; done) | (simp; omega) | (have hq_ := hb.size; omega)) hb
  clear hb
  go_wp2_with (first | ((with_reducible refine rw_list ?_); (with_reducible apply wpList_load_rowg); (case ho => with_reducible rfl); (case hw => rfl); (case hx => rfl); (case hu => first | exact Try.underlying49 | exact Try.underlying83); (case hg => exact (by with_reducible repeat (first | assumption | (refine rw_new ?e_; case e_ => first | rfl | (simp; done) | (simp; omega)) | apply rw_self | (apply rw_other; case hn => first | omega | (simp; omega)) | apply rw_alloc | apply rw_drew | apply rw_drewN))); (case hi => first | exact hR.i49 _ | exact hR.i83 _ | exact okR0.i49 _)) | (first | ((with_reducible refine rw_list ?_); (with_reducible apply wpList_append_eq); (case ho => with_reducible rfl); (case hgd => with_reducible rfl); (case hs => first | exact ev_const | exact ev_tmp rfl); (case hx => first | exact ev_const | exact ev_tmp rfl); (case hr => exact hap _)) | ((with_reducible refine rw_list ?_); (first | ((with_reducible apply wpList_load_cell); (case ho => with_reducible rfl); (case hgd => with_reducible rfl); (case hx => rfl); (case hu => first | exact Try.underlying22 | exact Try.underlying3 | exact Try.underlying55 | exact Try.underlying9 | exact Try.underlying4); (case hd => rfl)) | ((with_reducible apply wpList_load_row); (case ho => with_reducible rfl); (case hgd => with_reducible rfl); (case hx => rfl); (case hu => first | exact Try.underlying49 | exact Try.underlying83 | exact Try.underlying43); (case hd => rfl)) | ((with_reducible apply wpList_store_row); (case ho => with_reducible rfl); (case hgd => with_reducible rfl); (case hx => rfl); (case hy => rfl)) | ((with_reducible apply wpList_store_cell); (case ho => with_reducible rfl); (case hgd => with_reducible rfl); (case hx => rfl); (case hy => first | exact ev_const | exact ev_tmp rfl); (case h1 => rfl))); (case hg => exact (by with_reducible repeat (first | assumption | (refine rw_new ?e_; case e_ => first | rfl | (simp; done) | (simp; omega)) | apply rw_self | (apply rw_other; case hn => first | omega | (simp; omega)) | apply rw_alloc | apply rw_drew | apply rw_drewN))); (try case hv => first | exact stA_get _ _ | exact hcur0 | rfl); (try case hi => first | exact hR.i49 _ | exact hR.i83 _ | kernel_rfl); (try case hold => first | exact hR.z _ _ | exact hR.sz _ _ | rfl); (try case h1 => first | exact hR.all _ rfl | kernel_rfl); (try case hlt => first | exact stA_lt _ _ | rfl); (try case hcs => first | exact stA_set _ _ _ | ((try simp only [List.setIfInBounds_toArray, List.set_cons_succ, List.set_cons_zero]); rfl)))))
  go_ret
  exact ⟨rfl, (by with_reducible repeat (first | exact Below.refl _ _ | assumption | ((first | refine Below.alloc ?_ ?b_ _ | refine bw_set ?_ ?b_ | refine Below.setCell ?_ ?b_ _); case b_ => first | omega | (simp; done) | (simp; omega)) | refine Below.drew ?_ | refine below_drewN ?_ _))⟩
end Go.Proofs.Ytiadenokcpnliaa.T3
