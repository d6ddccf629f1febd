/- chapter 12: the operator roll, 3. -/
import Derived.Test.YtiadenokcpnliaaStJ
import Derived.WalkKit
import Derived.Lib.Hide
import Derived.Deep.QuietTactic
import Derived.BigQuiet
import Derived.Lib.QuietBelow
import Derived.Deep.RegionHeld3
import Derived.WalkLawsBesides
import Derived.WalkSpells
import Derived.Outline
import Derived.Deep.DeepFit
import Derived.Maps.AppendAt
import Derived.Deep.AppendLies
import Derived.Deep.CutRange
import Derived.OpenShut
namespace Go.Proofs.Ytiadenokcpnliaa.T3
set_option linter.unusedSimpArgs false
set_option linter.unusedVariables false
open Go.RowKit
attribute [local go_sem] Oper.semAt_some
set_option maxHeartbeats 4000000
set_option maxRecDepth 100000

def ctJ (L : List Ob) : Int := (at_ (L.drop (L.length - 2)) 1).n
noncomputable def rollR (L : List Ob) : Int × List Ob := if ctE L 2 0 = 0 then (if (ctL L 2 0).length = 0 then insR L 2 [] else insR L ((ctL L 2 0).length + 2) (rollV (ctL L 2 0) (ctJ L))) else (ctE L 2 0, L)
theorem info7 : (Try.prog.info? 43).map (·.size) = some 7 := by kernel_rfl
theorem op_roll : OpC 32 rollR := by
  intro A x len cap R L w h hR
  have hz := zeroS
  have hle := h.le
  have hmx := h.mx
  have hsm := h.sm
  have hln := h.ln
  have hmf : ∀ (fn : Fn) (first cap : Array Value) (w : World), (Instr.makeFunc fn first cap).run Try.prog w = .ok (.func fn first cap) w := fun _ _ _ _ => rfl
  by_cases hc : ctE L 2 0 = 0
  · obtain ⟨y, N, hT, hj, hcall⟩ := counted_fine 2 0 (by omega) (by omega) hc w h hR
    obtain ⟨hq1, hq2, hq3, hq4⟩ := ctE_ok hc
    by_cases hN : N = 0
    · subst hN
      rw [show rollR L = insR L 2 [] by unfold rollR; rw [if_pos hc, if_pos hT.ln]]
      clear hq1 hq2 hq3 hq4 hj
      go_enter Try.func32, Try.ntmps32
      go_wp2_with (first | ((with_reducible refine rw_list ?_); (with_reducible apply wpList_append_eq); (case ho => with_reducible rfl); (case hgd => with_reducible rfl); (case hs => first | exact ev_const | exact ev_tmp rfl); (case hx => first | exact ev_const | exact ev_tmp rfl); (case hr => exact hap _)) | ((with_reducible refine rw_list ?_); (first | ((with_reducible apply wpList_load_cell); (case ho => with_reducible rfl); (case hgd => with_reducible rfl); (case hx => rfl); (case hu => first | exact Try.underlying22 | exact Try.underlying3 | exact Try.underlying55 | exact Try.underlying9 | exact Try.underlying4); (case hd => rfl)) | ((with_reducible apply wpList_load_row); (case ho => with_reducible rfl); (case hgd => with_reducible rfl); (case hx => rfl); (case hu => first | exact Try.underlying49 | exact Try.underlying83 | exact Try.underlying43); (case hd => rfl)) | ((with_reducible apply wpList_store_row); (case ho => with_reducible rfl); (case hgd => with_reducible rfl); (case hx => rfl); (case hy => rfl)) | ((with_reducible apply wpList_store_cell); (case ho => with_reducible rfl); (case hgd => with_reducible rfl); (case hx => rfl); (case hy => first | exact ev_const | exact ev_tmp rfl); (case h1 => rfl))); (case hg => exact (by with_reducible repeat (first | assumption | (refine rw_new ?e_; case e_ => first | rfl | (simp; done) | (simp; omega)) | apply rw_self | (apply rw_other; case hn => first | omega | (simp; omega)) | apply rw_alloc | apply rw_drew | apply rw_drewN))); (try case hv => first | exact stA_get _ _ | exact hcur0 | rfl); (try case hi => first | exact hR.i49 _ | exact hR.i83 _ | kernel_rfl); (try case hold => first | exact hR.z _ _ | exact hR.sz _ _ | rfl); (try case h1 => first | exact hR.all _ rfl | kernel_rfl); (try case hlt => first | exact stA_lt _ _ | rfl); (try case hcs => first | exact stA_set _ _ _ | ((try simp only [List.setIfInBounds_toArray, List.set_cons_succ, List.set_cons_zero]); rfl))))
      refine (hcall A _ (h.below (B := w.heap.size) (by with_reducible repeat (first | exact Below.refl _ _ | assumption | ((first | refine Below.alloc ?_ ?b_ _ | refine bw_set ?_ ?b_ | refine Below.setCell ?_ ?b_ _); case b_ => first | omega | (simp; done) | (simp; omega)) | refine Below.drew ?_ | refine below_drewN ?_ _)) (Nat.le_refl _))).mono ?_
      rintro e w1 ⟨⟨g, vc, cur, rfl, hgb, hv2, hvm, hg, hcur⟩, hB1⟩
      have hb := hB1
      clear hB1
      have hs_w1 := hb.size
      (try simp at hs_w1)
      have hB_w1 : Below w.heap.size w w1 := below_then (w := w) (by with_reducible repeat (first | exact Below.refl _ _ | assumption | ((first | refine Below.alloc ?_ ?b_ _ | refine bw_set ?_ ?b_ | refine Below.setCell ?_ ?b_ _); case b_ => first | omega | (simp; done) | (simp; omega)) | refine Below.drew ?_ | refine below_drewN ?_ _)) (by first | omega | (simp; done) | (simp; omega) | (have hq_ := hb.size; omega)) hb
      have hx_ := rw_below (k := w.heap.size) hb (by with_reducible repeat (first | assumption | (refine rw_new ?e_; case e_ => first | rfl | (simp; done) | (simp; omega)) | apply rw_self | (apply rw_other; case hn => first | omega | (simp; omega)) | apply rw_alloc | apply rw_drew | apply rw_drewN))
      (try clear hp)
      have hp := hx_
      clear hx_
      have hx_ := rw_below (k := w.heap.size + 1) hb (by with_reducible repeat (first | assumption | (refine rw_new ?e_; case e_ => first | rfl | (simp; done) | (simp; omega)) | apply rw_self | (apply rw_other; case hn => first | omega | (simp; omega)) | apply rw_alloc | apply rw_drew | apply rw_drewN))
      (try clear hq)
      have hq := hx_
      clear hx_
      clear hb
      go_wp2_with (first | ((with_reducible refine rw_list ?_); (with_reducible apply wpList_append_eq); (case ho => with_reducible rfl); (case hgd => with_reducible rfl); (case hs => first | exact ev_const | exact ev_tmp rfl); (case hx => first | exact ev_const | exact ev_tmp rfl); (case hr => exact hap _)) | ((with_reducible refine rw_list ?_); (first | ((with_reducible apply wpList_load_cell); (case ho => with_reducible rfl); (case hgd => with_reducible rfl); (case hx => rfl); (case hu => first | exact Try.underlying22 | exact Try.underlying3 | exact Try.underlying55 | exact Try.underlying9 | exact Try.underlying4); (case hd => rfl)) | ((with_reducible apply wpList_load_row); (case ho => with_reducible rfl); (case hgd => with_reducible rfl); (case hx => rfl); (case hu => first | exact Try.underlying49 | exact Try.underlying83 | exact Try.underlying43); (case hd => rfl)) | ((with_reducible apply wpList_store_row); (case ho => with_reducible rfl); (case hgd => with_reducible rfl); (case hx => rfl); (case hy => rfl)) | ((with_reducible apply wpList_store_cell); (case ho => with_reducible rfl); (case hgd => with_reducible rfl); (case hx => rfl); (case hy => first | exact ev_const | exact ev_tmp rfl); (case h1 => rfl))); (case hg => exact (by with_reducible repeat (first | assumption | (refine rw_new ?e_; case e_ => first | rfl | (simp; done) | (simp; omega)) | apply rw_self | (apply rw_other; case hn => first | omega | (simp; omega)) | apply rw_alloc | apply rw_drew | apply rw_drewN))); (try case hv => first | exact stA_get _ _ | exact hcur0 | rfl); (try case hi => first | exact hR.i49 _ | exact hR.i83 _ | kernel_rfl); (try case hold => first | exact hR.z _ _ | exact hR.sz _ _ | rfl); (try case h1 => first | exact hR.all _ rfl | kernel_rfl); (try case hlt => first | exact stA_lt _ _ | rfl); (try case hcs => first | exact stA_set _ _ _ | ((try simp only [List.setIfInBounds_toArray, List.set_cons_succ, List.set_cons_zero]); rfl))))
      refine (instead_any 2 (by omega) _ ((h.out (w.heap.size + 2)).below (B := w.heap.size) (by with_reducible repeat (first | exact Below.refl _ _ | assumption | ((first | refine Below.alloc ?_ ?b_ _ | refine bw_set ?_ ?b_ | refine Below.setCell ?_ ?b_ _); case b_ => first | omega | (simp; done) | (simp; omega)) | refine Below.drew ?_ | refine below_drewN ?_ _)) (Nat.le_refl _)) (SL.nil _ _) hR).mono ?_
      rintro e w2 ⟨⟨z, n1, cap1, rfl, hS⟩, hB1⟩
      have hb := hB1
      clear hB1
      have hs_w2 := hb.size
      (try simp at hs_w2)
      have hB_w2 : Below w.heap.size w w2 := below_then (w := w) (by with_reducible repeat (first | exact Below.refl _ _ | assumption | ((first | refine Below.alloc ?_ ?b_ _ | refine bw_set ?_ ?b_ | refine Below.setCell ?_ ?b_ _); case b_ => first | omega | (simp; done) | (simp; omega)) | refine Below.drew ?_ | refine below_drewN ?_ _)) (by first | omega | (simp; done) | (simp; omega) | (have hq_ := hb.size; omega)) hb
      have hx_ := rw_below (k := w.heap.size) hb (by with_reducible repeat (first | assumption | (refine rw_new ?e_; case e_ => first | rfl | (simp; done) | (simp; omega)) | apply rw_self | (apply rw_other; case hn => first | omega | (simp; omega)) | apply rw_alloc | apply rw_drew | apply rw_drewN))
      (try clear hp)
      have hp := hx_
      clear hx_
      have hx_ := rw_below (k := w.heap.size + 1) hb (by with_reducible repeat (first | assumption | (refine rw_new ?e_; case e_ => first | rfl | (simp; done) | (simp; omega)) | apply rw_self | (apply rw_other; case hn => first | omega | (simp; omega)) | apply rw_alloc | apply rw_drew | apply rw_drewN))
      (try clear hq)
      have hq := hx_
      clear hx_
      clear hb
      have hS := hS.inn (by first | omega | (simp; done) | (simp; omega))
      go_wp2_with (first | ((with_reducible refine rw_list ?_); (with_reducible apply wpList_append_eq); (case ho => with_reducible rfl); (case hgd => with_reducible rfl); (case hs => first | exact ev_const | exact ev_tmp rfl); (case hx => first | exact ev_const | exact ev_tmp rfl); (case hr => exact hap _)) | ((with_reducible refine rw_list ?_); (first | ((with_reducible apply wpList_load_cell); (case ho => with_reducible rfl); (case hgd => with_reducible rfl); (case hx => rfl); (case hu => first | exact Try.underlying22 | exact Try.underlying3 | exact Try.underlying55 | exact Try.underlying9 | exact Try.underlying4); (case hd => rfl)) | ((with_reducible apply wpList_load_row); (case ho => with_reducible rfl); (case hgd => with_reducible rfl); (case hx => rfl); (case hu => first | exact Try.underlying49 | exact Try.underlying83 | exact Try.underlying43); (case hd => rfl)) | ((with_reducible apply wpList_store_row); (case ho => with_reducible rfl); (case hgd => with_reducible rfl); (case hx => rfl); (case hy => rfl)) | ((with_reducible apply wpList_store_cell); (case ho => with_reducible rfl); (case hgd => with_reducible rfl); (case hx => rfl); (case hy => first | exact ev_const | exact ev_tmp rfl); (case h1 => rfl))); (case hg => exact (by with_reducible repeat (first | assumption | (refine rw_new ?e_; case e_ => first | rfl | (simp; done) | (simp; omega)) | apply rw_self | (apply rw_other; case hn => first | omega | (simp; omega)) | apply rw_alloc | apply rw_drew | apply rw_drewN))); (try case hv => first | exact stA_get _ _ | exact hcur0 | rfl); (try case hi => first | exact hR.i49 _ | exact hR.i83 _ | kernel_rfl); (try case hold => first | exact hR.z _ _ | exact hR.sz _ _ | rfl); (try case h1 => first | exact hR.all _ rfl | kernel_rfl); (try case hlt => first | exact stA_lt _ _ | rfl); (try case hcs => first | exact stA_set _ _ _ | ((try simp only [List.setIfInBounds_toArray, List.set_cons_succ, List.set_cons_zero]); rfl))))
      refine bodyPost_ret (v := _) (results_cell_tmp Try.results32 _ _ _ _ _ _ _ (by rfl) (by with_reducible repeat (first | assumption | (refine rw_new ?e_; case e_ => first | rfl | (simp; done) | (simp; omega)) | apply rw_self | (apply rw_other; case hn => first | omega | (simp; omega)) | apply rw_alloc | apply rw_drew | apply rw_drewN)) Try.underlying49 rfl (by exact hR.i49 _)) rfl ⟨⟨_, _, _, rfl, ?_⟩, (by with_reducible repeat (first | exact Below.refl _ _ | assumption | ((first | refine Below.alloc ?_ ?b_ _ | refine bw_set ?_ ?b_ | refine Below.setCell ?_ ?b_ _); case b_ => first | omega | (simp; done) | (simp; omega)) | refine Below.drew ?_ | refine below_drewN ?_ _))⟩
      exact (SL.fin (hS.keep (by first | omega | (simp; done) | (simp; omega)) (fun b hA hlt => by have hA := out_or hA; (try simp at hA); (with_reducible repeat (first | rfl | (refine (setRow_other _ _ _ _ ?n_).trans ?_; case n_ => first | omega | (simp; omega)) | (refine (Below.heap_alloc _ _ _ ?n_).trans ?_; case n_ => first | omega | (simp; omega)))))) (by first | omega | (simp; done) | (simp; omega)))
    · have hTl := hT.ln
      rw [show rollR L = insR L (N + 2) (rollV (ctL L 2 0) (ctJ L)) by unfold rollR; rw [if_pos hc, if_neg (by omega), hTl]]
      have hv0 : (ivals (L.drop (len - 2)))[0]? = some (.int .i64 (N : Int)) := by
        unfold ivals
        rw [List.getElem?_map, List.getElem?_eq_getElem (by simp; omega)]
        have : ctN L 2 = ((L.drop (len - 2)).getD 0 mk).n := by unfold ctN; rw [hln]
        rw [List.getD_eq_getElem?_getD, List.getElem?_eq_getElem (by simp; omega)] at this
        simp only [Option.getD_some] at this
        simp only [Option.map_some]
        rw [← this]
        congr 2
        omega
      have hv1 : (ivals (L.drop (len - 2)))[1]? = some (.int .i64 (ctJ L)) := by
        unfold ivals ctJ
        rw [List.getElem?_map, hln, at_get (by simp; omega)]
        rfl
      obtain ⟨J, hJ⟩ : ∃ J, ctJ L = J := ⟨_, rfl⟩
      obtain ⟨T, hTT⟩ : ∃ T, ctL L 2 0 = T := ⟨_, rfl⟩
      rw [hJ] at hv1 ⊢
      rw [hTT] at hT hTl ⊢
      have hsmN := hT.sm
      have hroll := Lib.hid (show rollM T J N N = rollV T J by unfold rollV; rw [hTl])
      have hNn : N + 2 ≤ len := by omega
      clear hq1 hq2 hq3 hq4 hj hTT hJ hc
      obtain ⟨b, off, rfl⟩ := hT.ob.some_of (by omega)
      have hmk := make_ob N hsmN
      have hNb : ((N : Int) == 0) = false := by rw [beq_eq_false_iff_ne]; omega
      have hrz := rollM_zero T J N
      go_enter Try.func32, Try.ntmps32
      go_wp2_with (first | ((with_reducible refine rw_list ?_); (with_reducible apply wpList_append_eq); (case ho => with_reducible rfl); (case hgd => with_reducible rfl); (case hs => first | exact ev_const | exact ev_tmp rfl); (case hx => first | exact ev_const | exact ev_tmp rfl); (case hr => exact hap _)) | ((with_reducible refine rw_list ?_); (first | ((with_reducible apply wpList_load_cell); (case ho => with_reducible rfl); (case hgd => with_reducible rfl); (case hx => rfl); (case hu => first | exact Try.underlying22 | exact Try.underlying3 | exact Try.underlying55 | exact Try.underlying9 | exact Try.underlying4); (case hd => rfl)) | ((with_reducible apply wpList_load_row); (case ho => with_reducible rfl); (case hgd => with_reducible rfl); (case hx => rfl); (case hu => first | exact Try.underlying49 | exact Try.underlying83 | exact Try.underlying43); (case hd => rfl)) | ((with_reducible apply wpList_store_row); (case ho => with_reducible rfl); (case hgd => with_reducible rfl); (case hx => rfl); (case hy => rfl)) | ((with_reducible apply wpList_store_cell); (case ho => with_reducible rfl); (case hgd => with_reducible rfl); (case hx => rfl); (case hy => first | exact ev_const | exact ev_tmp rfl); (case h1 => rfl))); (case hg => exact (by with_reducible repeat (first | assumption | (refine rw_new ?e_; case e_ => first | rfl | (simp; done) | (simp; omega)) | apply rw_self | (apply rw_other; case hn => first | omega | (simp; omega)) | apply rw_alloc | apply rw_drew | apply rw_drewN))); (try case hv => first | exact stA_get _ _ | exact hcur0 | rfl); (try case hi => first | exact hR.i49 _ | exact hR.i83 _ | kernel_rfl); (try case hold => first | exact hR.z _ _ | exact hR.sz _ _ | rfl); (try case h1 => first | exact hR.all _ rfl | kernel_rfl); (try case hlt => first | exact stA_lt _ _ | rfl); (try case hcs => first | exact stA_set _ _ _ | ((try simp only [List.setIfInBounds_toArray, List.set_cons_succ, List.set_cons_zero]); rfl))))
      refine (hcall A _ (h.below (B := w.heap.size) (by with_reducible repeat (first | exact Below.refl _ _ | assumption | ((first | refine Below.alloc ?_ ?b_ _ | refine bw_set ?_ ?b_ | refine Below.setCell ?_ ?b_ _); case b_ => first | omega | (simp; done) | (simp; omega)) | refine Below.drew ?_ | refine below_drewN ?_ _)) (Nat.le_refl _))).mono ?_
      rintro e w1 ⟨⟨g, vc, cur, rfl, hgb, hv2, hvm, hg, hcur⟩, hB1⟩
      have hb := hB1
      clear hB1
      have hs_w1 := hb.size
      (try simp at hs_w1)
      have hB_w1 : Below w.heap.size w w1 := below_then (w := w) (by with_reducible repeat (first | exact Below.refl _ _ | assumption | ((first | refine Below.alloc ?_ ?b_ _ | refine bw_set ?_ ?b_ | refine Below.setCell ?_ ?b_ _); case b_ => first | omega | (simp; done) | (simp; omega)) | refine Below.drew ?_ | refine below_drewN ?_ _)) (by first | omega | (simp; done) | (simp; omega) | (have hq_ := hb.size; omega)) hb
      have hx_ := rw_below (k := w.heap.size) hb (by with_reducible repeat (first | assumption | (refine rw_new ?e_; case e_ => first | rfl | (simp; done) | (simp; omega)) | apply rw_self | (apply rw_other; case hn => first | omega | (simp; omega)) | apply rw_alloc | apply rw_drew | apply rw_drewN))
      (try clear hp)
      have hp := hx_
      clear hx_
      have hx_ := rw_below (k := w.heap.size + 1) hb (by with_reducible repeat (first | assumption | (refine rw_new ?e_; case e_ => first | rfl | (simp; done) | (simp; omega)) | apply rw_self | (apply rw_other; case hn => first | omega | (simp; omega)) | apply rw_alloc | apply rw_drew | apply rw_drewN))
      (try clear hq)
      have hq := hx_
      clear hx_
      clear hb
      have hcur0 : cur[0]? = some (.int .i64 (N : Int)) := (hcur 0 (by omega)).trans hv0
      have hcur1 : cur[1]? = some (.int .i64 J) := (hcur 1 (by omega)).trans hv1
      have hgl := rw_lt hg
      have hgb2 : w.heap.size + 2 ≤ g := by simp at hgb; omega
      clear hcall hcur hv0 hv1 hgb
      go_upto_region 8 with (first | ((with_reducible refine rw_list ?_); (with_reducible apply wpList_append_eq); (case ho => with_reducible rfl); (case hgd => with_reducible rfl); (case hs => first | exact ev_const | exact ev_tmp rfl); (case hx => first | exact ev_const | exact ev_tmp rfl); (case hr => exact hap _)) | ((with_reducible refine rw_list ?_); (first | ((with_reducible apply wpList_load_cell); (case ho => with_reducible rfl); (case hgd => with_reducible rfl); (case hx => rfl); (case hu => first | exact Try.underlying22 | exact Try.underlying3 | exact Try.underlying55 | exact Try.underlying9 | exact Try.underlying4); (case hd => rfl)) | ((with_reducible apply wpList_load_row); (case ho => with_reducible rfl); (case hgd => with_reducible rfl); (case hx => rfl); (case hu => first | exact Try.underlying49 | exact Try.underlying83 | exact Try.underlying43); (case hd => rfl)) | ((with_reducible apply wpList_store_row); (case ho => with_reducible rfl); (case hgd => with_reducible rfl); (case hx => rfl); (case hy => rfl)) | ((with_reducible apply wpList_store_cell); (case ho => with_reducible rfl); (case hgd => with_reducible rfl); (case hx => rfl); (case hy => first | exact ev_const | exact ev_tmp rfl); (case h1 => rfl))); (case hg => exact (by with_reducible repeat (first | assumption | (refine rw_new ?e_; case e_ => first | rfl | (simp; done) | (simp; omega)) | apply rw_self | (apply rw_other; case hn => first | omega | (simp; omega)) | apply rw_alloc | apply rw_drew | apply rw_drewN))); (try case hv => first | exact stA_get _ _ | exact hcur0 | rfl); (try case hi => first | exact hR.i49 _ | exact hR.i83 _ | kernel_rfl); (try case hold => first | exact hR.z _ _ | exact hR.sz _ _ | rfl); (try case h1 => first | exact hR.all _ rfl | kernel_rfl); (try case hlt => first | exact stA_lt _ _ | rfl); (try case hcs => first | exact stA_set _ _ _ | ((try simp only [List.setIfInBounds_toArray, List.set_cons_succ, List.set_cons_zero]); rfl))))
      rw [← hrz]
      generalize hwy_ : World.alloc _ _ = wy
      have hB_wy : Below w.heap.size w wy := bw_eq hwy_ (by with_reducible repeat (first | exact Below.refl _ _ | assumption | ((first | refine Below.alloc ?_ ?b_ _ | refine bw_set ?_ ?b_ | refine Below.setCell ?_ ?b_ _); case b_ => first | omega | (simp; done) | (simp; omega)) | refine Below.drew ?_ | refine below_drewN ?_ _))
      have r1 := rw_eq (k := w.heap.size) hwy_ (by with_reducible repeat (first | assumption | (refine rw_new ?e_; case e_ => first | rfl | (simp; done) | (simp; omega)) | apply rw_self | (apply rw_other; case hn => first | omega | (simp; omega)) | apply rw_alloc | apply rw_drew | apply rw_drewN))
      have r2 := rw_eq (k := w.heap.size + 1) hwy_ (by with_reducible repeat (first | assumption | (refine rw_new ?e_; case e_ => first | rfl | (simp; done) | (simp; omega)) | apply rw_self | (apply rw_other; case hn => first | omega | (simp; omega)) | apply rw_alloc | apply rw_drew | apply rw_drewN))
      have r3 := rw_eq (k := w1.heap.size) hwy_ (by with_reducible repeat (first | assumption | (refine rw_new ?e_; case e_ => first | rfl | (simp; done) | (simp; omega)) | apply rw_self | (apply rw_other; case hn => first | omega | (simp; omega)) | apply rw_alloc | apply rw_drew | apply rw_drewN))
      have r4 := rw_eq (k := g) hwy_ (by with_reducible repeat (first | assumption | (refine rw_new ?e_; case e_ => first | rfl | (simp; done) | (simp; omega)) | apply rw_self | (apply rw_other; case hn => first | omega | (simp; omega)) | apply rw_alloc | apply rw_drew | apply rw_drewN))
      have r5 := rw_eq (k := w1.heap.size + 1) hwy_ (by with_reducible repeat (first | assumption | (refine rw_new ?e_; case e_ => first | rfl | (simp; done) | (simp; omega)) | apply rw_self | (apply rw_other; case hn => first | omega | (simp; omega)) | apply rw_alloc | apply rw_drew | apply rw_drewN))
      clear hwy_ hp hq hg hmk hrz
      go_wp2_with fail
      go_loopw [35] (fun v wr => ∃ i : Nat, i ≤ N ∧ v = .int .i64 i ∧ Below w.heap.size w wr ∧ wr.heap[w.heap.size]? = some (.cells (stA (.slice x len cap) R) 83 (0, 0)) ∧ wr.heap[w.heap.size + 1]? = some (.cells (stA (.slice none 0 0) R0) 49 (0, 0)) ∧ wr.heap[w1.heap.size]? = some (.cells #[.slice (some ⟨g, 0, none⟩) 2 vc] 38 (0, 0)) ∧ wr.heap[g]? = some (.cells cur 3 (0, 0)) ∧ wr.heap[w1.heap.size + 1]? = some (.cells (flat (rollM T J N i)).toArray 43 (0, 0))) (fun v _ => N - (intOf v).toNat)
      case atStart => exact ⟨0, Nat.zero_le _, rfl, hB_wy, r1, r2, r3, r4, r5⟩
      case round =>
        clear hB_wy r1 r2 r3 r4 r5
        obtain ⟨i, hi, rfl, hB, r1, r2, r3, r4, r5⟩ := hrel
        have hsz := hB.size
        have hl5 := rw_lt r5
        by_cases hlt : i < N
        · have ho := at_get (L := T) (i := i) (by omega)
          have hTr := (hT.below hB (Nat.le_refl _)).ob
          obtain ⟨c0, c1, c2, c3, c4, c5, c6⟩ := hTr.at ho
          have hstep := fun p hp => rollM_step T J N i p hlt hp
          obtain ⟨q, hq⟩ : ∃ q, at_ T i = q := ⟨_, rfl⟩
          rw [hq] at c0 c1 c2 c3 c4 c5 c6
          have Hq := Lib.hid hq
          obtain ⟨p, hp⟩ : ∃ p : Nat, ((i : Int) + J) % (N : Int) = p := ⟨(((i : Int) + J) % (N : Int)).toNat, by have := Int.emod_nonneg ((i : Int) + J) (show (N : Int) ≠ 0 by omega); omega⟩
          have hpN : p < N := by have := Int.emod_lt_of_pos ((i : Int) + J) (show (0 : Int) < N by omega); omega
          have Hst := Lib.hid (hstep p hp)
          have Hp := Lib.hid hp
          clear hstep hp hq ho hTr
          have hpl : p < (rollM T J N i).length := by rw [rollM_len]; exact hpN
          go_upto_region 11 with (first | ((with_reducible refine rw_list ?_); (with_reducible apply wpList_append_eq); (case ho => with_reducible rfl); (case hgd => with_reducible rfl); (case hs => first | exact ev_const | exact ev_tmp rfl); (case hx => first | exact ev_const | exact ev_tmp rfl); (case hr => exact hap _)) | ((with_reducible refine rw_list ?_); (first | ((with_reducible apply wpList_load_cell); (case ho => with_reducible rfl); (case hgd => with_reducible rfl); (case hx => rfl); (case hu => first | exact Try.underlying22 | exact Try.underlying3 | exact Try.underlying55 | exact Try.underlying9 | exact Try.underlying4); (case hd => rfl)) | ((with_reducible apply wpList_load_row); (case ho => with_reducible rfl); (case hgd => with_reducible rfl); (case hx => rfl); (case hu => first | exact Try.underlying49 | exact Try.underlying83 | exact Try.underlying43); (case hd => rfl)) | ((with_reducible apply wpList_store_row); (case ho => with_reducible rfl); (case hgd => with_reducible rfl); (case hx => rfl); (case hy => rfl)) | ((with_reducible apply wpList_store_cell); (case ho => with_reducible rfl); (case hgd => with_reducible rfl); (case hx => rfl); (case hy => first | exact ev_const | exact ev_tmp rfl); (case h1 => rfl))); (case hg => exact (by with_reducible repeat (first | assumption | (refine rw_new ?e_; case e_ => first | rfl | (simp; done) | (simp; omega)) | apply rw_self | (apply rw_other; case hn => first | omega | (simp; omega)) | apply rw_alloc | apply rw_drew | apply rw_drewN))); (try case hv => first | exact stA_get _ _ | exact hcur0 | rfl); (try case hi => first | exact hR.i49 _ | exact hR.i83 _ | kernel_rfl); (try case hold => first | exact hR.z _ _ | exact hR.sz _ _ | rfl); (try case h1 => first | exact hR.all _ rfl | kernel_rfl); (try case hlt => first | exact stA_lt _ _ | rfl); (try case hcs => first | exact stA_set _ _ _ | ((try simp only [List.setIfInBounds_toArray, List.set_cons_succ, List.set_cons_zero]); rfl))))
          generalize hwy_ : World.setRow _ _ _ = wx
          have hB_wx : Below w.heap.size w wx := bw_eq hwy_ (by with_reducible repeat (first | exact Below.refl _ _ | assumption | ((first | refine Below.alloc ?_ ?b_ _ | refine bw_set ?_ ?b_ | refine Below.setCell ?_ ?b_ _); case b_ => first | omega | (simp; done) | (simp; omega)) | refine Below.drew ?_ | refine below_drewN ?_ _))
          have s1 := rw_eq (k := w.heap.size) hwy_ (by with_reducible repeat (first | assumption | (refine rw_new ?e_; case e_ => first | rfl | (simp; done) | (simp; omega)) | apply rw_self | (apply rw_other; case hn => first | omega | (simp; omega)) | apply rw_alloc | apply rw_drew | apply rw_drewN))
          have s2 := rw_eq (k := w.heap.size + 1) hwy_ (by with_reducible repeat (first | assumption | (refine rw_new ?e_; case e_ => first | rfl | (simp; done) | (simp; omega)) | apply rw_self | (apply rw_other; case hn => first | omega | (simp; omega)) | apply rw_alloc | apply rw_drew | apply rw_drewN))
          have s3 := rw_eq (k := w1.heap.size) hwy_ (by with_reducible repeat (first | assumption | (refine rw_new ?e_; case e_ => first | rfl | (simp; done) | (simp; omega)) | apply rw_self | (apply rw_other; case hn => first | omega | (simp; omega)) | apply rw_alloc | apply rw_drew | apply rw_drewN))
          have s4 := rw_eq (k := g) hwy_ (by with_reducible repeat (first | assumption | (refine rw_new ?e_; case e_ => first | rfl | (simp; done) | (simp; omega)) | apply rw_self | (apply rw_other; case hn => first | omega | (simp; omega)) | apply rw_alloc | apply rw_drew | apply rw_drewN))
          have s5 := rw_eq (k := w1.heap.size + 1) hwy_ (by with_reducible repeat (first | assumption | (refine rw_new ?e_; case e_ => first | rfl | (simp; done) | (simp; omega)) | apply rw_self | (apply rw_other; case hn => first | omega | (simp; omega)) | apply rw_alloc | apply rw_drew | apply rw_drewN))
          have s6 := rw_eq (k := wr.heap.size) hwy_ (by with_reducible repeat (first | assumption | (refine rw_new ?e_; case e_ => first | rfl | (simp; done) | (simp; omega)) | apply rw_self | (apply rw_other; case hn => first | omega | (simp; omega)) | apply rw_alloc | apply rw_drew | apply rw_drewN))
          have hl6 := rw_lt s6
          have hsx := hB_wx.size
          clear hwy_ r1 r2 r3 r4 r5 c0 c1 c2 c3 c4 c5 c6
          have hSS : Held wx [w1.heap.size + 1] wx.drew := Held.refl _ _
          refine wp_region_ord (.s 0 .p (.s 1 .p (.s 2 .p (.s 4 .l (.s 3 .e (.s 5 .p (.s 6 .e .done))))))) (Held wx [w1.heap.size + 1]) (by kernel_rfl) (by kernel_rfl) (fun _ _ _ _ _ h => h) hSS ?_
          (apply wpOrd_p2 rfl rfl rfl rfl rfl; (intro w' K hK; (first | go_big_move | go_big_op | go_wp2_with fail); exact hK))
          (apply wpOrd_p2 rfl rfl rfl rfl rfl; (intro w' K hK; (first | go_big_move | go_big_op | go_wp2_with fail); exact hK))
          (apply wpOrd_p2 rfl rfl rfl rfl rfl; (intro w' K hK; (first | go_big_move | go_big_op | go_wp2_with fail); exact hK))
          (apply wpOrd_l2 rfl rfl rfl rfl rfl; (intro w' K hS' hK; (first | (refine wp_load_row 43 _ rfl _ rfl _ _ _ _ ((hS' _ hl6 (by simp; omega)).trans s6) Try.underlying43 rfl info7 ?_)); exact hK); (first | exact hSS | assumption))
          (refine wpOrd_e1 rfl rfl (fun K hK => ?_)); (first | go_big_op | go_wp2_with fail)
          refine (to_any w1.heap.size g vc cur (i : Int) (N : Int) J _ (rw_drew s3) (rw_drew s4) hv2 hcur0 hcur1 (by omega) (by omega) (by omega)).mono ?_; rintro e w5 ⟨rfl, hb⟩; rw [Hp.out]; have hs_w5 := hb.size; (try simp at hs_w5); have hB_w5 : Below w.heap.size w w5 := below_then (w := w) (by with_reducible repeat (first | exact Below.refl _ _ | assumption | ((first | refine Below.alloc ?_ ?b_ _ | refine bw_set ?_ ?b_ | refine Below.setCell ?_ ?b_ _); case b_ => first | omega | (simp; done) | (simp; omega)) | refine Below.drew ?_ | refine below_drewN ?_ _)) (by first | omega | (simp; done) | (simp; omega)) hb; have t1 := rw_below hb (rw_drew s1); have t2 := rw_below hb (rw_drew s2); have t3 := rw_below hb (rw_drew s3); have t4 := rw_below hb (rw_drew s4); have t5 := rw_below hb (rw_drew s5); have hH5 : Held wx [w1.heap.size + 1] w5 := Held.then (by with_reducible repeat (first | exact Held.refl _ _ | assumption | refine Held.drew ?_ | (refine Held.alloc ?_ ?s_ _; case s_ => first | omega | (simp; done) | (simp; omega)) | (refine Held.setRow ?_ ?g_; case g_ => simp))) (by first | omega | (simp; done) | (simp; omega)) hb; refine hK _ _ hH5 ?_; clear hK K hb
          (apply wpOrd_p2 rfl rfl rfl rfl rfl; (intro w' K hK; (first | go_big_move | go_big_op | go_wp2_with fail); exact hK))
          (refine wpOrd_e1 rfl rfl (fun K hK => ?_))
          refine wp_store_run 43 _ _ rfl rfl rfl (store_ob t5 p hpl q) ?_; refine hK _ _ (by with_reducible repeat (first | exact Held.refl _ _ | assumption | refine Held.drew ?_ | (refine Held.alloc ?_ ?s_ _; case s_ => first | omega | (simp; done) | (simp; omega)) | (refine Held.setRow ?_ ?g_; case g_ => simp))) ?_; clear hK K
          refine wpOrd_nil ?_
          skip
          have u5 : (w5.setRow (w1.heap.size + 1) (flat ((rollM T J N i).set p q)).toArray).heap[w1.heap.size + 1]? = some (.cells (flat (rollM T J N (i + 1))).toArray 43 (0, 0)) := by
            rw [← Hst.out, Hq.out]
            exact rw_self t5
          have u1 : (w5.setRow (w1.heap.size + 1) (flat ((rollM T J N i).set p q)).toArray).heap[w.heap.size]? = some (.cells (stA (.slice x len cap) R) 83 (0, 0)) := (by with_reducible repeat (first | assumption | (refine rw_new ?e_; case e_ => first | rfl | (simp; done) | (simp; omega)) | apply rw_self | (apply rw_other; case hn => first | omega | (simp; omega)) | apply rw_alloc | apply rw_drew | apply rw_drewN))
          have u2 : (w5.setRow (w1.heap.size + 1) (flat ((rollM T J N i).set p q)).toArray).heap[w.heap.size + 1]? = some (.cells (stA (.slice none 0 0) R0) 49 (0, 0)) := (by with_reducible repeat (first | assumption | (refine rw_new ?e_; case e_ => first | rfl | (simp; done) | (simp; omega)) | apply rw_self | (apply rw_other; case hn => first | omega | (simp; omega)) | apply rw_alloc | apply rw_drew | apply rw_drewN))
          have u3 : (w5.setRow (w1.heap.size + 1) (flat ((rollM T J N i).set p q)).toArray).heap[w1.heap.size]? = some (.cells #[.slice (some ⟨g, 0, none⟩) 2 vc] 38 (0, 0)) := (by with_reducible repeat (first | assumption | (refine rw_new ?e_; case e_ => first | rfl | (simp; done) | (simp; omega)) | apply rw_self | (apply rw_other; case hn => first | omega | (simp; omega)) | apply rw_alloc | apply rw_drew | apply rw_drewN))
          have u4 : (w5.setRow (w1.heap.size + 1) (flat ((rollM T J N i).set p q)).toArray).heap[g]? = some (.cells cur 3 (0, 0)) := (by with_reducible repeat (first | assumption | (refine rw_new ?e_; case e_ => first | rfl | (simp; done) | (simp; omega)) | apply rw_self | (apply rw_other; case hn => first | omega | (simp; omega)) | apply rw_alloc | apply rw_drew | apply rw_drewN))
          have hB_6 : Below w.heap.size w (w5.setRow (w1.heap.size + 1) (flat ((rollM T J N i).set p q)).toArray) := (by with_reducible repeat (first | exact Below.refl _ _ | assumption | ((first | refine Below.alloc ?_ ?b_ _ | refine bw_set ?_ ?b_ | refine Below.setCell ?_ ?b_ _); case b_ => first | omega | (simp; done) | (simp; omega)) | refine Below.drew ?_ | refine below_drewN ?_ _))
          go_wp2_with fail
          go_roundw
          case rel => exact ⟨i + 1, by omega, by go_num, hB_6, u1, u2, u3, u4, u5⟩
          case measure => simp [intOf]; omega
        · have hin : i = N := by omega
          subst hin
          have hM := SL.row (A := Out A w.heap.size (w.heap.size + 2)) (rollM T J i i) i (rollM_len _ _ _ _) hsmN r5 (.inr (by omega))
          rw [hroll.out] at hM
          go_wp2_with (first | ((with_reducible refine rw_list ?_); (with_reducible apply wpList_append_eq); (case ho => with_reducible rfl); (case hgd => with_reducible rfl); (case hs => first | exact ev_const | exact ev_tmp rfl); (case hx => first | exact ev_const | exact ev_tmp rfl); (case hr => exact hap _)) | ((with_reducible refine rw_list ?_); (first | ((with_reducible apply wpList_load_cell); (case ho => with_reducible rfl); (case hgd => with_reducible rfl); (case hx => rfl); (case hu => first | exact Try.underlying22 | exact Try.underlying3 | exact Try.underlying55 | exact Try.underlying9 | exact Try.underlying4); (case hd => rfl)) | ((with_reducible apply wpList_load_row); (case ho => with_reducible rfl); (case hgd => with_reducible rfl); (case hx => rfl); (case hu => first | exact Try.underlying49 | exact Try.underlying83 | exact Try.underlying43); (case hd => rfl)) | ((with_reducible apply wpList_store_row); (case ho => with_reducible rfl); (case hgd => with_reducible rfl); (case hx => rfl); (case hy => rfl)) | ((with_reducible apply wpList_store_cell); (case ho => with_reducible rfl); (case hgd => with_reducible rfl); (case hx => rfl); (case hy => first | exact ev_const | exact ev_tmp rfl); (case h1 => rfl))); (case hg => exact (by with_reducible repeat (first | assumption | (refine rw_new ?e_; case e_ => first | rfl | (simp; done) | (simp; omega)) | apply rw_self | (apply rw_other; case hn => first | omega | (simp; omega)) | apply rw_alloc | apply rw_drew | apply rw_drewN))); (try case hv => first | exact stA_get _ _ | exact hcur0 | rfl); (try case hi => first | exact hR.i49 _ | exact hR.i83 _ | kernel_rfl); (try case hold => first | exact hR.z _ _ | exact hR.sz _ _ | rfl); (try case h1 => first | exact hR.all _ rfl | kernel_rfl); (try case hlt => first | exact stA_lt _ _ | rfl); (try case hcs => first | exact stA_set _ _ _ | ((try simp only [List.setIfInBounds_toArray, List.set_cons_succ, List.set_cons_zero]); rfl))))
          refine (instead_any (i + 2) (by omega) _ ((h.out (w.heap.size + 2)).below (B := w.heap.size) (by with_reducible repeat (first | exact Below.refl _ _ | assumption | ((first | refine Below.alloc ?_ ?b_ _ | refine bw_set ?_ ?b_ | refine Below.setCell ?_ ?b_ _); case b_ => first | omega | (simp; done) | (simp; omega)) | refine Below.drew ?_ | refine below_drewN ?_ _)) (Nat.le_refl _)) hM hR).mono ?_
          rintro e w7 ⟨⟨z, n1, cap1, rfl, hS⟩, hB1⟩
          have hb := hB1
          clear hB1
          have hs_w7 := hb.size
          (try simp at hs_w7)
          have hB_w7 : Below w.heap.size w w7 := below_then (w := w) (by with_reducible repeat (first | exact Below.refl _ _ | assumption | ((first | refine Below.alloc ?_ ?b_ _ | refine bw_set ?_ ?b_ | refine Below.setCell ?_ ?b_ _); case b_ => first | omega | (simp; done) | (simp; omega)) | refine Below.drew ?_ | refine below_drewN ?_ _)) (by first | omega | (simp; done) | (simp; omega) | (have hq_ := hb.size; omega)) hb
          have hx_ := rw_below (k := w.heap.size) hb (by with_reducible repeat (first | assumption | (refine rw_new ?e_; case e_ => first | rfl | (simp; done) | (simp; omega)) | apply rw_self | (apply rw_other; case hn => first | omega | (simp; omega)) | apply rw_alloc | apply rw_drew | apply rw_drewN))
          (try clear r1)
          have r1 := hx_
          clear hx_
          have hx_ := rw_below (k := w.heap.size + 1) hb (by with_reducible repeat (first | assumption | (refine rw_new ?e_; case e_ => first | rfl | (simp; done) | (simp; omega)) | apply rw_self | (apply rw_other; case hn => first | omega | (simp; omega)) | apply rw_alloc | apply rw_drew | apply rw_drewN))
          (try clear r2)
          have r2 := hx_
          clear hx_
          clear hb
          have hS := hS.inn (by first | omega | (simp; done) | (simp; omega))
          go_wp2_with (first | ((with_reducible refine rw_list ?_); (with_reducible apply wpList_append_eq); (case ho => with_reducible rfl); (case hgd => with_reducible rfl); (case hs => first | exact ev_const | exact ev_tmp rfl); (case hx => first | exact ev_const | exact ev_tmp rfl); (case hr => exact hap _)) | ((with_reducible refine rw_list ?_); (first | ((with_reducible apply wpList_load_cell); (case ho => with_reducible rfl); (case hgd => with_reducible rfl); (case hx => rfl); (case hu => first | exact Try.underlying22 | exact Try.underlying3 | exact Try.underlying55 | exact Try.underlying9 | exact Try.underlying4); (case hd => rfl)) | ((with_reducible apply wpList_load_row); (case ho => with_reducible rfl); (case hgd => with_reducible rfl); (case hx => rfl); (case hu => first | exact Try.underlying49 | exact Try.underlying83 | exact Try.underlying43); (case hd => rfl)) | ((with_reducible apply wpList_store_row); (case ho => with_reducible rfl); (case hgd => with_reducible rfl); (case hx => rfl); (case hy => rfl)) | ((with_reducible apply wpList_store_cell); (case ho => with_reducible rfl); (case hgd => with_reducible rfl); (case hx => rfl); (case hy => first | exact ev_const | exact ev_tmp rfl); (case h1 => rfl))); (case hg => exact (by with_reducible repeat (first | assumption | (refine rw_new ?e_; case e_ => first | rfl | (simp; done) | (simp; omega)) | apply rw_self | (apply rw_other; case hn => first | omega | (simp; omega)) | apply rw_alloc | apply rw_drew | apply rw_drewN))); (try case hv => first | exact stA_get _ _ | exact hcur0 | rfl); (try case hi => first | exact hR.i49 _ | exact hR.i83 _ | kernel_rfl); (try case hold => first | exact hR.z _ _ | exact hR.sz _ _ | rfl); (try case h1 => first | exact hR.all _ rfl | kernel_rfl); (try case hlt => first | exact stA_lt _ _ | rfl); (try case hcs => first | exact stA_set _ _ _ | ((try simp only [List.setIfInBounds_toArray, List.set_cons_succ, List.set_cons_zero]); rfl))))
          refine bodyPost_ret (v := _) (results_cell_tmp Try.results32 _ _ _ _ _ _ _ (by rfl) (by with_reducible repeat (first | assumption | (refine rw_new ?e_; case e_ => first | rfl | (simp; done) | (simp; omega)) | apply rw_self | (apply rw_other; case hn => first | omega | (simp; omega)) | apply rw_alloc | apply rw_drew | apply rw_drewN)) Try.underlying49 rfl (by exact hR.i49 _)) rfl ⟨⟨_, _, _, rfl, ?_⟩, (by with_reducible repeat (first | exact Below.refl _ _ | assumption | ((first | refine Below.alloc ?_ ?b_ _ | refine bw_set ?_ ?b_ | refine Below.setCell ?_ ?b_ _); case b_ => first | omega | (simp; done) | (simp; omega)) | refine Below.drew ?_ | refine below_drewN ?_ _))⟩
          exact (SL.fin (hS.keep (by first | omega | (simp; done) | (simp; omega)) (fun b hA hlt => by have hA := out_or hA; (try simp at hA); (with_reducible repeat (first | rfl | (refine (setRow_other _ _ _ _ ?n_).trans ?_; case n_ => first | omega | (simp; omega)) | (refine (Below.heap_alloc _ _ _ ?n_).trans ?_; case n_ => first | omega | (simp; omega)))))) (by first | omega | (simp; done) | (simp; omega)))
  · rw [show rollR L = (ctE L 2 0, L) from if_neg hc]
    have hcall := fun w h => counted_err (A := A) (x := x) (len := len) (cap := cap) (R := R) (L := L) 2 0 (by omega) (by omega) (by omega) hc w h hR
    obtain ⟨er, her⟩ : ∃ er, ctE L 2 0 = er := ⟨_, rfl⟩
    rw [her] at hc hcall ⊢
    have hc2 : (er == 0) = false := by simpa using hc
    clear her
    go_enter Try.func32, Try.ntmps32
    go_wp2_with (first | ((with_reducible refine rw_list ?_); (with_reducible apply wpList_append_eq); (case ho => with_reducible rfl); (case hgd => with_reducible rfl); (case hs => first | exact ev_const | exact ev_tmp rfl); (case hx => first | exact ev_const | exact ev_tmp rfl); (case hr => exact hap _)) | ((with_reducible refine rw_list ?_); (first | ((with_reducible apply wpList_load_cell); (case ho => with_reducible rfl); (case hgd => with_reducible rfl); (case hx => rfl); (case hu => first | exact Try.underlying22 | exact Try.underlying3 | exact Try.underlying55 | exact Try.underlying9 | exact Try.underlying4); (case hd => rfl)) | ((with_reducible apply wpList_load_row); (case ho => with_reducible rfl); (case hgd => with_reducible rfl); (case hx => rfl); (case hu => first | exact Try.underlying49 | exact Try.underlying83 | exact Try.underlying43); (case hd => rfl)) | ((with_reducible apply wpList_store_row); (case ho => with_reducible rfl); (case hgd => with_reducible rfl); (case hx => rfl); (case hy => rfl)) | ((with_reducible apply wpList_store_cell); (case ho => with_reducible rfl); (case hgd => with_reducible rfl); (case hx => rfl); (case hy => first | exact ev_const | exact ev_tmp rfl); (case h1 => rfl))); (case hg => exact (by with_reducible repeat (first | assumption | (refine rw_new ?e_; case e_ => first | rfl | (simp; done) | (simp; omega)) | apply rw_self | (apply rw_other; case hn => first | omega | (simp; omega)) | apply rw_alloc | apply rw_drew | apply rw_drewN))); (try case hv => first | exact stA_get _ _ | exact hcur0 | rfl); (try case hi => first | exact hR.i49 _ | exact hR.i83 _ | kernel_rfl); (try case hold => first | exact hR.z _ _ | exact hR.sz _ _ | rfl); (try case h1 => first | exact hR.all _ rfl | kernel_rfl); (try case hlt => first | exact stA_lt _ _ | rfl); (try case hcs => first | exact stA_set _ _ _ | ((try simp only [List.setIfInBounds_toArray, List.set_cons_succ, List.set_cons_zero]); rfl))))
    refine (hcall _ (h.below (B := w.heap.size) (by with_reducible repeat (first | exact Below.refl _ _ | assumption | ((first | refine Below.alloc ?_ ?b_ _ | refine bw_set ?_ ?b_ | refine Below.setCell ?_ ?b_ _); case b_ => first | omega | (simp; done) | (simp; omega)) | refine Below.drew ?_ | refine below_drewN ?_ _)) (Nat.le_refl _))).mono ?_
    rintro e w1 ⟨rfl, hb⟩
    have hs_w1 := hb.size
    (try simp at hs_w1)
    have hB_w1 : Below w.heap.size w w1 := below_then (w := w) (by with_reducible repeat (first | exact Below.refl _ _ | assumption | ((first | refine Below.alloc ?_ ?b_ _ | refine bw_set ?_ ?b_ | refine Below.setCell ?_ ?b_ _); case b_ => first | omega | (simp; done) | (simp; omega)) | refine Below.drew ?_ | refine below_drewN ?_ _)) (by first | omega | (simp; done) | (simp; omega) | (have hq_ := hb.size; omega)) hb
    have hx_ := rw_below (k := w.heap.size) hb (by with_reducible repeat (first | assumption | (refine rw_new ?e_; case e_ => first | rfl | (simp; done) | (simp; omega)) | apply rw_self | (apply rw_other; case hn => first | omega | (simp; omega)) | apply rw_alloc | apply rw_drew | apply rw_drewN))
    (try clear hp)
    have hp := hx_
    clear hx_
    have hx_ := rw_below (k := w.heap.size + 1) hb (by with_reducible repeat (first | assumption | (refine rw_new ?e_; case e_ => first | rfl | (simp; done) | (simp; omega)) | apply rw_self | (apply rw_other; case hn => first | omega | (simp; omega)) | apply rw_alloc | apply rw_drew | apply rw_drewN))
    (try clear hq)
    have hq := hx_
    clear hx_
    clear hb
    go_wp2_with (first | ((with_reducible refine rw_list ?_); (with_reducible apply wpList_append_eq); (case ho => with_reducible rfl); (case hgd => with_reducible rfl); (case hs => first | exact ev_const | exact ev_tmp rfl); (case hx => first | exact ev_const | exact ev_tmp rfl); (case hr => exact hap _)) | ((with_reducible refine rw_list ?_); (first | ((with_reducible apply wpList_load_cell); (case ho => with_reducible rfl); (case hgd => with_reducible rfl); (case hx => rfl); (case hu => first | exact Try.underlying22 | exact Try.underlying3 | exact Try.underlying55 | exact Try.underlying9 | exact Try.underlying4); (case hd => rfl)) | ((with_reducible apply wpList_load_row); (case ho => with_reducible rfl); (case hgd => with_reducible rfl); (case hx => rfl); (case hu => first | exact Try.underlying49 | exact Try.underlying83 | exact Try.underlying43); (case hd => rfl)) | ((with_reducible apply wpList_store_row); (case ho => with_reducible rfl); (case hgd => with_reducible rfl); (case hx => rfl); (case hy => rfl)) | ((with_reducible apply wpList_store_cell); (case ho => with_reducible rfl); (case hgd => with_reducible rfl); (case hx => rfl); (case hy => first | exact ev_const | exact ev_tmp rfl); (case h1 => rfl))); (case hg => exact (by with_reducible repeat (first | assumption | (refine rw_new ?e_; case e_ => first | rfl | (simp; done) | (simp; omega)) | apply rw_self | (apply rw_other; case hn => first | omega | (simp; omega)) | apply rw_alloc | apply rw_drew | apply rw_drewN))); (try case hv => first | exact stA_get _ _ | exact hcur0 | rfl); (try case hi => first | exact hR.i49 _ | exact hR.i83 _ | kernel_rfl); (try case hold => first | exact hR.z _ _ | exact hR.sz _ _ | rfl); (try case h1 => first | exact hR.all _ rfl | kernel_rfl); (try case hlt => first | exact stA_lt _ _ | rfl); (try case hcs => first | exact stA_set _ _ _ | ((try simp only [List.setIfInBounds_toArray, List.set_cons_succ, List.set_cons_zero]); rfl))))
    refine bodyPost_ret (v := _) (results_cell_tmp Try.results32 _ _ _ _ _ _ _ (by rfl) (by with_reducible repeat (first | assumption | (refine rw_new ?e_; case e_ => first | rfl | (simp; done) | (simp; omega)) | apply rw_self | (apply rw_other; case hn => first | omega | (simp; omega)) | apply rw_alloc | apply rw_drew | apply rw_drewN)) Try.underlying49 rfl (by exact hR.i49 _)) rfl ⟨⟨_, _, _, rfl, ?_⟩, (by with_reducible repeat (first | exact Below.refl _ _ | assumption | ((first | refine Below.alloc ?_ ?b_ _ | refine bw_set ?_ ?b_ | refine Below.setCell ?_ ?b_ _); case b_ => first | omega | (simp; done) | (simp; omega)) | refine Below.drew ?_ | refine below_drewN ?_ _))⟩
    exact (h.out w.heap.size).below (B := w.heap.size) (by with_reducible repeat (first | exact Below.refl _ _ | assumption | ((first | refine Below.alloc ?_ ?b_ _ | refine bw_set ?_ ?b_ | refine Below.setCell ?_ ?b_ _); case b_ => first | omega | (simp; done) | (simp; omega)) | refine Below.drew ?_ | refine below_drewN ?_ _)) (Nat.le_refl _)
end Go.Proofs.Ytiadenokcpnliaa.T3
