/- chapter 12: wakes. -/
import Derived.Test.YtiadenokcpnliaaStR
import Derived.WalkKit
import Derived.Lib.Hide
import Derived.Deep.QuietTactic
import Derived.BigQuiet
import Derived.Lib.QuietBelow
import Derived.Deep.RegionHeld3
import Derived.WalkLawsBesides
import Derived.WalkSpells
import Derived.Outline
import Derived.Deep.DeepFit
import Derived.Maps.AppendAt
import Derived.Deep.AppendLies
import Derived.Deep.CutRange
import Derived.OpenShut
namespace Go.Proofs.Ytiadenokcpnliaa.T3
set_option linter.unusedSimpArgs false
set_option linter.unusedVariables false
open Go.RowKit
attribute [local go_sem] Oper.semAt_some
set_option maxHeartbeats 4000000
set_option maxRecDepth 100000
open Classical in
theorem do_pop (L : List Ob) : doR ⟨#[112, 111, 112]⟩ L = popR L := by
  unfold doR
  rw [if_pos rfl]
theorem do_exch (L : List Ob) : doR ⟨#[101, 120, 99, 104]⟩ L = exchR L := by
  unfold doR
  rw [if_neg (by decide), if_pos rfl]
theorem do_dup (L : List Ob) : doR ⟨#[100, 117, 112]⟩ L = dupR L := by
  unfold doR
  rw [if_neg (by decide), if_neg (by decide), if_pos rfl]
theorem do_copy (L : List Ob) : doR ⟨#[99, 111, 112, 121]⟩ L = copyR L := by
  unfold doR
  rw [if_neg (by decide), if_neg (by decide), if_neg (by decide), if_pos rfl]
theorem do_index (L : List Ob) : doR ⟨#[105, 110, 100, 101, 120]⟩ L = indexR L := by
  unfold doR
  rw [if_neg (by decide), if_neg (by decide), if_neg (by decide), if_neg (by decide), if_pos rfl]
theorem do_roll (L : List Ob) : doR ⟨#[114, 111, 108, 108]⟩ L = rollR L := by
  unfold doR
  rw [if_neg (by decide), if_neg (by decide), if_neg (by decide), if_neg (by decide), if_neg (by decide), if_pos rfl]
theorem do_clear (L : List Ob) : doR ⟨#[99, 108, 101, 97, 114]⟩ L = clearR L := by
  unfold doR
  rw [if_neg (by decide), if_neg (by decide), if_neg (by decide), if_neg (by decide), if_neg (by decide), if_neg (by decide), if_pos rfl]
theorem do_count (L : List Ob) : doR ⟨#[99, 111, 117, 110, 116]⟩ L = countR L := by
  unfold doR
  rw [if_neg (by decide), if_neg (by decide), if_neg (by decide), if_neg (by decide), if_neg (by decide), if_neg (by decide), if_neg (by decide), if_pos rfl]
theorem do_mark (L : List Ob) : doR ⟨#[109, 97, 114, 107]⟩ L = markR L := by
  unfold doR
  rw [if_neg (by decide), if_neg (by decide), if_neg (by decide), if_neg (by decide), if_neg (by decide), if_neg (by decide), if_neg (by decide), if_neg (by decide), if_pos rfl]
theorem do_ctm (L : List Ob) : doR ⟨#[99, 108, 101, 97, 114, 116, 111, 109, 97, 114, 107]⟩ L = ctmR L := by
  unfold doR
  rw [if_neg (by decide), if_neg (by decide), if_neg (by decide), if_neg (by decide), if_neg (by decide), if_neg (by decide), if_neg (by decide), if_neg (by decide), if_neg (by decide), if_pos rfl]
theorem do_ctt (L : List Ob) : doR ⟨#[99, 111, 117, 110, 116, 116, 111, 109, 97, 114, 107]⟩ L = cttR L := by
  unfold doR
  rw [if_neg (by decide), if_neg (by decide), if_neg (by decide), if_neg (by decide), if_neg (by decide), if_neg (by decide), if_neg (by decide), if_neg (by decide), if_neg (by decide), if_neg (by decide), if_pos rfl]

theorem do_other (S : ByteArray) (L : List Ob) (h : S ≠ ⟨#[112, 111, 112]⟩ ∧ S ≠ ⟨#[101, 120, 99, 104]⟩ ∧ S ≠ ⟨#[100, 117, 112]⟩ ∧ S ≠ ⟨#[99, 111, 112, 121]⟩ ∧ S ≠ ⟨#[105, 110, 100, 101, 120]⟩ ∧ S ≠ ⟨#[114, 111, 108, 108]⟩ ∧ S ≠ ⟨#[99, 108, 101, 97, 114]⟩ ∧ S ≠ ⟨#[99, 111, 117, 110, 116]⟩ ∧ S ≠ ⟨#[109, 97, 114, 107]⟩ ∧ S ≠ ⟨#[99, 108, 101, 97, 114, 116, 111, 109, 97, 114, 107]⟩ ∧ S ≠ ⟨#[99, 111, 117, 110, 116, 116, 111, 109, 97, 114, 107]⟩) : doR S L = (24, L) := by
  obtain ⟨h0, h1, h2, h3, h4, h5, h6, h7, h8, h9, h10⟩ := h
  unfold doR
  rw [if_neg h0, if_neg h1, if_neg h2, if_neg h3, if_neg h4, if_neg h5, if_neg h6, if_neg h7, if_neg h8, if_neg h9, if_neg h10]
theorem allI_its (l : List Int) (k : Nat) : allI ((its l).drop k) := by
  intro o ho
  obtain ⟨n, _, rfl⟩ := List.mem_map.1 (List.mem_of_mem_drop ho)
  rfl
theorem ctE_zero {L : List Ob} {n more : Nat} (h1 : n ≤ L.length) (h2 : allI (L.drop (L.length - n))) (h3 : 0 ≤ ctN L n) (h4 : ctN L n + more ≤ ((L.length - n : Nat) : Int)) : ctE L n more = 0 := by
  unfold ctE
  rw [if_neg (by omega), if_neg (fun h => h h2), if_neg (by omega), if_neg (by omega)]
theorem ctE_far {L : List Ob} {n more : Nat} (h1 : n ≤ L.length) (h2 : allI (L.drop (L.length - n))) (h3 : 0 ≤ ctN L n) (h4 : ((L.length - n : Nat) : Int) + 1 - more ≤ ctN L n) : ctE L n more = 20 := by
  unfold ctE
  rw [if_neg (by omega), if_neg (fun h => h h2), if_neg (by omega), if_pos h4]
theorem ctE_neg {L : List Ob} {n more : Nat} (h1 : n ≤ L.length) (h2 : allI (L.drop (L.length - n))) (h3 : ctN L n < 0) : ctE L n more = 23 := by
  unfold ctE
  rw [if_neg (by omega), if_neg (fun h => h h2), if_pos h3]
theorem ctE_type {L : List Ob} {n more : Nat} (h1 : n ≤ L.length) (h2 : ¬ allI (L.drop (L.length - n))) : ctE L n more = 22 := by
  unfold ctE
  rw [if_neg (by omega), if_pos h2]
theorem ctE_under {L : List Ob} {n more : Nat} (h1 : L.length < n) : ctE L n more = 20 := by
  unfold ctE
  rw [if_pos h1]
theorem k_exch : doR ⟨#[101, 120, 99, 104]⟩ (its [1, 2, 3]) = (0, its [1, 3, 2]) := by rw [do_exch]; rfl
theorem k_copy : doR ⟨#[99, 111, 112, 121]⟩ (its [1, 2, 2]) = (0, its [1, 2, 1, 2]) := by
  rw [do_copy]; unfold copyR
  rw [if_pos (ctE_zero (by decide) (allI_its _ _) (by decide) (by decide))]; rfl
theorem k_index : doR ⟨#[105, 110, 100, 101, 120]⟩ (its [5, 6, 7, 2]) = (0, its [5, 6, 7, 5]) := by
  rw [do_index]; unfold indexR
  rw [if_pos (ctE_zero (by decide) (allI_its _ _) (by decide) (by decide))]; rfl
theorem k_roll : doR ⟨#[114, 111, 108, 108]⟩ (its [1, 2, 3, 3, 1]) = (0, its [3, 1, 2]) := by
  rw [do_roll]; unfold rollR
  rw [if_pos (ctE_zero (by decide) (allI_its _ _) (by decide) (by decide)), if_neg (by decide)]; rfl
theorem k_roll2 : doR ⟨#[114, 111, 108, 108]⟩ (its [1, 2, 3, 3, -1]) = (0, its [2, 3, 1]) := by
  rw [do_roll]; unfold rollR
  rw [if_pos (ctE_zero (by decide) (allI_its _ _) (by decide) (by decide)), if_neg (by decide)]; rfl
theorem k_count : doR ⟨#[99, 111, 117, 110, 116]⟩ (its [8, 9]) = (0, its [8, 9, 2]) := by rw [do_count]; rfl
theorem k_under : doR ⟨#[99, 111, 112, 121]⟩ (its [1, 2]) = (20, its [1, 2]) := by
  rw [do_copy]; unfold copyR
  rw [ctE_far (by decide) (allI_its _ _) (by decide) (by decide)]; rfl
theorem k_fly : doR ⟨#[102, 108, 121]⟩ (its [1]) = (24, its [1]) := do_other _ _ (by decide)
theorem wakes_any (w : World) : Calls Try.prog 10 #[] w fun e w' => e = .returned (.bool true) ∧ Below w.heap.size w w' := by
  have hz := zeroS
  go_enter Try.func10, Try.ntmps10
  go_wp2_with (first | ((with_reducible refine rw_list ?_); (with_reducible apply wpList_append_eq); (case ho => with_reducible rfl); (case hgd => with_reducible rfl); (case hs => first | exact ev_const | exact ev_tmp rfl); (case hx => first | exact ev_const | exact ev_tmp rfl); (case hr => exact hap _)) | ((with_reducible refine rw_list ?_); (first | ((with_reducible apply wpList_load_cell); (case ho => with_reducible rfl); (case hgd => with_reducible rfl); (case hx => rfl); (case hu => first | exact Try.underlying22 | exact Try.underlying3 | exact Try.underlying55 | exact Try.underlying9 | exact Try.underlying4); (case hd => rfl)) | ((with_reducible apply wpList_load_row); (case ho => with_reducible rfl); (case hgd => with_reducible rfl); (case hx => rfl); (case hu => first | exact Try.underlying49 | exact Try.underlying83 | exact Try.underlying43); (case hd => rfl)) | ((with_reducible apply wpList_store_row); (case ho => with_reducible rfl); (case hgd => with_reducible rfl); (case hx => rfl); (case hy => rfl)) | ((with_reducible apply wpList_store_cell); (case ho => with_reducible rfl); (case hgd => with_reducible rfl); (case hx => rfl); (case hy => first | exact ev_const | exact ev_tmp rfl); (case h1 => rfl))); (case hg => exact (by with_reducible repeat (first | assumption | (refine rw_new ?e_; case e_ => first | rfl | (simp; done) | (simp; omega)) | apply rw_self | (apply rw_other; case hn => first | omega | (simp; omega)) | apply rw_alloc | apply rw_drew | apply rw_drewN))); (try case hv => first | exact stA_get _ _ | exact hcur0 | rfl); (try case hi => first | exact okR0.i49 _ | exact okR0.i83 _ | kernel_rfl); (try case hold => first | exact okR0.z _ _ | exact okR0.sz _ _ | rfl); (try case h1 => first | exact okR0.all _ rfl | kernel_rfl); (try case hlt => first | exact stA_lt _ _ | rfl); (try case hcs => first | exact stA_set _ _ _ | ((try simp only [List.setIfInBounds_toArray, List.set_cons_succ, List.set_cons_zero]); rfl))))
  refine (of_any [1, 2] _ _ _ (rw_new (by first | rfl | (simp; done) | (simp; omega))) (by decide)).mono ?_
  rintro e w1 ⟨⟨x1, c1, rfl, hS1⟩, hb⟩
  have hN1 : Below w.heap.size w w1 := below_then (w := w) (by with_reducible repeat (first | exact Below.refl _ _ | assumption | ((first | refine Below.alloc ?_ ?b_ _ | refine bw_set ?_ ?b_ | refine Below.setCell ?_ ?b_ _); case b_ => first | omega | (simp; done) | (simp; omega)) | refine Below.drew ?_ | refine below_drewN ?_ _)) (by first | omega | (simp; done) | (simp; omega)) hb
  have hB_w1 : Below w.heap.size w w1 := below_then (w := w) (by with_reducible repeat (first | exact Below.refl _ _ | assumption | ((first | refine Below.alloc ?_ ?b_ _ | refine bw_set ?_ ?b_ | refine Below.setCell ?_ ?b_ _); case b_ => first | omega | (simp; done) | (simp; omega)) | refine Below.drew ?_ | refine below_drewN ?_ _)) (by first | omega | (simp; done) | (simp; omega)) hb
  have hs_w1 := hB_w1.size
  clear hb
  simp only [List.length_cons, List.length_nil, Nat.reduceAdd] at hS1 ⊢
  go_wp2_with (first | ((with_reducible refine rw_list ?_); (with_reducible apply wpList_append_eq); (case ho => with_reducible rfl); (case hgd => with_reducible rfl); (case hs => first | exact ev_const | exact ev_tmp rfl); (case hx => first | exact ev_const | exact ev_tmp rfl); (case hr => exact hap _)) | ((with_reducible refine rw_list ?_); (first | ((with_reducible apply wpList_load_cell); (case ho => with_reducible rfl); (case hgd => with_reducible rfl); (case hx => rfl); (case hu => first | exact Try.underlying22 | exact Try.underlying3 | exact Try.underlying55 | exact Try.underlying9 | exact Try.underlying4); (case hd => rfl)) | ((with_reducible apply wpList_load_row); (case ho => with_reducible rfl); (case hgd => with_reducible rfl); (case hx => rfl); (case hu => first | exact Try.underlying49 | exact Try.underlying83 | exact Try.underlying43); (case hd => rfl)) | ((with_reducible apply wpList_store_row); (case ho => with_reducible rfl); (case hgd => with_reducible rfl); (case hx => rfl); (case hy => rfl)) | ((with_reducible apply wpList_store_cell); (case ho => with_reducible rfl); (case hgd => with_reducible rfl); (case hx => rfl); (case hy => first | exact ev_const | exact ev_tmp rfl); (case h1 => rfl))); (case hg => exact (by with_reducible repeat (first | assumption | (refine rw_new ?e_; case e_ => first | rfl | (simp; done) | (simp; omega)) | apply rw_self | (apply rw_other; case hn => first | omega | (simp; omega)) | apply rw_alloc | apply rw_drew | apply rw_drewN))); (try case hv => first | exact stA_get _ _ | exact hcur0 | rfl); (try case hi => first | exact okR0.i49 _ | exact okR0.i83 _ | kernel_rfl); (try case hold => first | exact okR0.z _ _ | exact okR0.sz _ _ | rfl); (try case h1 => first | exact okR0.all _ rfl | kernel_rfl); (try case hlt => first | exact stA_lt _ _ | rfl); (try case hcs => first | exact stA_set _ _ _ | ((try simp only [List.setIfInBounds_toArray, List.set_cons_succ, List.set_cons_zero]); rfl))))
  refine (do_any ⟨#[99, 111, 112, 121]⟩ _ hS1 okR0).mono ?_
  rintro e w2 ⟨⟨z2, n2, p2, rfl, hS2⟩, hb⟩
  have hN2 : Below w1.heap.size w1 w2 := below_then (w := w1) (by with_reducible repeat (first | exact Below.refl _ _ | assumption | ((first | refine Below.alloc ?_ ?b_ _ | refine bw_set ?_ ?b_ | refine Below.setCell ?_ ?b_ _); case b_ => first | omega | (simp; done) | (simp; omega)) | refine Below.drew ?_ | refine below_drewN ?_ _)) (by first | omega | (simp; done) | (simp; omega)) hb
  have hB_w2 : Below w.heap.size w w2 := below_then (w := w) (by with_reducible repeat (first | exact Below.refl _ _ | assumption | ((first | refine Below.alloc ?_ ?b_ _ | refine bw_set ?_ ?b_ | refine Below.setCell ?_ ?b_ _); case b_ => first | omega | (simp; done) | (simp; omega)) | refine Below.drew ?_ | refine below_drewN ?_ _)) (by first | omega | (simp; done) | (simp; omega)) hb
  have hs_w2 := hB_w2.size
  clear hb
  rw [k_under] at hS2 ⊢
  go_wp2_with (first | ((with_reducible refine rw_list ?_); (with_reducible apply wpList_append_eq); (case ho => with_reducible rfl); (case hgd => with_reducible rfl); (case hs => first | exact ev_const | exact ev_tmp rfl); (case hx => first | exact ev_const | exact ev_tmp rfl); (case hr => exact hap _)) | ((with_reducible refine rw_list ?_); (first | ((with_reducible apply wpList_load_cell); (case ho => with_reducible rfl); (case hgd => with_reducible rfl); (case hx => rfl); (case hu => first | exact Try.underlying22 | exact Try.underlying3 | exact Try.underlying55 | exact Try.underlying9 | exact Try.underlying4); (case hd => rfl)) | ((with_reducible apply wpList_load_row); (case ho => with_reducible rfl); (case hgd => with_reducible rfl); (case hx => rfl); (case hu => first | exact Try.underlying49 | exact Try.underlying83 | exact Try.underlying43); (case hd => rfl)) | ((with_reducible apply wpList_store_row); (case ho => with_reducible rfl); (case hgd => with_reducible rfl); (case hx => rfl); (case hy => rfl)) | ((with_reducible apply wpList_store_cell); (case ho => with_reducible rfl); (case hgd => with_reducible rfl); (case hx => rfl); (case hy => first | exact ev_const | exact ev_tmp rfl); (case h1 => rfl))); (case hg => exact (by with_reducible repeat (first | assumption | (refine rw_new ?e_; case e_ => first | rfl | (simp; done) | (simp; omega)) | apply rw_self | (apply rw_other; case hn => first | omega | (simp; omega)) | apply rw_alloc | apply rw_drew | apply rw_drewN))); (try case hv => first | exact stA_get _ _ | exact hcur0 | rfl); (try case hi => first | exact okR0.i49 _ | exact okR0.i83 _ | kernel_rfl); (try case hold => first | exact okR0.z _ _ | exact okR0.sz _ _ | rfl); (try case h1 => first | exact okR0.all _ rfl | kernel_rfl); (try case hlt => first | exact stA_lt _ _ | rfl); (try case hcs => first | exact stA_set _ _ _ | ((try simp only [List.setIfInBounds_toArray, List.set_cons_succ, List.set_cons_zero]); rfl))))
  refine (of_any [1] _ _ _ (rw_new (by first | rfl | (simp; done) | (simp; omega))) (by decide)).mono ?_
  rintro e w3 ⟨⟨x3, c3, rfl, hS3⟩, hb⟩
  have hN3 : Below w2.heap.size w2 w3 := below_then (w := w2) (by with_reducible repeat (first | exact Below.refl _ _ | assumption | ((first | refine Below.alloc ?_ ?b_ _ | refine bw_set ?_ ?b_ | refine Below.setCell ?_ ?b_ _); case b_ => first | omega | (simp; done) | (simp; omega)) | refine Below.drew ?_ | refine below_drewN ?_ _)) (by first | omega | (simp; done) | (simp; omega)) hb
  have hB_w3 : Below w.heap.size w w3 := below_then (w := w) (by with_reducible repeat (first | exact Below.refl _ _ | assumption | ((first | refine Below.alloc ?_ ?b_ _ | refine bw_set ?_ ?b_ | refine Below.setCell ?_ ?b_ _); case b_ => first | omega | (simp; done) | (simp; omega)) | refine Below.drew ?_ | refine below_drewN ?_ _)) (by first | omega | (simp; done) | (simp; omega)) hb
  have hs_w3 := hB_w3.size
  clear hb
  simp only [List.length_cons, List.length_nil, Nat.reduceAdd] at hS3 ⊢
  go_wp2_with (first | ((with_reducible refine rw_list ?_); (with_reducible apply wpList_append_eq); (case ho => with_reducible rfl); (case hgd => with_reducible rfl); (case hs => first | exact ev_const | exact ev_tmp rfl); (case hx => first | exact ev_const | exact ev_tmp rfl); (case hr => exact hap _)) | ((with_reducible refine rw_list ?_); (first | ((with_reducible apply wpList_load_cell); (case ho => with_reducible rfl); (case hgd => with_reducible rfl); (case hx => rfl); (case hu => first | exact Try.underlying22 | exact Try.underlying3 | exact Try.underlying55 | exact Try.underlying9 | exact Try.underlying4); (case hd => rfl)) | ((with_reducible apply wpList_load_row); (case ho => with_reducible rfl); (case hgd => with_reducible rfl); (case hx => rfl); (case hu => first | exact Try.underlying49 | exact Try.underlying83 | exact Try.underlying43); (case hd => rfl)) | ((with_reducible apply wpList_store_row); (case ho => with_reducible rfl); (case hgd => with_reducible rfl); (case hx => rfl); (case hy => rfl)) | ((with_reducible apply wpList_store_cell); (case ho => with_reducible rfl); (case hgd => with_reducible rfl); (case hx => rfl); (case hy => first | exact ev_const | exact ev_tmp rfl); (case h1 => rfl))); (case hg => exact (by with_reducible repeat (first | assumption | (refine rw_new ?e_; case e_ => first | rfl | (simp; done) | (simp; omega)) | apply rw_self | (apply rw_other; case hn => first | omega | (simp; omega)) | apply rw_alloc | apply rw_drew | apply rw_drewN))); (try case hv => first | exact stA_get _ _ | exact hcur0 | rfl); (try case hi => first | exact okR0.i49 _ | exact okR0.i83 _ | kernel_rfl); (try case hold => first | exact okR0.z _ _ | exact okR0.sz _ _ | rfl); (try case h1 => first | exact okR0.all _ rfl | kernel_rfl); (try case hlt => first | exact stA_lt _ _ | rfl); (try case hcs => first | exact stA_set _ _ _ | ((try simp only [List.setIfInBounds_toArray, List.set_cons_succ, List.set_cons_zero]); rfl))))
  refine (do_any ⟨#[102, 108, 121]⟩ _ hS3 okR0).mono ?_
  rintro e w4 ⟨⟨z4, n4, p4, rfl, hS4⟩, hb⟩
  have hN4 : Below w3.heap.size w3 w4 := below_then (w := w3) (by with_reducible repeat (first | exact Below.refl _ _ | assumption | ((first | refine Below.alloc ?_ ?b_ _ | refine bw_set ?_ ?b_ | refine Below.setCell ?_ ?b_ _); case b_ => first | omega | (simp; done) | (simp; omega)) | refine Below.drew ?_ | refine below_drewN ?_ _)) (by first | omega | (simp; done) | (simp; omega)) hb
  have hB_w4 : Below w.heap.size w w4 := below_then (w := w) (by with_reducible repeat (first | exact Below.refl _ _ | assumption | ((first | refine Below.alloc ?_ ?b_ _ | refine bw_set ?_ ?b_ | refine Below.setCell ?_ ?b_ _); case b_ => first | omega | (simp; done) | (simp; omega)) | refine Below.drew ?_ | refine below_drewN ?_ _)) (by first | omega | (simp; done) | (simp; omega)) hb
  have hs_w4 := hB_w4.size
  clear hb
  rw [k_fly] at hS4 ⊢
  go_wp2_with (first | ((with_reducible refine rw_list ?_); (with_reducible apply wpList_append_eq); (case ho => with_reducible rfl); (case hgd => with_reducible rfl); (case hs => first | exact ev_const | exact ev_tmp rfl); (case hx => first | exact ev_const | exact ev_tmp rfl); (case hr => exact hap _)) | ((with_reducible refine rw_list ?_); (first | ((with_reducible apply wpList_load_cell); (case ho => with_reducible rfl); (case hgd => with_reducible rfl); (case hx => rfl); (case hu => first | exact Try.underlying22 | exact Try.underlying3 | exact Try.underlying55 | exact Try.underlying9 | exact Try.underlying4); (case hd => rfl)) | ((with_reducible apply wpList_load_row); (case ho => with_reducible rfl); (case hgd => with_reducible rfl); (case hx => rfl); (case hu => first | exact Try.underlying49 | exact Try.underlying83 | exact Try.underlying43); (case hd => rfl)) | ((with_reducible apply wpList_store_row); (case ho => with_reducible rfl); (case hgd => with_reducible rfl); (case hx => rfl); (case hy => rfl)) | ((with_reducible apply wpList_store_cell); (case ho => with_reducible rfl); (case hgd => with_reducible rfl); (case hx => rfl); (case hy => first | exact ev_const | exact ev_tmp rfl); (case h1 => rfl))); (case hg => exact (by with_reducible repeat (first | assumption | (refine rw_new ?e_; case e_ => first | rfl | (simp; done) | (simp; omega)) | apply rw_self | (apply rw_other; case hn => first | omega | (simp; omega)) | apply rw_alloc | apply rw_drew | apply rw_drewN))); (try case hv => first | exact stA_get _ _ | exact hcur0 | rfl); (try case hi => first | exact okR0.i49 _ | exact okR0.i83 _ | kernel_rfl); (try case hold => first | exact okR0.z _ _ | exact okR0.sz _ _ | rfl); (try case h1 => first | exact okR0.all _ rfl | kernel_rfl); (try case hlt => first | exact stA_lt _ _ | rfl); (try case hcs => first | exact stA_set _ _ _ | ((try simp only [List.setIfInBounds_toArray, List.set_cons_succ, List.set_cons_zero]); rfl))))
  refine (of_any [1, 2, 3] _ _ _ (rw_new (by first | rfl | (simp; done) | (simp; omega))) (by decide)).mono ?_
  rintro e w5 ⟨⟨x5, c5, rfl, hS5⟩, hb⟩
  have hN5 : Below w4.heap.size w4 w5 := below_then (w := w4) (by with_reducible repeat (first | exact Below.refl _ _ | assumption | ((first | refine Below.alloc ?_ ?b_ _ | refine bw_set ?_ ?b_ | refine Below.setCell ?_ ?b_ _); case b_ => first | omega | (simp; done) | (simp; omega)) | refine Below.drew ?_ | refine below_drewN ?_ _)) (by first | omega | (simp; done) | (simp; omega)) hb
  have hB_w5 : Below w.heap.size w w5 := below_then (w := w) (by with_reducible repeat (first | exact Below.refl _ _ | assumption | ((first | refine Below.alloc ?_ ?b_ _ | refine bw_set ?_ ?b_ | refine Below.setCell ?_ ?b_ _); case b_ => first | omega | (simp; done) | (simp; omega)) | refine Below.drew ?_ | refine below_drewN ?_ _)) (by first | omega | (simp; done) | (simp; omega)) hb
  have hs_w5 := hB_w5.size
  clear hb
  simp only [List.length_cons, List.length_nil, Nat.reduceAdd] at hS5 ⊢
  go_wp2_with (first | ((with_reducible refine rw_list ?_); (with_reducible apply wpList_append_eq); (case ho => with_reducible rfl); (case hgd => with_reducible rfl); (case hs => first | exact ev_const | exact ev_tmp rfl); (case hx => first | exact ev_const | exact ev_tmp rfl); (case hr => exact hap _)) | ((with_reducible refine rw_list ?_); (first | ((with_reducible apply wpList_load_cell); (case ho => with_reducible rfl); (case hgd => with_reducible rfl); (case hx => rfl); (case hu => first | exact Try.underlying22 | exact Try.underlying3 | exact Try.underlying55 | exact Try.underlying9 | exact Try.underlying4); (case hd => rfl)) | ((with_reducible apply wpList_load_row); (case ho => with_reducible rfl); (case hgd => with_reducible rfl); (case hx => rfl); (case hu => first | exact Try.underlying49 | exact Try.underlying83 | exact Try.underlying43); (case hd => rfl)) | ((with_reducible apply wpList_store_row); (case ho => with_reducible rfl); (case hgd => with_reducible rfl); (case hx => rfl); (case hy => rfl)) | ((with_reducible apply wpList_store_cell); (case ho => with_reducible rfl); (case hgd => with_reducible rfl); (case hx => rfl); (case hy => first | exact ev_const | exact ev_tmp rfl); (case h1 => rfl))); (case hg => exact (by with_reducible repeat (first | assumption | (refine rw_new ?e_; case e_ => first | rfl | (simp; done) | (simp; omega)) | apply rw_self | (apply rw_other; case hn => first | omega | (simp; omega)) | apply rw_alloc | apply rw_drew | apply rw_drewN))); (try case hv => first | exact stA_get _ _ | exact hcur0 | rfl); (try case hi => first | exact okR0.i49 _ | exact okR0.i83 _ | kernel_rfl); (try case hold => first | exact okR0.z _ _ | exact okR0.sz _ _ | rfl); (try case h1 => first | exact okR0.all _ rfl | kernel_rfl); (try case hlt => first | exact stA_lt _ _ | rfl); (try case hcs => first | exact stA_set _ _ _ | ((try simp only [List.setIfInBounds_toArray, List.set_cons_succ, List.set_cons_zero]); rfl))))
  refine (top_ok 1 2 rfl _ hS5.le hS5.mx okR0).mono ?_
  rintro e w6 ⟨rfl, hb⟩
  have hN6 : Below w5.heap.size w5 w6 := below_then (w := w5) (by with_reducible repeat (first | exact Below.refl _ _ | assumption | ((first | refine Below.alloc ?_ ?b_ _ | refine bw_set ?_ ?b_ | refine Below.setCell ?_ ?b_ _); case b_ => first | omega | (simp; done) | (simp; omega)) | refine Below.drew ?_ | refine below_drewN ?_ _)) (by first | omega | (simp; done) | (simp; omega)) hb
  have hB_w6 : Below w.heap.size w w6 := below_then (w := w) (by with_reducible repeat (first | exact Below.refl _ _ | assumption | ((first | refine Below.alloc ?_ ?b_ _ | refine bw_set ?_ ?b_ | refine Below.setCell ?_ ?b_ _); case b_ => first | omega | (simp; done) | (simp; omega)) | refine Below.drew ?_ | refine below_drewN ?_ _)) (by first | omega | (simp; done) | (simp; omega)) hb
  have hs_w6 := hB_w6.size
  clear hb
  have hT := (hS5.below hN6 (Nat.le_refl _)).top 1 (by omega)
  obtain ⟨b, off, hy⟩ := hT.ob.some_of (by decide)
  rw [hy] at hT ⊢
  clear hS1 hS2 hS3 hS4 hy
  go_wp2_with fail
  refine (of_any [1, 2, 3] _ _ _ (rw_new (by first | rfl | (simp; done) | (simp; omega))) (by decide)).mono ?_
  rintro e w7 ⟨⟨x7, c7, rfl, hS7⟩, hb⟩
  have hN7 : Below w6.heap.size w6 w7 := below_then (w := w6) (by with_reducible repeat (first | exact Below.refl _ _ | assumption | ((first | refine Below.alloc ?_ ?b_ _ | refine bw_set ?_ ?b_ | refine Below.setCell ?_ ?b_ _); case b_ => first | omega | (simp; done) | (simp; omega)) | refine Below.drew ?_ | refine below_drewN ?_ _)) (by first | omega | (simp; done) | (simp; omega)) hb
  have hB_w7 : Below w.heap.size w w7 := below_then (w := w) (by with_reducible repeat (first | exact Below.refl _ _ | assumption | ((first | refine Below.alloc ?_ ?b_ _ | refine bw_set ?_ ?b_ | refine Below.setCell ?_ ?b_ _); case b_ => first | omega | (simp; done) | (simp; omega)) | refine Below.drew ?_ | refine below_drewN ?_ _)) (by first | omega | (simp; done) | (simp; omega)) hb
  have hs_w7 := hB_w7.size
  clear hb
  simp only [List.length_cons, List.length_nil, Nat.reduceAdd] at hS7 ⊢
  go_wp2_with fail
  refine (of_any [1, 3, 2] _ _ _ (rw_new (by first | rfl | (simp; done) | (simp; omega))) (by decide)).mono ?_
  rintro e w8 ⟨⟨x8, c8, rfl, hS8⟩, hb⟩
  have hN8 : Below w7.heap.size w7 w8 := below_then (w := w7) (by with_reducible repeat (first | exact Below.refl _ _ | assumption | ((first | refine Below.alloc ?_ ?b_ _ | refine bw_set ?_ ?b_ | refine Below.setCell ?_ ?b_ _); case b_ => first | omega | (simp; done) | (simp; omega)) | refine Below.drew ?_ | refine below_drewN ?_ _)) (by first | omega | (simp; done) | (simp; omega)) hb
  have hB_w8 : Below w.heap.size w w8 := below_then (w := w) (by with_reducible repeat (first | exact Below.refl _ _ | assumption | ((first | refine Below.alloc ?_ ?b_ _ | refine bw_set ?_ ?b_ | refine Below.setCell ?_ ?b_ _); case b_ => first | omega | (simp; done) | (simp; omega)) | refine Below.drew ?_ | refine below_drewN ?_ _)) (by first | omega | (simp; done) | (simp; omega)) hb
  have hs_w8 := hB_w8.size
  clear hb
  simp only [List.length_cons, List.length_nil, Nat.reduceAdd] at hS8 ⊢
  go_wp2_with fail
  refine (gives_any ⟨#[101, 120, 99, 104]⟩ _ (hS7.below hN8 (Nat.le_refl _)) hS8 (rd0 _) k_exch).mono ?_
  rintro e w9 ⟨rfl, hb⟩
  have hN9 : Below w8.heap.size w8 w9 := below_then (w := w8) (by with_reducible repeat (first | exact Below.refl _ _ | assumption | ((first | refine Below.alloc ?_ ?b_ _ | refine bw_set ?_ ?b_ | refine Below.setCell ?_ ?b_ _); case b_ => first | omega | (simp; done) | (simp; omega)) | refine Below.drew ?_ | refine below_drewN ?_ _)) (by first | omega | (simp; done) | (simp; omega)) hb
  have hB_w9 : Below w.heap.size w w9 := below_then (w := w) (by with_reducible repeat (first | exact Below.refl _ _ | assumption | ((first | refine Below.alloc ?_ ?b_ _ | refine bw_set ?_ ?b_ | refine Below.setCell ?_ ?b_ _); case b_ => first | omega | (simp; done) | (simp; omega)) | refine Below.drew ?_ | refine below_drewN ?_ _)) (by first | omega | (simp; done) | (simp; omega)) hb
  have hs_w9 := hB_w9.size
  clear hb
  have hT := ((hT.below hN7 (Nat.le_refl _)).below hN8 (Nat.le_refl _)).below hN9 (Nat.le_refl _)
  clear hS7 hS8 hN7 hN8 hN9
  go_wp2_with fail
  refine (of_any [1, 2, 2] _ _ _ (rw_new (by first | rfl | (simp; done) | (simp; omega))) (by decide)).mono ?_
  rintro e w10 ⟨⟨x10, c10, rfl, hS10⟩, hb⟩
  have hN10 : Below w9.heap.size w9 w10 := below_then (w := w9) (by with_reducible repeat (first | exact Below.refl _ _ | assumption | ((first | refine Below.alloc ?_ ?b_ _ | refine bw_set ?_ ?b_ | refine Below.setCell ?_ ?b_ _); case b_ => first | omega | (simp; done) | (simp; omega)) | refine Below.drew ?_ | refine below_drewN ?_ _)) (by first | omega | (simp; done) | (simp; omega)) hb
  have hB_w10 : Below w.heap.size w w10 := below_then (w := w) (by with_reducible repeat (first | exact Below.refl _ _ | assumption | ((first | refine Below.alloc ?_ ?b_ _ | refine bw_set ?_ ?b_ | refine Below.setCell ?_ ?b_ _); case b_ => first | omega | (simp; done) | (simp; omega)) | refine Below.drew ?_ | refine below_drewN ?_ _)) (by first | omega | (simp; done) | (simp; omega)) hb
  have hs_w10 := hB_w10.size
  clear hb
  simp only [List.length_cons, List.length_nil, Nat.reduceAdd] at hS10 ⊢
  go_wp2_with fail
  refine (of_any [1, 2, 1, 2] _ _ _ (rw_new (by first | rfl | (simp; done) | (simp; omega))) (by decide)).mono ?_
  rintro e w11 ⟨⟨x11, c11, rfl, hS11⟩, hb⟩
  have hN11 : Below w10.heap.size w10 w11 := below_then (w := w10) (by with_reducible repeat (first | exact Below.refl _ _ | assumption | ((first | refine Below.alloc ?_ ?b_ _ | refine bw_set ?_ ?b_ | refine Below.setCell ?_ ?b_ _); case b_ => first | omega | (simp; done) | (simp; omega)) | refine Below.drew ?_ | refine below_drewN ?_ _)) (by first | omega | (simp; done) | (simp; omega)) hb
  have hB_w11 : Below w.heap.size w w11 := below_then (w := w) (by with_reducible repeat (first | exact Below.refl _ _ | assumption | ((first | refine Below.alloc ?_ ?b_ _ | refine bw_set ?_ ?b_ | refine Below.setCell ?_ ?b_ _); case b_ => first | omega | (simp; done) | (simp; omega)) | refine Below.drew ?_ | refine below_drewN ?_ _)) (by first | omega | (simp; done) | (simp; omega)) hb
  have hs_w11 := hB_w11.size
  clear hb
  simp only [List.length_cons, List.length_nil, Nat.reduceAdd] at hS11 ⊢
  go_wp2_with fail
  refine (gives_any ⟨#[99, 111, 112, 121]⟩ _ (hS10.below hN11 (Nat.le_refl _)) hS11 (rd0 _) k_copy).mono ?_
  rintro e w12 ⟨rfl, hb⟩
  have hN12 : Below w11.heap.size w11 w12 := below_then (w := w11) (by with_reducible repeat (first | exact Below.refl _ _ | assumption | ((first | refine Below.alloc ?_ ?b_ _ | refine bw_set ?_ ?b_ | refine Below.setCell ?_ ?b_ _); case b_ => first | omega | (simp; done) | (simp; omega)) | refine Below.drew ?_ | refine below_drewN ?_ _)) (by first | omega | (simp; done) | (simp; omega)) hb
  have hB_w12 : Below w.heap.size w w12 := below_then (w := w) (by with_reducible repeat (first | exact Below.refl _ _ | assumption | ((first | refine Below.alloc ?_ ?b_ _ | refine bw_set ?_ ?b_ | refine Below.setCell ?_ ?b_ _); case b_ => first | omega | (simp; done) | (simp; omega)) | refine Below.drew ?_ | refine below_drewN ?_ _)) (by first | omega | (simp; done) | (simp; omega)) hb
  have hs_w12 := hB_w12.size
  clear hb
  have hT := ((hT.below hN10 (Nat.le_refl _)).below hN11 (Nat.le_refl _)).below hN12 (Nat.le_refl _)
  clear hS10 hS11 hN10 hN11 hN12
  go_wp2_with fail
  refine (of_any [5, 6, 7, 2] _ _ _ (rw_new (by first | rfl | (simp; done) | (simp; omega))) (by decide)).mono ?_
  rintro e w13 ⟨⟨x13, c13, rfl, hS13⟩, hb⟩
  have hN13 : Below w12.heap.size w12 w13 := below_then (w := w12) (by with_reducible repeat (first | exact Below.refl _ _ | assumption | ((first | refine Below.alloc ?_ ?b_ _ | refine bw_set ?_ ?b_ | refine Below.setCell ?_ ?b_ _); case b_ => first | omega | (simp; done) | (simp; omega)) | refine Below.drew ?_ | refine below_drewN ?_ _)) (by first | omega | (simp; done) | (simp; omega)) hb
  have hB_w13 : Below w.heap.size w w13 := below_then (w := w) (by with_reducible repeat (first | exact Below.refl _ _ | assumption | ((first | refine Below.alloc ?_ ?b_ _ | refine bw_set ?_ ?b_ | refine Below.setCell ?_ ?b_ _); case b_ => first | omega | (simp; done) | (simp; omega)) | refine Below.drew ?_ | refine below_drewN ?_ _)) (by first | omega | (simp; done) | (simp; omega)) hb
  have hs_w13 := hB_w13.size
  clear hb
  simp only [List.length_cons, List.length_nil, Nat.reduceAdd] at hS13 ⊢
  go_wp2_with fail
  refine (of_any [5, 6, 7, 5] _ _ _ (rw_new (by first | rfl | (simp; done) | (simp; omega))) (by decide)).mono ?_
  rintro e w14 ⟨⟨x14, c14, rfl, hS14⟩, hb⟩
  have hN14 : Below w13.heap.size w13 w14 := below_then (w := w13) (by with_reducible repeat (first | exact Below.refl _ _ | assumption | ((first | refine Below.alloc ?_ ?b_ _ | refine bw_set ?_ ?b_ | refine Below.setCell ?_ ?b_ _); case b_ => first | omega | (simp; done) | (simp; omega)) | refine Below.drew ?_ | refine below_drewN ?_ _)) (by first | omega | (simp; done) | (simp; omega)) hb
  have hB_w14 : Below w.heap.size w w14 := below_then (w := w) (by with_reducible repeat (first | exact Below.refl _ _ | assumption | ((first | refine Below.alloc ?_ ?b_ _ | refine bw_set ?_ ?b_ | refine Below.setCell ?_ ?b_ _); case b_ => first | omega | (simp; done) | (simp; omega)) | refine Below.drew ?_ | refine below_drewN ?_ _)) (by first | omega | (simp; done) | (simp; omega)) hb
  have hs_w14 := hB_w14.size
  clear hb
  simp only [List.length_cons, List.length_nil, Nat.reduceAdd] at hS14 ⊢
  go_wp2_with fail
  refine (gives_any ⟨#[105, 110, 100, 101, 120]⟩ _ (hS13.below hN14 (Nat.le_refl _)) hS14 (rd0 _) k_index).mono ?_
  rintro e w15 ⟨rfl, hb⟩
  have hN15 : Below w14.heap.size w14 w15 := below_then (w := w14) (by with_reducible repeat (first | exact Below.refl _ _ | assumption | ((first | refine Below.alloc ?_ ?b_ _ | refine bw_set ?_ ?b_ | refine Below.setCell ?_ ?b_ _); case b_ => first | omega | (simp; done) | (simp; omega)) | refine Below.drew ?_ | refine below_drewN ?_ _)) (by first | omega | (simp; done) | (simp; omega)) hb
  have hB_w15 : Below w.heap.size w w15 := below_then (w := w) (by with_reducible repeat (first | exact Below.refl _ _ | assumption | ((first | refine Below.alloc ?_ ?b_ _ | refine bw_set ?_ ?b_ | refine Below.setCell ?_ ?b_ _); case b_ => first | omega | (simp; done) | (simp; omega)) | refine Below.drew ?_ | refine below_drewN ?_ _)) (by first | omega | (simp; done) | (simp; omega)) hb
  have hs_w15 := hB_w15.size
  clear hb
  have hT := ((hT.below hN13 (Nat.le_refl _)).below hN14 (Nat.le_refl _)).below hN15 (Nat.le_refl _)
  clear hS13 hS14 hN13 hN14 hN15
  go_wp2_with fail
  refine (of_any [1, 2, 3, 3, 1] _ _ _ (rw_new (by first | rfl | (simp; done) | (simp; omega))) (by decide)).mono ?_
  rintro e w16 ⟨⟨x16, c16, rfl, hS16⟩, hb⟩
  have hN16 : Below w15.heap.size w15 w16 := below_then (w := w15) (by with_reducible repeat (first | exact Below.refl _ _ | assumption | ((first | refine Below.alloc ?_ ?b_ _ | refine bw_set ?_ ?b_ | refine Below.setCell ?_ ?b_ _); case b_ => first | omega | (simp; done) | (simp; omega)) | refine Below.drew ?_ | refine below_drewN ?_ _)) (by first | omega | (simp; done) | (simp; omega)) hb
  have hB_w16 : Below w.heap.size w w16 := below_then (w := w) (by with_reducible repeat (first | exact Below.refl _ _ | assumption | ((first | refine Below.alloc ?_ ?b_ _ | refine bw_set ?_ ?b_ | refine Below.setCell ?_ ?b_ _); case b_ => first | omega | (simp; done) | (simp; omega)) | refine Below.drew ?_ | refine below_drewN ?_ _)) (by first | omega | (simp; done) | (simp; omega)) hb
  have hs_w16 := hB_w16.size
  clear hb
  simp only [List.length_cons, List.length_nil, Nat.reduceAdd] at hS16 ⊢
  go_wp2_with fail
  refine (of_any [3, 1, 2] _ _ _ (rw_new (by first | rfl | (simp; done) | (simp; omega))) (by decide)).mono ?_
  rintro e w17 ⟨⟨x17, c17, rfl, hS17⟩, hb⟩
  have hN17 : Below w16.heap.size w16 w17 := below_then (w := w16) (by with_reducible repeat (first | exact Below.refl _ _ | assumption | ((first | refine Below.alloc ?_ ?b_ _ | refine bw_set ?_ ?b_ | refine Below.setCell ?_ ?b_ _); case b_ => first | omega | (simp; done) | (simp; omega)) | refine Below.drew ?_ | refine below_drewN ?_ _)) (by first | omega | (simp; done) | (simp; omega)) hb
  have hB_w17 : Below w.heap.size w w17 := below_then (w := w) (by with_reducible repeat (first | exact Below.refl _ _ | assumption | ((first | refine Below.alloc ?_ ?b_ _ | refine bw_set ?_ ?b_ | refine Below.setCell ?_ ?b_ _); case b_ => first | omega | (simp; done) | (simp; omega)) | refine Below.drew ?_ | refine below_drewN ?_ _)) (by first | omega | (simp; done) | (simp; omega)) hb
  have hs_w17 := hB_w17.size
  clear hb
  simp only [List.length_cons, List.length_nil, Nat.reduceAdd] at hS17 ⊢
  go_wp2_with fail
  refine (gives_any ⟨#[114, 111, 108, 108]⟩ _ (hS16.below hN17 (Nat.le_refl _)) hS17 (rd0 _) k_roll).mono ?_
  rintro e w18 ⟨rfl, hb⟩
  have hN18 : Below w17.heap.size w17 w18 := below_then (w := w17) (by with_reducible repeat (first | exact Below.refl _ _ | assumption | ((first | refine Below.alloc ?_ ?b_ _ | refine bw_set ?_ ?b_ | refine Below.setCell ?_ ?b_ _); case b_ => first | omega | (simp; done) | (simp; omega)) | refine Below.drew ?_ | refine below_drewN ?_ _)) (by first | omega | (simp; done) | (simp; omega)) hb
  have hB_w18 : Below w.heap.size w w18 := below_then (w := w) (by with_reducible repeat (first | exact Below.refl _ _ | assumption | ((first | refine Below.alloc ?_ ?b_ _ | refine bw_set ?_ ?b_ | refine Below.setCell ?_ ?b_ _); case b_ => first | omega | (simp; done) | (simp; omega)) | refine Below.drew ?_ | refine below_drewN ?_ _)) (by first | omega | (simp; done) | (simp; omega)) hb
  have hs_w18 := hB_w18.size
  clear hb
  have hT := ((hT.below hN16 (Nat.le_refl _)).below hN17 (Nat.le_refl _)).below hN18 (Nat.le_refl _)
  clear hS16 hS17 hN16 hN17 hN18
  go_wp2_with fail
  refine (of_any [1, 2, 3, 3, -1] _ _ _ (rw_new (by first | rfl | (simp; done) | (simp; omega))) (by decide)).mono ?_
  rintro e w19 ⟨⟨x19, c19, rfl, hS19⟩, hb⟩
  have hN19 : Below w18.heap.size w18 w19 := below_then (w := w18) (by with_reducible repeat (first | exact Below.refl _ _ | assumption | ((first | refine Below.alloc ?_ ?b_ _ | refine bw_set ?_ ?b_ | refine Below.setCell ?_ ?b_ _); case b_ => first | omega | (simp; done) | (simp; omega)) | refine Below.drew ?_ | refine below_drewN ?_ _)) (by first | omega | (simp; done) | (simp; omega)) hb
  have hB_w19 : Below w.heap.size w w19 := below_then (w := w) (by with_reducible repeat (first | exact Below.refl _ _ | assumption | ((first | refine Below.alloc ?_ ?b_ _ | refine bw_set ?_ ?b_ | refine Below.setCell ?_ ?b_ _); case b_ => first | omega | (simp; done) | (simp; omega)) | refine Below.drew ?_ | refine below_drewN ?_ _)) (by first | omega | (simp; done) | (simp; omega)) hb
  have hs_w19 := hB_w19.size
  clear hb
  simp only [List.length_cons, List.length_nil, Nat.reduceAdd] at hS19 ⊢
  go_wp2_with fail
  refine (of_any [2, 3, 1] _ _ _ (rw_new (by first | rfl | (simp; done) | (simp; omega))) (by decide)).mono ?_
  rintro e w20 ⟨⟨x20, c20, rfl, hS20⟩, hb⟩
  have hN20 : Below w19.heap.size w19 w20 := below_then (w := w19) (by with_reducible repeat (first | exact Below.refl _ _ | assumption | ((first | refine Below.alloc ?_ ?b_ _ | refine bw_set ?_ ?b_ | refine Below.setCell ?_ ?b_ _); case b_ => first | omega | (simp; done) | (simp; omega)) | refine Below.drew ?_ | refine below_drewN ?_ _)) (by first | omega | (simp; done) | (simp; omega)) hb
  have hB_w20 : Below w.heap.size w w20 := below_then (w := w) (by with_reducible repeat (first | exact Below.refl _ _ | assumption | ((first | refine Below.alloc ?_ ?b_ _ | refine bw_set ?_ ?b_ | refine Below.setCell ?_ ?b_ _); case b_ => first | omega | (simp; done) | (simp; omega)) | refine Below.drew ?_ | refine below_drewN ?_ _)) (by first | omega | (simp; done) | (simp; omega)) hb
  have hs_w20 := hB_w20.size
  clear hb
  simp only [List.length_cons, List.length_nil, Nat.reduceAdd] at hS20 ⊢
  go_wp2_with fail
  refine (gives_any ⟨#[114, 111, 108, 108]⟩ _ (hS19.below hN20 (Nat.le_refl _)) hS20 (rd0 _) k_roll2).mono ?_
  rintro e w21 ⟨rfl, hb⟩
  have hN21 : Below w20.heap.size w20 w21 := below_then (w := w20) (by with_reducible repeat (first | exact Below.refl _ _ | assumption | ((first | refine Below.alloc ?_ ?b_ _ | refine bw_set ?_ ?b_ | refine Below.setCell ?_ ?b_ _); case b_ => first | omega | (simp; done) | (simp; omega)) | refine Below.drew ?_ | refine below_drewN ?_ _)) (by first | omega | (simp; done) | (simp; omega)) hb
  have hB_w21 : Below w.heap.size w w21 := below_then (w := w) (by with_reducible repeat (first | exact Below.refl _ _ | assumption | ((first | refine Below.alloc ?_ ?b_ _ | refine bw_set ?_ ?b_ | refine Below.setCell ?_ ?b_ _); case b_ => first | omega | (simp; done) | (simp; omega)) | refine Below.drew ?_ | refine below_drewN ?_ _)) (by first | omega | (simp; done) | (simp; omega)) hb
  have hs_w21 := hB_w21.size
  clear hb
  have hT := ((hT.below hN19 (Nat.le_refl _)).below hN20 (Nat.le_refl _)).below hN21 (Nat.le_refl _)
  clear hS19 hS20 hN19 hN20 hN21
  go_wp2_with fail
  refine (of_any [8, 9] _ _ _ (rw_new (by first | rfl | (simp; done) | (simp; omega))) (by decide)).mono ?_
  rintro e w22 ⟨⟨x22, c22, rfl, hS22⟩, hb⟩
  have hN22 : Below w21.heap.size w21 w22 := below_then (w := w21) (by with_reducible repeat (first | exact Below.refl _ _ | assumption | ((first | refine Below.alloc ?_ ?b_ _ | refine bw_set ?_ ?b_ | refine Below.setCell ?_ ?b_ _); case b_ => first | omega | (simp; done) | (simp; omega)) | refine Below.drew ?_ | refine below_drewN ?_ _)) (by first | omega | (simp; done) | (simp; omega)) hb
  have hB_w22 : Below w.heap.size w w22 := below_then (w := w) (by with_reducible repeat (first | exact Below.refl _ _ | assumption | ((first | refine Below.alloc ?_ ?b_ _ | refine bw_set ?_ ?b_ | refine Below.setCell ?_ ?b_ _); case b_ => first | omega | (simp; done) | (simp; omega)) | refine Below.drew ?_ | refine below_drewN ?_ _)) (by first | omega | (simp; done) | (simp; omega)) hb
  have hs_w22 := hB_w22.size
  clear hb
  simp only [List.length_cons, List.length_nil, Nat.reduceAdd] at hS22 ⊢
  go_wp2_with fail
  refine (of_any [8, 9, 2] _ _ _ (rw_new (by first | rfl | (simp; done) | (simp; omega))) (by decide)).mono ?_
  rintro e w23 ⟨⟨x23, c23, rfl, hS23⟩, hb⟩
  have hN23 : Below w22.heap.size w22 w23 := below_then (w := w22) (by with_reducible repeat (first | exact Below.refl _ _ | assumption | ((first | refine Below.alloc ?_ ?b_ _ | refine bw_set ?_ ?b_ | refine Below.setCell ?_ ?b_ _); case b_ => first | omega | (simp; done) | (simp; omega)) | refine Below.drew ?_ | refine below_drewN ?_ _)) (by first | omega | (simp; done) | (simp; omega)) hb
  have hB_w23 : Below w.heap.size w w23 := below_then (w := w) (by with_reducible repeat (first | exact Below.refl _ _ | assumption | ((first | refine Below.alloc ?_ ?b_ _ | refine bw_set ?_ ?b_ | refine Below.setCell ?_ ?b_ _); case b_ => first | omega | (simp; done) | (simp; omega)) | refine Below.drew ?_ | refine below_drewN ?_ _)) (by first | omega | (simp; done) | (simp; omega)) hb
  have hs_w23 := hB_w23.size
  clear hb
  simp only [List.length_cons, List.length_nil, Nat.reduceAdd] at hS23 ⊢
  go_wp2_with fail
  refine (gives_any ⟨#[99, 111, 117, 110, 116]⟩ _ (hS22.below hN23 (Nat.le_refl _)) hS23 (rd0 _) k_count).mono ?_
  rintro e w24 ⟨rfl, hb⟩
  have hN24 : Below w23.heap.size w23 w24 := below_then (w := w23) (by with_reducible repeat (first | exact Below.refl _ _ | assumption | ((first | refine Below.alloc ?_ ?b_ _ | refine bw_set ?_ ?b_ | refine Below.setCell ?_ ?b_ _); case b_ => first | omega | (simp; done) | (simp; omega)) | refine Below.drew ?_ | refine below_drewN ?_ _)) (by first | omega | (simp; done) | (simp; omega)) hb
  have hB_w24 : Below w.heap.size w w24 := below_then (w := w) (by with_reducible repeat (first | exact Below.refl _ _ | assumption | ((first | refine Below.alloc ?_ ?b_ _ | refine bw_set ?_ ?b_ | refine Below.setCell ?_ ?b_ _); case b_ => first | omega | (simp; done) | (simp; omega)) | refine Below.drew ?_ | refine below_drewN ?_ _)) (by first | omega | (simp; done) | (simp; omega)) hb
  have hs_w24 := hB_w24.size
  clear hb
  have hT := ((hT.below hN22 (Nat.le_refl _)).below hN23 (Nat.le_refl _)).below hN24 (Nat.le_refl _)
  clear hS22 hS23 hN22 hN23 hN24
  obtain ⟨_, _, d2, _⟩ := hT.ob.at (show ((its [1, 2, 3]).drop 1)[0]? = some (it 2) from rfl)
  simp only [Nat.zero_mul, Nat.add_zero, it] at d2
  go_wp2_with fail
  go_ret
  exact ⟨rfl, (by with_reducible repeat (first | exact Below.refl _ _ | assumption | ((first | refine Below.alloc ?_ ?b_ _ | refine bw_set ?_ ?b_ | refine Below.setCell ?_ ?b_ _); case b_ => first | omega | (simp; done) | (simp; omega)) | refine Below.drew ?_ | refine below_drewN ?_ _))⟩
end Go.Proofs.Ytiadenokcpnliaa.T3
