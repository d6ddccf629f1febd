/- chapter 12: the reference: copy, index. -/
import Derived.Test.YtiadenokcpnliaaSuC
import Derived.WalkKit
import Derived.Lib.Hide
import Derived.Deep.QuietTactic
import Derived.BigQuiet
import Derived.Lib.QuietBelow
import Derived.Deep.RegionHeld3
import Derived.WalkLawsBesides
import Derived.WalkSpells
import Derived.Outline
import Derived.Deep.DeepFit
import Derived.Maps.AppendAt
import Derived.Deep.AppendLies
import Derived.Deep.CutRange
import Derived.OpenShut
namespace Go.Proofs.Ytiadenokcpnliaa.T3
set_option linter.unusedSimpArgs false
set_option linter.unusedVariables false
open Go.RowKit
attribute [local go_sem] Oper.semAt_some
set_option maxHeartbeats 4000000
set_option maxRecDepth 100000

theorem ctN_at (L : List Ob) (n : Nat) : ctN L n = (at_ L (L.length - n)).n := by
  unfold ctN at_
  rw [List.getD_eq_getElem?_getD, List.getElem?_drop, ← List.getD_eq_getElem?_getD, Nat.add_zero]
theorem load_int {w : World} {p : Addr} {n : Int} (h : w.cell? p = some (.int .i64 n)) : (loadVar 3 p).run Try.prog w = .ok (.int .i64 n) w := by
  have hagg : (isAgg 3).run Try.prog w = .ok false w := by kernel_rfl
  simp [loadVar, Sem.run_bind, hagg, load, Sem.run, h]
theorem SL.heldn {A : Nat → Prop} {w w1 w' : World} {x : Option Addr} {len cap : Nat} {L : List Ob} {k : Nat} (h : SL A w x len cap L) (hb : Below w.heap.size w w1) (hk : w.heap.size ≤ k) (hH : Held w1 [k] w') : ∀ b off i q, x = some ⟨b, off, none⟩ → L[i]? = some q → (loadVar 3 ⟨b, off + i * 7 + 2, none⟩).run Try.prog w' = .ok (.int .i64 q.n) w' := by
  intro b off i q hx hi
  subst hx
  rcases h.ob with h | ⟨b', o', hx, _, hlt, hc⟩
  · subst h; simp at hi
  · cases hx
    refine load_int ?_
    have := hc i q.cs (by simp [hi]) 2 (.int .i64 q.n) rfl
    rw [← this]
    have e1 : w'.heap[b]? = w.heap[b]? := (hH b (Nat.lt_of_lt_of_le hlt hb.size) (by simp; omega)).trans (hb.block b hlt)
    simp [World.cell?, e1]
theorem rd_copy : OpD ⟨#[99, 111, 112, 121]⟩ copyR := by
  intro A x len cap R L w h hR
  have hz := zeroS
  have hle := h.le
  have hmx := h.mx
  have hsm := h.sm
  have hln := h.ln
  by_cases hc : ctE L 1 0 = 0
  · skip
    obtain ⟨q1, _, q3, q4⟩ := ctE_ok hc
    rw [hln] at q1 q4
    obtain ⟨p, hp0⟩ : ∃ p, len - 1 = p := ⟨_, rfl⟩
    have hp1 : (len : Int) - 1 = (p : Int) := by omega
    have hpl : p < len := by omega
    obtain ⟨k, hk⟩ : ∃ k : Nat, ctN L 1 = k := ⟨(ctN L 1).toNat, by omega⟩
    rw [hk, hp0] at q4
    have hN : (at_ L p).n = k := by rw [← hk, ctN_at, hln, hp0]
    obtain ⟨lo, hlo⟩ : ∃ lo, p - k = lo := ⟨_, rfl⟩
    have hlo1 : (p : Int) - (k : Int) = (lo : Int) := by omega
    have hlop : lo ≤ p := by omega
    rw [show copyR L = insR L 1 ((L.take p).drop lo) by unfold copyR; rw [if_pos hc]; unfold ctL; rw [hln, hk, hp0, Int.toNat_natCast, Nat.add_zero, hlo]]
    have hs := fun w => slice_mid w x len cap lo p (by omega) (by omega)
    have hmid := h.mid lo p (by omega) (by omega)
    obtain ⟨b, off, rfl⟩ := h.ob.some_of (by omega)
    have Hc := Lib.hid hc
    clear hk hp0 hc hlo q3 q4
    go_enter Try.func14, Try.ntmps14
    go_wp2_with (first | ((with_reducible refine rw_list ?_); (with_reducible apply wpList_append_eq); (case ho => with_reducible rfl); (case hgd => with_reducible rfl); (case hs => first | exact ev_const | exact ev_tmp rfl); (case hx => first | exact ev_const | exact ev_tmp rfl); (case hr => exact hap _)) | ((with_reducible refine rw_list ?_); (first | ((with_reducible apply wpList_load_cell); (case ho => with_reducible rfl); (case hgd => with_reducible rfl); (case hx => rfl); (case hu => first | exact Try.underlying22 | exact Try.underlying3 | exact Try.underlying55 | exact Try.underlying9 | exact Try.underlying4); (case hd => rfl)) | ((with_reducible apply wpList_load_row); (case ho => with_reducible rfl); (case hgd => with_reducible rfl); (case hx => rfl); (case hu => first | exact Try.underlying49 | exact Try.underlying83 | exact Try.underlying43); (case hd => rfl)) | ((with_reducible apply wpList_store_row); (case ho => with_reducible rfl); (case hgd => with_reducible rfl); (case hx => rfl); (case hy => rfl)) | ((with_reducible apply wpList_store_cell); (case ho => with_reducible rfl); (case hgd => with_reducible rfl); (case hx => rfl); (case hy => first | exact ev_const | exact ev_tmp rfl); (case h1 => rfl))); (case hg => exact (by with_reducible repeat (first | assumption | (refine rw_new ?e_; case e_ => first | rfl | (simp; done) | (simp; omega)) | apply rw_self | (apply rw_other; case hn => first | omega | (simp; omega)) | apply rw_alloc | apply rw_drew | apply rw_drewN))); (try case hv => first | exact stA_get _ _ | exact hcur0 | rfl); (try case hi => first | exact hR.i49 _ | exact hR.i83 _ | kernel_rfl); (try case hold => first | exact hR.z _ _ | exact hR.sz _ _ | rfl); (try case h1 => first | exact hR.all _ rfl | kernel_rfl); (try case hlt => first | exact stA_lt _ _ | rfl); (try case hcs => first | exact stA_set _ _ _ | ((try simp only [List.setIfInBounds_toArray, List.set_cons_succ, List.set_cons_zero]); rfl))))
    refine (counts_any 1 0 (by omega) (by omega) (by omega) _ (h.below (B := w.heap.size) (by with_reducible repeat (first | exact Below.refl _ _ | assumption | ((first | refine Below.alloc ?_ ?b_ _ | refine bw_set ?_ ?b_ | refine Below.setCell ?_ ?b_ _); case b_ => first | omega | (simp; done) | (simp; omega)) | refine Below.drew ?_ | refine below_drewN ?_ _)) (Nat.le_refl _)) hR).mono ?_
    rintro e w1 ⟨rfl, hb⟩
    have hs_w1 := hb.size
    (try simp at hs_w1)
    have hB_w1 : Below w.heap.size w w1 := below_then (w := w) (by with_reducible repeat (first | exact Below.refl _ _ | assumption | ((first | refine Below.alloc ?_ ?b_ _ | refine bw_set ?_ ?b_ | refine Below.setCell ?_ ?b_ _); case b_ => first | omega | (simp; done) | (simp; omega)) | refine Below.drew ?_ | refine below_drewN ?_ _)) (by first | omega | (simp; done) | (simp; omega) | (have hq_ := hb.size; omega)) hb
    have hx_ := rw_below (k := w.heap.size) hb (by with_reducible repeat (first | assumption | (refine rw_new ?e_; case e_ => first | rfl | (simp; done) | (simp; omega)) | apply rw_self | (apply rw_other; case hn => first | omega | (simp; omega)) | apply rw_alloc | apply rw_drew | apply rw_drewN))
    (try clear hp)
    have hp := hx_
    clear hx_
    have hx_ := rw_below (k := w.heap.size + 1) hb (by with_reducible repeat (first | assumption | (refine rw_new ?e_; case e_ => first | rfl | (simp; done) | (simp; omega)) | apply rw_self | (apply rw_other; case hn => first | omega | (simp; omega)) | apply rw_alloc | apply rw_drew | apply rw_drewN))
    (try clear hq)
    have hq := hx_
    clear hx_
    clear hb
    rw [Hc.out]
    go_upto_region 18 with (first | ((with_reducible refine rw_list ?_); (with_reducible apply wpList_append_eq); (case ho => with_reducible rfl); (case hgd => with_reducible rfl); (case hs => first | exact ev_const | exact ev_tmp rfl); (case hx => first | exact ev_const | exact ev_tmp rfl); (case hr => exact hap _)) | ((with_reducible refine rw_list ?_); (first | ((with_reducible apply wpList_load_cell); (case ho => with_reducible rfl); (case hgd => with_reducible rfl); (case hx => rfl); (case hu => first | exact Try.underlying22 | exact Try.underlying3 | exact Try.underlying55 | exact Try.underlying9 | exact Try.underlying4); (case hd => rfl)) | ((with_reducible apply wpList_load_row); (case ho => with_reducible rfl); (case hgd => with_reducible rfl); (case hx => rfl); (case hu => first | exact Try.underlying49 | exact Try.underlying83 | exact Try.underlying43); (case hd => rfl)) | ((with_reducible apply wpList_store_row); (case ho => with_reducible rfl); (case hgd => with_reducible rfl); (case hx => rfl); (case hy => rfl)) | ((with_reducible apply wpList_store_cell); (case ho => with_reducible rfl); (case hgd => with_reducible rfl); (case hx => rfl); (case hy => first | exact ev_const | exact ev_tmp rfl); (case h1 => rfl))); (case hg => exact (by with_reducible repeat (first | assumption | (refine rw_new ?e_; case e_ => first | rfl | (simp; done) | (simp; omega)) | apply rw_self | (apply rw_other; case hn => first | omega | (simp; omega)) | apply rw_alloc | apply rw_drew | apply rw_drewN))); (try case hv => first | exact stA_get _ _ | exact hcur0 | rfl); (try case hi => first | exact hR.i49 _ | exact hR.i83 _ | kernel_rfl); (try case hold => first | exact hR.z _ _ | exact hR.sz _ _ | rfl); (try case h1 => first | exact hR.all _ rfl | kernel_rfl); (try case hlt => first | exact stA_lt _ _ | rfl); (try case hcs => first | exact stA_set _ _ _ | ((try simp only [List.setIfInBounds_toArray, List.set_cons_succ, List.set_cons_zero]); rfl))))
    have hpc := (cell_of_row _ _ 0 _ _ _ hp).trans (stA_get _ _)
    obtain ⟨_, _, c2, _⟩ := (h.ob.below (B := w.heap.size) hB_w1 (Nat.le_refl _)).at (at_get (L := L) (i := p) (by omega))
    rw [hN] at c2
    go_upto_region 19 with fail
    clear hpc c2
    have hlp : w.heap.size < w1.heap.size := rw_lt hp
    have hlq : w.heap.size + 1 < w1.heap.size := rw_lt hq
    have hSS : Held w1 [w.heap.size + 1] w1.drew := Held.refl _ _
    refine wp_region_ord (.s 0 .l (.s 1 .p (.s 2 .l (.s 3 .p (.s 4 .p (.s 5 .p (.s 6 .p (.s 7 .p (.s 8 .p (.s 9 .p (.s 10 .e (.s 11 .p (.s 12 .p (.s 13 .e (.s 14 .p .done))))))))))))))) (Held w1 [w.heap.size + 1]) (by kernel_rfl) (by kernel_rfl) (fun _ _ _ _ _ h => h) hSS ?_
    (apply wpOrd_l2 rfl rfl rfl rfl rfl; (intro w' K hS' hK; (first | (refine wp_load_row 49 _ rfl _ rfl _ _ _ _ ((hS' _ hlp (by simp)).trans hp) Try.underlying49 rfl (hR.i49 _) ?_) | (refine wp_load_cell 22 _ rfl _ 0 rfl _ _ _ _ _ ((hS' _ hlp (by simp)).trans hp) Try.underlying22 rfl (stA_get _ _) ?_)); exact hK); (first | exact hSS | assumption))
    (apply wpOrd_p2 rfl rfl rfl rfl rfl; (intro w' K hK; (first | go_big_move | go_big_op | go_wp2_with fail); exact hK))
    (apply wpOrd_l2 rfl rfl rfl rfl rfl; (intro w' K hS' hK; (first | (refine wp_load_row 49 _ rfl _ rfl _ _ _ _ ((hS' _ hlp (by simp)).trans hp) Try.underlying49 rfl (hR.i49 _) ?_) | (refine wp_load_cell 22 _ rfl _ 0 rfl _ _ _ _ _ ((hS' _ hlp (by simp)).trans hp) Try.underlying22 rfl (stA_get _ _) ?_)); exact hK); (first | exact hSS | assumption))
    (apply wpOrd_p2 rfl rfl rfl rfl rfl; (intro w' K hK; (first | go_big_move | go_big_op | go_wp2_with fail); exact hK))
    (apply wpOrd_p2 rfl rfl rfl rfl rfl; (intro w' K hK; (first | go_big_move | go_big_op | go_wp2_with fail); exact hK))
    (apply wpOrd_p2 rfl rfl rfl rfl rfl; (intro w' K hK; (first | go_big_move | go_big_op | go_wp2_with fail); exact hK))
    (apply wpOrd_p2 rfl rfl rfl rfl rfl; (intro w' K hK; (first | go_big_move | go_big_op | go_wp2_with fail); exact hK))
    (apply wpOrd_p2 rfl rfl rfl rfl rfl; (intro w' K hK; (first | go_big_move | go_big_op | go_wp2_with fail); exact hK))
    (apply wpOrd_p2 rfl rfl rfl rfl rfl; (intro w' K hK; (first | go_big_move | go_big_op | go_wp2_with fail); exact hK))
    (apply wpOrd_p2 rfl rfl rfl rfl rfl; (intro w' K hK; (first | go_big_move | go_big_op | go_wp2_with fail); exact hK))
    (refine wpOrd_e1 rfl rfl (fun K hK => ?_)); (first | go_big_op | go_wp2_with fail)
    refine Calls.mono (inst_any (A := Out A w.heap.size (w.heap.size + 2)) (L := L) (M := (L.take p).drop lo) (R := R) 1 (by omega) _ ?hA_ ?hM_ hR) ?_; (case hA_ => exact (h.out (w.heap.size + 2)).below (B := w.heap.size) (by with_reducible repeat (first | exact Below.refl _ _ | assumption | ((first | refine Below.alloc ?_ ?b_ _ | refine bw_set ?_ ?b_ | refine Below.setCell ?_ ?b_ _); case b_ => first | omega | (simp; done) | (simp; omega)) | refine Below.drew ?_ | refine below_drewN ?_ _)) (Nat.le_refl _)); (case hM_ => exact (hmid.out (w.heap.size + 2)).below (B := w.heap.size) (by with_reducible repeat (first | exact Below.refl _ _ | assumption | ((first | refine Below.alloc ?_ ?b_ _ | refine bw_set ?_ ?b_ | refine Below.setCell ?_ ?b_ _); case b_ => first | omega | (simp; done) | (simp; omega)) | refine Below.drew ?_ | refine below_drewN ?_ _)) (Nat.le_refl _)); rintro e w5 ⟨⟨z, n1, cap1, rfl, hS⟩, hb⟩; have hs_w5 := hb.size; (try simp at hs_w5); have hB_w5 : Below w.heap.size w w5 := below_then (w := w) (by with_reducible repeat (first | exact Below.refl _ _ | assumption | ((first | refine Below.alloc ?_ ?b_ _ | refine bw_set ?_ ?b_ | refine Below.setCell ?_ ?b_ _); case b_ => first | omega | (simp; done) | (simp; omega)) | refine Below.drew ?_ | refine below_drewN ?_ _)) (by first | omega | (simp; done) | (simp; omega)) hb; have hq5 := rw_below (k := w.heap.size + 1) hb (by with_reducible repeat (first | assumption | (refine rw_new ?e_; case e_ => first | rfl | (simp; done) | (simp; omega)) | apply rw_self | (apply rw_other; case hn => first | omega | (simp; omega)) | apply rw_alloc | apply rw_drew | apply rw_drewN)); have hH5 : Held w1 [w.heap.size + 1] w5 := Held.then (by with_reducible repeat (first | exact Held.refl _ _ | assumption | refine Held.drew ?_ | (refine Held.alloc ?_ ?s_ _; case s_ => first | omega | (simp; done) | (simp; omega)) | (refine Held.setRow ?_ ?g_; case g_ => simp))) (by first | omega | (simp; done) | (simp; omega)) hb; have hS := hS.inn (by first | omega | (simp; done) | (simp; omega)); refine hK _ _ hH5 ?_; clear hK K hb
    (apply wpOrd_p2 rfl rfl rfl rfl rfl; (intro w' K hK; (first | go_big_move | go_big_op | go_wp2_with fail); exact hK))
    (apply wpOrd_p2 rfl rfl rfl rfl rfl; (intro w' K hK; (first | go_big_move | go_big_op | go_wp2_with fail); exact hK))
    (refine wpOrd_e1 rfl rfl (fun K hK => ?_))
    refine wp_store_row 49 _ _ rfl _ _ rfl rfl _ _ hq5 (hR.i49 _) (hR.z _ _) (hR.all _ rfl) ?_; refine hK _ _ (by with_reducible repeat (first | exact Held.refl _ _ | assumption | refine Held.drew ?_ | (refine Held.alloc ?_ ?s_ _; case s_ => first | omega | (simp; done) | (simp; omega)) | (refine Held.setRow ?_ ?g_; case g_ => simp))) ?_; clear hK K
    (apply wpOrd_p2 rfl rfl rfl rfl rfl; (intro w' K hK; (first | go_big_move | go_big_op | go_wp2_with fail); exact hK))
    refine wpOrd_nil ?_
    skip
    go_wp2_with (first | ((with_reducible refine rw_list ?_); (with_reducible apply wpList_append_eq); (case ho => with_reducible rfl); (case hgd => with_reducible rfl); (case hs => first | exact ev_const | exact ev_tmp rfl); (case hx => first | exact ev_const | exact ev_tmp rfl); (case hr => exact hap _)) | ((with_reducible refine rw_list ?_); (first | ((with_reducible apply wpList_load_cell); (case ho => with_reducible rfl); (case hgd => with_reducible rfl); (case hx => rfl); (case hu => first | exact Try.underlying22 | exact Try.underlying3 | exact Try.underlying55 | exact Try.underlying9 | exact Try.underlying4); (case hd => rfl)) | ((with_reducible apply wpList_load_row); (case ho => with_reducible rfl); (case hgd => with_reducible rfl); (case hx => rfl); (case hu => first | exact Try.underlying49 | exact Try.underlying83 | exact Try.underlying43); (case hd => rfl)) | ((with_reducible apply wpList_store_row); (case ho => with_reducible rfl); (case hgd => with_reducible rfl); (case hx => rfl); (case hy => rfl)) | ((with_reducible apply wpList_store_cell); (case ho => with_reducible rfl); (case hgd => with_reducible rfl); (case hx => rfl); (case hy => first | exact ev_const | exact ev_tmp rfl); (case h1 => rfl))); (case hg => exact (by with_reducible repeat (first | assumption | (refine rw_new ?e_; case e_ => first | rfl | (simp; done) | (simp; omega)) | apply rw_self | (apply rw_other; case hn => first | omega | (simp; omega)) | apply rw_alloc | apply rw_drew | apply rw_drewN))); (try case hv => first | exact stA_get _ _ | exact hcur0 | rfl); (try case hi => first | exact hR.i49 _ | exact hR.i83 _ | kernel_rfl); (try case hold => first | exact hR.z _ _ | exact hR.sz _ _ | rfl); (try case h1 => first | exact hR.all _ rfl | kernel_rfl); (try case hlt => first | exact stA_lt _ _ | rfl); (try case hcs => first | exact stA_set _ _ _ | ((try simp only [List.setIfInBounds_toArray, List.set_cons_succ, List.set_cons_zero]); rfl))))
    refine bodyPost_ret (v := _) (results_cell_tmp Try.results14 _ _ _ _ _ _ _ (by rfl) (by with_reducible repeat (first | assumption | (refine rw_new ?e_; case e_ => first | rfl | (simp; done) | (simp; omega)) | apply rw_self | (apply rw_other; case hn => first | omega | (simp; omega)) | apply rw_alloc | apply rw_drew | apply rw_drewN)) Try.underlying49 rfl (by exact hR.i49 _)) rfl ⟨⟨_, _, _, rfl, ?_⟩, (by with_reducible repeat (first | exact Below.refl _ _ | assumption | ((first | refine Below.alloc ?_ ?b_ _ | refine bw_set ?_ ?b_ | refine Below.setCell ?_ ?b_ _); case b_ => first | omega | (simp; done) | (simp; omega)) | refine Below.drew ?_ | refine below_drewN ?_ _))⟩
    exact (SL.fin (hS.keep (by first | omega | (simp; done) | (simp; omega)) (fun b hA hlt => by have hA := out_or hA; (try simp at hA); (with_reducible repeat (first | rfl | (refine (setRow_other _ _ _ _ ?n_).trans ?_; case n_ => first | omega | (simp; omega)) | (refine (Below.heap_alloc _ _ _ ?n_).trans ?_; case n_ => first | omega | (simp; omega)))))) (by first | omega | (simp; done) | (simp; omega)))
  · rw [show copyR L = (ctE L 1 0, L) from if_neg hc]
    obtain ⟨er, her⟩ : ∃ er, ctE L 1 0 = er := ⟨_, rfl⟩
    rw [her] at hc ⊢
    have Her := Lib.hid her
    have hc2 : (er == 0) = false := by simpa using hc
    clear her
    go_enter Try.func14, Try.ntmps14
    go_wp2_with (first | ((with_reducible refine rw_list ?_); (with_reducible apply wpList_append_eq); (case ho => with_reducible rfl); (case hgd => with_reducible rfl); (case hs => first | exact ev_const | exact ev_tmp rfl); (case hx => first | exact ev_const | exact ev_tmp rfl); (case hr => exact hap _)) | ((with_reducible refine rw_list ?_); (first | ((with_reducible apply wpList_load_cell); (case ho => with_reducible rfl); (case hgd => with_reducible rfl); (case hx => rfl); (case hu => first | exact Try.underlying22 | exact Try.underlying3 | exact Try.underlying55 | exact Try.underlying9 | exact Try.underlying4); (case hd => rfl)) | ((with_reducible apply wpList_load_row); (case ho => with_reducible rfl); (case hgd => with_reducible rfl); (case hx => rfl); (case hu => first | exact Try.underlying49 | exact Try.underlying83 | exact Try.underlying43); (case hd => rfl)) | ((with_reducible apply wpList_store_row); (case ho => with_reducible rfl); (case hgd => with_reducible rfl); (case hx => rfl); (case hy => rfl)) | ((with_reducible apply wpList_store_cell); (case ho => with_reducible rfl); (case hgd => with_reducible rfl); (case hx => rfl); (case hy => first | exact ev_const | exact ev_tmp rfl); (case h1 => rfl))); (case hg => exact (by with_reducible repeat (first | assumption | (refine rw_new ?e_; case e_ => first | rfl | (simp; done) | (simp; omega)) | apply rw_self | (apply rw_other; case hn => first | omega | (simp; omega)) | apply rw_alloc | apply rw_drew | apply rw_drewN))); (try case hv => first | exact stA_get _ _ | exact hcur0 | rfl); (try case hi => first | exact hR.i49 _ | exact hR.i83 _ | kernel_rfl); (try case hold => first | exact hR.z _ _ | exact hR.sz _ _ | rfl); (try case h1 => first | exact hR.all _ rfl | kernel_rfl); (try case hlt => first | exact stA_lt _ _ | rfl); (try case hcs => first | exact stA_set _ _ _ | ((try simp only [List.setIfInBounds_toArray, List.set_cons_succ, List.set_cons_zero]); rfl))))
    refine (counts_any 1 0 (by omega) (by omega) (by omega) _ (h.below (B := w.heap.size) (by with_reducible repeat (first | exact Below.refl _ _ | assumption | ((first | refine Below.alloc ?_ ?b_ _ | refine bw_set ?_ ?b_ | refine Below.setCell ?_ ?b_ _); case b_ => first | omega | (simp; done) | (simp; omega)) | refine Below.drew ?_ | refine below_drewN ?_ _)) (Nat.le_refl _)) hR).mono ?_
    rintro e w1 ⟨rfl, hb⟩
    have hs_w1 := hb.size
    (try simp at hs_w1)
    have hB_w1 : Below w.heap.size w w1 := below_then (w := w) (by with_reducible repeat (first | exact Below.refl _ _ | assumption | ((first | refine Below.alloc ?_ ?b_ _ | refine bw_set ?_ ?b_ | refine Below.setCell ?_ ?b_ _); case b_ => first | omega | (simp; done) | (simp; omega)) | refine Below.drew ?_ | refine below_drewN ?_ _)) (by first | omega | (simp; done) | (simp; omega) | (have hq_ := hb.size; omega)) hb
    have hx_ := rw_below (k := w.heap.size) hb (by with_reducible repeat (first | assumption | (refine rw_new ?e_; case e_ => first | rfl | (simp; done) | (simp; omega)) | apply rw_self | (apply rw_other; case hn => first | omega | (simp; omega)) | apply rw_alloc | apply rw_drew | apply rw_drewN))
    (try clear hp)
    have hp := hx_
    clear hx_
    have hx_ := rw_below (k := w.heap.size + 1) hb (by with_reducible repeat (first | assumption | (refine rw_new ?e_; case e_ => first | rfl | (simp; done) | (simp; omega)) | apply rw_self | (apply rw_other; case hn => first | omega | (simp; omega)) | apply rw_alloc | apply rw_drew | apply rw_drewN))
    (try clear hq)
    have hq := hx_
    clear hx_
    clear hb
    rw [Her.out]
    go_wp2_with (first | ((with_reducible refine rw_list ?_); (with_reducible apply wpList_append_eq); (case ho => with_reducible rfl); (case hgd => with_reducible rfl); (case hs => first | exact ev_const | exact ev_tmp rfl); (case hx => first | exact ev_const | exact ev_tmp rfl); (case hr => exact hap _)) | ((with_reducible refine rw_list ?_); (first | ((with_reducible apply wpList_load_cell); (case ho => with_reducible rfl); (case hgd => with_reducible rfl); (case hx => rfl); (case hu => first | exact Try.underlying22 | exact Try.underlying3 | exact Try.underlying55 | exact Try.underlying9 | exact Try.underlying4); (case hd => rfl)) | ((with_reducible apply wpList_load_row); (case ho => with_reducible rfl); (case hgd => with_reducible rfl); (case hx => rfl); (case hu => first | exact Try.underlying49 | exact Try.underlying83 | exact Try.underlying43); (case hd => rfl)) | ((with_reducible apply wpList_store_row); (case ho => with_reducible rfl); (case hgd => with_reducible rfl); (case hx => rfl); (case hy => rfl)) | ((with_reducible apply wpList_store_cell); (case ho => with_reducible rfl); (case hgd => with_reducible rfl); (case hx => rfl); (case hy => first | exact ev_const | exact ev_tmp rfl); (case h1 => rfl))); (case hg => exact (by with_reducible repeat (first | assumption | (refine rw_new ?e_; case e_ => first | rfl | (simp; done) | (simp; omega)) | apply rw_self | (apply rw_other; case hn => first | omega | (simp; omega)) | apply rw_alloc | apply rw_drew | apply rw_drewN))); (try case hv => first | exact stA_get _ _ | exact hcur0 | rfl); (try case hi => first | exact hR.i49 _ | exact hR.i83 _ | kernel_rfl); (try case hold => first | exact hR.z _ _ | exact hR.sz _ _ | rfl); (try case h1 => first | exact hR.all _ rfl | kernel_rfl); (try case hlt => first | exact stA_lt _ _ | rfl); (try case hcs => first | exact stA_set _ _ _ | ((try simp only [List.setIfInBounds_toArray, List.set_cons_succ, List.set_cons_zero]); rfl))))
    refine bodyPost_ret (v := _) (results_cell_tmp Try.results14 _ _ _ _ _ _ _ (by rfl) (by with_reducible repeat (first | assumption | (refine rw_new ?e_; case e_ => first | rfl | (simp; done) | (simp; omega)) | apply rw_self | (apply rw_other; case hn => first | omega | (simp; omega)) | apply rw_alloc | apply rw_drew | apply rw_drewN)) Try.underlying49 rfl (by exact hR.i49 _)) rfl ⟨⟨_, _, _, rfl, ?_⟩, (by with_reducible repeat (first | exact Below.refl _ _ | assumption | ((first | refine Below.alloc ?_ ?b_ _ | refine bw_set ?_ ?b_ | refine Below.setCell ?_ ?b_ _); case b_ => first | omega | (simp; done) | (simp; omega)) | refine Below.drew ?_ | refine below_drewN ?_ _))⟩
    exact (h.out w.heap.size).below (B := w.heap.size) (by with_reducible repeat (first | exact Below.refl _ _ | assumption | ((first | refine Below.alloc ?_ ?b_ _ | refine bw_set ?_ ?b_ | refine Below.setCell ?_ ?b_ _); case b_ => first | omega | (simp; done) | (simp; omega)) | refine Below.drew ?_ | refine below_drewN ?_ _)) (Nat.le_refl _)
theorem rd_index : OpD ⟨#[105, 110, 100, 101, 120]⟩ indexR := by
  intro A x len cap R L w h hR
  have hz := zeroS
  have hle := h.le
  have hmx := h.mx
  have hsm := h.sm
  have hln := h.ln
  by_cases hc : ctE L 1 1 = 0
  · skip
    obtain ⟨q1, _, q3, q4⟩ := ctE_ok hc
    rw [hln] at q1 q4
    obtain ⟨p, hp0⟩ : ∃ p, len - 1 = p := ⟨_, rfl⟩
    have hp1 : (len : Int) - 1 = (p : Int) := by omega
    have hpl : p < len := by omega
    obtain ⟨k, hk⟩ : ∃ k : Nat, ctN L 1 = k := ⟨(ctN L 1).toNat, by omega⟩
    rw [hk, hp0] at q4
    have hN : (at_ L p).n = k := by rw [← hk, ctN_at, hln, hp0]
    obtain ⟨p2, hp2⟩ : ∃ p2, len - 2 = p2 := ⟨_, rfl⟩
    have hp21 : (len : Int) - 2 = (p2 : Int) := by omega
    obtain ⟨t, ht⟩ : ∃ t, p2 - k = t := ⟨_, rfl⟩
    have ht1 : (p2 : Int) - (k : Int) = (t : Int) := by omega
    have htl : t < len := by omega
    rw [show indexR L = insR L 1 [at_ L t] by
      unfold indexR; rw [if_pos hc]; unfold ctL; rw [hln, hk, hp0, Int.toNat_natCast]; unfold at_
      rw [List.getD_eq_getElem?_getD, List.getElem?_drop, List.getElem?_take_of_lt (by omega), ← List.getD_eq_getElem?_getD, show p - (k + 1) + 0 = t by omega]]
    have g0 := at_get (L := L) (i := t) (by omega)
    obtain ⟨o0, ho0⟩ : ∃ o, at_ L t = o := ⟨_, rfl⟩
    rw [ho0] at g0 ⊢
    obtain ⟨b, off, rfl⟩ := h.ob.some_of (by omega)
    have Hc := Lib.hid hc
    have hNhl2 := hN
    clear hk hp0 hc q3 q4 hp2 ht ho0
    go_enter Try.func14, Try.ntmps14
    go_wp2_with (first | ((with_reducible refine rw_list ?_); (with_reducible apply wpList_append_eq); (case ho => with_reducible rfl); (case hgd => with_reducible rfl); (case hs => first | exact ev_const | exact ev_tmp rfl); (case hx => first | exact ev_const | exact ev_tmp rfl); (case hr => exact hap _)) | ((with_reducible refine rw_list ?_); (first | ((with_reducible apply wpList_load_cell); (case ho => with_reducible rfl); (case hgd => with_reducible rfl); (case hx => rfl); (case hu => first | exact Try.underlying22 | exact Try.underlying3 | exact Try.underlying55 | exact Try.underlying9 | exact Try.underlying4); (case hd => rfl)) | ((with_reducible apply wpList_load_row); (case ho => with_reducible rfl); (case hgd => with_reducible rfl); (case hx => rfl); (case hu => first | exact Try.underlying49 | exact Try.underlying83 | exact Try.underlying43); (case hd => rfl)) | ((with_reducible apply wpList_store_row); (case ho => with_reducible rfl); (case hgd => with_reducible rfl); (case hx => rfl); (case hy => rfl)) | ((with_reducible apply wpList_store_cell); (case ho => with_reducible rfl); (case hgd => with_reducible rfl); (case hx => rfl); (case hy => first | exact ev_const | exact ev_tmp rfl); (case h1 => rfl))); (case hg => exact (by with_reducible repeat (first | assumption | (refine rw_new ?e_; case e_ => first | rfl | (simp; done) | (simp; omega)) | apply rw_self | (apply rw_other; case hn => first | omega | (simp; omega)) | apply rw_alloc | apply rw_drew | apply rw_drewN))); (try case hv => first | exact stA_get _ _ | exact hcur0 | rfl); (try case hi => first | exact hR.i49 _ | exact hR.i83 _ | kernel_rfl); (try case hold => first | exact hR.z _ _ | exact hR.sz _ _ | rfl); (try case h1 => first | exact hR.all _ rfl | kernel_rfl); (try case hlt => first | exact stA_lt _ _ | rfl); (try case hcs => first | exact stA_set _ _ _ | ((try simp only [List.setIfInBounds_toArray, List.set_cons_succ, List.set_cons_zero]); rfl))))
    refine (counts_any 1 1 (by omega) (by omega) (by omega) _ (h.below (B := w.heap.size) (by with_reducible repeat (first | exact Below.refl _ _ | assumption | ((first | refine Below.alloc ?_ ?b_ _ | refine bw_set ?_ ?b_ | refine Below.setCell ?_ ?b_ _); case b_ => first | omega | (simp; done) | (simp; omega)) | refine Below.drew ?_ | refine below_drewN ?_ _)) (Nat.le_refl _)) hR).mono ?_
    rintro e w1 ⟨rfl, hb⟩
    have hs_w1 := hb.size
    (try simp at hs_w1)
    have hB_w1 : Below w.heap.size w w1 := below_then (w := w) (by with_reducible repeat (first | exact Below.refl _ _ | assumption | ((first | refine Below.alloc ?_ ?b_ _ | refine bw_set ?_ ?b_ | refine Below.setCell ?_ ?b_ _); case b_ => first | omega | (simp; done) | (simp; omega)) | refine Below.drew ?_ | refine below_drewN ?_ _)) (by first | omega | (simp; done) | (simp; omega) | (have hq_ := hb.size; omega)) hb
    have hx_ := rw_below (k := w.heap.size) hb (by with_reducible repeat (first | assumption | (refine rw_new ?e_; case e_ => first | rfl | (simp; done) | (simp; omega)) | apply rw_self | (apply rw_other; case hn => first | omega | (simp; omega)) | apply rw_alloc | apply rw_drew | apply rw_drewN))
    (try clear hp)
    have hp := hx_
    clear hx_
    have hx_ := rw_below (k := w.heap.size + 1) hb (by with_reducible repeat (first | assumption | (refine rw_new ?e_; case e_ => first | rfl | (simp; done) | (simp; omega)) | apply rw_self | (apply rw_other; case hn => first | omega | (simp; omega)) | apply rw_alloc | apply rw_drew | apply rw_drewN))
    (try clear hq)
    have hq := hx_
    clear hx_
    clear hb
    rw [Hc.out]
    go_upto_region 24 with (first | ((with_reducible refine rw_list ?_); (with_reducible apply wpList_append_eq); (case ho => with_reducible rfl); (case hgd => with_reducible rfl); (case hs => first | exact ev_const | exact ev_tmp rfl); (case hx => first | exact ev_const | exact ev_tmp rfl); (case hr => exact hap _)) | ((with_reducible refine rw_list ?_); (first | ((with_reducible apply wpList_load_cell); (case ho => with_reducible rfl); (case hgd => with_reducible rfl); (case hx => rfl); (case hu => first | exact Try.underlying22 | exact Try.underlying3 | exact Try.underlying55 | exact Try.underlying9 | exact Try.underlying4); (case hd => rfl)) | ((with_reducible apply wpList_load_row); (case ho => with_reducible rfl); (case hgd => with_reducible rfl); (case hx => rfl); (case hu => first | exact Try.underlying49 | exact Try.underlying83 | exact Try.underlying43); (case hd => rfl)) | ((with_reducible apply wpList_store_row); (case ho => with_reducible rfl); (case hgd => with_reducible rfl); (case hx => rfl); (case hy => rfl)) | ((with_reducible apply wpList_store_cell); (case ho => with_reducible rfl); (case hgd => with_reducible rfl); (case hx => rfl); (case hy => first | exact ev_const | exact ev_tmp rfl); (case h1 => rfl))); (case hg => exact (by with_reducible repeat (first | assumption | (refine rw_new ?e_; case e_ => first | rfl | (simp; done) | (simp; omega)) | apply rw_self | (apply rw_other; case hn => first | omega | (simp; omega)) | apply rw_alloc | apply rw_drew | apply rw_drewN))); (try case hv => first | exact stA_get _ _ | exact hcur0 | rfl); (try case hi => first | exact hR.i49 _ | exact hR.i83 _ | kernel_rfl); (try case hold => first | exact hR.z _ _ | exact hR.sz _ _ | rfl); (try case h1 => first | exact hR.all _ rfl | kernel_rfl); (try case hlt => first | exact stA_lt _ _ | rfl); (try case hcs => first | exact stA_set _ _ _ | ((try simp only [List.setIfInBounds_toArray, List.set_cons_succ, List.set_cons_zero]); rfl))))
    have hl0 : ∀ w', Held w1 [w.heap.size + 1] w' → (loadVar 43 ⟨b, off + t * 7, none⟩).run Try.prog w' = .ok (.agg #[.int .i64 o0.k, .bool o0.e, .int .i64 o0.n, .string o0.s, .int .i64 o0.r, .int .i64 o0.o, .int .i64 o0.l]) w' := fun w' hH => h.held hB_w1 (by omega) hH (.inr trivial) b off t o0 rfl g0
    have hl2 : ∀ w', Held w1 [w.heap.size + 1] w' → (loadVar 3 ⟨b, off + p * 7 + 2, none⟩).run Try.prog w' = .ok (.int .i64 k) w' := fun w' hH => by
      have := h.heldn hB_w1 (by omega) hH b off p _ rfl (at_get (L := L) (i := p) (by omega))
      rwa [hNhl2] at this
    have hlp : w.heap.size < w1.heap.size := rw_lt hp
    have hlq : w.heap.size + 1 < w1.heap.size := rw_lt hq
    have hSS : Held w1 [w.heap.size + 1] w1.drew := Held.refl _ _
    refine wp_region_ord (.s 0 .l (.s 1 .p (.s 2 .l (.s 3 .p (.s 4 .p (.s 5 .p (.s 6 .l (.s 7 .p (.s 8 .p (.s 9 .p (.s 10 .p (.s 11 .l (.s 12 .p (.s 13 .p (.s 14 .l (.s 15 .e (.s 16 .e (.s 17 .p (.s 18 .p (.s 19 .e (.s 20 .p .done))))))))))))))))))))) (Held w1 [w.heap.size + 1]) (by kernel_rfl) (by kernel_rfl) (fun _ _ _ _ _ h => h) hSS ?_
    (apply wpOrd_l2 rfl rfl rfl rfl rfl; (intro w' K hS' hK; (first | (refine wp_load_row 49 _ rfl _ rfl _ _ _ _ ((hS' _ hlp (by simp)).trans hp) Try.underlying49 rfl (hR.i49 _) ?_) | (refine wp_load_cell 22 _ rfl _ 0 rfl _ _ _ _ _ ((hS' _ hlp (by simp)).trans hp) Try.underlying22 rfl (stA_get _ _) ?_) | (refine wp_load_run 3 _ rfl rfl (hl2 w' hS') ?_) | (refine wp_load_run 43 _ rfl rfl (hl0 w' hS') ?_)); exact hK); (first | exact hSS | assumption))
    (apply wpOrd_p2 rfl rfl rfl rfl rfl; (intro w' K hK; (first | go_big_move | go_big_op | go_wp2_with fail); exact hK))
    (apply wpOrd_l2 rfl rfl rfl rfl rfl; (intro w' K hS' hK; (first | (refine wp_load_row 49 _ rfl _ rfl _ _ _ _ ((hS' _ hlp (by simp)).trans hp) Try.underlying49 rfl (hR.i49 _) ?_) | (refine wp_load_cell 22 _ rfl _ 0 rfl _ _ _ _ _ ((hS' _ hlp (by simp)).trans hp) Try.underlying22 rfl (stA_get _ _) ?_) | (refine wp_load_run 3 _ rfl rfl (hl2 w' hS') ?_) | (refine wp_load_run 43 _ rfl rfl (hl0 w' hS') ?_)); exact hK); (first | exact hSS | assumption))
    (apply wpOrd_p2 rfl rfl rfl rfl rfl; (intro w' K hK; (first | go_big_move | go_big_op | go_wp2_with fail); exact hK))
    (apply wpOrd_p2 rfl rfl rfl rfl rfl; (intro w' K hK; (first | go_big_move | go_big_op | go_wp2_with fail); exact hK))
    (apply wpOrd_p2 rfl rfl rfl rfl rfl; (intro w' K hK; (first | go_big_move | go_big_op | go_wp2_with fail); exact hK))
    (apply wpOrd_l2 rfl rfl rfl rfl rfl; (intro w' K hS' hK; (first | (refine wp_load_row 49 _ rfl _ rfl _ _ _ _ ((hS' _ hlp (by simp)).trans hp) Try.underlying49 rfl (hR.i49 _) ?_) | (refine wp_load_cell 22 _ rfl _ 0 rfl _ _ _ _ _ ((hS' _ hlp (by simp)).trans hp) Try.underlying22 rfl (stA_get _ _) ?_) | (refine wp_load_run 3 _ rfl rfl (hl2 w' hS') ?_) | (refine wp_load_run 43 _ rfl rfl (hl0 w' hS') ?_)); exact hK); (first | exact hSS | assumption))
    (apply wpOrd_p2 rfl rfl rfl rfl rfl; (intro w' K hK; (first | go_big_move | go_big_op | go_wp2_with fail); exact hK))
    (apply wpOrd_p2 rfl rfl rfl rfl rfl; (intro w' K hK; (first | go_big_move | go_big_op | go_wp2_with fail); exact hK))
    (apply wpOrd_p2 rfl rfl rfl rfl rfl; (intro w' K hK; (first | go_big_move | go_big_op | go_wp2_with fail); exact hK))
    (apply wpOrd_p2 rfl rfl rfl rfl rfl; (intro w' K hK; (first | go_big_move | go_big_op | go_wp2_with fail); exact hK))
    (apply wpOrd_l2 rfl rfl rfl rfl rfl; (intro w' K hS' hK; (first | (refine wp_load_row 49 _ rfl _ rfl _ _ _ _ ((hS' _ hlp (by simp)).trans hp) Try.underlying49 rfl (hR.i49 _) ?_) | (refine wp_load_cell 22 _ rfl _ 0 rfl _ _ _ _ _ ((hS' _ hlp (by simp)).trans hp) Try.underlying22 rfl (stA_get _ _) ?_) | (refine wp_load_run 3 _ rfl rfl (hl2 w' hS') ?_) | (refine wp_load_run 43 _ rfl rfl (hl0 w' hS') ?_)); exact hK); (first | exact hSS | assumption))
    (apply wpOrd_p2 rfl rfl rfl rfl rfl; (intro w' K hK; (first | go_big_move | go_big_op | go_wp2_with fail); exact hK))
    (apply wpOrd_p2 rfl rfl rfl rfl rfl; (intro w' K hK; (first | go_big_move | go_big_op | go_wp2_with fail); exact hK))
    (apply wpOrd_l2 rfl rfl rfl rfl rfl; (intro w' K hS' hK; (first | (refine wp_load_row 49 _ rfl _ rfl _ _ _ _ ((hS' _ hlp (by simp)).trans hp) Try.underlying49 rfl (hR.i49 _) ?_) | (refine wp_load_cell 22 _ rfl _ 0 rfl _ _ _ _ _ ((hS' _ hlp (by simp)).trans hp) Try.underlying22 rfl (stA_get _ _) ?_) | (refine wp_load_run 3 _ rfl rfl (hl2 w' hS') ?_) | (refine wp_load_run 43 _ rfl rfl (hl0 w' hS') ?_)); exact hK); (first | exact hSS | assumption))
    (refine wpOrd_e1 rfl rfl (fun K hK => ?_)); (first | go_big_op | go_wp2_with fail)
    refine hK _ _ (by with_reducible repeat (first | exact Held.refl _ _ | assumption | refine Held.drew ?_ | (refine Held.alloc ?_ ?s_ _; case s_ => first | omega | (simp; done) | (simp; omega)) | (refine Held.setRow ?_ ?g_; case g_ => simp))) ?_; clear hK K
    (refine wpOrd_e1 rfl rfl (fun K hK => ?_)); (first | go_big_op | go_wp2_with fail)
    refine Calls.mono (inst_any (A := Out A w.heap.size (w.heap.size + 2)) (L := L) (M := [o0]) (R := R) 1 (by omega) _ ?hA_ ?hM_ hR) ?_; (case hA_ => exact (h.out (w.heap.size + 2)).below (B := w.heap.size) (by with_reducible repeat (first | exact Below.refl _ _ | assumption | ((first | refine Below.alloc ?_ ?b_ _ | refine bw_set ?_ ?b_ | refine Below.setCell ?_ ?b_ _); case b_ => first | omega | (simp; done) | (simp; omega)) | refine Below.drew ?_ | refine below_drewN ?_ _)) (Nat.le_refl _)); (case hM_ => exact SL.row [o0] 1 rfl (by omega) (by first | exact rw_new (by first | rfl | (simp; done) | (simp; omega)) | exact rw_drew (rw_new (by first | rfl | (simp; done) | (simp; omega)))) (.inr (by first | omega | (simp; done) | (simp; omega)))); rintro e w5 ⟨⟨z, n1, cap1, rfl, hS⟩, hb⟩; have hs_w5 := hb.size; (try simp at hs_w5); have hB_w5 : Below w.heap.size w w5 := below_then (w := w) (by with_reducible repeat (first | exact Below.refl _ _ | assumption | ((first | refine Below.alloc ?_ ?b_ _ | refine bw_set ?_ ?b_ | refine Below.setCell ?_ ?b_ _); case b_ => first | omega | (simp; done) | (simp; omega)) | refine Below.drew ?_ | refine below_drewN ?_ _)) (by first | omega | (simp; done) | (simp; omega)) hb; have hq5 := rw_below (k := w.heap.size + 1) hb (by with_reducible repeat (first | assumption | (refine rw_new ?e_; case e_ => first | rfl | (simp; done) | (simp; omega)) | apply rw_self | (apply rw_other; case hn => first | omega | (simp; omega)) | apply rw_alloc | apply rw_drew | apply rw_drewN)); have hH5 : Held w1 [w.heap.size + 1] w5 := Held.then (by with_reducible repeat (first | exact Held.refl _ _ | assumption | refine Held.drew ?_ | (refine Held.alloc ?_ ?s_ _; case s_ => first | omega | (simp; done) | (simp; omega)) | (refine Held.setRow ?_ ?g_; case g_ => simp))) (by first | omega | (simp; done) | (simp; omega)) hb; have hS := hS.inn (by first | omega | (simp; done) | (simp; omega)); refine hK _ _ hH5 ?_; clear hK K hb
    (apply wpOrd_p2 rfl rfl rfl rfl rfl; (intro w' K hK; (first | go_big_move | go_big_op | go_wp2_with fail); exact hK))
    (apply wpOrd_p2 rfl rfl rfl rfl rfl; (intro w' K hK; (first | go_big_move | go_big_op | go_wp2_with fail); exact hK))
    (refine wpOrd_e1 rfl rfl (fun K hK => ?_))
    refine wp_store_row 49 _ _ rfl _ _ rfl rfl _ _ hq5 (hR.i49 _) (hR.z _ _) (hR.all _ rfl) ?_; refine hK _ _ (by with_reducible repeat (first | exact Held.refl _ _ | assumption | refine Held.drew ?_ | (refine Held.alloc ?_ ?s_ _; case s_ => first | omega | (simp; done) | (simp; omega)) | (refine Held.setRow ?_ ?g_; case g_ => simp))) ?_; clear hK K
    (apply wpOrd_p2 rfl rfl rfl rfl rfl; (intro w' K hK; (first | go_big_move | go_big_op | go_wp2_with fail); exact hK))
    refine wpOrd_nil ?_
    skip
    go_wp2_with (first | ((with_reducible refine rw_list ?_); (with_reducible apply wpList_append_eq); (case ho => with_reducible rfl); (case hgd => with_reducible rfl); (case hs => first | exact ev_const | exact ev_tmp rfl); (case hx => first | exact ev_const | exact ev_tmp rfl); (case hr => exact hap _)) | ((with_reducible refine rw_list ?_); (first | ((with_reducible apply wpList_load_cell); (case ho => with_reducible rfl); (case hgd => with_reducible rfl); (case hx => rfl); (case hu => first | exact Try.underlying22 | exact Try.underlying3 | exact Try.underlying55 | exact Try.underlying9 | exact Try.underlying4); (case hd => rfl)) | ((with_reducible apply wpList_load_row); (case ho => with_reducible rfl); (case hgd => with_reducible rfl); (case hx => rfl); (case hu => first | exact Try.underlying49 | exact Try.underlying83 | exact Try.underlying43); (case hd => rfl)) | ((with_reducible apply wpList_store_row); (case ho => with_reducible rfl); (case hgd => with_reducible rfl); (case hx => rfl); (case hy => rfl)) | ((with_reducible apply wpList_store_cell); (case ho => with_reducible rfl); (case hgd => with_reducible rfl); (case hx => rfl); (case hy => first | exact ev_const | exact ev_tmp rfl); (case h1 => rfl))); (case hg => exact (by with_reducible repeat (first | assumption | (refine rw_new ?e_; case e_ => first | rfl | (simp; done) | (simp; omega)) | apply rw_self | (apply rw_other; case hn => first | omega | (simp; omega)) | apply rw_alloc | apply rw_drew | apply rw_drewN))); (try case hv => first | exact stA_get _ _ | exact hcur0 | rfl); (try case hi => first | exact hR.i49 _ | exact hR.i83 _ | kernel_rfl); (try case hold => first | exact hR.z _ _ | exact hR.sz _ _ | rfl); (try case h1 => first | exact hR.all _ rfl | kernel_rfl); (try case hlt => first | exact stA_lt _ _ | rfl); (try case hcs => first | exact stA_set _ _ _ | ((try simp only [List.setIfInBounds_toArray, List.set_cons_succ, List.set_cons_zero]); rfl))))
    refine bodyPost_ret (v := _) (results_cell_tmp Try.results14 _ _ _ _ _ _ _ (by rfl) (by with_reducible repeat (first | assumption | (refine rw_new ?e_; case e_ => first | rfl | (simp; done) | (simp; omega)) | apply rw_self | (apply rw_other; case hn => first | omega | (simp; omega)) | apply rw_alloc | apply rw_drew | apply rw_drewN)) Try.underlying49 rfl (by exact hR.i49 _)) rfl ⟨⟨_, _, _, rfl, ?_⟩, (by with_reducible repeat (first | exact Below.refl _ _ | assumption | ((first | refine Below.alloc ?_ ?b_ _ | refine bw_set ?_ ?b_ | refine Below.setCell ?_ ?b_ _); case b_ => first | omega | (simp; done) | (simp; omega)) | refine Below.drew ?_ | refine below_drewN ?_ _))⟩
    exact (SL.fin (hS.keep (by first | omega | (simp; done) | (simp; omega)) (fun b hA hlt => by have hA := out_or hA; (try simp at hA); (with_reducible repeat (first | rfl | (refine (setRow_other _ _ _ _ ?n_).trans ?_; case n_ => first | omega | (simp; omega)) | (refine (Below.heap_alloc _ _ _ ?n_).trans ?_; case n_ => first | omega | (simp; omega)))))) (by first | omega | (simp; done) | (simp; omega)))
  · rw [show indexR L = (ctE L 1 1, L) from if_neg hc]
    obtain ⟨er, her⟩ : ∃ er, ctE L 1 1 = er := ⟨_, rfl⟩
    rw [her] at hc ⊢
    have Her := Lib.hid her
    have hc2 : (er == 0) = false := by simpa using hc
    clear her
    go_enter Try.func14, Try.ntmps14
    go_wp2_with (first | ((with_reducible refine rw_list ?_); (with_reducible apply wpList_append_eq); (case ho => with_reducible rfl); (case hgd => with_reducible rfl); (case hs => first | exact ev_const | exact ev_tmp rfl); (case hx => first | exact ev_const | exact ev_tmp rfl); (case hr => exact hap _)) | ((with_reducible refine rw_list ?_); (first | ((with_reducible apply wpList_load_cell); (case ho => with_reducible rfl); (case hgd => with_reducible rfl); (case hx => rfl); (case hu => first | exact Try.underlying22 | exact Try.underlying3 | exact Try.underlying55 | exact Try.underlying9 | exact Try.underlying4); (case hd => rfl)) | ((with_reducible apply wpList_load_row); (case ho => with_reducible rfl); (case hgd => with_reducible rfl); (case hx => rfl); (case hu => first | exact Try.underlying49 | exact Try.underlying83 | exact Try.underlying43); (case hd => rfl)) | ((with_reducible apply wpList_store_row); (case ho => with_reducible rfl); (case hgd => with_reducible rfl); (case hx => rfl); (case hy => rfl)) | ((with_reducible apply wpList_store_cell); (case ho => with_reducible rfl); (case hgd => with_reducible rfl); (case hx => rfl); (case hy => first | exact ev_const | exact ev_tmp rfl); (case h1 => rfl))); (case hg => exact (by with_reducible repeat (first | assumption | (refine rw_new ?e_; case e_ => first | rfl | (simp; done) | (simp; omega)) | apply rw_self | (apply rw_other; case hn => first | omega | (simp; omega)) | apply rw_alloc | apply rw_drew | apply rw_drewN))); (try case hv => first | exact stA_get _ _ | exact hcur0 | rfl); (try case hi => first | exact hR.i49 _ | exact hR.i83 _ | kernel_rfl); (try case hold => first | exact hR.z _ _ | exact hR.sz _ _ | rfl); (try case h1 => first | exact hR.all _ rfl | kernel_rfl); (try case hlt => first | exact stA_lt _ _ | rfl); (try case hcs => first | exact stA_set _ _ _ | ((try simp only [List.setIfInBounds_toArray, List.set_cons_succ, List.set_cons_zero]); rfl))))
    refine (counts_any 1 1 (by omega) (by omega) (by omega) _ (h.below (B := w.heap.size) (by with_reducible repeat (first | exact Below.refl _ _ | assumption | ((first | refine Below.alloc ?_ ?b_ _ | refine bw_set ?_ ?b_ | refine Below.setCell ?_ ?b_ _); case b_ => first | omega | (simp; done) | (simp; omega)) | refine Below.drew ?_ | refine below_drewN ?_ _)) (Nat.le_refl _)) hR).mono ?_
    rintro e w1 ⟨rfl, hb⟩
    have hs_w1 := hb.size
    (try simp at hs_w1)
    have hB_w1 : Below w.heap.size w w1 := below_then (w := w) (by with_reducible repeat (first | exact Below.refl _ _ | assumption | ((first | refine Below.alloc ?_ ?b_ _ | refine bw_set ?_ ?b_ | refine Below.setCell ?_ ?b_ _); case b_ => first | omega | (simp; done) | (simp; omega)) | refine Below.drew ?_ | refine below_drewN ?_ _)) (by first | omega | (simp; done) | (simp; omega) | (have hq_ := hb.size; omega)) hb
    have hx_ := rw_below (k := w.heap.size) hb (by with_reducible repeat (first | assumption | (refine rw_new ?e_; case e_ => first | rfl | (simp; done) | (simp; omega)) | apply rw_self | (apply rw_other; case hn => first | omega | (simp; omega)) | apply rw_alloc | apply rw_drew | apply rw_drewN))
    (try clear hp)
    have hp := hx_
    clear hx_
    have hx_ := rw_below (k := w.heap.size + 1) hb (by with_reducible repeat (first | assumption | (refine rw_new ?e_; case e_ => first | rfl | (simp; done) | (simp; omega)) | apply rw_self | (apply rw_other; case hn => first | omega | (simp; omega)) | apply rw_alloc | apply rw_drew | apply rw_drewN))
    (try clear hq)
    have hq := hx_
    clear hx_
    clear hb
    rw [Her.out]
    go_wp2_with (first | ((with_reducible refine rw_list ?_); (with_reducible apply wpList_append_eq); (case ho => with_reducible rfl); (case hgd => with_reducible rfl); (case hs => first | exact ev_const | exact ev_tmp rfl); (case hx => first | exact ev_const | exact ev_tmp rfl); (case hr => exact hap _)) | ((with_reducible refine rw_list ?_); (first | ((with_reducible apply wpList_load_cell); (case ho => with_reducible rfl); (case hgd => with_reducible rfl); (case hx => rfl); (case hu => first | exact Try.underlying22 | exact Try.underlying3 | exact Try.underlying55 | exact Try.underlying9 | exact Try.underlying4); (case hd => rfl)) | ((with_reducible apply wpList_load_row); (case ho => with_reducible rfl); (case hgd => with_reducible rfl); (case hx => rfl); (case hu => first | exact Try.underlying49 | exact Try.underlying83 | exact Try.underlying43); (case hd => rfl)) | ((with_reducible apply wpList_store_row); (case ho => with_reducible rfl); (case hgd => with_reducible rfl); (case hx => rfl); (case hy => rfl)) | ((with_reducible apply wpList_store_cell); (case ho => with_reducible rfl); (case hgd => with_reducible rfl); (case hx => rfl); (case hy => first | exact ev_const | exact ev_tmp rfl); (case h1 => rfl))); (case hg => exact (by with_reducible repeat (first | assumption | (refine rw_new ?e_; case e_ => first | rfl | (simp; done) | (simp; omega)) | apply rw_self | (apply rw_other; case hn => first | omega | (simp; omega)) | apply rw_alloc | apply rw_drew | apply rw_drewN))); (try case hv => first | exact stA_get _ _ | exact hcur0 | rfl); (try case hi => first | exact hR.i49 _ | exact hR.i83 _ | kernel_rfl); (try case hold => first | exact hR.z _ _ | exact hR.sz _ _ | rfl); (try case h1 => first | exact hR.all _ rfl | kernel_rfl); (try case hlt => first | exact stA_lt _ _ | rfl); (try case hcs => first | exact stA_set _ _ _ | ((try simp only [List.setIfInBounds_toArray, List.set_cons_succ, List.set_cons_zero]); rfl))))
    refine bodyPost_ret (v := _) (results_cell_tmp Try.results14 _ _ _ _ _ _ _ (by rfl) (by with_reducible repeat (first | assumption | (refine rw_new ?e_; case e_ => first | rfl | (simp; done) | (simp; omega)) | apply rw_self | (apply rw_other; case hn => first | omega | (simp; omega)) | apply rw_alloc | apply rw_drew | apply rw_drewN)) Try.underlying49 rfl (by exact hR.i49 _)) rfl ⟨⟨_, _, _, rfl, ?_⟩, (by with_reducible repeat (first | exact Below.refl _ _ | assumption | ((first | refine Below.alloc ?_ ?b_ _ | refine bw_set ?_ ?b_ | refine Below.setCell ?_ ?b_ _); case b_ => first | omega | (simp; done) | (simp; omega)) | refine Below.drew ?_ | refine below_drewN ?_ _))⟩
    exact (h.out w.heap.size).below (B := w.heap.size) (by with_reducible repeat (first | exact Below.refl _ _ | assumption | ((first | refine Below.alloc ?_ ?b_ _ | refine bw_set ?_ ?b_ | refine Below.setCell ?_ ?b_ _); case b_ => first | omega | (simp; done) | (simp; omega)) | refine Below.drew ?_ | refine below_drewN ?_ _)) (Nat.le_refl _)
end Go.Proofs.Ytiadenokcpnliaa.T3
