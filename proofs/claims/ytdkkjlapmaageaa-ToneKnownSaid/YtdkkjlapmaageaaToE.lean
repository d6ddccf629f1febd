/- chapter 27: Spot with what is no kind or no size. -/
import Derived.Test.YtdkkjlapmaageaaToD
import Derived.Test.YtdkkjlapmaageaaToC
import Derived.Deep.CutRange
import Derived.WalkKit
import Derived.Lib.Hide
import Derived.Deep.QuietTactic
import Derived.BigQuiet
import Derived.Lib.QuietBelow
import Derived.Deep.RegionHeld3
import Derived.WalkLawsBesides
import Derived.WalkSpells
import Derived.Outline
import Derived.Deep.DeepFit
import Derived.Maps.AppendAt
import Derived.Deep.AppendLies
namespace Go.Proofs.Ytdkkjlapmaageaa.T3
set_option linter.unusedSimpArgs false
set_option linter.unusedVariables false
open Go.RowKit Go.Sort Go.Lib Go.Shelf
set_option maxHeartbeats 2000000
set_option maxRecDepth 100000
def es3 : Array MapEntry := #[ent 0 28 0, ent 1 29 1, ent 2 30 2]
theorem map_made (w : World) (o : Obj) : ∃ W1 W2 W3 : World, (Instr.mapUpdate 63 (.map (some (w.heap.size + 1))) (.int .i64 0) (.func (.func 28) #[] #[])).run Try.prog ((w.alloc o).alloc (.map #[] 0)) = .ok () W1 ∧ (Instr.mapUpdate 63 (.map (some (w.heap.size + 1))) (.int .i64 1) (.func (.func 29) #[] #[])).run Try.prog W1 = .ok () W2 ∧ (Instr.mapUpdate 63 (.map (some (w.heap.size + 1))) (.int .i64 2) (.func (.func 30) #[] #[])).run Try.prog W2 = .ok () W3 ∧
    Below w.heap.size w W3 ∧ W3.heap.size = w.heap.size + 2 ∧ W3.heap[w.heap.size]? = some o ∧ W3.heap[w.heap.size + 1]? = some (.map es3 3) := by
  have h0 : ((w.alloc o).alloc (.map #[] 0)).heap[w.heap.size + 1]? = some (.map #[] 0) := rw_new (by simp)
  have e0 := mup ((w.alloc o).alloc (.map #[] 0)) (w.heap.size + 1) 0 #[] 0 28 h0 rfl
  obtain ⟨W1, hW1⟩ : ∃ W1 : World, W1 = { ((w.alloc o).alloc (.map #[] 0)) with heap := ((w.alloc o).alloc (.map #[] 0)).heap.setIfInBounds (w.heap.size + 1) (.map (#[].push (ent 0 28 0)) (0 + 1)) } := ⟨_, rfl⟩
  rw [← hW1] at e0
  have h1 : W1.heap[w.heap.size + 1]? = some (.map #[ent 0 28 0] 1) := by rw [hW1]; simp
  have e1 := mup W1 (w.heap.size + 1) 1 #[ent 0 28 0] 1 29 h1 rfl
  obtain ⟨W2, hW2⟩ : ∃ W2 : World, W2 = { W1 with heap := W1.heap.setIfInBounds (w.heap.size + 1) (.map (#[ent 0 28 0].push (ent 1 29 1)) (1 + 1)) } := ⟨_, rfl⟩
  rw [← hW2] at e1
  have s1 : W1.heap.size = w.heap.size + 2 := by rw [hW1]; simp
  have h2 : W2.heap[w.heap.size + 1]? = some (.map #[ent 0 28 0, ent 1 29 1] 2) := by rw [hW2]; simp [s1]
  have e2 := mup W2 (w.heap.size + 1) 2 #[ent 0 28 0, ent 1 29 1] 2 30 h2 rfl
  have s2 : W2.heap.size = w.heap.size + 2 := by rw [hW2]; simp [s1]
  refine ⟨W1, W2, _, e0, e1, e2, ?_, by simp [s2], ?_, by simp [s2, es3]⟩
  · have o1 : W1.os = w.os ∧ W1.tape = w.tape ∧ W1.output = w.output := by rw [hW1]; exact ⟨rfl, rfl, rfl⟩
    have o2 : W2.os = w.os ∧ W2.tape = w.tape ∧ W2.output = w.output := by rw [hW2]; exact o1
    refine ⟨o2.1, o2.2.1, o2.2.2, by simp [s2], fun k hk => ?_⟩
    have hk1 : ¬ w.heap.size + 1 = k := by omega
    have a1 : ((w.alloc o).alloc (.map #[] 0)).heap[k]? = w.heap[k]? := (Below.heap_alloc _ _ _ (by simp; omega)).trans (Below.heap_alloc _ _ _ hk)
    have g1 : W1.heap[k]? = w.heap[k]? := by rw [hW1]; show (Array.setIfInBounds _ _ _)[k]? = _; rw [Array.getElem?_setIfInBounds, if_neg hk1]; exact a1
    have g2 : W2.heap[k]? = w.heap[k]? := by rw [hW2]; show (Array.setIfInBounds _ _ _)[k]? = _; rw [Array.getElem?_setIfInBounds, if_neg hk1]; exact g1
    show (Array.setIfInBounds _ _ _)[k]? = _
    rw [Array.getElem?_setIfInBounds, if_neg hk1]
    exact g2
  · have hk1 : ¬ w.heap.size + 1 = w.heap.size := by omega
    have a1 : ((w.alloc o).alloc (.map #[] 0)).heap[w.heap.size]? = some o := rw_alloc (rw_new rfl)
    have g1 : W1.heap[w.heap.size]? = some o := by rw [hW1]; show (Array.setIfInBounds _ _ _)[w.heap.size]? = _; rw [Array.getElem?_setIfInBounds, if_neg hk1]; exact a1
    have g2 : W2.heap[w.heap.size]? = some o := by rw [hW2]; show (Array.setIfInBounds _ _ _)[w.heap.size]? = _; rw [Array.getElem?_setIfInBounds, if_neg hk1]; exact g1
    show (Array.setIfInBounds _ _ _)[w.heap.size]? = _
    rw [Array.getElem?_setIfInBounds, if_neg hk1]
    exact g2
theorem kind_of (k : Int) (W : World) (b : Nat) (hb : W.heap[b]? = some (.map es3 3)) :
    (k = 0 ∧ (Instr.lookup 63 (.map (some b)) (.int .i64 k) true).run Try.prog W = .ok (.tuple #[.func (.func 28) #[] #[], .bool true]) W) ∨
    (k = 1 ∧ (Instr.lookup 63 (.map (some b)) (.int .i64 k) true).run Try.prog W = .ok (.tuple #[.func (.func 29) #[] #[], .bool true]) W) ∨
    (k = 2 ∧ (Instr.lookup 63 (.map (some b)) (.int .i64 k) true).run Try.prog W = .ok (.tuple #[.func (.func 30) #[] #[], .bool true]) W) ∨
    ((k < 0 ∨ 2 < k) ∧ (Instr.lookup 63 (.map (some b)) (.int .i64 k) true).run Try.prog W = .ok (.tuple #[.nilFunc, .bool false]) W) := by
  by_cases h0 : k = 0
  · subst h0; exact .inl ⟨rfl, mlk W b 3 es3 0 _ hb rfl rfl⟩
  · by_cases h1 : k = 1
    · subst h1; exact .inr (.inl ⟨rfl, mlk W b 3 es3 1 _ hb rfl rfl⟩)
    · by_cases h2 : k = 2
      · subst h2; exact .inr (.inr (.inl ⟨rfl, mlk W b 3 es3 2 _ hb rfl rfl⟩))
      · refine .inr (.inr (.inr ⟨by omega, mlk W b 3 es3 k none hb ?_ rfl⟩))
        have b0 : (k == 0) = false := by simpa using h0
        have b1 : (k == 1) = false := by simpa using h1
        have b2 : (k == 2) = false := by simpa using h2
        simp [es3, ent, Instr.findNow, Instr.sameNow, b0, b1, b2]
theorem store_row1 (w : World) (g : Nat) (v0 v : Value) (t : TypeId) (h1 : v.oneCell' = true) (hg : w.heap[g]? = some (.cells #[v0] t (0, 0))) : (store ⟨g, 0, none⟩ v).run Try.prog w = .ok () (w.setRow g #[v]) := by
  have hcell : w.cell? ⟨g, 0, none⟩ = some v0 := cel1 hg
  have hfro : w.frozen? ⟨g, 0, none⟩ = false := by simp [World.frozen?, hg]
  rw [run_store Try.prog w _ v _ h1, hcell]
  simp [hfro, setCell_eq_setRow w g 0 #[v0] t (0, 0) v hg]
theorem store_new (W : World) (b : Nat) (v0 v : Value) (t : TypeId) (h1 : v.oneCell' = true) (hb : b = W.heap.size) : (store ⟨b, 0, none⟩ v).run Try.prog (W.alloc (.cells #[v0] t)) = .ok () ((W.alloc (.cells #[v0] t)).setRow b #[v]) := by
  subst hb
  exact store_row1 _ _ v0 v t h1 (rw_new rfl)
theorem mspot_bad (k W H : Int) (w : World) (h : (k < 0 ∨ 2 < k) ∨ ¬ ((1 ≤ W ∧ W ≤ 16) ∧ 1 ≤ H ∧ H ≤ 16)) :
    Calls Try.prog 10 #[.int .i64 k, .int .i64 W, .int .i64 H] w fun e w' => e = .returned (.tuple #[.agg #[.int .i64 0, .int .i64 0, .string ⟨#[]⟩], .int .i64 2]) ∧ Below w.heap.size w w' := by
  have hmm := @run_makeMap Try.prog
  obtain ⟨W1, W2, W3, u0, u1, u2, hB3, hs3, hr3, hm3⟩ := map_made w (.cells #[.int .i64 0, .int .i64 0, .string ⟨#[]⟩] 26 (0, 0))
  have hmin := min2 W H
  have hmax := max2 W H
  have hk := kind_of k W3 (w.heap.size + 1) hm3
  clear hm3
  by_cases hkv : k < 0 ∨ 2 < k
  · have hlk : (Instr.lookup 63 (.map (some (w.heap.size + 1))) (.int .i64 k) true).run Try.prog W3 = .ok (.tuple #[.nilFunc, .bool false]) W3 := by
      rcases hk with ⟨h1, _⟩ | ⟨h1, _⟩ | ⟨h1, _⟩ | ⟨_, h2⟩
      · omega
      · omega
      · omega
      · exact h2
    clear hk
    have hst := store_new W3 (w.heap.size + 2) .nilFunc .nilFunc 58 rfl hs3.symm
    go_enter Try.func10, Try.ntmps10
    go_upto_region 2 with fail
    generalize hwy_ : World.setRow _ _ _ = wy
    have hB_wy : Below w.heap.size w wy := bw_eq hwy_ (by with_reducible repeat (first | exact Below.refl _ _ | assumption | ((first | refine Below.alloc ?_ ?b_ _ | refine bw_set ?_ ?b_ | refine Below.setCell ?_ ?b_ _); case b_ => first | omega | (simp; done) | (simp; omega)) | refine Below.drew ?_ | refine below_drewN ?_ _))
    have hx_ := rw_eq (k := w.heap.size) hwy_ (by with_reducible repeat (first | assumption | (refine rw_new ?e_; case e_ => first | rfl | (simp; done) | (simp; omega)) | apply rw_self | (apply rw_other; case hn => first | omega | (simp; omega)) | apply rw_alloc | apply rw_drew | apply rw_drewN))
    (try clear hr3)
    have hr3 := hx_
    clear hx_
    have hl_hr3 := rw_lt hr3
    clear hwy_
    go_upto_region 3 with fail
    go_wp2_with ((with_reducible refine rw_list ?_); (first | ((with_reducible apply wpList_load_cell); (case ho => with_reducible rfl); (case hgd => with_reducible rfl); (case hx => rfl); (case hu => first | exact Try.underlying26 | exact Try.underlying3); (case hd => rfl)) | ((with_reducible apply wpList_load_row); (case ho => with_reducible rfl); (case hgd => with_reducible rfl); (case hx => rfl); (case hu => first | exact Try.underlying26 | exact Try.underlying3); (case hd => rfl)) | ((with_reducible apply wpList_store_row); (case ho => with_reducible rfl); (case hgd => with_reducible rfl); (case hx => rfl); (case hy => rfl)) | ((with_reducible apply wpList_store_cell); (case ho => with_reducible rfl); (case hgd => with_reducible rfl); (case hx => rfl); (case hy => first | exact ev_const | exact ev_tmp rfl); (case h1 => rfl))); (case hg => exact (by with_reducible repeat (first | assumption | (refine rw_new ?e_; case e_ => first | rfl | (simp; done) | (simp; omega)) | apply rw_self | (apply rw_other; case hn => first | omega | (simp; omega)) | apply rw_alloc | apply rw_drew | apply rw_drewN))); (try case hv => rfl); (try case hi => kernel_rfl); (try case hold => rfl); (try case h1 => kernel_rfl); (try case hlt => rfl); (try case hcs => ((try simp only [List.setIfInBounds_toArray, List.set_cons_succ, List.set_cons_zero]); rfl)))
    exact bodyPost_ret (v := _) (results_cell_tmp Try.results10 _ _ _ _ _ _ _ (by rfl) (by with_reducible repeat (first | assumption | (refine rw_new ?e_; case e_ => first | rfl | (simp; done) | (simp; omega)) | apply rw_self | (apply rw_other; case hn => first | omega | (simp; omega)) | apply rw_alloc | apply rw_drew | apply rw_drewN)) Try.underlying26 rfl (by kernel_rfl)) rfl ⟨rfl, (by with_reducible repeat (first | exact Below.refl _ _ | assumption | ((first | refine Below.alloc ?_ ?b_ _ | refine bw_set ?_ ?b_ | refine Below.setCell ?_ ?b_ _); case b_ => first | omega | (simp; done) | (simp; omega)) | refine Below.drew ?_ | refine below_drewN ?_ _))⟩
  · have hwh : ¬ ((1 ≤ W ∧ W ≤ 16) ∧ 1 ≤ H ∧ H ≤ 16) := h.resolve_left hkv
    obtain ⟨g, hlk⟩ : ∃ g : Nat, (Instr.lookup 63 (.map (some (w.heap.size + 1))) (.int .i64 k) true).run Try.prog W3 = .ok (.tuple #[.func (.func g) #[] #[], .bool true]) W3 := by
      rcases hk with ⟨_, h2⟩ | ⟨_, h2⟩ | ⟨_, h2⟩ | ⟨h1, _⟩
      · exact ⟨_, h2⟩
      · exact ⟨_, h2⟩
      · exact ⟨_, h2⟩
      · exact absurd h1 hkv
    clear hk h
    obtain ⟨mn, hmn⟩ : ∃ mn, min W H = mn := ⟨_, rfl⟩
    obtain ⟨mx, hmx⟩ : ∃ mx, max W H = mx := ⟨_, rfl⟩
    rw [hmn] at hmin
    rw [hmx] at hmax
    have hst := store_new W3 (w.heap.size + 2) .nilFunc (.func (.func g) #[] #[]) 58 rfl hs3.symm
    by_cases h1 : mn < 1
    · go_enter Try.func10, Try.ntmps10
      go_upto_region 2 with fail
      generalize hwy_ : World.setRow _ _ _ = wy
      have hB_wy : Below w.heap.size w wy := bw_eq hwy_ (by with_reducible repeat (first | exact Below.refl _ _ | assumption | ((first | refine Below.alloc ?_ ?b_ _ | refine bw_set ?_ ?b_ | refine Below.setCell ?_ ?b_ _); case b_ => first | omega | (simp; done) | (simp; omega)) | refine Below.drew ?_ | refine below_drewN ?_ _))
      have hx_ := rw_eq (k := w.heap.size) hwy_ (by with_reducible repeat (first | assumption | (refine rw_new ?e_; case e_ => first | rfl | (simp; done) | (simp; omega)) | apply rw_self | (apply rw_other; case hn => first | omega | (simp; omega)) | apply rw_alloc | apply rw_drew | apply rw_drewN))
      (try clear hr3)
      have hr3 := hx_
      clear hx_
      have hl_hr3 := rw_lt hr3
      clear hwy_
      go_upto_region 3 with fail
      go_wp2_with ((with_reducible refine rw_list ?_); (first | ((with_reducible apply wpList_load_cell); (case ho => with_reducible rfl); (case hgd => with_reducible rfl); (case hx => rfl); (case hu => first | exact Try.underlying26 | exact Try.underlying3); (case hd => rfl)) | ((with_reducible apply wpList_load_row); (case ho => with_reducible rfl); (case hgd => with_reducible rfl); (case hx => rfl); (case hu => first | exact Try.underlying26 | exact Try.underlying3); (case hd => rfl)) | ((with_reducible apply wpList_store_row); (case ho => with_reducible rfl); (case hgd => with_reducible rfl); (case hx => rfl); (case hy => rfl)) | ((with_reducible apply wpList_store_cell); (case ho => with_reducible rfl); (case hgd => with_reducible rfl); (case hx => rfl); (case hy => first | exact ev_const | exact ev_tmp rfl); (case h1 => rfl))); (case hg => exact (by with_reducible repeat (first | assumption | (refine rw_new ?e_; case e_ => first | rfl | (simp; done) | (simp; omega)) | apply rw_self | (apply rw_other; case hn => first | omega | (simp; omega)) | apply rw_alloc | apply rw_drew | apply rw_drewN))); (try case hv => rfl); (try case hi => kernel_rfl); (try case hold => rfl); (try case h1 => kernel_rfl); (try case hlt => rfl); (try case hcs => ((try simp only [List.setIfInBounds_toArray, List.set_cons_succ, List.set_cons_zero]); rfl)))
      exact bodyPost_ret (v := _) (results_cell_tmp Try.results10 _ _ _ _ _ _ _ (by rfl) (by with_reducible repeat (first | assumption | (refine rw_new ?e_; case e_ => first | rfl | (simp; done) | (simp; omega)) | apply rw_self | (apply rw_other; case hn => first | omega | (simp; omega)) | apply rw_alloc | apply rw_drew | apply rw_drewN)) Try.underlying26 rfl (by kernel_rfl)) rfl ⟨rfl, (by with_reducible repeat (first | exact Below.refl _ _ | assumption | ((first | refine Below.alloc ?_ ?b_ _ | refine bw_set ?_ ?b_ | refine Below.setCell ?_ ?b_ _); case b_ => first | omega | (simp; done) | (simp; omega)) | refine Below.drew ?_ | refine below_drewN ?_ _))⟩
    · have h2 : 16 < mx := by omega
      go_enter Try.func10, Try.ntmps10
      go_upto_region 2 with fail
      generalize hwy_ : World.setRow _ _ _ = wy
      have hB_wy : Below w.heap.size w wy := bw_eq hwy_ (by with_reducible repeat (first | exact Below.refl _ _ | assumption | ((first | refine Below.alloc ?_ ?b_ _ | refine bw_set ?_ ?b_ | refine Below.setCell ?_ ?b_ _); case b_ => first | omega | (simp; done) | (simp; omega)) | refine Below.drew ?_ | refine below_drewN ?_ _))
      have hx_ := rw_eq (k := w.heap.size) hwy_ (by with_reducible repeat (first | assumption | (refine rw_new ?e_; case e_ => first | rfl | (simp; done) | (simp; omega)) | apply rw_self | (apply rw_other; case hn => first | omega | (simp; omega)) | apply rw_alloc | apply rw_drew | apply rw_drewN))
      (try clear hr3)
      have hr3 := hx_
      clear hx_
      have hl_hr3 := rw_lt hr3
      clear hwy_
      go_upto_region 3 with fail
      go_wp2_with ((with_reducible refine rw_list ?_); (first | ((with_reducible apply wpList_load_cell); (case ho => with_reducible rfl); (case hgd => with_reducible rfl); (case hx => rfl); (case hu => first | exact Try.underlying26 | exact Try.underlying3); (case hd => rfl)) | ((with_reducible apply wpList_load_row); (case ho => with_reducible rfl); (case hgd => with_reducible rfl); (case hx => rfl); (case hu => first | exact Try.underlying26 | exact Try.underlying3); (case hd => rfl)) | ((with_reducible apply wpList_store_row); (case ho => with_reducible rfl); (case hgd => with_reducible rfl); (case hx => rfl); (case hy => rfl)) | ((with_reducible apply wpList_store_cell); (case ho => with_reducible rfl); (case hgd => with_reducible rfl); (case hx => rfl); (case hy => first | exact ev_const | exact ev_tmp rfl); (case h1 => rfl))); (case hg => exact (by with_reducible repeat (first | assumption | (refine rw_new ?e_; case e_ => first | rfl | (simp; done) | (simp; omega)) | apply rw_self | (apply rw_other; case hn => first | omega | (simp; omega)) | apply rw_alloc | apply rw_drew | apply rw_drewN))); (try case hv => rfl); (try case hi => kernel_rfl); (try case hold => rfl); (try case h1 => kernel_rfl); (try case hlt => rfl); (try case hcs => ((try simp only [List.setIfInBounds_toArray, List.set_cons_succ, List.set_cons_zero]); rfl)))
      exact bodyPost_ret (v := _) (results_cell_tmp Try.results10 _ _ _ _ _ _ _ (by rfl) (by with_reducible repeat (first | assumption | (refine rw_new ?e_; case e_ => first | rfl | (simp; done) | (simp; omega)) | apply rw_self | (apply rw_other; case hn => first | omega | (simp; omega)) | apply rw_alloc | apply rw_drew | apply rw_drewN)) Try.underlying26 rfl (by kernel_rfl)) rfl ⟨rfl, (by with_reducible repeat (first | exact Below.refl _ _ | assumption | ((first | refine Below.alloc ?_ ?b_ _ | refine bw_set ?_ ?b_ | refine Below.setCell ?_ ?b_ _); case b_ => first | omega | (simp; done) | (simp; omega)) | refine Below.drew ?_ | refine below_drewN ?_ _))⟩
end Go.Proofs.Ytdkkjlapmaageaa.T3
