/- ObjectOrders: the walk. -/
import Derived.Test.YticbjpficaaaiaaObjJ
import Derived.Test.YticbjpficaaaiaaObjH
import Derived.Test.YticbjpficaaaiaaObjZ
import Derived.OpenShut
import Derived.Test.YticbjpficaaaiaaGrow2
import Derived.WalkKit
import Derived.Lib.Hide
import Derived.Deep.QuietTactic
import Derived.BigQuiet
import Derived.Lib.QuietBelow
import Derived.Deep.RegionHeld3
import Derived.WalkLawsBesides
import Derived.WalkSpells
import Derived.Outline
import Derived.Deep.DeepFit
import Derived.Maps.AppendAt
import Derived.Deep.AppendLies
namespace Go.Proofs.Yticbjpficaaaiaa
set_option linter.unusedSimpArgs false
set_option linter.unusedVariables false
open Go.RowKit
theorem cel3 {w : World} {b t : Nat} {v0 v1 v2 : Value} (h : w.heap[b]? = some (.cells #[v0, v1, v2] t (0, 0))) : w.cell? ⟨b, 0, none⟩ = some v0 ∧ w.cell? ⟨b, 1, none⟩ = some v1 ∧ w.cell? ⟨b, 2, none⟩ = some v2 := by
  refine ⟨?_, ?_, ?_⟩ <;> simp [World.cell?, h]
end Go.Proofs.Yticbjpficaaaiaa
namespace Go.Proofs.Yticbjpficaaaiaa.T3
set_option linter.unusedSimpArgs false
set_option linter.unusedVariables false
open Go.RowKit
set_option maxRecDepth 100000
set_option maxHeartbeats 8000000
theorem orders_facts (K1 m1 K2 m2 K3 m3 : Int) (h1 : isNum K1) (h2 : isNum K2) : ∃ x y z : Int, cmpI (oVal K1 m1) (oVal K2 m2) = x ∧ cmpI (oVal K2 m2) (oVal K3 m3) = y ∧ cmpI (oVal K1 m1) (oVal K3 m3) = z ∧ ((keyK K1 m1 = keyK K2 m2 ∧ keyN K1 m1 = keyN K2 m2) ↔ x = 0) ∧
    ((x = 1 ∧ cmpI (oVal K2 m2) (oVal K1 m1) = -1) ∨ (x = 0 ∧ y = 1 ∧ cmpI (oVal K2 m2) (oVal K1 m1) = 0) ∨ (x = -1 ∧ y = 1 ∧ cmpI (oVal K2 m2) (oVal K1 m1) = 1) ∨ (x = 0 ∧ y ≤ 0 ∧ z = -1 ∧ cmpI (oVal K2 m2) (oVal K1 m1) = 0) ∨ (x = -1 ∧ y ≤ 0 ∧ z = -1 ∧ cmpI (oVal K2 m2) (oVal K1 m1) = 1) ∨ (x = 0 ∧ y = 0 ∧ z = 0 ∧ cmpI (oVal K2 m2) (oVal K1 m1) = 0)) := by
  have hk := key_eq (N := m1) (N' := m2) h1 h2
  rw [hk]
  generalize oVal K1 m1 = p
  generalize oVal K2 m2 = q
  generalize oVal K3 m3 = r
  refine ⟨_, _, _, rfl, rfl, rfl, ?_⟩
  unfold cmpI
  by_cases a : p < q <;> by_cases b : q < p <;> by_cases c : q < r <;> by_cases d : r < q <;> by_cases e : p < r <;> by_cases f : r < p <;> simp [a, b, c, d, e, f] <;> omega
theorem orders_nine {x y z b k1 v1 k2 v2 : Int} (hk : (k1 = k2 ∧ v1 = v2) ↔ x = 0) (h : (x = 1 ∧ b = -1) ∨ (x = 0 ∧ y = 1 ∧ b = 0) ∨ (x = -1 ∧ y = 1 ∧ b = 1) ∨ (x = 0 ∧ y ≤ 0 ∧ z = -1 ∧ b = 0) ∨ (x = -1 ∧ y ≤ 0 ∧ z = -1 ∧ b = 1) ∨ (x = 0 ∧ y = 0 ∧ z = 0 ∧ b = 0)) :
    (x = 1 ∧ b = -1 ∧ k1 = k2 ∧ (v1 == v2) = false) ∨ (x = 1 ∧ b = -1 ∧ (k1 == k2) = false) ∨ (x = 0 ∧ y = 1 ∧ b = 0 ∧ k1 = k2 ∧ v1 = v2) ∨ (x = -1 ∧ y = 1 ∧ b = 1 ∧ k1 = k2 ∧ (v1 == v2) = false) ∨ (x = -1 ∧ y = 1 ∧ b = 1 ∧ (k1 == k2) = false) ∨ (x = 0 ∧ y ≤ 0 ∧ z = -1 ∧ b = 0 ∧ k1 = k2 ∧ v1 = v2) ∨ (x = -1 ∧ y ≤ 0 ∧ z = -1 ∧ b = 1 ∧ k1 = k2 ∧ (v1 == v2) = false) ∨ (x = -1 ∧ y ≤ 0 ∧ z = -1 ∧ b = 1 ∧ (k1 == k2) = false) ∨ (x = 0 ∧ y = 0 ∧ z = 0 ∧ b = 0 ∧ k1 = k2 ∧ v1 = v2) := by
  by_cases e1 : k1 = k2 <;> by_cases e2 : v1 = v2 <;> simp [e1, e2] at hk ⊢ <;> omega
def NumV (v : Value) : Prop := ∃ K m : Int, Hid (okO K m 0 0 0 0) ∧ Hid (isNum K) ∧ v = .agg #[.int .i64 K, .bool false, .int .i64 m, .string ⟨#[]⟩, .int .i64 0, .int .i64 0, .int .i64 0]
theorem lnum_any (n : Int) (b : Bool) (w : World) : Calls Try.prog 26 #[.int .i64 n, .bool b] w fun e w' => (∃ v, NumV v ∧ e = .returned v) ∧ Below w.heap.size w w' := by
  cases b
  · refine (lnum_false n w).mono ?_
    rintro e w1 ⟨rfl, hb⟩
    have := tmod_bdm n 2147483648 (by omega)
    exact ⟨⟨_, ⟨3, _, Lib.hid (by simp [okO, okR, kLo, kHi, kSh, kLg, kRf]; omega), Lib.hid (.inl rfl), rfl⟩, rfl⟩, hb⟩
  · refine (lnum_true n w).mono ?_
    rintro e w1 ⟨rfl, hb⟩
    have := tmod_bdm n 2147483649 (by omega)
    exact ⟨⟨_, ⟨4, _, Lib.hid (by simp [okO, okR, kLo, kHi, kSh, kLg, kRf]; omega), Lib.hid (.inr rfl), rfl⟩, rfl⟩, hb⟩
theorem okey_num (k N : Int) (w : World) (h : okO k N 0 0 0 0) (hn : isNum k) :
    Calls Try.prog 24 #[.agg #[.int .i64 k, .bool false, .int .i64 N, .string ⟨#[]⟩, .int .i64 0, .int .i64 0, .int .i64 0]] w fun e w' => e = .returned (.tuple #[.agg #[.int .i64 (keyK k N), .bool false, .int .i64 (keyN k N), .string ⟨#[]⟩, .int .i64 0, .int .i64 0, .int .i64 0], .int .i64 0]) ∧ Below w.heap.size w w' := by
  have h0 : ¬ k = 0 := by rcases hn with rfl | rfl <;> decide
  have h6 : ¬ k = 6 := by rcases hn with rfl | rfl <;> decide
  by_cases c : k = 4 ∧ N.tmod 65536 = 0
  · rw [show keyK k N = 3 from if_pos c, show keyN k N = tInt k N from (if_pos c).trans (by rw [c.1]; rfl)]
    exact okey_int k false N ⟨#[]⟩ 0 0 0 w h c.1 c.2
  · rw [show keyK k N = k from if_neg c, show keyN k N = N from if_neg c]
    exact okey_self k false N ⟨#[]⟩ 0 0 0 w h h0 h6 (fun h1 h2 => c ⟨h1, h2⟩)
theorem orders_walk (n0 n1 n2 : Int) (r0 r1 r2 : Bool) (w : World) (s0 : (Lit.int .i64 n0).wf = true) (s1 : (Lit.int .i64 n1).wf = true) (s2 : (Lit.int .i64 n2).wf = true) :
    Calls Try.prog 6 #[.agg #[.int .i64 n0, .int .i64 n1, .int .i64 n2], .agg #[.bool r0, .bool r1, .bool r2]] w fun e w' => e = .returned (.bool true) ∧ Below w.heap.size w w' := by
  go_enter Try.func6, Try.ntmps6
  go_wp2_with ((with_reducible refine rw_list ?_); (first | ((with_reducible apply wpList_load_cell); (case ho => with_reducible rfl); (case hgd => with_reducible rfl); (case hx => rfl); (case hu => first | exact Try.underlying23 | exact Try.underlying61 | exact Try.underlying3 | exact Try.underlying4 | exact Try.underlying9 | exact Try.underlying25); (case hd => rfl)) | ((with_reducible apply wpList_load_row); (case ho => with_reducible rfl); (case hgd => with_reducible rfl); (case hx => rfl); (case hu => first | exact Try.underlying23 | exact Try.underlying61 | exact Try.underlying3 | exact Try.underlying4 | exact Try.underlying9 | exact Try.underlying25); (case hd => rfl)) | ((with_reducible apply wpList_store_row); (case ho => with_reducible rfl); (case hgd => with_reducible rfl); (case hx => rfl); (case hy => rfl)) | ((with_reducible apply wpList_store_cell); (case ho => with_reducible rfl); (case hgd => with_reducible rfl); (case hx => rfl); (case hy => first | exact ev_const | exact ev_tmp rfl); (case h1 => rfl))); (case hg => exact (by with_reducible repeat (first | assumption | (refine rw_new ?e_; case e_ => first | rfl | (simp; done) | (simp; omega)) | apply rw_self | (apply rw_other; case hn => first | omega | (simp; omega)) | apply rw_alloc | apply rw_drew | apply rw_drewN))); (try case hv => rfl); (try case hi => kernel_rfl); (try case hold => rfl); (try case h1 => kernel_rfl); (try case hlt => rfl); (try case hcs => ((try simp only [List.setIfInBounds_toArray, List.set_cons_succ, List.set_cons_zero]); rfl)))
  refine (wakes_any _).mono ?_
  rintro e w1 ⟨rfl, hb⟩
  have hs_w1 := hb.size
  (try simp at hs_w1)
  have hB_w1 : Below w.heap.size w w1 := below_then (w := w) (by with_reducible repeat (first | exact Below.refl _ _ | assumption | ((first | refine Below.alloc ?_ ?b_ _ | refine bw_set ?_ ?b_ | refine Below.setCell ?_ ?b_ _); case b_ => first | omega | (simp; done) | (simp; omega)) | refine Below.drew ?_ | refine below_drewN ?_ _)) (by first | omega | (simp; done) | (simp; omega) | (have hq_ := hb.size; omega)) hb
  have hx_ := rw_below (k := w.heap.size) hb (by with_reducible repeat (first | assumption | (refine rw_new ?e_; case e_ => first | rfl | (simp; done) | (simp; omega)) | apply rw_self | (apply rw_other; case hn => first | omega | (simp; omega)) | apply rw_alloc | apply rw_drew | apply rw_drewN))
  (try clear hn)
  (try clear hnc0 hnc1 hnc2)
  have hn := hx_
  clear hx_
  obtain ⟨hnc0, hnc1, hnc2⟩ := cel3 hn
  have hx_ := rw_below (k := w.heap.size + 1) hb (by with_reducible repeat (first | assumption | (refine rw_new ?e_; case e_ => first | rfl | (simp; done) | (simp; omega)) | apply rw_self | (apply rw_other; case hn => first | omega | (simp; omega)) | apply rw_alloc | apply rw_drew | apply rw_drewN))
  (try clear hr)
  (try clear hrc0 hrc1 hrc2)
  have hr := hx_
  clear hx_
  obtain ⟨hrc0, hrc1, hrc2⟩ := cel3 hr
  clear hb
  have hln := rw_lt hn
  have hlr := rw_lt hr
  go_wp2_with ((with_reducible refine rw_list ?_); (first | ((with_reducible apply wpList_load_cell); (case ho => with_reducible rfl); (case hgd => with_reducible rfl); (case hx => rfl); (case hu => first | exact Try.underlying23 | exact Try.underlying61 | exact Try.underlying3 | exact Try.underlying4 | exact Try.underlying9 | exact Try.underlying25); (case hd => rfl)) | ((with_reducible apply wpList_load_row); (case ho => with_reducible rfl); (case hgd => with_reducible rfl); (case hx => rfl); (case hu => first | exact Try.underlying23 | exact Try.underlying61 | exact Try.underlying3 | exact Try.underlying4 | exact Try.underlying9 | exact Try.underlying25); (case hd => rfl)) | ((with_reducible apply wpList_store_row); (case ho => with_reducible rfl); (case hgd => with_reducible rfl); (case hx => rfl); (case hy => rfl)) | ((with_reducible apply wpList_store_cell); (case ho => with_reducible rfl); (case hgd => with_reducible rfl); (case hx => rfl); (case hy => first | exact ev_const | exact ev_tmp rfl); (case h1 => rfl))); (case hg => exact (by with_reducible repeat (first | assumption | (refine rw_new ?e_; case e_ => first | rfl | (simp; done) | (simp; omega)) | apply rw_self | (apply rw_other; case hn => first | omega | (simp; omega)) | apply rw_alloc | apply rw_drew | apply rw_drewN))); (try case hv => rfl); (try case hi => kernel_rfl); (try case hold => rfl); (try case h1 => kernel_rfl); (try case hlt => rfl); (try case hcs => ((try simp only [List.setIfInBounds_toArray, List.set_cons_succ, List.set_cons_zero]); rfl)))
  refine wp_region_grow [(0, none), (1, none), (2, none), (3, none), (5, none), (6, none), (7, none), (8, none), (10, none), (11, none), (12, none), (13, none), (4, some (.val NumV)), (9, some (.val NumV)), (14, some (.val NumV)), (15, some (.blk (fun b => .pointer (some ⟨b, 0, none⟩)) (.cells #[.int .i64 0, .bool false, .int .i64 0, .string ⟨#[]⟩, .int .i64 0, .int .i64 0, .int .i64 0] 23))), (16, some (.blk (fun b => .pointer (some ⟨b, 0, none⟩)) (.cells #[.int .i64 0, .bool false, .int .i64 0, .string ⟨#[]⟩, .int .i64 0, .int .i64 0, .int .i64 0] 23))), (17, some (.blk (fun b => .pointer (some ⟨b, 0, none⟩)) (.cells #[.int .i64 0, .bool false, .int .i64 0, .string ⟨#[]⟩, .int .i64 0, .int .i64 0, .int .i64 0] 23)))] (.s 18 .e (.s 19 .e (.s 20 .e .done))) ?g1_ ?g2_ ?g3_ ?_
  case g1_ => kernel_rfl
  case g2_ => kernel_rfl
  case g3_ => exact fun _ _ _ _ _ h => h
  (apply wpG_p rfl rfl rfl rfl rfl; (intro w' K hK; (first | go_big_op | go_wp2_with fail); exact hK))
  (apply wpG_l rfl rfl rfl rfl rfl; (intro w' K hC hK; (have hr' := hC.old; simp at hr'); (first | go_big_op | go_wp2_with fail); exact hK); (case he => first | rfl | (simp [Act.put, *]; done)))
  (apply wpG_p rfl rfl rfl rfl rfl; (intro w' K hK; (first | go_big_op | go_wp2_with fail); exact hK))
  (apply wpG_l rfl rfl rfl rfl rfl; (intro w' K hC hK; (have hr' := hC.old; simp at hr'); (first | go_big_op | go_wp2_with fail); exact hK); (case he => first | rfl | (simp [Act.put, *]; done)))
  (apply wpG_p rfl rfl rfl rfl rfl; (intro w' K hK; (first | go_big_op | go_wp2_with fail); exact hK))
  (apply wpG_l rfl rfl rfl rfl rfl; (intro w' K hC hK; (have hr' := hC.old; simp at hr'); (first | go_big_op | go_wp2_with fail); exact hK); (case he => first | rfl | (simp [Act.put, *]; done)))
  (apply wpG_p rfl rfl rfl rfl rfl; (intro w' K hK; (first | go_big_op | go_wp2_with fail); exact hK))
  (apply wpG_l rfl rfl rfl rfl rfl; (intro w' K hC hK; (have hr' := hC.old; simp at hr'); (first | go_big_op | go_wp2_with fail); exact hK); (case he => first | rfl | (simp [Act.put, *]; done)))
  (apply wpG_p rfl rfl rfl rfl rfl; (intro w' K hK; (first | go_big_op | go_wp2_with fail); exact hK))
  (apply wpG_l rfl rfl rfl rfl rfl; (intro w' K hC hK; (have hr' := hC.old; simp at hr'); (first | go_big_op | go_wp2_with fail); exact hK); (case he => first | rfl | (simp [Act.put, *]; done)))
  (apply wpG_p rfl rfl rfl rfl rfl; (intro w' K hK; (first | go_big_op | go_wp2_with fail); exact hK))
  (apply wpG_l rfl rfl rfl rfl rfl; (intro w' K hC hK; (have hr' := hC.old; simp at hr'); (first | go_big_op | go_wp2_with fail); exact hK); (case he => first | rfl | (simp [Act.put, *]; done)))
  refine wpG_g2 (d := 26) rfl rfl rfl rfl (by first | exact ⟨_, 0, rfl⟩ | (exact ⟨_, 3, 0, Lib.hid (by decide), Lib.hid (by decide), rfl⟩)) (fun v => by simp only [Act.put, List.setIfInBounds_toArray, List.set_cons_succ, List.set_cons_zero]; rfl) (fun w' K hC hK => ?_) (fun v hv => ?_)
  · (have hr' := hC.old; simp at hr'; (first | go_big_op | go_wp2_with fail); (refine Calls.mono (lnum_any _ _ _) ?_; rintro e w2 ⟨⟨v, hv, rfl⟩, hb2⟩; exact hK _ _ hv hb2 trivial))
  obtain ⟨K1, m1, o1, i1, rfl⟩ := hv
  refine wpG_g2 (d := 31) rfl rfl rfl rfl (by first | exact ⟨_, 0, rfl⟩ | (exact ⟨_, 3, 0, Lib.hid (by decide), Lib.hid (by decide), rfl⟩)) (fun v => by simp only [Act.put, List.setIfInBounds_toArray, List.set_cons_succ, List.set_cons_zero]; rfl) (fun w' K hC hK => ?_) (fun v hv => ?_)
  · (have hr' := hC.old; simp at hr'; (first | go_big_op | go_wp2_with fail); (refine Calls.mono (lnum_any _ _ _) ?_; rintro e w2 ⟨⟨v, hv, rfl⟩, hb2⟩; exact hK _ _ hv hb2 trivial))
  obtain ⟨K2, m2, o2, i2, rfl⟩ := hv
  refine wpG_g2 (d := 36) rfl rfl rfl rfl (by first | exact ⟨_, 0, rfl⟩ | (exact ⟨_, 3, 0, Lib.hid (by decide), Lib.hid (by decide), rfl⟩)) (fun v => by simp only [Act.put, List.setIfInBounds_toArray, List.set_cons_succ, List.set_cons_zero]; rfl) (fun w' K hC hK => ?_) (fun v hv => ?_)
  · (have hr' := hC.old; simp at hr'; (first | go_big_op | go_wp2_with fail); (refine Calls.mono (lnum_any _ _ _) ?_; rintro e w2 ⟨⟨v, hv, rfl⟩, hb2⟩; exact hK _ _ hv hb2 trivial))
  obtain ⟨K3, m3, o3, i3, rfl⟩ := hv
  refine wpG_g2 (d := 5) rfl rfl rfl rfl (by first | exact ⟨_, 0, rfl⟩ | (fail)) (fun v => by simp only [Act.put, List.setIfInBounds_toArray, List.set_cons_succ, List.set_cons_zero]; rfl) (fun w' K hC hK => ?_) (fun v hv => ?_)
  · (have hr' := hC.old; simp at hr'; (first | go_big_op | go_wp2_with fail); (exact hK _ _ ⟨_, rfl⟩ (Below.alloc (Below.refl _ _) (Nat.le_refl _) _) ⟨_, rfl, Nat.le_refl _, by simp, heap_alloc_new _ _⟩))
  obtain ⟨b15, rfl⟩ := hv
  refine wpG_g2 (d := 6) rfl rfl rfl rfl (by first | exact ⟨_, 0, rfl⟩ | (fail)) (fun v => by simp only [Act.put, List.setIfInBounds_toArray, List.set_cons_succ, List.set_cons_zero]; rfl) (fun w' K hC hK => ?_) (fun v hv => ?_)
  · (have hr' := hC.old; simp at hr'; (first | go_big_op | go_wp2_with fail); (exact hK _ _ ⟨_, rfl⟩ (Below.alloc (Below.refl _ _) (Nat.le_refl _) _) ⟨_, rfl, Nat.le_refl _, by simp, heap_alloc_new _ _⟩))
  obtain ⟨b16, rfl⟩ := hv
  refine wpG_g2 (d := 7) rfl rfl rfl rfl (by first | exact ⟨_, 0, rfl⟩ | (fail)) (fun v => by simp only [Act.put, List.setIfInBounds_toArray, List.set_cons_succ, List.set_cons_zero]; rfl) (fun w' K hC hK => ?_) (fun v hv => ?_)
  · (have hr' := hC.old; simp at hr'; (first | go_big_op | go_wp2_with fail); (exact hK _ _ ⟨_, rfl⟩ (Below.alloc (Below.refl _ _) (Nat.le_refl _) _) ⟨_, rfl, Nat.le_refl _, by simp, heap_alloc_new _ _⟩))
  obtain ⟨b17, rfl⟩ := hv
  refine wpG_nil (fun w2 hB1 hG hD => ?_)
  obtain ⟨x1, y1, e1, e2, l1, l2, n1, g15, g16⟩ := hD _ (List.mem_of_find?_eq_some (p := fun p => p.1 == 15) rfl) _ (List.mem_of_find?_eq_some (p := fun p => p.1 == 16) rfl) (by simp) _ _ _ _ rfl rfl; cases e1; cases e2; obtain ⟨x1, y1, e1, e2, _, l3, n2, _, g17⟩ := hD _ (List.mem_of_find?_eq_some (p := fun p => p.1 == 15) rfl) _ (List.mem_of_find?_eq_some (p := fun p => p.1 == 17) rfl) (by simp) _ _ _ _ rfl rfl; cases e1; cases e2; obtain ⟨x1, y1, e1, e2, _, _, n3, _, _⟩ := hD _ (List.mem_of_find?_eq_some (p := fun p => p.1 == 16) rfl) _ (List.mem_of_find?_eq_some (p := fun p => p.1 == 17) rfl) (by simp) _ _ _ _ rfl rfl; cases e1; cases e2; clear hG hD
  (try clear hD)
  refine wpOrd_e1 rfl rfl (fun K hK => ?_)
  refine wp_store_row 23 _ _ rfl b15 _ rfl rfl _ _ g15 (by kernel_rfl) rfl (by kernel_rfl) ?_; refine hK _ _ trivial ?_; clear hK K
  refine wpOrd_e1 rfl rfl (fun K hK => ?_)
  refine wp_store_row 23 _ _ rfl b16 _ rfl rfl _ _ (rw_other n1.symm g16) (by kernel_rfl) rfl (by kernel_rfl) ?_; refine hK _ _ trivial ?_; clear hK K
  refine wpOrd_e1 rfl rfl (fun K hK => ?_)
  refine wp_store_row 23 _ _ rfl b17 _ rfl rfl _ _ (rw_other n3.symm (rw_other n2.symm g17)) (by kernel_rfl) rfl (by kernel_rfl) ?_; refine hK _ _ trivial ?_; clear hK K
  refine wpOrd_nil ?_
  skip
  have hB2 : Below w.heap.size w w2 := below_then (w := w) (by with_reducible repeat (first | exact Below.refl _ _ | assumption | ((first | refine Below.alloc ?_ ?b_ _ | refine bw_set ?_ ?b_ | refine Below.setCell ?_ ?b_ _); case b_ => first | omega | (simp; done) | (simp; omega)) | refine Below.drew ?_ | refine below_drewN ?_ _)) (by first | omega | (simp; done) | (simp; omega)) hB1
  have hs2 := hB1.size
  (try simp at hs2)
  (try simp at l1)
  (try simp at l2)
  (try simp at l3)
  clear hB1
  generalize hwy_ : World.setRow _ _ _ = wy
  have hB_wy : Below w.heap.size w wy := bw_eq hwy_ (by with_reducible repeat (first | exact Below.refl _ _ | assumption | ((first | refine Below.alloc ?_ ?b_ _ | refine bw_set ?_ ?b_ | refine Below.setCell ?_ ?b_ _); case b_ => first | omega | (simp; done) | (simp; omega)) | refine Below.drew ?_ | refine below_drewN ?_ _))
  have hx_ := rw_eq (k := b15) hwy_ (by with_reducible repeat (first | assumption | (refine rw_new ?e_; case e_ => first | rfl | (simp; done) | (simp; omega)) | apply rw_self | (apply rw_other; case hn => first | omega | (simp; omega)) | apply rw_alloc | apply rw_drew | apply rw_drewN))
  (try clear ha)
  have ha := hx_
  clear hx_
  have hl_ha := rw_lt ha
  have hx_ := rw_eq (k := b16) hwy_ (by with_reducible repeat (first | assumption | (refine rw_new ?e_; case e_ => first | rfl | (simp; done) | (simp; omega)) | apply rw_self | (apply rw_other; case hn => first | omega | (simp; omega)) | apply rw_alloc | apply rw_drew | apply rw_drewN))
  (try clear hb2)
  have hb2 := hx_
  clear hx_
  have hl_hb2 := rw_lt hb2
  have hx_ := rw_eq (k := b17) hwy_ (by with_reducible repeat (first | assumption | (refine rw_new ?e_; case e_ => first | rfl | (simp; done) | (simp; omega)) | apply rw_self | (apply rw_other; case hn => first | omega | (simp; omega)) | apply rw_alloc | apply rw_drew | apply rw_drewN))
  (try clear hc2)
  have hc2 := hx_
  clear hx_
  have hl_hc2 := rw_lt hc2
  clear hwy_
  have hsy := hB_wy.size
  clear g15 g16 g17 hn hr hnc0 hnc1 hnc2 hrc0 hrc1 hrc2 hln hlr hl_ha hl_hb2 hl_hc2
  obtain ⟨x, y, z, hx, hy, hz, hk, hcase⟩ := orders_facts K1 m1 K2 m2 K3 m3 i1.out i2.out
  obtain ⟨b0, hb0⟩ : ∃ b, cmpI (oVal K2 m2) (oVal K1 m1) = b := ⟨_, rfl⟩
  obtain ⟨k1, hv1⟩ : ∃ v, keyK K1 m1 = v := ⟨_, rfl⟩
  obtain ⟨v1, hw1⟩ : ∃ v, keyN K1 m1 = v := ⟨_, rfl⟩
  obtain ⟨k2, hv2⟩ : ∃ v, keyK K2 m2 = v := ⟨_, rfl⟩
  obtain ⟨v2, hw2⟩ : ∃ v, keyN K2 m2 = v := ⟨_, rfl⟩
  rw [hb0] at hcase
  rw [hv1, hw1, hv2, hw2] at hk
  have hcase := orders_nine hk hcase
  clear hk
  have hx := Lib.hid hx
  have hy := Lib.hid hy
  have hz := Lib.hid hz
  have hb0 := Lib.hid hb0
  have hv1 := Lib.hid hv1
  have hv2 := Lib.hid hv2
  have hw1 := Lib.hid hw1
  have hw2 := Lib.hid hw2
  rcases hcase with ⟨rfl, rfl, rfl, t1⟩ | ⟨rfl, rfl, t1⟩ | ⟨rfl, rfl, rfl, rfl, rfl⟩ | ⟨rfl, rfl, rfl, rfl, t1⟩ | ⟨rfl, rfl, rfl, t1⟩ | ⟨rfl, hyl, rfl, rfl, rfl, rfl⟩ | ⟨rfl, hyl, rfl, rfl, rfl, t1⟩ | ⟨rfl, hyl, rfl, rfl, t1⟩ | ⟨rfl, rfl, rfl, rfl, rfl, rfl⟩
  all_goals go_wp2_with ((with_reducible refine rw_list ?_); (first | ((with_reducible apply wpList_load_cell); (case ho => with_reducible rfl); (case hgd => with_reducible rfl); (case hx => rfl); (case hu => first | exact Try.underlying23 | exact Try.underlying61 | exact Try.underlying3 | exact Try.underlying4 | exact Try.underlying9 | exact Try.underlying25); (case hd => rfl)) | ((with_reducible apply wpList_load_row); (case ho => with_reducible rfl); (case hgd => with_reducible rfl); (case hx => rfl); (case hu => first | exact Try.underlying23 | exact Try.underlying61 | exact Try.underlying3 | exact Try.underlying4 | exact Try.underlying9 | exact Try.underlying25); (case hd => rfl)) | ((with_reducible apply wpList_store_row); (case ho => with_reducible rfl); (case hgd => with_reducible rfl); (case hx => rfl); (case hy => rfl)) | ((with_reducible apply wpList_store_cell); (case ho => with_reducible rfl); (case hgd => with_reducible rfl); (case hx => rfl); (case hy => first | exact ev_const | exact ev_tmp rfl); (case h1 => rfl))); (case hg => exact (by with_reducible repeat (first | assumption | (refine rw_new ?e_; case e_ => first | rfl | (simp; done) | (simp; omega)) | apply rw_self | (apply rw_other; case hn => first | omega | (simp; omega)) | apply rw_alloc | apply rw_drew | apply rw_drewN))); (try case hv => rfl); (try case hi => kernel_rfl); (try case hold => rfl); (try case h1 => kernel_rfl); (try case hlt => rfl); (try case hcs => ((try simp only [List.setIfInBounds_toArray, List.set_cons_succ, List.set_cons_zero]); rfl)))
  all_goals refine (ocmp_ok K1 false m1 ⟨#[]⟩ 0 0 0 K2 false m2 ⟨#[]⟩ 0 0 0 _ o1.out o2.out i1.out i2.out).mono ?_
  all_goals rintro e w3 ⟨rfl, hb⟩
  all_goals have hs_w3 := hb.size
  all_goals (try simp at hs_w3)
  all_goals have hB_w3 : Below w.heap.size w w3 := below_then (w := w) (by with_reducible repeat (first | exact Below.refl _ _ | assumption | ((first | refine Below.alloc ?_ ?b_ _ | refine bw_set ?_ ?b_ | refine Below.setCell ?_ ?b_ _); case b_ => first | omega | (simp; done) | (simp; omega)) | refine Below.drew ?_ | refine below_drewN ?_ _)) (by first | omega | (simp; done) | (simp; omega) | (have hq_ := hb.size; omega)) hb
  all_goals have hx_ := rw_below (k := b15) hb (by with_reducible repeat (first | assumption | (refine rw_new ?e_; case e_ => first | rfl | (simp; done) | (simp; omega)) | apply rw_self | (apply rw_other; case hn => first | omega | (simp; omega)) | apply rw_alloc | apply rw_drew | apply rw_drewN))
  all_goals (try clear ha)
  all_goals have ha := hx_
  all_goals clear hx_
  all_goals have hx_ := rw_below (k := b16) hb (by with_reducible repeat (first | assumption | (refine rw_new ?e_; case e_ => first | rfl | (simp; done) | (simp; omega)) | apply rw_self | (apply rw_other; case hn => first | omega | (simp; omega)) | apply rw_alloc | apply rw_drew | apply rw_drewN))
  all_goals (try clear hb2)
  all_goals have hb2 := hx_
  all_goals clear hx_
  all_goals have hx_ := rw_below (k := b17) hb (by with_reducible repeat (first | assumption | (refine rw_new ?e_; case e_ => first | rfl | (simp; done) | (simp; omega)) | apply rw_self | (apply rw_other; case hn => first | omega | (simp; omega)) | apply rw_alloc | apply rw_drew | apply rw_drewN))
  all_goals (try clear hc2)
  all_goals have hc2 := hx_
  all_goals clear hx_
  all_goals clear hb
  all_goals rw [hx.out]
  all_goals go_wp2_with ((with_reducible refine rw_list ?_); (first | ((with_reducible apply wpList_load_cell); (case ho => with_reducible rfl); (case hgd => with_reducible rfl); (case hx => rfl); (case hu => first | exact Try.underlying23 | exact Try.underlying61 | exact Try.underlying3 | exact Try.underlying4 | exact Try.underlying9 | exact Try.underlying25); (case hd => rfl)) | ((with_reducible apply wpList_load_row); (case ho => with_reducible rfl); (case hgd => with_reducible rfl); (case hx => rfl); (case hu => first | exact Try.underlying23 | exact Try.underlying61 | exact Try.underlying3 | exact Try.underlying4 | exact Try.underlying9 | exact Try.underlying25); (case hd => rfl)) | ((with_reducible apply wpList_store_row); (case ho => with_reducible rfl); (case hgd => with_reducible rfl); (case hx => rfl); (case hy => rfl)) | ((with_reducible apply wpList_store_cell); (case ho => with_reducible rfl); (case hgd => with_reducible rfl); (case hx => rfl); (case hy => first | exact ev_const | exact ev_tmp rfl); (case h1 => rfl))); (case hg => exact (by with_reducible repeat (first | assumption | (refine rw_new ?e_; case e_ => first | rfl | (simp; done) | (simp; omega)) | apply rw_self | (apply rw_other; case hn => first | omega | (simp; omega)) | apply rw_alloc | apply rw_drew | apply rw_drewN))); (try case hv => rfl); (try case hi => kernel_rfl); (try case hold => rfl); (try case h1 => kernel_rfl); (try case hlt => rfl); (try case hcs => ((try simp only [List.setIfInBounds_toArray, List.set_cons_succ, List.set_cons_zero]); rfl)))
  all_goals refine (ocmp_ok K2 false m2 ⟨#[]⟩ 0 0 0 K3 false m3 ⟨#[]⟩ 0 0 0 _ o2.out o3.out i2.out i3.out).mono ?_
  all_goals rintro e w4 ⟨rfl, hb⟩
  all_goals have hs_w4 := hb.size
  all_goals (try simp at hs_w4)
  all_goals have hB_w4 : Below w.heap.size w w4 := below_then (w := w) (by with_reducible repeat (first | exact Below.refl _ _ | assumption | ((first | refine Below.alloc ?_ ?b_ _ | refine bw_set ?_ ?b_ | refine Below.setCell ?_ ?b_ _); case b_ => first | omega | (simp; done) | (simp; omega)) | refine Below.drew ?_ | refine below_drewN ?_ _)) (by first | omega | (simp; done) | (simp; omega) | (have hq_ := hb.size; omega)) hb
  all_goals have hx_ := rw_below (k := b15) hb (by with_reducible repeat (first | assumption | (refine rw_new ?e_; case e_ => first | rfl | (simp; done) | (simp; omega)) | apply rw_self | (apply rw_other; case hn => first | omega | (simp; omega)) | apply rw_alloc | apply rw_drew | apply rw_drewN))
  all_goals (try clear ha)
  all_goals have ha := hx_
  all_goals clear hx_
  all_goals have hx_ := rw_below (k := b16) hb (by with_reducible repeat (first | assumption | (refine rw_new ?e_; case e_ => first | rfl | (simp; done) | (simp; omega)) | apply rw_self | (apply rw_other; case hn => first | omega | (simp; omega)) | apply rw_alloc | apply rw_drew | apply rw_drewN))
  all_goals (try clear hb2)
  all_goals have hb2 := hx_
  all_goals clear hx_
  all_goals have hx_ := rw_below (k := b17) hb (by with_reducible repeat (first | assumption | (refine rw_new ?e_; case e_ => first | rfl | (simp; done) | (simp; omega)) | apply rw_self | (apply rw_other; case hn => first | omega | (simp; omega)) | apply rw_alloc | apply rw_drew | apply rw_drewN))
  all_goals (try clear hc2)
  all_goals have hc2 := hx_
  all_goals clear hx_
  all_goals clear hb
  all_goals rw [hy.out]
  all_goals go_wp2_with ((with_reducible refine rw_list ?_); (first | ((with_reducible apply wpList_load_cell); (case ho => with_reducible rfl); (case hgd => with_reducible rfl); (case hx => rfl); (case hu => first | exact Try.underlying23 | exact Try.underlying61 | exact Try.underlying3 | exact Try.underlying4 | exact Try.underlying9 | exact Try.underlying25); (case hd => rfl)) | ((with_reducible apply wpList_load_row); (case ho => with_reducible rfl); (case hgd => with_reducible rfl); (case hx => rfl); (case hu => first | exact Try.underlying23 | exact Try.underlying61 | exact Try.underlying3 | exact Try.underlying4 | exact Try.underlying9 | exact Try.underlying25); (case hd => rfl)) | ((with_reducible apply wpList_store_row); (case ho => with_reducible rfl); (case hgd => with_reducible rfl); (case hx => rfl); (case hy => rfl)) | ((with_reducible apply wpList_store_cell); (case ho => with_reducible rfl); (case hgd => with_reducible rfl); (case hx => rfl); (case hy => first | exact ev_const | exact ev_tmp rfl); (case h1 => rfl))); (case hg => exact (by with_reducible repeat (first | assumption | (refine rw_new ?e_; case e_ => first | rfl | (simp; done) | (simp; omega)) | apply rw_self | (apply rw_other; case hn => first | omega | (simp; omega)) | apply rw_alloc | apply rw_drew | apply rw_drewN))); (try case hv => rfl); (try case hi => kernel_rfl); (try case hold => rfl); (try case h1 => kernel_rfl); (try case hlt => rfl); (try case hcs => ((try simp only [List.setIfInBounds_toArray, List.set_cons_succ, List.set_cons_zero]); rfl)))
  all_goals refine (ocmp_ok K1 false m1 ⟨#[]⟩ 0 0 0 K3 false m3 ⟨#[]⟩ 0 0 0 _ o1.out o3.out i1.out i3.out).mono ?_
  all_goals rintro e w5 ⟨rfl, hb⟩
  all_goals have hs_w5 := hb.size
  all_goals (try simp at hs_w5)
  all_goals have hB_w5 : Below w.heap.size w w5 := below_then (w := w) (by with_reducible repeat (first | exact Below.refl _ _ | assumption | ((first | refine Below.alloc ?_ ?b_ _ | refine bw_set ?_ ?b_ | refine Below.setCell ?_ ?b_ _); case b_ => first | omega | (simp; done) | (simp; omega)) | refine Below.drew ?_ | refine below_drewN ?_ _)) (by first | omega | (simp; done) | (simp; omega) | (have hq_ := hb.size; omega)) hb
  all_goals have hx_ := rw_below (k := b15) hb (by with_reducible repeat (first | assumption | (refine rw_new ?e_; case e_ => first | rfl | (simp; done) | (simp; omega)) | apply rw_self | (apply rw_other; case hn => first | omega | (simp; omega)) | apply rw_alloc | apply rw_drew | apply rw_drewN))
  all_goals (try clear ha)
  all_goals have ha := hx_
  all_goals clear hx_
  all_goals have hx_ := rw_below (k := b16) hb (by with_reducible repeat (first | assumption | (refine rw_new ?e_; case e_ => first | rfl | (simp; done) | (simp; omega)) | apply rw_self | (apply rw_other; case hn => first | omega | (simp; omega)) | apply rw_alloc | apply rw_drew | apply rw_drewN))
  all_goals (try clear hb2)
  all_goals have hb2 := hx_
  all_goals clear hx_
  all_goals have hx_ := rw_below (k := b17) hb (by with_reducible repeat (first | assumption | (refine rw_new ?e_; case e_ => first | rfl | (simp; done) | (simp; omega)) | apply rw_self | (apply rw_other; case hn => first | omega | (simp; omega)) | apply rw_alloc | apply rw_drew | apply rw_drewN))
  all_goals (try clear hc2)
  all_goals have hc2 := hx_
  all_goals clear hx_
  all_goals clear hb
  all_goals rw [hz.out]
  all_goals go_wp2_with ((with_reducible refine rw_list ?_); (first | ((with_reducible apply wpList_load_cell); (case ho => with_reducible rfl); (case hgd => with_reducible rfl); (case hx => rfl); (case hu => first | exact Try.underlying23 | exact Try.underlying61 | exact Try.underlying3 | exact Try.underlying4 | exact Try.underlying9 | exact Try.underlying25); (case hd => rfl)) | ((with_reducible apply wpList_load_row); (case ho => with_reducible rfl); (case hgd => with_reducible rfl); (case hx => rfl); (case hu => first | exact Try.underlying23 | exact Try.underlying61 | exact Try.underlying3 | exact Try.underlying4 | exact Try.underlying9 | exact Try.underlying25); (case hd => rfl)) | ((with_reducible apply wpList_store_row); (case ho => with_reducible rfl); (case hgd => with_reducible rfl); (case hx => rfl); (case hy => rfl)) | ((with_reducible apply wpList_store_cell); (case ho => with_reducible rfl); (case hgd => with_reducible rfl); (case hx => rfl); (case hy => first | exact ev_const | exact ev_tmp rfl); (case h1 => rfl))); (case hg => exact (by with_reducible repeat (first | assumption | (refine rw_new ?e_; case e_ => first | rfl | (simp; done) | (simp; omega)) | apply rw_self | (apply rw_other; case hn => first | omega | (simp; omega)) | apply rw_alloc | apply rw_drew | apply rw_drewN))); (try case hv => rfl); (try case hi => kernel_rfl); (try case hold => rfl); (try case h1 => kernel_rfl); (try case hlt => rfl); (try case hcs => ((try simp only [List.setIfInBounds_toArray, List.set_cons_succ, List.set_cons_zero]); rfl)))
  all_goals refine (ocmp_ok K2 false m2 ⟨#[]⟩ 0 0 0 K1 false m1 ⟨#[]⟩ 0 0 0 _ o2.out o1.out i2.out i1.out).mono ?_
  all_goals rintro e w6 ⟨rfl, hb⟩
  all_goals have hs_w6 := hb.size
  all_goals (try simp at hs_w6)
  all_goals have hB_w6 : Below w.heap.size w w6 := below_then (w := w) (by with_reducible repeat (first | exact Below.refl _ _ | assumption | ((first | refine Below.alloc ?_ ?b_ _ | refine bw_set ?_ ?b_ | refine Below.setCell ?_ ?b_ _); case b_ => first | omega | (simp; done) | (simp; omega)) | refine Below.drew ?_ | refine below_drewN ?_ _)) (by first | omega | (simp; done) | (simp; omega) | (have hq_ := hb.size; omega)) hb
  all_goals have hx_ := rw_below (k := b15) hb (by with_reducible repeat (first | assumption | (refine rw_new ?e_; case e_ => first | rfl | (simp; done) | (simp; omega)) | apply rw_self | (apply rw_other; case hn => first | omega | (simp; omega)) | apply rw_alloc | apply rw_drew | apply rw_drewN))
  all_goals (try clear ha)
  all_goals have ha := hx_
  all_goals clear hx_
  all_goals have hx_ := rw_below (k := b16) hb (by with_reducible repeat (first | assumption | (refine rw_new ?e_; case e_ => first | rfl | (simp; done) | (simp; omega)) | apply rw_self | (apply rw_other; case hn => first | omega | (simp; omega)) | apply rw_alloc | apply rw_drew | apply rw_drewN))
  all_goals (try clear hb2)
  all_goals have hb2 := hx_
  all_goals clear hx_
  all_goals have hx_ := rw_below (k := b17) hb (by with_reducible repeat (first | assumption | (refine rw_new ?e_; case e_ => first | rfl | (simp; done) | (simp; omega)) | apply rw_self | (apply rw_other; case hn => first | omega | (simp; omega)) | apply rw_alloc | apply rw_drew | apply rw_drewN))
  all_goals (try clear hc2)
  all_goals have hc2 := hx_
  all_goals clear hx_
  all_goals clear hb
  all_goals rw [hb0.out]
  all_goals go_wp2_with ((with_reducible refine rw_list ?_); (first | ((with_reducible apply wpList_load_cell); (case ho => with_reducible rfl); (case hgd => with_reducible rfl); (case hx => rfl); (case hu => first | exact Try.underlying23 | exact Try.underlying61 | exact Try.underlying3 | exact Try.underlying4 | exact Try.underlying9 | exact Try.underlying25); (case hd => rfl)) | ((with_reducible apply wpList_load_row); (case ho => with_reducible rfl); (case hgd => with_reducible rfl); (case hx => rfl); (case hu => first | exact Try.underlying23 | exact Try.underlying61 | exact Try.underlying3 | exact Try.underlying4 | exact Try.underlying9 | exact Try.underlying25); (case hd => rfl)) | ((with_reducible apply wpList_store_row); (case ho => with_reducible rfl); (case hgd => with_reducible rfl); (case hx => rfl); (case hy => rfl)) | ((with_reducible apply wpList_store_cell); (case ho => with_reducible rfl); (case hgd => with_reducible rfl); (case hx => rfl); (case hy => first | exact ev_const | exact ev_tmp rfl); (case h1 => rfl))); (case hg => exact (by with_reducible repeat (first | assumption | (refine rw_new ?e_; case e_ => first | rfl | (simp; done) | (simp; omega)) | apply rw_self | (apply rw_other; case hn => first | omega | (simp; omega)) | apply rw_alloc | apply rw_drew | apply rw_drewN))); (try case hv => rfl); (try case hi => kernel_rfl); (try case hold => rfl); (try case h1 => kernel_rfl); (try case hlt => rfl); (try case hcs => ((try simp only [List.setIfInBounds_toArray, List.set_cons_succ, List.set_cons_zero]); rfl)))
  all_goals refine (okey_num K1 m1 _ o1.out i1.out).mono ?_
  all_goals rintro e w7 ⟨rfl, hb⟩
  all_goals have hs_w7 := hb.size
  all_goals (try simp at hs_w7)
  all_goals have hB_w7 : Below w.heap.size w w7 := below_then (w := w) (by with_reducible repeat (first | exact Below.refl _ _ | assumption | ((first | refine Below.alloc ?_ ?b_ _ | refine bw_set ?_ ?b_ | refine Below.setCell ?_ ?b_ _); case b_ => first | omega | (simp; done) | (simp; omega)) | refine Below.drew ?_ | refine below_drewN ?_ _)) (by first | omega | (simp; done) | (simp; omega) | (have hq_ := hb.size; omega)) hb
  all_goals have hx_ := rw_below (k := b16) hb (by with_reducible repeat (first | assumption | (refine rw_new ?e_; case e_ => first | rfl | (simp; done) | (simp; omega)) | apply rw_self | (apply rw_other; case hn => first | omega | (simp; omega)) | apply rw_alloc | apply rw_drew | apply rw_drewN))
  all_goals (try clear hb2)
  all_goals have hb2 := hx_
  all_goals clear hx_
  all_goals clear hb
  all_goals have hlb := rw_lt hb2
  all_goals rw [hv1.out, hw1.out]
  all_goals go_wp2_with ((with_reducible refine rw_list ?_); (first | ((with_reducible apply wpList_load_cell); (case ho => with_reducible rfl); (case hgd => with_reducible rfl); (case hx => rfl); (case hu => first | exact Try.underlying23 | exact Try.underlying61 | exact Try.underlying3 | exact Try.underlying4 | exact Try.underlying9 | exact Try.underlying25); (case hd => rfl)) | ((with_reducible apply wpList_load_row); (case ho => with_reducible rfl); (case hgd => with_reducible rfl); (case hx => rfl); (case hu => first | exact Try.underlying23 | exact Try.underlying61 | exact Try.underlying3 | exact Try.underlying4 | exact Try.underlying9 | exact Try.underlying25); (case hd => rfl)) | ((with_reducible apply wpList_store_row); (case ho => with_reducible rfl); (case hgd => with_reducible rfl); (case hx => rfl); (case hy => rfl)) | ((with_reducible apply wpList_store_cell); (case ho => with_reducible rfl); (case hgd => with_reducible rfl); (case hx => rfl); (case hy => first | exact ev_const | exact ev_tmp rfl); (case h1 => rfl))); (case hg => exact (by with_reducible repeat (first | assumption | (refine rw_new ?e_; case e_ => first | rfl | (simp; done) | (simp; omega)) | apply rw_self | (apply rw_other; case hn => first | omega | (simp; omega)) | apply rw_alloc | apply rw_drew | apply rw_drewN))); (try case hv => rfl); (try case hi => kernel_rfl); (try case hold => rfl); (try case h1 => kernel_rfl); (try case hlt => rfl); (try case hcs => ((try simp only [List.setIfInBounds_toArray, List.set_cons_succ, List.set_cons_zero]); rfl)))
  all_goals refine (okey_num K2 m2 _ o2.out i2.out).mono ?_
  all_goals rintro e w8 ⟨rfl, hb⟩
  all_goals have hs_w8 := hb.size
  all_goals (try simp at hs_w8)
  all_goals have hB_w8 : Below w.heap.size w w8 := below_then (w := w) (by with_reducible repeat (first | exact Below.refl _ _ | assumption | ((first | refine Below.alloc ?_ ?b_ _ | refine bw_set ?_ ?b_ | refine Below.setCell ?_ ?b_ _); case b_ => first | omega | (simp; done) | (simp; omega)) | refine Below.drew ?_ | refine below_drewN ?_ _)) (by first | omega | (simp; done) | (simp; omega) | (have hq_ := hb.size; omega)) hb
  all_goals have hx_ := rw_below (k := w7.heap.size) hb (by with_reducible repeat (first | assumption | (refine rw_new ?e_; case e_ => first | rfl | (simp; done) | (simp; omega)) | apply rw_self | (apply rw_other; case hn => first | omega | (simp; omega)) | apply rw_alloc | apply rw_drew | apply rw_drewN))
  all_goals (try clear hka)
  all_goals (try clear hkac0 hkac1 hkac2 hkac3 hkac4 hkac5 hkac6)
  all_goals have hka := hx_
  all_goals clear hx_
  all_goals obtain ⟨hkac0, hkac1, hkac2, hkac3, hkac4, hkac5, hkac6⟩ := cel7 hka
  all_goals clear hb
  all_goals rw [hv2.out, hw2.out]
  all_goals have hlk := rw_lt hka
  all_goals have hcs := fun (x : Obj) (cs : Array Value) (b o : Nat) (h : b < w8.heap.size) => cell_as w8 x cs b o h
  all_goals have hcn := fun (old : Array Value) (t : TypeId) (cs : Array Value) (o : Nat) => cell_as_new w8 old t cs o
  all_goals go_upto_region 10 with ((with_reducible refine rw_list ?_); (first | ((with_reducible apply wpList_load_cell); (case ho => with_reducible rfl); (case hgd => with_reducible rfl); (case hx => rfl); (case hu => first | exact Try.underlying23 | exact Try.underlying61 | exact Try.underlying3 | exact Try.underlying4 | exact Try.underlying9 | exact Try.underlying25); (case hd => rfl)) | ((with_reducible apply wpList_load_row); (case ho => with_reducible rfl); (case hgd => with_reducible rfl); (case hx => rfl); (case hu => first | exact Try.underlying23 | exact Try.underlying61 | exact Try.underlying3 | exact Try.underlying4 | exact Try.underlying9 | exact Try.underlying25); (case hd => rfl)) | ((with_reducible apply wpList_store_row); (case ho => with_reducible rfl); (case hgd => with_reducible rfl); (case hx => rfl); (case hy => rfl)) | ((with_reducible apply wpList_store_cell); (case ho => with_reducible rfl); (case hgd => with_reducible rfl); (case hx => rfl); (case hy => first | exact ev_const | exact ev_tmp rfl); (case h1 => rfl))); (case hg => exact (by with_reducible repeat (first | assumption | (refine rw_new ?e_; case e_ => first | rfl | (simp; done) | (simp; omega)) | apply rw_self | (apply rw_other; case hn => first | omega | (simp; omega)) | apply rw_alloc | apply rw_drew | apply rw_drewN))); (try case hv => rfl); (try case hi => kernel_rfl); (try case hold => rfl); (try case h1 => kernel_rfl); (try case hlt => rfl); (try case hcs => ((try simp only [List.setIfInBounds_toArray, List.set_cons_succ, List.set_cons_zero]); rfl)))
  all_goals go_wp2_with fail
  all_goals go_ret
  all_goals exact ⟨rfl, (by with_reducible repeat (first | exact Below.refl _ _ | assumption | ((first | refine Below.alloc ?_ ?b_ _ | refine bw_set ?_ ?b_ | refine Below.setCell ?_ ?b_ _); case b_ => first | omega | (simp; done) | (simp; omega)) | refine Below.drew ?_ | refine below_drewN ?_ _))⟩
end Go.Proofs.Yticbjpficaaaiaa.T3
