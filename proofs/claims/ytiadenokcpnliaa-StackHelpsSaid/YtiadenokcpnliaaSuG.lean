/- chapter 12: slices.Equal, the names. -/
import Derived.Test.YtiadenokcpnliaaSuF
import Derived.WalkKit
import Derived.Lib.Hide
import Derived.Deep.QuietTactic
import Derived.BigQuiet
import Derived.Lib.QuietBelow
import Derived.Deep.RegionHeld3
import Derived.WalkLawsBesides
import Derived.WalkSpells
import Derived.Outline
import Derived.Deep.DeepFit
import Derived.Maps.AppendAt
import Derived.Deep.AppendLies
import Derived.Deep.CutRange
import Derived.OpenShut
namespace Go.Proofs.Ytiadenokcpnliaa.T3
set_option linter.unusedSimpArgs false
set_option linter.unusedVariables false
open Go.RowKit
attribute [local go_sem] Oper.semAt_some
set_option maxHeartbeats 4000000
set_option maxRecDepth 100000

theorem eqo_any {A B : Nat → Prop} {x y : Option Addr} {L : List Ob} (len c1 c2 : Nat) (hln : L.length = len) (hm : len ≤ 9223372036854775807) (w : World) (hx : Obs A w x L) (hy : Obs B w y L) :
    Calls Try.prog 22 #[.slice x len c1, .slice y len c2] w fun e w' => e = .returned (.bool true) ∧ Below w.heap.size w w' := by
  go_enter Try.func22, Try.ntmps22
  go_upto_region 4 with fail
  go_loopw [13] (fun v wr => ∃ i : Nat, i ≤ len ∧ v = .int .i64 i ∧ Below w.heap.size w wr) (fun v _ => len - (intOf v).toNat)
  case atStart => exact ⟨0, Nat.zero_le _, rfl, (by with_reducible repeat (first | exact Below.refl _ _ | assumption | ((first | refine Below.alloc ?_ ?b_ _ | refine bw_set ?_ ?b_ | refine Below.setCell ?_ ?b_ _); case b_ => first | omega | (simp; done) | (simp; omega)) | refine Below.drew ?_ | refine below_drewN ?_ _))⟩
  case round =>
    obtain ⟨i, hi, rfl, hB⟩ := hrel
    have hsz := hB.size
    by_cases hlt : i < len
    · obtain ⟨q, hq⟩ : ∃ q, L[i]? = some q := ⟨_, List.getElem?_eq_getElem (by omega)⟩
      obtain ⟨b, off, rfl⟩ := hx.some_of (by omega)
      obtain ⟨b2, off2, rfl⟩ := hy.some_of (by omega)
      have hxr := hx.below hB (Nat.le_refl _)
      have hyr := hy.below hB (Nat.le_refl _)
      have hl0 : ∀ w', Held wr [] w' → (loadVar 43 ⟨b, off + i * 7, none⟩).run Try.prog w' = .ok (.agg #[.int .i64 q.k, .bool q.e, .int .i64 q.n, .string q.s, .int .i64 q.r, .int .i64 q.o, .int .i64 q.l]) w' := fun w' hH => hxr.load0 hH hq
      have hl1 : ∀ w', Held wr [] w' → (loadVar 43 ⟨b2, off2 + i * 7, none⟩).run Try.prog w' = .ok (.agg #[.int .i64 q.k, .bool q.e, .int .i64 q.n, .string q.s, .int .i64 q.r, .int .i64 q.o, .int .i64 q.l]) w' := fun w' hH => hyr.load0 hH hq
      have hSS : Held wr [] wr.drew := Held.refl _ _
      clear hxr hyr hq
      go_upto_region 6 with fail
      refine wp_region_ord (.s 0 .p (.s 1 .p (.s 2 .p (.s 3 .l (.s 4 .p (.s 5 .p (.s 6 .p (.s 7 .l (.s 8 .p .done))))))))) (Held wr []) (by kernel_rfl) (by kernel_rfl) (fun _ _ _ _ _ h => h) hSS ?_
      (apply wpOrd_p2 rfl rfl rfl rfl rfl; (intro w' K hK; (first | go_big_move | go_big_op | go_wp2_with fail); exact hK))
      (apply wpOrd_p2 rfl rfl rfl rfl rfl; (intro w' K hK; (first | go_big_move | go_big_op | go_wp2_with fail); exact hK))
      (apply wpOrd_p2 rfl rfl rfl rfl rfl; (intro w' K hK; (first | go_big_move | go_big_op | go_wp2_with fail); exact hK))
      (apply wpOrd_l2 rfl rfl rfl rfl rfl; (intro w' K hS' hK; (first | (refine wp_load_run 43 _ rfl rfl (hl0 w' hS') ?_) | (refine wp_load_run 43 _ rfl rfl (hl1 w' hS') ?_)); exact hK); (first | exact hSS | assumption))
      (apply wpOrd_p2 rfl rfl rfl rfl rfl; (intro w' K hK; (first | go_big_move | go_big_op | go_wp2_with fail); exact hK))
      (apply wpOrd_p2 rfl rfl rfl rfl rfl; (intro w' K hK; (first | go_big_move | go_big_op | go_wp2_with fail); exact hK))
      (apply wpOrd_p2 rfl rfl rfl rfl rfl; (intro w' K hK; (first | go_big_move | go_big_op | go_wp2_with fail); exact hK))
      (apply wpOrd_l2 rfl rfl rfl rfl rfl; (intro w' K hS' hK; (first | (refine wp_load_run 43 _ rfl rfl (hl0 w' hS') ?_) | (refine wp_load_run 43 _ rfl rfl (hl1 w' hS') ?_)); exact hK); (first | exact hSS | assumption))
      (apply wpOrd_p2 rfl rfl rfl rfl rfl; (intro w' K hK; (first | go_big_move | go_big_op | go_wp2_with fail); exact hK))
      refine wpOrd_nil ?_
      skip
      go_wp2_with fail
      go_roundw
      case rel => exact ⟨i + 1, by omega, by go_num, (by with_reducible repeat (first | exact Below.refl _ _ | assumption | ((first | refine Below.alloc ?_ ?b_ _ | refine bw_set ?_ ?b_ | refine Below.setCell ?_ ?b_ _); case b_ => first | omega | (simp; done) | (simp; omega)) | refine Below.drew ?_ | refine below_drewN ?_ _))⟩
      case measure => simp [intOf]; omega
    · have hin : i = len := by omega
      subst hin
      go_wp2_with fail
      go_ret
      exact ⟨rfl, (by with_reducible repeat (first | exact Below.refl _ _ | assumption | ((first | refine Below.alloc ?_ ?b_ _ | refine bw_set ?_ ?b_ | refine Below.setCell ?_ ?b_ _); case b_ => first | omega | (simp; done) | (simp; omega)) | refine Below.drew ?_ | refine below_drewN ?_ _))⟩
theorem load_str {w w' : World} {g i : Nat} {ops : List ByteArray} {q : ByteArray} (hg : w.heap[g]? = some (.cells (ops.map Value.string).toArray 9 (0, 0))) (hi : ops[i]? = some q) (hH : Held w [] w') : (loadVar 9 ⟨g, i, none⟩).run Try.prog w' = .ok (.string q) w' := by
  have hagg : (isAgg 9).run Try.prog w' = .ok false w' := by kernel_rfl
  have h : w'.cell? ⟨g, i, none⟩ = some (.string q) := (cell_of_row w' g i _ _ _ ((hH g (rw_lt hg) (by simp)).trans hg)).trans (by simp [hi])
  simp [loadVar, Sem.run_bind, hagg, load, Sem.run, h]
theorem eqs_any (ops : List ByteArray) (g1 g2 c1 c2 : Nat) (hl : ops.length ≤ 1000) (w : World) (h1 : w.heap[g1]? = some (.cells (ops.map Value.string).toArray 9 (0, 0))) (h2 : w.heap[g2]? = some (.cells (ops.map Value.string).toArray 9 (0, 0))) :
    Calls Try.prog 25 #[.slice (some ⟨g1, 0, none⟩) ops.length c1, .slice (some ⟨g2, 0, none⟩) ops.length c2] w fun e w' => e = .returned (.bool true) ∧ Below w.heap.size w w' := by
  go_enter Try.func25, Try.ntmps25
  go_upto_region 4 with fail
  go_loopw [13] (fun v wr => ∃ i : Nat, i ≤ ops.length ∧ v = .int .i64 i ∧ Below w.heap.size w wr) (fun v _ => ops.length - (intOf v).toNat)
  case atStart => exact ⟨0, Nat.zero_le _, rfl, (by with_reducible repeat (first | exact Below.refl _ _ | assumption | ((first | refine Below.alloc ?_ ?b_ _ | refine bw_set ?_ ?b_ | refine Below.setCell ?_ ?b_ _); case b_ => first | omega | (simp; done) | (simp; omega)) | refine Below.drew ?_ | refine below_drewN ?_ _))⟩
  case round =>
    obtain ⟨i, hi, rfl, hB⟩ := hrel
    have hsz := hB.size
    by_cases hlt : i < ops.length
    · obtain ⟨q, hq⟩ : ∃ q, ops[i]? = some q := ⟨_, List.getElem?_eq_getElem (by omega)⟩
      have k1 := rw_below hB h1
      have k2 := rw_below hB h2
      have hl0 : ∀ w', Held wr [] w' → (loadVar 9 ⟨g1, i, none⟩).run Try.prog w' = .ok (.string q) w' := fun w' hH => load_str k1 hq hH
      have hl1 : ∀ w', Held wr [] w' → (loadVar 9 ⟨g2, i, none⟩).run Try.prog w' = .ok (.string q) w' := fun w' hH => load_str k2 hq hH
      have hSS : Held wr [] wr.drew := Held.refl _ _
      clear k1 k2 hq
      go_upto_region 6 with fail
      refine wp_region_ord (.s 0 .p (.s 1 .p (.s 2 .p (.s 3 .l (.s 4 .p (.s 5 .p (.s 6 .p (.s 7 .l (.s 8 .p .done))))))))) (Held wr []) (by kernel_rfl) (by kernel_rfl) (fun _ _ _ _ _ h => h) hSS ?_
      (apply wpOrd_p2 rfl rfl rfl rfl rfl; (intro w' K hK; (first | go_big_move | go_big_op | go_wp2_with fail); exact hK))
      (apply wpOrd_p2 rfl rfl rfl rfl rfl; (intro w' K hK; (first | go_big_move | go_big_op | go_wp2_with fail); exact hK))
      (apply wpOrd_p2 rfl rfl rfl rfl rfl; (intro w' K hK; (first | go_big_move | go_big_op | go_wp2_with fail); exact hK))
      (apply wpOrd_l2 rfl rfl rfl rfl rfl; (intro w' K hS' hK; (first | (refine wp_load_run 9 _ rfl rfl (hl0 w' hS') ?_) | (refine wp_load_run 9 _ rfl rfl (hl1 w' hS') ?_)); exact hK); (first | exact hSS | assumption))
      (apply wpOrd_p2 rfl rfl rfl rfl rfl; (intro w' K hK; (first | go_big_move | go_big_op | go_wp2_with fail); exact hK))
      (apply wpOrd_p2 rfl rfl rfl rfl rfl; (intro w' K hK; (first | go_big_move | go_big_op | go_wp2_with fail); exact hK))
      (apply wpOrd_p2 rfl rfl rfl rfl rfl; (intro w' K hK; (first | go_big_move | go_big_op | go_wp2_with fail); exact hK))
      (apply wpOrd_l2 rfl rfl rfl rfl rfl; (intro w' K hS' hK; (first | (refine wp_load_run 9 _ rfl rfl (hl0 w' hS') ?_) | (refine wp_load_run 9 _ rfl rfl (hl1 w' hS') ?_)); exact hK); (first | exact hSS | assumption))
      (apply wpOrd_p2 rfl rfl rfl rfl rfl; (intro w' K hK; (first | go_big_move | go_big_op | go_wp2_with fail); exact hK))
      refine wpOrd_nil ?_
      skip
      go_wp2_with fail
      go_roundw
      case rel => exact ⟨i + 1, by omega, by go_num, (by with_reducible repeat (first | exact Below.refl _ _ | assumption | ((first | refine Below.alloc ?_ ?b_ _ | refine bw_set ?_ ?b_ | refine Below.setCell ?_ ?b_ _); case b_ => first | omega | (simp; done) | (simp; omega)) | refine Below.drew ?_ | refine below_drewN ?_ _))⟩
      case measure => simp [intOf]; omega
    · have hin : i = ops.length := by omega
      subst hin
      go_wp2_with fail
      go_ret
      exact ⟨rfl, (by with_reducible repeat (first | exact Below.refl _ _ | assumption | ((first | refine Below.alloc ?_ ?b_ _ | refine bw_set ?_ ?b_ | refine Below.setCell ?_ ?b_ _); case b_ => first | omega | (simp; done) | (simp; omega)) | refine Below.drew ?_ | refine below_drewN ?_ _))⟩
def names11 : List ByteArray := [⟨#[112, 111, 112]⟩, ⟨#[101, 120, 99, 104]⟩, ⟨#[100, 117, 112]⟩, ⟨#[99, 111, 112, 121]⟩, ⟨#[105, 110, 100, 101, 120]⟩, ⟨#[114, 111, 108, 108]⟩, ⟨#[99, 108, 101, 97, 114]⟩, ⟨#[99, 111, 117, 110, 116]⟩, ⟨#[109, 97, 114, 107]⟩, ⟨#[99, 108, 101, 97, 114, 116, 111, 109, 97, 114, 107]⟩, ⟨#[99, 111, 117, 110, 116, 116, 111, 109, 97, 114, 107]⟩]
theorem names_any (w : World) : Calls Try.prog 12 #[] w fun e w' => (e = .returned (.slice (some ⟨w.heap.size, 0, none⟩) 11 11) ∧ w'.heap[w.heap.size]? = some (.cells (names11.map Value.string).toArray 9 (0, 0))) ∧ Below w.heap.size w w' := by
  go_enter Try.func12, Try.ntmps12
  go_wp2_with fail
  go_ret
  exact ⟨⟨rfl, rw_new (by first | rfl | (simp; done))⟩, (by with_reducible repeat (first | exact Below.refl _ _ | assumption | ((first | refine Below.alloc ?_ ?b_ _ | refine bw_set ?_ ?b_ | refine Below.setCell ?_ ?b_ _); case b_ => first | omega | (simp; done) | (simp; omega)) | refine Below.drew ?_ | refine below_drewN ?_ _))⟩
theorem ops_any (w : World) : Calls Try.prog 26 #[] w fun e w' => (e = .returned (.slice (some ⟨w.heap.size, 0, none⟩) 11 11) ∧ w'.heap[w.heap.size]? = some (.cells (names11.map Value.string).toArray 9 (0, 0))) ∧ Below w.heap.size w w' := by
  go_enter Try.func26, Try.ntmps26
  go_wp2_with fail
  go_ret
  exact ⟨⟨rfl, rw_new (by first | rfl | (simp; done))⟩, (by with_reducible repeat (first | exact Below.refl _ _ | assumption | ((first | refine Below.alloc ?_ ?b_ _ | refine bw_set ?_ ?b_ | refine Below.setCell ?_ ?b_ _); case b_ => first | omega | (simp; done) | (simp; omega)) | refine Below.drew ?_ | refine below_drewN ?_ _))⟩
end Go.Proofs.Ytiadenokcpnliaa.T3
