/- chapter 12: states are alike: heaps. -/
import Derived.Test.YtiadenokcpnliaaStN
import Derived.WalkKit
import Derived.Lib.Hide
import Derived.Deep.QuietTactic
import Derived.BigQuiet
import Derived.Lib.QuietBelow
import Derived.Deep.RegionHeld3
import Derived.WalkLawsBesides
import Derived.WalkSpells
import Derived.Outline
import Derived.Deep.DeepFit
import Derived.Maps.AppendAt
import Derived.Deep.AppendLies
import Derived.Deep.CutRange
import Derived.OpenShut
namespace Go.Proofs.Ytiadenokcpnliaa.T3
set_option linter.unusedSimpArgs false
set_option linter.unusedVariables false
open Go.RowKit
attribute [local go_sem] Oper.semAt_some
set_option maxHeartbeats 4000000
set_option maxRecDepth 100000

theorem load_es {T c : Nat} (hagg : ∀ w, (isAgg T).run Try.prog w = .ok true w) (hsz : ∀ w, (sizeOf T).run Try.prog w = .ok c w) {w : World} {b o : Nat} {es : List Value} (hl : es.length = c) (h : ∀ j u, es[j]? = some u → w.cell? ⟨b, o + j, none⟩ = some u) : (loadVar T ⟨b, o, none⟩).run Try.prog w = .ok (.agg es.toArray) w := by
  have hl2 := run_loadCells_list (P := Try.prog) w ⟨b, o, none⟩ es (fun j v hj => by
    have := h j v hj
    have e := add_add b o j 0
    rw [← show (⟨b, o + j, none⟩ : Addr) = (⟨b, o, none⟩ : Addr).add j by simp [Addr.add]]
    exact this)
  rw [hl] at hl2
  simp [loadVar, Sem.run_bind, hagg, hsz, hl2]
theorem els_load {T c : Nat} (hagg : ∀ w, (isAgg T).run Try.prog w = .ok true w) (hsz : ∀ w, (sizeOf T).run Try.prog w = .ok c w) {w w' : World} {b o : Nat} {L : List (List Value)} (h : Els w (some ⟨b, o, none⟩) c L) (hH : Held w [] w') {i : Nat} {es : List Value} (hi : L[i]? = some es) (hl : es.length = c) : (loadVar T ⟨b, o + i * c, none⟩).run Try.prog w' = .ok (.agg es.toArray) w' := by
  rcases h with h | ⟨b', o', hx, hlt, hc⟩
  · subst h; simp at hi
  · cases hx
    refine load_es hagg hsz hl fun j u hj => ?_
    rw [← hc i _ hi j u hj]
    simp [World.cell?, hH b hlt (by simp)]
theorem els_some {w : World} {x : Option Addr} {c : Nat} {L : List (List Value)} (h : Els w x c L) (hL : 0 < L.length) : ∃ b o, x = some ⟨b, o, none⟩ := by
  rcases h with h | ⟨b, o, hx, _⟩
  · subst h; simp at hL
  · exact ⟨b, o, hx⟩
theorem ag101 (w : World) : (isAgg 101).run Try.prog w = .ok true w := by kernel_rfl
theorem sz101 (w : World) : (sizeOf 101).run Try.prog w = .ok 7 w := by kernel_rfl
def HeapL (w : World) (x : Option Addr) (l : Nat) : Prop := ∃ L, Els w x 7 L ∧ L.length = l ∧ l ≤ 9223372036854775807 ∧ ∀ es ∈ L, CellOk w es
theorem HeapL.below {w w' : World} {B : Nat} {x : Option Addr} {l : Nat} (h : HeapL w x l) (hb : Below B w w') (hB : w.heap.size ≤ B) : HeapL w' x l := by
  obtain ⟨L, h1, h2, h3, h4⟩ := h
  exact ⟨L, h1.below hb hB, h2, h3, fun es hes => (h4 es hes).below hb hB⟩
theorem same_heap {x : Option Addr} {len : Nat} (cp1 cp2 : Nat) (w : World) (h : HeapL w x len) :
    Calls Try.prog 43 #[.slice x len cp1, .slice x len cp2] w fun e w' => e = .returned (.bool true) ∧ Below w.heap.size w w' := by
  obtain ⟨L, hE, hln, hm, hok⟩ := h
  go_enter Try.func43, Try.ntmps43
  go_wp2_with fail
  go_loopw [5] (fun v wr => ∃ i : Nat, i ≤ len ∧ v = .int .i64 i ∧ Below w.heap.size w wr) (fun v _ => len - (intOf v).toNat)
  case atStart => exact ⟨0, Nat.zero_le _, rfl, (by with_reducible repeat (first | exact Below.refl _ _ | assumption | ((first | refine Below.alloc ?_ ?b_ _ | refine bw_set ?_ ?b_ | refine Below.setCell ?_ ?b_ _); case b_ => first | omega | (simp; done) | (simp; omega)) | refine Below.drew ?_ | refine below_drewN ?_ _))⟩
  case round =>
    obtain ⟨i, hi, rfl, hB⟩ := hrel
    have hsz := hB.size
    by_cases hlt : i < len
    · obtain ⟨es, hes⟩ : ∃ es, L[i]? = some es := ⟨_, List.getElem?_eq_getElem (by omega)⟩
      obtain ⟨k, s, x1, l1, c1, x2, l2, c2, x3, l3, c3, m, a, rfl, h1, h2, h3⟩ := (hok es (List.mem_of_getElem? hes)).below hB (Nat.le_refl _)
      obtain ⟨b, off, rfl⟩ := els_some hE (by omega)
      have hEr := hE.below hB (Nat.le_refl _)
      have hl0 : ∀ w', Held wr [] w' → (loadVar 101 ⟨b, off + i * 7, none⟩).run Try.prog w' = .ok (.agg #[.int .i64 k, .string s, .slice x1 l1 c1, .slice x2 l2 c2, .slice x3 l3 c3, .int .i64 m, .int .i64 a]) w' := fun w' hH => els_load ag101 sz101 hEr hH hes rfl
      have hSS : Held wr [] wr.drew := Held.refl _ _
      clear hEr hes
      go_wp2_with fail
      refine wp_region_ord (.s 0 .p (.s 1 .p (.s 2 .p (.s 3 .l (.s 4 .p (.s 5 .p (.s 6 .p (.s 7 .l (.s 8 .e (.s 9 .p .done)))))))))) (Held wr []) (by kernel_rfl) (by kernel_rfl) (fun _ _ _ _ _ h => h) hSS ?_
      (apply wpOrd_p2 rfl rfl rfl rfl rfl; (intro w' K hK; (first | go_big_move | go_big_op | go_wp2_with fail); exact hK))
      (apply wpOrd_p2 rfl rfl rfl rfl rfl; (intro w' K hK; (first | go_big_move | go_big_op | go_wp2_with fail); exact hK))
      (apply wpOrd_p2 rfl rfl rfl rfl rfl; (intro w' K hK; (first | go_big_move | go_big_op | go_wp2_with fail); exact hK))
      (apply wpOrd_l2 rfl rfl rfl rfl rfl; (intro w' K hS' hK; (first | (refine wp_load_run 101 _ rfl rfl (hl0 w' hS') ?_)); exact hK); (first | exact hSS | assumption))
      (apply wpOrd_p2 rfl rfl rfl rfl rfl; (intro w' K hK; (first | go_big_move | go_big_op | go_wp2_with fail); exact hK))
      (apply wpOrd_p2 rfl rfl rfl rfl rfl; (intro w' K hK; (first | go_big_move | go_big_op | go_wp2_with fail); exact hK))
      (apply wpOrd_p2 rfl rfl rfl rfl rfl; (intro w' K hK; (first | go_big_move | go_big_op | go_wp2_with fail); exact hK))
      (apply wpOrd_l2 rfl rfl rfl rfl rfl; (intro w' K hS' hK; (first | (refine wp_load_run 101 _ rfl rfl (hl0 w' hS') ?_)); exact hK); (first | exact hSS | assumption))
      (refine wpOrd_e1 rfl rfl (fun K hK => ?_)); (first | go_big_op | go_wp2_with fail)
      refine (sc_same k s x1 l1 c1 x2 l2 c2 x3 l3 c3 m a _ (h1.below (B := wr.heap.size) (by with_reducible repeat (first | exact Below.refl _ _ | assumption | ((first | refine Below.alloc ?_ ?b_ _ | refine bw_set ?_ ?b_ | refine Below.setCell ?_ ?b_ _); case b_ => first | omega | (simp; done) | (simp; omega)) | refine Below.drew ?_ | refine below_drewN ?_ _)) (Nat.le_refl _)) (h2.below (B := wr.heap.size) (by with_reducible repeat (first | exact Below.refl _ _ | assumption | ((first | refine Below.alloc ?_ ?b_ _ | refine bw_set ?_ ?b_ | refine Below.setCell ?_ ?b_ _); case b_ => first | omega | (simp; done) | (simp; omega)) | refine Below.drew ?_ | refine below_drewN ?_ _)) (Nat.le_refl _)) (h3.below (B := wr.heap.size) (by with_reducible repeat (first | exact Below.refl _ _ | assumption | ((first | refine Below.alloc ?_ ?b_ _ | refine bw_set ?_ ?b_ | refine Below.setCell ?_ ?b_ _); case b_ => first | omega | (simp; done) | (simp; omega)) | refine Below.drew ?_ | refine below_drewN ?_ _)) (Nat.le_refl _))).mono ?_; rintro e w5 ⟨rfl, hb⟩; have hB_w5 : Below w.heap.size w w5 := below_then (w := w) (by with_reducible repeat (first | exact Below.refl _ _ | assumption | ((first | refine Below.alloc ?_ ?b_ _ | refine bw_set ?_ ?b_ | refine Below.setCell ?_ ?b_ _); case b_ => first | omega | (simp; done) | (simp; omega)) | refine Below.drew ?_ | refine below_drewN ?_ _)) (by first | omega | (simp; done) | (simp; omega)) hb; have hH5 : Held wr [] w5 := Held.then (by with_reducible repeat (first | exact Held.refl _ _ | assumption | refine Held.drew ?_ | (refine Held.alloc ?_ ?s_ _; case s_ => first | omega | (simp; done) | (simp; omega)) | (refine Held.setRow ?_ ?g_; case g_ => simp))) (by first | omega | (simp; done) | (simp; omega)) hb; refine hK _ _ hH5 ?_; clear hK K hb
      (apply wpOrd_p2 rfl rfl rfl rfl rfl; (intro w' K hK; (first | go_big_move | go_big_op | go_wp2_with fail); exact hK))
      refine wpOrd_nil ?_
      skip
      go_wp2_with fail
      go_roundw
      case rel => exact ⟨i + 1, by omega, by go_num, (by with_reducible repeat (first | exact Below.refl _ _ | assumption | ((first | refine Below.alloc ?_ ?b_ _ | refine bw_set ?_ ?b_ | refine Below.setCell ?_ ?b_ _); case b_ => first | omega | (simp; done) | (simp; omega)) | refine Below.drew ?_ | refine below_drewN ?_ _))⟩
      case measure => simp [intOf]; omega
    · have hin : i = len := by omega
      subst hin
      go_wp2_with fail
      go_ret
      exact ⟨rfl, (by with_reducible repeat (first | exact Below.refl _ _ | assumption | ((first | refine Below.alloc ?_ ?b_ _ | refine bw_set ?_ ?b_ | refine Below.setCell ?_ ?b_ _); case b_ => first | omega | (simp; done) | (simp; omega)) | refine Below.drew ?_ | refine below_drewN ?_ _))⟩
end Go.Proofs.Ytiadenokcpnliaa.T3
