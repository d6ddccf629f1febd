/- chapter 12: states are alike: lists of objects. -/
import Derived.Test.YtiadenokcpnliaaStH
import Derived.WalkKit
import Derived.Lib.Hide
import Derived.Deep.QuietTactic
import Derived.BigQuiet
import Derived.Lib.QuietBelow
import Derived.Deep.RegionHeld3
import Derived.WalkLawsBesides
import Derived.WalkSpells
import Derived.Outline
import Derived.Deep.DeepFit
import Derived.Maps.AppendAt
import Derived.Deep.AppendLies
import Derived.Deep.CutRange
import Derived.OpenShut
namespace Go.Proofs.Ytiadenokcpnliaa.T3
set_option linter.unusedSimpArgs false
set_option linter.unusedVariables false
open Go.RowKit
attribute [local go_sem] Oper.semAt_some
set_option maxHeartbeats 4000000
set_option maxRecDepth 100000

def obV (q : Ob) : Value := .agg #[.int .i64 q.k, .bool q.e, .int .i64 q.n, .string q.s, .int .i64 q.r, .int .i64 q.o, .int .i64 q.l]
theorem Obs.load0 {A : Nat → Prop} {w w' : World} {b o : Nat} {L : List Ob} (h : Obs A w (some ⟨b, o, none⟩) L) (hH : Held w [] w') {i : Nat} {q : Ob} (hi : L[i]? = some q) : (loadVar 43 ⟨b, o + i * 7, none⟩).run Try.prog w' = .ok (.agg #[.int .i64 q.k, .bool q.e, .int .i64 q.n, .string q.s, .int .i64 q.r, .int .i64 q.o, .int .i64 q.l]) w' := by
  rcases h with h | ⟨b', o', hx, _, hlt, hc⟩
  · subst h; simp at hi
  · cases hx
    refine load_ob fun j u hj => ?_
    rw [← hc i _ (by simp [hi]) j u hj]
    simp [World.cell?, hH b hlt (by simp)]
theorem so_same {A B : Nat → Prop} {x y : Option Addr} {L : List Ob} (len c1 c2 : Nat) (hln : L.length = len) (hm : len ≤ 9223372036854775807) (w : World) (hx : Obs A w x L) (hy : Obs B w y L) :
    Calls Try.prog 42 #[.slice x len c1, .slice y len c2] w fun e w' => e = .returned (.bool true) ∧ Below w.heap.size w w' := by
  go_enter Try.func42, Try.ntmps42
  go_wp2_with fail
  go_loopw [5] (fun v wr => ∃ i : Nat, i ≤ len ∧ v = .int .i64 i ∧ Below w.heap.size w wr) (fun v _ => len - (intOf v).toNat)
  case atStart => exact ⟨0, Nat.zero_le _, rfl, (by with_reducible repeat (first | exact Below.refl _ _ | assumption | ((first | refine Below.alloc ?_ ?b_ _ | refine bw_set ?_ ?b_ | refine Below.setCell ?_ ?b_ _); case b_ => first | omega | (simp; done) | (simp; omega)) | refine Below.drew ?_ | refine below_drewN ?_ _))⟩
  case round =>
    obtain ⟨i, hi, rfl, hB⟩ := hrel
    have hsz := hB.size
    by_cases hlt : i < len
    · obtain ⟨q, hq⟩ : ∃ q, L[i]? = some q := ⟨_, List.getElem?_eq_getElem (by omega)⟩
      obtain ⟨b, off, rfl⟩ := hx.some_of (by omega)
      obtain ⟨b2, off2, rfl⟩ := hy.some_of (by omega)
      have hxr := hx.below hB (Nat.le_refl _)
      have hyr := hy.below hB (Nat.le_refl _)
      have hl0 : ∀ w', Held wr [] w' → (loadVar 43 ⟨b, off + i * 7, none⟩).run Try.prog w' = .ok (.agg #[.int .i64 q.k, .bool q.e, .int .i64 q.n, .string q.s, .int .i64 q.r, .int .i64 q.o, .int .i64 q.l]) w' := fun w' hH => hxr.load0 hH hq
      have hl1 : ∀ w', Held wr [] w' → (loadVar 43 ⟨b2, off2 + i * 7, none⟩).run Try.prog w' = .ok (.agg #[.int .i64 q.k, .bool q.e, .int .i64 q.n, .string q.s, .int .i64 q.r, .int .i64 q.o, .int .i64 q.l]) w' := fun w' hH => hyr.load0 hH hq
      have hSS : Held wr [] wr.drew := Held.refl _ _
      clear hxr hyr hq
      go_wp2_with fail
      refine wp_region_ord (.s 0 .p (.s 1 .p (.s 2 .p (.s 3 .l (.s 4 .p (.s 5 .p (.s 6 .p (.s 7 .l (.s 8 .p .done))))))))) (Held wr []) (by kernel_rfl) (by kernel_rfl) (fun _ _ _ _ _ h => h) hSS ?_
      (apply wpOrd_p2 rfl rfl rfl rfl rfl; (intro w' K hK; (first | go_big_move | go_big_op | go_wp2_with fail); exact hK))
      (apply wpOrd_p2 rfl rfl rfl rfl rfl; (intro w' K hK; (first | go_big_move | go_big_op | go_wp2_with fail); exact hK))
      (apply wpOrd_p2 rfl rfl rfl rfl rfl; (intro w' K hK; (first | go_big_move | go_big_op | go_wp2_with fail); exact hK))
      (apply wpOrd_l2 rfl rfl rfl rfl rfl; (intro w' K hS' hK; (first | (refine wp_load_run 43 _ rfl rfl (hl0 w' hS') ?_) | (refine wp_load_run 43 _ rfl rfl (hl1 w' hS') ?_)); exact hK); (first | exact hSS | assumption))
      (apply wpOrd_p2 rfl rfl rfl rfl rfl; (intro w' K hK; (first | go_big_move | go_big_op | go_wp2_with fail); exact hK))
      (apply wpOrd_p2 rfl rfl rfl rfl rfl; (intro w' K hK; (first | go_big_move | go_big_op | go_wp2_with fail); exact hK))
      (apply wpOrd_p2 rfl rfl rfl rfl rfl; (intro w' K hK; (first | go_big_move | go_big_op | go_wp2_with fail); exact hK))
      (apply wpOrd_l2 rfl rfl rfl rfl rfl; (intro w' K hS' hK; (first | (refine wp_load_run 43 _ rfl rfl (hl0 w' hS') ?_) | (refine wp_load_run 43 _ rfl rfl (hl1 w' hS') ?_)); exact hK); (first | exact hSS | assumption))
      (apply wpOrd_p2 rfl rfl rfl rfl rfl; (intro w' K hK; (first | go_big_move | go_big_op | go_wp2_with fail); exact hK))
      refine wpOrd_nil ?_
      skip
      go_wp2_with fail
      go_roundw
      case rel => exact ⟨i + 1, by omega, by go_num, (by with_reducible repeat (first | exact Below.refl _ _ | assumption | ((first | refine Below.alloc ?_ ?b_ _ | refine bw_set ?_ ?b_ | refine Below.setCell ?_ ?b_ _); case b_ => first | omega | (simp; done) | (simp; omega)) | refine Below.drew ?_ | refine below_drewN ?_ _))⟩
      case measure => simp [intOf]; omega
    · have hin : i = len := by omega
      subst hin
      go_wp2_with fail
      go_ret
      exact ⟨rfl, (by with_reducible repeat (first | exact Below.refl _ _ | assumption | ((first | refine Below.alloc ?_ ?b_ _ | refine bw_set ?_ ?b_ | refine Below.setCell ?_ ?b_ _); case b_ => first | omega | (simp; done) | (simp; omega)) | refine Below.drew ?_ | refine below_drewN ?_ _))⟩
end Go.Proofs.Ytiadenokcpnliaa.T3
