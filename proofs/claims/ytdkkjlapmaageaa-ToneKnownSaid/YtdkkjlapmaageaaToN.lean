/- chapter 27: inks: which are valid; of octets. -/
import Derived.Test.YtdkkjlapmaageaaToL
import Derived.WalkKit
import Derived.Lib.Hide
import Derived.Deep.QuietTactic
import Derived.BigQuiet
import Derived.Lib.QuietBelow
import Derived.Deep.RegionHeld3
import Derived.WalkLawsBesides
import Derived.WalkSpells
import Derived.Outline
import Derived.Deep.DeepFit
import Derived.Maps.AppendAt
import Derived.Deep.AppendLies

namespace Go.Proofs.Ytdkkjlapmaageaa.T3
set_option linter.unusedSimpArgs false
set_option linter.unusedVariables false
open Go.RowKit Go.Sort Go.Lib Go.Shelf
set_option maxHeartbeats 1000000
set_option maxRecDepth 100000

def nth (a b c d : Int) : Nat → Int
  | 0 => a
  | 1 => b
  | 2 => c
  | _ => d
def okI (a b c d : Int) : Prop := ∀ j, j < 4 → 0 ≤ nth a b c d j ∧ nth a b c d j ≤ 255
instance (a b c d : Int) : Decidable (okI a b c d) := by unfold okI; infer_instance
def okIE (a b c d : Int) : Int := if okI a b c d then 0 else 360
theorem okI_no {a b c d : Int} (h : ¬ okI a b c d) : okIE a b c d = 360 := by unfold okIE; rw [if_neg h]
theorem okI_yes {a b c d : Int} (h : okI a b c d) : okIE a b c d = 0 := by unfold okIE; rw [if_pos h]
theorem four (j : Nat) (h : j < 4) : j = 0 ∨ j = 1 ∨ j = 2 ∨ j = 3 := by omega
theorem ink_at (a b c d : Int) (j : Nat) (hj : j < 4) (w : World) : Sem.run Try.prog (Instr.index 39 (.agg #[.int .i64 a, .int .i64 b, .int .i64 c, .int .i64 d]) (.int .i64 j)) w = .ok (.int .i64 (nth a b c d j)) w := by
  rcases four j hj with rfl | rfl | rfl | rfl <;> rfl
theorem ink_cell {w : World} {g t : Nat} {a b c d : Int} (h : w.heap[g]? = some (.cells #[.int .i64 a, .int .i64 b, .int .i64 c, .int .i64 d] t (0, 0))) (j : Nat) (hj : j < 4) : w.cell? ⟨g, j, none⟩ = some (.int .i64 (nth a b c d j)) := by
  obtain ⟨h0, h1, h2, h3⟩ := cel4 h
  rcases four j hj with rfl | rfl | rfl | rfl
  · exact h0
  · exact h1
  · exact h2
  · exact h3
theorem ccheck_any (a b c d : Int) (w : World) :
    Calls Try.prog 40 #[.agg #[.int .i64 a, .int .i64 b, .int .i64 c, .int .i64 d]] w fun e w' => e = .returned (.int .i64 (okIE a b c d)) ∧ RowKit.Below w.heap.size w w' := by
  go_enter Try.func40, Try.ntmps40
  go_wp2_with fail
  go_loopw [2, 4, 6] (fun v2 _ v6 wr => ∃ i : Nat, i ≤ 4 ∧ v2 = .int .i64 0 ∧ v6 = .int .i64 i ∧ (∀ j, j < i → 0 ≤ nth a b c d j ∧ nth a b c d j ≤ 255) ∧ RowKit.Below w.heap.size w wr) (fun _ _ v _ => 4 - (intOf v).toNat)
  case atStart => exact ⟨0, Nat.zero_le _, rfl, rfl, fun j hj => absurd hj (by omega), Below.alloc (Below.refl _ _) (Nat.le_refl _) _⟩
  case round =>
    obtain ⟨i, hi, rfl, rfl, hall, hb⟩ := hrel
    by_cases g6 : i < 4
    · have hat := ink_at a b c d i g6
      have hno : ¬ (0 ≤ nth a b c d i ∧ nth a b c d i ≤ 255) → okIE a b c d = 360 := fun h => okI_no fun k => h (k i g6)
      have hst : 0 ≤ nth a b c d i ∧ nth a b c d i ≤ 255 → ∀ j, j < i + 1 → 0 ≤ nth a b c d j ∧ nth a b c d j ≤ 255 := fun h j hj => by
        rcases Nat.lt_or_eq_of_le (Nat.le_of_lt_succ hj) with h1 | rfl
        · exact hall j h1
        · exact h
      have Hst := Lib.hid hst
      clear hst
      obtain ⟨q, hq⟩ : ∃ q, nth a b c d i = q := ⟨_, rfl⟩
      rw [hq] at hat hno
      by_cases g0 : q < 0
      · have e1 := Lib.hid (hno (by omega))
        clear hno hq
        go_wp2_with fail
        go_ret
        exact ⟨ret_int e1.out.symm, (by repeat (first | with_reducible exact Below.refl _ _ | with_reducible assumption | ((with_reducible refine Below.alloc ?_ ?hb_ _); (case hb_ => first | omega | (simp; done) | (simp; omega))) | ((with_reducible refine Below.setCell ?_ ?hb_ _); (case hb_ => first | omega | (simp; done) | (simp; omega))) | with_reducible refine Below.drew ?_ | with_reducible refine below_drewN ?_ _))⟩
      · by_cases g1 : 255 < q
        · have e1 := Lib.hid (hno (by omega))
          clear hno hq
          go_wp2_with fail
          go_ret
          exact ⟨ret_int e1.out.symm, (by repeat (first | with_reducible exact Below.refl _ _ | with_reducible assumption | ((with_reducible refine Below.alloc ?_ ?hb_ _); (case hb_ => first | omega | (simp; done) | (simp; omega))) | ((with_reducible refine Below.setCell ?_ ?hb_ _); (case hb_ => first | omega | (simp; done) | (simp; omega))) | with_reducible refine Below.drew ?_ | with_reducible refine below_drewN ?_ _))⟩
        · have e2 := Lib.hid (Hst.out (by omega))
          clear hno hq
          go_wp2_with fail
          go_roundw
          case rel => exact ⟨i + 1, by omega, rfl, by go_num, e2.out, hb⟩
          case measure => simp [intOf]; omega
    · have hii : i = 4 := by omega
      subst hii
      have e2 := Lib.hid (okI_yes hall)
      go_wp2_with fail
      go_ret
      exact ⟨ret_int e2.out.symm, (by repeat (first | with_reducible exact Below.refl _ _ | with_reducible assumption | ((with_reducible refine Below.alloc ?_ ?hb_ _); (case hb_ => first | omega | (simp; done) | (simp; omega))) | ((with_reducible refine Below.setCell ?_ ?hb_ _); (case hb_ => first | omega | (simp; done) | (simp; omega))) | with_reducible refine Below.drew ?_ | with_reducible refine below_drewN ?_ _))⟩
theorem rinkok_any (a b c d : Int) (w : World) :
    Calls Try.prog 41 #[.agg #[.int .i64 a, .int .i64 b, .int .i64 c, .int .i64 d]] w fun e w' => e = .returned (.bool (decide (okI a b c d))) ∧ RowKit.Below w.heap.size w w' := by
  go_enter Try.func41, Try.ntmps41
  go_wp2_with fail
  go_loopw [2, 3] (fun v2 v6 wr => ∃ i : Nat, i ≤ 4 ∧ v2 = .bool false ∧ v6 = .int .i64 i ∧ (∀ j, j < i → 0 ≤ nth a b c d j ∧ nth a b c d j ≤ 255) ∧ wr.heap[w.heap.size]? = some (.cells #[.int .i64 a, .int .i64 b, .int .i64 c, .int .i64 d] 39 (0, 0)) ∧ RowKit.Below w.heap.size w wr) (fun _ v _ => 4 - (intOf v).toNat)
  case atStart => exact ⟨0, Nat.zero_le _, rfl, rfl, fun j hj => absurd hj (by omega), rw_new rfl, Below.alloc (Below.refl _ _) (Nat.le_refl _) _⟩
  case round =>
    obtain ⟨i, hi, rfl, rfl, hall, hp, hb⟩ := hrel
    by_cases g6 : i < 4
    · have hat := ink_cell hp i g6
      have hl := rw_lt hp
      have hno : ¬ (0 ≤ nth a b c d i ∧ nth a b c d i ≤ 255) → decide (okI a b c d) = false := fun h => decide_eq_false fun k => h (k i g6)
      have hst : 0 ≤ nth a b c d i ∧ nth a b c d i ≤ 255 → ∀ j, j < i + 1 → 0 ≤ nth a b c d j ∧ nth a b c d j ≤ 255 := fun h j hj => by
        rcases Nat.lt_or_eq_of_le (Nat.le_of_lt_succ hj) with h1 | rfl
        · exact hall j h1
        · exact h
      have Hst := Lib.hid hst
      clear hst
      obtain ⟨q, hq⟩ : ∃ q, nth a b c d i = q := ⟨_, rfl⟩
      rw [hq] at hat hno
      by_cases g0 : q < 0
      · have e1 := Lib.hid (hno (by omega))
        clear hno hq
        go_wp2_with fail
        go_ret
        exact ⟨ret_bool e1.out.symm, (by repeat (first | with_reducible exact Below.refl _ _ | with_reducible assumption | ((with_reducible refine Below.alloc ?_ ?hb_ _); (case hb_ => first | omega | (simp; done) | (simp; omega))) | ((with_reducible refine Below.setCell ?_ ?hb_ _); (case hb_ => first | omega | (simp; done) | (simp; omega))) | with_reducible refine Below.drew ?_ | with_reducible refine below_drewN ?_ _))⟩
      · by_cases g1 : 255 < q
        · have e1 := Lib.hid (hno (by omega))
          clear hno hq
          go_wp2_with fail
          go_ret
          exact ⟨ret_bool e1.out.symm, (by repeat (first | with_reducible exact Below.refl _ _ | with_reducible assumption | ((with_reducible refine Below.alloc ?_ ?hb_ _); (case hb_ => first | omega | (simp; done) | (simp; omega))) | ((with_reducible refine Below.setCell ?_ ?hb_ _); (case hb_ => first | omega | (simp; done) | (simp; omega))) | with_reducible refine Below.drew ?_ | with_reducible refine below_drewN ?_ _))⟩
        · have e2 := Lib.hid (Hst.out (by omega))
          clear hno hq
          go_wp2_with fail
          go_roundw
          case rel => exact ⟨i + 1, by omega, rfl, by go_num, e2.out, hp, hb⟩
          case measure => simp [intOf]; omega
    · have hii : i = 4 := by omega
      subst hii
      have e2 := Lib.hid (decide_eq_true (show okI a b c d from hall))
      go_wp2_with fail
      go_ret
      exact ⟨ret_bool e2.out.symm, (by repeat (first | with_reducible exact Below.refl _ _ | with_reducible assumption | ((with_reducible refine Below.alloc ?_ ?hb_ _); (case hb_ => first | omega | (simp; done) | (simp; omega))) | ((with_reducible refine Below.setCell ?_ ?hb_ _); (case hb_ => first | omega | (simp; done) | (simp; omega))) | with_reducible refine Below.drew ?_ | with_reducible refine below_drewN ?_ _))⟩
theorem of_any (a b c d : Int) (w : World) (ha : 0 ≤ a ∧ a ≤ 255) (hb : 0 ≤ b ∧ b ≤ 255) (hc : 0 ≤ c ∧ c ≤ 255) (hd : 0 ≤ d ∧ d ≤ 255) :
    Calls Try.prog 20 #[.agg #[.int .u8 a, .int .u8 b, .int .u8 c, .int .u8 d]] w fun e w' => e = .returned (.agg #[.int .i64 a, .int .i64 b, .int .i64 c, .int .i64 d]) ∧ RowKit.Below w.heap.size w w' := by
  obtain ⟨a1, a2⟩ := ha
  obtain ⟨b1, b2⟩ := hb
  obtain ⟨c1, c2⟩ := hc
  obtain ⟨d1, d2⟩ := hd
  go_enter Try.func20, Try.ntmps20
  go_wp2_with ((with_reducible refine rw_list ?_); (first | ((with_reducible apply wpList_load_cell); (case ho => with_reducible rfl); (case hgd => with_reducible rfl); (case hx => rfl); (case hu => first | exact Try.underlying39 | exact Try.underlying5); (case hd => rfl)) | ((with_reducible apply wpList_load_row); (case ho => with_reducible rfl); (case hgd => with_reducible rfl); (case hx => rfl); (case hu => first | exact Try.underlying39 | exact Try.underlying5); (case hd => rfl)) | ((with_reducible apply wpList_store_row); (case ho => with_reducible rfl); (case hgd => with_reducible rfl); (case hx => rfl); (case hy => rfl)) | ((with_reducible apply wpList_store_cell); (case ho => with_reducible rfl); (case hgd => with_reducible rfl); (case hx => rfl); (case hy => first | exact ev_const | exact ev_tmp rfl); (case h1 => rfl))); (case hg => exact (by with_reducible repeat (first | assumption | (refine rw_new ?e_; case e_ => first | rfl | (simp; done) | (simp; omega)) | apply rw_self | (apply rw_other; case hn => first | omega | (simp; omega)) | apply rw_alloc | apply rw_drew | apply rw_drewN))); (try case hv => rfl); (try case hi => kernel_rfl); (try case hold => rfl); (try case h1 => kernel_rfl); (try case hlt => rfl); (try case hcs => ((try simp only [List.setIfInBounds_toArray, List.set_cons_succ, List.set_cons_zero]); rfl)))
  exact bodyPost_ret (v := _) (results_cell_row Try.results20 _ _ _ _ _ _ _ (by rfl) (by with_reducible repeat (first | assumption | (refine rw_new ?e_; case e_ => first | rfl | (simp; done) | (simp; omega)) | apply rw_self | (apply rw_other; case hn => first | omega | (simp; omega)) | apply rw_alloc | apply rw_drew | apply rw_drewN)) Try.underlying39 rfl (by kernel_rfl)) rfl ⟨rfl, (by with_reducible repeat (first | exact Below.refl _ _ | assumption | ((first | refine Below.alloc ?_ ?b_ _ | refine bw_set ?_ ?b_ | refine Below.setCell ?_ ?b_ _); case b_ => first | omega | (simp; done) | (simp; omega)) | refine Below.drew ?_ | refine below_drewN ?_ _))⟩
end Go.Proofs.Ytdkkjlapmaageaa.T3
