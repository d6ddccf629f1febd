/- A kind's longest and referring return what mxR and okRf tell. -/
import Derived.Test.YticbjpficaaaiaaObjK
import Derived.WalkKit
import Derived.Lib.Hide
import Derived.Deep.QuietTactic
import Derived.BigQuiet
import Derived.Lib.QuietBelow
import Derived.Deep.RegionHeld3
import Derived.WalkLawsBesides
import Derived.WalkSpells
import Derived.Outline
import Derived.Deep.DeepFit
import Derived.Maps.AppendAt
import Derived.Deep.AppendLies
namespace Go.Proofs.Yticbjpficaaaiaa
set_option linter.unusedSimpArgs false
set_option linter.unusedVariables false
open Go.RowKit

def mxR (rf : Int) : Int := if rf = 1 then 1000 else if rf = 2 then 1000 else 0
def okRf (rf R O L : Int) : Prop := if rf = 0 then R = 0 ∧ O = 0 ∧ L = 0 else (0 ≤ R ∧ R ≤ 20000) ∧ 0 ≤ O ∧ 0 ≤ L ∧ O ≤ mxR rf ∧ L ≤ mxR rf - O
instance (rf R O L : Int) : Decidable (okRf rf R O L) := by unfold okRf; infer_instance
theorem long_at (rf : Int) (hrf : rf = 1 ∨ rf = 2 ∨ rf = 3) : ∀ w, Sem.run Try.prog (Instr.index 68 (.agg #[.int .i64 0, .int .i64 1000, .int .i64 1000, .int .i64 0]) (.int .i64 rf)) w = .ok (.int .i64 (mxR rf)) w := by
  rcases hrf with rfl | rfl | rfl
  · exact fun w => (by kernel_rfl)
  · exact fun w => (by kernel_rfl)
  · exact fun w => (by kernel_rfl)
theorem longest_any (S0 : ByteArray) (lo hi sh lg rf : Int) (w : World) (hrf : rf = 1 ∨ rf = 2 ∨ rf = 3) :
    Calls Try.prog 47 #[.agg #[.string S0, .int .i64 lo, .int .i64 hi, .int .i64 sh, .int .i64 lg, .int .i64 rf]] w fun e w' => e = .returned (.int .i64 (mxR rf)) ∧ Below w.heap.size w w' := by
  have hix := long_at rf hrf
  clear hrf
  generalize mxR rf = mx at *
  go_enter Try.func47, Try.ntmps47
  go_wp2_with fail
  go_ret
  exact ⟨rfl, (by repeat (first | with_reducible exact Below.refl _ _ | with_reducible assumption | ((with_reducible refine Below.alloc ?_ ?hb_ _); (case hb_ => first | omega | (simp; done) | (simp; omega))) | ((with_reducible refine Below.setCell ?_ ?hb_ _); (case hb_ => first | omega | (simp; done) | (simp; omega))) | with_reducible refine Below.drew ?_ | with_reducible refine below_drewN ?_ _))⟩
theorem referring_any (S0 : ByteArray) (lo hi sh lg rf K : Int) (X : Bool) (N : Int) (S : ByteArray) (R O L : Int) (w : World) (hrf : rf = 0 ∨ rf = 1 ∨ rf = 2 ∨ rf = 3) :
    Calls Try.prog 39 #[.agg #[.string S0, .int .i64 lo, .int .i64 hi, .int .i64 sh, .int .i64 lg, .int .i64 rf], .agg #[.int .i64 K, .bool X, .int .i64 N, .string S, .int .i64 R, .int .i64 O, .int .i64 L]] w fun e w' => e = .returned (.bool (decide (okRf rf R O L))) ∧ Below w.heap.size w w' := by
  by_cases h0 : rf = 0
  · subst h0
    by_cases h1 : R = 0 <;> by_cases h2 : O = 0 <;> by_cases h3 : L = 0
    all_goals have HV := Lib.hid (show decide (okRf 0 R O L) = (decide (R = 0) && (decide (O = 0) && decide (L = 0))) by simp [okRf])
    all_goals go_enter Try.func39, Try.ntmps39
    all_goals go_wp2_with fail
    all_goals go_ret
    all_goals exact ⟨by first | (rw [HV.out]; simp [h1, h2, h3]; done) | (simp [okRf, *]; done), (by repeat (first | with_reducible exact Below.refl _ _ | with_reducible assumption | ((with_reducible refine Below.alloc ?_ ?hb_ _); (case hb_ => first | omega | (simp; done) | (simp; omega))) | ((with_reducible refine Below.setCell ?_ ?hb_ _); (case hb_ => first | omega | (simp; done) | (simp; omega))) | with_reducible refine Below.drew ?_ | with_reducible refine below_drewN ?_ _))⟩
  · have hr : rf = 1 ∨ rf = 2 ∨ rf = 3 := by omega
    have HV := Lib.hid (show decide (okRf rf R O L) = (decide (0 ≤ R) && (decide (R ≤ 20000) && (decide (0 ≤ O) && (decide (0 ≤ L) && (decide (O ≤ mxR rf) && decide (L ≤ mxR rf - O)))))) by simp [okRf, h0, and_assoc])
    have hm : 0 ≤ mxR rf ∧ mxR rf ≤ 1000 := by unfold mxR; split <;> (try split) <;> omega
    go_enter Try.func39, Try.ntmps39
    go_wp2_with fail
    refine (longest_any _ _ _ _ _ _ _ hr).mono ?_
    rintro e w1 ⟨rfl, hb⟩
    generalize mxR rf = mx at *
    have hs : w.heap.size + 2 ≤ w1.heap.size := by simpa using hb.size
    have hl : w.heap.size + 1 < w1.heap.size := by omega
    have hB : Below w.heap.size w w1 := below_then (Below.alloc (Below.alloc (Below.refl _ w) (Nat.le_refl _) _) (by simp) _) (by simp; omega) hb
    have hp : w1.heap[w.heap.size + 1]? = some (.cells #[.int .i64 K, .bool X, .int .i64 N, .string S, .int .i64 R, .int .i64 O, .int .i64 L] 23 (0, 0)) := (hb.block _ (by simp)).trans (heap_alloc2_new w _ _)
    have c4 := cell_of_row w1 (w.heap.size + 1) 4 _ _ _ hp
    have c5 := cell_of_row w1 (w.heap.size + 1) 5 _ _ _ hp
    have c6 := cell_of_row w1 (w.heap.size + 1) 6 _ _ _ hp
    simp at c4 c5 c6
    clear hb hp hs hr hrf
    by_cases h1 : 0 ≤ R
    · by_cases h2 : R ≤ 20000
      · by_cases h3 : 0 ≤ O
        · by_cases h4 : 0 ≤ L
          · by_cases h5 : O ≤ mx
            · by_cases h6 : L ≤ mx - O
              all_goals go_wp2_with fail
              all_goals go_ret
              all_goals exact ⟨by rw [HV.out]; (simp [h1, h2, h3, h4, h5, h6] <;> omega), hB⟩
            all_goals go_wp2_with fail
            all_goals go_ret
            all_goals exact ⟨by rw [HV.out]; (simp [h1, h2, h3, h4, h5] <;> omega), hB⟩
          all_goals go_wp2_with fail
          all_goals go_ret
          all_goals exact ⟨by rw [HV.out]; (simp [h1, h2, h3, h4] <;> omega), hB⟩
        all_goals go_wp2_with fail
        all_goals go_ret
        all_goals exact ⟨by rw [HV.out]; (simp [h1, h2, h3] <;> omega), hB⟩
      all_goals go_wp2_with fail
      all_goals go_ret
      all_goals exact ⟨by rw [HV.out]; (simp [h1, h2] <;> omega), hB⟩
    all_goals go_wp2_with fail
    all_goals go_ret
    all_goals exact ⟨by rw [HV.out]; (simp [h1] <;> omega), hB⟩
end Go.Proofs.Yticbjpficaaaiaa
