/- The three methods of a kind that object.Check calls return what the bounds of the kind's row say. -/
import Derived.Test.YticbjpficaaaiaaObjK
import Derived.WalkKit
import Derived.Lib.Hide
import Derived.Deep.QuietTactic
import Derived.BigQuiet
import Derived.Lib.QuietBelow
import Derived.Deep.RegionHeld3
import Derived.WalkLawsBesides
import Derived.WalkSpells
import Derived.Outline
import Derived.Deep.DeepFit
import Derived.Maps.AppendAt
import Derived.Deep.AppendLies
namespace Go.Proofs.Yticbjpficaaaiaa
set_option linter.unusedSimpArgs false
set_option linter.unusedVariables false
open Go.RowKit

theorem number_any (S0 : ByteArray) (lo hi sh lg rf K : Int) (X : Bool) (N : Int) (S : ByteArray) (R O L : Int) (w : World) :
    Calls Try.prog 37 #[.agg #[.string S0, .int .i64 lo, .int .i64 hi, .int .i64 sh, .int .i64 lg, .int .i64 rf], .agg #[.int .i64 K, .bool X, .int .i64 N, .string S, .int .i64 R, .int .i64 O, .int .i64 L]] w fun e w' => e = .returned (.bool (decide (lo ≤ N) && decide (N ≤ hi))) ∧ Below w.heap.size w w' := by
  by_cases h1 : lo ≤ N <;> by_cases h2 : N ≤ hi
  all_goals go_enter Try.func37, Try.ntmps37
  all_goals go_wp2_with fail
  all_goals go_ret
  all_goals exact ⟨by simp [h1, h2], (by repeat (first | with_reducible exact Below.refl _ _ | with_reducible assumption | ((with_reducible refine Below.alloc ?_ ?hb_ _); (case hb_ => first | omega | (simp; done) | (simp; omega))) | ((with_reducible refine Below.setCell ?_ ?hb_ _); (case hb_ => first | omega | (simp; done) | (simp; omega))) | with_reducible refine Below.drew ?_ | with_reducible refine below_drewN ?_ _))⟩
theorem named_any (S0 : ByteArray) (lo hi sh lg rf K : Int) (X : Bool) (N : Int) (S : ByteArray) (R O L : Int) (w : World) :
    Calls Try.prog 38 #[.agg #[.string S0, .int .i64 lo, .int .i64 hi, .int .i64 sh, .int .i64 lg, .int .i64 rf], .agg #[.int .i64 K, .bool X, .int .i64 N, .string S, .int .i64 R, .int .i64 O, .int .i64 L]] w fun e w' => e = .returned (.bool (decide (sh ≤ (S.size : Int)) && decide ((S.size : Int) ≤ lg))) ∧ Below w.heap.size w w' := by
  by_cases h1 : sh ≤ (S.size : Int) <;> by_cases h2 : (S.size : Int) ≤ lg
  all_goals go_enter Try.func38, Try.ntmps38
  all_goals go_wp2_with fail
  all_goals go_ret
  all_goals exact ⟨by simp [h1, h2], (by repeat (first | with_reducible exact Below.refl _ _ | with_reducible assumption | ((with_reducible refine Below.alloc ?_ ?hb_ _); (case hb_ => first | omega | (simp; done) | (simp; omega))) | ((with_reducible refine Below.setCell ?_ ?hb_ _); (case hb_ => first | omega | (simp; done) | (simp; omega))) | with_reducible refine Below.drew ?_ | with_reducible refine below_drewN ?_ _))⟩
end Go.Proofs.Yticbjpficaaaiaa
