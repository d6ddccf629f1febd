/- max of a number, its negative, another one and its negative. -/
import Derived.Test.YtpgaibkjokoanaaMxY
import Derived.WalkKit
import Derived.Lib.Hide
import Derived.Deep.QuietTactic
import Derived.BigQuiet
import Derived.Lib.QuietBelow
import Derived.Deep.RegionHeld3
import Derived.WalkLawsBesides
import Derived.WalkSpells
import Derived.Outline
import Derived.Deep.DeepFit
import Derived.Maps.AppendAt
import Derived.Deep.AppendLies
namespace Go.Proofs.Ytpgaibkjokoanaa.T3
set_option linter.unusedSimpArgs false
set_option linter.unusedVariables false
open Go.RowKit
theorem max4 (u v : Int) : ∃ M : Int, (∀ w : World, Sem.run Try.prog (Builtin.max_ #[3, 3, 3, 3] 3 #[.int .i64 u, .int .i64 (-u), .int .i64 v, .int .i64 (-v)]) w = .ok (.int .i64 M) w) ∧ u ≤ M ∧ -u ≤ M ∧ v ≤ M ∧ -v ≤ M ∧ (M = u ∨ M = -u ∨ M = v ∨ M = -v) := by
  refine ⟨if -v > (if v > (if -u > u then -u else u) then v else (if -u > u then -u else u)) then -v else (if v > (if -u > u then -u else u) then v else (if -u > u then -u else u)), fun w => rfl, ?_⟩
  split <;> (try split) <;> (try split) <;> omega
end Go.Proofs.Ytpgaibkjokoanaa.T3
