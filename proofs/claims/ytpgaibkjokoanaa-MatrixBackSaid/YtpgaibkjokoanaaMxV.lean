/- Quotients, roundings: the plain laws. -/
import Derived.Test.YtpgaibkjokoanaaMxU
import Derived.Test.YtpgaibkjokoanaaMxF
import Derived.Test.YtpgaibkjokoanaaMxT
import Derived.WalkKit
import Derived.Lib.Hide
import Derived.Deep.QuietTactic
import Derived.BigQuiet
import Derived.Lib.QuietBelow
import Derived.Deep.RegionHeld3
import Derived.WalkLawsBesides
import Derived.WalkSpells
import Derived.Outline
import Derived.Deep.DeepFit
import Derived.Maps.AppendAt
import Derived.Deep.AppendLies
namespace Go.Proofs.Ytpgaibkjokoanaa.T3
set_option linter.unusedSimpArgs false
set_option linter.unusedVariables false
set_option maxHeartbeats 1000000
theorem r16_near (n : Int) : (2 * r16 n - 1) * 65536 ≤ 2 * n ∧ 2 * n < (2 * r16 n + 1) * 65536 := by unfold r16; omega
theorem r28_near (n : Int) : (2 * r28 n - 1) * 268435456 ≤ 2 * n ∧ 2 * n < (2 * r28 n + 1) * 268435456 := by unfold r28; omega
theorem qtV_near {n d : Int} (hd : 0 < d) (hq : qtB n d = true) : (2 * qtV n d - 1) * d ≤ 2 * (65536 * n) ∧ 2 * (65536 * n) < (2 * qtV n d + 1) * d := by
  rw [qtV, if_pos hq, rnd_eq _ _ hd]
  obtain ⟨x, hx⟩ : ∃ x, (2 * (65536 * n) + d) / (2 * d) = x := ⟨_, rfl⟩
  rw [hx]
  have h1 := (Int.le_ediv_iff_mul_le (a := x) (b := 2 * (65536 * n) + d) (c := 2 * d) (by omega)).1 (by omega)
  have h2 := (Int.ediv_lt_iff_lt_mul (a := 2 * (65536 * n) + d) (b := x + 1) (c := 2 * d) (by omega)).1 (by omega)
  constructor <;> grind
theorem qtV_exact {n d x : Int} (hd : 0 < d) (hq : qtB n d = true) (h : 65536 * n = x * d) : qtV n d = x := by
  rw [qtV, if_pos hq, h, Int.mul_ediv_cancel _ (by omega), Int.mul_emod_left, if_neg (by omega)]
  omega
/-- what is left of both sides, divided by 2^16 -/
theorem within_plain (x n d : Int) (h1 : (2 * x - 1) * d ≤ 2 * (65536 * n)) (h2 : 2 * (65536 * n) < (2 * x + 1) * d) : (2 * (x - x / 65536 * 65536) - 1) * d ≤ 2 * (n - x / 65536 * d) * 65536 ∧ 2 * (n - x / 65536 * d) * 65536 < (2 * (x - x / 65536 * 65536) + 1) * d := by
  obtain ⟨t, ht⟩ : ∃ t, x / 65536 = t := ⟨_, rfl⟩
  rw [ht]
  constructor <;> grind
end Go.Proofs.Ytpgaibkjokoanaa.T3
