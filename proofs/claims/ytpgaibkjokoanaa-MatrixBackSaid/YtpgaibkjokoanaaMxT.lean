/- Sines: the plain law. -/
import Derived.Test.YtpgaibkjokoanaaMxS
import Derived.WalkKit
import Derived.Lib.Hide
import Derived.Deep.QuietTactic
import Derived.BigQuiet
import Derived.Lib.QuietBelow
import Derived.Deep.RegionHeld3
import Derived.WalkLawsBesides
import Derived.WalkSpells
import Derived.Outline
import Derived.Deep.DeepFit
import Derived.Maps.AppendAt
import Derived.Deep.AppendLies
namespace Go.Proofs.Ytpgaibkjokoanaa.T3
set_option linter.unusedSimpArgs false
set_option linter.unusedVariables false
set_option maxHeartbeats 1000000
theorem rnd_eq (o u : Int) (hu : 0 < u) : o / u + (if u ≤ 2 * (o % u) then 1 else 0) = (2 * o + u) / (2 * u) := by
  have h := Int.mul_ediv_add_emod o u
  have h1 := Int.emod_nonneg o (show u ≠ 0 by omega)
  have h2 := Int.emod_lt_of_pos o hu
  have e : 2 * o + u = (2 * (o % u) + u) + (2 * u) * (o / u) := by grind
  rw [e, Int.add_mul_ediv_left _ _ (by omega)]
  by_cases c : u ≤ 2 * (o % u)
  · rw [if_pos c]
    have : (2 * (o % u) + u) / (2 * u) = 1 := by
      apply Int.le_antisymm
      · have := (Int.ediv_lt_iff_lt_mul (a := 2 * (o % u) + u) (b := 2) (c := 2 * u) (by omega)).2 (by omega); omega
      · exact (Int.le_ediv_iff_mul_le (by omega)).2 (by omega)
    omega
  · have z : (2 * (o % u) + u) / (2 * u) = 0 := Int.ediv_eq_zero_of_lt (by omega) (by omega)
    rw [if_neg c, z]
    omega
theorem rnd_le (o u o' u' : Int) (h0 : 0 ≤ o) (h1 : o ≤ o') (h2 : 0 < u') (h3 : u' ≤ u) : (2 * o + u) / (2 * u) ≤ (2 * o' + u') / (2 * u') := by
  obtain ⟨x, hx⟩ : ∃ x, (2 * o + u) / (2 * u) = x := ⟨_, rfl⟩
  rw [hx]
  have h := (Int.le_ediv_iff_mul_le (a := x) (b := 2 * o + u) (c := 2 * u) (by omega)).1 (by omega)
  refine (Int.le_ediv_iff_mul_le (by omega)).2 ?_
  have e : (2 * x - 1) * u ≤ 2 * o := by grind
  by_cases c : 0 ≤ 2 * x - 1
  · have := Int.mul_le_mul_of_nonneg_left h3 c
    grind
  · have : (2 * x - 1) * u' ≤ 0 := Int.mul_nonpos_of_nonpos_of_nonneg (by omega) (by omega)
    grind
theorem prod_bd' {n : Int} (h1 : 0 ≤ n) (h2 : n ≤ 11796480) : 0 ≤ n * (11796480 - n) ∧ n * (11796480 - n) ≤ 34789235097600 := by
  by_cases c : n = 11796480
  · subst c; decide
  · exact prod_bd h1 (by omega)
theorem sLo_rnd {n : Int} (h1 : 0 ≤ n) (h2 : n ≤ 11796480) : sLo n = (2 * (262144 * (n * (11796480 - n))) + (173946175488000 - n * (11796480 - n))) / (2 * (173946175488000 - n * (11796480 - n))) := by
  have := prod_bd' h1 h2
  exact rnd_eq _ _ (by omega)
theorem sLo_sym {n : Int} (h1 : 0 ≤ n) (h2 : n ≤ 11796480) : sLo (11796480 - n) = sLo n := by
  have e : (11796480 - n) * (11796480 - (11796480 - n)) = n * (11796480 - n) := by grind
  unfold sLo
  rw [e]
theorem sLo_mono {n m : Int} (h1 : 0 ≤ n) (h2 : n ≤ m) (h3 : m ≤ 5898240) : sLo n ≤ sLo m := by
  rw [sLo_rnd h1 (by omega), sLo_rnd (by omega) (by omega)]
  have p1 := prod_bd' h1 (by omega)
  have p2 := prod_bd' (n := m) (by omega) (by omega)
  have hp : n * (11796480 - n) ≤ m * (11796480 - m) := by
    have : 0 ≤ (m - n) * (11796480 - n - m) := Int.mul_nonneg (by omega) (by omega)
    grind
  exact rnd_le _ _ _ _ (by omega) (by omega) (by omega) (by omega)
theorem sLo_0 : sLo 0 = 0 := by decide
theorem sLo_90 : sLo 5898240 = 65536 := by decide
theorem sLo_one {n : Int} (h1 : 0 ≤ n) (h2 : n ≤ 11796480) : 0 ≤ sLo n ∧ sLo n ≤ 65536 := by
  have key : ∀ m : Int, 0 ≤ m → m ≤ 5898240 → 0 ≤ sLo m ∧ sLo m ≤ 65536 := by
    intro m a b
    have x := sLo_mono (n := 0) (m := m) (by omega) a b
    have y := sLo_mono (n := m) (m := 5898240) a b (by omega)
    rw [sLo_0] at x
    rw [sLo_90] at y
    exact ⟨x, y⟩
  by_cases c : n ≤ 5898240
  · exact key n h1 c
  · rw [← sLo_sym h1 h2]
    exact key _ (by omega) (by omega)
theorem sAny_lo {n : Int} (h1 : 0 ≤ n) (h2 : n < 11796480) : sAny n = sLo n := by
  unfold sAny
  rw [show n % 23592960 = n by omega, if_pos h2]
theorem sAny_one (n : Int) : -65536 ≤ sAny n ∧ sAny n ≤ 65536 := by
  unfold sAny
  split
  · have := sLo_one (n := n % 23592960) (by omega) (by omega); omega
  · have := sLo_one (n := n % 23592960 - 11796480) (by omega) (by omega); omega
theorem sAny_per (n : Int) : sAny (n + 23592960) = sAny n := by
  unfold sAny
  rw [show (n + 23592960) % 23592960 = n % 23592960 by omega]
theorem sAny_neg (n : Int) : sAny (-n) = -sAny n := by
  unfold sAny
  obtain ⟨m, hm⟩ : ∃ m, n % 23592960 = m := ⟨_, rfl⟩
  rw [hm]
  have m1 : 0 ≤ m := by omega
  have m2 : m < 23592960 := by omega
  by_cases c0 : m = 0
  · subst c0; rw [show (-n) % 23592960 = 0 by omega]; decide
  · rw [show (-n) % 23592960 = 23592960 - m by omega]
    by_cases c1 : m = 11796480
    · subst c1; decide
    · by_cases c2 : m < 11796480
      · rw [if_pos c2, if_neg (by omega), show 23592960 - m - 11796480 = 11796480 - m by omega, sLo_sym m1 (by omega)]
      · rw [if_neg c2, if_pos (by omega), show 23592960 - m = 11796480 - (m - 11796480) by omega, sLo_sym (by omega) (by omega)]
        omega
theorem sAny_half (n : Int) : sAny (11796480 - n) = sAny n := by
  unfold sAny
  obtain ⟨m, hm⟩ : ∃ m, n % 23592960 = m := ⟨_, rfl⟩
  rw [hm]
  have m1 : 0 ≤ m := by omega
  have m2 : m < 23592960 := by omega
  by_cases c0 : m = 0
  · subst c0; rw [show (11796480 - n) % 23592960 = 11796480 by omega]; decide
  · by_cases c2 : m ≤ 11796480
    · rw [show (11796480 - n) % 23592960 = 11796480 - m by omega]
      by_cases c1 : m = 11796480
      · subst c1; decide
      · rw [if_pos (by omega), if_pos (by omega), sLo_sym m1 c2]
    · rw [show (11796480 - n) % 23592960 = 35389440 - m by omega, if_neg (by omega), if_neg (by omega), show 35389440 - m - 11796480 = 11796480 - (m - 11796480) by omega, sLo_sym (by omega) (by omega)]
end Go.Proofs.Ytpgaibkjokoanaa.T3
