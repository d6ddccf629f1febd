/- chapter 01: plain: what the laws compare. -/
import Derived.Test.YtilchjpjmfaghaaReY
namespace Go.Proofs.Ytilchjpjmfaghaa.T3
set_option linter.unusedSimpArgs false
set_option linter.unusedVariables false
set_option maxHeartbeats 1000000
theorem isB_iff (n : Int) : isB n = true ↔ -2147483648 ≤ n ∧ n ≤ 2147483648 := by simp [isB]
theorem cutV_bd (n : Int) : -2147483648 ≤ cutV n ∧ cutV n ≤ 2147483648 := by
  unfold cutV
  split
  · rename_i h
    exact (isB_iff n).1 h
  · have h1 := Int.tmod_lt_of_pos n (show (0 : Int) < 2147483648 by omega)
    have h2 := Int.lt_tmod_of_pos n (show (0 : Int) < 2147483648 by omega)
    omega
theorem cutV_in {n : Int} (h : isB n = true) : cutV n = n := by rw [cutV, if_pos h]
theorem rs_all {l : List Int} {n : Int} (h : allR l = true) : rsV l n n 0 = endV n ∧ rsE l n 0 = endE n := by
  unfold rsV rsE endV endE
  rw [if_pos h, if_pos rfl]
  cases isB n <;> simp
theorem rs_not {l : List Int} {y n er : Int} (h : allR l = false) : rsV l y n er = 0 ∧ rsE l n er = 2 := by
  unfold rsV rsE
  simp [h]
theorem all2 {a b : Int} (h : allR [a, b] = true) : isB a = true ∧ isB b = true := by simpa [allR] using h
theorem mul_same (a b : Int) : (allR [a, b] = true → rsV [a, b] ((a * b + 32768) / 65536) ((a * b + 32768) / 65536) 0 = endV ((cutV a * cutV b + 32768) / 65536) ∧ rsE [a, b] ((a * b + 32768) / 65536) 0 = endE ((cutV a * cutV b + 32768) / 65536))
    ∧ (allR [a, b] = false → rsV [a, b] ((a * b + 32768) / 65536) ((a * b + 32768) / 65536) 0 = 0 ∧ rsE [a, b] ((a * b + 32768) / 65536) 0 = 2) := by
  refine ⟨fun h => ?_, fun h => rs_not h⟩
  obtain ⟨h1, h2⟩ := all2 h
  rw [cutV_in h1, cutV_in h2]
  exact rs_all h
theorem div_same (a b : Int) : (allR [a, b] = true → rsV [a, b] (dvY a b) (dvY a b) (dvEr b) = rdV (cutV a) (cutV b) ∧ rsE [a, b] (dvY a b) (dvEr b) = rdE (cutV a) (cutV b))
    ∧ (allR [a, b] = false → rsV [a, b] (dvY a b) (dvY a b) (dvEr b) = 0 ∧ rsE [a, b] (dvY a b) (dvEr b) = 2) := by
  refine ⟨fun h => ?_, fun h => rs_not h⟩
  obtain ⟨h1, h2⟩ := all2 h
  rw [cutV_in h1, cutV_in h2]
  by_cases hb : b = 0
  · subst hb
    unfold rsV rsE rdV rdE dvY dvEr
    rw [if_pos h]
    simp
  · have e1 : dvY a b = dv a b := if_neg hb
    have e2 : dvEr b = 0 := if_neg hb
    have e3 : rdV a b = endV (dv a b) := if_neg hb
    have e4 : rdE a b = endE (dv a b) := if_neg hb
    rw [e1, e2, e3, e4]
    exact rs_all h
end Go.Proofs.Ytilchjpjmfaghaa.T3
