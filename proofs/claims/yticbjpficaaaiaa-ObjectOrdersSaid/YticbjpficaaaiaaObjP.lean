/- Objects: which are valid (the program's form and the reference's are the same), their values as numbers, their keys. -/
import Derived.Test.YticbjpficaaaiaaBase
namespace Go.Proofs.Yticbjpficaaaiaa
set_option linter.unusedSimpArgs false
set_option linter.unusedVariables false
open Go.RowKit
def kLo (K : Int) : Int := if K = 3 then -2147483648 else if K = 4 then -2147483648 else if K = 12 then 1 else 0
def kHi (K : Int) : Int := if K = 2 then 1 else if K = 3 then 2147483647 else if K = 4 then 2147483648 else if K = 12 then 9223372036854775807 else 0
def kSh (K : Int) : Int := if K = 10 then 1 else 0
def kLg (K : Int) : Int := if K = 5 then 100 else if K = 10 then 100 else 0
def kRf (K : Int) : Int := if K = 6 then 1 else if K = 7 then 2 else if K = 8 then 2 else if K = 9 then 3 else if K = 11 then 3 else 0
def kMx (K : Int) : Int := if K = 6 then 1000 else if K = 7 then 1000 else if K = 8 then 1000 else 0
/-- what an object refers to is in order -/
def okR (K R O L : Int) : Prop := if kRf K = 0 then R = 0 ∧ O = 0 ∧ L = 0 else (0 ≤ R ∧ R ≤ 20000) ∧ 0 ≤ O ∧ 0 ≤ L ∧ O ≤ kMx K ∧ L ≤ kMx K - O
instance (K R O L : Int) : Decidable (okR K R O L) := by unfold okR; infer_instance
/-- a valid object (its octets' number: n) -/
def okO (K N n R O L : Int) : Prop := (0 ≤ K ∧ K < 13) ∧ (kLo K ≤ N ∧ N ≤ kHi K) ∧ (kSh K ≤ n ∧ n ≤ kLg K) ∧ okR K R O L
instance (K N n R O L : Int) : Decidable (okO K N n R O L) := by unfold okO; infer_instance
/-- the reference's form -/
def rightO (K N n R O L : Int) : Prop := (0 ≤ K ∧ K ≤ 12) ∧
  ((K = 2 ∨ K = 3 ∨ K = 4 ∨ K = 12) ∨ N = 0) ∧ ((K = 5 ∨ K = 10) ∨ n = 0) ∧ ((K = 6 ∨ K = 7 ∨ K = 8) ∨ (O = 0 ∧ L = 0)) ∧ ((K = 6 ∨ K = 7 ∨ K = 8 ∨ K = 9 ∨ K = 11) ∨ R = 0) ∧
  (if K = 2 then N = 0 ∨ N = 1 else if K = 3 then -2147483648 ≤ N ∧ N ≤ 2147483647 else if K = 4 then -2147483648 ≤ N ∧ N ≤ 2147483648 else if K = 12 then 1 ≤ N else if K = 5 then n ≤ 100 else if K = 10 then 1 ≤ n ∧ n ≤ 100 else
   if K = 6 ∨ K = 7 ∨ K = 8 then (0 ≤ R ∧ R ≤ 20000) ∧ (0 ≤ O ∧ O ≤ 1000) ∧ (0 ≤ L ∧ L ≤ 1000) ∧ O + L ≤ 1000 else 0 ≤ R ∧ R ≤ 20000)
theorem right_ok (K N n R O L : Int) (hn : 0 ≤ n) (hN : N ≤ 9223372036854775807) : rightO K N n R O L ↔ okO K N n R O L := by
  by_cases hK : 0 ≤ K ∧ K ≤ 12
  · have hc : K = 0 ∨ K = 1 ∨ K = 2 ∨ K = 3 ∨ K = 4 ∨ K = 5 ∨ K = 6 ∨ K = 7 ∨ K = 8 ∨ K = 9 ∨ K = 10 ∨ K = 11 ∨ K = 12 := by omega
    rcases hc with rfl | rfl | rfl | rfl | rfl | rfl | rfl | rfl | rfl | rfl | rfl | rfl | rfl <;> simp [rightO, okO, okR, kLo, kHi, kSh, kLg, kRf, kMx] <;> omega
  · unfold rightO okO; omega
def oVal (K N : Int) : Int := if K = 3 then N * 65536 else N
/-- numbers -/
def isNum (K : Int) : Prop := K = 3 ∨ K = 4
instance (K : Int) : Decidable (isNum K) := by unfold isNum; infer_instance
theorem num_ok {K N n R O L : Int} (h : okO K N n R O L) (hK : isNum K) : -2147483648 ≤ N ∧ N ≤ 2147483648 ∧ (K = 3 → N ≤ 2147483647) ∧ n = 0 ∨ n < 0 := by
  rcases hK with rfl | rfl <;> simp [okO, okR, kLo, kHi, kSh, kLg, kRf] at h <;> omega
def tInt (K N : Int) : Int := (oVal K N).tdiv 65536
theorem tdiv_bd (x : Int) : (0 ≤ x → 0 ≤ x - x.tdiv 65536 * 65536 ∧ x - x.tdiv 65536 * 65536 < 65536 ∧ 0 ≤ x.tdiv 65536) ∧ (x ≤ 0 → -65536 < x - x.tdiv 65536 * 65536 ∧ x - x.tdiv 65536 * 65536 ≤ 0 ∧ x.tdiv 65536 ≤ 0) := by
  constructor
  · intro h
    rw [Int.tdiv_eq_ediv_of_nonneg h]
    omega
  · intro h
    have h1 : x.tdiv 65536 = -((-x).tdiv 65536) := by rw [Int.neg_tdiv, Int.neg_neg]
    rw [h1, Int.tdiv_eq_ediv_of_nonneg (by omega)]
    omega
theorem tmod_eq (x : Int) : x.tmod 65536 = x - x.tdiv 65536 * 65536 := by
  have := Int.tmod_add_mul_tdiv x 65536
  omega
theorem tmod_small (x : Int) : -65536 < x.tmod 65536 ∧ x.tmod 65536 < 65536 := by
  have h := tmod_eq x
  have hb := tdiv_bd x
  omega
theorem tInt_three (N : Int) : tInt 3 N = N := by
  unfold tInt oVal
  rw [if_pos rfl]
  exact Int.mul_tdiv_cancel N (by omega)
theorem tInt_ok {K N n R O L : Int} (h : okO K N n R O L) (hK : isNum K) : okO 3 (tInt K N) 0 0 0 0 := by
  rcases hK with rfl | rfl
  · rw [tInt_three]
    simp [okO, okR, kLo, kHi, kSh, kLg, kRf] at h ⊢
    omega
  · have hb := tdiv_bd N
    have e : tInt 4 N = N.tdiv 65536 := rfl
    rw [e]
    simp [okO, okR, kLo, kHi, kSh, kLg, kRf] at h ⊢
    omega
/-- keys of numbers -/
def keyK (K N : Int) : Int := if K = 4 ∧ N.tmod 65536 = 0 then 3 else K
def keyN (K N : Int) : Int := if K = 4 ∧ N.tmod 65536 = 0 then N.tdiv 65536 else N
theorem key_eq {K N K' N' : Int} (h : isNum K) (h' : isNum K') : (keyK K N = keyK K' N' ∧ keyN K N = keyN K' N') ↔ oVal K N = oVal K' N' := by
  have t := tmod_eq N
  have t' := tmod_eq N'
  have b := tmod_small N
  have b' := tmod_small N'
  by_cases c : N.tmod 65536 = 0 <;> by_cases c' : N'.tmod 65536 = 0 <;> rcases h with rfl | rfl <;> rcases h' with rfl | rfl <;> simp [keyK, keyN, oVal, c, c'] <;> first | omega | (constructor <;> intro hh <;> omega) | (intro hh; omega)
theorem key_val {K N : Int} (h : isNum K) : oVal (keyK K N) (keyN K N) = oVal K N := by
  have t := tmod_eq N
  by_cases c : N.tmod 65536 = 0 <;> rcases h with rfl | rfl <;> simp [keyK, keyN, oVal, c] <;> omega
def cmpI (x y : Int) : Int := if x < y then -1 else if y < x then 1 else 0
end Go.Proofs.Yticbjpficaaaiaa
