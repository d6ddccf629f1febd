/- chapter 01: FromInt; the reference's operations. -/
import Derived.Test.YtilchjpjmfaghaaReM
import Derived.WalkKit
import Derived.Lib.Hide
import Derived.Deep.QuietTactic
import Derived.BigQuiet
import Derived.Lib.QuietBelow
import Derived.Deep.RegionHeld3
import Derived.WalkLawsBesides
import Derived.WalkSpells
import Derived.Outline
import Derived.Deep.DeepFit
import Derived.Maps.AppendAt
import Derived.Deep.AppendLies
namespace Go.Proofs.Ytilchjpjmfaghaa.T3
set_option linter.unusedSimpArgs false
set_option linter.unusedVariables false
open Go.RowKit Go.Lib
set_option maxHeartbeats 2000000
set_option maxRecDepth 100000
def fiV (i : Int) : Int := if -32768 ≤ i ∧ i ≤ 32768 then i * 65536 else 0
def fiE (i : Int) : Int := if -32768 ≤ i ∧ i ≤ 32768 then 0 else 25
theorem mfi_any (i : Int) (w : World) : Calls Try.prog 27 #[.int .i64 i] w fun e w' => e = .returned (.tuple #[.int .i64 (fiV i), .int .i64 (fiE i)]) ∧ w = w' := by
  by_cases h1 : -32768 ≤ i
  · by_cases h2 : i ≤ 32768
    · have hv := Lib.hid (show fiV i = i * 65536 from if_pos ⟨h1, h2⟩)
      have he := Lib.hid (show fiE i = 0 from if_pos ⟨h1, h2⟩)
      go_enter Try.func27, Try.ntmps27
      go_wp2_with fail
      exact bodyPost_ret (v := .tuple #[.int .i64 (i * 65536), .int .i64 0]) (by simp [results, Try.results27, go_sem]) rfl ⟨by rw [hv.out, he.out], rfl⟩
    · have hv := Lib.hid (show fiV i = 0 from if_neg (fun h => h2 h.2))
      have he := Lib.hid (show fiE i = 25 from if_neg (fun h => h2 h.2))
      go_enter Try.func27, Try.ntmps27
      go_wp2_with fail
      exact bodyPost_ret (v := .tuple #[.int .i64 0, .int .i64 25]) (by simp [results, Try.results27, go_sem]) rfl ⟨by rw [hv.out, he.out], rfl⟩
  · have hv := Lib.hid (show fiV i = 0 from if_neg (fun h => h1 h.1))
    have he := Lib.hid (show fiE i = 25 from if_neg (fun h => h1 h.1))
    go_enter Try.func27, Try.ntmps27
    go_wp2_with fail
    exact bodyPost_ret (v := .tuple #[.int .i64 0, .int .i64 25]) (by simp [results, Try.results27, go_sem]) rfl ⟨by rw [hv.out, he.out], rfl⟩
theorem rfi_any (i : Int) (w : World) : Calls Try.prog 28 #[.int .i64 i] w fun e w' => e = .returned (.tuple #[.int .i64 (fiV i), .int .i64 (fiE i)]) ∧ w = w' := by
  by_cases h1 : -32768 ≤ i
  · by_cases h2 : i ≤ 32768
    · have hv := Lib.hid (show fiV i = i * 65536 from if_pos ⟨h1, h2⟩)
      have he := Lib.hid (show fiE i = 0 from if_pos ⟨h1, h2⟩)
      go_enter Try.func28, Try.ntmps28
      go_wp2_with fail
      exact bodyPost_ret (v := .tuple #[.int .i64 (i * 65536), .int .i64 0]) (by simp [results, Try.results28, go_sem]) rfl ⟨by rw [hv.out, he.out], rfl⟩
    · have hv := Lib.hid (show fiV i = 0 from if_neg (fun h => h2 h.2))
      have he := Lib.hid (show fiE i = 25 from if_neg (fun h => h2 h.2))
      go_enter Try.func28, Try.ntmps28
      go_wp2_with fail
      exact bodyPost_ret (v := .tuple #[.int .i64 0, .int .i64 25]) (by simp [results, Try.results28, go_sem]) rfl ⟨by rw [hv.out, he.out], rfl⟩
  · have hv := Lib.hid (show fiV i = 0 from if_neg (fun h => h1 h.1))
    have he := Lib.hid (show fiE i = 25 from if_neg (fun h => h1 h.1))
    go_enter Try.func28, Try.ntmps28
    go_wp2_with fail
    exact bodyPost_ret (v := .tuple #[.int .i64 0, .int .i64 25]) (by simp [results, Try.results28, go_sem]) rfl ⟨by rw [hv.out, he.out], rfl⟩
theorem rtoint_any (a : Int) (w : World) (ha : -2147483648 ≤ a ∧ a ≤ 2147483648) : Calls Try.prog 31 #[.int .i64 a] w fun e w' => e = .returned (.int .i64 (a.tdiv 65536)) ∧ w = w' := by
  obtain ⟨ha1, ha2⟩ := ha
  by_cases h : a < 0
  · have e1 : a.tdiv 65536 = -(-a / 65536) := by
      have h2 := Int.neg_tdiv (-a) 65536
      rw [Int.neg_neg] at h2
      rw [h2, Int.tdiv_eq_ediv_of_nonneg (by omega)]
    obtain ⟨p, hp⟩ : ∃ p, -a = p := ⟨_, rfl⟩
    rw [hp] at e1
    have p1 : 0 ≤ p ∧ p ≤ 2147483648 := by omega
    obtain ⟨p1, p2⟩ := p1
    have h1 := Lib.hid e1
    clear e1
    go_enter Try.func31, Try.ntmps31
    go_wp2_with fail
    go_ret
    exact ⟨by rw [h1.out]; rfl, rfl⟩
  · have e1 : a.tdiv 65536 = a / 65536 := Int.tdiv_eq_ediv_of_nonneg (by omega)
    have h1 := Lib.hid e1
    clear e1
    go_enter Try.func31, Try.ntmps31
    go_wp2_with fail
    go_ret
    exact ⟨by rw [h1.out]; rfl, rfl⟩
theorem radd_any (a b : Int) (w : World) (ha : -2147483648 ≤ a ∧ a ≤ 2147483648) (hb : -2147483648 ≤ b ∧ b ≤ 2147483648) : Calls Try.prog 33 #[.int .i64 a, .int .i64 b] w fun e w' => e = .returned (.tuple #[.int .i64 (endV (a + b)), .int .i64 (endE (a + b))]) ∧ w = w' := by
  obtain ⟨ha1, ha2⟩ := ha
  obtain ⟨hb1, hb2⟩ := hb
  go_enter Try.func33, Try.ntmps33
  go_wp2_with fail
  refine (rend_any _ _).mono ?_
  rintro e w' ⟨rfl, rfl⟩
  go_wp2_with fail
  exact bodyPost_ret (v := .tuple #[.int .i64 (endV (a + b)), .int .i64 (endE (a + b))]) (by simp [results, Try.results33, go_sem]) rfl ⟨rfl, rfl⟩
theorem rsub_any (a b : Int) (w : World) (ha : -2147483648 ≤ a ∧ a ≤ 2147483648) (hb : -2147483648 ≤ b ∧ b ≤ 2147483648) : Calls Try.prog 35 #[.int .i64 a, .int .i64 b] w fun e w' => e = .returned (.tuple #[.int .i64 (endV (a - b)), .int .i64 (endE (a - b))]) ∧ w = w' := by
  obtain ⟨ha1, ha2⟩ := ha
  obtain ⟨hb1, hb2⟩ := hb
  go_enter Try.func35, Try.ntmps35
  go_wp2_with fail
  refine (rend_any _ _).mono ?_
  rintro e w' ⟨rfl, rfl⟩
  go_wp2_with fail
  exact bodyPost_ret (v := .tuple #[.int .i64 (endV (a - b)), .int .i64 (endE (a - b))]) (by simp [results, Try.results35, go_sem]) rfl ⟨rfl, rfl⟩
theorem rmul_any (a b : Int) (w : World) (ha : -2147483648 ≤ a ∧ a ≤ 2147483648) (hb : -2147483648 ≤ b ∧ b ≤ 2147483648) : Calls Try.prog 14 #[.int .i64 a, .int .i64 b] w fun e w' => e = .returned (.tuple #[.int .i64 (endV ((a * b + 32768) / 65536)), .int .i64 (endE ((a * b + 32768) / 65536))]) ∧ w = w' := by
  obtain ⟨m1, m2⟩ := mul_bd ha.1 ha.2 hb.1 hb.2
  simp only [Int.reduceMul, Int.reduceNeg] at m1 m2
  obtain ⟨ha1, ha2⟩ := ha
  obtain ⟨hb1, hb2⟩ := hb
  go_enter Try.func14, Try.ntmps14
  go_wp2_with fail
  refine (rfloor_any _ _ _ (by omega) (by omega) (by omega) (by omega)).mono ?_
  rintro e w' ⟨rfl, rfl⟩
  go_wp2_with fail
  refine (rend_any _ _).mono ?_
  rintro e w' ⟨rfl, rfl⟩
  go_wp2_with fail
  exact bodyPost_ret (v := .tuple #[.int .i64 (endV ((a * b + 32768) / 65536)), .int .i64 (endE ((a * b + 32768) / 65536))]) (by simp [results, Try.results14, go_sem]) rfl ⟨rfl, rfl⟩
def rdV (a b : Int) : Int := if b = 0 then 0 else endV (dv a b)
def rdE (a b : Int) : Int := if b = 0 then 25 else endE (dv a b)
theorem rdiv_any (a b : Int) (w : World) (ha : -2147483648 ≤ a ∧ a ≤ 2147483648) (hb : -2147483648 ≤ b ∧ b ≤ 2147483648) : Calls Try.prog 17 #[.int .i64 a, .int .i64 b] w fun e w' => e = .returned (.tuple #[.int .i64 (rdV a b), .int .i64 (rdE a b)]) ∧ w = w' := by
  obtain ⟨ha1, ha2⟩ := ha
  obtain ⟨hb1, hb2⟩ := hb
  by_cases h0 : b = 0
  · have hv := Lib.hid (show rdV a b = 0 from if_pos h0)
    have he := Lib.hid (show rdE a b = 25 from if_pos h0)
    subst h0
    go_enter Try.func17, Try.ntmps17
    go_wp2_with fail
    exact bodyPost_ret (v := .tuple #[.int .i64 0, .int .i64 25]) (by simp [results, Try.results17, go_sem]) rfl ⟨by rw [hv.out, he.out], rfl⟩
  · have hv : rdV a b = endV (dv a b) := if_neg h0
    have he : rdE a b = endE (dv a b) := if_neg h0
    rw [hv, he]
    clear hv he
    have h0b : (b == 0) = false := beq_eq_false_iff_ne.2 h0
    by_cases hn : b < 0
    · have e1 : dv a b = (131072 * (-a) + (-b)) / (2 * (-b)) := if_pos hn
      obtain ⟨p, hp⟩ : ∃ p, -a = p := ⟨_, rfl⟩
      obtain ⟨q, hq⟩ : ∃ q, -b = q := ⟨_, rfl⟩
      rw [hp, hq] at e1
      have p1 : -2147483648 ≤ p ∧ p ≤ 2147483648 := by omega
      have q1 : 1 ≤ q ∧ q ≤ 2147483648 := by omega
      obtain ⟨p1, p2⟩ := p1
      obtain ⟨q1, q2⟩ := q1
      have E1 := Lib.hid e1
      clear e1
      rw [E1.out]
      go_enter Try.func17, Try.ntmps17
      go_wp2_with fail
      refine (rfloor_any _ _ _ (by omega) (by omega) (by omega) (by omega)).mono ?_
      rintro e w' ⟨rfl, rfl⟩
      go_wp2_with fail
      refine (rend_any _ _).mono ?_
      rintro e w' ⟨rfl, rfl⟩
      go_wp2_with fail
      exact bodyPost_ret (v := .tuple #[.int .i64 (endV ((131072 * p + q) / (2 * q))), .int .i64 (endE ((131072 * p + q) / (2 * q)))]) (by simp [results, Try.results17, go_sem]) rfl ⟨rfl, rfl⟩
    · have e1 : dv a b = (131072 * a + b) / (2 * b) := if_neg hn
      have hb3 : 1 ≤ b := by omega
      rw [e1]
      clear e1
      go_enter Try.func17, Try.ntmps17
      go_wp2_with fail
      refine (rfloor_any _ _ _ (by omega) (by omega) (by omega) (by omega)).mono ?_
      rintro e w' ⟨rfl, rfl⟩
      go_wp2_with fail
      refine (rend_any _ _).mono ?_
      rintro e w' ⟨rfl, rfl⟩
      go_wp2_with fail
      exact bodyPost_ret (v := .tuple #[.int .i64 (endV ((131072 * a + b) / (2 * b))), .int .i64 (endE ((131072 * a + b) / (2 * b)))]) (by simp [results, Try.results17, go_sem]) rfl ⟨rfl, rfl⟩
theorem rdown_any (a : Int) (w : World) (ha1 : -4294967296 ≤ a) (ha2 : a ≤ 4294967296) : Calls Try.prog 40 #[.int .i64 a] w fun e w' => e = .returned (.int .i64 (a / 65536 * 65536)) ∧ w = w' := by
  go_enter Try.func40, Try.ntmps40
  go_wp2_with fail
  refine (rfloor_any _ _ _ (by omega) (by omega) (by omega) (by omega)).mono ?_
  rintro e w' ⟨rfl, rfl⟩
  go_wp2_with fail
  go_ret
  exact ⟨rfl, rfl⟩
theorem rup_any (a : Int) (w : World) (ha : -2147483648 ≤ a ∧ a ≤ 2147483648) : Calls Try.prog 41 #[.int .i64 a] w fun e w' => e = .returned (.int .i64 (-(-a / 65536 * 65536))) ∧ w = w' := by
  obtain ⟨ha1, ha2⟩ := ha
  obtain ⟨p, hp⟩ : ∃ p, -a = p := ⟨_, rfl⟩
  have p1 : -2147483648 ≤ p ∧ p ≤ 2147483648 := by omega
  obtain ⟨p1, p2⟩ := p1
  rw [hp]
  go_enter Try.func41, Try.ntmps41
  go_wp2_with fail
  refine (rdown_any _ _ (by omega) (by omega)).mono ?_
  rintro e w' ⟨rfl, rfl⟩
  go_wp2_with fail
  go_ret
  exact ⟨rfl, rfl⟩
theorem rnear_any (a : Int) (w : World) (ha : -2147483648 ≤ a ∧ a ≤ 2147483648) : Calls Try.prog 42 #[.int .i64 a] w fun e w' => e = .returned (.int .i64 ((a + 32768) / 65536 * 65536)) ∧ w = w' := by
  obtain ⟨ha1, ha2⟩ := ha
  go_enter Try.func42, Try.ntmps42
  go_wp2_with fail
  refine (rdown_any _ _ (by omega) (by omega)).mono ?_
  rintro e w' ⟨rfl, rfl⟩
  go_wp2_with fail
  go_ret
  exact ⟨rfl, rfl⟩
end Go.Proofs.Ytilchjpjmfaghaa.T3
