/- matrix.sine, Sine and the reference's Sin, Sine return what the plain forms tell. -/
import Derived.Test.YtpgaibkjokoanaaMxB
import Derived.WalkKit
import Derived.Lib.Hide
import Derived.Deep.QuietTactic
import Derived.BigQuiet
import Derived.Lib.QuietBelow
import Derived.Deep.RegionHeld3
import Derived.WalkLawsBesides
import Derived.WalkSpells
import Derived.Outline
import Derived.Deep.DeepFit
import Derived.Maps.AppendAt
import Derived.Deep.AppendLies
namespace Go.Proofs.Ytpgaibkjokoanaa.T3
set_option linter.unusedSimpArgs false
set_option linter.unusedVariables false
open Go.RowKit
set_option maxHeartbeats 1000000
/-- the sine of an angle from 0 to below 180 degrees; of any angle -/
def sLo (n : Int) : Int := (262144 * (n * (11796480 - n))) / (173946175488000 - n * (11796480 - n)) + (if 173946175488000 - n * (11796480 - n) ≤ 2 * ((262144 * (n * (11796480 - n))) % (173946175488000 - n * (11796480 - n))) then 1 else 0)
def sAny (n : Int) : Int := if n % 23592960 < 11796480 then sLo (n % 23592960) else -sLo (n % 23592960 - 11796480)
theorem prod_bd {n : Int} (h1 : 0 ≤ n) (h2 : n < 11796480) : 0 ≤ n * (11796480 - n) ∧ n * (11796480 - n) ≤ 34789235097600 := by
  constructor
  · exact Int.mul_nonneg h1 (by omega)
  · have e : n * (11796480 - n) = 34789235097600 - (n - 5898240) * (n - 5898240) := by grind
    have h : 0 ≤ (n - 5898240) * (n - 5898240) := by
      rcases Int.le_total 0 (n - 5898240) with h | h
      · exact Int.mul_nonneg h h
      · have := Int.mul_nonneg (show 0 ≤ -(n - 5898240) by omega) (show 0 ≤ -(n - 5898240) by omega)
        rw [Int.neg_mul_neg] at this
        exact this
    omega
theorem quo_bd {p : Int} (h1 : 0 ≤ p) (h2 : p ≤ 34789235097600) : 0 ≤ 262144 * p / (173946175488000 - p) ∧ 262144 * p / (173946175488000 - p) ≤ 65536 ∧ 0 ≤ 262144 * p % (173946175488000 - p) ∧ 262144 * p % (173946175488000 - p) < 173946175488000 - p := by
  have hu : 0 < 173946175488000 - p := by omega
  refine ⟨Int.ediv_nonneg (by omega) (by omega), ?_, Int.emod_nonneg _ (by omega), Int.emod_lt_of_pos _ hu⟩
  have := Int.mul_ediv_add_emod (262144 * p) (173946175488000 - p)
  have h3 := Int.emod_nonneg (262144 * p) (show 173946175488000 - p ≠ 0 by omega)
  by_cases hc : 262144 * p / (173946175488000 - p) ≤ 65536
  · exact hc
  · exfalso
    have h4 : (173946175488000 - p) * 65537 ≤ (173946175488000 - p) * (262144 * p / (173946175488000 - p)) := Int.mul_le_mul_of_nonneg_left (by omega) (by omega)
    omega
theorem sLo_bd {n : Int} (h1 : 0 ≤ n) (h2 : n < 11796480) : 0 ≤ sLo n ∧ sLo n ≤ 65537 := by
  obtain ⟨p1, p2⟩ := prod_bd h1 h2
  obtain ⟨q1, q2, _⟩ := quo_bd p1 p2
  unfold sLo
  split <;> omega
theorem msin_gen (n k : Int) (w : World) (b1 : -23592960 < n.tmod 23592960) (b2 : n.tmod 23592960 < 23592960) (hk : (n.tmod 23592960 + 23592960) % 23592960 = k) (k1 : 0 ≤ k) (k2 : k < 11796480) :
    Calls Try.prog 41 #[.int .i64 n] w fun e w' => e = .returned (.int .i64 (sLo k)) ∧ w = w' := by
  obtain ⟨p1, p2⟩ := prod_bd k1 k2
  obtain ⟨q1, q2, q3, q4⟩ := quo_bd p1 p2
  obtain ⟨p, hp⟩ : ∃ p, k * (11796480 - k) = p := ⟨_, rfl⟩
  rw [hp] at p1 p2 q1 q2 q3 q4
  by_cases hc : 173946175488000 - p ≤ 2 * (262144 * p % (173946175488000 - p))
  · have HV := Lib.hid (show sLo k = 262144 * p / (173946175488000 - p) + 1 by unfold sLo; rw [hp, if_pos hc])
    go_enter Try.func41, Try.ntmps41
    go_wp2_with fail
    go_ret
    exact ⟨ret_int HV.out.symm, rfl⟩
  · have HV := Lib.hid (show sLo k = 262144 * p / (173946175488000 - p) by unfold sLo; rw [hp, if_neg hc]; omega)
    go_enter Try.func41, Try.ntmps41
    go_wp2_with fail
    go_ret
    exact ⟨ret_int HV.out.symm, rfl⟩
theorem msin_k (n : Int) : (-23592960 < n.tmod 23592960 ∧ n.tmod 23592960 < 23592960) ∧ (n.tmod 23592960 + 23592960) % 23592960 = n % 23592960 := by
  have h1 := Int.tmod_lt_of_pos n (show (0 : Int) < 23592960 by omega)
  have h2 := Int.lt_tmod_of_pos n (show (0 : Int) < 23592960 by omega)
  have h3 := Int.tmod_add_mul_tdiv n 23592960
  refine ⟨⟨by omega, h1⟩, ?_⟩
  omega
theorem msin_any (n : Int) (w : World) : Calls Try.prog 41 #[.int .i64 n] w fun e w' => e = .returned (.int .i64 (sAny n)) ∧ w = w' := by
  obtain ⟨⟨b1, b2⟩, hk⟩ := msin_k n
  obtain ⟨k, hk2⟩ : ∃ k, n % 23592960 = k := ⟨_, rfl⟩
  have hk0 : 0 ≤ k ∧ k < 23592960 := by omega
  obtain ⟨k0, k3⟩ := hk0
  rw [hk2] at hk
  by_cases h : k < 11796480
  · rw [show sAny n = sLo k by rw [sAny, hk2, if_pos h]]
    exact msin_gen n k w b1 b2 hk k0 h
  · have hs : sAny n = -sLo (k - 11796480) := by rw [sAny, hk2, if_neg h]
    obtain ⟨s1, s2⟩ := sLo_bd (n := k - 11796480) (by omega) (by omega)
    obtain ⟨s, hs3⟩ : ∃ s, sLo (k - 11796480) = s := ⟨_, rfl⟩
    have hs := Lib.hid hs
    have hs4 := Lib.hid hs3
    rw [hs3] at s1 s2
    clear hk2 hs3
    obtain ⟨⟨c1, c2⟩, hk4⟩ := msin_k (k - 11796480)
    have hk5 : (k - 11796480) % 23592960 = k - 11796480 := by omega
    have hk4 := Lib.hid (hk4.trans hk5)
    clear hk5
    go_enter Try.func41, Try.ntmps41
    go_wp2_with fail
    refine (msin_gen (k - 11796480) (k - 11796480) _ c1 c2 hk4.out (by omega) (by omega)).mono ?_
    rintro e w' ⟨rfl, rfl⟩
    rw [hs4.out]
    go_wp2_with fail
    go_ret
    exact ⟨ret_int (by rw [hs.out, hs4.out]), rfl⟩
theorem rsin_lo (k : Int) (w : World) (k1 : 0 ≤ k) (k2 : k < 11796480) :
    Calls Try.prog 43 #[.int .i64 k] w fun e w' => e = .returned (.int .i64 (sLo k)) ∧ w = w' := by
  obtain ⟨p1, p2⟩ := prod_bd k1 k2
  obtain ⟨q1, q2, q3, q4⟩ := quo_bd p1 p2
  obtain ⟨p, hp⟩ : ∃ p, k * (11796480 - k) = p := ⟨_, rfl⟩
  rw [hp] at p1 p2 q1 q2 q3 q4
  go_enter Try.func43, Try.ntmps43
  go_wp2_with fail
  go_loop [0] (fun v => v = .int .i64 k) (fun _ => 0)
  case atStart => exact rfl
  case round =>
    obtain rfl := hrel
    go_wp2_with fail
    go_loop [0] (fun v => v = .int .i64 k) (fun _ => 0)
    case atStart => exact rfl
    case round =>
      obtain rfl := hrel
      by_cases hc : 173946175488000 - p ≤ 2 * (262144 * p % (173946175488000 - p))
      · have HV := Lib.hid (show sLo k = 262144 * p / (173946175488000 - p) + 1 by unfold sLo; rw [hp, if_pos hc])
        go_wp2_with fail
        go_ret
        exact ⟨ret_int HV.out.symm, rfl⟩
      · have HV := Lib.hid (show sLo k = 262144 * p / (173946175488000 - p) by unfold sLo; rw [hp, if_neg hc]; omega)
        go_wp2_with fail
        go_ret
        exact ⟨ret_int HV.out.symm, rfl⟩
theorem rsin_any (n : Int) (w : World) (h1 : -4294967296 ≤ n) (h2 : n ≤ 4294967296) :
    Calls Try.prog 43 #[.int .i64 n] w fun e w' => e = .returned (.int .i64 (sAny n)) ∧ w = w' := by
  go_enter Try.func43, Try.ntmps43
  go_wp2_with fail
  go_loop [0] (fun v => ∃ m : Int, v = .int .i64 m ∧ m % 23592960 = n % 23592960 ∧ -4294967296 ≤ m ∧ m ≤ 4294967296) (fun v => (-intOf v).toNat)
  case atStart => exact ⟨n, rfl, rfl, h1, h2⟩
  case round =>
    obtain ⟨m, rfl, hm, m1, m2⟩ := hrel
    have hm := Lib.hid hm
    by_cases hn : m < 0
    · go_wp2_with fail
      go_round
      case rel => exact ⟨m + 23592960, by go_num, by have := hm.out; omega, by omega, by omega⟩
      case measure => simp [intOf]; omega
    · go_wp2_with fail
      go_loop [0] (fun v => ∃ k : Int, v = .int .i64 k ∧ k % 23592960 = n % 23592960 ∧ 0 ≤ k ∧ k ≤ 4294967296) (fun v => (intOf v).toNat)
      case atStart => exact ⟨m, rfl, hm.out, by omega, m2⟩
      case round =>
        obtain ⟨k, rfl, hk, k1, k3⟩ := hrel
        have hk := Lib.hid hk
        by_cases hb : 23592960 ≤ k
        · go_wp2_with fail
          go_round
          case rel => exact ⟨k - 23592960, by go_num, by have := hk.out; omega, by omega, by omega⟩
          case measure => simp [intOf]; omega
        · have hkn : n % 23592960 = k := by have := hk.out; omega
          by_cases k2 : k < 11796480
          · have HS := Lib.hid (show sAny n = sLo k by rw [sAny, hkn, if_pos k2])
            clear hkn
            obtain ⟨p1, p2⟩ := prod_bd k1 k2
            obtain ⟨q1, q2, q3, q4⟩ := quo_bd p1 p2
            obtain ⟨p, hp⟩ : ∃ p, k * (11796480 - k) = p := ⟨_, rfl⟩
            rw [hp] at p1 p2 q1 q2 q3 q4
            by_cases hc : 173946175488000 - p ≤ 2 * (262144 * p % (173946175488000 - p))
            · have HV := Lib.hid (show sLo k = 262144 * p / (173946175488000 - p) + 1 by unfold sLo; rw [hp, if_pos hc])
              go_wp2_with fail
              go_ret
              exact ⟨ret_int (HS.out.trans HV.out).symm, rfl⟩
            · have HV := Lib.hid (show sLo k = 262144 * p / (173946175488000 - p) by unfold sLo; rw [hp, if_neg hc]; omega)
              go_wp2_with fail
              go_ret
              exact ⟨ret_int (HS.out.trans HV.out).symm, rfl⟩
          · have HS := Lib.hid (show sAny n = -sLo (k - 11796480) by rw [sAny, hkn, if_neg k2])
            clear hkn
            obtain ⟨s1, s2⟩ := sLo_bd (n := k - 11796480) (by omega) (by omega)
            obtain ⟨s, hs3⟩ : ∃ s, sLo (k - 11796480) = s := ⟨_, rfl⟩
            rw [hs3] at s1 s2
            have hs4 := Lib.hid hs3
            clear hs3
            go_wp2_with fail
            refine (rsin_lo (k - 11796480) _ (by omega) (by omega)).mono ?_
            rintro e w' ⟨rfl, rfl⟩
            rw [hs4.out]
            go_wp2_with fail
            go_ret
            exact ⟨ret_int (by rw [HS.out, hs4.out]), rfl⟩
def snE (n : Int) : Int := if withinB 2147483648 [n] = true then 0 else 2
def snV (n : Int) : Int := if withinB 2147483648 [n] = true then sAny n else 0
theorem within1 (most x : Int) : withinB most [x] = inB x most := by simp [withinB, inB, Bool.decide_and]
theorem msine_any (n : Int) (w : World) : Calls Try.prog 12 #[.int .i64 n] w fun e w' => e = .returned (.tuple #[.int .i64 (snV n), .int .i64 (snE n)]) ∧ Below w.heap.size w w' := by
  by_cases h : withinB 2147483648 [n] = true
  · rw [show snV n = sAny n from if_pos h, show snE n = 0 from if_pos h]
    have hb : -2147483648 ≤ n ∧ n ≤ 2147483648 := by simpa [withinB] using h
    obtain ⟨b1, b2⟩ := hb
    have H := Lib.hid (h)
    clear h
    go_enter Try.func12, Try.ntmps12
    go_wp2_with fail
    refine (within_any _ [n] _ 0 1 _ (by omega) (by omega) (by simp) (row_cells [n] (rw_new (by simp)))).mono ?_
    rintro e w' ⟨rfl, rfl⟩
    rw [H.out]
    go_wp2_with fail
    refine (msin_any _ _).mono ?_
    rintro e w' ⟨rfl, rfl⟩
    go_wp2_with fail
    exact bodyPost_ret (v := .tuple #[.int .i64 (sAny n), .int .i64 0]) (by simp [results, Try.results12, go_sem]) rfl ⟨rfl, (by with_reducible repeat (first | exact Below.refl _ _ | assumption | ((first | refine Below.alloc ?_ ?b_ _ | refine bw_set ?_ ?b_ | refine Below.setCell ?_ ?b_ _); case b_ => first | omega | (simp; done) | (simp; omega)) | refine Below.drew ?_ | refine below_drewN ?_ _))⟩
  · rw [show snV n = 0 from if_neg h, show snE n = 2 from if_neg h]
    have h' : withinB 2147483648 [n] = false := by simpa using h
    have H := Lib.hid (h')
    clear h h'
    go_enter Try.func12, Try.ntmps12
    go_wp2_with fail
    refine (within_any _ [n] _ 0 1 _ (by omega) (by omega) (by simp) (row_cells [n] (rw_new (by simp)))).mono ?_
    rintro e w' ⟨rfl, rfl⟩
    rw [H.out]
    go_wp2_with fail
    exact bodyPost_ret (v := .tuple #[.int .i64 0, .int .i64 2]) (by simp [results, Try.results12, go_sem]) rfl ⟨rfl, (by with_reducible repeat (first | exact Below.refl _ _ | assumption | ((first | refine Below.alloc ?_ ?b_ _ | refine bw_set ?_ ?b_ | refine Below.setCell ?_ ?b_ _); case b_ => first | omega | (simp; done) | (simp; omega)) | refine Below.drew ?_ | refine below_drewN ?_ _))⟩
theorem rsine_any (n : Int) (w : World) : Calls Try.prog 13 #[.int .i64 n] w fun e w' => e = .returned (.tuple #[.int .i64 (snV n), .int .i64 (snE n)]) ∧ Below w.heap.size w w' := by
  by_cases h : withinB 2147483648 [n] = true
  · rw [show snV n = sAny n from if_pos h, show snE n = 0 from if_pos h]
    have hb : -2147483648 ≤ n ∧ n ≤ 2147483648 := by simpa [withinB] using h
    obtain ⟨b1, b2⟩ := hb
    have H := Lib.hid ((within1 2147483648 n).symm.trans h)
    clear h
    go_enter Try.func13, Try.ntmps13
    go_wp2_with fail
    refine (in_any n 2147483648 _ (by omega) (by omega)).mono ?_
    rintro e w' ⟨rfl, rfl⟩
    rw [H.out]
    go_wp2_with fail
    refine (rsin_any n _ (by omega) (by omega)).mono ?_
    rintro e w' ⟨rfl, rfl⟩
    go_wp2_with fail
    exact bodyPost_ret (v := .tuple #[.int .i64 (sAny n), .int .i64 0]) (by simp [results, Try.results13, go_sem]) rfl ⟨rfl, (by with_reducible repeat (first | exact Below.refl _ _ | assumption | ((first | refine Below.alloc ?_ ?b_ _ | refine bw_set ?_ ?b_ | refine Below.setCell ?_ ?b_ _); case b_ => first | omega | (simp; done) | (simp; omega)) | refine Below.drew ?_ | refine below_drewN ?_ _))⟩
  · rw [show snV n = 0 from if_neg h, show snE n = 2 from if_neg h]
    have h' : withinB 2147483648 [n] = false := by simpa using h
    have H := Lib.hid ((within1 2147483648 n).symm.trans h')
    clear h h'
    go_enter Try.func13, Try.ntmps13
    go_wp2_with fail
    refine (in_any n 2147483648 _ (by omega) (by omega)).mono ?_
    rintro e w' ⟨rfl, rfl⟩
    rw [H.out]
    go_wp2_with fail
    exact bodyPost_ret (v := .tuple #[.int .i64 0, .int .i64 2]) (by simp [results, Try.results13, go_sem]) rfl ⟨rfl, (by with_reducible repeat (first | exact Below.refl _ _ | assumption | ((first | refine Below.alloc ?_ ?b_ _ | refine bw_set ?_ ?b_ | refine Below.setCell ?_ ?b_ _); case b_ => first | omega | (simp; done) | (simp; omega)) | refine Below.drew ?_ | refine below_drewN ?_ _))⟩
end Go.Proofs.Ytpgaibkjokoanaa.T3
