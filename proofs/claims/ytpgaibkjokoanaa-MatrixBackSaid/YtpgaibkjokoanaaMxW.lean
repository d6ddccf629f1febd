/- The reference's Quotient returns what the plain form tells. -/
import Derived.Test.YtpgaibkjokoanaaMxU
import Derived.Test.YtpgaibkjokoanaaMxS
import Derived.WalkKit
import Derived.Lib.Hide
import Derived.Deep.QuietTactic
import Derived.BigQuiet
import Derived.Lib.QuietBelow
import Derived.Deep.RegionHeld3
import Derived.WalkLawsBesides
import Derived.WalkSpells
import Derived.Outline
import Derived.Deep.DeepFit
import Derived.Maps.AppendAt
import Derived.Deep.AppendLies
namespace Go.Proofs.Ytpgaibkjokoanaa.T3
set_option linter.unusedSimpArgs false
set_option linter.unusedVariables false
open Go.RowKit
set_option maxHeartbeats 1000000
theorem quo_start (n d q : Int) (hd : 0 < d) (hq : n / d = q) (h1 : -1152921504606846976 ≤ n) (h2 : n ≤ 1152921504606846976) : q * d + (n - q * d) = 1 * n ∧ 0 ≤ n - q * d ∧ n - q * d < d := by
  have h := Int.mul_ediv_add_emod n d
  rw [hq] at h
  have a := Int.emod_nonneg n (show d ≠ 0 by omega)
  have b := Int.emod_lt_of_pos n hd
  have e : d * q = q * d := Int.mul_comm _ _
  omega
theorem quo_end (n d x y : Int) (hd : 0 < d) (y0 : 0 ≤ y) (y1 : y < d) (h : x * d + y = 65536 * n) : (65536 * n) / d = x ∧ (65536 * n) % d = y := by
  rw [← h, Int.add_comm, Int.add_mul_ediv_right _ _ (by omega), Int.add_mul_emod_self_right, Int.ediv_eq_zero_of_lt y0 y1, Int.emod_eq_of_lt y0 y1]
  omega
/-- after k digits -/
def QRel (n d : Int) (k : Nat) (p x y : Int) : Prop := 0 ≤ y ∧ y < d ∧ p = 2 ^ k ∧ 1 ≤ p ∧ k ≤ 16 ∧ x * d + y = p * n ∧ -16777216 * p ≤ x ∧ x ≤ 33554432 * p - 1
theorem pow_le (k : Nat) (p : Int) (h : p = 2 ^ k) (hk : k < 16) : p ≤ 32768 := by
  subst h
  have : k ≤ 15 := by omega
  have h2 := Nat.pow_le_pow_right (show 0 < 2 by omega) this
  have e : ((2 ^ k : Nat) : Int) = (2 : Int) ^ k := by simp
  omega
theorem pow_up (k : Nat) (p : Int) (h : p = 2 ^ k) : 2 * p = 2 ^ (k + 1) := by rw [Int.pow_succ, ← h]; omega
theorem rquo_pos (n d : Int) (w : World) (hd : 0 < d) (hd2 : d ≤ 1125899906842624) (h1 : -1152921504606846976 ≤ n) (h2 : n ≤ 1152921504606846976) :
    Calls Try.prog 51 #[.int .i64 (n), .int .i64 (d)] w fun e w' => e = .returned (.tuple #[.int .i64 (qtV n d), .bool (qtB n d)]) ∧ w = w' := by
  have hz : ¬ d = 0 := by omega
  obtain ⟨q, hq⟩ : ∃ q, n / d = q := ⟨_, rfl⟩
  obtain ⟨m1, m2, m3⟩ := quo_start n d q hd hq (by omega) (by omega)
  by_cases hw : inB q 16777216 = true
  · have q1 : -16777216 ≤ q ∧ q ≤ 16777216 := by simpa [inB] using hw
    obtain ⟨q1, q2⟩ := q1
    have hqb := Lib.hid (show qtB n d = true by rw [qtB, hq, within1]; exact hw)
    have hqv := show qtV n d = (65536 * n) / d + (if d ≤ 2 * ((65536 * n) % d) then 1 else 0) from if_pos hqb.out
    have HQ := Lib.hid hq
    have hw := Lib.hid hw
    clear hq
    rw [hqb.out]
    go_enter Try.func51, Try.ntmps51
    go_wp2_with fail
    refine (floor_any _ _ _ hd (by omega) (by omega) (by omega)).mono ?_
    rintro e w' ⟨rfl, rfl⟩
    rw [HQ.out]
    go_wp2_with fail
    refine (in_any _ _ _ (by omega) (by omega)).mono ?_
    rintro e w' ⟨rfl, rfl⟩
    rw [hw.out]
    go_wp2_with fail
    go_loopw [6, 7, 8] (fun v6 v7 i wr => w = wr ∧ ∃ (k : Nat) (p x y : Int), i = .int .i64 k ∧ v6 = .int .i64 x ∧ v7 = .int .i64 y ∧ QRel n d k p x y) (fun _ _ i _ => 16 - (intOf i).toNat)
    case atStart => exact ⟨rfl, 0, 1, _, _, rfl, rfl, rfl, by omega, by omega, rfl, by omega, by omega, m1, by omega, by omega⟩
    case round =>
      obtain ⟨rfl, k, p, x, y, rfl, rfl, rfl, hR⟩ := hrel
      obtain ⟨y0, y1, hp, p1, hk, hx, x1, x2⟩ := hR
      by_cases hk6 : k < 16
      · have p2 := pow_le k p hp hk6
        have hkk : (k : Int) < 16 := by omega
        have hcc := Lib.hid (show (k : Int) + 1 = ((k + 1 : Nat) : Int) by omega)
        have hp' := Lib.hid (pow_up k p hp)
        have hx' := Lib.hid hx
        clear hp hx
        by_cases hc : d ≤ 2 * y
        · go_wp2_with fail
          go_roundw
          case rel => exact ⟨by trivial, k + 1, 2 * p, _, _, quo_eq _ _ hcc.out, rfl, rfl, by omega, by omega, hp'.out, by omega, by omega, by have h9 := hx'.out; grind, by omega, by omega⟩
          case measure => simp [intOf]; omega
        · go_wp2_with fail
          go_roundw
          case rel => exact ⟨by trivial, k + 1, 2 * p, _, _, quo_eq _ _ hcc.out, rfl, rfl, by omega, by omega, hp'.out, by omega, by omega, by have h9 := hx'.out; grind, by omega, by omega⟩
          case measure => simp [intOf]; omega
      · have hk16 : k = 16 := by omega
        subst hk16
        have hkk : ¬ ((16 : Nat) : Int) < 16 := by omega
        have p2 : p = 65536 := hp
        subst p2
        obtain ⟨e1, e2⟩ := quo_end n d x y hd y0 y1 hx
        rw [e1, e2] at hqv
        by_cases hc : d ≤ 2 * y
        · rw [if_pos hc] at hqv
          have hqv := Lib.hid hqv
          clear e1 e2 hx hp
          go_wp2_with fail
          exact bodyPost_ret (v := .tuple #[.int .i64 (x + 1), .bool true]) (by simp [results, Try.results51, go_sem]) rfl ⟨by first | rfl | rw [hqv.out], by first | rfl | trivial⟩
        · rw [if_neg hc, Int.add_zero] at hqv
          have hqv := Lib.hid hqv
          clear e1 e2 hx hp
          go_wp2_with fail
          exact bodyPost_ret (v := .tuple #[.int .i64 x, .bool true]) (by simp [results, Try.results51, go_sem]) rfl ⟨by first | rfl | rw [hqv.out], by first | rfl | trivial⟩
  · have hwf : inB q 16777216 = false := by simpa using hw
    have hqb := Lib.hid (show qtB n d = false by rw [qtB, hq, within1]; exact hwf)
    have hqv := Lib.hid (show qtV n d = 0 by rw [qtV, hqb.out]; rfl)
    have HQ := Lib.hid hq
    have hw := Lib.hid hwf
    clear hwf hq
    rw [hqb.out, hqv.out]
    go_enter Try.func51, Try.ntmps51
    go_wp2_with fail
    refine (floor_any _ _ _ hd (by omega) (by omega) (by omega)).mono ?_
    rintro e w' ⟨rfl, rfl⟩
    rw [HQ.out]
    go_wp2_with fail
    refine (in_any _ _ _ (by omega) (by omega)).mono ?_
    rintro e w' ⟨rfl, rfl⟩
    rw [hw.out]
    go_wp2_with fail
    exact bodyPost_ret (v := .tuple #[.int .i64 0, .bool false]) (by simp [results, Try.results51, go_sem]) rfl ⟨rfl, rfl⟩
theorem rquo_neg (n d : Int) (w : World) (hd : 0 < d) (hd2 : d ≤ 1125899906842624) (h1 : -1152921504606846976 ≤ n) (h2 : n ≤ 1152921504606846976) :
    Calls Try.prog 51 #[.int .i64 (-n), .int .i64 (-d)] w fun e w' => e = .returned (.tuple #[.int .i64 (qtV n d), .bool (qtB n d)]) ∧ w = w' := by
  have hz : ¬ -d = 0 := by omega
  obtain ⟨q, hq⟩ : ∃ q, n / d = q := ⟨_, rfl⟩
  obtain ⟨m1, m2, m3⟩ := quo_start n d q hd hq (by omega) (by omega)
  by_cases hw : inB q 16777216 = true
  · have q1 : -16777216 ≤ q ∧ q ≤ 16777216 := by simpa [inB] using hw
    obtain ⟨q1, q2⟩ := q1
    have hqb := Lib.hid (show qtB n d = true by rw [qtB, hq, within1]; exact hw)
    have hqv := show qtV n d = (65536 * n) / d + (if d ≤ 2 * ((65536 * n) % d) then 1 else 0) from if_pos hqb.out
    have HQ := Lib.hid hq
    have hw := Lib.hid hw
    clear hq
    rw [hqb.out]
    go_enter Try.func51, Try.ntmps51
    go_wp2_with fail
    refine (floor_any _ _ _ hd (by omega) (by omega) (by omega)).mono ?_
    rintro e w' ⟨rfl, rfl⟩
    rw [HQ.out]
    go_wp2_with fail
    refine (in_any _ _ _ (by omega) (by omega)).mono ?_
    rintro e w' ⟨rfl, rfl⟩
    rw [hw.out]
    go_wp2_with fail
    go_loopw [6, 7, 8] (fun v6 v7 i wr => w = wr ∧ ∃ (k : Nat) (p x y : Int), i = .int .i64 k ∧ v6 = .int .i64 x ∧ v7 = .int .i64 y ∧ QRel n d k p x y) (fun _ _ i _ => 16 - (intOf i).toNat)
    case atStart => exact ⟨rfl, 0, 1, _, _, rfl, rfl, rfl, by omega, by omega, rfl, by omega, by omega, m1, by omega, by omega⟩
    case round =>
      obtain ⟨rfl, k, p, x, y, rfl, rfl, rfl, hR⟩ := hrel
      obtain ⟨y0, y1, hp, p1, hk, hx, x1, x2⟩ := hR
      by_cases hk6 : k < 16
      · have p2 := pow_le k p hp hk6
        have hkk : (k : Int) < 16 := by omega
        have hcc := Lib.hid (show (k : Int) + 1 = ((k + 1 : Nat) : Int) by omega)
        have hp' := Lib.hid (pow_up k p hp)
        have hx' := Lib.hid hx
        clear hp hx
        by_cases hc : d ≤ 2 * y
        · go_wp2_with fail
          go_roundw
          case rel => exact ⟨by trivial, k + 1, 2 * p, _, _, quo_eq _ _ hcc.out, rfl, rfl, by omega, by omega, hp'.out, by omega, by omega, by have h9 := hx'.out; grind, by omega, by omega⟩
          case measure => simp [intOf]; omega
        · go_wp2_with fail
          go_roundw
          case rel => exact ⟨by trivial, k + 1, 2 * p, _, _, quo_eq _ _ hcc.out, rfl, rfl, by omega, by omega, hp'.out, by omega, by omega, by have h9 := hx'.out; grind, by omega, by omega⟩
          case measure => simp [intOf]; omega
      · have hk16 : k = 16 := by omega
        subst hk16
        have hkk : ¬ ((16 : Nat) : Int) < 16 := by omega
        have p2 : p = 65536 := hp
        subst p2
        obtain ⟨e1, e2⟩ := quo_end n d x y hd y0 y1 hx
        rw [e1, e2] at hqv
        by_cases hc : d ≤ 2 * y
        · rw [if_pos hc] at hqv
          have hqv := Lib.hid hqv
          clear e1 e2 hx hp
          go_wp2_with fail
          exact bodyPost_ret (v := .tuple #[.int .i64 (x + 1), .bool true]) (by simp [results, Try.results51, go_sem]) rfl ⟨by first | rfl | rw [hqv.out], by first | rfl | trivial⟩
        · rw [if_neg hc, Int.add_zero] at hqv
          have hqv := Lib.hid hqv
          clear e1 e2 hx hp
          go_wp2_with fail
          exact bodyPost_ret (v := .tuple #[.int .i64 x, .bool true]) (by simp [results, Try.results51, go_sem]) rfl ⟨by first | rfl | rw [hqv.out], by first | rfl | trivial⟩
  · have hwf : inB q 16777216 = false := by simpa using hw
    have hqb := Lib.hid (show qtB n d = false by rw [qtB, hq, within1]; exact hwf)
    have hqv := Lib.hid (show qtV n d = 0 by rw [qtV, hqb.out]; rfl)
    have HQ := Lib.hid hq
    have hw := Lib.hid hwf
    clear hwf hq
    rw [hqb.out, hqv.out]
    go_enter Try.func51, Try.ntmps51
    go_wp2_with fail
    refine (floor_any _ _ _ hd (by omega) (by omega) (by omega)).mono ?_
    rintro e w' ⟨rfl, rfl⟩
    rw [HQ.out]
    go_wp2_with fail
    refine (in_any _ _ _ (by omega) (by omega)).mono ?_
    rintro e w' ⟨rfl, rfl⟩
    rw [hw.out]
    go_wp2_with fail
    exact bodyPost_ret (v := .tuple #[.int .i64 0, .bool false]) (by simp [results, Try.results51, go_sem]) rfl ⟨rfl, rfl⟩
theorem rquo_any (n d : Int) (w : World) (hd : ¬ d = 0) (hd1 : -1125899906842624 ≤ d) (hd2 : d ≤ 1125899906842624) (h1 : -1152921504606846976 ≤ n) (h2 : n ≤ 1152921504606846976) :
    Calls Try.prog 51 #[.int .i64 n, .int .i64 d] w fun e w' => e = .returned (.tuple #[.int .i64 (qaV n d), .bool (qaB n d)]) ∧ w = w' := by
  unfold qaV qaB sgn
  by_cases c : d < 0
  · rw [if_pos c, if_pos c]
    obtain ⟨d', hd'⟩ : ∃ d', d' = -d := ⟨_, rfl⟩
    obtain ⟨n', hn'⟩ : ∃ n', n' = -n := ⟨_, rfl⟩
    have e1 : d = -d' := by omega
    have e2 : n = -n' := by omega
    rw [← hd', ← hn']
    subst e1
    subst e2
    exact rquo_neg n' d' w (by omega) (by omega) (by omega) (by omega)
  · rw [if_neg c, if_neg c]
    exact rquo_pos n d w (by omega) hd2 h1 h2
end Go.Proofs.Ytpgaibkjokoanaa.T3
