/- chapter 01: the reference's Sqrt. -/
import Derived.Test.YtilchjpjmfaghaaReT
namespace Go.Proofs.Ytilchjpjmfaghaa.T3
set_option linter.unusedSimpArgs false
set_option linter.unusedVariables false
open Go.RowKit
attribute [local go_sem] Oper.semAt_some
set_option maxHeartbeats 4000000
set_option maxRecDepth 100000
/-- r is the root of a -/
def SQ (a r : Int) : Prop := 0 ≤ r ∧ r * r ≤ a * 65536 ∧ a * 65536 < (r + 1) * (r + 1)
theorem SQ.one {a r s : Int} (h : SQ a r) (g : SQ a s) : r = s := by
  obtain ⟨h0, h1, h2⟩ := h
  obtain ⟨g0, g1, g2⟩ := g
  rcases Int.lt_trichotomy r s with c | c | c
  · exfalso
    have : (r + 1) * (r + 1) ≤ s * s := Int.mul_le_mul (by omega) (by omega) (by omega) (by omega)
    omega
  · exact c
  · exfalso
    have : (s + 1) * (s + 1) ≤ r * r := Int.mul_le_mul (by omega) (by omega) (by omega) (by omega)
    omega
open Classical in
noncomputable def sqV (a : Int) : Int := if h : ∃ r, SQ a r then h.choose else 0
theorem SQ.val {a r : Int} (h : SQ a r) : sqV a = r := by
  unfold sqV
  rw [dif_pos ⟨r, h⟩]
  exact SQ.one (Exists.choose_spec (⟨r, h⟩ : ∃ r, SQ a r)) h
theorem sq_bd {m : Int} (h0 : 0 ≤ m) (h1 : m ≤ 16777216) : 0 ≤ m * m ∧ m * m ≤ 281474976710656 := ⟨Int.mul_nonneg h0 h0, by
  have := Int.mul_le_mul h1 h1 h0 (by omega : (0 : Int) ≤ 16777216)
  omega⟩
theorem rsqrt_any (a : Int) (w : World) (ha : -2147483648 ≤ a ∧ a ≤ 2147483648) :
    Calls Try.prog 39 #[.int .i64 a] w fun e w' => e = .returned (.tuple #[.int .i64 (if a < 0 then 0 else sqV a), .int .i64 (if a < 0 then 23 else 0)]) ∧ w = w' := by
  obtain ⟨ha1, ha2⟩ := ha
  by_cases hneg : a < 0
  · rw [if_pos hneg, if_pos hneg]
    go_enter Try.func39, Try.ntmps39
    go_wp2_with fail
    exact bodyPost_ret (v := .tuple #[.int .i64 0, .int .i64 23]) (by simp [results, Try.results39, go_sem]) rfl ⟨rfl, rfl⟩
  · rw [if_neg hneg, if_neg hneg]
    go_enter Try.func39, Try.ntmps39
    go_wp2_with fail
    go_loop [4, 5] (fun v4 v5 => ∃ lo hi : Int, v4 = .int .i64 lo ∧ v5 = .int .i64 hi ∧ 0 ≤ lo ∧ lo < hi ∧ hi ≤ 16777216 ∧ lo * lo ≤ a * 65536 ∧ a * 65536 < hi * hi) (fun v4 v5 => (intOf v5 - intOf v4).toNat)
    case atStart => exact ⟨0, 16777216, rfl, rfl, by omega, by omega, by omega, by omega, by omega⟩
    case round =>
      obtain ⟨lo, hi, rfl, rfl, h1, h2, h3, h4, h5⟩ := hrel
      by_cases hgo : 1 < hi - lo
      · obtain ⟨m, hm⟩ : ∃ m, (lo + hi) / 2 = m := ⟨_, rfl⟩
        have hq : (lo + hi).tdiv 2 = m := by rw [← hm]; exact Int.tdiv_eq_ediv_of_nonneg (by omega)
        have hm1 : lo < m ∧ m < hi := by omega
        obtain ⟨hm1, hm2⟩ := hm1
        obtain ⟨hs0, hs1⟩ := sq_bd (m := m) (by omega) (by omega)
        clear hm
        have H4 := Lib.hid h4
        have H5 := Lib.hid h5
        clear h4 h5
        by_cases hle : m * m ≤ a * 65536
        · have Hle := Lib.hid hle
          have hd : (decide (m * m ≤ a * 65536)) = true := by simpa using hle
          clear hle
          go_wp2_with fail
          go_round
          case rel => exact ⟨m, hi, rfl, rfl, by omega, by omega, by omega, Hle.out, H5.out⟩
          case measure => simp [intOf]; omega
        · have Hle := Lib.hid hle
          have hd : (decide (m * m ≤ a * 65536)) = false := by simpa using hle
          clear hle
          go_wp2_with fail
          go_round
          case rel => exact ⟨lo, m, rfl, rfl, by omega, by omega, by omega, H4.out, Int.not_le.1 Hle.out⟩
          case measure => simp [intOf]; omega
      · have hv : sqV a = lo := SQ.val ⟨h1, h4, by rw [show lo + 1 = hi by omega]; exact h5⟩
        have Hv := Lib.hid hv
        clear hv h4 h5
        go_wp2_with fail
        exact bodyPost_ret (v := .tuple #[.int .i64 lo, .int .i64 0]) (by simp [results, Try.results39, go_sem]) rfl ⟨by rw [Hv.out], rfl⟩
end Go.Proofs.Ytilchjpjmfaghaa.T3
