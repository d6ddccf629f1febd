/- chapter 01: Sqrt. -/
import Derived.Test.YtilchjpjmfaghaaReU
import Derived.Test.YtilchjpjmfaghaaReO
namespace Go.Proofs.Ytilchjpjmfaghaa.T3
set_option linter.unusedSimpArgs false
set_option linter.unusedVariables false
open Go.RowKit
attribute [local go_sem] Oper.semAt_some
set_option maxHeartbeats 4000000
set_option maxRecDepth 100000
theorem lt_aux : ∀ (f x : Nat), x < 2 ^ f → x < 2 ^ Lib.bitLenAux f x
  | 0, x, h => by simpa [Lib.bitLenAux] using h
  | f + 1, x, h => by
    unfold Lib.bitLenAux
    split
    · rename_i h0
      have : x = 0 := by simpa using h0
      omega
    · have := lt_aux f (x / 2) (by rw [Nat.pow_succ] at h; omega)
      rw [Nat.pow_add, Nat.pow_one]
      omega
def lg (a : Int) : Nat := (Lib.bitLen (a * 65536).toNat + 1) / 2
theorem lg_le {a : Int} (h0 : 0 ≤ a) (h1 : a ≤ 2147483648) : Lib.bitLen (a * 65536).toNat ≤ 48 ∧ lg a ≤ 24 := by
  have := Lib.bitLen_le (a * 65536).toNat 48 (by omega) (by omega)
  unfold lg
  omega
theorem lg_gt {a : Int} (h0 : 0 ≤ a) (h1 : a ≤ 2147483648) : a * 65536 < (0 + 2 * 2 ^ lg a) * (0 + 2 * 2 ^ lg a) := by
  have h := lt_aux 64 (a * 65536).toNat (by omega)
  have hp : 2 ^ Lib.bitLen (a * 65536).toNat ≤ 2 ^ (lg a + 1 + (lg a + 1)) := Nat.pow_le_pow_right (by omega) (by unfold lg; omega)
  have h2 : (a * 65536).toNat < 2 ^ (lg a + 1 + (lg a + 1)) := Nat.lt_of_lt_of_le h hp
  rw [Nat.pow_add] at h2
  have h3 : (((a * 65536).toNat : Nat) : Int) < ((2 ^ (lg a + 1) * 2 ^ (lg a + 1) : Nat) : Int) := Int.ofNat_lt.2 h2
  rw [Int.toNat_of_nonneg (by omega)] at h3
  have h4 : (((2 ^ (lg a + 1) : Nat)) : Int) = 0 + 2 * 2 ^ lg a := by push_cast; rw [Int.pow_succ]; omega
  rw [Int.natCast_mul, h4] at h3
  exact h3
theorem p2_bd {k : Nat} (h : k ≤ 24) : 1 ≤ (2 : Int) ^ k ∧ (2 : Int) ^ k ≤ 16777216 := by
  have h1 := Nat.pow_le_pow_right (n := 2) (by omega) h
  have h2 := Nat.pow_pos (n := k) (show 0 < 2 by omega)
  have h3 : ((2 ^ k : Nat) : Int) = (2 : Int) ^ k := by push_cast; rfl
  omega
theorem p2_half {b : Int} (h : ∃ j : Nat, b = 2 ^ j) : b / 2 = 0 ∧ b = 1 ∨ 0 < b / 2 ∧ b = 2 * (b / 2) ∧ ∃ j : Nat, b / 2 = 2 ^ j := by
  obtain ⟨j, rfl⟩ := h
  cases j with
  | zero => left; decide
  | succ j =>
    have h1 : (2 : Int) ^ (j + 1) = 2 ^ j * 2 := Int.pow_succ _ _
    have h2 : (0 : Int) < 2 ^ j := Int.pow_pos (by omega)
    have h3 : (2 : Int) ^ (j + 1) / 2 = 2 ^ j := by omega
    exact .inr ⟨by omega, by omega, j, h3⟩
theorem sq_bd2 {m : Int} (h0 : 0 ≤ m) (h1 : m ≤ 33554432) : 0 ≤ m * m ∧ m * m ≤ 1125899906842624 := ⟨Int.mul_nonneg h0 h0, by
  have := Int.mul_le_mul h1 h1 h0 (by omega : (0 : Int) ≤ 33554432)
  omega⟩
theorem sqrt1 (a : Int) (g : Nat) (w : World) (hg : w.heap[g]? = some (.cells #[.int .i64 a] 3 (0, 0))) (ha : -2147483648 ≤ a ∧ a ≤ 2147483648) :
    Calls Try.prog 62 #[.pointer (some ⟨g, 0, none⟩)] w fun e w' => e = .returned (.tuple #[.int .i64 (if a < 0 then 0 else sqV a), .int .i64 (if a < 0 then 0 else sqV a), .int .i64 (if a < 0 then 23 else 0)]) ∧ Below w.heap.size w w' := by
  obtain ⟨ha1, ha2⟩ := ha
  have c0 := cel1 hg
  by_cases hneg : a < 0
  · rw [if_pos hneg, if_pos hneg]
    go_enter Try.func62, Try.ntmps62
    go_wp2_with fail
    exact bodyPost_ret (v := .tuple #[.int .i64 0, .int .i64 0, .int .i64 23]) (by simp [results, Try.results62, go_sem]) rfl ⟨rfl, (by with_reducible repeat (first | exact Below.refl _ _ | assumption | ((first | refine Below.alloc ?_ ?b_ _ | refine bw_set ?_ ?b_ | refine Below.setCell ?_ ?b_ _); case b_ => first | omega | (simp; done) | (simp; omega)) | refine Below.drew ?_ | refine below_drewN ?_ _))⟩
  · rw [if_neg hneg, if_neg hneg]
    obtain ⟨hl1, hl2⟩ := lg_le (a := a) (by omega) ha2
    have Hgt := Lib.hid (lg_gt (a := a) (by omega) ha2)
    obtain ⟨L, hL⟩ : ∃ L, Lib.bitLen (a * 65536).toNat = L := ⟨_, rfl⟩
    have hlg : (((L : Nat) : Int) + 1).tdiv 2 = ((lg a : Nat) : Int) := by rw [Int.tdiv_eq_ediv_of_nonneg (by omega)]; unfold lg; rw [hL]; omega
    obtain ⟨k, hk⟩ : ∃ k, lg a = k := ⟨_, rfl⟩
    rw [hk] at hlg hl2 Hgt
    rw [hL] at hl1
    have HL := Lib.hid hL
    have hk2 := p2_bd hl2
    clear hL hk
    obtain ⟨b, hb⟩ : ∃ b, (2 : Int) ^ k = b := ⟨_, rfl⟩
    rw [hb] at hk2
    have hwr : wrap64 (2 ^ k) = b := by rw [hb]; simp only [wrap64]; omega
    have Hb := Lib.hid hb
    clear hb
    go_enter Try.func62, Try.ntmps62
    go_wp2_with fail
    refine (bitsLen_any (a * 65536) w (by omega) (by omega)).mono ?_
    rintro e w' ⟨rfl, rfl⟩
    rw [HL.out]
    go_wp2_with fail
    go_loop [5, 6] (fun v5 v6 => ∃ r b c : Int, v5 = .int .i64 r ∧ v6 = .int .i64 b ∧ (0 ≤ r ∧ 0 ≤ b ∧ b ≤ 16777216) ∧ r * r ≤ a * 65536 ∧ a * 65536 < (r + c) * (r + c) ∧ (b = 0 ∧ c = 1 ∨ 0 < b ∧ c = 2 * b ∧ ∃ j : Nat, b = 2 ^ j)) (fun _ v6 => (intOf v6).toNat)
    case atStart =>
      refine ⟨0, b, 2 * b, rfl, by rw [hwr], by omega, by omega, ?_, .inr ⟨by omega, rfl, k, Hb.out.symm⟩⟩
      rw [← Hb.out]
      exact Hgt.out
    case round =>
      obtain ⟨r, b, c, rfl, rfl, ⟨hr0, hb0, hb9⟩, h4, h5, h6⟩ := hrel
      by_cases hgo : 0 < b
      · have hc : c = 2 * b := by rcases h6 with h | h <;> omega
        have hj : ∃ j : Nat, b = 2 ^ j := by
          rcases h6 with h | h
          · omega
          · exact h.2.2
        have Hh := Lib.hid (p2_half hj)
        subst hc
        have hr9 : r ≤ 16777216 := by
          rcases Int.lt_or_le 16777216 r with h | h
          · exfalso
            have : (16777217 : Int) * 16777217 ≤ r * r := Int.mul_le_mul (by omega) (by omega) (by omega) (by omega)
            omega
          · exact h
        clear h6 hj
        obtain ⟨m, hm⟩ : ∃ m, r + b = m := ⟨_, rfl⟩
        have hm0 : 0 ≤ m ∧ m ≤ 33554432 := by omega
        obtain ⟨hs0, hs1⟩ := sq_bd2 hm0.1 hm0.2
        have H5 := Lib.hid (show a * 65536 < (m + b) * (m + b) from by rw [← hm, show r + b + b = r + 2 * b by omega]; exact h5)
        have H4 := Lib.hid h4
        clear h4 h5
        have hsh : b >>> (1 : Nat) = b / 2 := by rw [Int.shiftRight_eq_div_pow]; rfl
        have hb2 : b / 2 < b ∧ 0 ≤ b / 2 := by omega
        by_cases hle : m * m ≤ a * 65536
        · have Hle := Lib.hid hle
          have hd : (decide (m * m ≤ a * 65536)) = true := by simpa using hle
          clear hle
          go_wp2_with fail
          go_round
          case rel => exact ⟨m, b / 2, b, rfl, rfl, by omega, Hle.out, H5.out, Hh.out⟩
          case measure => simp [intOf]; omega
        · have Hle := Lib.hid hle
          have hd : (decide (m * m ≤ a * 65536)) = false := by simpa using hle
          clear hle
          go_wp2_with fail
          go_round
          case rel => exact ⟨r, b / 2, b, rfl, rfl, by omega, H4.out, by rw [hm]; exact Int.not_le.1 Hle.out, Hh.out⟩
          case measure => simp [intOf]; omega
      · have hv : sqV a = r := SQ.val ⟨hr0, h4, by have : c = 1 := by { rcases h6 with h | h <;> omega }; rw [this] at h5; exact h5⟩
        have Hv := Lib.hid hv
        clear hv h4 h5 h6
        go_wp2_with fail
        exact bodyPost_ret (v := .tuple #[.int .i64 r, .int .i64 r, .int .i64 0]) (by simp [results, Try.results62, go_sem]) rfl ⟨by rw [Hv.out], (by with_reducible repeat (first | exact Below.refl _ _ | assumption | ((first | refine Below.alloc ?_ ?b_ _ | refine bw_set ?_ ?b_ | refine Below.setCell ?_ ?b_ _); case b_ => first | omega | (simp; done) | (simp; omega)) | refine Below.drew ?_ | refine below_drewN ?_ _))⟩
theorem msqrt_any (a : Int) (w : World) :
    Calls Try.prog 25 #[.int .i64 a] w fun e w' => e = .returned (.tuple #[.int .i64 (rsV [a] (if a < 0 then 0 else sqV a) (if a < 0 then 0 else sqV a) (if a < 0 then 23 else 0)), .int .i64 (rsE [a] (if a < 0 then 0 else sqV a) (if a < 0 then 23 else 0))]) ∧ Below w.heap.size w w' := by
  have hmf : ∀ (fn : Fn) (first cap : Array Value) (w : World), (Instr.makeFunc fn first cap).run Try.prog w = .ok (.func fn first cap) w := fun _ _ _ _ => rfl
  have key := sqrt1 a w.heap.size
  obtain ⟨y, hy⟩ : ∃ y, (if a < 0 then 0 else sqV a) = y := ⟨_, rfl⟩
  obtain ⟨z, hz⟩ : ∃ z : Int, (if a < 0 then 23 else 0) = z := ⟨_, rfl⟩
  simp only [hy, hz] at key ⊢
  clear hy hz
  go_enter Try.func25, Try.ntmps25
  go_wp2_with fail
  refine (mresult 62 #[.pointer (some ⟨w.heap.size, 0, none⟩)] [a] (w.heap.size + 1) 1 _ (rw_new (by simp)) (by simp) y y z (fun _ => by rfl) (fun ha w' hB => key w' (rw_below hB (rw_alloc (rw_new rfl))) (by simp [allR, isB] at ha; omega))).mono ?_
  rintro e w1 ⟨rfl, hb⟩
  have hs_w1 := hb.size
  (try simp at hs_w1)
  have hB_w1 : Below w.heap.size w w1 := below_then (w := w) (by with_reducible repeat (first | exact Below.refl _ _ | assumption | ((first | refine Below.alloc ?_ ?b_ _ | refine bw_set ?_ ?b_ | refine Below.setCell ?_ ?b_ _); case b_ => first | omega | (simp; done) | (simp; omega)) | refine Below.drew ?_ | refine below_drewN ?_ _)) (by first | omega | (simp; done) | (simp; omega) | (have hq_ := hb.size; omega)) hb
  clear hb
  go_wp2_with fail
  exact bodyPost_ret (v := .tuple #[.int .i64 _, .int .i64 _]) (by simp [results, Try.results25, go_sem]) rfl ⟨rfl, (by with_reducible repeat (first | exact Below.refl _ _ | assumption | ((first | refine Below.alloc ?_ ?b_ _ | refine bw_set ?_ ?b_ | refine Below.setCell ?_ ?b_ _); case b_ => first | omega | (simp; done) | (simp; omega)) | refine Below.drew ?_ | refine below_drewN ?_ _))⟩
end Go.Proofs.Ytilchjpjmfaghaa.T3
