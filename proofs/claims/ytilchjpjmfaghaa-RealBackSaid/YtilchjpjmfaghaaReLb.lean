/- chapter 01: what RealField and RealOrders ask, as calls. -/
import Derived.Test.YtilchjpjmfaghaaReLa
namespace Go.Proofs.Ytilchjpjmfaghaa.T3
set_option linter.unusedSimpArgs false
set_option linter.unusedVariables false
open Go.RowKit
set_option maxHeartbeats 2000000
theorem made_bd (n : Int) : -2147483648 ≤ n.tmod 2147483649 ∧ n.tmod 2147483649 ≤ 2147483648 := by
  have h1 := Int.tmod_lt_of_pos n (show (0 : Int) < 2147483649 by omega)
  have h2 := Int.lt_tmod_of_pos n (show (0 : Int) < 2147483649 by omega)
  omega
theorem made_ex (n : Int) : ∃ a : Int, (-2147483648 ≤ a ∧ a ≤ 2147483648) ∧ ∀ w, Calls Try.prog 23 #[.int .i64 n] w fun e w' => e = .returned (.int .i64 a) ∧ Below w.heap.size w w' :=
  ⟨_, made_bd n, fun w => up0 (made_any n w)⟩
theorem in1 {a : Int} (h : -2147483648 ≤ a ∧ a ≤ 2147483648) : allR [a] = true := by simpa [allR, isB] using h
theorem in2 {a b : Int} (h : -2147483648 ≤ a ∧ a ≤ 2147483648) (g : -2147483648 ≤ b ∧ b ≤ 2147483648) : allR [a, b] = true := by simp [allR, isB]; omega
theorem rs_in {l : List Int} {n : Int} (h : allR l = true) (g : -2147483648 ≤ n ∧ n ≤ 2147483648) : rsV l n n 0 = n ∧ rsE l n 0 = 0 := by
  obtain ⟨h1, h2⟩ := rs_all (n := n) h
  rw [h1, h2]
  unfold endV endE
  rw [(isB_iff n).2 g]
  exact ⟨rfl, rfl⟩
theorem call_in {f : Nat} {xs : Array Value} {w : World} {l : List Int} {n v : Int} (h : Calls Try.prog f xs w fun e w' => e = .returned (.tuple #[.int .i64 (rsV l n n 0), .int .i64 (rsE l n 0)]) ∧ Below w.heap.size w w') (hl : allR l = true) (hn : n = v) (g : -2147483648 ≤ v ∧ v ≤ 2147483648) :
    Calls Try.prog f xs w fun e w' => e = .returned (.tuple #[.int .i64 v, .int .i64 0]) ∧ Below w.heap.size w w' := by
  subst hn
  rw [(rs_in hl g).1, (rs_in hl g).2] at h
  exact h
theorem dv_one (a : Int) : dvY a 65536 = a ∧ dvEr 65536 = 0 := by
  unfold dvY dvEr dv
  simp
  omega
theorem field_both (a b : Int) (ha : -2147483648 ≤ a ∧ a ≤ 2147483648) (hb : -2147483648 ≤ b ∧ b ≤ 2147483648) : ∃ p k m f : Int, (∀ w, Calls Try.prog 24 #[.int .i64 a, .int .i64 b] w fun e w' => e = .returned (.tuple #[.int .i64 p, .int .i64 k]) ∧ Below w.heap.size w w') ∧ (∀ w, Calls Try.prog 24 #[.int .i64 b, .int .i64 a] w fun e w' => e = .returned (.tuple #[.int .i64 p, .int .i64 k]) ∧ Below w.heap.size w w') ∧ (k = 0 → ∀ w, Calls Try.prog 34 #[.int .i64 p, .int .i64 b] w fun e w' => e = .returned (.tuple #[.int .i64 a, .int .i64 0]) ∧ Below w.heap.size w w') ∧
    (∀ w, Calls Try.prog 13 #[.int .i64 a, .int .i64 b] w fun e w' => e = .returned (.tuple #[.int .i64 m, .int .i64 f]) ∧ Below w.heap.size w w') ∧ (∀ w, Calls Try.prog 13 #[.int .i64 b, .int .i64 a] w fun e w' => e = .returned (.tuple #[.int .i64 m, .int .i64 f]) ∧ Below w.heap.size w w') := by
  refine ⟨_, _, _, _, fun w => madd_any a b w, fun w => ?_, fun h w => ?_, fun w => mmul_any a b w, fun w => ?_⟩
  · have := madd_any b a w
    rw [show b + a = a + b by omega] at this
    have e1 : rsV [b, a] (a + b) (a + b) 0 = rsV [a, b] (a + b) (a + b) 0 := (rs_all (in2 hb ha)).1.trans (rs_all (in2 ha hb)).1.symm
    have e2 : rsE [b, a] (a + b) 0 = rsE [a, b] (a + b) 0 := (rs_all (in2 hb ha)).2.trans (rs_all (in2 ha hb)).2.symm
    rw [e1, e2] at this
    exact this
  · have e1 := (rs_all (n := a + b) (in2 ha hb)).2
    have e2 := (rs_all (n := a + b) (in2 ha hb)).1
    rw [e1] at h
    have hin : isB (a + b) = true := by
      unfold endE at h
      cases hh : isB (a + b)
      · rw [hh] at h; simp at h
      · rfl
    have e3 : endV (a + b) = a + b := if_pos hin
    rw [e2, e3]
    exact call_in (msub_any (a + b) b w) (in2 ((isB_iff _).1 hin) hb) (by omega) ha
  · have := mmul_any b a w
    rw [Int.mul_comm b a] at this
    have e1 : ∀ n, rsV [b, a] n n 0 = rsV [a, b] n n 0 := fun n => (rs_all (in2 hb ha)).1.trans (rs_all (in2 ha hb)).1.symm
    have e2 : ∀ n, rsE [b, a] n 0 = rsE [a, b] n 0 := fun n => (rs_all (in2 hb ha)).2.trans (rs_all (in2 ha hb)).2.symm
    rw [e1, e2] at this
    exact this
theorem field_one (a : Int) (ha : -2147483648 ≤ a ∧ a ≤ 2147483648) : (∀ w, Calls Try.prog 13 #[.int .i64 a, .int .i64 65536] w fun e w' => e = .returned (.tuple #[.int .i64 a, .int .i64 0]) ∧ Below w.heap.size w w') ∧ (∀ w, Calls Try.prog 16 #[.int .i64 a, .int .i64 65536] w fun e w' => e = .returned (.tuple #[.int .i64 a, .int .i64 0]) ∧ Below w.heap.size w w') ∧
    (∀ w, Calls Try.prog 32 #[.int .i64 a] w fun e w' => e = .returned (.tuple #[.int .i64 (-a), .int .i64 0]) ∧ Below w.heap.size w w') ∧ (∀ w, Calls Try.prog 32 #[.int .i64 (-a)] w fun e w' => e = .returned (.tuple #[.int .i64 a, .int .i64 0]) ∧ Below w.heap.size w w') := by
  refine ⟨fun w => call_in (mmul_any a 65536 w) (in2 ha (by omega)) (by omega) ha, fun w => ?_, fun w => call_in (mneg_any a w) (in1 ha) rfl (by omega), fun w => call_in (mneg_any (-a) w) (in1 (by omega)) (by omega) ha⟩
  have := mdiv_any a 65536 w
  rw [(dv_one a).1, (dv_one a).2] at this
  exact call_in this (in2 ha (by omega)) rfl ha
theorem root_ex (n : Nat) : ∃ r : Nat, r * r ≤ n ∧ n < (r + 1) * (r + 1) := by
  induction n with
  | zero => exact ⟨0, by omega, by omega⟩
  | succ n ih =>
    obtain ⟨r, h1, h2⟩ := ih
    by_cases h : n + 1 < (r + 1) * (r + 1)
    · exact ⟨r, by omega, h⟩
    · refine ⟨r + 1, by omega, ?_⟩
      have h3 : (r + 1 + 1) * (r + 1 + 1) = (r + 1) * (r + 1) + 2 * (r + 1) + 1 := by grind
      omega
theorem sq_ex (a : Int) (h : 0 ≤ a) : ∃ r, SQ a r := by
  obtain ⟨r, h1, h2⟩ := root_ex (a * 65536).toNat
  have e : ((a * 65536).toNat : Int) = a * 65536 := by omega
  have e1 : ((r : Int) * r) = ((r * r : Nat) : Int) := by simp
  have e2 : ((r : Int) + 1) * (r + 1) = (((r + 1) * (r + 1) : Nat) : Int) := by simp
  exact ⟨r, by omega, by rw [e1]; omega, by rw [e2]; omega⟩
theorem orders_both (a : Int) (ha : -2147483648 ≤ a ∧ a ≤ 2147483648) : ∃ low high near i r M : Int, (∀ w, Calls Try.prog 36 #[.int .i64 a] w fun e w' => e = .returned (.tuple #[.int .i64 low, .int .i64 0]) ∧ Below w.heap.size w w') ∧ (∀ w, Calls Try.prog 37 #[.int .i64 a] w fun e w' => e = .returned (.tuple #[.int .i64 high, .int .i64 0]) ∧ Below w.heap.size w w') ∧ (∀ w, Calls Try.prog 26 #[.int .i64 a] w fun e w' => e = .returned (.tuple #[.int .i64 near, .int .i64 0]) ∧ Below w.heap.size w w') ∧
    (∀ w, Calls Try.prog 38 #[.int .i64 a] w fun e w' => e = .returned (.tuple #[.int .i64 (i * 65536), .int .i64 0]) ∧ Below w.heap.size w w') ∧ (∀ w, Calls Try.prog 30 #[.int .i64 a] w fun e w' => e = .returned (.tuple #[.int .i64 i, .int .i64 0]) ∧ Below w.heap.size w w') ∧ (∀ w, Calls Try.prog 25 #[.int .i64 M] w fun e w' => e = .returned (.tuple #[.int .i64 r, .int .i64 0]) ∧ Below w.heap.size w w') ∧ max a (-a) = M ∧ (0 ≤ M ∧ M ≤ 2147483648) ∧ (0 ≤ r ∧ r ≤ 16777216) ∧
    r * r ≤ M * 65536 ∧ M * 65536 < (r + 1) * (r + 1) ∧ (low ≤ a ∧ a ≤ high ∧ high - low ≤ 65536 ∧ -2147483648 ≤ low ∧ high ≤ 2147483648) ∧ low.tmod 65536 = 0 ∧ high.tmod 65536 = 0 ∧ (near = low ∨ near = high) ∧ (near - a ≤ 32768 ∧ a - near < 32769) ∧ (-32768 ≤ i ∧ i ≤ 32768) ∧ (0 ≤ a → i * 65536 = low) ∧ (a < 0 → i * 65536 = high) := by
  obtain ⟨r, hr⟩ := sq_ex (max a (-a)) (by omega)
  obtain ⟨r0, r1, r2⟩ := id hr
  have hr3 : r ≤ 16777216 := by
    rcases Int.lt_or_le 16777216 r with c | c
    · exfalso
      have : 16777217 * 16777217 ≤ r * r := Int.mul_le_mul (by omega) (by omega) (by omega) (by omega)
      omega
    · exact c
  have ht2 := tdiv16 a
  obtain ⟨t1, t2⟩ := ht2
  have hb : -32768 ≤ a.tdiv 65536 ∧ a.tdiv 65536 ≤ 32768 := by
    rcases Int.lt_or_le a 0 with c | c
    · rw [t2 c]; omega
    · rw [t1 c]; omega
  refine ⟨a / 65536 * 65536, -(-a / 65536) * 65536, (a + 32768) / 65536 * 65536, a.tdiv 65536, r, max a (-a), ?_, ?_, ?_, ?_, ?_, ?_, rfl, by omega, ⟨r0, hr3⟩, r1, r2, by omega, by simp, by simp, by omega, by omega, hb, fun h => by rw [t1 h], fun h => by rw [t2 h]⟩
  · exact fun w => call_in (mflo_any a w) (in1 ha) rfl (by omega)
  · exact fun w => call_in (mceil_any a w) (in1 ha) rfl (by omega)
  · exact fun w => call_in (mround_any a w) (in1 ha) rfl (by omega)
  · exact fun w => call_in (mtrunc_any a w) (in1 ha) rfl (by omega)
  · exact fun w => call_in (mtoint_any a w) (in1 ha) rfl (by omega)
  · intro w
    have h := msqrt_any (max a (-a)) w
    rw [if_neg (by omega : ¬ max a (-a) < 0), if_neg (by omega : ¬ max a (-a) < 0), hr.val] at h
    exact call_in h (in1 (by omega)) rfl (by omega)
end Go.Proofs.Ytilchjpjmfaghaa.T3
