/- chapter 01: what the laws compare, as calls. -/
import Derived.Test.YtilchjpjmfaghaaReZ
namespace Go.Proofs.Ytilchjpjmfaghaa.T3
set_option linter.unusedSimpArgs false
set_option linter.unusedVariables false
open Go.RowKit
set_option maxHeartbeats 2000000
theorem up0 {f : Nat} {xs : Array Value} {w : World} {v : Value} (h : Calls Try.prog f xs w fun e w' => e = .returned v ∧ w = w') : Calls Try.prog f xs w fun e w' => e = .returned v ∧ Below w.heap.size w w' :=
  h.mono (by rintro e w' ⟨rfl, rfl⟩; exact ⟨rfl, Below.refl _ _⟩)
theorem all1 {a : Int} (h : allR [a] = true) : isB a = true := by simpa [allR] using h
theorem products_both (a b : Int) : ∃ c d p pe q qe r re s se : Int, (∀ w, Calls Try.prog 12 #[.int .i64 a] w fun e w' => e = .returned (.int .i64 c) ∧ Below w.heap.size w w') ∧
    (∀ w, Calls Try.prog 12 #[.int .i64 b] w fun e w' => e = .returned (.int .i64 d) ∧ Below w.heap.size w w') ∧
    (∀ w, Calls Try.prog 13 #[.int .i64 a, .int .i64 b] w fun e w' => e = .returned (.tuple #[.int .i64 p, .int .i64 pe]) ∧ Below w.heap.size w w') ∧
    (∀ w, Calls Try.prog 14 #[.int .i64 c, .int .i64 d] w fun e w' => e = .returned (.tuple #[.int .i64 q, .int .i64 qe]) ∧ Below w.heap.size w w') ∧
    (∀ (w : World) (g : Nat), w.heap[g]? = some (.cells #[.int .i64 a, .int .i64 b] 3 (0, 0)) → Calls Try.prog 15 #[.int .i64 p, .int .i64 pe, .int .i64 q, .int .i64 qe, .slice (some ⟨g, 0, none⟩) 2 2] w fun e w' => e = .returned (.bool true) ∧ Below w.heap.size w w') ∧
    (∀ w, Calls Try.prog 16 #[.int .i64 a, .int .i64 b] w fun e w' => e = .returned (.tuple #[.int .i64 r, .int .i64 re]) ∧ Below w.heap.size w w') ∧
    (∀ w, Calls Try.prog 17 #[.int .i64 c, .int .i64 d] w fun e w' => e = .returned (.tuple #[.int .i64 s, .int .i64 se]) ∧ Below w.heap.size w w') ∧
    (∀ (w : World) (g : Nat), w.heap[g]? = some (.cells #[.int .i64 a, .int .i64 b] 3 (0, 0)) → Calls Try.prog 15 #[.int .i64 r, .int .i64 re, .int .i64 s, .int .i64 se, .slice (some ⟨g, 0, none⟩) 2 2] w fun e w' => e = .returned (.bool true) ∧ Below w.heap.size w w') := by
  refine ⟨cutV a, cutV b, rsV [a, b] ((a * b + 32768) / 65536) ((a * b + 32768) / 65536) (0), rsE [a, b] ((a * b + 32768) / 65536) (0), endV ((cutV a * cutV b + 32768) / 65536), endE ((cutV a * cutV b + 32768) / 65536), rsV [a, b] (dvY a b) (dvY a b) (dvEr b), rsE [a, b] (dvY a b) (dvEr b), rdV (cutV a) (cutV b), rdE (cutV a) (cutV b), ?_, ?_, ?_, ?_, ?_, ?_, ?_, ?_⟩
  · exact fun w => up0 (cut_any a w)
  · exact fun w => up0 (cut_any b w)
  · exact fun w => mmul_any a b w
  · exact fun w => up0 (rmul_any _ _ w (cutV_bd a) (cutV_bd b))
  · exact fun w g hg => up0 (lis_any _ _ _ _ [a, b] g 2 w hg (by simp) (mul_same a b).1 (mul_same a b).2)
  · exact fun w => mdiv_any a b w
  · exact fun w => up0 (rdiv_any _ _ w (cutV_bd a) (cutV_bd b))
  · exact fun w g hg => up0 (lis_any _ _ _ _ [a, b] g 2 w hg (by simp) (div_same a b).1 (div_same a b).2)
theorem add_same (a b : Int) : (allR [a, b] = true → rsV [a, b] (a + b) (a + b) 0 = endV (cutV a + cutV b) ∧ rsE [a, b] (a + b) 0 = endE (cutV a + cutV b)) ∧ (allR [a, b] = false → rsV [a, b] (a + b) (a + b) 0 = 0 ∧ rsE [a, b] (a + b) 0 = 2) := by
  refine ⟨fun h => ?_, fun h => rs_not h⟩
  obtain ⟨h1, h2⟩ := all2 h
  rw [cutV_in h1, cutV_in h2]
  exact rs_all h
theorem sub_same (a b : Int) : (allR [a, b] = true → rsV [a, b] (a - b) (a - b) 0 = endV (cutV a - cutV b) ∧ rsE [a, b] (a - b) 0 = endE (cutV a - cutV b)) ∧ (allR [a, b] = false → rsV [a, b] (a - b) (a - b) 0 = 0 ∧ rsE [a, b] (a - b) 0 = 2) := by
  refine ⟨fun h => ?_, fun h => rs_not h⟩
  obtain ⟨h1, h2⟩ := all2 h
  rw [cutV_in h1, cutV_in h2]
  exact rs_all h
theorem one_same {a n m : Int} (h : isB a = true → n = m ∧ isB n = true) : (allR [a] = true → rsV [a] n n 0 = m ∧ rsE [a] n 0 = 0) ∧ (allR [a] = false → rsV [a] n n 0 = 0 ∧ rsE [a] n 0 = 2) := by
  refine ⟨fun h0 => ?_, fun h => rs_not h⟩
  obtain ⟨rfl, h2⟩ := h (all1 h0)
  unfold rsV rsE
  rw [if_pos h0, if_pos rfl, if_pos h2]
  simp
theorem sqV_bd {a : Int} (h0 : 0 ≤ a) (h1 : a ≤ 2147483648) : -2147483648 ≤ sqV a ∧ sqV a ≤ 2147483648 := by
  by_cases h : ∃ r, SQ a r
  · obtain ⟨r, hr⟩ := h
    rw [hr.val]
    obtain ⟨r0, r1, r2⟩ := hr
    refine ⟨by omega, ?_⟩
    rcases Int.lt_or_le 2147483648 r with c | c
    · exfalso
      have : 2147483649 * 2147483649 ≤ r * r := Int.mul_le_mul (by omega) (by omega) (by omega) (by omega)
      omega
    · exact c
  · unfold sqV
    rw [dif_neg h]
    omega
theorem sqrt_same (a : Int) : (allR [a] = true → rsV [a] (if a < 0 then 0 else sqV a) (if a < 0 then 0 else sqV a) (if a < 0 then 23 else 0) = (if cutV a < 0 then 0 else sqV (cutV a)) ∧ rsE [a] (if a < 0 then 0 else sqV a) (if a < 0 then 23 else 0) = (if cutV a < 0 then 23 else 0)) ∧ (allR [a] = false → rsV [a] (if a < 0 then 0 else sqV a) (if a < 0 then 0 else sqV a) (if a < 0 then 23 else 0) = 0 ∧ rsE [a] (if a < 0 then 0 else sqV a) (if a < 0 then 23 else 0) = 2) := by
  refine ⟨fun h0 => ?_, fun h => rs_not h⟩
  have h1 := all1 h0
  rw [cutV_in h1]
  have h2 := (isB_iff a).1 h1
  unfold rsV rsE
  rw [if_pos h0]
  by_cases hn : a < 0
  · simp [hn]
  · have hb : isB (sqV a) = true := (isB_iff _).2 (sqV_bd (by omega) h2.2)
    simp [hn, hb]
theorem toint_ok (a : Int) (h : isB a = true) : a.tdiv 65536 = (cutV a).tdiv 65536 ∧ isB (a.tdiv 65536) = true := by
  rw [cutV_in h]
  have h2 := (isB_iff a).1 h
  have := tdiv_bd a 65536 2147483648 (by omega) (by omega)
  exact ⟨rfl, (isB_iff _).2 this⟩
theorem neg_ok (a : Int) (h : isB a = true) : -a = wrap64 (-a) ∧ isB (-a) = true := by
  have h2 := (isB_iff a).1 h
  exact ⟨by unfold wrap64; omega, (isB_iff _).2 (by omega)⟩
theorem sums_both (a b : Int) : ∃ c d i ie p pe q r re s se t te u ue v ve : Int, (∀ w, Calls Try.prog 12 #[.int .i64 a] w fun e w' => e = .returned (.int .i64 c) ∧ Below w.heap.size w w') ∧
    (∀ w, Calls Try.prog 12 #[.int .i64 b] w fun e w' => e = .returned (.int .i64 d) ∧ Below w.heap.size w w') ∧
    (∀ w, Calls Try.prog 27 #[.int .i64 a] w fun e w' => e = .returned (.tuple #[.int .i64 i, .int .i64 ie]) ∧ Below w.heap.size w w') ∧
    (∀ w, Calls Try.prog 28 #[.int .i64 a] w fun e w' => e = .returned (.tuple #[.int .i64 i, .int .i64 ie]) ∧ Below w.heap.size w w') ∧
    (∀ w, Calls Try.prog 30 #[.int .i64 a] w fun e w' => e = .returned (.tuple #[.int .i64 p, .int .i64 pe]) ∧ Below w.heap.size w w') ∧
    (∀ w, Calls Try.prog 31 #[.int .i64 c] w fun e w' => e = .returned (.int .i64 q) ∧ Below w.heap.size w w') ∧
    (∀ (w : World) (g : Nat), w.heap[g]? = some (.cells #[.int .i64 a] 3 (0, 0)) → Calls Try.prog 15 #[.int .i64 p, .int .i64 pe, .int .i64 q, .int .i64 0, .slice (some ⟨g, 0, none⟩) 1 1] w fun e w' => e = .returned (.bool true) ∧ Below w.heap.size w w') ∧
    (∀ w, Calls Try.prog 32 #[.int .i64 a] w fun e w' => e = .returned (.tuple #[.int .i64 r, .int .i64 re]) ∧ Below w.heap.size w w') ∧
    (∀ (w : World) (g : Nat), w.heap[g]? = some (.cells #[.int .i64 a] 3 (0, 0)) → Calls Try.prog 15 #[.int .i64 r, .int .i64 re, .int .i64 (wrap64 (-a)), .int .i64 0, .slice (some ⟨g, 0, none⟩) 1 1] w fun e w' => e = .returned (.bool true) ∧ Below w.heap.size w w') ∧
    (∀ w, Calls Try.prog 24 #[.int .i64 a, .int .i64 b] w fun e w' => e = .returned (.tuple #[.int .i64 s, .int .i64 se]) ∧ Below w.heap.size w w') ∧
    (∀ w, Calls Try.prog 33 #[.int .i64 c, .int .i64 d] w fun e w' => e = .returned (.tuple #[.int .i64 t, .int .i64 te]) ∧ Below w.heap.size w w') ∧
    (∀ (w : World) (g : Nat), w.heap[g]? = some (.cells #[.int .i64 a, .int .i64 b] 3 (0, 0)) → Calls Try.prog 15 #[.int .i64 s, .int .i64 se, .int .i64 t, .int .i64 te, .slice (some ⟨g, 0, none⟩) 2 2] w fun e w' => e = .returned (.bool true) ∧ Below w.heap.size w w') ∧
    (∀ w, Calls Try.prog 34 #[.int .i64 a, .int .i64 b] w fun e w' => e = .returned (.tuple #[.int .i64 u, .int .i64 ue]) ∧ Below w.heap.size w w') ∧
    (∀ w, Calls Try.prog 35 #[.int .i64 c, .int .i64 d] w fun e w' => e = .returned (.tuple #[.int .i64 v, .int .i64 ve]) ∧ Below w.heap.size w w') ∧
    (∀ (w : World) (g : Nat), w.heap[g]? = some (.cells #[.int .i64 a, .int .i64 b] 3 (0, 0)) → Calls Try.prog 15 #[.int .i64 u, .int .i64 ue, .int .i64 v, .int .i64 ve, .slice (some ⟨g, 0, none⟩) 2 2] w fun e w' => e = .returned (.bool true) ∧ Below w.heap.size w w') := by
  refine ⟨cutV a, cutV b, fiV a, fiE a, rsV [a] (a.tdiv 65536) (a.tdiv 65536) (0), rsE [a] (a.tdiv 65536) (0), (cutV a).tdiv 65536, rsV [a] (-a) (-a) (0), rsE [a] (-a) (0), rsV [a, b] (a + b) (a + b) (0), rsE [a, b] (a + b) (0), endV (cutV a + cutV b), endE (cutV a + cutV b), rsV [a, b] (a - b) (a - b) (0), rsE [a, b] (a - b) (0), endV (cutV a - cutV b), endE (cutV a - cutV b), ?_, ?_, ?_, ?_, ?_, ?_, ?_, ?_, ?_, ?_, ?_, ?_, ?_, ?_, ?_⟩
  · exact fun w => up0 (cut_any a w)
  · exact fun w => up0 (cut_any b w)
  · exact fun w => up0 (mfi_any a w)
  · exact fun w => up0 (rfi_any a w)
  · exact fun w => mtoint_any a w
  · exact fun w => up0 (rtoint_any _ w (cutV_bd a))
  · exact fun w g hg => up0 (lis_any _ _ _ _ [a] g 1 w hg (by simp) (one_same (toint_ok a)).1 (one_same (toint_ok a)).2)
  · exact fun w => mneg_any a w
  · exact fun w g hg => up0 (lis_any _ _ _ _ [a] g 1 w hg (by simp) (one_same (neg_ok a)).1 (one_same (neg_ok a)).2)
  · exact fun w => madd_any a b w
  · exact fun w => up0 (radd_any _ _ w (cutV_bd a) (cutV_bd b))
  · exact fun w g hg => up0 (lis_any _ _ _ _ [a, b] g 2 w hg (by simp) (add_same a b).1 (add_same a b).2)
  · exact fun w => msub_any a b w
  · exact fun w => up0 (rsub_any _ _ w (cutV_bd a) (cutV_bd b))
  · exact fun w g hg => up0 (lis_any _ _ _ _ [a, b] g 2 w hg (by simp) (sub_same a b).1 (sub_same a b).2)
theorem down_ok (a : Int) (h : isB a = true) : a / 65536 * 65536 = cutV a / 65536 * 65536 ∧ isB (a / 65536 * 65536) = true := by
  rw [cutV_in h]
  have h2 := (isB_iff a).1 h
  exact ⟨rfl, (isB_iff _).2 (by omega)⟩
theorem up_ok (a : Int) (h : isB a = true) : -(-a / 65536) * 65536 = -(-cutV a / 65536 * 65536) ∧ isB (-(-a / 65536) * 65536) = true := by
  rw [cutV_in h]
  have h2 := (isB_iff a).1 h
  exact ⟨by omega, (isB_iff _).2 (by omega)⟩
theorem near_ok (a : Int) (h : isB a = true) : (a + 32768) / 65536 * 65536 = (cutV a + 32768) / 65536 * 65536 ∧ isB ((a + 32768) / 65536 * 65536) = true := by
  rw [cutV_in h]
  have h2 := (isB_iff a).1 h
  exact ⟨rfl, (isB_iff _).2 (by omega)⟩
theorem tdiv16 (a : Int) : (0 ≤ a → a.tdiv 65536 = a / 65536) ∧ (a < 0 → a.tdiv 65536 = -(-a / 65536)) := by
  refine ⟨fun h => Int.tdiv_eq_ediv_of_nonneg (by omega), fun h => ?_⟩
  have h2 := Int.neg_tdiv (-a) 65536
  rw [Int.neg_neg] at h2
  rw [h2, Int.tdiv_eq_ediv_of_nonneg (by omega)]
theorem trunc_ok (a : Int) (h : isB a = true) : a.tdiv 65536 * 65536 = (cutV a).tdiv 65536 * 65536 ∧ isB (a.tdiv 65536 * 65536) = true := by
  rw [cutV_in h]
  have h2 := (isB_iff a).1 h
  refine ⟨rfl, (isB_iff _).2 ?_⟩
  obtain ⟨t1, t2⟩ := tdiv16 a
  rcases Int.lt_or_le a 0 with c | c
  · rw [t2 c]; omega
  · rw [t1 c]; omega
theorem tdiv_sm {a : Int} (h : -2147483648 ≤ a ∧ a ≤ 2147483648) : -2147483648 ≤ a.tdiv 65536 ∧ a.tdiv 65536 ≤ 2147483648 := tdiv_bd a 65536 2147483648 (by omega) (by omega)
theorem rounds_both (a : Int) : ∃ c p pe p' q qe q' r re r' s se t u ue v ve : Int, (∀ w, Calls Try.prog 12 #[.int .i64 a] w fun e w' => e = .returned (.int .i64 c) ∧ Below w.heap.size w w') ∧
    (∀ w, Calls Try.prog 36 #[.int .i64 a] w fun e w' => e = .returned (.tuple #[.int .i64 p, .int .i64 pe]) ∧ Below w.heap.size w w') ∧
    (∀ w, Calls Try.prog 40 #[.int .i64 c] w fun e w' => e = .returned (.int .i64 p') ∧ Below w.heap.size w w') ∧
    (∀ (w : World) (g : Nat), w.heap[g]? = some (.cells #[.int .i64 a] 3 (0, 0)) → Calls Try.prog 15 #[.int .i64 p, .int .i64 pe, .int .i64 p', .int .i64 0, .slice (some ⟨g, 0, none⟩) 1 1] w fun e w' => e = .returned (.bool true) ∧ Below w.heap.size w w') ∧
    (∀ w, Calls Try.prog 37 #[.int .i64 a] w fun e w' => e = .returned (.tuple #[.int .i64 q, .int .i64 qe]) ∧ Below w.heap.size w w') ∧
    (∀ w, Calls Try.prog 41 #[.int .i64 c] w fun e w' => e = .returned (.int .i64 q') ∧ Below w.heap.size w w') ∧
    (∀ (w : World) (g : Nat), w.heap[g]? = some (.cells #[.int .i64 a] 3 (0, 0)) → Calls Try.prog 15 #[.int .i64 q, .int .i64 qe, .int .i64 q', .int .i64 0, .slice (some ⟨g, 0, none⟩) 1 1] w fun e w' => e = .returned (.bool true) ∧ Below w.heap.size w w') ∧
    (∀ w, Calls Try.prog 26 #[.int .i64 a] w fun e w' => e = .returned (.tuple #[.int .i64 r, .int .i64 re]) ∧ Below w.heap.size w w') ∧
    (∀ w, Calls Try.prog 42 #[.int .i64 c] w fun e w' => e = .returned (.int .i64 r') ∧ Below w.heap.size w w') ∧
    (∀ (w : World) (g : Nat), w.heap[g]? = some (.cells #[.int .i64 a] 3 (0, 0)) → Calls Try.prog 15 #[.int .i64 r, .int .i64 re, .int .i64 r', .int .i64 0, .slice (some ⟨g, 0, none⟩) 1 1] w fun e w' => e = .returned (.bool true) ∧ Below w.heap.size w w') ∧
    (∀ w, Calls Try.prog 38 #[.int .i64 a] w fun e w' => e = .returned (.tuple #[.int .i64 s, .int .i64 se]) ∧ Below w.heap.size w w') ∧
    (∀ w, Calls Try.prog 31 #[.int .i64 c] w fun e w' => e = .returned (.int .i64 t) ∧ Below w.heap.size w w') ∧
    (-2147483648 ≤ t ∧ t ≤ 2147483648) ∧
    (∀ (w : World) (g : Nat), w.heap[g]? = some (.cells #[.int .i64 a] 3 (0, 0)) → Calls Try.prog 15 #[.int .i64 s, .int .i64 se, .int .i64 (t * 65536), .int .i64 0, .slice (some ⟨g, 0, none⟩) 1 1] w fun e w' => e = .returned (.bool true) ∧ Below w.heap.size w w') ∧
    (∀ w, Calls Try.prog 25 #[.int .i64 a] w fun e w' => e = .returned (.tuple #[.int .i64 u, .int .i64 ue]) ∧ Below w.heap.size w w') ∧
    (∀ w, Calls Try.prog 39 #[.int .i64 c] w fun e w' => e = .returned (.tuple #[.int .i64 v, .int .i64 ve]) ∧ Below w.heap.size w w') ∧
    (∀ (w : World) (g : Nat), w.heap[g]? = some (.cells #[.int .i64 a] 3 (0, 0)) → Calls Try.prog 15 #[.int .i64 u, .int .i64 ue, .int .i64 v, .int .i64 ve, .slice (some ⟨g, 0, none⟩) 1 1] w fun e w' => e = .returned (.bool true) ∧ Below w.heap.size w w') := by
  refine ⟨cutV a, rsV [a] (a / 65536 * 65536) (a / 65536 * 65536) (0), rsE [a] (a / 65536 * 65536) (0), cutV a / 65536 * 65536, rsV [a] (-(-a / 65536) * 65536) (-(-a / 65536) * 65536) (0), rsE [a] (-(-a / 65536) * 65536) (0), -(-cutV a / 65536 * 65536), rsV [a] ((a + 32768) / 65536 * 65536) ((a + 32768) / 65536 * 65536) (0), rsE [a] ((a + 32768) / 65536 * 65536) (0), (cutV a + 32768) / 65536 * 65536, rsV [a] (a.tdiv 65536 * 65536) (a.tdiv 65536 * 65536) (0), rsE [a] (a.tdiv 65536 * 65536) (0), (cutV a).tdiv 65536, rsV [a] (if a < 0 then 0 else sqV a) (if a < 0 then 0 else sqV a) (if a < 0 then 23 else 0), rsE [a] (if a < 0 then 0 else sqV a) (if a < 0 then 23 else 0), if cutV a < 0 then 0 else sqV (cutV a), if cutV a < 0 then 23 else 0, ?_, ?_, ?_, ?_, ?_, ?_, ?_, ?_, ?_, ?_, ?_, ?_, ?_, ?_, ?_, ?_, ?_⟩
  · exact fun w => up0 (cut_any a w)
  · exact fun w => mflo_any a w
  · exact fun w => up0 (rdown_any _ w (by have := cutV_bd a; omega) (by have := cutV_bd a; omega))
  · exact fun w g hg => up0 (lis_any _ _ _ _ [a] g 1 w hg (by simp) (one_same (down_ok a)).1 (one_same (down_ok a)).2)
  · exact fun w => mceil_any a w
  · exact fun w => up0 (rup_any _ w (cutV_bd a))
  · exact fun w g hg => up0 (lis_any _ _ _ _ [a] g 1 w hg (by simp) (one_same (up_ok a)).1 (one_same (up_ok a)).2)
  · exact fun w => mround_any a w
  · exact fun w => up0 (rnear_any _ w (cutV_bd a))
  · exact fun w g hg => up0 (lis_any _ _ _ _ [a] g 1 w hg (by simp) (one_same (near_ok a)).1 (one_same (near_ok a)).2)
  · exact fun w => mtrunc_any a w
  · exact fun w => up0 (rtoint_any _ w (cutV_bd a))
  · exact tdiv_sm (cutV_bd a)
  · exact fun w g hg => up0 (lis_any _ _ _ _ [a] g 1 w hg (by simp) (one_same (trunc_ok a)).1 (one_same (trunc_ok a)).2)
  · exact fun w => msqrt_any a w
  · exact fun w => up0 (rsqrt_any _ w (cutV_bd a))
  · exact fun w g hg => up0 (lis_any _ _ _ _ [a] g 1 w hg (by simp) (sqrt_same a).1 (sqrt_same a).2)
end Go.Proofs.Ytilchjpjmfaghaa.T3
