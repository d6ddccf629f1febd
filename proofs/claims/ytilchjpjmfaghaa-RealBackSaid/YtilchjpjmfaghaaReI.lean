/- chapter 01: what a decimal's digits are worth. Plain. -/
import Derived.Test.YtilchjpjmfaghaaReH
import Derived.WalkKit
import Derived.Lib.Hide
import Derived.Deep.QuietTactic
import Derived.BigQuiet
import Derived.Lib.QuietBelow
import Derived.Deep.RegionHeld3
import Derived.WalkLawsBesides
import Derived.WalkSpells
import Derived.Outline
import Derived.Deep.DeepFit
import Derived.Maps.AppendAt
import Derived.Deep.AppendLies
namespace Go.Proofs.Ytilchjpjmfaghaa.T3
set_option linter.unusedSimpArgs false
set_option linter.unusedVariables false
open Go.RowKit Go.Lib
set_option maxHeartbeats 1000000
def fvr : List Int → Int
  | [] => 0
  | d :: t => d * 10 ^ t.length + fvr t
theorem pow_pos' (n : Nat) : (0 : Int) < 10 ^ n := Int.pow_pos (by decide)
theorem fvr_bd : ∀ {L : List Int}, isD L → 0 ≤ fvr L ∧ fvr L < 10 ^ L.length
  | [], _ => by simp [fvr]
  | d :: t, h => by
    obtain ⟨h1, h2⟩ := fvr_bd (L := t) (fun x hx => h x (by simp [hx]))
    have hd := h d (by simp)
    have hp := pow_pos' t.length
    obtain ⟨P, hP⟩ : ∃ P : Int, 10 ^ t.length = P := ⟨_, rfl⟩
    rw [fvr, List.length_cons, Int.pow_succ]
    rw [hP] at hp h2 ⊢
    have h3 := Int.mul_nonneg hd.1 (Int.le_of_lt hp)
    have h4 : d * P ≤ 9 * P := Int.mul_le_mul_of_nonneg_right hd.2 (Int.le_of_lt hp)
    omega
theorem fvr_dbl : ∀ L : List Int, fvr (dbl L).1 + (dbl L).2 * 10 ^ L.length = 2 * fvr L
  | [] => by simp [dbl, fvr]
  | d :: t => by
    have ih := fvr_dbl t
    simp only [dbl, fvr, List.length_cons, Int.pow_succ, dbl_len]
    obtain ⟨P, hP⟩ : ∃ P : Int, 10 ^ t.length = P := ⟨_, rfl⟩
    obtain ⟨c, hc⟩ : ∃ c, (dbl t).2 = c := ⟨_, rfl⟩
    rw [hP, hc] at ih ⊢
    have h1 := Int.emod_add_mul_ediv (2 * d + c) 10
    obtain ⟨q, hq⟩ : ∃ q, (2 * d + c) / 10 = q := ⟨_, rfl⟩
    obtain ⟨r, hr⟩ : ∃ r, (2 * d + c) % 10 = r := ⟨_, rfl⟩
    rw [hq, hr] at h1
    rw [hq, hr]
    grind
theorem fvr_zeros (m : Nat) (L : List Int) : fvr (List.replicate m 0 ++ L) = fvr L := by
  induction m with
  | zero => simp
  | succ m ih => rw [List.replicate_succ, List.cons_append, fvr, ih]; simp
theorem fvr_app (A B : List Int) : fvr (A ++ B) = fvr A * 10 ^ B.length + fvr B := by
  induction A with
  | nil => simp [fvr]
  | cons d t ih => rw [List.cons_append, fvr, fvr, ih, List.length_append, Int.pow_add]; grind
theorem fl_take (L : List Int) : ∀ i, i ≤ L.length → fl L i = fvr (L.take i)
  | 0, _ => by simp [fl, fvr]
  | i + 1, h => by
    rw [fl, fl_take L i (by omega), List.take_succ_eq_append_getElem (by omega), fvr_app]
    simp [fvr, List.getD_eq_getElem?_getD, List.getElem?_eq_getElem (show i < L.length by omega)]
    grind
theorem fl_more (L : List Int) : ∀ j, fl L (L.length + j) = fvr L * 10 ^ j
  | 0 => by rw [Nat.add_zero, fl_take L _ (Nat.le_refl _), List.take_length]; simp
  | j + 1 => by
    rw [← Nat.add_assoc, fl, fl_more L j, List.getD_eq_getElem?_getD, List.getElem?_eq_none (by omega), Int.pow_succ]
    simp
    grind
/-- the integer part and the digits behind, doubled k times -/
def st (n : Int) (R : List Int) : Nat → Int × List Int
  | 0 => (n, R)
  | k + 1 => (2 * (st n R k).1 + (dbl (st n R k).2).2, (dbl (st n R k).2).1)
theorem st_len (n : Int) (R : List Int) : ∀ k, (st n R k).2.length = R.length
  | 0 => rfl
  | k + 1 => by rw [st, dbl_len, st_len n R k]
theorem st_isD {n : Int} {R : List Int} (h : isD R) : ∀ k, isD (st n R k).2
  | 0 => h
  | k + 1 => (dbl_bd (st_isD h k)).1
theorem st_val (n : Int) (R : List Int) : ∀ k, (st n R k).1 * 10 ^ R.length + fvr (st n R k).2 = 2 ^ k * (n * 10 ^ R.length + fvr R)
  | 0 => by simp [st]
  | k + 1 => by
    have ih := st_val n R k
    have h := fvr_dbl (st n R k).2
    rw [st_len] at h
    simp only [st, Int.pow_succ]
    grind
theorem st_bd {n : Int} {R : List Int} (h : isD R) (hn : 0 ≤ n ∧ n ≤ 2147483648) : ∀ k, k ≤ 17 → 0 ≤ (st n R k).1 ∧ (st n R k).1 ≤ 2 ^ k * 2147483649 - 1
  | 0, _ => by simp [st]; omega
  | k + 1, hk => by
    have ih := st_bd h hn k (by omega)
    have hd := (dbl_bd (st_isD (n := n) h k)).2
    simp only [st, Int.pow_succ]
    omega
/-- twice the units, rounded down, and whether something is left -/
def tT (D E : Int) : Int := if 0 ≤ E then 131072 * D * 10 ^ E.toNat else 131072 * D / 10 ^ (-E).toNat
def tM (D E : Int) : Bool := if 0 ≤ E then false else decide (131072 * D % 10 ^ (-E).toNat ≠ 0)
theorem div_of {T r X P : Int} (hP : 0 < P) (h : T * P + r = X) (hr : 0 ≤ r ∧ r < P) : T = X / P ∧ r = X % P := by
  have := Int.ediv_emod_unique (a := X) (b := P) (r := r) (q := T) hP
  have h2 := this.2 ⟨by rw [← h]; rw [Int.add_comm, Int.mul_comm], hr.1, hr.2⟩
  exact ⟨h2.1.symm, h2.2.symm⟩
theorem st_tT {n : Int} {R : List Int} (h : isD R) : (st n R 17).1 = 131072 * (n * 10 ^ R.length + fvr R) / 10 ^ R.length ∧ fvr (st n R 17).2 = 131072 * (n * 10 ^ R.length + fvr R) % 10 ^ R.length := by
  have hv := st_val n R 17
  have hb := fvr_bd (st_isD (n := n) h 17)
  rw [st_len] at hb
  exact div_of (pow_pos' _) (by rw [hv]; rfl) hb
theorem fvr_zero : ∀ {L : List Int}, isD L → (fvr L ≠ 0 ↔ L.any (fun d => decide (d ≠ 0)) = true)
  | [], _ => by simp [fvr]
  | d :: t, h => by
    have ih := fvr_zero (L := t) (fun x hx => h x (by simp [hx]))
    have hb := fvr_bd (L := t) (fun x hx => h x (by simp [hx]))
    have hd := h d (by simp)
    have hp := pow_pos' t.length
    rw [fvr, List.any_cons, Bool.or_eq_true, ← ih, decide_eq_true_iff]
    obtain ⟨P, hP⟩ : ∃ P : Int, 10 ^ t.length = P := ⟨_, rfl⟩
    rw [hP] at hp ⊢
    have h3 := Int.mul_nonneg hd.1 (Int.le_of_lt hp)
    constructor
    · intro h4
      by_cases h5 : d = 0
      · right; subst h5; simpa using h4
      · exact .inl h5
    · rintro (h4 | h4)
      · have h6 : 1 * P ≤ d * P := Int.mul_le_mul_of_nonneg_right (by omega) (Int.le_of_lt hp)
        omega
      · omega
/-- what Parse starts from -/
def pn (L : List Int) (P : Int) : Int := if P ≤ 0 then 0 else fl L P.toNat
def pR (L : List Int) (P : Int) : List Int := if P ≤ 0 then List.replicate (-P).toNat 0 ++ L else L.drop P.toNat
theorem pR_isD {L : List Int} (h : isD L) (P : Int) : isD (pR L P) := by
  unfold pR
  split
  · intro d hd
    rcases List.mem_append.1 hd with h1 | h1
    · rw [List.eq_of_mem_replicate h1]; omega
    · exact h d h1
  · intro d hd; exact h d (List.mem_of_mem_drop hd)
theorem p_val (L : List Int) (P : Int) : 131072 * (pn L P * 10 ^ (pR L P).length + fvr (pR L P)) / 10 ^ (pR L P).length = tT (fvr L) (P - L.length) ∧ decide (131072 * (pn L P * 10 ^ (pR L P).length + fvr (pR L P)) % 10 ^ (pR L P).length ≠ 0) = tM (fvr L) (P - L.length) := by
  have key : ∀ (m : Nat) (X : Int), (P - L.length : Int) = -(m : Int) → X = fvr L → 131072 * X / 10 ^ m = tT (fvr L) (P - L.length) ∧ decide (131072 * X % 10 ^ m ≠ 0) = tM (fvr L) (P - L.length) := by
    intro m X hm hX
    rw [hm, hX]
    unfold tT tM
    rcases Nat.eq_zero_or_pos m with h0 | h0
    · subst h0; simp
    · rw [if_neg (by omega), if_neg (by omega), show (-(-(m : Int))).toNat = m by omega]
      exact ⟨rfl, rfl⟩
  unfold pn pR
  by_cases h : P ≤ 0
  · rw [if_pos h, if_pos h, fvr_zeros]
    refine key _ _ ?_ (by simp)
    simp; omega
  · rw [if_neg h, if_neg h]
    by_cases h2 : P.toNat ≤ L.length
    · refine key _ _ ?_ ?_
      · simp; omega
      · rw [fl_take L _ h2, ← fvr_app, List.take_append_drop]
    · rw [List.drop_eq_nil_of_le (by omega), show P.toNat = L.length + (P.toNat - L.length) by omega, fl_more]
      unfold tT tM
      rw [if_pos (by omega), if_pos (by omega), show (P - (L.length : Int)).toNat = P.toNat - L.length by omega]
      simp [fvr, Int.mul_assoc]
/-- the real, from twice the units -/
def resV (neg : Bool) (T : Int) (more : Bool) : Int := if neg = true then -(T / 2 + if T % 2 = 1 ∧ more = true then 1 else 0) else T / 2 + T % 2
theorem resV_big {neg : Bool} {T : Int} {more : Bool} (h : 2147483648 < T / 2) (h0 : 0 ≤ T) : isB (resV neg T more) = false := by
  unfold resV isB
  cases neg
  · rw [if_neg (by simp)]
    refine decide_eq_false fun hh => ?_
    omega
  · rw [if_pos rfl]
    refine decide_eq_false fun hh => ?_
    have : 0 ≤ (if T % 2 = 1 ∧ more = true then (1 : Int) else 0) := by split <;> omega
    omega
end Go.Proofs.Ytilchjpjmfaghaa.T3
