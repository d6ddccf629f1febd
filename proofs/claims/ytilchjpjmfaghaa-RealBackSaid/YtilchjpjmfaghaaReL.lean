/- chapter 01: what the reference's times and Parse compute. Plain. -/
import Derived.Test.YtilchjpjmfaghaaReK
import Derived.WalkKit
import Derived.Lib.Hide
import Derived.Deep.QuietTactic
import Derived.BigQuiet
import Derived.Lib.QuietBelow
import Derived.Deep.RegionHeld3
import Derived.WalkLawsBesides
import Derived.WalkSpells
import Derived.Outline
import Derived.Deep.DeepFit
import Derived.Maps.AppendAt
import Derived.Deep.AppendLies
namespace Go.Proofs.Ytilchjpjmfaghaa.T3
set_option linter.unusedSimpArgs false
set_option linter.unusedVariables false
open Go.RowKit Go.Lib
set_option maxHeartbeats 1000000
/-- digits times 131072, and what is carried -/
def tm : List Int → List Int × Int
  | [] => ([], 0)
  | d :: t => ((d * 131072 + (tm t).2) % 10 :: (tm t).1, (d * 131072 + (tm t).2) / 10)
theorem tm_len : ∀ L, (tm L).1.length = L.length
  | [] => rfl
  | d :: t => by simp [tm, tm_len t]
theorem tm_bd : ∀ {L : List Int}, isD L → isD (tm L).1 ∧ 0 ≤ (tm L).2 ∧ (tm L).2 ≤ 131072
  | [], _ => ⟨fun d hd => absurd hd (by simp [tm]), by simp [tm], by simp [tm]⟩
  | d :: t, h => by
    obtain ⟨h1, h2, h3⟩ := tm_bd (L := t) (fun x hx => h x (by simp [hx]))
    have hd := h d (by simp)
    refine ⟨fun x hx => ?_, ?_, ?_⟩
    · simp only [tm, List.mem_cons] at hx
      rcases hx with rfl | hx
      · omega
      · exact h1 x hx
    · simp only [tm]; omega
    · simp only [tm]; omega
theorem fvr_tm : ∀ L : List Int, fvr (tm L).1 + (tm L).2 * 10 ^ L.length = 131072 * fvr L
  | [] => by simp [tm, fvr]
  | d :: t => by
    have ih := fvr_tm t
    simp only [tm, fvr, List.length_cons, Int.pow_succ, tm_len]
    obtain ⟨P, hP⟩ : ∃ P : Int, 10 ^ t.length = P := ⟨_, rfl⟩
    obtain ⟨c, hc⟩ : ∃ c, (tm t).2 = c := ⟨_, rfl⟩
    rw [hP, hc] at ih ⊢
    have h1 := Int.emod_add_mul_ediv (d * 131072 + c) 10
    obtain ⟨q, hq⟩ : ∃ q, (d * 131072 + c) / 10 = q := ⟨_, rfl⟩
    obtain ⟨r, hr⟩ : ∃ r, (d * 131072 + c) % 10 = r := ⟨_, rfl⟩
    rw [hq, hr] at h1
    rw [hq, hr]
    grind
/-- n digits of c ahead of others -/
def lead : Nat → Int → List Int → List Int
  | 0, _, R => R
  | n + 1, c, R => lead n (c / 10) (c % 10 :: R)
theorem lead_len : ∀ n c R, (lead n c R).length = n + R.length
  | 0, _, _ => by simp [lead]
  | n + 1, c, R => by rw [lead, lead_len n]; simp; omega
theorem lead_isD : ∀ n c R, isD R → isD (lead n c R)
  | 0, _, _, h => h
  | n + 1, c, R, h => lead_isD n _ _ (fun x hx => by
      rcases List.mem_cons.1 hx with rfl | hx
      · omega
      · exact h x hx)
theorem fvr_lead : ∀ n c R, 0 ≤ c → c < 10 ^ n → fvr (lead n c R) = c * 10 ^ R.length + fvr R
  | 0, c, R, h0, h1 => by
    have : c = 0 := by simp at h1; omega
    subst this
    simp [lead]
  | n + 1, c, R, h0, h1 => by
    have hlt : c / 10 < 10 ^ n := by rw [Int.pow_succ] at h1; exact Int.ediv_lt_of_lt_mul (by decide) h1
    rw [lead, fvr_lead n _ _ (by omega) hlt, fvr, List.length_cons, Int.pow_succ]
    obtain ⟨P, hP⟩ : ∃ P : Int, 10 ^ R.length = P := ⟨_, rfl⟩
    rw [hP]
    have h1 := Int.emod_add_mul_ediv c 10
    obtain ⟨q, hq⟩ : ∃ q, c / 10 = q := ⟨_, rfl⟩
    obtain ⟨r, hr⟩ : ∃ r, c % 10 = r := ⟨_, rfl⟩
    rw [hq, hr] at h1
    rw [hq, hr]
    grind
def tms (L : List Int) : List Int := lead 6 (tm L).2 (tm L).1
theorem tms_len (L : List Int) : (tms L).length = L.length + 6 := by unfold tms; rw [lead_len, tm_len]; omega
theorem tms_isD {L : List Int} (h : isD L) : isD (tms L) := lead_isD _ _ _ (tm_bd h).1
theorem fvr_tms {L : List Int} (h : isD L) : fvr (tms L) = 131072 * fvr L := by
  have hb := (tm_bd h).2
  have := fvr_tm L
  unfold tms
  rw [fvr_lead 6 _ _ hb.1 (by have : (10 : Int) ^ 6 = 1000000 := by decide
                              omega), tm_len]
  omega
/-- how many digits of twice the units are before the point -/
def oq (L : List Int) (E : Int) : Nat := ((L.length : Int) + E).toNat
theorem o_val {L : List Int} (h : isD L) (E : Int) : fl (tms L) (oq (tms L) E) = tT (fvr L) E ∧ ((tms L).drop (oq (tms L) E)).any (fun d => decide (d ≠ 0)) = tM (fvr L) E := by
  have hO := tms_isD h
  have hv := fvr_tms h
  obtain ⟨O, hOe⟩ : ∃ O, tms L = O := ⟨_, rfl⟩
  rw [hOe] at hO hv ⊢
  unfold oq tT tM
  by_cases hE : 0 ≤ E
  · rw [if_pos hE, if_pos hE, show ((O.length : Int) + E).toNat = O.length + E.toNat by omega, fl_more, hv, List.drop_eq_nil_of_le (by omega)]
    exact ⟨rfl, rfl⟩
  · rw [if_neg hE, if_neg hE]
    have hbd : ∀ q, 0 ≤ fvr (O.drop q) ∧ fvr (O.drop q) < 10 ^ (O.length - q) := fun q => by
      have := fvr_bd (L := O.drop q) (fun x hx => hO x (List.mem_of_mem_drop hx))
      rwa [List.length_drop] at this
    have hany : ∀ q X, fvr (O.drop q) = X → (O.drop q).any (fun d => decide (d ≠ 0)) = decide (X ≠ 0) := fun q X hX => by
      have := fvr_zero (L := O.drop q) (fun x hx => hO x (List.mem_of_mem_drop hx))
      rw [hX] at this
      cases h8 : (O.drop q).any (fun d => decide (d ≠ 0))
      · rw [h8] at this; exact (decide_eq_false fun h => absurd (this.1 h) (by simp)).symm
      · exact (decide_eq_true (this.2 h8)).symm
    by_cases hl : 0 ≤ (O.length : Int) + E
    · obtain ⟨q, hq⟩ : ∃ q, ((O.length : Int) + E).toNat = q := ⟨_, rfl⟩
      rw [hq]
      have hql : q ≤ O.length := by omega
      have he : (-E).toNat = O.length - q := by omega
      have hs := fvr_app (O.take q) (O.drop q)
      rw [List.take_append_drop, List.length_drop, hv] at hs
      obtain ⟨d1, d2⟩ := div_of (T := fvr (O.take q)) (r := fvr (O.drop q)) (pow_pos' (O.length - q)) hs.symm (hbd q)
      rw [fl_take _ _ hql, he]
      exact ⟨d1, hany q _ d2⟩
    · rw [show ((O.length : Int) + E).toNat = 0 by omega]
      have h1 := hbd 0
      rw [List.drop_zero, Nat.sub_zero, hv] at h1
      have h2 : (10 : Int) ^ O.length ≤ 10 ^ (-E).toNat := by
        have := Nat.pow_le_pow_right (show 0 < 10 by decide) (show O.length ≤ (-E).toNat by omega)
        have h3 : ((10 ^ O.length : Nat) : Int) ≤ ((10 ^ (-E).toNat : Nat) : Int) := Int.ofNat_le.2 this
        rw [Int.natCast_pow, Int.natCast_pow] at h3
        exact h3
      have h4 : 131072 * fvr L < 10 ^ (-E).toNat := Int.lt_of_lt_of_le h1.2 h2
      refine ⟨?_, ?_⟩
      · rw [Int.ediv_eq_zero_of_lt h1.1 h4]; rfl
      · rw [Int.emod_eq_of_lt h1.1 h4]
        exact hany 0 _ (by rw [List.drop_zero, hv])
theorem up_pos {T : Int} (h : 0 ≤ T) (m : Bool) : (T + 1) / 2 = resV false T m := by
  unfold resV
  rw [if_neg (by simp)]
  omega
theorem up_neg0 {T : Int} (h : 0 ≤ T) : (-T + 1) / 2 = resV true T false := by
  unfold resV
  rw [if_pos rfl, if_neg (by simp)]
  omega
theorem up_neg1 {T : Int} (h : 0 ≤ T) : (-T - 1 + 1) / 2 = resV true T true := by
  unfold resV
  rw [if_pos rfl]
  by_cases g : T % 2 = 1
  · rw [if_pos ⟨g, rfl⟩]; omega
  · rw [if_neg (fun h => g h.1)]; omega
theorem toArr_set (M : List Int) (i : Nat) (x : Int) : (i64s M).toArray.setIfInBounds i (.int .i64 x) = (i64s (M.set i x)).toArray := by
  simp [i64s, List.map_set]
theorem toArr_get {M : List Int} {i : Nat} (h : i < M.length) : (i64s M).toArray[i]? = some (.int .i64 (M.getD i 0)) := by
  simp [i64s, List.getElem?_eq_getElem h, List.getD_eq_getElem?_getD]
end Go.Proofs.Ytilchjpjmfaghaa.T3
