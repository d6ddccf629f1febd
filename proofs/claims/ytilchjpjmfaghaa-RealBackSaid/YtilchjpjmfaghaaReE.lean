/- chapter 01: what a decimal is, place by place; the scanner's decimal. -/
import Derived.Test.YtilchjpjmfaghaaReD
import Derived.WalkKit
import Derived.Lib.Hide
import Derived.Deep.QuietTactic
import Derived.BigQuiet
import Derived.Lib.QuietBelow
import Derived.Deep.RegionHeld3
import Derived.WalkLawsBesides
import Derived.WalkSpells
import Derived.Outline
import Derived.Deep.DeepFit
import Derived.Maps.AppendAt
import Derived.Deep.AppendLies
import Derived.Laws.AppendOwnNone
import Derived.Deep.CutRange
import Derived.OpenShut
namespace Go.Proofs.Ytilchjpjmfaghaa.T3
set_option linter.unusedSimpArgs false
set_option linter.unusedVariables false
open Go.RowKit Go.Lib
set_option maxHeartbeats 4000000
set_option maxRecDepth 100000
def runF (S : ByteArray) (p : Nat) : Nat → Nat
  | 0 => 0
  | f + 1 => if dig (oct S p) then runF S (p + 1) f + 1 else 0
/-- how many digits come from p on -/
def run (S : ByteArray) (p : Nat) : Nat := runF S p (S.size - p)
theorem runF_spec (S : ByteArray) : ∀ f p, p + f = S.size → isRun S p (runF S p f)
  | 0, p, h => ⟨by simp [runF]; omega, fun t ht => absurd ht (by simp [runF]), fun h' => by simp [runF] at h'; omega⟩
  | f + 1, p, h => by
    by_cases g : dig (oct S p)
    · have ih := runF_spec S f (p + 1) (by omega)
      rw [runF, if_pos g]
      obtain ⟨h1, h2, h3⟩ := ih
      refine ⟨by omega, fun t ht => ?_, fun h' => ?_⟩
      · rcases Nat.eq_zero_or_pos t with rfl | h0
        · exact g
        · have := h2 (t - 1) (by omega)
          rwa [show p + 1 + (t - 1) = p + t by omega] at this
      · have := h3 (by omega)
        rwa [show p + 1 + runF S (p + 1) f = p + (runF S (p + 1) f + 1) by omega] at this
    · rw [runF, if_neg g]
      exact ⟨by omega, fun t ht => absurd ht (by omega), fun _ => g⟩
theorem run_spec (S : ByteArray) {p : Nat} (h : p ≤ S.size) : isRun S p (run S p) := runF_spec S _ _ (by omega)
def sgN (S : ByteArray) (p : Nat) : Bool := decide (p < S.size ∧ oct S p = 45)
def sgB (S : ByteArray) (p : Nat) : Bool := decide (p < S.size ∧ (oct S p = 43 ∨ oct S p = 45))
def sgP (S : ByteArray) (p : Nat) : Nat := if sgB S p = true then p + 1 else p
def dotB (S : ByteArray) (p : Nat) : Bool := decide (p < S.size ∧ oct S p = 46)
def expB (S : ByteArray) (p : Nat) : Bool := decide (p < S.size ∧ (oct S p = 101 ∨ oct S p = 69))
def vl (S : ByteArray) (p : Nat) : Nat → Int
  | 0 => 0
  | k + 1 => 10 * vl S p k + (oct S (p + k) - 48)
def dP1 (S : ByteArray) : Nat := sgP S 0
def dN1 (S : ByteArray) : Nat := run S (dP1 S)
def dP2 (S : ByteArray) : Nat := dP1 S + dN1 S
def dN2 (S : ByteArray) : Nat := if dotB S (dP2 S) = true then run S (dP2 S + 1) else 0
def dP4 (S : ByteArray) : Nat := if dotB S (dP2 S) = true then dP2 S + 1 + dN2 S else dP2 S
def dP6 (S : ByteArray) : Nat := sgP S (dP4 S + 1)
def dN3 (S : ByteArray) : Nat := run S (dP6 S)
def dN (S : ByteArray) : Nat := dN1 S + dN2 S
def dOk (S : ByteArray) : Bool := decide (dN S ≠ 0) && (if expB S (dP4 S) = true then decide (1 ≤ dN3 S ∧ dN3 S ≤ 3 ∧ dP6 S + dN3 S = S.size) else decide (dP4 S = S.size))
def dEx (S : ByteArray) : Int := if expB S (dP4 S) = true then (if sgN S (dP4 S + 1) = true then -(vl S (dP6 S) (dN3 S)) else vl S (dP6 S) (dN3 S)) else 0
def dLs (S : ByteArray) : List Value := dgs S (dP1 S) (dN1 S) ++ dgs S (dP2 S + 1) (dN2 S)
theorem sgP_le (S : ByteArray) {p : Nat} (h : p ≤ S.size) : sgP S p ≤ S.size := by
  unfold sgP
  split
  · rename_i g; unfold sgB at g; have := of_decide_eq_true g; omega
  · exact h
theorem dP2_le (S : ByteArray) : dP2 S ≤ S.size := (run_spec S (sgP_le S (Nat.zero_le _))).1
theorem dP4_le (S : ByteArray) : dP4 S ≤ S.size := by
  unfold dP4
  split
  · rename_i g
    have h : dP2 S + 1 ≤ S.size := by unfold dotB at g; have := of_decide_eq_true g; omega
    have := (run_spec S h).1
    unfold dN2
    rw [if_pos g]
    exact this
  · exact dP2_le S
def PM : ByteArray := ⟨#[43, 45]⟩
def PT : ByteArray := ⟨#[46]⟩
def EE : ByteArray := ⟨#[101, 69]⟩
theorem pm_iff (S : ByteArray) (p : Nat) : sgB S p = true ↔ p < S.size ∧ ∃ j, j < PM.size ∧ oct PM j = oct S p := by
  unfold sgB
  rw [decide_eq_true_iff]
  refine and_congr_right fun _ => ⟨fun h => ?_, ?_⟩
  · rcases h with h | h
    · exact ⟨0, by decide, by rw [h]; decide⟩
    · exact ⟨1, by decide, by rw [h]; decide⟩
  · rintro ⟨j, hj, h⟩
    have : j = 0 ∨ j = 1 := by have : PM.size = 2 := rfl; omega
    rcases this with rfl | rfl
    · exact .inl h.symm
    · exact .inr h.symm
theorem pt_iff (S : ByteArray) (p : Nat) : dotB S p = true ↔ p < S.size ∧ ∃ j, j < PT.size ∧ oct PT j = oct S p := by
  unfold dotB
  rw [decide_eq_true_iff]
  refine and_congr_right fun _ => ⟨fun h => ⟨0, by decide, by rw [h]; decide⟩, ?_⟩
  rintro ⟨j, hj, h⟩
  have : j = 0 := by have : PT.size = 1 := rfl; omega
  subst this
  exact h.symm
theorem ee_iff (S : ByteArray) (p : Nat) : expB S p = true ↔ p < S.size ∧ ∃ j, j < EE.size ∧ oct EE j = oct S p := by
  unfold expB
  rw [decide_eq_true_iff]
  refine and_congr_right fun _ => ⟨fun h => ?_, ?_⟩
  · rcases h with h | h
    · exact ⟨0, by decide, by rw [h]; decide⟩
    · exact ⟨1, by decide, by rw [h]; decide⟩
  · rintro ⟨j, hj, h⟩
    have : j = 0 ∨ j = 1 := by have : EE.size = 2 := rfl; omega
    rcases this with rfl | rfl
    · exact .inl h.symm
    · exact .inr h.symm
theorem vl_bd (S : ByteArray) (p n : Nat) (h : ∀ t, t < n → dig (oct S (p + t))) : ∀ k, k ≤ n → 0 ≤ vl S p k ∧ vl S p k < 10 ^ k
  | 0, _ => by simp [vl]
  | k + 1, hk => by
    have ih := vl_bd S p n h k (by omega)
    have hd := h k (by omega)
    unfold dig at hd
    rw [vl, Int.pow_succ]
    omega
theorem own_form {w : World} {base : Nat} {e : TypeId} {size : Nat} {v : Value} {n : Nat} {xs : List Value} (h : w.ownsRow base e size v n xs) : ∃ (x : Option Addr) (cap : Nat), v = .slice x n cap := by
  rcases h.2 with ⟨rfl, rfl⟩ | ⟨g, cap, cur, rfl, _⟩
  · exact ⟨none, 0, rfl⟩
  · exact ⟨_, cap, rfl⟩
theorem own_cases {w : World} {base : Nat} {e : TypeId} {size : Nat} {v : Value} {n : Nat} {xs : List Value} (h : w.ownsRow base e size v n xs) : (v = .slice none 0 0 ∧ n = 0) ∨ ∃ (g cap : Nat), v = .slice (some ⟨g, 0, none⟩) n cap ∧ base ≤ g := by
  rcases h.2 with h | ⟨g, cap, cur, rfl, hb, _⟩
  · exact .inl h
  · exact .inr ⟨g, cap, rfl, hb⟩
theorem beq_nat (a b : Nat) : ((a : Int) == (b : Int)) = decide (a = b) := by
  by_cases h : a = b
  · subst h; simp
  · rw [decide_eq_false h]; exact beq_eq_false_iff_ne.2 (by omega)
theorem own_low {w : World} {base B : Nat} {e : TypeId} {size : Nat} {v : Value} {n : Nat} {xs : List Value} (hB : B ≤ base) (h : w.ownsRow base e size v n xs) : w.ownsRow B e size v n xs := by
  refine ⟨h.1, ?_⟩
  rcases h.2 with h | ⟨g, cap, cur, rfl, hb, rest⟩
  · exact .inl h
  · exact .inr ⟨g, cap, cur, rfl, by omega, rest⟩
/-- the place behind the sign of an exponent -/
abbrev P6v (S : ByteArray) (P4 : Nat) : Nat := sgP S (P4 + 1)
theorem own_cell {w : World} {base : Nat} {e : TypeId} {g n cap : Nat} {xs : List Value} (h : w.ownsRow base e 1 (.slice (some ⟨g, 0, none⟩) n cap) n xs) {j : Nat} {u : Value} (hu : xs[j]? = some u) : w.cell? ⟨g, j, none⟩ = some u := by
  have := h.cells (g := g) rfl j u hu
  rwa [show ((⟨g, 0, none⟩ : Addr).add j) = ⟨g, j, none⟩ by unfold Addr.add; split <;> simp_all] at this
theorem dgs_get {S : ByteArray} {p n j : Nat} (h : j < n) : (dgs S p n)[j]? = some (.int .u8 (oct S (p + j) - 48)) := by simp [dgs, h]
theorem dgs_one (S : ByteArray) (p n : Nat) : ∀ u ∈ dgs S p n, u.oneCell' = true := by
  intro u hu
  obtain ⟨t, _, rfl⟩ := List.mem_map.1 hu
  rfl
end Go.Proofs.Ytilchjpjmfaghaa.T3
