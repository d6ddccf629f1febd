/- chapter 27: ranks, counted: what the reference's Spot reckons. -/
import Derived.Test.YtdkkjlapmaageaaToI
import Derived.Test.YtdkkjlapmaageaaToH
import Derived.Test.YtdkkjlapmaageaaToK
import Derived.WalkKit
import Derived.Lib.Hide
import Derived.Deep.QuietTactic
import Derived.BigQuiet
import Derived.Lib.QuietBelow
import Derived.Deep.RegionHeld3
import Derived.WalkLawsBesides
import Derived.WalkSpells
import Derived.Outline
import Derived.Deep.DeepFit
import Derived.Maps.AppendAt
import Derived.Deep.AppendLies
namespace Go.Proofs.Ytdkkjlapmaageaa.T3
set_option linter.unusedSimpArgs false
set_option linter.unusedVariables false
open Go.RowKit Go.Sort Go.Lib Go.Shelf
set_option maxHeartbeats 1000000
def pvt (k W H : Int) (m t : Nat) : Int := pval k W H (pxN m t)
def bef (k W H : Int) (m q p : Nat) : Prop := pvt k W H m q < pvt k W H m p ∨ (pvt k W H m q = pvt k W H m p ∧ q < p)
instance (k W H : Int) (m q p : Nat) : Decidable (bef k W H m q p) := by unfold bef; infer_instance
def rkc (k W H : Int) (m p : Nat) : Nat → Nat
  | 0 => 0
  | q + 1 => rkc k W H m p q + if bef k W H m q p then 1 else 0
theorem px_lt {m h q p : Nat} (hm : m ≤ 16) (hh : h ≤ 16) (hq : q < m * h) (hp : p < m * h) : ((pxN m q).1.2 < (pxN m p).1.2 ∨ ((pxN m q).1.2 = (pxN m p).1.2 ∧ (pxN m q).1.1 < (pxN m p).1.1)) ↔ q < p := by
  obtain ⟨a, b, e1, ha, hb, e2⟩ := px_form hm hh hq
  obtain ⟨a', b', e1', ha', hb', e2'⟩ := px_form hm hh hp
  rw [e1, e1', e2, e2']
  show (b < b' ∨ (b = b' ∧ a < a')) ↔ _
  constructor
  · rintro (h1 | ⟨rfl, h1⟩)
    · have : (b + 1) * m ≤ b' * m := Nat.mul_le_mul_right m h1
      rw [Nat.succ_mul] at this
      omega
    · omega
  · intro h1
    rcases Nat.lt_trichotomy b b' with h2 | h2 | h2
    · exact .inl h2
    · subst h2; exact .inr ⟨rfl, by omega⟩
    · exfalso
      have : (b' + 1) * m ≤ b * m := Nat.mul_le_mul_right m h2
      rw [Nat.succ_mul] at this
      omega
theorem plt_bef (k W H : Int) {m h q p : Nat} (hm : m ≤ 16) (hh : h ≤ 16) (hq : q < m * h) (hp : p < m * h) : plt k W H (pxN m q) (pxN m p) = decide (bef k W H m q p) := by
  unfold plt
  refine decide_eq_decide.2 ?_
  rw [px_lt hm hh hq hp]
  exact Iff.rfl
theorem rk_rkc (k W H : Int) {m h p : Nat} (hm : m ≤ 16) (hh : h ≤ 16) (hp : p < m * h) : ∀ n, n ≤ m * h → rk k W H m n p = rkc k W H m p n
  | 0, _ => by simp [rk, rkOf, allP, rkc]
  | n + 1, hn => by
    have ih := rk_rkc k W H hm hh hp n (by omega)
    unfold rk rkOf allP at ih ⊢
    rw [List.range_succ, List.map_append, List.countP_append, ih, rkc]
    simp only [List.map_cons, List.map_nil, List.countP_singleton, plt_bef k W H hm hh (show n < m * h by omega) hp, decide_eq_true_eq]
theorem bef_irr (k W H : Int) (m p : Nat) : ¬ bef k W H m p p := by unfold bef; omega
theorem bef_trans {k W H : Int} {m p q r : Nat} (h1 : bef k W H m p q) (h2 : bef k W H m q r) : bef k W H m p r := by unfold bef at *; omega
theorem bef_tot {k W H : Int} {m p q : Nat} (h : p ≠ q) : bef k W H m p q ∨ bef k W H m q p := by unfold bef; omega
theorem rkc_le (k W H : Int) (m p : Nat) : ∀ n, rkc k W H m p n ≤ n ∧ (p < n → rkc k W H m p n < n)
  | 0 => by simp [rkc]
  | n + 1 => by
    obtain ⟨h1, h2⟩ := rkc_le k W H m p n
    simp only [rkc]
    refine ⟨by split <;> omega, fun h => ?_⟩
    by_cases e : p = n
    · subst e
      rw [if_neg (bef_irr k W H m p)]
      omega
    · have := h2 (by omega)
      split <;> omega
theorem rkc_mono {k W H : Int} {m p q : Nat} (h : bef k W H m p q) : ∀ n, rkc k W H m p n ≤ rkc k W H m q n ∧ (p < n → rkc k W H m p n < rkc k W H m q n)
  | 0 => by simp [rkc]
  | n + 1 => by
    obtain ⟨h1, h2⟩ := rkc_mono h n
    simp only [rkc]
    have h3 : bef k W H m n p → bef k W H m n q := fun h4 => bef_trans h4 h
    refine ⟨?_, fun h5 => ?_⟩
    · by_cases h4 : bef k W H m n p
      · rw [if_pos h4, if_pos (h3 h4)]; omega
      · rw [if_neg h4]; omega
    · by_cases e : p = n
      · subst e
        rw [if_neg (bef_irr k W H m p), if_pos h]
        omega
      · have := h2 (by omega)
        by_cases h4 : bef k W H m n p
        · rw [if_pos h4, if_pos (h3 h4)]; omega
        · rw [if_neg h4]; omega
theorem rkc_inj {k W H : Int} {m p q n : Nat} (hp : p < n) (hq : q < n) (h : rkc k W H m p n = rkc k W H m q n) : p = q := by
  rcases Nat.decEq p q with e | e
  · rcases bef_tot (k := k) (W := W) (H := H) (m := m) e with h1 | h1
    · have := (rkc_mono h1 n).2 hp; omega
    · have := (rkc_mono h1 n).2 hq; omega
  · exact e
theorem strU_oct {L : Nat} {f : Nat → Int} {i : Nat} (hi : i < L) (h : 0 ≤ f i ∧ f i ≤ 255) : oct (strU L f) i = f i := by
  unfold oct strU
  have : (f i).toNat % 256 = (f i).toNat := Nat.mod_eq_of_lt (by omega)
  simp [hi, this]
  omega
theorem spotF_bd (k W H : Int) {m h p : Nat} (hm : m ≤ 16) (hh : h ≤ 16) (hp : p < m * h) : 0 ≤ spotF k W H m (m * h) p ∧ spotF k W H m (m * h) p < 255 := by
  unfold spotF
  rw [rk_rkc k W H hm hh hp _ (Nat.le_refl _)]
  have h1 := (rkc_le k W H m p (m * h)).2 hp
  have h0 : 0 < ((m * h : Nat) : Int) := by omega
  refine ⟨Int.ediv_nonneg (by omega) (by omega), ?_⟩
  exact Int.ediv_lt_of_lt_mul h0 (by omega)
theorem spotS_size (k W H : Int) : (spotS k W H).size = W.toNat * H.toNat := by unfold spotS; rw [strU_size]
theorem spot_ok (k W H : Int) (hW : 1 ≤ W ∧ W ≤ 16) (hH : 1 ≤ H ∧ H ≤ 16) : okT W H (spotS k W H) := by
  refine ⟨hW, hH, ?_, ?_⟩
  · rw [spotS_size]
    have e1 : (W.toNat : Int) = W := by omega
    have e2 : (H.toNat : Int) = H := by omega
    simp [e1, e2]
  · intro i hi
    rw [spotS_size] at hi
    have hb := spotF_bd k W H (show W.toNat ≤ 16 by omega) (show H.toNat ≤ 16 by omega) hi
    unfold spotS
    rw [strU_oct hi (by omega)]
    omega
theorem own_bytes {base g cap n : Nat} {w : World} {e : TypeId} {f : Nat → Int} (h : w.ownsRow base e 1 (.slice (some ⟨g, 0, none⟩) n cap) n ((List.range n).map fun t => .int .u8 (f t))) (hf : ∀ j, j < n → 0 ≤ f j ∧ f j ≤ 255) : Lib.Bytes w g 0 (strU n f) := by
  intro i hi
  have hl : i < n := by rw [strU_size] at hi; exact hi
  have c := h.cellAt i (by omega)
  rw [Nat.zero_add, c]
  have h1 := hf i hl
  have h2 : (f i).toNat % 256 = (f i).toNat := Nat.mod_eq_of_lt (by omega)
  have h3 : ((f i).toNat : Int) = f i := by omega
  simp [hl, strU, ByteArray.getElem_eq_getElem_data, h2, h3]
end Go.Proofs.Ytdkkjlapmaageaa.T3
