/- chapter 27: the thresholds of a spot tile, counted. Plain. -/
import Derived.Test.YtdkkjlapmaageaaToV
import Derived.Test.YtdkkjlapmaageaaToP
import Derived.WalkKit
import Derived.Lib.Hide
import Derived.Deep.QuietTactic
import Derived.BigQuiet
import Derived.Lib.QuietBelow
import Derived.Deep.RegionHeld3
import Derived.WalkLawsBesides
import Derived.WalkSpells
import Derived.Outline
import Derived.Deep.DeepFit
import Derived.Maps.AppendAt
import Derived.Deep.AppendLies
namespace Go.Proofs.Ytdkkjlapmaageaa.T3
set_option linter.unusedSimpArgs false
set_option linter.unusedVariables false
open Go.RowKit Go.Sort Go.Lib Go.Shelf
set_option maxHeartbeats 1000000
theorem perm_range : ∀ (n : Nat) (l : List Nat), l.Nodup → (∀ x ∈ l, x < n) → l.length ≤ n ∧ (l.length = n → l.Perm (List.range n))
  | 0, l, _, h => by
    have : l = [] := by
      cases l with
      | nil => rfl
      | cons a t => exact absurd (h a (by simp)) (by omega)
    subst this
    exact ⟨Nat.le_refl _, fun _ => by simp⟩
  | n + 1, l, hd, h => by
    by_cases hn : n ∈ l
    · have hp := List.perm_cons_erase hn
      have hd2 : (l.erase n).Nodup := hd.erase n
      have hlen : (l.erase n).length + 1 = l.length := by rw [hp.length_eq]; simp
      have hx : ∀ x ∈ l.erase n, x < n := by
        intro x hx
        have h1 := h x (List.mem_of_mem_erase hx)
        have h2 : x ≠ n := ((List.Nodup.mem_erase_iff hd).1 hx).1
        omega
      obtain ⟨i1, i2⟩ := perm_range n (l.erase n) hd2 hx
      refine ⟨by omega, fun e => ?_⟩
      have := i2 (by omega)
      refine hp.trans ((this.cons n).trans ?_)
      rw [List.range_succ]
      exact (List.perm_append_comm (l₁ := [n]) (l₂ := List.range n))
    · have hx : ∀ x ∈ l, x < n := fun x hx => by
        have h1 := h x hx
        have h2 : x ≠ n := fun e => hn (e ▸ hx)
        omega
      obtain ⟨i1, _⟩ := perm_range n l hd hx
      exact ⟨by omega, fun e => by omega⟩
theorem sm_if (P : Nat → Prop) [DecidablePred P] : ∀ n, sm (fun i => if P i then 1 else 0) n = (((List.range n).countP fun i => decide (P i) : Nat) : Int)
  | 0 => by simp [sm]
  | n + 1 => by
    rw [sm, sm_if P n, List.range_succ, List.countP_append, List.countP_singleton]
    by_cases h : P n <;> simp [h]
theorem sm_inj (P : Nat → Prop) [DecidablePred P] (r : Nat → Nat) (n : Nat) (hr : ∀ i, i < n → r i < n) (hi : ∀ i j, i < n → j < n → r i = r j → i = j) : sm (fun i => if P (r i) then 1 else 0) n = sm (fun i => if P i then 1 else 0) n := by
  rw [sm_if (fun i => P (r i)), sm_if P]
  have hp : ((List.range n).map r).Perm (List.range n) := by
    refine (perm_range n _ ?_ ?_).2 (by simp)
    · refine List.pairwise_iff_getElem.2 fun i j h1 h2 hij => ?_
      simp only [List.length_map, List.length_range] at h1 h2
      simp only [List.getElem_map, List.getElem_range]
      intro e
      have := hi i j h1 h2 e
      omega
    · intro x hx
      obtain ⟨i, h1, rfl⟩ := List.mem_map.1 hx
      exact hr i (by simpa using h1)
  have hq := hp.countP_eq (fun i => decide (P i))
  rw [List.countP_map] at hq
  exact congrArg Int.ofNat hq
/-- how many of the first n thresholds are v -/
def mny (f : Nat → Int) (v : Int) (n : Nat) : Int := sm (fun i => if f i = v then 1 else 0) n
theorem mny_succ (f : Nat → Int) (v : Int) (n : Nat) : mny f v (n + 1) = mny f v n + if f n = v then 1 else 0 := rfl
theorem mny_bd (f : Nat → Int) (v : Int) (n : Nat) : 0 ≤ mny f v n ∧ mny f v n ≤ n := by
  have := sm_bd (f := fun i => if f i = v then 1 else 0) (B := 1) (fun i => by split <;> omega) n
  unfold mny
  omega
theorem spot_many (k W H : Int) {m h : Nat} (hm : m ≤ 16) (hh : h ≤ 16) (v : Int) : mny (spotF k W H m (m * h)) v (m * h) = mny (fun i => (255 * (i : Int)) / ((m * h : Nat) : Int)) v (m * h) := by
  unfold mny
  rw [← sm_inj (fun i => (255 * (i : Int)) / ((m * h : Nat) : Int) = v) (fun p => rkc k W H m p (m * h)) (m * h) (fun i hi => (rkc_le k W H m i (m * h)).2 hi) (fun i j hi hj e => rkc_inj hi hj e)]
  refine sm_congr _ fun i hi => ?_
  unfold spotF
  rw [rk_rkc k W H hm hh hi _ (Nat.le_refl _)]
theorem div_lt_iff (a n j : Int) (hn : 0 < n) (hj : 0 ≤ j) : (255 * j) / n < a ↔ j < (a * n + 254) / 255 := by
  rw [Int.ediv_lt_iff_lt_mul hn]
  omega
theorem sm_below (K : Int) (hK : 0 ≤ K) : ∀ n : Nat, sm (fun i => if (i : Int) < K then 1 else 0) n = min (n : Int) K
  | 0 => by simp [sm]; omega
  | n + 1 => by
    rw [sm, sm_below K hK n]
    split <;> omega
theorem spot_count (k W H : Int) {m h : Nat} (hm : m ≤ 16) (hh : h ≤ 16) (h0 : 0 < m * h) (a : Int) (ha : 0 ≤ a ∧ a ≤ 255) : cnt (strU (m * h) (spotF k W H m (m * h))) a (m * h) = (a * ((m * h : Nat) : Int) + 254) / 255 := by
  rw [cnt_sm]
  have h1 : sm (fun t => if oct (strU (m * h) (spotF k W H m (m * h))) t < a then 1 else 0) (m * h) = sm (fun t => if (255 * ((rkc k W H m t (m * h) : Nat) : Int)) / ((m * h : Nat) : Int) < a then 1 else 0) (m * h) := by
    refine sm_congr _ fun i hi => ?_
    have hb := spotF_bd k W H hm hh hi
    rw [strU_oct hi (by omega)]
    unfold spotF
    rw [rk_rkc k W H hm hh hi _ (Nat.le_refl _)]
  rw [h1, sm_inj (fun i => (255 * (i : Int)) / ((m * h : Nat) : Int) < a) (fun p => rkc k W H m p (m * h)) (m * h) (fun i hi => (rkc_le k W H m i (m * h)).2 hi) (fun i j hi hj e => rkc_inj hi hj e)]
  have hn : 0 < ((m * h : Nat) : Int) := by omega
  obtain ⟨n, hnn⟩ : ∃ n : Nat, m * h = n := ⟨_, rfl⟩
  rw [hnn] at hn ⊢
  have hK0 : 0 ≤ a * (n : Int) := Int.mul_nonneg ha.1 (by omega)
  have hK1 : a * (n : Int) ≤ 255 * n := Int.mul_le_mul_of_nonneg_right ha.2 (by omega)
  have h2 : sm (fun i => if (255 * (i : Int)) / (n : Int) < a then 1 else 0) n = sm (fun i => if (i : Int) < (a * n + 254) / 255 then 1 else 0) n := by
    refine sm_congr _ fun i _ => ?_
    have := div_lt_iff a n i hn (by omega)
    by_cases g : (255 * (i : Int)) / (n : Int) < a
    · rw [if_pos g, if_pos (this.1 g)]
    · rw [if_neg g, if_neg (fun x => g (this.2 x))]
  rw [h2, sm_below _ (by omega)]
  omega
/-- a row of whole numbers as a function of the place -/
def arrI (L : Nat) (f : Nat → Int) : Array Value := (Array.range L).map fun j => .int .i64 (f j)
theorem arrI_size (L : Nat) (f : Nat → Int) : (arrI L f).size = L := by simp [arrI]
theorem arrI_get {L : Nat} {f : Nat → Int} {k : Nat} (h : k < L) : (arrI L f)[k]? = some (.int .i64 (f k)) := by
  simp [arrI, h]
theorem arrI_set (L : Nat) (f : Nat → Int) (k : Nat) (v : Int) : (arrI L f).setIfInBounds k (.int .i64 v) = arrI L fun j => if j = k then v else f j := by
  unfold arrI
  apply Array.ext_getElem?
  intro i
  rw [Array.getElem?_setIfInBounds]
  by_cases h : k = i
  · subst h
    by_cases hk : k < L <;> simp [hk]
  · by_cases hi : i < L <;> simp [h, Ne.symm h, hi]
theorem arrI_congr {L : Nat} {f g : Nat → Int} (h : ∀ j, j < L → f j = g j) : arrI L f = arrI L g := by
  unfold arrI
  apply Array.ext_getElem?
  intro i
  by_cases hi : i < L <;> simp [hi, h]
end Go.Proofs.Ytdkkjlapmaageaa.T3
