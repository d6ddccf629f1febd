/- chapter 27: the list of a spot tile's pixels, in memory and sorted. -/
import Derived.Test.YtdkkjlapmaageaaToF
import Derived.WalkKit
import Derived.Lib.Hide
import Derived.Deep.QuietTactic
import Derived.BigQuiet
import Derived.Lib.QuietBelow
import Derived.Deep.RegionHeld3
import Derived.WalkLawsBesides
import Derived.WalkSpells
import Derived.Outline
import Derived.Deep.DeepFit
import Derived.Maps.AppendAt
import Derived.Deep.AppendLies
namespace Go.Proofs.Ytdkkjlapmaageaa.T3
set_option linter.unusedSimpArgs false
set_option linter.unusedVariables false
open Go.Shelf Go.RowKit Go.Lib Go.Sort
set_option maxRecDepth 100000
set_option maxHeartbeats 1000000
def pxN (m t : Nat) : Px := ⟨(t % m % 16, t / m % 16), Nat.mod_lt _ (by omega), Nat.mod_lt _ (by omega)⟩
theorem pxN_eq {m j i : Nat} (hm : m ≤ 16) (hi : i < m) (hj : j < 16) : (pxN m (j * m + i)).1 = (i, j) := by
  have h1 : (j * m + i) % m = i := by rw [Nat.add_comm, Nat.add_mul_mod_self_right, Nat.mod_eq_of_lt hi]
  have h2 : (j * m + i) / m = j := by rw [Nat.add_comm, Nat.add_mul_div_right _ _ (by omega), Nat.div_eq_of_lt hi]; omega
  show ((j * m + i) % m % 16, (j * m + i) / m % 16) = (i, j)
  rw [h1, h2, Nat.mod_eq_of_lt (by omega), Nat.mod_eq_of_lt hj]
theorem pxN_inj {m h s t : Nat} (hm : m ≤ 16) (hh : h ≤ 16) (hs : s < m * h) (ht : t < m * h) (e : pxN m s = pxN m t) : s = t := by
  have hm0 : 0 < m := by rcases Nat.eq_zero_or_pos m with h0 | h0; (subst h0; omega); exact h0
  have e1 := congrArg (fun p => p.1.1) e
  have e2 := congrArg (fun p => p.1.2) e
  simp only [pxN] at e1 e2
  have a1 := Nat.mod_lt s hm0
  have a2 := Nat.mod_lt t hm0
  have b1 : s / m < h := Nat.div_lt_of_lt_mul hs
  have b2 : t / m < h := Nat.div_lt_of_lt_mul ht
  have q1 : s % m % 16 = s % m := Nat.mod_eq_of_lt (by omega)
  have q2 : t % m % 16 = t % m := Nat.mod_eq_of_lt (by omega)
  have q3 : s / m % 16 = s / m := Nat.mod_eq_of_lt (by omega)
  have q4 : t / m % 16 = t / m := Nat.mod_eq_of_lt (by omega)
  rw [q1, q2] at e1
  rw [q3, q4] at e2
  have c1 := Nat.div_add_mod s m
  have c2 := Nat.div_add_mod t m
  rw [e1, e2] at c1
  omega
def allP (m n : Nat) : List Px := (List.range n).map (pxN m)
theorem allP_nodup {m h : Nat} (hm : m ≤ 16) (hh : h ≤ 16) : (allP m (m * h)).Nodup := by
  unfold allP
  refine List.pairwise_iff_getElem.2 fun i j hi hj hij => ?_
  simp only [List.length_map, List.length_range] at hi hj
  simp only [List.getElem_map, List.getElem_range]
  intro e
  have := pxN_inj hm hh hi hj e
  omega
/-- the cells of n pixels -/
def pl (W H : Int) (m n : Nat) : List Value := (allP m n).flatMap (encP W H)
theorem pl_succ (W H : Int) (m n : Nat) : pl W H m (n + 1) = pl W H m n ++ encP W H (pxN m n) := by
  simp [pl, allP, List.range_succ]
theorem pl_len (W H : Int) (m n : Nat) : (pl W H m n).length = n * 4 := by
  induction n with
  | zero => rfl
  | succ n ih => rw [pl_succ, List.length_append, ih]; simp [encP]; omega
theorem flat_get (W H : Int) (d : Array Px) (t : Nat) (h : t < d.size * 4) : (flatK (encP W H) 4 d)[t]? = ((d.toList.flatMap (encP W H)))[t]? := by
  have e1 : (flatK (encP W H) 4 d)[t]? = some ((encP W H d[t / 4]!)[t % 4]!) := by
    simp [flatK, h]
  rw [e1]
  have key : ∀ (l : List Px) (t : Nat), t < l.length * 4 → (l.flatMap (encP W H))[t]? = some ((encP W H (l[t / 4]!))[t % 4]!) := by
    intro l
    induction l with
    | nil => intro t ht; simp at ht
    | cons x l ih =>
      intro t ht
      rw [List.flatMap_cons]
      by_cases h4 : t < 4
      · have hx : (encP W H x).length = 4 := rfl
        rw [List.getElem?_append_left (by omega), Nat.div_eq_of_lt h4, Nat.mod_eq_of_lt h4]
        simp [List.getElem?_eq_getElem (show t < (encP W H x).length by omega)]
      · have hx : (encP W H x).length = 4 := rfl
        rw [List.getElem?_append_right (by omega), hx, ih (t - 4) (by simp at ht; omega)]
        have q1 : t / 4 = (t - 4) / 4 + 1 := by omega
        have q2 : t % 4 = (t - 4) % 4 := by omega
        rw [q1, q2]
        simp
  rw [key d.toList t (by simpa using h)]
  have hlt : t / 4 < d.size := by omega
  simp [hlt]
theorem own_holds {W H : Int} {m n base g cap : Nat} {w : World} {e : TypeId} (h : w.ownsRow base e 4 (.slice (some ⟨g, 0, none⟩) n cap) n (pl W H m n)) : HoldsK (encP W H) 4 w g 0 (allP m n).toArray := by
  intro j hj
  have hs : (allP m n).toArray.size = n := by simp [allP]
  rw [size_flatK, hs] at hj
  have c := h.cellAt j hj
  have f := flat_get W H (allP m n).toArray j (by rw [hs]; exact hj)
  refine ⟨?_, ?_⟩
  · rw [Nat.zero_add, c]
    have e2 : ((allP m n).toArray.toList.flatMap (encP W H))[j]? = (pl W H m n)[j]? := rfl
    rw [← e2, ← f]
    have hlt : j < (flatK (encP W H) 4 (allP m n).toArray).size := by rw [size_flatK, hs]; exact hj
    rw [Array.getElem?_eq_getElem hlt, id, getElem!_pos _ j hlt]
  · rw [Nat.zero_add]
    exact h.frozenAt j
end Go.Proofs.Ytdkkjlapmaageaa.T3
