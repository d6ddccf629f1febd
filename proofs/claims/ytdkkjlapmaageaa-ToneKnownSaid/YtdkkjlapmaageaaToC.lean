/- chapter 27: the order of a spot tile's pixels, and their ranks. Plain. -/
import Derived.Test.YtdkkjlapmaageaaToB
import Derived.Shelf.SlSortCmp.Insertion
import Derived.Sort.Statements
import Derived.WalkKit
import Derived.Lib.Hide
import Derived.Deep.QuietTactic
import Derived.BigQuiet
import Derived.Lib.QuietBelow
import Derived.Deep.RegionHeld3
import Derived.WalkLawsBesides
import Derived.WalkSpells
import Derived.Outline
import Derived.Deep.DeepFit
import Derived.Maps.AppendAt
import Derived.Deep.AppendLies
namespace Go.Proofs.Ytdkkjlapmaageaa.T3
set_option linter.unusedSimpArgs false
set_option linter.unusedVariables false
open Go.RowKit Go.Sort Go.Lib Go.Shelf
set_option maxHeartbeats 1000000
/-- a pixel of a spot tile: its column and its row -/
abbrev Px := { p : Nat × Nat // p.1 < 16 ∧ p.2 < 16 }
instance : Inhabited Px := ⟨⟨(0, 0), by decide⟩⟩
def pu (W H : Int) (i : Nat) : Int := (2 * i + 1 - W) * H
def pv (W H : Int) (j : Nat) : Int := (2 * j + 1 - H) * W
theorem pu_bd {W H : Int} (hW : 1 ≤ W ∧ W ≤ 16) (hH : 1 ≤ H ∧ H ≤ 16) (p : Px) : sbd (pu W H p.1.1) (pv W H p.1.2) := by
  have h1 := p.2.1
  have h2 := p.2.2
  obtain ⟨a, b⟩ := mul_bd (a := 2 * (p.1.1 : Int) + 1 - W) (b := H) (X := 31) (Y := 16) (by omega) (by omega) (by omega) (by omega)
  obtain ⟨c, d⟩ := mul_bd (a := 2 * (p.1.2 : Int) + 1 - H) (b := W) (X := 31) (Y := 16) (by omega) (by omega) (by omega) (by omega)
  unfold sbd pu pv
  omega
def pval (k W H : Int) (p : Px) : Int := spv k (pu W H p.1.1) (pv W H p.1.2)
def pcf (k W H : Int) (p q : Px) : Int := spc k p.1.1 p.1.2 (pu W H p.1.1) (pv W H p.1.2) q.1.1 q.1.2 (pu W H q.1.1) (pv W H q.1.2)
def plt (k W H : Int) (p q : Px) : Bool := decide (pval k W H p < pval k W H q ∨ (pval k W H p = pval k W H q ∧ (p.1.2 < q.1.2 ∨ (p.1.2 = q.1.2 ∧ p.1.1 < q.1.1))))
theorem pcf_lt (k W H : Int) (p q : Px) : ltOf (pcf k W H) p q = plt k W H p q := by
  unfold ltOf pcf plt spc fstV
  rw [show spv k (pu W H p.1.1) (pv W H p.1.2) = pval k W H p from rfl, show spv k (pu W H q.1.1) (pv W H q.1.2) = pval k W H q from rfl]
  generalize pval k W H p = a
  generalize pval k W H q = b
  unfold cmpV
  congr 1
  simp only [eq_iff_iff]
  split <;> (try split) <;> (try split) <;> (try split) <;> (try split) <;> (try split) <;> (try split) <;> (try split) <;> omega
theorem plt_swo (k W H : Int) : SWO (ltOf (pcf k W H)) where
  irrefl x := by rw [pcf_lt, plt]; simp
  trans x y z h1 h2 := by rw [pcf_lt, plt] at *; simp only [decide_eq_true_eq] at *; omega
  ntrans x y z h1 h2 := by rw [pcf_lt, plt] at *; simp only [decide_eq_false_iff_not] at *; omega
theorem plt_total (k W H : Int) {p q : Px} (h : p ≠ q) (hn : plt k W H q p = false) : plt k W H p q = true := by
  have hne : ¬ (p.1.1 = q.1.1 ∧ p.1.2 = q.1.2) := fun hh => h (Subtype.ext (Prod.ext hh.1 hh.2))
  unfold plt at *
  simp only [decide_eq_true_eq, decide_eq_false_iff_not] at *
  omega
theorem plt_irrefl (k W H : Int) (p : Px) : plt k W H p p = false := by unfold plt; simp
/-- how many of a list come before p -/
def rkOf (k W H : Int) (l : List Px) (p : Px) : Nat := l.countP (fun q => plt k W H q p)
theorem rk_sorted (k W H : Int) (l : List Px) (hd : l.Nodup) (hs : ∀ i j (hi : i < l.length) (hj : j < l.length), i < j → plt k W H l[j] l[i] = false) (r : Nat) (hr : r < l.length) : rkOf k W H l l[r] = r := by
  unfold rkOf
  have e := List.take_append_drop r l
  have h1 : (l.take r).countP (fun q => plt k W H q l[r]) = r := by
    rw [List.countP_eq_length.2, List.length_take]
    · omega
    · intro q hq
      obtain ⟨i, hi, rfl⟩ := List.getElem_of_mem hq
      rw [List.length_take] at hi
      rw [List.getElem_take]
      refine plt_total k W H ?_ (hs i r (by omega) hr (by omega))
      exact List.pairwise_iff_getElem.1 hd i r (by omega) hr (by omega)
  have h2 : (l.drop r).countP (fun q => plt k W H q l[r]) = 0 := by
    rw [List.countP_eq_zero]
    intro q hq
    obtain ⟨i, hi, rfl⟩ := List.getElem_of_mem hq
    rw [List.length_drop] at hi
    rw [List.getElem_drop]
    by_cases h0 : i = 0
    · subst h0
      simp [plt_irrefl]
    · simp [hs r (r + i) hr (by omega) (by omega)]
  calc l.countP (fun q => plt k W H q l[r]) = (l.take r ++ l.drop r).countP (fun q => plt k W H q l[r]) := by rw [e]
    _ = r := by rw [List.countP_append, h1, h2]; omega
end Go.Proofs.Ytdkkjlapmaageaa.T3
