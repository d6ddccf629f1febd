/- chapter 27: what the sorted list holds at r is the pixel of rank r. Plain. -/
import Derived.Test.YtdkkjlapmaageaaToG
import Derived.WalkKit
import Derived.Lib.Hide
import Derived.Deep.QuietTactic
import Derived.BigQuiet
import Derived.Lib.QuietBelow
import Derived.Deep.RegionHeld3
import Derived.WalkLawsBesides
import Derived.WalkSpells
import Derived.Outline
import Derived.Deep.DeepFit
import Derived.Maps.AppendAt
import Derived.Deep.AppendLies
namespace Go.Proofs.Ytdkkjlapmaageaa.T3
set_option linter.unusedSimpArgs false
set_option linter.unusedVariables false
open Go.Shelf Go.RowKit Go.Lib Go.Sort
set_option maxHeartbeats 1000000
/-- the rank of the pixel with the number t -/
def rk (k W H : Int) (m n t : Nat) : Nat := rkOf k W H (allP m n) (pxN m t)
theorem sorted_list (k W H : Int) {m h : Nat} (hm : m ≤ 16) (hh : h ≤ 16) {d' : Array Px} (hp : PermIn 0 (m * h) (allP m (m * h)).toArray d') (hs : SortedIn (ltOf (pcf k W H)) 0 (m * h) d') :
    d'.size = m * h ∧ d'.toList.Perm (allP m (m * h)) ∧ (∀ r (hr : r < d'.toList.length), rkOf k W H (allP m (m * h)) d'.toList[r] = r) := by
  obtain ⟨h1, _, h3⟩ := hp
  have hsz : d'.size = m * h := by rw [h1]; simp [allP]
  have e1 : (d'.extract 0 (m * h)).toList = d'.toList := by rw [← hsz]; simp
  have e2 : ((allP m (m * h)).toArray.extract 0 (m * h)).toList = allP m (m * h) := by
    have : (allP m (m * h)).length = m * h := by simp [allP]
    simp [List.take_of_length_le (Nat.le_of_eq this)]
  rw [e1, e2] at h3
  refine ⟨hsz, h3, fun r hr => ?_⟩
  have hnd : d'.toList.Nodup := h3.nodup_iff.2 (allP_nodup hm hh)
  have hso : ∀ i j (hi : i < d'.toList.length) (hj : j < d'.toList.length), i < j → plt k W H d'.toList[j] d'.toList[i] = false := by
    intro i j hi hj hij
    have hi' : i < d'.size := by simpa using hi
    have hj' : j < d'.size := by simpa using hj
    have := hs i j (Nat.zero_le _) hij (by omega)
    rw [pcf_lt, getElem!_pos d' j hj', getElem!_pos d' i hi'] at this
    simpa using this
  have := rk_sorted k W H d'.toList hnd hso r hr
  refine Eq.trans ?_ this
  unfold rkOf
  exact (h3.countP_eq _).symm
theorem sorted_at (k W H : Int) {m h : Nat} (hm : m ≤ 16) (hh : h ≤ 16) {d' : Array Px} (hp : PermIn 0 (m * h) (allP m (m * h)).toArray d') (hs : SortedIn (ltOf (pcf k W H)) 0 (m * h) d') (r : Nat) (hr : r < m * h) :
    ∃ t, t < m * h ∧ d'[r]! = pxN m t ∧ rk k W H m (m * h) t = r := by
  obtain ⟨h1, h2, h3⟩ := sorted_list k W H hm hh hp hs
  have hr' : r < d'.toList.length := by simpa [h1] using hr
  have hmem : d'.toList[r] ∈ allP m (m * h) := h2.mem_iff.1 (List.getElem_mem hr')
  unfold allP at hmem
  obtain ⟨t, ht, e⟩ := List.mem_map.1 hmem
  refine ⟨t, by simpa using ht, ?_, ?_⟩
  · rw [getElem!_pos d' r (by omega), e]
    simp
  · unfold rk
    rw [e]
    exact h3 r hr'
theorem rk_lt (k W H : Int) {m h : Nat} (hm : m ≤ 16) (hh : h ≤ 16) {d' : Array Px} (hp : PermIn 0 (m * h) (allP m (m * h)).toArray d') (hs : SortedIn (ltOf (pcf k W H)) 0 (m * h) d') (t : Nat) (ht : t < m * h) :
    rk k W H m (m * h) t < m * h := by
  obtain ⟨h1, h2, h3⟩ := sorted_list k W H hm hh hp hs
  have hmem : pxN m t ∈ d'.toList := h2.mem_iff.2 (by unfold allP; exact List.mem_map.2 ⟨t, by simpa using ht, rfl⟩)
  obtain ⟨r, hr, e⟩ := List.getElem_of_mem hmem
  unfold rk
  rw [← e, h3 r hr]
  simpa [h1] using hr
theorem rk_inj (k W H : Int) {m h : Nat} (hm : m ≤ 16) (hh : h ≤ 16) {d' : Array Px} (hp : PermIn 0 (m * h) (allP m (m * h)).toArray d') (hs : SortedIn (ltOf (pcf k W H)) 0 (m * h) d') (s t : Nat) (hs' : s < m * h) (ht : t < m * h) (e : rk k W H m (m * h) s = rk k W H m (m * h) t) : s = t := by
  obtain ⟨h1, h2, h3⟩ := sorted_list k W H hm hh hp hs
  have key : ∀ u, u < m * h → ∃ (r : Nat) (hr : r < d'.toList.length), d'.toList[r] = pxN m u ∧ rk k W H m (m * h) u = r := by
    intro u hu
    have hmem : pxN m u ∈ d'.toList := h2.mem_iff.2 (by unfold allP; exact List.mem_map.2 ⟨u, by simpa using hu, rfl⟩)
    obtain ⟨r, hr, e⟩ := List.getElem_of_mem hmem
    exact ⟨r, hr, e, by unfold rk; rw [← e, h3 r hr]⟩
  obtain ⟨a, ha, e1, e2⟩ := key s hs'
  obtain ⟨b, hb, e3, e4⟩ := key t ht
  have hab : a = b := by omega
  subst hab
  exact pxN_inj hm hh hs' ht (e1.symm.trans e3)
end Go.Proofs.Ytdkkjlapmaageaa.T3
