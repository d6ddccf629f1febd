/- chapter 01: fraction. -/
import Derived.Test.YtilchjpjmfaghaaReG
import Derived.WalkKit
import Derived.Lib.Hide
import Derived.Deep.QuietTactic
import Derived.BigQuiet
import Derived.Lib.QuietBelow
import Derived.Deep.RegionHeld3
import Derived.WalkLawsBesides
import Derived.WalkSpells
import Derived.Outline
import Derived.Deep.DeepFit
import Derived.Maps.AppendAt
import Derived.Deep.AppendLies
import Derived.Deep.CutRange
import Derived.OpenShut
namespace Go.Proofs.Ytilchjpjmfaghaa.T3
set_option linter.unusedSimpArgs false
set_option linter.unusedVariables false
open Go.RowKit Go.Lib
set_option maxHeartbeats 2000000
set_option maxRecDepth 100000
theorem min2 (u v : Int) : (∀ w : World, Sem.run Try.prog (Builtin.min_ #[3, 3] 3 #[.int .i64 u, .int .i64 v]) w = .ok (.int .i64 (min u v)) w) := by
  intro w
  have : min u v = if v < u then v else u := by split <;> omega
  rw [this]
  rfl
theorem max2 (u v : Int) : (∀ w : World, Sem.run Try.prog (Builtin.max_ #[3, 3] 3 #[.int .i64 u, .int .i64 v]) w = .ok (.int .i64 (max u v)) w) := by
  intro w
  have : max u v = if v > u then v else u := by split <;> omega
  rw [this]
  rfl
theorem below_cell' {w w' : World} {B : Nat} {a : Addr} {v : Value} (h : w.cell? a = some v) (hb : Below B w w') (hB : w.heap.size ≤ B) : w'.cell? a = some v :=
  (hb.cell (Nat.lt_of_lt_of_le (World.block_lt_of_cell? w a h) hB)).trans h
theorem frac_neg (L : List Int) (base m : Nat) (x : Option Addr) (cap : Nat) (w : World) (hown : w.ownsRow base 5 1 (.slice x L.length cap) L.length (u8s L)) (hL : isD L) (hlen : L.length ≤ 1000) (hm : m ≤ 2000) :
    Calls Try.prog 57 #[.slice x L.length cap, .int .i64 (-(m : Int))] w fun e w' => ∃ v, e = .returned v ∧ Below w.heap.size w w' ∧ w'.ownsRow w.heap.size 5 1 v (m + L.length) (u8s (List.replicate m 0 ++ L)) := by
  have hcell : ∀ i, i < L.length → ∃ g, x = some ⟨g, 0, none⟩ ∧ w.cell? ⟨g, i, none⟩ = some (.int .u8 (L.getD i 0)) := by
    intro i hi
    rcases own_cases hown with ⟨_, e0⟩ | ⟨g, k, e, _⟩
    · omega
    · cases e
      exact ⟨g, rfl, own_cell hown (u8s_get hi)⟩
  have hmin := min2 (-(m : Int)) 0
  rw [show min (-(m : Int)) 0 = -(m : Int) by omega] at hmin
  obtain ⟨i0, hi, hz0, hz1, hz2⟩ := info_split info_u8
  have Hcell := Lib.hid hcell
  have hFz : ∀ k, k < m → u8s ((List.replicate m 0 ++ L).take (k + 1)) = u8s ((List.replicate m 0 ++ L).take k) ++ [.int .u8 0] := by
    intro k hk
    rw [List.take_succ_eq_append_getElem (by simp; omega), List.getElem_append_left (by simpa using hk)]
    simp [u8s]
  have hFl : ∀ j, j < L.length → u8s ((List.replicate m 0 ++ L).take (m + j + 1)) = u8s ((List.replicate m 0 ++ L).take (m + j)) ++ [.int .u8 (L.getD j 0)] := by
    intro j hj
    rw [List.take_succ_eq_append_getElem (by simp; omega), List.getElem_append_right (by simp)]
    simp [u8s, List.getD_eq_getElem?_getD, List.getElem?_eq_getElem hj]
  have hFe : (List.replicate m 0 ++ L).take (m + L.length) = List.replicate m 0 ++ L := List.take_of_length_le (by simp)
  have hDb := fun j => isD_getD hL j
  obtain ⟨F, hF⟩ : ∃ F, List.replicate m 0 ++ L = F := ⟨_, rfl⟩
  rw [hF] at hFe ⊢
  simp only [hF] at hFz hFl
  have HFz := Lib.hid hFz
  have HFl := Lib.hid hFl
  have HFe := Lib.hid hFe
  have HDb := Lib.hid hDb
  clear hown hcell hFz hFl hFe hDb hF
  obtain ⟨n, hn⟩ : ∃ n, L.length = n := ⟨_, rfl⟩
  rw [hn] at hlen Hcell HFl HFe ⊢
  clear hn
  go_enter Try.func57, Try.ntmps57
  go_wp2_with fail
  go_loopw [5, 6] (fun v5 v6 wr => ∃ k : Nat, k ≤ m + n ∧ v6 = .int .i64 ((k : Int) - m) ∧ RowKit.Below w.heap.size w wr ∧ wr.ownsRow w.heap.size 5 1 v5 k (u8s (F.take k))) (fun _ v _ => m + n - (intOf v + m).toNat)
  case atStart => exact ⟨0, Nat.zero_le _, by simp, RowKit.Below.refl _ _, World.ownsRow_nil _ _ _ _⟩
  case round =>
    obtain ⟨k, hk, rfl, hB, hout⟩ := hrel
    have hsz := hB.size
    by_cases hkm : k < m
    · have h1 := Lib.hid (HFz.out k hkm)
      go_wp2_with (at_builtin; refine wpList_append_own _ rfl _ _ 35 rfl w.heap.size 5 i0 (.int .u8 0) 1 1 Try.underlying35 hi hz0 hz1 hz2 rfl (by decide) _ k (u8s (F.take k)) rfl (hout.alloc _) ⟨wr.heap.size, 0, none⟩ 1 1 [.int .u8 0] rfl rfl (one_cell wr _ _) ?c2 ?c3 ?c4 ?c5 ?_)
      case c2 => intro u hu; simp at hu; rcases hu with rfl; rfl
      case c3 => unfold maxLen; omega
      case c4 => omega
      case c5 => simp; omega
      intro v' w3 hout' hgrow _
      have hB3 : RowKit.Below w.heap.size w w3 := (hB.alloc hsz _).grown hgrow (by simp; omega) (own_base hout)
      clear hgrow hout
      go_wp2_with fail
      go_roundw
      case rel => exact ⟨k + 1, by omega, congrArg (Value.int .i64) (by omega), hB3, by rw [h1.out]; exact hout'⟩
      case measure => simp [intOf]; omega
    · obtain ⟨j, rfl⟩ : ∃ j, k = m + j := ⟨k - m, by omega⟩
      rw [show (((m + j : Nat) : Int) - m) = j by omega]
      by_cases hj : j < n
      · obtain ⟨g, rfl, hc⟩ := Hcell.out j hj
        have hc2 := below_cell' hc hB (Nat.le_refl _)
        have h1 := HFl.out j hj
        have hd := HDb.out j
        obtain ⟨D, hD⟩ : ∃ D, L.getD j 0 = D := ⟨_, rfl⟩
        rw [hD] at hc2 h1 hd
        obtain ⟨hd1, hd2⟩ := hd
        have h1 := Lib.hid h1
        clear hc hD
        go_wp2_with (at_builtin; refine wpList_append_own _ rfl _ _ 35 rfl w.heap.size 5 i0 (.int .u8 0) 1 1 Try.underlying35 hi hz0 hz1 hz2 rfl (by decide) _ (m + j) (u8s (F.take (m + j))) rfl (hout.alloc _) ⟨wr.heap.size, 0, none⟩ 1 1 [.int .u8 D] rfl rfl (one_cell wr _ _) ?c2 ?c3 ?c4 ?c5 ?_)
        case c2 => intro u hu; simp at hu; rcases hu with rfl; rfl
        case c3 => unfold maxLen; omega
        case c4 => omega
        case c5 => simp; omega
        intro v' w3 hout' hgrow _
        have hB3 : RowKit.Below w.heap.size w w3 := (hB.alloc hsz _).grown hgrow (by simp; omega) (own_base hout)
        clear hgrow hout
        go_wp2_with fail
        go_roundw
        case rel => exact ⟨m + j + 1, by omega, congrArg (Value.int .i64) (by omega), hB3, by rw [h1.out]; exact hout'⟩
        case measure => simp [intOf]; omega
      · have hjn : j = n := by omega
        subst hjn
        rw [HFe.out] at hout
        go_wp2_with fail
        go_ret
        exact ⟨_, rfl, hB, hout⟩
theorem frac_pos (L : List Int) (base p : Nat) (x : Option Addr) (cap : Nat) (w : World) (hown : w.ownsRow base 5 1 (.slice x L.length cap) L.length (u8s L)) (hL : isD L) (hlen : L.length ≤ 1000) (hp : 0 < p) :
    Calls Try.prog 57 #[.slice x L.length cap, .int .i64 (p : Int)] w fun e w' => ∃ v, e = .returned v ∧ Below w.heap.size w w' ∧ w'.ownsRow w.heap.size 5 1 v (L.length - p) (u8s (L.drop p)) := by
  have hcell : ∀ i, i < L.length → ∃ g, x = some ⟨g, 0, none⟩ ∧ w.cell? ⟨g, i, none⟩ = some (.int .u8 (L.getD i 0)) := by
    intro i hi
    rcases own_cases hown with ⟨_, e0⟩ | ⟨g, k, e, _⟩
    · omega
    · cases e
      exact ⟨g, rfl, own_cell hown (u8s_get hi)⟩
  have hmin := min2 (p : Int) 0
  rw [show min (p : Int) 0 = 0 by omega] at hmin
  obtain ⟨i0, hi, hz0, hz1, hz2⟩ := info_split info_u8
  have Hcell := Lib.hid hcell
  have hFl : ∀ j, p + j < L.length → u8s ((L.drop p).take (j + 1)) = u8s ((L.drop p).take j) ++ [.int .u8 (L.getD (p + j) 0)] := by
    intro j hj
    rw [List.take_succ_eq_append_getElem (by simp; omega), List.getElem_drop]
    simp [u8s, List.getD_eq_getElem?_getD, List.getElem?_eq_getElem hj]
  have hFe : (L.drop p).take (L.length - p) = L.drop p := List.take_of_length_le (by simp)
  have hDb := fun j => isD_getD hL j
  obtain ⟨F, hF⟩ : ∃ F, L.drop p = F := ⟨_, rfl⟩
  rw [hF] at hFe ⊢
  simp only [hF] at hFl
  have HFl := Lib.hid hFl
  have HFe := Lib.hid hFe
  have HDb := Lib.hid hDb
  clear hown hcell hFl hFe hDb hF
  obtain ⟨n, hn⟩ : ∃ n, L.length = n := ⟨_, rfl⟩
  rw [hn] at hlen Hcell HFl HFe ⊢
  clear hn
  go_enter Try.func57, Try.ntmps57
  go_wp2_with fail
  go_loopw [5, 6] (fun v5 v6 wr => ∃ i : Nat, i ≤ n ∧ v6 = .int .i64 i ∧ RowKit.Below w.heap.size w wr ∧ wr.ownsRow w.heap.size 5 1 v5 (i - p) (u8s (F.take (i - p)))) (fun _ v _ => n - (intOf v).toNat)
  case atStart => exact ⟨0, Nat.zero_le _, rfl, RowKit.Below.refl _ _, by rw [Nat.zero_sub]; exact World.ownsRow_nil _ _ _ _⟩
  case round =>
    obtain ⟨i, hin, rfl, hB, hout⟩ := hrel
    have hsz := hB.size
    by_cases hlt : i < n
    · by_cases hip : i < p
      · go_wp2_with fail
        go_roundw
        case rel => exact ⟨i + 1, by omega, by go_num, hB, by rw [show i + 1 - p = i - p by omega]; exact hout⟩
        case measure => simp [intOf]; omega
      · obtain ⟨j, rfl⟩ : ∃ j, i = p + j := ⟨i - p, by omega⟩
        rw [show p + j - p = j by omega] at hout
        obtain ⟨g, rfl, hc⟩ := Hcell.out (p + j) hlt
        have hc2 := below_cell' hc hB (Nat.le_refl _)
        have h1 := HFl.out j hlt
        have hd := HDb.out (p + j)
        obtain ⟨D, hD⟩ : ∃ D, L.getD (p + j) 0 = D := ⟨_, rfl⟩
        rw [hD] at hc2 h1 hd
        obtain ⟨hd1, hd2⟩ := hd
        have h1 := Lib.hid h1
        have hjn0 : j ≤ n := by omega
        obtain ⟨i, hij⟩ : ∃ i, p + j = i := ⟨_, rfl⟩
        rw [hij] at hc2 hlt hip hin ⊢
        have Hij := Lib.hid hij
        clear hc hD hij
        go_wp2_with (at_builtin; refine wpList_append_own _ rfl _ _ 35 rfl w.heap.size 5 i0 (.int .u8 0) 1 1 Try.underlying35 hi hz0 hz1 hz2 rfl (by decide) _ j (u8s (F.take j)) rfl (hout.alloc _) ⟨wr.heap.size, 0, none⟩ 1 1 [.int .u8 D] rfl rfl (one_cell wr _ _) ?c2 ?c3 ?c4 ?c5 ?_)
        case c2 => intro u hu; simp at hu; rcases hu with rfl; rfl
        case c3 => unfold maxLen; omega
        case c4 => omega
        case c5 => simp; omega
        intro v' w3 hout' hgrow _
        have hB3 : RowKit.Below w.heap.size w w3 := (hB.alloc hsz _).grown hgrow (by simp; omega) (own_base hout)
        clear hgrow hout
        go_wp2_with fail
        go_roundw
        case rel => exact ⟨i + 1, by omega, by go_num, hB3, by rw [show i + 1 - p = j + 1 by have := Hij.out; omega, h1.out]; exact hout'⟩
        case measure => simp [intOf]; omega
    · have hjn : i = n := by omega
      subst hjn
      rw [HFe.out] at hout
      go_wp2_with fail
      go_ret
      exact ⟨_, rfl, hB, hout⟩
end Go.Proofs.Ytilchjpjmfaghaa.T3
