/- matrix.within and matrix.Check return what withinB and mErr compute, for every input; nothing that was in memory changes. -/
import Derived.Test.YtpgaibkjokoanaaBase
import Derived.WalkKit
import Derived.Lib.Hide
import Derived.Deep.QuietTactic
import Derived.BigQuiet
import Derived.Lib.QuietBelow
import Derived.Deep.RegionHeld3
import Derived.WalkLawsBesides
import Derived.WalkSpells
import Derived.Outline
import Derived.Deep.DeepFit
import Derived.Maps.AppendAt
import Derived.Deep.AppendLies
namespace Go.Proofs.Ytpgaibkjokoanaa
set_option linter.unusedSimpArgs false
set_option linter.unusedVariables false
open Go.RowKit

def withinB (most : Int) (l : List Int) : Bool := l.all fun n => decide (-most ≤ n ∧ n ≤ most)

theorem withinB_take (most : Int) (l : List Int) (k : Nat) (hk : k < l.length) : withinB most (l.take (k+1)) = (withinB most (l.take k) && decide (-most ≤ l[k] ∧ l[k] ≤ most)) := by
  unfold withinB
  rw [List.take_succ_eq_append_getElem hk, List.all_append]
  simp
theorem withinB_no (most : Int) (l : List Int) (k : Nat) (hk : k < l.length) (h : l[k] < -most ∨ most < l[k]) : withinB most l = false := by
  unfold withinB
  rw [List.all_eq_false]
  exact ⟨l[k], List.getElem_mem hk, by simp; omega⟩

set_option maxHeartbeats 400000 in
theorem within_any (most : Int) (l : List Int) (b o c : Nat) (w : World) (hm0 : 0 ≤ most) (hm : most ≤ 4611686018427387904) (hl : l.length ≤ 100)
    (hc : ∀ j, j < l.length → w.cell? ⟨b, o + j, none⟩ = some (.int .i64 (l.getD j 0))) :
    Calls Try.prog 40 #[.int .i64 most, .slice (some ⟨b, o, none⟩) l.length c] w fun e w' => e = .returned (.bool (withinB most l)) ∧ w = w' := by
  go_enter Try.func40, Try.ntmps40
  go_wp2
  go_loop [9] (fun i => ∃ k : Nat, k ≤ l.length ∧ i = .int .i64 k ∧ withinB most (l.take k) = true) (fun i => l.length - (intOf i).toNat)
  case atStart => exact ⟨0, Nat.zero_le _, rfl, by simp [withinB]⟩
  case round =>
    obtain ⟨k, hk, rfl, hw⟩ := hrel
    by_cases hlt : k < l.length
    · have hck := hc k hlt
      have ht := withinB_take most l k hlt
      have hno := withinB_no most l k hlt
      have Hw := Lib.hid hw
      have Ht := Lib.hid ht
      have Hno := Lib.hid hno
      clear hw ht hno
      by_cases hin : -most ≤ l[k] ∧ l[k] ≤ most
      · obtain ⟨h1, h2⟩ := hin
        go_wp2
        go_round
        case rel => exact ⟨k + 1, by omega, by go_num, by rw [Ht.out, Hw.out]; simp; omega⟩
        case measure => simp [intOf]; omega
      · have hin' : l[k] < -most ∨ most < l[k] := by omega
        go_wp2
        all_goals go_ret
        all_goals exact ⟨by rw [Hno.out hin']; rfl, rfl⟩
    · have hkl : k = l.length := by omega
      have Hw : Hid (withinB most l = true) := Lib.hid (by rw [← hw, hkl, List.take_length])
      clear hw hkl
      go_wp2
      go_ret
      exact ⟨by rw [Hw.out]; rfl, rfl⟩

theorem lit_cells (W : World) (l : List Int) (t : TypeId) (b : Nat) (hb : b = W.heap.size) : ∀ j, j < l.length → (W.alloc (.cells (l.map (Value.int .i64)).toArray t)).cell? ⟨b, 0 + j, none⟩ = some (.int .i64 (l.getD j 0)) := by
  subst hb
  intro j hj
  rw [World.cell?_alloc_at _ _ _ _ rfl]
  simp [List.getElem?_eq_getElem hj, List.getD_eq_getElem?_getD]

def mOk (A B C D E F : Int) : Prop := (-16777216 ≤ A ∧ A ≤ 16777216) ∧ (-16777216 ≤ B ∧ B ≤ 16777216) ∧ (-16777216 ≤ C ∧ C ≤ 16777216) ∧ (-16777216 ≤ D ∧ D ≤ 16777216) ∧ (-536870912 ≤ E ∧ E ≤ 536870912) ∧ (-536870912 ≤ F ∧ F ≤ 536870912)
instance (A B C D E F : Int) : Decidable (mOk A B C D E F) := by unfold mOk; infer_instance
def mErr (A B C D E F : Int) : Int := if mOk A B C D E F then 0 else 300
def mVal (A B C D E F : Int) : Value := .agg #[.int .i64 A, .int .i64 B, .int .i64 C, .int .i64 D, .int .i64 E, .int .i64 F]
theorem mOk_within (A B C D E F : Int) : mOk A B C D E F ↔ (withinB 16777216 [A, B, C, D] = true ∧ withinB 536870912 [E, F] = true) := by
  unfold mOk withinB
  simp [and_assoc]

set_option maxHeartbeats 400000 in
theorem mcheck_any (A B C D E F : Int) (w : World) :
    Calls Try.prog 27 #[.agg #[.int .i64 A, .int .i64 B, .int .i64 C, .int .i64 D, .int .i64 E, .int .i64 F]] w fun e w' => e = .returned (.int .i64 (mErr A B C D E F)) ∧ Below w.heap.size w w' := by
  have hm := mOk_within A B C D E F
  have Hm := Lib.hid hm
  clear hm
  go_enter Try.func27, Try.ntmps27
  by_cases h1 : withinB 16777216 [A, B, C, D] = true
  · go_wp2_with fail
    refine (within_any _ [A, B, C, D] _ 0 _ _ (by omega) (by omega) (by simp) (lit_cells _ [A, B, C, D] _ _ (by simp))).mono ?_
    rintro e w' ⟨rfl, rfl⟩
    rw [h1]
    by_cases h2 : withinB 536870912 [E, F] = true
    · go_wp2_with fail
      refine (within_any _ [E, F] _ 0 _ _ (by omega) (by omega) (by simp) (lit_cells _ [E, F] _ _ (by simp))).mono ?_
      rintro e w' ⟨rfl, rfl⟩
      rw [h2]
      go_wp2_with fail
      go_ret
      exact ⟨by rw [mErr, if_pos (Hm.out.2 ⟨h1, h2⟩)]; rfl, (by repeat (first | with_reducible exact Below.refl _ _ | with_reducible assumption | ((with_reducible refine Below.alloc ?_ ?hb_ _); (case hb_ => first | omega | (simp; done) | (simp; omega))) | ((with_reducible refine Below.setCell ?_ ?hb_ _); (case hb_ => first | omega | (simp; done) | (simp; omega))) | with_reducible refine Below.drew ?_ | with_reducible refine below_drewN ?_ _))⟩
    · go_wp2_with fail
      refine (within_any _ [E, F] _ 0 _ _ (by omega) (by omega) (by simp) (lit_cells _ [E, F] _ _ (by simp))).mono ?_
      rintro e w' ⟨rfl, rfl⟩
      have h2' : withinB 536870912 [E, F] = false := by simpa using h2
      rw [h2']
      go_wp2_with fail
      go_ret
      exact ⟨by rw [mErr, if_neg (fun h => h2 (Hm.out.1 h).2)]; rfl, (by repeat (first | with_reducible exact Below.refl _ _ | with_reducible assumption | ((with_reducible refine Below.alloc ?_ ?hb_ _); (case hb_ => first | omega | (simp; done) | (simp; omega))) | ((with_reducible refine Below.setCell ?_ ?hb_ _); (case hb_ => first | omega | (simp; done) | (simp; omega))) | with_reducible refine Below.drew ?_ | with_reducible refine below_drewN ?_ _))⟩
  · have h1' : withinB 16777216 [A, B, C, D] = false := by simpa using h1
    go_wp2_with fail
    refine (within_any _ [A, B, C, D] _ 0 _ _ (by omega) (by omega) (by simp) (lit_cells _ [A, B, C, D] _ _ (by simp))).mono ?_
    rintro e w' ⟨rfl, rfl⟩
    rw [h1']
    go_wp2_with fail
    go_ret
    exact ⟨by rw [mErr, if_neg (fun h => h1 (Hm.out.1 h).1)]; rfl, (by repeat (first | with_reducible exact Below.refl _ _ | with_reducible assumption | ((with_reducible refine Below.alloc ?_ ?hb_ _); (case hb_ => first | omega | (simp; done) | (simp; omega))) | ((with_reducible refine Below.setCell ?_ ?hb_ _); (case hb_ => first | omega | (simp; done) | (simp; omega))) | with_reducible refine Below.drew ?_ | with_reducible refine below_drewN ?_ _))⟩
end Go.Proofs.Ytpgaibkjokoanaa
