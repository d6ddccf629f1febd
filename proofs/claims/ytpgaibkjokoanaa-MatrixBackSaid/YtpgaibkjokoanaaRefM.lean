/- The reference's in, Right, Floor and Det of layer 20 return what inB, mOkB, flo and the determinant say. -/
import Derived.Test.YtpgaibkjokoanaaMat
import Derived.Test.YtpgaibkjokoanaaRow
import Derived.WalkKit
import Derived.Lib.Hide
import Derived.Deep.QuietTactic
import Derived.BigQuiet
import Derived.Lib.QuietBelow
import Derived.Deep.RegionHeld3
import Derived.WalkLawsBesides
import Derived.WalkSpells
import Derived.Outline
import Derived.Deep.DeepFit
import Derived.Maps.AppendAt
import Derived.Deep.AppendLies
namespace Go.Proofs.Ytpgaibkjokoanaa
set_option linter.unusedSimpArgs false
set_option linter.unusedVariables false
open Go.RowKit

def inB (n most : Int) : Bool := decide (-most ≤ n ∧ n ≤ most)
set_option maxHeartbeats 400000 in
theorem in_any (n most : Int) (w : World) (hm0 : 0 ≤ most) (hm : most ≤ 4611686018427387904) :
    Calls Try.prog 42 #[.int .i64 n, .int .i64 most] w fun e w' => e = .returned (.bool (inB n most)) ∧ w = w' := by
  go_enter Try.func42, Try.ntmps42
  by_cases h1 : -most ≤ n
  · by_cases h2 : n ≤ most
    · have H : Hid (inB n most = true) := Lib.hid (by simp [inB, h1, h2])
      go_wp2
      go_ret
      exact ⟨by rw [H.out]; rfl, rfl⟩
    · have H : Hid (inB n most = false) := Lib.hid (by simp [inB]; omega)
      go_wp2
      go_ret
      exact ⟨by rw [H.out]; rfl, rfl⟩
  · have H : Hid (inB n most = false) := Lib.hid (by simp [inB]; omega)
    go_wp2
    go_ret
    exact ⟨by rw [H.out]; rfl, rfl⟩

def mOkB (A B C D E F : Int) : Bool := decide (mOk A B C D E F)
theorem mOkB_in (A B C D E F : Int) : mOkB A B C D E F = (inB A 16777216 && (inB B 16777216 && (inB C 16777216 && (inB D 16777216 && (inB E 536870912 && inB F 536870912))))) := by
  rw [Bool.eq_iff_iff]
  simp only [mOkB, decide_eq_true_eq, Bool.and_eq_true]
  simp only [mOk, inB, decide_eq_true_eq]

set_option maxHeartbeats 1000000 in
theorem rright_any (A B C D E F : Int) (w : World) :
    Calls Try.prog 49 #[.agg #[.int .i64 A, .int .i64 B, .int .i64 C, .int .i64 D, .int .i64 E, .int .i64 F]] w fun e w' => e = .returned (.bool (mOkB A B C D E F)) ∧ Below w.heap.size w w' := by
  have hm := mOkB_in A B C D E F
  have Hm := Lib.hid hm
  clear hm
  go_enter Try.func49, Try.ntmps49
  go_wp2_with (go_at_call 42; refine (in_any _ _ _ (by omega) (by omega)).mono ?_; rintro e w' ⟨rfl, rfl⟩)
  all_goals go_ret
  all_goals exact ⟨by rw [Hm.out]; simp [*], (by repeat (first | with_reducible exact Below.refl _ _ | with_reducible assumption | ((with_reducible refine Below.alloc ?_ ?hb_ _); (case hb_ => first | omega | (simp; done) | (simp; omega))) | ((with_reducible refine Below.setCell ?_ ?hb_ _); (case hb_ => first | omega | (simp; done) | (simp; omega))) | with_reducible refine Below.drew ?_ | with_reducible refine below_drewN ?_ _))⟩

theorem w64 {x : Int} (h : -9223372036854775808 ≤ x) (h' : x ≤ 9223372036854775807) : wrap64 x = x := by unfold wrap64; omega
theorem mul_bd {a b X Y : Int} (ha : -X ≤ a) (ha' : a ≤ X) (hb : -Y ≤ b) (hb' : b ≤ Y) : -(X * Y) ≤ a * b ∧ a * b ≤ X * Y := by
  have h1 : a.natAbs ≤ X.natAbs := by omega
  have h2 : b.natAbs ≤ Y.natAbs := by omega
  have h3 := Nat.mul_le_mul h1 h2
  rw [← Int.natAbs_mul, ← Int.natAbs_mul] at h3
  have h4 : 0 ≤ X * Y := Int.mul_nonneg (by omega) (by omega)
  omega
theorem ediv_pos_of_tdiv (n d : Int) (hd : 0 < d) : n / d = if n.tmod d < 0 then n.tdiv d - 1 else n.tdiv d := by
  rw [Int.tdiv_eq_ediv, Int.tmod_eq_emod]
  have h0 := Int.emod_nonneg n (show d ≠ 0 by omega)
  have h1 := Int.emod_lt_of_pos n hd
  have h2 : d.sign = 1 := Int.sign_eq_one_of_pos hd
  have h3 : (d.natAbs : Int) = d := by omega
  by_cases hn : 0 ≤ n
  · simp [hn]; omega
  · by_cases hv : d ∣ n
    · have := Int.emod_eq_zero_of_dvd hv
      simp [hv, this]
    · have : n % d ≠ 0 := fun h => hv (Int.dvd_of_emod_eq_zero h)
      simp [hn, hv, h2, h3]
      omega
theorem tdiv_bd (n d X : Int) (h : -X ≤ n) (h' : n ≤ X) : -X ≤ n.tdiv d ∧ n.tdiv d ≤ X := by
  have h1 := Int.natAbs_tdiv_le_natAbs n d
  omega

set_option maxHeartbeats 400000 in
theorem floor_any (n d : Int) (w : World) (hd : 0 < d) (hn : -4611686018427387904 ≤ n) (hn2 : n ≤ 4611686018427387904) (hd2 : d ≤ 4611686018427387904) :
    Calls Try.prog 57 #[.int .i64 n, .int .i64 d] w fun e w' => e = .returned (.int .i64 (n / d)) ∧ w = w' := by
  have hf := ediv_pos_of_tdiv n d hd
  have hb := tdiv_bd n d 4611686018427387904 hn hn2
  obtain ⟨hb1, hb2⟩ := hb
  have Hf := Lib.hid hf
  clear hf
  go_enter Try.func57, Try.ntmps57
  by_cases hc : n.tmod d < 0
  · go_wp2
    go_ret
    exact ⟨ret_int (by rw [Hf.out, if_pos hc]), rfl⟩
  · go_wp2
    go_ret
    exact ⟨ret_int (by rw [Hf.out, if_neg (by omega)]), rfl⟩

set_option maxHeartbeats 400000 in
theorem det_any (A B C D E F : Int) (w : World) (h : mOk A B C D E F) :
    Calls Try.prog 50 #[.agg #[.int .i64 A, .int .i64 B, .int .i64 C, .int .i64 D, .int .i64 E, .int .i64 F]] w fun e w' => e = .returned (.int .i64 (A * D - B * C)) ∧ Below w.heap.size w w' := by
  obtain ⟨⟨a1, a2⟩, ⟨b1, b2⟩, ⟨c1, c2⟩, ⟨d1, d2⟩, _, _⟩ := h
  obtain ⟨p1, p2⟩ := mul_bd a1 a2 d1 d2
  obtain ⟨q1, q2⟩ := mul_bd b1 b2 c1 c2
  go_enter Try.func50, Try.ntmps50
  go_wp2
  go_ret
  exact ⟨ret_int rfl, (by repeat (first | with_reducible exact Below.refl _ _ | with_reducible assumption | ((with_reducible refine Below.alloc ?_ ?hb_ _); (case hb_ => first | omega | (simp; done) | (simp; omega))) | ((with_reducible refine Below.setCell ?_ ?hb_ _); (case hb_ => first | omega | (simp; done) | (simp; omega))) | with_reducible refine Below.drew ?_ | with_reducible refine below_drewN ?_ _))⟩
end Go.Proofs.Ytpgaibkjokoanaa
