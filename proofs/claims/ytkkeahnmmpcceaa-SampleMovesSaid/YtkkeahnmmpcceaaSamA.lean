/- sample.all, sample.divides, and the leaves of the reference of layer 28. -/
import Derived.Test.YtkkeahnmmpcceaaRefM
import Derived.WalkKit
import Derived.Lib.Hide
import Derived.Deep.QuietTactic
import Derived.BigQuiet
import Derived.Lib.QuietBelow
import Derived.Deep.RegionHeld3
import Derived.WalkLawsBesides
import Derived.WalkSpells
import Derived.Outline
import Derived.Deep.DeepFit
import Derived.Maps.AppendAt
import Derived.Deep.AppendLies
namespace Go.Proofs.Ytkkeahnmmpcceaa
open Go.RowKit

def allB (l : List Bool) : Bool := l.all id
theorem allB_take (l : List Bool) (k : Nat) (hk : k < l.length) : allB (l.take (k+1)) = (allB (l.take k) && l[k]) := by
  unfold allB
  rw [List.take_succ_eq_append_getElem hk, List.all_append]
  simp
theorem allB_no (l : List Bool) (k : Nat) (hk : k < l.length) (h : l[k] = false) : allB l = false := by
  unfold allB
  rw [List.all_eq_false]
  exact ⟨l[k], List.getElem_mem hk, by simp [h]⟩
theorem lit_bools (W : World) (l : List Bool) (t : TypeId) (b : Nat) (hb : b = W.heap.size) : ∀ j, j < l.length → (W.alloc (.cells (l.map Value.bool).toArray t)).cell? ⟨b, 0 + j, none⟩ = some (.bool (l.getD j false)) := by
  subst hb
  intro j hj
  rw [Nat.zero_add]
  rw [World.cell?_alloc_at _ _ _ _ rfl]
  simp [List.getElem?_eq_getElem hj, List.getD_eq_getElem?_getD]

set_option maxHeartbeats 400000 in
theorem all_any (l : List Bool) (b o c : Nat) (w : World) (hl : l.length ≤ 100)
    (hc : ∀ j, j < l.length → w.cell? ⟨b, o + j, none⟩ = some (.bool (l.getD j false))) :
    Calls Try.prog 22 #[.slice (some ⟨b, o, none⟩) l.length c] w fun e w' => e = .returned (.bool (allB l)) ∧ w = w' := by
  go_enter Try.func22, Try.ntmps22
  go_wp2
  go_loop [7] (fun i => ∃ k : Nat, k ≤ l.length ∧ i = .int .i64 k ∧ allB (l.take k) = true) (fun i => l.length - (intOf i).toNat)
  case atStart => exact ⟨0, Nat.zero_le _, rfl, by simp [allB]⟩
  case round =>
    obtain ⟨k, hk, rfl, hw⟩ := hrel
    by_cases hlt : k < l.length
    · have hck := hc k hlt
      have Hw := Lib.hid hw
      have Ht := Lib.hid (allB_take l k hlt)
      have Hno := Lib.hid (allB_no l k hlt)
      have hg : l.getD k false = l[k] := by simp [List.getD_eq_getElem?_getD, List.getElem?_eq_getElem hlt]
      rw [hg] at hck
      clear hw hg hc
      by_cases hin : l[k] = true
      · rw [hin] at hck
        have Hin := Lib.hid hin
        clear hin
        go_wp2
        go_round
        case rel => exact ⟨k + 1, by omega, by go_num, by rw [Ht.out, Hw.out, Hin.out]; rfl⟩
        case measure => simp [intOf]; omega
      · have hin' : l[k] = false := by simpa using hin
        rw [hin'] at hck
        have Hin := Lib.hid hin'
        clear hin hin'
        go_wp2
        all_goals go_ret
        all_goals exact ⟨by rw [Hno.out Hin.out]; rfl, rfl⟩
    · have hkl : k = l.length := by omega
      have Hw : Hid (allB l = true) := Lib.hid (by rw [← hw, hkl, List.take_length])
      clear hw hkl
      go_wp2
      go_ret
      exact ⟨by rw [Hw.out]; rfl, rfl⟩

theorem ceil_div (m d : Int) (hd : 0 < d) (hm : m < 0) : -((d - 1 - m).tdiv d) = m / d := by
  rw [Int.tdiv_eq_ediv_of_nonneg (by omega)]
  have h0 := Int.emod_nonneg m (show d ≠ 0 by omega)
  have h1 := Int.emod_lt_of_pos m hd
  have h2 := Int.mul_ediv_add_emod m d
  have h3 : d - 1 - m = (d - 1 - m % d) + d * (-(m / d)) := by rw [Int.mul_neg]; omega
  rw [h3, Int.add_mul_ediv_left _ _ (by omega), Int.ediv_eq_zero_of_lt (by omega) (by omega)]
  omega
/-- what the two blocks of the closure hold -/
def sgn (d : Int) : Int := if d < 0 then -1 else 1
def mag (d : Int) : Int := if d < 0 then -d else d
def sdiv (n s d : Int) : Int := (n * s) / d

-- the closure that divides returns: its sign and its divisor lie in two blocks
set_option maxHeartbeats 400000 in
theorem div1_any (n s d : Int) (b1 b2 : Nat) (w : World) (hs : s = 1 ∨ s = -1) (hd : 0 < d) (hn : -2305843009213693952 ≤ n) (hn2 : n ≤ 2305843009213693952) (hd2 : d ≤ 2305843009213693952)
    (c1 : w.cell? ⟨b1, 0, none⟩ = some (.int .i64 s)) (c2 : w.cell? ⟨b2, 0, none⟩ = some (.int .i64 d)) :
    Calls Try.prog 32 #[.int .i64 n, .pointer (some ⟨b1, 0, none⟩), .pointer (some ⟨b2, 0, none⟩)] w fun e w' => e = .returned (.int .i64 (sdiv n s d)) ∧ w = w' := by
  have hz : ¬ d = 0 := by omega
  have ht1 := tdiv_bd n d 2305843009213693952 hn hn2
  have ht2 := tdiv_bd (-n) d 2305843009213693952 (by omega) (by omega)
  have ht3 := tdiv_bd (d - 1 - n) d 4611686018427387904 (by omega) (by omega)
  have ht4 := tdiv_bd (d - 1 + n) d 4611686018427387904 (by omega) (by omega)
  have ht5 := tdiv_bd (d - 1 - -n) d 4611686018427387904 (by omega) (by omega)
  rcases hs with rfl | rfl
  · by_cases hm : n < 0
    · have H := Lib.hid (ceil_div n d hd hm)
      go_enter Try.func32, Try.ntmps32
      go_wp2
      go_ret
      exact ⟨ret_int (by rw [sdiv, Int.mul_one]; exact H.out), rfl⟩
    · have H := Lib.hid (Int.tdiv_eq_ediv_of_nonneg (a := n) (b := d) (by omega))
      go_enter Try.func32, Try.ntmps32
      go_wp2
      go_ret
      exact ⟨ret_int (by rw [sdiv, Int.mul_one]; exact H.out), rfl⟩
  · by_cases hm : -n < 0
    · have H := Lib.hid (ceil_div (-n) d hd hm)
      go_enter Try.func32, Try.ntmps32
      go_wp2
      go_ret
      exact ⟨ret_int (by rw [sdiv, show n * -1 = -n by omega, ← H.out, show d - 1 - -n = d - 1 + n by omega]), rfl⟩
    · have H := Lib.hid (Int.tdiv_eq_ediv_of_nonneg (a := -n) (b := d) (by omega))
      go_enter Try.func32, Try.ntmps32
      go_wp2
      go_ret
      exact ⟨ret_int (by rw [sdiv, show n * -1 = -n by omega, ← H.out, Int.neg_tdiv]), rfl⟩

def DivPost (d : Int) (w : World) (e : Ending) (w' : World) : Prop := ∃ b1 b2, e = .returned (.func (.func 32) #[] #[.pointer (some ⟨b1, 0, none⟩), .pointer (some ⟨b2, 0, none⟩)]) ∧ w'.cell? ⟨b1, 0, none⟩ = some (.int .i64 (sgn d)) ∧ w'.cell? ⟨b2, 0, none⟩ = some (.int .i64 (mag d)) ∧ Below w.heap.size w w'
set_option maxHeartbeats 400000 in
theorem divides_any (d : Int) (w : World) (h1 : -2305843009213693952 ≤ d) (h2 : d ≤ 2305843009213693952) :
    Calls Try.prog 25 #[.int .i64 d] w (DivPost d w) := by
  by_cases hd : d < 0
  · have H1 : Hid (sgn d = -1) := Lib.hid (by rw [sgn, if_pos hd])
    have H2 : Hid (mag d = -d) := Lib.hid (by rw [mag, if_pos hd])
    go_enter Try.func25, Try.ntmps25
    go_wp2
    go_region
    go_wp2
    go_ret
    exact ⟨w.heap.size + 1, w.heap.size, rfl, by rw [H1.out]; simp, by rw [H2.out]; simp, (by repeat (first | with_reducible exact Below.refl _ _ | with_reducible assumption | ((with_reducible refine Below.alloc ?_ ?hb_ _); (case hb_ => first | omega | (simp; done) | (simp; omega))) | ((with_reducible refine Below.setCell ?_ ?hb_ _); (case hb_ => first | omega | (simp; done) | (simp; omega))) | with_reducible refine Below.drew ?_ | with_reducible refine below_drewN ?_ _))⟩
  · have H1 : Hid (sgn d = 1) := Lib.hid (by rw [sgn, if_neg hd])
    have H2 : Hid (mag d = d) := Lib.hid (by rw [mag, if_neg hd])
    go_enter Try.func25, Try.ntmps25
    go_wp2
    go_ret
    exact ⟨w.heap.size + 1, w.heap.size, rfl, by rw [H1.out]; simp, by rw [H2.out]; simp, (by repeat (first | with_reducible exact Below.refl _ _ | with_reducible assumption | ((with_reducible refine Below.alloc ?_ ?hb_ _); (case hb_ => first | omega | (simp; done) | (simp; omega))) | ((with_reducible refine Below.setCell ?_ ?hb_ _); (case hb_ => first | omega | (simp; done) | (simp; omega))) | with_reducible refine Below.drew ?_ | with_reducible refine below_drewN ?_ _))⟩

def rfloor (n d : Int) : Int := if d < 0 then (-n) / (-d) else n / d
set_option maxHeartbeats 400000 in
theorem rfloor_any (n d : Int) (w : World) (hd : d ≠ 0) (hn : -4611686018427387904 ≤ n) (hn2 : n ≤ 4611686018427387904) (h1 : -4611686018427387904 ≤ d) (hd2 : d ≤ 4611686018427387904) :
    Calls Try.prog 34 #[.int .i64 n, .int .i64 d] w fun e w' => e = .returned (.int .i64 (rfloor n d)) ∧ w = w' := by
  go_enter Try.func34, Try.ntmps34
  by_cases hc : d < 0
  · go_wp2_with (go_at_call 40; refine (floor_any _ _ _ (by omega) (by omega) (by omega) (by omega)).mono ?_; rintro e w' ⟨rfl, rfl⟩)
    go_ret
    exact ⟨ret_int (by rw [rfloor, if_pos hc, Int.ediv_neg]), rfl⟩
  · go_wp2_with (go_at_call 40; refine (floor_any _ _ _ (by omega) (by omega) (by omega) (by omega)).mono ?_; rintro e w' ⟨rfl, rfl⟩)
    go_ret
    exact ⟨ret_int (by rw [rfloor, if_neg (by omega)]), rfl⟩

def pixB (x y : Int) : Bool := decide (-1024 ≤ x ∧ x < 1024 ∧ -1024 ≤ y ∧ y < 1024)
set_option maxHeartbeats 400000 in
theorem pixel_any (x y : Int) (w : World) :
    Calls Try.prog 26 #[.int .i64 x, .int .i64 y] w fun e w' => e = .returned (.bool (pixB x y)) ∧ w = w' := by
  go_enter Try.func26, Try.ntmps26
  go_wp2
  all_goals go_ret
  all_goals refine ⟨ret_bool ?_, rfl⟩
  all_goals (unfold pixB; first | rfl | (rw [Bool.eq_iff_iff]; simp; omega))
end Go.Proofs.Ytkkeahnmmpcceaa
