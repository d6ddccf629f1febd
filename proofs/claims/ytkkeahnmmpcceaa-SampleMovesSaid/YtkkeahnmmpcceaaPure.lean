/- What the laws say of a pixel's place, as plain facts about whole numbers. -/
import Derived.Test.YtkkeahnmmpcceaaAt
namespace Go.Proofs.Ytkkeahnmmpcceaa
open Go.RowKit

theorem sdiv_pos {n d : Int} (h : 0 < d) : sdiv n (sgn d) (mag d) = n / d := by
  have : ¬ d < 0 := by omega
  simp [sdiv, sgn, mag, this]
theorem sdiv_neg {n d : Int} (h : d < 0) : sdiv n (sgn d) (mag d) = (-n) / (-d) := by
  simp [sdiv, sgn, mag, h]
theorem sdiv_neg_neg (n d : Int) (h : d ≠ 0) : sdiv (-n) (sgn (-d)) (mag (-d)) = sdiv n (sgn d) (mag d) := by
  rcases Int.lt_or_gt_of_ne h with h | h
  · rw [sdiv_neg h, sdiv_pos (by omega)]
  · rw [sdiv_pos h, sdiv_neg (by omega)]
    simp
/-- a quotient rounded down, and what it is between -/
theorem div_between {n d : Int} (h : 0 < d) : n / d * d ≤ n ∧ n < (n / d + 1) * d := ⟨Int.ediv_mul_le n (by omega), Int.lt_ediv_add_one_mul_self n h⟩
theorem div_nonneg_iff {n d : Int} (h : 0 < d) : 0 ≤ n / d ↔ 0 ≤ n := by
  rw [Int.le_ediv_iff_mul_le h]; simp
theorem div_lt_iff {n d W : Int} (h : 0 < d) : n / d < W ↔ n < W * d := Int.ediv_lt_iff_lt_mul h
theorem scale_div {h1 w1 dx : Int} (hh : 0 < h1) (_hw : 0 < w1) : h1 * 65536 * (dx * 65536 + 32768) / (w1 * 65536 * (h1 * 65536)) = dx / w1 := by
  rw [show w1 * 65536 * (h1 * 65536) = h1 * 65536 * (65536 * w1) by rw [Int.mul_comm, Int.mul_comm w1]]
  rw [Int.mul_ediv_mul_of_pos _ _ (by omega), ← Int.ediv_ediv_of_nonneg (by omega)]
  congr 1
  omega
theorem mirror_sum {n d W : Int} (h : d ≠ 0) (i k : Int) (hi : i = sdiv n (sgn d) (mag d)) (hk : k = sdiv (n - W * d) (sgn (-d)) (mag (-d))) : i + k = W - 1 ∨ i + k = W := by
  subst hi hk
  rcases Int.lt_or_gt_of_ne h with h | h
  · rw [sdiv_neg h, sdiv_pos (by omega)]
    rw [show n - W * d = n + W * -d by rw [Int.mul_neg]; omega, Int.add_mul_ediv_right _ _ (by omega)]
    have h1 := div_between (n := n) (d := -d) (by omega)
    have h2 := div_between (n := -n) (d := -d) (by omega)
    have he : 0 < -d := by omega
    generalize n / -d = q at *
    generalize -n / -d = r at *
    generalize -d = e at *
    have hs : -1 ≤ q + r ∧ q + r ≤ 0 := by
      constructor
      · have : (q + r + 2) * e > 0 := by
          have e1 : (q + r + 2) * e = (q + 1) * e + (r + 1) * e := by rw [← Int.add_mul]; congr 1; omega
          omega
        have := Int.pos_of_mul_pos_left this (by omega)
        omega
      · have : (q + r) * e ≤ 0 := by rw [Int.add_mul]; omega
        rcases Int.lt_or_le 0 (q + r) with h3 | h3
        · have := Int.mul_pos h3 (show 0 < e by omega)
          omega
        · exact h3
    omega
  · rw [sdiv_pos h, sdiv_neg (by omega)]
    rw [show -(n - W * d) = -n + W * d by omega, show - -d = d by omega, Int.add_mul_ediv_right _ _ (by omega)]
    have h1 := div_between (n := n) (d := d) (by omega)
    have h2 := div_between (n := -n) (d := d) (by omega)
    generalize n / d = q at *
    generalize -n / d = r at *
    have hs : -1 ≤ q + r ∧ q + r ≤ 0 := by
      constructor
      · have : (q + r + 2) * d > 0 := by
          have e1 : (q + r + 2) * d = (q + 1) * d + (r + 1) * d := by rw [← Int.add_mul]; congr 1; omega
          omega
        have := Int.pos_of_mul_pos_left this (by omega)
        omega
      · have : (q + r) * d ≤ 0 := by rw [Int.add_mul]; omega
        rcases Int.lt_or_le 0 (q + r) with h3 | h3
        · have := Int.mul_pos h3 (show 0 < d by omega)
          omega
        · exact h3
    omega

theorem place_ok {W H N : Int} {S : ByteArray} {A B C D E F x y : Int} (h : pOk W H N S A B C D E F) (hp : pixOk x y = true) :
    placeE W H N S A B C D E F x y = 0 ∧ placeIs W H N S A B C D E F x y = inP W H A B C D E F x y := by
  have h0 : placeE W H N S A B C D E F x y = 0 := by rw [placeE, if_pos h, if_pos hp]
  exact ⟨h0, by simp [placeIs, h0]⟩
/-- a pixel's place, told by the exact inverse image of its center -/
def exactF (W H I J : Int) (is : Bool) (dd a b : Int) : Prop := is = (decide (0 ≤ a) && (decide (0 ≤ b) && (decide (a < W * dd) && decide (b < H * dd)))) ∧ (is = true → (I * dd ≤ a ∧ a < (I + 1) * dd) ∧ (J * dd ≤ b ∧ b < (J + 1) * dd))
theorem exact_of {W H A B C D E F x y dd a b : Int} (hne : ¬ A * D - B * C = 0) (hdd : 0 < dd) (hi : iOf A B C D E F x y = a / dd) (hj : jOf A B C D E F x y = b / dd) :
    exactF W H (iOf A B C D E F x y) (jOf A B C D E F x y) (inP W H A B C D E F x y) dd a b := by
  refine ⟨?_, fun _ => ?_⟩
  · unfold inP
    rw [hi, hj]
    have h0 : (A * D - B * C == 0) = false := by simp [hne]
    rw [h0]
    rw [show decide (0 ≤ a / dd) = decide (0 ≤ a) from decide_eq_decide.2 (div_nonneg_iff hdd), show decide (0 ≤ b / dd) = decide (0 ≤ b) from decide_eq_decide.2 (div_nonneg_iff hdd),
      show decide (a / dd < W) = decide (a < W * dd) from decide_eq_decide.2 (div_lt_iff hdd), show decide (b / dd < H) = decide (b < H * dd) from decide_eq_decide.2 (div_lt_iff hdd)]
    generalize decide (0 ≤ a) = p1
    generalize decide (0 ≤ b) = p2
    generalize decide (a < W * dd) = p3
    generalize decide (b < H * dd) = p4
    cases p1 <;> cases p2 <;> cases p3 <;> cases p4 <;> rfl
  · rw [hi, hj]
    exact ⟨div_between hdd, div_between hdd⟩
theorem exact_place {W H N : Int} {S : ByteArray} {A B C D E F x y dd a b : Int} (h : pOk W H N S A B C D E F) (hp : pixOk x y = true) (hne : ¬ A * D - B * C = 0) (hdd : 0 < dd) (hi : iOf A B C D E F x y = a / dd) (hj : jOf A B C D E F x y = b / dd) :
    exactF W H (placeI W H N S A B C D E F x y) (placeJ W H N S A B C D E F x y) (placeIs W H N S A B C D E F x y) dd a b := by
  obtain ⟨_, h1⟩ := place_ok h hp
  have h2 := exact_of (W := W) (H := H) hne hdd hi hj
  rw [h1]
  refine ⟨h2.1, fun hin => ?_⟩
  have e1 : placeI W H N S A B C D E F x y = iOf A B C D E F x y := by rw [placeI, h1, if_pos hin]
  have e2 : placeJ W H N S A B C D E F x y = jOf A B C D E F x y := by rw [placeJ, h1, if_pos hin]
  rw [e1, e2]
  exact h2.2 hin
theorem exact_pos {W H N : Int} {S : ByteArray} {A B C D E F x y : Int} (h : pOk W H N S A B C D E F) (hp : pixOk x y = true) (hd : 0 < A * D - B * C) :
    exactF W H (placeI W H N S A B C D E F x y) (placeJ W H N S A B C D E F x y) (placeIs W H N S A B C D E F x y) (A * D - B * C) (D * (65536 * x + 32768 - E) - C * (65536 * y + 32768 - F)) (A * (65536 * y + 32768 - F) - B * (65536 * x + 32768 - E)) :=
  exact_place h hp (by omega) hd (by rw [iOf, sdiv_pos hd, uOf, uOf, Int.mul_comm x, Int.mul_comm y]) (by rw [jOf, sdiv_pos hd, uOf, uOf, Int.mul_comm x, Int.mul_comm y])
theorem exact_neg {W H N : Int} {S : ByteArray} {A B C D E F x y : Int} (h : pOk W H N S A B C D E F) (hp : pixOk x y = true) (hd : A * D - B * C < 0) :
    exactF W H (placeI W H N S A B C D E F x y) (placeJ W H N S A B C D E F x y) (placeIs W H N S A B C D E F x y) (-(A * D - B * C)) (-(D * (65536 * x + 32768 - E) - C * (65536 * y + 32768 - F))) (-(A * (65536 * y + 32768 - F) - B * (65536 * x + 32768 - E))) :=
  exact_place h hp (by omega) (by omega) (by rw [iOf, sdiv_neg hd, uOf, uOf, Int.mul_comm x, Int.mul_comm y]) (by rw [jOf, sdiv_neg hd, uOf, uOf, Int.mul_comm x, Int.mul_comm y])
theorem exact_zero {W H N : Int} {S : ByteArray} {A B C D E F x y : Int} (h : pOk W H N S A B C D E F) (hp : pixOk x y = true) (hd : A * D - B * C = 0) : placeIs W H N S A B C D E F x y = false := by
  rw [(place_ok h hp).2, inP, hd]
  rfl
/-! whole scales -/
theorem scale_of {w1 h1 e0 f0 dx dy : Int} (hw : 0 < w1) (hh : 0 < h1) :
    iOf (w1 * 65536) 0 0 (h1 * 65536) (e0 * 65536) (f0 * 65536) (e0 + dx) (f0 + dy) = dx / w1 ∧ jOf (w1 * 65536) 0 0 (h1 * 65536) (e0 * 65536) (f0 * 65536) (e0 + dx) (f0 + dy) = dy / h1 := by
  have hd : 0 < w1 * 65536 * (h1 * 65536) - 0 * 0 := by have := Int.mul_pos (show 0 < w1 * 65536 by omega) (show 0 < h1 * 65536 by omega); omega
  have e1 : uOf (e0 + dx) (e0 * 65536) = dx * 65536 + 32768 := by unfold uOf; omega
  have e2 : uOf (f0 + dy) (f0 * 65536) = dy * 65536 + 32768 := by unfold uOf; omega
  constructor
  · rw [iOf, sdiv_pos hd, e1, e2, Int.zero_mul, Int.sub_zero, Int.zero_mul, Int.sub_zero]
    exact scale_div hh hw
  · rw [jOf, sdiv_pos hd, e1, e2, Int.zero_mul, Int.sub_zero, Int.zero_mul, Int.sub_zero, Int.mul_comm (w1 * 65536) (h1 * 65536)]
    exact scale_div hw hh
theorem scale_in {W H w1 h1 e0 f0 dx dy : Int} (hw : 0 < w1) (hh : 0 < h1) :
    inP W H (w1 * 65536) 0 0 (h1 * 65536) (e0 * 65536) (f0 * 65536) (e0 + dx) (f0 + dy) = (decide (0 ≤ dx) && (decide (dx < W * w1) && (decide (0 ≤ dy) && decide (dy < H * h1)))) := by
  have hd : 0 < w1 * 65536 * (h1 * 65536) - 0 * 0 := by have := Int.mul_pos (show 0 < w1 * 65536 by omega) (show 0 < h1 * 65536 by omega); omega
  have h0 : (w1 * 65536 * (h1 * 65536) - 0 * 0 == 0) = false := by simp; omega
  rw [inP, h0, (scale_of hw hh).1, (scale_of hw hh).2]
  rw [show decide (0 ≤ dx / w1) = decide (0 ≤ dx) from decide_eq_decide.2 (div_nonneg_iff hw), show decide (0 ≤ dy / h1) = decide (0 ≤ dy) from decide_eq_decide.2 (div_nonneg_iff hh),
    show decide (dx / w1 < W) = decide (dx < W * w1) from decide_eq_decide.2 (div_lt_iff hw), show decide (dy / h1 < H) = decide (dy < H * h1) from decide_eq_decide.2 (div_lt_iff hh)]
  rfl
/-! a picture moved, turned, mirrored -/
theorem moved_of (W H A B C D E F x y b c : Int) : iOf A B C D (E + b * 65536) (F + c * 65536) (x + b) (y + c) = iOf A B C D E F x y ∧ jOf A B C D (E + b * 65536) (F + c * 65536) (x + b) (y + c) = jOf A B C D E F x y ∧ inP W H A B C D (E + b * 65536) (F + c * 65536) (x + b) (y + c) = inP W H A B C D E F x y := by
  have e1 : uOf (x + b) (E + b * 65536) = uOf x E := by unfold uOf; omega
  have e2 : uOf (y + c) (F + c * 65536) = uOf y F := by unfold uOf; omega
  have h1 : iOf A B C D (E + b * 65536) (F + c * 65536) (x + b) (y + c) = iOf A B C D E F x y := by rw [iOf, iOf, e1, e2]
  have h2 : jOf A B C D (E + b * 65536) (F + c * 65536) (x + b) (y + c) = jOf A B C D E F x y := by rw [jOf, jOf, e1, e2]
  exact ⟨h1, h2, by rw [inP, inP, h1, h2]⟩
theorem turned_of (W H A B C D E F x y : Int) : inP W H B A D C F E y x = inP W H A B C D E F x y ∧ (inP W H A B C D E F x y = true → iOf B A D C F E y x = iOf A B C D E F x y ∧ jOf B A D C F E y x = jOf A B C D E F x y) := by
  have hd : B * C - A * D = -(A * D - B * C) := by omega
  by_cases h : A * D - B * C = 0
  · have h' : B * C - A * D = 0 := by omega
    refine ⟨by rw [inP, inP, h, h']; rfl, fun hin => ?_⟩
    rw [inP, h] at hin
    cases hin
  · have e1 : iOf B A D C F E y x = iOf A B C D E F x y := by
      rw [iOf, iOf, hd, ← sdiv_neg_neg _ _ h]
      congr 1
      omega
    have e2 : jOf B A D C F E y x = jOf A B C D E F x y := by
      rw [jOf, jOf, hd, ← sdiv_neg_neg _ _ h]
      congr 1
      omega
    refine ⟨?_, fun _ => ⟨e1, e2⟩⟩
    rw [inP, inP, e1, e2]
    have h1 : (B * C - A * D == 0) = false := by simp; omega
    have h2 : (A * D - B * C == 0) = false := by simp [h]
    rw [h1, h2]
theorem mirror_of {W A B C D E F x y : Int} (h : ¬ A * D - B * C = 0) : jOf (-A) (-B) C D (E + W * A) (F + W * B) x y = jOf A B C D E F x y ∧
    (iOf A B C D E F x y + iOf (-A) (-B) C D (E + W * A) (F + W * B) x y = W - 1 ∨ iOf A B C D E F x y + iOf (-A) (-B) C D (E + W * A) (F + W * B) x y = W) := by
  have e1 : uOf x (E + W * A) = uOf x E - W * A := by unfold uOf; omega
  have e2 : uOf y (F + W * B) = uOf y F - W * B := by unfold uOf; omega
  have hd : -A * D - -B * C = -(A * D - B * C) := by grind
  constructor
  · rw [jOf, jOf, e1, e2, hd, ← sdiv_neg_neg _ _ h]
    congr 1
    grind
  · refine mirror_sum (n := D * uOf x E - C * uOf y F) (W := W) h _ _ rfl ?_
    rw [iOf, e1, e2, hd]
    congr 1
    grind
end Go.Proofs.Ytkkeahnmmpcceaa
