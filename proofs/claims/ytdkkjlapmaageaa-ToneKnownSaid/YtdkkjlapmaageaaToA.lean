/- chapter 27: the spot functions, cmp.Compare, first, and the closure that Spot sorts by. -/
import Derived.Test.YtdkkjlapmaageaaBase
import Derived.Test.YtdkkjlapmaageaaRow
import Derived.Test.YtdkkjlapmaageaaGrow2
import Derived.WalkKit
import Derived.Lib.Hide
import Derived.Deep.QuietTactic
import Derived.BigQuiet
import Derived.Lib.QuietBelow
import Derived.Deep.RegionHeld3
import Derived.WalkLawsBesides
import Derived.WalkSpells
import Derived.Outline
import Derived.Deep.DeepFit
import Derived.Maps.AppendAt
import Derived.Deep.AppendLies
import Derived.Maps.RangeWalk
import Derived.Sort.Grow
namespace Go.Proofs.Ytdkkjlapmaageaa.T3
set_option linter.unusedSimpArgs false
set_option linter.unusedVariables false
open Go.RowKit Go.Sort Go.Lib
set_option maxHeartbeats 1000000
set_option maxRecDepth 100000
theorem cel1 {w : World} {b t : Nat} {v0 : Value} (h : w.heap[b]? = some (.cells #[v0] t (0, 0))) : w.cell? ⟨b, 0, none⟩ = some v0 := by
  simp [World.cell?, h]
theorem cel3 {w : World} {b t : Nat} {v0 v1 v2 : Value} (h : w.heap[b]? = some (.cells #[v0, v1, v2] t (0, 0))) : w.cell? ⟨b, 0, none⟩ = some v0 ∧ w.cell? ⟨b, 1, none⟩ = some v1 ∧ w.cell? ⟨b, 2, none⟩ = some v2 := by
  refine ⟨?_, ?_, ?_⟩ <;> simp [World.cell?, h]
theorem cel4 {w : World} {b t : Nat} {v0 v1 v2 v3 : Value} (h : w.heap[b]? = some (.cells #[v0, v1, v2, v3] t (0, 0))) : w.cell? ⟨b, 0, none⟩ = some v0 ∧ w.cell? ⟨b, 1, none⟩ = some v1 ∧ w.cell? ⟨b, 2, none⟩ = some v2 ∧ w.cell? ⟨b, 3, none⟩ = some v3 := by
  refine ⟨?_, ?_, ?_, ?_⟩ <;> simp [World.cell?, h]
theorem max2 (u v : Int) : (∀ w : World, Sem.run Try.prog (Builtin.max_ #[3, 3] 3 #[.int .i64 u, .int .i64 v]) w = .ok (.int .i64 (max u v)) w) := by
  intro w
  have : max u v = if v > u then v else u := by split <;> omega
  rw [this]
  rfl
theorem min2 (u v : Int) : (∀ w : World, Sem.run Try.prog (Builtin.min_ #[3, 3] 3 #[.int .i64 u, .int .i64 v]) w = .ok (.int .i64 (min u v)) w) := by
  intro w
  have : min u v = if v < u then v else u := by split <;> omega
  rw [this]
  rfl
theorem mul_bd {a b X Y : Int} (ha : -X ≤ a) (ha' : a ≤ X) (hb : -Y ≤ b) (hb' : b ≤ Y) : -(X * Y) ≤ a * b ∧ a * b ≤ X * Y := by
  have h := Int.mul_nonneg (show 0 ≤ X - a by omega) (show 0 ≤ Y - b by omega)
  have h1 := Int.mul_nonneg (show 0 ≤ X + a by omega) (show 0 ≤ Y + b by omega)
  have h2 := Int.mul_nonneg (show 0 ≤ X - a by omega) (show 0 ≤ Y + b by omega)
  have h3 := Int.mul_nonneg (show 0 ≤ X + a by omega) (show 0 ≤ Y - b by omega)
  constructor <;> grind
/-- draws, and new blocks -/
def Lays (w w' : World) : Prop := ∃ (q : Nat) (os : Array Obj), w' = grow (w.drewN q) os
theorem Lays.refl (w : World) : Lays w w := ⟨0, #[], by rw [grow_empty]; rfl⟩
theorem Lays.trans {w w1 w2 : World} (h : Lays w w1) (k : Lays w1 w2) : Lays w w2 := by
  obtain ⟨q, os, rfl⟩ := h
  obtain ⟨q2, os2, rfl⟩ := k
  exact ⟨q + q2, os ++ os2, by simp [grow, World.drewN, Array.append_assoc, Nat.add_assoc]⟩
theorem Lays.alloc {w w1 : World} (h : Lays w w1) (o : Obj) : Lays w (w1.alloc o) := h.trans ⟨0, #[o], by rw [alloc_eq_grow]; rfl⟩
theorem Lays.drew {w w1 : World} (h : Lays w w1) : Lays w w1.drew := h.trans ⟨1, #[], by rw [grow_empty]; rfl⟩
theorem Lays.below {w w1 : World} (h : Lays w w1) : Below w.heap.size w w1 := by
  obtain ⟨q, os, rfl⟩ := h
  refine ⟨rfl, rfl, rfl, by simp [grow, World.drewN], fun k hk => ?_⟩
  simp [grow, World.drewN, Array.getElem?_append, hk]
/-- the value of a pixel -/
def spv (k u v : Int) : Int := if k = 0 then u * u + v * v else if k = 1 then max v (-v) else max u (-u) + max v (-v)
def PX (i j u v : Int) : Value := .agg #[.int .i64 i, .int .i64 j, .int .i64 u, .int .i64 v]
theorem dot_any (i j u v : Int) (w : World) (u1 : -1024 ≤ u) (u2 : u ≤ 1024) (v1 : -1024 ≤ v) (v2 : v ≤ 1024) : Calls Try.prog 28 #[.agg #[.int .i64 i, .int .i64 j, .int .i64 u, .int .i64 v]] w fun e w' => e = .returned (.int .i64 (spv 0 u v)) ∧ Lays w w' := by
  obtain ⟨p1, p2⟩ := mul_bd u1 u2 u1 u2
  obtain ⟨q1, q2⟩ := mul_bd v1 v2 v1 v2
  simp only [Int.reduceMul, Int.reduceNeg] at p1 p2 q1 q2
  rw [show spv 0 u v = u * u + v * v from rfl]
  go_enter Try.func28, Try.ntmps28
  go_wp2_with fail
  go_ret
  exact ⟨rfl, (Lays.refl w).alloc _⟩
theorem line_any (i j u v : Int) (w : World) (u1 : -1024 ≤ u) (u2 : u ≤ 1024) (v1 : -1024 ≤ v) (v2 : v ≤ 1024) : Calls Try.prog 29 #[.agg #[.int .i64 i, .int .i64 j, .int .i64 u, .int .i64 v]] w fun e w' => e = .returned (.int .i64 (spv 1 u v)) ∧ Lays w w' := by
  have hm := max2 v (-v)
  rw [show spv 1 u v = max v (-v) from rfl]
  generalize max v (-v) = m at hm ⊢
  go_enter Try.func29, Try.ntmps29
  go_wp2_with fail
  go_ret
  exact ⟨rfl, (Lays.refl w).alloc _⟩
theorem diamond_any (i j u v : Int) (w : World) (u1 : -1024 ≤ u) (u2 : u ≤ 1024) (v1 : -1024 ≤ v) (v2 : v ≤ 1024) : Calls Try.prog 30 #[.agg #[.int .i64 i, .int .i64 j, .int .i64 u, .int .i64 v]] w fun e w' => e = .returned (.int .i64 (spv 2 u v)) ∧ Lays w w' := by
  have hm := max2 u (-u)
  have hm2 : -1024 ≤ max u (-u) ∧ max u (-u) ≤ 1024 := by omega
  have hl : -1024 ≤ spv 1 u v ∧ spv 1 u v ≤ 1024 := by rw [show spv 1 u v = max v (-v) from rfl]; omega
  rw [show spv 2 u v = max u (-u) + spv 1 u v from rfl]
  generalize max u (-u) = m at hm hm2 ⊢
  have hL := fun W => line_any i j u v W u1 u2 v1 v2
  generalize spv 1 u v = l at hl hL ⊢
  obtain ⟨m1, m2⟩ := hm2
  obtain ⟨l1, l2⟩ := hl
  go_enter Try.func30, Try.ntmps30
  go_wp2_with fail
  obtain ⟨wy, hwy⟩ : ∃ wy, wy = w.alloc (.cells #[.int .i64 i, .int .i64 j, .int .i64 u, .int .i64 v] 62 (0, 0)) := ⟨_, rfl⟩
  have hp : wy.heap[w.heap.size]? = some (.cells #[.int .i64 i, .int .i64 j, .int .i64 u, .int .i64 v] 62 (0, 0)) := by rw [hwy]; exact rw_new rfl
  have hl0 : Lays w wy := by rw [hwy]; exact (Lays.refl w).alloc _
  rw [← hwy]
  clear hwy
  obtain ⟨hp0, hp1, hp2, hp3⟩ := cel4 hp
  have hlp := rw_lt hp
  refine wp_region_ord (.s 0 .p (.s 1 .l (.s 2 .p (.s 3 .l (.s 4 .p (.s 5 .p (.s 6 .l (.s 7 .e (.s 8 .p (.s 9 .p .done)))))))))) (Held wy []) (by kernel_rfl) (by kernel_rfl) (fun _ _ _ _ _ h => h) (Held.refl _ _) ?_
  (apply wpOrd_p2 rfl rfl rfl rfl rfl; (intro w' K hK; (first | go_big_move | go_big_op | go_wp2_with fail); exact hK))
  (apply wpOrd_l2 rfl rfl rfl rfl rfl; (intro w' K hS' hK; (have hr' := hS'.cell; simp at hr'; (first | go_big_op | go_wp2_with fail); exact hK)); (first | assumption | exact Held.refl _ _ | exact Held.of_below (by repeat (first | with_reducible exact Below.refl _ _ | with_reducible assumption | ((with_reducible refine Below.alloc ?_ ?hb_ _); (case hb_ => first | omega | (simp; done) | (simp; omega))) | ((with_reducible refine Below.setCell ?_ ?hb_ _); (case hb_ => first | omega | (simp; done) | (simp; omega))) | with_reducible refine Below.drew ?_ | with_reducible refine below_drewN ?_ _))))
  (apply wpOrd_p2 rfl rfl rfl rfl rfl; (intro w' K hK; (first | go_big_move | go_big_op | go_wp2_with fail); exact hK))
  (apply wpOrd_l2 rfl rfl rfl rfl rfl; (intro w' K hS' hK; (have hr' := hS'.cell; simp at hr'; (first | go_big_op | go_wp2_with fail); exact hK)); (first | assumption | exact Held.refl _ _ | exact Held.of_below (by repeat (first | with_reducible exact Below.refl _ _ | with_reducible assumption | ((with_reducible refine Below.alloc ?_ ?hb_ _); (case hb_ => first | omega | (simp; done) | (simp; omega))) | ((with_reducible refine Below.setCell ?_ ?hb_ _); (case hb_ => first | omega | (simp; done) | (simp; omega))) | with_reducible refine Below.drew ?_ | with_reducible refine below_drewN ?_ _))))
  (apply wpOrd_p2 rfl rfl rfl rfl rfl; (intro w' K hK; (first | go_big_move | go_big_op | go_wp2_with fail); exact hK))
  (apply wpOrd_p2 rfl rfl rfl rfl rfl; (intro w' K hK; (first | go_big_move | go_big_op | go_wp2_with fail); exact hK))
  (apply wpOrd_l2 rfl rfl rfl rfl rfl; (intro w' K hS' hK; (have hr' := hS'.cell; simp at hr'; (first | go_big_op | go_wp2_with fail); exact hK)); (first | assumption | exact Held.refl _ _ | exact Held.of_below (by repeat (first | with_reducible exact Below.refl _ _ | with_reducible assumption | ((with_reducible refine Below.alloc ?_ ?hb_ _); (case hb_ => first | omega | (simp; done) | (simp; omega))) | ((with_reducible refine Below.setCell ?_ ?hb_ _); (case hb_ => first | omega | (simp; done) | (simp; omega))) | with_reducible refine Below.drew ?_ | with_reducible refine below_drewN ?_ _))))
  (refine wpOrd_e1 rfl rfl (fun K hK => ?_)); (first | go_big_op | go_wp2_with fail)
  refine (hL _).mono ?_; rintro e w2 ⟨rfl, hb2⟩; have hV := (Lays.refl wy).drew.trans hb2; clear hb2; refine hK _ _ (Held.of_below hV.below) ?_; clear hK K
  (apply wpOrd_p2 rfl rfl rfl rfl rfl; (intro w' K hK; (first | go_big_move | go_big_op | go_wp2_with fail); exact hK))
  (apply wpOrd_p2 rfl rfl rfl rfl rfl; (intro w' K hK; (first | go_big_move | go_big_op | go_wp2_with fail); exact hK))
  refine wpOrd_nil ?_
  skip
  go_wp2_with fail
  go_ret
  exact ⟨rfl, hl0.trans hV⟩
def cmpV (a b : Int) : Int := if a < b then -1 else if b < a then 1 else 0
theorem cmp_any (a b : Int) (w : World) : Calls Try.prog 34 #[.int .i64 a, .int .i64 b] w fun e w' => e = .returned (.int .i64 (cmpV a b)) ∧ w = w' := by
  have hn : ∀ (x : Int) (W : World), Calls Try.prog 45 #[.int .i64 x] W fun e w' => e = .returned (.bool false) ∧ W = w' := by
    intro x W
    go_enter Try.func45, Try.ntmps45
    go_wp2_with fail
    go_ret
    exact ⟨rfl, rfl⟩
  by_cases h1 : a < b
  · rw [show cmpV a b = -1 from if_pos h1]
    go_enter Try.func34, Try.ntmps34
    go_wp2_with fail
    refine (hn _ _).mono ?_
    rintro e w' ⟨rfl, rfl⟩
    go_wp2_with fail
    refine (hn _ _).mono ?_
    rintro e w' ⟨rfl, rfl⟩
    go_wp2_with fail
    go_ret
    exact ⟨rfl, rfl⟩
  · by_cases h2 : b < a
    · rw [show cmpV a b = 1 by rw [cmpV, if_neg h1, if_pos h2]]
      go_enter Try.func34, Try.ntmps34
      go_wp2_with fail
      refine (hn _ _).mono ?_
      rintro e w' ⟨rfl, rfl⟩
      go_wp2_with fail
      refine (hn _ _).mono ?_
      rintro e w' ⟨rfl, rfl⟩
      go_wp2_with fail
      go_ret
      exact ⟨rfl, rfl⟩
    · rw [show cmpV a b = 0 by rw [cmpV, if_neg h1, if_neg h2]]
      go_enter Try.func34, Try.ntmps34
      go_wp2_with fail
      refine (hn _ _).mono ?_
      rintro e w' ⟨rfl, rfl⟩
      go_wp2_with fail
      refine (hn _ _).mono ?_
      rintro e w' ⟨rfl, rfl⟩
      go_wp2_with fail
      go_ret
      exact ⟨rfl, rfl⟩
def fstV (a b c : Int) : Int := if a ≠ 0 then a else if b ≠ 0 then b else c
theorem first_any (a b c : Int) (g k : Nat) (w : World) (hg : w.heap[g]? = some (.cells #[.int .i64 a, .int .i64 b, .int .i64 c] 3 (0, 0))) : Calls Try.prog 33 #[.slice (some ⟨g, 0, none⟩) 3 k] w fun e w' => e = .returned (.int .i64 (fstV a b c)) ∧ w = w' := by
  obtain ⟨c0, c1, c2⟩ := cel3 hg
  go_enter Try.func33, Try.ntmps33
  go_wp2_with fail
  go_loop [7] (fun i => i = .int .i64 0 ∨ (i = .int .i64 1 ∧ a = 0) ∨ (i = .int .i64 2 ∧ a = 0 ∧ b = 0) ∨ (i = .int .i64 3 ∧ a = 0 ∧ b = 0 ∧ c = 0)) (fun i => 3 - (intOf i).toNat)
  case atStart => exact .inl rfl
  case round =>
    rcases hrel with rfl | ⟨rfl, ha⟩ | ⟨rfl, ha, hb⟩ | ⟨rfl, ha, hb, hc⟩
    · by_cases ha : a = 0
      · subst ha
        go_wp2_with fail
        go_round
        case rel => simp
        case measure => simp [intOf]
      · have H := Lib.hid (show fstV a b c = a from if_pos ha)
        have hne : (a != 0) = true := by simpa using ha
        go_wp2_with fail
        go_ret
        exact ⟨by rw [H.out]; rfl, rfl⟩
    · subst ha
      by_cases hb : b = 0
      · subst hb
        go_wp2_with fail
        go_round
        case rel => simp
        case measure => simp [intOf]
      · have H := Lib.hid (show fstV 0 b c = b from (if_neg (by simp)).trans (if_pos hb))
        have hne : (b != 0) = true := by simpa using hb
        go_wp2_with fail
        go_ret
        exact ⟨by rw [H.out]; rfl, rfl⟩
    · subst ha
      subst hb
      have H := Lib.hid (show fstV 0 0 c = c from rfl)
      by_cases hc : c = 0
      · subst hc
        go_wp2_with fail
        go_round
        case rel => simp
        case measure => simp [intOf]
      · have hne : (c != 0) = true := by simpa using hc
        go_wp2_with fail
        go_ret
        exact ⟨by rw [H.out]; rfl, rfl⟩
    · subst ha
      subst hb
      subst hc
      go_wp2_with fail
      go_ret
      exact ⟨rfl, rfl⟩
end Go.Proofs.Ytdkkjlapmaageaa.T3
