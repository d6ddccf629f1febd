/- chapter 27: the bit for an amount at a pixel. -/
import Derived.Test.YtdkkjlapmaageaaToK
import Derived.WalkKit
import Derived.Lib.Hide
import Derived.Deep.QuietTactic
import Derived.BigQuiet
import Derived.Lib.QuietBelow
import Derived.Deep.RegionHeld3
import Derived.WalkLawsBesides
import Derived.WalkSpells
import Derived.Outline
import Derived.Deep.DeepFit
import Derived.Maps.AppendAt
import Derived.Deep.AppendLies

namespace Go.Proofs.Ytdkkjlapmaageaa.T3
set_option linter.unusedSimpArgs false
set_option linter.unusedVariables false
open Go.RowKit Go.Sort Go.Lib Go.Shelf
set_option maxHeartbeats 1000000
set_option maxRecDepth 100000

theorem mod_of {x d : Int} (hd : 1 ≤ d) : (x.tmod d + d).tmod d = x % d ∧ -d < x.tmod d ∧ x.tmod d < d ∧ 0 ≤ x % d ∧ x % d < d ∧ (x.tmod d < 0 → x.tmod d + d = x % d) ∧ (0 ≤ x.tmod d → x.tmod d = x % d) := by
  have h1 := Int.emod_nonneg x (show d ≠ 0 by omega)
  have h2 := Int.emod_lt_of_pos x (show 0 < d by omega)
  have h3 : x.tmod d = x % d ∨ x.tmod d = x % d - d ∧ 0 < x % d := by
    rcases Int.lt_or_le x 0 with hx | hx
    · have e1 : x.tmod d = -((-x) % d) := by
        rw [← Int.tmod_eq_emod_of_nonneg (by omega : 0 ≤ -x), Int.neg_tmod]; omega
      have e2 := Int.emod_nonneg (-x) (show d ≠ 0 by omega)
      have e3 := Int.emod_lt_of_pos (-x) (show 0 < d by omega)
      by_cases h0 : x % d = 0
      · left
        have : (-x) % d = 0 := by rw [Int.emod_eq_zero_of_dvd]; exact (Int.dvd_neg).2 (Int.dvd_of_emod_eq_zero h0)
        omega
      · right
        have h5 : (-x) % d = d - x % d := by
          have h6 : (-x) = (d - x % d) + d * (-(x / d) - 1) := by
            have := Int.emod_add_mul_ediv x d
            rw [Int.mul_sub, Int.mul_neg, Int.mul_one]
            omega
          rw [h6, Int.add_mul_emod_self_left]
          exact Int.emod_eq_of_lt (by omega) (by omega)
        exact ⟨by omega, by omega⟩
    · left; exact Int.tmod_eq_emod_of_nonneg hx
  refine ⟨?_, by omega, by omega, h1, h2, by omega, by omega⟩
  rcases h3 with h3 | ⟨h3, h4⟩
  · rw [h3, Int.tmod_eq_emod_of_nonneg (by omega), Int.add_emod_right, Int.emod_emod_of_dvd _ (Int.dvd_refl d)]
  · rw [h3, show x % d - d + d = x % d by omega, Int.tmod_eq_emod_of_nonneg h1, Int.emod_emod_of_dvd _ (Int.dvd_refl d)]
theorem mod_any (x d : Int) (w : World) (hd : 1 ≤ d) (hd2 : d ≤ 16) : Calls Try.prog 49 #[.int .i64 x, .int .i64 d] w fun e w' => e = .returned (.int .i64 (x % d)) ∧ w = w' := by
  obtain ⟨_, h2, h3, h4, h5, h6, h7⟩ := mod_of (x := x) hd
  obtain ⟨q, hq⟩ : ∃ q, x.tmod d = q := ⟨_, rfl⟩
  obtain ⟨r, hr⟩ : ∃ r, x % d = r := ⟨_, rfl⟩
  rw [hq] at h2 h3 h6 h7
  rw [hr] at h4 h5 h6 h7 ⊢
  have hd0 : d ≠ 0 := by omega
  clear hr
  by_cases g : q < 0
  · have e := h6 g
    clear h6 h7
    go_enter Try.func49, Try.ntmps49
    go_wp2_with fail
    go_ret
    exact ⟨rfl, rfl⟩
  · have e := h7 (by omega)
    clear h6 h7
    go_enter Try.func49, Try.ntmps49
    go_wp2_with fail
    go_ret
    exact ⟨ret_int (by omega), rfl⟩
/-- the place of a pixel's threshold -/
def plc (W H x y : Int) : Int := (y % H) * W + x % W
def thr (T : ByteArray) (W H x y : Int) : Int := oct T (plc W H x y).toNat
theorem plc_bd {W H : Int} (x y : Int) (hW : 1 ≤ W ∧ W ≤ 16) (hH : 1 ≤ H ∧ H ≤ 16) : (0 ≤ y % H * W ∧ y % H * W ≤ 256) ∧ 0 ≤ plc W H x y ∧ plc W H x y < W * H := by
  have h1 := Int.emod_nonneg y (show H ≠ 0 by omega)
  have h2 := Int.emod_lt_of_pos y (show 0 < H by omega)
  have h3 := Int.emod_nonneg x (show W ≠ 0 by omega)
  have h4 := Int.emod_lt_of_pos x (show 0 < W by omega)
  have a1 : 0 ≤ y % H * W := Int.mul_nonneg h1 (by omega)
  have a2 : y % H * W ≤ (H - 1) * W := Int.mul_le_mul_of_nonneg_right (by omega) (by omega)
  have a3 : (H - 1) * W + W = W * H := by rw [Int.sub_mul, Int.one_mul, Int.mul_comm H W]; omega
  have a4 : (H - 1) * W ≤ 15 * 16 := Int.mul_le_mul (by omega) (by omega) (by omega) (by omega)
  unfold plc
  omega
theorem set_any (W H : Int) (T : ByteArray) (n x y : Int) (w : World) (hk : okT W H T) :
    Calls Try.prog 39 #[.agg #[.int .i64 W, .int .i64 H, .string T], .int .i64 n, .int .i64 x, .int .i64 y] w fun e w' => e = .returned (.bool (decide (thr T W H x y < n))) ∧ RowKit.Below w.heap.size w w' := by
  obtain ⟨hW, hH, hs, _⟩ := hk
  obtain ⟨⟨p1, p2⟩, p3, p4⟩ := plc_bd x y hW hH
  have hat := fun w => str_at T (plc W H x y) w p3 (by omega)
  have hmx := fun w => mod_any x W w hW.1 hW.2
  have hmy := fun w => mod_any y H w hH.1 hH.2
  have hS : T.size ≤ 256 := by
    have : W * H ≤ 16 * 16 := Int.mul_le_mul (by omega) (by omega) (by omega) (by omega)
    omega
  unfold thr
  obtain ⟨v, hv⟩ : ∃ v, oct T (plc W H x y).toNat = v := ⟨_, rfl⟩
  have hv2 := oct_bd T (plc W H x y).toNat
  rw [hv] at hat hv2 ⊢
  obtain ⟨v1, v2⟩ := hv2
  obtain ⟨s1, s2⟩ : 0 ≤ x % W ∧ x % W < W := ⟨Int.emod_nonneg x (by omega), Int.emod_lt_of_pos x (by omega)⟩
  unfold plc at hat p3 p4
  generalize x % W = X at *
  generalize y % H = Y at *
  obtain ⟨W1, W2⟩ := hW
  obtain ⟨H1, H2⟩ := hH
  have p5 : Y * W + X < T.size := by omega
  clear hv hs p4
  have Hx := Lib.hid hmx
  have Hy := Lib.hid hmy
  clear hmx hmy
  go_enter Try.func39, Try.ntmps39
  go_wp2_with fail
  obtain ⟨wy, hwy⟩ : ∃ wy, wy = w.alloc (.cells #[.int .i64 W, .int .i64 H, .string T] 26 (0, 0)) := ⟨_, rfl⟩
  have hp : wy.heap[w.heap.size]? = some (.cells #[.int .i64 W, .int .i64 H, .string T] 26 (0, 0)) := by rw [hwy]; exact rw_new rfl
  have hb : RowKit.Below w.heap.size w wy := by rw [hwy]; exact Below.alloc (Below.refl _ _) (Nat.le_refl _) _
  rw [← hwy]
  clear hwy
  obtain ⟨c0, c1, c2⟩ := cel3 hp
  have hl := rw_lt hp
  refine wp_region_ord (.s 0 .p (.s 1 .p (.s 2 .l (.s 3 .p (.s 4 .p (.s 5 .l (.s 7 .p (.s 8 .l (.s 10 .p (.s 11 .p (.s 12 .l (.s 6 .e (.s 9 .p (.s 13 .e (.s 14 .p (.s 15 .p (.s 16 .p (.s 17 .p (.s 18 .p .done))))))))))))))))))) (Held wy []) (by kernel_rfl) (by kernel_rfl) (fun _ _ _ _ _ h => h) (Held.refl _ _) ?_
  (apply wpOrd_p2 rfl rfl rfl rfl rfl; (intro w' K hK; (first | go_big_move | go_big_op | go_wp2_with fail); exact hK))
  (apply wpOrd_p2 rfl rfl rfl rfl rfl; (intro w' K hK; (first | go_big_move | go_big_op | go_wp2_with fail); exact hK))
  (apply wpOrd_l2 rfl rfl rfl rfl rfl; (intro w' K hS' hK; (have hr' := hS'.cell; simp at hr'; (first | go_big_op | go_wp2_with fail); exact hK)); (first | assumption | exact Held.refl _ _ | exact Held.of_below (by repeat (first | with_reducible exact Below.refl _ _ | with_reducible assumption | ((with_reducible refine Below.alloc ?_ ?hb_ _); (case hb_ => first | omega | (simp; done) | (simp; omega))) | ((with_reducible refine Below.setCell ?_ ?hb_ _); (case hb_ => first | omega | (simp; done) | (simp; omega))) | with_reducible refine Below.drew ?_ | with_reducible refine below_drewN ?_ _))))
  (apply wpOrd_p2 rfl rfl rfl rfl rfl; (intro w' K hK; (first | go_big_move | go_big_op | go_wp2_with fail); exact hK))
  (apply wpOrd_p2 rfl rfl rfl rfl rfl; (intro w' K hK; (first | go_big_move | go_big_op | go_wp2_with fail); exact hK))
  (apply wpOrd_l2 rfl rfl rfl rfl rfl; (intro w' K hS' hK; (have hr' := hS'.cell; simp at hr'; (first | go_big_op | go_wp2_with fail); exact hK)); (first | assumption | exact Held.refl _ _ | exact Held.of_below (by repeat (first | with_reducible exact Below.refl _ _ | with_reducible assumption | ((with_reducible refine Below.alloc ?_ ?hb_ _); (case hb_ => first | omega | (simp; done) | (simp; omega))) | ((with_reducible refine Below.setCell ?_ ?hb_ _); (case hb_ => first | omega | (simp; done) | (simp; omega))) | with_reducible refine Below.drew ?_ | with_reducible refine below_drewN ?_ _))))
  (apply wpOrd_p2 rfl rfl rfl rfl rfl; (intro w' K hK; (first | go_big_move | go_big_op | go_wp2_with fail); exact hK))
  (apply wpOrd_l2 rfl rfl rfl rfl rfl; (intro w' K hS' hK; (have hr' := hS'.cell; simp at hr'; (first | go_big_op | go_wp2_with fail); exact hK)); (first | assumption | exact Held.refl _ _ | exact Held.of_below (by repeat (first | with_reducible exact Below.refl _ _ | with_reducible assumption | ((with_reducible refine Below.alloc ?_ ?hb_ _); (case hb_ => first | omega | (simp; done) | (simp; omega))) | ((with_reducible refine Below.setCell ?_ ?hb_ _); (case hb_ => first | omega | (simp; done) | (simp; omega))) | with_reducible refine Below.drew ?_ | with_reducible refine below_drewN ?_ _))))
  (apply wpOrd_p2 rfl rfl rfl rfl rfl; (intro w' K hK; (first | go_big_move | go_big_op | go_wp2_with fail); exact hK))
  (apply wpOrd_p2 rfl rfl rfl rfl rfl; (intro w' K hK; (first | go_big_move | go_big_op | go_wp2_with fail); exact hK))
  (apply wpOrd_l2 rfl rfl rfl rfl rfl; (intro w' K hS' hK; (have hr' := hS'.cell; simp at hr'; (first | go_big_op | go_wp2_with fail); exact hK)); (first | assumption | exact Held.refl _ _ | exact Held.of_below (by repeat (first | with_reducible exact Below.refl _ _ | with_reducible assumption | ((with_reducible refine Below.alloc ?_ ?hb_ _); (case hb_ => first | omega | (simp; done) | (simp; omega))) | ((with_reducible refine Below.setCell ?_ ?hb_ _); (case hb_ => first | omega | (simp; done) | (simp; omega))) | with_reducible refine Below.drew ?_ | with_reducible refine below_drewN ?_ _))))
  (refine wpOrd_e1 rfl rfl (fun K hK => ?_)); (first | go_big_op | go_wp2_with fail)
  refine (Hy.out _).mono ?_; rintro e w6 ⟨rfl, rfl⟩; refine hK _ _ (by repeat (first | with_reducible exact Held.refl _ _ | with_reducible assumption | with_reducible refine Held.drew ?_ | ((with_reducible refine Held.alloc ?_ ?hb_ _); (case hb_ => first | omega | (simp; done) | (simp; omega))) | ((with_reducible refine Held.setCell ?_ _ _ ?hb_); (case hb_ => (refine .inl ?_); first | omega | (simp; done) | (simp; omega))))) ?_; clear hK K
  (apply wpOrd_p2 rfl rfl rfl rfl rfl; (intro w' K hK; (first | go_big_move | go_big_op | go_wp2_with fail); exact hK))
  (refine wpOrd_e1 rfl rfl (fun K hK => ?_)); (first | go_big_op | go_wp2_with fail)
  refine (Hx.out _).mono ?_; rintro e w13 ⟨rfl, rfl⟩; refine hK _ _ (by repeat (first | with_reducible exact Held.refl _ _ | with_reducible assumption | with_reducible refine Held.drew ?_ | ((with_reducible refine Held.alloc ?_ ?hb_ _); (case hb_ => first | omega | (simp; done) | (simp; omega))) | ((with_reducible refine Held.setCell ?_ _ _ ?hb_); (case hb_ => (refine .inl ?_); first | omega | (simp; done) | (simp; omega))))) ?_; clear hK K
  (apply wpOrd_p2 rfl rfl rfl rfl rfl; (intro w' K hK; (first | go_big_move | go_big_op | go_wp2_with fail); exact hK))
  (apply wpOrd_p2 rfl rfl rfl rfl rfl; (intro w' K hK; (first | go_big_move | go_big_op | go_wp2_with fail); exact hK))
  (apply wpOrd_p2 rfl rfl rfl rfl rfl; (intro w' K hK; (first | go_big_move | go_big_op | go_wp2_with fail); exact hK))
  (apply wpOrd_p2 rfl rfl rfl rfl rfl; (intro w' K hK; (first | go_big_move | go_big_op | go_wp2_with fail); exact hK))
  (apply wpOrd_p2 rfl rfl rfl rfl rfl; (intro w' K hK; (first | go_big_move | go_big_op | go_wp2_with fail); exact hK))
  refine wpOrd_nil ?_
  skip
  go_wp2_with fail
  go_ret
  exact ⟨rfl, (by repeat (first | with_reducible exact Below.refl _ _ | with_reducible assumption | ((with_reducible refine Below.alloc ?_ ?hb_ _); (case hb_ => first | omega | (simp; done) | (simp; omega))) | ((with_reducible refine Below.setCell ?_ ?hb_ _); (case hb_ => first | omega | (simp; done) | (simp; omega))) | with_reducible refine Below.drew ?_ | with_reducible refine below_drewN ?_ _))⟩
theorem thresholds_any (W H : Int) (T : ByteArray) (w : World) :
    Calls Try.prog 38 #[.agg #[.int .i64 W, .int .i64 H, .string T]] w fun e w' => e = .returned (.func (.func 48) #[] #[.pointer (some ⟨w.heap.size, 0, none⟩)]) ∧ w'.heap[w.heap.size]? = some (.cells #[.int .i64 W, .int .i64 H, .string T] 26 (0, 0)) ∧ RowKit.Below w.heap.size w w' := by
  have hmf : ∀ (fn : Fn) (first cap : Array Value) (w : World), (Instr.makeFunc fn first cap).run Try.prog w = .ok (.func fn first cap) w := fun _ _ _ _ => rfl
  go_enter Try.func38, Try.ntmps38
  go_wp2_with fail
  go_ret
  exact ⟨rfl, rw_new rfl, (by repeat (first | with_reducible exact Below.refl _ _ | with_reducible assumption | ((with_reducible refine Below.alloc ?_ ?hb_ _); (case hb_ => first | omega | (simp; done) | (simp; omega))) | ((with_reducible refine Below.setCell ?_ ?hb_ _); (case hb_ => first | omega | (simp; done) | (simp; omega))) | with_reducible refine Below.drew ?_ | with_reducible refine below_drewN ?_ _))⟩
theorem clot_any (W H : Int) (T : ByteArray) (x y : Int) (b : Nat) (w : World) (hk : okT W H T) (hp : w.heap[b]? = some (.cells #[.int .i64 W, .int .i64 H, .string T] 26 (0, 0))) :
    Calls Try.prog 48 #[.int .i64 x, .int .i64 y, .pointer (some ⟨b, 0, none⟩)] w fun e w' => e = .returned (.int .i64 (thr T W H x y)) ∧ RowKit.Below w.heap.size w w' := by
  obtain ⟨hW, hH, hs, _⟩ := hk
  obtain ⟨⟨p1, p2⟩, p3, p4⟩ := plc_bd x y hW hH
  have hat := fun w => str_at T (plc W H x y) w p3 (by omega)
  have hS : T.size ≤ 256 := by
    have : W * H ≤ 16 * 16 := Int.mul_le_mul (by omega) (by omega) (by omega) (by omega)
    omega
  unfold thr
  obtain ⟨v, hv⟩ : ∃ v, oct T (plc W H x y).toNat = v := ⟨_, rfl⟩
  have hv2 := oct_bd T (plc W H x y).toNat
  rw [hv] at hat hv2 ⊢
  obtain ⟨v1, v2⟩ := hv2
  obtain ⟨s1, s2⟩ : 0 ≤ x % W ∧ x % W < W := ⟨Int.emod_nonneg x (by omega), Int.emod_lt_of_pos x (by omega)⟩
  obtain ⟨ex, e2, e3, _⟩ := mod_of (x := x) hW.1
  obtain ⟨ey, d2, d3, _⟩ := mod_of (x := y) hH.1
  unfold plc at hat p3 p4
  generalize x % W = X at *
  generalize y % H = Y at *
  obtain ⟨q, hq⟩ : ∃ q, x.tmod W = q := ⟨_, rfl⟩
  obtain ⟨r, hr⟩ : ∃ r, y.tmod H = r := ⟨_, rfl⟩
  rw [hq] at ex e2 e3
  rw [hr] at ey d2 d3
  obtain ⟨W1, W2⟩ := hW
  obtain ⟨H1, H2⟩ := hH
  have p5 : Y * W + X < T.size := by omega
  have hW0 : W ≠ 0 := by omega
  have hH0 : H ≠ 0 := by omega
  clear hv hs p4
  obtain ⟨c0, c1, c2⟩ := cel3 hp
  have hl := rw_lt hp
  go_enter Try.func48, Try.ntmps48
  go_wp2_with fail
  refine wp_region_ord (.s 0 .p (.s 1 .p (.s 2 .l (.s 3 .p (.s 4 .p (.s 5 .l (.s 6 .p (.s 7 .p (.s 8 .l (.s 9 .p (.s 10 .p (.s 11 .p (.s 12 .l (.s 13 .p (.s 14 .p (.s 15 .l (.s 16 .p (.s 17 .p (.s 18 .l (.s 19 .p (.s 20 .p (.s 21 .p .done)))))))))))))))))))))) (Held w []) (by kernel_rfl) (by kernel_rfl) (fun _ _ _ _ _ h => h) (Held.refl _ _) ?_
  (apply wpOrd_p2 rfl rfl rfl rfl rfl; (intro w' K hK; (first | go_big_move | go_big_op | go_wp2_with fail); exact hK))
  (apply wpOrd_p2 rfl rfl rfl rfl rfl; (intro w' K hK; (first | go_big_move | go_big_op | go_wp2_with fail); exact hK))
  (apply wpOrd_l2 rfl rfl rfl rfl rfl; (intro w' K hS' hK; (have hr' := hS'.cell; simp at hr'; (first | go_big_op | go_wp2_with fail); exact hK)); (first | assumption | exact Held.refl _ _ | exact Held.of_below (by repeat (first | with_reducible exact Below.refl _ _ | with_reducible assumption | ((with_reducible refine Below.alloc ?_ ?hb_ _); (case hb_ => first | omega | (simp; done) | (simp; omega))) | ((with_reducible refine Below.setCell ?_ ?hb_ _); (case hb_ => first | omega | (simp; done) | (simp; omega))) | with_reducible refine Below.drew ?_ | with_reducible refine below_drewN ?_ _))))
  (apply wpOrd_p2 rfl rfl rfl rfl rfl; (intro w' K hK; (first | go_big_move | go_big_op | go_wp2_with fail); exact hK))
  (apply wpOrd_p2 rfl rfl rfl rfl rfl; (intro w' K hK; (first | go_big_move | go_big_op | go_wp2_with fail); exact hK))
  (apply wpOrd_l2 rfl rfl rfl rfl rfl; (intro w' K hS' hK; (have hr' := hS'.cell; simp at hr'; (first | go_big_op | go_wp2_with fail); exact hK)); (first | assumption | exact Held.refl _ _ | exact Held.of_below (by repeat (first | with_reducible exact Below.refl _ _ | with_reducible assumption | ((with_reducible refine Below.alloc ?_ ?hb_ _); (case hb_ => first | omega | (simp; done) | (simp; omega))) | ((with_reducible refine Below.setCell ?_ ?hb_ _); (case hb_ => first | omega | (simp; done) | (simp; omega))) | with_reducible refine Below.drew ?_ | with_reducible refine below_drewN ?_ _))))
  (apply wpOrd_p2 rfl rfl rfl rfl rfl; (intro w' K hK; (first | go_big_move | go_big_op | go_wp2_with fail); exact hK))
  (apply wpOrd_p2 rfl rfl rfl rfl rfl; (intro w' K hK; (first | go_big_move | go_big_op | go_wp2_with fail); exact hK))
  (apply wpOrd_l2 rfl rfl rfl rfl rfl; (intro w' K hS' hK; (have hr' := hS'.cell; simp at hr'; (first | go_big_op | go_wp2_with fail); exact hK)); (first | assumption | exact Held.refl _ _ | exact Held.of_below (by repeat (first | with_reducible exact Below.refl _ _ | with_reducible assumption | ((with_reducible refine Below.alloc ?_ ?hb_ _); (case hb_ => first | omega | (simp; done) | (simp; omega))) | ((with_reducible refine Below.setCell ?_ ?hb_ _); (case hb_ => first | omega | (simp; done) | (simp; omega))) | with_reducible refine Below.drew ?_ | with_reducible refine below_drewN ?_ _))))
  (apply wpOrd_p2 rfl rfl rfl rfl rfl; (intro w' K hK; (first | go_big_move | go_big_op | go_wp2_with fail); exact hK))
  (apply wpOrd_p2 rfl rfl rfl rfl rfl; (intro w' K hK; (first | go_big_move | go_big_op | go_wp2_with fail); exact hK))
  (apply wpOrd_p2 rfl rfl rfl rfl rfl; (intro w' K hK; (first | go_big_move | go_big_op | go_wp2_with fail); exact hK))
  (apply wpOrd_l2 rfl rfl rfl rfl rfl; (intro w' K hS' hK; (have hr' := hS'.cell; simp at hr'; (first | go_big_op | go_wp2_with fail); exact hK)); (first | assumption | exact Held.refl _ _ | exact Held.of_below (by repeat (first | with_reducible exact Below.refl _ _ | with_reducible assumption | ((with_reducible refine Below.alloc ?_ ?hb_ _); (case hb_ => first | omega | (simp; done) | (simp; omega))) | ((with_reducible refine Below.setCell ?_ ?hb_ _); (case hb_ => first | omega | (simp; done) | (simp; omega))) | with_reducible refine Below.drew ?_ | with_reducible refine below_drewN ?_ _))))
  (apply wpOrd_p2 rfl rfl rfl rfl rfl; (intro w' K hK; (first | go_big_move | go_big_op | go_wp2_with fail); exact hK))
  (apply wpOrd_p2 rfl rfl rfl rfl rfl; (intro w' K hK; (first | go_big_move | go_big_op | go_wp2_with fail); exact hK))
  (apply wpOrd_l2 rfl rfl rfl rfl rfl; (intro w' K hS' hK; (have hr' := hS'.cell; simp at hr'; (first | go_big_op | go_wp2_with fail); exact hK)); (first | assumption | exact Held.refl _ _ | exact Held.of_below (by repeat (first | with_reducible exact Below.refl _ _ | with_reducible assumption | ((with_reducible refine Below.alloc ?_ ?hb_ _); (case hb_ => first | omega | (simp; done) | (simp; omega))) | ((with_reducible refine Below.setCell ?_ ?hb_ _); (case hb_ => first | omega | (simp; done) | (simp; omega))) | with_reducible refine Below.drew ?_ | with_reducible refine below_drewN ?_ _))))
  (apply wpOrd_p2 rfl rfl rfl rfl rfl; (intro w' K hK; (first | go_big_move | go_big_op | go_wp2_with fail); exact hK))
  (apply wpOrd_p2 rfl rfl rfl rfl rfl; (intro w' K hK; (first | go_big_move | go_big_op | go_wp2_with fail); exact hK))
  (apply wpOrd_l2 rfl rfl rfl rfl rfl; (intro w' K hS' hK; (have hr' := hS'.cell; simp at hr'; (first | go_big_op | go_wp2_with fail); exact hK)); (first | assumption | exact Held.refl _ _ | exact Held.of_below (by repeat (first | with_reducible exact Below.refl _ _ | with_reducible assumption | ((with_reducible refine Below.alloc ?_ ?hb_ _); (case hb_ => first | omega | (simp; done) | (simp; omega))) | ((with_reducible refine Below.setCell ?_ ?hb_ _); (case hb_ => first | omega | (simp; done) | (simp; omega))) | with_reducible refine Below.drew ?_ | with_reducible refine below_drewN ?_ _))))
  (apply wpOrd_p2 rfl rfl rfl rfl rfl; (intro w' K hK; (first | go_big_move | go_big_op | go_wp2_with fail); exact hK))
  (apply wpOrd_p2 rfl rfl rfl rfl rfl; (intro w' K hK; (first | go_big_move | go_big_op | go_wp2_with fail); exact hK))
  (apply wpOrd_p2 rfl rfl rfl rfl rfl; (intro w' K hK; (first | go_big_move | go_big_op | go_wp2_with fail); exact hK))
  refine wpOrd_nil ?_
  skip
  go_wp2_with fail
  go_ret
  exact ⟨rfl, (by repeat (first | with_reducible exact Below.refl _ _ | with_reducible assumption | ((with_reducible refine Below.alloc ?_ ?hb_ _); (case hb_ => first | omega | (simp; done) | (simp; omega))) | ((with_reducible refine Below.setCell ?_ ?hb_ _); (case hb_ => first | omega | (simp; done) | (simp; omega))) | with_reducible refine Below.drew ?_ | with_reducible refine below_drewN ?_ _))⟩
/-- the answer of Bit -/
def bitV (W H : Int) (T : ByteArray) (n x y : Int) : Bool := if okT W H T ∧ 0 ≤ n ∧ n ≤ 255 then decide (thr T W H x y < n) else false
def bitE (W H : Int) (T : ByteArray) (n : Int) : Int := if okT W H T then if 0 ≤ n ∧ n ≤ 255 then 0 else 2 else 370
theorem rbit_any (W H : Int) (T : ByteArray) (n x y : Int) (w : World) (hS : T.size ≤ 9223372036854775807) :
    Calls Try.prog 17 #[.agg #[.int .i64 W, .int .i64 H, .string T], .int .i64 n, .int .i64 x, .int .i64 y] w fun e w' => e = .returned (.tuple #[.bool (bitV W H T n x y), .int .i64 (bitE W H T n)]) ∧ RowKit.Below w.heap.size w w' := by
  unfold bitV bitE
  have hr := fun w => right_any W H T w hS
  by_cases g : okT W H T
  · have hset := fun w => set_any W H T n x y w g
    rw [decide_eq_true g] at hr
    simp only [g, true_and, if_true]
    have Hset := Lib.hid hset
    clear hset g
    obtain ⟨v, hv⟩ : ∃ v, thr T W H x y = v := ⟨_, rfl⟩
    rw [hv] at Hset ⊢
    clear hv
    by_cases g0 : n < 0
    · rw [if_neg (by omega), if_neg (by omega)]
      go_enter Try.func17, Try.ntmps17
      go_wp2_with fail
      refine (hr _).mono ?_
      rintro e w1 ⟨rfl, hb⟩
      have hs_w1 := hb.size
      (try simp at hs_w1)
      have hB_w1 : Below w.heap.size w w1 := below_then (w := w) (by with_reducible repeat (first | exact Below.refl _ _ | assumption | ((first | refine Below.alloc ?_ ?b_ _ | refine bw_set ?_ ?b_ | refine Below.setCell ?_ ?b_ _); case b_ => first | omega | (simp; done) | (simp; omega)) | refine Below.drew ?_ | refine below_drewN ?_ _)) (by first | omega | (simp; done) | (simp; omega) | (have hq_ := hb.size; omega)) hb
      clear hb
      go_wp2_with fail
      exact bodyPost_ret (v := .tuple #[.bool false, .int .i64 2]) (by simp [results, Try.results17, go_sem]) rfl ⟨rfl, (by with_reducible repeat (first | exact Below.refl _ _ | assumption | ((first | refine Below.alloc ?_ ?b_ _ | refine bw_set ?_ ?b_ | refine Below.setCell ?_ ?b_ _); case b_ => first | omega | (simp; done) | (simp; omega)) | refine Below.drew ?_ | refine below_drewN ?_ _))⟩
    · by_cases g1 : 255 < n
      · rw [if_neg (by omega), if_neg (by omega)]
        go_enter Try.func17, Try.ntmps17
        go_wp2_with fail
        refine (hr _).mono ?_
        rintro e w1 ⟨rfl, hb⟩
        have hs_w1 := hb.size
        (try simp at hs_w1)
        have hB_w1 : Below w.heap.size w w1 := below_then (w := w) (by with_reducible repeat (first | exact Below.refl _ _ | assumption | ((first | refine Below.alloc ?_ ?b_ _ | refine bw_set ?_ ?b_ | refine Below.setCell ?_ ?b_ _); case b_ => first | omega | (simp; done) | (simp; omega)) | refine Below.drew ?_ | refine below_drewN ?_ _)) (by first | omega | (simp; done) | (simp; omega) | (have hq_ := hb.size; omega)) hb
        clear hb
        go_wp2_with fail
        exact bodyPost_ret (v := .tuple #[.bool false, .int .i64 2]) (by simp [results, Try.results17, go_sem]) rfl ⟨rfl, (by with_reducible repeat (first | exact Below.refl _ _ | assumption | ((first | refine Below.alloc ?_ ?b_ _ | refine bw_set ?_ ?b_ | refine Below.setCell ?_ ?b_ _); case b_ => first | omega | (simp; done) | (simp; omega)) | refine Below.drew ?_ | refine below_drewN ?_ _))⟩
      · rw [if_pos (by omega), if_pos (by omega)]
        go_enter Try.func17, Try.ntmps17
        go_wp2_with fail
        refine (hr _).mono ?_
        rintro e w1 ⟨rfl, hb⟩
        have hs_w1 := hb.size
        (try simp at hs_w1)
        have hB_w1 : Below w.heap.size w w1 := below_then (w := w) (by with_reducible repeat (first | exact Below.refl _ _ | assumption | ((first | refine Below.alloc ?_ ?b_ _ | refine bw_set ?_ ?b_ | refine Below.setCell ?_ ?b_ _); case b_ => first | omega | (simp; done) | (simp; omega)) | refine Below.drew ?_ | refine below_drewN ?_ _)) (by first | omega | (simp; done) | (simp; omega) | (have hq_ := hb.size; omega)) hb
        have hx_ := rw_below (k := w.heap.size) hb (by with_reducible repeat (first | assumption | (refine rw_new ?e_; case e_ => first | rfl | (simp; done) | (simp; omega)) | apply rw_self | (apply rw_other; case hn => first | omega | (simp; omega)) | apply rw_alloc | apply rw_drew | apply rw_drewN))
        (try clear hp)
        have hp := hx_
        clear hx_
        clear hb
        go_wp2_with ((with_reducible refine rw_list ?_); (first | ((with_reducible apply wpList_load_cell); (case ho => with_reducible rfl); (case hgd => with_reducible rfl); (case hx => rfl); (case hu => first | exact Try.underlying26); (case hd => rfl)) | ((with_reducible apply wpList_load_row); (case ho => with_reducible rfl); (case hgd => with_reducible rfl); (case hx => rfl); (case hu => first | exact Try.underlying26); (case hd => rfl)) | ((with_reducible apply wpList_store_row); (case ho => with_reducible rfl); (case hgd => with_reducible rfl); (case hx => rfl); (case hy => rfl)) | ((with_reducible apply wpList_store_cell); (case ho => with_reducible rfl); (case hgd => with_reducible rfl); (case hx => rfl); (case hy => first | exact ev_const | exact ev_tmp rfl); (case h1 => rfl))); (case hg => exact (by with_reducible repeat (first | assumption | (refine rw_new ?e_; case e_ => first | rfl | (simp; done) | (simp; omega)) | apply rw_self | (apply rw_other; case hn => first | omega | (simp; omega)) | apply rw_alloc | apply rw_drew | apply rw_drewN))); (try case hv => rfl); (try case hi => kernel_rfl); (try case hold => rfl); (try case h1 => kernel_rfl); (try case hlt => rfl); (try case hcs => ((try simp only [List.setIfInBounds_toArray, List.set_cons_succ, List.set_cons_zero]); rfl)))
        refine (Hset.out _).mono ?_
        rintro e w2 ⟨rfl, hb⟩
        have hs_w2 := hb.size
        (try simp at hs_w2)
        have hB_w2 : Below w.heap.size w w2 := below_then (w := w) (by with_reducible repeat (first | exact Below.refl _ _ | assumption | ((first | refine Below.alloc ?_ ?b_ _ | refine bw_set ?_ ?b_ | refine Below.setCell ?_ ?b_ _); case b_ => first | omega | (simp; done) | (simp; omega)) | refine Below.drew ?_ | refine below_drewN ?_ _)) (by first | omega | (simp; done) | (simp; omega) | (have hq_ := hb.size; omega)) hb
        clear hb
        go_wp2_with fail
        exact bodyPost_ret (v := .tuple #[.bool (decide (v < n)), .int .i64 0]) (by simp [results, Try.results17, go_sem]) rfl ⟨rfl, (by with_reducible repeat (first | exact Below.refl _ _ | assumption | ((first | refine Below.alloc ?_ ?b_ _ | refine bw_set ?_ ?b_ | refine Below.setCell ?_ ?b_ _); case b_ => first | omega | (simp; done) | (simp; omega)) | refine Below.drew ?_ | refine below_drewN ?_ _))⟩
  · simp only [g, false_and, if_false]
    rw [decide_eq_false g] at hr
    clear g
    go_enter Try.func17, Try.ntmps17
    go_wp2_with fail
    refine (hr _).mono ?_
    rintro e w1 ⟨rfl, hb⟩
    have hs_w1 := hb.size
    (try simp at hs_w1)
    have hB_w1 : Below w.heap.size w w1 := below_then (w := w) (by with_reducible repeat (first | exact Below.refl _ _ | assumption | ((first | refine Below.alloc ?_ ?b_ _ | refine bw_set ?_ ?b_ | refine Below.setCell ?_ ?b_ _); case b_ => first | omega | (simp; done) | (simp; omega)) | refine Below.drew ?_ | refine below_drewN ?_ _)) (by first | omega | (simp; done) | (simp; omega) | (have hq_ := hb.size; omega)) hb
    clear hb
    go_wp2_with fail
    exact bodyPost_ret (v := .tuple #[.bool false, .int .i64 370]) (by simp [results, Try.results17, go_sem]) rfl ⟨rfl, (by with_reducible repeat (first | exact Below.refl _ _ | assumption | ((first | refine Below.alloc ?_ ?b_ _ | refine bw_set ?_ ?b_ | refine Below.setCell ?_ ?b_ _); case b_ => first | omega | (simp; done) | (simp; omega)) | refine Below.drew ?_ | refine below_drewN ?_ _))⟩
theorem mbit_any (W H : Int) (T : ByteArray) (n x y : Int) (w : World) (hS : T.size ≤ 9223372036854775807) :
    Calls Try.prog 16 #[.agg #[.int .i64 W, .int .i64 H, .string T], .int .i64 n, .int .i64 x, .int .i64 y] w fun e w' => e = .returned (.tuple #[.bool (bitV W H T n x y), .int .i64 (bitE W H T n)]) ∧ RowKit.Below w.heap.size w w' := by
  unfold bitV bitE
  have hr := fun w => tcheck_any W H T w hS
  have hcf : ∀ (args : Array Value) (w : World), (callFunc 48 args).run Try.prog w = .ok (.enter 48 args) w := fun _ _ => by rfl
  by_cases g : okT W H T
  · have hset := fun b w => clot_any W H T x y b w g
    rw [okT_yes _ _ _ g] at hr
    simp only [g, true_and, if_true]
    have Hset := Lib.hid hset
    clear hset g
    obtain ⟨v, hv⟩ : ∃ v, thr T W H x y = v := ⟨_, rfl⟩
    rw [hv] at Hset ⊢
    clear hv
    by_cases g0 : n < 0
    · rw [if_neg (by omega), if_neg (by omega)]
      go_enter Try.func16, Try.ntmps16
      go_wp2_with fail
      refine (hr _).mono ?_
      rintro e w1 ⟨rfl, hb⟩
      have hs_w1 := hb.size
      (try simp at hs_w1)
      have hB_w1 : Below w.heap.size w w1 := below_then (w := w) (by with_reducible repeat (first | exact Below.refl _ _ | assumption | ((first | refine Below.alloc ?_ ?b_ _ | refine bw_set ?_ ?b_ | refine Below.setCell ?_ ?b_ _); case b_ => first | omega | (simp; done) | (simp; omega)) | refine Below.drew ?_ | refine below_drewN ?_ _)) (by first | omega | (simp; done) | (simp; omega) | (have hq_ := hb.size; omega)) hb
      clear hb
      go_wp2_with fail
      exact bodyPost_ret (v := .tuple #[.bool false, .int .i64 2]) (by simp [results, Try.results16, go_sem]) rfl ⟨rfl, (by with_reducible repeat (first | exact Below.refl _ _ | assumption | ((first | refine Below.alloc ?_ ?b_ _ | refine bw_set ?_ ?b_ | refine Below.setCell ?_ ?b_ _); case b_ => first | omega | (simp; done) | (simp; omega)) | refine Below.drew ?_ | refine below_drewN ?_ _))⟩
    · by_cases g1 : 255 < n
      · rw [if_neg (by omega), if_neg (by omega)]
        go_enter Try.func16, Try.ntmps16
        go_wp2_with fail
        refine (hr _).mono ?_
        rintro e w1 ⟨rfl, hb⟩
        have hs_w1 := hb.size
        (try simp at hs_w1)
        have hB_w1 : Below w.heap.size w w1 := below_then (w := w) (by with_reducible repeat (first | exact Below.refl _ _ | assumption | ((first | refine Below.alloc ?_ ?b_ _ | refine bw_set ?_ ?b_ | refine Below.setCell ?_ ?b_ _); case b_ => first | omega | (simp; done) | (simp; omega)) | refine Below.drew ?_ | refine below_drewN ?_ _)) (by first | omega | (simp; done) | (simp; omega) | (have hq_ := hb.size; omega)) hb
        clear hb
        go_wp2_with fail
        exact bodyPost_ret (v := .tuple #[.bool false, .int .i64 2]) (by simp [results, Try.results16, go_sem]) rfl ⟨rfl, (by with_reducible repeat (first | exact Below.refl _ _ | assumption | ((first | refine Below.alloc ?_ ?b_ _ | refine bw_set ?_ ?b_ | refine Below.setCell ?_ ?b_ _); case b_ => first | omega | (simp; done) | (simp; omega)) | refine Below.drew ?_ | refine below_drewN ?_ _))⟩
      · rw [if_pos (by omega), if_pos (by omega)]
        go_enter Try.func16, Try.ntmps16
        go_wp2_with fail
        refine (hr _).mono ?_
        rintro e w1 ⟨rfl, hb⟩
        have hs_w1 := hb.size
        (try simp at hs_w1)
        have hB_w1 : Below w.heap.size w w1 := below_then (w := w) (by with_reducible repeat (first | exact Below.refl _ _ | assumption | ((first | refine Below.alloc ?_ ?b_ _ | refine bw_set ?_ ?b_ | refine Below.setCell ?_ ?b_ _); case b_ => first | omega | (simp; done) | (simp; omega)) | refine Below.drew ?_ | refine below_drewN ?_ _)) (by first | omega | (simp; done) | (simp; omega) | (have hq_ := hb.size; omega)) hb
        have hx_ := rw_below (k := w.heap.size) hb (by with_reducible repeat (first | assumption | (refine rw_new ?e_; case e_ => first | rfl | (simp; done) | (simp; omega)) | apply rw_self | (apply rw_other; case hn => first | omega | (simp; omega)) | apply rw_alloc | apply rw_drew | apply rw_drewN))
        (try clear hp)
        have hp := hx_
        clear hx_
        clear hb
        go_wp2_with ((with_reducible refine rw_list ?_); (first | ((with_reducible apply wpList_load_cell); (case ho => with_reducible rfl); (case hgd => with_reducible rfl); (case hx => rfl); (case hu => first | exact Try.underlying26); (case hd => rfl)) | ((with_reducible apply wpList_load_row); (case ho => with_reducible rfl); (case hgd => with_reducible rfl); (case hx => rfl); (case hu => first | exact Try.underlying26); (case hd => rfl)) | ((with_reducible apply wpList_store_row); (case ho => with_reducible rfl); (case hgd => with_reducible rfl); (case hx => rfl); (case hy => rfl)) | ((with_reducible apply wpList_store_cell); (case ho => with_reducible rfl); (case hgd => with_reducible rfl); (case hx => rfl); (case hy => first | exact ev_const | exact ev_tmp rfl); (case h1 => rfl))); (case hg => exact (by with_reducible repeat (first | assumption | (refine rw_new ?e_; case e_ => first | rfl | (simp; done) | (simp; omega)) | apply rw_self | (apply rw_other; case hn => first | omega | (simp; omega)) | apply rw_alloc | apply rw_drew | apply rw_drewN))); (try case hv => rfl); (try case hi => kernel_rfl); (try case hold => rfl); (try case h1 => kernel_rfl); (try case hlt => rfl); (try case hcs => ((try simp only [List.setIfInBounds_toArray, List.set_cons_succ, List.set_cons_zero]); rfl)))
        refine (thresholds_any _ _ _ _).mono ?_
        rintro e w2 ⟨rfl, hq, hB1⟩
        have hb := hB1
        clear hB1
        have hs_w2 := hb.size
        (try simp at hs_w2)
        have hB_w2 : Below w.heap.size w w2 := below_then (w := w) (by with_reducible repeat (first | exact Below.refl _ _ | assumption | ((first | refine Below.alloc ?_ ?b_ _ | refine bw_set ?_ ?b_ | refine Below.setCell ?_ ?b_ _); case b_ => first | omega | (simp; done) | (simp; omega)) | refine Below.drew ?_ | refine below_drewN ?_ _)) (by first | omega | (simp; done) | (simp; omega) | (have hq_ := hb.size; omega)) hb
        clear hb
        go_wp2_with fail
        refine (Hset.out _ _ hq).mono ?_
        rintro e w3 ⟨rfl, hb⟩
        have hs_w3 := hb.size
        (try simp at hs_w3)
        have hB_w3 : Below w.heap.size w w3 := below_then (w := w) (by with_reducible repeat (first | exact Below.refl _ _ | assumption | ((first | refine Below.alloc ?_ ?b_ _ | refine bw_set ?_ ?b_ | refine Below.setCell ?_ ?b_ _); case b_ => first | omega | (simp; done) | (simp; omega)) | refine Below.drew ?_ | refine below_drewN ?_ _)) (by first | omega | (simp; done) | (simp; omega) | (have hq_ := hb.size; omega)) hb
        clear hb
        go_wp2_with fail
        exact bodyPost_ret (v := .tuple #[.bool (decide (v < n)), .int .i64 0]) (by simp [results, Try.results16, go_sem]) rfl ⟨rfl, (by with_reducible repeat (first | exact Below.refl _ _ | assumption | ((first | refine Below.alloc ?_ ?b_ _ | refine bw_set ?_ ?b_ | refine Below.setCell ?_ ?b_ _); case b_ => first | omega | (simp; done) | (simp; omega)) | refine Below.drew ?_ | refine below_drewN ?_ _))⟩
  · simp only [g, false_and, if_false]
    rw [okT_no _ _ _ g] at hr
    clear g
    go_enter Try.func16, Try.ntmps16
    go_wp2_with fail
    refine (hr _).mono ?_
    rintro e w1 ⟨rfl, hb⟩
    have hs_w1 := hb.size
    (try simp at hs_w1)
    have hB_w1 : Below w.heap.size w w1 := below_then (w := w) (by with_reducible repeat (first | exact Below.refl _ _ | assumption | ((first | refine Below.alloc ?_ ?b_ _ | refine bw_set ?_ ?b_ | refine Below.setCell ?_ ?b_ _); case b_ => first | omega | (simp; done) | (simp; omega)) | refine Below.drew ?_ | refine below_drewN ?_ _)) (by first | omega | (simp; done) | (simp; omega) | (have hq_ := hb.size; omega)) hb
    clear hb
    go_wp2_with fail
    exact bodyPost_ret (v := .tuple #[.bool false, .int .i64 370]) (by simp [results, Try.results16, go_sem]) rfl ⟨rfl, (by with_reducible repeat (first | exact Below.refl _ _ | assumption | ((first | refine Below.alloc ?_ ?b_ _ | refine bw_set ?_ ?b_ | refine Below.setCell ?_ ?b_ _); case b_ => first | omega | (simp; done) | (simp; omega)) | refine Below.drew ?_ | refine below_drewN ?_ _))⟩
end Go.Proofs.Ytdkkjlapmaageaa.T3
