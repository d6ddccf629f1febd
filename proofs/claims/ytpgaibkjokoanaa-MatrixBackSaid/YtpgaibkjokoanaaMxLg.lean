/- MatrixBack: the walk. -/
import Derived.Test.YtpgaibkjokoanaaMxZ
import Derived.WalkKit
import Derived.Lib.Hide
import Derived.Deep.QuietTactic
import Derived.BigQuiet
import Derived.Lib.QuietBelow
import Derived.Deep.RegionHeld3
import Derived.WalkLawsBesides
import Derived.WalkSpells
import Derived.Outline
import Derived.Deep.DeepFit
import Derived.Maps.AppendAt
import Derived.Deep.AppendLies
import Derived.Deep.CutRange
import Derived.OpenShut
import Derived.Maps.RangeWalk
import Derived.Test.YtpgaibkjokoanaaGrow2
namespace Go.Proofs.Ytpgaibkjokoanaa.T3
set_option linter.unusedSimpArgs false
set_option linter.unusedVariables false
open Go.RowKit
set_option maxHeartbeats 40000000
set_option maxRecDepth 100000
theorem cell_as (w : World) (x : Obj) (cs : Array Value) (b o : Nat) (h : b < w.heap.size) : ((w.alloc x).setRow w.heap.size cs).cell? ⟨b, o, none⟩ = w.cell? ⟨b, o, none⟩ := by
  rw [cell_setRow_other _ _ _ _ (by simp; omega)]
  exact World.cell?_alloc_lt _ _ _ h
theorem cell_as_new (w : World) (old : Array Value) (t : TypeId) (cs : Array Value) (o : Nat) : ((w.alloc (.cells old t)).setRow w.heap.size cs).cell? ⟨w.heap.size, o, none⟩ = cs[o]? :=
  cell_setRow_same _ _ _ old cs t (0, 0) (heap_alloc_new w _)
theorem back_ask {A B C D E F X Y u v n o d : Int} (h : mOk A B C D E F) (hX : -8192 ≤ X ∧ X ≤ 8192) (hY : -8192 ≤ Y ∧ Y ≤ 8192) (hu : 4096 * X - E = u) (hv : 4096 * Y - F = v) (hn : D * u - C * v = n) (ho : A * v - B * u = o) (hd : A * D - B * C = d) :
    (d = 0 ∧ (∀ w : World, Calls Try.prog 24 #[.agg #[.int .i64 A, .int .i64 B, .int .i64 C, .int .i64 D, .int .i64 E, .int .i64 F], .agg #[.int .i64 X, .int .i64 Y]] w fun e w' => e = .returned (.tuple #[.int .i64 0, .int .i64 0, .int .i64 25]) ∧ Below w.heap.size w w')) ∨ (d ≠ 0 ∧ (∀ w : World, Calls Try.prog 24 #[.agg #[.int .i64 A, .int .i64 B, .int .i64 C, .int .i64 D, .int .i64 E, .int .i64 F], .agg #[.int .i64 X, .int .i64 Y]] w fun e w' => e = .returned (.tuple #[.int .i64 0, .int .i64 0, .int .i64 26]) ∧ Below w.heap.size w w')) ∨ (d ≠ 0 ∧ ∃ x y : Int, (∀ w : World, Calls Try.prog 24 #[.agg #[.int .i64 A, .int .i64 B, .int .i64 C, .int .i64 D, .int .i64 E, .int .i64 F], .agg #[.int .i64 X, .int .i64 Y]] w fun e w' => e = .returned (.tuple #[.int .i64 x, .int .i64 y, .int .i64 0]) ∧ Below w.heap.size w w') ∧ (-2147483648 ≤ x ∧ x ≤ 2147483648) ∧ (-2147483648 ≤ y ∧ y ≤ 2147483648) ∧ ((2 * x - 1) * (sgn d d) ≤ 2 * (65536 * (sgn d n)) ∧ 2 * (65536 * (sgn d n)) < (2 * x + 1) * (sgn d d)) ∧ ((2 * y - 1) * (sgn d d) ≤ 2 * (65536 * (sgn d o)) ∧ 2 * (65536 * (sgn d o)) < (2 * y + 1) * (sgn d d))) := by
  have hp : withinB 8192 [X, Y] = true := by simp [withinB]; omega
  have hc := fun w => mbk_any A B C D E F X Y w
  have eu : X * 4096 - E = u := by omega
  have ev : Y * 4096 - F = v := by omega
  by_cases h0 : d = 0
  · have e := bk_zero h hp (hd.trans h0)
    simp only [bkX, bkY, e.1, e.2, zif_f] at hc
    exact .inl ⟨h0, hc⟩
  · have h0' : ¬ A * D - B * C = 0 := by rw [hd]; exact h0
    by_cases hq : bkAll A B C D E F X Y = true
    · have e := bk_yes h hp h0' hq
      simp only [bkX, bkY, e.1, e.2, zif_t, eu, ev, hn, ho, hd] at hc
      unfold bkAll at hq
      rw [eu, ev, hn, ho, hd] at hq
      simp only [Bool.and_eq_true] at hq
      obtain ⟨q1, q2, q3⟩ := hq
      have hs : 0 < sgn d d := by unfold sgn; split <;> omega
      have k1 := qtV_near hs q1
      have k2 := qtV_near hs q2
      have b : (-2147483648 ≤ qaV n d ∧ qaV n d ≤ 2147483648) ∧ (-2147483648 ≤ qaV o d ∧ qaV o d ≤ 2147483648) := by simpa [withinB] using q3
      exact .inr (.inr ⟨h0, _, _, hc, b.1, b.2, k1, k2⟩)
    · have e := bk_no h hp h0' (by simpa using hq)
      simp only [bkX, bkY, e.1, e.2, zif_f] at hc
      exact .inr (.inl ⟨h0, hc⟩)
theorem r16_one (x : Int) : r16 (x * 65536) = x := by unfold r16; omega
theorem r16_zero : r16 0 = 0 := by decide
theorem inv_ask {a a' b b' E F : Int} (ha : a * a' = 4294967296) (hb : b * b' = 4294967296) (a0 : 0 < a) (b0 : 0 < b) :
    (∃ v0 v1 v2 v3 v4 v5 er : Int, er ≠ 0 ∧ (∀ w : World, Calls Try.prog 17 #[.agg #[.int .i64 a, .int .i64 0, .int .i64 0, .int .i64 b, .int .i64 (E * 65536), .int .i64 (F * 65536)]] w fun e w' => e = .returned (.tuple #[.agg #[.int .i64 v0, .int .i64 v1, .int .i64 v2, .int .i64 v3, .int .i64 v4, .int .i64 v5], .int .i64 er]) ∧ Below w.heap.size w w')) ∨ ((∀ w : World, Calls Try.prog 17 #[.agg #[.int .i64 a, .int .i64 0, .int .i64 0, .int .i64 b, .int .i64 (E * 65536), .int .i64 (F * 65536)]] w fun e w' => e = .returned (.tuple #[.agg #[.int .i64 a', .int .i64 0, .int .i64 0, .int .i64 b', .int .i64 (-(E * a')), .int .i64 (-(F * b'))], .int .i64 0]) ∧ Below w.heap.size w w') ∧ (∀ w : World, Calls Try.prog 23 #[.agg #[.int .i64 a, .int .i64 0, .int .i64 0, .int .i64 b, .int .i64 (E * 65536), .int .i64 (F * 65536)], .agg #[.int .i64 a', .int .i64 0, .int .i64 0, .int .i64 b', .int .i64 (-(E * a')), .int .i64 (-(F * b'))]] w fun e w' => e = .returned (.tuple #[.agg #[.int .i64 65536, .int .i64 0, .int .i64 0, .int .i64 65536, .int .i64 0, .int .i64 0], .int .i64 0]) ∧ Below w.heap.size w w')) := by
  have hc := fun w => minv_any a 0 0 b (E * 65536) (F * 65536) w
  by_cases he : ivE a 0 0 b (E * 65536) (F * 65536) = 0
  · refine .inr ?_
    have hm : mOkB a 0 0 b (E * 65536) (F * 65536) = true := by
      by_cases hm : mOkB a 0 0 b (E * 65536) (F * 65536) = true
      · exact hm
      · rw [ivE, if_neg hm] at he; omega
    have hmo : mOk a 0 0 b (E * 65536) (F * 65536) := of_decide_eq_true hm
    have hd : a * b - 0 * 0 = a * b := by omega
    have hd0 : 0 < a * b := Int.mul_pos a0 b0
    have hdz : ¬ a * b - 0 * 0 = 0 := by omega
    have hall : ivAll a 0 0 b (E * 65536) (F * 65536) = true := by
      by_cases hq : ivAll a 0 0 b (E * 65536) (F * 65536) = true
      · exact hq
      · rw [(iv_no hmo hdz (by simpa using hq)).2] at he; omega
    have hy := iv_yes hmo hdz hall
    have hok : ivOk a 0 0 b (E * 65536) (F * 65536) = true := by
      rw [hy.2] at he
      unfold lmE at he
      split at he
      · assumption
      · omega
    simp only [hy.1, hy.2, hok, zif_t, show lmE true = 0 from rfl] at hc
    unfold ivAll at hall
    unfold ivOk at hok
    simp only [Bool.and_eq_true] at hall
    obtain ⟨t0, t1, t2, t3, t4, t5⟩ := hall
    have key : ∀ n x : Int, qaB n (a * b - 0 * 0) = true → 65536 * n = x * (a * b) → qaV n (a * b - 0 * 0) = x := by
      intro n x h1 h2
      rw [hd] at h1 ⊢
      unfold qaB sgn at h1
      unfold qaV sgn
      rw [if_neg (by omega), if_neg (by omega)] at h1 ⊢
      exact qtV_exact hd0 h1 h2
    have e0 := key _ a' t0 (by rw [show a' * (a * b) = (a * a') * b by grind, ha]; omega)
    have e1 := key _ 0 t1 (by omega)
    have e2 := key _ 0 t2 (by omega)
    have e3 := key _ b' t3 (by rw [show b' * (a * b) = (b * b') * a by grind, hb]; omega)
    have e4 := key _ (-(E * a')) t4 (by rw [show -(E * a') * (a * b) = -((a * a') * (E * b)) by grind, ha]; grind)
    have e5 := key _ (-(F * b')) t5 (by rw [show -(F * b') * (a * b) = -((b * b') * (F * a)) by grind, hb]; grind)
    simp only [e0, e1, e2, e3, e4, e5] at hc hok
    refine ⟨hc, fun w => ?_⟩
    have hto : mOk a' 0 0 b' (-(E * a')) (-(F * b')) := of_decide_eq_true hok
    have hu : mOkB 65536 0 0 65536 0 0 = true := by decide
    have c := ccB_t hmo hto
    have m := mcc_any a 0 0 b (E * 65536) (F * 65536) a' 0 0 b' (-(E * a')) (-(F * b')) w
    have f0 : r16 (a * a' + 0 * 0) = 65536 := by rw [ha]; decide
    have f1 : r16 (a * 0 + 0 * b') = 0 := by simp [r16_zero]
    have f2 : r16 (0 * a' + b * 0) = 0 := by simp [r16_zero]
    have f3 : r16 (0 * 0 + b * b') = 65536 := by rw [hb]; decide
    have f4 : r16 (E * 65536 * a' + F * 65536 * 0) + -(E * a') = 0 := by
      rw [show E * 65536 * a' + F * 65536 * 0 = (E * a') * 65536 by grind, r16_one]; omega
    have f5 : r16 (E * 65536 * 0 + F * 65536 * b') + -(F * b') = 0 := by
      rw [show E * 65536 * 0 + F * 65536 * b' = (F * b') * 65536 by grind, r16_one]; omega
    rw [f0, f1, f2, f3, f4, f5, hu] at c
    rw [c.1, c.2, f0, f1, f2, f3, f4, f5] at m
    exact m
  · exact .inl ⟨_, _, _, _, _, _, _, he, hc⟩
theorem pow_ask (p : Int) (h1 : 0 ≤ p) (h2 : p ≤ 255) : ∃ a a' : Int, wrap64 (2 ^ (12 + p % 9).toNat) = a ∧ a * a' = 4294967296 ∧ 0 < a := by
  have h4 : p % 9 = 0 ∨ p % 9 = 1 ∨ p % 9 = 2 ∨ p % 9 = 3 ∨ p % 9 = 4 ∨ p % 9 = 5 ∨ p % 9 = 6 ∨ p % 9 = 7 ∨ p % 9 = 8 := by omega
  rcases h4 with e | e | e | e | e | e | e | e | e
  · exact ⟨4096, 1048576, by rw [e]; kernel_rfl, by decide, by decide⟩
  · exact ⟨8192, 524288, by rw [e]; kernel_rfl, by decide, by decide⟩
  · exact ⟨16384, 262144, by rw [e]; kernel_rfl, by decide, by decide⟩
  · exact ⟨32768, 131072, by rw [e]; kernel_rfl, by decide, by decide⟩
  · exact ⟨65536, 65536, by rw [e]; kernel_rfl, by decide, by decide⟩
  · exact ⟨131072, 32768, by rw [e]; kernel_rfl, by decide, by decide⟩
  · exact ⟨262144, 16384, by rw [e]; kernel_rfl, by decide, by decide⟩
  · exact ⟨524288, 8192, by rw [e]; kernel_rfl, by decide, by decide⟩
  · exact ⟨1048576, 4096, by rw [e]; kernel_rfl, by decide, by decide⟩
theorem back_walk (A B C D E F X0 Y0 p0 p1 : Int) (w : World) (s_A : (Lit.int .i16 A).wf = true) (s_B : (Lit.int .i16 B).wf = true) (s_C : (Lit.int .i16 C).wf = true) (s_D : (Lit.int .i16 D).wf = true) (s_E : (Lit.int .i16 E).wf = true) (s_F : (Lit.int .i16 F).wf = true) (s_X0 : (Lit.int .i64 X0).wf = true) (s_Y0 : (Lit.int .i64 Y0).wf = true) (s_p0 : (Lit.int .u8 p0).wf = true) (s_p1 : (Lit.int .u8 p1).wf = true) :
    Calls Try.prog 6 #[.int .i16 A, .int .i16 B, .int .i16 C, .int .i16 D, .int .i16 E, .int .i16 F, .agg #[.int .i64 X0, .int .i64 Y0], .agg #[.int .u8 p0, .int .u8 p1]] w fun e w' => e = .returned (.bool true) ∧ Below w.heap.size w w' := by
  obtain ⟨A1, A2⟩ := bounds_i16 s_A
  obtain ⟨B1, B2⟩ := bounds_i16 s_B
  obtain ⟨C1, C2⟩ := bounds_i16 s_C
  obtain ⟨D1, D2⟩ := bounds_i16 s_D
  obtain ⟨E1, E2⟩ := bounds_i16 s_E
  obtain ⟨F1, F2⟩ := bounds_i16 s_F
  have h : mOk A B C D E F := by unfold mOk; omega
  obtain ⟨X1, X2⟩ : -8192 ≤ X0.tmod 8193 ∧ X0.tmod 8193 ≤ 8192 := by
    have p1 := Int.lt_tmod_of_pos X0 (show (0 : Int) < 8193 by omega)
    have p2 := Int.tmod_lt_of_pos X0 (show (0 : Int) < 8193 by omega)
    omega
  obtain ⟨Y1, Y2⟩ : -8192 ≤ Y0.tmod 8193 ∧ Y0.tmod 8193 ≤ 8192 := by
    have p1 := Int.lt_tmod_of_pos Y0 (show (0 : Int) < 8193 by omega)
    have p2 := Int.tmod_lt_of_pos Y0 (show (0 : Int) < 8193 by omega)
    omega
  obtain ⟨X, hX⟩ : ∃ X, X0.tmod 8193 = X := ⟨_, rfl⟩
  obtain ⟨Y, hY⟩ : ∃ Y, Y0.tmod 8193 = Y := ⟨_, rfl⟩
  rw [hX] at X1 X2
  rw [hY] at Y1 Y2
  obtain ⟨u, hu⟩ : ∃ u, 4096 * X - E = u := ⟨_, rfl⟩
  obtain ⟨v, hv⟩ : ∃ v, 4096 * Y - F = v := ⟨_, rfl⟩
  obtain ⟨n, hn⟩ : ∃ n, D * u - C * v = n := ⟨_, rfl⟩
  obtain ⟨o, ho⟩ : ∃ o, A * v - B * u = o := ⟨_, rfl⟩
  obtain ⟨d, hd⟩ : ∃ d, A * D - B * C = d := ⟨_, rfl⟩
  have hask := back_ask h ⟨X1, X2⟩ ⟨Y1, Y2⟩ hu hv hn ho hd
  have u1 : -33587200 ≤ u := by omega
  have u2 : u ≤ 33587200 := by omega
  have v1 : -33587200 ≤ v := by omega
  have v2 : v ≤ 33587200 := by omega
  obtain ⟨z1, z2⟩ := bounds_u8 s_p0
  obtain ⟨z3, z4⟩ := bounds_u8 s_p1
  obtain ⟨a, a', hsh0, ha, a0⟩ := pow_ask p0 z1 z2
  obtain ⟨b, b', hsh1, hb, b0⟩ := pow_ask p1 z3 z4
  have ha := Lib.hid ha
  have hb := Lib.hid hb
  have hsh0 := Lib.hid hsh0
  have hsh1 := Lib.hid hsh1
  obtain ⟨p0_, r0_⟩ := mul_bd (X := 32768) (by omega) (by omega : A ≤ 32768) (Y := 32768) (by omega) (by omega : D ≤ 32768)
  obtain ⟨p1_, r1_⟩ := mul_bd (X := 32768) (by omega) (by omega : B ≤ 32768) (Y := 32768) (by omega) (by omega : C ≤ 32768)
  obtain ⟨p2_, r2_⟩ := mul_bd (X := 32768) (by omega) (by omega : D ≤ 32768) (Y := 33587200) (by omega) (by omega : u ≤ 33587200)
  obtain ⟨p3_, r3_⟩ := mul_bd (X := 32768) (by omega) (by omega : C ≤ 32768) (Y := 33587200) (by omega) (by omega : v ≤ 33587200)
  obtain ⟨p4_, r4_⟩ := mul_bd (X := 32768) (by omega) (by omega : A ≤ 32768) (Y := 33587200) (by omega) (by omega : v ≤ 33587200)
  obtain ⟨p5_, r5_⟩ := mul_bd (X := 32768) (by omega) (by omega : B ≤ 32768) (Y := 33587200) (by omega) (by omega : u ≤ 33587200)
  simp only [Int.reduceMul, Int.reduceNeg] at p0_ r0_ p1_ r1_ p2_ r2_ p3_ r3_ p4_ r4_ p5_ r5_
  have d1 : -2147483648 ≤ d := by omega
  have d2 : d ≤ 2147483648 := by omega
  have n1 : -1125899906842624 ≤ n := by omega
  have n2 : n ≤ 1125899906842624 := by omega
  have o1 : -1125899906842624 ≤ o := by omega
  have o2 : o ≤ 1125899906842624 := by omega
  go_enter Try.func6, Try.ntmps6
  go_wp2_with ((with_reducible refine rw_list ?_); (first | ((with_reducible apply wpList_load_cell); (case ho => with_reducible rfl); (case hgd => with_reducible rfl); (case hx => rfl); (case hu => first | exact Try.underlying25 | exact Try.underlying28 | exact Try.underlying53 | exact Try.underlying3 | exact Try.underlying5); (case hd => rfl)) | ((with_reducible apply wpList_load_row); (case ho => with_reducible rfl); (case hgd => with_reducible rfl); (case hx => rfl); (case hu => first | exact Try.underlying25 | exact Try.underlying28 | exact Try.underlying53 | exact Try.underlying3 | exact Try.underlying5); (case hd => rfl)) | ((with_reducible apply wpList_store_row); (case ho => with_reducible rfl); (case hgd => with_reducible rfl); (case hx => rfl); (case hy => rfl)) | ((with_reducible apply wpList_store_cell); (case ho => with_reducible rfl); (case hgd => with_reducible rfl); (case hx => rfl); (case hy => first | exact ev_const | exact ev_tmp rfl); (case h1 => rfl))); (case hg => exact (by with_reducible repeat (first | assumption | (refine rw_new ?e_; case e_ => first | rfl | (simp; done) | (simp; omega)) | apply rw_self | (apply rw_other; case hn => first | omega | (simp; omega)) | apply rw_alloc | apply rw_drew | apply rw_drewN))); (try case hv => rfl); (try case hi => kernel_rfl); (try case hold => rfl); (try case h1 => kernel_rfl); (try case hlt => rfl); (try case hcs => ((try simp only [List.setIfInBounds_toArray, List.set_cons_succ, List.set_cons_zero]); rfl)))
  refine (works_any _).mono ?_
  rintro e w1 ⟨rfl, hb⟩
  have hs_w1 := hb.size
  (try simp at hs_w1)
  have hB_w1 : Below w.heap.size w w1 := below_then (w := w) (by with_reducible repeat (first | exact Below.refl _ _ | assumption | ((first | refine Below.alloc ?_ ?b_ _ | refine bw_set ?_ ?b_ | refine Below.setCell ?_ ?b_ _); case b_ => first | omega | (simp; done) | (simp; omega)) | refine Below.drew ?_ | refine below_drewN ?_ _)) (by first | omega | (simp; done) | (simp; omega) | (have hq_ := hb.size; omega)) hb
  have hx_ := rw_below (k := w.heap.size) hb (by with_reducible repeat (first | assumption | (refine rw_new ?e_; case e_ => first | rfl | (simp; done) | (simp; omega)) | apply rw_self | (apply rw_other; case hn => first | omega | (simp; omega)) | apply rw_alloc | apply rw_drew | apply rw_drewN))
  (try clear hp)
  have hp := hx_
  clear hx_
  have hx_ := rw_below (k := w.heap.size + 1) hb (by with_reducible repeat (first | assumption | (refine rw_new ?e_; case e_ => first | rfl | (simp; done) | (simp; omega)) | apply rw_self | (apply rw_other; case hn => first | omega | (simp; omega)) | apply rw_alloc | apply rw_drew | apply rw_drewN))
  (try clear hq)
  have hq := hx_
  clear hx_
  clear hb
  go_wp2_with ((with_reducible refine rw_list ?_); (first | ((with_reducible apply wpList_load_cell); (case ho => with_reducible rfl); (case hgd => with_reducible rfl); (case hx => rfl); (case hu => first | exact Try.underlying25 | exact Try.underlying28 | exact Try.underlying53 | exact Try.underlying3 | exact Try.underlying5); (case hd => rfl)) | ((with_reducible apply wpList_load_row); (case ho => with_reducible rfl); (case hgd => with_reducible rfl); (case hx => rfl); (case hu => first | exact Try.underlying25 | exact Try.underlying28 | exact Try.underlying53 | exact Try.underlying3 | exact Try.underlying5); (case hd => rfl)) | ((with_reducible apply wpList_store_row); (case ho => with_reducible rfl); (case hgd => with_reducible rfl); (case hx => rfl); (case hy => rfl)) | ((with_reducible apply wpList_store_cell); (case ho => with_reducible rfl); (case hgd => with_reducible rfl); (case hx => rfl); (case hy => first | exact ev_const | exact ev_tmp rfl); (case h1 => rfl))); (case hg => exact (by with_reducible repeat (first | assumption | (refine rw_new ?e_; case e_ => first | rfl | (simp; done) | (simp; omega)) | apply rw_self | (apply rw_other; case hn => first | omega | (simp; omega)) | apply rw_alloc | apply rw_drew | apply rw_drewN))); (try case hv => rfl); (try case hi => kernel_rfl); (try case hold => rfl); (try case h1 => kernel_rfl); (try case hlt => rfl); (try case hcs => ((try simp only [List.setIfInBounds_toArray, List.set_cons_succ, List.set_cons_zero]); rfl)))
  rcases hask with ⟨h0, hbk⟩ | ⟨h0, hbk⟩ | ⟨h0, x, y, hbk, xb, yb, nx, ny⟩
  · skip
    subst h0
    refine (hbk _).mono ?_
    rintro e w2 ⟨rfl, hb⟩
    have hs_w2 := hb.size
    (try simp at hs_w2)
    have hB_w2 : Below w.heap.size w w2 := below_then (w := w) (by with_reducible repeat (first | exact Below.refl _ _ | assumption | ((first | refine Below.alloc ?_ ?b_ _ | refine bw_set ?_ ?b_ | refine Below.setCell ?_ ?b_ _); case b_ => first | omega | (simp; done) | (simp; omega)) | refine Below.drew ?_ | refine below_drewN ?_ _)) (by first | omega | (simp; done) | (simp; omega) | (have hq_ := hb.size; omega)) hb
    clear hb
    go_wp2_with ((with_reducible refine rw_list ?_); (first | ((with_reducible apply wpList_load_cell); (case ho => with_reducible rfl); (case hgd => with_reducible rfl); (case hx => rfl); (case hu => first | exact Try.underlying25 | exact Try.underlying28 | exact Try.underlying53 | exact Try.underlying3 | exact Try.underlying5); (case hd => rfl)) | ((with_reducible apply wpList_load_row); (case ho => with_reducible rfl); (case hgd => with_reducible rfl); (case hx => rfl); (case hu => first | exact Try.underlying25 | exact Try.underlying28 | exact Try.underlying53 | exact Try.underlying3 | exact Try.underlying5); (case hd => rfl)) | ((with_reducible apply wpList_store_row); (case ho => with_reducible rfl); (case hgd => with_reducible rfl); (case hx => rfl); (case hy => rfl)) | ((with_reducible apply wpList_store_cell); (case ho => with_reducible rfl); (case hgd => with_reducible rfl); (case hx => rfl); (case hy => first | exact ev_const | exact ev_tmp rfl); (case h1 => rfl))); (case hg => exact (by with_reducible repeat (first | assumption | (refine rw_new ?e_; case e_ => first | rfl | (simp; done) | (simp; omega)) | apply rw_self | (apply rw_other; case hn => first | omega | (simp; omega)) | apply rw_alloc | apply rw_drew | apply rw_drewN))); (try case hv => rfl); (try case hi => kernel_rfl); (try case hold => rfl); (try case h1 => kernel_rfl); (try case hlt => rfl); (try case hcs => ((try simp only [List.setIfInBounds_toArray, List.set_cons_succ, List.set_cons_zero]); rfl)))
    go_ret
    exact ⟨rfl, (by with_reducible repeat (first | exact Below.refl _ _ | assumption | ((first | refine Below.alloc ?_ ?b_ _ | refine bw_set ?_ ?b_ | refine Below.setCell ?_ ?b_ _); case b_ => first | omega | (simp; done) | (simp; omega)) | refine Below.drew ?_ | refine below_drewN ?_ _))⟩
  · skip
    refine (hbk _).mono ?_
    rintro e w2 ⟨rfl, hb⟩
    have hs_w2 := hb.size
    (try simp at hs_w2)
    have hB_w2 : Below w.heap.size w w2 := below_then (w := w) (by with_reducible repeat (first | exact Below.refl _ _ | assumption | ((first | refine Below.alloc ?_ ?b_ _ | refine bw_set ?_ ?b_ | refine Below.setCell ?_ ?b_ _); case b_ => first | omega | (simp; done) | (simp; omega)) | refine Below.drew ?_ | refine below_drewN ?_ _)) (by first | omega | (simp; done) | (simp; omega) | (have hq_ := hb.size; omega)) hb
    have hx_ := rw_below (k := w.heap.size + 1) hb (by with_reducible repeat (first | assumption | (refine rw_new ?e_; case e_ => first | rfl | (simp; done) | (simp; omega)) | apply rw_self | (apply rw_other; case hn => first | omega | (simp; omega)) | apply rw_alloc | apply rw_drew | apply rw_drewN))
    (try clear hq)
    have hq := hx_
    clear hx_
    have hx_ := rw_below (k := w1.heap.size) hb (by with_reducible repeat (first | assumption | (refine rw_new ?e_; case e_ => first | rfl | (simp; done) | (simp; omega)) | apply rw_self | (apply rw_other; case hn => first | omega | (simp; omega)) | apply rw_alloc | apply rw_drew | apply rw_drewN))
    (try clear hm)
    have hm := hx_
    clear hx_
    have hx_ := rw_below (k := w1.heap.size + 1) hb (by with_reducible repeat (first | assumption | (refine rw_new ?e_; case e_ => first | rfl | (simp; done) | (simp; omega)) | apply rw_self | (apply rw_other; case hn => first | omega | (simp; omega)) | apply rw_alloc | apply rw_drew | apply rw_drewN))
    (try clear hx)
    have hx := hx_
    clear hx_
    clear hb
    go_wp2_with ((with_reducible refine rw_list ?_); (first | ((with_reducible apply wpList_load_cell); (case ho => with_reducible rfl); (case hgd => with_reducible rfl); (case hx => rfl); (case hu => first | exact Try.underlying25 | exact Try.underlying28 | exact Try.underlying53 | exact Try.underlying3 | exact Try.underlying5); (case hd => rfl)) | ((with_reducible apply wpList_load_row); (case ho => with_reducible rfl); (case hgd => with_reducible rfl); (case hx => rfl); (case hu => first | exact Try.underlying25 | exact Try.underlying28 | exact Try.underlying53 | exact Try.underlying3 | exact Try.underlying5); (case hd => rfl)) | ((with_reducible apply wpList_store_row); (case ho => with_reducible rfl); (case hgd => with_reducible rfl); (case hx => rfl); (case hy => rfl)) | ((with_reducible apply wpList_store_cell); (case ho => with_reducible rfl); (case hgd => with_reducible rfl); (case hx => rfl); (case hy => first | exact ev_const | exact ev_tmp rfl); (case h1 => rfl))); (case hg => exact (by with_reducible repeat (first | assumption | (refine rw_new ?e_; case e_ => first | rfl | (simp; done) | (simp; omega)) | apply rw_self | (apply rw_other; case hn => first | omega | (simp; omega)) | apply rw_alloc | apply rw_drew | apply rw_drewN))); (try case hv => rfl); (try case hi => kernel_rfl); (try case hold => rfl); (try case h1 => kernel_rfl); (try case hlt => rfl); (try case hcs => ((try simp only [List.setIfInBounds_toArray, List.set_cons_succ, List.set_cons_zero]); rfl)))
    refine wp_region_grow [(0, none), (1, none), (2, none), (3, none), (4, none), (5, none), (6, none), (7, none), (8, none), (9, none), (10, none), (11, none), (12, none), (13, none)] .done ?g1_ ?g2_ ?g3_ ?_
    case g1_ => kernel_rfl
    case g2_ => kernel_rfl
    case g3_ => exact fun _ _ _ _ _ h => h
    (apply wpG_p rfl rfl rfl rfl rfl; (intro w' K hK; (first | go_big_op | go_wp2_with fail); exact hK))
    (apply wpG_l rfl rfl rfl rfl rfl; (intro w' K hC hK; (refine wp_load_cell 3 _ rfl (w1.heap.size + 1) 0 rfl _ _ _ _ _ (rw_below hC.1 hx) Try.underlying3 rfl rfl ?_); change K (Act.put _ (some 77) _) _; simp only [Act.put, List.setIfInBounds_toArray, List.set_cons_succ, List.set_cons_zero]; exact hK); (case he => first | rfl | (simp [Act.put, *]; done)))
    (apply wpG_p rfl rfl rfl rfl rfl; (intro w' K hK; (first | go_big_op | go_wp2_with fail); exact hK))
    (apply wpG_p rfl rfl rfl rfl rfl; (intro w' K hK; (first | go_big_op | go_wp2_with fail); exact hK))
    (apply wpG_l rfl rfl rfl rfl rfl; (intro w' K hC hK; (refine wp_load_cell 3 _ rfl (w1.heap.size) 4 rfl _ _ _ _ _ (rw_below hC.1 hm) Try.underlying3 rfl rfl ?_); change K (Act.put _ (some 80) _) _; simp only [Act.put, List.setIfInBounds_toArray, List.set_cons_succ, List.set_cons_zero]; exact hK); (case he => first | rfl | (simp [Act.put, *]; done)))
    (apply wpG_p rfl rfl rfl rfl rfl; (intro w' K hK; (first | go_big_op | go_wp2_with fail); exact hK))
    (apply wpG_p rfl rfl rfl rfl rfl; (intro w' K hK; (first | go_big_op | go_wp2_with fail); exact hK))
    (apply wpG_l rfl rfl rfl rfl rfl; (intro w' K hC hK; (refine wp_load_cell 3 _ rfl (w1.heap.size + 1) 1 rfl _ _ _ _ _ (rw_below hC.1 hx) Try.underlying3 rfl rfl ?_); change K (Act.put _ (some 83) _) _; simp only [Act.put, List.setIfInBounds_toArray, List.set_cons_succ, List.set_cons_zero]; exact hK); (case he => first | rfl | (simp [Act.put, *]; done)))
    (apply wpG_p rfl rfl rfl rfl rfl; (intro w' K hK; (first | go_big_op | go_wp2_with fail); exact hK))
    (apply wpG_p rfl rfl rfl rfl rfl; (intro w' K hK; (first | go_big_op | go_wp2_with fail); exact hK))
    (apply wpG_l rfl rfl rfl rfl rfl; (intro w' K hC hK; (refine wp_load_cell 3 _ rfl (w1.heap.size) 5 rfl _ _ _ _ _ (rw_below hC.1 hm) Try.underlying3 rfl rfl ?_); change K (Act.put _ (some 86) _) _; simp only [Act.put, List.setIfInBounds_toArray, List.set_cons_succ, List.set_cons_zero]; exact hK); (case he => first | rfl | (simp [Act.put, *]; done)))
    (apply wpG_p rfl rfl rfl rfl rfl; (intro w' K hK; (first | go_big_op | go_wp2_with fail); exact hK))
    (apply wpG_p rfl rfl rfl rfl rfl; (intro w' K hK; (first | go_big_op | go_wp2_with fail); exact hK))
    (apply wpG_p rfl rfl rfl rfl rfl; (intro w' K hK; (first | go_big_op | go_wp2_with fail); exact hK))
    refine wpG_nil (fun w3 hB1 hG hD => ?_)
    clear hG
    (try clear hD)
    refine wpOrd_nil ?_
    have hb := hB1
    clear hB1
    have hs_w3 := hb.size
    (try simp at hs_w3)
    have hB_w3 : Below w.heap.size w w3 := below_then (w := w) (by with_reducible repeat (first | exact Below.refl _ _ | assumption | ((first | refine Below.alloc ?_ ?b_ _ | refine bw_set ?_ ?b_ | refine Below.setCell ?_ ?b_ _); case b_ => first | omega | (simp; done) | (simp; omega)) | refine Below.drew ?_ | refine below_drewN ?_ _)) (by first | omega | (simp; done) | (simp; omega) | (have hq_ := hb.size; omega)) hb
    have hx_ := rw_below (k := w.heap.size + 1) hb (by with_reducible repeat (first | assumption | (refine rw_new ?e_; case e_ => first | rfl | (simp; done) | (simp; omega)) | apply rw_self | (apply rw_other; case hn => first | omega | (simp; omega)) | apply rw_alloc | apply rw_drew | apply rw_drewN))
    (try clear hq)
    have hq := hx_
    clear hx_
    have hx_ := rw_below (k := w1.heap.size) hb (by with_reducible repeat (first | assumption | (refine rw_new ?e_; case e_ => first | rfl | (simp; done) | (simp; omega)) | apply rw_self | (apply rw_other; case hn => first | omega | (simp; omega)) | apply rw_alloc | apply rw_drew | apply rw_drewN))
    (try clear hm)
    have hm := hx_
    clear hx_
    have hx_ := rw_below (k := w1.heap.size + 1) hb (by with_reducible repeat (first | assumption | (refine rw_new ?e_; case e_ => first | rfl | (simp; done) | (simp; omega)) | apply rw_self | (apply rw_other; case hn => first | omega | (simp; omega)) | apply rw_alloc | apply rw_drew | apply rw_drewN))
    (try clear hx)
    have hx := hx_
    clear hx_
    clear hb
    go_wp2_with fail
    refine wp_region_grow [(0, none), (1, none), (2, none), (3, none), (4, none), (5, none), (6, none), (7, none), (8, none), (9, none), (10, none), (11, none), (12, none), (13, none), (14, none), (15, none), (16, none), (17, none), (18, none), (19, none)] .done ?g1_ ?g2_ ?g3_ ?_
    case g1_ => kernel_rfl
    case g2_ => kernel_rfl
    case g3_ => exact fun _ _ _ _ _ h => h
    (apply wpG_p rfl rfl rfl rfl rfl; (intro w' K hK; (first | go_big_op | go_wp2_with fail); exact hK))
    (apply wpG_l rfl rfl rfl rfl rfl; (intro w' K hC hK; (refine wp_load_cell 3 _ rfl (w1.heap.size) 3 rfl _ _ _ _ _ (rw_below hC.1 hm) Try.underlying3 rfl rfl ?_); change K (Act.put _ (some 89) _) _; simp only [Act.put, List.setIfInBounds_toArray, List.set_cons_succ, List.set_cons_zero]; exact hK); (case he => first | rfl | (simp [Act.put, *]; done)))
    (apply wpG_p rfl rfl rfl rfl rfl; (intro w' K hK; (first | go_big_op | go_wp2_with fail); exact hK))
    (apply wpG_p rfl rfl rfl rfl rfl; (intro w' K hK; (first | go_big_op | go_wp2_with fail); exact hK))
    (apply wpG_p rfl rfl rfl rfl rfl; (intro w' K hK; (first | go_big_op | go_wp2_with fail); exact hK))
    (apply wpG_l rfl rfl rfl rfl rfl; (intro w' K hC hK; (refine wp_load_cell 3 _ rfl (w1.heap.size) 2 rfl _ _ _ _ _ (rw_below hC.1 hm) Try.underlying3 rfl rfl ?_); change K (Act.put _ (some 93) _) _; simp only [Act.put, List.setIfInBounds_toArray, List.set_cons_succ, List.set_cons_zero]; exact hK); (case he => first | rfl | (simp [Act.put, *]; done)))
    (apply wpG_p rfl rfl rfl rfl rfl; (intro w' K hK; (first | go_big_op | go_wp2_with fail); exact hK))
    (apply wpG_p rfl rfl rfl rfl rfl; (intro w' K hK; (first | go_big_op | go_wp2_with fail); exact hK))
    (apply wpG_p rfl rfl rfl rfl rfl; (intro w' K hK; (first | go_big_op | go_wp2_with fail); exact hK))
    (apply wpG_p rfl rfl rfl rfl rfl; (intro w' K hK; (first | go_big_op | go_wp2_with fail); exact hK))
    (apply wpG_l rfl rfl rfl rfl rfl; (intro w' K hC hK; (refine wp_load_cell 3 _ rfl (w1.heap.size) 0 rfl _ _ _ _ _ (rw_below hC.1 hm) Try.underlying3 rfl rfl ?_); change K (Act.put _ (some 98) _) _; simp only [Act.put, List.setIfInBounds_toArray, List.set_cons_succ, List.set_cons_zero]; exact hK); (case he => first | rfl | (simp [Act.put, *]; done)))
    (apply wpG_p rfl rfl rfl rfl rfl; (intro w' K hK; (first | go_big_op | go_wp2_with fail); exact hK))
    (apply wpG_p rfl rfl rfl rfl rfl; (intro w' K hK; (first | go_big_op | go_wp2_with fail); exact hK))
    (apply wpG_p rfl rfl rfl rfl rfl; (intro w' K hK; (first | go_big_op | go_wp2_with fail); exact hK))
    (apply wpG_l rfl rfl rfl rfl rfl; (intro w' K hC hK; (refine wp_load_cell 3 _ rfl (w1.heap.size) 1 rfl _ _ _ _ _ (rw_below hC.1 hm) Try.underlying3 rfl rfl ?_); change K (Act.put _ (some 102) _) _; simp only [Act.put, List.setIfInBounds_toArray, List.set_cons_succ, List.set_cons_zero]; exact hK); (case he => first | rfl | (simp [Act.put, *]; done)))
    (apply wpG_p rfl rfl rfl rfl rfl; (intro w' K hK; (first | go_big_op | go_wp2_with fail); exact hK))
    (apply wpG_p rfl rfl rfl rfl rfl; (intro w' K hK; (first | go_big_op | go_wp2_with fail); exact hK))
    (apply wpG_p rfl rfl rfl rfl rfl; (intro w' K hK; (first | go_big_op | go_wp2_with fail); exact hK))
    (apply wpG_p rfl rfl rfl rfl rfl; (intro w' K hK; (first | go_big_op | go_wp2_with fail); exact hK))
    (apply wpG_p rfl rfl rfl rfl rfl; (intro w' K hK; (first | go_big_op | go_wp2_with fail); exact hK))
    refine wpG_nil (fun w4 hB1 hG hD => ?_)
    clear hG
    (try clear hD)
    refine wpOrd_nil ?_
    have hb := hB1
    clear hB1
    have hs_w4 := hb.size
    (try simp at hs_w4)
    have hB_w4 : Below w.heap.size w w4 := below_then (w := w) (by with_reducible repeat (first | exact Below.refl _ _ | assumption | ((first | refine Below.alloc ?_ ?b_ _ | refine bw_set ?_ ?b_ | refine Below.setCell ?_ ?b_ _); case b_ => first | omega | (simp; done) | (simp; omega)) | refine Below.drew ?_ | refine below_drewN ?_ _)) (by first | omega | (simp; done) | (simp; omega) | (have hq_ := hb.size; omega)) hb
    have hx_ := rw_below (k := w.heap.size + 1) hb (by with_reducible repeat (first | assumption | (refine rw_new ?e_; case e_ => first | rfl | (simp; done) | (simp; omega)) | apply rw_self | (apply rw_other; case hn => first | omega | (simp; omega)) | apply rw_alloc | apply rw_drew | apply rw_drewN))
    (try clear hq)
    have hq := hx_
    clear hx_
    clear hb
    by_cases hneg : d < 0
    · skip
      go_upto_region 18 with fail
      obtain ⟨hqc0, hqc1⟩ := cel2 hq
      have hqn : w.heap.size + 1 < w4.heap.size := rw_lt hq
      go_wp2_with fail
      (try rw [hsh0.out])
      (try rw [hsh1.out])
      clear hqc0 hqc1 hsh0 hsh1
      rcases inv_ask (E := E) (F := F) ha.out hb.out a0 b0 with ⟨v0, v1, v2, v3, v4, v5, er, her, hI⟩ | ⟨hI, hC⟩
      · skip
        have hne : (er != 0) = true := by simpa using her
        obtain ⟨c0, c1, c2, c3, c4, c5, c6, hC, _⟩ := cc_both a 0 0 b (E * 65536) (F * 65536) v0 v1 v2 v3 v4 v5
        refine (hI _).mono ?_
        rintro e w7 ⟨rfl, hb⟩
        have hs_w7 := hb.size
        (try simp at hs_w7)
        have hB_w7 : Below w.heap.size w w7 := below_then (w := w) (by with_reducible repeat (first | exact Below.refl _ _ | assumption | ((first | refine Below.alloc ?_ ?b_ _ | refine bw_set ?_ ?b_ | refine Below.setCell ?_ ?b_ _); case b_ => first | omega | (simp; done) | (simp; omega)) | refine Below.drew ?_ | refine below_drewN ?_ _)) (by first | omega | (simp; done) | (simp; omega) | (have hq_ := hb.size; omega)) hb
        have hx_ := rw_below (k := w4.heap.size) hb (by with_reducible repeat (first | assumption | (refine rw_new ?e_; case e_ => first | rfl | (simp; done) | (simp; omega)) | apply rw_self | (apply rw_other; case hn => first | omega | (simp; omega)) | apply rw_alloc | apply rw_drew | apply rw_drewN))
        (try clear hs)
        (try clear hsc0 hsc1 hsc2 hsc3 hsc4 hsc5)
        have hs := hx_
        clear hx_
        obtain ⟨hsc0, hsc1, hsc2, hsc3, hsc4, hsc5⟩ := cel6 hs
        clear hb
        have hls := rw_lt hs
        go_wp2_with fail
        refine (hC _).mono ?_
        rintro e w8 ⟨rfl, hb⟩
        have hs_w8 := hb.size
        (try simp at hs_w8)
        have hB_w8 : Below w.heap.size w w8 := below_then (w := w) (by with_reducible repeat (first | exact Below.refl _ _ | assumption | ((first | refine Below.alloc ?_ ?b_ _ | refine bw_set ?_ ?b_ | refine Below.setCell ?_ ?b_ _); case b_ => first | omega | (simp; done) | (simp; omega)) | refine Below.drew ?_ | refine below_drewN ?_ _)) (by first | omega | (simp; done) | (simp; omega) | (have hq_ := hb.size; omega)) hb
        clear hb
        go_wp2_with fail
        (try go_frame)
        refine wp_region_grow [(0, none), (1, none), (2, none), (3, none), (4, none), (5, none), (6, none), (7, none), (8, none), (9, none), (10, none), (11, none)] .done ?g1_ ?g2_ ?g3_ ?_
        case g1_ => kernel_rfl
        case g2_ => kernel_rfl
        case g3_ => exact fun _ _ _ _ _ h => h
        (apply wpG_p rfl rfl rfl rfl rfl; (intro w' K hK; (first | go_big_op | go_wp2_with fail); exact hK))
        (apply wpG_p rfl rfl rfl rfl rfl; (intro w' K hK; (first | go_big_op | go_wp2_with fail); exact hK))
        (apply wpG_p rfl rfl rfl rfl rfl; (intro w' K hK; (first | go_big_op | go_wp2_with fail); exact hK))
        refine wpG_skip rfl rfl rfl ?_
        refine wpG_skip rfl rfl rfl ?_
        refine wpG_skip rfl rfl rfl ?_
        refine wpG_skip rfl rfl rfl ?_
        refine wpG_skip rfl rfl rfl ?_
        refine wpG_skip rfl rfl rfl ?_
        refine wpG_skip rfl rfl rfl ?_
        (apply wpG_p rfl rfl rfl rfl rfl; (intro w' K hK; (first | go_big_op | go_wp2_with fail); exact hK))
        (apply wpG_p rfl rfl rfl rfl rfl; (intro w' K hK; (first | go_big_op | go_wp2_with fail); exact hK))
        refine wpG_nil (fun w9 hB1 hG hD => ?_)
        clear hG
        (try clear hD)
        refine wpOrd_nil ?_
        have hb := hB1
        clear hB1
        have hs_w9 := hb.size
        (try simp at hs_w9)
        have hB_w9 : Below w.heap.size w w9 := below_then (w := w) (by with_reducible repeat (first | exact Below.refl _ _ | assumption | ((first | refine Below.alloc ?_ ?b_ _ | refine bw_set ?_ ?b_ | refine Below.setCell ?_ ?b_ _); case b_ => first | omega | (simp; done) | (simp; omega)) | refine Below.drew ?_ | refine below_drewN ?_ _)) (by first | omega | (simp; done) | (simp; omega) | (have hq_ := hb.size; omega)) hb
        clear hb
        go_wp2_with fail
        go_ret
        exact ⟨rfl, (by with_reducible repeat (first | exact Below.refl _ _ | assumption | ((first | refine Below.alloc ?_ ?b_ _ | refine bw_set ?_ ?b_ | refine Below.setCell ?_ ?b_ _); case b_ => first | omega | (simp; done) | (simp; omega)) | refine Below.drew ?_ | refine below_drewN ?_ _))⟩
      · skip
        refine (hI _).mono ?_
        rintro e w7 ⟨rfl, hb⟩
        have hs_w7 := hb.size
        (try simp at hs_w7)
        have hB_w7 : Below w.heap.size w w7 := below_then (w := w) (by with_reducible repeat (first | exact Below.refl _ _ | assumption | ((first | refine Below.alloc ?_ ?b_ _ | refine bw_set ?_ ?b_ | refine Below.setCell ?_ ?b_ _); case b_ => first | omega | (simp; done) | (simp; omega)) | refine Below.drew ?_ | refine below_drewN ?_ _)) (by first | omega | (simp; done) | (simp; omega) | (have hq_ := hb.size; omega)) hb
        have hx_ := rw_below (k := w4.heap.size) hb (by with_reducible repeat (first | assumption | (refine rw_new ?e_; case e_ => first | rfl | (simp; done) | (simp; omega)) | apply rw_self | (apply rw_other; case hn => first | omega | (simp; omega)) | apply rw_alloc | apply rw_drew | apply rw_drewN))
        (try clear hs)
        (try clear hsc0 hsc1 hsc2 hsc3 hsc4 hsc5)
        have hs := hx_
        clear hx_
        obtain ⟨hsc0, hsc1, hsc2, hsc3, hsc4, hsc5⟩ := cel6 hs
        clear hb
        have hls := rw_lt hs
        go_wp2_with fail
        refine (hC _).mono ?_
        rintro e w8 ⟨rfl, hb⟩
        have hs_w8 := hb.size
        (try simp at hs_w8)
        have hB_w8 : Below w.heap.size w w8 := below_then (w := w) (by with_reducible repeat (first | exact Below.refl _ _ | assumption | ((first | refine Below.alloc ?_ ?b_ _ | refine bw_set ?_ ?b_ | refine Below.setCell ?_ ?b_ _); case b_ => first | omega | (simp; done) | (simp; omega)) | refine Below.drew ?_ | refine below_drewN ?_ _)) (by first | omega | (simp; done) | (simp; omega) | (have hq_ := hb.size; omega)) hb
        clear hb
        go_wp2_with fail
        generalize hwy_ : World.alloc _ _ = wk
        have hB_wk : Below w.heap.size w wk := bw_eq hwy_ (by with_reducible repeat (first | exact Below.refl _ _ | assumption | ((first | refine Below.alloc ?_ ?b_ _ | refine bw_set ?_ ?b_ | refine Below.setCell ?_ ?b_ _); case b_ => first | omega | (simp; done) | (simp; omega)) | refine Below.drew ?_ | refine below_drewN ?_ _))
        have hx_ := rw_eq (k := w8.heap.size) hwy_ (by with_reducible repeat (first | assumption | (refine rw_new ?e_; case e_ => first | rfl | (simp; done) | (simp; omega)) | apply rw_self | (apply rw_other; case hn => first | omega | (simp; omega)) | apply rw_alloc | apply rw_drew | apply rw_drewN))
        (try clear hr)
        have hr := hx_
        clear hx_
        have hl_hr := rw_lt hr
        clear hwy_
        (try go_frame)
        refine wp_region_grow [(0, none), (1, none), (2, none), (3, none), (4, none), (5, none), (6, none), (7, some (.val (fun v => v = .agg #[.int .i64 65536, .int .i64 0, .int .i64 0, .int .i64 65536, .int .i64 0, .int .i64 0]))), (8, none), (9, none), (10, none), (11, none)] .done ?g1_ ?g2_ ?g3_ ?_
        case g1_ => kernel_rfl
        case g2_ => kernel_rfl
        case g3_ => exact fun _ _ _ _ _ h => h
        (apply wpG_p rfl rfl rfl rfl rfl; (intro w' K hK; (first | go_big_op | go_wp2_with fail); exact hK))
        (apply wpG_p rfl rfl rfl rfl rfl; (intro w' K hK; (first | go_big_op | go_wp2_with fail); exact hK))
        (apply wpG_p rfl rfl rfl rfl rfl; (intro w' K hK; (first | go_big_op | go_wp2_with fail); exact hK))
        (apply wpG_p rfl rfl rfl rfl rfl; (intro w' K hK; (first | go_big_op | go_wp2_with fail); exact hK))
        (apply wpG_p rfl rfl rfl rfl rfl; (intro w' K hK; (first | go_big_op | go_wp2_with fail); exact hK))
        (apply wpG_p rfl rfl rfl rfl rfl; (intro w' K hK; (first | go_big_op | go_wp2_with fail); exact hK))
        (apply wpG_l rfl rfl rfl rfl rfl; (intro w' K hC hK; (refine wp_load_row 25 _ rfl (w8.heap.size) rfl _ _ _ _ (rw_below hC.1 hr) Try.underlying25 rfl (by kernel_rfl) ?_); change K (Act.put _ (some 174) _) _; simp only [Act.put, List.setIfInBounds_toArray, List.set_cons_succ, List.set_cons_zero]; exact hK); (case he => first | rfl | (simp [Act.put, *]; done)))
        refine wpG_g2 (d := 175) rfl rfl rfl rfl (by first | exact ⟨_, 0, rfl⟩ | (exact ⟨_, rfl⟩)) (fun v => by simp only [Act.put, List.setIfInBounds_toArray, List.set_cons_succ, List.set_cons_zero]; rfl) (fun w' K hC hK => ?_) (fun v hv => ?_)
        · (have hr' := hC.old; simp at hr'; (first | go_big_op | go_wp2_with fail); (refine Calls.mono (munit_any _) ?_; rintro e w2_ ⟨rfl, hb2_⟩; exact hK _ _ rfl hb2_ trivial))
        obtain rfl := hv
        (apply wpG_p rfl rfl rfl rfl rfl; (intro w' K hK; (first | go_big_op | go_wp2_with fail); exact hK))
        (apply wpG_p rfl rfl rfl rfl rfl; (intro w' K hK; (first | go_big_op | go_wp2_with fail); exact hK))
        (apply wpG_p rfl rfl rfl rfl rfl; (intro w' K hK; (first | go_big_op | go_wp2_with fail); exact hK))
        (apply wpG_p rfl rfl rfl rfl rfl; (intro w' K hK; (first | go_big_op | go_wp2_with fail); exact hK))
        refine wpG_nil (fun w9 hB1 hG hD => ?_)
        clear hG
        (try clear hD)
        refine wpOrd_nil ?_
        have hb := hB1
        clear hB1
        have hs_w9 := hb.size
        (try simp at hs_w9)
        have hB_w9 : Below w.heap.size w w9 := below_then (w := w) (by with_reducible repeat (first | exact Below.refl _ _ | assumption | ((first | refine Below.alloc ?_ ?b_ _ | refine bw_set ?_ ?b_ | refine Below.setCell ?_ ?b_ _); case b_ => first | omega | (simp; done) | (simp; omega)) | refine Below.drew ?_ | refine below_drewN ?_ _)) (by first | omega | (simp; done) | (simp; omega) | (have hq_ := hb.size; omega)) hb
        clear hb
        go_wp2_with fail
        go_ret
        exact ⟨rfl, (by with_reducible repeat (first | exact Below.refl _ _ | assumption | ((first | refine Below.alloc ?_ ?b_ _ | refine bw_set ?_ ?b_ | refine Below.setCell ?_ ?b_ _); case b_ => first | omega | (simp; done) | (simp; omega)) | refine Below.drew ?_ | refine below_drewN ?_ _))⟩
    · skip
      go_upto_region 18 with fail
      obtain ⟨hqc0, hqc1⟩ := cel2 hq
      have hqn : w.heap.size + 1 < w4.heap.size := rw_lt hq
      go_wp2_with fail
      (try rw [hsh0.out])
      (try rw [hsh1.out])
      clear hqc0 hqc1 hsh0 hsh1
      rcases inv_ask (E := E) (F := F) ha.out hb.out a0 b0 with ⟨v0, v1, v2, v3, v4, v5, er, her, hI⟩ | ⟨hI, hC⟩
      · skip
        have hne : (er != 0) = true := by simpa using her
        obtain ⟨c0, c1, c2, c3, c4, c5, c6, hC, _⟩ := cc_both a 0 0 b (E * 65536) (F * 65536) v0 v1 v2 v3 v4 v5
        refine (hI _).mono ?_
        rintro e w7 ⟨rfl, hb⟩
        have hs_w7 := hb.size
        (try simp at hs_w7)
        have hB_w7 : Below w.heap.size w w7 := below_then (w := w) (by with_reducible repeat (first | exact Below.refl _ _ | assumption | ((first | refine Below.alloc ?_ ?b_ _ | refine bw_set ?_ ?b_ | refine Below.setCell ?_ ?b_ _); case b_ => first | omega | (simp; done) | (simp; omega)) | refine Below.drew ?_ | refine below_drewN ?_ _)) (by first | omega | (simp; done) | (simp; omega) | (have hq_ := hb.size; omega)) hb
        have hx_ := rw_below (k := w4.heap.size) hb (by with_reducible repeat (first | assumption | (refine rw_new ?e_; case e_ => first | rfl | (simp; done) | (simp; omega)) | apply rw_self | (apply rw_other; case hn => first | omega | (simp; omega)) | apply rw_alloc | apply rw_drew | apply rw_drewN))
        (try clear hs)
        (try clear hsc0 hsc1 hsc2 hsc3 hsc4 hsc5)
        have hs := hx_
        clear hx_
        obtain ⟨hsc0, hsc1, hsc2, hsc3, hsc4, hsc5⟩ := cel6 hs
        clear hb
        have hls := rw_lt hs
        go_wp2_with fail
        refine (hC _).mono ?_
        rintro e w8 ⟨rfl, hb⟩
        have hs_w8 := hb.size
        (try simp at hs_w8)
        have hB_w8 : Below w.heap.size w w8 := below_then (w := w) (by with_reducible repeat (first | exact Below.refl _ _ | assumption | ((first | refine Below.alloc ?_ ?b_ _ | refine bw_set ?_ ?b_ | refine Below.setCell ?_ ?b_ _); case b_ => first | omega | (simp; done) | (simp; omega)) | refine Below.drew ?_ | refine below_drewN ?_ _)) (by first | omega | (simp; done) | (simp; omega) | (have hq_ := hb.size; omega)) hb
        clear hb
        go_wp2_with fail
        (try go_frame)
        refine wp_region_grow [(0, none), (1, none), (2, none), (3, none), (4, none), (5, none), (6, none), (7, none), (8, none), (9, none), (10, none), (11, none)] .done ?g1_ ?g2_ ?g3_ ?_
        case g1_ => kernel_rfl
        case g2_ => kernel_rfl
        case g3_ => exact fun _ _ _ _ _ h => h
        (apply wpG_p rfl rfl rfl rfl rfl; (intro w' K hK; (first | go_big_op | go_wp2_with fail); exact hK))
        (apply wpG_p rfl rfl rfl rfl rfl; (intro w' K hK; (first | go_big_op | go_wp2_with fail); exact hK))
        (apply wpG_p rfl rfl rfl rfl rfl; (intro w' K hK; (first | go_big_op | go_wp2_with fail); exact hK))
        refine wpG_skip rfl rfl rfl ?_
        refine wpG_skip rfl rfl rfl ?_
        refine wpG_skip rfl rfl rfl ?_
        refine wpG_skip rfl rfl rfl ?_
        refine wpG_skip rfl rfl rfl ?_
        refine wpG_skip rfl rfl rfl ?_
        refine wpG_skip rfl rfl rfl ?_
        (apply wpG_p rfl rfl rfl rfl rfl; (intro w' K hK; (first | go_big_op | go_wp2_with fail); exact hK))
        (apply wpG_p rfl rfl rfl rfl rfl; (intro w' K hK; (first | go_big_op | go_wp2_with fail); exact hK))
        refine wpG_nil (fun w9 hB1 hG hD => ?_)
        clear hG
        (try clear hD)
        refine wpOrd_nil ?_
        have hb := hB1
        clear hB1
        have hs_w9 := hb.size
        (try simp at hs_w9)
        have hB_w9 : Below w.heap.size w w9 := below_then (w := w) (by with_reducible repeat (first | exact Below.refl _ _ | assumption | ((first | refine Below.alloc ?_ ?b_ _ | refine bw_set ?_ ?b_ | refine Below.setCell ?_ ?b_ _); case b_ => first | omega | (simp; done) | (simp; omega)) | refine Below.drew ?_ | refine below_drewN ?_ _)) (by first | omega | (simp; done) | (simp; omega) | (have hq_ := hb.size; omega)) hb
        clear hb
        go_wp2_with fail
        go_ret
        exact ⟨rfl, (by with_reducible repeat (first | exact Below.refl _ _ | assumption | ((first | refine Below.alloc ?_ ?b_ _ | refine bw_set ?_ ?b_ | refine Below.setCell ?_ ?b_ _); case b_ => first | omega | (simp; done) | (simp; omega)) | refine Below.drew ?_ | refine below_drewN ?_ _))⟩
      · skip
        refine (hI _).mono ?_
        rintro e w7 ⟨rfl, hb⟩
        have hs_w7 := hb.size
        (try simp at hs_w7)
        have hB_w7 : Below w.heap.size w w7 := below_then (w := w) (by with_reducible repeat (first | exact Below.refl _ _ | assumption | ((first | refine Below.alloc ?_ ?b_ _ | refine bw_set ?_ ?b_ | refine Below.setCell ?_ ?b_ _); case b_ => first | omega | (simp; done) | (simp; omega)) | refine Below.drew ?_ | refine below_drewN ?_ _)) (by first | omega | (simp; done) | (simp; omega) | (have hq_ := hb.size; omega)) hb
        have hx_ := rw_below (k := w4.heap.size) hb (by with_reducible repeat (first | assumption | (refine rw_new ?e_; case e_ => first | rfl | (simp; done) | (simp; omega)) | apply rw_self | (apply rw_other; case hn => first | omega | (simp; omega)) | apply rw_alloc | apply rw_drew | apply rw_drewN))
        (try clear hs)
        (try clear hsc0 hsc1 hsc2 hsc3 hsc4 hsc5)
        have hs := hx_
        clear hx_
        obtain ⟨hsc0, hsc1, hsc2, hsc3, hsc4, hsc5⟩ := cel6 hs
        clear hb
        have hls := rw_lt hs
        go_wp2_with fail
        refine (hC _).mono ?_
        rintro e w8 ⟨rfl, hb⟩
        have hs_w8 := hb.size
        (try simp at hs_w8)
        have hB_w8 : Below w.heap.size w w8 := below_then (w := w) (by with_reducible repeat (first | exact Below.refl _ _ | assumption | ((first | refine Below.alloc ?_ ?b_ _ | refine bw_set ?_ ?b_ | refine Below.setCell ?_ ?b_ _); case b_ => first | omega | (simp; done) | (simp; omega)) | refine Below.drew ?_ | refine below_drewN ?_ _)) (by first | omega | (simp; done) | (simp; omega) | (have hq_ := hb.size; omega)) hb
        clear hb
        go_wp2_with fail
        generalize hwy_ : World.alloc _ _ = wk
        have hB_wk : Below w.heap.size w wk := bw_eq hwy_ (by with_reducible repeat (first | exact Below.refl _ _ | assumption | ((first | refine Below.alloc ?_ ?b_ _ | refine bw_set ?_ ?b_ | refine Below.setCell ?_ ?b_ _); case b_ => first | omega | (simp; done) | (simp; omega)) | refine Below.drew ?_ | refine below_drewN ?_ _))
        have hx_ := rw_eq (k := w8.heap.size) hwy_ (by with_reducible repeat (first | assumption | (refine rw_new ?e_; case e_ => first | rfl | (simp; done) | (simp; omega)) | apply rw_self | (apply rw_other; case hn => first | omega | (simp; omega)) | apply rw_alloc | apply rw_drew | apply rw_drewN))
        (try clear hr)
        have hr := hx_
        clear hx_
        have hl_hr := rw_lt hr
        clear hwy_
        (try go_frame)
        refine wp_region_grow [(0, none), (1, none), (2, none), (3, none), (4, none), (5, none), (6, none), (7, some (.val (fun v => v = .agg #[.int .i64 65536, .int .i64 0, .int .i64 0, .int .i64 65536, .int .i64 0, .int .i64 0]))), (8, none), (9, none), (10, none), (11, none)] .done ?g1_ ?g2_ ?g3_ ?_
        case g1_ => kernel_rfl
        case g2_ => kernel_rfl
        case g3_ => exact fun _ _ _ _ _ h => h
        (apply wpG_p rfl rfl rfl rfl rfl; (intro w' K hK; (first | go_big_op | go_wp2_with fail); exact hK))
        (apply wpG_p rfl rfl rfl rfl rfl; (intro w' K hK; (first | go_big_op | go_wp2_with fail); exact hK))
        (apply wpG_p rfl rfl rfl rfl rfl; (intro w' K hK; (first | go_big_op | go_wp2_with fail); exact hK))
        (apply wpG_p rfl rfl rfl rfl rfl; (intro w' K hK; (first | go_big_op | go_wp2_with fail); exact hK))
        (apply wpG_p rfl rfl rfl rfl rfl; (intro w' K hK; (first | go_big_op | go_wp2_with fail); exact hK))
        (apply wpG_p rfl rfl rfl rfl rfl; (intro w' K hK; (first | go_big_op | go_wp2_with fail); exact hK))
        (apply wpG_l rfl rfl rfl rfl rfl; (intro w' K hC hK; (refine wp_load_row 25 _ rfl (w8.heap.size) rfl _ _ _ _ (rw_below hC.1 hr) Try.underlying25 rfl (by kernel_rfl) ?_); change K (Act.put _ (some 174) _) _; simp only [Act.put, List.setIfInBounds_toArray, List.set_cons_succ, List.set_cons_zero]; exact hK); (case he => first | rfl | (simp [Act.put, *]; done)))
        refine wpG_g2 (d := 175) rfl rfl rfl rfl (by first | exact ⟨_, 0, rfl⟩ | (exact ⟨_, rfl⟩)) (fun v => by simp only [Act.put, List.setIfInBounds_toArray, List.set_cons_succ, List.set_cons_zero]; rfl) (fun w' K hC hK => ?_) (fun v hv => ?_)
        · (have hr' := hC.old; simp at hr'; (first | go_big_op | go_wp2_with fail); (refine Calls.mono (munit_any _) ?_; rintro e w2_ ⟨rfl, hb2_⟩; exact hK _ _ rfl hb2_ trivial))
        obtain rfl := hv
        (apply wpG_p rfl rfl rfl rfl rfl; (intro w' K hK; (first | go_big_op | go_wp2_with fail); exact hK))
        (apply wpG_p rfl rfl rfl rfl rfl; (intro w' K hK; (first | go_big_op | go_wp2_with fail); exact hK))
        (apply wpG_p rfl rfl rfl rfl rfl; (intro w' K hK; (first | go_big_op | go_wp2_with fail); exact hK))
        (apply wpG_p rfl rfl rfl rfl rfl; (intro w' K hK; (first | go_big_op | go_wp2_with fail); exact hK))
        refine wpG_nil (fun w9 hB1 hG hD => ?_)
        clear hG
        (try clear hD)
        refine wpOrd_nil ?_
        have hb := hB1
        clear hB1
        have hs_w9 := hb.size
        (try simp at hs_w9)
        have hB_w9 : Below w.heap.size w w9 := below_then (w := w) (by with_reducible repeat (first | exact Below.refl _ _ | assumption | ((first | refine Below.alloc ?_ ?b_ _ | refine bw_set ?_ ?b_ | refine Below.setCell ?_ ?b_ _); case b_ => first | omega | (simp; done) | (simp; omega)) | refine Below.drew ?_ | refine below_drewN ?_ _)) (by first | omega | (simp; done) | (simp; omega) | (have hq_ := hb.size; omega)) hb
        clear hb
        go_wp2_with fail
        go_ret
        exact ⟨rfl, (by with_reducible repeat (first | exact Below.refl _ _ | assumption | ((first | refine Below.alloc ?_ ?b_ _ | refine bw_set ?_ ?b_ | refine Below.setCell ?_ ?b_ _); case b_ => first | omega | (simp; done) | (simp; omega)) | refine Below.drew ?_ | refine below_drewN ?_ _))⟩
  · skip
    refine (hbk _).mono ?_
    rintro e w2 ⟨rfl, hb⟩
    have hs_w2 := hb.size
    (try simp at hs_w2)
    have hB_w2 : Below w.heap.size w w2 := below_then (w := w) (by with_reducible repeat (first | exact Below.refl _ _ | assumption | ((first | refine Below.alloc ?_ ?b_ _ | refine bw_set ?_ ?b_ | refine Below.setCell ?_ ?b_ _); case b_ => first | omega | (simp; done) | (simp; omega)) | refine Below.drew ?_ | refine below_drewN ?_ _)) (by first | omega | (simp; done) | (simp; omega) | (have hq_ := hb.size; omega)) hb
    have hx_ := rw_below (k := w.heap.size + 1) hb (by with_reducible repeat (first | assumption | (refine rw_new ?e_; case e_ => first | rfl | (simp; done) | (simp; omega)) | apply rw_self | (apply rw_other; case hn => first | omega | (simp; omega)) | apply rw_alloc | apply rw_drew | apply rw_drewN))
    (try clear hq)
    have hq := hx_
    clear hx_
    have hx_ := rw_below (k := w1.heap.size) hb (by with_reducible repeat (first | assumption | (refine rw_new ?e_; case e_ => first | rfl | (simp; done) | (simp; omega)) | apply rw_self | (apply rw_other; case hn => first | omega | (simp; omega)) | apply rw_alloc | apply rw_drew | apply rw_drewN))
    (try clear hm)
    have hm := hx_
    clear hx_
    have hx_ := rw_below (k := w1.heap.size + 1) hb (by with_reducible repeat (first | assumption | (refine rw_new ?e_; case e_ => first | rfl | (simp; done) | (simp; omega)) | apply rw_self | (apply rw_other; case hn => first | omega | (simp; omega)) | apply rw_alloc | apply rw_drew | apply rw_drewN))
    (try clear hx)
    have hx := hx_
    clear hx_
    clear hb
    go_wp2_with ((with_reducible refine rw_list ?_); (first | ((with_reducible apply wpList_load_cell); (case ho => with_reducible rfl); (case hgd => with_reducible rfl); (case hx => rfl); (case hu => first | exact Try.underlying25 | exact Try.underlying28 | exact Try.underlying53 | exact Try.underlying3 | exact Try.underlying5); (case hd => rfl)) | ((with_reducible apply wpList_load_row); (case ho => with_reducible rfl); (case hgd => with_reducible rfl); (case hx => rfl); (case hu => first | exact Try.underlying25 | exact Try.underlying28 | exact Try.underlying53 | exact Try.underlying3 | exact Try.underlying5); (case hd => rfl)) | ((with_reducible apply wpList_store_row); (case ho => with_reducible rfl); (case hgd => with_reducible rfl); (case hx => rfl); (case hy => rfl)) | ((with_reducible apply wpList_store_cell); (case ho => with_reducible rfl); (case hgd => with_reducible rfl); (case hx => rfl); (case hy => first | exact ev_const | exact ev_tmp rfl); (case h1 => rfl))); (case hg => exact (by with_reducible repeat (first | assumption | (refine rw_new ?e_; case e_ => first | rfl | (simp; done) | (simp; omega)) | apply rw_self | (apply rw_other; case hn => first | omega | (simp; omega)) | apply rw_alloc | apply rw_drew | apply rw_drewN))); (try case hv => rfl); (try case hi => kernel_rfl); (try case hold => rfl); (try case h1 => kernel_rfl); (try case hlt => rfl); (try case hcs => ((try simp only [List.setIfInBounds_toArray, List.set_cons_succ, List.set_cons_zero]); rfl)))
    refine wp_region_grow [(0, none), (1, none), (2, none), (3, none), (4, none), (5, none), (6, none), (7, none), (8, none), (9, none), (10, none), (11, none), (12, none), (13, none)] .done ?g1_ ?g2_ ?g3_ ?_
    case g1_ => kernel_rfl
    case g2_ => kernel_rfl
    case g3_ => exact fun _ _ _ _ _ h => h
    (apply wpG_p rfl rfl rfl rfl rfl; (intro w' K hK; (first | go_big_op | go_wp2_with fail); exact hK))
    (apply wpG_l rfl rfl rfl rfl rfl; (intro w' K hC hK; (refine wp_load_cell 3 _ rfl (w1.heap.size + 1) 0 rfl _ _ _ _ _ (rw_below hC.1 hx) Try.underlying3 rfl rfl ?_); change K (Act.put _ (some 77) _) _; simp only [Act.put, List.setIfInBounds_toArray, List.set_cons_succ, List.set_cons_zero]; exact hK); (case he => first | rfl | (simp [Act.put, *]; done)))
    (apply wpG_p rfl rfl rfl rfl rfl; (intro w' K hK; (first | go_big_op | go_wp2_with fail); exact hK))
    (apply wpG_p rfl rfl rfl rfl rfl; (intro w' K hK; (first | go_big_op | go_wp2_with fail); exact hK))
    (apply wpG_l rfl rfl rfl rfl rfl; (intro w' K hC hK; (refine wp_load_cell 3 _ rfl (w1.heap.size) 4 rfl _ _ _ _ _ (rw_below hC.1 hm) Try.underlying3 rfl rfl ?_); change K (Act.put _ (some 80) _) _; simp only [Act.put, List.setIfInBounds_toArray, List.set_cons_succ, List.set_cons_zero]; exact hK); (case he => first | rfl | (simp [Act.put, *]; done)))
    (apply wpG_p rfl rfl rfl rfl rfl; (intro w' K hK; (first | go_big_op | go_wp2_with fail); exact hK))
    (apply wpG_p rfl rfl rfl rfl rfl; (intro w' K hK; (first | go_big_op | go_wp2_with fail); exact hK))
    (apply wpG_l rfl rfl rfl rfl rfl; (intro w' K hC hK; (refine wp_load_cell 3 _ rfl (w1.heap.size + 1) 1 rfl _ _ _ _ _ (rw_below hC.1 hx) Try.underlying3 rfl rfl ?_); change K (Act.put _ (some 83) _) _; simp only [Act.put, List.setIfInBounds_toArray, List.set_cons_succ, List.set_cons_zero]; exact hK); (case he => first | rfl | (simp [Act.put, *]; done)))
    (apply wpG_p rfl rfl rfl rfl rfl; (intro w' K hK; (first | go_big_op | go_wp2_with fail); exact hK))
    (apply wpG_p rfl rfl rfl rfl rfl; (intro w' K hK; (first | go_big_op | go_wp2_with fail); exact hK))
    (apply wpG_l rfl rfl rfl rfl rfl; (intro w' K hC hK; (refine wp_load_cell 3 _ rfl (w1.heap.size) 5 rfl _ _ _ _ _ (rw_below hC.1 hm) Try.underlying3 rfl rfl ?_); change K (Act.put _ (some 86) _) _; simp only [Act.put, List.setIfInBounds_toArray, List.set_cons_succ, List.set_cons_zero]; exact hK); (case he => first | rfl | (simp [Act.put, *]; done)))
    (apply wpG_p rfl rfl rfl rfl rfl; (intro w' K hK; (first | go_big_op | go_wp2_with fail); exact hK))
    (apply wpG_p rfl rfl rfl rfl rfl; (intro w' K hK; (first | go_big_op | go_wp2_with fail); exact hK))
    (apply wpG_p rfl rfl rfl rfl rfl; (intro w' K hK; (first | go_big_op | go_wp2_with fail); exact hK))
    refine wpG_nil (fun w3 hB1 hG hD => ?_)
    clear hG
    (try clear hD)
    refine wpOrd_nil ?_
    have hb := hB1
    clear hB1
    have hs_w3 := hb.size
    (try simp at hs_w3)
    have hB_w3 : Below w.heap.size w w3 := below_then (w := w) (by with_reducible repeat (first | exact Below.refl _ _ | assumption | ((first | refine Below.alloc ?_ ?b_ _ | refine bw_set ?_ ?b_ | refine Below.setCell ?_ ?b_ _); case b_ => first | omega | (simp; done) | (simp; omega)) | refine Below.drew ?_ | refine below_drewN ?_ _)) (by first | omega | (simp; done) | (simp; omega) | (have hq_ := hb.size; omega)) hb
    have hx_ := rw_below (k := w.heap.size + 1) hb (by with_reducible repeat (first | assumption | (refine rw_new ?e_; case e_ => first | rfl | (simp; done) | (simp; omega)) | apply rw_self | (apply rw_other; case hn => first | omega | (simp; omega)) | apply rw_alloc | apply rw_drew | apply rw_drewN))
    (try clear hq)
    have hq := hx_
    clear hx_
    have hx_ := rw_below (k := w1.heap.size) hb (by with_reducible repeat (first | assumption | (refine rw_new ?e_; case e_ => first | rfl | (simp; done) | (simp; omega)) | apply rw_self | (apply rw_other; case hn => first | omega | (simp; omega)) | apply rw_alloc | apply rw_drew | apply rw_drewN))
    (try clear hm)
    have hm := hx_
    clear hx_
    have hx_ := rw_below (k := w1.heap.size + 1) hb (by with_reducible repeat (first | assumption | (refine rw_new ?e_; case e_ => first | rfl | (simp; done) | (simp; omega)) | apply rw_self | (apply rw_other; case hn => first | omega | (simp; omega)) | apply rw_alloc | apply rw_drew | apply rw_drewN))
    (try clear hx)
    have hx := hx_
    clear hx_
    clear hb
    go_wp2_with fail
    refine wp_region_grow [(0, none), (1, none), (2, none), (3, none), (4, none), (5, none), (6, none), (7, none), (8, none), (9, none), (10, none), (11, none), (12, none), (13, none), (14, none), (15, none), (16, none), (17, none), (18, none), (19, none)] .done ?g1_ ?g2_ ?g3_ ?_
    case g1_ => kernel_rfl
    case g2_ => kernel_rfl
    case g3_ => exact fun _ _ _ _ _ h => h
    (apply wpG_p rfl rfl rfl rfl rfl; (intro w' K hK; (first | go_big_op | go_wp2_with fail); exact hK))
    (apply wpG_l rfl rfl rfl rfl rfl; (intro w' K hC hK; (refine wp_load_cell 3 _ rfl (w1.heap.size) 3 rfl _ _ _ _ _ (rw_below hC.1 hm) Try.underlying3 rfl rfl ?_); change K (Act.put _ (some 89) _) _; simp only [Act.put, List.setIfInBounds_toArray, List.set_cons_succ, List.set_cons_zero]; exact hK); (case he => first | rfl | (simp [Act.put, *]; done)))
    (apply wpG_p rfl rfl rfl rfl rfl; (intro w' K hK; (first | go_big_op | go_wp2_with fail); exact hK))
    (apply wpG_p rfl rfl rfl rfl rfl; (intro w' K hK; (first | go_big_op | go_wp2_with fail); exact hK))
    (apply wpG_p rfl rfl rfl rfl rfl; (intro w' K hK; (first | go_big_op | go_wp2_with fail); exact hK))
    (apply wpG_l rfl rfl rfl rfl rfl; (intro w' K hC hK; (refine wp_load_cell 3 _ rfl (w1.heap.size) 2 rfl _ _ _ _ _ (rw_below hC.1 hm) Try.underlying3 rfl rfl ?_); change K (Act.put _ (some 93) _) _; simp only [Act.put, List.setIfInBounds_toArray, List.set_cons_succ, List.set_cons_zero]; exact hK); (case he => first | rfl | (simp [Act.put, *]; done)))
    (apply wpG_p rfl rfl rfl rfl rfl; (intro w' K hK; (first | go_big_op | go_wp2_with fail); exact hK))
    (apply wpG_p rfl rfl rfl rfl rfl; (intro w' K hK; (first | go_big_op | go_wp2_with fail); exact hK))
    (apply wpG_p rfl rfl rfl rfl rfl; (intro w' K hK; (first | go_big_op | go_wp2_with fail); exact hK))
    (apply wpG_p rfl rfl rfl rfl rfl; (intro w' K hK; (first | go_big_op | go_wp2_with fail); exact hK))
    (apply wpG_l rfl rfl rfl rfl rfl; (intro w' K hC hK; (refine wp_load_cell 3 _ rfl (w1.heap.size) 0 rfl _ _ _ _ _ (rw_below hC.1 hm) Try.underlying3 rfl rfl ?_); change K (Act.put _ (some 98) _) _; simp only [Act.put, List.setIfInBounds_toArray, List.set_cons_succ, List.set_cons_zero]; exact hK); (case he => first | rfl | (simp [Act.put, *]; done)))
    (apply wpG_p rfl rfl rfl rfl rfl; (intro w' K hK; (first | go_big_op | go_wp2_with fail); exact hK))
    (apply wpG_p rfl rfl rfl rfl rfl; (intro w' K hK; (first | go_big_op | go_wp2_with fail); exact hK))
    (apply wpG_p rfl rfl rfl rfl rfl; (intro w' K hK; (first | go_big_op | go_wp2_with fail); exact hK))
    (apply wpG_l rfl rfl rfl rfl rfl; (intro w' K hC hK; (refine wp_load_cell 3 _ rfl (w1.heap.size) 1 rfl _ _ _ _ _ (rw_below hC.1 hm) Try.underlying3 rfl rfl ?_); change K (Act.put _ (some 102) _) _; simp only [Act.put, List.setIfInBounds_toArray, List.set_cons_succ, List.set_cons_zero]; exact hK); (case he => first | rfl | (simp [Act.put, *]; done)))
    (apply wpG_p rfl rfl rfl rfl rfl; (intro w' K hK; (first | go_big_op | go_wp2_with fail); exact hK))
    (apply wpG_p rfl rfl rfl rfl rfl; (intro w' K hK; (first | go_big_op | go_wp2_with fail); exact hK))
    (apply wpG_p rfl rfl rfl rfl rfl; (intro w' K hK; (first | go_big_op | go_wp2_with fail); exact hK))
    (apply wpG_p rfl rfl rfl rfl rfl; (intro w' K hK; (first | go_big_op | go_wp2_with fail); exact hK))
    (apply wpG_p rfl rfl rfl rfl rfl; (intro w' K hK; (first | go_big_op | go_wp2_with fail); exact hK))
    refine wpG_nil (fun w4 hB1 hG hD => ?_)
    clear hG
    (try clear hD)
    refine wpOrd_nil ?_
    have hb := hB1
    clear hB1
    have hs_w4 := hb.size
    (try simp at hs_w4)
    have hB_w4 : Below w.heap.size w w4 := below_then (w := w) (by with_reducible repeat (first | exact Below.refl _ _ | assumption | ((first | refine Below.alloc ?_ ?b_ _ | refine bw_set ?_ ?b_ | refine Below.setCell ?_ ?b_ _); case b_ => first | omega | (simp; done) | (simp; omega)) | refine Below.drew ?_ | refine below_drewN ?_ _)) (by first | omega | (simp; done) | (simp; omega) | (have hq_ := hb.size; omega)) hb
    have hx_ := rw_below (k := w.heap.size + 1) hb (by with_reducible repeat (first | assumption | (refine rw_new ?e_; case e_ => first | rfl | (simp; done) | (simp; omega)) | apply rw_self | (apply rw_other; case hn => first | omega | (simp; omega)) | apply rw_alloc | apply rw_drew | apply rw_drewN))
    (try clear hq)
    have hq := hx_
    clear hx_
    clear hb
    by_cases hneg : d < 0
    · skip
      have en : sgn d n = (-n) := if_pos hneg
      have eo : sgn d o = (-o) := if_pos hneg
      have ed : sgn d d = (-d) := if_pos hneg
      rw [en, ed] at nx
      rw [eo, ed] at ny
      obtain ⟨nx1, nx2⟩ := nx
      obtain ⟨ny1, ny2⟩ := ny
      obtain ⟨xb1, xb2⟩ := xb
      obtain ⟨yb1, yb2⟩ := yb
      have nx1 := Lib.hid nx1
      have nx2 := Lib.hid nx2
      have ny1 := Lib.hid ny1
      have ny2 := Lib.hid ny2
      obtain ⟨M, hmax, M1, M2, M3, M4, M5⟩ := max4 x y
      have hM : M ≤ 2147483648 := by omega
      have hM2 : ¬ 2147483648 < M := by omega
      clear M1 M2 M3 M4 M5
      go_upto_region 14 with fail
      go_wp2_with fail
      all_goals (try (exfalso; omega))
      refine (within_ok x ((-n)) ((-d)) _ xb1 xb2 (by omega) (by omega) (by omega) (by omega) nx1.out nx2.out).mono ?_
      rintro e w' ⟨rfl, rfl⟩
      go_wp2_with fail
      refine (within_ok y ((-o)) ((-d)) _ yb1 yb2 (by omega) (by omega) (by omega) (by omega) ny1.out ny2.out).mono ?_
      rintro e w' ⟨rfl, rfl⟩
      clear hmax hM hM2
      go_upto_region 18 with fail
      obtain ⟨hqc0, hqc1⟩ := cel2 hq
      have hqn : w.heap.size + 1 < w4.heap.size := rw_lt hq
      go_wp2_with fail
      (try rw [hsh0.out])
      (try rw [hsh1.out])
      clear hqc0 hqc1 hsh0 hsh1
      rcases inv_ask (E := E) (F := F) ha.out hb.out a0 b0 with ⟨v0, v1, v2, v3, v4, v5, er, her, hI⟩ | ⟨hI, hC⟩
      · skip
        have hne : (er != 0) = true := by simpa using her
        obtain ⟨c0, c1, c2, c3, c4, c5, c6, hC, _⟩ := cc_both a 0 0 b (E * 65536) (F * 65536) v0 v1 v2 v3 v4 v5
        refine (hI _).mono ?_
        rintro e w7 ⟨rfl, hb⟩
        have hs_w7 := hb.size
        (try simp at hs_w7)
        have hB_w7 : Below w.heap.size w w7 := below_then (w := w) (by with_reducible repeat (first | exact Below.refl _ _ | assumption | ((first | refine Below.alloc ?_ ?b_ _ | refine bw_set ?_ ?b_ | refine Below.setCell ?_ ?b_ _); case b_ => first | omega | (simp; done) | (simp; omega)) | refine Below.drew ?_ | refine below_drewN ?_ _)) (by first | omega | (simp; done) | (simp; omega) | (have hq_ := hb.size; omega)) hb
        have hx_ := rw_below (k := w4.heap.size) hb (by with_reducible repeat (first | assumption | (refine rw_new ?e_; case e_ => first | rfl | (simp; done) | (simp; omega)) | apply rw_self | (apply rw_other; case hn => first | omega | (simp; omega)) | apply rw_alloc | apply rw_drew | apply rw_drewN))
        (try clear hs)
        (try clear hsc0 hsc1 hsc2 hsc3 hsc4 hsc5)
        have hs := hx_
        clear hx_
        obtain ⟨hsc0, hsc1, hsc2, hsc3, hsc4, hsc5⟩ := cel6 hs
        clear hb
        have hls := rw_lt hs
        go_wp2_with fail
        refine (hC _).mono ?_
        rintro e w8 ⟨rfl, hb⟩
        have hs_w8 := hb.size
        (try simp at hs_w8)
        have hB_w8 : Below w.heap.size w w8 := below_then (w := w) (by with_reducible repeat (first | exact Below.refl _ _ | assumption | ((first | refine Below.alloc ?_ ?b_ _ | refine bw_set ?_ ?b_ | refine Below.setCell ?_ ?b_ _); case b_ => first | omega | (simp; done) | (simp; omega)) | refine Below.drew ?_ | refine below_drewN ?_ _)) (by first | omega | (simp; done) | (simp; omega) | (have hq_ := hb.size; omega)) hb
        clear hb
        go_wp2_with fail
        (try go_frame)
        refine wp_region_grow [(0, none), (1, none), (2, none), (3, none), (4, none), (5, none), (6, none), (7, none), (8, none), (9, none), (10, none), (11, none)] .done ?g1_ ?g2_ ?g3_ ?_
        case g1_ => kernel_rfl
        case g2_ => kernel_rfl
        case g3_ => exact fun _ _ _ _ _ h => h
        (apply wpG_p rfl rfl rfl rfl rfl; (intro w' K hK; (first | go_big_op | go_wp2_with fail); exact hK))
        (apply wpG_p rfl rfl rfl rfl rfl; (intro w' K hK; (first | go_big_op | go_wp2_with fail); exact hK))
        (apply wpG_p rfl rfl rfl rfl rfl; (intro w' K hK; (first | go_big_op | go_wp2_with fail); exact hK))
        refine wpG_skip rfl rfl rfl ?_
        refine wpG_skip rfl rfl rfl ?_
        refine wpG_skip rfl rfl rfl ?_
        refine wpG_skip rfl rfl rfl ?_
        refine wpG_skip rfl rfl rfl ?_
        refine wpG_skip rfl rfl rfl ?_
        refine wpG_skip rfl rfl rfl ?_
        (apply wpG_p rfl rfl rfl rfl rfl; (intro w' K hK; (first | go_big_op | go_wp2_with fail); exact hK))
        (apply wpG_p rfl rfl rfl rfl rfl; (intro w' K hK; (first | go_big_op | go_wp2_with fail); exact hK))
        refine wpG_nil (fun w9 hB1 hG hD => ?_)
        clear hG
        (try clear hD)
        refine wpOrd_nil ?_
        have hb := hB1
        clear hB1
        have hs_w9 := hb.size
        (try simp at hs_w9)
        have hB_w9 : Below w.heap.size w w9 := below_then (w := w) (by with_reducible repeat (first | exact Below.refl _ _ | assumption | ((first | refine Below.alloc ?_ ?b_ _ | refine bw_set ?_ ?b_ | refine Below.setCell ?_ ?b_ _); case b_ => first | omega | (simp; done) | (simp; omega)) | refine Below.drew ?_ | refine below_drewN ?_ _)) (by first | omega | (simp; done) | (simp; omega) | (have hq_ := hb.size; omega)) hb
        clear hb
        go_wp2_with fail
        go_ret
        exact ⟨rfl, (by with_reducible repeat (first | exact Below.refl _ _ | assumption | ((first | refine Below.alloc ?_ ?b_ _ | refine bw_set ?_ ?b_ | refine Below.setCell ?_ ?b_ _); case b_ => first | omega | (simp; done) | (simp; omega)) | refine Below.drew ?_ | refine below_drewN ?_ _))⟩
      · skip
        refine (hI _).mono ?_
        rintro e w7 ⟨rfl, hb⟩
        have hs_w7 := hb.size
        (try simp at hs_w7)
        have hB_w7 : Below w.heap.size w w7 := below_then (w := w) (by with_reducible repeat (first | exact Below.refl _ _ | assumption | ((first | refine Below.alloc ?_ ?b_ _ | refine bw_set ?_ ?b_ | refine Below.setCell ?_ ?b_ _); case b_ => first | omega | (simp; done) | (simp; omega)) | refine Below.drew ?_ | refine below_drewN ?_ _)) (by first | omega | (simp; done) | (simp; omega) | (have hq_ := hb.size; omega)) hb
        have hx_ := rw_below (k := w4.heap.size) hb (by with_reducible repeat (first | assumption | (refine rw_new ?e_; case e_ => first | rfl | (simp; done) | (simp; omega)) | apply rw_self | (apply rw_other; case hn => first | omega | (simp; omega)) | apply rw_alloc | apply rw_drew | apply rw_drewN))
        (try clear hs)
        (try clear hsc0 hsc1 hsc2 hsc3 hsc4 hsc5)
        have hs := hx_
        clear hx_
        obtain ⟨hsc0, hsc1, hsc2, hsc3, hsc4, hsc5⟩ := cel6 hs
        clear hb
        have hls := rw_lt hs
        go_wp2_with fail
        refine (hC _).mono ?_
        rintro e w8 ⟨rfl, hb⟩
        have hs_w8 := hb.size
        (try simp at hs_w8)
        have hB_w8 : Below w.heap.size w w8 := below_then (w := w) (by with_reducible repeat (first | exact Below.refl _ _ | assumption | ((first | refine Below.alloc ?_ ?b_ _ | refine bw_set ?_ ?b_ | refine Below.setCell ?_ ?b_ _); case b_ => first | omega | (simp; done) | (simp; omega)) | refine Below.drew ?_ | refine below_drewN ?_ _)) (by first | omega | (simp; done) | (simp; omega) | (have hq_ := hb.size; omega)) hb
        clear hb
        go_wp2_with fail
        generalize hwy_ : World.alloc _ _ = wk
        have hB_wk : Below w.heap.size w wk := bw_eq hwy_ (by with_reducible repeat (first | exact Below.refl _ _ | assumption | ((first | refine Below.alloc ?_ ?b_ _ | refine bw_set ?_ ?b_ | refine Below.setCell ?_ ?b_ _); case b_ => first | omega | (simp; done) | (simp; omega)) | refine Below.drew ?_ | refine below_drewN ?_ _))
        have hx_ := rw_eq (k := w8.heap.size) hwy_ (by with_reducible repeat (first | assumption | (refine rw_new ?e_; case e_ => first | rfl | (simp; done) | (simp; omega)) | apply rw_self | (apply rw_other; case hn => first | omega | (simp; omega)) | apply rw_alloc | apply rw_drew | apply rw_drewN))
        (try clear hr)
        have hr := hx_
        clear hx_
        have hl_hr := rw_lt hr
        clear hwy_
        (try go_frame)
        refine wp_region_grow [(0, none), (1, none), (2, none), (3, none), (4, none), (5, none), (6, none), (7, some (.val (fun v => v = .agg #[.int .i64 65536, .int .i64 0, .int .i64 0, .int .i64 65536, .int .i64 0, .int .i64 0]))), (8, none), (9, none), (10, none), (11, none)] .done ?g1_ ?g2_ ?g3_ ?_
        case g1_ => kernel_rfl
        case g2_ => kernel_rfl
        case g3_ => exact fun _ _ _ _ _ h => h
        (apply wpG_p rfl rfl rfl rfl rfl; (intro w' K hK; (first | go_big_op | go_wp2_with fail); exact hK))
        (apply wpG_p rfl rfl rfl rfl rfl; (intro w' K hK; (first | go_big_op | go_wp2_with fail); exact hK))
        (apply wpG_p rfl rfl rfl rfl rfl; (intro w' K hK; (first | go_big_op | go_wp2_with fail); exact hK))
        (apply wpG_p rfl rfl rfl rfl rfl; (intro w' K hK; (first | go_big_op | go_wp2_with fail); exact hK))
        (apply wpG_p rfl rfl rfl rfl rfl; (intro w' K hK; (first | go_big_op | go_wp2_with fail); exact hK))
        (apply wpG_p rfl rfl rfl rfl rfl; (intro w' K hK; (first | go_big_op | go_wp2_with fail); exact hK))
        (apply wpG_l rfl rfl rfl rfl rfl; (intro w' K hC hK; (refine wp_load_row 25 _ rfl (w8.heap.size) rfl _ _ _ _ (rw_below hC.1 hr) Try.underlying25 rfl (by kernel_rfl) ?_); change K (Act.put _ (some 174) _) _; simp only [Act.put, List.setIfInBounds_toArray, List.set_cons_succ, List.set_cons_zero]; exact hK); (case he => first | rfl | (simp [Act.put, *]; done)))
        refine wpG_g2 (d := 175) rfl rfl rfl rfl (by first | exact ⟨_, 0, rfl⟩ | (exact ⟨_, rfl⟩)) (fun v => by simp only [Act.put, List.setIfInBounds_toArray, List.set_cons_succ, List.set_cons_zero]; rfl) (fun w' K hC hK => ?_) (fun v hv => ?_)
        · (have hr' := hC.old; simp at hr'; (first | go_big_op | go_wp2_with fail); (refine Calls.mono (munit_any _) ?_; rintro e w2_ ⟨rfl, hb2_⟩; exact hK _ _ rfl hb2_ trivial))
        obtain rfl := hv
        (apply wpG_p rfl rfl rfl rfl rfl; (intro w' K hK; (first | go_big_op | go_wp2_with fail); exact hK))
        (apply wpG_p rfl rfl rfl rfl rfl; (intro w' K hK; (first | go_big_op | go_wp2_with fail); exact hK))
        (apply wpG_p rfl rfl rfl rfl rfl; (intro w' K hK; (first | go_big_op | go_wp2_with fail); exact hK))
        (apply wpG_p rfl rfl rfl rfl rfl; (intro w' K hK; (first | go_big_op | go_wp2_with fail); exact hK))
        refine wpG_nil (fun w9 hB1 hG hD => ?_)
        clear hG
        (try clear hD)
        refine wpOrd_nil ?_
        have hb := hB1
        clear hB1
        have hs_w9 := hb.size
        (try simp at hs_w9)
        have hB_w9 : Below w.heap.size w w9 := below_then (w := w) (by with_reducible repeat (first | exact Below.refl _ _ | assumption | ((first | refine Below.alloc ?_ ?b_ _ | refine bw_set ?_ ?b_ | refine Below.setCell ?_ ?b_ _); case b_ => first | omega | (simp; done) | (simp; omega)) | refine Below.drew ?_ | refine below_drewN ?_ _)) (by first | omega | (simp; done) | (simp; omega) | (have hq_ := hb.size; omega)) hb
        clear hb
        go_wp2_with fail
        go_ret
        exact ⟨rfl, (by with_reducible repeat (first | exact Below.refl _ _ | assumption | ((first | refine Below.alloc ?_ ?b_ _ | refine bw_set ?_ ?b_ | refine Below.setCell ?_ ?b_ _); case b_ => first | omega | (simp; done) | (simp; omega)) | refine Below.drew ?_ | refine below_drewN ?_ _))⟩
    · skip
      have en : sgn d n = n := if_neg hneg
      have eo : sgn d o = o := if_neg hneg
      have ed : sgn d d = d := if_neg hneg
      rw [en, ed] at nx
      rw [eo, ed] at ny
      obtain ⟨nx1, nx2⟩ := nx
      obtain ⟨ny1, ny2⟩ := ny
      obtain ⟨xb1, xb2⟩ := xb
      obtain ⟨yb1, yb2⟩ := yb
      have nx1 := Lib.hid nx1
      have nx2 := Lib.hid nx2
      have ny1 := Lib.hid ny1
      have ny2 := Lib.hid ny2
      obtain ⟨M, hmax, M1, M2, M3, M4, M5⟩ := max4 x y
      have hM : M ≤ 2147483648 := by omega
      have hM2 : ¬ 2147483648 < M := by omega
      clear M1 M2 M3 M4 M5
      go_upto_region 14 with fail
      go_wp2_with fail
      all_goals (try (exfalso; omega))
      refine (within_ok x (n) (d) _ xb1 xb2 (by omega) (by omega) (by omega) (by omega) nx1.out nx2.out).mono ?_
      rintro e w' ⟨rfl, rfl⟩
      go_wp2_with fail
      refine (within_ok y (o) (d) _ yb1 yb2 (by omega) (by omega) (by omega) (by omega) ny1.out ny2.out).mono ?_
      rintro e w' ⟨rfl, rfl⟩
      clear hmax hM hM2
      go_upto_region 18 with fail
      obtain ⟨hqc0, hqc1⟩ := cel2 hq
      have hqn : w.heap.size + 1 < w4.heap.size := rw_lt hq
      go_wp2_with fail
      (try rw [hsh0.out])
      (try rw [hsh1.out])
      clear hqc0 hqc1 hsh0 hsh1
      rcases inv_ask (E := E) (F := F) ha.out hb.out a0 b0 with ⟨v0, v1, v2, v3, v4, v5, er, her, hI⟩ | ⟨hI, hC⟩
      · skip
        have hne : (er != 0) = true := by simpa using her
        obtain ⟨c0, c1, c2, c3, c4, c5, c6, hC, _⟩ := cc_both a 0 0 b (E * 65536) (F * 65536) v0 v1 v2 v3 v4 v5
        refine (hI _).mono ?_
        rintro e w7 ⟨rfl, hb⟩
        have hs_w7 := hb.size
        (try simp at hs_w7)
        have hB_w7 : Below w.heap.size w w7 := below_then (w := w) (by with_reducible repeat (first | exact Below.refl _ _ | assumption | ((first | refine Below.alloc ?_ ?b_ _ | refine bw_set ?_ ?b_ | refine Below.setCell ?_ ?b_ _); case b_ => first | omega | (simp; done) | (simp; omega)) | refine Below.drew ?_ | refine below_drewN ?_ _)) (by first | omega | (simp; done) | (simp; omega) | (have hq_ := hb.size; omega)) hb
        have hx_ := rw_below (k := w4.heap.size) hb (by with_reducible repeat (first | assumption | (refine rw_new ?e_; case e_ => first | rfl | (simp; done) | (simp; omega)) | apply rw_self | (apply rw_other; case hn => first | omega | (simp; omega)) | apply rw_alloc | apply rw_drew | apply rw_drewN))
        (try clear hs)
        (try clear hsc0 hsc1 hsc2 hsc3 hsc4 hsc5)
        have hs := hx_
        clear hx_
        obtain ⟨hsc0, hsc1, hsc2, hsc3, hsc4, hsc5⟩ := cel6 hs
        clear hb
        have hls := rw_lt hs
        go_wp2_with fail
        refine (hC _).mono ?_
        rintro e w8 ⟨rfl, hb⟩
        have hs_w8 := hb.size
        (try simp at hs_w8)
        have hB_w8 : Below w.heap.size w w8 := below_then (w := w) (by with_reducible repeat (first | exact Below.refl _ _ | assumption | ((first | refine Below.alloc ?_ ?b_ _ | refine bw_set ?_ ?b_ | refine Below.setCell ?_ ?b_ _); case b_ => first | omega | (simp; done) | (simp; omega)) | refine Below.drew ?_ | refine below_drewN ?_ _)) (by first | omega | (simp; done) | (simp; omega) | (have hq_ := hb.size; omega)) hb
        clear hb
        go_wp2_with fail
        (try go_frame)
        refine wp_region_grow [(0, none), (1, none), (2, none), (3, none), (4, none), (5, none), (6, none), (7, none), (8, none), (9, none), (10, none), (11, none)] .done ?g1_ ?g2_ ?g3_ ?_
        case g1_ => kernel_rfl
        case g2_ => kernel_rfl
        case g3_ => exact fun _ _ _ _ _ h => h
        (apply wpG_p rfl rfl rfl rfl rfl; (intro w' K hK; (first | go_big_op | go_wp2_with fail); exact hK))
        (apply wpG_p rfl rfl rfl rfl rfl; (intro w' K hK; (first | go_big_op | go_wp2_with fail); exact hK))
        (apply wpG_p rfl rfl rfl rfl rfl; (intro w' K hK; (first | go_big_op | go_wp2_with fail); exact hK))
        refine wpG_skip rfl rfl rfl ?_
        refine wpG_skip rfl rfl rfl ?_
        refine wpG_skip rfl rfl rfl ?_
        refine wpG_skip rfl rfl rfl ?_
        refine wpG_skip rfl rfl rfl ?_
        refine wpG_skip rfl rfl rfl ?_
        refine wpG_skip rfl rfl rfl ?_
        (apply wpG_p rfl rfl rfl rfl rfl; (intro w' K hK; (first | go_big_op | go_wp2_with fail); exact hK))
        (apply wpG_p rfl rfl rfl rfl rfl; (intro w' K hK; (first | go_big_op | go_wp2_with fail); exact hK))
        refine wpG_nil (fun w9 hB1 hG hD => ?_)
        clear hG
        (try clear hD)
        refine wpOrd_nil ?_
        have hb := hB1
        clear hB1
        have hs_w9 := hb.size
        (try simp at hs_w9)
        have hB_w9 : Below w.heap.size w w9 := below_then (w := w) (by with_reducible repeat (first | exact Below.refl _ _ | assumption | ((first | refine Below.alloc ?_ ?b_ _ | refine bw_set ?_ ?b_ | refine Below.setCell ?_ ?b_ _); case b_ => first | omega | (simp; done) | (simp; omega)) | refine Below.drew ?_ | refine below_drewN ?_ _)) (by first | omega | (simp; done) | (simp; omega) | (have hq_ := hb.size; omega)) hb
        clear hb
        go_wp2_with fail
        go_ret
        exact ⟨rfl, (by with_reducible repeat (first | exact Below.refl _ _ | assumption | ((first | refine Below.alloc ?_ ?b_ _ | refine bw_set ?_ ?b_ | refine Below.setCell ?_ ?b_ _); case b_ => first | omega | (simp; done) | (simp; omega)) | refine Below.drew ?_ | refine below_drewN ?_ _))⟩
      · skip
        refine (hI _).mono ?_
        rintro e w7 ⟨rfl, hb⟩
        have hs_w7 := hb.size
        (try simp at hs_w7)
        have hB_w7 : Below w.heap.size w w7 := below_then (w := w) (by with_reducible repeat (first | exact Below.refl _ _ | assumption | ((first | refine Below.alloc ?_ ?b_ _ | refine bw_set ?_ ?b_ | refine Below.setCell ?_ ?b_ _); case b_ => first | omega | (simp; done) | (simp; omega)) | refine Below.drew ?_ | refine below_drewN ?_ _)) (by first | omega | (simp; done) | (simp; omega) | (have hq_ := hb.size; omega)) hb
        have hx_ := rw_below (k := w4.heap.size) hb (by with_reducible repeat (first | assumption | (refine rw_new ?e_; case e_ => first | rfl | (simp; done) | (simp; omega)) | apply rw_self | (apply rw_other; case hn => first | omega | (simp; omega)) | apply rw_alloc | apply rw_drew | apply rw_drewN))
        (try clear hs)
        (try clear hsc0 hsc1 hsc2 hsc3 hsc4 hsc5)
        have hs := hx_
        clear hx_
        obtain ⟨hsc0, hsc1, hsc2, hsc3, hsc4, hsc5⟩ := cel6 hs
        clear hb
        have hls := rw_lt hs
        go_wp2_with fail
        refine (hC _).mono ?_
        rintro e w8 ⟨rfl, hb⟩
        have hs_w8 := hb.size
        (try simp at hs_w8)
        have hB_w8 : Below w.heap.size w w8 := below_then (w := w) (by with_reducible repeat (first | exact Below.refl _ _ | assumption | ((first | refine Below.alloc ?_ ?b_ _ | refine bw_set ?_ ?b_ | refine Below.setCell ?_ ?b_ _); case b_ => first | omega | (simp; done) | (simp; omega)) | refine Below.drew ?_ | refine below_drewN ?_ _)) (by first | omega | (simp; done) | (simp; omega) | (have hq_ := hb.size; omega)) hb
        clear hb
        go_wp2_with fail
        generalize hwy_ : World.alloc _ _ = wk
        have hB_wk : Below w.heap.size w wk := bw_eq hwy_ (by with_reducible repeat (first | exact Below.refl _ _ | assumption | ((first | refine Below.alloc ?_ ?b_ _ | refine bw_set ?_ ?b_ | refine Below.setCell ?_ ?b_ _); case b_ => first | omega | (simp; done) | (simp; omega)) | refine Below.drew ?_ | refine below_drewN ?_ _))
        have hx_ := rw_eq (k := w8.heap.size) hwy_ (by with_reducible repeat (first | assumption | (refine rw_new ?e_; case e_ => first | rfl | (simp; done) | (simp; omega)) | apply rw_self | (apply rw_other; case hn => first | omega | (simp; omega)) | apply rw_alloc | apply rw_drew | apply rw_drewN))
        (try clear hr)
        have hr := hx_
        clear hx_
        have hl_hr := rw_lt hr
        clear hwy_
        (try go_frame)
        refine wp_region_grow [(0, none), (1, none), (2, none), (3, none), (4, none), (5, none), (6, none), (7, some (.val (fun v => v = .agg #[.int .i64 65536, .int .i64 0, .int .i64 0, .int .i64 65536, .int .i64 0, .int .i64 0]))), (8, none), (9, none), (10, none), (11, none)] .done ?g1_ ?g2_ ?g3_ ?_
        case g1_ => kernel_rfl
        case g2_ => kernel_rfl
        case g3_ => exact fun _ _ _ _ _ h => h
        (apply wpG_p rfl rfl rfl rfl rfl; (intro w' K hK; (first | go_big_op | go_wp2_with fail); exact hK))
        (apply wpG_p rfl rfl rfl rfl rfl; (intro w' K hK; (first | go_big_op | go_wp2_with fail); exact hK))
        (apply wpG_p rfl rfl rfl rfl rfl; (intro w' K hK; (first | go_big_op | go_wp2_with fail); exact hK))
        (apply wpG_p rfl rfl rfl rfl rfl; (intro w' K hK; (first | go_big_op | go_wp2_with fail); exact hK))
        (apply wpG_p rfl rfl rfl rfl rfl; (intro w' K hK; (first | go_big_op | go_wp2_with fail); exact hK))
        (apply wpG_p rfl rfl rfl rfl rfl; (intro w' K hK; (first | go_big_op | go_wp2_with fail); exact hK))
        (apply wpG_l rfl rfl rfl rfl rfl; (intro w' K hC hK; (refine wp_load_row 25 _ rfl (w8.heap.size) rfl _ _ _ _ (rw_below hC.1 hr) Try.underlying25 rfl (by kernel_rfl) ?_); change K (Act.put _ (some 174) _) _; simp only [Act.put, List.setIfInBounds_toArray, List.set_cons_succ, List.set_cons_zero]; exact hK); (case he => first | rfl | (simp [Act.put, *]; done)))
        refine wpG_g2 (d := 175) rfl rfl rfl rfl (by first | exact ⟨_, 0, rfl⟩ | (exact ⟨_, rfl⟩)) (fun v => by simp only [Act.put, List.setIfInBounds_toArray, List.set_cons_succ, List.set_cons_zero]; rfl) (fun w' K hC hK => ?_) (fun v hv => ?_)
        · (have hr' := hC.old; simp at hr'; (first | go_big_op | go_wp2_with fail); (refine Calls.mono (munit_any _) ?_; rintro e w2_ ⟨rfl, hb2_⟩; exact hK _ _ rfl hb2_ trivial))
        obtain rfl := hv
        (apply wpG_p rfl rfl rfl rfl rfl; (intro w' K hK; (first | go_big_op | go_wp2_with fail); exact hK))
        (apply wpG_p rfl rfl rfl rfl rfl; (intro w' K hK; (first | go_big_op | go_wp2_with fail); exact hK))
        (apply wpG_p rfl rfl rfl rfl rfl; (intro w' K hK; (first | go_big_op | go_wp2_with fail); exact hK))
        (apply wpG_p rfl rfl rfl rfl rfl; (intro w' K hK; (first | go_big_op | go_wp2_with fail); exact hK))
        refine wpG_nil (fun w9 hB1 hG hD => ?_)
        clear hG
        (try clear hD)
        refine wpOrd_nil ?_
        have hb := hB1
        clear hB1
        have hs_w9 := hb.size
        (try simp at hs_w9)
        have hB_w9 : Below w.heap.size w w9 := below_then (w := w) (by with_reducible repeat (first | exact Below.refl _ _ | assumption | ((first | refine Below.alloc ?_ ?b_ _ | refine bw_set ?_ ?b_ | refine Below.setCell ?_ ?b_ _); case b_ => first | omega | (simp; done) | (simp; omega)) | refine Below.drew ?_ | refine below_drewN ?_ _)) (by first | omega | (simp; done) | (simp; omega) | (have hq_ := hb.size; omega)) hb
        clear hb
        go_wp2_with fail
        go_ret
        exact ⟨rfl, (by with_reducible repeat (first | exact Below.refl _ _ | assumption | ((first | refine Below.alloc ?_ ?b_ _ | refine bw_set ?_ ?b_ | refine Below.setCell ?_ ?b_ _); case b_ => first | omega | (simp; done) | (simp; omega)) | refine Below.drew ?_ | refine below_drewN ?_ _))⟩
end Go.Proofs.Ytpgaibkjokoanaa.T3
