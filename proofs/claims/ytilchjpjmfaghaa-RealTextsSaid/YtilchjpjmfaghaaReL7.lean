/- RealTexts: the walk. -/
import Derived.Test.YtilchjpjmfaghaaReL7a
import Derived.Test.YtilchjpjmfaghaaOrd3
import Derived.Test.YtilchjpjmfaghaaDraF
import Derived.HandedShaped
import Derived.WalkKit
import Derived.Lib.Hide
import Derived.Deep.QuietTactic
import Derived.BigQuiet
import Derived.Lib.QuietBelow
import Derived.Deep.RegionHeld3
import Derived.WalkLawsBesides
import Derived.WalkSpells
import Derived.Outline
import Derived.Deep.DeepFit
import Derived.Maps.AppendAt
import Derived.Deep.AppendLies
import Derived.Deep.CutRange
import Derived.OpenShut
namespace Go.Proofs.Ytilchjpjmfaghaa.T3
set_option linter.unusedSimpArgs false
set_option linter.unusedVariables false
open Go.RowKit
attribute [local go_sem] Oper.semAt_some
set_option maxHeartbeats 4000000
set_option maxRecDepth 100000

theorem texts_walk (x : Int) (s : ByteArray) (p q : Int) (w : World) (s_x : (Lit.int .i64 x).wf = true) (s_s : s.size ≤ maxLen) (s_p : (Lit.int .u8 p).wf = true) (s_q : (Lit.int .u8 q).wf = true) :
    Calls Try.prog 4 #[.int .i64 x, .string s, .int .u8 p, .int .u8 q] w fun e w' => e = .returned (.bool true) ∧ Below w.heap.size w w' := by
  obtain ⟨hp1, hp2⟩ := bounds_u8 s_p
  obtain ⟨hq1, hq2⟩ := bounds_u8 s_q
  unfold maxLen at s_s
  clear s_x s_p s_q
  obtain ⟨S, hS1, hS2, hS3⟩ := own_str x
  obtain ⟨c, hc⟩ := at16 (q % 16) (by omega) (by omega)
  have hqt : q.tmod 16 = q % 16 := Int.tmod_eq_emod_of_nonneg hq1
  have hq0 : 0 ≤ q % 16 ∧ q % 16 < 16 := by omega
  obtain ⟨q', hq'⟩ : ∃ q', q % 16 = q' := ⟨_, rfl⟩
  rw [hq'] at hc hqt hq0
  obtain ⟨hq3, hq4⟩ := hq0
  have hpt : p.tmod (S.size : Int) = p % (S.size : Int) := Int.tmod_eq_emod_of_nonneg hp1
  have hp0 : 0 ≤ p % (S.size : Int) ∧ p % (S.size : Int) < S.size := ⟨Int.emod_nonneg _ (by omega), Int.emod_lt_of_pos _ (by omega)⟩
  obtain ⟨r, hr⟩ : ∃ r : Nat, p % (S.size : Int) = r := ⟨(p % (S.size : Int)).toNat, by omega⟩
  rw [hr] at hpt hp0
  have hrl : r < S.size := by omega
  obtain ⟨m, hm⟩ : ∃ m, min (s.size : Int) 60 = m := ⟨_, rfl⟩
  obtain ⟨m2, hm2⟩ : ∃ m, min (s.size : Int) 12 = m := ⟨_, rfl⟩
  have hmb : 0 ≤ m ∧ m ≤ s.size := by omega
  have hmb2 : 0 ≤ m2 ∧ m2 ≤ s.size ∧ m2 ≤ 12 := by omega
  have hmA := min2 (s.size : Int) 60
  have hmB := min2 (s.size : Int) 12
  rw [hm] at hmA
  rw [hm2] at hmB
  obtain ⟨T1, hT1⟩ : ∃ T, s.extract 0 m.toNat = T := ⟨_, rfl⟩
  obtain ⟨T2, hT2⟩ : ∃ T, s.extract 0 m2.toNat = T := ⟨_, rfl⟩
  have t1 : T1.size ≤ s.size := by rw [← hT1, ByteArray.size_extract]; omega
  have t2 : T2.size ≤ 12 := by rw [← hT2, ByteArray.size_extract]; omega
  obtain ⟨T3, hT3⟩ : ∃ T, T2 ++ ({ data := #[101, 45, 53] } : ByteArray) = T := ⟨_, rfl⟩
  have t3 : T3.size ≤ 15 := by rw [← hT3, ByteArray.size_append, show ({ data := #[101, 45, 53] } : ByteArray).size = 3 from rfl]; omega
  have k3 : ({ data := #[101, 45, 53] } : ByteArray).size = 3 := rfl
  obtain ⟨hmb1, hmb3⟩ := hmb
  obtain ⟨hmb4, hmb5, hmb6⟩ := hmb2
  clear hq' hr hp0 hm hm2
  go_enter Try.func4, Try.ntmps4
  go_wp2_with fail
  refine (works_any _).mono ?_
  rintro e w1 ⟨rfl, hb⟩
  have hs_w1 := hb.size
  (try simp at hs_w1)
  have hB_w1 : Below w.heap.size w w1 := below_then (w := w) (by with_reducible repeat (first | exact Below.refl _ _ | assumption | ((first | refine Below.alloc ?_ ?b_ _ | refine bw_set ?_ ?b_ | refine Below.setCell ?_ ?b_ _); case b_ => first | omega | (simp; done) | (simp; omega)) | refine Below.drew ?_ | refine below_drewN ?_ _)) (by first | omega | (simp; done) | (simp; omega) | (have hq_ := hb.size; omega)) hb
  clear hb
  go_wp2_with fail
  refine (cutB_any _ _).mono ?_
  rintro e w2 ⟨rfl, hb⟩
  have hs_w2 := hb.size
  (try simp at hs_w2)
  have hB_w2 : Below w.heap.size w w2 := below_then (w := w) (by with_reducible repeat (first | exact Below.refl _ _ | assumption | ((first | refine Below.alloc ?_ ?b_ _ | refine bw_set ?_ ?b_ | refine Below.setCell ?_ ?b_ _); case b_ => first | omega | (simp; done) | (simp; omega)) | refine Below.drew ?_ | refine below_drewN ?_ _)) (by first | omega | (simp; done) | (simp; omega) | (have hq_ := hb.size; omega)) hb
  clear hb
  go_wp2_with fail
  go_loopw [26] (fun v wr => ∃ i : Nat, i ≤ 2 ∧ v = .int .i64 i ∧ Below w.heap.size w wr) (fun v _ => 2 - (intOf v).toNat)
  case atStart => exact ⟨0, Nat.zero_le _, rfl, (by with_reducible repeat (first | exact Below.refl _ _ | assumption | ((first | refine Below.alloc ?_ ?b_ _ | refine bw_set ?_ ?b_ | refine Below.setCell ?_ ?b_ _); case b_ => first | omega | (simp; done) | (simp; omega)) | refine Below.drew ?_ | refine below_drewN ?_ _))⟩
  case round =>
    clear hB_w1 hs_w1 hB_w2 hs_w2
    obtain ⟨i, hi, rfl, hB⟩ := hrel
    have hsz := hB.size
    by_cases hlt : i < 2
    · obtain ⟨a, hix⟩ := at1 x (cutV x) i hlt
      rcases print_both a with ⟨hin, P, g1, g2⟩ | ⟨hin, g1⟩
      · have Hin := Lib.hid hin
        clear hin
        go_wp2_with fail
        refine (g1 _).mono ?_
        rintro e u1 ⟨rfl, hb⟩
        have hs_u1 := hb.size
        (try simp at hs_u1)
        have hB_u1 : Below w.heap.size w u1 := below_then (w := w) (by with_reducible repeat (first | exact Below.refl _ _ | assumption | ((first | refine Below.alloc ?_ ?b_ _ | refine bw_set ?_ ?b_ | refine Below.setCell ?_ ?b_ _); case b_ => first | omega | (simp; done) | (simp; omega)) | refine Below.drew ?_ | refine below_drewN ?_ _)) (by first | omega | (simp; done) | (simp; omega) | (have hq_ := hb.size; omega)) hb
        clear hb
        go_wp2_with fail
        refine (up0 (ris_any _ _)).mono ?_
        rintro e u2 ⟨rfl, hb⟩
        have hs_u2 := hb.size
        (try simp at hs_u2)
        have hB_u2 : Below w.heap.size w u2 := below_then (w := w) (by with_reducible repeat (first | exact Below.refl _ _ | assumption | ((first | refine Below.alloc ?_ ?b_ _ | refine bw_set ?_ ?b_ | refine Below.setCell ?_ ?b_ _); case b_ => first | omega | (simp; done) | (simp; omega)) | refine Below.drew ?_ | refine below_drewN ?_ _)) (by first | omega | (simp; done) | (simp; omega) | (have hq_ := hb.size; omega)) hb
        clear hb
        rw [Hin.out]
        go_wp2_with fail
        refine (g2 _).mono ?_
        rintro e u3 ⟨rfl, hb⟩
        have hs_u3 := hb.size
        (try simp at hs_u3)
        have hB_u3 : Below w.heap.size w u3 := below_then (w := w) (by with_reducible repeat (first | exact Below.refl _ _ | assumption | ((first | refine Below.alloc ?_ ?b_ _ | refine bw_set ?_ ?b_ | refine Below.setCell ?_ ?b_ _); case b_ => first | omega | (simp; done) | (simp; omega)) | refine Below.drew ?_ | refine below_drewN ?_ _)) (by first | omega | (simp; done) | (simp; omega) | (have hq_ := hb.size; omega)) hb
        clear hb
        go_wp2_with fail
        go_roundw
        case rel => exact ⟨i + 1, by omega, by go_num, (by with_reducible repeat (first | exact Below.refl _ _ | assumption | ((first | refine Below.alloc ?_ ?b_ _ | refine bw_set ?_ ?b_ | refine Below.setCell ?_ ?b_ _); case b_ => first | omega | (simp; done) | (simp; omega)) | refine Below.drew ?_ | refine below_drewN ?_ _))⟩
        case measure => simp [intOf]; omega
      · have Hin := Lib.hid hin
        clear hin
        go_wp2_with fail
        refine (g1 _).mono ?_
        rintro e u1 ⟨rfl, hb⟩
        have hs_u1 := hb.size
        (try simp at hs_u1)
        have hB_u1 : Below w.heap.size w u1 := below_then (w := w) (by with_reducible repeat (first | exact Below.refl _ _ | assumption | ((first | refine Below.alloc ?_ ?b_ _ | refine bw_set ?_ ?b_ | refine Below.setCell ?_ ?b_ _); case b_ => first | omega | (simp; done) | (simp; omega)) | refine Below.drew ?_ | refine below_drewN ?_ _)) (by first | omega | (simp; done) | (simp; omega) | (have hq_ := hb.size; omega)) hb
        clear hb
        go_wp2_with fail
        refine (up0 (ris_any _ _)).mono ?_
        rintro e u2 ⟨rfl, hb⟩
        have hs_u2 := hb.size
        (try simp at hs_u2)
        have hB_u2 : Below w.heap.size w u2 := below_then (w := w) (by with_reducible repeat (first | exact Below.refl _ _ | assumption | ((first | refine Below.alloc ?_ ?b_ _ | refine bw_set ?_ ?b_ | refine Below.setCell ?_ ?b_ _); case b_ => first | omega | (simp; done) | (simp; omega)) | refine Below.drew ?_ | refine below_drewN ?_ _)) (by first | omega | (simp; done) | (simp; omega) | (have hq_ := hb.size; omega)) hb
        clear hb
        rw [Hin.out]
        go_wp2_with fail
        go_roundw
        case rel => exact ⟨i + 1, by omega, by go_num, (by with_reducible repeat (first | exact Below.refl _ _ | assumption | ((first | refine Below.alloc ?_ ?b_ _ | refine bw_set ?_ ?b_ | refine Below.setCell ?_ ?b_ _); case b_ => first | omega | (simp; done) | (simp; omega)) | refine Below.drew ?_ | refine below_drewN ?_ _))⟩
        case measure => simp [intOf]; omega
    · have hi2 : i = 2 := by omega
      subst hi2
      go_wp2_with fail
      refine (cutB_any _ _).mono ?_
      rintro e u4 ⟨rfl, hb⟩
      have hs_u4 := hb.size
      (try simp at hs_u4)
      have hB_u4 : Below w.heap.size w u4 := below_then (w := w) (by with_reducible repeat (first | exact Below.refl _ _ | assumption | ((first | refine Below.alloc ?_ ?b_ _ | refine bw_set ?_ ?b_ | refine Below.setCell ?_ ?b_ _); case b_ => first | omega | (simp; done) | (simp; omega)) | refine Below.drew ?_ | refine below_drewN ?_ _)) (by first | omega | (simp; done) | (simp; omega) | (have hq_ := hb.size; omega)) hb
      clear hb
      go_wp2_with fail
      refine (hS3 _).mono ?_
      rintro e u5 ⟨rfl, hb⟩
      have hs_u5 := hb.size
      have hB_u5 : Below w.heap.size w u5 := hB_u4.trans (hb.mono (by omega))
      clear hb
      obtain ⟨W, cap, hcv0, hbW, hsW, hcW, hfW⟩ := own_new S u5
      have hcv := hcv0 u5 rfl
      clear hcv0
      obtain ⟨L, hL⟩ : ∃ L, S.size = L := ⟨_, rfl⟩
      rw [hL] at hcv hcW hfW hpt hS1 hS2 hrl
      clear hL
      have hL0 : ¬ L = 0 := by omega
      have hB_W : Below w.heap.size w W := hB_u5.trans (hbW.mono (by omega))
      clear hbW
      go_wp2_with fail
      have hcW1 := hcW
      obtain ⟨v0, hv0⟩ := hcW r hrl
      have hfr := hfW r hrl
      refine wp_region_ord (.s 0 .p (.s 1 .p (.s 2 .p (.s 3 .p (.s 4 .p (.s 5 .p (.s 6 .p (.s 7 .p (.s 8 .p (.s 9 .p (.s 10 .e .done))))))))))) (Held W [u5.heap.size]) (by kernel_rfl) (by kernel_rfl) (fun _ _ _ _ _ h => h) (Held.refl _ _) ?_
      (apply wpOrd_p2 rfl rfl rfl rfl rfl; (intro w' K hK; (first | go_big_move | go_big_op | go_wp2_with fail); exact hK))
      (apply wpOrd_p2 rfl rfl rfl rfl rfl; (intro w' K hK; (first | go_big_move | go_big_op | go_wp2_with fail); exact hK))
      (apply wpOrd_p2 rfl rfl rfl rfl rfl; (intro w' K hK; (first | go_big_move | go_big_op | go_wp2_with fail); exact hK))
      (apply wpOrd_p2 rfl rfl rfl rfl rfl; (intro w' K hK; (first | go_big_move | go_big_op | go_wp2_with fail); exact hK))
      (apply wpOrd_p2 rfl rfl rfl rfl rfl; (intro w' K hK; (first | go_big_move | go_big_op | go_wp2_with fail); exact hK))
      (apply wpOrd_p2 rfl rfl rfl rfl rfl; (intro w' K hK; (first | go_big_move | go_big_op | go_wp2_with fail); exact hK))
      (apply wpOrd_p2 rfl rfl rfl rfl rfl; (intro w' K hK; (first | go_big_move | go_big_op | go_wp2_with fail); exact hK))
      (apply wpOrd_p2 rfl rfl rfl rfl rfl; (intro w' K hK; (first | go_big_move | go_big_op | go_wp2_with fail); exact hK))
      (apply wpOrd_p2 rfl rfl rfl rfl rfl; (intro w' K hK; (first | go_big_move | go_big_op | go_wp2_with fail); exact hK))
      (apply wpOrd_p2 rfl rfl rfl rfl rfl; (intro w' K hK; (first | go_big_move | go_big_op | go_wp2_with fail); exact hK))
      (refine wpOrd_e1 rfl rfl (fun K hK => ?_)); (first | go_big_op | go_wp2_with fail)
      refine hK _ _ (by first | exact Held.drew (Held.setCell (Held.refl _ _) _ _ (.inr (by simp))) | exact Held.setCell (Held.refl _ _) _ _ (.inr (by simp)) | exact Held.setCell (Held.drew (Held.refl _ _)) _ _ (.inr (by simp))) ?_; clear hK K
      refine wpOrd_nil ?_
      skip
      clear hv0 hfr hpt
      have hB_X : Below w.heap.size w (W.setCell ⟨u5.heap.size, r, none⟩ (Value.int .u8 c)).drew := (by with_reducible repeat (first | exact Below.refl _ _ | assumption | ((first | refine Below.alloc ?_ ?b_ _ | refine bw_set ?_ ?b_ | refine Below.setCell ?_ ?b_ _); case b_ => first | omega | (simp; done) | (simp; omega)) | refine Below.drew ?_ | refine below_drewN ?_ _))
      have hcX : ∀ i, i < L → ∃ v : Int, (W.setCell ⟨u5.heap.size, r, none⟩ (Value.int .u8 c)).drew.cell? ⟨u5.heap.size, i, none⟩ = some (.int .u8 v) := fun i hi => someInt_setCell (hcW i hi) _ _
      obtain ⟨T, hTs, hct0⟩ := conv_oct (cap := cap) hcX
      generalize (W.setCell ⟨u5.heap.size, r, none⟩ (Value.int .u8 c)).drew = X at hB_X hcX hct0 ⊢
      have hct := hct0 X.drew (fun i _ => by simp)
      clear hct0
      clear hcX hcW hcW1 hfW hB_W hc
      go_wp2_with fail
      refine wp_region_ord (.s 0 .p (.s 1 .p (.s 2 .p (.s 3 .p (.s 4 .p (.s 5 .p (.s 7 .p (.s 8 .p (.s 9 .p (.s 10 .p (.s 11 .p (.s 12 .p (.s 14 .p (.s 6 .e (.s 13 .p .done))))))))))))))) (Held X []) (by kernel_rfl) (by kernel_rfl) (fun _ _ _ _ _ h => h) (Held.refl _ _) ?_
      (apply wpOrd_p2 rfl rfl rfl rfl rfl; (intro w' K hK; (first | go_big_move | go_big_op | go_wp2_with fail); exact hK))
      (apply wpOrd_p2 rfl rfl rfl rfl rfl; (intro w' K hK; (first | go_big_move | go_big_op | go_wp2_with fail); exact hK))
      (apply wpOrd_p2 rfl rfl rfl rfl rfl; (intro w' K hK; (first | go_big_move | go_big_op | go_wp2_with fail); exact hK))
      (apply wpOrd_p2 rfl rfl rfl rfl rfl; (intro w' K hK; (first | go_big_move | go_big_op | go_wp2_with fail); exact hK))
      (apply wpOrd_p2 rfl rfl rfl rfl rfl; (intro w' K hK; (first | go_big_move | go_big_op | go_wp2_with fail); exact hK))
      (apply wpOrd_p2 rfl rfl rfl rfl rfl; (intro w' K hK; (first | go_big_move | go_big_op | go_wp2_with fail); exact hK))
      (apply wpOrd_p2 rfl rfl rfl rfl rfl; (intro w' K hK; (first | go_big_move | go_big_op | go_wp2_with fail); exact hK))
      (apply wpOrd_p2 rfl rfl rfl rfl rfl; (intro w' K hK; (first | go_big_move | go_big_op | go_wp2_with fail); exact hK))
      (apply wpOrd_p2 rfl rfl rfl rfl rfl; (intro w' K hK; (first | go_big_move | go_big_op | go_wp2_with fail); exact hK))
      (apply wpOrd_p2 rfl rfl rfl rfl rfl; (intro w' K hK; (first | go_big_move | go_big_op | go_wp2_with fail); exact hK))
      (apply wpOrd_p2 rfl rfl rfl rfl rfl; (intro w' K hK; (first | go_big_move | go_big_op | go_wp2_with fail); exact hK))
      (apply wpOrd_p2 rfl rfl rfl rfl rfl; (intro w' K hK; (first | go_big_move | go_big_op | go_wp2_with fail); exact hK))
      (apply wpOrd_p2 rfl rfl rfl rfl rfl; (intro w' K hK; (first | go_big_move | go_big_op | go_wp2_with fail); exact hK))
      (refine wpOrd_e1 rfl rfl (fun K hK => ?_)); (first | go_big_op | go_wp2_with fail)
      refine hK _ _ (by repeat (first | with_reducible exact Held.refl _ _ | with_reducible assumption | with_reducible refine Held.drew ?_ | ((with_reducible refine Held.alloc ?_ ?hb_ _); (case hb_ => first | omega | (simp; done) | (simp; omega))) | ((with_reducible refine Held.setCell ?_ _ _ ?hb_); (case hb_ => (refine .inl ?_); first | omega | (simp; done) | (simp; omega))))) ?_; clear hK K
      (apply wpOrd_p2 rfl rfl rfl rfl rfl; (intro w' K hK; (first | go_big_move | go_big_op | go_wp2_with fail); exact hK))
      refine wpOrd_nil ?_
      skip
      clear hct
      go_wp2_with fail
      go_loopw [80] (fun v wr => ∃ i : Nat, i ≤ 3 ∧ v = .int .i64 i ∧ Below w.heap.size w wr) (fun v _ => 3 - (intOf v).toNat)
      case atStart => exact ⟨0, Nat.zero_le _, rfl, (by with_reducible repeat (first | exact Below.refl _ _ | assumption | ((first | refine Below.alloc ?_ ?b_ _ | refine bw_set ?_ ?b_ | refine Below.setCell ?_ ?b_ _); case b_ => first | omega | (simp; done) | (simp; omega)) | refine Below.drew ?_ | refine below_drewN ?_ _))⟩
      case round =>
        clear hB_X hB hsz hB_u4 hs_u4 hB_u5 hs_u5
        obtain ⟨i, hi, rfl, hB⟩ := hrel
        have hsz := hB.size
        by_cases hlt : i < 3
        · obtain ⟨Y, hY, hix⟩ := at3s T1 T T3 i hlt (by omega) (by omega) (by omega)
          go_wp2_with fail
          refine (mparse_any Y _ hY).mono ?_
          rintro e u6 ⟨rfl, hb⟩
          have hs_u6 := hb.size
          (try simp at hs_u6)
          have hB_u6 : Below w.heap.size w u6 := below_then (w := w) (by with_reducible repeat (first | exact Below.refl _ _ | assumption | ((first | refine Below.alloc ?_ ?b_ _ | refine bw_set ?_ ?b_ | refine Below.setCell ?_ ?b_ _); case b_ => first | omega | (simp; done) | (simp; omega)) | refine Below.drew ?_ | refine below_drewN ?_ _)) (by first | omega | (simp; done) | (simp; omega) | (have hq_ := hb.size; omega)) hb
          clear hb
          go_wp2_with fail
          refine (rparse_any Y _ hY).mono ?_
          rintro e u7 ⟨rfl, hb⟩
          have hs_u7 := hb.size
          (try simp at hs_u7)
          have hB_u7 : Below w.heap.size w u7 := below_then (w := w) (by with_reducible repeat (first | exact Below.refl _ _ | assumption | ((first | refine Below.alloc ?_ ?b_ _ | refine bw_set ?_ ?b_ | refine Below.setCell ?_ ?b_ _); case b_ => first | omega | (simp; done) | (simp; omega)) | refine Below.drew ?_ | refine below_drewN ?_ _)) (by first | omega | (simp; done) | (simp; omega) | (have hq_ := hb.size; omega)) hb
          clear hb
          go_wp2_with fail
          go_roundw
          case rel => exact ⟨i + 1, by omega, by go_num, (by with_reducible repeat (first | exact Below.refl _ _ | assumption | ((first | refine Below.alloc ?_ ?b_ _ | refine bw_set ?_ ?b_ | refine Below.setCell ?_ ?b_ _); case b_ => first | omega | (simp; done) | (simp; omega)) | refine Below.drew ?_ | refine below_drewN ?_ _))⟩
          case measure => simp [intOf]; omega
        · have hi2 : i = 3 := by omega
          subst hi2
          go_wp2_with fail
          go_ret
          exact ⟨rfl, (by with_reducible repeat (first | exact Below.refl _ _ | assumption | ((first | refine Below.alloc ?_ ?b_ _ | refine bw_set ?_ ?b_ | refine Below.setCell ?_ ?b_ _); case b_ => first | omega | (simp; done) | (simp; omega)) | refine Below.drew ?_ | refine below_drewN ?_ _))⟩
end Go.Proofs.Ytilchjpjmfaghaa.T3
