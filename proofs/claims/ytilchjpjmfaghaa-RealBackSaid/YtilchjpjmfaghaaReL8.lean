/- RealBack: the walk. -/
import Derived.Test.YtilchjpjmfaghaaReLc
import Derived.Test.YtilchjpjmfaghaaOrd3
import Derived.WalkKit
import Derived.Lib.Hide
import Derived.Deep.QuietTactic
import Derived.BigQuiet
import Derived.Lib.QuietBelow
import Derived.Deep.RegionHeld3
import Derived.WalkLawsBesides
import Derived.WalkSpells
import Derived.Outline
import Derived.Deep.DeepFit
import Derived.Maps.AppendAt
import Derived.Deep.AppendLies
import Derived.Deep.CutRange
import Derived.OpenShut
namespace Go.Proofs.Ytilchjpjmfaghaa.T3
set_option linter.unusedSimpArgs false
set_option linter.unusedVariables false
open Go.RowKit
attribute [local go_sem] Oper.semAt_some
set_option maxHeartbeats 4000000
set_option maxRecDepth 100000
theorem prS_Z {a : Int} : prS a = bA (prZ a 0 []) := by
  unfold prS prZ dec bA prM
  simp [zz]
theorem bA_app (A B : List Int) : bA (A ++ B) = bA A ++ bA B := by apply ByteArray.ext; simp [bA]
theorem prZ_cut (a : Int) (k : Nat) (X : List Int) : bA (prZ a k X) = bA (if a < 0 then [45] else []) ++ (bA (zz k) ++ (bA (wds ((if a < 0 then -a else a) / 65536) ++ ([46] ++ ff 17 ((if a < 0 then -a else a) % 65536))) ++ bA X)) := by
  unfold prZ dec
  rw [← bA_app, ← bA_app, ← bA_app]
  simp
theorem ba_assoc (A B C : ByteArray) : A ++ B ++ C = A ++ (B ++ C) := by apply ByteArray.ext; simp
theorem ba_nil (A : ByteArray) : A ++ bA [] = A := by apply ByteArray.ext; simp [bA]
theorem ba_nil0 (A : ByteArray) : bA [] ++ A = A := by apply ByteArray.ext; simp [bA]
def RR (a : Int) : ByteArray := bA (wds ((if a < 0 then -a else a) / 65536) ++ ([46] ++ ff 17 ((if a < 0 then -a else a) % 65536)))
theorem par (a : Int) (ha : -2147483648 ≤ a ∧ a ≤ 2147483648) (k : Nat) (hk : k ≤ 7) (X : List Int) (hX : X = [] ∨ X = [101, 48]) (w : World) :
    Calls Try.prog 21 #[.string (bA (prZ a k X))] w fun e w' => e = .returned (.tuple #[.int .i64 a, .int .i64 0]) ∧ Below w.heap.size w w' := by
  obtain ⟨h1, h2, h3, _⟩ := back_val ha hk hX
  have := mparse_any (bA (prZ a k X)) w (by omega)
  rwa [h1, h2] at this
theorem pr_in (a : Int) (ha : -2147483648 ≤ a ∧ a ≤ 2147483648) (w : World) : Calls Try.prog 18 #[.int .i64 a] w fun e w' => e = .returned (.tuple #[.string (bA (prZ a 0 [])), .int .i64 0]) ∧ Below w.heap.size w w' := by
  have := mprint_any a w
  unfold rsS rsN at this
  rw [if_pos (in1 ha), if_pos (in1 ha), prS_Z] at this
  exact this
theorem first_oct {a : Int} (ha : -2147483648 ≤ a ∧ a ≤ 2147483648) : (a < 0 → oct (bA (prZ a 0 [])) 0 = 45) ∧ (¬ a < 0 → oct (bA (prZ a 0 [])) 0 ≠ 45) := by
  obtain ⟨h1, h2, h3, h4⟩ := back_val ha (k := 0) (by omega) (X := []) (.inl rfl)
  have hs : sgN (bA (prZ a 0 [])) 0 = decide (a < 0) := by
    obtain ⟨b, hb⟩ : ∃ b, (if a < 0 then -a else a) = b := ⟨_, rfl⟩
    have hb1 : 0 ≤ b ∧ b ≤ 2147483648 := by rw [← hb]; split <;> omega
    obtain ⟨w1, w2, w3, w4⟩ := wds_val (n := b / 65536) (by omega) (by omega)
    unfold prZ
    rw [hb]
    rw [(dec_val (sg := if a < 0 then [45] else []) (W := zz 0 ++ wds (b / 65536)) (F := ff 17 (b % 65536)) (X := []) (by split <;> simp) (by simpa [zz] using w2) (by simp [w4]) (ff_allD 17 _ (by omega) (by omega)) (by simp [ff]) (.inl rfl)).2.1]
    by_cases h : a < 0 <;> simp [h]
  refine ⟨fun h => ?_, fun h hc => ?_⟩
  · rw [decide_eq_true h] at hs
    exact (of_decide_eq_true hs).2
  · rw [decide_eq_false h] at hs
    exact of_decide_eq_false hs ⟨by omega, hc⟩
theorem back_walk (x z : Int) (w : World) (s_x : (Lit.int .i64 x).wf = true) (s_z : (Lit.int .u8 z).wf = true) :
    Calls Try.prog 5 #[.int .i64 x, .int .u8 z] w fun e w' => e = .returned (.bool true) ∧ Below w.heap.size w w' := by
  have hz := bounds_u8 s_z
  obtain ⟨hz1, hz2⟩ := hz
  clear s_x s_z
  obtain ⟨a, ha, ma⟩ := made_ex x
  obtain ⟨k, hk⟩ : ∃ k : Nat, z % 8 = k := ⟨(z % 8).toNat, by omega⟩
  have hzt : z.tmod 8 = k := by rw [Int.tmod_eq_emod_of_nonneg hz1]; exact hk
  have hk7 : k ≤ 7 := by omega
  have hpr := pr_in a ha
  have hps := par a ha 0 (by omega) [] (.inl rfl)
  have hq1 := par a ha k hk7 [] (.inl rfl)
  have hq2 := par a ha 0 (by omega) [101, 48] (.inr rfl)
  obtain ⟨f1, f2⟩ := first_oct ha
  obtain ⟨_, _, z1, z2⟩ := back_val ha (k := 0) (by omega) (X := []) (.inl rfl)
  have c0 := prZ_cut a 0 []
  have c1 := prZ_cut a k []
  have c2 := prZ_cut a 0 [101, 48]
  rw [ba_nil] at c0 c1
  rw [show bA (zz 0) = bA [] from rfl, ba_nil0] at c0 c2
  obtain ⟨R, hR⟩ : ∃ R, bA (wds ((if a < 0 then -a else a) / 65536) ++ ([46] ++ ff 17 ((if a < 0 then -a else a) % 65536))) = R := ⟨_, rfl⟩
  rw [hR] at c0 c1 c2
  clear hR hk
  obtain ⟨S, hS⟩ : ∃ S, bA (prZ a 0 []) = S := ⟨_, rfl⟩
  obtain ⟨Q, hQ⟩ : ∃ S, bA (prZ a k []) = S := ⟨_, rfl⟩
  obtain ⟨E, hE⟩ : ∃ S, bA (prZ a 0 [101, 48]) = S := ⟨_, rfl⟩
  rw [hS] at hpr hps f1 f2 z1 z2 c0
  rw [hQ] at hq1 c1
  rw [hE] at hq2 c2
  clear hS hQ hE
  obtain ⟨ha1, ha2⟩ := ha
  have e2 : S ++ { data := #[101, 48] } = E := by rw [c2, c0, ba_assoc]; rfl
  have s2 : ({ data := #[101, 48] } : ByteArray).size = 2 := rfl
  have z3 : (S.size : Int) ≤ 40 := by omega
  have z4 : 3 ≤ (S.size : Int) := by omega
  by_cases hn : a < 0
  · have f1 := f1 hn
    rw [if_pos hn] at c0 c1
    obtain ⟨P1, hP1⟩ : ∃ P1, ({ data := #[45] } : ByteArray) ++ bA (zz k) = P1 := ⟨_, rfl⟩
    have e1 : P1 ++ R = Q := by rw [c1, ← hP1, ba_assoc]; rfl
    have hex : S.extract 1 S.size = R := by
      rw [c0]
      apply ByteArray.ext
      simp [bA]
      right
      rw [show ({ data := #[45] } : ByteArray).size = 1 from rfl]
      omega
    have s1 : ({ data := #[45] } : ByteArray).size = 1 := rfl
    have s3 : P1.size = 1 + k := by rw [← hP1, ByteArray.size_append, bA_size]; simp [zz, ByteArray.size]
    have s4 : R.size ≤ 40 := by rw [← hex, ByteArray.size_extract]; omega
    have hix : ∀ w, Sem.run Try.prog (Instr.index 9 (.string S) (.int .i64 0)) w = .ok (.int .u8 45) w := fun w => by rw [← f1]; exact str_at S 0 w (by omega) (by omega)
    clear c0 c1 c2 f1 f2
    go_enter Try.func5, Try.ntmps5
    go_wp2_with fail
    refine (works_any _).mono ?_
    rintro e u0 ⟨rfl, hb⟩
    have hs_u0 := hb.size
    (try simp at hs_u0)
    have hB_u0 : Below w.heap.size w u0 := below_then (w := w) (by with_reducible repeat (first | exact Below.refl _ _ | assumption | ((first | refine Below.alloc ?_ ?b_ _ | refine bw_set ?_ ?b_ | refine Below.setCell ?_ ?b_ _); case b_ => first | omega | (simp; done) | (simp; omega)) | refine Below.drew ?_ | refine below_drewN ?_ _)) (by first | omega | (simp; done) | (simp; omega) | (have hq_ := hb.size; omega)) hb
    clear hb
    go_wp2_with fail
    refine (ma _).mono ?_
    rintro e u1 ⟨rfl, hb⟩
    have hs_u1 := hb.size
    (try simp at hs_u1)
    have hB_u1 : Below w.heap.size w u1 := below_then (w := w) (by with_reducible repeat (first | exact Below.refl _ _ | assumption | ((first | refine Below.alloc ?_ ?b_ _ | refine bw_set ?_ ?b_ | refine Below.setCell ?_ ?b_ _); case b_ => first | omega | (simp; done) | (simp; omega)) | refine Below.drew ?_ | refine below_drewN ?_ _)) (by first | omega | (simp; done) | (simp; omega) | (have hq_ := hb.size; omega)) hb
    clear hb
    go_wp2_with fail
    refine (hpr _).mono ?_
    rintro e u2 ⟨rfl, hb⟩
    have hs_u2 := hb.size
    (try simp at hs_u2)
    have hB_u2 : Below w.heap.size w u2 := below_then (w := w) (by with_reducible repeat (first | exact Below.refl _ _ | assumption | ((first | refine Below.alloc ?_ ?b_ _ | refine bw_set ?_ ?b_ | refine Below.setCell ?_ ?b_ _); case b_ => first | omega | (simp; done) | (simp; omega)) | refine Below.drew ?_ | refine below_drewN ?_ _)) (by first | omega | (simp; done) | (simp; omega) | (have hq_ := hb.size; omega)) hb
    clear hb
    go_wp2_with fail
    refine (hps _).mono ?_
    rintro e u3 ⟨rfl, hb⟩
    have hs_u3 := hb.size
    (try simp at hs_u3)
    have hB_u3 : Below w.heap.size w u3 := below_then (w := w) (by with_reducible repeat (first | exact Below.refl _ _ | assumption | ((first | refine Below.alloc ?_ ?b_ _ | refine bw_set ?_ ?b_ | refine Below.setCell ?_ ?b_ _); case b_ => first | omega | (simp; done) | (simp; omega)) | refine Below.drew ?_ | refine below_drewN ?_ _)) (by first | omega | (simp; done) | (simp; omega) | (have hq_ := hb.size; omega)) hb
    clear hb
    go_wp2_with fail
    refine wp_region_ord (.s 0 .p (.s 1 .p (.s 2 .p (.s 3 .p .done)))) (Held u3 []) (by kernel_rfl) (by kernel_rfl) (fun _ _ _ _ _ h => h) (Held.refl _ _) ?_
    (apply wpOrd_p2 rfl rfl rfl rfl rfl; (intro w' K hK; (first | go_big_move | go_big_op | go_wp2_with fail); exact hK))
    (apply wpOrd_p2 rfl rfl rfl rfl rfl; (intro w' K hK; (first | go_big_move | go_big_op | go_wp2_with fail); exact hK))
    (apply wpOrd_p2 rfl rfl rfl rfl rfl; (intro w' K hK; (first | go_big_move | go_big_op | go_wp2_with fail); exact hK))
    (apply wpOrd_p2 rfl rfl rfl rfl rfl; (intro w' K hK; (first | go_big_move | go_big_op | go_wp2_with fail); exact hK))
    refine wpOrd_nil ?_
    skip
    go_wp2_with fail
    go_loop [12, 53] (fun v12 v53 => ∃ i : Nat, i ≤ k ∧ v12 = .string (bA (zz i)) ∧ v53 = .int .u8 i) (fun _ v53 => k - (intOf v53).toNat)
    case atStart => exact ⟨0, Nat.zero_le _, rfl, rfl⟩
    case round =>
      obtain ⟨i, hi, rfl, rfl⟩ := hrel
      by_cases hlt : i < k
      · have hcat : bA (zz i) ++ { data := #[48] } = bA (zz (i + 1)) := by
          unfold zz
          rw [List.replicate_succ']
          exact bA_snoc 48 _
        have hs1 : (bA (zz i)).size = i := by rw [bA_size]; simp [zz]
        have hs2 : ({ data := #[48] } : ByteArray).size = 1 := rfl
        go_wp2_with fail
        go_round
        case rel => exact ⟨i + 1, by omega, rfl, by go_num⟩
        case measure => simp [intOf]; omega
      · have hik : i = k := by omega
        subst hik
        have hs1 : (bA (zz i)).size = i := by rw [bA_size]; simp [zz]
        go_wp2_with fail
        refine (hq1 _).mono ?_
        rintro e u4 ⟨rfl, hb⟩
        have hs_u4 := hb.size
        (try simp at hs_u4)
        have hB_u4 : Below w.heap.size w u4 := below_then (w := w) (by with_reducible repeat (first | exact Below.refl _ _ | assumption | ((first | refine Below.alloc ?_ ?b_ _ | refine bw_set ?_ ?b_ | refine Below.setCell ?_ ?b_ _); case b_ => first | omega | (simp; done) | (simp; omega)) | refine Below.drew ?_ | refine below_drewN ?_ _)) (by first | omega | (simp; done) | (simp; omega) | (have hq_ := hb.size; omega)) hb
        clear hb
        go_wp2_with fail
        refine (hq2 _).mono ?_
        rintro e u5 ⟨rfl, hb⟩
        have hs_u5 := hb.size
        (try simp at hs_u5)
        have hB_u5 : Below w.heap.size w u5 := below_then (w := w) (by with_reducible repeat (first | exact Below.refl _ _ | assumption | ((first | refine Below.alloc ?_ ?b_ _ | refine bw_set ?_ ?b_ | refine Below.setCell ?_ ?b_ _); case b_ => first | omega | (simp; done) | (simp; omega)) | refine Below.drew ?_ | refine below_drewN ?_ _)) (by first | omega | (simp; done) | (simp; omega) | (have hq_ := hb.size; omega)) hb
        clear hb
        go_wp2_with fail
        go_ret
        exact ⟨rfl, (by with_reducible repeat (first | exact Below.refl _ _ | assumption | ((first | refine Below.alloc ?_ ?b_ _ | refine bw_set ?_ ?b_ | refine Below.setCell ?_ ?b_ _); case b_ => first | omega | (simp; done) | (simp; omega)) | refine Below.drew ?_ | refine below_drewN ?_ _))⟩
  · have f2 := f2 hn
    rw [if_neg hn, ba_nil0] at c0 c1
    have e1 : bA (zz k) ++ R = Q := c1.symm
    have e3 : ({ data := #[] } : ByteArray) ++ bA (zz k) = bA (zz k) := ba_nil0 _
    subst c0
    have hix : ∀ w, Sem.run Try.prog (Instr.index 9 (.string S) (.int .i64 0)) w = .ok (.int .u8 (oct S 0)) w := fun w => str_at S 0 w (by omega) (by omega)
    obtain ⟨c, hc⟩ : ∃ c, oct S 0 = c := ⟨_, rfl⟩
    rw [hc] at f2 hix
    have f3 : (c == 45) = false := by simpa using f2
    clear c1 c2 f1 f2 hc
    go_enter Try.func5, Try.ntmps5
    go_wp2_with fail
    refine (works_any _).mono ?_
    rintro e u0 ⟨rfl, hb⟩
    have hs_u0 := hb.size
    (try simp at hs_u0)
    have hB_u0 : Below w.heap.size w u0 := below_then (w := w) (by with_reducible repeat (first | exact Below.refl _ _ | assumption | ((first | refine Below.alloc ?_ ?b_ _ | refine bw_set ?_ ?b_ | refine Below.setCell ?_ ?b_ _); case b_ => first | omega | (simp; done) | (simp; omega)) | refine Below.drew ?_ | refine below_drewN ?_ _)) (by first | omega | (simp; done) | (simp; omega) | (have hq_ := hb.size; omega)) hb
    clear hb
    go_wp2_with fail
    refine (ma _).mono ?_
    rintro e u1 ⟨rfl, hb⟩
    have hs_u1 := hb.size
    (try simp at hs_u1)
    have hB_u1 : Below w.heap.size w u1 := below_then (w := w) (by with_reducible repeat (first | exact Below.refl _ _ | assumption | ((first | refine Below.alloc ?_ ?b_ _ | refine bw_set ?_ ?b_ | refine Below.setCell ?_ ?b_ _); case b_ => first | omega | (simp; done) | (simp; omega)) | refine Below.drew ?_ | refine below_drewN ?_ _)) (by first | omega | (simp; done) | (simp; omega) | (have hq_ := hb.size; omega)) hb
    clear hb
    go_wp2_with fail
    refine (hpr _).mono ?_
    rintro e u2 ⟨rfl, hb⟩
    have hs_u2 := hb.size
    (try simp at hs_u2)
    have hB_u2 : Below w.heap.size w u2 := below_then (w := w) (by with_reducible repeat (first | exact Below.refl _ _ | assumption | ((first | refine Below.alloc ?_ ?b_ _ | refine bw_set ?_ ?b_ | refine Below.setCell ?_ ?b_ _); case b_ => first | omega | (simp; done) | (simp; omega)) | refine Below.drew ?_ | refine below_drewN ?_ _)) (by first | omega | (simp; done) | (simp; omega) | (have hq_ := hb.size; omega)) hb
    clear hb
    go_wp2_with fail
    refine (hps _).mono ?_
    rintro e u3 ⟨rfl, hb⟩
    have hs_u3 := hb.size
    (try simp at hs_u3)
    have hB_u3 : Below w.heap.size w u3 := below_then (w := w) (by with_reducible repeat (first | exact Below.refl _ _ | assumption | ((first | refine Below.alloc ?_ ?b_ _ | refine bw_set ?_ ?b_ | refine Below.setCell ?_ ?b_ _); case b_ => first | omega | (simp; done) | (simp; omega)) | refine Below.drew ?_ | refine below_drewN ?_ _)) (by first | omega | (simp; done) | (simp; omega) | (have hq_ := hb.size; omega)) hb
    clear hb
    go_wp2_with fail
    go_loop [12, 53] (fun v12 v53 => ∃ i : Nat, i ≤ k ∧ v12 = .string (bA (zz i)) ∧ v53 = .int .u8 i) (fun _ v53 => k - (intOf v53).toNat)
    case atStart => exact ⟨0, Nat.zero_le _, rfl, rfl⟩
    case round =>
      obtain ⟨i, hi, rfl, rfl⟩ := hrel
      by_cases hlt : i < k
      · have hcat : bA (zz i) ++ { data := #[48] } = bA (zz (i + 1)) := by
          unfold zz
          rw [List.replicate_succ']
          exact bA_snoc 48 _
        have hs1 : (bA (zz i)).size = i := by rw [bA_size]; simp [zz]
        have hs2 : ({ data := #[48] } : ByteArray).size = 1 := rfl
        go_wp2_with fail
        go_round
        case rel => exact ⟨i + 1, by omega, rfl, by go_num⟩
        case measure => simp [intOf]; omega
      · have hik : i = k := by omega
        subst hik
        have hs1 : (bA (zz i)).size = i := by rw [bA_size]; simp [zz]
        go_wp2_with fail
        refine (hq1 _).mono ?_
        rintro e u4 ⟨rfl, hb⟩
        have hs_u4 := hb.size
        (try simp at hs_u4)
        have hB_u4 : Below w.heap.size w u4 := below_then (w := w) (by with_reducible repeat (first | exact Below.refl _ _ | assumption | ((first | refine Below.alloc ?_ ?b_ _ | refine bw_set ?_ ?b_ | refine Below.setCell ?_ ?b_ _); case b_ => first | omega | (simp; done) | (simp; omega)) | refine Below.drew ?_ | refine below_drewN ?_ _)) (by first | omega | (simp; done) | (simp; omega) | (have hq_ := hb.size; omega)) hb
        clear hb
        go_wp2_with fail
        refine (hq2 _).mono ?_
        rintro e u5 ⟨rfl, hb⟩
        have hs_u5 := hb.size
        (try simp at hs_u5)
        have hB_u5 : Below w.heap.size w u5 := below_then (w := w) (by with_reducible repeat (first | exact Below.refl _ _ | assumption | ((first | refine Below.alloc ?_ ?b_ _ | refine bw_set ?_ ?b_ | refine Below.setCell ?_ ?b_ _); case b_ => first | omega | (simp; done) | (simp; omega)) | refine Below.drew ?_ | refine below_drewN ?_ _)) (by first | omega | (simp; done) | (simp; omega) | (have hq_ := hb.size; omega)) hb
        clear hb
        go_wp2_with fail
        go_ret
        exact ⟨rfl, (by with_reducible repeat (first | exact Below.refl _ _ | assumption | ((first | refine Below.alloc ?_ ?b_ _ | refine bw_set ?_ ?b_ | refine Below.setCell ?_ ?b_ _); case b_ => first | omega | (simp; done) | (simp; omega)) | refine Below.drew ?_ | refine below_drewN ?_ _))⟩
end Go.Proofs.Ytilchjpjmfaghaa.T3
