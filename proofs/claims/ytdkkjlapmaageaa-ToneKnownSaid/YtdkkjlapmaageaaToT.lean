/- chapter 27: the laws' own helpers. -/
import Derived.Test.YtdkkjlapmaageaaToR
import Derived.Test.YtdkkjlapmaageaaToO
import Derived.Test.YtdkkjlapmaageaaToM
import Derived.Test.YtdkkjlapmaageaaToE
import Derived.WalkKit
import Derived.Lib.Hide
import Derived.Deep.QuietTactic
import Derived.BigQuiet
import Derived.Lib.QuietBelow
import Derived.Deep.RegionHeld3
import Derived.WalkLawsBesides
import Derived.WalkSpells
import Derived.Outline
import Derived.Deep.DeepFit
import Derived.Maps.AppendAt
import Derived.Deep.AppendLies

namespace Go.Proofs.Ytdkkjlapmaageaa.T3
set_option linter.unusedSimpArgs false
set_option linter.unusedVariables false
open Go.RowKit Go.Sort Go.Lib Go.Shelf
set_option maxHeartbeats 1000000
set_option maxRecDepth 100000

/-- a kind and a size that Spot takes -/
def good (k W H : Int) : Prop := (0 ≤ k ∧ k ≤ 2) ∧ (1 ≤ W ∧ W ≤ 16) ∧ 1 ≤ H ∧ H ≤ 16
instance (k W H : Int) : Decidable (good k W H) := by unfold good; infer_instance
def tW (k W H : Int) : Int := if good k W H then W else 0
def tH (k W H : Int) : Int := if good k W H then H else 0
def tT (k W H : Int) : ByteArray := if good k W H then spotS k W H else ⟨#[]⟩
def tE (k W H : Int) : Int := if good k W H then 0 else 2
theorem mspot_any (k W H : Int) (w : World) : Calls Try.prog 10 #[.int .i64 k, .int .i64 W, .int .i64 H] w fun e w' => e = .returned (.tuple #[.agg #[.int .i64 (tW k W H), .int .i64 (tH k W H), .string (tT k W H)], .int .i64 (tE k W H)]) ∧ RowKit.Below w.heap.size w w' := by
  unfold tW tH tT tE
  by_cases g : good k W H
  · rw [if_pos g, if_pos g, if_pos g, if_pos g]
    exact mspot_ok k W H w g.1 g.2.1 g.2.2
  · rw [if_neg g, if_neg g, if_neg g, if_neg g]
    exact mspot_bad k W H w (by unfold good at g; omega)
theorem rspot_any (k W H : Int) (w : World) : Calls Try.prog 11 #[.int .i64 k, .int .i64 W, .int .i64 H] w fun e w' => e = .returned (.tuple #[.agg #[.int .i64 (tW k W H), .int .i64 (tH k W H), .string (tT k W H)], .int .i64 (tE k W H)]) ∧ RowKit.Below w.heap.size w w' := by
  unfold tW tH tT tE
  by_cases g : good k W H
  · rw [if_pos g, if_pos g, if_pos g, if_pos g]
    exact rspot_ok k W H w g.1 g.2.1 g.2.2
  · rw [if_neg g, if_neg g, if_neg g, if_neg g]
    exact rspot_bad k W H w g
theorem lset_any (W H : Int) (T : ByteArray) (n x y : Int) (w : World) (hS : T.size ≤ 9223372036854775807) :
    Calls Try.prog 24 #[.agg #[.int .i64 W, .int .i64 H, .string T], .int .i64 n, .int .i64 x, .int .i64 y] w fun e w' => e = .returned (.bool (bitV W H T n x y)) ∧ RowKit.Below w.heap.size w w' := by
  have hb := fun w => mbit_any W H T n x y w hS
  have hor : bitV W H T n x y = false ∨ bitE W H T n = 0 := by
    unfold bitV bitE
    by_cases g : okT W H T
    · by_cases g1 : 0 ≤ n ∧ n ≤ 255
      · right; rw [if_pos g, if_pos g1]
      · left; rw [if_neg (fun h => g1 h.2)]
    · left; rw [if_neg (fun h => g h.1)]
  obtain ⟨v, hv⟩ : ∃ v, bitV W H T n x y = v := ⟨_, rfl⟩
  obtain ⟨q, hq⟩ : ∃ q, bitE W H T n = q := ⟨_, rfl⟩
  rw [hv, hq] at hb hor
  rw [hv]
  clear hv hq
  rcases hor with rfl | rfl
  · go_enter Try.func24, Try.ntmps24
    go_wp2_with fail
    refine (hb _).mono ?_
    rintro e w1 ⟨rfl, hb⟩
    have hs_w1 := hb.size
    (try simp at hs_w1)
    have hB_w1 : Below w.heap.size w w1 := below_then (w := w) (by with_reducible repeat (first | exact Below.refl _ _ | assumption | ((first | refine Below.alloc ?_ ?b_ _ | refine bw_set ?_ ?b_ | refine Below.setCell ?_ ?b_ _); case b_ => first | omega | (simp; done) | (simp; omega)) | refine Below.drew ?_ | refine below_drewN ?_ _)) (by first | omega | (simp; done) | (simp; omega) | (have hq_ := hb.size; omega)) hb
    clear hb
    go_wp2_with fail
    go_ret
    exact ⟨rfl, (by with_reducible repeat (first | exact Below.refl _ _ | assumption | ((first | refine Below.alloc ?_ ?b_ _ | refine bw_set ?_ ?b_ | refine Below.setCell ?_ ?b_ _); case b_ => first | omega | (simp; done) | (simp; omega)) | refine Below.drew ?_ | refine below_drewN ?_ _))⟩
  · cases v
    · go_enter Try.func24, Try.ntmps24
      go_wp2_with fail
      refine (hb _).mono ?_
      rintro e w1 ⟨rfl, hb⟩
      have hs_w1 := hb.size
      (try simp at hs_w1)
      have hB_w1 : Below w.heap.size w w1 := below_then (w := w) (by with_reducible repeat (first | exact Below.refl _ _ | assumption | ((first | refine Below.alloc ?_ ?b_ _ | refine bw_set ?_ ?b_ | refine Below.setCell ?_ ?b_ _); case b_ => first | omega | (simp; done) | (simp; omega)) | refine Below.drew ?_ | refine below_drewN ?_ _)) (by first | omega | (simp; done) | (simp; omega) | (have hq_ := hb.size; omega)) hb
      clear hb
      go_wp2_with fail
      go_ret
      exact ⟨rfl, (by with_reducible repeat (first | exact Below.refl _ _ | assumption | ((first | refine Below.alloc ?_ ?b_ _ | refine bw_set ?_ ?b_ | refine Below.setCell ?_ ?b_ _); case b_ => first | omega | (simp; done) | (simp; omega)) | refine Below.drew ?_ | refine below_drewN ?_ _))⟩
    · go_enter Try.func24, Try.ntmps24
      go_wp2_with fail
      refine (hb _).mono ?_
      rintro e w1 ⟨rfl, hb⟩
      have hs_w1 := hb.size
      (try simp at hs_w1)
      have hB_w1 : Below w.heap.size w w1 := below_then (w := w) (by with_reducible repeat (first | exact Below.refl _ _ | assumption | ((first | refine Below.alloc ?_ ?b_ _ | refine bw_set ?_ ?b_ | refine Below.setCell ?_ ?b_ _); case b_ => first | omega | (simp; done) | (simp; omega)) | refine Below.drew ?_ | refine below_drewN ?_ _)) (by first | omega | (simp; done) | (simp; omega) | (have hq_ := hb.size; omega)) hb
      clear hb
      go_wp2_with fail
      go_ret
      exact ⟨rfl, (by with_reducible repeat (first | exact Below.refl _ _ | assumption | ((first | refine Below.alloc ?_ ?b_ _ | refine bw_set ?_ ?b_ | refine Below.setCell ?_ ?b_ _); case b_ => first | omega | (simp; done) | (simp; omega)) | refine Below.drew ?_ | refine below_drewN ?_ _))⟩
def unsV (W H : Int) (T : ByteArray) (n x y : Int) : Bool := !(bitV W H T n x y) && (bitE W H T n == 0)
theorem luns_any (W H : Int) (T : ByteArray) (n x y : Int) (w : World) (hS : T.size ≤ 9223372036854775807) :
    Calls Try.prog 25 #[.agg #[.int .i64 W, .int .i64 H, .string T], .int .i64 n, .int .i64 x, .int .i64 y] w fun e w' => e = .returned (.bool (unsV W H T n x y)) ∧ RowKit.Below w.heap.size w w' := by
  have hb := fun w => mbit_any W H T n x y w hS
  unfold unsV
  obtain ⟨v, hv⟩ : ∃ v, bitV W H T n x y = v := ⟨_, rfl⟩
  obtain ⟨q, hq⟩ : ∃ q, bitE W H T n = q := ⟨_, rfl⟩
  rw [hv, hq] at hb
  rw [hv, hq]
  clear hv hq
  cases v
  · go_enter Try.func25, Try.ntmps25
    go_wp2_with fail
    refine (hb _).mono ?_
    rintro e w1 ⟨rfl, hb⟩
    have hs_w1 := hb.size
    (try simp at hs_w1)
    have hB_w1 : Below w.heap.size w w1 := below_then (w := w) (by with_reducible repeat (first | exact Below.refl _ _ | assumption | ((first | refine Below.alloc ?_ ?b_ _ | refine bw_set ?_ ?b_ | refine Below.setCell ?_ ?b_ _); case b_ => first | omega | (simp; done) | (simp; omega)) | refine Below.drew ?_ | refine below_drewN ?_ _)) (by first | omega | (simp; done) | (simp; omega) | (have hq_ := hb.size; omega)) hb
    clear hb
    go_wp2_with fail
    go_ret
    exact ⟨ret_bool (by simp), (by with_reducible repeat (first | exact Below.refl _ _ | assumption | ((first | refine Below.alloc ?_ ?b_ _ | refine bw_set ?_ ?b_ | refine Below.setCell ?_ ?b_ _); case b_ => first | omega | (simp; done) | (simp; omega)) | refine Below.drew ?_ | refine below_drewN ?_ _))⟩
  · go_enter Try.func25, Try.ntmps25
    go_wp2_with fail
    refine (hb _).mono ?_
    rintro e w1 ⟨rfl, hb⟩
    have hs_w1 := hb.size
    (try simp at hs_w1)
    have hB_w1 : Below w.heap.size w w1 := below_then (w := w) (by with_reducible repeat (first | exact Below.refl _ _ | assumption | ((first | refine Below.alloc ?_ ?b_ _ | refine bw_set ?_ ?b_ | refine Below.setCell ?_ ?b_ _); case b_ => first | omega | (simp; done) | (simp; omega)) | refine Below.drew ?_ | refine below_drewN ?_ _)) (by first | omega | (simp; done) | (simp; omega) | (have hq_ := hb.size; omega)) hb
    clear hb
    go_wp2_with fail
    go_ret
    exact ⟨rfl, (by with_reducible repeat (first | exact Below.refl _ _ | assumption | ((first | refine Below.alloc ?_ ?b_ _ | refine bw_set ?_ ?b_ | refine Below.setCell ?_ ?b_ _); case b_ => first | omega | (simp; done) | (simp; omega)) | refine Below.drew ?_ | refine below_drewN ?_ _))⟩
def cntN (W H : Int) (T : ByteArray) (n : Int) : Int := if bitE W H T n = 0 then cntV W H T n else -1
theorem lcount_any (W H : Int) (T : ByteArray) (n : Int) (w : World) (hS : T.size ≤ 9223372036854775807) :
    Calls Try.prog 23 #[.agg #[.int .i64 W, .int .i64 H, .string T], .int .i64 n] w fun e w' => e = .returned (.int .i64 (cntN W H T n)) ∧ RowKit.Below w.heap.size w w' := by
  have hb := fun w => mcount_any W H T n w hS
  unfold cntN
  obtain ⟨v, hv⟩ : ∃ v, cntV W H T n = v := ⟨_, rfl⟩
  obtain ⟨q, hq⟩ : ∃ q, bitE W H T n = q := ⟨_, rfl⟩
  rw [hv, hq] at hb
  rw [hv, hq]
  clear hv hq
  by_cases g : q = 0
  · rw [if_pos g]
    go_enter Try.func23, Try.ntmps23
    go_wp2_with fail
    refine (hb _).mono ?_
    rintro e w1 ⟨rfl, hb⟩
    have hs_w1 := hb.size
    (try simp at hs_w1)
    have hB_w1 : Below w.heap.size w w1 := below_then (w := w) (by with_reducible repeat (first | exact Below.refl _ _ | assumption | ((first | refine Below.alloc ?_ ?b_ _ | refine bw_set ?_ ?b_ | refine Below.setCell ?_ ?b_ _); case b_ => first | omega | (simp; done) | (simp; omega)) | refine Below.drew ?_ | refine below_drewN ?_ _)) (by first | omega | (simp; done) | (simp; omega) | (have hq_ := hb.size; omega)) hb
    clear hb
    go_wp2_with fail
    go_ret
    exact ⟨rfl, (by with_reducible repeat (first | exact Below.refl _ _ | assumption | ((first | refine Below.alloc ?_ ?b_ _ | refine bw_set ?_ ?b_ | refine Below.setCell ?_ ?b_ _); case b_ => first | omega | (simp; done) | (simp; omega)) | refine Below.drew ?_ | refine below_drewN ?_ _))⟩
  · rw [if_neg g]
    go_enter Try.func23, Try.ntmps23
    go_wp2_with fail
    refine (hb _).mono ?_
    rintro e w1 ⟨rfl, hb⟩
    have hs_w1 := hb.size
    (try simp at hs_w1)
    have hB_w1 : Below w.heap.size w w1 := below_then (w := w) (by with_reducible repeat (first | exact Below.refl _ _ | assumption | ((first | refine Below.alloc ?_ ?b_ _ | refine bw_set ?_ ?b_ | refine Below.setCell ?_ ?b_ _); case b_ => first | omega | (simp; done) | (simp; omega)) | refine Below.drew ?_ | refine below_drewN ?_ _)) (by first | omega | (simp; done) | (simp; omega) | (have hq_ := hb.size; omega)) hb
    clear hb
    go_wp2_with fail
    go_ret
    exact ⟨rfl, (by with_reducible repeat (first | exact Below.refl _ _ | assumption | ((first | refine Below.alloc ?_ ?b_ _ | refine bw_set ?_ ?b_ | refine Below.setCell ?_ ?b_ _); case b_ => first | omega | (simp; done) | (simp; omega)) | refine Below.drew ?_ | refine below_drewN ?_ _))⟩
theorem lspot_any (k W H : Int) (w : World) :
    Calls Try.prog 27 #[.int .i64 k, .int .i64 W, .int .i64 H] w fun e w' => e = .returned (.string (tT k W H)) ∧ RowKit.Below w.heap.size w w' := by
  have hb := fun w => mspot_any k W H w
  by_cases g : good k W H
  · have e1 : tW k W H = W := by unfold tW; rw [if_pos g]
    have e2 : tH k W H = H := by unfold tH; rw [if_pos g]
    have e3 : tE k W H = 0 := by unfold tE; rw [if_pos g]
    rw [e1, e2, e3] at hb
    obtain ⟨S, hS⟩ : ∃ S, tT k W H = S := ⟨_, rfl⟩
    rw [hS] at hb ⊢
    clear hS e1 e2 e3 g
    go_enter Try.func27, Try.ntmps27
    go_wp2_with fail
    refine (hb _).mono ?_
    rintro e w1 ⟨rfl, hb⟩
    have hs_w1 := hb.size
    (try simp at hs_w1)
    have hB_w1 : Below w.heap.size w w1 := below_then (w := w) (by with_reducible repeat (first | exact Below.refl _ _ | assumption | ((first | refine Below.alloc ?_ ?b_ _ | refine bw_set ?_ ?b_ | refine Below.setCell ?_ ?b_ _); case b_ => first | omega | (simp; done) | (simp; omega)) | refine Below.drew ?_ | refine below_drewN ?_ _)) (by first | omega | (simp; done) | (simp; omega) | (have hq_ := hb.size; omega)) hb
    clear hb
    go_wp2_with fail
    go_ret
    exact ⟨rfl, (by with_reducible repeat (first | exact Below.refl _ _ | assumption | ((first | refine Below.alloc ?_ ?b_ _ | refine bw_set ?_ ?b_ | refine Below.setCell ?_ ?b_ _); case b_ => first | omega | (simp; done) | (simp; omega)) | refine Below.drew ?_ | refine below_drewN ?_ _))⟩
  · have e3 : tE k W H = 2 := by unfold tE; rw [if_neg g]
    have e4 : tT k W H = ⟨#[]⟩ := by unfold tT; rw [if_neg g]
    rw [e3, e4] at hb
    rw [e4]
    clear e3 e4 g
    go_enter Try.func27, Try.ntmps27
    go_wp2_with fail
    refine (hb _).mono ?_
    rintro e w1 ⟨rfl, hb⟩
    have hs_w1 := hb.size
    (try simp at hs_w1)
    have hB_w1 : Below w.heap.size w w1 := below_then (w := w) (by with_reducible repeat (first | exact Below.refl _ _ | assumption | ((first | refine Below.alloc ?_ ?b_ _ | refine bw_set ?_ ?b_ | refine Below.setCell ?_ ?b_ _); case b_ => first | omega | (simp; done) | (simp; omega)) | refine Below.drew ?_ | refine below_drewN ?_ _)) (by first | omega | (simp; done) | (simp; omega) | (have hq_ := hb.size; omega)) hb
    clear hb
    go_wp2_with fail
    go_ret
    exact ⟨rfl, (by with_reducible repeat (first | exact Below.refl _ _ | assumption | ((first | refine Below.alloc ?_ ?b_ _ | refine bw_set ?_ ?b_ | refine Below.setCell ?_ ?b_ _); case b_ => first | omega | (simp; done) | (simp; omega)) | refine Below.drew ?_ | refine below_drewN ?_ _))⟩
def Q4 : ByteArray := ⟨#[0, 128, 192, 64]⟩
theorem quad_any (w : World) : Calls Try.prog 26 #[] w fun e w' => e = .returned (.agg #[.int .i64 2, .int .i64 2, .string Q4]) ∧ RowKit.Below w.heap.size w w' := by
  unfold Q4
  go_enter Try.func26, Try.ntmps26
  go_wp2_with ((with_reducible refine rw_list ?_); (first | ((with_reducible apply wpList_load_cell); (case ho => with_reducible rfl); (case hgd => with_reducible rfl); (case hx => rfl); (case hu => first | exact Try.underlying26); (case hd => rfl)) | ((with_reducible apply wpList_load_row); (case ho => with_reducible rfl); (case hgd => with_reducible rfl); (case hx => rfl); (case hu => first | exact Try.underlying26); (case hd => rfl)) | ((with_reducible apply wpList_store_row); (case ho => with_reducible rfl); (case hgd => with_reducible rfl); (case hx => rfl); (case hy => rfl)) | ((with_reducible apply wpList_store_cell); (case ho => with_reducible rfl); (case hgd => with_reducible rfl); (case hx => rfl); (case hy => first | exact ev_const | exact ev_tmp rfl); (case h1 => rfl))); (case hg => exact (by with_reducible repeat (first | assumption | (refine rw_new ?e_; case e_ => first | rfl | (simp; done) | (simp; omega)) | apply rw_self | (apply rw_other; case hn => first | omega | (simp; omega)) | apply rw_alloc | apply rw_drew | apply rw_drewN))); (try case hv => rfl); (try case hi => kernel_rfl); (try case hold => rfl); (try case h1 => kernel_rfl); (try case hlt => rfl); (try case hcs => ((try simp only [List.setIfInBounds_toArray, List.set_cons_succ, List.set_cons_zero]); rfl)))
  exact bodyPost_ret (v := _) (results_cell_row Try.results26 _ _ _ _ _ _ _ (by rfl) (by with_reducible repeat (first | assumption | (refine rw_new ?e_; case e_ => first | rfl | (simp; done) | (simp; omega)) | apply rw_self | (apply rw_other; case hn => first | omega | (simp; omega)) | apply rw_alloc | apply rw_drew | apply rw_drewN)) Try.underlying26 rfl (by kernel_rfl)) rfl ⟨rfl, (by with_reducible repeat (first | exact Below.refl _ _ | assumption | ((first | refine Below.alloc ?_ ?b_ _ | refine bw_set ?_ ?b_ | refine Below.setCell ?_ ?b_ _); case b_ => first | omega | (simp; done) | (simp; omega)) | refine Below.drew ?_ | refine below_drewN ?_ _))⟩
theorem few_any (W H : Int) (S : ByteArray) (w : World) (hS : S.size ≤ 9223372036854775807) :
    Calls Try.prog 14 #[.agg #[.int .i64 W, .int .i64 H, .string S]] w fun e w' => (∃ T : ByteArray, T.size ≤ 300 ∧ e = .returned (.agg #[.int .i64 W, .int .i64 H, .string T])) ∧ RowKit.Below w.heap.size w w' := by
  have hmin := min2 (S.size : Int) 300
  have h0 : 0 ≤ min (S.size : Int) 300 := by omega
  have h1 : min (S.size : Int) 300 ≤ S.size := by omega
  have h2 : min (S.size : Int) 300 ≤ 300 := by omega
  obtain ⟨m, hm⟩ : ∃ m, min (S.size : Int) 300 = m := ⟨_, rfl⟩
  rw [hm] at hmin h0 h1 h2
  clear hm
  go_enter Try.func14, Try.ntmps14
  go_wp2_with fail
  exact bodyPost_ret (v := .agg #[.int .i64 W, .int .i64 H, .string (S.extract 0 m.toNat)]) (by simp [results, Try.results14, go_sem]) rfl ⟨⟨_, by rw [ByteArray.size_extract]; omega, rfl⟩, (by repeat (first | with_reducible exact Below.refl _ _ | with_reducible assumption | ((with_reducible refine Below.alloc ?_ ?hb_ _); (case hb_ => first | omega | (simp; done) | (simp; omega))) | ((with_reducible refine Below.setCell ?_ ?hb_ _); (case hb_ => first | omega | (simp; done) | (simp; omega))) | with_reducible refine Below.drew ?_ | with_reducible refine below_drewN ?_ _))⟩
end Go.Proofs.Ytdkkjlapmaageaa.T3
