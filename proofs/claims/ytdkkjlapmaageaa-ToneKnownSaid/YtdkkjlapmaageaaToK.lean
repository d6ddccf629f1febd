/- chapter 27: tiles: which are valid, by the program and by the reference. -/
import Derived.Test.YtdkkjlapmaageaaToA
import Derived.Test.YtdkkjlapmaageaaToS
import Derived.Shelf.Small.Strs
import Derived.Lib.IndexLaws
import Derived.Deep.CutRange
import Derived.WalkKit
import Derived.Lib.Hide
import Derived.Deep.QuietTactic
import Derived.BigQuiet
import Derived.Lib.QuietBelow
import Derived.Deep.RegionHeld3
import Derived.WalkLawsBesides
import Derived.WalkSpells
import Derived.Outline
import Derived.Deep.DeepFit
import Derived.Maps.AppendAt
import Derived.Deep.AppendLies
namespace Go.Proofs.Ytdkkjlapmaageaa.T3
set_option linter.unusedSimpArgs false
set_option linter.unusedVariables false
open Go.RowKit Go.Sort Go.Lib Go.Shelf
set_option maxHeartbeats 1000000
set_option maxRecDepth 100000
/-- the octet at a place -/
def oct (T : ByteArray) (i : Nat) : Int := ((T.data.getD i 0).toNat : Int)
theorem oct_bd (T : ByteArray) (i : Nat) : 0 ≤ oct T i ∧ oct T i ≤ 255 := by
  unfold oct
  have := (T.data.getD i 0).toNat_lt
  omega
def okT (W H : Int) (T : ByteArray) : Prop := (1 ≤ W ∧ W ≤ 16) ∧ (1 ≤ H ∧ H ≤ 16) ∧ (T.size : Int) = W * H ∧ ∀ i, i < T.size → oct T i ≠ 255
instance (W H : Int) (T : ByteArray) : Decidable (okT W H T) := by unfold okT; infer_instance
def okE (W H : Int) (T : ByteArray) : Int := if okT W H T then 0 else 370
theorem oct_at (T : ByteArray) (i : Nat) (hi : i < T.size) : ((T[i]'hi).toNat : Int) = oct T i := by
  unfold oct
  have h : i < T.data.size := hi
  rw [Array.getD_eq_getD_getElem?, Array.getElem?_eq_getElem h]
  rfl
theorem str_at (T : ByteArray) (i : Int) (w : World) (h0 : 0 ≤ i) (h1 : i < T.size) : Sem.run Try.prog (Instr.index 9 (.string T) (.int .i64 i)) w = .ok (.int .u8 (oct T i.toNat)) w := by
  rw [run_index_string w 9 T .i64 i Try.underlying9, dif_pos ⟨h0, h1⟩, oct_at]
def ib (T : ByteArray) : Int := Lib.indexByte T.data.toList (255 : Int).toNat.toUInt8
theorem ixb (T : ByteArray) (w : World) : Calls Try.prog 36 #[.string T, .int .u8 255] w fun e w' => e = .returned (.int .i64 (ib T)) ∧ w' = w :=
  Any.strings_IndexByte indexByte T 255 w
theorem u8_eq (c : UInt8) : c = (255 : Int).toNat.toUInt8 ↔ (c.toNat : Int) = 255 := by
  constructor
  · rintro rfl; rfl
  · intro h
    apply UInt8.toNat_inj.1
    show _ = 255
    omega
theorem ib_spec (T : ByteArray) : 0 ≤ ib T ↔ ∃ i, i < T.size ∧ oct T i = 255 := by
  constructor
  · intro h
    obtain ⟨o, ho⟩ : ∃ o : Nat, ib T = o := ⟨(ib T).toNat, by omega⟩
    have h1 := (indexByte_some ho).1
    rw [Array.getElem?_toList] at h1
    obtain ⟨h2, h3⟩ := Array.getElem?_eq_some_iff.1 h1
    refine ⟨o, h2, ?_⟩
    rw [← oct_at T o h2]
    exact (u8_eq _).1 h3
  · rintro ⟨i, hi, h⟩
    have hg : -1 ≤ ib T := Lib.indexByte_ge _ _
    rcases Int.lt_or_le (ib T) 0 with h1 | h1
    · exfalso
      have h2 : ib T = -1 := by omega
      refine indexByte_none h2 i ?_
      rw [Array.getElem?_toList]
      have h3 : i < T.data.size := hi
      rw [Array.getElem?_eq_getElem h3]
      rw [← oct_at T i hi] at h
      exact congrArg some ((u8_eq _).2 h)
    · exact h1
theorem okT_no (W H : Int) (T : ByteArray) (h : ¬ okT W H T) : okE W H T = 370 := by unfold okE; rw [if_neg h]
theorem okT_yes (W H : Int) (T : ByteArray) (h : okT W H T) : okE W H T = 0 := by unfold okE; rw [if_pos h]
theorem tcheck_any (W H : Int) (T : ByteArray) (w : World) (hS : T.size ≤ 9223372036854775807) :
    Calls Try.prog 12 #[.agg #[.int .i64 W, .int .i64 H, .string T]] w fun e w' => e = .returned (.int .i64 (okE W H T)) ∧ RowKit.Below w.heap.size w w' := by
  have hmin := min2 W H
  have hmax := max2 W H
  obtain ⟨mn, hmn⟩ : ∃ mn, min W H = mn := ⟨_, rfl⟩
  obtain ⟨mx, hmx⟩ : ∃ mx, max W H = mx := ⟨_, rfl⟩
  rw [hmn] at hmin
  rw [hmx] at hmax
  by_cases g1 : mn < 1
  · rw [okT_no W H T (by rintro ⟨h1, h2, _⟩; omega)]
    clear hmn hmx
    go_enter Try.func12, Try.ntmps12
    go_wp2_with fail
    go_ret
    exact ⟨rfl, (by repeat (first | with_reducible exact Below.refl _ _ | with_reducible assumption | ((with_reducible refine Below.alloc ?_ ?hb_ _); (case hb_ => first | omega | (simp; done) | (simp; omega))) | ((with_reducible refine Below.setCell ?_ ?hb_ _); (case hb_ => first | omega | (simp; done) | (simp; omega))) | with_reducible refine Below.drew ?_ | with_reducible refine below_drewN ?_ _))⟩
  by_cases g2 : 16 < mx
  · rw [okT_no W H T (by rintro ⟨h1, h2, _⟩; omega)]
    clear hmn hmx
    go_enter Try.func12, Try.ntmps12
    go_wp2_with fail
    go_ret
    exact ⟨rfl, (by repeat (first | with_reducible exact Below.refl _ _ | with_reducible assumption | ((with_reducible refine Below.alloc ?_ ?hb_ _); (case hb_ => first | omega | (simp; done) | (simp; omega))) | ((with_reducible refine Below.setCell ?_ ?hb_ _); (case hb_ => first | omega | (simp; done) | (simp; omega))) | with_reducible refine Below.drew ?_ | with_reducible refine below_drewN ?_ _))⟩
  have hW : 1 ≤ W ∧ W ≤ 16 := by omega
  have hH : 1 ≤ H ∧ H ≤ 16 := by omega
  clear hmn hmx
  obtain ⟨t1, t2⟩ := mul_bd (a := W) (b := H) (X := 16) (Y := 16) (by omega) (by omega) (by omega) (by omega)
  simp only [Int.reduceMul, Int.reduceNeg] at t1 t2
  by_cases g3 : (T.size : Int) = W * H
  · have hix := ixb T
    have hsp := ib_spec T
    obtain ⟨q, hq⟩ : ∃ q, ib T = q := ⟨_, rfl⟩
    rw [hq] at hsp hix
    clear hq
    by_cases g4 : 0 ≤ q
    · rw [okT_no W H T (by rintro ⟨_, _, _, h⟩; obtain ⟨i, hi, he⟩ := hsp.1 g4; exact h i hi he)]
      clear hsp
      go_enter Try.func12, Try.ntmps12
      go_wp2_with fail
      refine (hix _).mono ?_
      rintro e w1 ⟨rfl, rfl⟩
      go_wp2_with fail
      go_ret
      exact ⟨rfl, (by repeat (first | with_reducible exact Below.refl _ _ | with_reducible assumption | ((with_reducible refine Below.alloc ?_ ?hb_ _); (case hb_ => first | omega | (simp; done) | (simp; omega))) | ((with_reducible refine Below.setCell ?_ ?hb_ _); (case hb_ => first | omega | (simp; done) | (simp; omega))) | with_reducible refine Below.drew ?_ | with_reducible refine below_drewN ?_ _))⟩
    · rw [okT_yes W H T ⟨hW, hH, g3, fun i hi he => g4 (hsp.2 ⟨i, hi, he⟩)⟩]
      clear hsp
      go_enter Try.func12, Try.ntmps12
      go_wp2_with fail
      refine (hix _).mono ?_
      rintro e w1 ⟨rfl, rfl⟩
      go_wp2_with fail
      go_ret
      exact ⟨rfl, (by repeat (first | with_reducible exact Below.refl _ _ | with_reducible assumption | ((with_reducible refine Below.alloc ?_ ?hb_ _); (case hb_ => first | omega | (simp; done) | (simp; omega))) | ((with_reducible refine Below.setCell ?_ ?hb_ _); (case hb_ => first | omega | (simp; done) | (simp; omega))) | with_reducible refine Below.drew ?_ | with_reducible refine below_drewN ?_ _))⟩
  · rw [okT_no W H T (fun h => g3 h.2.2.1)]
    go_enter Try.func12, Try.ntmps12
    go_wp2_with fail
    go_ret
    exact ⟨rfl, (by repeat (first | with_reducible exact Below.refl _ _ | with_reducible assumption | ((with_reducible refine Below.alloc ?_ ?hb_ _); (case hb_ => first | omega | (simp; done) | (simp; omega))) | ((with_reducible refine Below.setCell ?_ ?hb_ _); (case hb_ => first | omega | (simp; done) | (simp; omega))) | with_reducible refine Below.drew ?_ | with_reducible refine below_drewN ?_ _))⟩
theorem right_any (W H : Int) (T : ByteArray) (w : World) (hS : T.size ≤ 9223372036854775807) :
    Calls Try.prog 37 #[.agg #[.int .i64 W, .int .i64 H, .string T]] w fun e w' => e = .returned (.bool (decide (okT W H T))) ∧ RowKit.Below w.heap.size w w' := by
  by_cases g1 : W < 1
  · rw [decide_eq_false (show ¬ okT W H T by rintro ⟨h1, h2, _⟩; omega)]
    go_enter Try.func37, Try.ntmps37
    go_wp2_with fail
    go_ret
    exact ⟨rfl, (by repeat (first | with_reducible exact Below.refl _ _ | with_reducible assumption | ((with_reducible refine Below.alloc ?_ ?hb_ _); (case hb_ => first | omega | (simp; done) | (simp; omega))) | ((with_reducible refine Below.setCell ?_ ?hb_ _); (case hb_ => first | omega | (simp; done) | (simp; omega))) | with_reducible refine Below.drew ?_ | with_reducible refine below_drewN ?_ _))⟩
  by_cases g2 : 16 < W
  · rw [decide_eq_false (show ¬ okT W H T by rintro ⟨h1, h2, _⟩; omega)]
    go_enter Try.func37, Try.ntmps37
    go_wp2_with fail
    go_ret
    exact ⟨rfl, (by repeat (first | with_reducible exact Below.refl _ _ | with_reducible assumption | ((with_reducible refine Below.alloc ?_ ?hb_ _); (case hb_ => first | omega | (simp; done) | (simp; omega))) | ((with_reducible refine Below.setCell ?_ ?hb_ _); (case hb_ => first | omega | (simp; done) | (simp; omega))) | with_reducible refine Below.drew ?_ | with_reducible refine below_drewN ?_ _))⟩
  by_cases g3 : H < 1
  · rw [decide_eq_false (show ¬ okT W H T by rintro ⟨h1, h2, _⟩; omega)]
    go_enter Try.func37, Try.ntmps37
    go_wp2_with fail
    go_ret
    exact ⟨rfl, (by repeat (first | with_reducible exact Below.refl _ _ | with_reducible assumption | ((with_reducible refine Below.alloc ?_ ?hb_ _); (case hb_ => first | omega | (simp; done) | (simp; omega))) | ((with_reducible refine Below.setCell ?_ ?hb_ _); (case hb_ => first | omega | (simp; done) | (simp; omega))) | with_reducible refine Below.drew ?_ | with_reducible refine below_drewN ?_ _))⟩
  by_cases g4 : 16 < H
  · rw [decide_eq_false (show ¬ okT W H T by rintro ⟨h1, h2, _⟩; omega)]
    go_enter Try.func37, Try.ntmps37
    go_wp2_with fail
    go_ret
    exact ⟨rfl, (by repeat (first | with_reducible exact Below.refl _ _ | with_reducible assumption | ((with_reducible refine Below.alloc ?_ ?hb_ _); (case hb_ => first | omega | (simp; done) | (simp; omega))) | ((with_reducible refine Below.setCell ?_ ?hb_ _); (case hb_ => first | omega | (simp; done) | (simp; omega))) | with_reducible refine Below.drew ?_ | with_reducible refine below_drewN ?_ _))⟩
  obtain ⟨t1, t2⟩ := mul_bd (a := W) (b := H) (X := 16) (Y := 16) (by omega) (by omega) (by omega) (by omega)
  simp only [Int.reduceMul, Int.reduceNeg] at t1 t2
  by_cases g5 : (T.size : Int) = W * H
  · go_enter Try.func37, Try.ntmps37
    go_wp2_with fail
    go_loopw [2, 3] (fun v2 v3 wr => ∃ i : Nat, i ≤ T.size ∧ v2 = .bool false ∧ v3 = .int .i64 i ∧ (∀ j, j < i → oct T j ≠ 255) ∧ wr.heap[w.heap.size]? = some (.cells #[.int .i64 W, .int .i64 H, .string T] 26 (0, 0)) ∧ RowKit.Below w.heap.size w wr) (fun _ v _ => T.size - (intOf v).toNat)
    case atStart => exact ⟨0, Nat.zero_le _, rfl, rfl, fun j hj => absurd hj (by omega), rw_new rfl, RowKit.Below.alloc (RowKit.Below.refl _ _) (Nat.le_refl _) _⟩
    case round =>
      obtain ⟨i, hi, rfl, rfl, hall, hr, hb⟩ := hrel
      obtain ⟨r0, r1, r2⟩ := cel3 hr
      have hl := rw_lt hr
      by_cases g6 : i < T.size
      · have hat := fun w => str_at T i w (by omega) (by omega)
        by_cases g7 : oct T i = 255
        · rw [show ((i : Int)).toNat = i by omega, g7] at hat
          go_wp2_with fail
          go_ret
          exact ⟨ret_bool (decide_eq_false (fun h => h.2.2.2 i g6 g7)).symm, hb⟩
        · obtain ⟨q, hq⟩ : ∃ q, oct T i = q := ⟨_, rfl⟩
          have g8 : ¬ q = 255 := by omega
          rw [show ((i : Int)).toNat = i by omega, hq] at hat
          go_wp2_with fail
          go_roundw
          case rel => exact ⟨i + 1, by omega, rfl, by go_num, fun j hj => by rcases Nat.lt_or_eq_of_le (Nat.le_of_lt_succ hj) with h | rfl; (exact hall j h); exact g7, hr, hb⟩
          case measure => simp [intOf]; omega
      · have hii : i = T.size := by omega
        subst hii
        go_wp2_with fail
        go_ret
        exact ⟨ret_bool (decide_eq_true (show okT W H T from ⟨⟨by omega, by omega⟩, ⟨by omega, by omega⟩, g5, hall⟩)).symm, hb⟩
  · rw [decide_eq_false (fun h => g5 h.2.2.1)]
    go_enter Try.func37, Try.ntmps37
    go_wp2_with fail
    go_ret
    exact ⟨rfl, (by repeat (first | with_reducible exact Below.refl _ _ | with_reducible assumption | ((with_reducible refine Below.alloc ?_ ?hb_ _); (case hb_ => first | omega | (simp; done) | (simp; omega))) | ((with_reducible refine Below.setCell ?_ ?hb_ _); (case hb_ => first | omega | (simp; done) | (simp; omega))) | with_reducible refine Below.drew ?_ | with_reducible refine below_drewN ?_ _))⟩
theorem rcheck_any (W H : Int) (T : ByteArray) (w : World) (hS : T.size ≤ 9223372036854775807) :
    Calls Try.prog 13 #[.agg #[.int .i64 W, .int .i64 H, .string T]] w fun e w' => e = .returned (.int .i64 (okE W H T)) ∧ RowKit.Below w.heap.size w w' := by
  have hr := fun w => right_any W H T w hS
  by_cases g : okT W H T
  · rw [okT_yes W H T g]
    rw [decide_eq_true g] at hr
    clear g
    go_enter Try.func13, Try.ntmps13
    go_wp2_with fail
    refine (hr _).mono ?_
    rintro e w1 ⟨rfl, hb1⟩
    go_wp2_with fail
    go_ret
    exact ⟨rfl, below_then (Below.alloc (Below.refl _ _) (Nat.le_refl _) _) (by simp) hb1⟩
  · rw [okT_no W H T g]
    rw [decide_eq_false g] at hr
    clear g
    go_enter Try.func13, Try.ntmps13
    go_wp2_with fail
    refine (hr _).mono ?_
    rintro e w1 ⟨rfl, hb1⟩
    go_wp2_with fail
    go_ret
    exact ⟨rfl, below_then (Below.alloc (Below.refl _ _) (Nat.le_refl _) _) (by simp) hb1⟩
end Go.Proofs.Ytdkkjlapmaageaa.T3
