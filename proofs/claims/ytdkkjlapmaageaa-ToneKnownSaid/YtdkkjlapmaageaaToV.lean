/- chapter 27: sums over the pixels of a tile, wherever they begin. -/
import Derived.Test.YtdkkjlapmaageaaToT
import Derived.WalkKit
import Derived.Lib.Hide
import Derived.Deep.QuietTactic
import Derived.BigQuiet
import Derived.Lib.QuietBelow
import Derived.Deep.RegionHeld3
import Derived.WalkLawsBesides
import Derived.WalkSpells
import Derived.Outline
import Derived.Deep.DeepFit
import Derived.Maps.AppendAt
import Derived.Deep.AppendLies
namespace Go.Proofs.Ytdkkjlapmaageaa.T3
set_option linter.unusedSimpArgs false
set_option linter.unusedVariables false
open Go.RowKit Go.Sort Go.Lib Go.Shelf
/-- the sum of the first n values -/
def sm (f : Nat → Int) : Nat → Int
  | 0 => 0
  | n + 1 => sm f n + f n
theorem sm_congr {f g : Nat → Int} : ∀ n, (∀ i, i < n → f i = g i) → sm f n = sm g n
  | 0, _ => rfl
  | n + 1, h => by rw [sm, sm, sm_congr n (fun i hi => h i (by omega)), h n (by omega)]
theorem sm_shift (h : Nat → Int) : ∀ n, sm (fun i => h (i + 1)) n + h 0 = sm h n + h n
  | 0 => by simp [sm]
  | n + 1 => by have := sm_shift h n; simp only [sm]; omega
theorem sm_bd {f : Nat → Int} {B : Int} (hf : ∀ i, 0 ≤ f i ∧ f i ≤ B) : ∀ n : Nat, 0 ≤ sm f n ∧ sm f n ≤ n * B
  | 0 => by simp [sm]
  | n + 1 => by
    have h1 := sm_bd hf n
    have h2 := hf n
    simp only [sm]
    have e : ((n + 1 : Nat) : Int) * B = n * B + B := by rw [Int.natCast_add, Int.add_mul]; simp
    rw [e]
    omega
theorem sm_turn (g : Nat → Int) (W : Nat) (hW : 0 < W) : ∀ s, sm (fun i => g ((s + i) % W)) W = sm g W
  | 0 => sm_congr W fun i hi => by rw [Nat.zero_add, Nat.mod_eq_of_lt hi]
  | s + 1 => by
    have h1 := sm_shift (fun i => g ((s + i) % W)) W
    have h2 := sm_turn g W hW s
    have h3 : (s + W) % W = (s + 0) % W := by rw [Nat.add_mod_right, Nat.add_zero]
    simp only [h3] at h1
    have h4 : sm (fun i => g ((s + 1 + i) % W)) W = sm (fun i => g ((s + (i + 1)) % W)) W := sm_congr W fun i _ => by rw [show s + 1 + i = s + (i + 1) by omega]
    rw [h4]
    omega
/-- the sum does not change when the indices are turned around -/
theorem sm_cyc (g : Nat → Int) (W : Nat) (hW : 0 < W) (x : Int) : sm (fun i => g (((x + i) % (W : Int)).toNat)) W = sm g W := by
  have h0 := Int.emod_nonneg x (show (W : Int) ≠ 0 by omega)
  obtain ⟨s, hs⟩ : ∃ s : Nat, x % (W : Int) = s := ⟨(x % (W : Int)).toNat, by omega⟩
  rw [← sm_turn g W hW s]
  refine sm_congr W fun i _ => ?_
  have : (x + i) % (W : Int) = (((s + i) % W : Nat) : Int) := by
    rw [Int.add_emod, hs, Int.natCast_emod, Int.natCast_add, Int.add_emod (s : Int) i, ← hs, Int.emod_emod_of_dvd _ (Int.dvd_refl _)]
  simp only [this, Int.toNat_natCast]
def ind (T : ByteArray) (W H a p q : Int) : Int := if thr T W H p q < a then 1 else 0
theorem cnt_sm (T : ByteArray) (a : Int) : ∀ n, cnt T a n = sm (fun t => if oct T t < a then 1 else 0) n
  | 0 => rfl
  | n + 1 => by rw [cnt, cnt_sm T a n, sm]
theorem sm_add (f : Nat → Int) (a : Nat) : ∀ b, sm f (a + b) = sm f a + sm (fun i => f (a + i)) b
  | 0 => by simp [sm]
  | b + 1 => by rw [← Nat.add_assoc, sm, sm_add f a b, sm]; omega
theorem sm_rows (f : Nat → Int) (m : Nat) : ∀ h, sm (fun j => sm (fun i => f (j * m + i)) m) h = sm f (h * m)
  | 0 => by simp [sm]
  | h + 1 => by rw [sm, sm_rows f m h, Nat.succ_mul, sm_add]
theorem sm_tile (T : ByteArray) {m h : Nat} (hm : 0 < m) (hh : 0 < h) (a x y : Int) : sm (fun j => sm (fun i => ind T m h a (x + i) (y + j)) m) h = cnt T a (h * m) := by
  rw [cnt_sm, ← sm_rows]
  rw [← sm_cyc (fun r => sm (fun i => if oct T (r * m + i) < a then 1 else 0) m) h hh y]
  refine sm_congr h fun j _ => ?_
  have h0 := Int.emod_nonneg (y + j) (show (h : Int) ≠ 0 by omega)
  rw [← sm_cyc (fun i => if oct T (((y + j) % (h : Int)).toNat * m + i) < a then 1 else 0) m hm x]
  refine sm_congr m fun i _ => ?_
  have h1 := Int.emod_nonneg (x + i) (show (m : Int) ≠ 0 by omega)
  unfold ind thr plc
  congr 3
  obtain ⟨u, hu⟩ : ∃ u : Nat, (y + j) % (h : Int) = u := ⟨((y + j) % (h : Int)).toNat, by omega⟩
  obtain ⟨v, hv⟩ : ∃ v : Nat, (x + i) % (m : Int) = v := ⟨((x + i) % (m : Int)).toNat, by omega⟩
  rw [hu, hv, Int.toNat_natCast, Int.toNat_natCast]
  have : (u : Int) * m = ((u * m : Nat) : Int) := by simp
  rw [this]
  omega
theorem ind_yes {T : ByteArray} {W H a p q : Int} (h : thr T W H p q < a) : ind T W H a p q = 1 := by unfold ind; rw [if_pos h]
theorem ind_no {T : ByteArray} {W H a p q : Int} (h : ¬ thr T W H p q < a) : ind T W H a p q = 0 := by unfold ind; rw [if_neg h]
theorem ind_bd (T : ByteArray) (W H a p q : Int) : 0 ≤ ind T W H a p q ∧ ind T W H a p q ≤ 1 := by unfold ind; split <;> omega
theorem plc_turn (W H p q : Int) : plc W H (p + W) (q - H) = plc W H p q := by
  unfold plc
  rw [Int.add_emod_right, Int.sub_emod_right]
theorem bits_ok {W H : Int} {T : ByteArray} {a b c d : Int} (x y : Int) (w : World) (hT : okT W H T) (hI : okI a b c d) (hS : T.size ≤ 256) : Calls Try.prog 21 #[.agg #[.int .i64 W, .int .i64 H, .string T], .agg #[.int .i64 a, .int .i64 b, .int .i64 c, .int .i64 d], .int .i64 x, .int .i64 y] w fun e w' => e = .returned (.tuple #[.int .i64 (psum (thr T W H x y) a b c d 4), .int .i64 0]) ∧ RowKit.Below w.heap.size w w' := by
  have := mbits_any W H T a b c d x y w (by omega)
  unfold bitsV bitsE at this
  rw [if_pos ⟨hT, hI⟩, if_pos hT, if_pos hI] at this
  exact this
theorem lset_ok {W H : Int} {T : ByteArray} {n : Int} (x y : Int) (w : World) (hT : okT W H T) (hn : 0 ≤ n ∧ n ≤ 255) (hS : T.size ≤ 256) : Calls Try.prog 24 #[.agg #[.int .i64 W, .int .i64 H, .string T], .int .i64 n, .int .i64 x, .int .i64 y] w fun e w' => e = .returned (.bool (decide (thr T W H x y < n))) ∧ RowKit.Below w.heap.size w w' := by
  have := lset_any W H T n x y w (by omega)
  unfold bitV at this
  rw [if_pos ⟨hT, hn⟩] at this
  exact this
theorem okT_size {W H : Int} {T : ByteArray} (h : okT W H T) : T.size ≤ 256 := by
  obtain ⟨h1, h2, h3, _⟩ := h
  have : W * H ≤ 16 * 16 := Int.mul_le_mul (by omega) (by omega) (by omega) (by omega)
  omega
def fewT (S : ByteArray) : ByteArray := S.extract 0 (min (S.size : Int) 300).toNat
theorem fewT_size (S : ByteArray) : (fewT S).size ≤ 300 := by unfold fewT; rw [ByteArray.size_extract]; omega
theorem few_is (W H : Int) (S : ByteArray) (w : World) (hS : S.size ≤ 9223372036854775807) :
    Calls Try.prog 14 #[.agg #[.int .i64 W, .int .i64 H, .string S]] w fun e w' => e = .returned (.agg #[.int .i64 W, .int .i64 H, .string (fewT S)]) ∧ RowKit.Below w.heap.size w w' := by
  unfold fewT
  have hmin := min2 (S.size : Int) 300
  have h0 : 0 ≤ min (S.size : Int) 300 := by omega
  have h1 : min (S.size : Int) 300 ≤ S.size := by omega
  have h2 : min (S.size : Int) 300 ≤ 300 := by omega
  obtain ⟨m, hm⟩ : ∃ m, min (S.size : Int) 300 = m := ⟨_, rfl⟩
  rw [hm] at hmin h0 h1 h2 ⊢
  clear hm
  go_enter Try.func14, Try.ntmps14
  go_wp2_with fail
  exact bodyPost_ret (v := .agg #[.int .i64 W, .int .i64 H, .string (S.extract 0 m.toNat)]) (by simp [results, Try.results14, go_sem]) rfl ⟨rfl, (by repeat (first | with_reducible exact Below.refl _ _ | with_reducible assumption | ((with_reducible refine Below.alloc ?_ ?hb_ _); (case hb_ => first | omega | (simp; done) | (simp; omega))) | ((with_reducible refine Below.setCell ?_ ?hb_ _); (case hb_ => first | omega | (simp; done) | (simp; omega))) | with_reducible refine Below.drew ?_ | with_reducible refine below_drewN ?_ _))⟩
theorem spot_both (k W H : Int) : ∃ (a b : Int) (T : ByteArray) (e0 : Int), (∀ w, Calls Try.prog 10 #[.int .i64 k, .int .i64 W, .int .i64 H] w fun e w' => e = .returned (.tuple #[.agg #[.int .i64 a, .int .i64 b, .string T], .int .i64 e0]) ∧ RowKit.Below w.heap.size w w') ∧ (∀ w, Calls Try.prog 11 #[.int .i64 k, .int .i64 W, .int .i64 H] w fun e w' => e = .returned (.tuple #[.agg #[.int .i64 a, .int .i64 b, .string T], .int .i64 e0]) ∧ RowKit.Below w.heap.size w w') :=
  ⟨_, _, _, _, fun w => mspot_any k W H w, fun w => rspot_any k W H w⟩
theorem check_both (W H : Int) (T : ByteArray) (hS : T.size ≤ 9223372036854775807) : ∃ e0 : Int, (∀ w, Calls Try.prog 12 #[.agg #[.int .i64 W, .int .i64 H, .string T]] w fun e w' => e = .returned (.int .i64 e0) ∧ RowKit.Below w.heap.size w w') ∧ (∀ w, Calls Try.prog 13 #[.agg #[.int .i64 W, .int .i64 H, .string T]] w fun e w' => e = .returned (.int .i64 e0) ∧ RowKit.Below w.heap.size w w') :=
  ⟨_, fun w => tcheck_any W H T w hS, fun w => rcheck_any W H T w hS⟩
theorem bit_both (W H : Int) (T : ByteArray) (n x y : Int) (hS : T.size ≤ 9223372036854775807) : ∃ (v : Bool) (e0 : Int), (∀ w, Calls Try.prog 16 #[.agg #[.int .i64 W, .int .i64 H, .string T], .int .i64 n, .int .i64 x, .int .i64 y] w fun e w' => e = .returned (.tuple #[.bool v, .int .i64 e0]) ∧ RowKit.Below w.heap.size w w') ∧ (∀ w, Calls Try.prog 17 #[.agg #[.int .i64 W, .int .i64 H, .string T], .int .i64 n, .int .i64 x, .int .i64 y] w fun e w' => e = .returned (.tuple #[.bool v, .int .i64 e0]) ∧ RowKit.Below w.heap.size w w') :=
  ⟨_, _, fun w => mbit_any W H T n x y w hS, fun w => rbit_any W H T n x y w hS⟩
theorem count_both (W H : Int) (T : ByteArray) (n : Int) (hS : T.size ≤ 9223372036854775807) : ∃ (v e0 : Int), (∀ w, Calls Try.prog 18 #[.agg #[.int .i64 W, .int .i64 H, .string T], .int .i64 n] w fun e w' => e = .returned (.tuple #[.int .i64 v, .int .i64 e0]) ∧ RowKit.Below w.heap.size w w') ∧ (∀ w, Calls Try.prog 19 #[.agg #[.int .i64 W, .int .i64 H, .string T], .int .i64 n] w fun e w' => e = .returned (.tuple #[.int .i64 v, .int .i64 e0]) ∧ RowKit.Below w.heap.size w w') :=
  ⟨_, _, fun w => mcount_any W H T n w hS, fun w => rcount_any W H T n w hS⟩
theorem bits_both (W H : Int) (T : ByteArray) (a b c d x y : Int) (hS : T.size ≤ 9223372036854775807) : ∃ (v e0 : Int), (∀ w, Calls Try.prog 21 #[.agg #[.int .i64 W, .int .i64 H, .string T], .agg #[.int .i64 a, .int .i64 b, .int .i64 c, .int .i64 d], .int .i64 x, .int .i64 y] w fun e w' => e = .returned (.tuple #[.int .i64 v, .int .i64 e0]) ∧ RowKit.Below w.heap.size w w') ∧ (∀ w, Calls Try.prog 22 #[.agg #[.int .i64 W, .int .i64 H, .string T], .agg #[.int .i64 a, .int .i64 b, .int .i64 c, .int .i64 d], .int .i64 x, .int .i64 y] w fun e w' => e = .returned (.tuple #[.int .i64 v, .int .i64 e0]) ∧ RowKit.Below w.heap.size w w') :=
  ⟨_, _, fun w => mbits_any W H T a b c d x y w hS, fun w => rbits_any W H T a b c d x y w hS⟩
end Go.Proofs.Ytdkkjlapmaageaa.T3
