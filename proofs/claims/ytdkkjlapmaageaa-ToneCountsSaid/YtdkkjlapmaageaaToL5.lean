/- ToneCounts: the walk. -/
import Derived.Test.YtdkkjlapmaageaaToU
import Derived.Test.YtdkkjlapmaageaaToW
import Derived.Test.YtdkkjlapmaageaaToP
import Derived.ChangeKeysEq
import Derived.WalkKit
import Derived.Lib.Hide
import Derived.Deep.QuietTactic
import Derived.BigQuiet
import Derived.Lib.QuietBelow
import Derived.Deep.RegionHeld3
import Derived.WalkLawsBesides
import Derived.WalkSpells
import Derived.Outline
import Derived.Deep.DeepFit
import Derived.Maps.AppendAt
import Derived.Deep.AppendLies
import Derived.Deep.CutRange
import Derived.OpenShut
namespace Go.Proofs.Ytdkkjlapmaageaa.T3
set_option linter.unusedSimpArgs false
set_option linter.unusedVariables false
open Go.RowKit Go.Sort Go.Lib Go.Shelf
set_option maxHeartbeats 4000000
set_option maxRecDepth 100000

theorem zeroA (w : World) : Sem.run Try.prog (zeroValue 50) w = .ok (.agg (arrI 255 fun _ => 0)) w := by kernel_rfl
theorem wp_alloc_agg {P : Program} {o : Oper} {a : Act} {w : World} {K : Act → World → Prop} {Q : Exit → Act → World → Prop} (t : TypeId) (cs : Array Value) (ho : o.op = .alloc t) (hz : ∀ w, Sem.run P (zeroValue t) w = .ok (.agg cs) w)
    (h : K (a.put o.dst (.pointer (some ⟨w.heap.size, 0, none⟩))) (w.alloc (.cells cs t))) : o.wp P a w K Q := by
  unfold Oper.wp execOp
  simp [ho, Instr.alloc, hz, newVar, Value.cells]
  exact h
theorem int_eq (d : Nat) (a : Int) (w : World) : (Op.equalIn (d + 1) 3 (.int .i64 a) (.int .i64 a)).run Try.prog w = .ok true w := by
  unfold Op.equalIn
  simp only [Sem.run_bind, run_underlying Try.underlying3, Result.andThen_ok]
  simp
theorem items_eq (f : Nat → Int) (w : World) : ∀ l : List Nat, (∀ j ∈ l, j < 255) → (Op.eqItems 9999 3 1 (arrI 255 f) (arrI 255 f) l).run Try.prog w = .ok true w
  | [], _ => rfl
  | j :: l, h => by
    have hj := h j (by simp)
    have hp : (part 3 (arrI 255 f) (j * 1)).run Try.prog w = .ok (.int .i64 (f j)) w := run_part_plain w (by kernel_rfl) (by rw [Nat.mul_one]; exact arrI_get hj)
    have he : (Op.equalIn 9999 3 (.int .i64 (f j)) (.int .i64 (f j))).run Try.prog w = .ok true w := int_eq 9998 _ w
    unfold Op.eqItems
    simp only [Sem.run_bind, hp, he, Result.andThen_ok]
    simp only [Bool.not_true, Bool.false_eq_true, if_false]
    exact items_eq f w l (fun x hx => h x (by simp [hx]))
theorem arr_eq (f : Nat → Int) (w : World) : (Op.equal 50 (.agg (arrI 255 f)) (.agg (arrI 255 f))).run Try.prog w = .ok true w := by
  obtain ⟨i, hi⟩ := info_of_underlying Try.underlying3
  have h := run_equalIn_array (P := Try.prog) w 9999 (arrI 255 f) (arrI 255 f) Try.underlying50 hi
  have hc : Try.prog.cellsOf 3 = 1 := by kernel_rfl
  rw [hc, items_eq f w _ (fun j hj => by simpa using hj)] at h
  exact h
theorem mny_store (f : Nat → Int) (i u : Nat) (h : f i = u) : (arrI 255 fun v => mny f v i).setIfInBounds u (.int .i64 (mny f u i + 1)) = arrI 255 fun v => mny f v (i + 1) := by
  rw [arrI_set]
  refine arrI_congr fun j _ => ?_
  rw [mny_succ, h]
  by_cases e : j = u
  · subst e; simp
  · rw [if_neg e, if_neg (by omega)]; simp
theorem count_ok {W H : Int} {T : ByteArray} {n : Int} (w : World) (hT : okT W H T) (hn : 0 ≤ n ∧ n ≤ 255) (hS : T.size ≤ 256) : Calls Try.prog 23 #[.agg #[.int .i64 W, .int .i64 H, .string T], .int .i64 n] w fun e w' => e = .returned (.int .i64 (cnt T n T.size)) ∧ RowKit.Below w.heap.size w w' := by
  have := lcount_any W H T n w (by omega)
  unfold cntN cntV bitE at this
  rw [if_pos hT, if_pos hn, if_pos rfl, if_pos ⟨hT, hn⟩] at this
  exact this
theorem counts_walk (k Wd Hd a : Int) (w : World) (s_k : (Lit.int .u8 k).wf = true) (s_Wd : (Lit.int .u8 Wd).wf = true) (s_Hd : (Lit.int .u8 Hd).wf = true) (s_a : (Lit.int .u8 a).wf = true) :
    Calls Try.prog 5 #[.int .u8 k, .int .u8 Wd, .int .u8 Hd, .int .u8 a] w fun e w' => e = .returned (.bool true) ∧ Below w.heap.size w w' := by
  have hk := bounds_u8 s_k
  have hWd := bounds_u8 s_Wd
  have hHd := bounds_u8 s_Hd
  have ha := bounds_u8 s_a
  clear s_k s_Wd s_Hd s_a
  obtain ⟨hk1, hk2⟩ := hk
  obtain ⟨hWd1, hWd2⟩ := hWd
  obtain ⟨hHd1, hHd2⟩ := hHd
  obtain ⟨ha1, ha2⟩ := ha
  have hW1 : 1 ≤ 1 + Wd % 16 ∧ 1 + Wd % 16 ≤ 16 := by omega
  have hH1 : 1 ≤ 1 + Hd % 16 ∧ 1 + Hd % 16 ≤ 16 := by omega
  have hk3 : 0 ≤ k % 3 ∧ k % 3 ≤ 2 := by omega
  obtain ⟨W, hW⟩ : ∃ W, 1 + Wd % 16 = W := ⟨_, rfl⟩
  obtain ⟨H, hH⟩ : ∃ H, 1 + Hd % 16 = H := ⟨_, rfl⟩
  obtain ⟨q, hq⟩ : ∃ q, k % 3 = q := ⟨_, rfl⟩
  rw [hW] at hW1
  rw [hH] at hH1
  rw [hq] at hk3
  obtain ⟨m, hm⟩ : ∃ m : Nat, W = m := ⟨W.toNat, by omega⟩
  obtain ⟨h, hh⟩ : ∃ h : Nat, H = h := ⟨H.toNat, by omega⟩
  have hm16 : m ≤ 16 := by omega
  have hh16 : h ≤ 16 := by omega
  have hsp := fun w => mspot_ok q W H w hk3 hW1 hH1
  have hokS := spot_ok q W H hW1 hH1
  have hsS : spotS q W H = strU (m * h) (spotF q W H m (m * h)) := by
    rw [spotS, show W.toNat = m by omega, show H.toNat = h by omega]
  have hn0 : 0 < m * h := Nat.mul_pos (by omega) (by omega)
  have hn1 : m * h ≤ 16 * 16 := Nat.mul_le_mul hm16 hh16
  have hWH : W * H = ((m * h : Nat) : Int) := by rw [hm, hh]; simp
  have hmany := fun v => spot_many q W H hm16 hh16 v
  have hcnt := spot_count q W H hm16 hh16 hn0 a ⟨ha1, ha2⟩
  have hbd : ∀ i, i < m * h → 0 ≤ spotF q W H m (m * h) i ∧ spotF q W H m (m * h) i < 255 := fun i hi => spotF_bd q W H hm16 hh16 hi
  have haw : a * W * H = a * ((m * h : Nat) : Int) := by rw [Int.mul_assoc, hWH]
  obtain ⟨n, hn⟩ : ∃ n : Nat, m * h = n := ⟨_, rfl⟩
  rw [hn] at hsS hn0 hn1 hWH hmany hcnt hbd haw
  have hck := fun w => check_t W H (spotS q W H) (by rw [hsS, strU_size]; omega) 0 (by unfold okE; rw [if_pos hokS]) w
  have hco := fun w => count_ok w hokS ⟨ha1, ha2⟩ (by rw [hsS, strU_size]; omega)
  rw [hsS] at hsp hck hco
  rw [strU_size, hcnt] at hco
  obtain ⟨S, hS⟩ : ∃ S, strU n (spotF q W H m n) = S := ⟨_, rfl⟩
  have hSn : S.size = n := by rw [← hS, strU_size]
  have hSat : ∀ i : Nat, i < n → ∀ w, Sem.run Try.prog (Instr.index 9 (.string S) (.int .i64 i)) w = .ok (.int .u8 (spotF q W H m n i)) w := by
    intro i hi w
    have := str_at S i w (by omega) (by omega)
    rw [this, ← hS, Int.toNat_natCast, strU_oct hi (by have := hbd i hi; omega)]
  rw [hS] at hsp hck hco
  obtain ⟨f, hf⟩ : ∃ f, spotF q W H m n = f := ⟨_, rfl⟩
  rw [hf] at hSat hmany hbd
  obtain ⟨aw1, aw2⟩ := mul_bd (a := a) (b := W) (X := 255) (Y := 16) (by omega) (by omega) (by omega) (by omega)
  simp only [Int.reduceMul, Int.reduceNeg] at aw1 aw2
  have an1 : 0 ≤ a * (n : Int) := Int.mul_nonneg ha1 (by omega)
  have an2 : a * (n : Int) ≤ 255 * 256 := Int.mul_le_mul ha2 (by omega) (by omega) (by omega)
  have hSz : (S.size : Int) = n := by omega
  have Hsp := Lib.hid hsp
  have Hck := Lib.hid hck
  have Hco := Lib.hid hco
  have Hat := Lib.hid hSat
  have Hmany := Lib.hid hmany
  have Hbd := Lib.hid hbd
  have Haw := Lib.hid haw
  have HWH := Lib.hid hWH
  obtain ⟨hW1, hW2⟩ := hW1
  obtain ⟨hH1, hH2⟩ := hH1
  obtain ⟨hk3, hk4⟩ := hk3
  clear hm hh hsp hck hco hSat hmany hbd haw hWH hf hS hsS hcnt hokS hn hm16 hh16 hSn
  go_enter Try.func5, Try.ntmps5
  go_wp2_with ((with_reducible refine rw_list ?_); (first | ((with_reducible apply wpList_load_cell); (case ho => with_reducible rfl); (case hgd => with_reducible rfl); (case hx => rfl); (case hu => first | exact Try.underlying26 | exact Try.underlying3 | exact Try.underlying5 | exact Try.underlying9); (case hd => rfl)) | ((with_reducible apply wpList_load_row); (case ho => with_reducible rfl); (case hgd => with_reducible rfl); (case hx => rfl); (case hu => first | exact Try.underlying26 | exact Try.underlying3 | exact Try.underlying5 | exact Try.underlying9); (case hd => rfl)) | ((with_reducible apply wpList_store_row); (case ho => with_reducible rfl); (case hgd => with_reducible rfl); (case hx => rfl); (case hy => rfl)) | ((with_reducible apply wpList_store_cell); (case ho => with_reducible rfl); (case hgd => with_reducible rfl); (case hx => rfl); (case hy => first | exact ev_const | exact ev_tmp rfl); (case h1 => rfl))); (case hg => exact (by with_reducible repeat (first | assumption | (refine rw_new ?e_; case e_ => first | rfl | (simp; done) | (simp; omega)) | apply rw_self | (apply rw_other; case hn => first | omega | (simp; omega)) | apply rw_alloc | apply rw_drew | apply rw_drewN))); (try case hv => rfl); (try case hi => kernel_rfl); (try case hold => rfl); (try case h1 => kernel_rfl); (try case hlt => rfl); (try case hcs => ((try simp only [List.setIfInBounds_toArray, List.set_cons_succ, List.set_cons_zero]); rfl)))
  refine (works_any _).mono ?_
  rintro e w1 ⟨rfl, hb⟩
  have hs_w1 := hb.size
  (try simp at hs_w1)
  have hB_w1 : Below w.heap.size w w1 := below_then (w := w) (by with_reducible repeat (first | exact Below.refl _ _ | assumption | ((first | refine Below.alloc ?_ ?b_ _ | refine bw_set ?_ ?b_ | refine Below.setCell ?_ ?b_ _); case b_ => first | omega | (simp; done) | (simp; omega)) | refine Below.drew ?_ | refine below_drewN ?_ _)) (by first | omega | (simp; done) | (simp; omega) | (have hq_ := hb.size; omega)) hb
  clear hb
  go_wp2_with ((with_reducible refine rw_list ?_); (first | ((with_reducible apply wpList_load_cell); (case ho => with_reducible rfl); (case hgd => with_reducible rfl); (case hx => rfl); (case hu => first | exact Try.underlying26 | exact Try.underlying3 | exact Try.underlying5 | exact Try.underlying9); (case hd => rfl)) | ((with_reducible apply wpList_load_row); (case ho => with_reducible rfl); (case hgd => with_reducible rfl); (case hx => rfl); (case hu => first | exact Try.underlying26 | exact Try.underlying3 | exact Try.underlying5 | exact Try.underlying9); (case hd => rfl)) | ((with_reducible apply wpList_store_row); (case ho => with_reducible rfl); (case hgd => with_reducible rfl); (case hx => rfl); (case hy => rfl)) | ((with_reducible apply wpList_store_cell); (case ho => with_reducible rfl); (case hgd => with_reducible rfl); (case hx => rfl); (case hy => first | exact ev_const | exact ev_tmp rfl); (case h1 => rfl))); (case hg => exact (by with_reducible repeat (first | assumption | (refine rw_new ?e_; case e_ => first | rfl | (simp; done) | (simp; omega)) | apply rw_self | (apply rw_other; case hn => first | omega | (simp; omega)) | apply rw_alloc | apply rw_drew | apply rw_drewN))); (try case hv => rfl); (try case hi => kernel_rfl); (try case hold => rfl); (try case h1 => kernel_rfl); (try case hlt => rfl); (try case hcs => ((try simp only [List.setIfInBounds_toArray, List.set_cons_succ, List.set_cons_zero]); rfl)))
  have hsp := Hsp.out
  refine (hsp _).mono ?_
  rintro e w2 ⟨rfl, hb⟩
  have hs_w2 := hb.size
  (try simp at hs_w2)
  have hB_w2 : Below w.heap.size w w2 := below_then (w := w) (by with_reducible repeat (first | exact Below.refl _ _ | assumption | ((first | refine Below.alloc ?_ ?b_ _ | refine bw_set ?_ ?b_ | refine Below.setCell ?_ ?b_ _); case b_ => first | omega | (simp; done) | (simp; omega)) | refine Below.drew ?_ | refine below_drewN ?_ _)) (by first | omega | (simp; done) | (simp; omega) | (have hq_ := hb.size; omega)) hb
  clear hb
  go_upto_region 5 with ((with_reducible refine rw_list ?_); (first | ((with_reducible apply wpList_load_cell); (case ho => with_reducible rfl); (case hgd => with_reducible rfl); (case hx => rfl); (case hu => first | exact Try.underlying26 | exact Try.underlying3 | exact Try.underlying5 | exact Try.underlying9); (case hd => rfl)) | ((with_reducible apply wpList_load_row); (case ho => with_reducible rfl); (case hgd => with_reducible rfl); (case hx => rfl); (case hu => first | exact Try.underlying26 | exact Try.underlying3 | exact Try.underlying5 | exact Try.underlying9); (case hd => rfl)) | ((with_reducible apply wpList_store_row); (case ho => with_reducible rfl); (case hgd => with_reducible rfl); (case hx => rfl); (case hy => rfl)) | ((with_reducible apply wpList_store_cell); (case ho => with_reducible rfl); (case hgd => with_reducible rfl); (case hx => rfl); (case hy => first | exact ev_const | exact ev_tmp rfl); (case h1 => rfl))); (case hg => exact (by with_reducible repeat (first | assumption | (refine rw_new ?e_; case e_ => first | rfl | (simp; done) | (simp; omega)) | apply rw_self | (apply rw_other; case hn => first | omega | (simp; omega)) | apply rw_alloc | apply rw_drew | apply rw_drewN))); (try case hv => rfl); (try case hi => kernel_rfl); (try case hold => rfl); (try case h1 => kernel_rfl); (try case hlt => rfl); (try case hcs => ((try simp only [List.setIfInBounds_toArray, List.set_cons_succ, List.set_cons_zero]); rfl)))
  generalize hwy_ : World.setRow _ _ _ = wy
  have hB_wy : Below w.heap.size w wy := bw_eq hwy_ (by with_reducible repeat (first | exact Below.refl _ _ | assumption | ((first | refine Below.alloc ?_ ?b_ _ | refine bw_set ?_ ?b_ | refine Below.setCell ?_ ?b_ _); case b_ => first | omega | (simp; done) | (simp; omega)) | refine Below.drew ?_ | refine below_drewN ?_ _))
  have hx_ := rw_eq (k := w2.heap.size) hwy_ (by with_reducible repeat (first | assumption | (refine rw_new ?e_; case e_ => first | rfl | (simp; done) | (simp; omega)) | apply rw_self | (apply rw_other; case hn => first | omega | (simp; omega)) | apply rw_alloc | apply rw_drew | apply rw_drewN))
  (try clear ht)
  have ht := hx_
  clear hx_
  have hl_ht := rw_lt ht
  (try clear htc0 htc1 htc2)
  obtain ⟨htc0, htc1, htc2⟩ := cel3 ht
  clear hwy_
  have hck := Hck.out
  go_wp2_with ((with_reducible refine rw_list ?_); (first | ((with_reducible apply wpList_load_cell); (case ho => with_reducible rfl); (case hgd => with_reducible rfl); (case hx => rfl); (case hu => first | exact Try.underlying26 | exact Try.underlying3 | exact Try.underlying5 | exact Try.underlying9); (case hd => rfl)) | ((with_reducible apply wpList_load_row); (case ho => with_reducible rfl); (case hgd => with_reducible rfl); (case hx => rfl); (case hu => first | exact Try.underlying26 | exact Try.underlying3 | exact Try.underlying5 | exact Try.underlying9); (case hd => rfl)) | ((with_reducible apply wpList_store_row); (case ho => with_reducible rfl); (case hgd => with_reducible rfl); (case hx => rfl); (case hy => rfl)) | ((with_reducible apply wpList_store_cell); (case ho => with_reducible rfl); (case hgd => with_reducible rfl); (case hx => rfl); (case hy => first | exact ev_const | exact ev_tmp rfl); (case h1 => rfl))); (case hg => exact (by with_reducible repeat (first | assumption | (refine rw_new ?e_; case e_ => first | rfl | (simp; done) | (simp; omega)) | apply rw_self | (apply rw_other; case hn => first | omega | (simp; omega)) | apply rw_alloc | apply rw_drew | apply rw_drewN))); (try case hv => rfl); (try case hi => kernel_rfl); (try case hold => rfl); (try case h1 => kernel_rfl); (try case hlt => rfl); (try case hcs => ((try simp only [List.setIfInBounds_toArray, List.set_cons_succ, List.set_cons_zero]); rfl)))
  refine (hck _).mono ?_
  rintro e w3 ⟨rfl, hb⟩
  have hs_w3 := hb.size
  (try simp at hs_w3)
  have hB_w3 : Below w.heap.size w w3 := below_then (w := w) (by with_reducible repeat (first | exact Below.refl _ _ | assumption | ((first | refine Below.alloc ?_ ?b_ _ | refine bw_set ?_ ?b_ | refine Below.setCell ?_ ?b_ _); case b_ => first | omega | (simp; done) | (simp; omega)) | refine Below.drew ?_ | refine below_drewN ?_ _)) (by first | omega | (simp; done) | (simp; omega) | (have hq_ := hb.size; omega)) hb
  have hx_ := rw_below (k := w2.heap.size) hb (by with_reducible repeat (first | assumption | (refine rw_new ?e_; case e_ => first | rfl | (simp; done) | (simp; omega)) | apply rw_self | (apply rw_other; case hn => first | omega | (simp; omega)) | apply rw_alloc | apply rw_drew | apply rw_drewN))
  (try clear ht)
  (try clear htc0 htc1 htc2)
  have ht := hx_
  clear hx_
  obtain ⟨htc0, htc1, htc2⟩ := cel3 ht
  clear hb
  clear hsp hck
  have HWH1 := HWH.out
  have hz := zeroA
  go_upto_region 7 with ((with_reducible refine rw_list ?_); (first | ((with_reducible apply wpList_load_cell); (case ho => with_reducible rfl); (case hgd => with_reducible rfl); (case hx => rfl); (case hu => first | exact Try.underlying26 | exact Try.underlying3 | exact Try.underlying5 | exact Try.underlying9); (case hd => rfl)) | ((with_reducible apply wpList_load_row); (case ho => with_reducible rfl); (case hgd => with_reducible rfl); (case hx => rfl); (case hu => first | exact Try.underlying26 | exact Try.underlying3 | exact Try.underlying5 | exact Try.underlying9); (case hd => rfl)) | ((with_reducible apply wpList_store_row); (case ho => with_reducible rfl); (case hgd => with_reducible rfl); (case hx => rfl); (case hy => rfl)) | ((with_reducible apply wpList_store_cell); (case ho => with_reducible rfl); (case hgd => with_reducible rfl); (case hx => rfl); (case hy => first | exact ev_const | exact ev_tmp rfl); (case h1 => rfl))); (case hg => exact (by with_reducible repeat (first | assumption | (refine rw_new ?e_; case e_ => first | rfl | (simp; done) | (simp; omega)) | apply rw_self | (apply rw_other; case hn => first | omega | (simp; omega)) | apply rw_alloc | apply rw_drew | apply rw_drewN))); (try case hv => rfl); (try case hi => kernel_rfl); (try case hold => rfl); (try case h1 => kernel_rfl); (try case hlt => rfl); (try case hcs => ((try simp only [List.setIfInBounds_toArray, List.set_cons_succ, List.set_cons_zero]); rfl)))
  clear HWH1
  go_wp2_with ((with_reducible refine rw_list ?_); (first | ((with_reducible apply wpList_load_cell); (case ho => with_reducible rfl); (case hgd => with_reducible rfl); (case hx => rfl); (case hu => first | exact Try.underlying26 | exact Try.underlying3 | exact Try.underlying5 | exact Try.underlying9); (case hd => rfl)) | ((with_reducible apply wpList_load_row); (case ho => with_reducible rfl); (case hgd => with_reducible rfl); (case hx => rfl); (case hu => first | exact Try.underlying26 | exact Try.underlying3 | exact Try.underlying5 | exact Try.underlying9); (case hd => rfl)) | ((with_reducible apply wpList_store_row); (case ho => with_reducible rfl); (case hgd => with_reducible rfl); (case hx => rfl); (case hy => rfl)) | ((with_reducible apply wpList_store_cell); (case ho => with_reducible rfl); (case hgd => with_reducible rfl); (case hx => rfl); (case hy => first | exact ev_const | exact ev_tmp rfl); (case h1 => rfl))); (case hg => exact (by with_reducible repeat (first | assumption | (refine rw_new ?e_; case e_ => first | rfl | (simp; done) | (simp; omega)) | apply rw_self | (apply rw_other; case hn => first | omega | (simp; omega)) | apply rw_alloc | apply rw_drew | apply rw_drewN))); (try case hv => rfl); (try case hi => kernel_rfl); (try case hold => rfl); (try case h1 => kernel_rfl); (try case hlt => rfl); (try case hcs => ((try simp only [List.setIfInBounds_toArray, List.set_cons_succ, List.set_cons_zero]); rfl)))
  clear hz
  have g10 : ((w3.alloc (.cells (arrI 255 fun _ => 0) 50 (0, 0))).alloc (.cells (arrI 255 fun _ => 0) 50 (0, 0))).heap[w3.heap.size]? = some (.cells (arrI 255 fun _ => 0) 50 (0, 0)) := (by with_reducible repeat (first | assumption | (refine rw_new ?e_; case e_ => first | rfl | (simp; done) | (simp; omega)) | apply rw_self | (apply rw_other; case hn => first | omega | (simp; omega)) | apply rw_alloc | apply rw_drew | apply rw_drewN))
  have g1 : ((w3.alloc (.cells (arrI 255 fun _ => 0) 50 (0, 0))).alloc (.cells (arrI 255 fun _ => 0) 50 (0, 0))).heap[w3.heap.size]? = some (.cells (arrI 255 fun v => mny f v 0) 50 (0, 0)) := g10
  have g20 : ((w3.alloc (.cells (arrI 255 fun _ => 0) 50 (0, 0))).alloc (.cells (arrI 255 fun _ => 0) 50 (0, 0))).heap[w3.heap.size + 1]? = some (.cells (arrI 255 fun _ => 0) 50 (0, 0)) := (by with_reducible repeat (first | assumption | (refine rw_new ?e_; case e_ => first | rfl | (simp; done) | (simp; omega)) | apply rw_self | (apply rw_other; case hn => first | omega | (simp; omega)) | apply rw_alloc | apply rw_drew | apply rw_drewN))
  have g2 : ((w3.alloc (.cells (arrI 255 fun _ => 0) 50 (0, 0))).alloc (.cells (arrI 255 fun _ => 0) 50 (0, 0))).heap[w3.heap.size + 1]? = some (.cells (arrI 255 fun v => mny (fun i => (255 * (i : Int)) / (n : Int)) v 0) 50 (0, 0)) := g20
  clear g10 g20
  go_loopw [15] (fun v wr => ∃ i : Nat, i ≤ n ∧ v = .int .i64 i ∧ RowKit.Below w.heap.size w wr ∧ wr.heap[w2.heap.size]? = some (.cells #[.int .i64 W, .int .i64 H, .string S] 26 (0, 0)) ∧ wr.heap[w3.heap.size]? = some (.cells (arrI 255 fun v => mny f v i) 50 (0, 0)) ∧ wr.heap[w3.heap.size + 1]? = some (.cells (arrI 255 fun v => mny (fun i => (255 * (i : Int)) / (n : Int)) v i) 50 (0, 0))) (fun v _ => n - (intOf v).toNat)
  case atStart => exact ⟨0, Nat.zero_le _, rfl, (by with_reducible repeat (first | exact Below.refl _ _ | assumption | ((first | refine Below.alloc ?_ ?b_ _ | refine bw_set ?_ ?b_ | refine Below.setCell ?_ ?b_ _); case b_ => first | omega | (simp; done) | (simp; omega)) | refine Below.drew ?_ | refine below_drewN ?_ _)), (by with_reducible repeat (first | assumption | (refine rw_new ?e_; case e_ => first | rfl | (simp; done) | (simp; omega)) | apply rw_self | (apply rw_other; case hn => first | omega | (simp; omega)) | apply rw_alloc | apply rw_drew | apply rw_drewN)), g1, g2⟩
  case round =>
    clear ht htc0 htc1 htc2 g1 g2
    obtain ⟨i, hi, rfl, hB, ht, g1, g2⟩ := hrel
    have hlt0 := rw_lt ht
    have hlg := rw_lt g1
    have hsz := hB.size
    have HWH1 := HWH.out
    by_cases hin : i < n
    · obtain ⟨F, hF⟩ : ∃ F, f i = F := ⟨_, rfl⟩
      obtain ⟨D, hD⟩ : ∃ D, (255 * (i : Int)) / (n : Int) = D := ⟨_, rfl⟩
      have hat := Hat.out i hin
      have hFb := Hbd.out i hin
      rw [hF] at hat hFb
      have hDb : 0 ≤ D ∧ D < 255 := by
        rw [← hD]
        exact ⟨Int.ediv_nonneg (by omega) (by omega), Int.ediv_lt_of_lt_mul (by omega) (by omega)⟩
      obtain ⟨u, hu⟩ : ∃ u : Nat, F = u := ⟨F.toNat, by omega⟩
      obtain ⟨d, hd⟩ : ∃ d : Nat, D = d := ⟨D.toNat, by omega⟩
      subst hu
      subst hd
      have s1 := mny_store f i u hF
      have s2 := mny_store (fun i => (255 * (i : Int)) / (n : Int)) i d hD
      have b1 := mny_bd f u i
      have b2 := mny_bd (fun i => (255 * (i : Int)) / (n : Int)) d i
      have r1 : (arrI 255 fun v => mny f v i)[u]? = some (.int .i64 (mny f u i)) := arrI_get (by omega)
      have r2 : (arrI 255 fun v => mny (fun i => (255 * (i : Int)) / (n : Int)) v i)[d]? = some (.int .i64 (mny (fun i => (255 * (i : Int)) / (n : Int)) d i)) := arrI_get (by omega)
      have q1 : decide (u < (arrI 255 fun v => mny f v i).size) = true := by rw [arrI_size]; exact decide_eq_true (by omega)
      have q2 : decide (d < (arrI 255 fun v => mny (fun i => (255 * (i : Int)) / (n : Int)) v i).size) = true := by rw [arrI_size]; exact decide_eq_true (by omega)
      have hmin := min2 (u : Int) 254
      rw [show min (u : Int) 254 = u by omega] at hmin
      obtain ⟨M1, hM1⟩ : ∃ M, mny f u i = M := ⟨_, rfl⟩
      obtain ⟨M2, hM2⟩ : ∃ M, mny (fun i => (255 * (i : Int)) / (n : Int)) d i = M := ⟨_, rfl⟩
      rw [hM1] at s1 b1 r1
      rw [hM2] at s2 b2 r2
      obtain ⟨C1, hC1⟩ : ∃ C, (arrI 255 fun v => mny f v i) = C := ⟨_, rfl⟩
      obtain ⟨C2, hC2⟩ : ∃ C, (arrI 255 fun v => mny (fun i => (255 * (i : Int)) / (n : Int)) v i) = C := ⟨_, rfl⟩
      rw [hC1] at s1 r1 q1 g1
      rw [hC2] at s2 r2 q2 g2
      have Hs1 := Lib.hid s1
      have Hs2 := Lib.hid s2
      have Hd := Lib.hid hD
      have Hr1 := Lib.hid r1
      have Hr2 := Lib.hid r2
      obtain ⟨b1, b1'⟩ := b1
      obtain ⟨b2, b2'⟩ := b2
      have hu1 : (u : Int) < 255 := hFb.2
      have hd1 : (d : Int) < 255 := hDb.2
      have hD' : (255 * (i : Int)).tdiv (n : Int) = d := by rw [Int.tdiv_eq_ediv_of_nonneg (by omega)]; exact hD
      clear s1 s2 hM1 hM2 hC1 hC2 hF hFb hDb hD r1 r2
      go_wp2_with (first | ((with_reducible refine rw_list ?_); ((with_reducible apply wpList_load_cell); (case ho => with_reducible rfl); (case hgd => with_reducible rfl); (case hx => rfl); (case hu => exact Try.underlying3); (case hd => rfl)); (case hg => first | exact g1 | exact g2 | (exact rw_other (by omega) g2)); (case hv => first | exact Hr1.out | exact Hr2.out)) | ((with_reducible refine rw_list ?_); ((with_reducible apply wpList_store_cell); (case ho => with_reducible rfl); (case hgd => with_reducible rfl); (case hx => rfl); (case hy => exact ev_tmp rfl); (case h1 => rfl)); (case hg => first | exact g1 | (exact rw_other (by omega) g2)); (case hi => kernel_rfl); (case hcs => first | exact Hs1.out | exact Hs2.out); (case hlt => first | exact q1 | exact q2)) | ((with_reducible refine rw_list ?_); (first | ((with_reducible apply wpList_load_cell); (case ho => with_reducible rfl); (case hgd => with_reducible rfl); (case hx => rfl); (case hu => first | exact Try.underlying26 | exact Try.underlying3 | exact Try.underlying5 | exact Try.underlying9); (case hd => rfl)) | ((with_reducible apply wpList_load_row); (case ho => with_reducible rfl); (case hgd => with_reducible rfl); (case hx => rfl); (case hu => first | exact Try.underlying26 | exact Try.underlying3 | exact Try.underlying5 | exact Try.underlying9); (case hd => rfl)) | ((with_reducible apply wpList_store_row); (case ho => with_reducible rfl); (case hgd => with_reducible rfl); (case hx => rfl); (case hy => rfl)) | ((with_reducible apply wpList_store_cell); (case ho => with_reducible rfl); (case hgd => with_reducible rfl); (case hx => rfl); (case hy => first | exact ev_const | exact ev_tmp rfl); (case h1 => rfl))); (case hg => exact (by with_reducible repeat (first | assumption | (refine rw_new ?e_; case e_ => first | rfl | (simp; done) | (simp; omega)) | apply rw_self | (apply rw_other; case hn => first | omega | (simp; omega)) | apply rw_alloc | apply rw_drew | apply rw_drewN))); (try case hv => rfl); (try case hi => kernel_rfl); (try case hold => rfl); (try case h1 => kernel_rfl); (try case hlt => rfl); (try case hcs => ((try simp only [List.setIfInBounds_toArray, List.set_cons_succ, List.set_cons_zero]); rfl))))
      go_roundw
      case rel => exact ⟨i + 1, by omega, by go_num, (by with_reducible repeat (first | exact Below.refl _ _ | assumption | ((first | refine Below.alloc ?_ ?b_ _ | refine bw_set ?_ ?b_ | refine Below.setCell ?_ ?b_ _); case b_ => first | omega | (simp; done) | (simp; omega)) | refine Below.drew ?_ | refine below_drewN ?_ _)), (by with_reducible repeat (first | assumption | (refine rw_new ?e_; case e_ => first | rfl | (simp; done) | (simp; omega)) | apply rw_self | (apply rw_other; case hn => first | omega | (simp; omega)) | apply rw_alloc | apply rw_drew | apply rw_drewN)), (by with_reducible repeat (first | assumption | (refine rw_new ?e_; case e_ => first | rfl | (simp; done) | (simp; omega)) | apply rw_self | (apply rw_other; case hn => first | omega | (simp; omega)) | apply rw_alloc | apply rw_drew | apply rw_drewN)), (by with_reducible repeat (first | assumption | (refine rw_new ?e_; case e_ => first | rfl | (simp; done) | (simp; omega)) | apply rw_self | (apply rw_other; case hn => first | omega | (simp; omega)) | apply rw_alloc | apply rw_drew | apply rw_drewN))⟩
      case measure => simp [intOf]; omega
    · have hin2 : i = n := by omega
      subst hin2
      have e : (fun v : Nat => mny f v i) = fun v : Nat => mny (fun j => (255 * (j : Int)) / (i : Int)) v i := funext fun v => Hmany.out v
      rw [e] at g1
      obtain ⟨C, hC⟩ : ∃ C, (arrI 255 fun v => mny (fun j => (255 * (j : Int)) / (i : Int)) v i) = C := ⟨_, rfl⟩
      have heq : ∀ w, Sem.run Try.prog (Op.equalIn 10000 50 (.agg (arrI 255 fun v => mny (fun j => (255 * (j : Int)) / (i : Int)) v i)) (.agg (arrI 255 fun v => mny (fun j => (255 * (j : Int)) / (i : Int)) v i))) w = .ok true w := fun w => arr_eq (fun v => mny (fun j => (255 * (j : Int)) / (i : Int)) v i) w
      have hCs := arrI_size 255 (fun v => mny (fun j => (255 * (j : Int)) / (i : Int)) v i)
      rw [hC] at g1 g2 heq hCs
      have hCi : (Try.prog.info? 50).map (·.size) = some C.size := by rw [hCs]; kernel_rfl
      obtain ⟨t0, t1, t2⟩ := cel3 ht
      have hco := Hco.out
      have haw := Haw.out
      clear e hC hCs
      go_wp2_with (first | ((with_reducible refine rw_list ?_); ((with_reducible apply wpList_load_row); (case ho => with_reducible rfl); (case hgd => with_reducible rfl); (case hx => rfl); (case hu => exact Try.underlying50); (case hd => rfl)); (case hg => first | exact g1 | exact g2); (case hi => exact hCi)) | ((with_reducible refine rw_list ?_); (first | ((with_reducible apply wpList_load_cell); (case ho => with_reducible rfl); (case hgd => with_reducible rfl); (case hx => rfl); (case hu => first | exact Try.underlying26 | exact Try.underlying3 | exact Try.underlying5 | exact Try.underlying9); (case hd => rfl)) | ((with_reducible apply wpList_load_row); (case ho => with_reducible rfl); (case hgd => with_reducible rfl); (case hx => rfl); (case hu => first | exact Try.underlying26 | exact Try.underlying3 | exact Try.underlying5 | exact Try.underlying9); (case hd => rfl)) | ((with_reducible apply wpList_store_row); (case ho => with_reducible rfl); (case hgd => with_reducible rfl); (case hx => rfl); (case hy => rfl)) | ((with_reducible apply wpList_store_cell); (case ho => with_reducible rfl); (case hgd => with_reducible rfl); (case hx => rfl); (case hy => first | exact ev_const | exact ev_tmp rfl); (case h1 => rfl))); (case hg => exact (by with_reducible repeat (first | assumption | (refine rw_new ?e_; case e_ => first | rfl | (simp; done) | (simp; omega)) | apply rw_self | (apply rw_other; case hn => first | omega | (simp; omega)) | apply rw_alloc | apply rw_drew | apply rw_drewN))); (try case hv => rfl); (try case hi => kernel_rfl); (try case hold => rfl); (try case h1 => kernel_rfl); (try case hlt => rfl); (try case hcs => ((try simp only [List.setIfInBounds_toArray, List.set_cons_succ, List.set_cons_zero]); rfl))))
      refine (hco _).mono ?_
      rintro e w9 ⟨rfl, hb⟩
      have hs_w9 := hb.size
      (try simp at hs_w9)
      have hB_w9 : Below w.heap.size w w9 := below_then (w := w) (by with_reducible repeat (first | exact Below.refl _ _ | assumption | ((first | refine Below.alloc ?_ ?b_ _ | refine bw_set ?_ ?b_ | refine Below.setCell ?_ ?b_ _); case b_ => first | omega | (simp; done) | (simp; omega)) | refine Below.drew ?_ | refine below_drewN ?_ _)) (by first | omega | (simp; done) | (simp; omega) | (have hq_ := hb.size; omega)) hb
      clear hb
      go_wp2_with ((with_reducible refine rw_list ?_); (first | ((with_reducible apply wpList_load_cell); (case ho => with_reducible rfl); (case hgd => with_reducible rfl); (case hx => rfl); (case hu => first | exact Try.underlying26 | exact Try.underlying3 | exact Try.underlying5 | exact Try.underlying9); (case hd => rfl)) | ((with_reducible apply wpList_load_row); (case ho => with_reducible rfl); (case hgd => with_reducible rfl); (case hx => rfl); (case hu => first | exact Try.underlying26 | exact Try.underlying3 | exact Try.underlying5 | exact Try.underlying9); (case hd => rfl)) | ((with_reducible apply wpList_store_row); (case ho => with_reducible rfl); (case hgd => with_reducible rfl); (case hx => rfl); (case hy => rfl)) | ((with_reducible apply wpList_store_cell); (case ho => with_reducible rfl); (case hgd => with_reducible rfl); (case hx => rfl); (case hy => first | exact ev_const | exact ev_tmp rfl); (case h1 => rfl))); (case hg => exact (by with_reducible repeat (first | assumption | (refine rw_new ?e_; case e_ => first | rfl | (simp; done) | (simp; omega)) | apply rw_self | (apply rw_other; case hn => first | omega | (simp; omega)) | apply rw_alloc | apply rw_drew | apply rw_drewN))); (try case hv => rfl); (try case hi => kernel_rfl); (try case hold => rfl); (try case h1 => kernel_rfl); (try case hlt => rfl); (try case hcs => ((try simp only [List.setIfInBounds_toArray, List.set_cons_succ, List.set_cons_zero]); rfl)))
      go_ret
      exact ⟨rfl, (by with_reducible repeat (first | exact Below.refl _ _ | assumption | ((first | refine Below.alloc ?_ ?b_ _ | refine bw_set ?_ ?b_ | refine Below.setCell ?_ ?b_ _); case b_ => first | omega | (simp; done) | (simp; omega)) | refine Below.drew ?_ | refine below_drewN ?_ _))⟩
end Go.Proofs.Ytdkkjlapmaageaa.T3
