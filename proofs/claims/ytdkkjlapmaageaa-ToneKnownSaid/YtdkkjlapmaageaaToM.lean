/- chapter 27: how many bits are set. -/
import Derived.Test.YtdkkjlapmaageaaToL
import Derived.Laws.IdiomStrings
import Derived.WalkKit
import Derived.Lib.Hide
import Derived.Deep.QuietTactic
import Derived.BigQuiet
import Derived.Lib.QuietBelow
import Derived.Deep.RegionHeld3
import Derived.WalkLawsBesides
import Derived.WalkSpells
import Derived.Outline
import Derived.Deep.DeepFit
import Derived.Maps.AppendAt
import Derived.Deep.AppendLies

namespace Go.Proofs.Ytdkkjlapmaageaa.T3
set_option linter.unusedSimpArgs false
set_option linter.unusedVariables false
open Go.RowKit Go.Sort Go.Lib Go.Shelf
set_option maxHeartbeats 1000000
set_option maxRecDepth 100000

theorem bytes_made (T : ByteArray) (w : World) : ∃ (cap : Nat) (w1 : World), (convert 9 22 (.string T)).run Try.prog w = .ok (.slice (some ⟨w.heap.size, 0, none⟩) T.size cap) w1 ∧ RowKit.Below w.heap.size w w1 ∧ w.heap.size < w1.heap.size ∧ ∀ i, i < T.size → w1.cell? ⟨w.heap.size, i, none⟩ = some (.int .u8 (oct T i)) := by
  refine ⟨_, _, run_bytes_of_string w 9 22 5 T Try.underlying9 Try.underlying22 Try.underlying5, Below.alloc (Below.drew (Below.refl _ _)) (Nat.le_refl _) _, by simp, ?_⟩
  intro i hi
  have h0 : ∀ (o : Obj), (w.drew.alloc o).heap[w.heap.size]? = some o := fun o => rw_new rfl
  rw [World.cell?]
  simp only [h0]
  have h1 : i < T.data.size := hi
  have h2 := bytesRow_at T (grownCap w T.size 0 5) i h1
  rw [← oct_at T i hi]
  simp [h2, ByteArray.getElem_eq_getElem_data]
/-- how many of the first octets are below n -/
def cnt (T : ByteArray) (n : Int) : Nat → Int
  | 0 => 0
  | k + 1 => cnt T n k + if oct T k < n then 1 else 0
theorem cnt_bd (T : ByteArray) (n : Int) : ∀ k, 0 ≤ cnt T n k ∧ cnt T n k ≤ k
  | 0 => by simp [cnt]
  | k + 1 => by
    have := cnt_bd T n k
    simp only [cnt]
    split <;> omega
theorem cnt_yes {T : ByteArray} {n : Int} {k : Nat} (h : oct T k < n) : cnt T n (k + 1) = cnt T n k + 1 := by simp [cnt, h]
theorem cnt_no {T : ByteArray} {n : Int} {k : Nat} (h : ¬ oct T k < n) : cnt T n (k + 1) = cnt T n k := by simp [cnt, h]
def cntV (W H : Int) (T : ByteArray) (n : Int) : Int := if okT W H T ∧ 0 ≤ n ∧ n ≤ 255 then cnt T n T.size else 0
theorem mcount_any (W H : Int) (T : ByteArray) (n : Int) (w : World) (hS : T.size ≤ 9223372036854775807) :
    Calls Try.prog 18 #[.agg #[.int .i64 W, .int .i64 H, .string T], .int .i64 n] w fun e w' => e = .returned (.tuple #[.int .i64 (cntV W H T n), .int .i64 (bitE W H T n)]) ∧ RowKit.Below w.heap.size w w' := by
  unfold cntV bitE
  have hr := fun w => tcheck_any W H T w hS
  by_cases g : okT W H T
  · rw [okT_yes _ _ _ g] at hr
    simp only [g, true_and, if_true]
    have hs : T.size ≤ 256 := by
      have : W * H ≤ 16 * 16 := Int.mul_le_mul (by have := g.1; omega) (by have := g.2.1; omega) (by have := g.2.1; omega) (by omega)
      have := g.2.2.1
      omega
    clear g
    by_cases g0 : n < 0
    · rw [if_neg (by omega), if_neg (by omega)]
      go_enter Try.func18, Try.ntmps18
      go_wp2_with fail
      refine (hr _).mono ?_
      rintro e w1 ⟨rfl, hb⟩
      have hs_w1 := hb.size
      (try simp at hs_w1)
      have hB_w1 : Below w.heap.size w w1 := below_then (w := w) (by with_reducible repeat (first | exact Below.refl _ _ | assumption | ((first | refine Below.alloc ?_ ?b_ _ | refine bw_set ?_ ?b_ | refine Below.setCell ?_ ?b_ _); case b_ => first | omega | (simp; done) | (simp; omega)) | refine Below.drew ?_ | refine below_drewN ?_ _)) (by first | omega | (simp; done) | (simp; omega) | (have hq_ := hb.size; omega)) hb
      clear hb
      go_wp2_with fail
      exact bodyPost_ret (v := .tuple #[.int .i64 0, .int .i64 2]) (by simp [results, Try.results18, go_sem]) rfl ⟨rfl, (by with_reducible repeat (first | exact Below.refl _ _ | assumption | ((first | refine Below.alloc ?_ ?b_ _ | refine bw_set ?_ ?b_ | refine Below.setCell ?_ ?b_ _); case b_ => first | omega | (simp; done) | (simp; omega)) | refine Below.drew ?_ | refine below_drewN ?_ _))⟩
    · by_cases g1 : 255 < n
      · rw [if_neg (by omega), if_neg (by omega)]
        go_enter Try.func18, Try.ntmps18
        go_wp2_with fail
        refine (hr _).mono ?_
        rintro e w1 ⟨rfl, hb⟩
        have hs_w1 := hb.size
        (try simp at hs_w1)
        have hB_w1 : Below w.heap.size w w1 := below_then (w := w) (by with_reducible repeat (first | exact Below.refl _ _ | assumption | ((first | refine Below.alloc ?_ ?b_ _ | refine bw_set ?_ ?b_ | refine Below.setCell ?_ ?b_ _); case b_ => first | omega | (simp; done) | (simp; omega)) | refine Below.drew ?_ | refine below_drewN ?_ _)) (by first | omega | (simp; done) | (simp; omega) | (have hq_ := hb.size; omega)) hb
        clear hb
        go_wp2_with fail
        exact bodyPost_ret (v := .tuple #[.int .i64 0, .int .i64 2]) (by simp [results, Try.results18, go_sem]) rfl ⟨rfl, (by with_reducible repeat (first | exact Below.refl _ _ | assumption | ((first | refine Below.alloc ?_ ?b_ _ | refine bw_set ?_ ?b_ | refine Below.setCell ?_ ?b_ _); case b_ => first | omega | (simp; done) | (simp; omega)) | refine Below.drew ?_ | refine below_drewN ?_ _))⟩
      · rw [if_pos (by omega), if_pos (by omega)]
        obtain ⟨C, hC⟩ : ∃ C, cnt T n T.size = C := ⟨_, rfl⟩
        rw [hC]
        have HC := Lib.hid hC
        clear hC
        go_enter Try.func18, Try.ntmps18
        go_wp2_with fail
        refine (hr _).mono ?_
        rintro e w1 ⟨rfl, hb⟩
        have hs_w1 := hb.size
        (try simp at hs_w1)
        have hB_w1 : Below w.heap.size w w1 := below_then (w := w) (by with_reducible repeat (first | exact Below.refl _ _ | assumption | ((first | refine Below.alloc ?_ ?b_ _ | refine bw_set ?_ ?b_ | refine Below.setCell ?_ ?b_ _); case b_ => first | omega | (simp; done) | (simp; omega)) | refine Below.drew ?_ | refine below_drewN ?_ _)) (by first | omega | (simp; done) | (simp; omega) | (have hq_ := hb.size; omega)) hb
        have hx_ := rw_below (k := w.heap.size) hb (by with_reducible repeat (first | assumption | (refine rw_new ?e_; case e_ => first | rfl | (simp; done) | (simp; omega)) | apply rw_self | (apply rw_other; case hn => first | omega | (simp; omega)) | apply rw_alloc | apply rw_drew | apply rw_drewN))
        (try clear hp)
        have hp := hx_
        clear hx_
        clear hb
        obtain ⟨cap, w2, hcv, hB2, hl2, hcell⟩ := bytes_made T w1
        have Hcell := Lib.hid hcell
        clear hcell
        go_upto_region 7 with ((with_reducible refine rw_list ?_); (first | ((with_reducible apply wpList_load_cell); (case ho => with_reducible rfl); (case hgd => with_reducible rfl); (case hx => rfl); (case hu => first | exact Try.underlying26 | exact Try.underlying9); (case hd => rfl)) | ((with_reducible apply wpList_load_row); (case ho => with_reducible rfl); (case hgd => with_reducible rfl); (case hx => rfl); (case hu => first | exact Try.underlying26 | exact Try.underlying9); (case hd => rfl)) | ((with_reducible apply wpList_store_row); (case ho => with_reducible rfl); (case hgd => with_reducible rfl); (case hx => rfl); (case hy => rfl)) | ((with_reducible apply wpList_store_cell); (case ho => with_reducible rfl); (case hgd => with_reducible rfl); (case hx => rfl); (case hy => first | exact ev_const | exact ev_tmp rfl); (case h1 => rfl))); (case hg => exact (by with_reducible repeat (first | assumption | (refine rw_new ?e_; case e_ => first | rfl | (simp; done) | (simp; omega)) | apply rw_self | (apply rw_other; case hn => first | omega | (simp; omega)) | apply rw_alloc | apply rw_drew | apply rw_drewN))); (try case hv => rfl); (try case hi => kernel_rfl); (try case hold => rfl); (try case h1 => kernel_rfl); (try case hlt => rfl); (try case hcs => ((try simp only [List.setIfInBounds_toArray, List.set_cons_succ, List.set_cons_zero]); rfl)))
        go_wp2_with ((with_reducible refine rw_list ?_); (first | ((with_reducible apply wpList_load_cell); (case ho => with_reducible rfl); (case hgd => with_reducible rfl); (case hx => rfl); (case hu => first | exact Try.underlying26 | exact Try.underlying9); (case hd => rfl)) | ((with_reducible apply wpList_load_row); (case ho => with_reducible rfl); (case hgd => with_reducible rfl); (case hx => rfl); (case hu => first | exact Try.underlying26 | exact Try.underlying9); (case hd => rfl)) | ((with_reducible apply wpList_store_row); (case ho => with_reducible rfl); (case hgd => with_reducible rfl); (case hx => rfl); (case hy => rfl)) | ((with_reducible apply wpList_store_cell); (case ho => with_reducible rfl); (case hgd => with_reducible rfl); (case hx => rfl); (case hy => first | exact ev_const | exact ev_tmp rfl); (case h1 => rfl))); (case hg => exact (by with_reducible repeat (first | assumption | (refine rw_new ?e_; case e_ => first | rfl | (simp; done) | (simp; omega)) | apply rw_self | (apply rw_other; case hn => first | omega | (simp; omega)) | apply rw_alloc | apply rw_drew | apply rw_drewN))); (try case hv => rfl); (try case hi => kernel_rfl); (try case hold => rfl); (try case h1 => kernel_rfl); (try case hlt => rfl); (try case hcs => ((try simp only [List.setIfInBounds_toArray, List.set_cons_succ, List.set_cons_zero]); rfl)))
        have hB_w2 : RowKit.Below w.heap.size w w2 := hB_w1.trans (hB2.mono (by omega))
        go_loopw [7, 25] (fun v7 v25 wr => ∃ i : Nat, i ≤ T.size ∧ v25 = .int .i64 i ∧ v7 = .int .i64 (cnt T n i) ∧ RowKit.Below w2.heap.size w2 wr) (fun _ v _ => T.size - (intOf v).toNat)
        case atStart => exact ⟨0, Nat.zero_le _, rfl, rfl, Below.refl _ _⟩
        case round =>
          obtain ⟨i, hi, rfl, rfl, hb⟩ := hrel
          obtain ⟨q1, q2⟩ := cnt_bd T n i
          by_cases g6 : i < T.size
          · have hc := (hb.cell (p := ⟨w1.heap.size, i, none⟩) hl2).trans (Hcell.out i g6)
            obtain ⟨o1, o2⟩ := oct_bd T i
            by_cases g7 : oct T i < n
            · have e1 := cnt_yes g7
              obtain ⟨v, hv⟩ : ∃ v, oct T i = v := ⟨_, rfl⟩
              obtain ⟨c, hcn⟩ : ∃ c, cnt T n i = c := ⟨_, rfl⟩
              rw [hv] at g7 hc o1 o2
              rw [hcn] at e1 q1 q2 ⊢
              have e1 := Lib.hid e1
              clear hcn hv
              go_wp2_with fail
              go_roundw
              case rel => exact ⟨i + 1, by omega, by go_num, by rw [e1.out], hb⟩
              case measure => simp [intOf]; omega
            · have e1 := cnt_no g7
              obtain ⟨v, hv⟩ : ∃ v, oct T i = v := ⟨_, rfl⟩
              obtain ⟨c, hcn⟩ : ∃ c, cnt T n i = c := ⟨_, rfl⟩
              rw [hv] at g7 hc o1 o2
              rw [hcn] at e1 q1 q2 ⊢
              have e1 := Lib.hid e1
              clear hcn hv
              go_wp2_with fail
              go_roundw
              case rel => exact ⟨i + 1, by omega, by go_num, by rw [e1.out], hb⟩
              case measure => simp [intOf]; omega
          · have hii : i = T.size := by omega
            subst hii
            rw [HC.out]
            have hB_wr : RowKit.Below w.heap.size w wr := hB_w2.trans (hb.mono (by have := hB_w2.size; omega))
            go_wp2_with fail
            exact bodyPost_ret (v := .tuple #[.int .i64 C, .int .i64 0]) (by simp [results, Try.results18, go_sem]) rfl ⟨rfl, (by with_reducible repeat (first | exact Below.refl _ _ | assumption | ((first | refine Below.alloc ?_ ?b_ _ | refine bw_set ?_ ?b_ | refine Below.setCell ?_ ?b_ _); case b_ => first | omega | (simp; done) | (simp; omega)) | refine Below.drew ?_ | refine below_drewN ?_ _))⟩
  · simp only [g, false_and, if_false]
    rw [okT_no _ _ _ g] at hr
    clear g
    go_enter Try.func18, Try.ntmps18
    go_wp2_with fail
    refine (hr _).mono ?_
    rintro e w1 ⟨rfl, hb⟩
    have hs_w1 := hb.size
    (try simp at hs_w1)
    have hB_w1 : Below w.heap.size w w1 := below_then (w := w) (by with_reducible repeat (first | exact Below.refl _ _ | assumption | ((first | refine Below.alloc ?_ ?b_ _ | refine bw_set ?_ ?b_ | refine Below.setCell ?_ ?b_ _); case b_ => first | omega | (simp; done) | (simp; omega)) | refine Below.drew ?_ | refine below_drewN ?_ _)) (by first | omega | (simp; done) | (simp; omega) | (have hq_ := hb.size; omega)) hb
    clear hb
    go_wp2_with fail
    exact bodyPost_ret (v := .tuple #[.int .i64 0, .int .i64 370]) (by simp [results, Try.results18, go_sem]) rfl ⟨rfl, (by with_reducible repeat (first | exact Below.refl _ _ | assumption | ((first | refine Below.alloc ?_ ?b_ _ | refine bw_set ?_ ?b_ | refine Below.setCell ?_ ?b_ _); case b_ => first | omega | (simp; done) | (simp; omega)) | refine Below.drew ?_ | refine below_drewN ?_ _))⟩
theorem plc_at {m h x y : Nat} (hx : x < m) (hy : y < h) : (plc m h x y).toNat = y * m + x := by
  unfold plc
  rw [Int.emod_eq_of_lt (by omega) (by omega), Int.emod_eq_of_lt (by omega) (by omega)]
  omega
theorem rcount_any (W H : Int) (T : ByteArray) (n : Int) (w : World) (hS : T.size ≤ 9223372036854775807) :
    Calls Try.prog 19 #[.agg #[.int .i64 W, .int .i64 H, .string T], .int .i64 n] w fun e w' => e = .returned (.tuple #[.int .i64 (cntV W H T n), .int .i64 (bitE W H T n)]) ∧ RowKit.Below w.heap.size w w' := by
  unfold cntV bitE
  have hr := fun w => right_any W H T w hS
  by_cases g : okT W H T
  · rw [decide_eq_true g] at hr
    have g' := g
    simp only [g, true_and, if_true]
    have hset := fun x y w => set_any W H T n x y w g'
    have hs : T.size ≤ 256 := by
      have : W * H ≤ 16 * 16 := Int.mul_le_mul (by have := g.1; omega) (by have := g.2.1; omega) (by have := g.2.1; omega) (by omega)
      have := g.2.2.1
      omega
    obtain ⟨⟨gW1, gW2⟩, ⟨gH1, gH2⟩, gs, _⟩ := g'
    obtain ⟨m, hm⟩ : ∃ m : Nat, W = m := ⟨W.toNat, by omega⟩
    obtain ⟨h, hh⟩ : ∃ h : Nat, H = h := ⟨H.toNat, by omega⟩
    have hsz : T.size = h * m := by
      rw [hm, hh, Int.mul_comm] at gs
      exact Int.ofNat_inj.1 (by rw [gs]; simp)
    have Hset := Lib.hid hset
    have Hm := Lib.hid hm
    have Hh := Lib.hid hh
    have Hsz := Lib.hid hsz
    clear g hset hsz
    by_cases g0 : n < 0
    · rw [if_neg (by omega), if_neg (by omega)]
      clear hm hh
      go_enter Try.func19, Try.ntmps19
      go_wp2_with fail
      refine (hr _).mono ?_
      rintro e w1 ⟨rfl, hb⟩
      have hs_w1 := hb.size
      (try simp at hs_w1)
      have hB_w1 : Below w.heap.size w w1 := below_then (w := w) (by with_reducible repeat (first | exact Below.refl _ _ | assumption | ((first | refine Below.alloc ?_ ?b_ _ | refine bw_set ?_ ?b_ | refine Below.setCell ?_ ?b_ _); case b_ => first | omega | (simp; done) | (simp; omega)) | refine Below.drew ?_ | refine below_drewN ?_ _)) (by first | omega | (simp; done) | (simp; omega) | (have hq_ := hb.size; omega)) hb
      clear hb
      go_wp2_with fail
      exact bodyPost_ret (v := .tuple #[.int .i64 0, .int .i64 2]) (by simp [results, Try.results19, go_sem]) rfl ⟨rfl, (by with_reducible repeat (first | exact Below.refl _ _ | assumption | ((first | refine Below.alloc ?_ ?b_ _ | refine bw_set ?_ ?b_ | refine Below.setCell ?_ ?b_ _); case b_ => first | omega | (simp; done) | (simp; omega)) | refine Below.drew ?_ | refine below_drewN ?_ _))⟩
    · by_cases g1 : 255 < n
      · rw [if_neg (by omega), if_neg (by omega)]
        clear hm hh
        go_enter Try.func19, Try.ntmps19
        go_wp2_with fail
        refine (hr _).mono ?_
        rintro e w1 ⟨rfl, hb⟩
        have hs_w1 := hb.size
        (try simp at hs_w1)
        have hB_w1 : Below w.heap.size w w1 := below_then (w := w) (by with_reducible repeat (first | exact Below.refl _ _ | assumption | ((first | refine Below.alloc ?_ ?b_ _ | refine bw_set ?_ ?b_ | refine Below.setCell ?_ ?b_ _); case b_ => first | omega | (simp; done) | (simp; omega)) | refine Below.drew ?_ | refine below_drewN ?_ _)) (by first | omega | (simp; done) | (simp; omega) | (have hq_ := hb.size; omega)) hb
        clear hb
        go_wp2_with fail
        exact bodyPost_ret (v := .tuple #[.int .i64 0, .int .i64 2]) (by simp [results, Try.results19, go_sem]) rfl ⟨rfl, (by with_reducible repeat (first | exact Below.refl _ _ | assumption | ((first | refine Below.alloc ?_ ?b_ _ | refine bw_set ?_ ?b_ | refine Below.setCell ?_ ?b_ _); case b_ => first | omega | (simp; done) | (simp; omega)) | refine Below.drew ?_ | refine below_drewN ?_ _))⟩
      · rw [if_pos (by omega), if_pos (by omega)]
        obtain ⟨C, hC⟩ : ∃ C, cnt T n T.size = C := ⟨_, rfl⟩
        rw [hC]
        have HC := Lib.hid hC
        clear hC
        clear hm hh
        have hmn : m ≤ 16 := by have := Hm.out; omega
        have hhn : h ≤ 16 := by have := Hh.out; omega
        go_enter Try.func19, Try.ntmps19
        go_wp2_with fail
        refine (hr _).mono ?_
        rintro e w1 ⟨rfl, hb⟩
        have hs_w1 := hb.size
        (try simp at hs_w1)
        have hB_w1 : Below w.heap.size w w1 := below_then (w := w) (by with_reducible repeat (first | exact Below.refl _ _ | assumption | ((first | refine Below.alloc ?_ ?b_ _ | refine bw_set ?_ ?b_ | refine Below.setCell ?_ ?b_ _); case b_ => first | omega | (simp; done) | (simp; omega)) | refine Below.drew ?_ | refine below_drewN ?_ _)) (by first | omega | (simp; done) | (simp; omega) | (have hq_ := hb.size; omega)) hb
        have hx_ := rw_below (k := w.heap.size) hb (by with_reducible repeat (first | assumption | (refine rw_new ?e_; case e_ => first | rfl | (simp; done) | (simp; omega)) | apply rw_self | (apply rw_other; case hn => first | omega | (simp; omega)) | apply rw_alloc | apply rw_drew | apply rw_drewN))
        (try clear hp)
        have hp := hx_
        clear hx_
        clear hb
        go_wp2_with fail
        go_loopw [6, 7] (fun v6 v7 wr => ∃ j : Nat, j ≤ h ∧ v7 = .int .i64 j ∧ v6 = .int .i64 (cnt T n (j * m)) ∧ wr.heap[w.heap.size]? = some (.cells #[.int .i64 W, .int .i64 H, .string T] 26 (0, 0)) ∧ RowKit.Below w.heap.size w wr) (fun _ v _ => h - (intOf v).toNat)
        case atStart => exact ⟨0, Nat.zero_le _, rfl, by rw [Nat.zero_mul]; rfl, hp, hB_w1⟩
        case round =>
          clear hp hB_w1
          obtain ⟨j, hj, rfl, rfl, hp, hB⟩ := hrel
          obtain ⟨c0, c1, c2⟩ := cel3 hp
          have hl := rw_lt hp
          by_cases g6 : j < h
          · have hjH : (j : Int) < H := by have := Hh.out; omega
            obtain ⟨wo, hwo⟩ : ∃ wo, wo = wr := ⟨wr, rfl⟩
            subst hwo
            go_wp2_with fail
            go_loopw [6, 8] (fun v6 v8 wr => ∃ i : Nat, i ≤ m ∧ v8 = .int .i64 i ∧ v6 = .int .i64 (cnt T n (j * m + i)) ∧ wr.heap[w.heap.size]? = some (.cells #[.int .i64 W, .int .i64 H, .string T] 26 (0, 0)) ∧ RowKit.Below w.heap.size w wr) (fun _ v _ => m - (intOf v).toNat)
            case atStart => exact ⟨0, Nat.zero_le _, rfl, rfl, hp, hB⟩
            case round =>
              clear hp hB c0 c1 c2 hl
              obtain ⟨i, hi, rfl, rfl, hp, hB⟩ := hrel
              obtain ⟨c0, c1, c2⟩ := cel3 hp
              have hl := rw_lt hp
              obtain ⟨q1, q2⟩ := cnt_bd T n (j * m + i)
              have hjm : j * m ≤ 16 * 16 := Nat.mul_le_mul (by omega) (by omega)
              by_cases g7 : i < m
              · have hiW : (i : Int) < W := by have := Hm.out; omega
                have hth : thr T W H i j = oct T (j * m + i) := by rw [thr, Hm.out, Hh.out, plc_at g7 g6]
                by_cases g8 : oct T (j * m + i) < n
                · have e1 := cnt_yes g8
                  obtain ⟨v, hv⟩ : ∃ v, oct T (j * m + i) = v := ⟨_, rfl⟩
                  obtain ⟨c, hcn⟩ : ∃ c, cnt T n (j * m + i) = c := ⟨_, rfl⟩
                  rw [hv] at g8 hth
                  rw [hcn] at e1 q1 q2 ⊢
                  have e1 := Lib.hid e1
                  have e2 := Lib.hid hth
                  clear hcn hv hth
                  go_wp2_with fail
                  refine (Hset.out _ _ _).mono ?_
                  rintro e w3 ⟨rfl, hb⟩
                  have hs_w3 := hb.size
                  (try simp at hs_w3)
                  have hB_w3 : Below w.heap.size w w3 := below_then (w := w) (by with_reducible repeat (first | exact Below.refl _ _ | assumption | ((first | refine Below.alloc ?_ ?b_ _ | refine bw_set ?_ ?b_ | refine Below.setCell ?_ ?b_ _); case b_ => first | omega | (simp; done) | (simp; omega)) | refine Below.drew ?_ | refine below_drewN ?_ _)) (by first | omega | (simp; done) | (simp; omega) | (have hq_ := hb.size; omega)) hb
                  have hx_ := rw_below (k := w.heap.size) hb (by with_reducible repeat (first | assumption | (refine rw_new ?e_; case e_ => first | rfl | (simp; done) | (simp; omega)) | apply rw_self | (apply rw_other; case hn => first | omega | (simp; omega)) | apply rw_alloc | apply rw_drew | apply rw_drewN))
                  (try clear hp)
                  have hp := hx_
                  clear hx_
                  clear hb
                  rw [e2.out]
                  go_wp2_with fail
                  go_roundw
                  case rel => exact ⟨i + 1, by omega, by go_num, by rw [← Nat.add_assoc, e1.out], hp, hB_w3⟩
                  case measure => simp [intOf]; omega
                · have e1 := cnt_no g8
                  obtain ⟨v, hv⟩ : ∃ v, oct T (j * m + i) = v := ⟨_, rfl⟩
                  obtain ⟨c, hcn⟩ : ∃ c, cnt T n (j * m + i) = c := ⟨_, rfl⟩
                  rw [hv] at g8 hth
                  rw [hcn] at e1 q1 q2 ⊢
                  have e1 := Lib.hid e1
                  have e2 := Lib.hid hth
                  clear hcn hv hth
                  go_wp2_with fail
                  refine (Hset.out _ _ _).mono ?_
                  rintro e w3 ⟨rfl, hb⟩
                  have hs_w3 := hb.size
                  (try simp at hs_w3)
                  have hB_w3 : Below w.heap.size w w3 := below_then (w := w) (by with_reducible repeat (first | exact Below.refl _ _ | assumption | ((first | refine Below.alloc ?_ ?b_ _ | refine bw_set ?_ ?b_ | refine Below.setCell ?_ ?b_ _); case b_ => first | omega | (simp; done) | (simp; omega)) | refine Below.drew ?_ | refine below_drewN ?_ _)) (by first | omega | (simp; done) | (simp; omega) | (have hq_ := hb.size; omega)) hb
                  have hx_ := rw_below (k := w.heap.size) hb (by with_reducible repeat (first | assumption | (refine rw_new ?e_; case e_ => first | rfl | (simp; done) | (simp; omega)) | apply rw_self | (apply rw_other; case hn => first | omega | (simp; omega)) | apply rw_alloc | apply rw_drew | apply rw_drewN))
                  (try clear hp)
                  have hp := hx_
                  clear hx_
                  clear hb
                  rw [e2.out]
                  go_wp2_with fail
                  go_roundw
                  case rel => exact ⟨i + 1, by omega, by go_num, by rw [← Nat.add_assoc, e1.out], hp, hB_w3⟩
                  case measure => simp [intOf]; omega
              · have him : i = m := by omega
                subst him
                have hiW : ¬ (i : Int) < W := by have := Hm.out; omega
                obtain ⟨c, hcn⟩ : ∃ c, cnt T n (j * i + i) = c := ⟨_, rfl⟩
                rw [hcn]
                have hcn := Lib.hid hcn
                go_wp2_with fail
                go_roundw
                case rel => exact ⟨j + 1, by omega, by go_num, by rw [Nat.succ_mul, hcn.out], hp, hB⟩
                case measure => simp [intOf]; omega
          · have hjh : j = h := by omega
            subst hjh
            have hjH : ¬ (j : Int) < H := by have := Hh.out; omega
            rw [← Hsz.out, HC.out]
            go_wp2_with fail
            exact bodyPost_ret (v := .tuple #[.int .i64 C, .int .i64 0]) (by simp [results, Try.results19, go_sem]) rfl ⟨rfl, (by with_reducible repeat (first | exact Below.refl _ _ | assumption | ((first | refine Below.alloc ?_ ?b_ _ | refine bw_set ?_ ?b_ | refine Below.setCell ?_ ?b_ _); case b_ => first | omega | (simp; done) | (simp; omega)) | refine Below.drew ?_ | refine below_drewN ?_ _))⟩
  · simp only [g, false_and, if_false]
    rw [decide_eq_false g] at hr
    clear g
    go_enter Try.func19, Try.ntmps19
    go_wp2_with fail
    refine (hr _).mono ?_
    rintro e w1 ⟨rfl, hb⟩
    have hs_w1 := hb.size
    (try simp at hs_w1)
    have hB_w1 : Below w.heap.size w w1 := below_then (w := w) (by with_reducible repeat (first | exact Below.refl _ _ | assumption | ((first | refine Below.alloc ?_ ?b_ _ | refine bw_set ?_ ?b_ | refine Below.setCell ?_ ?b_ _); case b_ => first | omega | (simp; done) | (simp; omega)) | refine Below.drew ?_ | refine below_drewN ?_ _)) (by first | omega | (simp; done) | (simp; omega) | (have hq_ := hb.size; omega)) hb
    clear hb
    go_wp2_with fail
    exact bodyPost_ret (v := .tuple #[.int .i64 0, .int .i64 370]) (by simp [results, Try.results19, go_sem]) rfl ⟨rfl, (by with_reducible repeat (first | exact Below.refl _ _ | assumption | ((first | refine Below.alloc ?_ ?b_ _ | refine bw_set ?_ ?b_ | refine Below.setCell ?_ ?b_ _); case b_ => first | omega | (simp; done) | (simp; omega)) | refine Below.drew ?_ | refine below_drewN ?_ _))⟩
end Go.Proofs.Ytdkkjlapmaageaa.T3
