/- chapter 27: Spot. -/
import Derived.Test.YtdkkjlapmaageaaToE
import Derived.Test.YtdkkjlapmaageaaToI
import Derived.Test.YtdkkjlapmaageaaDraF
import Derived.Deep.CutRange
import Derived.WalkKit
import Derived.Lib.Hide
import Derived.Deep.QuietTactic
import Derived.BigQuiet
import Derived.Lib.QuietBelow
import Derived.Deep.RegionHeld3
import Derived.WalkLawsBesides
import Derived.WalkSpells
import Derived.Outline
import Derived.Deep.DeepFit
import Derived.Maps.AppendAt
import Derived.Deep.AppendLies
namespace Go.Proofs.Ytdkkjlapmaageaa.T3
set_option linter.unusedSimpArgs false
set_option linter.unusedVariables false
open Go.RowKit Go.Sort Go.Lib Go.Shelf
set_option maxHeartbeats 4000000
set_option maxRecDepth 100000
theorem own_base {w : World} {base : Nat} {e : TypeId} {size : Nat} {v : Value} {n : Nat} {xs : List Value} (h : w.ownsRow base e size v n xs) : ∀ k, v.ownBlock = some k → base ≤ k := fun k hk => (h.lt k hk).1
theorem px_form {m h t : Nat} (hm : m ≤ 16) (hh : h ≤ 16) (ht : t < m * h) : ∃ a b : Nat, (pxN m t).1 = (a, b) ∧ a < m ∧ b < h ∧ t = b * m + a := by
  have hm0 : 0 < m := by rcases Nat.eq_zero_or_pos m with h0 | h0; (subst h0; omega); exact h0
  have a1 := Nat.mod_lt t hm0
  have b1 : t / m < h := Nat.div_lt_of_lt_mul ht
  refine ⟨t % m, t / m, ?_, a1, b1, ?_⟩
  · show (t % m % 16, t / m % 16) = _
    rw [Nat.mod_eq_of_lt (a := t % m) (by omega), Nat.mod_eq_of_lt (a := t / m) (by omega)]
  · have := Nat.div_add_mod t m
    rw [Nat.mul_comm] at this
    omega
theorem px_cells {W H : Int} {w : World} {g : Nat} {d : Array Px} (hh : HoldsK (encP W H) 4 w g 0 d) (r : Nat) (hr : r < d.size) (a b : Nat) (e : (d[r]!).1 = (a, b)) :
    w.cell? ⟨g, r * 4, none⟩ = some (.int .i64 a) ∧ w.cell? ⟨g, r * 4 + 1, none⟩ = some (.int .i64 b) ∧ w.cell? ⟨g, r * 4 + 2, none⟩ = some (.int .i64 (pu W H a)) ∧ w.cell? ⟨g, r * 4 + 3, none⟩ = some (.int .i64 (pv W H b)) := by
  have key : ∀ c, c < 4 → w.cell? ⟨g, r * 4 + c, none⟩ = some ((encP W H d[r]!)[c]!) := by
    intro c hc
    have h1 := (hh (r * 4 + c) (by rw [size_flatK]; omega)).1
    rw [Nat.zero_add, id, get_flatK _ _ _ _ (by omega), show (r * 4 + c) / 4 = r by omega, show (r * 4 + c) % 4 = c by omega] at h1
    exact h1
  have e1 : encP W H d[r]! = [.int .i64 a, .int .i64 b, .int .i64 (pu W H a), .int .i64 (pv W H b)] := by unfold encP; rw [e]
  refine ⟨?_, ?_, ?_, ?_⟩
  · have := key 0 (by omega); rw [e1] at this; exact this
  · have := key 1 (by omega); rw [e1] at this; exact this
  · have := key 2 (by omega); rw [e1] at this; exact this
  · have := key 3 (by omega); rw [e1] at this; exact this
/-- the octets when r pixels are done -/
def spF (k W H : Int) (m n r : Nat) (t : Nat) : Int := if rk k W H m n t < r then (255 * (rk k W H m n t : Int)) / (n : Int) else 0
theorem rowU_congr {L : Nat} {f g : Nat → Int} (h : ∀ j, j < L → f j = g j) : rowU L f = rowU L g := by
  unfold rowU
  apply Array.ext
  · simp
  · intro i h1 h2
    simp at h1
    simp [h i h1]
theorem spF_step (k W H : Int) (m n r t L : Nat) (V : Int) (h1 : rk k W H m n t = r) (h2 : V = (255 * (r : Int)) / (n : Int)) (h3 : ∀ s, s < L → rk k W H m n s = rk k W H m n t → s = t) :
    (rowU L (spF k W H m n r)).setIfInBounds t (.int .u8 V) = rowU L (spF k W H m n (r + 1)) := by
  rw [rowU_set]
  refine rowU_congr fun s hs => ?_
  by_cases e : s = t
  · subst e
    rw [if_pos rfl, spF, if_pos (by omega), h1, h2]
  · rw [if_neg e]
    have hne : rk k W H m n s ≠ r := fun h => e (h3 s hs (by omega))
    unfold spF
    by_cases hlt : rk k W H m n s < r
    · rw [if_pos hlt, if_pos (by omega)]
    · rw [if_neg hlt, if_neg (by omega)]
theorem spF_bd (k W H : Int) (m n r : Nat) (hr : r ≤ n) (t : Nat) : 0 ≤ spF k W H m n r t ∧ spF k W H m n r t ≤ 255 := by
  unfold spF
  split
  · have hn : 0 < (n : Int) := by omega
    refine ⟨Int.ediv_nonneg (by omega) (by omega), ?_⟩
    exact Int.le_of_lt_add_one (Int.ediv_lt_of_lt_mul hn (by rw [Int.mul_comm]; omega))
  · omega
/-- the thresholds of a spot tile -/
def spotF (k W H : Int) (m n : Nat) (t : Nat) : Int := (255 * (rk k W H m n t : Int)) / (n : Int)
def spotS (k W H : Int) : ByteArray := strU (W.toNat * H.toNat) (spotF k W H W.toNat (W.toNat * H.toNat))
theorem strU_congr {L : Nat} {f g : Nat → Int} (h : ∀ j, j < L → f j = g j) : strU L f = strU L g := by
  unfold strU
  congr 1
  apply Array.ext
  · simp
  · intro i h1 h2
    simp at h1
    simp [h i h1]
theorem infoPx : (Try.prog.info? 62).map (fun i => (i.zero, i.size, i.bytes)) = some (some (.agg #[.int .i64 0, .int .i64 0, .int .i64 0, .int .i64 0]), 4, 32) := by kernel_rfl
theorem kind_ok (k : Int) (hk : 0 ≤ k ∧ k ≤ 2) (W : World) (b : Nat) (hb : W.heap[b]? = some (.map es3 3)) : ∃ g : Nat, (Instr.lookup 63 (.map (some b)) (.int .i64 k) true).run Try.prog W = .ok (.tuple #[.func (.func g) #[] #[], .bool true]) W ∧
    (∀ (args : Array Value) (w : World), (callFunc g args).run Try.prog w = .ok (.enter g args) w) ∧
    (∀ (i j u v : Int) (w : World), sbd u v → Calls Try.prog g #[.agg #[.int .i64 i, .int .i64 j, .int .i64 u, .int .i64 v]] w fun e w' => e = .returned (.int .i64 (spv k u v)) ∧ Lays w w') := by
  rcases kind_of k W b hb with ⟨rfl, h⟩ | ⟨rfl, h⟩ | ⟨rfl, h⟩ | ⟨h, _⟩
  · exact ⟨_, h, fun _ _ => by rfl, fun i j u v w hs => dot_any i j u v w hs.1.1 hs.1.2 hs.2.1 hs.2.2⟩
  · exact ⟨_, h, fun _ _ => by rfl, fun i j u v w hs => line_any i j u v w hs.1.1 hs.1.2 hs.2.1 hs.2.2⟩
  · exact ⟨_, h, fun _ _ => by rfl, fun i j u v w hs => diamond_any i j u v w hs.1.1 hs.1.2 hs.2.1 hs.2.2⟩
  · omega
theorem mspot_ok (k W H : Int) (w : World) (hk : 0 ≤ k ∧ k ≤ 2) (hW : 1 ≤ W ∧ W ≤ 16) (hH : 1 ≤ H ∧ H ≤ 16) :
    Calls Try.prog 10 #[.int .i64 k, .int .i64 W, .int .i64 H] w fun e w' => e = .returned (.tuple #[.agg #[.int .i64 W, .int .i64 H, .string (spotS k W H)], .int .i64 0]) ∧ RowKit.Below w.heap.size w w' := by
  have hmm := @run_makeMap Try.prog
  obtain ⟨W1, W2, W3, u0, u1, u2, hB3, hs3, hr3, hm3⟩ := map_made w (.cells #[.int .i64 0, .int .i64 0, .string ⟨#[]⟩] 26 (0, 0))
  have hmin := min2 W H
  have hmax := max2 W H
  obtain ⟨g, hlk, hcf, hval⟩ := kind_ok k hk W3 (w.heap.size + 1) hm3
  clear hm3
  obtain ⟨mn, hmn⟩ : ∃ mn, min W H = mn := ⟨_, rfl⟩
  obtain ⟨mx, hmx⟩ : ∃ mx, max W H = mx := ⟨_, rfl⟩
  rw [hmn] at hmin
  rw [hmx] at hmax
  have g1 : ¬ mn < 1 := by omega
  have g2 : ¬ 16 < mx := by omega
  have hst := store_new W3 (w.heap.size + 2) .nilFunc (.func (.func g) #[] #[]) 58 rfl hs3.symm
  obtain ⟨hW1, hW2⟩ := hW
  obtain ⟨hH1, hH2⟩ := hH
  have Hcf := Lib.hid hcf
  have Hval := Lib.hid hval
  clear hcf hval
  go_enter Try.func10, Try.ntmps10
  go_upto_region 2 with fail
  have hbx0 := rw_self (cs := #[.func (.func g) #[] #[]]) (rw_new (w := W3) (k := w.heap.size + 2) (o := .cells #[.nilFunc] 58 (0, 0)) hs3.symm)
  have hsz0 : w.heap.size + 3 = ((W3.alloc (.cells #[.nilFunc] 58 (0, 0))).setRow (w.heap.size + 2) #[.func (.func g) #[] #[]]).heap.size := by simp; omega
  have hsz1 := Lib.hid hsz0
  clear hsz0
  generalize hw_ : ((W3.alloc (.cells #[.nilFunc] 58 (0, 0))).setRow (w.heap.size + 2) #[.func (.func g) #[] #[]]) = wq at hbx0 hsz1 ⊢
  have hB_wy : RowKit.Below w.heap.size w wq := bw_eq hw_ (by with_reducible repeat (first | exact Below.refl _ _ | assumption | ((first | refine Below.alloc ?_ ?b_ _ | refine bw_set ?_ ?b_ | refine Below.setCell ?_ ?b_ _); case b_ => first | omega | (simp; done) | (simp; omega)) | refine Below.drew ?_ | refine below_drewN ?_ _))
  have hr3' := rw_eq (k := w.heap.size) hw_ (by with_reducible repeat (first | assumption | (refine rw_new ?e_; case e_ => first | rfl | (simp; done) | (simp; omega)) | apply rw_self | (apply rw_other; case hn => first | omega | (simp; omega)) | apply rw_alloc | apply rw_drew | apply rw_drewN))
  clear hw_ hr3 hB3
  have hr3 := hr3'
  have hbx := hbx0
  clear hr3' hbx0
  obtain ⟨wy, hwy⟩ : ∃ wy, wy = wq := ⟨wq, rfl⟩
  subst hwy
  have hsy := hsz1.out
  clear u0 u1 u2 hlk hst
  go_upto_region 6 with fail
  clear hmin hmax hmn hmx g1 g2 hmm
  obtain ⟨m, hm⟩ : ∃ m : Nat, W = m := ⟨W.toNat, by omega⟩
  obtain ⟨h, hh⟩ : ∃ h : Nat, H = h := ⟨H.toNat, by omega⟩
  obtain ⟨i0, hi, hz0, hz1, hz2⟩ := info_parts infoPx
  have HM := Lib.hid hm
  have HH := Lib.hid hh
  have hm1 : 1 ≤ m ∧ m ≤ 16 := by omega
  have hh1 : 1 ≤ h ∧ h ≤ 16 := by omega
  clear hm hh
  go_loopw [10, 39] (fun v i wr => ∃ j : Nat, j ≤ h ∧ i = .int .i64 j ∧ wr.ownsRow wy.heap.size 62 4 v (j * m) (pl W H m (j * m)) ∧ RowKit.Below wy.heap.size wy wr) (fun _ i _ => h - (intOf i).toNat)
  case atStart => exact ⟨0, Nat.zero_le _, rfl, by rw [Nat.zero_mul]; exact World.ownsRow_nil _ _ _ _, RowKit.Below.refl _ _⟩
  case round =>
    obtain ⟨j, hj, rfl, hown, hnx⟩ := hrel
    have hsw := hnx.size
    by_cases hlt : j < h
    · have hjH : (j : Int) < H := by have := HH.out; omega
      obtain ⟨wo, hwo⟩ : ∃ wo, wo = wr := ⟨wr, rfl⟩
      subst hwo
      go_wp2_with fail
      go_loopw [10, 43] (fun v i wr => ∃ a : Nat, a ≤ m ∧ i = .int .i64 a ∧ wr.ownsRow wy.heap.size 62 4 v (j * m + a) (pl W H m (j * m + a)) ∧ RowKit.Below wy.heap.size wy wr) (fun _ i _ => m - (intOf i).toNat)
      case atStart => exact ⟨0, Nat.zero_le _, rfl, hown, hnx⟩
      case round =>
        clear hown hnx
        obtain ⟨a, ha, rfl, hown, hnx⟩ := hrel
        have hsw' := hnx.size
        by_cases hlt2 : a < m
        · have haW : (a : Int) < W := by have := HM.out; omega
          obtain ⟨t1, t2⟩ := mul_bd (a := 2 * (a : Int) + 1 - W) (b := H) (X := 31) (Y := 16) (by omega) (by omega) (by omega) (by omega)
          obtain ⟨t3, t4⟩ := mul_bd (a := 2 * (j : Int) + 1 - H) (b := W) (X := 31) (Y := 16) (by omega) (by omega) (by omega) (by omega)
          simp only [Int.reduceMul, Int.reduceNeg] at t1 t2 t3 t4
          have hjm : j * m ≤ 15 * 16 := Nat.mul_le_mul (by omega) (by omega)
          go_wp2_with (at_builtin; refine wpList_append_own _ rfl _ _ 64 rfl wy.heap.size 62 i0 (.agg #[.int .i64 0, .int .i64 0, .int .i64 0, .int .i64 0]) 4 32 Try.underlying64 hi hz0 hz1 hz2 rfl (by decide) _ _ _ rfl (hown.alloc _) ⟨wr.heap.size, 0, none⟩ 1 1 [.int .i64 a, .int .i64 j, .int .i64 ((2 * a + 1 - W) * H), .int .i64 ((2 * j + 1 - H) * W)] rfl rfl ?c1 ?c2 ?c3 ?c4 ?c5 ?_)
          case c1 =>
            intro q u hq
            match q, hq with
            | 0, hq => simp at hq; subst hq; simp [Addr.add]
            | 1, hq => simp at hq; subst hq; simp [Addr.add]
            | 2, hq => simp at hq; subst hq; simp [Addr.add]
            | 3, hq => simp at hq; subst hq; simp [Addr.add]
          case c2 => intro u hu; simp at hu; rcases hu with rfl | rfl | rfl | rfl <;> rfl
          case c3 => unfold maxLen; omega
          case c4 => omega
          case c5 => simp; omega
          intro v' w3 hown' hgrow _
          have hnx' : RowKit.Below wy.heap.size wy w3 := (hnx.alloc (by omega) _).grown hgrow (by simp; omega) (own_base hown)
          clear hgrow hown
          go_wp2_with fail
          go_roundw
          case rel =>
            refine ⟨a + 1, by omega, by go_num, ?_, hnx'⟩
            have e1 : pl W H m (j * m + (a + 1)) = pl W H m (j * m + a) ++ [.int .i64 a, .int .i64 j, .int .i64 ((2 * a + 1 - W) * H), .int .i64 ((2 * j + 1 - H) * W)] := by
              rw [← Nat.add_assoc, pl_succ, encP, pxN_eq (by omega) hlt2 (by omega)]
              rfl
            rw [e1, ← Nat.add_assoc]
            exact hown'
          case measure => simp [intOf]; omega
        · have ham : a = m := by omega
          subst ham
          have haW : ¬ (a : Int) < W := by have := HM.out; omega
          go_wp2_with fail
          go_roundw
          case rel => exact ⟨j + 1, by omega, by go_num, by rw [Nat.succ_mul]; exact hown, hnx⟩
          case measure => simp [intOf]; omega
    · have hjh : j = h := by omega
      subst hjh
      have hjH : ¬ (j : Int) < H := by have := HH.out; omega
      have hn1 : 1 ≤ j * m := Nat.mul_pos (by omega) (by omega)
      have hn2 : j * m ≤ 16 * 16 := Nat.mul_le_mul (by omega) (by omega)
      obtain ⟨gb, cap, rfl, hgb, hgl⟩ := hown.form (by omega)
      have hold := own_holds hown
      have hds : (allP m (j * m)).toArray.size = j * m := by simp [allP]
      have hbw := (hnx.block (w.heap.size + 2) (by omega)).trans hbx
      have hcon := sort_px k W H ⟨hW1, hW2⟩ ⟨hH1, hH2⟩ g (w.heap.size + 2) gb cap (allP m (j * m)).toArray wr hold hgl (by omega) hbw (by omega) Hcf.out Hval.out
      have hkeep := fun (d' : Array Px) (nn : Nat) (os : Array Obj) (hq : d'.size = j * m) => holdsK_sortWorldK_c (encP W H) 4 wr gb 0 (allP m (j * m)).toArray d' nn os hold hgl (hq.trans hds.symm)
      rw [hds] at hcon
      have hmf : ∀ (fn : Fn) (first cap : Array Value) (w : World), (Instr.makeFunc fn first cap).run Try.prog w = .ok (.func fn first cap) w := fun _ _ _ _ => rfl
      have Hcon := Lib.hid hcon
      have Hkeep := Lib.hid hkeep
      clear hcon hkeep hold hown
      go_wp2_with fail
      refine Hcon.out.mono ?_
      rintro e ws ⟨rfl, d', nn, os, hperm, hsort, hws⟩
      have hdsz : d'.size = j * m := by rw [hperm.1, hds]
      have hold := Hkeep.out d' nn os hdsz
      rw [← hws] at hold
      have hBs : RowKit.Below wy.heap.size wy ws := by rw [hws]; exact hnx.trans (swk_below _ _ _ _ _ _ _ _ _ hgb hsw)
      have hgs : gb < ws.heap.size := by
        have := hBs.size
        have h2 := size_sortWorldK_c (encP W H) 4 wr gb 0 nn d' os
        rw [← hws] at h2
        omega
      clear hws Hcon Hkeep hnx hmf hbw hsw
      rw [Nat.mul_comm j m] at hperm hsort
      have Hperm := Lib.hid hperm
      have Hsort := Lib.hid hsort
      clear hperm hsort
      have hWH : W * H = ((j * m : Nat) : Int) := by rw [HM.out, HH.out, Nat.mul_comm]; simp
      have hmk : ∀ w : World, Sem.run Try.prog (Instr.makeSlice 22 (.int .i64 (W * H)) (.int .i64 (W * H))) w = .ok (.slice (some ⟨w.heap.size, 0, none⟩) (j * m) (j * m)) (w.alloc (.cells (rowU (j * m) fun _ => 0) 5)) := by
        rw [hWH]
        exact make_u8 (j * m) (by omega)
      have HWH := Lib.hid hWH
      have wh1 : 1 ≤ W * H := by rw [HWH.out]; omega
      have wh2 : W * H ≤ 256 := by rw [HWH.out]; omega
      clear hWH
      have hmk' := hmk ws
      go_wp2_with fail
      go_loopw [77] (fun i wr => ∃ r : Nat, r ≤ j * m ∧ i = .int .i64 r ∧ wr.heap[ws.heap.size]? = some (.cells (rowU (j * m) (spF k W H m (m * j) r)) 5 (0, 0)) ∧ RowKit.Below ws.heap.size ws wr) (fun i _ => j * m - (intOf i).toNat)
      case atStart => exact ⟨0, Nat.zero_le _, rfl, rw_new rfl, RowKit.Below.alloc (RowKit.Below.refl _ _) (Nat.le_refl _) _⟩
      case round =>
        obtain ⟨r, hr, rfl, hT, hnx⟩ := hrel
        have hlT := rw_lt hT
        by_cases hlt2 : r < j * m
        · obtain ⟨t, ht, e1, e2⟩ := sorted_at k W H hm1.2 hh1.2 Hperm.out Hsort.out r (by rw [Nat.mul_comm]; exact hlt2)
          obtain ⟨a, b, e3, ha, hb, e4⟩ := px_form hm1.2 hh1.2 ht
          obtain ⟨q0, q1, q2, q3⟩ := px_cells hold r (by omega) a b (by rw [e1]; exact e3)
          have p0 := (hnx.cell (p := ⟨gb, r * 4, none⟩) hgs).trans q0
          have p1 := (hnx.cell (p := ⟨gb, r * 4 + 1, none⟩) hgs).trans q1
          have p2 := (hnx.cell (p := ⟨gb, r * 4 + 2, none⟩) hgs).trans q2
          have p3 := (hnx.cell (p := ⟨gb, r * 4 + 3, none⟩) hgs).trans q3
          clear q0 q1 q2 q3
          have P0 := Lib.hid p0
          have hidx : (b : Int) * W + a = (t : Int) := by rw [HM.out, e4]; simp
          have htl : t < j * m := by rw [Nat.mul_comm]; exact ht
          obtain ⟨V, hV⟩ : ∃ V, (255 * (r : Int)).tdiv (W * H) = V := ⟨_, rfl⟩
          have hV2 : V = (255 * (r : Int)) / ((m * j : Nat) : Int) := by rw [← hV, HWH.out, Nat.mul_comm j m, Int.tdiv_eq_ediv_of_nonneg (by omega)]
          have hrn : (r : Int) < ((m * j : Nat) : Int) := by rw [Nat.mul_comm m j]; omega
          have hV3 : 0 ≤ V ∧ V < 255 := by
            rw [hV2]
            refine ⟨Int.ediv_nonneg (by omega) (by omega), ?_⟩
            exact Int.ediv_lt_of_lt_mul (by omega) (by rw [Int.mul_comm]; omega)
          obtain ⟨hV3, hV4⟩ := hV3
          have HV2 := Lib.hid hV2
          have hBr : RowKit.Below w.heap.size w wr := hB_wy.trans ((hBs.mono (by omega)).trans (hnx.mono (by have := hBs.size; omega)))
          have hsl := hnx.size
          clear hV2 e1 e3 e4
          go_upto_region 19 with fail
          clear p0 p1 p2 p3
          obtain ⟨wv, hwv⟩ : ∃ wv, wv = wr.alloc (.cells #[.int .i64 a, .int .i64 b, .int .i64 (pu W H a), .int .i64 (pv W H b)] 62 (0, 0)) := ⟨_, rfl⟩
          have hBx : RowKit.Below ws.heap.size ws wv := by rw [hwv]; exact RowKit.Below.alloc hnx hsl _
          have hT' : wv.heap[ws.heap.size]? = some (.cells (rowU (j * m) (spF k W H m (m * j) r)) 5 (0, 0)) := by rw [hwv]; exact rw_alloc hT
          have hx : wv.heap[wr.heap.size]? = some (.cells #[.int .i64 a, .int .i64 b, .int .i64 (pu W H a), .int .i64 (pv W H b)] 62 (0, 0)) := by rw [hwv]; exact rw_new rfl
          rw [← hwv]
          clear hwv hT
          have hT := hT'
          clear hT'
          obtain ⟨hxc0, hxc1, hxc2, hxc3⟩ := cel4 hx
          have hlx := rw_lt hx
          have hlv : ws.heap.size ≤ wv.drew.heap.size := hBx.size
          (try go_frame)
          refine wp_region_grow [(0, none), (1, none), (2, none), (3, none), (4, none), (5, none), (6, none), (7, none), (8, none), (9, none), (10, none), (11, none), (12, none), (13, none), (14, none), (15, none)] (.s 16 .e .done) ?g1_ ?g2_ ?g3_ ?_
          case g1_ => kernel_rfl
          case g2_ => kernel_rfl
          case g3_ => exact fun _ _ _ _ _ h => h
          (apply wpG_p rfl rfl rfl rfl rfl; (intro w' K hK; (first | go_big_op | go_wp2_with fail); exact hK))
          (apply wpG_p rfl rfl rfl rfl rfl; (intro w' K hK; (first | go_big_op | go_wp2_with fail); exact hK))
          (apply wpG_l rfl rfl rfl rfl rfl; (intro w' K hC hK; (refine wp_load_cell 3 _ rfl (wr.heap.size) 1 rfl _ _ _ _ _ (rw_below hC.1 hx) Try.underlying3 rfl rfl ?_); exact hK); (case he => first | rfl | (simp [Act.put, *]; done)))
          (apply wpG_p rfl rfl rfl rfl rfl; (intro w' K hK; (first | go_big_op | go_wp2_with fail); exact hK))
          (apply wpG_p rfl rfl rfl rfl rfl; (intro w' K hK; (first | go_big_op | go_wp2_with fail); exact hK))
          (apply wpG_p rfl rfl rfl rfl rfl; (intro w' K hK; (first | go_big_op | go_wp2_with fail); exact hK))
          (apply wpG_l rfl rfl rfl rfl rfl; (intro w' K hC hK; (refine wp_load_cell 3 _ rfl (wr.heap.size) 0 rfl _ _ _ _ _ (rw_below hC.1 hx) Try.underlying3 rfl rfl ?_); exact hK); (case he => first | rfl | (simp [Act.put, *]; done)))
          (apply wpG_p rfl rfl rfl rfl rfl; (intro w' K hK; (first | go_big_op | go_wp2_with fail); exact hK))
          (apply wpG_p rfl rfl rfl rfl rfl; (intro w' K hK; (first | go_big_op | go_wp2_with fail); exact hK))
          (apply wpG_p rfl rfl rfl rfl rfl; (intro w' K hK; (first | go_big_op | go_wp2_with fail); exact hK))
          (apply wpG_p rfl rfl rfl rfl rfl; (intro w' K hK; (first | go_big_op | go_wp2_with fail); exact hK))
          (apply wpG_p rfl rfl rfl rfl rfl; (intro w' K hK; (first | go_big_op | go_wp2_with fail); exact hK))
          (apply wpG_p rfl rfl rfl rfl rfl; (intro w' K hK; (first | go_big_op | go_wp2_with fail); exact hK))
          (apply wpG_p rfl rfl rfl rfl rfl; (intro w' K hK; (first | go_big_op | go_wp2_with fail); exact hK))
          (apply wpG_p rfl rfl rfl rfl rfl; (intro w' K hK; (first | go_big_op | go_wp2_with fail); exact hK))
          (apply wpG_p rfl rfl rfl rfl rfl; (intro w' K hK; (first | go_big_op | go_wp2_with fail); exact hK))
          refine wpG_nil (fun w4 hB1 hG hD => ?_)
          clear hG; have hT4 := rw_below hB1 (rw_drew hT); have hB4 : RowKit.Below ws.heap.size ws w4 := hBx.trans (RowKit.Below.trans (RowKit.Below.drew (RowKit.Below.refl _ wv)) (hB1.mono hlv)); clear hB1 hT hx hxc0 hxc1 hxc2 hxc3
          (try clear hD)
          refine wpOrd_e1 rfl rfl (fun K hK => ?_)
          refine wp_store_cell 5 _ _ rfl ws.heap.size t (.int .u8 V) rfl (ev_tmp rfl) _ _ (rowU (j * m) (spF k W H m (m * j) (r + 1))) hT4 (by kernel_rfl) (by rw [rowU_size]; exact decide_eq_true htl) rfl (spF_step k W H m (m * j) r t (j * m) V e2 HV2.out (fun s hs he => rk_inj k W H hm1.2 hh1.2 Hperm.out Hsort.out s t (by rw [Nat.mul_comm]; exact hs) ht he)) ?_; refine hK _ _ trivial ?_; clear hK K
          refine wpOrd_nil ?_
          skip
          go_wp2_with fail
          go_roundw
          case rel => exact ⟨r + 1, by omega, by go_num, rw_self hT4, bw_set hB4 (Nat.le_refl _)⟩
          case measure => simp [intOf]; omega
        · have hrn : r = j * m := by omega
          subst hrn
          have hcv := Lib.run_convert_whole (P := Try.prog) wr 22 5 9 Try.underlying22 Try.underlying5 Try.underlying9 ws.heap.size 0 (strU (j * m) (spF k W H m (m * j) (j * m))) (strU_bytes (spF_bd k W H m (m * j) (j * m) (by rw [Nat.mul_comm]; exact Nat.le_refl _)) hT) (j * m)
          have hsS : strU (j * m) (spF k W H m (m * j) (j * m)) = spotS k W H := by
            rw [spotS, show W.toNat = m by have := HM.out; omega, show H.toNat = j by have := HH.out; omega, Nat.mul_comm m j]
            refine strU_congr fun t ht => ?_
            have := rk_lt k W H hm1.2 hh1.2 Hperm.out Hsort.out t (by rw [Nat.mul_comm]; exact ht)
            rw [Nat.mul_comm m j] at this
            rw [spF, if_pos this, spotF]
          rw [strU_size, hsS] at hcv
          have hrw : wr.heap[w.heap.size]? = some (.cells #[.int .i64 0, .int .i64 0, .string ⟨#[]⟩] 26 (0, 0)) := (hnx.block w.heap.size (by have := hBs.size; omega)).trans ((hBs.block w.heap.size (by omega)).trans hr3)
          have hBr : RowKit.Below w.heap.size w wr := hB_wy.trans ((hBs.mono (by omega)).trans (hnx.mono (by have := hBs.size; omega)))
          go_upto_region 21 with fail
          clear hT
          go_wp2_with ((with_reducible refine rw_list ?_); (first | ((with_reducible apply wpList_load_cell); (case ho => with_reducible rfl); (case hgd => with_reducible rfl); (case hx => rfl); (case hu => first | exact Try.underlying26); (case hd => rfl)) | ((with_reducible apply wpList_load_row); (case ho => with_reducible rfl); (case hgd => with_reducible rfl); (case hx => rfl); (case hu => first | exact Try.underlying26); (case hd => rfl)) | ((with_reducible apply wpList_store_row); (case ho => with_reducible rfl); (case hgd => with_reducible rfl); (case hx => rfl); (case hy => rfl)) | ((with_reducible apply wpList_store_cell); (case ho => with_reducible rfl); (case hgd => with_reducible rfl); (case hx => rfl); (case hy => first | exact ev_const | exact ev_tmp rfl); (case h1 => rfl))); (case hg => exact (by with_reducible repeat (first | assumption | (refine rw_new ?e_; case e_ => first | rfl | (simp; done) | (simp; omega)) | apply rw_self | (apply rw_other; case hn => first | omega | (simp; omega)) | apply rw_alloc | apply rw_drew | apply rw_drewN))); (try case hv => rfl); (try case hi => kernel_rfl); (try case hold => rfl); (try case h1 => kernel_rfl); (try case hlt => rfl); (try case hcs => ((try simp only [List.setIfInBounds_toArray, List.set_cons_succ, List.set_cons_zero]); rfl)))
          exact bodyPost_ret (v := _) (results_cell_tmp Try.results10 _ _ _ _ _ _ _ (by rfl) (by with_reducible repeat (first | assumption | (refine rw_new ?e_; case e_ => first | rfl | (simp; done) | (simp; omega)) | apply rw_self | (apply rw_other; case hn => first | omega | (simp; omega)) | apply rw_alloc | apply rw_drew | apply rw_drewN)) Try.underlying26 rfl (by kernel_rfl)) rfl ⟨rfl, (by with_reducible repeat (first | exact Below.refl _ _ | assumption | ((first | refine Below.alloc ?_ ?b_ _ | refine bw_set ?_ ?b_ | refine Below.setCell ?_ ?b_ _); case b_ => first | omega | (simp; done) | (simp; omega)) | refine Below.drew ?_ | refine below_drewN ?_ _))⟩
end Go.Proofs.Ytdkkjlapmaageaa.T3
