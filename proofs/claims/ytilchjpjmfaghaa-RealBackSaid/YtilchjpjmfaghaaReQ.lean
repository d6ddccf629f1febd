/- chapter 01: whole: the digits of a number, one after another. -/
import Derived.Test.YtilchjpjmfaghaaReP
import Derived.RangeFuncNested
import Derived.RangeFuncBound
import Derived.RangeFuncCalls
import Derived.RangeFuncLeaves
import Derived.RangeFuncFrom
import Derived.Shelf.Abstract
import Derived.Shelf.RegionOpen
import Derived.WalkKit
import Derived.OwnWalkIn
import Derived.TacticsInMore
import Derived.LoopNIn
import Derived.LoopIn
import Derived.Lib.Hide
namespace Go.Proofs.Ytilchjpjmfaghaa.T3
set_option linter.unusedSimpArgs false
set_option linter.unusedVariables false
open Go.RowKit Go.Shelf
attribute [local go_sem] Oper.semAt_some
set_option maxHeartbeats 2000000
set_option maxRecDepth 100000
def upto {α : Type} (f : Nat → α) (k : Nat) : List α := (List.range k).map f
theorem upto_succ {α : Type} (f : Nat → α) (k : Nat) : upto f (k + 1) = upto f k ++ [f k] := by simp [upto, List.range_succ]
theorem upto_length {α : Type} (f : Nat → α) (k : Nat) : (upto f k).length = k := by simp [upto]
/-- n has k + 1 digits -/
def hasD (n : Int) (k : Nat) : Prop := k ≤ 4 ∧ n < 10 ^ (k + 1) ∧ (0 < k → 10 ^ k ≤ n)
theorem hasD_ex (n : Int) (h0 : 0 ≤ n) (h1 : n ≤ 32768) : ∃ k, hasD n k := by
  by_cases a : n < 10
  · exact ⟨0, by unfold hasD; omega⟩
  by_cases b : n < 100
  · exact ⟨1, by unfold hasD; omega⟩
  by_cases c : n < 1000
  · exact ⟨2, by unfold hasD; omega⟩
  by_cases d : n < 10000
  · exact ⟨3, by unfold hasD; omega⟩
  · exact ⟨4, by unfold hasD; omega⟩
/-- the digit at place j, as an octet -/
def wd (n : Int) (k j : Nat) : Int := 48 + n / 10 ^ (k - j) % 10
theorem four5 {k : Nat} (h : k ≤ 4) : k = 0 ∨ k = 1 ∨ k = 2 ∨ k = 3 ∨ k = 4 := by omega
theorem pw_bd {j : Nat} (h : j ≤ 4) : 1 ≤ (10 : Int) ^ j ∧ (10 : Int) ^ j ≤ 10000 := by
  rcases four5 h with rfl | rfl | rfl | rfl | rfl <;> decide
abbrev BO (n : Int) : Obj := .cells #[.int .i64 n] 3 (0, 0)
/-- the box keeps its number -/
def KR (n : Int) (Bs : Nat) (A B : World) : Prop := A.heap[Bs]? = some (BO n) → B.heap[Bs]? = some (BO n)
theorem whole1_in (F : Fence) (m : Nat) (hf : F.fn 73) (hro : F.round = none) (hm : 1 ≤ m) (l Bs k : Nat) (n : Int) (hn0 : 0 ≤ n) (hn1 : n ≤ 32768) (hk : hasD n k) (J Jx : List Int → World → Prop)
    (hY : ∀ pre x W, J pre W → pre.length < k + 1 → YieldAt F (m - 1) Try.prog l #[.int .u8 x] W fun e W' =>
      (e = .returned (.bool true) ∧ J (pre ++ [x]) W' ∧ KR n Bs W W') ∨ (e = .returned (.bool false) ∧ Jx (pre ++ [x]) W'))
    (W : World) (hBs : W.heap[Bs]? = some (BO n)) (h0 : J [] W) :
    CallsIn F m Try.prog 73 #[.func (.yield l) #[] #[], .pointer (some ⟨Bs, 0, none⟩)] W fun e W' => (∃ v, e = .returned v) ∧
      ((∃ ys, ys = upto (wd n k) (k + 1) ∧ J ys W') ∨ (∃ pre, (∃ i, i ≤ k + 1 ∧ pre = upto (wd n k) i) ∧ Jx pre W')) := by
  obtain ⟨hk4, hk5, hk6⟩ := hk
  have hge : ∀ j, j ≤ k → (10 ≤ n / 10 ^ j ↔ j < k) := by
    intro j hj
    rcases four5 hk4 with rfl | rfl | rfl | rfl | rfl <;> rcases four5 (show j ≤ 4 by omega) with rfl | rfl | rfl | rfl | rfl <;> omega
  have Hge := Lib.hid hge
  have H0 := Lib.hid h0
  have hc := cel1 hBs
  clear hge hk5 hk6 h0
  refine callsIn_of_wp Try.func73 rfl hf ?_ hro
  simp only [Try.ntmps73, List.size_toArray, List.length_cons, List.length_nil, Nat.reduceAdd, Nat.reduceSub, Array.replicate_succ, Array.replicate_zero, List.push_toArray, List.append_toArray, List.nil_append, List.cons_append]
  gi_wp2
  gi_loop [3] (fun u => ∃ j : Nat, j ≤ k ∧ u = .int .i64 (10 ^ j)) (fun u => 1000000 - (intOf u).toNat)
  case atStart => exact ⟨0, Nat.zero_le _, rfl⟩
  case round =>
    obtain ⟨j, hj, rfl⟩ := hrel
    have hu := pw_bd (show j ≤ 4 by omega)
    have hg := Hge.out j hj
    have hnx : (10 : Int) ^ (j + 1) = 10 ^ j * 10 := Int.pow_succ _ _
    by_cases hlt : j < k
    · have hg2 := hg.2 hlt
      obtain ⟨u, hue⟩ : ∃ u : Int, 10 ^ j = u := ⟨_, rfl⟩
      rw [hue] at hu hg2 hnx ⊢
      obtain ⟨hu1, hu2⟩ := hu
      have Hnx := Lib.hid hnx
      clear hnx hue hg
      gi_wp2
      go_round
      case rel => exact ⟨j + 1, by omega, by rw [Hnx.out]⟩
      case measure => simp [intOf]; omega
    · have hjk : j = k := by omega
      subst hjk
      have hg2 : ¬ 10 ≤ n / 10 ^ j := fun h => hlt (hg.1 h)
      have hue2 : (10 : Int) ^ (j - 0) = 10 ^ j := by rw [Nat.sub_zero]
      obtain ⟨u, hue⟩ : ∃ u : Int, 10 ^ j = u := ⟨_, rfl⟩
      rw [hue] at hu hg2 ⊢
      obtain ⟨hu1, hu2⟩ := hu
      have Hue := Lib.hid (hue2.trans hue)
      clear hnx hue hue2 hg Hge
      gi_wp2
      gi_loopw [3] (fun v wr => ∃ i : Nat, ((i ≤ j ∧ v = .int .i64 (10 ^ (j - i))) ∨ (i = j + 1 ∧ v = .int .i64 0)) ∧ J (upto (wd n j) i) wr ∧ wr.heap[Bs]? = some (BO n)) (fun v _ => (intOf v).toNat)
      case atStart => exact ⟨0, .inl ⟨Nat.zero_le _, by rw [Hue.out]⟩, H0.out, hBs⟩
      case round =>
        obtain ⟨i, hi, hJs, hB⟩ := hrel
        rcases hi with ⟨hi, rfl⟩ | ⟨rfl, rfl⟩
        · have hc := cel1 hB
          obtain ⟨fn, tmps, assign, body, hy, hR⟩ := hY _ (wd n j i) wr hJs (by rw [upto_length]; omega)
          skip
          have hu' := pw_bd (show j - i ≤ 4 by omega)
          have hwd : wd n j i = 48 + n / 10 ^ (j - i) % 10 := rfl
          have hnx : i < j → (10 : Int) ^ (j - (i + 1)) = 10 ^ (j - i) / 10 := fun h => by
            rw [show j - i = (j - (i + 1)) + 1 by omega, Int.pow_succ]
            omega
          have hlast : ¬ i < j → (10 : Int) ^ (j - i) = 1 := fun h => by rw [show j - i = 0 by omega]; rfl
          have hq1 := Int.ediv_nonneg hn0 (show (0 : Int) ≤ 10 ^ (j - i) by omega)
          have hq2 : n / 10 ^ (j - i) ≤ 32768 := by
            have := Int.ediv_le_self (10 ^ (j - i)) hn0
            omega
          obtain ⟨x, hx⟩ : ∃ x : Int, 10 ^ (j - i) = x := ⟨_, rfl⟩
          rw [hx] at hu' hwd hnx hlast hq1 hq2 ⊢
          obtain ⟨hx1, hx2⟩ := hu'
          rw [hwd] at hy
          have Hnx := Lib.hid hnx
          have Hlast := Lib.hid hlast
          clear hnx hlast hx hwd Hue
          gi_wp2
          refine hR.mono ?_
          rintro e W3 (⟨rfl, hJ3, hk3⟩ | ⟨rfl, hJx3⟩)
          · gi_wp2
            go_roundw
            case rel =>
              refine ⟨i + 1, ?_, by rw [upto_succ]; exact hJ3, hk3 hB⟩
              by_cases hij : i < j
              · exact .inl ⟨by omega, by rw [Hnx.out hij]⟩
              · exact .inr ⟨by omega, by rw [Hlast.out hij]; rfl⟩
            case measure => simp [intOf]; omega
          · gi_wp2
            refine bodyPost_ret (results_none rfl _ _ _) rfl ?_
            exact ⟨⟨_, rfl⟩, .inr ⟨_, ⟨i + 1, by omega, (upto_succ _ _).symm⟩, hJx3⟩⟩
        · gi_wp2
          go_end0
          exact ⟨⟨_, rfl⟩, .inl ⟨_, rfl, hJs⟩⟩
theorem whole_stops (F : Fence) (m : Nat) (hf : F.fn 73) (hro : F.round = none) (hm : 1 ≤ m) (Bs k : Nat) (n : Int) (hn0 : 0 ≤ n) (hn1 : n ≤ 32768) (hk : hasD n k) (w : World) (hc : w.heap[Bs]? = some (BO n)) :
    SeqStopsK F m Try.prog 73 #[.pointer (some ⟨Bs, 0, none⟩)] (fun x : Int => #[Value.int .u8 x]) (KR n Bs) (fun ys => ys = upto (wd n k) (k + 1)) (fun _ => True) (k + 1) w := fun l J Jx W hW _ _ hY h0 => by
  have hc' := rw_below hW hc
  refine (whole1_in F m hf hro hm l Bs k n hn0 hn1 hk J Jx hY W hc' h0).mono ?_
  rintro e W' ⟨he, ⟨ys, rfl, hj⟩ | ⟨pre, _, hj⟩⟩
  · exact ⟨he, .inl ⟨_, rfl, hj⟩⟩
  · exact ⟨he, .inr ⟨_, trivial, hj⟩⟩
theorem whole_in (F : Fence) (m : Nat) (hf : F.fn 53) (hro : F.round = none) (n : Int) (w : World) :
    CallsIn F m Try.prog 53 #[.int .i64 n] w fun e w' => e = .returned (.func (.func 73) #[] #[.pointer (some ⟨w.heap.size, 0, none⟩)]) ∧ w' = w.alloc (.cells #[.int .i64 n] 3) := by
  refine callsIn_of_wp Try.func53 rfl hf ?_ hro
  simp only [Try.ntmps53, List.size_toArray, List.length_cons, List.length_nil, Nat.reduceAdd, Nat.reduceSub, Array.replicate_succ, Array.replicate_zero, List.push_toArray, List.append_toArray, List.nil_append, List.cons_append]
  gi_wp2
  go_ret
  exact ⟨rfl, rfl⟩
/-- the digits behind the point, as octets -/
def ff : Nat → Int → List Int
  | 0, _ => []
  | k + 1, f => (48 + f * 10 / 65536) :: (if 0 < f * 10 % 65536 then ff k (f * 10 % 65536) else [])
/-- what has come of the digits behind the point -/
def FS (f0 : Int) (pre : List Int) (f : Int) (fst : Bool) (j : Nat) : Prop := (0 ≤ f ∧ f < 65536) ∧ pre.length = j ∧ j ≤ 17 ∧ (2 : Int) ^ j ∣ f ∧ fst = decide (j = 0) ∧ pre ++ (if 0 < f ∨ fst = true then ff (17 - j) f else []) = ff 17 f0
theorem two_dvd {a b : Nat} (h : a ≤ b) : (2 : Int) ^ a ∣ 2 ^ b := ⟨2 ^ (b - a), by rw [← Int.pow_add, show a + (b - a) = b by omega]⟩
theorem two16 : (2 : Int) ^ 16 = 65536 := by decide
theorem FS.start {f0 : Int} (h0 : 0 ≤ f0) (h1 : f0 < 65536) : FS f0 [] f0 true 0 := ⟨⟨h0, h1⟩, rfl, by omega, by simp, rfl, by simp⟩
theorem FS.len {f0 f : Int} {pre : List Int} {fst : Bool} {j : Nat} (h : FS f0 pre f fst j) : pre.length ≤ 17 := by rw [h.2.1]; exact h.2.2.1
theorem FS.step {f0 f : Int} {pre : List Int} {fst : Bool} {j : Nat} (h : FS f0 pre f fst j) (hg : 0 < f ∨ fst = true) : FS f0 (pre ++ [48 + f * 10 / 65536]) (f * 10 % 65536) false (j + 1) := by
  obtain ⟨⟨h1, h2⟩, h3, h4, h5, h6, h7⟩ := h
  have hj : j ≤ 15 := by
    rcases Nat.lt_or_ge j 16 with h | h
    · omega
    · exfalso
      have h8 : (65536 : Int) ∣ f := by
        have h9 := two_dvd h
        rw [two16] at h9
        exact Int.dvd_trans h9 h5
      obtain ⟨c, hc⟩ := h8
      rcases hg with hg | hg
      · omega
      · rw [hg] at h6
        have := of_decide_eq_true h6.symm
        omega
  refine ⟨⟨by omega, by omega⟩, by simp [h3], by omega, ?_, by simp, ?_⟩
  · have d1 : (2 : Int) ^ (j + 1) ∣ f * 10 := by
      obtain ⟨c, hc⟩ := h5
      exact ⟨5 * c, by rw [hc, Int.pow_succ]; grind⟩
    have d2 := two_dvd (show j + 1 ≤ 16 by omega)
    rw [two16] at d2
    rw [Int.emod_def]
    exact Int.dvd_sub d1 (Int.dvd_trans d2 (Int.dvd_mul_right _ _))
  · rw [if_pos hg, show 17 - j = (17 - (j + 1)) + 1 by omega, ff] at h7
    rw [List.append_assoc, ← h7]
    simp
theorem FS.fin {f0 f : Int} {pre : List Int} {fst : Bool} {j : Nat} (h : FS f0 pre f fst j) (hg : ¬ (0 < f ∨ fst = true)) : pre = ff 17 f0 := by
  have := h.2.2.2.2.2
  rwa [if_neg hg, List.append_nil] at this
def blen (b : Nat) (w : World) : Nat :=
  match w.cell? ⟨b, 1, none⟩ with
  | some (.slice _ n _) => n
  | _ => 0
theorem blen_at {T e : TypeId} {B b : Nat} {p : Value} {bs : List Value} {w : World} (h : Lib.BuilderAt T e B b p bs w) : blen b w = bs.length := by
  obtain ⟨_, v, hb, hown, _⟩ := h
  have hc := (cel2 hb).2
  unfold blen
  rw [hc]
  rcases hown.2 with ⟨rfl, h0⟩ | ⟨g, cap, cur, rfl, _⟩
  · exact h0.symm
  · rfl
end Go.Proofs.Ytilchjpjmfaghaa.T3
