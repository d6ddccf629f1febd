/- chapter 01: front, fraction and double. -/
import Derived.Test.YtilchjpjmfaghaaReE
import Derived.WalkKit
import Derived.Lib.Hide
import Derived.Deep.QuietTactic
import Derived.BigQuiet
import Derived.Lib.QuietBelow
import Derived.Deep.RegionHeld3
import Derived.WalkLawsBesides
import Derived.WalkSpells
import Derived.Outline
import Derived.Deep.DeepFit
import Derived.Maps.AppendAt
import Derived.Deep.AppendLies
import Derived.Deep.CutRange
import Derived.OpenShut
namespace Go.Proofs.Ytilchjpjmfaghaa.T3
set_option linter.unusedSimpArgs false
set_option linter.unusedVariables false
open Go.RowKit Go.Lib
set_option maxHeartbeats 2000000
set_option maxRecDepth 100000
/-- digits -/
def isD (L : List Int) : Prop := ∀ d ∈ L, 0 ≤ d ∧ d ≤ 9
def u8s (L : List Int) : List Value := L.map (Value.int .u8)
theorem isD_at {L : List Int} (h : isD L) (i : Nat) (hi : i < L.length) : 0 ≤ L[i] ∧ L[i] ≤ 9 := h _ (List.getElem_mem hi)
theorem isD_getD {L : List Int} (h : isD L) (i : Nat) : 0 ≤ L.getD i 0 ∧ L.getD i 0 ≤ 9 := by
  rw [List.getD_eq_getElem?_getD]
  rcases Nat.lt_or_ge i L.length with hi | hi
  · rw [List.getElem?_eq_getElem hi]; exact isD_at h i hi
  · rw [List.getElem?_eq_none hi]; simp
/-- the number that the first digits make -/
def fl (L : List Int) : Nat → Int
  | 0 => 0
  | i + 1 => 10 * fl L i + L.getD i 0
theorem fl_mono {L : List Int} (h : isD L) : ∀ i j, 0 ≤ fl L i ∧ fl L i ≤ fl L (i + j)
  | i, 0 => by
    refine ⟨?_, Int.le_refl _⟩
    induction i with
    | zero => simp [fl]
    | succ i ih => have := isD_getD h i; rw [fl]; omega
  | i, j + 1 => by
    have ih := fl_mono h i j
    have := isD_getD h (i + j)
    rw [← Nat.add_assoc, fl]
    omega
theorem u8s_get {L : List Int} {i : Nat} (h : i < L.length) : (u8s L)[i]? = some (.int .u8 (L.getD i 0)) := by
  simp [u8s, List.getElem?_eq_getElem h, List.getD_eq_getElem?_getD]
theorem front_any (L : List Int) (base : Nat) (x : Option Addr) (cap : Nat) (P : Int) (w : World) (hown : w.ownsRow base 5 1 (.slice x L.length cap) L.length (u8s L)) (hL : isD L) (hlen : L.length ≤ 1000) (hP : P ≤ 10000) :
    Calls Try.prog 56 #[.slice x L.length cap, .int .i64 P] w fun e w' => ∃ n : Int, e = .returned (.int .i64 n) ∧ w = w' ∧ ((n = fl L P.toNat ∧ n ≤ 2147483648) ∨ (2147483648 < n ∧ 2147483648 < fl L P.toNat)) := by
  have hcell : ∀ i, i < L.length → ∃ g, x = some ⟨g, 0, none⟩ ∧ w.cell? ⟨g, i, none⟩ = some (.int .u8 (L.getD i 0)) := by
    intro i hi
    rcases own_cases hown with ⟨_, e0⟩ | ⟨g, k, e, _⟩
    · omega
    · cases e
      exact ⟨g, rfl, own_cell hown (u8s_get hi)⟩
  obtain ⟨q, hq⟩ : ∃ q, P.toNat = q := ⟨_, rfl⟩
  have hPq : P = q ∨ (P ≤ 0 ∧ q = 0) := by omega
  rw [hq]
  have Hcell := Lib.hid hcell
  clear hown hcell hq
  obtain ⟨n, hn⟩ : ∃ n, L.length = n := ⟨_, rfl⟩
  rw [hn] at hlen Hcell ⊢
  have Hn := Lib.hid hn
  clear hn
  go_enter Try.func56, Try.ntmps56
  go_wp2_with fail
  go_loop [5, 6] (fun v5 v6 => ∃ k : Nat, k ≤ q ∧ v6 = .int .i64 k ∧ v5 = .int .i64 (fl L k) ∧ fl L k ≤ 2147483648) (fun _ v => q - (intOf v).toNat)
  case atStart => exact ⟨0, Nat.zero_le _, rfl, rfl, by simp [fl]⟩
  case round =>
    obtain ⟨k, hk, rfl, rfl, hb⟩ := hrel
    have hm := fl_mono hL k (q - k)
    rw [show k + (q - k) = q by omega] at hm
    have hm1 := fl_mono hL (k + 1) (q - (k + 1))
    have hs : fl L (k + 1) = 10 * fl L k + L.getD k 0 := rfl
    have hd := isD_getD hL k
    obtain ⟨V, hV⟩ : ∃ V, fl L k = V := ⟨_, rfl⟩
    obtain ⟨D, hD⟩ : ∃ D, L.getD k 0 = D := ⟨_, rfl⟩
    rw [hV] at hm hs hb ⊢
    rw [hD] at hs hd
    obtain ⟨hm0, hm2⟩ := hm
    obtain ⟨hd0, hd1⟩ := hd
    by_cases hlt : k < q
    · rw [show k + 1 + (q - (k + 1)) = q by omega] at hm1
      have hkP : (k : Int) < P := by omega
      have Hs := Lib.hid hs
      have Hm1 := Lib.hid hm1
      by_cases hkn : k < n
      · obtain ⟨g, rfl, hc⟩ := Hcell.out k hkn
        rw [hD] at hc
        clear hs hV hD hm1
        by_cases hbig : 2147483648 < 10 * V + D
        · go_wp2_with fail
          go_ret
          exact ⟨_, rfl, rfl, .inr ⟨hbig, by have h1 := Hs.out; have h2 := Hm1.out; omega⟩⟩
        · go_wp2_with fail
          go_round
          case rel => exact ⟨k + 1, by omega, by go_num, by rw [Hs.out], by rw [Hs.out]; omega⟩
          case measure => simp [intOf]; omega
      · have hD0 : D = 0 := by
          rw [← hD, List.getD_eq_getElem?_getD, List.getElem?_eq_none (by have := Hn.out; omega)]
          rfl
        clear hs hV hD hm1
        subst hD0
        by_cases hbig : 2147483648 < 10 * V
        · go_wp2_with fail
          go_ret
          exact ⟨_, rfl, rfl, .inr ⟨by omega, by have h1 := Hs.out; have h2 := Hm1.out; omega⟩⟩
        · go_wp2_with fail
          go_round
          case rel => exact ⟨k + 1, by omega, by go_num, by rw [Hs.out]; simp, by rw [Hs.out]; omega⟩
          case measure => simp [intOf]; omega
    · have hkq : k = q := by omega
      have hkP : ¬ (k : Int) < P := by omega
      subst hkq
      have HV := Lib.hid hV
      clear hV hs hm1 hD
      go_wp2_with fail
      go_ret
      exact ⟨_, rfl, rfl, .inl ⟨HV.out.symm, by omega⟩⟩
/-- a number of digits doubled -/
def dbl : List Int → List Int × Int
  | [] => ([], 0)
  | d :: t => ((2 * d + (dbl t).2) % 10 :: (dbl t).1, (2 * d + (dbl t).2) / 10)
theorem dbl_len : ∀ L, (dbl L).1.length = L.length
  | [] => rfl
  | d :: t => by simp [dbl, dbl_len t]
theorem dbl_bd : ∀ {L : List Int}, isD L → isD (dbl L).1 ∧ 0 ≤ (dbl L).2 ∧ (dbl L).2 ≤ 1
  | [], _ => ⟨fun d hd => absurd hd (by simp [dbl]), by simp [dbl], by simp [dbl]⟩
  | d :: t, h => by
    obtain ⟨h1, h2, h3⟩ := dbl_bd (L := t) (fun x hx => h x (by simp [hx]))
    have hd := h d (by simp)
    refine ⟨fun x hx => ?_, ?_, ?_⟩
    · simp only [dbl, List.mem_cons] at hx
      rcases hx with rfl | hx
      · omega
      · exact h1 x hx
    · simp only [dbl]; omega
    · simp only [dbl]; omega
theorem own_row {w : World} {base : Nat} {e : TypeId} {g n cap : Nat} {xs : List Value} (h : w.ownsRow base e 1 (.slice (some ⟨g, 0, none⟩) n cap) n xs) (hn : 0 < n) : ∃ cur, w.heap[g]? = some (.cells cur e (0, 0)) ∧ n ≤ cur.size ∧ (∀ i v, i < n → (w.setRow g (cur.setIfInBounds i v)).ownsRow base e 1 (.slice (some ⟨g, 0, none⟩) n cap) n (xs.set i v)) := by
  obtain ⟨h1, h2⟩ := h
  rcases h2 with ⟨_, h0⟩ | ⟨g', cap', cur, e1, hb, hg, hnc, hcm, hcs, htk⟩
  · omega
  · cases e1
    rw [Nat.mul_one] at hcs htk h1
    refine ⟨cur, hg, by omega, fun i v hi => ⟨by simpa using h1, .inr ⟨g, cap, _, rfl, hb, setRow_heap _ _ _ _ _ _ hg, hnc, hcm, by simp; omega, ?_⟩⟩⟩
    rw [Nat.mul_one, Array.toList_setIfInBounds, List.take_set, htk]
theorem double_any (L : List Int) (base : Nat) (x : Option Addr) (cap : Nat) (w : World) (hown : w.ownsRow base 5 1 (.slice x L.length cap) L.length (u8s L)) (hL : isD L) (hlen : L.length ≤ 2000) :
    Calls Try.prog 58 #[.slice x L.length cap] w fun e w' => e = .returned (.int .i64 (dbl L).2) ∧ Below base w w' ∧ w'.ownsRow base 5 1 (.slice x L.length cap) L.length (u8s (dbl L).1) := by
  rcases own_cases hown with ⟨e1, e0⟩ | ⟨g, k, e1, hbg⟩
  · have : L = [] := List.length_eq_zero_iff.1 e0
    subst this
    cases e1
    go_enter Try.func58, Try.ntmps58
    go_wp2_with fail
    go_loop [3, 4] (fun v3 v4 => v3 = .int .u8 0 ∧ v4 = .int .i64 (-1)) (fun _ _ => 0)
    case atStart => exact ⟨rfl, rfl⟩
    case round =>
      obtain ⟨rfl, rfl⟩ := hrel
      go_wp2_with fail
      go_ret
      exact ⟨rfl, Below.refl _ _, hown⟩
  · cases e1
    obtain ⟨n, hn⟩ : ∃ n, L.length = n := ⟨_, rfl⟩
    rw [hn] at hown hlen ⊢
    have Hn := Lib.hid hn
    have Hr := Lib.hid (show (dbl L).2 = (dbl (L.drop 0)).2 by rw [List.drop_zero])
    have Hr2 := Lib.hid (show L.take 0 ++ (dbl (L.drop 0)).1 = (dbl L).1 by simp)
    have h0 : L.take n ++ (dbl (L.drop n)).1 = L := by rw [← hn]; simp [dbl]
    have h1 : (dbl (L.drop n)).2 = 0 := by rw [← hn]; simp [dbl]
    have H0 := Lib.hid h0
    have H1 := Lib.hid h1
    clear hn h0 h1
    go_enter Try.func58, Try.ntmps58
    go_wp2_with fail
    go_loopw [3, 4] (fun v3 v4 wr => ∃ t : Nat, t ≤ n ∧ v4 = .int .i64 ((t : Int) - 1) ∧ v3 = .int .u8 (dbl (L.drop t)).2 ∧ RowKit.Below base w wr ∧ wr.ownsRow base 5 1 (.slice (some ⟨g, 0, none⟩) n cap) n (u8s (L.take t ++ (dbl (L.drop t)).1))) (fun _ v _ => (intOf v + 1).toNat)
    case atStart => exact ⟨n, Nat.le_refl _, rfl, by rw [H1.out], RowKit.Below.refl _ _, by rw [H0.out]; exact hown⟩
    case round =>
      clear hown
      obtain ⟨t, ht, rfl, rfl, hB, hown⟩ := hrel
      rcases Nat.eq_zero_or_pos t with h0 | h0
      · subst h0
        rw [show (((0 : Nat) : Int) - 1) = -1 from rfl, ← Hr.out]
        rw [Hr2.out] at hown
        have hd := (dbl_bd hL).2
        obtain ⟨c, hc⟩ : ∃ c, (dbl L).2 = c := ⟨_, rfl⟩
        rw [hc] at hd ⊢
        obtain ⟨hd1, hd2⟩ := hd
        have HC := Lib.hid hc
        clear hc
        go_wp2_with fail
        go_ret
        exact ⟨by rw [HC.out]; rfl, hB, hown⟩
      · obtain ⟨s, rfl⟩ : ∃ s, t = s + 1 := ⟨t - 1, by omega⟩
        have hsL : s < L.length := by have := Hn.out; omega
        rw [show (((s + 1 : Nat) : Int) - 1) = s by omega]
        obtain ⟨cur, hrow, hcs, hset⟩ := own_row hown (by omega)
        have hD := isD_at hL s hsL
        have hc := (dbl_bd (L := L.drop (s + 1)) (fun x hx => hL x (List.mem_of_mem_drop hx))).2
        have hcell : wr.cell? ⟨g, s, none⟩ = some (.int .u8 L[s]) := by
          refine own_cell hown ?_
          rw [u8s, List.getElem?_map, List.getElem?_append_left (by rw [List.length_take]; omega), List.getElem?_take, if_pos (by omega), List.getElem?_eq_getElem hsL]
          rfl
        have he : dbl (L.drop s) = ((2 * L[s] + (dbl (L.drop (s + 1))).2) % 10 :: (dbl (L.drop (s + 1))).1, (2 * L[s] + (dbl (L.drop (s + 1))).2) / 10) := by
          rw [List.drop_eq_getElem_cons hsL]
          rfl
        have hM : (L.take (s + 1) ++ (dbl (L.drop (s + 1))).1).set s ((2 * L[s] + (dbl (L.drop (s + 1))).2) % 10) = L.take s ++ (dbl (L.drop s)).1 := by
          rw [he, List.take_succ_eq_append_getElem hsL, List.append_assoc, List.set_append]
          rw [if_neg (by rw [List.length_take]; omega), show s - (List.take s L).length = 0 by rw [List.length_take]; omega]
          rfl
        have he2 : (dbl (L.drop s)).2 = (2 * L[s] + (dbl (L.drop (s + 1))).2) / 10 := by rw [he]
        have hset2 := hset s (.int .u8 ((2 * L[s] + (dbl (L.drop (s + 1))).2) % 10)) (by omega)
        rw [show (u8s (L.take (s + 1) ++ (dbl (L.drop (s + 1))).1)).set s (.int .u8 ((2 * L[s] + (dbl (L.drop (s + 1))).2) % 10)) = u8s (L.take s ++ (dbl (L.drop s)).1) by rw [← hM]; simp [u8s]] at hset2
        obtain ⟨D, hDe⟩ : ∃ D, L[s] = D := ⟨_, rfl⟩
        obtain ⟨c, hce⟩ : ∃ c, (dbl (L.drop (s + 1))).2 = c := ⟨_, rfl⟩
        rw [hDe] at hD hcell he2 hset2
        rw [hce] at hc he2 hset2 ⊢
        obtain ⟨hD1, hD2⟩ := hD
        obtain ⟨hc1, hc2⟩ := hc
        have hq : decide (s < cur.size) = true := decide_eq_true (by omega)
        have He2 := Lib.hid he2
        have Hset := Lib.hid hset2
        clear he hM he2 hset hset2 hDe hce hown
        go_wp2_with (first | ((with_reducible refine rw_list ?_); ((with_reducible apply wpList_store_cell); (case ho => with_reducible rfl); (case hgd => with_reducible rfl); (case hx => rfl); (case hy => exact ev_tmp rfl); (case h1 => rfl)); (case hg => exact hrow); (case hi => kernel_rfl); (case hcs => rfl); (case hlt => exact hq)))
        go_roundw
        case rel => exact ⟨s, by omega, rfl, by rw [He2.out], bw_set hB hbg, Hset.out⟩
        case measure => simp [intOf]
end Go.Proofs.Ytilchjpjmfaghaa.T3
