/- chapter 01: the scanner's digits. -/
import Derived.Test.YtilchjpjmfaghaaReC
import Derived.Laws.AppendOwnNone
import Derived.Deep.CutRange
import Derived.WalkKit
import Derived.Lib.Hide
import Derived.Deep.QuietTactic
import Derived.BigQuiet
import Derived.Lib.QuietBelow
import Derived.Deep.RegionHeld3
import Derived.WalkLawsBesides
import Derived.WalkSpells
import Derived.Outline
import Derived.Deep.DeepFit
import Derived.Maps.AppendAt
import Derived.Deep.AppendLies
namespace Go.Proofs.Ytilchjpjmfaghaa.T3
set_option linter.unusedSimpArgs false
set_option linter.unusedVariables false
open Go.RowKit Go.Lib
set_option maxHeartbeats 2000000
set_option maxRecDepth 100000
theorem info_u8 : (Try.prog.info? 5).map (fun i => (i.zero, i.size, i.bytes)) = some (some (.int .u8 0), 1, 1) := by kernel_rfl
theorem info_int : (Try.prog.info? 3).map (fun i => (i.zero, i.size, i.bytes)) = some (some (.int .i64 0), 1, 8) := by kernel_rfl
theorem info_split {P : Program} {t : TypeId} {z : Value} {s b : Nat} (h : (P.info? t).map (fun i => (i.zero, i.size, i.bytes)) = some (some z, s, b)) : ∃ i, P.info? t = some i ∧ i.zero = some z ∧ i.size = s ∧ i.bytes = b := by
  cases hi : P.info? t with
  | none => simp [hi] at h
  | some i => simp [hi] at h; exact ⟨i, rfl, h.1, h.2.1, h.2.2⟩
def dig (c : Int) : Prop := 48 ≤ c ∧ c ≤ 57
instance (c : Int) : Decidable (dig c) := by unfold dig; infer_instance
/-- from p on exactly n digits come -/
def isRun (S : ByteArray) (p n : Nat) : Prop := p + n ≤ S.size ∧ (∀ t, t < n → dig (oct S (p + t))) ∧ (p + n < S.size → ¬ dig (oct S (p + n)))
def D10 : ByteArray := ⟨#[48, 49, 50, 51, 52, 53, 54, 55, 56, 57]⟩
theorem d10_mem (c : Int) : (∃ j, j < D10.size ∧ oct D10 j = c) ↔ dig c := by
  constructor
  · rintro ⟨j, hj, rfl⟩
    have hj' : j < 10 := hj
    have : j = 0 ∨ j = 1 ∨ j = 2 ∨ j = 3 ∨ j = 4 ∨ j = 5 ∨ j = 6 ∨ j = 7 ∨ j = 8 ∨ j = 9 := by omega
    rcases this with rfl | rfl | rfl | rfl | rfl | rfl | rfl | rfl | rfl | rfl <;> decide
  · intro h
    have : c = 48 ∨ c = 49 ∨ c = 50 ∨ c = 51 ∨ c = 52 ∨ c = 53 ∨ c = 54 ∨ c = 55 ∨ c = 56 ∨ c = 57 := by unfold dig at h; omega
    rcases this with rfl | rfl | rfl | rfl | rfl | rfl | rfl | rfl | rfl | rfl
    · exact ⟨0, by decide, by decide⟩
    · exact ⟨1, by decide, by decide⟩
    · exact ⟨2, by decide, by decide⟩
    · exact ⟨3, by decide, by decide⟩
    · exact ⟨4, by decide, by decide⟩
    · exact ⟨5, by decide, by decide⟩
    · exact ⟨6, by decide, by decide⟩
    · exact ⟨7, by decide, by decide⟩
    · exact ⟨8, by decide, by decide⟩
    · exact ⟨9, by decide, by decide⟩
theorem d10_iff (S : ByteArray) (p : Nat) : decide (p < S.size ∧ dig (oct S p)) = true ↔ p < S.size ∧ ∃ j, j < D10.size ∧ oct D10 j = oct S p := by
  rw [decide_eq_true_iff, d10_mem]
theorem one_cell (w : World) (t : TypeId) (u : Value) : ∀ x v, [u][x]? = some v → (w.alloc (.cells #[u] t (0, 0))).cell? ((⟨w.heap.size, 0, none⟩ : Addr).add x) = some v := by
  intro x v hv
  match x, hv with
  | 0, hv => simp at hv; subst hv; simp [Addr.add]
def dgs (S : ByteArray) (p n : Nat) : List Value := (List.range n).map fun t => .int .u8 (oct S (p + t) - 48)
theorem dgs_succ (S : ByteArray) (p n : Nat) : dgs S p (n + 1) = dgs S p n ++ [.int .u8 (oct S (p + n) - 48)] := by
  unfold dgs
  rw [List.range_succ, List.map_append]
  rfl
theorem ownsRow_succ {w : World} {base : Nat} {e : TypeId} {size : Nat} {v : Value} {n : Nat} {xs : List Value} (h : w.ownsRow base e size v (n + 1) xs) : ∃ g cap, v = .slice (some ⟨g, 0, none⟩) (n + 1) cap := by
  rcases h.2 with ⟨_, h0⟩ | ⟨g, cap, cur, rfl, _⟩
  · omega
  · exact ⟨g, cap, rfl⟩
def msr : Value → Nat
  | .slice _ n _ => 2000 - n
  | _ => 0
theorem own_msr {w : World} {base : Nat} {e : TypeId} {size : Nat} {v : Value} {n : Nat} {xs : List Value} (h : w.ownsRow base e size v n xs) : msr v = 2000 - n := by
  rcases h.2 with ⟨rfl, rfl⟩ | ⟨g, cap, cur, rfl, _⟩ <;> rfl
theorem own_base {w : World} {base : Nat} {e : TypeId} {size : Nat} {v : Value} {n : Nat} {xs : List Value} (h : w.ownsRow base e size v n xs) : ∀ k, v.ownBlock = some k → base ≤ k := fun k hk => (h.lt k hk).1
theorem digits_any (g : Nat) (S : ByteArray) (p n : Nat) (w : World) (hg : w.heap[g]? = some (SC S p)) (hS : S.size ≤ 1000) (hr : isRun S p n) :
    Calls Try.prog 75 #[.pointer (some ⟨g, 0, none⟩)] w fun e w' => ∃ v, e = .returned v ∧ Only g w w' ∧ w'.heap[g]? = some (SC S (p + n)) ∧ w'.ownsRow w.heap.size 5 1 v n (dgs S p n) := by
  obtain ⟨h1, h2, h3⟩ := hr
  obtain ⟨i0, hi, hz0, hz1, hz2⟩ := info_split info_u8
  have hlg := rw_lt hg
  have H2 := Lib.hid h2
  have H3 := Lib.hid h3
  clear h2 h3
  go_enter Try.func75, Try.ntmps75
  go_wp2_with fail
  go_loopw [3] (fun v wr => ∃ k : Nat, k ≤ n ∧ Only g w wr ∧ wr.heap[g]? = some (SC S (p + k)) ∧ wr.ownsRow w.heap.size 5 1 v k (dgs S p k)) (fun v _ => msr v)
  case atStart => exact ⟨0, Nat.zero_le _, Only.refl _ _, hg, World.ownsRow_nil _ _ _ _⟩
  case round =>
    clear hg
    obtain ⟨k, hk, hO, hg, hown⟩ := hrel
    obtain ⟨q, hq⟩ : ∃ q, p + k = q := ⟨_, rfl⟩
    rw [hq] at hg
    by_cases hlt : k < n
    · have hd := H2.out k hlt
      rw [hq] at hd
      have hqs : q < S.size := by omega
      have hone := fun w hg => one_any g S D10 q true w hg (by omega) hS (by decide) (by rw [d10_mem]; exact ⟨fun _ => ⟨hqs, hd⟩, fun _ => rfl⟩)
      have Hm := Lib.hid (own_msr hown)
      have Hone := Lib.hid hone
      have hat := fun w => str_nat S q w hqs
      obtain ⟨C, hC⟩ : ∃ C, oct S q = C := ⟨_, rfl⟩
      rw [hC] at hat hd
      unfold dig at hd
      obtain ⟨d1, d2⟩ := hd
      have Hq := Lib.hid hq
      have HC := Lib.hid hC
      have hw1 : IntKind.i64.wrap ((q : Int) + 1 - 1) = q := by rw [Int.add_sub_cancel]; exact IntWalk.i64_in _ (by omega)
      have hw2 : IntKind.u8.wrap (C - 48) = C - 48 := by unfold IntKind.wrap; simp [IntKind.bits, IntKind.signed]; omega
      clear hone hq hC
      go_wp2_with fail
      refine (Hone.out _ hg).mono ?_
      rintro e w1 ⟨rfl, hO1, hg1⟩
      simp only [if_true] at hg1
      have hO2 := hO.trans hO1
      have hown1 := hO1.owns (g := g) (by omega) hown
      have hl1 := rw_lt hg1
      have hs1 := hO2.size
      clear hO hO1 hown hg
      go_wp2_with fail
      refine wp_region_ord (.s 0 .p (.s 1 .p (.s 2 .p (.s 3 .p (.s 4 .p (.s 5 .l (.s 6 .p (.s 7 .p (.s 8 .p (.s 9 .p (.s 10 .l (.s 11 .p (.s 12 .p (.s 13 .p (.s 14 .e (.s 15 .e (.s 16 .p .done))))))))))))))))) (fun w' => w'.heap[g]? = some (SC S (q + 1))) (by kernel_rfl) (by kernel_rfl) (fun _ _ _ _ _ h => h) (by first | exact hg1 | exact rw_drew hg1) ?_
      (apply wpOrd_p2 rfl rfl rfl rfl rfl; (intro w' K hK; (first | go_big_move | go_big_op | go_wp2_with fail); exact hK))
      (apply wpOrd_p2 rfl rfl rfl rfl rfl; (intro w' K hK; (first | go_big_move | go_big_op | go_wp2_with fail); exact hK))
      (apply wpOrd_p2 rfl rfl rfl rfl rfl; (intro w' K hK; (first | go_big_move | go_big_op | go_wp2_with fail); exact hK))
      (apply wpOrd_p2 rfl rfl rfl rfl rfl; (intro w' K hK; (first | go_big_move | go_big_op | go_wp2_with fail); exact hK))
      (apply wpOrd_p2 rfl rfl rfl rfl rfl; (intro w' K hK; (first | go_big_move | go_big_op | go_wp2_with fail); exact hK))
      (apply wpOrd_l2 rfl rfl rfl rfl rfl; (intro w' K hS' hK; (obtain ⟨c0_, c1_⟩ := cel2 hS'; (first | go_big_op | go_wp2_with fail); exact hK)); (first | exact hg1 | exact rw_drew hg1))
      (apply wpOrd_p2 rfl rfl rfl rfl rfl; (intro w' K hK; (first | go_big_move | go_big_op | go_wp2_with fail); exact hK))
      (apply wpOrd_p2 rfl rfl rfl rfl rfl; (intro w' K hK; (first | go_big_move | go_big_op | go_wp2_with fail); exact hK))
      (apply wpOrd_p2 rfl rfl rfl rfl rfl; (intro w' K hK; (first | go_big_move | go_big_op | go_wp2_with fail); exact hK))
      (apply wpOrd_p2 rfl rfl rfl rfl rfl; (intro w' K hK; (first | go_big_move | go_big_op | go_wp2_with fail); exact hK))
      (apply wpOrd_l2 rfl rfl rfl rfl rfl; (intro w' K hS' hK; (obtain ⟨c0_, c1_⟩ := cel2 hS'; (first | go_big_op | go_wp2_with fail); exact hK)); (first | exact hg1 | exact rw_drew hg1))
      (apply wpOrd_p2 rfl rfl rfl rfl rfl; (intro w' K hK; (first | go_big_move | go_big_op | go_wp2_with fail); exact hK))
      (apply wpOrd_p2 rfl rfl rfl rfl rfl; (intro w' K hK; (first | go_big_move | go_big_op | go_wp2_with fail); exact hK))
      (apply wpOrd_p2 rfl rfl rfl rfl rfl; (intro w' K hK; (first | go_big_move | go_big_op | go_wp2_with fail); exact hK))
      (refine wpOrd_e1 rfl rfl (fun K hK => ?_)); (first | go_big_op | go_wp2_with fail)
      refine hK _ _ (rw_alloc (rw_drew hg1)) ?_; clear hK K
      (refine wpOrd_e1 rfl rfl (fun K hK => ?_))
      refine wp_append_own _ _ _ 35 rfl w.heap.size 5 i0 (.int .u8 0) 1 1 Try.underlying35 hi hz0 hz1 hz2 rfl (by decide) _ k (dgs S p k) rfl (hown1.alloc _) ⟨w1.heap.size, 0, none⟩ 1 1 [.int .u8 (C - 48)] rfl rfl (one_cell w1.drew _ _) (by intro u hu; simp at hu; rcases hu with rfl; rfl) (by unfold maxLen; omega) (by omega) (by simp; omega) ?_; intro v' w3 hown' hgrow _; have hg3 := rw_grown hgrow (fun e => by have := own_base hown1 _ e.symm; omega) (rw_alloc (o' := .cells #[.int .u8 (C - 48)] 5 (0, 0)) (rw_drew hg1)); have hO3 := (hO2.drew.alloc (.cells #[.int .u8 (C - 48)] 5 (0, 0))).grown hgrow (own_base hown1); refine hK _ _ hg3 ?_; clear hK K
      (apply wpOrd_p2 rfl rfl rfl rfl rfl; (intro w' K hK; (first | go_big_move | go_big_op | go_wp2_with fail); exact hK))
      refine wpOrd_nil ?_
      skip
      clear hgrow hown1 hg1 hO2
      obtain ⟨g', cap', rfl⟩ := ownsRow_succ hown'
      go_wp2_with fail
      go_roundw
      case rel => exact ⟨k + 1, by omega, hO3, by rw [show p + (k + 1) = q + 1 by have := Hq.out; omega]; exact hg3, by rw [dgs_succ, Hq.out, HC.out]; exact hown'⟩
      case measure => rw [Hm.out]; simp only [msr]; omega
    · have hkn : k = n := by omega
      subst hkn
      have hone := fun w hg => one_any g S D10 q false w hg (by omega) hS (by decide) (by rw [d10_mem]; exact ⟨fun h => absurd h (by simp), fun h => absurd h.2 (by rw [← hq]; exact H3.out (by omega))⟩)
      have Hone := Lib.hid hone
      have Hq := Lib.hid hq
      clear hone hq
      go_wp2_with fail
      refine (Hone.out _ hg).mono ?_
      rintro e w1 ⟨rfl, hO1, hg1⟩
      have hg2 : w1.heap[g]? = some (SC S (p + k)) := by rw [Hq.out]; exact hg1
      have hO2 := hO.trans hO1
      have hown1 := hO1.owns (g := g) (by omega) hown
      go_wp2_with fail
      go_ret
      exact ⟨_, rfl, hO2, hg2, hown1⟩
end Go.Proofs.Ytilchjpjmfaghaa.T3
