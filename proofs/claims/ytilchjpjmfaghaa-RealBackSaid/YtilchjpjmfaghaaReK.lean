/- chapter 01: the reference's Read. -/
import Derived.Test.YtilchjpjmfaghaaReJ
import Derived.WalkKit
import Derived.Lib.Hide
import Derived.Deep.QuietTactic
import Derived.BigQuiet
import Derived.Lib.QuietBelow
import Derived.Deep.RegionHeld3
import Derived.WalkLawsBesides
import Derived.WalkSpells
import Derived.Outline
import Derived.Deep.DeepFit
import Derived.Maps.AppendAt
import Derived.Deep.AppendLies
import Derived.Deep.CutRange
import Derived.Deep.CutBlock
import Derived.OpenShut
namespace Go.Proofs.Ytilchjpjmfaghaa.T3
set_option linter.unusedSimpArgs false
set_option linter.unusedVariables false
open Go.RowKit Go.Lib
set_option maxHeartbeats 4000000
set_option maxRecDepth 100000
def i64s (L : List Int) : List Value := L.map (Value.int .i64)
theorem rdigit_any (c : Int) (w : World) (h0 : 0 ≤ c) (h1 : c ≤ 255) :
    Calls Try.prog 76 #[.int .u8 c] w fun e w' => e = .returned (.bool (decide (dig c))) ∧ w = w' := by
  by_cases g : 48 ≤ c
  · by_cases g2 : c ≤ 57
    · rw [decide_eq_true (show dig c from ⟨g, g2⟩)]
      go_enter Try.func76, Try.ntmps76
      go_wp2_with fail
      go_ret
      exact ⟨rfl, rfl⟩
    · rw [decide_eq_false (show ¬ dig c from fun h => g2 h.2)]
      go_enter Try.func76, Try.ntmps76
      go_wp2_with fail
      go_ret
      exact ⟨rfl, rfl⟩
  · rw [decide_eq_false (show ¬ dig c from fun h => g h.1)]
    go_enter Try.func76, Try.ntmps76
    go_wp2_with fail
    go_ret
    exact ⟨rfl, rfl⟩
theorem i64s_snoc (S : ByteArray) (p k : Nat) : i64s (dgI S p (k + 1)) = i64s (dgI S p k) ++ [.int .i64 (oct S (p + k) - 48)] := by
  simp [i64s, dgI, List.range_succ]
theorem read_any (S : ByteArray) (w : World) (hS : S.size ≤ 1000) :
    Calls Try.prog 59 #[.string S] w fun e w' => ∃ (sg : Int) (v : Value) (ex : Int), e = .returned (.tuple #[.int .i64 sg, v, .int .i64 ex, .bool (dOk S)]) ∧ Below w.heap.size w w' ∧ (dOk S = true → sg = (if sgN S 0 = true then -1 else 1) ∧ ex = dEx S - dN2 S ∧ w'.ownsRow w.heap.size 3 1 v (dN S) (i64s (dI S))) := by
  obtain ⟨i0, hi, hz0, hz1, hz2⟩ := info_split info_int
  have hsb : sgB S 0 = decide (0 < S.size ∧ (oct S 0 = 43 ∨ oct S 0 = 45)) := rfl
  have hsn : sgN S 0 = decide (0 < S.size ∧ oct S 0 = 45) := rfl
  have hP1 : dP1 S = if sgB S 0 = true then 1 else 0 := rfl
  have hat : 0 < S.size → ∀ w, Sem.run Try.prog (Instr.index 9 (.string S) (.int .i64 0)) w = .ok (.int .u8 (oct S 0)) w := fun h w => str_nat S 0 w h
  have hC := oct_bd S 0
  have r1 : isRun S (dP1 S) (dN1 S) := run_spec S (sgP_le S (Nat.zero_le _))
  have hP2 : dP2 S = dP1 S + dN1 S := rfl
  have hN2 : dN2 S = if dotB S (dP2 S) = true then run S (dP2 S + 1) else 0 := rfl
  have hP4 : dP4 S = if dotB S (dP2 S) = true then dP2 S + 1 + dN2 S else dP2 S := rfl
  have r2 : dotB S (dP2 S) = true → isRun S (dP2 S + 1) (dN2 S) := fun h => by
    rw [hN2, if_pos h]
    exact run_spec S (by unfold dotB at h; have := of_decide_eq_true h; omega)
  have hdot : dotB S (dP2 S) = decide (dP2 S < S.size ∧ oct S (dP2 S) = 46) := rfl
  have hP4S := dP4_le S
  have hNS := dN_le S
  have hdN : dN S = dN1 S + dN2 S := rfl
  have hOk : dOk S = (decide (dN S ≠ 0) && (if expB S (dP4 S) = true then decide (1 ≤ run S (sgP S (dP4 S + 1)) ∧ run S (sgP S (dP4 S + 1)) ≤ 3 ∧ sgP S (dP4 S + 1) + run S (sgP S (dP4 S + 1)) = S.size) else decide (dP4 S = S.size))) := rfl
  have hEx : dEx S = if expB S (dP4 S) = true then (if sgN S (dP4 S + 1) = true then -(vl S (sgP S (dP4 S + 1)) (run S (sgP S (dP4 S + 1)))) else vl S (sgP S (dP4 S + 1)) (run S (sgP S (dP4 S + 1)))) else 0 := rfl
  have hdI : dI S = dgI S (dP1 S) (dN1 S) ++ dgI S (dP2 S + 1) (dN2 S) := rfl
  obtain ⟨neg, hneg⟩ : ∃ q, sgN S 0 = q := ⟨_, rfl⟩
  obtain ⟨b0, hb0⟩ : ∃ q, sgB S 0 = q := ⟨_, rfl⟩
  obtain ⟨P1, hP1e⟩ : ∃ q, dP1 S = q := ⟨_, rfl⟩
  obtain ⟨n1, hn1e⟩ : ∃ q, dN1 S = q := ⟨_, rfl⟩
  obtain ⟨P2, hP2e⟩ : ∃ q, dP2 S = q := ⟨_, rfl⟩
  obtain ⟨n2, hn2e⟩ : ∃ q, dN2 S = q := ⟨_, rfl⟩
  obtain ⟨P4, hP4e⟩ : ∃ q, dP4 S = q := ⟨_, rfl⟩
  obtain ⟨N, hNe⟩ : ∃ q, dN S = q := ⟨_, rfl⟩
  obtain ⟨dt, hdte⟩ : ∃ q, dotB S P2 = q := ⟨_, rfl⟩
  obtain ⟨C, hCe⟩ : ∃ q, oct S 0 = q := ⟨_, rfl⟩
  simp only [hneg, hb0, hP1e, hn1e, hP2e, hn2e, hP4e, hNe, hCe, hdte] at hsb hsn hP1 hat hC r1 hP2 hN2 hP4 r2 hdot hP4S hNS hdN hOk hEx hdI
  rw [hneg, hn2e, hNe]
  obtain ⟨hC1, hC2⟩ := hC
  have hP2S : P2 ≤ S.size := by rw [hP2]; exact r1.1
  have Hsb := Lib.hid hsb
  have Hsn := Lib.hid hsn
  have HP1 := Lib.hid hP1
  have Hat := Lib.hid hat
  have Hr1 := Lib.hid r1
  have HP2 := Lib.hid hP2
  have HN2 := Lib.hid hN2
  have HP4 := Lib.hid hP4
  have Hr2 := Lib.hid r2
  have Hdot := Lib.hid hdot
  have HdN := Lib.hid hdN
  have HOk := Lib.hid hOk
  have HEx := Lib.hid hEx
  have HdI := Lib.hid hdI
  clear hsb hsn hP1 hat r1 hP2 hN2 hP4 r2 hdot hdN hOk hEx hdI hneg hb0 hP1e hn1e hP2e hn2e hP4e hNe hdte hCe
  obtain ⟨SG, hSG⟩ : ∃ q : Int, (if neg = true then -1 else 1) = q := ⟨_, rfl⟩
  rw [hSG]
  have HSG := Lib.hid hSG
  clear hSG
  go_enter Try.func59, Try.ntmps59
  go_upto_region 2 with fail
  go_cut [28] from 13 to 28 (fun v28 wx => v28 = .bool b0 ∧ wx = w)
  case first =>
    by_cases hs0 : 0 < S.size
    · have hat := Hat.out hs0
      by_cases h43 : C = 43
      · have e0 : b0 = true := by rw [Hsb.out]; exact decide_eq_true ⟨hs0, .inl h43⟩
        subst e0
        subst h43
        go_wp2_with fail
        go_meet
        case rel => exact ⟨rfl, rfl⟩
      · by_cases h45 : C = 45
        · have e0 : b0 = true := by rw [Hsb.out]; exact decide_eq_true ⟨hs0, .inr h45⟩
          subst e0
          subst h45
          go_wp2_with fail
          go_meet
          case rel => exact ⟨rfl, rfl⟩
        · have e0 : b0 = false := by rw [Hsb.out]; exact decide_eq_false fun h => by rcases h.2 with h | h <;> contradiction
          subst e0
          have q1 : (C == 43) = false := beq_eq_false_iff_ne.2 h43
          have q2 : (C == 45) = false := beq_eq_false_iff_ne.2 h45
          go_wp2_with fail
          go_meet
          case rel => exact ⟨rfl, rfl⟩
    · have e0 : b0 = false := by rw [Hsb.out]; exact decide_eq_false fun h => hs0 h.1
      subst e0
      have hs1 : S.size = 0 := by omega
      go_wp2_with fail
      go_meet
      case rel => exact ⟨rfl, rfl⟩
  case rest =>
    obtain ⟨rfl, hw⟩ := hcut
    have hw := hw.symm
    subst hw
    go_upto_if 28 with fail
    go_cut [6, 7] from 29 to 34 (fun v6 v7 wx => v6 = .int .i64 (P1 : Int) ∧ v7 = .int .i64 SG ∧ wx = w)
    case first =>
      cases b0
      · have e1 : P1 = 0 := HP1.out
        have e2 : neg = false := by
          rw [Hsn.out]
          exact decide_eq_false fun h => (of_decide_eq_false Hsb.out.symm) ⟨h.1, .inr h.2⟩
        subst e1
        subst e2
        have e3 : SG = 1 := HSG.out.symm
        subst e3
        go_wp2_with fail
        go_meet
        case rel => exact ⟨rfl, rfl, rfl⟩
      · have e1 : P1 = 1 := HP1.out
        subst e1
        obtain ⟨hs0, hs1⟩ := of_decide_eq_true Hsb.out.symm
        have hat := Hat.out hs0
        by_cases h45 : C = 45
        · have e2 : neg = true := by rw [Hsn.out]; exact decide_eq_true ⟨hs0, h45⟩
          subst e2
          have e3 : SG = -1 := HSG.out.symm
          subst e3
          subst h45
          clear hs1
          go_wp2_with fail
          go_meet
          case rel => exact ⟨rfl, rfl, rfl⟩
        · have e2 : neg = false := by rw [Hsn.out]; exact decide_eq_false fun h => h45 h.2
          subst e2
          have e3 : SG = 1 := HSG.out.symm
          subst e3
          have q2 : (C == 45) = false := beq_eq_false_iff_ne.2 h45
          clear hs1
          go_wp2_with fail
          go_meet
          case rel => exact ⟨rfl, rfl, rfl⟩
    case rest =>
      obtain ⟨rfl, rfl, hw⟩ := hcut
      have hw := hw.symm
      subst hw
      clear Hsb Hsn HP1 Hat HSG
      go_upto_block 0 with fail
      have hB := RowKit.Below.refl w.heap.size w
      have hout : w.ownsRow w.heap.size 3 1 (.slice none 0 0) 0 (i64s (dgI S P1 0)) := World.ownsRow_nil _ _ _ _
      go_cut [6, 8, 9, 10] from 35 to 71 (fun v6 v8 v9 v10 wx => v6 = .int .i64 (P4 : Int) ∧ v9 = .int .i64 (-(n2 : Int)) ∧ (∃ pt : Bool, v10 = .bool pt) ∧ RowKit.Below w.heap.size w wx ∧ wx.ownsRow w.heap.size 3 1 v8 N (i64s (dI S)))
      case first =>
        go_wp2_with fail
        go_loopw [6, 8, 9, 10] (fun v6 v8 v9 v10 wr => RowKit.Below w.heap.size w wr ∧ ((∃ k : Nat, k ≤ n1 ∧ v6 = .int .i64 ((P1 + k : Nat) : Int) ∧ v9 = .int .i64 0 ∧ v10 = .bool false ∧ wr.ownsRow w.heap.size 3 1 v8 k (i64s (dgI S P1 k))) ∨ (dt = true ∧ ∃ k : Nat, k ≤ n2 ∧ v6 = .int .i64 ((P2 + 1 + k : Nat) : Int) ∧ v9 = .int .i64 (-(k : Int)) ∧ v10 = .bool true ∧ wr.ownsRow w.heap.size 3 1 v8 (n1 + k) (i64s (dgI S P1 n1 ++ dgI S (P2 + 1) k))))) (fun v6 _ _ _ _ => S.size - (intOf v6).toNat)
        case atStart => exact ⟨hB, .inl ⟨0, Nat.zero_le _, by simp, rfl, rfl, hout⟩⟩
        case round =>
          clear hB hout
          obtain ⟨hB, ⟨k, hk, rfl, rfl, rfl, hout⟩ | ⟨hdt, k, hk, rfl, rfl, rfl, hout⟩⟩ := hrel
          · have hsz := hB.size
            obtain ⟨q, hq⟩ : ∃ q, P1 + k = q := ⟨_, rfl⟩
            rw [hq]
            by_cases hlt : k < n1
            · have hd := Hr1.out.2.1 k hlt
              have hqS : q < S.size := by have := Hr1.out.1; omega
              rw [hq] at hd
              have hdd := Lib.hid (decide_eq_true hd)
              have hsn := i64s_snoc S P1 k
              rw [hq] at hsn
              have hat := fun w => str_nat S q w hqS
              obtain ⟨D, hD⟩ : ∃ D, oct S q = D := ⟨_, rfl⟩
              rw [hD] at hd hat hsn hdd
              unfold dig at hd
              obtain ⟨hd1, hd2⟩ := hd
              have Hsn := Lib.hid hsn
              have Hq := Lib.hid hq
              have hne : (D == 46) = false := beq_eq_false_iff_ne.2 (by omega)
              have hk1 : k ≤ 1000 := by have := Hr1.out.1; omega
              clear hsn hq hD
              go_wp2_with fail
              refine (rdigit_any _ _ (by omega) (by omega)).mono ?_
              rintro e w' ⟨rfl, rfl⟩
              rw [hdd.out]
              go_wp2_with (at_builtin; refine wpList_append_own _ rfl _ _ 47 rfl w.heap.size 3 i0 (.int .i64 0) 1 8 Try.underlying47 hi hz0 hz1 hz2 rfl (by decide) _ k (i64s (dgI S P1 k)) rfl (hout.alloc _) ⟨wr.heap.size, 0, none⟩ 1 1 [.int .i64 (D - 48)] rfl rfl (one_cell wr _ _) ?c2 ?c3 ?c4 ?c5 ?_)
              case c2 => intro u hu; simp at hu; rcases hu with rfl; rfl
              case c3 => unfold maxLen; omega
              case c4 => omega
              case c5 => simp; omega
              intro v' w3 hout' hgrow _
              have hB3 : RowKit.Below w.heap.size w w3 := (hB.alloc hsz _).grown hgrow (by simp; omega) (own_base hout)
              clear hgrow hout
              obtain ⟨g', cap', rfl⟩ := ownsRow_succ hout'
              go_wp2_with fail
              go_roundw
              case rel => exact ⟨hB3, .inl ⟨k + 1, by omega, congrArg (Value.int .i64) (by have := Hq.out; omega), rfl, rfl, by rw [Hsn.out]; exact hout'⟩⟩
              case measure => simp [intOf]; omega
            · have hk1 : k = n1 := by omega
              subst hk1
              have hqP : q = P2 := by rw [← hq]; exact HP2.out.symm
              subst hqP
              clear hq
              cases dt
              · -- no point
                have e2 : n2 = 0 := HN2.out
                have e4 : P4 = q := HP4.out
                subst e2
                subst e4
                have hown : wr.ownsRow w.heap.size 3 1 u8 N (i64s (dI S)) := by rw [HdI.out, HdN.out]; simpa [dgI] using hout
                by_cases hqS : P4 < S.size
                · have hat := fun w => str_nat S P4 w hqS
                  have hnd := Hr1.out.2.2
                  rw [← HP2.out] at hnd
                  have hnd := hnd hqS
                  have hn46 : oct S P4 ≠ 46 := fun h => (of_decide_eq_false Hdot.out.symm) ⟨hqS, h⟩
                  have hdd := Lib.hid (decide_eq_false hnd)
                  have hob := oct_bd S P4
                  obtain ⟨D, hD⟩ : ∃ D, oct S P4 = D := ⟨_, rfl⟩
                  rw [hD] at hat hn46 hdd hob
                  obtain ⟨ho1, ho2⟩ := hob
                  have hne : (D == 46) = false := beq_eq_false_iff_ne.2 hn46
                  clear hnd hD hn46
                  go_wp2_with fail
                  refine (rdigit_any _ _ (by omega) (by omega)).mono ?_
                  rintro e w' ⟨rfl, rfl⟩
                  rw [hdd.out]
                  go_wp2_with fail
                  go_meet
                  case rel => exact ⟨rfl, rfl, ⟨_, rfl⟩, hB, hown⟩
                · go_wp2_with fail
                  go_meet
                  case rel => exact ⟨rfl, rfl, ⟨_, rfl⟩, hB, hown⟩
              · obtain ⟨hqS, h46⟩ := of_decide_eq_true Hdot.out.symm
                have hat := fun w => str_nat S q w hqS
                rw [h46] at hat
                clear h46
                have hdd := Lib.hid (show decide (dig 46) = false from rfl)
                go_wp2_with fail
                refine (rdigit_any _ _ (by omega) (by omega)).mono ?_
                rintro e w' ⟨rfl, rfl⟩
                rw [hdd.out]
                go_wp2_with fail
                go_roundw
                case rel => exact ⟨hB, .inr ⟨by simp, 0, Nat.zero_le _, congrArg (Value.int .i64) (by omega), by simp, rfl, by simpa [dgI] using hout⟩⟩
                case measure => simp [intOf]; omega
          · subst hdt
            have hsz := hB.size
            have hr2 := Hr2.out rfl
            have e4 : P4 = P2 + 1 + n2 := HP4.out
            obtain ⟨q, hq⟩ : ∃ q, P2 + 1 + k = q := ⟨_, rfl⟩
            rw [hq]
            by_cases hlt : k < n2
            · have hd := hr2.2.1 k hlt
              have hqS : q < S.size := by have := hr2.1; omega
              rw [hq] at hd
              have hdd := Lib.hid (decide_eq_true hd)
              have hsn : i64s (dgI S P1 n1 ++ dgI S (P2 + 1) (k + 1)) = i64s (dgI S P1 n1 ++ dgI S (P2 + 1) k) ++ [.int .i64 (oct S q - 48)] := by
                have h9 := i64s_snoc S (P2 + 1) k
                rw [hq] at h9
                have h8 : ∀ A B, i64s (A ++ B) = i64s A ++ i64s B := fun A B => by simp [i64s]
                rw [h8, h8, h9, List.append_assoc]
              have hat := fun w => str_nat S q w hqS
              obtain ⟨D, hD⟩ : ∃ D, oct S q = D := ⟨_, rfl⟩
              rw [hD] at hd hat hsn hdd
              unfold dig at hd
              obtain ⟨hd1, hd2⟩ := hd
              have Hsn := Lib.hid hsn
              have Hq := Lib.hid hq
              have hne : (D == 46) = false := beq_eq_false_iff_ne.2 (by omega)
              have hk1 : n1 + k ≤ 1000 := by have h1 := Hr1.out.1; have h2 := HP2.out; have h3 := hr2.1; omega
              clear hsn hq hD hr2 e4
              go_wp2_with fail
              refine (rdigit_any _ _ (by omega) (by omega)).mono ?_
              rintro e w' ⟨rfl, rfl⟩
              rw [hdd.out]
              go_wp2_with (at_builtin; refine wpList_append_own _ rfl _ _ 47 rfl w.heap.size 3 i0 (.int .i64 0) 1 8 Try.underlying47 hi hz0 hz1 hz2 rfl (by decide) _ (n1 + k) (i64s (dgI S P1 n1 ++ dgI S (P2 + 1) k)) rfl (hout.alloc _) ⟨wr.heap.size, 0, none⟩ 1 1 [.int .i64 (D - 48)] rfl rfl (one_cell wr _ _) ?c2 ?c3 ?c4 ?c5 ?_)
              case c2 => intro u hu; simp at hu; rcases hu with rfl; rfl
              case c3 => unfold maxLen; omega
              case c4 => omega
              case c5 => simp; omega
              intro v' w3 hout' hgrow _
              have hB3 : RowKit.Below w.heap.size w w3 := (hB.alloc hsz _).grown hgrow (by simp; omega) (own_base hout)
              clear hgrow hout
              obtain ⟨g', cap', rfl⟩ := ownsRow_succ hout'
              go_wp2_with fail
              go_roundw
              case rel => exact ⟨hB3, .inr ⟨by simp, k + 1, by omega, congrArg (Value.int .i64) (by have := Hq.out; omega), congrArg (Value.int .i64) (by omega), rfl, by rw [Hsn.out]; exact hout'⟩⟩
              case measure => simp [intOf]; omega
            · have hk1 : k = n2 := by omega
              subst hk1
              have e5 : q = P4 := by rw [← hq, e4]
              subst e5
              have hown : wr.ownsRow w.heap.size 3 1 u8 N (i64s (dI S)) := by rw [HdI.out, HdN.out]; exact hout
              have hnd := hr2.2.2
              rw [← e4] at hnd
              clear e4 hq hr2
              by_cases hqS : q < S.size
              · have hat := fun w => str_nat S q w hqS
                have hnd := hnd hqS
                have hdd := Lib.hid (decide_eq_false hnd)
                have hob := oct_bd S q
                obtain ⟨D, hD⟩ : ∃ D, oct S q = D := ⟨_, rfl⟩
                rw [hD] at hat hdd hob
                obtain ⟨ho1, ho2⟩ := hob
                clear hnd hD
                by_cases h46 : D = 46
                · subst h46
                  go_wp2_with fail
                  refine (rdigit_any _ _ (by omega) (by omega)).mono ?_
                  rintro e w' ⟨rfl, rfl⟩
                  rw [hdd.out]
                  go_wp2_with fail
                  go_meet
                  case rel => exact ⟨rfl, rfl, ⟨_, rfl⟩, hB, hown⟩
                · have hne : (D == 46) = false := beq_eq_false_iff_ne.2 h46
                  go_wp2_with fail
                  refine (rdigit_any _ _ (by omega) (by omega)).mono ?_
                  rintro e w' ⟨rfl, rfl⟩
                  rw [hdd.out]
                  go_wp2_with fail
                  go_meet
                  case rel => exact ⟨rfl, rfl, ⟨_, rfl⟩, hB, hown⟩
              · go_wp2_with fail
                go_meet
                case rel => exact ⟨rfl, rfl, ⟨_, rfl⟩, hB, hown⟩
      case rest =>
        obtain ⟨rfl, rfl, ⟨pt, rfl⟩, hB', hown⟩ := hcut
        clear hB hout HdI HN2 HP4 Hr2 Hdot
        have hB := hB'
        clear hB'
        obtain ⟨x1, k1, rfl⟩ := own_form hown
        have hn2S : n2 ≤ 1000 := by have := HdN.out; omega
        by_cases hN0 : N = 0
        · have Hbad := Lib.hid (show dOk S = false by rw [HOk.out, hN0]; rfl)
          subst hN0
          go_wp2_with fail
          exact bodyPost_ret (v := .tuple #[.int .i64 0, .slice none 0 0, .int .i64 0, .bool false]) (by simp [results, Try.results59, go_sem]) rfl ⟨0, _, 0, by rw [Hbad.out], hB, fun h => absurd h (by rw [Hbad.out]; simp)⟩
        have hN0' : decide (N ≠ 0) = true := decide_eq_true hN0
        by_cases hend : P4 = S.size
        · have hex : expB S P4 = false := decide_eq_false fun h => by omega
          have Hok := Lib.hid (show dOk S = true by rw [HOk.out, hN0', hex, if_neg (by simp), Bool.true_and]; exact decide_eq_true hend)
          have Hx := Lib.hid (show dEx S = 0 by rw [HEx.out, hex, if_neg (by simp)])
          subst hend
          clear hex hN0'
          go_wp2_with fail
          exact bodyPost_ret (v := .tuple #[.int .i64 SG, .slice x1 N k1, .int .i64 (-(n2 : Int)), .bool true]) (by simp [results, Try.results59, go_sem]) rfl ⟨SG, _, _, by rw [Hok.out], hB, fun _ => ⟨rfl, by rw [Hx.out]; omega, hown⟩⟩
        have hP4l : P4 < S.size := by omega
        have hNb : ((N : Int) == 0) = false := beq_eq_false_iff_ne.2 (by omega)
        have hEb : ((P4 : Int) == (S.size : Int)) = false := beq_eq_false_iff_ne.2 (by omega)
        have hat := fun w => str_nat S P4 w hP4l
        have hob := oct_bd S P4
        have hexd : expB S P4 = decide (P4 < S.size ∧ (oct S P4 = 101 ∨ oct S P4 = 69)) := rfl
        obtain ⟨D, hD⟩ : ∃ D, oct S P4 = D := ⟨_, rfl⟩
        rw [hD] at hat hob hexd
        obtain ⟨ho1, ho2⟩ := hob
        by_cases hE : D = 101 ∨ D = 69
        · have hex : expB S P4 = true := by rw [hexd]; exact decide_eq_true ⟨hP4l, hE⟩
          have hOk2 := HOk.out
          have hEx2 := HEx.out
          rw [hex, if_pos rfl, hN0', Bool.true_and] at hOk2
          rw [hex, if_pos rfl] at hEx2
          obtain ⟨q5, hq5⟩ : ∃ q, P4 + 1 = q := ⟨_, rfl⟩
          rw [hq5] at hOk2 hEx2
          have hsb : sgB S q5 = decide (q5 < S.size ∧ (oct S q5 = 43 ∨ oct S q5 = 45)) := rfl
          have hdn : sgN S q5 = decide (q5 < S.size ∧ oct S q5 = 45) := rfl
          have hP6 : sgP S q5 = if sgB S q5 = true then q5 + 1 else q5 := rfl
          have hP6S : sgP S q5 ≤ S.size := sgP_le S (by omega)
          have r3 : isRun S (sgP S q5) (run S (sgP S q5)) := run_spec S hP6S
          have hat5 : q5 < S.size → ∀ w, Sem.run Try.prog (Instr.index 9 (.string S) (.int .i64 (q5 : Int))) w = .ok (.int .u8 (oct S q5)) w := fun h w => str_nat S q5 w h
          have hob5 := oct_bd S q5
          obtain ⟨down, hdne⟩ : ∃ q, sgN S q5 = q := ⟨_, rfl⟩
          obtain ⟨b4, hb4⟩ : ∃ q, sgB S q5 = q := ⟨_, rfl⟩
          obtain ⟨P6, hP6e⟩ : ∃ q, sgP S q5 = q := ⟨_, rfl⟩
          obtain ⟨n3, hn3⟩ : ∃ q, run S P6 = q := ⟨_, rfl⟩
          obtain ⟨C5, hC5⟩ : ∃ q, oct S q5 = q := ⟨_, rfl⟩
          rw [hP6e, hn3] at hOk2 r3
          rw [hP6e, hn3, hdne] at hEx2
          rw [hP6e] at hP6 hP6S
          rw [hb4] at hP6 hsb
          rw [hdne] at hdn
          rw [hC5] at hsb hdn hat5 hob5
          obtain ⟨ho3, ho4⟩ := hob5
          have hq5c : (P4 : Int) + 1 = (q5 : Int) := by omega
          have Hsb := Lib.hid hsb
          have Hdn := Lib.hid hdn
          have HP6 := Lib.hid hP6
          have Hr3 := Lib.hid r3
          have Hat5 := Lib.hid hat5
          have HOk := Lib.hid hOk2
          have HEx := Lib.hid hEx2
          have Hq5 := Lib.hid hq5
          clear hex hexd hsb hdn hP6 r3 hat5 hOk2 hEx2 hP6e hn3 hdne hb4 hC5 hq5 hD hN0'
          rcases hE with rfl | rfl
          · go_upto_region 23 with fail
            (try rw [hq5c])
            clear hq5c
            go_cut [109] from 94 to 109 (fun v109 wx => v109 = .bool b4 ∧ wx = wc)
            case first =>
              by_cases hs0 : q5 < S.size
              · have hat5 := Hat5.out hs0
                by_cases h43 : C5 = 43
                · have e0 : b4 = true := by rw [Hsb.out]; exact decide_eq_true ⟨hs0, .inl h43⟩
                  subst e0
                  subst h43
                  go_wp2_with fail
                  go_meet
                  case rel => exact ⟨rfl, rfl⟩
                · by_cases h45 : C5 = 45
                  · have e0 : b4 = true := by rw [Hsb.out]; exact decide_eq_true ⟨hs0, .inr h45⟩
                    subst e0
                    subst h45
                    go_wp2_with fail
                    go_meet
                    case rel => exact ⟨rfl, rfl⟩
                  · have e0 : b4 = false := by rw [Hsb.out]; exact decide_eq_false fun h => by rcases h.2 with h | h <;> contradiction
                    subst e0
                    have q1 : (C5 == 43) = false := beq_eq_false_iff_ne.2 h43
                    have q2 : (C5 == 45) = false := beq_eq_false_iff_ne.2 h45
                    go_wp2_with fail
                    go_meet
                    case rel => exact ⟨rfl, rfl⟩
              · have e0 : b4 = false := by rw [Hsb.out]; exact decide_eq_false fun h => hs0 h.1
                subst e0
                go_wp2_with fail
                go_meet
                case rel => exact ⟨rfl, rfl⟩
            case rest =>
              obtain ⟨rfl, hw⟩ := hcut
              have hw := hw.symm
              subst hw
              go_upto_if 109 with fail
              go_cut [6, 11] from 110 to 115 (fun v6 v11 wx => v6 = .int .i64 (P6 : Int) ∧ v11 = .bool down ∧ wx = wc)
              case first =>
                cases b4
                · have e1 : P6 = q5 := HP6.out
                  have e2 : down = false := by rw [Hdn.out]; exact decide_eq_false fun h => (of_decide_eq_false Hsb.out.symm) ⟨h.1, .inr h.2⟩
                  subst e1
                  subst e2
                  go_wp2_with fail
                  go_meet
                  case rel => exact ⟨rfl, rfl, rfl⟩
                · have e1 : P6 = q5 + 1 := HP6.out
                  subst e1
                  obtain ⟨hs0, hs1⟩ := of_decide_eq_true Hsb.out.symm
                  have hat5 := Hat5.out hs0
                  by_cases h45 : C5 = 45
                  · have e2 : down = true := by rw [Hdn.out]; exact decide_eq_true ⟨hs0, h45⟩
                    subst e2
                    subst h45
                    clear hs1
                    go_wp2_with fail
                    go_meet
                    case rel => exact ⟨congrArg (Value.int .i64) (by omega), rfl, rfl⟩
                  · have e2 : down = false := by rw [Hdn.out]; exact decide_eq_false fun h => h45 h.2
                    subst e2
                    have q2 : (C5 == 45) = false := beq_eq_false_iff_ne.2 h45
                    clear hs1
                    go_wp2_with fail
                    go_meet
                    case rel => exact ⟨congrArg (Value.int .i64) (by omega), rfl, rfl⟩
              case rest =>
                obtain ⟨rfl, rfl, hw⟩ := hcut
                have hw := hw.symm
                subst hw
                clear Hsb Hdn HP6 Hat5 hat
                have hr31 := Hr3.out.1
                by_cases hn0 : S.size = P6
                · have Hbad := Lib.hid (show dOk S = false by rw [HOk.out]; exact decide_eq_false (by omega))
                  go_wp2_with fail
                  exact bodyPost_ret (v := .tuple #[.int .i64 0, .slice none 0 0, .int .i64 0, .bool false]) (by simp [results, Try.results59, go_sem]) rfl ⟨0, _, 0, by rw [Hbad.out], hB, fun h => absurd h (by rw [Hbad.out]; simp)⟩
                have hn1 : ¬ ((S.size : Int) - P6 < 1) := by omega
                by_cases hn4 : P6 + 3 < S.size
                · have Hbad := Lib.hid (show dOk S = false by rw [HOk.out]; exact decide_eq_false (by omega))
                  go_wp2_with fail
                  exact bodyPost_ret (v := .tuple #[.int .i64 0, .slice none 0 0, .int .i64 0, .bool false]) (by simp [results, Try.results59, go_sem]) rfl ⟨0, _, 0, by rw [Hbad.out], hB, fun h => absurd h (by rw [Hbad.out]; simp)⟩
                have hdb := Hr3.out.2.1
                have hde := Hr3.out.2.2
                have hvb := vl_bd S P6 n3 hdb
                have hvb3 : ∀ k, k ≤ n3 → 0 ≤ vl S P6 k ∧ vl S P6 k < 1000 := fun k hk => by
                  have h1 := hvb k hk
                  have hk4 : k = 0 ∨ k = 1 ∨ k = 2 ∨ k = 3 := by omega
                  have h2 : (10 : Int) ^ k ≤ 1000 := by rcases hk4 with rfl | rfl | rfl | rfl <;> decide
                  omega
                have Hvb := Lib.hid hvb3
                have Hdb := Lib.hid hdb
                have Hde := Lib.hid hde
                clear hvb hvb3 hdb hde
                go_wp2_with fail
                go_loop [6, 12] (fun v6 v12 => ∃ k : Nat, k ≤ n3 ∧ v6 = .int .i64 ((P6 + k : Nat) : Int) ∧ v12 = .int .i64 (vl S P6 k)) (fun v _ => S.size - (intOf v).toNat)
                case atStart => exact ⟨0, Nat.zero_le _, by simp, rfl⟩
                case round =>
                  obtain ⟨k, hk, rfl, rfl⟩ := hrel
                  obtain ⟨q, hq⟩ : ∃ q, P6 + k = q := ⟨_, rfl⟩
                  obtain ⟨V, hV⟩ : ∃ V, vl S P6 k = V := ⟨_, rfl⟩
                  have hvk := Hvb.out k hk
                  rw [hV] at hvk ⊢
                  rw [hq]
                  obtain ⟨hv1, hv2⟩ := hvk
                  by_cases hqS : q < S.size
                  · have hatq := fun w => str_nat S q w hqS
                    have hobq := oct_bd S q
                    have he1 : vl S P6 (k + 1) = 10 * V + (oct S q - 48) := by rw [vl, hV, hq]
                    by_cases hkn : k < n3
                    · have hd := Hdb.out k hkn
                      rw [hq] at hd
                      have hdd := Lib.hid (decide_eq_true hd)
                      obtain ⟨G, hG⟩ : ∃ G, oct S q = G := ⟨_, rfl⟩
                      rw [hG] at hatq he1 hd hdd
                      unfold dig at hd
                      obtain ⟨hd1, hd2⟩ := hd
                      have He1 := Lib.hid he1
                      have Hq := Lib.hid hq
                      clear he1 hq hG hobq hV
                      go_wp2_with fail
                      refine (rdigit_any _ _ (by omega) (by omega)).mono ?_
                      rintro e w' ⟨rfl, rfl⟩
                      rw [hdd.out]
                      go_wp2_with fail
                      go_round
                      case rel => exact ⟨k + 1, by omega, congrArg (Value.int .i64) (by have := Hq.out; omega), by rw [He1.out]⟩
                      case measure => simp [intOf]; omega
                    · have hkn3 : k = n3 := by omega
                      subst hkn3
                      have hnd := Hde.out (by omega)
                      rw [hq] at hnd
                      have hdd := Lib.hid (decide_eq_false hnd)
                      have Hbad := Lib.hid (show dOk S = false by rw [HOk.out]; exact decide_eq_false (by omega))
                      obtain ⟨G, hG⟩ : ∃ G, oct S q = G := ⟨_, rfl⟩
                      rw [hG] at hatq hdd hobq
                      obtain ⟨ho5, ho6⟩ := hobq
                      clear hnd hG hq he1
                      go_wp2_with fail
                      refine (rdigit_any _ _ (by omega) (by omega)).mono ?_
                      rintro e w' ⟨rfl, rfl⟩
                      rw [hdd.out]
                      go_wp2_with fail
                      exact bodyPost_ret (v := .tuple #[.int .i64 0, .slice none 0 0, .int .i64 0, .bool false]) (by simp [results, Try.results59, go_sem]) rfl ⟨0, _, 0, by rw [Hbad.out], hB, fun h => absurd h (by rw [Hbad.out]; simp)⟩
                  · have hkn3 : k = n3 := by omega
                    subst hkn3
                    have Hok := Lib.hid (show dOk S = true by rw [HOk.out]; exact decide_eq_true (by omega))
                    have HV := Lib.hid hV
                    clear hV hq
                    cases down
                    · have Hx := Lib.hid (show dEx S = V by rw [HEx.out, ← HV.out]; rfl)
                      go_wp2_with fail
                      exact bodyPost_ret (v := .tuple #[.int .i64 SG, .slice x1 N k1, .int .i64 (-(n2 : Int) + V), .bool true]) (by simp [results, Try.results59, go_sem]) rfl ⟨SG, _, _, by rw [Hok.out], hB, fun _ => ⟨rfl, by rw [Hx.out]; omega, hown⟩⟩
                    · have Hx := Lib.hid (show dEx S = -V by rw [HEx.out, ← HV.out]; rfl)
                      go_wp2_with fail
                      exact bodyPost_ret (v := .tuple #[.int .i64 SG, .slice x1 N k1, .int .i64 (-(n2 : Int) + -V), .bool true]) (by simp [results, Try.results59, go_sem]) rfl ⟨SG, _, _, by rw [Hok.out], hB, fun _ => ⟨rfl, by rw [Hx.out]; omega, hown⟩⟩
          · go_upto_region 23 with fail
            (try rw [hq5c])
            clear hq5c
            go_cut [109] from 94 to 109 (fun v109 wx => v109 = .bool b4 ∧ wx = wc)
            case first =>
              by_cases hs0 : q5 < S.size
              · have hat5 := Hat5.out hs0
                by_cases h43 : C5 = 43
                · have e0 : b4 = true := by rw [Hsb.out]; exact decide_eq_true ⟨hs0, .inl h43⟩
                  subst e0
                  subst h43
                  go_wp2_with fail
                  go_meet
                  case rel => exact ⟨rfl, rfl⟩
                · by_cases h45 : C5 = 45
                  · have e0 : b4 = true := by rw [Hsb.out]; exact decide_eq_true ⟨hs0, .inr h45⟩
                    subst e0
                    subst h45
                    go_wp2_with fail
                    go_meet
                    case rel => exact ⟨rfl, rfl⟩
                  · have e0 : b4 = false := by rw [Hsb.out]; exact decide_eq_false fun h => by rcases h.2 with h | h <;> contradiction
                    subst e0
                    have q1 : (C5 == 43) = false := beq_eq_false_iff_ne.2 h43
                    have q2 : (C5 == 45) = false := beq_eq_false_iff_ne.2 h45
                    go_wp2_with fail
                    go_meet
                    case rel => exact ⟨rfl, rfl⟩
              · have e0 : b4 = false := by rw [Hsb.out]; exact decide_eq_false fun h => hs0 h.1
                subst e0
                go_wp2_with fail
                go_meet
                case rel => exact ⟨rfl, rfl⟩
            case rest =>
              obtain ⟨rfl, hw⟩ := hcut
              have hw := hw.symm
              subst hw
              go_upto_if 109 with fail
              go_cut [6, 11] from 110 to 115 (fun v6 v11 wx => v6 = .int .i64 (P6 : Int) ∧ v11 = .bool down ∧ wx = wc)
              case first =>
                cases b4
                · have e1 : P6 = q5 := HP6.out
                  have e2 : down = false := by rw [Hdn.out]; exact decide_eq_false fun h => (of_decide_eq_false Hsb.out.symm) ⟨h.1, .inr h.2⟩
                  subst e1
                  subst e2
                  go_wp2_with fail
                  go_meet
                  case rel => exact ⟨rfl, rfl, rfl⟩
                · have e1 : P6 = q5 + 1 := HP6.out
                  subst e1
                  obtain ⟨hs0, hs1⟩ := of_decide_eq_true Hsb.out.symm
                  have hat5 := Hat5.out hs0
                  by_cases h45 : C5 = 45
                  · have e2 : down = true := by rw [Hdn.out]; exact decide_eq_true ⟨hs0, h45⟩
                    subst e2
                    subst h45
                    clear hs1
                    go_wp2_with fail
                    go_meet
                    case rel => exact ⟨congrArg (Value.int .i64) (by omega), rfl, rfl⟩
                  · have e2 : down = false := by rw [Hdn.out]; exact decide_eq_false fun h => h45 h.2
                    subst e2
                    have q2 : (C5 == 45) = false := beq_eq_false_iff_ne.2 h45
                    clear hs1
                    go_wp2_with fail
                    go_meet
                    case rel => exact ⟨congrArg (Value.int .i64) (by omega), rfl, rfl⟩
              case rest =>
                obtain ⟨rfl, rfl, hw⟩ := hcut
                have hw := hw.symm
                subst hw
                clear Hsb Hdn HP6 Hat5 hat
                have hr31 := Hr3.out.1
                by_cases hn0 : S.size = P6
                · have Hbad := Lib.hid (show dOk S = false by rw [HOk.out]; exact decide_eq_false (by omega))
                  go_wp2_with fail
                  exact bodyPost_ret (v := .tuple #[.int .i64 0, .slice none 0 0, .int .i64 0, .bool false]) (by simp [results, Try.results59, go_sem]) rfl ⟨0, _, 0, by rw [Hbad.out], hB, fun h => absurd h (by rw [Hbad.out]; simp)⟩
                have hn1 : ¬ ((S.size : Int) - P6 < 1) := by omega
                by_cases hn4 : P6 + 3 < S.size
                · have Hbad := Lib.hid (show dOk S = false by rw [HOk.out]; exact decide_eq_false (by omega))
                  go_wp2_with fail
                  exact bodyPost_ret (v := .tuple #[.int .i64 0, .slice none 0 0, .int .i64 0, .bool false]) (by simp [results, Try.results59, go_sem]) rfl ⟨0, _, 0, by rw [Hbad.out], hB, fun h => absurd h (by rw [Hbad.out]; simp)⟩
                have hdb := Hr3.out.2.1
                have hde := Hr3.out.2.2
                have hvb := vl_bd S P6 n3 hdb
                have hvb3 : ∀ k, k ≤ n3 → 0 ≤ vl S P6 k ∧ vl S P6 k < 1000 := fun k hk => by
                  have h1 := hvb k hk
                  have hk4 : k = 0 ∨ k = 1 ∨ k = 2 ∨ k = 3 := by omega
                  have h2 : (10 : Int) ^ k ≤ 1000 := by rcases hk4 with rfl | rfl | rfl | rfl <;> decide
                  omega
                have Hvb := Lib.hid hvb3
                have Hdb := Lib.hid hdb
                have Hde := Lib.hid hde
                clear hvb hvb3 hdb hde
                go_wp2_with fail
                go_loop [6, 12] (fun v6 v12 => ∃ k : Nat, k ≤ n3 ∧ v6 = .int .i64 ((P6 + k : Nat) : Int) ∧ v12 = .int .i64 (vl S P6 k)) (fun v _ => S.size - (intOf v).toNat)
                case atStart => exact ⟨0, Nat.zero_le _, by simp, rfl⟩
                case round =>
                  obtain ⟨k, hk, rfl, rfl⟩ := hrel
                  obtain ⟨q, hq⟩ : ∃ q, P6 + k = q := ⟨_, rfl⟩
                  obtain ⟨V, hV⟩ : ∃ V, vl S P6 k = V := ⟨_, rfl⟩
                  have hvk := Hvb.out k hk
                  rw [hV] at hvk ⊢
                  rw [hq]
                  obtain ⟨hv1, hv2⟩ := hvk
                  by_cases hqS : q < S.size
                  · have hatq := fun w => str_nat S q w hqS
                    have hobq := oct_bd S q
                    have he1 : vl S P6 (k + 1) = 10 * V + (oct S q - 48) := by rw [vl, hV, hq]
                    by_cases hkn : k < n3
                    · have hd := Hdb.out k hkn
                      rw [hq] at hd
                      have hdd := Lib.hid (decide_eq_true hd)
                      obtain ⟨G, hG⟩ : ∃ G, oct S q = G := ⟨_, rfl⟩
                      rw [hG] at hatq he1 hd hdd
                      unfold dig at hd
                      obtain ⟨hd1, hd2⟩ := hd
                      have He1 := Lib.hid he1
                      have Hq := Lib.hid hq
                      clear he1 hq hG hobq hV
                      go_wp2_with fail
                      refine (rdigit_any _ _ (by omega) (by omega)).mono ?_
                      rintro e w' ⟨rfl, rfl⟩
                      rw [hdd.out]
                      go_wp2_with fail
                      go_round
                      case rel => exact ⟨k + 1, by omega, congrArg (Value.int .i64) (by have := Hq.out; omega), by rw [He1.out]⟩
                      case measure => simp [intOf]; omega
                    · have hkn3 : k = n3 := by omega
                      subst hkn3
                      have hnd := Hde.out (by omega)
                      rw [hq] at hnd
                      have hdd := Lib.hid (decide_eq_false hnd)
                      have Hbad := Lib.hid (show dOk S = false by rw [HOk.out]; exact decide_eq_false (by omega))
                      obtain ⟨G, hG⟩ : ∃ G, oct S q = G := ⟨_, rfl⟩
                      rw [hG] at hatq hdd hobq
                      obtain ⟨ho5, ho6⟩ := hobq
                      clear hnd hG hq he1
                      go_wp2_with fail
                      refine (rdigit_any _ _ (by omega) (by omega)).mono ?_
                      rintro e w' ⟨rfl, rfl⟩
                      rw [hdd.out]
                      go_wp2_with fail
                      exact bodyPost_ret (v := .tuple #[.int .i64 0, .slice none 0 0, .int .i64 0, .bool false]) (by simp [results, Try.results59, go_sem]) rfl ⟨0, _, 0, by rw [Hbad.out], hB, fun h => absurd h (by rw [Hbad.out]; simp)⟩
                  · have hkn3 : k = n3 := by omega
                    subst hkn3
                    have Hok := Lib.hid (show dOk S = true by rw [HOk.out]; exact decide_eq_true (by omega))
                    have HV := Lib.hid hV
                    clear hV hq
                    cases down
                    · have Hx := Lib.hid (show dEx S = V by rw [HEx.out, ← HV.out]; rfl)
                      go_wp2_with fail
                      exact bodyPost_ret (v := .tuple #[.int .i64 SG, .slice x1 N k1, .int .i64 (-(n2 : Int) + V), .bool true]) (by simp [results, Try.results59, go_sem]) rfl ⟨SG, _, _, by rw [Hok.out], hB, fun _ => ⟨rfl, by rw [Hx.out]; omega, hown⟩⟩
                    · have Hx := Lib.hid (show dEx S = -V by rw [HEx.out, ← HV.out]; rfl)
                      go_wp2_with fail
                      exact bodyPost_ret (v := .tuple #[.int .i64 SG, .slice x1 N k1, .int .i64 (-(n2 : Int) + -V), .bool true]) (by simp [results, Try.results59, go_sem]) rfl ⟨SG, _, _, by rw [Hok.out], hB, fun _ => ⟨rfl, by rw [Hx.out]; omega, hown⟩⟩
        · have hex : expB S P4 = false := by rw [hexd]; exact decide_eq_false fun h => hE h.2
          have Hbad := Lib.hid (show dOk S = false by rw [HOk.out, hN0', hex, if_neg (by simp), Bool.true_and]; exact decide_eq_false hend)
          have q1 : (D != 101) = true := by simp; omega
          have q2 : (D != 69) = true := by simp; omega
          have q3 : ¬ D = 101 := fun h => hE (.inl h)
          have q4 : ¬ D = 69 := fun h => hE (.inr h)
          clear hex hexd hD hE hN0'
          go_wp2_with fail
          exact bodyPost_ret (v := .tuple #[.int .i64 0, .slice none 0 0, .int .i64 0, .bool false]) (by simp [results, Try.results59, go_sem]) rfl ⟨0, _, 0, by rw [Hbad.out], hB, fun h => absurd h (by rw [Hbad.out]; simp)⟩
end Go.Proofs.Ytilchjpjmfaghaa.T3
