/- chapter 01: the scanner's decimal. -/
import Derived.Test.YtilchjpjmfaghaaReE
import Derived.WalkKit
import Derived.Lib.Hide
import Derived.Deep.QuietTactic
import Derived.BigQuiet
import Derived.Lib.QuietBelow
import Derived.Deep.RegionHeld3
import Derived.WalkLawsBesides
import Derived.WalkSpells
import Derived.Outline
import Derived.Deep.DeepFit
import Derived.Maps.AppendAt
import Derived.Deep.AppendLies
import Derived.Laws.AppendOwnNone
import Derived.Deep.CutRange
import Derived.OpenShut
namespace Go.Proofs.Ytilchjpjmfaghaa.T3
set_option linter.unusedSimpArgs false
set_option linter.unusedVariables false
open Go.RowKit Go.Lib
set_option maxHeartbeats 4000000
set_option maxRecDepth 100000
theorem decimal_any (g : Nat) (S : ByteArray) (w : World) (hg : w.heap[g]? = some (SC S 0)) (hS : S.size ≤ 1000) :
    Calls Try.prog 55 #[.pointer (some ⟨g, 0, none⟩)] w fun e w' => ∃ (a : Bool) (v : Value) (pt : Int), e = .returned (.tuple #[.bool a, v, .int .i64 pt, .bool (dOk S)]) ∧ Only g w w' ∧ (dOk S = true → a = sgN S 0 ∧ pt = dN1 S + dEx S ∧ w'.ownsRow w.heap.size 5 1 v (dN S) (dLs S)) := by
  have hlg := rw_lt hg
  have hO := Only.refl g w
  have h1 := fun w hg => one_any g S PM 0 (sgB S 0) w hg (by omega) hS (by decide) (pm_iff S 0)
  have hP1 : dP1 S = if sgB S 0 = true then 1 else 0 := rfl
  have hsb : sgB S 0 = decide (0 < S.size ∧ (oct S 0 = 43 ∨ oct S 0 = 45)) := rfl
  have hsn : sgN S 0 = decide (0 < S.size ∧ oct S 0 = 45) := rfl
  have r1 : isRun S (dP1 S) (dN1 S) := run_spec S (sgP_le S (Nat.zero_le _))
  have hat : 0 < S.size → ∀ w, Sem.run Try.prog (Instr.index 9 (.string S) (.int .i64 0)) w = .ok (.int .u8 (oct S 0)) w := fun h w => str_nat S 0 w h
  have hob := oct_bd S 0
  obtain ⟨neg, hneg⟩ : ∃ q, sgN S 0 = q := ⟨_, rfl⟩
  obtain ⟨b0, hb0⟩ : ∃ q, sgB S 0 = q := ⟨_, rfl⟩
  obtain ⟨P1, hP1e⟩ : ∃ q, dP1 S = q := ⟨_, rfl⟩
  obtain ⟨n1, hn1⟩ : ∃ q, dN1 S = q := ⟨_, rfl⟩
  obtain ⟨C, hC⟩ : ∃ q, oct S 0 = q := ⟨_, rfl⟩
  rw [hneg] at hsn
  rw [hb0] at h1 hP1 hsb
  rw [hP1e] at hP1 r1
  rw [hn1] at r1
  rw [hC] at hsb hsn hat hob
  obtain ⟨hC1, hC2⟩ := hob
  have Hneg := Lib.hid hneg
  have HP1e := Lib.hid hP1e
  have Hn1 := Lib.hid hn1
  have Hr1 := Lib.hid r1
  have H1 := Lib.hid h1
  have Hat := Lib.hid hat
  have Hsb := Lib.hid hsb
  have Hsn := Lib.hid hsn
  have HP1 := Lib.hid hP1
  clear hneg hb0 hP1e hn1 r1 h1 hat hsb hsn hP1 hC
  go_enter Try.func55, Try.ntmps55
  go_upto_region 2 with fail
  go_cut [2] from 17 to 27 (fun v2 wc => v2 = .bool neg ∧ Only g w wc ∧ wc.heap[g]? = some (SC S P1))
  case first =>
    cases b0
    · have e1 : P1 = 0 := HP1.out
      have e2 : neg = false := by
        have := Hsb.out
        have h2 := Hsn.out
        rw [h2]
        refine decide_eq_false fun h => ?_
        have := of_decide_eq_false this.symm
        exact this ⟨h.1, .inr h.2⟩
      subst e1
      subst e2
      go_wp2_with fail
      refine (H1.out _ hg).mono ?_
      rintro e w1 ⟨rfl, hO1, hg1⟩
      simp only [if_true, Bool.false_eq_true, if_false] at hg1
      have hO2 := hO.trans hO1
      clear hO hO1 hg
      have hO := hO2
      have hg := hg1
      clear hO2 hg1
      go_wp2_with fail
      go_meet
      case rel => exact ⟨rfl, hO, hg⟩
    · have e1 : P1 = 1 := HP1.out
      subst e1
      have hsz := of_decide_eq_true Hsb.out.symm
      have hat := Hat.out hsz.1
      by_cases hC45 : C = 45
      · have e2 : neg = true := by rw [Hsn.out]; exact decide_eq_true ⟨hsz.1, hC45⟩
        subst e2
        subst hC45
        have hsz1 := hsz.1
        clear hsz
        go_wp2_with fail
        refine (H1.out _ hg).mono ?_
        rintro e w1 ⟨rfl, hO1, hg1⟩
        simp only [if_true, Bool.false_eq_true, if_false] at hg1
        have hO2 := hO.trans hO1
        clear hO hO1 hg
        have hO := hO2
        have hg := hg1
        clear hO2 hg1
        obtain ⟨c0, c1⟩ := cel2 hg
        have hl1 := rw_lt hg
        go_wp2_with fail
        go_meet
        case rel => exact ⟨rfl, hO, hg⟩
      · have e2 : neg = false := by rw [Hsn.out]; exact decide_eq_false fun h => hC45 h.2
        subst e2
        have e3 : C = 43 := by rcases hsz.2 with h | h <;> omega
        subst e3
        have hsz1 := hsz.1
        clear hsz hC45
        go_wp2_with fail
        refine (H1.out _ hg).mono ?_
        rintro e w1 ⟨rfl, hO1, hg1⟩
        simp only [if_true, Bool.false_eq_true, if_false] at hg1
        have hO2 := hO.trans hO1
        clear hO hO1 hg
        have hO := hO2
        have hg := hg1
        clear hO2 hg1
        obtain ⟨c0, c1⟩ := cel2 hg
        have hl1 := rw_lt hg
        go_wp2_with fail
        go_meet
        case rel => exact ⟨rfl, hO, hg⟩
  case rest =>
    obtain ⟨rfl, hO', hg'⟩ := hcut
    obtain ⟨w0, hw0⟩ : ∃ w0, w0 = wc := ⟨_, rfl⟩
    subst hw0
    clear hg hO H1 Hsb Hsn HP1 Hat hC1 hC2
    have hO := hO'
    have hg := hg'
    clear hO' hg'
    have hr1 := Hr1.out
    obtain ⟨P2, hP2⟩ : ∃ q, P1 + n1 = q := ⟨_, rfl⟩
    have hdig := fun w hg => digits_any g S P1 n1 w hg hS hr1
    rw [hP2] at hdig
    have hP2S : P2 ≤ S.size := by rw [← hP2]; exact hr1.1
    have hP2d : dP2 S = P2 := by unfold dP2; rw [HP1e.out, Hn1.out, hP2]
    have h2 := fun w hg => one_any g S PT P2 (dotB S P2) w hg hP2S hS (by decide) (pt_iff S P2)
    have hN2 : dN2 S = if dotB S P2 = true then run S (P2 + 1) else 0 := by unfold dN2; rw [hP2d]
    have hP4 : dP4 S = if dotB S P2 = true then P2 + 1 + dN2 S else P2 := by unfold dP4; rw [hP2d]
    have r2 : dotB S P2 = true → isRun S (P2 + 1) (dN2 S) := fun h => by
      rw [hN2, if_pos h]
      exact run_spec S (by unfold dotB at h; have := of_decide_eq_true h; omega)
    have hP4S := dP4_le S
    obtain ⟨n2, hn2⟩ : ∃ q, dN2 S = q := ⟨_, rfl⟩
    obtain ⟨P4, hP4e⟩ : ∃ q, dP4 S = q := ⟨_, rfl⟩
    obtain ⟨b2, hb2⟩ : ∃ q, dotB S P2 = q := ⟨_, rfl⟩
    rw [hb2] at h2 hN2 hP4 r2
    rw [hn2] at hN2 hP4 r2
    rw [hP4e] at hP4 hP4S
    have hls : dLs S = dgs S P1 n1 ++ dgs S (P2 + 1) n2 := by unfold dLs; rw [HP1e.out, Hn1.out, hP2d, hn2]
    have hdN : dN S = n1 + n2 := by unfold dN; rw [Hn1.out, hn2]
    have hn1S : n1 ≤ 1000 := by have := hr1.1; omega
    have hn12 : P1 + n1 + n2 ≤ 1000 := by
      cases b2
      · simp at hN2; have := hr1.1; omega
      · have := (r2 rfl).1; omega
    have Hdig := Lib.hid hdig
    have H2 := Lib.hid h2
    have HN2 := Lib.hid hN2
    have HP4 := Lib.hid hP4
    have Hr2 := Lib.hid r2
    have HP4e := Lib.hid hP4e
    have Hls := Lib.hid hls
    have HdN := Lib.hid hdN
    have HP2 := Lib.hid hP2
    clear hdig h2 hN2 hP4 r2 hP4e hls hdN hr1 hP2 hP2d hn2 hb2
    go_wp2_with fail
    refine (Hdig.out _ hg).mono ?_
    rintro e w1 ⟨v1, rfl, hO1, hg1, hown⟩
    have hlw := hO.size
    have hs1 := hO1.size
    have hO2 := hO.trans hO1
    clear hO hO1 hg
    have hO := hO2
    have hg := hg1
    clear hO2 hg1 Hdig
    obtain ⟨x1, k1, rfl⟩ := own_form hown
    go_upto_if 33 with fail
    refine (H2.out _ hg).mono ?_
    rintro e w2 ⟨rfl, hO1, hg1⟩
    go_upto_if 33 with fail
    have hown1 := hO1.owns (g := g) (by omega) hown
    have hs2 := hO1.size
    have hO2 := hO.trans hO1
    have hlg2 := rw_lt hg1
    clear hO hO1 hg hown
    have Hn12 := Lib.hid hn12
    go_cut [3] from 32 to 37 (fun v3 wz => Only g w wz ∧ wz.heap[g]? = some (SC S P4) ∧ wz.ownsRow w0.heap.size 5 1 v3 (n1 + n2) (dgs S P1 n1 ++ dgs S (P2 + 1) n2))
    case first =>
      cases b2
      · have e1 : n2 = 0 := HN2.out
        have e2 : P4 = P2 := HP4.out
        subst e1
        subst e2
        simp only [Bool.false_eq_true, if_false] at hg1
        go_wp2_with fail
        go_meet
        case rel => exact ⟨hO2, hg1, by simpa [dgs] using hown1⟩
      · have e2 : P4 = P2 + 1 + n2 := HP4.out
        subst e2
        have hr2 := Hr2.out rfl
        simp only [if_true] at hg1
        have hdig := Lib.hid (fun w hg => digits_any g S (P2 + 1) n2 w hg hS hr2)
        clear hr2
        go_wp2_with fail
        refine (hdig.out _ hg1).mono ?_
        rintro e w3 ⟨v2, rfl, hO1, hg3, hown2⟩
        have hown3 := hO1.owns (g := g) (by omega) hown1
        have hO3 := hO2.trans hO1
        have hl2 := hO2.size
        have hl3 := hO1.size
        clear hO2 hO1 hg1 hown1
        obtain ⟨i0, hi, hz0, hz1, hz2⟩ := info_split info_u8
        rcases own_cases hown2 with ⟨rfl, e0⟩ | ⟨g2, k2, rfl, hg2⟩
        · subst e0
          go_wp2_with (at_builtin; refine wpList_append_own_none rfl _ _ 35 rfl w0.heap.size 5 i0 1 Try.underlying35 hi _ n1 (dgs S P1 n1) rfl hown3 rfl ?_)
          go_meet
          case rel => exact ⟨hO3, hg3, by simpa [dgs] using hown3⟩
        · go_wp2_with (at_builtin; refine wpList_append_own _ rfl _ _ 35 rfl w0.heap.size 5 i0 (.int .u8 0) 1 1 Try.underlying35 hi hz0 hz1 hz2 rfl (by decide) _ n1 (dgs S P1 n1) rfl hown3 ⟨g2, 0, none⟩ n2 k2 (dgs S (P2 + 1) n2) rfl (by simp [dgs]) (hown2.cells rfl) (dgs_one _ _ _) (by unfold maxLen; have := Hn12.out; omega) (by have := Hn12.out; omega) (by omega) ?_)
          intro v' w4 hown' hgrow _
          have hg4 := rw_grown hgrow (fun e => by have := own_base hown3 _ e.symm; omega) hg3
          have hO4 := hO3.grown hgrow (fun k hk => by have := own_base hown3 k hk; omega)
          obtain ⟨x4, k4, rfl⟩ := own_form hown'
          go_wp2_with fail
          go_meet
          case rel => exact ⟨hO4, hg4, hown'⟩
    case rest =>
      obtain ⟨hO, hg, hown⟩ := hcut
      clear hO2 hg1 hown1 HN2 HP4 Hr2 H2 hlg2
      obtain ⟨x4, k4, rfl⟩ := own_form hown
      have hlgc := rw_lt hg
      have hP6e : dP6 S = sgP S (P4 + 1) := by unfold dP6; rw [HP4e.out]
      have h3 := Lib.hid (fun w hg => one_any g S EE P4 (expB S P4) w hg hP4S hS (by decide) (ee_iff S P4))
      obtain ⟨b3, hb3⟩ : ∃ q, expB S P4 = q := ⟨_, rfl⟩
      rw [hb3] at h3
      have hOk : dOk S = (decide (n1 + n2 ≠ 0) && (if b3 = true then decide (1 ≤ dN3 S ∧ dN3 S ≤ 3 ∧ dP6 S + dN3 S = S.size) else decide (P4 = S.size))) := by unfold dOk; rw [HdN.out, HP4e.out, hb3]
      have hEx : dEx S = if b3 = true then (if sgN S (P4 + 1) = true then -(vl S (dP6 S) (dN3 S)) else vl S (dP6 S) (dN3 S)) else 0 := by unfold dEx; rw [HP4e.out, hb3]
      rw [← Hls.out, ← HdN.out] at hown
      obtain ⟨N, hN⟩ : ∃ q, dN S = q := ⟨_, rfl⟩
      have hNN : n1 + n2 = N := by rw [← hN, HdN.out]
      rw [hN] at hown
      rw [hNN] at hOk ⊢
      have hN1 : N ≤ 1000 := by omega
      have HOk := Lib.hid hOk
      have HEx := Lib.hid hEx
      have HP6 := Lib.hid hP6e
      have HN := Lib.hid hN
      have Hb3 := Lib.hid hb3
      clear hOk hEx hP6e hN hNN hb3 hn12
      by_cases hN0 : N = 0
      · have Hbad := Lib.hid (show dOk S = false by rw [HOk.out, hN0]; rfl)
        subst hN0
        go_wp2_with fail
        exact bodyPost_ret (v := .tuple #[.bool false, .slice none 0 0, .int .i64 0, .bool false]) (by simp [results, Try.results55, go_sem]) rfl ⟨false, _, _, by rw [Hbad.out], hO, fun h => absurd h (by rw [Hbad.out]; simp)⟩
      · go_wp2_with fail
        refine (h3.out _ hg).mono ?_
        rintro e w5 ⟨rfl, hO1, hg1⟩
        have hown5 := hO1.owns (g := g) (by omega) hown
        have hO5 := hO.trans hO1
        have hl5 := hO1.size
        have hlg5 := rw_lt hg1
        clear hO hO1 hg hown h3
        have hO := hO5
        have hown := hown5
        clear hO5 hown5
        cases b3
        · simp only [Bool.false_eq_true, if_false] at hg1
          have He := Lib.hid (show (((P4 : Nat) : Int) == (S.size : Int)) = dOk S by rw [HOk.out]; simp [hN0, beq_nat])
          have Hp := Lib.hid (show dEx S = 0 from HEx.out)
          clear HOk HEx HP6
          go_wp2_with fail
          go_upto_region 22 with fail
          refine wp_region_ord (.s 0 .p (.s 1 .p (.s 2 .p (.s 3 .p (.s 4 .p (.s 5 .p (.s 6 .p (.s 7 .l (.s 8 .p (.s 9 .p (.s 10 .p (.s 11 .p (.s 12 .l (.s 13 .p (.s 14 .p (.s 15 .p (.s 16 .p (.s 17 .p (.s 18 .p .done))))))))))))))))))) (fun w' => w'.heap[g]? = some (SC S P4)) (by kernel_rfl) (by kernel_rfl) (fun _ _ _ _ _ h => h) (by first | exact hg1 | exact rw_drew hg1) ?_
          (apply wpOrd_p2 rfl rfl rfl rfl rfl; (intro w' K hK; (first | go_big_move | go_big_op | go_wp2_with fail); exact hK))
          (apply wpOrd_p2 rfl rfl rfl rfl rfl; (intro w' K hK; (first | go_big_move | go_big_op | go_wp2_with fail); exact hK))
          (apply wpOrd_p2 rfl rfl rfl rfl rfl; (intro w' K hK; (first | go_big_move | go_big_op | go_wp2_with fail); exact hK))
          (apply wpOrd_p2 rfl rfl rfl rfl rfl; (intro w' K hK; (first | go_big_move | go_big_op | go_wp2_with fail); exact hK))
          (apply wpOrd_p2 rfl rfl rfl rfl rfl; (intro w' K hK; (first | go_big_move | go_big_op | go_wp2_with fail); exact hK))
          (apply wpOrd_p2 rfl rfl rfl rfl rfl; (intro w' K hK; (first | go_big_move | go_big_op | go_wp2_with fail); exact hK))
          (apply wpOrd_p2 rfl rfl rfl rfl rfl; (intro w' K hK; (first | go_big_move | go_big_op | go_wp2_with fail); exact hK))
          (apply wpOrd_l2 rfl rfl rfl rfl rfl; (intro w' K hS' hK; (obtain ⟨c0_, c1_⟩ := cel2 hS'; (first | go_big_op | go_wp2_with fail); exact hK)); (first | exact hg1 | exact rw_drew hg1))
          (apply wpOrd_p2 rfl rfl rfl rfl rfl; (intro w' K hK; (first | go_big_move | go_big_op | go_wp2_with fail); exact hK))
          (apply wpOrd_p2 rfl rfl rfl rfl rfl; (intro w' K hK; (first | go_big_move | go_big_op | go_wp2_with fail); exact hK))
          (apply wpOrd_p2 rfl rfl rfl rfl rfl; (intro w' K hK; (first | go_big_move | go_big_op | go_wp2_with fail); exact hK))
          (apply wpOrd_p2 rfl rfl rfl rfl rfl; (intro w' K hK; (first | go_big_move | go_big_op | go_wp2_with fail); exact hK))
          (apply wpOrd_l2 rfl rfl rfl rfl rfl; (intro w' K hS' hK; (obtain ⟨c0_, c1_⟩ := cel2 hS'; (first | go_big_op | go_wp2_with fail); exact hK)); (first | exact hg1 | exact rw_drew hg1))
          (apply wpOrd_p2 rfl rfl rfl rfl rfl; (intro w' K hK; (first | go_big_move | go_big_op | go_wp2_with fail); exact hK))
          (apply wpOrd_p2 rfl rfl rfl rfl rfl; (intro w' K hK; (first | go_big_move | go_big_op | go_wp2_with fail); exact hK))
          (apply wpOrd_p2 rfl rfl rfl rfl rfl; (intro w' K hK; (first | go_big_move | go_big_op | go_wp2_with fail); exact hK))
          (apply wpOrd_p2 rfl rfl rfl rfl rfl; (intro w' K hK; (first | go_big_move | go_big_op | go_wp2_with fail); exact hK))
          (apply wpOrd_p2 rfl rfl rfl rfl rfl; (intro w' K hK; (first | go_big_move | go_big_op | go_wp2_with fail); exact hK))
          (apply wpOrd_p2 rfl rfl rfl rfl rfl; (intro w' K hK; (first | go_big_move | go_big_op | go_wp2_with fail); exact hK))
          refine wpOrd_nil ?_
          skip
          go_wp2_with fail
          exact bodyPost_ret (v := .tuple #[.bool neg, .slice x4 N k4, .int .i64 ((n1 : Int)), .bool (((P4 : Nat) : Int) == (S.size : Int))]) (by simp [results, Try.results55, go_sem]) rfl ⟨neg, _, _, by rw [He.out], hO.drew, fun _ => ⟨Hneg.out.symm, by rw [Hn1.out, Hp.out, Int.add_zero], by rw [HN.out]; exact own_low hlw hown⟩⟩
        · simp only [if_true] at hg1
          have hP5 : P4 < S.size := by have h := Hb3.out; unfold expB at h; exact (of_decide_eq_true h).1
          obtain ⟨q5, hq5⟩ : ∃ q, P4 + 1 = q := ⟨_, rfl⟩
          rw [hq5] at hg1
          have hq5S : q5 ≤ S.size := by omega
          have h4 := fun w hg => one_any g S PM (q5) (sgB S (q5)) w hg (by omega) hS (by decide) (pm_iff S (q5))
          have hP6 : sgP S q5 = if sgB S (q5) = true then q5 + 1 else q5 := rfl
          have hP6S : sgP S q5 ≤ S.size := sgP_le S (by omega)
          have r3 : isRun S (sgP S q5) (run S (sgP S q5)) := run_spec S hP6S
          have hN3 : dN3 S = run S (sgP S q5) := by unfold dN3; rw [HP6.out, hq5]
          have hP6' : dP6 S = sgP S q5 := by rw [HP6.out, hq5]
          have hsb : sgB S (q5) = decide (q5 < S.size ∧ (oct S (q5) = 43 ∨ oct S (q5) = 45)) := rfl
          have hdn : sgN S (q5) = decide (q5 < S.size ∧ oct S (q5) = 45) := rfl
          obtain ⟨down, hdne⟩ : ∃ q, sgN S (q5) = q := ⟨_, rfl⟩
          obtain ⟨b4, hb4⟩ : ∃ q, sgB S (q5) = q := ⟨_, rfl⟩
          obtain ⟨P6, hP6e⟩ : ∃ q, sgP S q5 = q := ⟨_, rfl⟩
          obtain ⟨n3, hn3⟩ : ∃ q, run S P6 = q := ⟨_, rfl⟩
          have hOk2 := HOk.out
          have hEx2 := HEx.out
          rw [hq5] at hEx2
          rw [hP6e] at hP6 hP6S r3 hN3 hP6'
          rw [hn3] at r3 hN3
          rw [hb4] at h4 hP6 hsb
          rw [hdne] at hdn
          rw [hN3, hP6'] at hOk2
          rw [hN3, hP6', hdne] at hEx2
          obtain ⟨hc0, hc1⟩ := cel2 hg1
          have h4 := Lib.hid h4
          have Hsb := Lib.hid hsb
          have Hdn := Lib.hid hdn
          have HP6 := Lib.hid hP6
          have Hr3 := Lib.hid r3
          have HOk := Lib.hid hOk2
          have HEx := Lib.hid hEx2
          clear hP6' hN3 hsb hdn hb4 hdne hP6 hP6e hn3 r3 hOk2 hEx2
          have hw5 : IntKind.i64.wrap ((q5 : Int) + 1 - 1) = q5 := by rw [Int.add_sub_cancel]; exact IntWalk.i64_in _ (by omega)
          clear hq5
          go_upto_region 10 with fail
          obtain ⟨wp, hwp⟩ : ∃ wp, wp = w5 := ⟨_, rfl⟩
          subst hwp
          go_cut [8] from 43 to 59 (fun v8 wz => v8 = .bool down ∧ Only g w wz ∧ wz.heap[g]? = some (SC S P6) ∧ wz.ownsRow w0.heap.size 5 1 (.slice x4 N k4) N (dLs S) ∧ wp.heap.size ≤ wz.heap.size)
          case first =>
            cases b4
            · have e1 : P6 = q5 := HP6.out
              subst e1
              have e2 : down = false := by
                rw [Hdn.out]
                refine decide_eq_false fun h => ?_
                exact (of_decide_eq_false Hsb.out.symm) ⟨h.1, .inr h.2⟩
              subst e2
              go_wp2_with fail
              refine wp_region_ord (.s 0 .p (.s 1 .e (.s 2 .p (.s 3 .p (.s 4 .p (.s 5 .p (.s 6 .p (.s 7 .l (.s 8 .p (.s 9 .p (.s 10 .p (.s 11 .p (.s 12 .e (.s 13 .p (.s 14 .p (.s 15 .p (.s 16 .p (.s 17 .p .done)))))))))))))))))) (fun w' => w'.cell? ⟨g, 0, none⟩ = some (.string S)) (by kernel_rfl) (by kernel_rfl) (fun _ _ _ _ _ h => h) hc0 ?_
              (apply wpOrd_p2 rfl rfl rfl rfl rfl; (intro w' K hK; (first | go_big_move | go_big_op | go_wp2_with fail); exact hK))
              (refine wpOrd_e1 rfl rfl (fun K hK => ?_)); (first | go_big_op | go_wp2_with fail)
              refine (h4.out _ (rw_drew hg1)).mono ?_; rintro e w6 ⟨rfl, hO1, hg2⟩; simp only [Bool.false_eq_true, if_false] at hg2; obtain ⟨hcS, hcT⟩ := cel2 hg2; have hlg6 := rw_lt hg2; refine hK _ _ hcS ?_; clear hK K
              (apply wpOrd_p2 rfl rfl rfl rfl rfl; (intro w' K hK; (first | go_big_move | go_big_op | go_wp2_with fail); exact hK))
              refine wpOrd_skip rfl rfl rfl ?_
              refine wpOrd_skip rfl rfl rfl ?_
              refine wpOrd_skip rfl rfl rfl ?_
              refine wpOrd_skip rfl rfl rfl ?_
              refine wpOrd_skip rfl rfl rfl ?_
              refine wpOrd_skip rfl rfl rfl ?_
              refine wpOrd_skip rfl rfl rfl ?_
              refine wpOrd_skip rfl rfl rfl ?_
              refine wpOrd_skip rfl rfl rfl ?_
              refine wpOrd_skip rfl rfl rfl ?_
              refine wpOrd_skip rfl rfl rfl ?_
              refine wpOrd_skip rfl rfl rfl ?_
              refine wpOrd_skip rfl rfl rfl ?_
              (apply wpOrd_p2 rfl rfl rfl rfl rfl; (intro w' K hK; (first | go_big_move | go_big_op | go_wp2_with fail); exact hK))
              (apply wpOrd_p2 rfl rfl rfl rfl rfl; (intro w' K hK; (first | go_big_move | go_big_op | go_wp2_with fail); exact hK))
              refine wpOrd_nil ?_
              skip
              have hOx := hO.drew.trans hO1
              have hownx := hO1.owns (g := g) (by omega) hown
              go_wp2_with fail
              go_meet
              case rel => exact ⟨rfl, hOx, hg2, hownx, by have := hO1.size; simpa using this⟩
            · have e1 : P6 = q5 + 1 := HP6.out
              subst e1
              have hsz := of_decide_eq_true Hsb.out.symm
              obtain ⟨hsz1, hsz2⟩ := hsz
              have hat := fun w => str_nat S (q5) w hsz1
              by_cases hC45 : oct S (q5) = 45
              · have e2 : down = true := by rw [Hdn.out]; exact decide_eq_true ⟨hsz1, hC45⟩
                subst e2
                rw [hC45] at hat
                clear hsz2 hC45
                go_wp2_with fail
                refine wp_region_ord (.s 0 .p (.s 1 .e (.s 2 .p (.s 3 .p (.s 4 .p (.s 5 .p (.s 6 .p (.s 7 .l (.s 8 .p (.s 9 .p (.s 10 .p (.s 11 .p (.s 12 .e (.s 13 .p (.s 14 .p (.s 15 .p (.s 16 .p (.s 17 .p .done)))))))))))))))))) (fun w' => w'.cell? ⟨g, 0, none⟩ = some (.string S)) (by kernel_rfl) (by kernel_rfl) (fun _ _ _ _ _ h => h) hc0 ?_
                (apply wpOrd_p2 rfl rfl rfl rfl rfl; (intro w' K hK; (first | go_big_move | go_big_op | go_wp2_with fail); exact hK))
                (refine wpOrd_e1 rfl rfl (fun K hK => ?_)); (first | go_big_op | go_wp2_with fail)
                refine (h4.out _ (rw_drew hg1)).mono ?_; rintro e w6 ⟨rfl, hO1, hg2⟩; simp only [if_true] at hg2; obtain ⟨hcS, hcT⟩ := cel2 hg2; have hlg6 := rw_lt hg2; refine hK _ _ hcS ?_; clear hK K
                (apply wpOrd_p2 rfl rfl rfl rfl rfl; (intro w' K hK; (first | go_big_move | go_big_op | go_wp2_with fail); exact hK))
                (apply wpOrd_p2 rfl rfl rfl rfl rfl; (intro w' K hK; (first | go_big_move | go_big_op | go_wp2_with fail); exact hK))
                (apply wpOrd_p2 rfl rfl rfl rfl rfl; (intro w' K hK; (first | go_big_move | go_big_op | go_wp2_with fail); exact hK))
                (apply wpOrd_p2 rfl rfl rfl rfl rfl; (intro w' K hK; (first | go_big_move | go_big_op | go_wp2_with fail); exact hK))
                (apply wpOrd_p2 rfl rfl rfl rfl rfl; (intro w' K hK; (first | go_big_move | go_big_op | go_wp2_with fail); exact hK))
                (apply wpOrd_l2 rfl rfl rfl rfl rfl; (intro w' K hS' hK; (first | go_big_op | go_wp2_with fail); exact hK); (first | exact hcS))
                (apply wpOrd_p2 rfl rfl rfl rfl rfl; (intro w' K hK; (first | go_big_move | go_big_op | go_wp2_with fail); exact hK))
                (apply wpOrd_p2 rfl rfl rfl rfl rfl; (intro w' K hK; (first | go_big_move | go_big_op | go_wp2_with fail); exact hK))
                (apply wpOrd_p2 rfl rfl rfl rfl rfl; (intro w' K hK; (first | go_big_move | go_big_op | go_wp2_with fail); exact hK))
                (apply wpOrd_p2 rfl rfl rfl rfl rfl; (intro w' K hK; (first | go_big_move | go_big_op | go_wp2_with fail); exact hK))
                (refine wpOrd_e1 rfl rfl (fun K hK => ?_)); (first | go_big_op | go_wp2_with fail)
                refine hK _ _ hcS ?_; clear hK K
                (apply wpOrd_p2 rfl rfl rfl rfl rfl; (intro w' K hK; (first | go_big_move | go_big_op | go_wp2_with fail); exact hK))
                (apply wpOrd_p2 rfl rfl rfl rfl rfl; (intro w' K hK; (first | go_big_move | go_big_op | go_wp2_with fail); exact hK))
                (apply wpOrd_p2 rfl rfl rfl rfl rfl; (intro w' K hK; (first | go_big_move | go_big_op | go_wp2_with fail); exact hK))
                (apply wpOrd_p2 rfl rfl rfl rfl rfl; (intro w' K hK; (first | go_big_move | go_big_op | go_wp2_with fail); exact hK))
                (apply wpOrd_p2 rfl rfl rfl rfl rfl; (intro w' K hK; (first | go_big_move | go_big_op | go_wp2_with fail); exact hK))
                refine wpOrd_nil ?_
                skip
                have hOx := hO.drew.trans hO1
                have hownx := hO1.owns (g := g) (by omega) hown
                go_wp2_with fail
                go_meet
                case rel => exact ⟨rfl, hOx, hg2, hownx, by have := hO1.size; simpa using this⟩
              · have e2 : down = false := by rw [Hdn.out]; exact decide_eq_false fun h => hC45 h.2
                subst e2
                have e3 : oct S (q5) = 43 := by rcases hsz2 with h | h <;> omega
                rw [e3] at hat
                clear hsz2 hC45 e3
                go_wp2_with fail
                refine wp_region_ord (.s 0 .p (.s 1 .e (.s 2 .p (.s 3 .p (.s 4 .p (.s 5 .p (.s 6 .p (.s 7 .l (.s 8 .p (.s 9 .p (.s 10 .p (.s 11 .p (.s 12 .e (.s 13 .p (.s 14 .p (.s 15 .p (.s 16 .p (.s 17 .p .done)))))))))))))))))) (fun w' => w'.cell? ⟨g, 0, none⟩ = some (.string S)) (by kernel_rfl) (by kernel_rfl) (fun _ _ _ _ _ h => h) hc0 ?_
                (apply wpOrd_p2 rfl rfl rfl rfl rfl; (intro w' K hK; (first | go_big_move | go_big_op | go_wp2_with fail); exact hK))
                (refine wpOrd_e1 rfl rfl (fun K hK => ?_)); (first | go_big_op | go_wp2_with fail)
                refine (h4.out _ (rw_drew hg1)).mono ?_; rintro e w6 ⟨rfl, hO1, hg2⟩; simp only [if_true] at hg2; obtain ⟨hcS, hcT⟩ := cel2 hg2; have hlg6 := rw_lt hg2; refine hK _ _ hcS ?_; clear hK K
                (apply wpOrd_p2 rfl rfl rfl rfl rfl; (intro w' K hK; (first | go_big_move | go_big_op | go_wp2_with fail); exact hK))
                (apply wpOrd_p2 rfl rfl rfl rfl rfl; (intro w' K hK; (first | go_big_move | go_big_op | go_wp2_with fail); exact hK))
                (apply wpOrd_p2 rfl rfl rfl rfl rfl; (intro w' K hK; (first | go_big_move | go_big_op | go_wp2_with fail); exact hK))
                (apply wpOrd_p2 rfl rfl rfl rfl rfl; (intro w' K hK; (first | go_big_move | go_big_op | go_wp2_with fail); exact hK))
                (apply wpOrd_p2 rfl rfl rfl rfl rfl; (intro w' K hK; (first | go_big_move | go_big_op | go_wp2_with fail); exact hK))
                (apply wpOrd_l2 rfl rfl rfl rfl rfl; (intro w' K hS' hK; (first | go_big_op | go_wp2_with fail); exact hK); (first | exact hcS))
                (apply wpOrd_p2 rfl rfl rfl rfl rfl; (intro w' K hK; (first | go_big_move | go_big_op | go_wp2_with fail); exact hK))
                (apply wpOrd_p2 rfl rfl rfl rfl rfl; (intro w' K hK; (first | go_big_move | go_big_op | go_wp2_with fail); exact hK))
                (apply wpOrd_p2 rfl rfl rfl rfl rfl; (intro w' K hK; (first | go_big_move | go_big_op | go_wp2_with fail); exact hK))
                (apply wpOrd_p2 rfl rfl rfl rfl rfl; (intro w' K hK; (first | go_big_move | go_big_op | go_wp2_with fail); exact hK))
                (refine wpOrd_e1 rfl rfl (fun K hK => ?_)); (first | go_big_op | go_wp2_with fail)
                refine hK _ _ hcS ?_; clear hK K
                (apply wpOrd_p2 rfl rfl rfl rfl rfl; (intro w' K hK; (first | go_big_move | go_big_op | go_wp2_with fail); exact hK))
                (apply wpOrd_p2 rfl rfl rfl rfl rfl; (intro w' K hK; (first | go_big_move | go_big_op | go_wp2_with fail); exact hK))
                (apply wpOrd_p2 rfl rfl rfl rfl rfl; (intro w' K hK; (first | go_big_move | go_big_op | go_wp2_with fail); exact hK))
                (apply wpOrd_p2 rfl rfl rfl rfl rfl; (intro w' K hK; (first | go_big_move | go_big_op | go_wp2_with fail); exact hK))
                (apply wpOrd_p2 rfl rfl rfl rfl rfl; (intro w' K hK; (first | go_big_move | go_big_op | go_wp2_with fail); exact hK))
                refine wpOrd_nil ?_
                skip
                have hOx := hO.drew.trans hO1
                have hownx := hO1.owns (g := g) (by omega) hown
                go_wp2_with fail
                go_meet
                case rel => exact ⟨rfl, hOx, hg2, hownx, by have := hO1.size; simpa using this⟩
          case rest =>
            obtain ⟨rfl, hO', hg', hown', hl6⟩ := hcut
            clear hO hg1 hown hc0 hc1 h4 Hsb Hdn HP6 hw5 hlg5
            have hO := hO'
            have hg1 := hg'
            have hown := hown'
            clear hO' hg' hown'
            have hlg6 := rw_lt hg1
            have hdig := Lib.hid (fun w hg => digits_any g S P6 n3 w hg hS Hr3.out)
            have hr31 := Hr3.out.1
            obtain ⟨P7, hP7⟩ : ∃ q, P6 + n3 = q := ⟨_, rfl⟩
            rw [hP7] at hdig hr31
            have hOk2 := HOk.out
            rw [hP7] at hOk2
            have HOk := Lib.hid hOk2
            clear hOk2
            have hN0' : decide (N ≠ 0) = true := decide_eq_true hN0
            by_cases hn30 : n3 = 0
            · have Hbad := Lib.hid (show dOk S = false by rw [HOk.out, hN0', if_pos trivial, Bool.true_and]; exact decide_eq_false (by omega))
              subst hn30
              go_wp2_with fail
              refine (hdig.out _ hg1).mono ?_
              rintro e w7 ⟨v7, rfl, hO1, hg7, hown3⟩
              have hown7 := hO1.owns (g := g) (by omega) hown
              have hO7 := hO.trans hO1
              clear hO hO1 hg1 hown
              have hg1 := hg7
              clear hg7
              obtain ⟨x7, k7, rfl⟩ := own_form hown3
              go_wp2_with fail
              exact bodyPost_ret (v := .tuple #[.bool false, .slice none 0 0, .int .i64 0, .bool false]) (by simp [results, Try.results55, go_sem]) rfl ⟨false, _, _, by rw [Hbad.out], hO7, fun h => absurd h (by rw [Hbad.out]; simp)⟩
            · by_cases hn33 : 3 < n3
              · have Hbad := Lib.hid (show dOk S = false by rw [HOk.out, hN0', if_pos trivial, Bool.true_and]; exact decide_eq_false (by omega))
                go_wp2_with fail
                refine (hdig.out _ hg1).mono ?_
                rintro e w7 ⟨v7, rfl, hO1, hg7, hown3⟩
                have hown7 := hO1.owns (g := g) (by omega) hown
                have hO7 := hO.trans hO1
                clear hO hO1 hg1 hown
                have hg1 := hg7
                clear hg7
                obtain ⟨x7, k7, rfl⟩ := own_form hown3
                go_wp2_with fail
                exact bodyPost_ret (v := .tuple #[.bool false, .slice none 0 0, .int .i64 0, .bool false]) (by simp [results, Try.results55, go_sem]) rfl ⟨false, _, _, by rw [Hbad.out], hO7, fun h => absurd h (by rw [Hbad.out]; simp)⟩
              · have He := Lib.hid (show (((P7 : Nat) : Int) == (S.size : Int)) = dOk S by rw [HOk.out, hN0', if_pos trivial, Bool.true_and, beq_nat]; exact decide_eq_decide.2 ⟨fun h => ⟨by omega, by omega, h⟩, fun h => h.2.2⟩)
                have hvb := vl_bd S P6 n3 (fun t ht => Hr3.out.2.1 t ht)
                have hdb := Hr3.out.2.1
                have hvb3 : ∀ k, k ≤ n3 → 0 ≤ vl S P6 k ∧ vl S P6 k < 1000 := fun k hk => by
                  have h1 := hvb k hk
                  have hk4 : k = 0 ∨ k = 1 ∨ k = 2 ∨ k = 3 := by omega
                  have h2 : (10 : Int) ^ k ≤ 1000 := by rcases hk4 with rfl | rfl | rfl | rfl <;> decide
                  omega
                have Hvb := Lib.hid hvb3
                have Hdb := Lib.hid hdb
                clear HOk hvb hdb hvb3
                go_wp2_with fail
                refine (hdig.out _ hg1).mono ?_
                rintro e w7 ⟨v7, rfl, hO1, hg7, hown3⟩
                have hown7 := hO1.owns (g := g) (by omega) hown
                have hO7 := hO.trans hO1
                clear hO hO1 hg1 hown
                have hg1 := hg7
                clear hg7
                rcases own_cases hown3 with ⟨rfl, e0⟩ | ⟨g7, k7, rfl, hg7⟩
                · exact absurd e0 hn30
                have hcell : ∀ k, k < n3 → w7.cell? ⟨g7, k, none⟩ = some (.int .u8 (oct S (P6 + k) - 48)) := fun k hk => own_cell hown3 (dgs_get hk)
                have Hcell := Lib.hid hcell
                clear hcell hown3
                go_wp2_with fail
                go_loop [9, 72] (fun v9 v72 => ∃ k : Nat, k ≤ n3 ∧ v72 = .int .i64 k ∧ v9 = .int .i64 (vl S P6 k)) (fun _ v => n3 - (intOf v).toNat)
                case atStart => exact ⟨0, Nat.zero_le _, rfl, rfl⟩
                case round =>
                  obtain ⟨k, hk, rfl, rfl⟩ := hrel
                  obtain ⟨V, hV⟩ : ∃ V, vl S P6 k = V := ⟨_, rfl⟩
                  have hvk := Hvb.out k hk
                  rw [hV] at hvk ⊢
                  obtain ⟨hv1, hv2⟩ := hvk
                  by_cases hlt : k < n3
                  · have hc := Hcell.out k hlt
                    have hd := Hdb.out k hlt
                    have he1 : vl S P6 (k + 1) = 10 * V + (oct S (P6 + k) - 48) := by rw [vl, hV]
                    obtain ⟨D, hD⟩ : ∃ D, oct S (P6 + k) - 48 = D := ⟨_, rfl⟩
                    unfold dig at hd
                    have hd1 : 0 ≤ D := by omega
                    have hd2 : D ≤ 9 := by omega
                    rw [hD] at hc he1
                    have He1 := Lib.hid he1
                    clear hd hD he1 hV
                    go_wp2_with fail
                    go_round
                    case rel => exact ⟨k + 1, by omega, by go_num, by rw [He1.out]⟩
                    case measure => simp [intOf]; omega
                  · have hkn : k = n3 := by omega
                    subst hkn
                    have HV := Lib.hid hV
                    clear hV
                    cases down
                    · have Hp := Lib.hid (show dEx S = V by rw [HEx.out, ← HV.out]; rfl)
                      go_wp2_with fail
                      go_upto_region 22 with fail
                      refine wp_region_ord (.s 0 .p (.s 1 .p (.s 2 .p (.s 3 .p (.s 4 .p (.s 5 .p (.s 6 .p (.s 7 .l (.s 8 .p (.s 9 .p (.s 10 .p (.s 11 .p (.s 12 .l (.s 13 .p (.s 14 .p (.s 15 .p (.s 16 .p (.s 17 .p (.s 18 .p .done))))))))))))))))))) (fun w' => w'.heap[g]? = some (SC S P7)) (by kernel_rfl) (by kernel_rfl) (fun _ _ _ _ _ h => h) (by first | exact hg1 | exact rw_drew hg1) ?_
                      (apply wpOrd_p2 rfl rfl rfl rfl rfl; (intro w' K hK; (first | go_big_move | go_big_op | go_wp2_with fail); exact hK))
                      (apply wpOrd_p2 rfl rfl rfl rfl rfl; (intro w' K hK; (first | go_big_move | go_big_op | go_wp2_with fail); exact hK))
                      (apply wpOrd_p2 rfl rfl rfl rfl rfl; (intro w' K hK; (first | go_big_move | go_big_op | go_wp2_with fail); exact hK))
                      (apply wpOrd_p2 rfl rfl rfl rfl rfl; (intro w' K hK; (first | go_big_move | go_big_op | go_wp2_with fail); exact hK))
                      (apply wpOrd_p2 rfl rfl rfl rfl rfl; (intro w' K hK; (first | go_big_move | go_big_op | go_wp2_with fail); exact hK))
                      (apply wpOrd_p2 rfl rfl rfl rfl rfl; (intro w' K hK; (first | go_big_move | go_big_op | go_wp2_with fail); exact hK))
                      (apply wpOrd_p2 rfl rfl rfl rfl rfl; (intro w' K hK; (first | go_big_move | go_big_op | go_wp2_with fail); exact hK))
                      (apply wpOrd_l2 rfl rfl rfl rfl rfl; (intro w' K hS' hK; (obtain ⟨c0_, c1_⟩ := cel2 hS'; (first | go_big_op | go_wp2_with fail); exact hK)); (first | exact hg1 | exact rw_drew hg1))
                      (apply wpOrd_p2 rfl rfl rfl rfl rfl; (intro w' K hK; (first | go_big_move | go_big_op | go_wp2_with fail); exact hK))
                      (apply wpOrd_p2 rfl rfl rfl rfl rfl; (intro w' K hK; (first | go_big_move | go_big_op | go_wp2_with fail); exact hK))
                      (apply wpOrd_p2 rfl rfl rfl rfl rfl; (intro w' K hK; (first | go_big_move | go_big_op | go_wp2_with fail); exact hK))
                      (apply wpOrd_p2 rfl rfl rfl rfl rfl; (intro w' K hK; (first | go_big_move | go_big_op | go_wp2_with fail); exact hK))
                      (apply wpOrd_l2 rfl rfl rfl rfl rfl; (intro w' K hS' hK; (obtain ⟨c0_, c1_⟩ := cel2 hS'; (first | go_big_op | go_wp2_with fail); exact hK)); (first | exact hg1 | exact rw_drew hg1))
                      (apply wpOrd_p2 rfl rfl rfl rfl rfl; (intro w' K hK; (first | go_big_move | go_big_op | go_wp2_with fail); exact hK))
                      (apply wpOrd_p2 rfl rfl rfl rfl rfl; (intro w' K hK; (first | go_big_move | go_big_op | go_wp2_with fail); exact hK))
                      (apply wpOrd_p2 rfl rfl rfl rfl rfl; (intro w' K hK; (first | go_big_move | go_big_op | go_wp2_with fail); exact hK))
                      (apply wpOrd_p2 rfl rfl rfl rfl rfl; (intro w' K hK; (first | go_big_move | go_big_op | go_wp2_with fail); exact hK))
                      (apply wpOrd_p2 rfl rfl rfl rfl rfl; (intro w' K hK; (first | go_big_move | go_big_op | go_wp2_with fail); exact hK))
                      (apply wpOrd_p2 rfl rfl rfl rfl rfl; (intro w' K hK; (first | go_big_move | go_big_op | go_wp2_with fail); exact hK))
                      refine wpOrd_nil ?_
                      skip
                      go_wp2_with fail
                      exact bodyPost_ret (v := .tuple #[.bool neg, .slice x4 N k4, .int .i64 ((n1 : Int) + V), .bool (((P7 : Nat) : Int) == (S.size : Int))]) (by simp [results, Try.results55, go_sem]) rfl ⟨neg, _, _, by rw [He.out], hO7.drew, fun _ => ⟨Hneg.out.symm, by rw [Hn1.out, Hp.out], by rw [HN.out]; exact own_low hlw hown7⟩⟩
                    · have Hp := Lib.hid (show dEx S = -V by rw [HEx.out, ← HV.out]; rfl)
                      go_wp2_with fail
                      go_upto_region 22 with fail
                      refine wp_region_ord (.s 0 .p (.s 1 .p (.s 2 .p (.s 3 .p (.s 4 .p (.s 5 .p (.s 6 .p (.s 7 .l (.s 8 .p (.s 9 .p (.s 10 .p (.s 11 .p (.s 12 .l (.s 13 .p (.s 14 .p (.s 15 .p (.s 16 .p (.s 17 .p (.s 18 .p .done))))))))))))))))))) (fun w' => w'.heap[g]? = some (SC S P7)) (by kernel_rfl) (by kernel_rfl) (fun _ _ _ _ _ h => h) (by first | exact hg1 | exact rw_drew hg1) ?_
                      (apply wpOrd_p2 rfl rfl rfl rfl rfl; (intro w' K hK; (first | go_big_move | go_big_op | go_wp2_with fail); exact hK))
                      (apply wpOrd_p2 rfl rfl rfl rfl rfl; (intro w' K hK; (first | go_big_move | go_big_op | go_wp2_with fail); exact hK))
                      (apply wpOrd_p2 rfl rfl rfl rfl rfl; (intro w' K hK; (first | go_big_move | go_big_op | go_wp2_with fail); exact hK))
                      (apply wpOrd_p2 rfl rfl rfl rfl rfl; (intro w' K hK; (first | go_big_move | go_big_op | go_wp2_with fail); exact hK))
                      (apply wpOrd_p2 rfl rfl rfl rfl rfl; (intro w' K hK; (first | go_big_move | go_big_op | go_wp2_with fail); exact hK))
                      (apply wpOrd_p2 rfl rfl rfl rfl rfl; (intro w' K hK; (first | go_big_move | go_big_op | go_wp2_with fail); exact hK))
                      (apply wpOrd_p2 rfl rfl rfl rfl rfl; (intro w' K hK; (first | go_big_move | go_big_op | go_wp2_with fail); exact hK))
                      (apply wpOrd_l2 rfl rfl rfl rfl rfl; (intro w' K hS' hK; (obtain ⟨c0_, c1_⟩ := cel2 hS'; (first | go_big_op | go_wp2_with fail); exact hK)); (first | exact hg1 | exact rw_drew hg1))
                      (apply wpOrd_p2 rfl rfl rfl rfl rfl; (intro w' K hK; (first | go_big_move | go_big_op | go_wp2_with fail); exact hK))
                      (apply wpOrd_p2 rfl rfl rfl rfl rfl; (intro w' K hK; (first | go_big_move | go_big_op | go_wp2_with fail); exact hK))
                      (apply wpOrd_p2 rfl rfl rfl rfl rfl; (intro w' K hK; (first | go_big_move | go_big_op | go_wp2_with fail); exact hK))
                      (apply wpOrd_p2 rfl rfl rfl rfl rfl; (intro w' K hK; (first | go_big_move | go_big_op | go_wp2_with fail); exact hK))
                      (apply wpOrd_l2 rfl rfl rfl rfl rfl; (intro w' K hS' hK; (obtain ⟨c0_, c1_⟩ := cel2 hS'; (first | go_big_op | go_wp2_with fail); exact hK)); (first | exact hg1 | exact rw_drew hg1))
                      (apply wpOrd_p2 rfl rfl rfl rfl rfl; (intro w' K hK; (first | go_big_move | go_big_op | go_wp2_with fail); exact hK))
                      (apply wpOrd_p2 rfl rfl rfl rfl rfl; (intro w' K hK; (first | go_big_move | go_big_op | go_wp2_with fail); exact hK))
                      (apply wpOrd_p2 rfl rfl rfl rfl rfl; (intro w' K hK; (first | go_big_move | go_big_op | go_wp2_with fail); exact hK))
                      (apply wpOrd_p2 rfl rfl rfl rfl rfl; (intro w' K hK; (first | go_big_move | go_big_op | go_wp2_with fail); exact hK))
                      (apply wpOrd_p2 rfl rfl rfl rfl rfl; (intro w' K hK; (first | go_big_move | go_big_op | go_wp2_with fail); exact hK))
                      (apply wpOrd_p2 rfl rfl rfl rfl rfl; (intro w' K hK; (first | go_big_move | go_big_op | go_wp2_with fail); exact hK))
                      refine wpOrd_nil ?_
                      skip
                      go_wp2_with fail
                      exact bodyPost_ret (v := .tuple #[.bool neg, .slice x4 N k4, .int .i64 ((n1 : Int) + -V), .bool (((P7 : Nat) : Int) == (S.size : Int))]) (by simp [results, Try.results55, go_sem]) rfl ⟨neg, _, _, by rw [He.out], hO7.drew, fun _ => ⟨Hneg.out.symm, by rw [Hn1.out, Hp.out], by rw [HN.out]; exact own_low hlw hown7⟩⟩
end Go.Proofs.Ytilchjpjmfaghaa.T3
