/- chapter 01: plain: Parse inverts Print. -/
import Derived.Test.YtilchjpjmfaghaaReLb
namespace Go.Proofs.Ytilchjpjmfaghaa.T3
set_option linter.unusedSimpArgs false
set_option linter.unusedVariables false
open Go.RowKit
set_option maxHeartbeats 2000000
def octs (M : List Int) : Prop := ∀ x ∈ M, 0 ≤ x ∧ x ≤ 255
theorem bA_oct {M : List Int} (h : octs M) (i : Nat) : oct (bA M) i = M.getD i 0 := by
  unfold oct bA
  by_cases hi : i < M.length
  · have hx := h M[i] (List.getElem_mem hi)
    have h2 : M[i].toNat % 256 = M[i].toNat := Nat.mod_eq_of_lt (by omega)
    simp [List.getD_eq_getElem?_getD, List.getElem?_eq_getElem hi, h2]
    omega
  · simp [List.getD_eq_getElem?_getD, List.getElem?_eq_none (show M.length ≤ i by omega)]
theorem getD_l {A B : List Int} {i : Nat} (h : i < A.length) : (A ++ B).getD i 0 = A.getD i 0 := by
  simp [List.getD_eq_getElem?_getD, List.getElem?_append_left h]
theorem getD_r {A B : List Int} {i : Nat} : (A ++ B).getD (A.length + i) 0 = B.getD i 0 := by
  simp [List.getD_eq_getElem?_getD, List.getElem?_append_right]
theorem getD_mem {A : List Int} {i : Nat} (h : i < A.length) : A.getD i 0 ∈ A := by
  simp [List.getD_eq_getElem?_getD, List.getElem?_eq_getElem h]
theorem run_one {S : ByteArray} {p n m : Nat} (h : isRun S p n) (g : isRun S p m) : n = m := by
  obtain ⟨h1, h2, h3⟩ := h
  obtain ⟨g1, g2, g3⟩ := g
  rcases Nat.lt_trichotomy n m with c | c | c
  · exact absurd (g2 n c) (h3 (by omega))
  · exact c
  · exact absurd (h2 m c) (g3 (by omega))
theorem run_is {S : ByteArray} {p n : Nat} (h : isRun S p n) : run S p = n := run_one (run_spec S (by have := h.1; omega)) h
def allD (L : List Int) : Prop := ∀ x ∈ L, dig x
/-- a written decimal: sign, digits, point, digits, tail -/
def dec (sg W F X : List Int) : List Int := sg ++ (W ++ ([46] ++ (F ++ X)))
def sub48 (L : List Int) : List Int := L.map fun x => x - 48
theorem sub48_isD {L : List Int} (h : allD L) : isD (sub48 L) := by
  intro d hd
  obtain ⟨x, hx, rfl⟩ := List.mem_map.1 hd
  have := h x hx
  unfold dig at this
  omega
theorem dec_val {sg W F X : List Int} (hs : sg = [] ∨ sg = [45]) (hW : allD W) (hW0 : W ≠ []) (hF : allD F) (hF0 : F ≠ []) (hX : X = [] ∨ X = [101, 48]) :
    dOk (bA (dec sg W F X)) = true ∧ sgN (bA (dec sg W F X)) 0 = decide (sg = [45]) ∧ dI (bA (dec sg W F X)) = sub48 W ++ sub48 F ∧ dPt (bA (dec sg W F X)) = W.length := by
  have hw : 0 < W.length := List.length_pos_iff.2 hW0
  have hf : 0 < F.length := List.length_pos_iff.2 hF0
  have ho : octs (dec sg W F X) := by
    intro x hx
    unfold dec at hx
    simp only [List.mem_append] at hx
    rcases hx with hx | hx | hx | hx | hx
    · rcases hs with rfl | rfl
      · simp at hx
      · simp at hx; omega
    · have := hW x hx; unfold dig at this; omega
    · simp at hx; omega
    · have := hF x hx; unfold dig at this; omega
    · rcases hX with rfl | rfl
      · simp at hx
      · simp at hx; omega
  have hlen : (dec sg W F X).length = sg.length + (W.length + (1 + (F.length + X.length))) := by simp [dec]; omega
  have hoc := bA_oct ho
  have hsz : (bA (dec sg W F X)).size = sg.length + (W.length + (1 + (F.length + X.length))) := by rw [bA_size, hlen]
  obtain ⟨S, hS⟩ : ∃ S, bA (dec sg W F X) = S := ⟨_, rfl⟩
  rw [hS] at hoc hsz ⊢
  have oW : ∀ t, t < W.length → oct S (sg.length + t) = W.getD t 0 := fun t ht => by rw [hoc, dec, getD_r, getD_l ht]
  have oP : oct S (sg.length + W.length) = 46 := by
    rw [hoc, dec, getD_r, show W.length = W.length + 0 by rfl, getD_r, getD_l (by simp)]
    rfl
  have oF : ∀ t, t < F.length → oct S (sg.length + (W.length + (1 + t))) = F.getD t 0 := fun t ht => by
    rw [hoc, dec, getD_r, getD_r]
    exact (getD_r (A := [46]) (B := F ++ X) (i := t)).trans (getD_l ht)
  have oX : ∀ t, oct S (sg.length + (W.length + (1 + (F.length + t)))) = X.getD t 0 := fun t => by
    rw [hoc, dec, getD_r, getD_r]
    exact (getD_r (A := [46]) (B := F ++ X) (i := F.length + t)).trans getD_r
  have hW1 : ∀ t, t < W.length → dig (oct S (sg.length + t)) := fun t ht => by rw [oW t ht]; exact hW _ (getD_mem ht)
  have hF1 : ∀ t, t < F.length → dig (oct S (sg.length + (W.length + (1 + t)))) := fun t ht => by rw [oF t ht]; exact hF _ (getD_mem ht)
  have e1 : dP1 S = sg.length := by
    unfold dP1 sgP sgB
    rcases hs with rfl | rfl
    · have := hW1 0 hw
      unfold dig at this
      rw [if_neg (by
        intro hc
        have hc := of_decide_eq_true hc
        simp at this hc
        omega)]
      rfl
    · have : oct S 0 = 45 := by rw [hoc]; rfl
      rw [if_pos (decide_eq_true ⟨by rw [hsz]; simp; omega, .inr this⟩)]
      rfl
  have esg : sgN S 0 = decide (sg = [45]) := by
    unfold sgN
    rcases hs with rfl | rfl
    · have := hW1 0 hw
      unfold dig at this
      simp at this
      simp
      intro _
      omega
    · have : oct S 0 = 45 := by rw [hoc]; rfl
      simp [this, hsz]
      omega
  have e2 : dN1 S = W.length := by
    unfold dN1
    rw [e1]
    refine run_is ⟨by omega, hW1, fun _ => ?_⟩
    rw [oP]
    unfold dig
    omega
  have e3 : dP2 S = sg.length + W.length := by rw [dP2, e1, e2]
  have e4 : dotB S (dP2 S) = true := by
    rw [e3]
    exact decide_eq_true ⟨by omega, oP⟩
  have e5 : dN2 S = F.length := by
    unfold dN2
    rw [if_pos e4, e3]
    refine run_is ⟨by omega, fun t ht => ?_, fun hlt => ?_⟩
    · have := hF1 t ht
      rwa [show sg.length + (W.length + (1 + t)) = sg.length + W.length + 1 + t by omega] at this
    · have := oX 0
      rw [show sg.length + (W.length + (1 + (F.length + 0))) = sg.length + W.length + 1 + F.length by omega] at this
      rw [this]
      rcases hX with rfl | rfl
      · simp [dig]
      · simp [dig]
  have e6 : dP4 S = sg.length + W.length + 1 + F.length := by unfold dP4; rw [if_pos e4, e3, e5]
  have eI : dI S = sub48 W ++ sub48 F := by
    have h1 : dgI S (dP1 S) (dN1 S) = sub48 W := by
      rw [e1, e2]
      refine List.ext_getElem (by simp [dgI, sub48]) fun i h1 h2 => ?_
      have hi : i < W.length := by simpa [sub48] using h2
      simp only [dgI, sub48, List.getElem_map, List.getElem_range]
      rw [oW i hi]
      simp [List.getD_eq_getElem?_getD, List.getElem?_eq_getElem hi]
    have h2 : dgI S (dP2 S + 1) (dN2 S) = sub48 F := by
      rw [e3, e5]
      refine List.ext_getElem (by simp [dgI, sub48]) fun i h1 h2 => ?_
      have hi : i < F.length := by simpa [sub48] using h2
      simp only [dgI, sub48, List.getElem_map, List.getElem_range]
      rw [show sg.length + W.length + 1 + i = sg.length + (W.length + (1 + i)) by omega, oF i hi]
      simp [List.getD_eq_getElem?_getD, List.getElem?_eq_getElem hi]
    rw [dI, h1, h2]
  rcases hX with rfl | rfl
  · have e7 : expB S (dP4 S) = false := by
      rw [e6]
      refine decide_eq_false fun hc => ?_
      simp at hsz
      omega
    refine ⟨?_, esg, eI, ?_⟩
    · unfold dOk dN
      rw [e7, e2, e5, e6]
      simp only [List.length_nil] at hsz
      refine Bool.and_eq_true_iff.2 ⟨decide_eq_true (by omega), ?_⟩
      rw [if_neg (by simp)]
      exact decide_eq_true (by omega)
    · unfold dPt dEx
      rw [e7, e2]
      simp
  · have x0 := oX 0
    have x1 := oX 1
    simp only [List.length_cons, List.length_nil] at hsz
    rw [show sg.length + (W.length + (1 + (F.length + 0))) = sg.length + W.length + 1 + F.length by omega] at x0
    rw [show sg.length + (W.length + (1 + (F.length + 1))) = sg.length + W.length + 1 + F.length + 1 by omega] at x1
    simp at x0 x1
    have e7 : expB S (dP4 S) = true := by
      rw [e6]
      exact decide_eq_true ⟨by omega, .inl x0⟩
    have e8 : dP6 S = sg.length + W.length + 1 + F.length + 1 := by
      unfold dP6 sgP sgB
      rw [e6, if_neg]
      intro hc
      have hc := of_decide_eq_true hc
      omega
    have e9 : dN3 S = 1 := by
      unfold dN3
      rw [e8]
      refine run_is ⟨by omega, fun t ht => ?_, fun hlt => by omega⟩
      rw [show t = 0 by omega, Nat.add_zero, x1]
      unfold dig
      omega
    have e10 : dEx S = 0 := by
      unfold dEx
      rw [if_pos e7, if_neg, e9, e8, vl, vl, Nat.add_zero, x1]
      · omega
      · rw [e6]
        intro hc
        have hc := of_decide_eq_true hc
        omega
    refine ⟨?_, esg, eI, ?_⟩
    · unfold dOk dN
      rw [if_pos e7, e2, e5, e9, e8]
      exact Bool.and_eq_true_iff.2 ⟨decide_eq_true (by omega), decide_eq_true (by omega)⟩
    · unfold dPt
      rw [e10, e2]
      simp
theorem ff_val : ∀ (k : Nat) (f : Int), k ≤ 17 → 0 ≤ f → f < 65536 → (2 : Int) ^ (17 - k) ∣ f → 65536 * fvr (sub48 (ff k f)) = f * 10 ^ (ff k f).length
  | 0, f, _, h0, h1, hd => by
    have : f = 0 := by
      obtain ⟨c, hc⟩ := hd
      simp at hc
      omega
    subst this
    simp [ff, sub48, fvr]
  | k + 1, f, hk, h0, h1, hd => by
    by_cases hr : 0 < f * 10 % 65536
    · have hk1 : 1 ≤ k := by
        rcases Nat.eq_zero_or_pos k with rfl | h
        · obtain ⟨c, hc⟩ := hd
          simp at hc
          omega
        · exact h
      have hd2 : (2 : Int) ^ (17 - k) ∣ f * 10 % 65536 := by
        have h2 : (2 : Int) ^ (17 - k) ∣ f * 10 := by
          obtain ⟨c, hc⟩ := hd
          rw [show 17 - k = (17 - (k + 1)) + 1 by omega, Int.pow_succ]
          exact ⟨c * 5, by rw [hc]; grind⟩
        have h3 : (2 : Int) ^ (17 - k) ∣ 65536 := by
          have := two_dvd (show 17 - k ≤ 16 by omega)
          rwa [two16] at this
        rw [Int.emod_def]
        exact Int.dvd_sub h2 (Int.dvd_mul_of_dvd_left h3)
      have ih := ff_val k (f * 10 % 65536) (by omega) (by omega) (by omega) hd2
      rw [ff, if_pos hr]
      simp only [sub48, List.map_cons, fvr, List.length_map, List.length_cons, Int.pow_succ] at ih ⊢
      obtain ⟨P, hP⟩ : ∃ P : Int, 10 ^ (ff k (f * 10 % 65536)).length = P := ⟨_, rfl⟩
      obtain ⟨R, hR⟩ : ∃ R, fvr (List.map (fun x => x - 48) (ff k (f * 10 % 65536))) = R := ⟨_, rfl⟩
      rw [hP, hR] at ih ⊢
      have h5 := Int.emod_add_mul_ediv (f * 10) 65536
      obtain ⟨q, hq⟩ : ∃ q, f * 10 / 65536 = q := ⟨_, rfl⟩
      obtain ⟨r, hr2⟩ : ∃ r, f * 10 % 65536 = r := ⟨_, rfl⟩
      rw [hq, hr2] at h5
      rw [hr2] at ih
      rw [hq]
      grind
    · rw [ff, if_neg hr]
      simp [sub48, fvr]
      omega
theorem ff_allD : ∀ (k : Nat) (f : Int), 0 ≤ f → f < 65536 → allD (ff k f)
  | 0, _, _, _ => fun x hx => absurd hx (by simp [ff])
  | k + 1, f, h0, h1 => by
    intro x hx
    simp only [ff, List.mem_cons] at hx
    rcases hx with rfl | hx
    · unfold dig; omega
    · split at hx
      · exact ff_allD k _ (by omega) (by omega) x hx
      · simp at hx
theorem ff_len : ∀ (k : Nat) (f : Int), (ff k f).length ≤ k
  | 0, _ => by simp [ff]
  | k + 1, f => by
    rw [ff, List.length_cons]
    split
    · have := ff_len k (f * 10 % 65536); omega
    · simp
theorem wds_val {n : Int} (h0 : 0 ≤ n) (h1 : n ≤ 32768) : fvr (sub48 (wds n)) = n ∧ allD (wds n) ∧ (wds n).length ≤ 5 ∧ wds n ≠ [] := by
  have h := kd_has h0 h1
  unfold wds
  obtain ⟨k, hk⟩ : ∃ k, kd n = k := ⟨_, rfl⟩
  rw [hk] at h ⊢
  obtain ⟨h2, h3, h4⟩ := h
  refine ⟨?_, ?_, ?_, ?_⟩
  · rcases four5 h2 with rfl | rfl | rfl | rfl | rfl <;> simp [upto, List.range_succ, wd, sub48, fvr] at h3 h4 ⊢ <;> omega
  · intro x hx
    obtain ⟨j, _, rfl⟩ := List.mem_map.1 hx
    unfold wd dig
    omega
  · rw [upto_length]; omega
  · intro hc
    have := congrArg List.length hc
    rw [upto_length] at this
    simp at this
def zz (k : Nat) : List Int := List.replicate k 48
theorem zz_allD (k : Nat) : allD (zz k) := by
  intro x hx
  rw [List.eq_of_mem_replicate hx]
  unfold dig
  omega
theorem zz_sub (k : Nat) : sub48 (zz k) = List.replicate k 0 := by simp [sub48, zz]
/-- what is printed, with zeros in front and a tail -/
def prZ (a : Int) (k : Nat) (X : List Int) : List Int := dec (if a < 0 then [45] else []) (zz k ++ wds ((if a < 0 then -a else a) / 65536)) (ff 17 ((if a < 0 then -a else a) % 65536)) X
theorem back_val {a : Int} (ha : -2147483648 ≤ a ∧ a ≤ 2147483648) {k : Nat} (hk : k ≤ 7) {X : List Int} (hX : X = [] ∨ X = [101, 48]) :
    pV (bA (prZ a k X)) = a ∧ pE (bA (prZ a k X)) = 0 ∧ (bA (prZ a k X)).size ≤ 40 ∧ 3 ≤ (bA (prZ a k X)).size := by
  obtain ⟨b, hb⟩ : ∃ b, (if a < 0 then -a else a) = b := ⟨_, rfl⟩
  have hb1 : 0 ≤ b ∧ b ≤ 2147483648 := by rw [← hb]; split <;> omega
  obtain ⟨w1, w2, w3, w4⟩ := wds_val (n := b / 65536) (by omega) (by omega)
  have f1 := ff_val 17 (b % 65536) (by omega) (by omega) (by omega) (by simp)
  have f2 := ff_allD 17 (b % 65536) (by omega) (by omega)
  have f3 := ff_len 17 (b % 65536)
  have f4 : ff 17 (b % 65536) ≠ [] := by simp [ff]
  have hs : (if a < 0 then [45] else [] : List Int) = [] ∨ (if a < 0 then [45] else [] : List Int) = [45] := by split <;> simp
  have hW : allD (zz k ++ wds (b / 65536)) := by
    intro x hx
    rcases List.mem_append.1 hx with h | h
    · exact zz_allD k x h
    · exact w2 x h
  obtain ⟨v1, v2, v3, v4⟩ := dec_val hs hW (by simp [w4]) f2 f4 hX
  have hsz : (bA (prZ a k X)).size = (if a < 0 then [45] else [] : List Int).length + (k + (wds (b / 65536)).length + (1 + ((ff 17 (b % 65536)).length + X.length))) := by
    rw [bA_size, prZ, hb, dec]
    simp [zz]
    omega
  have hx2 : X.length ≤ 2 := by rcases hX with rfl | rfl <;> simp
  have hs2 : (if a < 0 then [45] else [] : List Int).length ≤ 1 := by split <;> simp
  have hw0 : 0 < (wds (b / 65536)).length := List.length_pos_iff.2 w4
  have hf0 : 0 < (ff 17 (b % 65536)).length := List.length_pos_iff.2 f4
  have hsz1 : (bA (prZ a k X)).size ≤ 40 := by rw [hsz]; omega
  refine ⟨?_, ?_, hsz1, by rw [hsz]; omega⟩
  all_goals
    unfold prZ at hsz1 ⊢
    rw [hb] at hsz1 ⊢
    have hT : pT (bA (dec (if a < 0 then [45] else []) (zz k ++ wds (b / 65536)) (ff 17 (b % 65536)) X)) = 2 * b ∧ pM (bA (dec (if a < 0 then [45] else []) (zz k ++ wds (b / 65536)) (ff 17 (b % 65536)) X)) = false := by
      unfold pT pM
      rw [v3, v4]
      have hv : fvr (sub48 (zz k ++ wds (b / 65536)) ++ sub48 (ff 17 (b % 65536))) = (b / 65536) * 10 ^ (ff 17 (b % 65536)).length + fvr (sub48 (ff 17 (b % 65536))) := by
        rw [fvr_app, sub48, List.map_append]
        rw [show List.map (fun x => x - 48) (zz k) = List.replicate k 0 from zz_sub k, fvr_zeros]
        rw [show fvr (List.map (fun x => x - 48) (wds (b / 65536))) = b / 65536 from w1]
        simp [sub48]
      have hl : ((zz k ++ wds (b / 65536)).length : Int) - (sub48 (zz k ++ wds (b / 65536)) ++ sub48 (ff 17 (b % 65536))).length = -((ff 17 (b % 65536)).length : Int) := by
        simp [sub48]
        omega
      rw [hv, hl]
      obtain ⟨m, hm⟩ : ∃ m, (ff 17 (b % 65536)).length = m := ⟨_, rfl⟩
      obtain ⟨R, hR⟩ : ∃ R, fvr (sub48 (ff 17 (b % 65536))) = R := ⟨_, rfl⟩
      rw [hm] at f1 hf0 ⊢
      rw [hR] at f1 ⊢
      have hp := pow_pos' m
      have hmul : 131072 * (b / 65536 * 10 ^ m + R) = 2 * b * 10 ^ m := by
        have h5 := Int.emod_add_mul_ediv b 65536
        obtain ⟨P, hP⟩ : ∃ P : Int, 10 ^ m = P := ⟨_, rfl⟩
        obtain ⟨q, hq⟩ : ∃ q, b / 65536 = q := ⟨_, rfl⟩
        obtain ⟨r, hr2⟩ : ∃ r, b % 65536 = r := ⟨_, rfl⟩
        rw [hP, hr2] at f1
        rw [hq, hr2] at h5
        rw [hP, hq]
        grind
      unfold tT tM
      rw [if_neg (by omega), if_neg (by omega), show (-(-(m : Int))).toNat = m by omega, hmul]
      exact ⟨Int.mul_ediv_cancel _ (by omega), by simp⟩
    have hR : pRs (bA (dec (if a < 0 then [45] else []) (zz k ++ wds (b / 65536)) (ff 17 (b % 65536)) X)) = a := by
      unfold pRs
      rw [hT.1, hT.2, v2]
      unfold resV
      by_cases hn : a < 0
      · simp [hn]
        rw [if_pos hn] at hb
        omega
      · simp [hn]
        rw [if_neg hn] at hb
        omega
    first
      | (unfold pV
         rw [if_neg (by omega), if_pos v1, hR, if_pos ((isB_iff a).2 ha)])
      | (unfold pE
         rw [if_neg (by omega), if_pos v1, hR, if_pos ((isB_iff a).2 ha)])
end Go.Proofs.Ytilchjpjmfaghaa.T3
